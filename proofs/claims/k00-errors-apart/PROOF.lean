import PyProof.Rows.All
import Wide.All
import OpenK.AllK
import Wide.FinOn
import HandS.ForMost
import HandS.Star
import HandS.Deep
import HandS.TupAny
import HandS.TupLe
import HandS.IsInst
import HandS.Conv
import HandS.Flow
import KE.SortData
import PyProof.ReprRoads
import PyProof.Rows.RegFStrParts
import KE.KExcSuper
import HandS.ExcInit
import KE.KExcIs
import HandS.ExcField
import HandS.ExcIs
import HandS.Base
import HandS.List
import HandS.Call
import HandS.Zip
import HandS.TryOnly
import HandS.HeadHook1
import HandS.HeadHook2
import HandS.Ends
import HandS.EndBits
import HandS.Defaults
import HandS.Head0
import HandS.Head1
import HandS.Head2
import HandS.HeadEnd
import HandS.HeadHook3
import HandS.Exc
import HandS.WordsExc
import PySem.Challenge.RW_typedbydegrees_k00_errors_are_apart
set_option linter.all false
set_option autoImplicit false
namespace EV
open PySem L2

abbrev D := PySem.PyData
/-- a slot of a def: unset, a value that is shared, a list that only this slot reaches -/
inductive Sl where
  | un | sh (d : D) | ow (l : List D)
def Sl.val : Sl → Option D
  | .un => none
  | .sh d => some d
  | .ow l => some (.list l)
def Sl.keep : Sl → Option D
  | .sh d => some d
  | _ => none
def Sl.share : Sl → Sl
  | .ow l => .sh (.list l)
  | s => s
def rd (b : Bool) (s : Sl) : Option D := cond b s.val s.keep

/-- what the module's names are: constants; isinstance by own classes; fields; own classes of errors -/
structure GI where
  g : Str → Option D
  i : Str → D → Option D
  a : Str → D → Option D
  m : Str → Bool
structure Cfg where
  N : List Str
  G : GI
  C : Str → List D → Option D

def items : D → Option (List D)
  | .list xs => some xs
  | .tuple xs => some xs
  | _ => none
def mapO {α β : Type} (f : α → Option β) : List α → Option (List β)
  | [] => some []
  | x :: r => (f x).bind fun y => (mapO f r).bind fun ys => some (y :: ys)
def boolsD : List D → Option (List Bool) := mapO fun d => match d with | .bool b => some b | _ => none
def intsD : List D → Option (List Int) := mapO fun d => match d with | .int i => some i | _ => none

mutual
/-- nesting at most n -/
def dle : Nat → D → Bool
  | 0, d => (match d with | .none | .bool _ | .int _ | .str _ => true | _ => false)
  | n + 1, d => (match d with | .list xs => dles n xs | .tuple xs => dles n xs | .dict _ => false | _ => true)
def dles : Nat → List D → Bool
  | _, [] => true
  | n, x :: xs => dle n x && dles n xs
end

def few : Nat := 100000
def small64 (i : Int) : Bool := decide (-(2 ^ 64) < i) && decide (i < 2 ^ 64)
def binD : Operator → D → D → Option D
  | .Add, .int i, .int j => some (.int (i + j))
  | .Sub, .int i, .int j => some (.int (i - j))
  | .Mult, .int i, .int j => cond (small64 i || small64 j) (some (.int (i * j))) none
  | .FloorDiv, .int i, .int j => cond (decide (0 < j) && decide (j < 1073741824)) (some (.int (i / j))) none
  | .Mod, .int i, .int j => cond (decide (0 < j)) (some (.int (i % j))) none
  | .Pow, .int i, .int j => cond (decide (0 ≤ j) && (decide (j ≤ 1000000) && decide (i.natAbs < 2 ^ 64))) (some (.int (i ^ j.toNat))) none
  | .Add, .list xs, .list ys => cond (decide (xs.length + ys.length ≤ few)) (some (.list (xs ++ ys))) none
  | .Add, .tuple xs, .tuple ys => cond (decide (xs.length + ys.length ≤ few)) (some (.tuple (xs ++ ys))) none
  | _, _, _ => none
/-- a dict of the text with text keys -/
def dget (kvs : List (D × D)) (x : Str) : Option D :=
  match kvs with
  | [] => none
  | (k, v) :: r => (match k with
    | .str y => cond (decide (y = x)) (some v) (dget r x)
    | _ => dget r x)

/-- a dict of the text itself -/
def dtab (kvs : List (D × D)) : Bool := kvs.all fun p => match p.1 with
  | .str _ => true
  | _ => false
/-- an own exception, held -/
def excD (x : Str) (v : D) : D := .dict [(.tuple [.str x], v)]
def mkD (f : Str) : List D → Option D
  | [v] => some (excD f v)
  | _ => none
def eqD (x y : D) : Option Bool := cond (dle 60 x && dle 60 y) (some (PyData.eqv x y)) none
def inD (x y : D) : Option Bool :=
  match y with
  | .list ys => cond (dle 60 x && dle 60 (.list ys)) (some (ys.any fun z => PyData.eqv z x)) none
  | .tuple ys => cond (dle 60 x && dle 60 (.tuple ys)) (some (ys.any fun z => PyData.eqv z x)) none
  | .dict kvs => (match x with | .str z => cond (dtab kvs) (some (dget kvs z).isSome) none | _ => none)
  | _ => none
def cmpI (x y : D) (f : Int → Int → Bool) : Option Bool :=
  match x, y with
  | .int i, .int j => some (f i j)
  | _, _ => none
def isB (x y : D) : Option Bool :=
  match x, y with
  | .bool a, .bool b => some (a == b)
  | _, _ => none
def isNone : D → Bool
  | .none => true
  | _ => false
/-- a comparison by values -/
def cmpD : CmpOp → D → D → Option Bool
  | .Eq, x, y => eqD x y
  | .NotEq, x, y => (eqD x y).map (!·)
  | .Lt, x, y => cmpI x y fun i j => decide (i < j)
  | .LtE, x, y => cmpI x y fun i j => decide (i ≤ j)
  | .Gt, x, y => cmpI x y fun i j => decide (j < i)
  | .GtE, x, y => cmpI x y fun i j => decide (j ≤ i)
  | .In, x, y => inD x y
  | .NotIn, x, y => (inD x y).map (!·)
  | .Is, x, y => (match y with | .none => some (isNone x) | _ => isB x y)
  | .IsNot, x, y => (match y with | .none => some (!isNone x) | _ => (isB x y).map (!·))
def truD : D → Option Bool
  | .none => some false
  | .bool b => some b
  | .int i => some (i != 0)
  | .list xs => some (!xs.isEmpty)
  | .tuple xs => some (!xs.isEmpty)
  | _ => none
def ixD (x y : D) : Option D :=
  match x, y with
  | .list xs, .int i => atI xs i
  | .tuple xs, .int i => atI xs i
  | .dict kvs, .str z => cond (dtab kvs) (dget kvs z) none
  | _, _ => none
def cut (xs : List D) (lo hi : Option Int) : List D := (xs.drop (HT.sIx xs.length 0 lo)).take (HT.sIx xs.length xs.length hi - HT.sIx xs.length 0 lo)
def slD (x : D) (lo hi : Option Int) : Option D :=
  match x with
  | .list xs => some (.list (cut xs lo hi))
  | .tuple xs => some (.tuple (cut xs lo hi))
  | _ => none
/-- sorting data of one form -/
def isTupN : D → Bool
  | .tuple (_ :: _) => true
  | _ => false
def isPlainD : D → Bool
  | .none => false
  | .tuple _ => false
  | _ => true
def sortOk (xs : List D) : Bool := xs.all (fun x => xs.all fun y => PySem.W.alike x y) && ((xs.all isTupN || xs.all isPlainD) && (dles 60 xs && decide (xs.length ≤ few)))
def sortD : List D → Option D
  | [.list xs] => cond (sortOk xs) (some (.list (xs.mergeSort (PySem.W.dataLe false id)))) none
  | _ => none
/-- the text of data -/
def reprD : List D → Option D
  | [d] => cond (dle 60 d && (PyData.layable0 d && (d.intsShort 13 && d.showable))) (some (.str d.shown)) none
  | _ => none
inductive BI where
  | len | abs | int | min | max | all | any | sum | tuple | repr | sorted
def bName : BI → Str
  | .len => "len" | .abs => "abs" | .int => "int" | .min => "min" | .max => "max" | .all => "all" | .any => "any" | .sum => "sum" | .tuple => "tuple" | .repr => "repr" | .sorted => "sorted"
def bAll : List BI := [.len, .abs, .int, .min, .max, .all, .any, .sum, .tuple, .repr, .sorted]
def bFindIn (f : Str) : List BI → Option BI
  | [] => none
  | b :: r => cond (decide (bName b = f)) (some b) (bFindIn f r)
def bFind (f : Str) : Option BI := bFindIn f bAll
def listsD : List D → Option (List (List D)) := mapO fun d => match d with | .list l => some l | _ => none
def bD : BI → List D → Option D
  | .len, [.list xs] => some (.int xs.length)
  | .len, [.tuple xs] => some (.int xs.length)
  | .abs, [.int i] => some (.int (cond (decide (i < 0)) (-i) i))
  | .int, [.int i] => some (.int i)
  | .int, [.bool b] => some (.int (cond b 1 0))
  | .min, [.int i, .int j] => some (.int (cond (decide (j < i)) j i))
  | .max, [.int i, .int j] => some (.int (cond (decide (j > i)) j i))
  | .all, [.list xs] => (boolsD xs).map fun bs => .bool (bs.all id)
  | .any, [.list xs] => (boolsD xs).map fun bs => .bool (bs.any id)
  | .sum, [.list xs] => (intsD xs).map fun is => .int is.sum
  | .sum, [.list (x :: xs), .list ys] => (listsD (x :: xs)).bind fun ls => cond (decide (ys.length + ls.flatten.length ≤ few)) (some (.list (ys ++ ls.flatten))) none
  | .tuple, [.list xs] => some (.tuple xs)
  | .tuple, [.tuple xs] => some (.tuple xs)
  | .repr, ds => reprD ds
  | .sorted, ds => sortD ds
  | _, _ => none

inductive Ty where
  | tuple | int | bool | str | list
def tName : Ty → Str
  | .tuple => "tuple" | .int => "int" | .bool => "bool" | .str => "str" | .list => "list"
def tString : Ty → String
  | .tuple => "tuple" | .int => "int" | .bool => "bool" | .str => "str" | .list => "list"
def tFindIn (f : Str) : List Ty → Option Ty
  | [] => none
  | b :: r => cond (decide (tName b = f)) (some b) (tFindIn f r)
def tFind (f : Str) : Option Ty := tFindIn f [.tuple, .int, .bool, .str, .list]
def isTy (t : Ty) (d : D) : Option Bool :=
  match d with
  | .none => some false
  | .bool _ => some (match t with | .bool => true | .int => true | _ => false)
  | .int _ => some (match t with | .int => true | _ => false)
  | .str _ => some (match t with | .str => true | _ => false)
  | .list _ => some (match t with | .list => true | _ => false)
  | .tuple _ => some (match t with | .tuple => true | _ => false)
  | .dict _ => none

def constD : Const → Option D
  | .none => some .none
  | .bool b => some (.bool b)
  | .int i => some (.int i)
  | .str s => some (.str s)
  | _ => none

def setSl (σ : List Sl) (i : Nat) (d : D) : List Sl := σ.set i (.sh d)
/-- store in a name, in several names -/
def asgN (N : List Str) (σ : List Sl) (x : Str) (d : D) : Option (List Sl) := (N.idxOf? x).bind fun i => some (setSl σ i d)
def asgs (N : List Str) : List Expr → List D → List Sl → Option (List Sl)
  | [], [], σ => some σ
  | .Name x _ :: es, d :: ds, σ => (asgN N σ x d).bind fun σ' => asgs N es ds σ'
  | _, _, _ => none
def asg (N : List Str) (σ : List Sl) (t : Expr) (d : D) : Option (List Sl) :=
  match t with
  | .Name x _ => asgN N σ x d
  | .Tuple es _ _ => (match d with
    | .tuple ds => asgs N es ds σ
    | .list ds => asgs N es ds σ
    | _ => none)
  | _ => none

/-- the arguments, the items of a display -/
def args (f : Bool → Expr → Option D) : List Expr → Option (List D)
  | [] => some []
  | .Starred e _ :: r => (f true e).bind fun d => (items d).bind fun xs => (args f r).bind fun ys => some (xs ++ ys)
  | e :: r => (f false e).bind fun d => (args f r).bind fun ys => some (d :: ys)
def intRange (lo : Int) : Nat → List D
  | 0 => []
  | n + 1 => .int lo :: intRange (lo + 1) n
def small62 (i : Int) : Bool := decide (-(2 ^ 62) ≤ i) && decide (i < 2 ^ 62)
def enumD (i : Int) : List D → List D
  | [] => []
  | x :: r => .tuple [.int i, x] :: enumD (i + 1) r
def zipT : List D → List D → List D
  | x :: xs, y :: ys => .tuple [x, y] :: zipT xs ys
  | _, _ => []
def zipD : D → D → Option (List D)
  | .list xs, .list ys => some (zipT xs ys)
  | .tuple xs, .tuple ys => some (zipT xs ys)
  | _, _ => none
/-- what a for walks -/
def iter (N : List Str) (f : Expr → Option D) (e : Expr) : Option (List D) :=
  match e with
  | .Call (.Name g _) [a] [] _ => cond (decide (g = "range")) ((f a).bind fun d => match d with
      | .int j => cond (small62 j) (some (intRange 0 j.toNat)) none
      | _ => none) ((f e).bind items)
  | .Call (.Name g _) [a, b] [] _ => cond (decide (g = "range")) ((f a).bind fun d => (f b).bind fun d' => match d, d' with
      | .int i, .int j => cond (small62 i && small62 j) (some (intRange i (j - i).toNat)) none
      | _, _ => none) (cond (decide (g = "zip")) ((f a).bind fun d => (f b).bind fun d' => zipD d d') ((f e).bind items))
  | e => (f e).bind items

/-- all tests of a comprehension -/
def tests (f : Expr → Option Bool) : List Expr → Option Bool
  | [] => some true
  | c :: r => (f c).bind fun b => cond b (tests f r) (some false)
/-- the names of a comprehension's own block, with their slots -/
def ownOf (N : List Str) : List (Str × NameKind) → List (Str × Nat)
  | [] => []
  | (x, k) :: r => (match k with
    | .free => ownOf N r
    | _ => (match N.idxOf? x with
      | some i => (x, i) :: ownOf N r
      | none => ownOf N r))
def wipeD (es : List Sl) : List Nat → List Sl
  | [] => es
  | v :: vs => (wipeD es vs).set v .un
def namesIx (N : List Str) : List Expr → List Nat
  | [] => []
  | .Name x _ :: r => (match N.idxOf? x with
    | some i => i :: namesIx N r
    | none => namesIx N r)
  | _ :: r => namesIx N r
def tgIx (N : List Str) : Expr → List Nat
  | .Name x p => namesIx N [.Name x p]
  | .Tuple es _ _ => namesIx N es
  | _ => []
def lim (r : Option (List D)) : Option D := r.bind fun ys => cond (decide (ys.length ≤ few)) (some (.list ys)) none
/-- the elements -/
def comp1 (g : D → Option (List Sl)) (t : List Sl → Option Bool) (f : List Sl → Option D) : List D → Option (List D)
  | [] => some []
  | x :: r => (g x).bind fun σ => (t σ).bind fun b => cond b ((f σ).bind fun y => (comp1 g t f r).bind fun ys => some (y :: ys)) (comp1 g t f r)
def comp2 (g : D → Option (List Sl)) (it : List Sl → Option (List D)) (inner : List Sl → List D → Option (List D)) : List D → Option (List D)
  | [] => some []
  | x :: r => (g x).bind fun σ => (it σ).bind fun zs => (inner σ zs).bind fun ys => (comp2 g it inner r).bind fun ws => some (ys ++ ws)

/-- the elements of a comprehension by what one item gives: nothing, or an element -/
def compM (F : D → Option (Option D)) : List D → Option (List D)
  | [] => some []
  | x :: r => (F x).bind fun o => (compM F r).bind fun ys => some (match o with
    | some y => y :: ys
    | none => ys)
def compJ (F : D → Option (List D)) : List D → Option (List D)
  | [] => some []
  | x :: r => (F x).bind fun ys => (compJ F r).bind fun ws => some (ys ++ ws)
theorem comp1_eq (g : D → Option (List Sl)) (t : List Sl → Option Bool) (f : List Sl → Option D) : ∀ xs, comp1 g t f xs = compM (fun x => (g x).bind fun σ => (t σ).bind fun b => cond b ((f σ).bind fun y => some (some y)) (some none)) xs
  | [] => rfl
  | x :: r => by
    unfold comp1 compM
    rw [comp1_eq g t f r]
    cases g x with
    | none => rfl
    | some σ =>
      simp only [Option.bind_some]
      cases t σ with
      | none => rfl
      | some b =>
        cases b with
        | true =>
          simp only [Option.bind_some, cond_true]
          cases f σ with
          | none => rfl
          | some y => rfl
        | false =>
          simp only [Option.bind_some, cond_false]
          generalize compM _ r = q
          cases q <;> rfl
theorem comp2_eq (g : D → Option (List Sl)) (it : List Sl → Option (List D)) (inner : List Sl → List D → Option (List D)) : ∀ xs, comp2 g it inner xs = compJ (fun x => (g x).bind fun σ => (it σ).bind fun zs => inner σ zs) xs
  | [] => rfl
  | x :: r => by
    unfold comp2 compJ
    rw [comp2_eq g it inner r]
    cases g x with
    | none => rfl
    | some σ =>
      simp only [Option.bind_some]
      cases it σ <;> rfl
mutual
def ev (c : Cfg) : Nat → Bool → List Sl → Expr → Option D
  | 0, _, _, _ => none
  | n + 1, b, σ, e =>
    match e with
    | .Constant k _ _ => constD k
    | .Name x _ => (match c.N.idxOf? x with
      | some i => (σ[i]?).bind (rd b)
      | none => c.G.g x)
    | .Tuple es _ _ => (args (fun b e => ev c n b σ e) es).bind fun ds => cond (decide (ds.length ≤ few)) (some (.tuple ds)) none
    | .List es _ => (args (fun b e => ev c n b σ e) es).bind fun ds => cond (decide (ds.length ≤ few)) (some (.list ds)) none
    | .BinOp l o r _ => (ev c n true σ l).bind fun x => (ev c n true σ r).bind fun y => binD o x y
    | .UnaryOp .Not x _ => (ev c n true σ x).bind fun d => (truD d).map fun k => .bool !k
    | .UnaryOp .USub x _ => (ev c n true σ x).bind fun d => match d with
      | .int i => some (.int (-i))
      | _ => none
    | .BoolOp .And vs _ => andV c n b σ vs
    | .BoolOp .Or vs _ => orV c n b σ vs
    | .IfExp t x y _ => (tst c n σ t).bind fun k => cond k (ev c n b σ x) (ev c n b σ y)
    | .Compare l [o] [r] _ => (ev c n true σ l).bind fun x => (ev c n true σ r).bind fun y => (cmpD o x y).map .bool
    | .Compare l [o, o'] [m, r] _ => (ev c n true σ l).bind fun x => (ev c n true σ m).bind fun y => (cmpD o x y).bind fun k =>
        cond k ((ev c n true σ r).bind fun z => (cmpD o' y z).map .bool) (some (.bool false))
    | .Subscript x (.Slice lo hi none _) _ => (ev c n true σ x).bind fun d => (part c n σ lo).bind fun l => (part c n σ hi).bind fun h => slD d l h
    | .Subscript x i _ => (ev c n true σ x).bind fun d => (ev c n true σ i).bind fun j => ixD d j
    | .Call (.Name f _) as [] _ =>
      cond (decide (f = "isinstance")) (match as with
        | [x, .Name t _] => (match tFind t with
          | some t => (ev c n true σ x).bind fun d => (isTy t d).map .bool
          | none => (ev c n true σ x).bind fun d => c.G.i t d)
        | _ => none)
      (match bFind f with
        | some bi => (args (fun _ e => ev c n true σ e) as).bind (bD bi)
        | none => cond (c.G.m f) ((args (fun _ e => ev c n false σ e) as).bind (mkD f)) ((args (fun _ e => ev c n false σ e) as).bind (c.C f)))
    | .Attribute e a _ => (ev c n true σ e).bind fun d => c.G.a a d
    | .ListComp elt [⟨t, it, ifs, 0⟩] sc _ =>
      (iter c.N (ev c n true σ) it).bind fun xs => lim (compM (fun x => (asg c.N (wipeD σ ((ownOf c.N sc.names).map (·.2))) t x).bind fun σ' => (tests (tst c n σ') ifs).bind fun b => cond b ((ev c n false σ' elt).bind fun y => some (some y)) (some none)) xs)
    | .ListComp elt [⟨t, it, [], 0⟩, ⟨t', it', ifs', 0⟩] sc _ =>
      (iter c.N (ev c n true σ) it).bind fun xs => lim (compJ (fun x => (asg c.N (wipeD σ ((ownOf c.N sc.names).map (·.2))) t x).bind fun σ' => (iter c.N (ev c n false σ') it').bind fun zs =>
        compM (fun x => (asg c.N (wipeD σ' (tgIx c.N t')) t' x).bind fun σ'' => (tests (tst c n σ'') ifs').bind fun b => cond b ((ev c n false σ'' elt).bind fun y => some (some y)) (some none)) zs) xs)
    | _ => none
def part (c : Cfg) : Nat → List Sl → Option Expr → Option (Option Int)
  | 0, _, _ => none
  | _ + 1, _, none => some none
  | n + 1, σ, some e => (ev c n true σ e).bind fun d => match d with
    | .int i => some (some i)
    | _ => none
def andV (c : Cfg) : Nat → Bool → List Sl → List Expr → Option D
  | 0, _, _, _ => none
  | _ + 1, _, _, [] => none
  | n + 1, b, σ, [e] => ev c n b σ e
  | n + 1, b, σ, e :: r => (ev c n b σ e).bind fun d => (truD d).bind fun k => cond k (andV c n b σ r) (some d)
def orV (c : Cfg) : Nat → Bool → List Sl → List Expr → Option D
  | 0, _, _, _ => none
  | _ + 1, _, _, [] => none
  | n + 1, b, σ, [e] => ev c n b σ e
  | n + 1, b, σ, e :: r => (ev c n b σ e).bind fun d => (truD d).bind fun k => cond k (some d) (orV c n b σ r)
/-- a test -/
def tst (c : Cfg) : Nat → List Sl → Expr → Option Bool
  | 0, _, _ => none
  | n + 1, σ, e =>
    match e with
    | .BoolOp .And vs _ => andT c n σ vs
    | .BoolOp .Or vs _ => orT c n σ vs
    | .UnaryOp .Not x _ => (tst c n σ x).map (!·)
    | .IfExp t x y _ => (tst c n σ t).bind fun k => cond k (tst c n σ x) (tst c n σ y)
    | .Compare l [o] [r] _ => (ev c n true σ l).bind fun x => (ev c n true σ r).bind fun y => cmpD o x y
    | .Compare l [o, o'] [m, r] _ => (ev c n true σ l).bind fun x => (ev c n true σ m).bind fun y => (cmpD o x y).bind fun k =>
        cond k ((ev c n true σ r).bind fun z => cmpD o' y z) (some false)
    | e => (ev c n true σ e).bind truD
def andT (c : Cfg) : Nat → List Sl → List Expr → Option Bool
  | 0, _, _ => none
  | _ + 1, _, [] => none
  | n + 1, σ, [e] => tst c n σ e
  | n + 1, σ, e :: r => (tst c n σ e).bind fun k => cond k (andT c n σ r) (some false)
def orT (c : Cfg) : Nat → List Sl → List Expr → Option Bool
  | 0, _, _ => none
  | _ + 1, _, [] => none
  | n + 1, σ, [e] => tst c n σ e
  | n + 1, σ, e :: r => (tst c n σ e).bind fun k => cond k (some true) (orT c n σ r)
end
end EV

namespace EV
open PySem L2

/-- names that an expression hands on (not: asks and forgets) -/
def esc (N : List Str) : Nat → Bool → Expr → List Str
  | 0, _, _ => []
  | n + 1, b, e =>
    match e with
    | .Name x _ => cond b [] [x]
    | .Tuple es _ _ => es.flatMap fun e => match e with
      | .Starred e _ => esc N n true e
      | e => esc N n false e
    | .List es _ => es.flatMap fun e => match e with
      | .Starred e _ => esc N n true e
      | e => esc N n false e
    | .BinOp l _ r _ => esc N n true l ++ esc N n true r
    | .UnaryOp _ x _ => esc N n true x
    | .BoolOp _ vs _ => vs.flatMap (esc N n b)
    | .IfExp t x y _ => esc N n true t ++ esc N n b x ++ esc N n b y
    | .Compare l _ rs _ => esc N n true l ++ rs.flatMap (esc N n true)
    | .Subscript x (.Slice lo hi _ _) _ => esc N n true x ++ lo.toList.flatMap (esc N n true) ++ hi.toList.flatMap (esc N n true)
    | .Subscript x i _ => esc N n true x ++ esc N n true i
    | .Call (.Name f _) as _ _ => as.flatMap fun e => match e with
      | .Starred e _ => esc N n true e
      | e => esc N n ((bFind f).isSome || decide (f = "isinstance") || decide (f = "range")) e
    | .ListComp elt gs _ _ => esc N n false elt ++ match gs with
      | [] => []
      | g :: gs => esc N n true g.iter ++ g.ifs.flatMap (esc N n true) ++ gs.flatMap fun g => esc N n false g.iter ++ g.ifs.flatMap (esc N n true)
    | _ => []
def shareN (N : List Str) (xs : List Str) (σ : List Sl) : List Sl := xs.foldl (fun σ x => match N.idxOf? x with
  | some i => σ.modify i Sl.share
  | none => σ) σ
def isFresh : Expr → Bool
  | .List _ _ => true
  | .ListComp _ _ _ _ => true
  | _ => false
inductive Fl where
  | next (σ : List Sl) | ret (d : D) | brk (σ : List Sl) | cont (σ : List Sl)

def setOw (σ : List Sl) (i : Nat) (fresh : Bool) (d : D) : List Sl :=
  match d with
  | .list l => σ.set i (cond fresh (.ow l) (.sh d))
  | _ => σ.set i (.sh d)
/-- a loop over data -/
def forL (g : List Sl → D → Option (List Sl)) (body : List Sl → Option Fl) : List D → List Sl → Option Fl
  | [], σ => some (.next σ)
  | x :: r, σ => (g σ x).bind fun σ1 => (body σ1).bind fun
    | .next σ2 => forL g body r σ2
    | .cont σ2 => forL g body r σ2
    | .brk σ2 => some (.next σ2)
    | .ret d => some (.ret d)
def whileL (t : List Sl → Option Bool) (body : List Sl → Option Fl) : Nat → List Sl → Option Fl
  | 0, _ => none
  | n + 1, σ => (t σ).bind fun k => cond k ((body σ).bind fun
    | .next σ2 => whileL t body n σ2
    | .cont σ2 => whileL t body n σ2
    | .brk σ2 => some (.next σ2)
    | .ret d => some (.ret d)) (some (.next σ))
def turns : Nat := 10000000
def ED : Nat := 60

mutual
def ex (c : Cfg) : Nat → List Sl → Stmt → Option Fl
  | 0, _, _ => none
  | n + 1, σ, st =>
    match st with
    | .Return (some e) _ => (ev c ED false (σ.map Sl.share) e).map .ret
    | .Return none _ => some (.ret .none)
    | .Pass _ => some (.next σ)
    | .Break _ => some (.brk σ)
    | .Continue _ => some (.cont σ)
    | .Expr (.Constant (.str _) _ _) _ => some (.next σ)
    | .Expr (.Call (.Attribute (.Name x _) m _) [a] [] _) _ =>
      cond (decide (m = "append")) ((c.N.idxOf? x).bind fun i =>
        (ev c ED false (shareN c.N (esc c.N ED false a) σ) a).bind fun d => match (shareN c.N (esc c.N ED false a) σ)[i]? with
          | some (.ow l) => cond (decide (l.length < few)) (some (.next ((shareN c.N (esc c.N ED false a) σ).set i (.ow (l ++ [d]))))) none
          | _ => none) (cond (decide (m = "extend") && isFresh a) ((c.N.idxOf? x).bind fun i =>
        (ev c ED false (shareN c.N (esc c.N ED false a) σ) a).bind fun d => match (shareN c.N (esc c.N ED false a) σ)[i]?, d with
          | some (.ow l), .list ds => cond (decide (l.length + ds.length ≤ few)) (some (.next ((shareN c.N (esc c.N ED false a) σ).set i (.ow (l ++ ds))))) none
          | _, _ => none) none)
    | .Expr (.Call (.Name f p) as [] q) _ => (ev c ED false (shareN c.N (esc c.N ED false (.Call (.Name f p) as [] q)) σ) (.Call (.Name f p) as [] q)).bind fun _ => some (.next (shareN c.N (esc c.N ED false (.Call (.Name f p) as [] q)) σ))
    | .Assign [.Name x _] e _ => (c.N.idxOf? x).bind fun i => (ev c ED false (shareN c.N (esc c.N ED false e) σ) e).bind fun d => some (.next (setOw (shareN c.N (esc c.N ED false e) σ) i (isFresh e) d))
    | .Assign [.Tuple es k p] e _ => (ev c ED false (shareN c.N (esc c.N ED false e) σ) e).bind fun d => (asg c.N (shareN c.N (esc c.N ED false e) σ) (.Tuple es k p) d).map .next
    | .If t a b _ => (tst c ED (shareN c.N (esc c.N ED true t) σ) t).bind fun k => cond k (exs c n (shareN c.N (esc c.N ED true t) σ) a) (exs c n (shareN c.N (esc c.N ED true t) σ) b)
    | .For t it body [] _ => (iter c.N (ev c ED false (shareN c.N (esc c.N ED false it) σ)) it).bind fun xs => forL (fun σ x => asg c.N σ t x) (fun σ => exs c n σ body) xs (shareN c.N (esc c.N ED false it) σ)
    | .While t body [] _ => whileL (fun σ => tst c ED σ t) (fun σ => exs c n σ body) turns (shareN c.N (esc c.N ED true t) σ)
    | _ => none
def exs (c : Cfg) : Nat → List Sl → List Stmt → Option Fl
  | 0, _, _ => none
  | _ + 1, σ, [] => some (.next σ)
  | n + 1, σ, st :: r => (ex c n σ st).bind fun
    | .next σ' => exs c n σ' r
    | f => some f
end
/-- a def called: its parameters first, the other names unset -/
def callD (c : Cfg) (np : Nat) (body : List Stmt) (ds : List D) : Option D :=
  cond (decide (ds.length = np)) ((exs c ED (ds.map Sl.sh ++ List.replicate (c.N.length - np) .un) body).bind fun
    | .ret d => some d
    | .next _ => some .none
    | _ => none) none
/-- the defs of a text: name, names of the slots, how many parameters, body -/
structure Df where
  name : Str
  N : List Str
  np : Nat
  body : List Stmt
  pr : Option (List D → Option D)
def findD (x : Str) : List Df → Option Df
  | [] => none
  | d :: r => cond (decide (d.name = x)) (some d) (findD x r)
def callN (P : List Df) (G : GI) : Nat → Str → List D → Option D
  | 0, _, _ => none
  | k + 1, f, ds => (findD f P).bind fun d => match d.pr with
    | none => callD ⟨d.N, G, callN P G k⟩ d.np d.body ds
    | some g => cond (decide (8 ≤ k)) (g ds) none
end EV

namespace EV
open PySem L2
/-! the names of all comprehensions blocks in an expression -/
mutual
def cnE : Expr → List Str
  | .BoolOp _ vs _ => cnEs vs
  | .BinOp l _ r _ => cnE l ++ cnE r
  | .UnaryOp _ x _ => cnE x
  | .IfExp t x y _ => cnE t ++ cnE x ++ cnE y
  | .Dict _ vs _ => cnEs vs
  | .ListComp elt gs sc _ => (sc.names.filterMap fun (x, k) => match k with | .local => some x | .cell => some x | _ => none) ++ cnE elt ++ cnGs gs
  | .Compare l _ rs _ => cnE l ++ cnEs rs
  | .Call f as _ _ => cnE f ++ cnEs as
  | .Attribute v _ _ => cnE v
  | .Subscript x i _ => cnE x ++ cnE i
  | .Starred v _ => cnE v
  | .List es _ => cnEs es
  | .Tuple es _ _ => cnEs es
  | .Slice lo hi _ _ => cnO lo ++ cnO hi
  | _ => []
def cnEs : List Expr → List Str
  | [] => []
  | e :: r => cnE e ++ cnEs r
def cnO : Option Expr → List Str
  | none => []
  | some e => cnE e
def cnGs : List Comprehension → List Str
  | [] => []
  | ⟨_, it, ifs, _⟩ :: r => cnE it ++ cnEs ifs ++ cnGs r
end
mutual
def cnS : Stmt → List Str
  | .Return (some e) _ => cnE e
  | .Assign ts e _ => cnEs ts ++ cnE e
  | .For _ it b o _ => cnE it ++ cnSs b ++ cnSs o
  | .While t b o _ => cnE t ++ cnSs b ++ cnSs o
  | .If t a b _ => cnE t ++ cnSs a ++ cnSs b
  | .Expr e _ => cnE e
  | .Raise (some e) _ _ => cnE e
  | _ => []
def cnSs : List Stmt → List Str
  | [] => []
  | s :: r => cnS s ++ cnSs r
end
def dedup (l : List Str) : List Str := l.foldl (fun acc x => if acc.contains x then acc else acc ++ [x]) []
def dfOf : Stmt → Option Df
  | .FunctionDef x a body _ _ _ sc _ _ _ => some ⟨x, dedup (a.args.map (·.arg) ++ sc.names.filterMap (fun (x, k) => match k with | .local => some x | .cell => some x | _ => none) ++ cnSs body), a.args.length, body, none⟩
  | _ => none
def dfsOf (b : List Stmt) : List Df := b.filterMap dfOf
end EV

set_option maxRecDepth 100000
namespace EV
open PySem L2 PyProof.Rows

/-- the text's own sort of tracked list: owned addresses hold lists -/
def OkO (O : Addr → Prop) (H : Hp) : Prop := ∀ a, O a → ∃ ys, H a = some (.lst ys)
theorem OkO.same {O : Addr → Prop} {H H' : Hp} (h : OkO O H) (s : Same H H') : OkO O H' := fun a ha => let ⟨ys, e⟩ := h a ha; ⟨ys, s a _ e⟩
theorem OkO.none {O : Addr → Prop} {H : Hp} (h : OkO O H) {p : Addr} (hp : H p = none) : ¬ O p := fun ha => by
  obtain ⟨ys, e⟩ := h p ha
  rw [hp] at e; cases e

/-- a list of the module itself -/
def KL (K : PySem.W.Frag) (a : Addr) (xs : List V) : Prop := ∃ (o : Obj) (its : Array Value) (n : Nat), K.lookup a = some o ∧ o.cls = .type "list" ∧ o.dict = none ∧ o.data = .seq its n ∧ its.size ≤ sizeLine ∧ Vals xs its.toList
/-- an own exception at a, its dict at dx -/
def exoA (a C dx : Addr) : HO := .ext fun h => ∃ (oe : Obj) (vs : Array Value), h.get? a = some oe ∧ oe.cls = .ref C ∧ oe.dict = some dx ∧ oe.data = .fields vs
mutual
/-- a value that is data, and reaches no owned list -/
inductive Ro (K : PySem.W.Frag) (w : World) (O : Addr → Prop) (H : Hp) : V → D → Prop
  | non : Ro K w O H .non .none
  | bl (b : Bool) : Ro K w O H (.bl b) (.bool b)
  | int (i : Int) : Ro K w O H (.int i) (.int i)
  | str (x : Str) (h : PyData.canLay0 (.str x) = true) : Ro K w O H (.str x) (.str x)
  | lst {a : Addr} {xs : List V} {ds : List D} : Rd H a (.lst xs) → ¬ O a → RoAll K w O H xs ds → Ro K w O H (.ref a) (.list ds)
  | kls {a : Addr} {xs : List V} {ds : List D} : KL K a xs → RoAll K w O H xs ds → Ro K w O H (.ref a) (.list ds)
  | tup {a : Addr} {xs : List V} {ds : List D} : SqT K H a xs → RoAll K w O H xs ds → Ro K w O H (.ref a) (.tuple ds)
  | kdc {a : Addr} {es : Array DictEntry} {n : Nat} {ps : List (Str × V)} {ds : List D} : KDict K w a es n → (∀ p ∈ ps, ∃ u, PySem.W.nsIn K a p.1 = some (some u) ∧ RelV p.2 u) →
      (∀ z, z ∉ ps.map (·.1) → PySem.W.nsIn K a z = some none) → RoAll K w O H (ps.map (·.2)) ds → Ro K w O H (.ref a) (.dict ((ps.map fun p => PyData.str p.1).zip ds))
  | exc {a dx C : Addr} {x : Str} {u : V} {d : D} : H a = some (exoA a C dx) → H dx = some (.xd [("at", u)]) → PySem.W.nsIn K mainGlobals x = some (some (.ref C)) → Ro K w O H u d → Ro K w O H (.ref a) (excD x d)
inductive RoAll (K : PySem.W.Frag) (w : World) (O : Addr → Prop) (H : Hp) : List V → List D → Prop
  | nil : RoAll K w O H [] []
  | cons {v : V} {vs : List V} {d : D} {ds : List D} : Ro K w O H v d → RoAll K w O H vs ds → RoAll K w O H (v :: vs) (d :: ds)
end

section
variable {K : PySem.W.Frag} {w : World} {O O' : Addr → Prop} {H H' : Hp}
theorem Rd.same {a : Addr} {u : HO} (s : Same H H') (h : Rd H a u) : Rd H' a u := by
  rcases h with h | ⟨o, h⟩
  · exact .inl (s _ _ h)
  · exact .inr ⟨o, s _ _ h⟩
theorem SqT.same {a : Addr} {xs : List V} (s : Same H H') (h : SqT K H a xs) : SqT K H' a xs := by
  rcases h with h | h
  · exact .inl (Rd.same s h)
  · exact .inr h
theorem SqL.same {a : Addr} {xs : List V} (s : Same H H') (h : SqL K H a xs) : SqL K H' a xs := by
  rcases h with h | h
  · exact .inl (Rd.same s h)
  · exact .inr h
/-- what keeps a relation: every list that is not owned, every tuple, every locked thing stays -/
structure Keeps (O : Addr → Prop) (H H' : Hp) : Prop where
  l : ∀ a xs, H a = some (.lst xs) → ¬ O a → H' a = some (.lst xs)
  t : ∀ a xs, H a = some (.tup xs) → H' a = some (.tup xs)
  f : ∀ a o u, H a = some (.frz o u) → H' a = some (.frz o u)
  e : ∀ a φ, H a = some (.ext φ) → H' a = some (.ext φ)
  x : ∀ a fs, H a = some (.xd fs) → H' a = some (.xd fs)
theorem Same.keeps (s : Same H H') : Keeps O H H' := ⟨fun a xs h _ => s a _ h, fun a xs h => s a _ h, fun a o u h => s a _ h, fun a φ h => s a _ h, fun a fs h => s a _ h⟩
mutual
theorem Ro.keeps (k : Keeps O H H') (hO : ∀ a, O' a → O a ∨ H a = none) : ∀ {v : V} {d : D}, Ro K w O H v d → Ro K w O' H' v d
  | _, _, .non => .non
  | _, _, .bl b => .bl b
  | _, _, .int i => .int i
  | _, _, .str x h => .str x h
  | _, _, .lst (a := a) hr ho ha => .lst (by
      rcases hr with hr | ⟨o, hr⟩
      · exact .inl (k.l _ _ hr ho)
      · exact .inr ⟨o, k.f _ _ _ hr⟩) (fun h => by
        rcases hO _ h with h | h
        · exact ho h
        · rcases hr with hr | ⟨o, hr⟩ <;> rw [h] at hr <;> cases hr) (RoAll.keeps k hO ha)
  | _, _, .kls hr ha => .kls hr (RoAll.keeps k hO ha)
  | _, _, .tup hr ha => .tup (by
      rcases hr with (hr | ⟨o, hr⟩) | hr
      · exact .inl (.inl (k.t _ _ hr))
      · exact .inl (.inr ⟨o, k.f _ _ _ hr⟩)
      · exact .inr hr) (RoAll.keeps k hO ha)
  | _, _, .kdc hd h1 h2 h3 => .kdc hd h1 h2 (RoAll.keeps k hO h3)
  | _, _, .exc h1 h2 h3 h4 => .exc (k.e _ _ h1) (k.x _ _ h2) h3 (Ro.keeps k hO h4)
theorem RoAll.keeps (k : Keeps O H H') (hO : ∀ a, O' a → O a ∨ H a = none) : ∀ {vs : List V} {ds : List D}, RoAll K w O H vs ds → RoAll K w O' H' vs ds
  | _, _, .nil => .nil
  | _, _, .cons h t => .cons (Ro.keeps k hO h) (RoAll.keeps k hO t)
end
theorem Ro.same {v : V} {d : D} (s : Same H H') (h : Ro K w O H v d) : Ro K w O H' v d := h.keeps (Same.keeps s) fun _ h => .inl h
theorem RoAll.same {vs : List V} {ds : List D} (s : Same H H') (h : RoAll K w O H vs ds) : RoAll K w O H' vs ds := h.keeps (Same.keeps s) fun _ h => .inl h
/-- fewer owned -/
theorem Ro.less {v : V} {d : D} (hO : ∀ a, O' a → O a) (h : Ro K w O H v d) : Ro K w O' H v d := h.keeps (Same.keeps (Same.refl H)) fun a z => .inl (hO a z)
theorem RoAll.less {vs : List V} {ds : List D} (hO : ∀ a, O' a → O a) (h : RoAll K w O H vs ds) : RoAll K w O' H vs ds := h.keeps (Same.keeps (Same.refl H)) fun a z => .inl (hO a z)
theorem RoAll.length : ∀ {vs : List V} {ds : List D}, RoAll K w O H vs ds → vs.length = ds.length
  | _, _, .nil => rfl
  | _, _, .cons _ t => by simp [RoAll.length t]
theorem RoAll.app : ∀ {vs ws : List V} {ds es : List D}, RoAll K w O H vs ds → RoAll K w O H ws es → RoAll K w O H (vs ++ ws) (ds ++ es)
  | _, _, _, _, .nil, h => h
  | _, _, _, _, .cons h t, g => .cons h (RoAll.app t g)
theorem RoAll.get : ∀ {vs : List V} {ds : List D} {i : Nat} {d : D}, RoAll K w O H vs ds → ds[i]? = some d → ∃ v, vs[i]? = some v ∧ Ro K w O H v d
  | _, _, _, _, .nil, e => by simp at e
  | _, _, 0, _, .cons h _, e => by simp at e; subst e; exact ⟨_, rfl, h⟩
  | _, _, i + 1, _, .cons _ t, e => by
    obtain ⟨v, h1, h2⟩ := RoAll.get (i := i) t (by simpa using e)
    exact ⟨v, by simpa using h1, h2⟩
theorem RoAll.take : ∀ {vs : List V} {ds : List D} (n : Nat), RoAll K w O H vs ds → RoAll K w O H (vs.take n) (ds.take n)
  | _, _, 0, _ => .nil
  | _, _, _ + 1, .nil => .nil
  | _, _, n + 1, .cons h t => .cons h (RoAll.take n t)
theorem RoAll.drop : ∀ {vs : List V} {ds : List D} (n : Nat), RoAll K w O H vs ds → RoAll K w O H (vs.drop n) (ds.drop n)
  | _, _, 0, h => h
  | _, _, _ + 1, .nil => .nil
  | _, _, n + 1, .cons _ t => RoAll.drop n t
/-- the value of a name that is asked and forgotten: perhaps an owned list -/
def RoB (K : PySem.W.Frag) (w : World) (O : Addr → Prop) (H : Hp) (b : Bool) (v : V) (d : D) : Prop :=
  Ro K w O H v d ∨ (b = true ∧ ∃ a xs ds, v = .ref a ∧ d = .list ds ∧ H a = some (.lst xs) ∧ RoAll K w O H xs ds)
theorem RoB.no {v : V} {d : D} (h : RoB K w O H false v d) : Ro K w O H v d := by
  rcases h with h | ⟨e, _⟩
  · exact h
  · cases e
theorem RoB.same {b : Bool} {v : V} {d : D} (s : Same H H') (h : RoB K w O H b v d) : RoB K w O H' b v d := by
  rcases h with h | ⟨e, a, xs, ds, h1, h2, h3, h4⟩
  · exact .inl (h.same s)
  · exact .inr ⟨e, a, xs, ds, h1, h2, s _ _ h3, h4.same s⟩
/-! what a value's kind tells -/
theorem RoB.list {b : Bool} {v : V} {ds : List D} (h : RoB K w O H b v (.list ds)) : ∃ a xs, v = .ref a ∧ SqL K H a xs ∧ RoAll K w O H xs ds := by
  rcases h with h | ⟨_, a, xs, ds', h1, h2, h3, h4⟩
  · cases h with
    | lst h1 h2 h3 => exact ⟨_, _, rfl, .inl h1, h3⟩
    | kls h1 h3 => exact ⟨_, _, rfl, .inr h1, h3⟩
  · cases h2; exact ⟨a, xs, h1, .inl (.inl h3), h4⟩
theorem RoB.tup {b : Bool} {v : V} {ds : List D} (h : RoB K w O H b v (.tuple ds)) : ∃ a xs, v = .ref a ∧ SqT K H a xs ∧ RoAll K w O H xs ds := by
  rcases h with h | ⟨_, a, xs, ds', h1, h2, h3, h4⟩
  · cases h with
    | tup h1 h3 => exact ⟨_, _, rfl, h1, h3⟩
  · cases h2
theorem RoB.int {b : Bool} {v : V} {i : Int} (h : RoB K w O H b v (.int i)) : v = .int i := by
  rcases h with h | ⟨_, a, xs, ds', h1, h2, h3, h4⟩
  · cases h; rfl
  · cases h2
theorem RoB.bl {b : Bool} {v : V} {i : Bool} (h : RoB K w O H b v (.bool i)) : v = .bl i := by
  rcases h with h | ⟨_, a, xs, ds', h1, h2, h3, h4⟩
  · cases h; rfl
  · cases h2
theorem RoB.non {b : Bool} {v : V} (h : RoB K w O H b v .none) : v = .non := by
  rcases h with h | ⟨_, a, xs, ds', h1, h2, h3, h4⟩
  · cases h; rfl
  · cases h2
theorem RoB.str {b : Bool} {v : V} {x : Str} (h : RoB K w O H b v (.str x)) : v = .str x ∧ PyData.canLay0 (.str x) = true := by
  rcases h with h | ⟨_, a, xs, ds', h1, h2, h3, h4⟩
  · cases h with
    | str _ h => exact ⟨rfl, h⟩
  · cases h2
/-! to the layer's own data -/
mutual
theorem Ro.dp : ∀ {v : V} {d : D}, Ro K w O H v d → ∀ n, dle n d = true → Dp K H v d ∧ d.canLay0 = true
  | _, _, .non, _, _ => ⟨.non, rfl⟩
  | _, _, .bl b, _, _ => ⟨.bl b, rfl⟩
  | _, _, .int i, _, _ => ⟨.int i, rfl⟩
  | _, _, .str x h, _, _ => ⟨.str x, h⟩
  | _, _, .lst hr ho ha, 0, e => by cases e
  | _, _, .lst hr ho ha, n + 1, e => let ⟨p, q⟩ := RoAll.dp ha n e; ⟨.lst (.inl hr) p, q⟩
  | _, _, .kls hr ha, 0, e => by cases e
  | _, _, .kls hr ha, n + 1, e => let ⟨p, q⟩ := RoAll.dp ha n e; ⟨.lst (.inr hr) p, q⟩
  | _, _, .tup hr ha, 0, e => by cases e
  | _, _, .tup hr ha, n + 1, e => let ⟨p, q⟩ := RoAll.dp ha n e; ⟨.tup hr p, q⟩
  | _, _, .kdc _ _ _ _, 0, e => by cases e
  | _, _, .kdc _ _ _ _, n + 1, e => by cases e
  | _, _, .exc _ _ _ _, 0, e => by cases e
  | _, _, .exc _ _ _ _, n + 1, e => by cases e
theorem RoAll.dp : ∀ {vs : List V} {ds : List D}, RoAll K w O H vs ds → ∀ n, dles n ds = true → DpAll K H vs ds ∧ PyData.canLayAll0 ds = true
  | _, _, .nil, _, _ => ⟨.nil, rfl⟩
  | _, _, .cons h t, n, e => by
    rw [dles, Bool.and_eq_true] at e
    obtain ⟨p, q⟩ := Ro.dp h n e.1
    obtain ⟨p', q'⟩ := RoAll.dp t n e.2
    exact ⟨.cons p p', by rw [PyData.canLayAll0, q, q']; rfl⟩
end
theorem RoB.dp {b : Bool} {v : V} {d : D} (h : RoB K w O H b v d) (n : Nat) (e : dle n d = true) : Dp K H v d ∧ d.canLay0 = true := by
  rcases h with h | ⟨_, a, xs, ds, h1, h2, h3, h4⟩
  · exact h.dp n e
  · subst h1 h2
    cases n with
    | zero => cases e
    | succ n =>
      obtain ⟨p, q⟩ := RoAll.dp h4 n e
      exact ⟨.lst (.inl (.inl h3)) p, q⟩
end
mutual
theorem dle_depth : ∀ (n : Nat) (d : D), dle n d = true → d.depth ≤ n
  | 0, d, e => by cases d <;> first | exact Nat.le_refl 0 | (simp only [PyData.depth]; exact Nat.le_refl 0) | cases e
  | n + 1, .none, _ => by simp [PyData.depth]
  | n + 1, .bool _, _ => by simp [PyData.depth]
  | n + 1, .int _, _ => by simp [PyData.depth]
  | n + 1, .str _, _ => by simp [PyData.depth]
  | n + 1, .list xs, e => by
    have := dles_depth n xs e
    simp only [PyData.depth]; omega
  | n + 1, .tuple xs, e => by
    have := dles_depth n xs e
    simp only [PyData.depth]; omega
  | n + 1, .dict _, e => by cases e
theorem dles_depth : ∀ (n : Nat) (ds : List D), dles n ds = true → PyData.depthAll ds ≤ n
  | n, [], _ => by simp [PyData.depthAll]
  | n, d :: ds, e => by
    rw [dles, Bool.and_eq_true] at e
    have h1 := dle_depth n d e.1
    have h2 := dles_depth n ds e.2
    simp only [PyData.depthAll]; omega
end
theorem shaped_of {d : D} (h : d.canLay0 = true) (e : dle 60 d = true) : SeqAt.shaped d = true := by
  have := dle_depth 60 d e
  unfold SeqAt.shaped
  rw [h, decide_eq_true (by omega)]; rfl
end EV

namespace EV
open PySem PySem.Spec PyProof.Rows L2

/-! ### operators by data -/
section
variable {X : Cx}
/-- what an operation on two data gives -/
def rOp (K : PySem.W.Frag) (w : World) (g : D → D → Option D) : R2 := fun x y H Q => ∃ O b dx dy d, OkO O H ∧ RoB K w O H b x dx ∧ RoB K w O H b y dy ∧ g dx dy = some d ∧ ∀ H' v, Same H H' → Ro K w O H' v d → Q v H'
theorem same_upd {H : Hp} {p : Addr} {o : HO} (h : H p = none) : Same H (upd H p o) := fun b u e => by rw [upd_ne (ne_of_none e h)]; exact e
theorem few_line : few ≤ sizeLine := by rw [sizeLine_eq]; decide
/-- list + list, locked ones and the module's too -/
def rCatL (K : PySem.W.Frag) : R2 := fun x y H Q => ∃ l b xs zs, x = .ref l ∧ y = .ref b ∧ SqL K H l xs ∧ SqL K H b zs ∧ xs.length + zs.length ≤ sizeLine ∧ ∀ p, H p = none → Q (.ref p) (upd H p (.lst (xs ++ zs)))
theorem op_catL : OpR X (binaryOp .Add) (rCatL X.K) := by
  intro pins s σ H x y v u Q I rx ry h
  obtain ⟨l, b, xs, zs, rfl, rfl, hH, hB, hz, q⟩ := h
  cases rx
  cases ry
  obtain ⟨its, r, ⟨⟨c1, dd, d1, sl⟩, n, e, hc, _, hd⟩, _⟩ := I.list hH
  obtain ⟨its2, r2, ⟨⟨c2, dd2, d2, sl2⟩, n2, e2, hc2, _, hd2⟩, _⟩ := I.list hB
  simp only at hc hd hc2 hd2
  subst hc hd hc2 hd2
  have hl := r.length
  have hl2 := r2.length
  refine concat_meets ⟨_, e, rfl⟩ ⟨_, e2, rfl⟩ noFill_list_add seq_list_add PySem.F.slot_list_add PySem.F.entry_list_add (PySem.F.args_list_add_2 _ _) (PyProof.Rows.list_addW l b its.toArray its2.toArray n n2 dd dd2 sl sl2 (by rw [List.size_toArray, List.size_toArray]; omega)) ⟨e, e2, ?_⟩
  have ea : its.toArray ++ its2.toArray = (its ++ its2).toArray := by simp
  rw [ea]
  exact ⟨.ref _, _, I.lnew (t' := s.toks) (r.append r2) (by rw [List.length_append]; omega), rfl, q _ I.fresh⟩
theorem small64_ok {i : Int} (h : small64 i = true) : -(2 ^ 64) < i ∧ i < 2 ^ 64 := by
  rw [small64, Bool.and_eq_true] at h
  exact ⟨of_decide_eq_true h.1, of_decide_eq_true h.2⟩
theorem cond_some {α : Type} {b : Bool} {x : Option α} {d : α} (h : cond b x none = some d) : b = true ∧ x = some d := by
  cases b with
  | true => exact ⟨rfl, h⟩
  | false => cases h
section
variable {K : PySem.W.Frag} {w : World} {O : Addr → Prop} {H : Hp}
theorem Ro.newL {p : Addr} {xs : List V} {ds : List D} (hO : OkO O H) (hp : H p = none) (h : RoAll K w O H xs ds) : Ro K w O (upd H p (.lst xs)) (.ref p) (.list ds) :=
  .lst (.inl upd_same) (hO.none hp) (h.same (same_upd hp))
theorem Ro.newT {p : Addr} {xs : List V} {ds : List D} (hp : H p = none) (h : RoAll K w O H xs ds) : Ro K w O (upd H p (.tup xs)) (.ref p) (.tuple ds) :=
  .tup (.inl (.inl upd_same)) (h.same (same_upd hp))
end
theorem op_binD (o : Operator) : OpR X (binaryOp o) (rOp X.K X.w (binD o)) := by
  intro pins s σ H x y v u Q I rx ry h
  obtain ⟨O, b, dx, dy, d, hO, hx, hy, e, q⟩ := h
  have qi : ∀ i : Int, d = .int i → Q (.int i) H := fun i ei => q H _ (Same.refl H) (by rw [ei]; exact .int i)
  unfold binD at e
  split at e
  · rename_i i j
    cases hx.int; cases hy.int
    exact op_add pins s σ H _ _ v u Q I rx ry ⟨i, j, rfl, rfl, qi _ (Option.some.inj e).symm⟩
  · rename_i i j
    cases hx.int; cases hy.int
    exact op_sub pins s σ H _ _ v u Q I rx ry ⟨i, j, rfl, rfl, qi _ (Option.some.inj e).symm⟩
  · rename_i i j
    cases hx.int; cases hy.int
    obtain ⟨c, e⟩ := cond_some e
    refine op_mul pins s σ H _ _ v u Q I rx ry ⟨i, j, rfl, rfl, ?_, qi _ (Option.some.inj e).symm⟩
    rcases Bool.or_eq_true_iff.mp c with c | c
    · exact .inl (small64_ok c)
    · exact .inr (small64_ok c)
  · rename_i i j
    cases hx.int; cases hy.int
    obtain ⟨c, e⟩ := cond_some e
    rw [Bool.and_eq_true] at c
    exact op_fdiv pins s σ H _ _ v u Q I rx ry ⟨i, j, rfl, rfl, ⟨of_decide_eq_true c.1, of_decide_eq_true c.2⟩, qi _ (Option.some.inj e).symm⟩
  · rename_i i j
    cases hx.int; cases hy.int
    obtain ⟨c, e⟩ := cond_some e
    exact op_mod pins s σ H _ _ v u Q I rx ry ⟨i, j, rfl, rfl, of_decide_eq_true c, qi _ (Option.some.inj e).symm⟩
  · rename_i i j
    cases hx.int; cases hy.int
    obtain ⟨c, e⟩ := cond_some e
    rw [Bool.and_eq_true, Bool.and_eq_true] at c
    exact op_pow pins s σ H _ _ v u Q I rx ry ⟨i, j, rfl, rfl, ⟨of_decide_eq_true c.1, of_decide_eq_true c.2.1, of_decide_eq_true c.2.2⟩, qi _ (Option.some.inj e).symm⟩
  · rename_i xs ys
    obtain ⟨a, vs, rfl, h1, h2⟩ := hx.list
    obtain ⟨a', vs', rfl, h1', h2'⟩ := hy.list
    obtain ⟨c, e⟩ := cond_some e
    have c' : xs.length + ys.length ≤ few := of_decide_eq_true c
    have hf := few_line
    refine op_catL pins s σ H _ _ v u Q I rx ry ⟨a, a', vs, vs', rfl, rfl, h1, h1', by rw [h2.length, h2'.length]; omega, fun p hp => ?_⟩
    exact q _ _ (same_upd hp) (by rw [← Option.some.inj e]; exact Ro.newL hO hp (h2.app h2'))
  · rename_i xs ys
    obtain ⟨a, vs, rfl, h1, h2⟩ := hx.tup
    obtain ⟨a', vs', rfl, h1', h2'⟩ := hy.tup
    obtain ⟨c, e⟩ := cond_some e
    have c' : xs.length + ys.length ≤ few := of_decide_eq_true c
    have hf := few_line
    have e := Option.some.inj e
    refine op_catA pins s σ H _ _ v u Q I rx ry ⟨a, a', vs, vs', rfl, rfl, h1, h1', by rw [h2.length, h2'.length]; omega, fun z => ?_, fun z z' => ?_, fun z z' p hp => ?_⟩
    · subst z
      cases h2
      exact q _ _ (Same.refl H) (by rw [← e]; exact .tup h1' h2')
    · subst z'
      cases h2'
      exact q _ _ (Same.refl H) (by rw [← e, List.append_nil]; exact .tup h1 h2)
    · exact q _ _ (same_upd hp) (by rw [← e]; exact Ro.newT hp (h2.app h2'))
  · cases e

/-! ### comparisons -/
def rCmp (K : PySem.W.Frag) (w : World) (g : D → D → Option Bool) : R2 := fun x y H Q => ∃ O b dx dy d, RoB K w O H b x dx ∧ RoB K w O H b y dy ∧ g dx dy = some d ∧ Q (.bl d) H
theorem eqD_ok {x y : D} {d : Bool} (h : eqD x y = some d) : dle 60 x = true ∧ dle 60 y = true ∧ PyData.eqv x y = d := by
  obtain ⟨c, e⟩ := cond_some h
  rw [Bool.and_eq_true] at c
  exact ⟨c.1, c.2, Option.some.inj e⟩
theorem op_inTD (hu : X.A.units + 65 < cLine) {pins : List (Addr × Obj)} {s : Shared} {σ : L2.St} {H : Hp} {x y : V} {v u : Value} {Q : VK} {d : D} {ds : List D} (I : Inv X pins σ H s) (rx : RelV x v) (ry : RelV y u)
    (hd : Dp X.K H x d) (he : Dp X.K H y (.tuple ds)) (sd : SeqAt.shaped d = true) (se : SeqAt.shaped (.tuple ds) = true) (q : Q (.bl (ds.any fun z => PyData.eqv z d)) H) : wpAny (model X.prog X.w) X.A (compareOp .In v u) (EP X pins σ Q) X.xe s := by
  obtain ⟨as, r1⟩ := Dp.reads I d x v hd rx
  obtain ⟨bs, r2⟩ := Dp.reads I (.tuple ds) y u he ry
  exact SeqAt.in_tuple_reads r2 r1 (SeqAt.canLay_of_shaped se) (SeqAt.canLay_of_shaped sd) (room_in_shaped sd hu) ⟨.bl _, H, I, rfl, q⟩
theorem op_notInTD (hu : X.A.units + 65 < cLine) {pins : List (Addr × Obj)} {s : Shared} {σ : L2.St} {H : Hp} {x y : V} {v u : Value} {Q : VK} {d : D} {ds : List D} (I : Inv X pins σ H s) (rx : RelV x v) (ry : RelV y u)
    (hd : Dp X.K H x d) (he : Dp X.K H y (.tuple ds)) (sd : SeqAt.shaped d = true) (se : SeqAt.shaped (.tuple ds) = true) (q : Q (.bl (!ds.any fun z => PyData.eqv z d)) H) : wpAny (model X.prog X.w) X.A (compareOp .NotIn v u) (EP X pins σ Q) X.xe s := by
  obtain ⟨as, r1⟩ := Dp.reads I d x v hd rx
  obtain ⟨bs, r2⟩ := Dp.reads I (.tuple ds) y u he ry
  exact SeqAt.notIn_tuple_reads r2 r1 (SeqAt.canLay_of_shaped se) (SeqAt.canLay_of_shaped sd) (room_in_shaped sd hu) ⟨.bl _, H, I, rfl, q⟩

theorem kdc_some {K : PySem.W.Frag} {w : World} {O : Addr → Prop} {H : Hp} {z : Str} {d : D} : ∀ {ps : List (Str × V)} {ds : List D}, RoAll K w O H (ps.map (·.2)) ds → dget ((ps.map fun p => PyData.str p.1).zip ds) z = some d → ∃ p ∈ ps, p.1 = z ∧ Ro K w O H p.2 d
  | [], _, _, e => by cases e
  | p :: ps, _, .cons h t, e => by
    simp only [List.map_cons, List.zip_cons_cons, dget] at e
    by_cases hz : p.1 = z
    · rw [decide_eq_true hz] at e
      cases e
      exact ⟨p, List.mem_cons_self, hz, h⟩
    · rw [decide_eq_false hz] at e
      obtain ⟨q, h1, h2, h3⟩ := kdc_some t e
      exact ⟨q, List.mem_cons_of_mem _ h1, h2, h3⟩
theorem kdc_none {K : PySem.W.Frag} {w : World} {O : Addr → Prop} {H : Hp} {z : Str} : ∀ {ps : List (Str × V)} {ds : List D}, RoAll K w O H (ps.map (·.2)) ds → dget ((ps.map fun p => PyData.str p.1).zip ds) z = none → z ∉ ps.map (·.1)
  | [], _, _, _ => by simp
  | p :: ps, _, .cons h t, e => by
    simp only [List.map_cons, List.zip_cons_cons, dget] at e
    by_cases hz : p.1 = z
    · rw [decide_eq_true hz] at e
      cases e
    · rw [decide_eq_false hz] at e
      have := kdc_none t e
      simp only [List.map_cons, List.mem_cons, not_or]
      exact ⟨fun q => hz q.symm, this⟩
theorem RoB.kd {K : PySem.W.Frag} {w : World} {O : Addr → Prop} {H : Hp} {b : Bool} {v : V} {kvs : List (D × D)} (h : RoB K w O H b v (.dict kvs)) (ht : dtab kvs = true) : ∃ a es n, v = .ref a ∧ KDict K w a es n ∧
    (∀ z d, dget kvs z = some d → ∃ u v, PySem.W.nsIn K a z = some (some u) ∧ RelV v u ∧ Ro K w O H v d) ∧ ∀ z, dget kvs z = none → PySem.W.nsIn K a z = some none := by
  rcases h with h | ⟨_, a, xs, ds', h1, h2, h3, h4⟩
  · cases h with
    | kdc h1 h2 h3 h4 =>
      refine ⟨_, _, _, rfl, h1, fun z d e => ?_, fun z e => h3 z (kdc_none h4 e)⟩
      obtain ⟨p, hp, hz, hr⟩ := kdc_some h4 e
      obtain ⟨u, e1, e2⟩ := h2 p hp
      rw [hz] at e1
      exact ⟨u, p.2, e1, e2, hr⟩
    | exc h1 h2 h3 h4 => cases ht
  · cases h2
theorem RoB.isNone {K : PySem.W.Frag} {w : World} {O : Addr → Prop} {H : Hp} {b : Bool} {v : V} {d : D} (h : RoB K w O H b v d) : decide (v = V.non) = EV.isNone d := by
  rcases h with h | ⟨_, a, xs, ds', h1, h2, h3, h4⟩
  · cases h <;> simp [EV.isNone, excD]
  · subst h1 h2; simp [EV.isNone]
theorem cmpI_ok {K : PySem.W.Frag} {w : World} {O : Addr → Prop} {H : Hp} {b : Bool} {x y : V} {dx dy : D} {f : Int → Int → Bool} {d : Bool} (hx : RoB K w O H b x dx) (hy : RoB K w O H b y dy) (e : cmpI dx dy f = some d) : ∃ i j, x = .int i ∧ y = .int j ∧ d = f i j := by
  unfold cmpI at e
  split at e
  · exact ⟨_, _, hx.int, hy.int, (Option.some.inj e).symm⟩
  · cases e
theorem isB_ok {K : PySem.W.Frag} {w : World} {O : Addr → Prop} {H : Hp} {b : Bool} {x y : V} {dx dy : D} {d : Bool} (hx : RoB K w O H b x dx) (hy : RoB K w O H b y dy) (e : isB dx dy = some d) : ∃ i j, x = .bl i ∧ y = .bl j ∧ d = (i == j) := by
  unfold isB at e
  split at e
  · exact ⟨_, _, hx.bl, hy.bl, (Option.some.inj e).symm⟩
  · cases e
theorem bl_beq {i j : Bool} : decide (i = j) = (i == j) := by cases i <;> cases j <;> rfl
theorem op_cmpD (o : CmpOp) (hu : X.A.units + 65 < cLine) : OpR X (compareOp o) (rCmp X.K X.w (cmpD o)) := by
  intro pins s σ H x y v u Q I rx ry h
  obtain ⟨O, b, dx, dy, d, hx, hy, e, q⟩ := h
  have kints : ∀ f : Int → Int → Bool, cmpI dx dy f = some d → ∃ i j, x = .int i ∧ y = .int j ∧ d = f i j := fun f e => cmpI_ok hx hy e
  have ino : ∀ {neg : Bool}, inD dx dy = some (cond neg (!d) d) → (neg = false → o = .In) → (neg = true → o = .NotIn) → wpAny (model X.prog X.w) X.A (compareOp o v u) (EP X pins σ Q) X.xe s := fun {neg} e o1 o2 => by
    rename_i e0
    clear e0 kints
    unfold inD at e
    split at e
    · rename_i ys
      obtain ⟨c, e⟩ := cond_some e
      rw [Bool.and_eq_true] at c
      obtain ⟨p1, p2⟩ := hx.dp 60 c.1
      obtain ⟨p3, p4⟩ := hy.dp 60 c.2
      have e := Option.some.inj e
      cases neg with
      | false =>
        rw [o1 rfl]
        exact op_inD hu pins s σ H _ _ v u Q I rx ry ⟨_, _, p1, p3, shaped_of p2 c.1, shaped_of p4 c.2, by rw [e]; exact q⟩
      | true =>
        rw [o2 rfl]
        exact op_notInD hu pins s σ H _ _ v u Q I rx ry ⟨_, _, p1, p3, shaped_of p2 c.1, shaped_of p4 c.2, by rw [e]; simpa using q⟩
    · rename_i ys
      obtain ⟨c, e⟩ := cond_some e
      rw [Bool.and_eq_true] at c
      obtain ⟨p1, p2⟩ := hx.dp 60 c.1
      obtain ⟨p3, p4⟩ := hy.dp 60 c.2
      have e := Option.some.inj e
      cases neg with
      | false =>
        rw [o1 rfl]
        exact op_inTD hu I rx ry p1 p3 (shaped_of p2 c.1) (shaped_of p4 c.2) (by rw [e]; exact q)
      | true =>
        rw [o2 rfl]
        exact op_notInTD hu I rx ry p1 p3 (shaped_of p2 c.1) (shaped_of p4 c.2) (by rw [e]; simpa using q)
    · rename_i kvs
      split at e
      · rename_i z
        obtain ⟨rfl, _⟩ := hx.str
        obtain ⟨ht, e⟩ := cond_some e
        obtain ⟨a, es, n, rfl, hk, k1, k2⟩ := hy.kd ht
        have e := Option.some.inj e
        have key : ∃ r : Option Value, PySem.W.nsIn X.K a z = some r ∧ r.isSome = (dget kvs z).isSome := by
          cases hd : dget kvs z with
          | none => exact ⟨none, k2 z hd, rfl⟩
          | some d => obtain ⟨u', v', h1, _⟩ := k1 z d hd; exact ⟨some u', h1, rfl⟩
        obtain ⟨r, h1, h2⟩ := key
        cases neg with
        | false =>
          rw [o1 rfl]
          refine op_in_kd hk pins s σ H _ _ v u Q I rx ry ⟨z, r, rfl, rfl, h1, ?_⟩
          rw [h2, e]; exact q
        | true =>
          rw [o2 rfl]
          refine op_notIn_kd hk pins s σ H _ _ v u Q I rx ry ⟨z, r, rfl, rfl, h1, ?_⟩
          rw [h2, e]; simpa using q
      · cases e
    · cases e
  cases o with
  | Eq =>
    obtain ⟨c1, c2, e⟩ := eqD_ok (show eqD dx dy = some d from e)
    obtain ⟨p1, p2⟩ := hx.dp 60 c1
    obtain ⟨p3, p4⟩ := hy.dp 60 c2
    exact op_eqD (by omega) pins s σ H _ _ v u Q I rx ry ⟨_, _, p1, p3, shaped_of p2 c1, shaped_of p4 c2, by rw [e]; exact q⟩
  | NotEq =>
    obtain ⟨d', e', e2⟩ := Option.map_eq_some_iff.mp (show (eqD dx dy).map (!·) = some d from e)
    obtain ⟨c1, c2, e⟩ := eqD_ok e'
    obtain ⟨p1, p2⟩ := hx.dp 60 c1
    obtain ⟨p3, p4⟩ := hy.dp 60 c2
    exact op_neD (by omega) pins s σ H _ _ v u Q I rx ry ⟨_, _, p1, p3, shaped_of p2 c1, shaped_of p4 c2, by rw [e, e2]; exact q⟩
  | Lt =>
    obtain ⟨i, j, rfl, rfl, rfl⟩ := kints _ e
    exact op_lt pins s σ H _ _ v u Q I rx ry ⟨i, j, rfl, rfl, q⟩
  | LtE =>
    obtain ⟨i, j, rfl, rfl, rfl⟩ := kints _ e
    exact op_le pins s σ H _ _ v u Q I rx ry ⟨i, j, rfl, rfl, q⟩
  | Gt =>
    obtain ⟨i, j, rfl, rfl, rfl⟩ := kints _ e
    exact op_gt pins s σ H _ _ v u Q I rx ry ⟨i, j, rfl, rfl, q⟩
  | GtE =>
    obtain ⟨i, j, rfl, rfl, rfl⟩ := kints _ e
    exact op_ge pins s σ H _ _ v u Q I rx ry ⟨i, j, rfl, rfl, q⟩
  | In => exact ino (neg := false) e (fun _ => rfl) (fun z => nomatch z)
  | NotIn =>
    obtain ⟨d', e', e2⟩ := Option.map_eq_some_iff.mp (show (inD dx dy).map (!·) = some d from e)
    exact ino (neg := true) (by rw [e', ← e2]; simp) (fun z => nomatch z) (fun _ => rfl)
  | Is =>
    have gen : isB dx dy = some d → wpAny (model X.prog X.w) X.A (compareOp .Is v u) (EP X pins σ Q) X.xe s := fun e => by
      obtain ⟨i, j, rfl, rfl, rfl⟩ := isB_ok hx hy e
      exact op_is_bl pins s σ H _ _ v u Q I rx ry ⟨i, j, rfl, rfl, by rw [bl_beq]; exact q⟩
    cases dy with
    | none =>
      cases hy.non
      cases ry
      have e : isNone dx = d := Option.some.inj e
      exact is_none_gen ⟨.bl _, H, I, by rw [rx.none_iff]; rfl, by rw [hx.isNone, e]; exact q⟩
    | _ => exact gen e
  | IsNot =>
    have gen : (isB dx dy).map (!·) = some d → wpAny (model X.prog X.w) X.A (compareOp .IsNot v u) (EP X pins σ Q) X.xe s := fun e => by
      obtain ⟨d', e', e2⟩ := Option.map_eq_some_iff.mp e
      obtain ⟨i, j, rfl, rfl, rfl⟩ := isB_ok hx hy e'
      exact op_isnot_bl pins s σ H _ _ v u Q I rx ry ⟨i, j, rfl, rfl, by rw [bl_beq, e2]; exact q⟩
    cases dy with
    | none =>
      cases hy.non
      cases ry
      have e : (!isNone dx) = d := Option.some.inj e
      exact isnot_none_gen ⟨.bl _, H, I, by rw [rx.none_iff]; rfl, by rw [hx.isNone, e]; exact q⟩
    | _ => exact gen e
end
end EV

namespace EV
open PySem PySem.Spec PyProof.Rows L2

def SlOk (K : PySem.W.Frag) (w : World) (O Ow : Addr → Prop) (H : Hp) (s : Sl) (o : Option (Option V)) : Prop :=
  match s with
  | .un => True
  | .sh d => ∃ v, o = some (some v) ∧ Ro K w O H v d
  | .ow l => ∃ a xs, o = some (some (.ref a)) ∧ H a = some (.lst xs) ∧ (O a ∧ Ow a) ∧ RoAll K w O H xs l
/-- the slots hold what the evaluator has -/
def Fr (K : PySem.W.Frag) (w : World) (O Ow : Addr → Prop) (es : List Sl) (σ : L2.St) (H : Hp) : Prop := ∀ (i : Nat) (s : Sl), es[i]? = some s → SlOk K w O Ow H s σ[i]?
section
variable {K : PySem.W.Frag} {w : World} {O O' Ow : Addr → Prop} {es : List Sl} {σ : L2.St} {H H' : Hp}
theorem SlOk.same {s : Sl} {o : Option (Option V)} (s0 : Same H H') (h : SlOk K w O Ow H s o) : SlOk K w O Ow H' s o := by
  cases s with
  | un => trivial
  | sh d => obtain ⟨v, e, r⟩ := h; exact ⟨v, e, r.same s0⟩
  | ow l => obtain ⟨a, xs, e, h1, h0, h2⟩ := h; exact ⟨a, xs, e, s0 _ _ h1, h0, h2.same s0⟩
theorem Fr.same (s0 : Same H H') (h : Fr K w O Ow es σ H) : Fr K w O Ow es σ H' := fun i s e => (h i s e).same s0
end
theorem _root_.L2.PE.imp {X : Cx} {e : Expr} {t t' : TE} (h : PE X e t) (hi : ∀ σ H Q, t' σ H Q → t σ H Q) : PE X e t' := ⟨fun pins s σ H Q I hq => h.run pins s σ H Q I (hi _ _ _ hq)⟩
theorem _root_.L2.PT.imp {X : Cx} {e : Expr} {t t' : TT} (h : PT X e t) (hi : ∀ σ H Q, t' σ H Q → t σ H Q) : PT X e t' := ⟨fun pins s σ H Q I hq => h.run pins s σ H Q I (hi _ _ _ hq)⟩
theorem _root_.L2.PA.imp {X : Cx} {e : List Expr} {t t' : TA} (h : PA X e t) (hi : ∀ σ H Q, t' σ H Q → t σ H Q) : PA X e t' := ⟨fun pos pins s σ H Q I hq => h.run pos pins s σ H Q I (hi _ _ _ hq)⟩

inductive RoBs (K : PySem.W.Frag) (w : World) (O : Addr → Prop) (H : Hp) (b : Bool) : List V → List D → Prop
  | nil : RoBs K w O H b [] []
  | cons {v : V} {vs : List V} {d : D} {ds : List D} : RoB K w O H b v d → RoBs K w O H b vs ds → RoBs K w O H b (v :: vs) (d :: ds)
section
variable {K : PySem.W.Frag} {w : World} {O : Addr → Prop} {H H' : Hp} {b : Bool}
theorem RoBs.same : ∀ {vs : List V} {ds : List D}, Same H H' → RoBs K w O H b vs ds → RoBs K w O H' b vs ds
  | _, _, _, .nil => .nil
  | _, _, s, .cons h t => .cons (h.same s) (RoBs.same s t)
theorem RoBs.all : ∀ {vs : List V} {ds : List D}, RoBs K w O H false vs ds → RoAll K w O H vs ds
  | _, _, .nil => .nil
  | _, _, .cons h t => .cons h.no (RoBs.all t)
theorem RoBs.app : ∀ {vs ws : List V} {ds es : List D}, RoBs K w O H b vs ds → RoBs K w O H b ws es → RoBs K w O H b (vs ++ ws) (ds ++ es)
  | _, _, _, _, .nil, h => h
  | _, _, _, _, .cons h t, g => .cons h (RoBs.app t g)
theorem RoAll.bs : ∀ {vs : List V} {ds : List D}, RoAll K w O H vs ds → RoBs K w O H b vs ds
  | _, _, .nil => .nil
  | _, _, .cons h t => .cons (.inl h) (RoAll.bs t)
theorem RoBs.length : ∀ {vs : List V} {ds : List D}, RoBs K w O H b vs ds → vs.length = ds.length
  | _, _, .nil => rfl
  | _, _, .cons _ t => by simp [RoBs.length t]
end

/-- the readings by the evaluator: of an expression, a test, arguments -/
def tE (K : PySem.W.Frag) (w : World) (b : Bool) (f : List Sl → Option D) : TE := fun σ H Q => ∃ O Ow es d, OkO O H ∧ Fr K w O Ow es σ H ∧ f es = some d ∧ ∀ H' v, Same H H' → RoB K w O H' b v d → Q v H'
def tT (K : PySem.W.Frag) (w : World) (f : List Sl → Option Bool) : TT := fun σ H Q => ∃ O Ow es d, OkO O H ∧ Fr K w O Ow es σ H ∧ f es = some d ∧ ∀ H', Same H H' → Q d H'
def tA (K : PySem.W.Frag) (w : World) (b : Bool) (f : List Sl → Option (List D)) : TA := fun σ H Q => ∃ O Ow es ds, OkO O H ∧ Fr K w O Ow es σ H ∧ f es = some ds ∧ ∀ H' vs, Same H H' → RoBs K w O H' b vs ds → Q vs H'
abbrev SE (X : Cx) (b : Bool) (e : Expr) (f : List Sl → Option D) : Prop := PE X e (tE X.K X.w b f)
abbrev ST (X : Cx) (e : Expr) (f : List Sl → Option Bool) : Prop := PT X e (tT X.K X.w f)
abbrev SA (X : Cx) (b : Bool) (e : List Expr) (f : List Sl → Option (List D)) : Prop := PA X e (tA X.K X.w b f)
theorem bind_some {α β : Type} {x : Option α} {f : α → Option β} {d : β} (h : x.bind f = some d) : ∃ a, x = some a ∧ f a = some d := Option.bind_eq_some_iff.mp h

section
variable {X : Cx} {b : Bool} {e e1 e2 e3 : Expr} {es : List Expr} {pos : Pos} {f f1 f2 f3 : List Sl → Option D} {g g1 g2 : List Sl → Option Bool} {fs : List Sl → Option (List D)}
theorem SE.weak (h : SE X false e f) : SE X true e f := h.imp fun σ H Q ⟨O, Ow, es, d, hO, F, e, q⟩ => ⟨O, Ow, es, d, hO, F, e, fun H' v s r => q H' v s (.inl r.no)⟩
theorem SE.eqf {f' : List Sl → Option D} (h : SE X b e f) (he : ∀ es d, f' es = some d → f es = some d) : SE X b e f' := h.imp fun σ H Q ⟨O, Ow, es, d, hO, F, e, q⟩ => ⟨O, Ow, es, d, hO, F, he _ _ e, q⟩
theorem ST.eqf {f' : List Sl → Option Bool} (h : ST X e g) (he : ∀ es d, f' es = some d → g es = some d) : ST X e f' := h.imp fun σ H Q ⟨O, Ow, es, d, hO, F, e, q⟩ => ⟨O, Ow, es, d, hO, F, he _ _ e, q⟩
theorem SA.eqf {f' : List Sl → Option (List D)} (h : SA X b es fs) (he : ∀ es d, f' es = some d → fs es = some d) : SA X b es f' := h.imp fun σ H Q ⟨O, Ow, es, d, hO, F, e, q⟩ => ⟨O, Ow, es, d, hO, F, he _ _ e, q⟩

/-! ### names, constants -/
theorem se_var {i : Nat} {x : Str} (hN : X.N[i]? = some x) (hv : Vis X.env.scope x) (hd : (x == ("__debug__" : Str)) = false) (hcd : (x == ("__classdict__" : Str)) = false) : SE X b (.Name x pos) fun es => (es[i]?).bind (rd b) := by
  refine (pe_var hN hv hd hcd).imp fun σ H Q ⟨O, Ow, es, d, hO, F, e, q⟩ => ?_
  obtain ⟨s, h1, h2⟩ := bind_some e
  have hs := F i s h1
  cases s with
  | un => cases b <;> cases h2
  | sh d' =>
    obtain ⟨v, hv, r⟩ := hs
    have : d' = d := by cases b <;> exact Option.some.inj h2
    subst this
    exact ⟨v, hv, q H v (Same.refl H) (.inl r)⟩
  | ow l =>
    cases b with
    | false => cases h2
    | true =>
      obtain ⟨a, xs, hv, h3, h0, h4⟩ := hs
      have : PyData.list l = d := Option.some.inj h2
      exact ⟨_, hv, q H _ (Same.refl H) (.inr ⟨rfl, a, xs, l, rfl, this.symm, h3, h4⟩)⟩
theorem se_const {k : Const} {j : Nat} (h : ∀ s, k = .str s → PyData.canLay0 (.str s) = true) : SE X b (.Constant k j pos) fun _ => constD k := by
  have key : ∀ {v : V}, PE X (.Constant k j pos) (tC v) → (∀ O H d, constD k = some d → Ro X.K X.w O H v d) → SE X b (.Constant k j pos) fun _ => constD k := fun hp hr =>
    hp.imp fun σ H Q ⟨O, Ow, es, d, hO, F, e, q⟩ => q H _ (Same.refl H) (.inl (hr O H d e))
  cases k with
  | none => exact key pe_non fun O H d e => by cases e; exact .non
  | bool z => exact key pe_bl fun O H d e => by cases e; exact .bl z
  | int i => exact key pe_int fun O H d e => by cases e; exact .int i
  | str s => exact key pe_str fun O H d e => by cases e; exact .str s (h s rfl)
  | _ => exact ⟨fun _ _ _ _ _ _ ⟨O, Ow, es, d, hO, F, e, q⟩ => by cases e⟩
/-- a module's constant -/
def GOk (X : Cx) (x : Str) (o : Option D) : Prop := ∀ d, o = some d → ∃ v u, X.mg x = some u ∧ RelV v u ∧ ∀ O H, Ro X.K X.w O H v d
theorem se_glob {x : Str} {o : Option D} (hg : Gl X x) (h : GOk X x o) (hd : (x == ("__debug__" : Str)) = false) : SE X b (.Name x pos) fun _ => o := by
  cases o with
  | none => exact ⟨fun _ _ _ _ _ _ ⟨O, Ow, es, d, hO, F, e, q⟩ => by cases e⟩
  | some d =>
    obtain ⟨v, u, h1, h2, h3⟩ := h d rfl
    exact (pe_glob hg h1 h2 hd).imp fun σ H Q ⟨O, Ow, es, d', hO, F, e, q⟩ => by cases e; exact q H v (Same.refl H) (.inl (h3 O H))

/-! ### arguments, displays -/
theorem starEach_cons (h : ∀ e' p, e ≠ .Starred e' p) (env : Env) : starEach (e :: es) env = (false, eval e env) :: starEach es env := by
  cases e <;> first | rfl | exact absurd rfl (h _ _)
theorem sa_nil : SA X b [] fun _ => some [] := pa_nil.imp fun σ H Q ⟨O, Ow, es, ds, hO, F, e, q⟩ => by cases e; exact q H [] (Same.refl H) .nil
theorem sa_cons (hn : ∀ e' p, e ≠ .Starred e' p) (h : SE X b e f) (hr : SA X b es fs) : SA X b (e :: es) fun σ => (f σ).bind fun d => (fs σ).bind fun ys => some (d :: ys) := by
  refine (pa_cons h hr (starEach_cons hn _)).imp fun σ H Q ⟨O, Ow, es, ds, hO, F, e, q⟩ => ?_
  obtain ⟨d, e1, e⟩ := bind_some e
  obtain ⟨ys, e2, e⟩ := bind_some e
  cases e
  refine ⟨O, Ow, es, d, hO, F, e1, fun H1 v s1 r1 => ⟨O, Ow, es, ys, hO.same s1, F.same s1, e2, fun H2 vs s2 r2 => ?_⟩⟩
  exact q H2 _ (s1.trans s2) (.cons (r1.same s2) r2)
theorem sa_star {p : Pos} (h : SE X true e f) (hr : SA X b es fs) : SA X b (.Starred e p :: es) fun σ => (f σ).bind fun d => (items d).bind fun xs => (fs σ).bind fun ys => some (xs ++ ys) := by
  refine (StX.pa_star (p := p) h hr rfl).imp fun σ H Q ⟨O, Ow, es, ds, hO, F, e, q⟩ => ?_
  obtain ⟨d, e1, e⟩ := bind_some e
  obtain ⟨xs, e3, e⟩ := bind_some e
  obtain ⟨ys, e2, e⟩ := bind_some e
  cases e
  refine ⟨O, Ow, es, d, hO, F, e1, fun H1 v s1 r1 => ?_⟩
  have fin : ∀ a vs, v = .ref a → (SqT X.K H1 a vs ∨ SqL X.K H1 a vs) → RoAll X.K X.w O H1 vs xs → ∃ p xs, v = V.ref p ∧ (SqT X.K H1 p xs ∨ SqL X.K H1 p xs) ∧ tA X.K X.w b fs σ H1 fun ys H2 => Q (xs ++ ys) H2 := fun a vs ha hq hr =>
    ⟨a, vs, ha, hq, O, Ow, es, ys, hO.same s1, F.same s1, e2, fun H2 ws s2 r2 => q H2 _ (s1.trans s2) ((hr.same s2).bs.app r2)⟩
  cases d with
  | list l =>
    cases e3
    obtain ⟨a, vs, h1, h2, h3⟩ := r1.list
    exact fin a vs h1 (.inr h2) h3
  | tuple l =>
    cases e3
    obtain ⟨a, vs, h1, h2, h3⟩ := r1.tup
    exact fin a vs h1 (.inl h2) h3
  | _ => cases e3
theorem se_tuple {k : Nat} (h : SA X false es fs) : SE X b (.Tuple es k pos) fun σ => (fs σ).bind fun ds => cond (decide (ds.length ≤ few)) (some (.tuple ds)) none := by
  refine (pe_tup h).imp fun σ H Q ⟨O, Ow, es, d, hO, F, e, q⟩ => ?_
  obtain ⟨ds, e1, e⟩ := bind_some e
  obtain ⟨c, e⟩ := cond_some e
  cases e
  have hl : ds.length ≤ few := of_decide_eq_true c
  have hf := few_line
  refine ⟨O, Ow, es, ds, hO, F, e1, fun H1 vs s1 r1 => ⟨by rw [r1.length]; omega, fun p hp => ?_⟩⟩
  exact q _ _ (s1.trans (same_upd hp)) (.inl (Ro.newT hp r1.all))
/-- a fresh list -/
def tF (K : PySem.W.Frag) (w : World) (f : List Sl → Option D) : TE := fun σ H Q => ∃ O Ow es d, OkO O H ∧ Fr K w O Ow es σ H ∧ f es = some d ∧
  ∀ H' p xs ds, Same H H' → H p = none → H' p = some (.lst xs) → d = .list ds → RoAll K w (fun a => O a ∨ a = p) H' xs ds → Q (.ref p) H'
abbrev SF (X : Cx) (e : Expr) (f : List Sl → Option D) : Prop := PE X e (tF X.K X.w f)
theorem SF.se (h : SF X e f) : SE X b e f := h.imp fun σ H Q ⟨O, Ow, es, d, hO, F, e, q⟩ => ⟨O, Ow, es, d, hO, F, e, fun H' p xs ds s hp h1 h2 h3 => q H' _ s (.inl (by
  subst h2
  exact .lst (.inl h1) (hO.none hp) (h3.less fun a z => .inl z)))⟩
theorem sf_list (h : SA X false es fs) : SF X (.List es pos) fun σ => (fs σ).bind fun ds => cond (decide (ds.length ≤ few)) (some (.list ds)) none := by
  refine (pe_lst h).imp fun σ H Q ⟨O, Ow, es, d, hO, F, e, q⟩ => ?_
  obtain ⟨ds, e1, e⟩ := bind_some e
  obtain ⟨c, e⟩ := cond_some e
  cases e
  have hl : ds.length ≤ few := of_decide_eq_true c
  have hf := few_line
  refine ⟨O, Ow, es, ds, hO, F, e1, fun H1 vs s1 r1 => ⟨by rw [r1.length]; omega, fun p hp => ?_⟩⟩
  have hp0 : H p = none := s1.free hp
  exact q _ p vs ds (s1.trans (same_upd hp)) hp0 upd_same rfl (r1.all.keeps (Same.keeps (same_upd hp)) fun a z => z.imp id fun e => by rw [e]; exact hp)

/-! ### operators -/
theorem se_bin {o : Operator} (h1 : SE X true e1 f1) (h2 : SE X true e2 f2) : SE X b (.BinOp e1 o e2 pos) fun σ => (f1 σ).bind fun x => (f2 σ).bind fun y => binD o x y := by
  refine (pe_op (op_binD o) h1 h2).imp fun σ H Q ⟨O, Ow, es, d, hO, F, e, q⟩ => ?_
  obtain ⟨x, e1, e⟩ := bind_some e
  obtain ⟨y, e2, e⟩ := bind_some e
  refine ⟨O, Ow, es, x, hO, F, e1, fun H1 v s1 r1 => ⟨O, Ow, es, y, hO.same s1, F.same s1, e2, fun H2 u s2 r2 => ?_⟩⟩
  exact ⟨O, true, x, y, d, (hO.same s1).same s2, r1.same s2, r2, e, fun H3 z s3 r3 => q H3 z ((s1.trans s2).trans s3) (.inl r3)⟩
theorem se_neg (h1 : SE X true e1 f1) : SE X b (.UnaryOp .USub e1 pos) fun σ => (f1 σ).bind fun d => match d with | .int i => some (.int (-i)) | _ => none := by
  refine (pe_un un_neg h1).imp fun σ H Q ⟨O, Ow, es, d, hO, F, e, q⟩ => ?_
  obtain ⟨x, e1, e⟩ := bind_some e
  refine ⟨O, Ow, es, x, hO, F, e1, fun H1 v s1 r1 => ?_⟩
  cases x with
  | int i =>
    cases e
    cases r1.int
    exact ⟨i, rfl, q H1 _ s1 (.inl (.int _))⟩
  | _ => cases e
theorem mark_of {op : CmpOp} (h : ∀ a k p, e2 ≠ .Set a k p) : behindInMarks op e2 = false := by
  cases e2 <;> first | rfl | exact absurd rfl (h _ _ _)
theorem cmp_read {o : CmpOp} {σ : L2.St} {H : Hp} {Q : VK} (h : tE X.K X.w b (fun σ => (f1 σ).bind fun x => (f2 σ).bind fun y => (cmpD o x y).map .bool) σ H Q) : tOp (rCmp X.K X.w (cmpD o)) (tE X.K X.w true f1) (tE X.K X.w true f2) σ H Q := by
  obtain ⟨O, Ow, es, d, hO, F, e, q⟩ := h
  obtain ⟨x, e1, e⟩ := bind_some e
  obtain ⟨y, e2, e⟩ := bind_some e
  obtain ⟨k, e3, e⟩ := Option.map_eq_some_iff.mp e
  subst e
  refine ⟨O, Ow, es, x, hO, F, e1, fun H1 v s1 r1 => ⟨O, Ow, es, y, hO.same s1, F.same s1, e2, fun H2 u s2 r2 => ?_⟩⟩
  exact ⟨O, true, x, y, k, r1.same s2, r2, e3, q H2 _ (s1.trans s2) (.inl (.bl k))⟩
theorem se_cmp {o : CmpOp} (hu : X.A.units + 65 < cLine) (hm : ∀ a k p, e2 ≠ .Set a k p) (h1 : SE X true e1 f1) (h2 : SE X true e2 f2) :
    SE X b (.Compare e1 [o] [e2] pos) fun σ => (f1 σ).bind fun x => (f2 σ).bind fun y => (cmpD o x y).map .bool :=
  (pe_cmpR (op_cmpD o hu) h1 h2 (mark_of hm)).imp fun σ H Q h => cmp_read h
theorem st_cmp {o : CmpOp} (hu : X.A.units + 65 < cLine) (hm : ∀ a k p, e2 ≠ .Set a k p) (h1 : SE X true e1 f1) (h2 : SE X true e2 f2) :
    ST X (.Compare e1 [o] [e2] pos) fun σ => (f1 σ).bind fun x => (f2 σ).bind fun y => cmpD o x y := by
  refine (pt_cmpR (op_cmpD o hu) h1 h2 (mark_of hm)).imp fun σ H Q ⟨O, Ow, es, k, hO, F, e, q⟩ => ?_
  refine cmp_read (b := true) ⟨O, Ow, es, .bool k, hO, F, ?_, fun H' v s r => ⟨k, r.bl, q H' s⟩⟩
  obtain ⟨x, e1, e⟩ := bind_some e
  obtain ⟨y, e2, e⟩ := bind_some e
  show (f1 es).bind _ = _
  rw [e1, Option.bind_some, e2, Option.bind_some, e]; rfl
end
end EV

namespace EV
open PySem PySem.Spec PyProof.Rows L2
section
variable {K : PySem.W.Frag} {w : World} {O : Addr → Prop} {H : Hp} {b : Bool}
theorem RoB.tru {v : V} {d : D} {k : Bool} (h : RoB K w O H b v d) (e : truD d = some k) : TruV K v H k := by
  cases d with
  | none => cases h.non; exact (Option.some.inj e).symm
  | bool x => cases h.bl; exact (Option.some.inj e).symm
  | int i => cases h.int; exact (Option.some.inj e).symm
  | list xs =>
    obtain ⟨a, vs, rfl, h1, h2⟩ := h.list
    refine .inl ⟨vs, h1, ?_⟩
    rw [← Option.some.inj e]
    cases h2 <;> rfl
  | tuple xs =>
    obtain ⟨a, vs, rfl, h1, h2⟩ := h.tup
    refine .inr (.inl ⟨vs, h1, ?_⟩)
    rw [← Option.some.inj e]
    cases h2 <;> rfl
  | _ => cases e
end
section
variable {X : Cx} {b : Bool} {e e1 e2 e3 : Expr} {es : List Expr} {pos : Pos} {f f1 f2 f3 : List Sl → Option D} {g g1 g2 g3 : List Sl → Option Bool} {fs : List Sl → Option (List D)}
theorem se_not (h : SE X true e f) : SE X b (.UnaryOp .Not e pos) fun σ => (f σ).bind fun d => (truD d).map fun k => .bool !k := by
  refine (pe_notT h).imp fun σ H Q ⟨O, Ow, es, d, hO, F, e, q⟩ => ?_
  obtain ⟨x, e1, e⟩ := bind_some e
  obtain ⟨k, e2, e⟩ := Option.map_eq_some_iff.mp e
  subst e
  exact ⟨O, Ow, es, x, hO, F, e1, fun H1 v s1 r1 => ⟨k, r1.tru e2, q H1 _ s1 (.inl (.bl _))⟩⟩
theorem st_not (h : ST X e g) : ST X (.UnaryOp .Not e pos) fun σ => (g σ).map (!·) := by
  refine (pt_not h).imp fun σ H Q ⟨O, Ow, es, d, hO, F, e, q⟩ => ?_
  obtain ⟨k, e1, e⟩ := Option.map_eq_some_iff.mp e
  subst e
  exact ⟨O, Ow, es, k, hO, F, e1, fun H1 s1 => q H1 s1⟩
theorem st_val (h : SE X true e f) (he : ∀ whole, isTrue e X.env whole = (do let v ← whole; standAt e.pos; holding [v] (truthy v))) : ST X e fun σ => (f σ).bind truD := by
  refine (pt_truth h he).imp fun σ H Q ⟨O, Ow, es, d, hO, F, e, q⟩ => ?_
  obtain ⟨x, e1, e⟩ := bind_some e
  exact ⟨O, Ow, es, x, hO, F, e1, fun H1 v s1 r1 => ⟨d, r1.tru e, q H1 s1⟩⟩
theorem st_ifExp (ht : ST X e1 g1) (h2 : ST X e2 g2) (h3 : ST X e3 g3) : ST X (.IfExp e1 e2 e3 pos) fun σ => (g1 σ).bind fun k => cond k (g2 σ) (g3 σ) := by
  refine ⟨fun pins s σ H Q I ⟨O, Ow, es, d, hO, F, e, q⟩ => ?_⟩
  obtain ⟨k, e1, e⟩ := bind_some e
  refine isTrue_IfExp (thn (ht.run pins s σ H (fun c H1 => c = k ∧ Same H H1) I ⟨O, Ow, es, k, hO, F, e1, fun H1 s1 => ⟨rfl, s1⟩⟩) fun c s1 ⟨H1, I1, ec, s0⟩ => ?_)
  subst ec
  cases c with
  | true => exact h2.run pins s1 σ H1 Q I1 ⟨O, Ow, es, d, hO.same s0, F.same s0, e, fun H2 s2 => q H2 (s0.trans s2)⟩
  | false => exact h3.run pins s1 σ H1 Q I1 ⟨O, Ow, es, d, hO.same s0, F.same s0, e, fun H2 s2 => q H2 (s0.trans s2)⟩
theorem se_ifExp (ht : ST X e1 g1) (h2 : SE X b e2 f2) (h3 : SE X b e3 f3) : SE X b (.IfExp e1 e2 e3 pos) fun σ => (g1 σ).bind fun k => cond k (f2 σ) (f3 σ) := by
  refine (pe_ifExp ht h2 h3).imp fun σ H Q ⟨O, Ow, es, d, hO, F, e, q⟩ => ?_
  obtain ⟨k, e1, e⟩ := bind_some e
  refine ⟨O, Ow, es, k, hO, F, e1, fun H1 s1 => ?_⟩
  cases k with
  | true => exact ⟨O, Ow, es, d, hO.same s1, F.same s1, e, fun H2 v s2 r2 => q H2 v (s1.trans s2) r2⟩
  | false => exact ⟨O, Ow, es, d, hO.same s1, F.same s1, e, fun H2 v s2 r2 => q H2 v (s1.trans s2) r2⟩
theorem se_and1 (h : SE X b e f) {op : BoolOp} : SE X b (.BoolOp op [e] pos) f := pe_one h
theorem se_and (h : SE X b e1 f1) (h2 : SE X b (.BoolOp .And (e2 :: es) pos) f2) : SE X b (.BoolOp .And (e1 :: e2 :: es) pos) fun σ => (f1 σ).bind fun d => (truD d).bind fun k => cond k (f2 σ) (some d) := by
  refine (pe_andT h h2).imp fun σ H Q ⟨O, Ow, es, d, hO, F, e, q⟩ => ?_
  obtain ⟨x, e1, e⟩ := bind_some e
  obtain ⟨k, e2, e⟩ := bind_some e
  refine ⟨O, Ow, es, x, hO, F, e1, fun H1 v s1 r1 => ⟨k, r1.tru e2, ?_⟩⟩
  cases k with
  | true => exact ⟨O, Ow, es, d, hO.same s1, F.same s1, e, fun H2 v s2 r2 => q H2 v (s1.trans s2) r2⟩
  | false => cases e; exact q H1 v s1 r1
theorem se_or (h : SE X b e1 f1) (h2 : SE X b (.BoolOp .Or (e2 :: es) pos) f2) : SE X b (.BoolOp .Or (e1 :: e2 :: es) pos) fun σ => (f1 σ).bind fun d => (truD d).bind fun k => cond k (some d) (f2 σ) := by
  refine (pe_orT h h2).imp fun σ H Q ⟨O, Ow, es, d, hO, F, e, q⟩ => ?_
  obtain ⟨x, e1, e⟩ := bind_some e
  obtain ⟨k, e2, e⟩ := bind_some e
  refine ⟨O, Ow, es, x, hO, F, e1, fun H1 v s1 r1 => ⟨k, r1.tru e2, ?_⟩⟩
  cases k with
  | true => cases e; exact q H1 v s1 r1
  | false => exact ⟨O, Ow, es, d, hO.same s1, F.same s1, e, fun H2 v s2 r2 => q H2 v (s1.trans s2) r2⟩
/-- tests by and, or, whatever the whole is -/
abbrev SW (X : Cx) (e : Expr) (f : List Sl → Option Bool) : Prop := PW X e (tT X.K X.w f)
theorem _root_.L2.PW.imp {X : Cx} {e : Expr} {t t' : TT} (h : PW X e t) (hi : ∀ σ H Q, t' σ H Q → t σ H Q) : PW X e t' := ⟨fun wh pins s σ H Q I hq => h.run wh pins s σ H Q I (hi _ _ _ hq)⟩
theorem sw_and1 (h : ST X e g) : SW X (.BoolOp .And [e] pos) g := pw_and1 h
theorem sw_or1 (h : ST X e g) : SW X (.BoolOp .Or [e] pos) g := pw_or1 h
theorem sw_and (h : ST X e1 g1) (h2 : SW X (.BoolOp .And (e2 :: es) pos) g2) : SW X (.BoolOp .And (e1 :: e2 :: es) pos) fun σ => (g1 σ).bind fun k => cond k (g2 σ) (some false) := by
  refine (pw_and h h2).imp fun σ H Q ⟨O, Ow, es, d, hO, F, e, q⟩ => ?_
  obtain ⟨k, e1, e⟩ := bind_some e
  refine ⟨O, Ow, es, k, hO, F, e1, fun H1 s1 => ?_⟩
  cases k with
  | true => exact ⟨O, Ow, es, d, hO.same s1, F.same s1, e, fun H2 s2 => q H2 (s1.trans s2)⟩
  | false => cases e; exact q H1 s1
theorem sw_or (h : ST X e1 g1) (h2 : SW X (.BoolOp .Or (e2 :: es) pos) g2) : SW X (.BoolOp .Or (e1 :: e2 :: es) pos) fun σ => (g1 σ).bind fun k => cond k (some true) (g2 σ) := by
  refine (pw_or h h2).imp fun σ H Q ⟨O, Ow, es, d, hO, F, e, q⟩ => ?_
  obtain ⟨k, e1, e⟩ := bind_some e
  refine ⟨O, Ow, es, k, hO, F, e1, fun H1 s1 => ?_⟩
  cases k with
  | true => cases e; exact q H1 s1
  | false => exact ⟨O, Ow, es, d, hO.same s1, F.same s1, e, fun H2 s2 => q H2 (s1.trans s2)⟩
theorem se_chain {o o' : CmpOp} (hu : X.A.units + 65 < cLine) (hm : lastMarks [o, o'] [e2, e3] = false) (h1 : SE X true e1 f1) (h2 : SE X true e2 f2) (h3 : SE X true e3 f3) :
    SE X b (.Compare e1 [o, o'] [e2, e3] pos) fun σ => (f1 σ).bind fun x => (f2 σ).bind fun y => (cmpD o x y).bind fun k => cond k ((f3 σ).bind fun z => (cmpD o' y z).map .bool) (some (.bool false)) := by
  refine (pe_chain (op_cmpD o hu) (op_cmpD o' hu) h1 h2 h3 hm).imp fun σ H Q ⟨O, Ow, es, d, hO, F, e, q⟩ => ?_
  obtain ⟨x, e1, e⟩ := bind_some e
  obtain ⟨y, e2, e⟩ := bind_some e
  obtain ⟨k, e3, e⟩ := bind_some e
  refine ⟨O, Ow, es, x, hO, F, e1, fun H1 v s1 r1 => ⟨O, Ow, es, y, hO.same s1, F.same s1, e2, fun H2 u s2 r2 => ⟨O, true, x, y, k, r1.same s2, r2, e3, k, rfl, ?_⟩⟩⟩
  cases k with
  | true =>
    obtain ⟨z, e4, e⟩ := bind_some e
    obtain ⟨k', e5, e⟩ := Option.map_eq_some_iff.mp e
    subst e
    exact ⟨O, Ow, es, z, (hO.same s1).same s2, (F.same s1).same s2, e4, fun H3 t s3 r3 => ⟨O, true, y, z, k', r2.same s3, r3, e5, q H3 _ ((s1.trans s2).trans s3) (.inl (.bl _))⟩⟩
  | false =>
    cases e
    exact q H2 _ (s1.trans s2) (.inl (.bl _))
theorem st_chain {o o' : CmpOp} (hu : X.A.units + 65 < cLine) (hm : lastMarks [o, o'] [e2, e3] = false) (h1 : SE X true e1 f1) (h2 : SE X true e2 f2) (h3 : SE X true e3 f3) :
    ST X (.Compare e1 [o, o'] [e2, e3] pos) fun σ => (f1 σ).bind fun x => (f2 σ).bind fun y => (cmpD o x y).bind fun k => cond k ((f3 σ).bind fun z => cmpD o' y z) (some false) := by
  refine (pt_chain (op_cmpD o hu) (op_cmpD o' hu) h1 h2 h3 hm).imp fun σ H Q ⟨O, Ow, es, d, hO, F, e, q⟩ => ?_
  obtain ⟨x, e1, e⟩ := bind_some e
  obtain ⟨y, e2, e⟩ := bind_some e
  obtain ⟨k, e3, e⟩ := bind_some e
  refine ⟨O, Ow, es, x, hO, F, e1, fun H1 v s1 r1 => ⟨O, Ow, es, y, hO.same s1, F.same s1, e2, fun H2 u s2 r2 => ⟨O, true, x, y, k, r1.same s2, r2, e3, k, rfl, ?_⟩⟩⟩
  cases k with
  | true =>
    obtain ⟨z, e4, e⟩ := bind_some e
    exact ⟨O, Ow, es, z, (hO.same s1).same s2, (F.same s1).same s2, e4, fun H3 t s3 r3 => ⟨O, true, y, z, d, r2.same s3, r3, e, d, rfl, q H3 ((s1.trans s2).trans s3)⟩⟩
  | false =>
    cases e
    exact ⟨false, rfl, q H2 (s1.trans s2)⟩

/-! ### subscripts -/
theorem RoAll.atI {K : PySem.W.Frag} {w : World} {O : Addr → Prop} {H : Hp} {vs : List V} {ds : List D} {i : Int} {d : D} (h : RoAll K w O H vs ds) (e : atI ds i = some d) : ∃ v, atI vs i = some v ∧ Ro K w O H v d := by
  unfold L2.atI at e ⊢
  rw [h.length]
  obtain ⟨j, e1, e2⟩ := bind_some e
  rw [e1]
  exact h.get e2
theorem ix_D : IxR X (rOp X.K X.w ixD) := by
  intro value slice pins s σ H x y v u Q I rx ry ⟨O, b, dx, dy, d, hO, hx, hy, e, q⟩ hs
  unfold ixD at e
  split at e
  · obtain ⟨a, vs, rfl, h1, h2⟩ := hx.list
    cases hy.int
    obtain ⟨z, h3, h4⟩ := h2.atI e
    exact ix_list value slice pins s σ H _ _ v u Q I rx ry ⟨a, vs, _, z, rfl, rfl, h1, h3, q H z (Same.refl H) h4⟩ hs
  · obtain ⟨a, vs, rfl, h1, h2⟩ := hx.tup
    cases hy.int
    obtain ⟨z, h3, h4⟩ := h2.atI e
    exact ix_tup value slice pins s σ H _ _ v u Q I rx ry ⟨a, vs, _, z, rfl, rfl, h1, h3, q H z (Same.refl H) h4⟩ hs
  · obtain ⟨rfl, _⟩ := hy.str
    obtain ⟨ht, e⟩ := cond_some e
    obtain ⟨a, es, n, rfl, hk, k1, k2⟩ := hx.kd ht
    obtain ⟨u', v', h1, h2, h3⟩ := k1 _ _ e
    exact ix_kdict value slice pins s σ H _ _ v u Q I rx ry ⟨a, _, v', rfl, rfl, ⟨es, n, u', hk.at_, hk.lit, h1, h2⟩, q H v' (Same.refl H) h3⟩ hs
  · cases e
theorem plainIx_of (h : ∀ a b c d, e ≠ .Slice a b c d) : PlainIx e := by
  intro o i
  cases e <;> first | rfl | exact absurd rfl (h _ _ _ _)
theorem se_ix (hs : ∀ a b c d, e2 ≠ .Slice a b c d) (h1 : SE X true e1 f1) (h2 : SE X true e2 f2) : SE X b (.Subscript e1 e2 pos) fun σ => (f1 σ).bind fun x => (f2 σ).bind fun y => ixD x y := by
  refine (pe_ix ix_D h1 h2 (plainIx_of hs)).imp fun σ H Q ⟨O, Ow, es, d, hO, F, e, q⟩ => ?_
  obtain ⟨x, e1, e⟩ := bind_some e
  obtain ⟨y, e2, e⟩ := bind_some e
  refine ⟨O, Ow, es, x, hO, F, e1, fun H1 v s1 r1 => ⟨O, Ow, es, y, hO.same s1, F.same s1, e2, fun H2 u s2 r2 => ?_⟩⟩
  exact ⟨O, true, x, y, d, (hO.same s1).same s2, r1.same s2, r2, e, fun H3 z s3 r3 => q H3 z ((s1.trans s2).trans s3) (.inl r3)⟩
/-! slices -/
def rSl (K : PySem.W.Frag) (w : World) : V → Option Int → Option Int → Hp → VK → Prop := fun x lo hi H Q => ∃ O b dx d, OkO O H ∧ RoB K w O H b x dx ∧ slD dx lo hi = some d ∧ ∀ H' v, Same H H' → Ro K w O H' v d → Q v H'
theorem cut_ro {K : PySem.W.Frag} {w : World} {O : Addr → Prop} {H : Hp} {vs : List V} {ds : List D} (lo hi : Option Int) (h : RoAll K w O H vs ds) : RoAll K w O H (cutV vs lo hi) (cut ds lo hi) := by
  unfold cutV cut
  rw [h.length]
  exact (h.drop _).take _
theorem sl_D : SlR X (rSl X.K X.w) := by
  intro pins s σ H x v vl vu lo hi sl Q I rx hs pl pu ⟨O, b, dx, d, hO, hx, e, q⟩
  cases dx with
  | list ds =>
    obtain ⟨a, vs, rfl, h1, h2⟩ := hx.list
    cases e
    exact sl_list pins s σ H _ v vl vu lo hi sl Q I rx hs pl pu ⟨a, vs, rfl, h1, fun p hp => q _ _ (same_upd hp) (Ro.newL hO hp (cut_ro lo hi h2))⟩
  | tuple ds =>
    obtain ⟨a, vs, rfl, h1, h2⟩ := hx.tup
    cases e
    refine sl_tupA pins s σ H _ v vl vu lo hi sl Q I rx hs pl pu ⟨a, vs, rfl, h1, fun z => ?_, fun _ p hp => q _ _ (same_upd hp) (Ro.newT hp (cut_ro lo hi h2))⟩
    have e : cut ds lo hi = ds := by
      rw [h2.length] at z
      unfold cut
      rw [z.1, z.2]
      simp
    rw [e] at q
    exact q H _ (Same.refl H) (.tup h1 h2)
  | _ => cases e
def partF (f : Option (List Sl → Option D)) : List Sl → Option (Option Int) := fun σ => match f with
  | none => some none
  | some f => (f σ).bind fun d => match d with | .int i => some (some i) | _ => none
def tO (K : PySem.W.Frag) (w : World) (f : List Sl → Option (Option Int)) : TO := fun σ H Q => ∃ O Ow es d, OkO O H ∧ Fr K w O Ow es σ H ∧ f es = some d ∧ ∀ H', Same H H' → Q d H'
abbrev SO (X : Cx) (e : Option Expr) (f : List Sl → Option (Option Int)) : Prop := PO X e (tO X.K X.w f)
theorem _root_.L2.PO.imp {X : Cx} {e : Option Expr} {t t' : TO} (h : PO X e t) (hi : ∀ σ H Q, t' σ H Q → t σ H Q) : PO X e t' := ⟨fun pins s σ H Q I hq => h.run pins s σ H Q I (hi _ _ _ hq)⟩
theorem so_none : SO X none fun _ => some none := po_none.imp fun σ H Q ⟨O, Ow, es, d, hO, F, e, q⟩ => by cases e; exact q H (Same.refl H)
theorem so_some (h : SE X true e f) : SO X (some e) fun σ => (f σ).bind fun d => match d with | .int i => some (some i) | _ => none := by
  refine (po_some h).imp fun σ H Q ⟨O, Ow, es, d, hO, F, e, q⟩ => ?_
  obtain ⟨x, e1, e⟩ := bind_some e
  refine ⟨O, Ow, es, x, hO, F, e1, fun H1 v s1 r1 => ?_⟩
  cases x with
  | int i => cases e; exact ⟨i, r1.int, q H1 s1⟩
  | _ => cases e
theorem se_slice {lo hi : Option Expr} {fl fh : List Sl → Option (Option Int)} {p2 : Pos} (h : SE X true e f) (hl : SO X lo fl) (hh : SO X hi fh) :
    SE X b (.Subscript e (.Slice lo hi none p2) pos) fun σ => (f σ).bind fun d => (fl σ).bind fun l => (fh σ).bind fun h => slD d l h := by
  refine (pe_slice sl_D h hl hh).imp fun σ H Q ⟨O, Ow, es, d, hO, F, e, q⟩ => ?_
  obtain ⟨x, e1, e⟩ := bind_some e
  obtain ⟨l, e2, e⟩ := bind_some e
  obtain ⟨u, e3, e⟩ := bind_some e
  refine ⟨O, Ow, es, x, hO, F, e1, fun H1 v s1 r1 => ⟨O, Ow, es, l, hO.same s1, F.same s1, e2, fun H2 s2 => ⟨O, Ow, es, u, (hO.same s1).same s2, (F.same s1).same s2, e3, fun H3 s3 => ?_⟩⟩⟩
  exact ⟨O, true, x, d, ((hO.same s1).same s2).same s3, (r1.same s2).same s3, e, fun H4 z s4 r4 => q H4 z (((s1.trans s2).trans s3).trans s4) (.inl r4)⟩
end
end EV

/-! calls below which nothing is being shown: the library's contract of a def with one word more on the stack -/
namespace EV
open PySem PySem.Spec PyProof.Rows L2
structure FnG (P : Program) (w : World) (K : PySem.W.Frag) (mg : Str → Option Value) (base : Heap) (k : Nat) (f : Addr) (fd : FuncData) (ps : List Str) (sp : Sp) : Prop where
  len : ∀ vs H Q E, sp vs H Q E → vs.length = ps.length
  run : ∀ (A : Around) (outer : List Env) (s : Shared) (H : Hp) (args : Args) (us : List Value) (vs : List V) (Q : VK) (E : XK), Room k A → A.guards = some [] → Env0 P w K mg base A outer s H →
    BindsTo s fd args (ps.zip us) → Vals vs us → sp vs H Q E → codeAny (model P w) A (.call (.ref f) args) (CR CX0 outer P w H s Q E) s
section
variable {X : Cx} {k : Nat} {f : Addr} {fd : FuncData} {ps : List Str} {sp : Sp} {x : Str} {p pos : Pos} {e : Expr} {es : List Expr} {t : TA}
theorem pe_callG (F : FnG X.prog X.w X.K X.mg X.base k f fd ps sp) (hr : Room k X.A) (hgd : X.A.guards = some []) (hg : Gl X x) (hm : X.mg x = some (.ref f)) (hk : PySem.W.keepIn X.K (.ref f) = true) (hb : Binds X.K fd ps [])
    (ha : PA X (e :: es) t) (hdb : (x == ("__debug__" : Str)) = false) (he : starEach (e :: es) X.env = (false, eval e X.env) :: starEach es X.env) (hpl : (backTo pos (starEach es X.env)).any (·.1) = false) :
    PE X (.Call (.Name x p) (e :: es) [] pos) (tCall sp [] E0 t) := by
  refine ⟨fun pins s σ H Q I h => wpAny_Call_Name_kw (ld_glob I hg hm ?_ hdb)⟩
  refine PySem.W.callWith_K (h₀ := X.base) I.ok.mod.kin hk (thn (ha.run pos pins s σ H _ I h) fun us s1 ⟨vs, H1, J, r, q⟩ => ⟨J.kIn, ?_⟩) he hpl
  have q' : sp vs H1 Q E0 := by
    have z : sp (vs ++ []) H1 Q E0 := q
    rwa [List.append_nil] at z
  have hl : us.length = ps.length := r.length.symm.trans (F.len _ _ _ _ q')
  have hb' : BindsTo s1 fd ⟨us, []⟩ (ps.zip us) := by
    have := hb s1 us J.kIn (by rw [List.append_nil]; exact hl)
    rwa [List.append_nil] at this
  refine wpAny_call (codeAny_mono (F.run X.A X.stack s1 H1 ⟨us, []⟩ us vs Q E0 hr hgd J.env0 hb' r q') fun z s' hz => ?_)
  match z, hz with
  | .error _, hz => exact False.elim hz
  | .ok (.ret u), hz => exact J.after hz
  | .ok .next, hz => exact False.elim hz
  | .ok .brk, hz => exact False.elim hz
  | .ok .cont, hz => exact False.elim hz
end
section
variable {P : Program} {w : World} {K : PySem.W.Frag} {mg : Str → Option Value} {base : Heap}
theorem Fun.okG {x qual : Str} {st : Stmt} {f : Addr} {fd : FuncData} {N ps : List Str} {k : Nat} {sp : Sp} (F : Fun K x qual st f fd) (S : FnScope N ps (defScope st)) (len : ∀ vs H Q E, sp vs H Q E → vs.length = ps.length)
    (hbody : ∀ (cdv : Value) (A : Around) (outer : List Env) (s : Shared) (H : Hp) (vs : List V) (Q : VK) (E : XK), Room k (A.deeper (envOfC qual (defScope st) s.heap.objs.size f cdv)) → A.guards = some [] → sp vs H Q E →
      ∃ t, PSs (cxOf CX0 P w K mg base N qual (defScope st) f cdv A outer s H E).nox (defBody st) t ∧ t { nx := fun _ H' => Q .non H', rt := Q } (L2.start N vs) H) : FnG P w K mg base (k + 1) f fd ps sp := by
  obtain ⟨oc, od, kV, doc, pm, an, cdv, ct, osl, rfl, lk, hcd⟩ := F.ex
  refine ⟨len, fun A outer s H args us vs Q E hr hgd e0 hb r hsp => ?_⟩
  have old : ∀ {b : Addr} {o : Obj}, base.get? b = some o → s.heap.get? b = some o := fun {b o} e => (e0.bs b o e).1
  have kin : K.In s.heap := e0.mod.kin.keeps fun b o e => old e
  have nolim : s.heap.NoLimit := e0.mod.nolimit.keeps fun b o e => old e
  refine codeAny_call_function hr.depth (kin _ _ lk) rfl S.co S.gen rfl (PySem.W.codeRec_of kin hcd) (hb _ _ _ _ (wpAny_newFunctionEnv_cells S.kind (fun ⟨n, v⟩ hy => ?_) fun env he s1 x => ?_))
  · exact (S.par n (List.of_mem_zip hy).1).elim .inl fun q => .inr ⟨q, PySem.W.cellsFrom_some _ _ _ (.inl q)⟩
  · subst he
    obtain ⟨t, ht, hq⟩ := hbody cdv A outer s H vs Q E (hr.deeper _) hgd hsp
    refine ⟨nolim.keeps x.toInCall.keep, codeAny_func (wpAny_mono (ht.nox.run [] s1 (L2.start N vs) H _ (inv_start S hr.hd e0 (len _ _ _ _ hsp) r x) hq) (fun fl s' hs => ?_) fun e s' hs => hs)⟩
    match fl, hs with
    | .ret u, ⟨v, σ', H', J, rv, q⟩ => exact ⟨v, H', J.os, J.bare, J.base, J.hok, rv, q⟩
    | .next, ⟨σ', H', J, q⟩ => exact ⟨V.non, H', J.os, J.bare, J.base, J.hok, rfl, q⟩
    | .brk, ⟨_, _, _, q⟩ => exact False.elim q
    | .cont, ⟨_, _, _, q⟩ => exact False.elim q
end
end EV

namespace EV
open PySem PySem.Spec PyProof.Rows L2
theorem vals_each {K : PySem.W.Frag} {w : World} {O : Addr → Prop} {H : Hp} : ∀ {vs : List V} {us : List Value} {ds : List D}, Vals vs us → RoAll K w O H vs ds → PySem.W.EachIs (fun u d => ∃ v, RelV v u ∧ Ro K w O H v d) us ds
  | [], _, _, r, h => by cases r; cases h; exact .nil
  | v :: vs, _, _, r, h => by
    cases r with | cons r1 r2 =>
    cases h with | cons h1 h2 =>
    exact .cons ⟨v, r1, h1⟩ (vals_each r2 h2)
theorem each_vals {K : PySem.W.Frag} {w : World} {O : Addr → Prop} {H : Hp} : ∀ {us : List Value} {ds : List D}, PySem.W.EachIs (fun u d => ∃ v, RelV v u ∧ Ro K w O H v d) us ds → ∃ vs, Vals vs us ∧ RoAll K w O H vs ds
  | _, _, .nil => ⟨[], .nil, .nil⟩
  | _, _, .cons ⟨v, r, h⟩ t => by
    obtain ⟨vs, r2, h2⟩ := each_vals t
    exact ⟨v :: vs, .cons r r2, .cons h h2⟩
section
variable {X : Cx}
theorem reads_all {pins : List (Addr × Obj)} {s : Shared} {σ : L2.St} {H : Hp} (I : Inv X pins σ H s) {O : Addr → Prop} : ∀ {us : List Value} {ds : List D}, PySem.W.EachIs (fun u d => ∃ v, RelV v u ∧ Ro X.K X.w O H v d) us ds → dles 60 ds = true → PySem.W.EachIs (fun u d => ∃ as, Reads s.heap u d as) us ds
  | _, _, .nil, _ => .nil
  | _, _, .cons ⟨v, r, h⟩ t, e => by
    rw [dles, Bool.and_eq_true] at e
    exact .cons (Dp.reads I _ _ _ (h.dp 60 e.1).1 r) (reads_all I t e.2)
theorem dles_mem : ∀ {ds : List D}, dles 60 ds = true → ∀ d ∈ ds, dle 60 d = true
  | d :: ds, e, x, hx => by
    rw [dles, Bool.and_eq_true] at e
    rcases List.mem_cons.mp hx with rfl | hx
    · exact e.1
    · exact dles_mem e.2 x hx
theorem call_sortedX (hu : X.A.units + 65 < cLine) : CallR X (.builtin "sorted") (fun xs H Q => ∃ O b ds d, OkO O H ∧ RoBs X.K X.w O H b xs ds ∧ sortD ds = some d ∧ ∀ H' v, Same H H' → Ro X.K X.w O H' v d → Q v H') := by
  intro pins s σ H xs us Q I rx ⟨O, b, ds, d, hO, hx, e, q⟩
  unfold sortD at e
  split at e
  · rename_i ys
    obtain ⟨c, e⟩ := cond_some e
    cases e
    unfold sortOk at c
    simp only [Bool.and_eq_true, List.all_eq_true, Bool.or_eq_true] at c
    obtain ⟨c1, c2, c3, c4⟩ := c
    cases hx with | cons h t =>
    cases t
    obtain ⟨a, vs, rfl, h1, h2⟩ := h.list
    obtain ⟨its, rv, hl, _⟩ := I.list h1
    rw [Vals.ref1 rx]
    have ea := vals_each rv h2
    have hf := few_line
    have c4 := of_decide_eq_true c4
    refine PySem.W.sorted_data (enc := id) hl.isList ea (reads_all I ea c3) ?_ ?_ (by omega) (fun x hx => ?_) fun out ho er => ?_
    · rw [List.map_id]
      exact fun x hx y hy => c1 x hx y hy
    · rw [List.map_id]
      rcases c2 with c2 | c2
      · refine .inl fun x hx => ?_
        have := c2 x hx
        unfold isTupN at this
        split at this
        · exact ⟨_, _, rfl⟩
        · cases this
      · refine .inr fun x hx => ?_
        have := c2 x hx
        unfold isPlainD at this
        split at this
        · cases this
        · cases this
        · rename_i n1 n2
          exact ⟨n1, n2⟩
    · have := dle_depth 60 x (dles_mem c3 x hx)
      show X.A.units + 2 + x.depth < cLine
      omega
    · obtain ⟨vs', r', h'⟩ := each_vals er
      obtain ⟨ep, he'⟩ := PyProof.Rows.sortedAll_at s.heap its (List.toArray out)
      have hlen : vs'.length ≤ sizeLine := by
        rw [r'.length, ho]; omega
      have hfr : H (s.heap.objs.size + 1) = none := I.hok.fresh (Nat.le_succ _)
      exact ⟨.ref _, upd H (s.heap.objs.size + 1) (.lst vs'), I.laid (t' := s.toks) (fun _ _ => PyProof.Rows.sortedAll_old) (Nat.le_succ _) ⟨hlen, out, ep, r', he'⟩, rfl, q _ _ (same_upd hfr) (Ro.newL hO hfr h')⟩
  · cases e
/-! texts of data are texts -/
theorem all_app (x y : Str) : PyData.strOk (x ++ y) = (PyData.strOk x && PyData.strOk y) := by
  show (x.cps ++ y.cps).all _ = _
  rw [Array.all_append]; rfl
theorem all_from : ∀ (ts : List Str) (k : Nat) (acc : Str), PyData.strOk acc = true → (∀ t ∈ ts, PyData.strOk t = true) → PyData.strOk (textFrom k acc ts) = true
  | [], _, acc, h, _ => h
  | t :: r, k, acc, h, ht => by
    refine all_from r (k + 1) _ ?_ fun z hz => ht z (List.mem_cons_of_mem _ hz)
    rw [all_app, all_app, h, ht t List.mem_cons_self]
    split <;> decide +kernel
theorem all_join : ∀ ts : List Str, (∀ t ∈ ts, PyData.strOk t = true) → PyData.strOk (Str.join ", " ts) = true
  | [], _ => by decide +kernel
  | [x], h => h x List.mem_cons_self
  | x :: y :: r, h => by
    have ih := all_join (y :: r) fun z hz => h z (List.mem_cons_of_mem _ hz)
    show PyData.strOk (x ++ ", " ++ Str.join ", " (y :: r)) = true
    rw [all_app, all_app, h x List.mem_cons_self, ih]
    decide +kernel
theorem char_small (c : Char) : c.toNat < 1114112 := by
  rcases c.valid with h | ⟨_, h⟩
  · have h1 : c.toNat < 55296 := h
    omega
  · exact h
theorem all_ofString (x : String) : PyData.strOk (Str.ofString x) = true := by
  rw [Str.ofString_eq_toList]
  unfold PyData.strOk
  rw [Array.all_eq_true]
  intro i hi
  simp only [Array.getElem_map, decide_eq_true_eq]
  simp
  exact char_small _
theorem all_reprChar {q c : Nat} (hq : q < 128) (hc : c < 1114112) : ∀ x ∈ Builtin.Str.reprChar q c, x < 1114112 := by
  intro x hx
  have hd : ∀ {w : Nat} {x : Nat}, x ∈ List.replicate w 48 ++ (Nat.toDigits 16 c).map Char.toNat → x < 1114112 := fun {w x} h => by
    rcases List.mem_append.mp h with h | h
    · rw [(List.mem_replicate.mp h).2]; decide
    · obtain ⟨d, _, rfl⟩ := List.mem_map.mp h
      exact char_small d
  unfold Builtin.Str.reprChar at hx
  repeat' split at hx
  all_goals first
    | (simp at hx; rcases hx with rfl | rfl <;> first | omega | exact hc)
    | (simp at hx; subst hx; exact hc)
    | (rw [List.mem_append] at hx
       rcases hx with hx | hx
       · simp at hx; omega
       · exact hd hx)
theorem all_fold {q : Nat} (hq : q < 128) : ∀ (l : List Nat) (acc : Array Nat), (∀ c ∈ l, c < 1114112) → acc.all (· < 1114112) = true → (l.foldl (fun out c => out ++ (Builtin.Str.reprChar q c).toArray) acc).all (· < 1114112) = true
  | [], _, _, h => h
  | c :: r, acc, hl, h => by
    refine all_fold hq r _ (fun x hx => hl x (List.mem_cons_of_mem _ hx)) ?_
    rw [Array.all_append, h, Bool.true_and, List.all_toArray, List.all_eq_true]
    exact fun x hx => decide_eq_true (all_reprChar hq (hl c List.mem_cons_self) x hx)
theorem all_reprText {x : Str} (h : PyData.strOk x = true) : PyData.strOk (reprText x) = true := by
  have hq : reprQuote x < 128 := by unfold reprQuote; split <;> decide
  unfold PyData.strOk at h ⊢
  unfold reprText
  show Array.all (Array.push _ _) _ = true
  rw [← Array.foldl_toList]
  have h1 := all_fold hq x.cps.toList #[reprQuote x] (fun c hc => by
    rw [Array.all_eq_true_iff_forall_mem] at h
    exact of_decide_eq_true (h c (by simpa using hc))) (by simp; omega)
  rw [Array.all_push, h1]
  simp; omega
mutual
theorem all_shown : ∀ d : D, d.canLay0 = true → PyData.strOk d.shown = true
  | .none, _ => by decide +kernel
  | .bool b, _ => by cases b <;> decide +kernel
  | .int i, _ => by rw [PyData.shown]; exact all_ofString _
  | .str x, h => by rw [PyData.shown]; exact all_reprText h
  | .list xs, h => by
    rw [PyData.shown]
    unfold listText
    rw [all_app, all_from _ _ _ (by decide +kernel) (alls_shown xs h)]
    decide +kernel
  | .tuple xs, h => by
    rw [PyData.shown]
    unfold tupleText
    rw [all_app, all_app, all_join _ (alls_shown xs h)]
    split <;> decide +kernel
  | .dict _, h => by cases h
theorem alls_shown : ∀ ds : List D, PyData.canLayAll0 ds = true → ∀ t ∈ PyData.shownAll ds, PyData.strOk t = true
  | [], _, t, ht => by cases ht
  | d :: ds, h, t, ht => by
    rw [PyData.canLayAll0, Bool.and_eq_true] at h
    rw [PyData.shownAll] at ht
    rcases List.mem_cons.mp ht with rfl | ht
    · exact all_shown d h.1
    · exact alls_shown ds h.2 t ht
end
mutual
theorem nodict : ∀ (n : Nat) (d : D), dle n d = true → d.hasDict = false
  | _, .none, _ => rfl
  | _, .bool _, _ => rfl
  | _, .int _, _ => rfl
  | _, .str _, _ => rfl
  | 0, .list _, e => by cases e
  | 0, .tuple _, e => by cases e
  | n + 1, .list xs, e => by rw [PyData.hasDict]; exact nodicts n xs e
  | n + 1, .tuple xs, e => by rw [PyData.hasDict]; exact nodicts n xs e
  | 0, .dict _, e => by cases e
  | n + 1, .dict _, e => by cases e
theorem nodicts : ∀ (n : Nat) (ds : List D), dles n ds = true → PyData.hasDictAll ds = false
  | _, [], _ => rfl
  | n, d :: ds, e => by
    rw [dles, Bool.and_eq_true] at e
    rw [PyData.hasDictAll, nodict n d e.1, nodicts n ds e.2]; rfl
end
theorem call_reprX (hu : X.A.units + 65 < cLine) (hgd : X.A.guards = some []) : CallR X (.builtin "repr") (fun xs H Q => ∃ O b ds d, OkO O H ∧ RoBs X.K X.w O H b xs ds ∧ reprD ds = some d ∧ ∀ H' v, Same H H' → Ro X.K X.w O H' v d → Q v H') := by
  intro pins s σ H xs us Q I rx ⟨O, b, ds, d, hO, hx, e, q⟩
  unfold reprD at e
  split at e
  · rename_i y
    obtain ⟨c, e⟩ := cond_some e
    cases e
    rw [Bool.and_eq_true, Bool.and_eq_true, Bool.and_eq_true] at c
    obtain ⟨c1, c2, c3, c4⟩ := c
    cases hx with | @cons v0 _ _ _ h t =>
    cases t
    obtain ⟨hd, hc⟩ := h.dp 60 c1
    have qs : Q (.str y.shown) H := q H _ (Same.refl H) (.str _ (all_shown y hc))
    have hlen : y.shown.length ≤ sizeLine := by
      have := PyProof.Rows.shown_le13 c2 c3
      rw [sizeLine_eq]; omega
    obtain ⟨u, rfl⟩ : ∃ u, us = [u] := by cases rx with | cons r t => cases t; exact ⟨_, rfl⟩
    have ru : RelV v0 u := by cases rx with | cons r t => exact r
    have tok : ∀ t', Inv X pins σ H { s with toks := t' } := fun t' => I.kept (h' := s.heap) fun _ _ z => z
    cases y with
    | none => cases h.non; cases ru; exact PySem.P.repr_of_none ⟨.str _, H, tok _, ⟨_, rfl⟩, qs⟩
    | bool x =>
      cases h.bl
      cases ru
      refine PySem.P.repr_of_bool ⟨.str _, H, tok _, ⟨_, rfl⟩, ?_⟩
      cases x <;> exact qs
    | int i =>
      cases h.int
      obtain ⟨t, rfl⟩ := ru
      exact PySem.P.repr_of_int (of_decide_eq_true c4) ⟨.str _, H, tok _, ⟨_, rfl⟩, qs⟩
    | str x =>
      obtain ⟨rfl, _⟩ := h.str
      obtain ⟨t, rfl⟩ := ru
      exact PySem.P.repr_of_str ⟨.str _, H, tok _, ⟨_, rfl⟩, qs⟩ hlen
    | list x =>
      obtain ⟨a, vs, rfl, _, _⟩ := h.list
      cases ru
      obtain ⟨as, r⟩ := Dp.reads I _ _ _ hd rfl
      have hn := nodict 60 _ c1
      have hdp := dle_depth 60 _ c1
      exact repr_of_reads' r c4 (fun z => by rw [hn] at z; cases z) hgd (by omega) (fun _ _ z => z) (fun h' u tk k => ⟨.str _, H, I.kept k, ⟨_, rfl⟩, qs⟩) hlen
    | tuple x =>
      obtain ⟨a, vs, rfl, _, _⟩ := h.tup
      cases ru
      obtain ⟨as, r⟩ := Dp.reads I _ _ _ hd rfl
      have hn := nodict 60 _ c1
      have hdp := dle_depth 60 _ c1
      exact repr_of_reads' r c4 (fun z => by rw [hn] at z; cases z) hgd (by omega) (fun _ _ z => z) (fun h' u tk k => ⟨.str _, H, I.kept k, ⟨_, rfl⟩, qs⟩) hlen
    | dict x => cases c1
  · cases e
end
end EV

set_option maxHeartbeats 1000000
namespace EV
open PySem PySem.W PySem.Calls PyProof.Rows
/-! ### an own exception's __init__ that says super().__init__(at) and self.at = at -/
def iBody (p0 p1 p2 p3 p4 p5 p6 p7 p8 p9 : Pos) : List Stmt :=
  [.Expr (.Call (.Attribute (.Call (.Name "super" p0) [] [] p1) "__init__" p2) [.Name "at" p3] [] p4) p5, .Assign [.Attribute (.Name "self" p6) "at" p7] (.Name "at" p8) p9]
def iCall (p0 p1 p2 p3 p4 : Pos) : Expr := .Call (.Attribute (.Call (.Name "super" p0) [] [] p1) "__init__" p2) [.Name "at" p3] [] p4
def iEv (p0 p1 p2 p3 p4 : Pos) (pl : Sem Bool) (env : Env) : Sem Value := do
  let ov ← attributeBase (.Call (.Name "super" p0) [] [] p1) "__init__" env (eval (.Call (.Name "super" p0) [] [] p1) env)
  standAt p2.atName
  let (f, first) ← holding [ov] (getMethod ov "__init__" pl)
  callWith p4 f first (backTo p4 (starEach [.Name "at" p3] env)) []
structure IniF (P : Program) (K : Frag) (D fI cc cda : Addr) (qual : Str) (params : Arguments) (body : List Stmt) (scope : Scope) : Prop where
  lk : ∃ (nm : Str) (oc : Value) (od : Option Addr) (kV doc pm : Value) (an : Option Addr) (ct : Value) (osl : Array (Option Value)), K.lookup fI = some ⟨oc, od, .func (ksFn nm qual params body scope .none kV doc pm an (.ref cda) ct cc), osl⟩
  cd : codeIn K (.ref cda) qual = true
  cell : ∃ (cl : Value) (cld : Option Addr) (csl : Array (Option Value)), K.lookup cc = some ⟨cl, cld, .cell (some (.ref D)), csl⟩
  code : ∃ (ccl : Value) (cdd : Option Addr) (vs : Array Value) (ccs : Array (Option Value)) (file : Str) (tf : Tok), K.lookup cda = some ⟨ccl, cdd, .fields vs, ccs⟩ ∧ vs[2]? = some (.str file tf) ∧ ((P.main.file : Str) == file) = true
  cls : ∃ cdD, clsIn K D = some cdD
  any : nsIn K cStatics "thirdparty.any" = some none
  kind : scope.kind = .function
  co : scope.isCoroutine = false
  gen : scope.isGenerator = false
  nocell : ∀ x ∈ scope.names, x.2 ≠ .cell
  sup : scope.names.lookup ("super" : Str) = some .globalImplicit
  cls_ : scope.names.lookup ("__class__" : Str) = some .free
  slf : scope.names.lookup ("self" : Str) = some .local
  at_ : scope.names.lookup ("at" : Str) = some .local
  head : ∃ ar, (params.posonlyargs ++ params.args).head? = some ar ∧ ar.arg = ("self" : Str)
  top : (P.main.scope.names.lookup ("super" : Str)).isSome = false
/-- what the class is: its name's own init, its line of classes -/
structure ExcF (K : Frag) (C D fI : Addr) : Prop where
  oex : L2.OexC K C
  ini : findIn K (.ref C) "__init__" = some (some (.ref fI))
  typ : typeIn K (.ref fI) = some (.type "function")
  sub : mroIn K C (.ref D) = some true
  subV : subIn K (.ref C) (.type "ValueError") = some true
  sup : ks_superIn K C D "__init__" = some (some (.builtin "ValueError.__init__"))
  noat : findIn K (.ref C) "at" = some none
section
variable {P : Program} {w : World} {K : Frag} {mg : Str → Option Value} {base : Heap} {A : Around} {D fI cc cda C a t0 : Addr} {qual : Str} {params : Arguments} {scope : Scope} {p0 p1 p2 p3 p4 p5 p6 p7 p8 p9 : Pos}
/-- the wrapper called -/
theorem mw_call {u t : Addr} {rest : List Value} {h : Heap} {g : Array GenState} {d : Drawn} {tk : Nat} {os : OsState} {E : Value → Shared → Prop} {Q : Value → Shared → Prop} (T : L2.OexC K C) (X : K.In h) (hu : h.get? u = some (kxs_mw "ValueError.__init__" a)) (he : h.get? a = some (HandSPX.excO C t)) (hz : rest.length ≤ sizeLine)
    (fin : ∀ h' t', (∀ b o, b ≠ a → h.get? b = some o → h'.get? b = some o) → h'.get? a = some (HandSPX.excO C t') → Q .none ⟨h', g, d, tk, os⟩) :
    wpAny (model P w) A (call (.ref u) rest) Q E ⟨h, g, d, tk, os⟩ := by
  obtain ⟨nm, q, N, bs, bm, sn, sub, ab, col, dd, k0, k1, k2, k3, k5, hC, hbm⟩ := T.cls
  refine wpAny_call (codeAny_of_tree ?_)
  show wpAny _ A.in1 (callAny (.ref u) ⟨rest, []⟩) _ _ _
  simp only [callAny]
  refine wpAny_bind (wpAny_load hu ?_)
  simp only [kxs_mw, show (Value.type "method-wrapper" == Value.type "method" || Value.type "method-wrapper" == Value.type "builtin_function_or_method" || Value.type "method-wrapper" == Value.type "method-wrapper") = true by decide, if_true]
  refine KFB.if_so (by decide) ?_
  refine wpAny_bind (check_bound_init F.excBase_ValueError.toExcCallFacts (X _ _ hC) he rfl ?_)
  refine wpAny_bind (wpAny_pure (wpAny_pure ?_))
  refine ⟨plainId_quiet F.excBase_ValueError.init.plain _, codeAny_builtin F.excBase_ValueError.initEntry ?_⟩
  exact exc_init_tree (cls := .ref C) (t0 := t) (dv := none) (c2 := .none) (c3 := .none) (b4 := .bool false) he hz fun h' k e' _ => fin h' _ k e'
theorem Rows_ldL {M : Model} {A : Around} {E : Value → Shared → Prop} {s : Shared} {env : Env} {m : Str → Option Value} {x : Str} {pos : Pos} {v : Value} {Q : Value → Shared → Prop} (hn : s.heap.Ns env.locals m) (hv : m x = some v) (h : Q v s)
    (hk : env.scope.kind = .function) (hl : env.kindOf x = some .local) (hd : (x == ("__debug__" : Str)) = false) : wpAny M A (eval (.Name x pos) env) Q E s := wpAny_Name (wpAny_loadName_local hk hl hn hv h) hd
theorem init_code {v : Value} {s : Shared} {R : Result → Shared → Prop} (M : L2.Mod K mg base) (old : ∀ b o, base.get? b = some o → s.heap.get? b = some o) (I : IniF P K D fI cc cda qual params (iBody p0 p1 p2 p3 p4 p5 p6 p7 p8 p9) scope) (T : ExcF K C D fI)
    (hms : mg "super" = none) {pl : Sem Bool} (hev : ∀ L f cd cc, eval (iCall p0 p1 p2 p3 p4) (ksEnv qual scope L f cd cc) = iEv p0 p1 p2 p3 p4 pl (ksEnv qual scope L f cd cc)) (hint : ∀ L f cd cc, interactive (ksEnv qual scope L f cd cc) = false)
    (hsw1 : ∀ L f cd cc, swapsWith (iCall p0 p1 p2 p3 p4) none p5.line (ksEnv qual scope L f cd cc) = pure false) (hsw2 : ∀ L f cd cc, swapsWith (.Name "at" p8) (some (.Attribute (.Name "self" p6) "at" p7)) p9.line (ksEnv qual scope L f cd cc) = pure false) (hr : A.depth < recursionLimit) (han : base.get? a = none) (ha : s.heap.get? a = some (HandSPX.excO C t0))
    (hb : ∀ (nm : Str) (kV doc pm : Value) (an : Option Addr) (ct : Value), BindsTo s (ksFn nm qual params (iBody p0 p1 p2 p3 p4 p5 p6 p7 p8 p9) scope .none kV doc pm an (.ref cda) ct cc) ⟨[.ref a, v], []⟩ [("self", .ref a), ("at", v)])
    (hq : ∀ h' tk t1 dx, (∀ b o, b ≠ a → s.heap.get? b = some o → h'.get? b = some o) → s.heap.objs.size ≤ dx → h'.get? a = some { cls := .ref C, dict := some dx, data := .fields #[.ref t1, .none, .none, .none, .bool false, .none] } →
      h'.Ns1 dx (fun y => if y = ("at" : Str) then some v else none) → R (.ok (.ret .none)) { s with heap := h', toks := tk }) :
    codeAny (model P w) A (.call (.ref fI) ⟨[.ref a, v], []⟩) R s := by
  have X : K.In s.heap := M.kin.keeps old
  obtain ⟨nm, oc, od, kV, doc, pm, an, ct, osl, lk⟩ := I.lk
  obtain ⟨cl, cld, csl, hcell⟩ := I.cell
  obtain ⟨ccl, cdd, vs, ccs, file, tf, hcode, hvs, hfile⟩ := I.code
  obtain ⟨cdD, hD⟩ := I.cls
  obtain ⟨ar, har, harg⟩ := I.head
  have nolim : s.heap.NoLimit := M.nolimit.keeps old
  have hal : a < s.heap.objs.size := Heap.lt_size ha
  refine ks_codeAny_call_defAt (fd := ksFn nm qual params (iBody p0 p1 p2 p3 p4 p5 p6 p7 p8 p9) scope .none kV doc pm an (.ref cda) ct cc) (body := iBody p0 p1 p2 p3 p4 p5 p6 p7 p8 p9) (binds := [("self", .ref a), ("at", v)]) hr (X _ _ lk) rfl nolim (codeRec_of X I.cd) rfl
    (hb nm kV doc pm an ct) I.nocell (fun x hx => ?_) (fun h1 hns k1 => ?_) I.co I.gen I.kind
  · simp only [List.mem_cons, List.not_mem_nil, or_false] at hx
    rcases hx with rfl | rfl
    · exact I.slf
    · exact I.at_
  have X1 : K.In h1 := X.keeps k1
  have ha1 : h1.get? a = some (HandSPX.excO C t0) := k1 _ _ ha
  have haL : s.heap.objs.size ≠ a := Nat.ne_of_gt hal
  obtain ⟨mb, hb1, hb2⟩ := M.blt
  have up : ∀ b o, base.get? b = some o → h1.get? b = some o := fun b o e => k1 b o (old b o e)
  have mself : (fun x => ([("self", Value.ref a), ("at", v)] : List (Str × Value)).reverse.lookup x) ("self" : Str) = some (.ref a) := by rfl
  have mat : (fun x => ([("self", Value.ref a), ("at", v)] : List (Str × Value)).reverse.lookup x) ("at" : Str) = some v := by rfl
  show _root_.PySem.wpAt (model P w) (A.deeper (ksEnv qual scope s.heap.objs.size fI (.ref cda) cc)) (.func (iBody p0 p1 p2 p3 p4 p5 p6 p7 p8 p9) (ksEnv qual scope s.heap.objs.size fI (.ref cda) cc)) (execs (iBody p0 p1 p2 p3 p4 p5 p6 p7 p8 p9) (ksEnv qual scope s.heap.objs.size fI (.ref cda) cc)) _ _ _
  generalize hm : (fun x => ([("self", Value.ref a), ("at", v)] : List (Str × Value)).reverse.lookup x) = m at hns mself mat
  generalize hL : s.heap.objs.size = L at *
  obtain ⟨oD, hD1, hD2⟩ : ∃ oD, h1.get? D = some oD ∧ oD.data = .cls cdD := by
    unfold clsIn at hD
    split at hD
    · rename_i c d cd' sl ho
      cases hD
      exact ⟨_, X1 _ _ ho, rfl⟩
    · cases hD
  refine ks_wpAt_execs_cons (ks_wpAt_Expr_any (ks_wpAt_MethodCall (pl := pl) (ks_wpAt_super_base (env := ksEnv qual scope L fI (.ref cda) cc) I.sup I.cls_ rfl rfl (X1 _ _ lk) rfl har rfl (X1 _ _ hcode) rfl hvs hfile I.top ?_) (hev _ _ _ _)) (hint _ _ _ _) (hsw1 _ _ _ _))
  refine ks_loadName_global I.kind I.sup (loadGlobal_builtin (env := ksEnv qual scope L fI (.ref cda) cc) (M.glob.keeps up) hms (hb1.keeps up) ((hb2 _ (by decide +kernel)).trans (show bootBuiltins "super" = some (.type "super") by decide +kernel)) ⟨rfl, ?_⟩)
  refine wpAny_loadName_free I.kind I.cls_ rfl ⟨_, X1 _ _ hcell, rfl⟩ ?_
  rw [harg]
  refine wpAny_loadName_local I.kind I.slf hns mself ?_
  refine ks_wpAny_isType_cls hD1 hD2 ⟨rfl, ?_⟩
  refine ks_wpAny_call_super hD1 hD2 ha1 rfl (fun c e => by cases e) (looks_mroIn X1 T.sub) (fun h2 e2 k2 => ?_)
  have X2 : K.In h2 := X1.keeps k2
  have ha2 : h2.get? a = some (HandSPX.excO C t0) := k2 _ _ ha1
  obtain ⟨nmC, qC, NC, bsC, bmC, snC, subC, abC, colC, ddC, c0, c1, c2, c3, c5, hC, hbm⟩ := T.oex.cls
  have hcl : clsIn K C = some { name := nmC, bases := bsC, mro := .ref C :: bmC, ns := NC, qualname := qC, hasDict := true, slotNames := snC, subclasses := subC, abstract := abC, collection := colC, hasDel := false } := by unfold clsIn; rw [hC] <;> rfl
  have hsup := T.sup
  unfold ks_superIn at hsup
  rw [hcl] at hsup
  have hCo : h2.get? C = _ := X2 _ _ hC
  have haC : a ≠ C := fun z => by rw [z] at ha2; rw [ha2] at hCo; cases hCo
  refine kxs_getMethod kxs_ValueError (so := h1.objs.size) (C := C) (D := D) e2 (looks_opaque X2 I.any) (l₀ := .ref C :: bmC) (fun A Q E s k q => wpAny_bind ((looks_clsIn X2 hcl) A _ E s k (wpAny_pure q))) rfl X2 hsup ?_ haC rfl ?_
  · exact (show Looks (model P w) h2 (isInstance (.ref a) (.type "ValueError")) true from (InstAt.type (C := C) (od := none) ⟨ha2, rfl, rfl, trivial⟩).andThen (looks_subIn X2 T.subV))
  have k3 : ∀ b o, h2.get? b = some o → (h2.push (kxs_mw "ValueError.__init__" a)).get? b = some o := fun b o e => Heap.get?_push_of_some _ e
  have hu3 : (h2.push (kxs_mw "ValueError.__init__" a)).get? h2.objs.size = some (kxs_mw "ValueError.__init__" a) := Heap.get?_push_size _ rfl
  have ns3 : (h2.push (kxs_mw "ValueError.__init__" a)).Ns L m := PySem.Heap.Ns.at' hns fun o e => k3 _ _ (k2 _ _ e)
  refine kxs_callWith (i := "ValueError.__init__") (x := a) rfl (evalArgs_plain (spliced_cons (Rows_ldL ns3 mat ?_ I.kind I.at_ rfl)))
  refine spliced_nil ⟨hu3, ?_⟩
  refine mw_call T.oex (X2.keeps k3) hu3 (k3 _ _ ha2) (by show 1 ≤ sizeLine; decide) fun h4 t4 k4 ha4 => ?_
  have kL : L ≠ a := haL
  have ns4 : h4.Ns L m := PySem.Heap.Ns.at' ns3 fun o e => k4 _ _ kL e
  have nb : ∀ b o, base.get? b = some o → b ≠ a := fun b o e z => by rw [z, han] at e; cases e
  have up4 : ∀ b o, base.get? b = some o → h4.get? b = some o := fun b o e => k4 b o (nb b o e) (k3 _ _ (k2 _ _ (up b o e)))
  have X4 : K.In h4 := M.kin.keeps up4
  have old4 : ∀ b o, b ≠ a → s.heap.get? b = some o → h4.get? b = some o := fun b o n e => k4 b o n (k3 _ _ (k2 _ _ (k1 b o e)))
  refine ks_wpAt_execs_cons (ks_wpAt_Assign_Attr (wpAt_of_wpAny (Rows_ldL ns4 mat (Rows_ldL ns4 mself ?_ I.kind I.slf rfl) I.kind I.at_ rfl)) (hsw2 _ _ _ _))
  refine set_plain X4 (ox := HandSPX.excO C t4) (od := none) ⟨ha4, rfl, rfl, trivial⟩ T.oex.sa ?_
  refine HandSPX.exc_osa X4 ha4 hcl (show HandSPX.refsVE (.ref C :: bmC) = true from hbm) rfl T.noat (fun h5 t5 dx k5 dn dne hx hn => ?_)
  show _root_.PySem.wpAt _ _ _ _ _ _ _
  refine wpAt_of_wpAny (wpAny_pure ?_)
  refine hq h5 t5 t4 dx (fun b o n e => k5 b o n (old4 b o n e)) ?_ hx hn
  have := ns4.lt
  exact Nat.le_trans (Nat.le_of_lt this) dn

/-- C(v) -/
theorem make_raw {v : Value} {hp : Heap} {g : Array GenState} {d : Drawn} {t : Nat} {os : OsState} {E : Value → Shared → Prop} {Q : Value → Shared → Prop} {k : Nat} (M : L2.Mod K mg base) (old : ∀ b o, base.get? b = some o → hp.get? b = some o) (bsz : base.objs.size ≤ hp.objs.size) (I : IniF P K D fI cc cda qual params (iBody p0 p1 p2 p3 p4 p5 p6 p7 p8 p9) scope) (T : ExcF K C D fI)
    (hms : mg "super" = none) {pl : Sem Bool} (hev : ∀ L f cd cc, eval (iCall p0 p1 p2 p3 p4) (ksEnv qual scope L f cd cc) = iEv p0 p1 p2 p3 p4 pl (ksEnv qual scope L f cd cc)) (hint : ∀ L f cd cc, interactive (ksEnv qual scope L f cd cc) = false)
    (hsw1 : ∀ L f cd cc, swapsWith (iCall p0 p1 p2 p3 p4) none p5.line (ksEnv qual scope L f cd cc) = pure false) (hsw2 : ∀ L f cd cc, swapsWith (.Name "at" p8) (some (.Attribute (.Name "self" p6) "at" p7)) p9.line (ksEnv qual scope L f cd cc) = pure false)
    (hr : L2.Room (k + 1) A)
    (hb : ∀ (s : Shared) (a : Addr) (nm : Str) (kV doc pm : Value) (an : Option Addr) (ct : Value), BindsTo s (ksFn nm qual params (iBody p0 p1 p2 p3 p4 p5 p6 p7 p8 p9) scope .none kV doc pm an (.ref cda) ct cc) ⟨[.ref a, v], []⟩ [("self", .ref a), ("at", v)])
    (hq : ∀ h' tk t1 a dx, (∀ b o, hp.get? b = some o → h'.get? b = some o) → hp.objs.size ≤ a → hp.objs.size ≤ dx → dx ≠ a → h'.get? a = some { cls := .ref C, dict := some dx, data := .fields #[.ref t1, .none, .none, .none, .bool false, .none] } →
      h'.Ns1 dx (fun y => if y = ("at" : Str) then some v else none) → Q (.ref a) ⟨h', g, d, tk, os⟩) :
    wpAny (model P w) A (call (.ref C) [v]) Q E ⟨hp, g, d, t, os⟩ := by
  have X : K.In hp := M.kin.keeps old
  obtain ⟨nmC, qC, NC, bsC, bmC, snC, subC, abC, colC, ddC, c0, c1, c2, c3, c5, hC, hbm⟩ := T.oex.cls
  have k1 : ∀ b o, hp.get? b = some o → ((hp.push (kdv_tup [v])).push (HandSPX.excO C hp.objs.size)).get? b = some o := fun b o e => Heap.get?_push_of_some _ (Heap.get?_push_of_some _ e)
  have hget : ((hp.push (kdv_tup [v])).push (HandSPX.excO C hp.objs.size)).get? (hp.objs.size + 1) = some (HandSPX.excO C hp.objs.size) := by heap_get
  refine wpAny_call (HandSPX.call_own F.excBase_ValueError (fun Y => HandSPX.refsVE_contains Y bmC hbm) (X _ _ hC) (looks_findIn X T.ini) (fun self => bind_fn X self T.typ) (by show 1 ≤ sizeLine; decide)
    (init_code (t0 := hp.objs.size) (a := hp.objs.size + 1) M (fun b o e => k1 b o (old b o e)) I T hms hev hint hsw1 hsw2 (hr.make C [v] []).depth ?_ hget (hb _ _) fun h' tk t1 dx kk hdx hx hn => ?_))
  · cases e : base.get? (hp.objs.size + 1) with
    | none => rfl
    | some o =>
      have := Heap.lt_size e
      exact absurd (Nat.lt_of_lt_of_le this bsz) (by omega)
  · have hs : hp.objs.size ≤ hp.objs.size + 1 := Nat.le_succ _
    have hdx' : hp.objs.size ≤ dx := Nat.le_trans (by rw [Heap.size_push, Heap.size_push]; omega) hdx
    refine ⟨rfl, hq h' tk t1 (hp.objs.size + 1) dx (fun b o e => kk b o (Nat.ne_of_lt (Nat.lt_succ_of_lt (Heap.lt_size e))) (k1 b o e)) hs hdx' (fun z => ?_) hx hn⟩
    obtain ⟨o, es, ep, e1, e2, _⟩ := hn
    rw [z, hx] at e1
    have := Option.some.inj e1
    subst this
    cases e2
end
end EV

namespace EV
open PySem PySem.Spec PyProof.Rows L2
/-- an own class of errors stands in the module -/
def ExcAt (P : Program) (K : PySem.W.Frag) (mg : Str → Option Value) (x : Str) : Prop :=
  ∃ (C D fI cc cda : Addr) (qual : Str) (params : Arguments) (scope : Scope) (p0 p1 p2 p3 p4 p5 p6 p7 p8 p9 : Pos) (pl : Sem Bool),
    PySem.W.nsIn K mainGlobals x = some (some (.ref C)) ∧ mg x = some (.ref C) ∧ mg "super" = none ∧ ExcF K C D fI ∧ IniF P K D fI cc cda qual params (iBody p0 p1 p2 p3 p4 p5 p6 p7 p8 p9) scope ∧
    (∀ L f cd cc, eval (iCall p0 p1 p2 p3 p4) (PySem.W.ksEnv qual scope L f cd cc) = iEv p0 p1 p2 p3 p4 pl (PySem.W.ksEnv qual scope L f cd cc)) ∧ (∀ L f cd cc, interactive (PySem.W.ksEnv qual scope L f cd cc) = false) ∧
    (∀ L f cd cc, swapsWith (iCall p0 p1 p2 p3 p4) none p5.line (PySem.W.ksEnv qual scope L f cd cc) = pure false) ∧ (∀ L f cd cc, swapsWith (.Name "at" p8) (some (.Attribute (.Name "self" p6) "at" p7)) p9.line (PySem.W.ksEnv qual scope L f cd cc) = pure false) ∧
    (∀ (v : Value) (s : Shared) (a : Addr) (nm : Str) (kV doc pm : Value) (an : Option Addr) (ct : Value), BindsTo s (PySem.W.ksFn nm qual params (iBody p0 p1 p2 p3 p4 p5 p6 p7 p8 p9) scope .none kV doc pm an (.ref cda) ct cc) ⟨[.ref a, v], []⟩ [("self", .ref a), ("at", v)])
def tMkE (K : PySem.W.Frag) (x : Str) (ta : TA) : TE := fun σ H Q => ta σ H fun vs H1 => ∃ v, vs = [v] ∧ ∀ a dx C, H1 a = none → H1 dx = none → a ≠ dx → PySem.W.nsIn K mainGlobals x = some (some (.ref C)) → Q (.ref a) (upd (upd H1 dx (.xd [("at", v)])) a (exoA a C dx))
section
variable {X : Cx} {k : Nat} {x : Str} {p pos : Pos} {e : Expr} {es : List Expr} {ta : TA}
theorem laid2 {pins : List (Addr × Obj)} {σ : L2.St} {H : Hp} {hp h' : Heap} {g : Array GenState} {d : Drawn} {t tk : Nat} {os : OsState} {a dx : Addr} {o1 o2 : HO} (I : Inv X pins σ H ⟨hp, g, d, t, os⟩) (k : ∀ b o, hp.get? b = some o → h'.get? b = some o) (ha : hp.objs.size ≤ a) (hd : hp.objs.size ≤ dx) (hne : dx ≠ a)
    (n1 : ObjOk X.prog X.w (upd (upd H dx o1) a o2) h' dx o1) (n2 : ObjOk X.prog X.w (upd (upd H dx o1) a o2) h' a o2) : Inv X pins σ (upd (upd H dx o1) a o2) ⟨h', g, d, tk, os⟩ := by
  have hna : H a = none := I.hok.fresh ha
  have hnd : H dx = none := I.hok.fresh hd
  have nb : ∀ {b : Addr} {o : Obj} {c : Addr}, hp.get? b = some o → hp.objs.size ≤ c → b ≠ c := fun q h => Nat.ne_of_lt (Nat.lt_of_lt_of_le (Heap.lt_size q) h)
  have U : Un X.fs [] H (upd (upd H dx o1) a o2) hp h' :=
    { keep := fun b o q _ _ _ => k b o q
      slot := fun b o q _ _ _ => ⟨o.slots, k b o q⟩
      free := fun b o q n _ => by rw [upd_ne (nb q ha), upd_ne (nb q hd)]; exact n
      there := fun b o q _ => ⟨o, k b o q⟩
      tups := fun b xs q => by rw [upd_ne (ne_of_none q hna), upd_ne (ne_of_none q hnd)]; exact q
      frzs := fun b o v q => by rw [upd_ne (ne_of_none q hna), upd_ne (ne_of_none q hnd)]; exact q
      tbls := fun b ps q => ⟨#[], by rw [upd_ne (ne_of_none q hna), upd_ne (ne_of_none q hnd), q]; simp⟩ }
  refine I.un (t' := tk) U fun b o q => ?_
  by_cases h1 : b = a
  · subst h1
    rw [upd_same] at q
    cases q
    exact n2
  · rw [upd_ne h1] at q
    by_cases h2 : b = dx
    · subst h2
      rw [upd_same] at q
      cases q
      exact n1
    · rw [upd_ne h2] at q
      exact (I.hok b o q).stay (fun c v _ z => k c v z) (fun c hc => by rw [upd_ne (ne_of_none hc hna), upd_ne (ne_of_none hc hnd)]; exact hc) (fun c xs hc => by rw [upd_ne (ne_of_none hc hna), upd_ne (ne_of_none hc hnd)]; exact hc)
theorem pe_mkE (T : ExcAt X.prog X.K X.mg x) (hr : Room (k + 1) X.A) (hg : Gl X x) (ha : PA X (e :: es) ta) (hdb : (x == ("__debug__" : Str)) = false) (he : starEach (e :: es) X.env = (false, eval e X.env) :: starEach es X.env) (hpl : (backTo pos (starEach es X.env)).any (·.1) = false) :
    PE X (.Call (.Name x p) (e :: es) [] pos) (tMkE X.K x ta) := by
  obtain ⟨C, D, fI, cc, cda, qual, params, scope, p0, p1, p2, p3, p4, p5, p6, p7, p8, p9, pl, hns, hm, hms, TF, TI, hev, hint, hsw1, hsw2, hb⟩ := T
  refine ⟨fun pins s σ H Q I h => wpAny_Call_Name_kw (ld_glob I hg hm ?_ hdb)⟩
  refine PySem.W.callWith_K (h₀ := X.base) I.ok.mod.kin TF.oex.kC (thn (ha.run pos pins s σ H _ I h) fun us s1 ⟨vs, H1, J, r, v, ev, q⟩ => ⟨J.kIn, ?_⟩) he hpl
  subst ev
  cases r with
  | @cons _ u _ _ r0 rr =>
    cases rr
    obtain ⟨hp, g, d, t, os⟩ := s1
    refine make_raw (k := k) J.env0.mod (fun b o e => (J.env0.bs b o e).1) J.env0.bsz TI TF hms hev hint hsw1 hsw2 hr (hb u) fun h' tk t1 a dx kk hza hzd hne hx hn => ?_
    refine ⟨.ref a, _, laid2 J kk hza hzd hne (o1 := .xd [("at", v)]) (o2 := exoA a C dx) ?_ ?_, rfl, q a dx C (J.hok.fresh hza) (J.hok.fresh hzd) (Ne.symm hne) hns⟩
    · refine ⟨_, hn, fun f => ?_⟩
      rw [lookup_put]
      by_cases hf : f = ("at" : Str)
      · rw [if_pos hf, if_pos hf]; exact r0
      · rw [if_neg hf, if_neg hf]; trivial
    · exact ⟨⟨_, _, hx, rfl, rfl, rfl⟩, ⟨_, hx⟩, fun h1 h2 ⟨oe, vs, z1, z2⟩ k2 => ⟨oe, vs, k2 _ z1, z2⟩⟩
end
end EV

namespace EV
open PySem PySem.Spec PyProof.Rows L2
/-- what is told of a class whose instances are asked -/
structure ExcR (K : PySem.W.Frag) (C : Addr) : Prop where
  c : ExcC K C
  cls : (PySem.W.clsIn K C).isSome = true
  noat : PySem.W.findIn K (.ref C) "at" = some none
def ExcK (K : PySem.W.Frag) (xs : List Str) : Prop := ∀ x ∈ xs, ∀ C, PySem.W.nsIn K mainGlobals x = some (some (.ref C)) → ExcR K C
section
variable {X : Cx} {pins : List (Addr × Obj)} {σ : L2.St} {H : Hp} {s : Shared}
theorem exo_inst {a C dx : Addr} {u : V} (I : Inv X pins σ H s) (e1 : H a = some (exoA a C dx)) (e2 : H dx = some (.xd [("at", u)])) : ∃ oe od mA, PySem.W.InstAt s.heap a oe C (some od) ∧ s.heap.get? dx = some od ∧ s.heap.Ns1 dx mA ∧ ∀ f, RelO (([("at", u)] : List (Str × V)).lookup f) (mA f) := by
  have x1 : ObjOk X.prog X.w H s.heap a (.ext fun h => ∃ (oe : Obj) (vs : Array Value), h.get? a = some oe ∧ oe.cls = .ref C ∧ oe.dict = some dx ∧ oe.data = .fields vs) := I.hok a _ e1
  obtain ⟨⟨oe, vs, h1, h2, h3, h4⟩, _⟩ := x1
  have x2 : ObjOk X.prog X.w H s.heap dx (.xd [("at", u)]) := I.hok dx _ e2
  obtain ⟨mA, hns, hr⟩ := x2
  have ⟨od, es, ep, ho, hd⟩ := hns
  exact ⟨oe, od, mA, ⟨h1, h2, by unfold PySem.W.notCls; rw [h4] <;> rfl, by rw [h3]; exact ho⟩, ho, hns, hr⟩
end
/-- isinstance(e, c), e an own exception -/
def rIsA (K : PySem.W.Frag) : List V → Hp → VK → Prop := fun xs H Q => ∃ (a dx C : Addr) (u c : V) (cv : Value) (b : Bool), xs = [.ref a, c] ∧ H a = some (exoA a C dx) ∧ H dx = some (.xd [("at", u)]) ∧ ExcR K C ∧ (∀ u, RelV c u → u = cv) ∧ (∀ a', cv ≠ .ref a' ∨ True) ∧ PySem.W.kitOne K (.ref C) cv = some b ∧ Q (.bl b) H
theorem call_isA {X : Cx} : CallR X (.builtin "isinstance") (rIsA X.K) := by
  intro pins s σ H xs us Q I r h
  obtain ⟨a, dx, C, u, c, cv, b, rfl, e1, e2, R, hcv, _, e, q⟩ := h
  cases r with
  | cons rx rr =>
    cases rr with
    | cons rt rr =>
      cases rr
      cases rx
      have ec := hcv _ rt
      subst ec
      obtain ⟨oe, od, mA, J, _⟩ := exo_inst I e1 e2
      exact PySem.W.kia_one (PySem.W.kitx_exc R.cls R.c.hg R.c.hk R.c.hs R.c.ha R.c.hn R.c.ht R.c.hm) I.kIn J e (fun z => nomatch z) fun tk => ⟨.bl b, H, I.kept (t' := tk) fun _ _ z => z, rfl, q⟩
/-- e.at -/
def tAt (K : PySem.W.Frag) (te : TE) : TE := fun σ H Q => te σ H fun x H1 => ∃ (a dx C : Addr) (u : V), x = .ref a ∧ H1 a = some (exoA a C dx) ∧ H1 dx = some (.xd [("at", u)]) ∧ ExcR K C ∧ Q u H1
theorem pe_at {X : Cx} {e : Expr} {te : TE} {pos : Pos} (he : PE X e te) (hb : attributeBase e "at" X.env (eval e X.env) = eval e X.env) : PE X (.Attribute e "at" pos) (tAt X.K te) := by
  refine ⟨fun pins s σ H Q I h => ?_⟩
  refine attr_of hb (thn (he.run pins s σ H _ I h) fun u s1 hh => ?_)
  obtain ⟨x, H1, I1, rx, a, dx, C, v, ex, e1, e2, R, q⟩ := hh
  subst ex
  obtain rfl : u = Value.ref a := rx
  obtain ⟨oe, od, mA, J, ho, hns, hr⟩ := exo_inst I1 e1 e2
  obtain ⟨od', ho', hl⟩ := lookIn_ns hns
  rw [ho] at ho'
  cases ho'
  have hat := hr ("at" : Str)
  obtain ⟨w, hw, rw'⟩ := RelO.some_of (v := v) (o := mA "at") (by exact hat)
  exact HandSPX.exc_get I1.kIn J R.c.hg R.c.hk R.c.hs (PySem.W.findObj_own R.c.hd R.noat rfl (by rw [hl, hw])) (handed_of rw') ⟨v, H1, I1.tok _, rw', q⟩
end EV

namespace EV
open PySem PySem.Spec PyProof.Rows L2
/-! ### sum of lists -/
inductive LsAt (h : Heap) : List Value → List (List Value) → Prop where
  | nil : LsAt h [] []
  | cons {a : Addr} {xs : List Value} {us : List Value} {ls : List (List Value)} : h.IsList a xs.toArray → LsAt h us ls → LsAt h (.ref a :: us) (xs :: ls)
theorem LsAt.len {h : Heap} {us : List Value} {ls : List (List Value)} (r : LsAt h us ls) : ls.length = us.length := by
  induction r with
  | nil => rfl
  | cons _ _ ih => simp [ih]
section
variable {prog : Program} {w : World} {A : Around} {R : Result → Shared → Prop} {l b : Addr} {its st : List Value} {ls : List (List Value)}
theorem drop_ls {h : Heap} {us : List Value} {ls : List (List Value)} (r : LsAt h us ls) : ∀ i, i < us.length → ∃ a xs, us[i]? = some (.ref a) ∧ h.IsList a xs.toArray ∧ ls.drop i = xs :: ls.drop (i + 1) := by
  induction r with
  | nil => intro i hi; exact absurd hi (Nat.not_lt_zero _)
  | @cons a xs us ls h1 t ih =>
    intro i hi
    cases i with
    | zero => exact ⟨a, xs, rfl, h1, rfl⟩
    | succ i =>
      obtain ⟨a', xs', e1, e2, e3⟩ := ih i (by simpa using hi)
      exact ⟨a', xs', by simpa using e1, e2, by simpa using e3⟩
/-- two lists, joined -/
theorem join2 {A : Around} {s : Shared} {Q : Value → Shared → Prop} {E : Value → Shared → Prop} {a c : Addr} {xs ys : List Value} (ha : s.heap.IsList a xs.toArray) (hc : s.heap.IsList c ys.toArray) (hz : xs.length + ys.length ≤ sizeLine)
    (h : Q (.ref s.heap.objs.size) { s with heap := s.heap.push { cls := .type "list", data := .seq (xs ++ ys).toArray } }) : wpAny (model prog w) A (binaryOp .Add (.ref a) (.ref c)) Q E s := by
  obtain ⟨⟨cls, dd, data, sl⟩, ho, hc1, n, hd⟩ := id ha
  obtain ⟨⟨cls2, dd2, data2, sl2⟩, ho2, hc2, n2, hd2⟩ := id hc
  simp only at hc1 hd hc2 hd2
  subst hc1 hd hc2 hd2
  have e : xs.toArray ++ ys.toArray = (xs ++ ys).toArray := by simp
  refine concat_meets ⟨_, ho, rfl⟩ ⟨_, ho2, rfl⟩ noFill_list_add seq_list_add PySem.F.slot_list_add PySem.F.entry_list_add (PySem.F.args_list_add_2 _ _) (list_addW a c xs.toArray ys.toArray n n2 dd dd2 sl sl2 (by simpa using hz)) ⟨ho, ho2, ?_⟩
  rw [e]
  exact h
theorem sum_lists_loop (hh : A.in1.handled = none) (I S : Addr) (hSI : S ≠ I) (k0 : Heap) (hS0 : k0.objs.size ≤ S) (hI0 : k0.objs.size ≤ I) (hne : its ≠ [])
    (hls : LsAt k0 its ls) (hll : k0.IsList l its.toArray) (sh : Shared) :
    ∀ (k i : Nat) (h : Heap) (tk : Tok) (c : Addr) (acc : List Value) (n : Nat), its.length - i = k → i ≤ its.length → (∀ b o, k0.get? b = some o → h.get? b = some o) → k0.objs.size ≤ h.objs.size →
      h.IsListIter I l i → h.get? S = some { cls := .type "list", dict := none, data := .seq #[.ref c] n } → c ≠ S → c ≠ I → h.IsList c acc.toArray → (i = 0 ∨ k0.objs.size ≤ c ∧ ∃ n', h.get? c = some { cls := .type "list", data := .seq acc.toArray n' }) →
      acc.length + (ls.drop i).flatten.length ≤ sizeLine →
      (∀ h' tk' r, (∀ b o, k0.get? b = some o → h'.get? b = some o) → k0.objs.size ≤ r → (∃ n', h'.get? r = some { cls := .type "list", data := .seq (acc ++ (ls.drop i).flatten).toArray n' }) → R (.ok (.ret (.ref r))) { sh with heap := h', toks := tk' }) →
      codeAny (model prog w) A (.builtin "sum.loop" ⟨[.ref I, .ref S, rawInt 2, rawInt 0], []⟩) R { sh with heap := h, toks := tk } := by
  have isl : ∀ h : Heap, (∀ b o, k0.get? b = some o → h.get? b = some o) → ∀ a xs, k0.IsList a xs → h.IsList a xs := fun h old a xs ⟨o, e, r⟩ => ⟨o, old _ _ e, r⟩
  have below : ∀ b o, k0.get? b = some o → b < k0.objs.size := fun b o e => Heap.lt_size e
  have nI : ∀ b o, k0.get? b = some o → b ≠ I := fun b o e z => Nat.not_lt.mpr hI0 (z ▸ below b o e)
  have nS : ∀ b o, k0.get? b = some o → b ≠ S := fun b o e z => Nat.not_lt.mpr hS0 (z ▸ below b o e)
  intro k
  induction k with
  | zero =>
    intro i h tk c acc n hk hi old hsize hit hS hcS hcI hc hlast hsz hR
    have hin : i = its.length := by omega
    subst hin
    refine codeAny_builtin PySem.F.entry_sum_loop ?_
    rw [Around.under_plainId PySem.F.plain_sum_loop _]
    show wpAny _ A.in1 (seqItems? (.ref S) >>= _) _ _ _
    refine wpAny_bind (wpAny_seqItems hS rfl ?_)
    show wpAny _ A.in1 (tryCatch (pyNext (.ref I)) _ >>= _) _ _ _
    refine wpAny_bind (wpAny_tryCatch (wpAny_pyNext_list_end hh hit (isl h old l _ hll) (by simp) fun h' he' => ?_))
    refine wpAny_pure (hR h' tk c (fun b o e => he' b o (nI b o e) (old b o e)) (hlast.resolve_left fun z => hne (List.length_eq_zero_iff.mp z)).1 ?_)
    have hd : (ls.drop its.length).flatten = [] := by
      rw [List.drop_of_length_le (by rw [hls.len]; exact Nat.le_refl _)]; rfl
    rw [hd, List.append_nil]
    obtain ⟨n', e⟩ := (hlast.resolve_left fun z => hne (List.length_eq_zero_iff.mp z)).2
    exact ⟨n', he' c _ hcI e⟩
  | succ k ih =>
    intro i h tk c acc n hk hi old hsize hit hS hcS hcI hc hlast hsz hR
    have hlt : i < its.length := by omega
    obtain ⟨a, xs, e1, e2, e3⟩ := drop_ls hls i hlt
    refine codeAny_builtin PySem.F.entry_sum_loop ?_
    rw [Around.under_plainId PySem.F.plain_sum_loop _]
    show wpAny _ A.in1 (seqItems? (.ref S) >>= _) _ _ _
    refine wpAny_bind (wpAny_seqItems hS rfl ?_)
    show wpAny _ A.in1 (tryCatch (pyNext (.ref I)) _ >>= _) _ _ _
    refine wpAny_bind (wpAny_tryCatch (wpAny_pyNext_list_item hit (isl h old l _ hll) (x := .ref a) (by simpa using e1) fun h' hit' sb => ?_))
    have old' : ∀ b o, k0.get? b = some o → h'.get? b = some o := fun b o e => by
      rw [sb.2 b (nI b o e)]; exact old b o e
    have hS' : h'.get? S = some { cls := .type "list", dict := none, data := .seq #[.ref c] n } := by rw [sb.2 S hSI]; exact hS
    have hc' : h'.IsList c acc.toArray := by obtain ⟨o, e, r⟩ := hc; exact ⟨o, (sb.2 c hcI).trans e, r⟩
    have hsize' : k0.objs.size ≤ h'.objs.size := Nat.le_trans hsize (Nat.le_of_eq sb.1.symm)
    have hIlt : I < h'.objs.size := by obtain ⟨o, e, _⟩ := hit'; exact Heap.lt_size e
    have hSlt : S < h'.objs.size := Heap.lt_size hS'
    have hz : acc.length + xs.length ≤ sizeLine := by
      rw [e3, List.flatten_cons, List.length_append] at hsz; omega
    show wpAny _ A.in1 ((holding [Value.ref a] (binaryOp .Add (.ref c) (.ref a))).attempt >>= _) _ _ _
    refine wpAny_bind (wpAny_attempt (wpAny_holding (join2 hc' (isl h' old' a _ e2) hz ?_)))
    have keep1 : ∀ b o, h'.get? b = some o → (h'.push { cls := .type "list", data := .seq (acc ++ xs).toArray }).get? b = some o := fun b o e => Heap.get?_push_of_some _ e
    show wpAny _ A.in1 (updateSeq S (fun _ => #[Value.ref h'.objs.size]) >>= _) _ _ _
    refine wpAny_bind (wpAny_updateSeq (keep1 _ _ hS') rfl ?_)
    refine wpAny_bind (wpAny_letGo ?_)
    show wpAny _ A.in1 (updateSeq S (fun _ => #[Value.ref h'.objs.size]) >>= _) _ _ _
    have hS2 := Heap.get?_update_self (Obj.mapSeq fun _ => #[Value.ref h'.objs.size]) (keep1 _ _ hS') rfl
    refine wpAny_bind (wpAny_updateSeq hS2 rfl (wpAny_pure ⟨plainId_quiet PySem.F.plain_sum_loop _, ?_⟩))
    have oth : ∀ b o, b ≠ S → h'.get? b = some o → (((h'.push { cls := .type "list", data := .seq (acc ++ xs).toArray }).update S (Obj.mapSeq fun _ => #[Value.ref h'.objs.size])).update S (Obj.mapSeq fun _ => #[Value.ref h'.objs.size])).get? b = some o := fun b o n e =>
      (Heap.get?_update_other _ _ (fun z => n z.symm)).trans ((Heap.get?_update_other _ _ (fun z => n z.symm)).trans (keep1 b o e))
    refine ih (i + 1) _ _ h'.objs.size (acc ++ xs) _ (by omega) hlt (fun b o e => oth b o (nS b o e) (old' b o e)) ?_ ?_ (Heap.get?_update_self _ hS2 rfl) (Nat.ne_of_gt hSlt) (Nat.ne_of_gt hIlt) ?_ (.inr ⟨hsize', _, (Heap.get?_update_other _ _ (Nat.ne_of_lt hSlt)).trans ((Heap.get?_update_other _ _ (Nat.ne_of_lt hSlt)).trans (Heap.get?_push_size _ rfl))⟩) ?_ ?_
    · rw [Heap.size_update, Heap.size_update, Heap.size_push]; exact Nat.le_trans hsize' (Nat.le_succ _)
    · obtain ⟨o, e, r⟩ := hit'; exact ⟨o, oth I o (fun z => hSI z.symm) e, r⟩
    · exact ⟨_, (Heap.get?_update_other _ _ (Nat.ne_of_lt hSlt)).trans ((Heap.get?_update_other _ _ (Nat.ne_of_lt hSlt)).trans (Heap.get?_push_size _ rfl)), rfl, _, rfl⟩
    · rw [e3, List.flatten_cons, List.length_append] at hsz; rw [List.length_append]; omega
    · intro h2 tk' r o2 hr hl2
      refine hR h2 tk' r o2 hr ?_
      rw [e3, List.flatten_cons, ← List.append_assoc]; exact hl2
end
theorem args_sum2 (a b : Value) : argsOk "sum" ⟨[a, b], []⟩ := by unfold argsOk; kernel_rfl
section
variable {prog : Program} {w : World} {A : Around} {E : Value → Shared → Prop} {s : Shared} {l b : Addr} {its st : List Value} {ls : List (List Value)}
theorem sum_lists_raw {Q : Value → Shared → Prop} (hh : A.handled = none) (hl : s.heap.IsList l its.toArray) (hb : s.heap.IsList b st.toArray) (hls : LsAt s.heap its ls) (hne : its ≠ []) (hz : st.length + ls.flatten.length ≤ sizeLine)
    (h : ∀ h' tk r, (∀ b o, s.heap.get? b = some o → h'.get? b = some o) → s.heap.objs.size ≤ r → (∃ n', h'.get? r = some { cls := .type "list", data := .seq (st ++ ls.flatten).toArray n' }) → Q (.ref r) { s with heap := h', toks := tk }) :
    wpAny (model prog w) A (call (.builtin "sum") [.ref l, .ref b]) Q E s := by
  refine call_function_tree PySem.F.kind_sum PySem.F.plain_sum PySem.F.entry_sum (args_sum2 _ _) ?_
  have hlt : l < s.heap.objs.size := by obtain ⟨_, e, _⟩ := hl; exact Heap.lt_size e
  have hbt : b < s.heap.objs.size := by obtain ⟨_, e, _⟩ := hb; exact Heap.lt_size e
  unfold Builtin.«sum»
  simp only [List.length_cons, List.length_nil]
  rw [if_neg (by decide)]
  refine wpAny_bind (wpAny_of_eq (show Builtin.Builtins.bindParams "sum" ["start"] 0 ⟨[.ref b], []⟩ = pure [some (.ref b)] from rfl) ?_)
  refine wpAny_bind (wpAny_pyIter_list hl ?_)
  have hbI : (s.heap.push { cls := .type "list_iterator", data := .fields #[.ref l, .int 0 0] }).IsList b st.toArray := hb.push _
  have hT : Shared.TypeIs { s with heap := s.heap.push { cls := .type "list_iterator", data := .fields #[.ref l, .int 0 0] } } (.ref b) "list" := by obtain ⟨o, e, r, _⟩ := hbI; exact ⟨o, e, r⟩
  refine wpAny_bind (wpAny_pure ?_)
  simp only [List.forIn_cons, List.forIn_nil]
  refine wpAny_bind (wpAny_bind (wpAny_bind (wpAny_isInstance (T := "list") (b := false) hT PySem.F.sub_list_str ?_)))
  simp only [Bool.false_eq_true, if_false]
  refine wpAny_pure (wpAny_bind (wpAny_bind (wpAny_isInstance (T := "list") (b := false) hT PySem.F.sub_list_bytes ?_)))
  simp only [Bool.false_eq_true, if_false]
  refine wpAny_pure (wpAny_bind (wpAny_bind (wpAny_isInstance (T := "list") (b := false) hT (by rw [isSubtype_type]; kernel_rfl) ?_)))
  simp only [Bool.false_eq_true, if_false]
  refine wpAny_pure (wpAny_pure ?_)
  refine wpAny_bind (wpAny_newObj_type ?_)
  have keep : ∀ c o, s.heap.get? c = some o → (((s.heap.push { cls := .type "list_iterator", data := .fields #[.ref l, .int 0 0] }).push { cls := .type "list", data := .seq #[.ref b] }).get? c = some o) := fun c o e => Heap.get?_push_of_some _ (Heap.get?_push_of_some _ e)
  have hsz : (s.heap.push { cls := .type "list_iterator", data := .fields #[.ref l, .int 0 0] }).objs.size = s.heap.objs.size + 1 := Heap.size_push _ _
  refine wpAny_pure ⟨plainId_quiet PySem.F.plain_sum_loop _, sum_lists_loop (A := A) (by simpa using hh) s.heap.objs.size _ (by rw [hsz]; exact Nat.succ_ne_self _) s.heap (by rw [hsz]; exact Nat.le_succ _) (Nat.le_refl _) hne hls hl s its.length 0 _ _ b st _ rfl (Nat.zero_le _) keep ?_ ?_ (Heap.get?_push_size _ rfl) ?_ (Nat.ne_of_lt hbt) ?_ (.inl rfl) hz fun h' tk r o hr e => ?_⟩
  · rw [Heap.size_push, hsz]; exact Nat.le_trans (Nat.le_succ _) (Nat.le_succ _)
  · exact ⟨_, Heap.get?_push_of_some _ (Heap.get?_push_size _ rfl), rfl, rfl⟩
  · rw [hsz]; exact Nat.ne_of_lt (Nat.lt_succ_of_lt hbt)
  · obtain ⟨o, e, r⟩ := hb; exact ⟨o, keep _ _ e, r⟩
  · exact h h' tk r o hr e
end

/-! ### the call -/
inductive LsV (K : PySem.W.Frag) (H : Hp) : List V → List (List V) → Prop where
  | nil : LsV K H [] []
  | cons {a : Addr} {w : List V} {xs : List V} {ws : List (List V)} : SqL K H a w → LsV K H xs ws → LsV K H (.ref a :: xs) (w :: ws)
section
variable {X : Cx}
theorem ls_at {pins : List (Addr × Obj)} {σ : L2.St} {H : Hp} {s : Shared} (I : Inv X pins σ H s) : ∀ {xs : List V} {ws : List (List V)} {us : List Value}, LsV X.K H xs ws → Vals xs us → ∃ ls, LsAt s.heap us ls ∧ Vals ws.flatten ls.flatten
  | _, _, _, .nil, .nil => ⟨[], .nil, .nil⟩
  | _, _, _, .cons h t, .cons r rr => by
    obtain ⟨ls, h1, h2⟩ := ls_at I t rr
    obtain ⟨its, rv, hl, _⟩ := I.list h
    cases r
    exact ⟨its :: ls, .cons hl.isList h1, Vals.append rv h2⟩
def rSumL (K : PySem.W.Frag) : List V → Hp → VK → Prop := fun vs H Q => ∃ (a b : Addr) (xs ys : List V) (ws : List (List V)), vs = [V.ref a, V.ref b] ∧ SqL K H a xs ∧ SqL K H b ys ∧ LsV K H xs ws ∧ xs ≠ [] ∧
  ys.length + ws.flatten.length ≤ sizeLine ∧ ∀ p, H p = none → Q (.ref p) (upd H p (.lst (ys ++ ws.flatten)))
theorem cr_sumL (hc : X.calm = true) : CallR X (.builtin "sum") (rSumL X.K) := by
  intro pins s σ H vs us Q I r h
  obtain ⟨a, b, xs, ys, ws, rfl, hx, hy, hw, hne, hz, q⟩ := h
  obtain ⟨its, rv, hl, _⟩ := I.list hx
  obtain ⟨its2, rv2, hl2, _⟩ := I.list hy
  obtain ⟨ls, h1, h2⟩ := ls_at I hw rv
  have eu : us = [Value.ref a, Value.ref b] := by
    cases r with | cons r rr => cases r; cases rr with | cons r rr => cases r; cases rr; rfl
  rw [eu]
  have e1 := rv2.length
  have e2 := h2.length
  refine sum_lists_raw (I.ok.hd hc) hl.isList hl2.isList h1 (fun z => hne ?_) (by rw [← e1, ← e2]; exact hz) fun h' tk rr o hr ⟨n', e⟩ => ?_
  · have := rv.length; rw [z] at this; exact List.length_eq_zero_iff.mp this
  · exact ⟨.ref rr, upd H rr (.lst (ys ++ ws.flatten)), I.laid o hr ⟨by rw [List.length_append]; exact hz, _, _, Vals.append rv2 h2, e⟩, rfl, q rr (I.hok.fresh hr)⟩
end
end EV

namespace EV
open PySem PySem.Spec PyProof.Rows L2
section
variable {X : Cx} {b : Bool} {e e1 e2 e3 : Expr} {es : List Expr} {pos p : Pos} {f f1 f2 f3 : List Sl → Option D} {fs : List Sl → Option (List D)}
def isStar : Expr → Bool
  | .Starred _ _ => true
  | _ => false
theorem star_no (h : isStar e = false) : ∀ e' p, e ≠ .Starred e' p := fun e' p z => by subst z; cases h
theorem stars_no {env : Env} : ∀ {es : List Expr}, (∀ e ∈ es, isStar e = false) → (backTo pos (starEach es env)).any (·.1) = false
  | [], _ => rfl
  | e :: es, h => by
    rw [starEach_cons (star_no (h e List.mem_cons_self))]
    show (false || (backTo pos (starEach es env)).any (·.1)) = false
    rw [stars_no fun e he => h e (List.mem_cons_of_mem _ he)]; rfl
theorem bFindIn_ok {f : Str} {bi : BI} : ∀ {l : List BI}, bFindIn f l = some bi → f = bName bi
  | [], h => by cases h
  | b :: r, h => by
    unfold bFindIn at h
    by_cases e : bName b = f
    · rw [decide_eq_true e] at h; cases h; exact e.symm
    · rw [decide_eq_false e] at h; exact bFindIn_ok h
theorem tFindIn_ok {f : Str} {t : Ty} : ∀ {l : List Ty}, tFindIn f l = some t → f = tName t
  | [], h => by cases h
  | b :: r, h => by
    unfold tFindIn at h
    by_cases e : tName b = f
    · rw [decide_eq_true e] at h; cases h; exact e.symm
    · rw [decide_eq_false e] at h; exact tFindIn_ok h
/-! ### built-ins -/
def rB (K : PySem.W.Frag) (w : World) (g : List D → Option D) : List V → Hp → VK → Prop := fun vs H Q => ∃ O b ds d, OkO O H ∧ RoBs K w O H b vs ds ∧ g ds = some d ∧ ∀ H' v, Same H H' → Ro K w O H' v d → Q v H'
def bVal : BI → Value
  | .len => .builtin "len" | .abs => .builtin "abs" | .int => .type "int" | .min => .builtin "min" | .max => .builtin "max" | .all => .builtin "all" | .any => .builtin "any" | .sum => .builtin "sum" | .tuple => .type "tuple" | .repr => .builtin "repr" | .sorted => .builtin "sorted"
theorem bls_of {K : PySem.W.Frag} {w : World} {O : Addr → Prop} {H : Hp} : ∀ {vs : List V} {ds : List D} {bs : List Bool}, RoAll K w O H vs ds → boolsD ds = some bs → vs = bs.map V.bl
  | _, _, _, .nil, e => by cases e; rfl
  | _, _, _, .cons h t, e => by
    unfold boolsD mapO at e
    obtain ⟨x, e1, e⟩ := bind_some e
    obtain ⟨xs, e2, e⟩ := bind_some e
    cases e
    split at e1
    · cases e1
      have : RoB K w O H false _ _ := .inl h
      rw [this.bl, bls_of t e2]; rfl
    · cases e1
theorem kints_of {K : PySem.W.Frag} {w : World} {O : Addr → Prop} {H : Hp} : ∀ {vs : List V} {ds : List D} {bs : List Int}, RoAll K w O H vs ds → intsD ds = some bs → vs = bs.map V.int
  | _, _, _, .nil, e => by cases e; rfl
  | _, _, _, .cons h t, e => by
    unfold intsD mapO at e
    obtain ⟨x, e1, e⟩ := bind_some e
    obtain ⟨xs, e2, e⟩ := bind_some e
    cases e
    split at e1
    · cases e1
      have : RoB K w O H false _ _ := .inl h
      rw [this.int, kints_of t e2]; rfl
    · cases e1
theorem lsV_of {K : PySem.W.Frag} {w : World} {O : Addr → Prop} {H : Hp} : ∀ {vs : List V} {ds : List D} {ls : List (List D)}, RoAll K w O H vs ds → listsD ds = some ls → ∃ ws, LsV K H vs ws ∧ RoAll K w O H ws.flatten ls.flatten
  | _, _, _, .nil, e => by cases e; exact ⟨[], .nil, .nil⟩
  | _, _, _, .cons h t, e => by
    unfold listsD mapO at e
    obtain ⟨x, e1, e⟩ := bind_some e
    obtain ⟨xs, e2, e⟩ := bind_some e
    cases e
    split at e1
    · cases e1
      obtain ⟨ws, h1, h2⟩ := lsV_of t e2
      obtain ⟨a, vs, rfl, h3, h4⟩ := (show RoB K w O H false _ _ from .inl h).list
      exact ⟨vs :: ws, .cons h3 h1, h4.app h2⟩
    · cases e1
theorem call_D (hc : X.calm = true) (hu : X.A.units + 65 < cLine) (hgd : X.A.guards = some []) (bi : BI) : CallR X (bVal bi) (rB X.K X.w (bD bi)) := by
  intro pins s σ H xs us Q I rx ⟨O, b, ds, d, hO, hx, e, q⟩
  unfold bD at e
  split at e
  · cases hx with | cons h t => cases t; cases e; obtain ⟨a, vs, rfl, h1, h2⟩ := h.list; exact call_len_seq pins s σ H _ us Q I rx ⟨a, vs, rfl, .inl h1, by rw [h2.length]; exact q H _ (Same.refl H) (.int _)⟩
  · cases hx with | cons h t => cases t; cases e; obtain ⟨a, vs, rfl, h1, h2⟩ := h.tup; exact call_len_seq pins s σ H _ us Q I rx ⟨a, vs, rfl, .inr h1, by rw [h2.length]; exact q H _ (Same.refl H) (.int _)⟩
  · cases hx with | cons h t => cases t; cases e; cases h.int; refine call_abs pins s σ H _ us Q I rx ⟨_, rfl, q H _ (Same.refl H) ?_⟩; (split <;> rename_i hi <;> simp [hi] <;> exact .int _)
  · cases hx with | cons h t => cases t; cases e; cases h.int; exact call_int1 pins s σ H _ us Q I rx (.inl ⟨_, rfl, q H _ (Same.refl H) (.int _)⟩)
  · cases hx with | cons h t => cases t; cases e; cases h.bl; refine call_int1 pins s σ H _ us Q I rx (.inr ⟨_, rfl, q H _ (Same.refl H) ?_⟩); (split <;> rename_i hi <;> simp [hi] <;> exact .int _)
  · cases hx with | cons h t => cases t with | cons h' t => cases t; cases e; cases h.int; cases h'.int; refine call_min2 hc pins s σ H _ us Q I rx ⟨_, _, rfl, q H _ (Same.refl H) ?_⟩; (split <;> rename_i hi <;> simp [hi] <;> exact .int _)
  · cases hx with | cons h t => cases t with | cons h' t => cases t; cases e; cases h.int; cases h'.int; refine call_max2 hc pins s σ H _ us Q I rx ⟨_, _, rfl, q H _ (Same.refl H) ?_⟩; (split <;> rename_i hi <;> simp [hi] <;> exact .int _)
  · cases hx with | cons h t =>
      cases t
      obtain ⟨bs, e1, e⟩ := Option.map_eq_some_iff.mp e
      subst e
      obtain ⟨a, vs, rfl, h1, h2⟩ := h.list
      exact cr_all hc pins s σ H _ us Q I rx ⟨a, bs, rfl, by rw [← bls_of h2 e1]; exact h1, q H _ (Same.refl H) (.bl _)⟩
  · cases hx with | cons h t =>
      cases t
      obtain ⟨bs, e1, e⟩ := Option.map_eq_some_iff.mp e
      subst e
      obtain ⟨a, vs, rfl, h1, h2⟩ := h.list
      exact cr_any hc pins s σ H _ us Q I rx ⟨a, bs, rfl, by rw [← bls_of h2 e1]; exact h1, q H _ (Same.refl H) (.bl _)⟩
  · cases hx with | cons h t =>
      cases t
      obtain ⟨bs, e1, e⟩ := Option.map_eq_some_iff.mp e
      subst e
      obtain ⟨a, vs, rfl, h1, h2⟩ := h.list
      exact cr_sum hc pins s σ H _ us Q I rx ⟨a, bs, rfl, by rw [← kints_of h2 e1]; exact h1, q H _ (Same.refl H) (.int _)⟩
  · cases hx with | cons h t => cases t with | cons h' t =>
      cases t
      obtain ⟨ls, e1, e⟩ := bind_some e
      obtain ⟨c, e⟩ := cond_some e
      cases e
      obtain ⟨a, vs, rfl, h1, h2⟩ := h.list
      obtain ⟨a', vs', rfl, h1', h2'⟩ := h'.list
      obtain ⟨ws, h3, h4⟩ := lsV_of h2 e1
      have hf := few_line
      have c := of_decide_eq_true c
      refine cr_sumL hc pins s σ H _ us Q I rx ⟨a, a', vs, vs', ws, rfl, h1, h1', h3, ?_, ?_, fun p hp => q _ _ (same_upd hp) (Ro.newL hO hp (h2'.app h4))⟩
      · intro z; rw [z] at h2; cases h2
      · rw [h4.length, h2'.length]; omega
  · cases hx with | cons h t => cases t; cases e; obtain ⟨a, vs, rfl, h1, h2⟩ := h.list; exact call_tuple_of pins s σ H _ us Q I rx ⟨a, vs, rfl, .inl ⟨h1, fun l hl => q _ _ (same_upd hl) (Ro.newT hl h2)⟩⟩
  · cases hx with | cons h t => cases t; cases e; obtain ⟨a, vs, rfl, h1, h2⟩ := h.tup; exact call_tuple_of pins s σ H _ us Q I rx ⟨a, vs, rfl, .inr ⟨h1, q _ _ (Same.refl H) (.tup h1 h2)⟩⟩
  · exact call_reprX hu hgd pins s σ H _ us Q I rx ⟨O, b, _, d, hO, hx, e, q⟩
  · exact call_sortedX hu pins s σ H _ us Q I rx ⟨O, b, _, d, hO, hx, e, q⟩
  · cases e
theorem bBoot (bi : BI) : bootBuiltins (bName bi) = some (bVal bi) := by cases bi <;> decide +kernel
theorem bBad (bi : BI) : bName bi ≠ "__name__" ∧ (bName bi == ("__debug__" : Str)) = false := by cases bi <;> decide +kernel
theorem se_builtin {bi : BI} (hc : X.calm = true) (hu : X.A.units + 65 < cLine) (hgd : X.A.guards = some []) (hg : Gl X (bName bi)) (hm : X.mg (bName bi) = none) (he : isStar e = false) (hes : ∀ e ∈ es, isStar e = false) (ha : SA X true (e :: es) fs) :
    SE X b (.Call (.Name (bName bi) p) (e :: es) [] pos) fun σ => (fs σ).bind (bD bi) := by
  have key : ∀ {t : TE}, PE X (.Call (.Name (bName bi) p) (e :: es) [] pos) t → t = tCB (rB X.K X.w (bD bi)) (tA X.K X.w true fs) → SE X b (.Call (.Name (bName bi) p) (e :: es) [] pos) fun σ => (fs σ).bind (bD bi) := fun {t} h et => by
    subst et
    refine h.imp fun σ H Q ⟨O, Ow, es, d, hO, F, e, q⟩ => ?_
    obtain ⟨ds, e1, e⟩ := bind_some e
    exact ⟨O, Ow, es, ds, hO, F, e1, fun H1 vs s1 r1 => ⟨O, true, ds, d, hO.same s1, r1, e, fun H2 v s2 r2 => q H2 v (s1.trans s2) (.inl r2)⟩⟩
  have hb := bBoot bi
  have hd := call_D hc hu hgd bi
  obtain ⟨n1, n2⟩ := bBad bi
  cases h : bVal bi with
  | builtin id => rw [h] at hb hd; exact key (pe_callB hd hg hm hb ha n1 n2 (starEach_cons (star_no he) _) (stars_no hes)) rfl
  | type T => rw [h] at hb hd; exact key (pe_callTy hd hg hm hb ha n1 n2 (starEach_cons (star_no he) _) (stars_no hes)) rfl
  | _ => cases bi <;> cases h
/-! ### isinstance -/
def tyOfD : D → Option String
  | .none => some "NoneType"
  | .bool _ => some "bool"
  | .int _ => some "int"
  | .str _ => some "str"
  | .list _ => some "list"
  | .tuple _ => some "tuple"
  | .dict _ => none
theorem isTy_kit {t : Ty} {d : D} {k : Bool} {a : String} (h : isTy t d = some k) (ha : tyOfD d = some a) : kitB a (tString t) = some k := by
  cases d <;> cases ha <;> cases h <;> cases t <;> decide +kernel
theorem tBoot (t : Ty) : bootBuiltins (tName t) = some (.type (tString t)) := by cases t <;> decide +kernel
theorem tBad (t : Ty) : tName t ≠ "__name__" ∧ (tName t == ("__debug__" : Str)) = false := by cases t <;> decide +kernel
theorem RoB.tyx {K : PySem.W.Frag} {w : World} {O : Addr → Prop} {H : Hp} {v : V} {d : D} {a : String} (h : RoB K w O H b v d) (ha : tyOfD d = some a) : TyX K H v (.type a) := by
  cases d with
  | none => cases ha; cases h.non; exact .base .non
  | bool x => cases ha; cases h.bl; exact .base (.bl _)
  | int x => cases ha; cases h.int; exact .base (.int _)
  | str x => cases ha; obtain ⟨rfl, _⟩ := h.str; exact .base (.str _)
  | list x =>
    cases ha
    obtain ⟨a, vs, rfl, h1, h2⟩ := h.list
    rcases h1 with (h1 | ⟨o, h1⟩) | ⟨o, its, n, h1, h2, _⟩
    · exact .base (.lst h1)
    · exact .base (.frz h1)
    · exact .kList h1 h2
  | tuple x =>
    cases ha
    obtain ⟨a, vs, rfl, h1, h2⟩ := h.tup
    rcases h1 with (h1 | ⟨o, h1⟩) | ⟨o, its, n, h1, h2, _⟩
    · exact .base (.tup h1)
    · exact .fTuple h1
    · exact .kTuple h1 h2
  | dict x => cases ha
theorem se_isi {t : Ty} {x : Str} {p2 : Pos} (hx : x = "isinstance") (hg : Gl X x) (hm : X.mg x = none) (hgt : Gl X (tName t)) (hmt : X.mg (tName t) = none) (he : isStar e = false) (h : SE X true e f) :
    SE X b (.Call (.Name x p) [e, .Name (tName t) p2] [] pos) fun σ => (f σ).bind fun d => (isTy t d).map .bool := by
  subst hx
  have ht : PE X (.Name (tName t) p2) (tC (.ty (tString t))) := pe_bltn hgt hmt (tBoot t) rfl (tBad t).1 (tBad t).2
  refine (pe_callB call_isi hg hm (by decide +kernel) (pa_cons h (pa_cons ht pa_nil) (starEach_cons (star_no he) _)) (by decide +kernel) (by decide +kernel) (starEach_cons (star_no he) _)).imp fun σ H Q ⟨O, Ow, es, d, hO, F, e, q⟩ => ?_
  obtain ⟨x, e1, e⟩ := bind_some e
  obtain ⟨k, e2, e⟩ := Option.map_eq_some_iff.mp e
  subst e
  have hx : ∃ a, tyOfD x = some a := by cases x <;> first | exact ⟨_, rfl⟩ | cases e2
  obtain ⟨a, ha⟩ := hx
  refine ⟨O, Ow, es, x, hO, F, e1, fun H1 v s1 r1 => ?_⟩
  exact ⟨v, .ty (tString t), .type a, .type (tString t), k, rfl, .ty _, r1.tyx ha, kit_ty (isTy_kit e2 ha), q H1 _ s1 (.inl (.bl k))⟩
/-! ### calls of the text's defs -/
def spD (K : PySem.W.Frag) (w : World) (g : List D → Option D) : Sp := fun vs H Q _ => ∃ O ds d, OkO O H ∧ RoAll K w O H vs ds ∧ g ds = some d ∧ ∀ H' v, Same H H' → Ro K w O H' v d → Q v H'
structure CallOk (X : Cx) (k : Nat) (f : Str) (g : List D → Option D) : Prop where
  ex : ∃ fa fd ps, FnG X.prog X.w X.K X.mg X.base k fa fd ps (spD X.K X.w g) ∧ X.mg f = some (.ref fa) ∧ PySem.W.keepIn X.K (.ref fa) = true ∧ Binds X.K fd ps []
theorem se_call {k : Nat} {x : Str} {g : List D → Option D} (c : CallOk X k x g) (hr : Room k X.A) (hgd : X.A.guards = some []) (hg : Gl X x) (hd : (x == ("__debug__" : Str)) = false) (he : isStar e = false) (hes : ∀ e ∈ es, isStar e = false) (ha : SA X false (e :: es) fs) :
    SE X b (.Call (.Name x p) (e :: es) [] pos) fun σ => (fs σ).bind g := by
  obtain ⟨fa, fd, ps, F, hm, hk, hb⟩ := c.ex
  refine (pe_callG F hr hgd hg hm hk hb ha hd (starEach_cons (star_no he) _) (stars_no hes)).imp fun σ H Q ⟨O, Ow, es, d, hO, F, e, q⟩ => ?_
  obtain ⟨ds, e1, e⟩ := bind_some e
  exact ⟨O, Ow, es, ds, hO, F, e1, fun H1 vs s1 r1 => ⟨O, ds, d, hO.same s1, by rw [List.append_nil]; exact r1.all, e, fun H2 v s2 r2 => q H2 v (s1.trans s2) (.inl r2)⟩⟩
/-! ### own exceptions as data -/
theorem RoB.exc {K : PySem.W.Frag} {w : World} {O : Addr → Prop} {H : Hp} {b : Bool} {v : V} {x : Str} {d : D} (h : RoB K w O H b v (excD x d)) : ∃ a dx C u, v = .ref a ∧ H a = some (exoA a C dx) ∧ H dx = some (.xd [("at", u)]) ∧ PySem.W.nsIn K mainGlobals x = some (some (.ref C)) ∧ Ro K w O H u d := by
  rcases h with h | ⟨_, a, xs, ds', h1, h2, h3, h4⟩
  · generalize hd : excD x d = dd at h
    unfold excD at hd
    cases h with
    | @kdc a es n ps ds h1 h2 h3 h4 =>
      have hd := PyData.dict.inj hd
      cases ps with
      | nil => cases hd
      | cons p ps =>
        cases ds with
        | nil => cases hd
        | cons d0 ds =>
          simp only [List.map_cons, List.zip_cons_cons] at hd
          have := (List.cons.inj hd).1
          cases this
    | exc h1 h2 h3 h4 =>
      unfold excD at hd
      cases hd
      exact ⟨_, _, _, _, rfl, h1, h2, h3, h4⟩
    | _ => cases hd
  · cases h2
def IsiOk (K : PySem.W.Frag) (mg : Str → Option Value) (i : Str → D → Option D) : Prop := ∀ t, (∀ d, i t d = none) ∨ ∃ (cv : Value) (c : V), RelV c cv ∧ (∀ u, RelV c u → u = cv) ∧ (mg t = some cv ∨ (mg t = none ∧ bootBuiltins t = some cv ∧ t ≠ "__name__")) ∧
  ∀ d r, i t d = some r → ∃ x v b, d = excD x v ∧ r = .bool b ∧ ∀ C, PySem.W.nsIn K mainGlobals x = some (some (.ref C)) → ExcR K C ∧ PySem.W.kitOne K (.ref C) cv = some b
def AttOk (K : PySem.W.Frag) (a : Str → D → Option D) : Prop := ∀ t d r, a t d = some r → t = "at" ∧ ∃ x, d = excD x r ∧ ∀ C, PySem.W.nsIn K mainGlobals x = some (some (.ref C)) → ExcR K C
theorem se_no : SE X b e fun _ => none := ⟨fun _ _ _ _ _ _ ⟨O, Ow, es, d, hO, F, e, q⟩ => by cases e⟩
theorem se_mk {k : Nat} {x : Str} (T : ExcAt X.prog X.K X.mg x) (hr : Room (k + 1) X.A) (hg : Gl X x) (hd : (x == ("__debug__" : Str)) = false) (he : isStar e = false) (hes : ∀ e ∈ es, isStar e = false) (ha : SA X false (e :: es) fs) :
    SE X b (.Call (.Name x p) (e :: es) [] pos) fun σ => (fs σ).bind (mkD x) := by
  refine (pe_mkE (k := k) T hr hg ha hd (starEach_cons (star_no he) _) (stars_no hes)).imp fun σ H Q ⟨O, Ow, es, d, hO, F, e, q⟩ => ?_
  obtain ⟨ds, e1, e⟩ := bind_some e
  refine ⟨O, Ow, es, ds, hO, F, e1, fun H1 vs s1 r1 => ?_⟩
  unfold mkD at e
  split at e
  · rename_i v
    cases e
    cases r1 with
    | @cons vv _ _ _ r0 rr =>
      cases rr
      refine ⟨vv, rfl, fun a dx C n1 n2 ne hns => ?_⟩
      have s2 : Same H1 (upd (upd H1 dx (.xd [("at", vv)])) a (exoA a C dx)) := (same_upd n2).trans (same_upd (by rw [upd_ne ne]; exact n1))
      exact q _ _ (s1.trans s2) (.inl (.exc upd_same (by rw [upd_ne (Ne.symm ne), upd_same]) hns (r0.no.same s2)))
  · cases e
theorem se_isi2 {i : Str → D → Option D} {x t : Str} {p2 : Pos} (I : IsiOk X.K X.mg i) (hx : x = "isinstance") (hg : Gl X x) (hm : X.mg x = none) (hgt : Gl X t) (hdt : (t == ("__debug__" : Str)) = false) (he : isStar e = false) (h : SE X true e f) :
    SE X b (.Call (.Name x p) [e, .Name t p2] [] pos) fun σ => (f σ).bind fun d => i t d := by
  subst hx
  rcases I t with h0 | ⟨cv, c, rc, uc, hmt, hi⟩
  · refine se_no.eqf fun σ d hd => ?_
    obtain ⟨y, _, e2⟩ := bind_some hd
    rw [h0] at e2
    cases e2
  · have ht : PE X (.Name t p2) (tC c) := by
      rcases hmt with hmt | ⟨h1, h2, h3⟩
      · exact pe_glob hgt hmt rc hdt
      · exact pe_bltn hgt h1 h2 rc h3 hdt
    refine (pe_callB call_isA hg hm (by decide +kernel) (pa_cons h (pa_cons ht pa_nil) (starEach_cons (star_no he) _)) (by decide +kernel) (by decide +kernel) (starEach_cons (star_no he) _)).imp fun σ H Q ⟨O, Ow, es, d, hO, F, e, q⟩ => ?_
    obtain ⟨y, e1, e⟩ := bind_some e
    obtain ⟨x, v, bb, rfl, rfl, hc⟩ := hi _ _ e
    refine ⟨O, Ow, es, _, hO, F, e1, fun H1 u s1 r1 => ?_⟩
    obtain ⟨a, dx, C, w, rfl, h1, h2, h3, h4⟩ := r1.exc
    obtain ⟨R, hk⟩ := hc C h3
    exact ⟨a, dx, C, w, c, cv, bb, rfl, h1, h2, R, uc, fun _ => .inr trivial, hk, q H1 _ s1 (.inl (.bl bb))⟩
theorem se_at {att : Str → D → Option D} {a : Str} (A : AttOk X.K att) (hb : attributeBase e "at" X.env (eval e X.env) = eval e X.env) (h : SE X true e f) : SE X b (.Attribute e a pos) fun σ => (f σ).bind fun d => att a d := by
  by_cases ha : a = "at"
  · subst ha
    refine (pe_at h hb).imp fun σ H Q ⟨O, Ow, es, d, hO, F, e, q⟩ => ?_
    obtain ⟨y, e1, e⟩ := bind_some e
    obtain ⟨_, x, rfl, hc⟩ := A _ _ _ e
    refine ⟨O, Ow, es, _, hO, F, e1, fun H1 u s1 r1 => ?_⟩
    obtain ⟨a, dx, C, w, rfl, h1, h2, h3, h4⟩ := r1.exc
    exact ⟨a, dx, C, w, rfl, h1, h2, hc C h3, q H1 w s1 (.inl h4)⟩
  · refine se_no.eqf fun σ d hd => ?_
    obtain ⟨y, _, e2⟩ := bind_some hd
    exact absurd (A _ _ _ e2).1 ha
end
end EV

namespace EV
open PySem PySem.Spec PyProof.Rows L2

/-! ### what is walked -/
/-- an iterator over data, as long as the lists that are not in Z stay -/
structure Yld (K : PySem.W.Frag) (w : World) (O Z : Addr → Prop) (J : It) (H1 : Hp) (ds : List D) : Prop where
  go : ∀ (H2 : Hp) (i : Nat) (d : D), Keeps Z H1 H2 → ds[i]? = some d → J.go i H2 ∧ ∀ x H', J.yld i H2 x H' → Same H2 H' ∧ ∀ O' : Addr → Prop, (∀ a, O' a → O a ∨ H1 a = none) → Keeps O H1 H2 → Ro K w O' H' x d
  stop : ∀ H2 : Hp, Keeps Z H1 H2 → J.stop ds.length H2
def tI (K : PySem.W.Frag) (w : World) (b : Bool) (f : List Sl → Option (List D)) : TI := fun σ H R => ∃ O Ow es ds, OkO O H ∧ Fr K w O Ow es σ H ∧ f es = some ds ∧ ∀ J H1, Same H H1 → Yld K w O (fun a => b = false ∧ O a) J H1 ds → R J H1
abbrev SI (X : Cx) (b : Bool) (tg e : Expr) (f : List Sl → Option (List D)) : Prop := PI X tg e (tI X.K X.w b f)
section
variable {K : PySem.W.Frag} {w : World} {O Z : Addr → Prop} {H1 : Hp}
theorem yld_list {a : Addr} {vs : List V} {ds : List D} (h : Rd H1 a (.lst vs) ∧ ¬ Z a ∨ KL K a vs) (r : RoAll K w O H1 vs ds) : Yld K w O Z (Itl K a) H1 ds := by
  have at2 : ∀ H2, Keeps Z H1 H2 → SqL K H2 a vs := fun H2 k => by
    rcases h with ⟨h | ⟨o, h⟩, hz⟩ | h
    · exact .inl (.inl (k.l _ _ h hz))
    · exact .inl (.inr ⟨o, k.f _ _ _ h⟩)
    · exact .inr h
  refine ⟨fun H2 i d k e => ?_, fun H2 k => ⟨vs, at2 H2 k, by rw [r.length]; exact Nat.le_refl _⟩⟩
  obtain ⟨v, e1, e2⟩ := r.get e
  refine ⟨⟨vs, v, at2 H2 k, e1⟩, fun x H' ⟨h1, h2⟩ => ?_⟩
  subst h1
  refine ⟨Same.refl _, fun O' hO kk => ?_⟩
  have := h2 vs (at2 H' k)
  rw [e1] at this
  rw [← Option.some.inj this]
  exact e2.keeps kk hO
theorem yld_tup {a : Addr} {vs : List V} {ds : List D} (h : SqT K H1 a vs) (r : RoAll K w O H1 vs ds) : Yld K w O Z (Itt K a) H1 ds := by
  have at2 : ∀ H2, Keeps Z H1 H2 → SqT K H2 a vs := fun H2 k => by
    rcases h with (h | ⟨o, h⟩) | h
    · exact .inl (.inl (k.t _ _ h))
    · exact .inl (.inr ⟨o, k.f _ _ _ h⟩)
    · exact .inr h
  refine ⟨fun H2 i d k e => ?_, fun H2 k => ⟨vs, at2 H2 k, by rw [r.length]; exact Nat.le_refl _⟩⟩
  obtain ⟨v, e1, e2⟩ := r.get e
  refine ⟨⟨vs, v, at2 H2 k, e1⟩, fun x H' ⟨h1, h2⟩ => ?_⟩
  subst h1
  refine ⟨Same.refl _, fun O' hO kk => ?_⟩
  have := h2 vs (at2 H' k)
  rw [e1] at this
  rw [← Option.some.inj this]
  exact e2.keeps kk hO
theorem intRange_length : ∀ (n : Nat) (lo : Int), (intRange lo n).length = n
  | 0, _ => rfl
  | n + 1, lo => by rw [intRange, List.length_cons, intRange_length n]
theorem intRange_get : ∀ (n : Nat) (lo : Int) (i : Nat) (d : D), (intRange lo n)[i]? = some d → i < n ∧ d = .int (lo + i)
  | 0, _, _, _, e => by simp [intRange] at e
  | n + 1, lo, 0, d, e => by
    simp [intRange] at e
    exact ⟨Nat.succ_pos _, by rw [← e]; simp⟩
  | n + 1, lo, i + 1, d, e => by
    simp only [intRange, List.getElem?_cons_succ] at e
    obtain ⟨h1, h2⟩ := intRange_get n (lo + 1) i d e
    refine ⟨Nat.succ_lt_succ h1, ?_⟩
    rw [h2]
    have : lo + 1 + (i : Int) = lo + ((i + 1 : Nat) : Int) := by omega
    rw [this]
theorem yld_range {lo : Int} {n : Nat} : Yld K w O Z (Itr lo n) H1 (intRange lo n) := by
  refine ⟨fun H2 i d k e => ?_, fun H2 k => by rw [intRange_length]; exact Nat.le_refl _⟩
  obtain ⟨h1, h2⟩ := intRange_get n lo i d e
  refine ⟨h1, fun x H' ⟨e1, e2⟩ => ?_⟩
  subst e1 e2 h2
  exact ⟨Same.refl _, fun _ _ _ => .int _⟩
theorem zip_get : ∀ (xs ys : List D) (i : Nat) (d : D), (zipT xs ys)[i]? = some d → ∃ x y, xs[i]? = some x ∧ ys[i]? = some y ∧ d = .tuple [x, y]
  | [], _, i, d, e => by simp [zipT] at e
  | x :: xs, [], i, d, e => by simp [zipT] at e
  | x :: xs, y :: ys, 0, d, e => by simp [zipT] at e; exact ⟨x, y, rfl, rfl, e.symm⟩
  | x :: xs, y :: ys, i + 1, d, e => by
    obtain ⟨a, b, h1, h2, h3⟩ := zip_get xs ys i d (by simpa [zipT] using e)
    exact ⟨a, b, by simpa using h1, by simpa using h2, h3⟩
theorem zip_len : ∀ (xs ys : List D), xs.length ≤ (zipT xs ys).length ∨ ys.length ≤ (zipT xs ys).length
  | [], _ => .inl (Nat.zero_le _)
  | x :: xs, [] => .inr (Nat.zero_le _)
  | x :: xs, y :: ys => by
    rcases zip_len xs ys with h | h
    · exact .inl (by simp [zipT]; exact h)
    · exact .inr (by simp [zipT]; exact h)
theorem yld_zipT {a b : Addr} {vs ws : List V} {ds es : List D} (ha : SqT K H1 a vs) (hb : SqT K H1 b ws) (ra : RoAll K w O H1 vs ds) (rb : RoAll K w O H1 ws es) : Yld K w O Z (RZ.ItzT K a b) H1 (zipT ds es) := by
  have at2 : ∀ {a : Addr} {vs : List V}, SqT K H1 a vs → ∀ H2, Keeps Z H1 H2 → SqT K H2 a vs := fun h H2 k => by
    rcases h with (h | ⟨o, h⟩) | h
    · exact .inl (.inl (k.t _ _ h))
    · exact .inl (.inr ⟨o, k.f _ _ _ h⟩)
    · exact .inr h
  refine ⟨fun H2 i d k e => ?_, fun H2 k => ⟨vs, ws, at2 ha H2 k, at2 hb H2 k, by rw [ra.length, rb.length]; exact zip_len ds es⟩⟩
  obtain ⟨x, y, hx, hy, rfl⟩ := zip_get ds es i d e
  obtain ⟨v, e1, e2⟩ := ra.get hx
  obtain ⟨u, e3, e4⟩ := rb.get hy
  refine ⟨⟨vs, ws, v, u, at2 ha H2 k, at2 hb H2 k, e1, e3⟩, fun x' H' ⟨T, x1, y1, hx', hT, hH, f1, f2⟩ => ?_⟩
  subst hx' hH
  have g1 := f1 vs (at2 ha H2 k)
  have g2 := f2 ws (at2 hb H2 k)
  rw [e1] at g1
  rw [e3] at g2
  refine ⟨same_upd hT, fun O' hO kk => ?_⟩
  rw [← Option.some.inj g1, ← Option.some.inj g2]
  exact Ro.newT hT (.cons (e2.keeps kk hO) (.cons (e4.keeps kk hO) .nil))
theorem yld_zipL {a b : Addr} {vs ws : List V} {ds es : List D} (ha : Rd H1 a (.lst vs) ∧ ¬ Z a ∨ KL K a vs) (hb : Rd H1 b (.lst ws) ∧ ¬ Z b ∨ KL K b ws) (ra : RoAll K w O H1 vs ds) (rb : RoAll K w O H1 ws es) : Yld K w O Z (Itz K a b) H1 (zipT ds es) := by
  have at2 : ∀ {a : Addr} {vs : List V}, Rd H1 a (.lst vs) ∧ ¬ Z a ∨ KL K a vs → ∀ H2, Keeps Z H1 H2 → SqL K H2 a vs := fun h H2 k => by
    rcases h with ⟨h | ⟨o, h⟩, hz⟩ | h
    · exact .inl (.inl (k.l _ _ h hz))
    · exact .inl (.inr ⟨o, k.f _ _ _ h⟩)
    · exact .inr h
  refine ⟨fun H2 i d k e => ?_, fun H2 k => ⟨vs, ws, at2 ha H2 k, at2 hb H2 k, by rw [ra.length, rb.length]; exact zip_len ds es⟩⟩
  obtain ⟨x, y, hx, hy, rfl⟩ := zip_get ds es i d e
  obtain ⟨v, e1, e2⟩ := ra.get hx
  obtain ⟨u, e3, e4⟩ := rb.get hy
  refine ⟨⟨vs, ws, v, u, at2 ha H2 k, at2 hb H2 k, e1, e3⟩, fun x' H' ⟨T, x1, y1, hx', hT, hH, f1, f2⟩ => ?_⟩
  subst hx' hH
  have g1 := f1 vs (at2 ha H2 k)
  have g2 := f2 ws (at2 hb H2 k)
  rw [e1] at g1
  rw [e3] at g2
  refine ⟨same_upd hT, fun O' hO kk => ?_⟩
  rw [← Option.some.inj g1, ← Option.some.inj g2]
  exact Ro.newT hT (.cons (e2.keeps kk hO) (.cons (e4.keeps kk hO) .nil))
end
theorem _root_.L2.PI.imp {X : Cx} {tg e : Expr} {t t' : TI} (h : PI X tg e t) (hi : ∀ σ H Q, t' σ H Q → t σ H Q) : PI X tg e t' := ⟨fun pins s σ H Q I hq => h.run pins s σ H Q I (hi _ _ _ hq)⟩
section
variable {X : Cx} {b : Bool} {tg e e1 e2 : Expr} {pos p : Pos} {f f1 f2 : List Sl → Option D} {g : List Sl → Option Bool}
theorem si_seq (h : SE X b e f) : SI X b tg e fun σ => (f σ).bind items := by
  refine ⟨fun pins s σ H R I ⟨O, Ow, es, ds, hO, F, e0, q⟩ => ?_⟩
  obtain ⟨d, e1, e2⟩ := bind_some e0
  cases d with
  | list l =>
    cases e2
    refine (pi_list h).run pins s σ H R I ⟨O, Ow, es, _, hO, F, e1, fun H1 v s1 r1 => ?_⟩
    have r2 : ∃ a xs, v = .ref a ∧ (Rd H1 a (.lst xs) ∧ ¬ (b = false ∧ O a) ∨ KL X.K a xs) ∧ RoAll X.K X.w O H1 xs ds := by
      cases b with
      | true =>
        obtain ⟨a, xs, h1, h2, h3⟩ := r1.list
        refine ⟨a, xs, h1, ?_, h3⟩
        rcases h2 with h2 | h2
        · exact .inl ⟨h2, fun z => by cases z.1⟩
        · exact .inr h2
      | false =>
        cases r1.no with
        | lst h1 h2 h3 => exact ⟨_, _, rfl, .inl ⟨h1, fun z => h2 z.2⟩, h3⟩
        | kls h1 h3 => exact ⟨_, _, rfl, .inr h1, h3⟩
    obtain ⟨a, xs, rfl, h2, h4⟩ := r2
    refine ⟨a, rfl, ⟨xs, ?_⟩, q _ H1 s1 (yld_list h2 h4)⟩
    rcases h2 with h2 | h2
    · exact .inl h2.1
    · exact .inr h2
  | tuple l =>
    cases e2
    refine (pi_tup h).run pins s σ H R I ⟨O, Ow, es, _, hO, F, e1, fun H1 v s1 r1 => ?_⟩
    obtain ⟨a, xs, rfl, h2, h4⟩ := r1.tup
    exact ⟨a, rfl, ⟨xs, h2⟩, q _ H1 s1 (yld_tup h2 h4)⟩
  | _ => cases e2
theorem small62_ok {i : Int} (h : small62 i = true) : -(2 ^ 62) ≤ i ∧ i < 2 ^ 62 := by
  rw [small62, Bool.and_eq_true] at h
  exact ⟨of_decide_eq_true h.1, of_decide_eq_true h.2⟩
theorem si_range1 {x : Str} (hx : x = "range") (hg : Gl X x) (hm : X.mg x = none) (hs : isStar e = false) (h : SE X b e f) :
    SI X b tg (.Call (.Name x p) [e] [] pos) fun σ => (f σ).bind fun d => match d with | .int j => cond (small62 j) (some (intRange 0 j.toNat)) none | _ => none := by
  subst hx
  refine (pi_range1 hg hm (pa_cons h pa_nil (starEach_cons (star_no hs) _)) (starEach_cons (star_no hs) _)).imp fun σ H R ⟨O, Ow, es, ds, hO, F, e, q⟩ => ?_
  obtain ⟨d, e1, e⟩ := bind_some e
  refine ⟨O, Ow, es, d, hO, F, e1, fun H1 v s1 r1 => ?_⟩
  cases d with
  | int j =>
    obtain ⟨c, e⟩ := cond_some e
    obtain ⟨c1, c2⟩ := small62_ok c
    cases e
    cases r1.int
    exact ⟨j, rfl, c1, c2, q _ H1 s1 yld_range⟩
  | _ => cases e
theorem si_range2 {x : Str} (hx : x = "range") (hg : Gl X x) (hm : X.mg x = none) (hs1 : isStar e1 = false) (hs2 : isStar e2 = false) (h1 : SE X b e1 f1) (h2 : SE X b e2 f2) :
    SI X b tg (.Call (.Name x p) [e1, e2] [] pos) fun σ => (f1 σ).bind fun d => (f2 σ).bind fun d' => match d, d' with
      | .int i, .int j => cond (small62 i && small62 j) (some (intRange i (j - i).toNat)) none
      | _, _ => none := by
  subst hx
  have e2' : starEach [e2] X.env = [(false, eval e2 X.env)] := starEach_cons (star_no hs2) _
  have e1' : starEach [e1, e2] X.env = (false, eval e1 X.env) :: starEach [e2] X.env := starEach_cons (star_no hs1) _
  refine (pi_range2 hg hm (pa_cons h1 (pa_cons h2 pa_nil e2') e1') (by rw [e1', e2']) e2').imp fun σ H R ⟨O, Ow, es, ds, hO, F, e, q⟩ => ?_
  obtain ⟨d, e1, e⟩ := bind_some e
  obtain ⟨d', e2, e⟩ := bind_some e
  refine ⟨O, Ow, es, d, hO, F, e1, fun H1 v s1 r1 => ⟨O, Ow, es, d', hO.same s1, F.same s1, e2, fun H2 v' s2 r2 => ?_⟩⟩
  cases d with
  | int i =>
    cases d' with
    | int j =>
      obtain ⟨c, e⟩ := cond_some e
      rw [Bool.and_eq_true] at c
      cases e
      cases r1.int
      cases r2.int
      exact ⟨i, j, rfl, ⟨(small62_ok c.1).1, (small62_ok c.1).2, (small62_ok c.2).1, (small62_ok c.2).2⟩, q _ H2 (s1.trans s2) yld_range⟩
    | _ => cases e
  | _ => cases e
theorem RoB.lz {b : Bool} {K : PySem.W.Frag} {w : World} {O : Addr → Prop} {H : Hp} {v : V} {l : List D} (r : RoB K w O H b v (.list l)) : ∃ a xs, v = .ref a ∧ (Rd H a (.lst xs) ∧ ¬ (b = false ∧ O a) ∨ KL K a xs) ∧ RoAll K w O H xs l := by
  cases b with
  | true =>
    obtain ⟨a, xs, h1, h2, h3⟩ := r.list
    refine ⟨a, xs, h1, ?_, h3⟩
    rcases h2 with h2 | h2
    · exact .inl ⟨h2, fun z => by cases z.1⟩
    · exact .inr h2
  | false =>
    cases r.no with
    | lst h1 h2 h3 => exact ⟨_, _, rfl, .inl ⟨h1, fun z => h2 z.2⟩, h3⟩
    | kls h1 h3 => exact ⟨_, _, rfl, .inr h1, h3⟩
theorem sql_of {K : PySem.W.Frag} {H : Hp} {a : Addr} {xs : List V} {Z : Prop} (h : Rd H a (.lst xs) ∧ Z ∨ KL K a xs) : SqL K H a xs := h.elim (fun z => .inl z.1) .inr
theorem si_zip {x : Str} {elts : List Expr} {kk : Nat} {tpos : Pos} (hx : x = "zip") (hg : Gl X x) (hm : X.mg x = none) (hs1 : isStar e1 = false) (hs2 : isStar e2 = false) (h1 : SE X b e1 f1) (h2 : SE X b e2 f2) :
    SI X b (.Tuple elts kk tpos) (.Call (.Name x p) [e1, e2] [] pos) fun σ => (f1 σ).bind fun d => (f2 σ).bind fun d' => zipD d d' := by
  subst hx
  have e2' : starEach [e2] X.env = [(false, eval e2 X.env)] := starEach_cons (star_no hs2) _
  have e1' : starEach [e1, e2] X.env = (false, eval e1 X.env) :: starEach [e2] X.env := starEach_cons (star_no hs1) _
  refine (RZ.pi_zipA hg hm (pa_cons h1 (pa_cons h2 pa_nil e2') e1') e1' (by rw [e2']; rfl)).imp fun σ H R ⟨O, Ow, es, ds, hO, F, e, q⟩ => ?_
  obtain ⟨d, e1, e⟩ := bind_some e
  obtain ⟨d', e2, e⟩ := bind_some e
  refine ⟨O, Ow, es, d, hO, F, e1, fun H1 v s1 r1 => ⟨O, Ow, es, d', hO.same s1, F.same s1, e2, fun H2 v' s2 r2 => ?_⟩⟩
  have r1 := r1.same s2
  unfold zipD at e
  split at e
  · cases e
    obtain ⟨a, xs, rfl, ha, h3⟩ := r1.lz
    obtain ⟨a', xs', rfl, hb, h4⟩ := r2.lz
    exact ⟨a, a', xs, xs', rfl, .inl ⟨sql_of ha, sql_of hb, q _ H2 (s1.trans s2) (yld_zipL ha hb h3 h4)⟩⟩
  · cases e
    obtain ⟨a, xs, rfl, ha, h3⟩ := r1.tup
    obtain ⟨a', xs', rfl, hb, h4⟩ := r2.tup
    exact ⟨a, a', xs, xs', rfl, .inr ⟨ha, hb, q _ H2 (s1.trans s2) (yld_zipT ha hb h3 h4)⟩⟩
  · cases e

/-! ### targets -/
/-- a store in the slots of vs alone -/
def tG (K : PySem.W.Frag) (w : World) (vs : List Nat) (g : List Sl → D → Option (List Sl)) : TG := fun v σ H Q => ∃ O Ow es d es', OkO O H ∧ Fr K w O Ow es σ H ∧ Ro K w O H v d ∧ g es d = some es' ∧
  ∀ σ' H', Same H H' → σ'.length = σ.length → (∀ j, j ∉ vs → σ'[j]? = σ[j]?) → Fr K w O Ow es' σ' H' → Q σ' H'
abbrev SG (X : Cx) (vs : List Nat) (t : Expr) (g : List Sl → D → Option (List Sl)) : Prop := PG X t (tG X.K X.w vs g)
theorem Fr.set {K : PySem.W.Frag} {w : World} {O Ow : Addr → Prop} {es : List Sl} {σ : L2.St} {H : Hp} {i : Nat} {v : V} {d : D} (hi : i < σ.length) (F : Fr K w O Ow es σ H) (r : Ro K w O H v d) : Fr K w O Ow (es.set i (.sh d)) (σ.set i (some v)) H := by
  intro j s e
  by_cases hj : i = j
  · subst hj
    have hl : i < es.length := by
      have := (List.getElem?_eq_some_iff.mp e).1
      simpa using this
    rw [List.getElem?_set_self hl] at e
    cases e
    rw [List.getElem?_set_self hi]
    exact ⟨v, rfl, r⟩
  · rw [List.getElem?_set_ne hj] at e ⊢
    exact F j s e
theorem _root_.L2.PG.imp {t : Expr} {a a' : TG} (h : PG X t a) (hi : ∀ v σ H Q, a' v σ H Q → a v σ H Q) : PG X t a' := ⟨fun pins s σ H v u Q I r hq => h.run pins s σ H v u Q I r (hi _ _ _ _ hq)⟩
/-- the same for what only keeps the state's length: it is asked of Inv -/
theorem sg_name {i : Nat} {x : Str} (hN : X.N.Nodup) (hi : X.N[i]? = some x) (hx : Loc X.env.scope x) (hf : X.fn x = true ∨ X.env.scope.names.lookup x = some .local) : SG X [i] (.Name x pos) fun es d => some (es.set i (.sh d)) := by
  refine ⟨fun pins s σ H v u Q I r ⟨O, Ow, es, d, es', hO, F, ro, e, q⟩ => ?_⟩
  have hl : i < σ.length := by
    rw [I.len]
    exact (List.getElem?_eq_some_iff.mp hi).1
  cases e
  refine (pg_name (pos := pos) hN hi hx hf).run pins s σ H v u Q I r ?_
  exact q _ H (Same.refl H) (by rw [List.length_set]) (fun j hj => List.getElem?_set_ne (fun z => hj (by rw [z]; exact List.mem_singleton_self j))) (F.set hl ro)
end
end EV

namespace EV
open PySem PySem.Spec PyProof.Rows L2
theorem ix_get {x : Str} {i : Nat} {N : List Str} (h : N.idxOf? x = some i) : N[i]? = some x := by
  unfold List.idxOf? at h
  rw [List.findIdx?_eq_some_iff_getElem] at h
  obtain ⟨hi, h1, _⟩ := h
  rw [List.getElem?_eq_getElem hi]
  have : N[i] = x := by simpa using h1
  rw [this]
def StoreOk (X : Cx) (x : Str) : Prop := Loc X.env.scope x ∧ (X.fn x = true ∨ X.env.scope.names.lookup x = some .local)
section
variable {X : Cx} {b : Bool} {pos : Pos} {vs : List Nat}
theorem SG.mono {vs vs' : List Nat} {t : Expr} {g : List Sl → D → Option (List Sl)} (h : SG X vs t g) (hs : ∀ j ∈ vs, j ∈ vs') : SG X vs' t g :=
  h.imp fun v σ H Q ⟨O, Ow, es, d, es', hO, F, ro, e, q⟩ => ⟨O, Ow, es, d, es', hO, F, ro, e, fun σ' H' s l k F' => q σ' H' s l (fun j hj => k j fun z => hj (hs j z)) F'⟩
theorem sg_asgN {x : Str} (hN : X.N.Nodup) (hs : StoreOk X x) : SG X (namesIx X.N [.Name x pos]) (.Name x pos) fun es d => asgN X.N es x d := by
  cases e : X.N.idxOf? x with
  | none => exact ⟨fun pins s σ H v u Q I r ⟨O, Ow, es, d, es', hO, F, ro, e', q⟩ => by unfold asgN at e'; rw [e] at e'; cases e'⟩
  | some i =>
    have h := sg_name (pos := pos) hN (ix_get e) hs.1 hs.2
    have e2 : namesIx X.N [.Name x pos] = [i] := by simp [namesIx, e]
    rw [e2]
    refine h.imp fun v σ H Q ⟨O, Ow, es, d, es', hO, F, ro, e', q⟩ => ⟨O, Ow, es, d, es', hO, F, ro, ?_, q⟩
    unfold asgN at e'
    rw [e] at e'
    exact e'
/-- several names -/
def tGs (K : PySem.W.Frag) (w : World) (vs : List Nat) (g : List D → List Sl → Option (List Sl)) : TGs := fun us σ H Q => ∃ O Ow es ds es', OkO O H ∧ Fr K w O Ow es σ H ∧ RoAll K w O H us ds ∧ g ds es = some es' ∧
  ∀ σ' H', Same H H' → σ'.length = σ.length → (∀ j, j ∉ vs → σ'[j]? = σ[j]?) → Fr K w O Ow es' σ' H' → Q σ' H'
theorem _root_.L2.PGs.imp {ts : List Expr} {a a' : TGs} (h : PGs X ts a) (hi : ∀ v σ H Q, a' v σ H Q → a v σ H Q) : PGs X ts a' := ⟨fun pins s σ H v u Q I r hq => h.run pins s σ H v u Q I r (hi _ _ _ _ hq)⟩
def areNames : List Expr → Bool
  | [] => true
  | .Name _ _ :: r => areNames r
  | _ => false
theorem assign_names {env : Env} : ∀ {es : List Expr}, areNames es = true → (assignEach es env).length = es.length ∧ (assignEach es env).findIdx? (·.1) = none
  | [], _ => ⟨rfl, rfl⟩
  | .Name x p :: r, h => by
    obtain ⟨h1, h2⟩ := assign_names (env := env) (es := r) h
    refine ⟨by show (assignEach r env).length + 1 = _; rw [h1]; rfl, ?_⟩
    show ((false, assign (.Name x p) env) :: assignEach r env).findIdx? (·.1) = none
    rw [List.findIdx?_cons, h2]; rfl
theorem sgs_names (hN : X.N.Nodup) : ∀ {es : List Expr}, areNames es = true → (∀ x p, Expr.Name x p ∈ es → StoreOk X x) → PGs X es (tGs X.K X.w (namesIx X.N es) fun ds σ => asgs X.N es ds σ)
  | [], _, _ => pgs_nil.imp fun us σ H Q ⟨O, Ow, es, ds, es', hO, F, ro, e, q⟩ => by
    cases ro with
    | nil => cases e; exact ⟨rfl, q σ H (Same.refl H) rfl (fun _ _ => rfl) F⟩
    | cons _ _ => cases e
  | .Name x p :: r, h, hs => by
    have h1 := sg_asgN (pos := p) hN (hs x p List.mem_cons_self)
    have h2 := sgs_names hN (es := r) h fun y q hy => hs y q (List.mem_cons_of_mem _ hy)
    refine (pgs_cons h1 h2 rfl).imp fun us σ H Q ⟨O, Ow, es, ds, es', hO, F, ro, e, q⟩ => ?_
    cases ro with
    | nil => cases e
    | @cons v vs d ds r1 r2 =>
      have e : (asgN X.N es x d).bind (fun σ' => asgs X.N r ds σ') = some es' := e
      obtain ⟨es1, e1, e2⟩ := bind_some e
      refine ⟨v, vs, rfl, O, Ow, es, d, es1, hO, F, r1, e1, fun σ1 H1 s1 l1 k1 F1 => ?_⟩
      refine ⟨O, Ow, es1, ds, es', hO.same s1, F1, r2.same s1, e2, fun σ2 H2 s2 l2 k2 F2 => ?_⟩
      refine q σ2 H2 (s1.trans s2) (l2.trans l1) (fun j hj => ?_) F2
      have n1 : j ∉ namesIx X.N [.Name x p] ∧ j ∉ namesIx X.N r := by
        simp only [namesIx] at hj ⊢
        split at hj
        · rename_i i hi
          simp only [List.mem_cons, not_or] at hj
          simp [hj.1, hj.2]
        · exact ⟨by simp, hj⟩
      rw [k2 j n1.2, k1 j n1.1]
theorem asgs_length {N : List Str} : ∀ {ts : List Expr} {ds : List D} {es es' : List Sl}, asgs N ts ds es = some es' → ds.length = ts.length
  | ts, ds, es, es', e => by
    unfold asgs at e
    split at e
    · rfl
    · obtain ⟨es1, _, e2⟩ := bind_some e
      simp [asgs_length e2]
    · cases e
theorem sg_asg {t : Expr} (hN : X.N.Nodup) (hc : X.calm = true) (ht : (∃ x p, t = .Name x p ∧ StoreOk X x) ∨ ∃ es k p, t = .Tuple es k p ∧ areNames es = true ∧ ∀ x p, Expr.Name x p ∈ es → StoreOk X x) :
    SG X (tgIx X.N t) t fun es d => asg X.N es t d := by
  rcases ht with ⟨x, p, rfl, hs⟩ | ⟨ts, k, p, rfl, ha, hs⟩
  · exact sg_asgN hN hs
  · obtain ⟨a1, a2⟩ := assign_names (env := X.env) ha
    refine ⟨fun pins s σ H v u Q I r ⟨O, Ow, es, d, es', hO, F, ro, e, q⟩ => ?_⟩
    unfold asg at e
    cases d with
    | tuple ds =>
      cases ro with
      | tup h1 h2 =>
        refine (pg_tup hc (sgs_names hN ha hs) rfl a2).run pins s σ H _ u Q I r ⟨_, _, rfl, h1, ?_, O, Ow, es, ds, es', hO, F, h2, e, q⟩
        rw [a1, h2.length]
        exact asgs_length e
    | list ds =>
      have hb : RoB X.K X.w O H false v (.list ds) := .inl ro
      obtain ⟨a, vs, rfl, h1, h2⟩ := hb.list
      refine (pg_lst hc (sgs_names hN ha hs) rfl a2).run pins s σ H _ u Q I r ⟨_, _, rfl, h1, ?_, O, Ow, es, ds, es', hO, F, h2, e, q⟩
      rw [a1, h2.length]
      exact asgs_length e
    | _ => cases e

/-! ### wiping -/
theorem wipeD_length (es : List Sl) : ∀ vs : List Nat, (wipeD es vs).length = es.length
  | [] => rfl
  | v :: vs => by unfold wipeD; rw [List.length_set, wipeD_length es vs]
theorem wipeD_get {es : List Sl} {j : Nat} : ∀ {vs : List Nat}, j ∉ vs → (wipeD es vs)[j]? = es[j]?
  | [], _ => rfl
  | v :: vs, h => by
    simp only [List.mem_cons, not_or] at h
    unfold wipeD
    rw [List.getElem?_set_ne (fun z => h.1 z.symm), wipeD_get h.2]
theorem wipeD_un {es : List Sl} {j : Nat} {s : Sl} : ∀ {vs : List Nat}, j ∈ vs → (wipeD es vs)[j]? = some s → s = .un
  | v :: vs, h, e => by
    unfold wipeD at e
    by_cases hj : v = j
    · subst hj
      have hl : v < (wipeD es vs).length := by
        have := (List.getElem?_eq_some_iff.mp e).1
        simpa using this
      rw [List.getElem?_set_self hl] at e
      exact (Option.some.inj e).symm
    · rw [List.getElem?_set_ne hj] at e
      rcases List.mem_cons.mp h with z | z
      · exact absurd z.symm hj
      · exact wipeD_un z e
theorem wipe_get {σ : L2.St} {j : Nat} : ∀ {vs : List Nat}, j ∉ vs → (wipe σ vs)[j]? = σ[j]?
  | [], _ => rfl
  | v :: vs, h => by
    simp only [List.mem_cons, not_or] at h
    unfold wipe
    rw [List.getElem?_set_ne (fun z => h.1 z.symm), wipe_get h.2]
theorem wipe_non {σ : L2.St} {j : Nat} : ∀ {vs : List Nat}, j ∈ vs → j < σ.length → (wipe σ vs)[j]? = some none
  | v :: vs, h, hl => by
    unfold wipe
    by_cases hj : v = j
    · subst hj
      rw [List.getElem?_set_self (by rw [wipe_length]; exact hl)]
    · rw [List.getElem?_set_ne hj]
      rcases List.mem_cons.mp h with z | z
      · exact absurd z.symm hj
      · exact wipe_non z hl
theorem wipe_eq {σ σ' : L2.St} {vs : List Nat} (hl : σ'.length = σ.length) (h : ∀ j, j ∉ vs → σ'[j]? = σ[j]?) : wipe σ' vs = wipe σ vs := by
  apply List.ext_getElem?
  intro j
  by_cases hj : j ∈ vs
  · by_cases hlt : j < σ.length
    · rw [wipe_non hj hlt, wipe_non hj (by rw [hl]; exact hlt)]
    · rw [List.getElem?_eq_none (by rw [wipe_length]; omega), List.getElem?_eq_none (by rw [wipe_length]; omega)]
  · rw [wipe_get hj, wipe_get hj, h j hj]
theorem Fr.wipe {K : PySem.W.Frag} {w : World} {O Ow : Addr → Prop} {es : List Sl} {σ : L2.St} {H : Hp} {vs : List Nat} (F : Fr K w O Ow es σ H) : Fr K w O Ow (wipeD es vs) (wipe σ vs) H := by
  intro j s e
  by_cases hj : j ∈ vs
  · rw [wipeD_un hj e]; trivial
  · rw [wipeD_get hj] at e
    rw [wipe_get hj]
    exact F j s e
theorem Fr.more {K : PySem.W.Frag} {w : World} {O O' Ow Ow' : Addr → Prop} {es : List Sl} {σ : L2.St} {H H' : Hp} (s : Same H H') (hO : ∀ a, O' a → O a ∨ H a = none) (h1 : ∀ a, O a → O' a) (h2 : ∀ a, O a → Ow a → Ow' a) (F : Fr K w O Ow es σ H) : Fr K w O' Ow' es σ H' := by
  intro j t e
  have h := F j t e
  cases t with
  | un => trivial
  | sh d => obtain ⟨v, e, r⟩ := h; exact ⟨v, e, r.keeps (Same.keeps s) hO⟩
  | ow l => obtain ⟨a, xs, e, k1, k0, k2⟩ := h; exact ⟨a, xs, e, s _ _ k1, ⟨h1 _ k0.1, h2 _ k0.1 k0.2⟩, k2.keeps (Same.keeps s) hO⟩
/-- .. where other lists may change -/
theorem Fr.keeps {K : PySem.W.Frag} {w : World} {O Ow : Addr → Prop} {es : List Sl} {σ : L2.St} {H H' : Hp} (k : Keeps O H H') (hw : ∀ a xs, Ow a → H a = some (.lst xs) → H' a = some (.lst xs)) (F : Fr K w O Ow es σ H) : Fr K w O Ow es σ H' := by
  intro j t e
  have h := F j t e
  cases t with
  | un => trivial
  | sh d => obtain ⟨v, e, r⟩ := h; exact ⟨v, e, r.keeps k fun _ z => .inl z⟩
  | ow l => obtain ⟨a, xs, e, k1, k0, k2⟩ := h; exact ⟨a, xs, e, hw _ _ k0.2 k1, k0, k2.keeps k fun _ z => .inl z⟩
end
end EV

namespace EV
open PySem PySem.Spec PyProof.Rows L2
theorem lim_some {r : Option (List D)} {d : D} (h : lim r = some d) : ∃ ys, r = some ys ∧ ys.length ≤ few ∧ d = .list ys := by
  obtain ⟨ys, e1, e2⟩ := bind_some h
  obtain ⟨c, e3⟩ := cond_some e2
  exact ⟨ys, e1, of_decide_eq_true c, (Option.some.inj e3).symm⟩
theorem drop_at {α : Type} {xs : List α} {i : Nat} (h : i < xs.length) : xs.drop i = xs[i] :: xs.drop (i + 1) := by
  rw [List.drop_eq_getElem_cons h]
section
variable {K : PySem.W.Frag} {w : World} {O : Addr → Prop} {H : Hp}
/-- the comprehension's list grows: what else there is stays -/
theorem grow_keeps {D0 : Addr} {vs ws : List V} (h : H D0 = some (.lst vs)) : Keeps (fun a => O a ∨ a = D0) H (upd H D0 (.lst ws)) := by
  refine ⟨fun a xs e n => ?_, fun a xs e => ?_, fun a o u e => ?_, fun a φ e => ?_, fun a fs e => ?_⟩
  · rw [upd_ne (fun z => n (.inr z))]; exact e
  · rw [upd_ne (fun z => by rw [z, h] at e; cases e)]; exact e
  · rw [upd_ne (fun z => by rw [z, h] at e; cases e)]; exact e
  · rw [upd_ne (fun z => by rw [z, h] at e; cases e)]; exact e
  · rw [upd_ne (fun z => by rw [z, h] at e; cases e)]; exact e
theorem grow_all {D0 : Addr} {vs : List V} {v : V} {ys : List D} {y : D} (h : H D0 = some (.lst vs)) (r : RoAll K w (fun a => O a ∨ a = D0) H vs ys) (r1 : Ro K w (fun a => O a ∨ a = D0) H v y) :
    RoAll K w (fun a => O a ∨ a = D0) (upd H D0 (.lst (vs ++ [v]))) (vs ++ [v]) (ys ++ [y]) :=
  (r.app (.cons r1 .nil)).keeps (grow_keeps h) fun _ z => .inl z
theorem grow_same {H1 : Hp} {D0 : Addr} {ws : List V} (h1 : H1 D0 = none) (s : Same H1 H) : Same H1 (upd H D0 (.lst ws)) := fun b o e => by
  rw [upd_ne (ne_of_none e h1)]; exact s b o e
theorem okO_grow {D0 : Addr} {vs : List V} (hO : OkO O H) (h : H D0 = some (.lst vs)) : OkO (fun a => O a ∨ a = D0) H := fun a z => by
  rcases z with z | z
  · exact hO a z
  · subst z; exact ⟨vs, h⟩
end
section
variable {X : Cx} {tg it elt : Expr} {ifs : List Expr} {scope : Scope} {own : List (Str × Nat)} {pos : Pos} {fi : List Sl → Option (List D)} {g : List Sl → D → Option (List Sl)} {t : List Sl → Option Bool} {f : List Sl → Option D}
abbrev blk (X : Cx) (scope : Scope) (s : Shared) (H : Hp) (C : Addr) (cl : List (Str × Addr)) (fp : List Addr) : Cx := X.blk s H scope (compEnvC scope cl C X.env) fp
theorem comp1_read {σ : L2.St} {H : Hp} {Q : VK} (h : tF X.K X.w (fun σ => (fi σ).bind fun xs => lim (comp1 (g (wipeD σ (own.map (·.2)))) t f xs)) σ H Q) :
    tLc (tI X.K X.w true fi) (tG X.K X.w (own.map (·.2)) g) (tT X.K X.w t) (tE X.K X.w false f) (own.map (·.2)) σ H Q := by
  obtain ⟨O, Ow, es, d, hO, F, e, q⟩ := h
  obtain ⟨xs, e1, e2⟩ := bind_some e
  obtain ⟨ys, e3, hl, rfl⟩ := lim_some e2
  have hf := few_line
  refine ⟨O, Ow, es, xs, hO, F, e1, fun J H1 s1 Y D0 hD => ?_⟩
  have hO1 : ∀ a, (O a ∨ a = D0) → O a ∨ H1 a = none := fun a z => z.imp id fun z => by rw [z]; exact hD
  refine ⟨fun i m H2 => ∃ ys1 ys2 vs, m = xs.length - i ∧ i ≤ xs.length ∧ Same H1 H2 ∧ comp1 (g (wipeD es (own.map (·.2)))) t f (xs.drop i) = some ys2 ∧ ys = ys1 ++ ys2 ∧ H2 D0 = some (.lst vs) ∧ RoAll X.K X.w (fun a => O a ∨ a = D0) H2 vs ys1, ⟨_, [], ys, [], rfl, Nat.zero_le _, same_upd hD, e3, rfl, upd_same, .nil⟩, ?_⟩
  rintro i m H2 ⟨ys1, ys2, vs, rfl, hi, s2, c2, ey, h2, r2⟩
  have kz : Keeps (fun a => true = false ∧ O a) H1 H2 := Same.keeps s2
  by_cases hlt : i < xs.length
  · refine .inr ⟨(Y.go H2 i xs[i] kz (List.getElem?_eq_getElem hlt)).1, fun H3 => ∃ ys1 ys2 vs, i + 1 ≤ xs.length ∧ Same H1 H3 ∧ comp1 (g (wipeD es (own.map (·.2)))) t f (xs.drop (i + 1)) = some ys2 ∧ ys = ys1 ++ ys2 ∧ H3 D0 = some (.lst vs) ∧ RoAll X.K X.w (fun a => O a ∨ a = D0) H3 vs ys1,
      fun H3 ⟨a1, a2, a3, b1, b2, b3, b4, b5, b6⟩ => ⟨xs.length - (i + 1), by omega, a1, a2, a3, rfl, b1, b2, b3, b4, b5, b6⟩, fun x H3 y => ?_⟩
    obtain ⟨sm, rx⟩ := (Y.go H2 i xs[i] kz (List.getElem?_eq_getElem hlt)).2 x H3 y
    have rx := rx (fun a => O a ∨ a = D0) hO1 (Same.keeps s2)
    replace s2 := s2.trans sm
    replace h2 := sm _ _ h2
    replace r2 := r2.same sm
    rw [drop_at hlt] at c2
    obtain ⟨es2, c3, c4⟩ := bind_some (show (g (wipeD es (own.map (·.2))) xs[i]).bind _ = some ys2 from c2)
    obtain ⟨bt, c5, c6⟩ := bind_some c4
    have s02 : Same H H3 := s1.trans s2
    have F3 : Fr X.K X.w (fun a => O a ∨ a = D0) O (wipeD es (own.map (·.2))) (wipe σ (own.map (·.2))) H3 := (((F.same s1).wipe).more (Same.refl H1) hO1 (fun _ z => .inl z) fun _ z _ => z).same s2
    refine ⟨fun a => O a ∨ a = D0, O, wipeD es (own.map (·.2)), xs[i], es2, okO_grow (hO.same s02) h2, F3, rx, c3, fun σ2 H4 s4 l4 k4 F4 => ⟨?_, ?_⟩⟩
    · exact wipe_eq (by rw [l4, wipe_length]) fun j hj => by rw [k4 j hj, wipe_get hj]
    · refine ⟨_, O, es2, bt, okO_grow ((hO.same s02).same s4) (s4 _ _ h2), F4, c5, fun H5 s5 => ?_⟩
      cases bt with
      | false =>
        simp only [Bool.false_eq_true, if_false]
        exact ⟨ys1, ys2, vs, hlt, (s2.trans s4).trans s5, c6, ey, (s4.trans s5) _ _ h2, r2.same (s4.trans s5)⟩
      | true =>
        simp only [if_true]
        obtain ⟨yv, c7, c8⟩ := bind_some c6
        obtain ⟨ys3, c9, c10⟩ := bind_some c8
        cases c10
        refine ⟨_, O, es2, yv, okO_grow (((hO.same s02).same s4).same s5) ((s4.trans s5) _ _ h2), F4.same s5, c7, fun H6 v s6 r6 => ?_⟩
        have s36 : Same H3 H6 := (s4.trans s5).trans s6
        have h6 : H6 D0 = some (.lst vs) := s36 _ _ h2
        have r6' : RoAll X.K X.w (fun a => O a ∨ a = D0) H6 vs ys1 := r2.same s36
        refine ⟨vs, h6, ?_, ys1 ++ [yv], ys3, vs ++ [v], hlt, grow_same hD (s2.trans s36), c9, by rw [ey]; simp, upd_same, grow_all h6 r6' r6.no⟩
        have : ys.length = ys1.length + (ys3.length + 1) := by rw [ey]; simp
        rw [r2.length]; omega
  · have hi' : i = xs.length := by omega
    subst hi'
    refine .inl ⟨Y.stop H2 kz, ?_⟩
    rw [List.drop_length] at c2
    cases c2
    refine q H2 D0 vs ys (s1.trans s2) (s1.free hD) h2 rfl ?_
    rw [ey, List.append_nil]
    exact r2

/-! ### two clauses -/
variable {tg1 it1 : Expr} {ifs1 : List Expr} {fi1 : List Sl → Option (List D)} {g1 : List Sl → D → Option (List Sl)} {t1 : List Sl → Option Bool} {vs1 : List Nat}
theorem sf_comp1 (hc : X.calm = true) (hN : X.N.Nodup) (hi : SI X true tg it fi) (ok : BlkOk X.N X.env.scope scope own)
    (hg : ∀ s H C cl fp, SG (blk X scope s H C cl fp) (own.map (·.2)) tg g) (ht : ∀ s H C cl fp, PTs (blk X scope s H C cl fp) ifs (tT X.K X.w t)) (he : ∀ s H C cl fp, SE (blk X scope s H C cl fp) false elt f)
    (hs : ∀ x, foldedSetIterable it X.env x = pure x) :
    SF X (.ListComp elt [⟨tg, it, ifs, 0⟩] scope pos) fun σ => (fi σ).bind fun xs => lim (comp1 (g (wipeD σ (own.map (·.2)))) t f xs) :=
  (pe_lc (g := tG X.K X.w (own.map (·.2)) g) (tt := tT X.K X.w t) (te := tE X.K X.w false f) hc hN hi ok hg ht he hs).imp fun σ H Q h => comp1_read h
theorem comp2_read {σ : L2.St} {H : Hp} {Q : VK} (h : tF X.K X.w (fun σ => (fi σ).bind fun xs => lim (comp2 (g (wipeD σ (own.map (·.2)))) fi1 (fun σ' zs => comp1 (g1 (wipeD σ' vs1)) t1 f zs) xs)) σ H Q) :
    tLc2 (tI X.K X.w true fi) (tG X.K X.w (own.map (·.2)) g) tYes (tI X.K X.w false fi1) (tG X.K X.w vs1 g1) (tT X.K X.w t1) (tE X.K X.w false f) (own.map (·.2)) vs1 σ H Q := by
  obtain ⟨O, Ow, es, d, hO, F, e, q⟩ := h
  obtain ⟨xs, e1, e2⟩ := bind_some e
  obtain ⟨ys, e3, hl, rfl⟩ := lim_some e2
  have hf := few_line
  refine ⟨O, Ow, es, xs, hO, F, e1, fun J H1 s1 Y D0 hD => ?_⟩
  have hO1 : ∀ a, (O a ∨ a = D0) → O a ∨ H1 a = none := fun a z => z.imp id fun z => by rw [z]; exact hD
  refine ⟨fun i m H2 => ∃ ys1 ys2 vs, m = xs.length - i ∧ i ≤ xs.length ∧ Same H1 H2 ∧ comp2 (g (wipeD es (own.map (·.2)))) fi1 (fun σ' zs => comp1 (g1 (wipeD σ' vs1)) t1 f zs) (xs.drop i) = some ys2 ∧ ys = ys1 ++ ys2 ∧ H2 D0 = some (.lst vs) ∧ RoAll X.K X.w (fun a => O a ∨ a = D0) H2 vs ys1, ⟨_, [], ys, [], rfl, Nat.zero_le _, same_upd hD, e3, rfl, upd_same, .nil⟩, ?_⟩
  rintro i m H2 ⟨ys1, ys2, vs, rfl, hi, s2, c2, ey, h2, r2⟩
  have kz : Keeps (fun a => true = false ∧ O a) H1 H2 := Same.keeps s2
  by_cases hlt : i < xs.length
  · refine .inr ⟨(Y.go H2 i xs[i] kz (List.getElem?_eq_getElem hlt)).1, fun H3 => ∃ ys1 ys2 vs, i + 1 ≤ xs.length ∧ Same H1 H3 ∧ comp2 (g (wipeD es (own.map (·.2)))) fi1 (fun σ' zs => comp1 (g1 (wipeD σ' vs1)) t1 f zs) (xs.drop (i + 1)) = some ys2 ∧ ys = ys1 ++ ys2 ∧ H3 D0 = some (.lst vs) ∧ RoAll X.K X.w (fun a => O a ∨ a = D0) H3 vs ys1,
      fun H3 ⟨a1, a2, a3, b1, b2, b3, b4, b5, b6⟩ => ⟨xs.length - (i + 1), by omega, a1, a2, a3, rfl, b1, b2, b3, b4, b5, b6⟩, fun x H3 y => ?_⟩
    obtain ⟨sm, rx⟩ := (Y.go H2 i xs[i] kz (List.getElem?_eq_getElem hlt)).2 x H3 y
    have rx := rx (fun a => O a ∨ a = D0) hO1 (Same.keeps s2)
    replace s2 := s2.trans sm
    replace h2 := sm _ _ h2
    replace r2 := r2.same sm
    rw [drop_at hlt] at c2
    obtain ⟨es2, c3, c4⟩ := bind_some (show (g (wipeD es (own.map (·.2))) xs[i]).bind _ = some ys2 from c2)
    obtain ⟨zs, c5, c6⟩ := bind_some c4
    obtain ⟨yi, c7, c8⟩ := bind_some c6
    obtain ⟨yr, c9, c10⟩ := bind_some c8
    cases c10
    have s02 : Same H H3 := s1.trans s2
    have F3 : Fr X.K X.w (fun a => O a ∨ a = D0) O (wipeD es (own.map (·.2))) (wipe σ (own.map (·.2))) H3 := (((F.same s1).wipe).more (Same.refl H1) hO1 (fun _ z => .inl z) fun _ z _ => z).same s2
    refine ⟨fun a => O a ∨ a = D0, O, wipeD es (own.map (·.2)), xs[i], es2, okO_grow (hO.same s02) h2, F3, rx, c3, fun σ2 H4 s4 l4 k4 F4 => ⟨?_, ?_⟩⟩
    · exact wipe_eq (by rw [l4, wipe_length]) fun j hj => by rw [k4 j hj, wipe_get hj]
    show tI X.K X.w false fi1 σ2 H4 _
    refine ⟨_, O, es2, zs, okO_grow ((hO.same s02).same s4) (s4 _ _ h2), F4, c5, fun J1 H5 s5 Y1 => ?_⟩
    have s35 : Same H3 H5 := s4.trans s5
    have s15 : Same H1 H5 := s2.trans s35
    -- the second clause's turns: H6 is H5 but for what the list has grown
    refine ⟨fun j k H6 => ∃ ya yb vs, k = zs.length - j ∧ j ≤ zs.length ∧ Same H1 H6 ∧ (∀ b o, b ≠ D0 → H5 b = some o → H6 b = some o) ∧ comp1 (g1 (wipeD es2 vs1)) t1 f (zs.drop j) = some yb ∧ yi = ya ++ yb ∧ H6 D0 = some (.lst vs) ∧ RoAll X.K X.w (fun a => O a ∨ a = D0) H6 vs (ys1 ++ ya),
      ⟨_, [], yi, vs, rfl, Nat.zero_le _, s15, fun b o _ z => z, c7, rfl, s35 _ _ h2, by rw [List.append_nil]; exact r2.same s35⟩, ?_⟩
    rintro j k H6 ⟨ya, yb, ws, rfl, hj, t1', t2', d2, ez, g2, q2⟩
    have nD : ∀ a, O a → a ≠ D0 := fun a z n => hO.none (s1.free hD) (n ▸ z)
    have kz1 : Keeps (fun a => O a ∨ a = D0) H5 H6 := ⟨fun a xs e n => t2' a _ (fun z => n (.inr z)) e, fun a xs e => t2' a _ (fun z => by rw [z, s35 _ _ h2] at e; cases e) e, fun a o u e => t2' a _ (fun z => by rw [z, s35 _ _ h2] at e; cases e) e, fun a φ e => t2' a _ (fun z => by rw [z, s35 _ _ h2] at e; cases e) e, fun a fs e => t2' a _ (fun z => by rw [z, s35 _ _ h2] at e; cases e) e⟩
    have F6 : Fr X.K X.w (fun a => O a ∨ a = D0) O es2 σ2 H6 := (F4.same s5).keeps kz1 fun a xs z e => t2' a _ (nD a z) e
    have o6 : OkO (fun a => O a ∨ a = D0) H6 := okO_grow (hO.same (s1.trans t1')) g2
    by_cases hjl : j < zs.length
    · have hyl : comp1 (g1 (wipeD es2 vs1)) t1 f (zs[j] :: zs.drop (j + 1)) = some yb := by rw [← drop_at hjl]; exact d2
      have kz2 : Keeps (fun a => false = false ∧ (O a ∨ a = D0)) H5 H6 := ⟨fun a xs e n => kz1.l a xs e fun z => n ⟨rfl, z⟩, kz1.t, kz1.f, kz1.e, kz1.x⟩
      refine .inr ⟨(Y1.go H6 j zs[j] kz2 (List.getElem?_eq_getElem hjl)).1, fun H7 => ∃ ya yb vs, j + 1 ≤ zs.length ∧ Same H1 H7 ∧ (∀ b o, b ≠ D0 → H5 b = some o → H7 b = some o) ∧ comp1 (g1 (wipeD es2 vs1)) t1 f (zs.drop (j + 1)) = some yb ∧ yi = ya ++ yb ∧ H7 D0 = some (.lst vs) ∧ RoAll X.K X.w (fun a => O a ∨ a = D0) H7 vs (ys1 ++ ya),
        fun H7 ⟨a1, a2, a3, b1, b2, b3, b4, b5, b6⟩ => ⟨zs.length - (j + 1), by omega, a1, a2, a3, rfl, b1, b2, b3, b4, b5, b6⟩, fun x1 H7 y1 => ?_⟩
      obtain ⟨sm1, rx1⟩ := (Y1.go H6 j zs[j] kz2 (List.getElem?_eq_getElem hjl)).2 x1 H7 y1
      have rx1 := rx1 (fun a => O a ∨ a = D0) (fun _ z => .inl z) kz1
      replace t1' := t1'.trans sm1
      replace t2' : ∀ b o, b ≠ D0 → H5 b = some o → H7 b = some o := fun b o n e => sm1 b o (t2' b o n e)
      replace g2 := sm1 _ _ g2
      replace q2 := q2.same sm1
      replace F6 := F6.same sm1
      replace o6 := o6.same sm1
      obtain ⟨es3, c11, c12⟩ := bind_some (show (g1 (wipeD es2 vs1) zs[j]).bind _ = some yb from hyl)
      obtain ⟨bt, c13, c14⟩ := bind_some c12
      have tail : ∀ H8, Same H7 H8 → (∀ b o, b ≠ D0 → H5 b = some o → H8 b = some o) := fun H8 s b o n e => s b o (t2' b o n e)
      refine ⟨_, O, wipeD es2 vs1, zs[j], es3, o6, F6.wipe, rx1, c11, fun σ3 H8 s8 l8 k8 F8 => ⟨?_, ?_⟩⟩
      · exact wipe_eq (by rw [l8, wipe_length]) fun j hj => by rw [k8 j hj, wipe_get hj]
      · refine ⟨_, O, es3, bt, o6.same s8, F8, c13, fun H9 s9 => ?_⟩
        cases bt with
        | false =>
          simp only [Bool.false_eq_true, if_false]
          exact ⟨ya, yb, ws, hjl, (t1'.trans s8).trans s9, tail H9 (s8.trans s9), c14, ez, (s8.trans s9) _ _ g2, q2.same (s8.trans s9)⟩
        | true =>
          simp only [if_true]
          obtain ⟨yv, c15, c16⟩ := bind_some c14
          obtain ⟨y3, c17, c18⟩ := bind_some c16
          cases c18
          refine ⟨_, O, es3, yv, (o6.same s8).same s9, F8.same s9, c15, fun H10 v s10 r10 => ?_⟩
          have s710 : Same H7 H10 := (s8.trans s9).trans s10
          have h10 : H10 D0 = some (.lst ws) := s710 _ _ g2
          have r10' : RoAll X.K X.w (fun a => O a ∨ a = D0) H10 ws (ys1 ++ ya) := q2.same s710
          refine ⟨ws, h10, ?_, ya ++ [yv], y3, ws ++ [v], hjl, grow_same hD (t1'.trans s710), fun b o n e => ?_, c17, by rw [ez]; simp, upd_same, ?_⟩
          · have e1 : ys.length = ys1.length + (ya.length + (y3.length + 1) + yr.length) := by rw [ey, ez]; simp; omega
            rw [q2.length, List.length_append]; omega
          · rw [upd_ne n]; exact tail H10 s710 b o n e
          · rw [← List.append_assoc]; exact grow_all h10 r10' r10.no
    · have hj' : j = zs.length := by omega
      subst hj'
      have kz2 : Keeps (fun a => false = false ∧ (O a ∨ a = D0)) H5 H6 := ⟨fun a xs e n => kz1.l a xs e fun z => n ⟨rfl, z⟩, kz1.t, kz1.f, kz1.e, kz1.x⟩
      refine .inl ⟨Y1.stop H6 kz2, ?_⟩
      rw [List.drop_length] at d2
      cases d2
      refine ⟨ys1 ++ ya, yr, ws, hlt, t1', c9, ?_, g2, q2⟩
      rw [ey, ez, List.append_nil, List.append_assoc]
  · have hi' : i = xs.length := by omega
    subst hi'
    refine .inl ⟨Y.stop H2 kz, ?_⟩
    rw [List.drop_length] at c2
    cases c2
    refine q H2 D0 vs ys (s1.trans s2) (s1.free hD) h2 rfl ?_
    rw [ey, List.append_nil]
    exact r2
theorem sf_comp2 (hc : X.calm = true) (hN : X.N.Nodup) (hi : SI X true tg it fi) (ok : BlkOk X.N X.env.scope scope own) (hv : ∀ i ∈ vs1, i ∈ own.map (·.2))
    (hg : ∀ s H C cl fp, SG (blk X scope s H C cl fp) (own.map (·.2)) tg g)
    (hi1 : ∀ s H C cl fp, SI (blk X scope s H C cl fp) false tg1 it1 fi1) (hg1 : ∀ s H C cl fp, SG (blk X scope s H C cl fp) vs1 tg1 g1) (ht1 : ∀ s H C cl fp, PTs (blk X scope s H C cl fp) ifs1 (tT X.K X.w t1))
    (he : ∀ s H C cl fp, SE (blk X scope s H C cl fp) false elt f) (hs : ∀ x, foldedSetIterable it X.env x = pure x) (hs1 : ∀ env x, foldedSetIterable it1 env x = pure x) :
    SF X (.ListComp elt [⟨tg, it, [], 0⟩, ⟨tg1, it1, ifs1, 0⟩] scope pos) fun σ => (fi σ).bind fun xs => lim (comp2 (g (wipeD σ (own.map (·.2)))) fi1 (fun σ' zs => comp1 (g1 (wipeD σ' vs1)) t1 f zs) xs) :=
  (pe_lc2 (g := tG X.K X.w (own.map (·.2)) g) (wi1 := tI X.K X.w false fi1) (g1 := tG X.K X.w vs1 g1) (tt1 := tT X.K X.w t1) (te := tE X.K X.w false f) hc hN hi ok hv hg (fun _ _ _ _ _ => pts_nil) hi1 hg1 ht1 he hs hs1).imp fun σ H Q h => comp2_read h
end
end EV

namespace EV
open PySem PySem.Spec PyProof.Rows L2

/-! ### what is held against the text -/
def locB (names : List (Str × NameKind)) (x : Str) : Bool := match names.lookup x with
  | some .local => true
  | some .cell => true
  | some .free => true
  | _ => false
def glB (names : List (Str × NameKind)) (x : Str) : Bool := match names.lookup x with
  | some .globalImplicit => true
  | _ => false
def storeB (names : List (Str × NameKind)) (fn : Str → Bool) (x : Str) : Bool := match names.lookup x with
  | some .local => true
  | some .cell => fn x
  | _ => false
def ckTg (names : List (Str × NameKind)) (fn : Str → Bool) : Expr → Bool
  | .Name x _ => storeB names fn x
  | .Tuple es _ _ => areNames es && es.all fun e => match e with
    | .Name x _ => storeB names fn x
    | _ => false
  | _ => false
def isSet : Expr → Bool
  | .Set _ _ _ => true
  | _ => false
def isTup : Expr → Bool
  | .Tuple _ _ _ => true
  | _ => false
/-- what a field is asked of -/
def atB : Expr → Bool
  | .Name _ _ => true
  | .Subscript _ _ _ => true
  | _ => false
def unStar : Expr → Expr
  | .Starred e _ => e
  | e => e
def isSlice : Expr → Bool
  | .Slice _ _ _ _ => true
  | _ => false
def kindB : NameKind → NameKind → Bool := fun a b => decide (a = b)
def blkB (N : List Str) (names : List (Str × NameKind)) (scope : Scope) : Bool :=
  decide (scope.kind = .function) && scope.names.all fun y => decide (scope.names.lookup y.1 = some y.2) && (match y.2 with
    | .free => decide (names.lookup y.1 = some .cell) || decide (names.lookup y.1 = some .free)
    | _ => true)
def okX (x : Str) : Bool := !(x == ("__debug__" : Str)) && !(x == ("__classdict__" : Str))
def subB (a b : List Nat) : Bool := a.all fun i => b.contains i
def ckE (N fns : List Str) : Nat → Scope → (Str → Bool) → Expr → Bool
  | 0, _, _, _ => false
  | m + 1, sc, fn, e =>
    let ckI := fun (sc : Scope) (fn : Str → Bool) (tg e : Expr) => !isSet e && (match e with
      | .Call (.Name g _) as [] _ => cond (decide (g = "range")) (glB sc.names g && match as with
        | [a] => !isStar a && ckE N fns m sc fn a
        | [a, a'] => (!isStar a && ckE N fns m sc fn a) && (!isStar a' && ckE N fns m sc fn a')
        | _ => false) (cond (decide (g = "zip")) (glB sc.names g && (isTup tg && match as with
        | [a, a'] => (!isStar a && ckE N fns m sc fn a) && (!isStar a' && ckE N fns m sc fn a')
        | _ => false)) (ckE N fns m sc fn e))
      | e => ckE N fns m sc fn e)
    match e with
    | .Constant k _ _ => (match k with
      | .str s => PyData.canLay0 (.str s)
      | _ => true)
    | .Name x _ => okX x && (match N.idxOf? x with
      | some _ => locB sc.names x
      | none => glB sc.names x)
    | .Tuple es _ _ => es.all fun e => ckE N fns m sc fn (unStar e)
    | .List es _ => es.all fun e => ckE N fns m sc fn (unStar e)
    | .BinOp l _ r _ => ckE N fns m sc fn l && ckE N fns m sc fn r
    | .UnaryOp _ x _ => ckE N fns m sc fn x
    | .BoolOp _ vs _ => vs.all fun e => ckE N fns m sc fn e
    | .IfExp t x y _ => ckE N fns m sc fn t && (ckE N fns m sc fn x && ckE N fns m sc fn y)
    | .Compare l [_] [r] _ => !isSet r && (ckE N fns m sc fn l && ckE N fns m sc fn r)
    | .Compare l [_, _] [t, r] _ => (!isSet t && !isSet r) && (ckE N fns m sc fn l && (ckE N fns m sc fn t && ckE N fns m sc fn r))
    | .Subscript x (.Slice lo hi none _) _ => ckE N fns m sc fn x && (lo.all (fun e => ckE N fns m sc fn e) && hi.all fun e => ckE N fns m sc fn e)
    | .Subscript x i _ => !isSlice i && (ckE N fns m sc fn x && ckE N fns m sc fn i)
    | .Attribute e _ _ => atB e && ckE N fns m sc fn e
    | .Call (.Name f _) as [] _ => glB sc.names f && (okX f && ((!as.isEmpty && as.all fun a => !isStar a) && cond (decide (f = "isinstance")) (match as with
        | [x, .Name t _] => (glB sc.names t && okX t) && ckE N fns m sc fn x
        | _ => false) ((as.all fun a => ckE N fns m sc fn a) && ((bFind f).isSome || fns.contains f))))
    | .ListComp elt [⟨t, it, ifs, 0⟩] scope _ =>
      (ckI sc fn t it && blkB N sc.names scope) && ((ckTg (relS scope sc).names (fun x => scope.names.lookup x == some .cell) t && subB (tgIx N t) ((ownOf N scope.names).map (·.2))) &&
        ((match ifs with
          | [] => true
          | [c] => ckE N fns m (relS scope sc) (fun x => scope.names.lookup x == some .cell) c
          | _ => false) && ckE N fns m (relS scope sc) (fun x => scope.names.lookup x == some .cell) elt))
    | .ListComp elt [⟨t, it, [], 0⟩, ⟨t', it', ifs', 0⟩] scope _ =>
      (ckI sc fn t it && blkB N sc.names scope) && ((ckTg (relS scope sc).names (fun x => scope.names.lookup x == some .cell) t && subB (tgIx N t) ((ownOf N scope.names).map (·.2))) &&
        ((ckI (relS scope sc) (fun x => scope.names.lookup x == some .cell) t' it' && (ckTg (relS scope sc).names (fun x => scope.names.lookup x == some .cell) t' && subB (tgIx N t') ((ownOf N scope.names).map (·.2)))) && ((match ifs' with
          | [] => true
          | [c] => ckE N fns m (relS scope sc) (fun x => scope.names.lookup x == some .cell) c
          | _ => false) && ckE N fns m (relS scope sc) (fun x => scope.names.lookup x == some .cell) elt)))
    | _ => false

structure Good (c : Cfg) (k : Nat) (fns : List Str) (X : Cx) (sc : Scope) (fn : Str → Bool) : Prop where
  nN : X.N = c.N
  nd : X.N.Nodup
  sc : X.env.scope = sc
  fn : ∀ x, fn x = true → X.fn x = true
  calm : X.calm = true
  room : Room k X.A
  gd : X.A.guards = some []
  b : ∀ bi, X.mg (bName bi) = none
  t : ∀ t, X.mg (tName t) = none
  i : X.mg "isinstance" = none
  r : X.mg "range" = none
  z : X.mg "zip" = none
  glob : ∀ x, GOk X x (c.G.g x)
  isi : IsiOk X.K X.mg c.G.i
  att : AttOk X.K c.G.a
  mkr : ∀ f, c.G.m f = true → ExcAt X.prog X.K X.mg f
  kp : ∃ j, k = j + 1
  call : ∀ f ∈ fns, c.G.m f = true ∨ CallOk X k f (c.C f)

section
variable {c : Cfg} {k : Nat} {fns : List Str} {X : Cx} {sc : Scope} {fn : Str → Bool}
theorem Good.hu (g : Good c k fns X sc fn) : X.A.units + 65 < cLine := by have := g.room.un; omega
theorem gl_of (g : Good c k fns X sc fn) {x : Str} (h : glB sc.names x = true) : Gl X x := by
  rw [← g.sc] at h
  unfold glB at h
  show X.env.scope.names.lookup x = some .globalImplicit
  split at h
  · rename_i e; exact e
  · cases h
theorem vis_of (g : Good c k fns X sc fn) {x : Str} (h : locB sc.names x = true) : Vis X.env.scope x := by
  rw [← g.sc] at h
  unfold locB at h
  split at h
  · rename_i e; exact .inl e
  · rename_i e; exact .inr (.inl e)
  · rename_i e; exact .inr (.inr e)
  · cases h
theorem store_of (g : Good c k fns X sc fn) {x : Str} (h : storeB sc.names fn x = true) : StoreOk X x := by
  rw [← g.sc] at h
  unfold storeB at h
  split at h
  · rename_i e; exact ⟨.inl e, .inr e⟩
  · rename_i e; exact ⟨.inr e, .inl (g.fn x h)⟩
  · cases h
theorem okX_of {x : Str} (h : okX x = true) : (x == ("__debug__" : Str)) = false ∧ (x == ("__classdict__" : Str)) = false := by
  unfold okX at h
  rw [Bool.and_eq_true] at h
  exact ⟨by simpa using h.1, by simpa using h.2⟩
theorem tg_of (g : Good c k fns X sc fn) {t : Expr} (h : ckTg sc.names fn t = true) : SG X (tgIx c.N t) t fun es d => asg c.N es t d := by
  rw [← g.nN]
  refine sg_asg g.nd g.calm ?_
  cases t with
  | Name x p => exact .inl ⟨x, p, rfl, store_of g h⟩
  | Tuple es k p =>
    have h : (areNames es && es.all fun e => match e with | .Name x _ => storeB sc.names fn x | _ => false) = true := h
    rw [Bool.and_eq_true, List.all_eq_true] at h
    exact .inr ⟨es, k, p, rfl, h.1, fun x q hx => store_of g (h.2 _ hx)⟩
  | _ => cases h
theorem sub_of {a b : List Nat} (h : subB a b = true) : ∀ j ∈ a, j ∈ b := fun j hj => by
  have := List.all_eq_true.mp h j hj
  simpa using this
theorem own_ix {N : List Str} : ∀ {names : List (Str × NameKind)}, ∀ p ∈ ownOf N names, N[p.2]? = some p.1
  | (x, k) :: r, p, hp => by
    cases e : N.idxOf? x with
    | none => cases k <;> simp only [ownOf, e] at hp <;> exact own_ix p hp
    | some i =>
      cases k with
      | free => simp only [ownOf] at hp; exact own_ix p hp
      | _ =>
        simp only [ownOf, e, List.mem_cons] at hp
        rcases hp with rfl | hp
        · exact ix_get e
        · exact own_ix p hp
theorem own_mem {N : List Str} : ∀ {names : List (Str × NameKind)}, ∀ y ∈ names, y.2 ≠ .free → y.1 ∈ (ownOf N names).map (·.1) ∨ y.1 ∉ N
  | (x, k) :: r, y, hy, hf => by
    have tail : y ∈ r → y.1 ∈ (ownOf N ((x, k) :: r)).map (·.1) ∨ y.1 ∉ N := fun h => by
      rcases own_mem (N := N) y h hf with z | z
      · left
        cases e : N.idxOf? x <;> cases k <;> simp only [ownOf, e, List.map_cons, List.mem_cons] <;> first | exact z | exact .inr z
      · exact .inr z
    rcases List.mem_cons.mp hy with rfl | hy
    · cases e : N.idxOf? x with
      | none => right; intro hm; rw [List.idxOf?_eq_none_iff] at e; exact e hm
      | some i =>
        left
        cases k with
        | free => exact absurd rfl hf
        | _ => simp [ownOf, e]
    · exact tail hy
theorem blk_of (g : Good c k fns X sc fn) {scope : Scope} (h : blkB c.N sc.names scope = true) : BlkOk X.N X.env.scope scope (ownOf c.N scope.names) := by
  unfold blkB at h
  rw [Bool.and_eq_true, List.all_eq_true] at h
  rw [g.nN, g.sc]
  refine ⟨of_decide_eq_true h.1, fun y hy => ?_, own_ix, fun y hy e => ?_, fun y hy e => own_mem y hy ?_⟩
  · have := h.2 y hy
    rw [Bool.and_eq_true] at this
    exact of_decide_eq_true this.1
  · have := h.2 y hy
    rw [Bool.and_eq_true, e] at this
    rcases Bool.or_eq_true_iff.mp this.2 with z | z
    · exact .inl (of_decide_eq_true z)
    · exact .inr (of_decide_eq_true z)
  · rintro z
    rcases e with e | e <;> rw [z] at e <;> cases e
theorem good_blk (g : Good c k fns X sc fn) (scope : Scope) (s : Shared) (H : Hp) (C : Addr) (cl : List (Str × Addr)) (fp : List Addr) : Good c k fns (blk X scope s H C cl fp) (relS scope sc) fun x => scope.names.lookup x == some .cell :=
  ⟨g.nN, g.nd, by show relS scope X.env.scope = _; rw [g.sc], fun x h => h, g.calm, g.room, g.gd, g.b, g.t, g.i, g.r, g.z, g.glob, g.isi, g.att, g.mkr, g.kp, fun f hf => (g.call f hf).imp id fun q => ⟨q.ex⟩⟩
end
end EV

namespace EV
open PySem PySem.Spec PyProof.Rows L2
section
variable {c : Cfg} {k : Nat} {fns : List Str} {X : Cx} {b : Bool} {e : Expr}
theorem se_none : SE X b e fun _ => none := ⟨fun _ _ _ _ _ _ ⟨O, Ow, es, d, hO, F, e, q⟩ => by cases e⟩
theorem st_none : ST X e fun _ => none := ⟨fun _ _ _ _ _ _ ⟨O, Ow, es, d, hO, F, e, q⟩ => by cases e⟩
theorem sw_none : SW X e fun _ => none := ⟨fun _ _ _ _ _ _ _ ⟨O, Ow, es, d, hO, F, e, q⟩ => by cases e⟩
theorem set_no {e : Expr} (h : isSet e = false) : ∀ a k p, e ≠ .Set a k p := fun a k p z => by subst z; cases h
theorem slice_no {e : Expr} (h : isSlice e = false) : ∀ a b c d, e ≠ .Slice a b c d := fun _ _ _ _ z => by subst z; cases h
theorem fold_set {e : Expr} (h : isSet e = false) (env : Env) (x : Value) : foldedSetIterable e env x = pure x := by
  cases e <;> first | rfl | cases h
theorem marks2 {o o' : CmpOp} {a b : Expr} (h : isSet b = false) : lastMarks [o, o'] [a, b] = false := by
  show behindInMarks o' b = false
  exact mark_of (set_no h)
/-- what holds of all expressions at one depth -/
structure Snd (c : Cfg) (k : Nat) (fns : List Str) (n : Nat) : Prop where
  e : ∀ (m : Nat) (X : Cx) (sc : Scope) (fn : Str → Bool), Good c k fns X sc fn → ∀ e, ckE c.N fns m sc fn e = true → (∀ b, SE X b e fun σ => ev c n b σ e) ∧ (ST X e fun σ => tst c n σ e) ∧ (isFresh e = true → SF X e fun σ => ev c n false σ e)
  a : ∀ (m : Nat) (X : Cx) (sc : Scope) (fn : Str → Bool), Good c k fns X sc fn → ∀ vs pos, (∀ e ∈ vs, ckE c.N fns m sc fn e = true) → (∀ b, SE X b (.BoolOp .And vs pos) fun σ => andV c n b σ vs) ∧ (∀ b, SE X b (.BoolOp .Or vs pos) fun σ => orV c n b σ vs) ∧
    (SW X (.BoolOp .And vs pos) fun σ => andT c n σ vs) ∧ (SW X (.BoolOp .Or vs pos) fun σ => orT c n σ vs)
  o : ∀ (m : Nat) (X : Cx) (sc : Scope) (fn : Str → Bool), Good c k fns X sc fn → ∀ lo : Option Expr, (∀ e, lo = some e → ckE c.N fns m sc fn e = true) → SO X lo fun σ => part c n σ lo
theorem snd_zero : Snd c k fns 0 := by
  refine ⟨fun m X sc fn g e h => ⟨fun b => se_none, ?_, fun _ => ⟨fun _ _ _ _ _ _ ⟨O, Ow, es, d, hO, F, e, q⟩ => by cases e⟩⟩, fun m X sc fn g vs pos h => ⟨fun b => se_none, fun b => se_none, ?_, ?_⟩, fun m X sc fn g lo h => ⟨fun _ _ _ _ _ _ ⟨O, Ow, es, d, hO, F, e, q⟩ => by cases e⟩⟩
  · exact st_none.eqf fun es d h => by cases h
  · exact sw_none.imp fun σ H Q ⟨O, Ow, es, d, hO, F, e, q⟩ => by cases e
  · exact sw_none.imp fun σ H Q ⟨O, Ow, es, d, hO, F, e, q⟩ => by cases e
end
section
variable {c : Cfg} {k : Nat} {fns : List Str} {n m : Nat} {X : Cx} {sc : Scope} {fn : Str → Bool}
/-- displays' items, arguments -/
theorem sa_args (S : Snd c k fns n) (g : Good c k fns X sc fn) (b0 : Bool) : ∀ es : List Expr, (∀ e ∈ es, ckE c.N fns m sc fn (unStar e) = true) → SA X b0 es fun σ => args (fun b e => ev c n (b || b0) σ e) es
  | [], _ => sa_nil
  | e :: es, h => by
    have ih := sa_args S g b0 es fun e he => h e (List.mem_cons_of_mem _ he)
    have h0 := h e List.mem_cons_self
    by_cases hs : isStar e = true
    · cases e with
      | Starred e' p => exact sa_star ((S.e m X sc fn g e' h0).1 true) ih
      | _ => cases hs
    · have hs : isStar e = false := by simpa using hs
      have hu : unStar e = e := by cases e <;> first | rfl | cases hs
      rw [hu] at h0
      refine (sa_cons (star_no hs) ((S.e m X sc fn g e h0).1 b0) ih).eqf fun σ ds hd => ?_
      cases e <;> first | exact hd | cases hs
def ckI (N fns : List Str) (m : Nat) (sc : Scope) (fn : Str → Bool) (tg e : Expr) : Bool := !isSet e && (match e with
      | .Call (.Name g _) as [] _ => cond (decide (g = "range")) (glB sc.names g && match as with
        | [a] => !isStar a && ckE N fns m sc fn a
        | [a, a'] => (!isStar a && ckE N fns m sc fn a) && (!isStar a' && ckE N fns m sc fn a')
        | _ => false) (cond (decide (g = "zip")) (glB sc.names g && (isTup tg && match as with
        | [a, a'] => (!isStar a && ckE N fns m sc fn a) && (!isStar a' && ckE N fns m sc fn a')
        | _ => false)) (ckE N fns m sc fn e))
      | e => ckE N fns m sc fn e)
theorem si_iter (S : Snd c k fns n) (g : Good c k fns X sc fn) {b : Bool} {tg it : Expr} (h : ckI c.N fns m sc fn tg it = true) : SI X b tg it fun σ => iter c.N (ev c n b σ) it := by
  unfold ckI at h
  rw [Bool.and_eq_true] at h
  obtain ⟨hset, h⟩ := h
  clear hset
  have base : ckE c.N fns m sc fn it = true → SI X b tg it fun σ => (ev c n b σ it).bind items := fun hc => si_seq ((S.e m X sc fn g it hc).1 b)
  unfold iter
  split
  · rename_i x p a q
    by_cases hr : x = "range"
    · subst hr
      simp only [decide_true, cond_true, Bool.and_eq_true] at h ⊢
      exact si_range1 rfl (gl_of g h.1) g.r (by simpa using h.2.1) ((S.e m X sc fn g a h.2.2).1 b)
    · simp only [decide_eq_false hr, cond_false] at h ⊢
      by_cases hz : x = "zip"
      · exfalso
        rw [decide_eq_true hz, cond_true, Bool.and_eq_true, Bool.and_eq_true] at h
        exact absurd h.2.2 (by simp)
      · rw [decide_eq_false hz, cond_false] at h
        exact base h
  · rename_i x p a a' q
    by_cases hr : x = "range"
    · subst hr
      simp only [decide_true, cond_true, Bool.and_eq_true] at h ⊢
      exact si_range2 rfl (gl_of g h.1) g.r (by simpa using h.2.1.1) (by simpa using h.2.2.1) ((S.e m X sc fn g a h.2.1.2).1 b) ((S.e m X sc fn g a' h.2.2.2).1 b)
    · by_cases hz : x = "zip"
      · subst hz
        simp only [decide_eq_false hr, decide_true, cond_false, cond_true, Bool.and_eq_true] at h ⊢
        obtain ⟨es, kk, tp, rfl⟩ : ∃ es kk tp, tg = .Tuple es kk tp := by
          have := h.2.1
          cases tg <;> first | exact ⟨_, _, _, rfl⟩ | cases this
        exact si_zip rfl (gl_of g h.1) g.z (by simpa using h.2.2.1.1) (by simpa using h.2.2.2.1) ((S.e m X sc fn g a h.2.2.1.2).1 b) ((S.e m X sc fn g a' h.2.2.2.2).1 b)
      · simp only [decide_eq_false hr, decide_eq_false hz, cond_false] at h ⊢
        exact base h
  · rename_i h1 h2
    split at h
    · rename_i x p as q
      by_cases hr : x = "range"
      · exfalso
        rw [decide_eq_true hr, cond_true, Bool.and_eq_true] at h
        match as, h1, h2, h with
        | [], _, _, h => exact absurd h.2 (by simp)
        | [a], h1, _, _ => exact h1 _ _ _ _ rfl
        | [a, a'], _, h2, _ => exact h2 _ _ _ _ _ rfl
        | a :: a' :: a'' :: r, _, _, h => exact absurd h.2 (by simp)
      · rw [decide_eq_false hr, cond_false] at h
        by_cases hz : x = "zip"
        · exfalso
          rw [decide_eq_true hz, cond_true, Bool.and_eq_true, Bool.and_eq_true] at h
          match as, h1, h2, h with
          | [], _, _, h => exact absurd h.2.2 (by simp)
          | [a], h1, _, _ => exact h1 _ _ _ _ rfl
          | [a, a'], _, h2, _ => exact h2 _ _ _ _ _ rfl
          | a :: a' :: a'' :: r, _, _, h => exact absurd h.2.2 (by simp)
        · rw [decide_eq_false hz, cond_false] at h
          exact base h
    · exact base h

theorem args_true (c : Cfg) (n : Nat) (σ : List Sl) : ∀ es : List Expr, (∀ e ∈ es, isStar e = false) → args (fun _ e => ev c n true σ e) es = args (fun b e => ev c n (b || true) σ e) es
  | [], _ => rfl
  | e :: es, h => by
    have h0 := h e List.mem_cons_self
    have ih := args_true c n σ es fun e he => h e (List.mem_cons_of_mem _ he)
    cases e <;> first | (cases h0; done) | (unfold args; rw [ih]; rfl)
theorem args_false (c : Cfg) (n : Nat) (σ : List Sl) : ∀ es : List Expr, (∀ e ∈ es, isStar e = false) → args (fun _ e => ev c n false σ e) es = args (fun b e => ev c n (b || false) σ e) es
  | [], _ => rfl
  | e :: es, h => by
    have h0 := h e List.mem_cons_self
    have ih := args_false c n σ es fun e he => h e (List.mem_cons_of_mem _ he)
    cases e <;> first | (cases h0; done) | (unfold args; rw [ih]; rfl)
theorem args_disp (c : Cfg) (n : Nat) (σ : List Sl) (es : List Expr) : args (fun b e => ev c n b σ e) es = args (fun b e => ev c n (b || false) σ e) es := by
  have : (fun (b : Bool) e => ev c n b σ e) = fun b e => ev c n (b || false) σ e := by funext b e; cases b <;> rfl
  rw [← this]
theorem pts_of (S : Snd c k fns n) (g : Good c k fns X sc fn) {ifs : List Expr} (h : (match ifs with
          | [] => true
          | [c'] => ckE c.N fns m sc fn c'
          | _ => false) = true) : PTs X ifs (tT X.K X.w fun σ => tests (tst c n σ) ifs) := by
  match ifs, h with
  | [], _ => exact ⟨fun pins s σ H Q I ⟨O, Ow, es, d, hO, F, e, q⟩ => (pts_nil (X := X)).run pins s σ H Q I (by cases e; exact q H (Same.refl H))⟩
  | [c'], h =>
    refine ⟨fun pins s σ H Q I ⟨O, Ow, es, d, hO, F, e, q⟩ => (pts_one ((S.e m X sc fn g c' h).2.1)).run pins s σ H Q I ?_⟩
    obtain ⟨b, e1, e2⟩ := bind_some (show (tst c n es c').bind (fun b => cond b (tests (tst c n es) []) (some false)) = some d from e)
    refine ⟨O, Ow, es, d, hO, F, ?_, q⟩
    show tst c n es c' = some d
    cases b with
    | true => rw [e1]; exact e2
    | false => rw [e1]; exact e2
theorem se_of_sf {e : Expr} {f : List Sl → Option D} (h : SF X e f) {f' : Bool → List Sl → Option D} (hf : ∀ b σ, f' b σ = f σ) (b : Bool) : SE X b e (f' b) := by
  have : f' b = f := funext (hf b)
  rw [this]
  exact h.se
theorem SF.eqf {X : Cx} {e : Expr} {f f' : List Sl → Option D} (h : SF X e f) (hf : ∀ σ, f' σ = f σ) : SF X e f' := by
  rw [funext hf]
  exact h
theorem ev_lc1 (c : Cfg) (n : Nat) (b : Bool) (σ : List Sl) (elt t it : Expr) (ifs : List Expr) (sc : Scope) (pos : Pos) : ev c (n + 1) b σ (.ListComp elt [⟨t, it, ifs, 0⟩] sc pos) =
    (iter c.N (ev c n true σ) it).bind fun xs => lim (comp1 (asg c.N (wipeD σ ((ownOf c.N sc.names).map (·.2))) t) (fun σ' => tests (tst c n σ') ifs) (fun σ' => ev c n false σ' elt) xs) := by
  have h : ∀ xs, comp1 (asg c.N (wipeD σ ((ownOf c.N sc.names).map (·.2))) t) (fun σ' => tests (tst c n σ') ifs) (fun σ' => ev c n false σ' elt) xs = _ := comp1_eq _ _ _
  simp only [h]
  rfl
theorem ev_lc2 (c : Cfg) (n : Nat) (b : Bool) (σ : List Sl) (elt t it t' it' : Expr) (ifs' : List Expr) (sc : Scope) (pos : Pos) : ev c (n + 1) b σ (.ListComp elt [⟨t, it, [], 0⟩, ⟨t', it', ifs', 0⟩] sc pos) =
    (iter c.N (ev c n true σ) it).bind fun xs => lim (comp2 (asg c.N (wipeD σ ((ownOf c.N sc.names).map (·.2))) t) (fun σ' => iter c.N (ev c n false σ') it')
      (fun σ' zs => comp1 (asg c.N (wipeD σ' (tgIx c.N t')) t') (fun σ'' => tests (tst c n σ'') ifs') (fun σ'' => ev c n false σ'' elt) zs) xs) := by
  simp only [comp2_eq, comp1_eq]
  rfl
theorem gs_of {N : List Str} {elt : Expr} {gs : List Comprehension} {scope : Scope} {pos : Pos} (h : ckE N fns (m + 1) sc fn (.ListComp elt gs scope pos) = true) :
    (∃ t it ifs, gs = [⟨t, it, ifs, 0⟩]) ∨ ∃ t it t' it' ifs', gs = [⟨t, it, [], 0⟩, ⟨t', it', ifs', 0⟩] := by
  unfold ckE at h
  split at h <;> first | (rename_i e; cases e; done) | skip
  all_goals first | (cases h; done) | skip
  · rename_i e; cases e; exact .inl ⟨_, _, _, rfl⟩
  · rename_i e; cases e; exact .inr ⟨_, _, _, _, _, rfl⟩
theorem snd_succ (S : Snd c k fns n) : Snd c k fns (n + 1) := by
  refine ⟨fun m X sc fn g e h => ?_, fun m X sc fn g vs pos h => ?_, fun m X sc fn g lo h => ?_⟩
  · cases m with
    | zero => cases h
    | succ m =>
    -- the test of an expression that is no and, or, not, if, comparison
    have plain : (∀ b, SE X b e fun σ => ev c (n + 1) b σ e) → (isFresh e = true → SF X e fun σ => ev c (n + 1) false σ e) → (∀ whole, isTrue e X.env whole = (do let v ← whole; standAt e.pos; holding [v] (truthy v))) → (∀ σ, tst c (n + 1) σ e = (ev c n true σ e).bind truD) →
        (∀ b, SE X b e fun σ => ev c (n + 1) b σ e) ∧ (ST X e fun σ => tst c (n + 1) σ e) ∧ (isFresh e = true → SF X e fun σ => ev c (n + 1) false σ e) := fun h1 h2 h3 h4 => by
      refine ⟨h1, ?_, h2⟩
      have h5 := st_val ((S.e (m + 1) X sc fn g e h).1 true) h3
      exact h5.eqf fun σ d hd => by rw [h4] at hd; exact hd
    have nof : isFresh e = false → isFresh e = true → SF X e fun σ => ev c (n + 1) false σ e := fun h1 h2 => by rw [h1] at h2; cases h2
    cases e with
    | Constant kk j pos =>
      refine plain (fun b => se_const fun s e => ?_) (nof rfl) (fun _ => rfl) fun _ => rfl
      subst e
      exact h
    | Name x pos =>
      refine plain (fun b => ?_) (nof rfl) (fun _ => rfl) fun _ => rfl
      have h : (okX x && (match c.N.idxOf? x with | some _ => locB sc.names x | none => glB sc.names x)) = true := h
      rw [Bool.and_eq_true] at h
      obtain ⟨o1, o2⟩ := okX_of h.1
      cases hx : c.N.idxOf? x with
      | some i =>
        rw [hx] at h
        refine (se_var (pos := pos) (by rw [g.nN]; exact ix_get hx) (vis_of g h.2) o1 o2).eqf fun σ d hd => ?_
        unfold ev at hd
        simp only [hx] at hd
        exact hd
      | none =>
        rw [hx] at h
        refine (se_glob (pos := pos) (gl_of g h.2) (g.glob x) o1).eqf fun σ d hd => ?_
        unfold ev at hd
        simp only [hx] at hd
        exact hd
    | Tuple es kk pos =>
      refine plain (fun b => ?_) (nof rfl) (fun _ => rfl) fun _ => rfl
      have h : (es.all fun e => ckE c.N fns m sc fn (unStar e)) = true := h
      rw [List.all_eq_true] at h
      refine (se_tuple (sa_args S g false es h)).eqf fun σ d hd => ?_
      unfold ev at hd
      simp only [args_disp] at hd
      exact hd
    | List es pos =>
      have h : (es.all fun e => ckE c.N fns m sc fn (unStar e)) = true := h
      rw [List.all_eq_true] at h
      have hF : ∀ b, SF X (.List es pos) fun σ => ev c (n + 1) b σ (.List es pos) := fun b => (sf_list (pos := pos) (sa_args S g false es h)).imp fun σ H Q ⟨O, Ow, es', d, hO, F, e, q⟩ => ⟨O, Ow, es', d, hO, F, by
        unfold ev at e
        simp only [args_disp] at e
        exact e, q⟩
      exact plain (fun b => (hF b).se) (fun _ => hF false) (fun _ => rfl) fun _ => rfl
    | BinOp l o r pos =>
      refine plain (fun b => ?_) (nof rfl) (fun _ => rfl) fun _ => rfl
      have h : (ckE c.N fns m sc fn l && ckE c.N fns m sc fn r) = true := h
      rw [Bool.and_eq_true] at h
      exact se_bin ((S.e m X sc fn g l h.1).1 true) ((S.e m X sc fn g r h.2).1 true)
    | UnaryOp o x pos =>
      have h : ckE c.N fns m sc fn x = true := h
      cases o with
      | Not => exact ⟨fun b => se_not ((S.e m X sc fn g x h).1 true), st_not ((S.e m X sc fn g x h).2.1), nof rfl⟩
      | USub => exact plain (fun b => se_neg ((S.e m X sc fn g x h).1 true)) (nof rfl) (fun _ => rfl) fun _ => rfl
      | _ => exact plain (fun b => se_none) (nof rfl) (fun _ => rfl) fun _ => rfl
    | BoolOp o vs pos =>
      have h : (vs.all fun e => ckE c.N fns m sc fn e) = true := h
      rw [List.all_eq_true] at h
      obtain ⟨h1, h2, h3, h4⟩ := S.a m X sc fn g vs pos h
      cases o with
      | And => exact ⟨h1, h3.pt, nof rfl⟩
      | Or => exact ⟨h2, h4.pt, nof rfl⟩
    | IfExp t x y pos =>
      have h : (ckE c.N fns m sc fn t && (ckE c.N fns m sc fn x && ckE c.N fns m sc fn y)) = true := h
      rw [Bool.and_eq_true, Bool.and_eq_true] at h
      exact ⟨fun b => se_ifExp ((S.e m X sc fn g t h.1).2.1) ((S.e m X sc fn g x h.2.1).1 b) ((S.e m X sc fn g y h.2.2).1 b), st_ifExp ((S.e m X sc fn g t h.1).2.1) ((S.e m X sc fn g x h.2.1).2.1) ((S.e m X sc fn g y h.2.2).2.1), nof rfl⟩
    | Compare l ops rs pos =>
      match ops, rs, h with
      | [o], [r], h =>
        have h : (!isSet r && (ckE c.N fns m sc fn l && ckE c.N fns m sc fn r)) = true := h
        rw [Bool.and_eq_true, Bool.and_eq_true] at h
        have hr := set_no (show isSet r = false by simpa using h.1)
        exact ⟨fun b => se_cmp g.hu hr ((S.e m X sc fn g l h.2.1).1 true) ((S.e m X sc fn g r h.2.2).1 true), st_cmp g.hu hr ((S.e m X sc fn g l h.2.1).1 true) ((S.e m X sc fn g r h.2.2).1 true), nof rfl⟩
      | [o, o'], [t, r], h =>
        have h : ((!isSet t && !isSet r) && (ckE c.N fns m sc fn l && (ckE c.N fns m sc fn t && ckE c.N fns m sc fn r))) = true := h
        rw [Bool.and_eq_true, Bool.and_eq_true, Bool.and_eq_true, Bool.and_eq_true] at h
        have hr := marks2 (o := o) (o' := o') (a := t) (show isSet r = false by simpa using h.1.2)
        exact ⟨fun b => se_chain g.hu hr ((S.e m X sc fn g l h.2.1).1 true) ((S.e m X sc fn g t h.2.2.1).1 true) ((S.e m X sc fn g r h.2.2.2).1 true), st_chain g.hu hr ((S.e m X sc fn g l h.2.1).1 true) ((S.e m X sc fn g t h.2.2.1).1 true) ((S.e m X sc fn g r h.2.2.2).1 true), nof rfl⟩
      | [], _, h => cases h
      | [_], [], h => cases h
      | [_], _ :: _ :: _, h => cases h
      | [_, _], [], h => cases h
      | [_, _], [_], h => cases h
      | [_, _], _ :: _ :: _ :: _, h => cases h
      | _ :: _ :: _ :: _, _, h => cases h
    | Subscript x i pos =>
      cases hi : isSlice i with
      | false =>
        have h : (ckE c.N fns m sc fn x && ckE c.N fns m sc fn i) = true := by
          cases i <;> first | (cases hi; done) | exact h
        rw [Bool.and_eq_true] at h
        refine plain (fun b => (se_ix (slice_no hi) ((S.e m X sc fn g x h.1).1 true) ((S.e m X sc fn g i h.2).1 true)).eqf fun σ d hd => ?_) (nof rfl) (fun _ => rfl) fun _ => rfl
        cases i <;> first | (cases hi; done) | exact hd
      | true =>
        cases i with
        | Slice lo hi' st p =>
          cases st with
          | some _ => cases h
          | none =>
            have h : (ckE c.N fns m sc fn x && (lo.all (fun e => ckE c.N fns m sc fn e) && hi'.all fun e => ckE c.N fns m sc fn e)) = true := h
            rw [Bool.and_eq_true, Bool.and_eq_true] at h
            have ho : ∀ o : Option Expr, (o.all fun e => ckE c.N fns m sc fn e) = true → ∀ e, o = some e → ckE c.N fns m sc fn e = true := fun o h e he => by subst he; exact h
            exact plain (fun b => se_slice ((S.e m X sc fn g x h.1).1 true) (S.o m X sc fn g lo (ho lo h.2.1)) (S.o m X sc fn g hi' (ho hi' h.2.2))) (nof rfl) (fun _ => rfl) fun _ => rfl
        | _ => cases hi
    | Call fe as kws pos =>
      cases fe with
      | Name f p =>
        cases kws with
        | cons _ _ => cases h
        | nil =>
          have h : (glB sc.names f && (okX f && ((!as.isEmpty && as.all fun a => !isStar a) && cond (decide (f = "isinstance")) (match (generalizing := false) as with
            | [x, .Name t _] => (glB sc.names t && okX t) && ckE c.N fns m sc fn x
            | _ => false) ((as.all fun a => ckE c.N fns m sc fn a) && ((bFind f).isSome || fns.contains f))))) = true := h
          rw [Bool.and_eq_true, Bool.and_eq_true, Bool.and_eq_true, Bool.and_eq_true] at h
          obtain ⟨hg, ho, ⟨hne, hst⟩, hc⟩ := h
          have hst : ∀ a ∈ as, isStar a = false := fun a ha => by simpa using List.all_eq_true.mp hst a ha
          refine plain (fun b => ?_) (nof rfl) (fun _ => rfl) fun _ => rfl
          by_cases hi : f = "isinstance"
          · rw [decide_eq_true hi, cond_true] at hc
            split at hc
            · rename_i _ x t p2 _
              rw [Bool.and_eq_true, Bool.and_eq_true] at hc
              cases ht : tFind t with
              | none =>
                refine (se_isi2 g.isi hi (gl_of g hg) (by rw [hi]; exact g.i) (gl_of g hc.1.1) (okX_of hc.1.2).1 (hst x (by simp)) ((S.e m X sc fn g x hc.2).1 true)).eqf fun σ d hd => ?_
                unfold ev at hd
                simp only [hi, decide_true, cond_true, ht] at hd
                exact hd
              | some t' =>
                have e := tFindIn_ok ht
                subst e
                refine (se_isi (t := t') hi (gl_of g hg) (by rw [hi]; exact g.i) (gl_of g hc.1.1) (g.t t') (hst x (by simp)) ((S.e m X sc fn g x hc.2).1 true)).eqf fun σ d hd => ?_
                unfold ev at hd
                simp only [hi, decide_true, cond_true, ht] at hd
                exact hd
            · cases hc
          · rw [decide_eq_false hi, cond_false, Bool.and_eq_true, List.all_eq_true] at hc
            match as, hne, hst, hc with
            | [], hne, _, _ => cases hne
            | a :: as, _, hst, hc =>
              have hu : ∀ e ∈ a :: as, ckE c.N fns m sc fn (unStar e) = true := fun e he => by
                have h1 := hst e he
                have h2 := hc.1 e he
                cases e <;> first | (cases h1; done) | exact h2
              cases hb : bFind f with
              | some bi =>
                have e := bFindIn_ok hb
                subst e
                refine (se_builtin (bi := bi) g.calm g.hu g.gd (gl_of g hg) (g.b bi) (hst a List.mem_cons_self) (fun e he => hst e (List.mem_cons_of_mem _ he)) (sa_args S g true (a :: as) hu)).eqf fun σ d hd => ?_
                unfold ev at hd
                simp only [decide_eq_false hi, cond_false, hb, args_true c n σ _ hst] at hd
                exact hd
              | none =>
                rw [hb] at hc
                have hf : f ∈ fns := by simpa using hc.2
                cases hm : c.G.m f with
                | true =>
                  obtain ⟨j, hj⟩ := g.kp
                  have hroom := g.room
                  rw [hj] at hroom
                  refine (se_mk (g.mkr f hm) hroom (gl_of g hg) (okX_of ho).1 (hst a List.mem_cons_self) (fun e he => hst e (List.mem_cons_of_mem _ he)) (sa_args S g false (a :: as) hu)).eqf fun σ d hd => ?_
                  unfold ev at hd
                  simp only [decide_eq_false hi, cond_false, hb, hm, cond_true, args_false c n σ _ hst] at hd
                  exact hd
                | false =>
                have hcall : CallOk X k f (c.C f) := (g.call f hf).resolve_left (by rw [hm]; exact Bool.false_ne_true)
                refine (se_call hcall g.room g.gd (gl_of g hg) (okX_of ho).1 (hst a List.mem_cons_self) (fun e he => hst e (List.mem_cons_of_mem _ he)) (sa_args S g false (a :: as) hu)).eqf fun σ d hd => ?_
                unfold ev at hd
                simp only [decide_eq_false hi, cond_false, hb, hm, args_false c n σ _ hst] at hd
                exact hd
      | _ => cases h
    | Attribute x a pos =>
      have h : (atB x && ckE c.N fns m sc fn x) = true := h
      rw [Bool.and_eq_true] at h
      refine plain (fun b => ?_) (nof rfl) (fun _ => rfl) fun _ => rfl
      have hb : attributeBase x "at" X.env (eval x X.env) = eval x X.env := by
        have h1 := h.1
        cases x <;> first | (cases h1; done) | rfl
      exact (se_at g.att hb ((S.e m X sc fn g x h.2).1 true)).eqf fun σ d hd => hd
    | ListComp elt gs scope pos =>
      have done : (∀ b, SF X (.ListComp elt gs scope pos) fun σ => ev c (n + 1) b σ (.ListComp elt gs scope pos)) → (∀ b, SE X b (.ListComp elt gs scope pos) fun σ => ev c (n + 1) b σ (.ListComp elt gs scope pos)) ∧ (ST X (.ListComp elt gs scope pos) fun σ => tst c (n + 1) σ (.ListComp elt gs scope pos)) ∧ (isFresh (.ListComp elt gs scope pos) = true → SF X (.ListComp elt gs scope pos) fun σ => ev c (n + 1) false σ (.ListComp elt gs scope pos)) := fun hF =>
        plain (fun b => (hF b).se) (fun _ => hF false) (fun _ => rfl) fun _ => rfl
      have setno : ∀ {sc fn t e}, ckI c.N fns m sc fn t e = true → isSet e = false := fun h => by
        unfold ckI at h
        rw [Bool.and_eq_true] at h
        simpa using h.1
      rcases gs_of h with ⟨t, it, ifs, rfl⟩ | ⟨t, it, t', it', ifs', rfl⟩
      ·
        have h : ((ckI c.N fns m sc fn t it && blkB c.N sc.names scope) && ((ckTg (relS scope sc).names (fun x => scope.names.lookup x == some .cell) t && subB (tgIx c.N t) ((ownOf c.N scope.names).map (·.2))) &&
          ((match (generalizing := false) ifs with
            | [] => true
            | [c'] => ckE c.N fns m (relS scope sc) (fun x => scope.names.lookup x == some .cell) c'
            | _ => false) && ckE c.N fns m (relS scope sc) (fun x => scope.names.lookup x == some .cell) elt))) = true := h
        rw [Bool.and_eq_true, Bool.and_eq_true, Bool.and_eq_true, Bool.and_eq_true, Bool.and_eq_true] at h
        obtain ⟨⟨hi, hb⟩, ⟨ht, hsub⟩, hifs, helt⟩ := h
        refine done fun b => ?_
        refine SF.eqf ?_ fun σ => ev_lc1 c n b σ elt t it ifs scope pos
        refine sf_comp1 (own := ownOf c.N scope.names) g.calm g.nd (si_iter S g hi) (blk_of g hb) (fun s H C cl fp => (tg_of (good_blk g scope s H C cl fp) ht).mono (sub_of hsub)) (fun s H C cl fp => pts_of S (good_blk g scope s H C cl fp) hifs) (fun s H C cl fp => (S.e m _ _ _ (good_blk g scope s H C cl fp) elt helt).1 false) (fold_set (setno hi) _)
      ·
        have h : ((ckI c.N fns m sc fn t it && blkB c.N sc.names scope) && ((ckTg (relS scope sc).names (fun x => scope.names.lookup x == some .cell) t && subB (tgIx c.N t) ((ownOf c.N scope.names).map (·.2))) &&
          ((ckI c.N fns m (relS scope sc) (fun x => scope.names.lookup x == some .cell) t' it' && (ckTg (relS scope sc).names (fun x => scope.names.lookup x == some .cell) t' && subB (tgIx c.N t') ((ownOf c.N scope.names).map (·.2)))) && ((match (generalizing := false) ifs' with
            | [] => true
            | [c'] => ckE c.N fns m (relS scope sc) (fun x => scope.names.lookup x == some .cell) c'
            | _ => false) && ckE c.N fns m (relS scope sc) (fun x => scope.names.lookup x == some .cell) elt)))) = true := h
        rw [Bool.and_eq_true, Bool.and_eq_true, Bool.and_eq_true, Bool.and_eq_true, Bool.and_eq_true, Bool.and_eq_true, Bool.and_eq_true, Bool.and_eq_true] at h
        obtain ⟨⟨hi, hb⟩, ⟨ht, hsub⟩, ⟨hi', ht', hsub'⟩, hifs, helt⟩ := h
        refine done fun b => ?_
        refine SF.eqf ?_ fun σ => ev_lc2 c n b σ elt t it t' it' ifs' scope pos
        exact sf_comp2 (own := ownOf c.N scope.names) (vs1 := tgIx c.N t') g.calm g.nd (si_iter S g hi) (blk_of g hb) (sub_of hsub') (fun s H C cl fp => (tg_of (good_blk g scope s H C cl fp) ht).mono (sub_of hsub)) (fun s H C cl fp => si_iter S (good_blk g scope s H C cl fp) hi') (fun s H C cl fp => tg_of (good_blk g scope s H C cl fp) ht') (fun s H C cl fp => pts_of S (good_blk g scope s H C cl fp) hifs) (fun s H C cl fp => (S.e m _ _ _ (good_blk g scope s H C cl fp) elt helt).1 false) (fold_set (setno hi) _) (fold_set (setno hi'))
    | _ => cases h
  · match vs, h with
    | [], _ =>
      refine ⟨fun b => se_none, fun b => se_none, ?_, ?_⟩
      · exact sw_none.imp fun σ H Q ⟨O, Ow, es, d, hO, F, e, q⟩ => by cases e
      · exact sw_none.imp fun σ H Q ⟨O, Ow, es, d, hO, F, e, q⟩ => by cases e
    | [e], h =>
      obtain ⟨h1, h2, h3⟩ := S.e m X sc fn g e (h e List.mem_cons_self)
      exact ⟨fun b => se_and1 (h1 b), fun b => se_and1 (h1 b), sw_and1 h2, sw_or1 h2⟩
    | e :: e' :: r, h =>
      obtain ⟨h1, h2, h3⟩ := S.e m X sc fn g e (h e List.mem_cons_self)
      obtain ⟨i1, i2, i3, i4⟩ := S.a m X sc fn g (e' :: r) pos fun x hx => h x (List.mem_cons_of_mem _ hx)
      exact ⟨fun b => se_and (h1 b) (i1 b), fun b => se_or (h1 b) (i2 b), sw_and h2 i3, sw_or h2 i4⟩
  · cases lo with
    | none => exact so_none
    | some e => exact so_some ((S.e m X sc fn g e (h e rfl)).1 true)
theorem snd_all : ∀ n, Snd c k fns n
  | 0 => snd_zero
  | n + 1 => snd_succ (snd_all n)
end
end EV

namespace EV
open PySem PySem.Spec PyProof.Rows L2

/-! ### the state between statements -/
structure Rs (K : PySem.W.Frag) (w : World) (O0 : Addr → Prop) (H0 : Hp) (O : Addr → Prop) (es : List Sl) (σ : L2.St) (H : Hp) : Prop where
  ok : OkO O H
  sub : ∀ a, O0 a → O a
  new : ∀ a, O a → O0 a ∨ H0 a = none
  k0 : Same H0 H
  fr : Fr K w O (fun a => ¬ O0 a) es σ H
  inj : ∀ (i j : Nat) (l l' : List D) (a : Addr), es[i]? = some (.ow l) → es[j]? = some (.ow l') → σ[i]? = some (some (.ref a)) → σ[j]? = some (some (.ref a)) → i = j
  len : σ.length = es.length
/-- a stretch of work -/
structure Stp (O : Addr → Prop) (H : Hp) (O' : Addr → Prop) (H' : Hp) : Prop where
  k : Keeps O H H'
  o : ∀ a, O' a → O a ∨ H a = none
  g : ∀ a, H' a = none → H a = none
section
variable {K : PySem.W.Frag} {w : World} {O0 : Addr → Prop} {H0 : Hp} {O O' O1 O2 O3 : Addr → Prop} {es es' : List Sl} {σ σ' : L2.St} {H H' H1 H2 H3 : Hp}
theorem same_none (s : Same H H') {a : Addr} (h : H' a = none) : H a = none := s.free h
theorem Stp.same (s : Same H H') : Stp O H O H' := ⟨Same.keeps s, fun _ h => .inl h, fun _ => s.free⟩
theorem Stp.refl : Stp O H O H := .same (Same.refl H)
theorem Stp.trans (a : Stp O1 H1 O2 H2) (b : Stp O2 H2 O3 H3) : Stp O1 H1 O3 H3 := by
  have no : ∀ x xs, H1 x = some (.lst xs) → ¬ O1 x → ¬ O2 x := fun x xs e n z => (a.o x z).elim n fun q => by rw [q] at e; cases e
  refine ⟨⟨fun x xs e n => b.k.l _ _ (a.k.l _ _ e n) (no x xs e n), fun x xs e => b.k.t _ _ (a.k.t _ _ e), fun x o u e => b.k.f _ _ _ (a.k.f _ _ _ e), fun x φ e => b.k.e _ _ (a.k.e _ _ e), fun x fs e => b.k.x _ _ (a.k.x _ _ e)⟩, fun x z => ?_, fun x z => a.g x (b.g x z)⟩
  rcases b.o x z with z | z
  · exact a.o x z
  · exact .inr (a.g x z)
theorem Stp.less (h : ∀ a, O' a → O a) : Stp O H O' H := ⟨Same.keeps (Same.refl H), fun a z => .inl (h a z), fun _ z => z⟩

theorem Rs.same (R : Rs K w O0 H0 O es σ H) (s : Same H H') : Rs K w O0 H0 O es σ H' :=
  ⟨R.ok.same s, R.sub, R.new, R.k0.trans s, R.fr.same s, R.inj, R.len⟩
theorem Rs.ok0 (R : Rs K w O0 H0 O es σ H) : OkO O0 H := fun a z => R.ok a (R.sub a z)
theorem Rs.less (R : Rs K w O0 H0 O es σ H) {v : V} {d : D} (r : Ro K w O H v d) : Ro K w O0 H v d := r.less R.sub
/-- one slot is shared -/
theorem Rs.share (R : Rs K w O0 H0 O es σ H) (i : Nat) : ∃ O', Rs K w O0 H0 O' (es.modify i Sl.share) σ H ∧ Stp O H O' H := by
  have plain : es.modify i Sl.share = es → ∃ O', Rs K w O0 H0 O' (es.modify i Sl.share) σ H ∧ Stp O H O' H := fun e => ⟨O, by rw [e]; exact R, .refl⟩
  cases e : es[i]? with
  | none =>
    apply plain
    apply List.ext_getElem?
    intro j
    rw [List.getElem?_modify]
    by_cases hj : i = j
    · subst hj; rw [e]; rfl
    · simp [hj]
  | some s =>
    have keep : s.share = s → ∃ O', Rs K w O0 H0 O' (es.modify i Sl.share) σ H ∧ Stp O H O' H := fun h => plain (by
      apply List.ext_getElem?
      intro j
      rw [List.getElem?_modify]
      by_cases hj : i = j
      · subst hj; rw [e]; simp [h]
      · simp [hj])
    cases s with
    | un => exact keep rfl
    | sh d => exact keep rfl
    | ow l =>
      clear keep plain
      obtain ⟨a, xs, e1, h1, ⟨h2, h3⟩, h4⟩ := R.fr i _ e
      have lss : ∀ b, (O b ∧ b ≠ a) → O b := fun b z => z.1
      refine ⟨fun b => O b ∧ b ≠ a, ⟨fun b z => R.ok b z.1, fun b z => ⟨R.sub b z, fun q => h3 (q ▸ z)⟩, fun b z => R.new b z.1, R.k0, fun j s ej => ?_, fun j j' l1 l2 b g1 g2 => ?_, by rw [R.len, List.length_modify]⟩, Stp.less lss⟩
      · rw [List.getElem?_modify] at ej
        by_cases hj : i = j
        · subst hj
          rw [e] at ej
          simp at ej
          subst ej
          exact ⟨_, e1, .lst (.inl h1) (fun z => z.2 rfl) (h4.less lss)⟩
        · simp only [hj, if_false] at ej
          have ej : es[j]? = some s := by simpa using ej
          have hs := R.fr j s ej
          cases s with
          | un => trivial
          | sh d => obtain ⟨v, ev, r⟩ := hs; exact ⟨v, ev, r.less lss⟩
          | ow l2 =>
            obtain ⟨b, ys, f1, f2, ⟨f3, f4⟩, f5⟩ := hs
            exact ⟨b, ys, f1, f2, ⟨⟨f3, fun q => hj (R.inj i j _ _ a e ej e1 (q ▸ f1))⟩, f4⟩, f5.less lss⟩
      · rw [List.getElem?_modify] at g1 g2
        have g1' : es[j]? = some (.ow l1) := by
          by_cases hj : i = j
          · subst hj; rw [e] at g1; simp at g1; cases g1
          · simpa [hj] using g1
        have g2' : es[j']? = some (.ow l2) := by
          by_cases hj : i = j'
          · subst hj; rw [e] at g2; simp at g2; cases g2
          · simpa [hj] using g2
        exact R.inj j j' _ _ b g1' g2'
theorem Rs.shareN {N : List Str} : ∀ (xs : List Str) {O : Addr → Prop} {es : List Sl}, Rs K w O0 H0 O es σ H → ∃ O', Rs K w O0 H0 O' (shareN N xs es) σ H ∧ Stp O H O' H
  | [], O, es, R => ⟨O, R, .refl⟩
  | x :: xs, O, es, R => by
    unfold EV.shareN
    rw [List.foldl_cons]
    cases N.idxOf? x with
    | none => exact Rs.shareN xs R
    | some i =>
      obtain ⟨O1, R1, s1⟩ := R.share i
      obtain ⟨O2, R2, s2⟩ := Rs.shareN (N := N) xs R1
      exact ⟨O2, R2, s1.trans s2⟩
theorem Rs.shareAll (R : Rs K w O0 H0 O es σ H) : Fr K w O0 (fun a => ¬ O0 a) (es.map Sl.share) σ H := by
  intro j s ej
  rw [List.getElem?_map] at ej
  obtain ⟨s0, e0, rfl⟩ := Option.map_eq_some_iff.mp ej
  have hs := R.fr j s0 e0
  cases s0 with
  | un => trivial
  | sh d => obtain ⟨v, ev, r⟩ := hs; exact ⟨v, ev, r.less R.sub⟩
  | ow l =>
    obtain ⟨b, ys, f1, f2, ⟨f3, f4⟩, f5⟩ := hs
    exact ⟨_, f1, .lst (.inl f2) f4 (f5.less R.sub)⟩
theorem set_get {α : Type} {xs : List α} {i j : Nat} {x y : α} (e : (xs.set i x)[j]? = some y) : (i = j ∧ i < xs.length ∧ x = y) ∨ (i ≠ j ∧ xs[j]? = some y) := by
  by_cases hj : i = j
  · subst hj
    have hl : i < xs.length := by
      have := (List.getElem?_eq_some_iff.mp e).1
      simpa using this
    rw [List.getElem?_set_self hl] at e
    exact .inl ⟨rfl, hl, Option.some.inj e⟩
  · rw [List.getElem?_set_ne hj] at e
    exact .inr ⟨hj, e⟩
theorem Rs.setSh (R : Rs K w O0 H0 O es σ H) {i : Nat} {v : V} {d : D} (r : Ro K w O H v d) : Rs K w O0 H0 O (es.set i (.sh d)) (σ.set i (some v)) H := by
  refine ⟨R.ok, R.sub, R.new, R.k0, fun j s ej => ?_, fun j j' l l' a g1 g2 h1 h2 => ?_, by simp [R.len]⟩
  · rcases set_get ej with ⟨rfl, hl, rfl⟩ | ⟨n, ej⟩
    · rw [List.getElem?_set_self (by rw [R.len]; exact hl)]
      exact ⟨v, rfl, r⟩
    · rw [List.getElem?_set_ne n]
      exact R.fr j s ej
  · rcases set_get g1 with ⟨rfl, hl, z⟩ | ⟨n1, g1⟩
    · cases z
    rcases set_get g2 with ⟨rfl, hl, z⟩ | ⟨n2, g2⟩
    · cases z
    rw [List.getElem?_set_ne n1] at h1
    rw [List.getElem?_set_ne n2] at h2
    exact R.inj j j' l l' a g1 g2 h1 h2
/-- a fresh list becomes a slot's own -/
theorem Rs.setOw (R : Rs K w O0 H0 O es σ H) (s : Same H H') {i : Nat} {p : Addr} {xs : List V} {ds : List D} (hp : H p = none) (h1 : H' p = some (.lst xs)) (r : RoAll K w (fun a => O a ∨ a = p) H' xs ds) :
    Rs K w O0 H0 (fun a => O a ∨ a = p) (es.set i (.ow ds)) (σ.set i (some (.ref p))) H' ∧ Stp O H (fun a => O a ∨ a = p) H' := by
  have hO : ∀ a, (O a ∨ a = p) → O a ∨ H a = none := fun a z => z.imp id fun e => by rw [e]; exact hp
  have p0 : ¬ O0 p := fun z => by obtain ⟨ys, e⟩ := R.ok p (R.sub p z); rw [hp] at e; cases e
  have F1 : Fr K w (fun a => O a ∨ a = p) (fun a => ¬ O0 a) es σ H' := R.fr.more s hO (fun _ z => .inl z) fun _ _ z => z
  refine ⟨⟨okO_grow (R.ok.same s) h1, fun a z => .inl (R.sub a z), fun a z => ?_, R.k0.trans s, fun j t ej => ?_, fun j j' l l' a g1 g2 h3 h4 => ?_, by simp [R.len]⟩, ⟨Same.keeps s, hO, fun _ => s.free⟩⟩
  · rcases z with z | z
    · exact R.new a z
    · rw [z]; exact .inr (R.k0.free hp)
  · rcases set_get ej with ⟨rfl, hl, rfl⟩ | ⟨n, ej⟩
    · rw [List.getElem?_set_self (by rw [R.len]; exact hl)]
      exact ⟨p, xs, rfl, h1, ⟨.inr rfl, p0⟩, r⟩
    · rw [List.getElem?_set_ne n]
      exact F1 j t ej
  · have old : ∀ j l, i ≠ j → es[j]? = some (.ow l) → σ[j]? ≠ some (some (.ref p)) := fun j l n ej z => by
      obtain ⟨b, ys, f1, f2, _, _⟩ := R.fr j _ ej
      rw [z] at f1
      cases f1
      rw [hp] at f2; cases f2
    rcases set_get g1 with ⟨rfl, hl, z⟩ | ⟨n1, g1⟩
    · rw [List.getElem?_set_self (by rw [R.len]; exact hl)] at h3
      cases h3
      rcases set_get g2 with ⟨e2, hl2, z2⟩ | ⟨n2, g2⟩
      · exact e2
      · rw [List.getElem?_set_ne n2] at h4
        exact absurd h4 (old _ _ n2 g2)
    · rw [List.getElem?_set_ne n1] at h3
      rcases set_get g2 with ⟨rfl, hl2, z2⟩ | ⟨n2, g2⟩
      · rw [List.getElem?_set_self (by rw [R.len]; exact hl2)] at h4
        cases h4
        exact absurd h3 (old _ _ n1 g1)
      · rw [List.getElem?_set_ne n2] at h4
        exact R.inj j j' l l' a g1 g2 h3 h4
/-- a slot's own list grows -/
theorem Rs.grow (R : Rs K w O0 H0 O es σ H) {i : Nat} {p : Addr} {xs : List V} {l : List D} {v : List V} {d : List D} (e : es[i]? = some (.ow l)) (e1 : σ[i]? = some (some (.ref p))) (h1 : H p = some (.lst xs)) (hr : RoAll K w O H xs l) (r : RoAll K w O H v d) :
    Rs K w O0 H0 O (es.set i (.ow (l ++ d))) σ (upd H p (.lst (xs ++ v))) ∧ Stp O H O (upd H p (.lst (xs ++ v))) := by
  obtain ⟨b, ys, f1, f2, ⟨f3, f4⟩, f5⟩ := R.fr i _ e
  rw [e1] at f1
  cases f1
  have h0 : H0 p = none := (R.new p f3).elim (fun z => absurd z f4) id
  have kp : Keeps O H (upd H p (.lst (xs ++ v))) := by
    refine ⟨fun a xs e n => ?_, fun a xs e => ?_, fun a o u e => ?_, fun a φ e => ?_, fun a fs e => ?_⟩
    · rw [upd_ne (fun z => n (by rw [z]; exact f3))]; exact e
    · rw [upd_ne (fun z => by rw [z, h1] at e; cases e)]; exact e
    · rw [upd_ne (fun z => by rw [z, h1] at e; cases e)]; exact e
    · rw [upd_ne (fun z => by rw [z, h1] at e; cases e)]; exact e
    · rw [upd_ne (fun z => by rw [z, h1] at e; cases e)]; exact e
  have id0 : ∀ a, O a → O a ∨ H a = none := fun _ z => .inl z
  refine ⟨⟨fun a z => ?_, R.sub, R.new, fun a o z => ?_, fun j s ej => ?_, fun j j' l1 l2 a g1 g2 h3 h4 => ?_, by simp [R.len]⟩, ⟨kp, id0, fun a z => ?_⟩⟩
  · by_cases q : a = p
    · subst q; exact ⟨_, upd_same⟩
    · rw [upd_ne q]; exact R.ok a z
  · rw [upd_ne (fun q => by rw [q, h0] at z; cases z)]; exact R.k0 a o z
  · rcases set_get ej with ⟨rfl, hl, rfl⟩ | ⟨n, ej⟩
    · exact ⟨p, xs ++ v, e1, upd_same, ⟨f3, f4⟩, (hr.app r).keeps kp id0⟩
    · have hs := R.fr j s ej
      cases s with
      | un => trivial
      | sh d => obtain ⟨u, ev, r⟩ := hs; exact ⟨u, ev, r.keeps kp id0⟩
      | ow l2 =>
        obtain ⟨c, zs, k1, k2, k3, k4⟩ := hs
        exact ⟨c, zs, k1, (upd_ne (fun q => n (R.inj i j _ _ p e ej e1 (by rw [← q]; exact k1)))).trans k2, k3, k4.keeps kp id0⟩
  · have g1' : ∃ l, es[j]? = some (.ow l) := by
      rcases set_get g1 with ⟨rfl, hl, _⟩ | ⟨n, g⟩
      · exact ⟨_, e⟩
      · exact ⟨_, g⟩
    have g2' : ∃ l, es[j']? = some (.ow l) := by
      rcases set_get g2 with ⟨rfl, hl, _⟩ | ⟨n, g⟩
      · exact ⟨_, e⟩
      · exact ⟨_, g⟩
    obtain ⟨_, g1'⟩ := g1'
    obtain ⟨_, g2'⟩ := g2'
    exact R.inj j j' _ _ a g1' g2' h3 h4
  · by_cases q : a = p
    · subst q; rw [upd_same] at z; cases z
    · rw [upd_ne q] at z; exact z
/-- after a store by a target -/
theorem asgN_ow {N : List Str} {x : Str} {p : Pos} {d : D} (e : asgN N es x d = some es') : es'.length = es.length ∧ ∀ (i : Nat) (l : List D), es'[i]? = some (.ow l) → es[i]? = some (.ow l) ∧ i ∉ namesIx N [.Name x p] := by
  unfold asgN at e
  obtain ⟨j, e1, e2⟩ := bind_some e
  cases e2
  refine ⟨by simp [setSl], fun i l h => ?_⟩
  rcases set_get h with ⟨rfl, hl, z⟩ | ⟨n, h⟩
  · cases z
  · refine ⟨h, ?_⟩
    simp only [namesIx, e1]
    simp
    exact fun z => n z.symm
theorem asgs_ow {N : List Str} : ∀ {ts : List Expr} {ds : List D} {es es' : List Sl}, asgs N ts ds es = some es' → es'.length = es.length ∧ ∀ (i : Nat) (l : List D), es'[i]? = some (.ow l) → es[i]? = some (.ow l) ∧ i ∉ namesIx N ts
  | ts, ds, es, es', e => by
    unfold asgs at e
    split at e
    · cases e
      exact ⟨rfl, fun i l h => ⟨h, by simp [namesIx]⟩⟩
    · rename_i x p ts d ds
      obtain ⟨es1, e1, e2⟩ := bind_some e
      obtain ⟨l2, k2⟩ := asgs_ow e2
      obtain ⟨l1, k1⟩ := asgN_ow (p := p) e1
      refine ⟨l2.trans l1, fun i l h => ?_⟩
      obtain ⟨a1, a2⟩ := k2 i l h
      obtain ⟨b1, b2⟩ := k1 i l a1
      refine ⟨b1, ?_⟩
      simp only [namesIx] at b2 ⊢
      split
      · rename_i j hj
        rw [hj] at b2
        simp at b2 ⊢
        exact ⟨b2, a2⟩
      · exact a2
    · cases e
theorem asg_ow {N : List Str} {t : Expr} {d : D} (e : asg N es t d = some es') : es'.length = es.length ∧ ∀ (i : Nat) (l : List D), es'[i]? = some (.ow l) → es[i]? = some (.ow l) ∧ i ∉ tgIx N t := by
  unfold asg at e
  split at e
  · rename_i x p
    exact asgN_ow (p := p) e
  · split at e
    · exact asgs_ow e
    · exact asgs_ow e
    · cases e
  · cases e
theorem Rs.store {N : List Str} {t : Expr} {d : D} (R : Rs K w O0 H0 O es σ H) (e : asg N es t d = some es') (s : Same H H') (hl : σ'.length = σ.length) (hk : ∀ j, j ∉ tgIx N t → σ'[j]? = σ[j]?) (F : Fr K w O (fun a => ¬ O0 a) es' σ' H') : Rs K w O0 H0 O es' σ' H' := by
  obtain ⟨l1, k1⟩ := asg_ow e
  refine ⟨R.ok.same s, R.sub, R.new, R.k0.trans s, F, fun i j l l' a g1 g2 h1 h2 => ?_, by rw [hl, R.len, l1]⟩
  obtain ⟨a1, a2⟩ := k1 i l g1
  obtain ⟨b1, b2⟩ := k1 j l' g2
  rw [hk i a2] at h1
  rw [hk j b2] at h2
  exact R.inj i j l l' a a1 b1 h1 h2
end
/-! ### the reading of statements -/
def FlK (K : PySem.W.Frag) (w : World) (O0 : Addr → Prop) (H0 : Hp) (D0 : Ends) (O : Addr → Prop) (H : Hp) : Fl → Prop
  | .next es => ∀ O' σ' H', Stp O H O' H' → Rs K w O0 H0 O' es σ' H' → D0.nx σ' H'
  | .brk es => ∀ O' σ' H', Stp O H O' H' → Rs K w O0 H0 O' es σ' H' → D0.bk σ' H'
  | .cont es => ∀ O' σ' H', Stp O H O' H' → Rs K w O0 H0 O' es σ' H' → D0.ct σ' H'
  | .ret d => ∀ v H', Same H0 H' → Ro K w O0 H' v d → D0.rt v H'
def tS (K : PySem.W.Frag) (w : World) (O0 : Addr → Prop) (H0 : Hp) (f : List Sl → Option Fl) : TS := fun D σ H => ∃ O es fl, Rs K w O0 H0 O es σ H ∧ f es = some fl ∧ FlK K w O0 H0 D O H fl
theorem FlK.pre {K : PySem.W.Frag} {w : World} {O0 : Addr → Prop} {H0 : Hp} {D : Ends} {O O1 : Addr → Prop} {H H1 : Hp} {fl : Fl} (s : Stp O H O1 H1) (h : FlK K w O0 H0 D O H fl) : FlK K w O0 H0 D O1 H1 fl := by
  cases fl with
  | next es => exact fun O' σ' H' s' R => h O' σ' H' (s.trans s') R
  | brk es => exact fun O' σ' H' s' R => h O' σ' H' (s.trans s') R
  | cont es => exact fun O' σ' H' s' R => h O' σ' H' (s.trans s') R
  | ret d => exact h
abbrev SSt (X : Cx) (O0 : Addr → Prop) (H0 : Hp) (st : Stmt) (f : List Sl → Option Fl) : Prop := PS X st (tS X.K X.w O0 H0 f)
abbrev SSs (X : Cx) (O0 : Addr → Prop) (H0 : Hp) (st : List Stmt) (f : List Sl → Option Fl) : Prop := PSs X st (tS X.K X.w O0 H0 f)
theorem _root_.L2.PS.imp {X : Cx} {e : Stmt} {t t' : TS} (h : PS X e t) (hi : ∀ D σ H, t' D σ H → t D σ H) : PS X e t' := ⟨fun pins s σ H D I hq => h.run pins s σ H D I (hi _ _ _ hq)⟩
theorem _root_.L2.PSs.imp {X : Cx} {e : List Stmt} {t t' : TS} (h : PSs X e t) (hi : ∀ D σ H, t' D σ H → t D σ H) : PSs X e t' := ⟨fun pins s σ H D I hq => h.run pins s σ H D I (hi _ _ _ hq)⟩
section
variable {X : Cx} {O0 : Addr → Prop} {H0 : Hp} {e t it : Expr} {a b body : List Stmt} {st : Stmt} {pos p : Pos} {f : List Sl → Option D} {g : List Sl → Option Bool} {fa fb : List Sl → Option Fl} {xs : List Str} {N : List Str}
theorem ss_ret (h : SE X false e f) : SSt X O0 H0 (.Return (some e) pos) fun σ => (f (σ.map Sl.share)).map .ret := by
  refine (ps_ret h).imp fun D σ H ⟨O, es, fl, R, e0, q⟩ => ?_
  obtain ⟨d, e1, rfl⟩ := Option.map_eq_some_iff.mp e0
  exact ⟨O0, _, _, d, R.ok0, R.shareAll, e1, fun H' v s r => q v H' (R.k0.trans s) r.no⟩
theorem ss_retN : SSt X O0 H0 (.Return none pos) fun σ => some (.ret .none) := by
  refine ps_retN.imp fun D σ H ⟨O, es, fl, R, e0, q⟩ => ?_
  cases e0
  exact q .non H R.k0 .non
theorem ss_next (h : PS X st tNext) : SSt X O0 H0 st fun σ => some (.next σ) := by
  refine h.imp fun D σ H ⟨O, es, fl, R, e0, q⟩ => ?_
  cases e0
  exact q O σ H .refl R
theorem ss_break : SSt X O0 H0 (.Break pos) fun σ => some (.brk σ) := by
  refine ps_break.imp fun D σ H ⟨O, es, fl, R, e0, q⟩ => ?_
  cases e0
  exact q O σ H .refl R
theorem ss_cont : SSt X O0 H0 (.Continue pos) fun σ => some (.cont σ) := by
  refine ps_continue.imp fun D σ H ⟨O, es, fl, R, e0, q⟩ => ?_
  cases e0
  exact q O σ H .refl R
theorem ss_if (h : ST X e g) (ha : SSs X O0 H0 a fa) (hb : SSs X O0 H0 b fb) : SSt X O0 H0 (.If e a b pos) fun σ => (g (shareN N xs σ)).bind fun k => cond k (fa (shareN N xs σ)) (fb (shareN N xs σ)) := by
  refine (ps_if h ha hb).imp fun D σ H ⟨O, es, fl, R, e0, q⟩ => ?_
  obtain ⟨k, e1, e2⟩ := bind_some e0
  obtain ⟨O1, R1, s1⟩ := R.shareN (N := N) xs
  refine ⟨O1, _, _, k, R1.ok, R1.fr, e1, fun H' s => ?_⟩
  cases k with
  | true => exact ⟨O1, _, fl, R1.same s, e2, q.pre (s1.trans (.same s))⟩
  | false => exact ⟨O1, _, fl, R1.same s, e2, q.pre (s1.trans (.same s))⟩
theorem sss_nil : SSs X O0 H0 [] fun σ => some (.next σ) := by
  refine pss_nil.imp fun D σ H ⟨O, es, fl, R, e0, q⟩ => ?_
  cases e0
  exact q O σ H .refl R
theorem sss_cons {r : List Stmt} (h1 : SSt X O0 H0 st fa) (h2 : SSs X O0 H0 r fb) : SSs X O0 H0 (st :: r) fun σ => (fa σ).bind fun
    | .next σ' => fb σ'
    | f => some f := by
  refine (pss_cons h1 h2).imp fun D σ H ⟨O, es, fl, R, e0, q⟩ => ?_
  obtain ⟨f1, e1, e2⟩ := bind_some e0
  refine ⟨O, es, f1, R, e1, ?_⟩
  cases f1 with
  | next es1 => exact fun O' σ' H' s' R' => ⟨O', es1, fl, R', e2, q.pre s'⟩
  | brk es1 => cases e2; exact q
  | cont es1 => cases e2; exact q
  | ret d => cases e2; exact q
theorem ss_set {i : Nat} {x : Str} (h : PS X (.Assign [.Name x p] e pos) (tAsg (tE X.K X.w false f) (gName i))) :
    SSt X O0 H0 (.Assign [.Name x p] e pos) fun σ => (f (shareN N xs σ)).bind fun d => some (.next (setOw (shareN N xs σ) i false d)) := by
  refine h.imp fun D σ H ⟨O, es, fl, R, e0, q⟩ => ?_
  obtain ⟨d, e1, e2⟩ := bind_some e0
  cases e2
  obtain ⟨O1, R1, s1⟩ := R.shareN (N := N) xs
  refine ⟨O1, _, _, d, R1.ok, R1.fr, e1, fun H' v s r => ?_⟩
  have R2 := (R1.same s).setSh (i := i) r.no
  refine q O1 _ H' (s1.trans (.same s)) ?_
  unfold setOw
  cases d <;> exact R2
theorem ss_setF {i : Nat} {x : Str} (h : PS X (.Assign [.Name x p] e pos) (tAsg (tF X.K X.w f) (gName i))) :
    SSt X O0 H0 (.Assign [.Name x p] e pos) fun σ => (f (shareN N xs σ)).bind fun d => some (.next (setOw (shareN N xs σ) i true d)) := by
  refine h.imp fun D σ H ⟨O, es, fl, R, e0, q⟩ => ?_
  obtain ⟨d, e1, e2⟩ := bind_some e0
  cases e2
  obtain ⟨O1, R1, s1⟩ := R.shareN (N := N) xs
  refine ⟨O1, _, _, d, R1.ok, R1.fr, e1, fun H' p' ys ds s hp h1 hd r => ?_⟩
  subst hd
  obtain ⟨R2, s2⟩ := R1.setOw (i := i) s hp h1 r
  exact q _ _ H' (s1.trans s2) R2
theorem ss_asgT {vs : List Nat} (hv : vs = tgIx N t) (h : PS X (.Assign [t] e pos) (tAsg (tE X.K X.w false f) (tG X.K X.w vs fun es d => asg N es t d))) :
    SSt X O0 H0 (.Assign [t] e pos) fun σ => (f (shareN N xs σ)).bind fun d => (asg N (shareN N xs σ) t d).map .next := by
  subst hv
  refine h.imp fun D σ H ⟨O, es, fl, R, e0, q⟩ => ?_
  obtain ⟨d, e1, e2⟩ := bind_some e0
  obtain ⟨es2, e3, rfl⟩ := Option.map_eq_some_iff.mp e2
  obtain ⟨O1, R1, s1⟩ := R.shareN (N := N) xs
  refine ⟨O1, _, _, d, R1.ok, R1.fr, e1, fun H' v s r => ?_⟩
  refine ⟨O1, _, _, d, es2, R1.ok.same s, R1.fr.same s, r.no, e3, fun σ' H2 s2 l2 k2 F2 => ?_⟩
  exact q O1 σ' H2 (s1.trans (.same (s.trans s2))) ((R1.same s).store e3 s2 l2 k2 F2)
theorem ss_drop (h : SE X false e f) (hs : swapsWith e none pos.line X.env = pure false) : SSt X O0 H0 (.Expr e pos) fun σ => (f (shareN N xs σ)).bind fun _ => some (.next (shareN N xs σ)) := by
  refine (ps_expr h hs).imp fun D σ H ⟨O, es, fl, R, e0, q⟩ => ?_
  obtain ⟨d, e1, e2⟩ := bind_some e0
  cases e2
  obtain ⟨O1, R1, s1⟩ := R.shareN (N := N) xs
  exact ⟨O1, _, _, d, R1.ok, R1.fr, e1, fun H' v s r => q O1 σ H' (s1.trans (.same s)) (R1.same s)⟩
theorem ss_app {i : Nat} {x m : Str} {ap : Pos} (hx : PE X (.Name x p) (tVar i)) (hm : m = "append") (hs : isStar e = false) (h : SE X false e f)
    (hb : attributeBase (.Name x p) m X.env (eval (.Name x p) X.env) = eval (.Name x p) X.env) (hl : (ap.endLine == pos.line) = true) {pp : Pos} :
    SSt X O0 H0 (.Expr (.Call (.Attribute (.Name x p) m ap) [e] [] pos) pp) fun σ => (f (shareN N xs σ)).bind fun d => match (shareN N xs σ)[i]? with
          | some (.ow l) => cond (decide (l.length < few)) (some (.next ((shareN N xs σ).set i (.ow (l ++ [d]))))) none
          | _ => none := by
  subst hm
  have hst : ∀ es, starEach (e :: es) X.env = (false, eval e X.env) :: starEach es X.env := fun es => starEach_cons (star_no hs) _
  have hp : PE X (.Call (.Attribute (.Name x p) "append" ap) [e] [] pos) (tBM X.K "list" rAppend (tVar i) (tA X.K X.w false fun σ => (f σ).bind fun d => some [d])) := by
    refine pe_bm PySem.F.plainAttrs_list PySem.F.slot_list_append PySem.F.type_list_append mt_append hx (sa_cons (star_no hs) h sa_nil) hb ?_ hl (hst []) rfl
    rw [hst []]; rfl
  refine (ps_expr hp).imp fun D σ H ⟨O, es, fl, R, e0, q⟩ => ?_
  obtain ⟨d, e1, e2⟩ := bind_some e0
  obtain ⟨O1, R1, s1⟩ := R.shareN (N := N) xs
  split at e2
  · rename_i l hi
    obtain ⟨c, e2⟩ := cond_some e2
    cases e2
    obtain ⟨a, ys, f1, f2, f3, f4⟩ := R1.fr i _ hi
    refine ⟨.ref a, f1, .inl ⟨rfl, ys, .inl (.inl f2)⟩, ?_⟩
    refine ⟨O1, _, _, [d], R1.ok, R1.fr, by show (f (EV.shareN N xs es)).bind _ = _; rw [e1]; rfl, fun H' vs s r => ?_⟩
    cases r with
    | cons r1 r2 =>
      cases r2
      have hlen : ys.length < sizeLine := by
        have := of_decide_eq_true c
        have hf := few_line
        rw [f4.length]; omega
      refine ⟨a, ys, _, rfl, rfl, s _ _ f2, hlen, ?_⟩
      obtain ⟨R2, s2⟩ := (R1.same s).grow hi f1 (s _ _ f2) (f4.same s) (.cons r1.no .nil)
      exact q O1 σ _ (s1.trans ((Stp.same s).trans s2)) R2
  · cases e2
theorem ss_ext {i : Nat} {x m : Str} {ap : Pos} (hx : PE X (.Name x p) (tVar i)) (hm : m = "extend") (hs : isStar e = false) (h : SF X e f)
    (hb : attributeBase (.Name x p) m X.env (eval (.Name x p) X.env) = eval (.Name x p) X.env) (hl : (ap.endLine == pos.line) = true) {pp : Pos} :
    SSt X O0 H0 (.Expr (.Call (.Attribute (.Name x p) m ap) [e] [] pos) pp) fun σ => (f (shareN N xs σ)).bind fun d => match (shareN N xs σ)[i]?, d with
          | some (.ow l), .list ds => cond (decide (l.length + ds.length ≤ few)) (some (.next ((shareN N xs σ).set i (.ow (l ++ ds))))) none
          | _, _ => none := by
  subst hm
  have hst : ∀ es, starEach (e :: es) X.env = (false, eval e X.env) :: starEach es X.env := fun es => starEach_cons (star_no hs) _
  have hp : PE X (.Call (.Attribute (.Name x p) "extend" ap) [e] [] pos) (tBM X.K "list" rExtend (tVar i) (tCons (tF X.K X.w f) tNil)) := by
    refine pe_bm PySem.F.plainAttrs_list PySem.F.slot_list_extend PySem.F.type_list_extend mt_extend hx (pa_cons h pa_nil (hst [])) hb ?_ hl (hst []) rfl
    rw [hst []]; rfl
  refine (ps_expr hp).imp fun D σ H ⟨O, es, fl, R, e0, q⟩ => ?_
  obtain ⟨d, e1, e2⟩ := bind_some e0
  obtain ⟨O1, R1, s1⟩ := R.shareN (N := N) xs
  split at e2
  · rename_i l ds hi
    obtain ⟨c, e2⟩ := cond_some e2
    cases e2
    obtain ⟨a, ys, f1, f2, f3, f4⟩ := R1.fr i _ hi
    refine ⟨.ref a, f1, .inl ⟨rfl, ys, .inl (.inl f2)⟩, ?_⟩
    refine ⟨O1, _, _, _, R1.ok, R1.fr, e1, fun H' p' zs ds' s hp' h1 hd r => ?_⟩
    cases hd
    have r' : RoAll X.K X.w O1 H' zs ds := r.less fun a z => .inl z
    have hlen : ys.length + zs.length ≤ sizeLine := by
      have := of_decide_eq_true c
      have hf := few_line
      rw [f4.length, r'.length]; omega
    refine ⟨a, p', ys, zs, rfl, rfl, s _ _ f2, h1, hlen, ?_⟩
    obtain ⟨R2, s2⟩ := (R1.same s).grow hi f1 (s _ _ f2) (f4.same s) r'
    exact q O1 σ _ (s1.trans ((Stp.same s).trans s2)) R2
  · cases e2
/-- a, b = x, y: stored from the right -/
theorem ss_par {i j : Nat} {x y : Str} {e1 e2 : Expr} {px py pt : Pos} {kt k2 pt2} {fs : List Sl → Option (List D)} (hij : i ≠ j) (h : PS X (.Assign [.Tuple [.Name x px, .Name y py] kt pt] (.Tuple [e1, e2] k2 pt2) pos) (tPar i j (tA X.K X.w false fs))) :
    SSt X O0 H0 (.Assign [.Tuple [.Name x px, .Name y py] kt pt] (.Tuple [e1, e2] k2 pt2) pos) fun σ => (fs (shareN N xs σ)).bind fun ds => match ds with
      | [d1, d2] => some (.next (((shareN N xs σ).set i (.sh d1)).set j (.sh d2)))
      | _ => none := by
  refine h.imp fun D σ H ⟨O, es, fl, R, e0, q⟩ => ?_
  obtain ⟨ds, e1, e2⟩ := bind_some e0
  obtain ⟨O1, R1, s1⟩ := R.shareN (N := N) xs
  split at e2
  · rename_i d1 d2
    cases e2
    refine ⟨O1, _, _, _, R1.ok, R1.fr, e1, fun H' vs s r => ?_⟩
    cases r with | cons r1 r =>
    cases r with | cons r2 r =>
    cases r
    exact ⟨_, _, rfl, q O1 _ H' (s1.trans (.same s)) (((R1.same s).setSh r1.no).setSh r2.no)⟩
  · cases e2
theorem ss_for {tg : Expr} {fi : List Sl → Option (List D)} {vs : List Nat} (hv : vs = tgIx N tg) (hp : PassesOwn (model X.prog X.w) X.A X.env X.xe) (hc : X.calm = true) (hi : SI X false tg it fi) (hg : SG X vs tg fun es d => asg N es tg d) (hb : SSs X O0 H0 body fb)
    (hs : ∀ x, foldedSetIterable it X.env x = pure x) : SSt X O0 H0 (.For tg it body [] pos) fun σ => (fi (shareN N xs σ)).bind fun ys => forL (fun σ x => asg N σ tg x) fb ys (shareN N xs σ) := by
  subst hv
  refine (ps_for hp hc hi hg hb hs).imp fun D σ H ⟨O, es, fl, R, e0, q⟩ => ?_
  obtain ⟨ys, e1, e2⟩ := bind_some e0
  obtain ⟨O1, R1, s1⟩ := R.shareN (N := N) xs
  refine ⟨O1, _, _, ys, R1.ok, R1.fr, e1, fun J H1 sH Y => ?_⟩
  have q1 := q.pre (s1.trans (.same sH))
  refine ⟨fun i m σ2 H2 => ∃ O2 es2, m = ys.length - i ∧ i ≤ ys.length ∧ Stp O1 H1 O2 H2 ∧ Rs X.K X.w O0 H0 O2 es2 σ2 H2 ∧ forL (fun σ x => asg N σ tg x) fb (ys.drop i) es2 = some fl, ⟨_, O1, _, rfl, Nat.zero_le _, .refl, R1.same sH, e2⟩, ?_⟩
  rintro i m σ2 H2 ⟨O2, es2, rfl, hi, s2, R2, c2⟩
  have kz : Keeps (fun a => false = false ∧ O1 a) H1 H2 := ⟨fun a xs e n => s2.k.l a xs e fun z => n ⟨rfl, z⟩, s2.k.t, s2.k.f, s2.k.e, s2.k.x⟩
  by_cases hlt : i < ys.length
  · rw [drop_at hlt] at c2
    refine .inr ⟨(Y.go H2 i ys[i] kz (List.getElem?_eq_getElem hlt)).1, fun σ3 H3 => ∃ O3 es3, i + 1 ≤ ys.length ∧ Stp O1 H1 O3 H3 ∧ Rs X.K X.w O0 H0 O3 es3 σ3 H3 ∧ forL (fun σ x => asg N σ tg x) fb (ys.drop (i + 1)) es3 = some fl,
      fun σ3 H3 ⟨O3, es3, a1, a2, a3, a4⟩ => ⟨ys.length - (i + 1), by omega, O3, es3, rfl, a1, a2, a3, a4⟩, fun x H3 y => ?_⟩
    obtain ⟨sm, rx⟩ := (Y.go H2 i ys[i] kz (List.getElem?_eq_getElem hlt)).2 x H3 y
    have rx := rx O2 s2.o s2.k
    replace s2 := s2.trans (.same sm)
    replace R2 := R2.same sm
    obtain ⟨es3, c3, c4⟩ := bind_some (show (asg N es2 tg ys[i]).bind _ = some fl from c2)
    obtain ⟨fl2, c5, c6⟩ := bind_some c4
    refine ⟨O2, _, es2, ys[i], es3, R2.ok, R2.fr, rx, c3, fun σ4 H4 s4 l4 k4 F4 => ?_⟩
    have R4 := R2.store c3 s4 l4 k4 F4
    have s14 : Stp O1 H1 O2 H4 := s2.trans (.same s4)
    refine ⟨O2, es3, fl2, R4, c5, ?_⟩
    cases fl2 with
    | next es5 => exact fun O5 σ5 H5 s5 R5 => ⟨O5, es5, hlt, s14.trans s5, R5, c6⟩
    | cont es5 => exact fun O5 σ5 H5 s5 R5 => ⟨O5, es5, hlt, s14.trans s5, R5, c6⟩
    | brk es5 => cases c6; exact fun O5 σ5 H5 s5 R5 => q1 O5 σ5 H5 (s14.trans s5) R5
    | ret d => cases c6; exact q1
  · have hi' : i = ys.length := by omega
    subst hi'
    refine .inl ⟨Y.stop H2 kz, ?_⟩
    rw [List.drop_length] at c2
    cases c2
    exact q1 O2 σ2 H2 s2 R2
theorem ss_while (hp : PassesOwn (model X.prog X.w) X.A X.env X.xe) (h : ST X e g) (hb : SSs X O0 H0 body fb) {n : Nat} : SSt X O0 H0 (.While e body [] pos) fun σ => whileL g fb n (shareN N xs σ) := by
  refine (ps_while hp h hb).imp fun D σ H ⟨O, es, fl, R, e0, q⟩ => ?_
  obtain ⟨O1, R1, s1⟩ := R.shareN (N := N) xs
  have q1 := q.pre s1
  refine ⟨fun m σ2 H2 => ∃ O2 es2, Stp O1 H O2 H2 ∧ Rs X.K X.w O0 H0 O2 es2 σ2 H2 ∧ whileL g fb m es2 = some fl, ⟨n, O1, _, .refl, R1, e0⟩, ?_⟩
  rintro m σ2 H2 ⟨O2, es2, s2, R2, c2⟩
  cases m with
  | zero => cases c2
  | succ m =>
    obtain ⟨k, c3, c4⟩ := bind_some (show (g es2).bind _ = some fl from c2)
    refine ⟨O2, _, es2, k, R2.ok, R2.fr, c3, fun H3 s3 => ?_⟩
    cases k with
    | false =>
      cases c4
      exact q1 O2 σ2 H3 (s2.trans (.same s3)) (R2.same s3)
    | true =>
      obtain ⟨fl2, c5, c6⟩ := bind_some c4
      simp only [if_true]
      refine ⟨fun σ3 H3 => ∃ O3 es3, Stp O1 H O3 H3 ∧ Rs X.K X.w O0 H0 O3 es3 σ3 H3 ∧ whileL g fb m es3 = some fl, fun σ3 H3 z => ⟨m, Nat.lt_succ_self m, z⟩, O2, es2, fl2, R2.same s3, c5, ?_⟩
      have s13 : Stp O1 H O2 H3 := s2.trans (.same s3)
      cases fl2 with
      | next es5 => exact fun O5 σ5 H5 s5 R5 => ⟨O5, es5, s13.trans s5, R5, c6⟩
      | cont es5 => exact fun O5 σ5 H5 s5 R5 => ⟨O5, es5, s13.trans s5, R5, c6⟩
      | brk es5 => cases c6; exact fun O5 σ5 H5 s5 R5 => q1 O5 σ5 H5 (s13.trans s5) R5
      | ret d => cases c6; exact q1
end
end EV

namespace EV
open PySem PySem.Spec PyProof.Rows L2
def yes : Str → Bool := fun _ => true
/-- is the name's old value let go before the list is stored? -/
def swB (names : List (Str × NameKind)) (x : Str) (p : Pos) : Expr → Bool
  | .ListComp _ _ scope lp => names.lookup x == some .local && p.line == lp.line && !(scope.names.any fun (n, k) => n == x && (k == .local || k == .cell))
  | _ => false
/-- two names of the def's own, stored from the right -/
def parB (names : List (Str × NameKind)) (es : List Expr) (e : Expr) : Bool := match es, e with
  | [.Name x px, .Name y py], .Tuple [a, b] _ _ => (decide (names.lookup x = some .local) && (decide (names.lookup y = some .local) && (px.line == py.line && !(x == y)))) &&
    ((!isStar a && !isStar b) && (!([a, b].all (foldedForSure 8)) && !([a, b].all (constantsAlone 8))))
  | _, _ => false
/-- some name is not the def's own alone: stored from the left -/
def nswB (names : List (Str × NameKind)) (es : List Expr) : Bool := es.any fun e => match e with
  | .Name x _ => !(decide (names.lookup x = some .local))
  | _ => true
mutual
def ckS (N fns : List Str) : Nat → Scope → Stmt → Bool
  | 0, _, _ => false
  | n + 1, sc, st =>
    match st with
    | .Return (some e) _ => ckE N fns ED sc yes e
    | .Return none _ => true
    | .Pass _ => true
    | .Break _ => true
    | .Continue _ => true
    | .Expr (.Constant (.str _) _ _) _ => true
    | .Expr (.Call (.Attribute (.Name x _) m ap) [a] [] p) _ => (decide (m = "append") || decide (m = "extend")) && ((locB sc.names x && okX x) && ((!isStar a && ckE N fns ED sc yes a) && (ap.endLine == p.line)))
    | .Expr (.Call (.Name f p) as [] q) _ => ckE N fns ED sc yes (.Call (.Name f p) as [] q)
    | .Assign [.Name x _] e _ => storeB sc.names yes x && ckE N fns ED sc yes e
    | .Assign [.Tuple es k p] e _ => (ckTg sc.names yes (.Tuple es k p) && ckE N fns ED sc yes e) && cond (isTup e) (parB sc.names es e || nswB sc.names es) true
    | .If t a b _ => ckE N fns ED sc yes t && (ckSs N fns n sc a && ckSs N fns n sc b)
    | .For t it body [] _ => ckI N fns ED sc yes t it && (ckTg sc.names yes t && ckSs N fns n sc body)
    | .While t body [] _ => ckE N fns ED sc yes t && ckSs N fns n sc body
    | .Raise _ _ _ => true
    | _ => false
def ckSs (N fns : List Str) : Nat → Scope → List Stmt → Bool
  | 0, _, _ => false
  | _ + 1, _, [] => true
  | n + 1, sc, st :: r => ckS N fns n sc st && ckSs N fns n sc r
end
section
variable {c : Cfg} {k : Nat} {fns : List Str} {X : Cx} {sc : Scope}
theorem swaps_eq {e : Expr} {x : Str} {p : Pos} {l m : Nat} {N : List Str} {sc' : Scope} {fn : Str → Bool} (hk : X.env.scope.kind = .function) (hs : X.env.scope = sc) (hc : ckE N fns m sc' fn e = true) : swapsWith e (some (.Name x p)) l X.env = pure (swB sc.names x p e) := by
  cases m with
  | zero => cases hc
  | succ m =>
  cases e <;> first | rfl | (cases hc; done) | skip
  rename_i elt gs scope lp
  unfold swapsWith
  have hb : X.env.blockKind = .function := by unfold Env.blockKind; rw [hk]; rfl
  show (pure (X.env.blockKind == .function && X.env.kindOf x == some .local && p.line == lp.line && !(scope.names.any fun (n, k) => n == x && (k == .local || k == .cell))) : Sem Bool) = _
  rw [hb]
  unfold Env.kindOf
  rw [hs]
  rfl
theorem asgs2 {N : List Str} {x y : Str} {px py : Pos} {ds : List D} {σ σ' : List Sl} (h : asgs N [.Name x px, .Name y py] ds σ = some σ') : ∃ i j d1 d2, ds = [d1, d2] ∧ N.idxOf? x = some i ∧ N.idxOf? y = some j ∧ σ' = (σ.set i (.sh d1)).set j (.sh d2) := by
  have one : ∀ {σ σ' : List Sl} {z : Str} {d : D}, asgN N σ z d = some σ' → ∃ i, N.idxOf? z = some i ∧ σ' = σ.set i (.sh d) := fun {σ σ' z d} h => by
    obtain ⟨i, h1, h2⟩ := bind_some h
    cases h2
    exact ⟨i, h1, rfl⟩
  match ds, h with
  | [], z => cases z
  | [d1], z =>
    obtain ⟨w', _, z⟩ := bind_some (show (asgN N σ x d1).bind (fun σ' => asgs N [.Name y py] [] σ') = _ from z)
    cases z
  | d1 :: d2 :: r, z =>
    obtain ⟨w', z1, z⟩ := bind_some (show (asgN N σ x d1).bind (fun σ' => asgs N [.Name y py] (d2 :: r) σ') = _ from z)
    obtain ⟨w2, z2, z⟩ := bind_some (show (asgN N w' y d2).bind (fun σ' => asgs N [] r σ') = _ from z)
    obtain ⟨i, hi, rfl⟩ := one z1
    obtain ⟨j, hj, rfl⟩ := one z2
    cases r with
    | nil => cases z; exact ⟨i, j, d1, d2, rfl, hi, hj, rfl⟩
    | cons _ _ => cases z
theorem swap2 {x y : Str} {px py p p2 : Pos} {kk k2 : Nat} {a b : Expr} (hk : X.env.scope.kind = .function) (l1 : X.env.scope.names.lookup x = some .local) (l2 : X.env.scope.names.lookup y = some .local) (l3 : (px.line == py.line) = true) (hxy : x ≠ y)
    (s1 : isStar a = false) (s2 : isStar b = false) (f1 : [a, b].all (foldedForSure 8) = false) (f2 : [a, b].all (constantsAlone 8) = false) : swappedStores [.Tuple [.Name x px, .Name y py] kk p] (.Tuple [a, b] k2 p2) X.env = pure (some [x, y]) := by
  have hb : X.env.blockKind = .function := by unfold Env.blockKind; rw [hk]; rfl
  have c1 : X.env.kindOf x = some .local := l1
  have c2 : X.env.kindOf y = some .local := l2
  have hline : (py.line == px.line) = true := by
    have : px.line = py.line := by simpa using l3
    simp [this]
  have he : ([x, y].eraseDups.length != [x, y].length) = false := by
    have : ¬ y = x := fun z => hxy z.symm
    simp [List.eraseDups_cons, this]
  have hst : ([a, b].any fun | .Starred .. => true | _ => false) = false := by
    cases a <;> cases b <;> first | rfl | (cases s1; done) | (cases s2; done)
  unfold swappedStores
  have e0 : ((Option.map (fun x : Expr => x.pos.line) [Expr.Name x px, Expr.Name y py].head?).getD 0) = px.line := rfl
  simp only [hb, f1, f2, List.filterMap_cons, List.filterMap_nil, c1, c2, e0, hline, beq_self_eq_true, Bool.and_self, if_true, he]
  refine (if_neg fun z => Bool.noConfusion (show false = true from z)).trans ((if_neg fun z => Bool.noConfusion (show false = true from hst.symm.trans z)).trans ?_)
  rfl
theorem filt_lt {α β : Type} {f : α → Option β} : ∀ {l : List α}, (∃ x ∈ l, f x = none) → (l.filterMap f).length < l.length
  | [], ⟨x, h, _⟩ => by cases h
  | y :: r, ⟨x, h, e⟩ => by
    have hle : (r.filterMap f).length ≤ r.length := List.length_filterMap_le f r
    rw [List.filterMap_cons]
    cases hy : f y with
    | none => exact Nat.lt_succ_of_le hle
    | some z =>
      rcases List.mem_cons.mp h with rfl | h
      · rw [e] at hy; cases hy
      · exact Nat.succ_lt_succ (filt_lt ⟨x, h, e⟩)
theorem swap0 {es : List Expr} {e : Expr} {p : Pos} {kk : Nat} (he : isTup e = true) (h : nswB X.env.scope.names es = true) : swappedStores [.Tuple es kk p] e X.env = pure none := by
  cases e with
  | Tuple vs k2 p2 =>
    unfold swappedStores
    obtain ⟨t, ht, h⟩ := List.any_eq_true.mp h
    have key : ∀ line : Nat, ((es.filterMap fun x => match x with
      | .Name id pos => if (X.env.kindOf id == some .local && pos.line == line) = true then some id else none
      | _ => none).length != es.length) = true := fun line => by
      have := filt_lt (l := es) (f := fun x => match x with
        | .Name id pos => if (X.env.kindOf id == some .local && pos.line == line) = true then some id else none
        | _ => none) ⟨t, ht, by
          cases t with
          | Name x q =>
            have h : (!(decide (X.env.scope.names.lookup x = some .local))) = true := h
            have h2 : X.env.kindOf x ≠ some .local := (by simpa using h : ¬ X.env.scope.names.lookup x = some .local)
            have h3 : (X.env.kindOf x == some .local) = false := by simpa using h2
            simp only [h3, Bool.false_and]
            rfl
          | _ => rfl⟩
      simpa using Nat.ne_of_lt this
    show (if _ then _ else if _ then _ else if _ then _ else _) = _
    split
    · rfl
    · split
      · rfl
      · refine if_pos ?_
        rw [Bool.or_eq_true]
        exact .inl (key _)
  | _ => cases he
/-- name = [..] where the old value goes first -/
theorem set_lc {n m i : Nat} {x : Str} {p pos lp : Pos} {elt : Expr} {gs : List Comprehension} {scope : Scope} {fn : Str → Bool} (g : Good c k fns X sc fn) (h : ckE c.N fns m sc fn (.ListComp elt gs scope lp) = true) (hi : X.N[i]? = some x) (hl : X.env.scope.names.lookup x = some .local)
    (hsw : swapsWith (.ListComp elt gs scope lp) (some (.Name x p)) pos.line X.env = pure true) : PS X (.Assign [.Name x p] (.ListComp elt gs scope lp) pos) (tAsg (tF X.K X.w fun σ => ev c n false σ (.ListComp elt gs scope lp)) (gName i)) := by
  cases n with
  | zero => exact ⟨fun _ _ _ _ _ _ ⟨O, Ow, es, d, hO, F, e, q⟩ => by cases e⟩
  | succ n =>
  cases m with
  | zero => cases h
  | succ m =>
  have S : Snd c k fns n := snd_all n
  have setno : ∀ {sc fn t e}, ckI c.N fns m sc fn t e = true → isSet e = false := fun h => by
    unfold ckI at h
    rw [Bool.and_eq_true] at h
    simpa using h.1
  rcases gs_of h with ⟨t, it, ifs, rfl⟩ | ⟨t, it, t', it', ifs', rfl⟩
  · have h : ((ckI c.N fns m sc fn t it && blkB c.N sc.names scope) && ((ckTg (relS scope sc).names (fun x => scope.names.lookup x == some .cell) t && subB (tgIx c.N t) ((ownOf c.N scope.names).map (·.2))) &&
          ((match (generalizing := false) ifs with
            | [] => true
            | [c'] => ckE c.N fns m (relS scope sc) (fun x => scope.names.lookup x == some .cell) c'
            | _ => false) && ckE c.N fns m (relS scope sc) (fun x => scope.names.lookup x == some .cell) elt))) = true := h
    rw [Bool.and_eq_true, Bool.and_eq_true, Bool.and_eq_true, Bool.and_eq_true, Bool.and_eq_true] at h
    obtain ⟨⟨hit, hb⟩, ⟨ht, hsub⟩, hifs, helt⟩ := h
    exact (ps_setLc (own := ownOf c.N scope.names) (wi := tI X.K X.w true fun σ => iter c.N (ev c n true σ) it) (g := tG X.K X.w ((ownOf c.N scope.names).map fun q : Str × Nat => q.2) fun es d => asg c.N es t d) (tt := tT X.K X.w fun σ' => tests (tst c n σ') ifs) (te := tE X.K X.w false fun σ' => ev c n false σ' elt)
      g.calm g.nd hi hl hsw (si_iter S g hit) (blk_of g hb) (fun s H C cl fp => (tg_of (good_blk g scope s H C cl fp) ht).mono (sub_of hsub)) (fun s H C cl fp => pts_of S (good_blk g scope s H C cl fp) hifs) (fun s H C cl fp => (S.e m _ _ _ (good_blk g scope s H C cl fp) elt helt).1 false) (fold_set (setno hit) _)).imp
      fun D σ H ⟨O, Ow, es, d, hO, F, e, q⟩ => comp1_read (X := X) (own := ownOf c.N scope.names) (fi := fun σ => iter c.N (ev c n true σ) it) (g := fun es d => asg c.N es t d) (t := fun σ' => tests (tst c n σ') ifs) (f := fun σ' => ev c n false σ' elt) (Q := fun x H1 => gName i x σ H1 D.nx) ⟨O, Ow, es, d, hO, F, (ev_lc1 c n false es elt t it ifs scope lp).symm.trans e, q⟩
  · have h : ((ckI c.N fns m sc fn t it && blkB c.N sc.names scope) && ((ckTg (relS scope sc).names (fun x => scope.names.lookup x == some .cell) t && subB (tgIx c.N t) ((ownOf c.N scope.names).map (·.2))) &&
          ((ckI c.N fns m (relS scope sc) (fun x => scope.names.lookup x == some .cell) t' it' && (ckTg (relS scope sc).names (fun x => scope.names.lookup x == some .cell) t' && subB (tgIx c.N t') ((ownOf c.N scope.names).map (·.2)))) && ((match (generalizing := false) ifs' with
            | [] => true
            | [c'] => ckE c.N fns m (relS scope sc) (fun x => scope.names.lookup x == some .cell) c'
            | _ => false) && ckE c.N fns m (relS scope sc) (fun x => scope.names.lookup x == some .cell) elt)))) = true := h
    rw [Bool.and_eq_true, Bool.and_eq_true, Bool.and_eq_true, Bool.and_eq_true, Bool.and_eq_true, Bool.and_eq_true, Bool.and_eq_true, Bool.and_eq_true] at h
    obtain ⟨⟨hit, hb⟩, ⟨ht, hsub⟩, ⟨hi', ht', hsub'⟩, hifs, helt⟩ := h
    exact (ps_setLc2 (own := ownOf c.N scope.names) (vs1 := tgIx c.N t') (wi := tI X.K X.w true fun σ => iter c.N (ev c n true σ) it) (g := tG X.K X.w ((ownOf c.N scope.names).map fun q : Str × Nat => q.2) fun es d => asg c.N es t d) (wi1 := tI X.K X.w false fun σ' => iter c.N (ev c n false σ') it') (g1 := tG X.K X.w (tgIx c.N t') fun es d => asg c.N es t' d) (tt1 := tT X.K X.w fun σ' => tests (tst c n σ') ifs') (te := tE X.K X.w false fun σ' => ev c n false σ' elt)
      g.calm g.nd hi hl hsw (si_iter S g hit) (blk_of g hb) (sub_of hsub') (fun s H C cl fp => (tg_of (good_blk g scope s H C cl fp) ht).mono (sub_of hsub)) (fun _ _ _ _ _ => pts_nil) (fun s H C cl fp => si_iter S (good_blk g scope s H C cl fp) hi') (fun s H C cl fp => tg_of (good_blk g scope s H C cl fp) ht') (fun s H C cl fp => pts_of S (good_blk g scope s H C cl fp) hifs) (fun s H C cl fp => (S.e m _ _ _ (good_blk g scope s H C cl fp) elt helt).1 false) (fold_set (setno hit) _) (fold_set (setno hi'))).imp
      fun D σ H ⟨O, Ow, es, d, hO, F, e, q⟩ => comp2_read (X := X) (own := ownOf c.N scope.names) (fi := fun σ => iter c.N (ev c n true σ) it) (g := fun es d => asg c.N es t d) (fi1 := fun σ' => iter c.N (ev c n false σ') it') (vs1 := tgIx c.N t') (g1 := fun es d => asg c.N es t' d) (t1 := fun σ' => tests (tst c n σ') ifs') (f := fun σ' => ev c n false σ' elt) (Q := fun x H1 => gName i x σ H1 D.nx) ⟨O, Ow, es, d, hO, F, (ev_lc2 c n false es elt t it t' it' ifs' scope lp).symm.trans e, q⟩
theorem ss_all (g : Good c k fns X sc yes) (hk : X.env.scope.kind = .function) (hp : PassesOwn (model X.prog X.w) X.A X.env X.xe) {O0 : Addr → Prop} {H0 : Hp} : ∀ n, (∀ m st, ckS c.N fns m sc st = true → SSt X O0 H0 st fun σ => ex c n σ st) ∧ ∀ m sts, ckSs c.N fns m sc sts = true → SSs X O0 H0 sts fun σ => exs c n σ sts
  | 0 => ⟨fun m st h => ⟨fun _ _ _ _ _ _ ⟨O, es, fl, R, e0, q⟩ => by cases e0⟩, fun m st h => ⟨fun _ _ _ _ _ _ ⟨O, es, fl, R, e0, q⟩ => by cases e0⟩⟩
  | n + 1 => by
    obtain ⟨i1, i2⟩ := ss_all g hk hp (O0 := O0) (H0 := H0) n
    have S : Snd c k fns ED := snd_all ED
    have E : ∀ {e}, ckE c.N fns ED sc yes e = true → (∀ b, SE X b e fun σ => ev c ED b σ e) ∧ (ST X e fun σ => tst c ED σ e) ∧ (isFresh e = true → SF X e fun σ => ev c ED false σ e) := fun {e} h => S.e ED X sc yes g e h
    have none : ∀ {st : Stmt}, SSt X O0 H0 st fun _ => none := ⟨fun _ _ _ _ _ _ ⟨O, es, fl, R, e0, q⟩ => by cases e0⟩
    refine ⟨fun m st h => ?_, fun m sts h => ?_⟩
    · cases m with
      | zero => cases h
      | succ m =>
      unfold ckS at h
      split at h
      · exact ss_ret ((E h).1 false)
      · exact ss_retN
      · exact ss_next ps_pass
      · exact ss_break
      · exact ss_cont
      · exact ss_next ps_doc
      · rename_i x xp m' ap a p pp
        rw [Bool.and_eq_true, Bool.and_eq_true, Bool.and_eq_true, Bool.and_eq_true, Bool.and_eq_true, Bool.or_eq_true] at h
        obtain ⟨hm, ⟨hx, ho⟩, ⟨hs, ha⟩, hl⟩ := h
        obtain ⟨o1, o2⟩ := okX_of ho
        cases hi : c.N.idxOf? x with
        | none =>
          refine none.imp fun D σ H ⟨O, es, fl, R, e0, q⟩ => ?_
          unfold ex at e0
          simp only [hi, Option.bind_none] at e0
          exfalso
          revert e0
          cases decide (m' = "append") <;> cases (decide (m' = "extend") && isFresh a) <;> exact fun z => by cases z
        | some i =>
          by_cases hm0 : m' = "append"
          case neg =>
            have hm1 : m' = "extend" := hm.elim (fun z => absurd (of_decide_eq_true z) hm0) of_decide_eq_true
            cases hf : isFresh a with
            | false =>
              refine none.imp fun D σ H ⟨O, es, fl, R, e0, q⟩ => ?_
              unfold ex at e0
              simp only [decide_eq_false hm0, hf, Bool.and_false, cond_false] at e0
              cases e0
            | true =>
              refine (ss_ext (O0 := O0) (H0 := H0) (N := c.N) (xs := esc c.N ED false a) (pe_var (pos := xp) (by rw [g.nN]; exact ix_get hi) (vis_of g hx) o1 o2) hm1 (by simpa using hs) ((E ha).2.2 hf) (by subst hm1; rfl) hl).imp fun D σ H ⟨O, es, fl, R, e0, q⟩ => ?_
              refine ⟨O, es, fl, R, ?_, q⟩
              unfold ex at e0
              simp only [decide_eq_false hm0, hf, hm1, decide_true, Bool.and_true, cond_true, cond_false, hi] at e0
              exact e0
          have hm := hm0
          refine (ss_app (O0 := O0) (H0 := H0) (N := c.N) (xs := esc c.N ED false a) (pe_var (pos := xp) (by rw [g.nN]; exact ix_get hi) (vis_of g hx) o1 o2) hm (by simpa using hs) ((E ha).1 false) (by subst hm; rfl) hl).imp fun D σ H ⟨O, es, fl, R, e0, q⟩ => ?_
          refine ⟨O, es, fl, R, ?_, q⟩
          unfold ex at e0
          simp only [hm, decide_true, cond_true, hi] at e0
          exact e0
      · rename_i f p as q pos
        exact ss_drop (N := c.N) (xs := esc c.N ED false (.Call (.Name f p) as [] q)) ((E h).1 false) rfl
      · rename_i x p e pos
        rw [Bool.and_eq_true] at h
        obtain ⟨hx, he⟩ := h
        have so := store_of g hx
        cases hi : c.N.idxOf? x with
        | none =>
          refine none.imp fun D σ H ⟨O, es, fl, R, e0, q⟩ => ?_
          unfold ex at e0
          simp only [hi] at e0
          cases e0
        | some i =>
          have hN : X.N[i]? = some x := by rw [g.nN]; exact ix_get hi
          have fin : ∀ b, isFresh e = b → (SSt X O0 H0 (.Assign [.Name x p] e pos) fun σ => (ev c ED false (shareN c.N (esc c.N ED false e) σ) e).bind fun d => some (.next (setOw (shareN c.N (esc c.N ED false e) σ) i b d))) → SSt X O0 H0 (.Assign [.Name x p] e pos) fun σ => ex c (n + 1) σ (.Assign [.Name x p] e pos) := fun b hb z => by
            refine z.imp fun D σ H ⟨O, es, fl, R, e0, q⟩ => ⟨O, es, fl, R, ?_, q⟩
            unfold ex at e0
            simp only [hi, hb] at e0
            exact e0
          cases hf : isFresh e with
          | false =>
            refine fin false hf (ss_set (N := c.N) (xs := esc c.N ED false e) (ps_set g.nd hN so.1 ((E he).1 false) ?_ so.2))
            rw [swaps_eq hk g.sc he]
            cases e <;> first | rfl | cases hf
          | true =>
            cases hw : swB sc.names x p e with
            | false => exact fin true hf (ss_setF (N := c.N) (xs := esc c.N ED false e) (ps_set g.nd hN so.1 ((E he).2.2 hf) (by rw [swaps_eq hk g.sc he, hw]) so.2))
            | true =>
              cases e with
              | ListComp elt gs scope lp =>
                have hl : X.env.scope.names.lookup x = some .local := by
                  rw [g.sc]
                  unfold swB at hw
                  rw [Bool.and_eq_true, Bool.and_eq_true] at hw
                  simpa using hw.1.1
                exact fin true hf (ss_setF (N := c.N) (xs := esc c.N ED false _) (set_lc g he hN hl (by rw [swaps_eq hk g.sc he, hw])))
              | _ => cases hw
      · rename_i es kk p e pos
        rw [Bool.and_eq_true, Bool.and_eq_true] at h
        obtain ⟨⟨ht, he⟩, hn⟩ := h
        cases hq : isTup e with
        | false =>
          refine (ss_asgT (N := c.N) (xs := esc c.N ED false e) rfl (ps_asg ((E he).1 false) (tg_of g ht) ?_ ?_ ?_)).imp fun D σ H z => z
          · cases e <;> rfl
          · cases e <;> first | rfl | cases hq
          · rfl
        | true =>
          rw [hq, cond_true] at hn
          cases hnsw : nswB sc.names es with
          | true =>
            refine (ss_asgT (N := c.N) (xs := esc c.N ED false e) rfl (ps_asg ((E he).1 false) (tg_of g ht) ?_ ?_ ?_)).imp fun D σ H z => z
            · cases e <;> rfl
            · exact swap0 hq (by rw [g.sc]; exact hnsw)
            · rfl
          | false =>
          rw [hnsw, Bool.or_false] at hn
          unfold parB at hn
          split at hn
          · rename_i x px y py a b k2 p2
            simp only [Bool.and_eq_true, decide_eq_true_eq, Bool.not_eq_true'] at hn
            obtain ⟨⟨l1, l2, l3, l4⟩, ⟨s1, s2⟩, f1, f2⟩ := hn
            have hxy : x ≠ y := by simpa using l4
            have he' : ckE c.N fns ED sc yes (.Tuple [a, b] k2 p2) = true := he
            have hab : ∀ z ∈ [a, b], ckE c.N fns 59 sc yes (unStar z) = true := List.all_eq_true.mp (show ([a, b].all fun e => ckE c.N fns 59 sc yes (unStar e)) = true from he)
            have SA2 : SA X false [a, b] fun σ => args (fun b e => ev c 59 (b || false) σ e) [a, b] := sa_args (snd_all 59) g false [a, b] hab
            have hw : swappedStores [.Tuple [.Name x px, .Name y py] kk p] (.Tuple [a, b] k2 p2) X.env = pure (some [x, y]) := swap2 hk (by rw [g.sc]; exact l1) (by rw [g.sc]; exact l2) l3 hxy s1 s2 f1 f2
            have two : ∀ {σ σ'} {d : D}, asg c.N σ (.Tuple [.Name x px, .Name y py] kk p) d = some σ' → ∃ i j d1 d2, (d = .tuple [d1, d2] ∨ d = .list [d1, d2]) ∧ c.N.idxOf? x = some i ∧ c.N.idxOf? y = some j ∧ σ' = (σ.set i (.sh d1)).set j (.sh d2) := fun {σ σ' d} z => by
              cases d with
              | tuple ds => obtain ⟨i, j, d1, d2, rfl, r⟩ := asgs2 (show asgs c.N _ ds σ = some σ' from z); exact ⟨i, j, d1, d2, .inl rfl, r⟩
              | list ds => obtain ⟨i, j, d1, d2, rfl, r⟩ := asgs2 (show asgs c.N _ ds σ = some σ' from z); exact ⟨i, j, d1, d2, .inr rfl, r⟩
              | _ => cases z
            cases hi : c.N.idxOf? x with
            | none =>
              refine none.imp fun D σ H ⟨O, es, fl, R, e0, q⟩ => ?_
              unfold ex at e0
              obtain ⟨d, e1, e2⟩ := bind_some e0
              obtain ⟨fl', e3, e4⟩ := Option.map_eq_some_iff.mp e2
              obtain ⟨i, j, d1, d2, _, z, _⟩ := two e3
              rw [hi] at z; cases z
            | some i =>
            cases hj : c.N.idxOf? y with
            | none =>
              refine none.imp fun D σ H ⟨O, es, fl, R, e0, q⟩ => ?_
              unfold ex at e0
              obtain ⟨d, e1, e2⟩ := bind_some e0
              obtain ⟨fl', e3, e4⟩ := Option.map_eq_some_iff.mp e2
              obtain ⟨i, j, d1, d2, _, _, z, _⟩ := two e3
              rw [hj] at z; cases z
            | some j =>
              have hNi : X.N[i]? = some x := by rw [g.nN]; exact ix_get hi
              have hNj : X.N[j]? = some y := by rw [g.nN]; exact ix_get hj
              have hij : i ≠ j := fun z => by rw [z, hNj] at hNi; exact hxy (Option.some.inj hNi).symm
              refine (ss_par (O0 := O0) (H0 := H0) (N := c.N) (xs := esc c.N ED false (.Tuple [a, b] k2 p2)) hij (ps_par g.calm g.nd hNi hNj hij (by rw [g.sc]; exact l1) (by rw [g.sc]; exact l2) SA2 hw rfl)).imp fun D σ H ⟨O, es, fl, R, e0, q⟩ => ?_
              refine ⟨O, es, fl, R, ?_, q⟩
              unfold ex at e0
              obtain ⟨d, e1, e2⟩ := bind_some e0
              obtain ⟨fl', e3, e4⟩ := Option.map_eq_some_iff.mp e2
              have e1 : (args (fun z e => ev c 59 z (shareN c.N (esc c.N ED false (.Tuple [a, b] k2 p2)) es) e) [a, b]).bind (fun ds => cond (decide (ds.length ≤ few)) (some (PyData.tuple ds)) Option.none) = some d := e1
              rw [args_disp] at e1
              obtain ⟨ds, e5, e6⟩ := bind_some e1
              obtain ⟨_, e6⟩ := cond_some e6
              cases e6
              obtain ⟨i', j', d1, d2, hd, h1, h2, rfl⟩ := two e3
              rw [hi] at h1
              rw [hj] at h2
              cases h1
              cases h2
              rcases hd with hd | hd
              · cases hd
                show (args (fun z e => ev c 59 (z || false) (shareN c.N (esc c.N ED false (.Tuple [a, b] k2 p2)) es) e) [a, b]).bind _ = some fl
                rw [e5]
                exact congrArg some e4
              · cases hd
          · cases hn
      · rename_i t a b pos
        rw [Bool.and_eq_true, Bool.and_eq_true] at h
        exact ss_if (N := c.N) (xs := esc c.N ED true t) ((E h.1).2.1) (i2 m a h.2.1) (i2 m b h.2.2)
      · rename_i t it body pos
        rw [Bool.and_eq_true, Bool.and_eq_true] at h
        obtain ⟨hi, ht, hb⟩ := h
        have hs : isSet it = false := by
          unfold ckI at hi
          rw [Bool.and_eq_true] at hi
          simpa using hi.1
        exact ss_for (N := c.N) (xs := esc c.N ED false it) rfl hp g.calm (si_iter S g hi) (tg_of g ht) (i2 m body hb) (fold_set hs _)
      · rename_i t body pos
        rw [Bool.and_eq_true] at h
        exact ss_while (N := c.N) (xs := esc c.N ED true t) hp ((E h.1).2.1) (i2 m body h.2)
      · exact none
      · cases h
    · cases m with
      | zero => cases h
      | succ m =>
      unfold ckSs at h
      cases sts with
      | nil => exact sss_nil
      | cons st r =>
        rw [Bool.and_eq_true] at h
        exact sss_cons (i1 m st h.1) (i2 m r h.2)
end
end EV

namespace EV
open PySem PySem.Spec PyProof.Rows L2
def argNames (st : Stmt) : List Str := (defArgs st).args.map (·.arg)
/-- a def's text is one that the evaluator covers -/
def ckDf (fns : List Str) (st : Stmt) (d : Df) : Bool :=
  (decide ((defScope st).kind = .function) && (!(defScope st).isCoroutine && !(defScope st).isGenerator)) &&
  ((decide d.N.Nodup && decide (d.N.take (argNames st).length = argNames st)) && (((argNames st).all fun x => decide ((defScope st).names.lookup x = some .local) || decide ((defScope st).names.lookup x = some .cell)) && ((defScope st).names.all fun y => decide (y.2 ≠ .free)))) &&
  (decide (d.np = (argNames st).length) && ckSs d.N fns ED (defScope st) (defBody st))
structure MgOk (P : Program) (K : PySem.W.Frag) (w : World) (mg : Str → Option Value) (G : GI) : Prop where
  b : ∀ bi, mg (bName bi) = none
  t : ∀ t, mg (tName t) = none
  i : mg "isinstance" = none
  r : mg "range" = none
  z : mg "zip" = none
  glob : ∀ x d, G.g x = some d → ∃ v u, mg x = some u ∧ RelV v u ∧ ∀ O H, Ro K w O H v d
  isi : IsiOk K mg G.i
  att : AttOk K G.a
  mkr : ∀ f, G.m f = true → ExcAt P K mg f
/-- a def stands in the module -/
structure DfIn (K : PySem.W.Frag) (mg : Str → Option Value) (fns : List Str) (st : Stmt) (d : Df) : Prop where
  ex : ∃ f fd, Fun K d.name d.name st f fd ∧ mg d.name = some (.ref f) ∧ Binds K fd (argNames st) []
  body : d.body = defBody st
  ck : ckDf fns st d = true
  pr : d.pr = none
/-- a def that is told by hand -/
def PrIn (P : Program) (w : World) (K : PySem.W.Frag) (mg : Str → Option Value) (base : Heap) (d : Df) : Prop :=
  ∃ g f fd ps, d.pr = some g ∧ mg d.name = some (.ref f) ∧ PySem.W.keepIn K (.ref f) = true ∧ Binds K fd ps [] ∧ ∀ k, 8 ≤ k → FnG P w K mg base (k + 2) f fd ps (spD K w g)
theorem findD_mem {f : Str} : ∀ {P : List Df} {d : Df}, findD f P = some d → d ∈ P ∧ d.name = f
  | [], _, h => by cases h
  | e :: r, d, h => by
    unfold findD at h
    by_cases q : e.name = f
    · rw [decide_eq_true q] at h; cases h; exact ⟨List.mem_cons_self, q⟩
    · rw [decide_eq_false q] at h
      obtain ⟨h1, h2⟩ := findD_mem h
      exact ⟨List.mem_cons_of_mem _ h1, h2⟩
theorem findD_none {f : Str} : ∀ {P : List Df}, findD f P = none → ∀ d ∈ P, d.name ≠ f
  | [], _, d, h => by cases h
  | e :: r, h, d, hd => by
    unfold findD at h
    by_cases q : e.name = f
    · rw [decide_eq_true q] at h; cases h
    · rw [decide_eq_false q] at h
      rcases List.mem_cons.mp hd with rfl | hd
      · exact q
      · exact findD_none h d hd
section
variable {P : Program} {w : World} {K : PySem.W.Frag} {mg : Str → Option Value} {base : Heap} {G : GI} {fns : List Str} {T : List Df}
def CallB (P : Program) (w : World) (K : PySem.W.Frag) (mg : Str → Option Value) (base : Heap) (k : Nat) (f : Str) (g : List D → Option D) : Prop :=
  ∃ fa fd ps, FnG P w K mg base k fa fd ps (spD K w g) ∧ mg f = some (.ref fa) ∧ PySem.W.keepIn K (.ref fa) = true ∧ Binds K fd ps []
theorem rs_start {O : Addr → Prop} {N : List Str} {H : Hp} {vs : List V} {ds : List D} {np : Nat} (hO : OkO O H) (r : RoAll K w O H vs ds) (hl : ds.length = np) (hn : np ≤ N.length) :
    Rs K w O H O (ds.map Sl.sh ++ List.replicate (N.length - np) .un) (L2.start N vs) H := by
  have hv : vs.length = ds.length := r.length
  refine ⟨hO, fun _ z => z, fun _ z => .inl z, Same.refl H, fun i s e => ?_, fun i j l l' a e => ?_, by simp [L2.start, hv, hl]⟩
  · by_cases hi : i < ds.length
    · rw [List.getElem?_append_left (by simpa using hi), List.getElem?_map] at e
      obtain ⟨d, ed, rfl⟩ := Option.map_eq_some_iff.mp e
      obtain ⟨v, ev, rv⟩ := r.get ed
      refine ⟨v, ?_, rv⟩
      unfold L2.start
      rw [List.getElem?_append_left (by simpa [hv] using hi), List.getElem?_map, ev]; rfl
    · rw [List.getElem?_append_right (by simpa using hi)] at e
      have := List.mem_of_getElem? e
      rw [List.mem_replicate] at this
      rw [this.2]
      trivial
  · exfalso
    have := List.mem_of_getElem? e
    rw [List.mem_append] at this
    rcases this with h | h
    · obtain ⟨d, _, h⟩ := List.mem_map.mp h; cases h
    · rw [List.mem_replicate] at h; cases h.2
/-- one def, from its callees -/
theorem fn_one (M : MgOk P K w mg G) {k : Nat} (hc : ∀ f ∈ fns, G.m f = true ∨ CallB P w K mg base (k + 1) f (callN T G k f)) {d : Df} {st : Stmt} (hq : findD d.name T = some d) (hpr : d.pr = none) (hbody : d.body = defBody st) (ck : ckDf fns st d = true) {f : Addr} {fd : FuncData} (F : Fun K d.name d.name st f fd) :
    FnG P w K mg base (k + 2) f fd (argNames st) (spD K w (callN T G (k + 1) d.name)) := by
    unfold ckDf at ck
    simp only [Bool.and_eq_true, decide_eq_true_eq, List.all_eq_true, Bool.or_eq_true, Bool.not_eq_true'] at ck
    obtain ⟨⟨⟨c1, c2, c3⟩, ⟨c4, c5⟩, c6, c7⟩, c8, c9⟩ := ck
    have S : FnScope d.N (argNames st) (defScope st) := ⟨c1, c2, c3, c4, c5, c6, c7⟩
    have hle : (argNames st).length ≤ d.N.length := by have := congrArg List.length c5; rw [List.length_take] at this; omega
    have len : ∀ vs H Q E, spD K w (callN T G (k + 1) d.name) vs H Q E → vs.length = (argNames st).length := fun vs H Q E ⟨O, ds, x, hO, r, e, q⟩ => by
      unfold callN at e
      rw [hq] at e
      simp only [Option.bind_some, hpr] at e
      obtain ⟨c, _⟩ := cond_some (show cond _ _ _ = some x from e)
      have := of_decide_eq_true c
      rw [r.length, this, c8]
    refine Fun.okG F S len fun cdv A outer s H vs Q E hr hgd ⟨O, ds, x, hO, r, e, q⟩ => ?_
    unfold callN at e
    rw [hq] at e
    simp only [Option.bind_some, hpr] at e
    obtain ⟨c, e⟩ := cond_some (show cond _ _ _ = some x from e)
    have hl := of_decide_eq_true c
    obtain ⟨fl, e1, e2⟩ := bind_some e
    have g : Good ⟨d.N, G, callN T G k⟩ (k + 1) fns (cxOf CX0 P w K mg base d.N d.name (defScope st) f cdv A outer s H E).nox (defScope st) yes := by
      refine ⟨rfl, S.nd, rfl, fun _ _ => rfl, rfl, hr, hgd, M.b, M.t, M.i, M.r, M.z, fun x y hy => M.glob x y hy, M.isi, M.att, M.mkr, ⟨k, rfl⟩, fun x hx => (hc x hx).imp id fun q => ⟨q⟩⟩
    have hp : PassesOwn (model (cxOf CX0 P w K mg base d.N d.name (defScope st) f cdv A outer s H E).nox.prog (cxOf CX0 P w K mg base d.N d.name (defScope st) f cdv A outer s H E).nox.w) (cxOf CX0 P w K mg base d.N d.name (defScope st) f cdv A outer s H E).nox.A (cxOf CX0 P w K mg base d.N d.name (defScope st) f cdv A outer s H E).nox.env (cxOf CX0 P w K mg base d.N d.name (defScope st) f cdv A outer s H E).nox.xe := PassesOwn.never
    refine ⟨_, (ss_all g c1 hp (O0 := O) (H0 := H) ED).2 ED (defBody st) c9, O, _, fl, rs_start hO r hl (by rw [c8]; exact hle), by rw [← hbody]; exact e1, ?_⟩
    cases fl with
    | next es => cases e2; exact fun O' σ' H' s' R' => q H' .non R'.k0 .non
    | ret y => cases e2; exact fun v H' s' r' => q H' v s' r'
    | brk es => cases e2
    | cont es => cases e2
theorem calls_ok (M : MgOk P K w mg G) (hT : ∀ d ∈ T, (∃ st, DfIn K mg fns st d) ∨ PrIn P w K mg base d) (hf : ∀ f ∈ fns, G.m f = true ∨ ∃ d ∈ T, d.name = f) : ∀ k, ∀ d ∈ T, CallB P w K mg base (k + 1) d.name (callN T G k d.name)
  | 0, d, hd => by
    rcases hT d hd with ⟨st, ⟨⟨f, fd, F, hm, hb⟩, _, _, _⟩⟩ | ⟨g, f, fd, ps, _, hm, hk, hb, _⟩
    · exact ⟨f, fd, argNames st, ⟨(fun vs H Q E ⟨O, ds, d, hO, r, e, q⟩ => by cases e), (fun A outer s H args us vs Q E _ _ _ _ _ ⟨O, ds, d, hO, r, e, q⟩ => by cases e)⟩, hm, F.kp, hb⟩
    · exact ⟨f, fd, ps, ⟨(fun vs H Q E ⟨O, ds, d, hO, r, e, q⟩ => by cases e), (fun A outer s H args us vs Q E _ _ _ _ _ ⟨O, ds, d, hO, r, e, q⟩ => by cases e)⟩, hm, hk, hb⟩
  | k + 1, d0, hd0 => by
    have ih := calls_ok M hT hf k
    cases hq : findD d0.name T with
    | none => exact absurd rfl (findD_none hq d0 hd0)
    | some d =>
    obtain ⟨hd, hn⟩ := findD_mem hq
    rw [← hn]
    rw [← hn] at hq
    rcases hT d hd with ⟨st, ⟨⟨f, fd, F, hm, hb⟩, hbody, ck, hpr⟩⟩ | ⟨g, f, fd, ps, hpr, hm, hk, hb, hF⟩
    · have hc : ∀ f ∈ fns, G.m f = true ∨ CallB P w K mg base (k + 1) f (callN T G k f) := fun x hx => (hf x hx).imp id fun ⟨d', hd', e⟩ => by
        subst e
        exact ih d' hd'
      exact ⟨f, fd, argNames st, fn_one M hc hq hpr hbody ck F, hm, F.kp, hb⟩
    · have e0 : callN T G (k + 1) d.name = fun ds => cond (decide (8 ≤ k)) (g ds) none := by
        funext ds
        unfold callN
        rw [hq]
        simp only [Option.bind_some, hpr]
      rw [e0]
      by_cases h8 : 8 ≤ k
      · rw [decide_eq_true h8]
        exact ⟨f, fd, ps, hF k h8, hm, hk, hb⟩
      · rw [decide_eq_false h8]
        exact ⟨f, fd, ps, ⟨(fun vs H Q E ⟨O, ds, d, hO, r, e, q⟩ => by cases e), (fun A outer s H args us vs Q E _ _ _ _ _ ⟨O, ds, d, hO, r, e, q⟩ => by cases e)⟩, hm, hk, hb⟩
end
end EV

namespace EV
open PySem PySem.Spec PyProof.Rows L2
/-! ### what is looked at of the own classes of errors -/
def clsB (K : PySem.W.Frag) (C : Addr) : Bool := match K.lookup C with
  | some ⟨.type T, _, .cls cd, sl⟩ => (match cd.mro, sl.toList with
    | .ref C' :: bm, [_, _, _, _, some (.builtin n), _] => decide (T = "type") && (decide (C' = C) && (decide (n = "ValueError.__new__") && ((!cd.hasDel && cd.hasDict) && HandSPX.refsVE bm)))
    | _, _ => false)
  | _ => false
theorem clsB_ok {K : PySem.W.Frag} {C : Addr} (h : clsB K C = true) : ∃ nm q N bs bm sn sub ab col dd k0 k1 k2 k3 k5, K.lookup C = some (excClassObj nm q C N bs bm true sn sub ab col dd k0 k1 k2 k3 k5 "ValueError.__new__") ∧ HandSPX.refsVE bm = true := by
  unfold clsB at h
  split at h
  · rename_i T dd cd sl ho
    split at h
    · rename_i C' bm k0 k1 k2 k3 n k5 hm hs
      simp only [Bool.and_eq_true, decide_eq_true_eq, Bool.not_eq_true'] at h
      obtain ⟨rfl, rfl, rfl, ⟨h1, h2⟩, h3⟩ := h
      obtain ⟨nm, bs, mro, ns, qn, hd, sn, sub, ab, col, del⟩ := cd
      dsimp only at hm h1 h2
      subst hm h1 h2
      have hsl : sl = #[k0, k1, k2, k3, some (.builtin "ValueError.__new__"), k5] := by
        obtain ⟨l⟩ := sl
        exact congrArg Array.mk hs
      subst hsl
      exact ⟨nm, qn, ns, bs, bm, sn, sub, ab, col, dd, k0, k1, k2, k3, k5, ho, h3⟩
    · cases h
  · cases h
def iAd (K : PySem.W.Frag) (D : Addr) : Addr := match PySem.W.findIn K (.ref D) "__init__" with
  | some (some (.ref a)) => a
  | _ => 0
def excFB (K : PySem.W.Frag) (C D : Addr) : Bool := clsB K C && (decide (PySem.W.findIn K (.ref C) "__setattr__" = some (some (.builtin "object.__setattr__"))) && (decide (PySem.W.subIn K (.ref C) (.type "BaseException") = some true) && (decide (PySem.W.typeIn K (.ref C) = some (.type "type")) && (PySem.W.keepIn K (.ref C) &&
  (decide (PySem.W.findIn K (.ref C) "__init__" = some (some (.ref (iAd K D)))) && (decide (PySem.W.typeIn K (.ref (iAd K D)) = some (.type "function")) && (decide (PySem.W.mroIn K C (.ref D) = some true) && (decide (PySem.W.subIn K (.ref C) (.type "ValueError") = some true) &&
  (decide (PySem.W.ks_superIn K C D "__init__" = some (some (.builtin "ValueError.__init__"))) && decide (PySem.W.findIn K (.ref C) "at" = some none))))))))))
theorem excFB_ok {K : PySem.W.Frag} {C D : Addr} (h : excFB K C D = true) : ExcF K C D (iAd K D) := by
  unfold excFB at h
  simp only [Bool.and_eq_true, decide_eq_true_eq] at h
  obtain ⟨h1, h2, h3, h4, h5, h6, h7, h8, h9, h10, h11⟩ := h
  exact ⟨⟨clsB_ok h1, h2, h3, h4, h5⟩, h6, h7, h8, h9, h10, h11⟩
def excRB (K : PySem.W.Frag) (C : Addr) : Bool := decide (PySem.W.findIn K (.ref C) "__getattribute__" = some (some (.builtin "BaseException.__getattribute__"))) && (decide (PySem.W.findIn K (.ref C) "__getattr__" = some none) && (decide (PySem.W.subIn K (.ref C) (.type "BaseException") = some true) && (PySem.W.hasDictIn K C &&
  (decide (PySem.W.findIn K (.ref C) "__class__" = some (some (.builtin "object.__class__"))) && (decide (PySem.W.specialIn K (.builtin "object.__class__") "__get__" = some (some (.builtin "getset_descriptor.__get__"))) && (decide (PySem.W.takesIn K (.builtin "object.__class__") = some true) && (decide (PySem.W.mroIn K C (.type "object") = some true) &&
  ((PySem.W.clsIn K C).isSome && decide (PySem.W.findIn K (.ref C) "at" = some none)))))))))
theorem excRB_ok {K : PySem.W.Frag} {C : Addr} (h : excRB K C = true) : ExcR K C := by
  unfold excRB at h
  simp only [Bool.and_eq_true, decide_eq_true_eq] at h
  obtain ⟨h1, h2, h3, h4, h5, h6, h7, h8, h9, h10⟩ := h
  exact ⟨⟨h1, h2, h3, h4, h5, h6, h7, h8⟩, h9, h10⟩
/-- the class's __init__ -/
abbrev IniV : Type := Option (Str × Arguments × FuncBody × Scope × Addr × List Str × Addr)
def iniW (K : PySem.W.Frag) (D : Addr) : IniV := match K.lookup (iAd K D) with
  | some ⟨_, _, .func fd, _⟩ => some (fd.qualname, fd.params, fd.body, fd.scope, fd.globals, fd.closure.map (·.1), fd.builtins)
  | _ => none
def iniB (K : PySem.W.Frag) (D : Addr) (file : Str) : Bool := (match K.lookup (iAd K D) with
  | some ⟨_, _, .func fd, _⟩ => (match fd.defaults, fd.code, fd.closure with
    | .none, .ref cda, [(_, cc)] => PySem.W.codeIn K (.ref cda) fd.qualname && ((match K.lookup cda with
      | some ⟨_, _, .fields vs, _⟩ => (match (vs[2]? : Option Value) with
        | some (Value.str f _) => file == f
        | _ => false)
      | _ => false) && (match K.lookup cc with
      | some ⟨_, _, .cell (some (.ref D')), _⟩ => decide (D' = D)
      | _ => false))
    | _, _, _ => false)
  | _ => false) && ((PySem.W.clsIn K D).isSome && decide (PySem.W.nsIn K cStatics "thirdparty.any" = some none))
/-- the text of the class's __init__ -/
structure IniT (P : Program) (params : Arguments) (body : List Stmt) (scope : Scope) : Prop where
  kind : scope.kind = .function
  co : scope.isCoroutine = false
  gen : scope.isGenerator = false
  nocell : ∀ x ∈ scope.names, x.2 ≠ .cell
  sup : scope.names.lookup ("super" : Str) = some .globalImplicit
  cls_ : scope.names.lookup ("__class__" : Str) = some .free
  slf : scope.names.lookup ("self" : Str) = some .local
  at_ : scope.names.lookup ("at" : Str) = some .local
  head : ∃ ar, (params.posonlyargs ++ params.args).head? = some ar ∧ ar.arg = ("self" : Str)
  top : (P.main.scope.names.lookup ("super" : Str)).isSome = false
theorem iniF_of {P : Program} {K : PySem.W.Frag} {D : Addr} {qual : Str} {params : Arguments} {body : List Stmt} {scope : Scope} (T : IniT P params body scope) (hw : iniW K D = some (qual, params, FuncBody.stmts body, scope, mainGlobals, [("__class__" : Str)], builtinsNs)) (hb : iniB K D P.main.file = true) :
    ∃ cc cda, IniF P K D (iAd K D) cc cda qual params body scope := by
  unfold iniB at hb
  unfold iniW at hw
  split at hw
  · rename_i oc od fd osl lk
    rw [lk] at hb
    simp only [Bool.and_eq_true, decide_eq_true_eq] at hb
    obtain ⟨hb, h1, h2⟩ := hb
    obtain ⟨nm, q, pa, bo, sc, gl, cl, dV, kV, doc, pm, an, cdv, ct, bl⟩ := fd
    simp only [Option.some.injEq, Prod.mk.injEq] at hw
    obtain ⟨rfl, rfl, rfl, rfl, rfl, hcl, rfl⟩ := hw
    cases dV <;> try (cases hb; done)
    cases cdv with
    | ref cda =>
      match cl, hcl, hb, lk with
      | [(nc, cc)], hcl, hb, lk =>
        simp only [List.map_cons, List.map_nil, List.cons.injEq, and_true] at hcl
        subst hcl
        simp only [Bool.and_eq_true] at hb
        obtain ⟨b1, b2, b3⟩ := hb
        refine ⟨cc, cda, ⟨⟨nm, oc, od, kV, doc, pm, an, ct, osl, lk⟩, b1, ?_, ?_, Option.isSome_iff_exists.mp h1, h2, T.kind, T.co, T.gen, T.nocell, T.sup, T.cls_, T.slf, T.at_, T.head, T.top⟩⟩
        · split at b3
          · rename_i c1 c2 D' c3 e
            have := of_decide_eq_true b3
            subst this
            exact ⟨_, _, _, e⟩
          · cases b3
        · split at b2
          · rename_i c1 c2 vs c3 e
            split at b2
            · rename_i f tf e2
              exact ⟨_, _, vs, _, f, tf, e, e2, b2⟩
            · cases b2
          · cases b2
    | _ => cases hb
  · cases hw
end EV

namespace EV
open PySem PySem.Spec PyProof.Rows L2
/-! ### the module's constants -/
mutual
def kD (K : PySem.W.Frag) : Nat → Value → D → Bool
  | _, .none, .none => true
  | _, .bool b, .bool c => b == c
  | _, .int i _, .int j => decide (i = j)
  | _, .str x _, .str y => decide (x = y) && PyData.canLay0 (.str y)
  | n + 1, .ref a, .list ds => (match K.lookup a with
    | some ⟨.type c, none, .seq its _, _⟩ => decide (c = "list") && (decide (its.size ≤ sizeLine) && kDs K n its.toList ds)
    | _ => false)
  | n + 1, .ref a, .tuple ds => (match K.lookup a with
    | some ⟨.type c, _, .seq its _, _⟩ => decide (c = "tuple") && (decide (its.size ≤ sizeLine) && kDs K n its.toList ds)
    | _ => false)
  | _, _, _ => false
def kDs (K : PySem.W.Frag) : Nat → List Value → List D → Bool
  | _, [], [] => true
  | n, u :: us, d :: ds => kD K n u d && kDs K n us ds
  | _, _, _ => false
end
section
variable {K : PySem.W.Frag} {w : World}
mutual
theorem kD_ok : ∀ (n : Nat) (u : Value) (d : D), kD K n u d = true → ∃ v, RelV v u ∧ ∀ O H, Ro K w O H v d
  | n, u, d, h => by
    unfold kD at h
    split at h
    · exact ⟨.non, rfl, fun _ _ => .non⟩
    · rename_i b c
      have e : b = c := by simpa using h
      subst e
      exact ⟨.bl b, rfl, fun _ _ => .bl b⟩
    · rename_i i t j
      have e : i = j := of_decide_eq_true h
      subst e
      exact ⟨.int i, ⟨t, rfl⟩, fun _ _ => .int i⟩
    · rename_i x t y
      rw [Bool.and_eq_true] at h
      have e : x = y := of_decide_eq_true h.1
      subst e
      exact ⟨.str x, ⟨t, rfl⟩, fun _ _ => .str x h.2⟩
    · rename_i n a ds
      split at h
      · rename_i c its m sl q
        rw [Bool.and_eq_true, Bool.and_eq_true] at h
        obtain ⟨vs, r, hv⟩ := kDs_ok n _ _ h.2.2
        exact ⟨.ref a, rfl, fun O H => .kls ⟨_, its, m, q, congrArg Value.type (of_decide_eq_true h.1), rfl, rfl, of_decide_eq_true h.2.1, r⟩ (hv O H)⟩
      · cases h
    · rename_i n a ds
      split at h
      · rename_i c od its m sl q
        rw [Bool.and_eq_true, Bool.and_eq_true] at h
        obtain ⟨vs, r, hv⟩ := kDs_ok n _ _ h.2.2
        exact ⟨.ref a, rfl, fun O H => .tup (.inr ⟨_, its, m, q, congrArg Value.type (of_decide_eq_true h.1), rfl, of_decide_eq_true h.2.1, r⟩) (hv O H)⟩
      · cases h
    · cases h
theorem kDs_ok : ∀ (n : Nat) (us : List Value) (ds : List D), kDs K n us ds = true → ∃ vs, Vals vs us ∧ ∀ O H, RoAll K w O H vs ds
  | n, us, ds, h => by
    unfold kDs at h
    split at h
    · exact ⟨[], .nil, fun _ _ => .nil⟩
    · rename_i u us d ds
      rw [Bool.and_eq_true] at h
      obtain ⟨v, r, hv⟩ := kD_ok n u d h.1
      obtain ⟨vs, rs, hvs⟩ := kDs_ok n us ds h.2
      exact ⟨v :: vs, .cons r rs, fun O H => .cons (hv O H) (hvs O H)⟩
    · cases h
end
/-! a dict with text keys -/
theorem nsIn_out {P : Params} {a : Addr} {ks : List Str} (h : He.dicW K a = some (He.keysIn P ks)) {z : Str} (hz : z ∉ ks) : PySem.W.nsIn K a z = some none := by
  unfold He.dicW at h
  split at h
  · rename_i c es n sl q
    split at h
    · have h1 := Option.some.inj h
      have hk : ∀ (l : List DictEntry) (ks : List Str), l.map He.keyOf = He.keysIn P ks → z ∉ ks → l.find? (·.key.isStr z) = none ∧ l.any (·.refKey) = false := by
        intro l
        induction l with
        | nil => intro ks _ _; exact ⟨rfl, rfl⟩
        | cons e r ih =>
          intro ks h hz
          cases ks with
          | nil => cases h
          | cons k ks =>
            have h2 : He.keyOf e :: r.map He.keyOf = some (k, PyData.keyHash P k) :: He.keysIn P ks := h
            injection h2 with h3 h4
            obtain ⟨i1, i2⟩ := ih ks h4 fun q => hz (List.mem_cons_of_mem _ q)
            unfold He.keyOf at h3
            split at h3
            · rename_i x t q
              have h5 := (Prod.mk.inj (Option.some.inj h3)).1
              have hne : x ≠ z := fun q => hz (by rw [← q, h5]; exact List.mem_cons_self)
              have hf : e.key.isStr z = false := by
                rw [q]
                unfold Value.isStr
                simp [hne]
              refine ⟨by rw [List.find?_cons, hf]; exact i1, ?_⟩
              rw [List.any_cons, i2, Bool.or_false]
              unfold DictEntry.refKey
              rw [q]
            · cases h3
      obtain ⟨e1, e2⟩ := hk es.toList ks h1 hz
      unfold PySem.W.nsIn
      rw [q]
      show (match es.toList.find? (·.key.isStr z) with
        | some e => some (some e.val)
        | none => if es.toList.any (·.refKey) then none else some none) = _
      rw [e1, e2]
      rfl
    · cases h
  · cases h
/-- a table's values -/
def tabB (K : PySem.W.Frag) (x : Str) (kvs : List (Str × D)) : Bool := He.eqO (PySem.W.nsIn K mainGlobals x) (some (some (.ref (He.ga K x)))) && kvs.all fun q => match PySem.W.nsIn K (He.ga K x) q.1 with
  | some (some u) => kD K 8 u q.2
  | _ => false
def dictD (kvs : List (Str × D)) : D := .dict (kvs.map fun q => (.str q.1, q.2))
theorem tab_vals {a : Addr} : ∀ {kvs : List (Str × D)}, (kvs.all fun q => match PySem.W.nsIn K a q.1 with
  | some (some u) => kD K 8 u q.2
  | _ => false) = true → ∃ ps : List (Str × V), ps.map (·.1) = kvs.map (·.1) ∧ (∀ p ∈ ps, ∃ u, PySem.W.nsIn K a p.1 = some (some u) ∧ RelV p.2 u) ∧ ∀ O H, RoAll K w O H (ps.map (·.2)) (kvs.map (·.2))
  | [], _ => ⟨[], rfl, (fun _ h => by cases h), fun _ _ => .nil⟩
  | q :: r, h => by
    rw [List.all_cons, Bool.and_eq_true] at h
    obtain ⟨ps, h1, h2, h3⟩ := tab_vals h.2
    have h0 := h.1
    split at h0
    · rename_i u e
      obtain ⟨v, rv, hv⟩ := kD_ok (w := w) 8 u q.2 h0
      refine ⟨(q.1, v) :: ps, by simp [h1], fun p hp => ?_, fun O H => .cons (hv O H) (h3 O H)⟩
      rcases List.mem_cons.mp hp with rfl | hp
      · exact ⟨u, e, rv⟩
      · exact h2 p hp
    · cases h0
theorem zip_str : ∀ {ps : List (Str × V)} {kvs : List (Str × D)}, ps.map (·.1) = kvs.map (·.1) → ((ps.map fun p => PyData.str p.1).zip (kvs.map (·.2))) = kvs.map fun q => (.str q.1, q.2)
  | [], [], _ => rfl
  | p :: ps, q :: kvs, h => by
    simp only [List.map_cons, List.cons.injEq] at h
    simp only [List.map_cons, List.zip_cons_cons, h.1, zip_str h.2]
  | [], _ :: _, h => by cases h
  | _ :: _, [], h => by cases h
theorem tab_ok {x : Str} {kvs : List (Str × D)} (h : tabB K x kvs = true) (hd : He.dicW K (He.ga K x) = some (He.keysIn w.params (kvs.map (·.1)))) : PySem.W.nsIn K mainGlobals x = some (some (.ref (He.ga K x))) ∧ ∀ O H, Ro K w O H (.ref (He.ga K x)) (dictD kvs) := by
  unfold tabB at h
  rw [Bool.and_eq_true] at h
  obtain ⟨ps, h1, h2, h3⟩ := tab_vals (w := w) h.2
  obtain ⟨es, n, kd⟩ := He.dicW_ok hd
  refine ⟨He.eqO_ok h.1, fun O H => ?_⟩
  have := Ro.kdc (O := O) (H := H) kd h2 (fun z hz => nsIn_out hd (by rw [← h1]; exact hz)) (h3 O H)
  rw [zip_str h1] at this
  exact this
end
/-! ### what the walk looks at behind the top -/
structure Hd where
  fn : List He.DefD
  free : List Str
  cs : List (Str × D)
  ts : List (Str × List (Str × D))
  xs : List Str := []
  xb : Str := ""
  is : List (Str × List Str) := []
  file : Str := ""
  ini : IniV := none
  fe : List He.Fa := []
/-- the class that a name says -/
def cvOf (K : PySem.W.Frag) (t : Str) : Value := match PySem.W.nsIn K mainGlobals t with
  | some (some u) => u
  | _ => (bootBuiltins t).getD .none
def isB1 (K : PySem.W.Frag) (t : Str) : Bool := match PySem.W.nsIn K mainGlobals t with
  | some (some (.ref _)) => true
  | some none => decide (t ≠ "__name__") && (match bootBuiltins t with
    | some (.type _) => true
    | _ => false)
  | _ => false
def Hd.xsB (h : Hd) (K : PySem.W.Frag) : Bool := (h.xs.all fun x => He.eqO (PySem.W.nsIn K mainGlobals x) (some (some (.ref (He.ga K x)))) && (excFB K (He.ga K x) (He.ga K h.xb) && excRB K (He.ga K x))) && ((h.xs.isEmpty || iniB K (He.ga K h.xb) h.file) &&
  h.is.all fun t => isB1 K t.1 && h.xs.all fun x => decide (PySem.W.kitOne K (.ref (He.ga K x)) (cvOf K t.1) = some (t.2.contains x)))
abbrev HdV : Type := (Bool × He.AlT) × (Bool × IniV)
def Hd.fa (h : Hd) : List He.Fa := h.fn.map (fun d => .glo d.name) ++ (h.free.map .free ++ h.fe)
def Hd.tabs (h : Hd) : List He.Tab := h.ts.map fun t => ((fun K => He.ga K t.1), t.2.map (·.1))
def Hd.extra (h : Hd) (K : PySem.W.Frag) : Bool := (h.cs.all fun q => match PySem.W.nsIn K mainGlobals q.1 with
  | some (some u) => kD K 8 u q.2
  | _ => false) && h.ts.all fun t => tabB K t.1 t.2
def isiF (xs : List Str) (is : List (Str × List Str)) (t : Str) (d : D) : Option D := match d with
  | .dict [(.tuple [.str x], _)] => (is.lookup t).bind fun l => cond (xs.contains x) (some (.bool (l.contains x))) none
  | _ => none
def attF (xs : List Str) (t : Str) (d : D) : Option D := cond (decide (t = "at")) (match d with
  | .dict [(.tuple [.str x], v)] => cond (xs.contains x) (some v) none
  | _ => none) none
def Hd.G (h : Hd) : GI := ⟨fun x => (h.cs ++ h.ts.map fun t => (t.1, dictD t.2)).lookup x, isiF h.xs h.is, attF h.xs, fun f => h.xs.contains f⟩
def Hd.obs (h : Hd) (K : PySem.W.Frag) : HdV := ((h.extra K, He.obsT h.fa h.fn h.tabs K), (h.xsB K, cond h.xs.isEmpty none (iniW K (He.ga K h.xb))))
def Hd.obsG (h : Hd) (n : Nat) (g : Addr → Option Obj) : HdV := h.obs (He.frG g (cStatics :: He.asD g n))
def Hd.val (h : Hd) (w : World) : HdV := ((true, He.valT h.fn h.tabs w), (true, h.ini))
def Hd.hook (h : Hd) (n : Nat) : PySem.W.Hook where
  α := HdV
  obs := fun s => h.obsG n s.heap.get?
  val := fun w => h.val w
  says := fun w hp => ∃ K : PySem.W.Frag, K.In hp ∧ h.obs K = h.val w
  of := fun _ _ e => ⟨_, He.frG_in, e⟩
  keeps := fun _ _ _ ⟨K, hK, c⟩ k => ⟨K, PySem.W.Frag.In.keeps hK k, c⟩
theorem Hd.obsG_eq {h : Hd} {n : Nat} {g : Addr → Option Obj} {s : Shared} (e : ∀ a, g a = s.heap.get? a) : h.obsG n g = (h.hook n).obs s := by
  have e2 : g = s.heap.get? := funext e
  rw [e2]
  rfl
section
variable {h : Hd} {K : PySem.W.Frag} {w : World} {hp : Heap} {mg : Str → Option Value}
theorem Hd.says_glob (c : h.obs K = h.val w) (X : K.In hp) (N : hp.Ns mainGlobals mg) {x : Str} {d : D} (e : h.G.g x = some d) : ∃ v u, mg x = some u ∧ RelV v u ∧ ∀ O H, Ro K w O H v d := by
  have c1 : h.extra K = true := congrArg (fun z : HdV => z.1.1) c
  have c2 : h.tabs.map (fun t => He.dicW K (t.1 K)) = h.tabs.map fun t => some (He.keysIn w.params t.2) := congrArg (fun z : HdV => z.1.2.2) c
  unfold Hd.extra at c1
  rw [Bool.and_eq_true, List.all_eq_true, List.all_eq_true] at c1
  have hm := PySem.mem_of_lookup e
  rcases List.mem_append.mp hm with hm | hm
  · have := c1.1 _ hm
    split at this
    · rename_i u q
      obtain ⟨v, rv, hv⟩ := kD_ok (w := w) 8 u d this
      exact ⟨v, u, PySem.W.mg_of X N q, rv, hv⟩
    · cases this
  · obtain ⟨t, ht, q⟩ := List.mem_map.mp hm
    cases q
    have hd : He.dicW K (He.ga K t.1) = some (He.keysIn w.params (t.2.map (·.1))) := by
      have hz : ∀ z ∈ h.tabs, He.dicW K (z.1 K) = some (He.keysIn w.params z.2) := List.map_inj_left.mp c2
      exact hz (_, _) (List.mem_map.mpr ⟨t, ht, rfl⟩)
    obtain ⟨e1, e2⟩ := tab_ok (w := w) (c1.2 t ht) hd
    exact ⟨.ref (He.ga K t.1), _, PySem.W.mg_of X N e1, rfl, e2⟩
theorem Hd.says_d (c : h.obs K = h.val w) : He.SaysD h.fa h.fn K := congrArg (fun z : HdV => z.1.2.1) c
theorem Hd.says_fact (c : h.obs K = h.val w) {f : He.Fa} (hf : f ∈ h.fa) : f.ok K = true := by
  obtain ⟨i, hi⟩ := List.mem_iff_getElem?.mp hf
  exact (Hd.says_d c).fact i hi
theorem Hd.says_free (c : h.obs K = h.val w) (X : K.In hp) (N : hp.Ns mainGlobals mg) {x : Str} (hx : x ∈ h.free) : mg x = none :=
  He.free_ok X N (Hd.says_fact c (List.mem_append_right _ (List.mem_append_left _ (List.mem_map.mpr ⟨x, hx, rfl⟩))))
theorem Hd.says_glo (c : h.obs K = h.val w) (X : K.In hp) (N : hp.Ns mainGlobals mg) {d : He.DefD} (hd : d ∈ h.fn) : mg d.name = some (.ref (He.ga K d.name)) :=
  He.glo_ok X N (Hd.says_fact c (List.mem_append_left _ (List.mem_map.mpr ⟨d, hd, rfl⟩)))
/-- the builtins' names, one list -/
def names0 : List Str := (bAll.map bName) ++ ([Ty.tuple, .int, .bool, .str, .list].map tName ++ (["isinstance", "range", "zip"] : List Str))
/-- the text of the errors' __init__, as it stands in the program -/
def IniOk (P : Program) (h : Hd) : Prop := h.xs = [] ∨ ∃ (qual : Str) (params : Arguments) (scope : Scope) (p0 p1 p2 p3 p4 p5 p6 p7 p8 p9 : Pos) (pl : Sem Bool), h.ini = some (qual, params, FuncBody.stmts (iBody p0 p1 p2 p3 p4 p5 p6 p7 p8 p9), scope, mainGlobals, [("__class__" : Str)], builtinsNs) ∧
    IniT P params (iBody p0 p1 p2 p3 p4 p5 p6 p7 p8 p9) scope ∧ h.file = P.main.file ∧ ("super" : Str) ∈ h.free ∧
    (∀ L f cd cc, eval (iCall p0 p1 p2 p3 p4) (PySem.W.ksEnv qual scope L f cd cc) = iEv p0 p1 p2 p3 p4 pl (PySem.W.ksEnv qual scope L f cd cc)) ∧ (∀ L f cd cc, interactive (PySem.W.ksEnv qual scope L f cd cc) = false) ∧
    (∀ L f cd cc, swapsWith (iCall p0 p1 p2 p3 p4) none p5.line (PySem.W.ksEnv qual scope L f cd cc) = pure false) ∧ (∀ L f cd cc, swapsWith (.Name "at" p8) (some (.Attribute (.Name "self" p6) "at" p7)) p9.line (PySem.W.ksEnv qual scope L f cd cc) = pure false) ∧
    (∀ (v : Value) (s : Shared) (a : Addr) (nm : Str) (kV doc pm : Value) (an : Option Addr) (cda cc : Addr) (ct : Value), BindsTo s (PySem.W.ksFn nm qual params (iBody p0 p1 p2 p3 p4 p5 p6 p7 p8 p9) scope .none kV doc pm an (.ref cda) ct cc) ⟨[.ref a, v], []⟩ [("self", .ref a), ("at", v)])
theorem Hd.says_xs (c : h.obs K = h.val w) : h.xsB K = true := congrArg (fun z : HdV => z.2.1) c
theorem Hd.says_cls (c : h.obs K = h.val w) {x : Str} (hx : x ∈ h.xs) : PySem.W.nsIn K mainGlobals x = some (some (.ref (He.ga K x))) ∧ ExcF K (He.ga K x) (He.ga K h.xb) (iAd K (He.ga K h.xb)) ∧ ExcR K (He.ga K x) := by
  have c1 := Hd.says_xs c
  unfold Hd.xsB at c1
  rw [Bool.and_eq_true, List.all_eq_true] at c1
  have := c1.1 x hx
  rw [Bool.and_eq_true, Bool.and_eq_true] at this
  exact ⟨He.eqO_ok this.1, excFB_ok this.2.1, excRB_ok this.2.2⟩
theorem Hd.says_one (c : h.obs K = h.val w) {x : Str} (hx : x ∈ h.xs) {C : Addr} (e : PySem.W.nsIn K mainGlobals x = some (some (.ref C))) : C = He.ga K x := by
  have := (Hd.says_cls c hx).1
  rw [e] at this
  cases this
  rfl
theorem Hd.isiOk (c : h.obs K = h.val w) (X : K.In hp) (N : hp.Ns mainGlobals mg) : IsiOk K mg h.G.i := by
  intro t
  cases hl : h.is.lookup t with
  | none =>
    left
    intro d
    show isiF h.xs h.is t d = none
    unfold isiF
    split
    · rw [hl]; rfl
    · rfl
  | some l =>
    right
    have hm := PySem.mem_of_lookup hl
    have c1 := Hd.says_xs c
    unfold Hd.xsB at c1
    rw [Bool.and_eq_true, Bool.and_eq_true] at c1
    have c2 := List.all_eq_true.mp c1.2.2 _ hm
    rw [Bool.and_eq_true, List.all_eq_true] at c2
    obtain ⟨b1, b2⟩ := c2
    have hd : ∀ d r, isiF h.xs h.is t d = some r → ∃ x v b, d = excD x v ∧ r = .bool b ∧ ∀ C, PySem.W.nsIn K mainGlobals x = some (some (.ref C)) → ExcR K C ∧ PySem.W.kitOne K (.ref C) (cvOf K t) = some b := fun d r e => by
      unfold isiF at e
      split at e
      · rename_i x v
        rw [hl] at e
        obtain ⟨hx, e⟩ := cond_some (show cond (h.xs.contains x) (some (PyData.bool (l.contains x))) none = some r from e)
        have hx : x ∈ h.xs := by simpa using hx
        cases e
        refine ⟨x, v, _, rfl, rfl, fun C hC => ?_⟩
        have := Hd.says_one c hx hC
        subst this
        exact ⟨(Hd.says_cls c hx).2.2, of_decide_eq_true (b2 x hx)⟩
      · cases e
    unfold isB1 at b1
    split at b1
    · rename_i a e
      have hcv : cvOf K t = .ref a := by unfold cvOf; rw [e]
      rw [hcv] at hd
      exact ⟨.ref a, .ref a, rfl, fun u hu => hu, .inl (PySem.W.mg_of X N e), hd⟩
    · rename_i e
      rw [Bool.and_eq_true, decide_eq_true_eq] at b1
      split at b1
      · rename_i T hT
        have hcv : cvOf K t = .type T := by unfold cvOf; rw [e, hT]; rfl
        rw [hcv] at hd
        exact ⟨.type T, .ty T, rfl, fun u hu => hu, .inr ⟨PySem.W.mg_none_of X N e, hT, b1.1⟩, hd⟩
      · cases b1.2
    · cases b1
theorem Hd.attOk (c : h.obs K = h.val w) : AttOk K h.G.a := by
  intro t d r e
  obtain ⟨ht, e⟩ := cond_some (show cond _ _ none = some r from e)
  refine ⟨of_decide_eq_true ht, ?_⟩
  split at e
  · rename_i d1 x v hh
    obtain ⟨hx, e⟩ := cond_some e
    have hx : x ∈ h.xs := by simpa using hx
    cases e
    refine ⟨x, rfl, fun C hC => ?_⟩
    have := Hd.says_one c hx hC
    subst this
    exact (Hd.says_cls c hx).2.2
  · cases e
theorem Hd.mkrOk {P : Program} (c : h.obs K = h.val w) (X : K.In hp) (N : hp.Ns mainGlobals mg) (I : IniOk P h) : ∀ f, h.G.m f = true → ExcAt P K mg f := by
  intro f hf
  have hx : f ∈ h.xs := by simpa using (show h.xs.contains f = true from hf)
  rcases I with I | ⟨qual, params, scope, p0, p1, p2, p3, p4, p5, p6, p7, p8, p9, pl, hini, hT, hfile, hsup, i1, i2, i3, i4, i5⟩
  · rw [I] at hx; cases hx
  · obtain ⟨e1, e2, e3⟩ := Hd.says_cls c hx
    have hne : h.xs.isEmpty = false := by cases e : h.xs with
      | nil => rw [e] at hx; cases hx
      | cons _ _ => rfl
    have hw : cond h.xs.isEmpty none (iniW K (He.ga K h.xb)) = h.ini := congrArg (fun z : HdV => z.2.2) c
    rw [hne, hini] at hw
    have c1 := Hd.says_xs c
    unfold Hd.xsB at c1
    rw [Bool.and_eq_true, Bool.and_eq_true, hne] at c1
    have hb : iniB K (He.ga K h.xb) P.main.file = true := by rw [← hfile]; exact c1.2.1
    obtain ⟨cc, cda, F⟩ := iniF_of hT hw hb
    exact ⟨_, _, _, cc, cda, qual, params, scope, p0, p1, p2, p3, p4, p5, p6, p7, p8, p9, pl, e1, PySem.W.mg_of X N e1, Hd.says_free c X N hsup, e2, F, i1, i2, i3, i4, fun v s a nm kV doc pm an ct => i5 v s a nm kV doc pm an cda cc ct⟩
theorem Hd.mgOk {P : Program} (c : h.obs K = h.val w) (X : K.In hp) (N : hp.Ns mainGlobals mg) (I : IniOk P h) (hf : ∀ x ∈ names0, x ∈ h.free) : MgOk P K w mg h.G := by
  refine ⟨fun bi => ?_, fun t => ?_, ?_, ?_, ?_, fun x d e => Hd.says_glob c X N e, Hd.isiOk c X N, Hd.attOk c, Hd.mkrOk c X N I⟩
  · exact Hd.says_free c X N (hf _ (List.mem_append_left _ (List.mem_map.mpr ⟨bi, by cases bi <;> simp [bAll], rfl⟩)))
  · exact Hd.says_free c X N (hf _ (List.mem_append_right _ (List.mem_append_left _ (List.mem_map.mpr ⟨t, by cases t <;> simp, rfl⟩))))
  · exact Hd.says_free c X N (hf _ (List.mem_append_right _ (List.mem_append_right _ (by simp))))
  · exact Hd.says_free c X N (hf _ (List.mem_append_right _ (List.mem_append_right _ (by simp))))
  · exact Hd.says_free c X N (hf _ (List.mem_append_right _ (List.mem_append_right _ (by simp))))
/-- a def of the top by its statement -/
def ddOf (x : Str) (st : Stmt) : He.DefD := ⟨(x, none), x, x, defArgs st, defBody st, defScope st, [], []⟩
def BindOk (st : Stmt) (x : Str) : Prop := ∀ (kV doc pm : Value) (an : Option Addr) (cdv ct : Value) (us : List Value), us.length = (argNames st).length → bindArgs (PySem.W.fnOf x x (defArgs st) (defBody st) (defScope st) .none kV doc pm an cdv ct) ⟨us, []⟩ = pure ((argNames st).zip us)
theorem Hd.dfIn (c : h.obs K = h.val w) (X : K.In hp) (N : hp.Ns mainGlobals mg) {fns : List Str} {st : Stmt} {d : Df} (hd : ddOf d.name st ∈ h.fn) (hb : BindOk st d.name) (body : d.body = defBody st) (ck : ckDf fns st d = true) (hpr : d.pr = none) : DfIn K mg fns st d := by
  obtain ⟨i, hi⟩ := List.mem_iff_getElem?.mp hd
  obtain ⟨fd, F⟩ := (Hd.says_d c).def_ i hi
  refine ⟨⟨He.ga K d.name, fd, ?_, Hd.says_glo c X N hd, FunD.bindsN F hb⟩, body, ck, hpr⟩
  obtain ⟨oc, od, dV, kV, doc, pm, an, cdv, ct, osl, e1, e2, e3, e4, e5⟩ := F.ex
  rcases e4 with ⟨_, rfl⟩ | ⟨z, _⟩
  · exact ⟨⟨oc, od, kV, doc, pm, an, cdv, ct, osl, e1, e2, e3⟩, F.kp⟩
  · exact absurd rfl z
theorem Hd.funIn (c : h.obs K = h.val w) (X : K.In hp) (N : hp.Ns mainGlobals mg) {x : Str} {st : Stmt} (hd : ddOf x st ∈ h.fn) (hb : BindOk st x) : ∃ f fd, Fun K x x st f fd ∧ mg x = some (.ref f) ∧ Binds K fd (argNames st) [] := by
  obtain ⟨i, hi⟩ := List.mem_iff_getElem?.mp hd
  obtain ⟨fd, F⟩ := (Hd.says_d c).def_ i hi
  refine ⟨He.ga K x, fd, ?_, Hd.says_glo c X N hd, FunD.bindsN F hb⟩
  obtain ⟨oc, od, dV, kV, doc, pm, an, cdv, ct, osl, e1, e2, e3, e4, e5⟩ := F.ex
  rcases e4 with ⟨_, rfl⟩ | ⟨z, _⟩
  · exact ⟨⟨oc, od, kV, doc, pm, an, cdv, ct, osl, e1, e2, e3⟩, F.kp⟩
  · exact absurd rfl z
theorem Hd.says_fe (c : h.obs K = h.val w) {f : He.Fa} (hf : f ∈ h.fe) : f.ok K = true := Hd.says_fact c (List.mem_append_right _ (List.mem_append_right _ hf))
end
end EV

namespace EV
open PySem PySem.Spec PyProof.Rows L2
section
variable {P : Program} {w : World} {K : PySem.W.Frag} {mg mb : Str → Option Value} {k : Nat} {fa a : Addr} {fd : FuncData} {x : Str} {sp : Sp} {s₁ : Shared} {vs : List Value} {ns : List Int}
/-- the script's list, hidden from the module's part of the heap (H: what is tracked of it) -/
theorem law_at (KX : K.In s₁.heap) (hns : s₁.heap.Ns mainGlobals mg) (hb : s₁.heap.Ns builtinsNs mb) (hbb : ∀ x : Str, x ≠ "__name__" → mb x = bootBuiltins x) (hlim : s₁.heap.NoLimit) (hg : s₁.gens = #[])
    (ha : s₁.heap.get? a = some { cls := .type "list", data := .seq vs.toArray }) (hr : Room k callerA)
    (F : ∀ base : Heap, K.In base → base.Ns mainGlobals mg → FnG P w K mg base k fa fd [x] sp) (hbind : ∀ (s : Shared) (u : Value), BindsTo s fd ⟨[u], []⟩ [(x, u)])
    {H : Hp} (hO : Only H) (hok : HOk P w H s₁.heap) (hA : ∀ b, H b ≠ none → b = a) (hK : H a ≠ none → K.lookup a = none) (hsp : sp [.ref a] H (fun v _ => v = .bl true) E0) :
    codeAny (model P w) callerA (.call (.ref fa) ⟨[.ref a], []⟩) (fun r s' => r = .ok (.ret (.bool true)) ∧ OldK s₁.heap s'.heap ∧ s'.os = s₁.os ∧ AllBare s'.gens) s₁ := by
  have free : ∀ {b : Addr} {o : Obj}, s₁.heap.get? b = some o → (b = a → H a = none) → (hidT s₁.heap H).get? b = some o := fun {b o} e n => by
    refine hidT_get e ?_
    cases q : H b with
    | none => rfl
    | some u =>
      have e' : b = a := hA b (by rw [q]; exact nofun)
      rw [e', n e'] at q
      cases q
  have dict : ∀ {b : Addr} {m : Str → Option Value}, s₁.heap.Ns b m → (hidT s₁.heap H).Ns b m := fun {b m} ⟨o, es, ep, e, d, r⟩ => by
    refine ⟨o, es, ep, free e fun z => ?_, d, r⟩
    subst z
    rw [ha] at e
    cases e
    exact nomatch d
  have kin : K.In (hidT s₁.heap H) := fun b o e => free (KX b o e) fun z => by
    cases q : H a with
    | none => rfl
    | some u =>
      have := hK (by rw [q]; exact nofun)
      rw [← z, e] at this
      cases this
  have md : Mod K mg (hidT s₁.heap H) := ⟨kin, dict hns, ⟨mb, dict hb, hbb⟩, let ⟨mc, h1, h2⟩ := hlim; ⟨mc, dict h1, h2⟩⟩
  have e0 : Env0 P w K mg (hidT s₁.heap H) callerA [] s₁ H := ⟨rfl, md, fun b o e => of_hidT e, Nat.le_of_eq (hidT_size _ _), trivial, nofun, hok, .of_eq hg⟩
  refine codeAny_mono ((F _ kin (dict hns)).run callerA [] s₁ H ⟨[.ref a], []⟩ [.ref a] [.ref a] _ _ hr rfl e0 (hbind s₁ (.ref a)) (.cons rfl .nil) hsp) fun r s' z => ?_
  match r, z with
  | .error _, z => exact False.elim z
  | .ok .next, z => exact False.elim z
  | .ok .brk, z => exact False.elim z
  | .ok .cont, z => exact False.elim z
  | .ok (.ret u), ⟨v, H', os, bare, un, hok', r', q⟩ =>
    have q' : v = .bl true := q
    subst q'
    obtain rfl : u = Value.bool true := r'
    refine ⟨rfl, OldK.of_keep fun b o e => ?_, os, bare⟩
    rcases hO b with n | ⟨ob, ys, n⟩
    · exact un.keep b o e n nofun nofun
    · obtain ⟨e1, _⟩ := hok b _ n
      obtain ⟨e2, _⟩ := hok' b _ (un.frzs b ob _ n)
      rw [e] at e1
      cases e1
      exact e2
theorem law_callG (KX : K.In s₁.heap) (hns : s₁.heap.Ns mainGlobals mg) (hb : s₁.heap.Ns builtinsNs mb) (hbb : ∀ x : Str, x ≠ "__name__" → mb x = bootBuiltins x) (hlim : s₁.heap.NoLimit) (hg : s₁.gens = #[])
    (ha : s₁.heap.get? a = some { cls := .type "list", data := .seq vs.toArray }) (hi : IntsAre vs ns) (hl : ns.length ≤ sizeLine) (hr : Room k callerA)
    (F : ∀ base : Heap, K.In base → base.Ns mainGlobals mg → FnG P w K mg base k fa fd [x] sp) (hbind : ∀ (s : Shared) (u : Value), BindsTo s fd ⟨[u], []⟩ [(x, u)])
    (hsp : ∀ H : Hp, Only H → SqL K H a (ns.map V.int) → sp [.ref a] H (fun v _ => v = .bl true) E0) :
    codeAny (model P w) callerA (.call (.ref fa) ⟨[.ref a], []⟩) (fun r s' => r = .ok (.ret (.bool true)) ∧ OldK s₁.heap s'.heap ∧ s'.os = s₁.os ∧ AllBare s'.gens) s₁ := by
  have rv := vals_ints hi
  have hlen : vs.length = ns.length := hi.length
  cases hk : K.lookup a with
  | some o =>
    have e := KX a o hk
    rw [ha] at e
    cases e
    have hO : Only fun _ => none := fun _ => .inl rfl
    exact law_at KX hns hb hbb hlim hg ha hr F hbind hO (fun _ _ z => nomatch z) (fun _ z => absurd rfl z) (fun z => absurd rfl z) (hsp _ hO (.inr ⟨_, vs.toArray, _, hk, rfl, rfl, rfl, by rw [List.size_toArray, hlen]; exact hl, by simpa using rv⟩))
  | none =>
    let H : Hp := upd (fun _ => none) a (.frz { cls := .type "list", data := .seq vs.toArray } (.lst (ns.map V.int)))
    have hH : H a = some (.frz { cls := .type "list", data := .seq vs.toArray } (.lst (ns.map V.int))) := upd_same
    have hn : ∀ b, b ≠ a → H b = none := fun b n => upd_ne n
    have hO : Only H := fun b => by
      by_cases q : b = a
      · subst q; exact .inr ⟨_, _, hH⟩
      · exact .inl (hn b q)
    refine law_at KX hns hb hbb hlim hg ha hr F hbind hO (fun b u z => ?_) (fun b z => Classical.byContradiction fun n => z (hn b n)) (fun _ => hk) (hsp _ hO (.inl (.inr ⟨_, hH⟩)))
    by_cases q : b = a
    · subst q
      rw [hH] at z
      cases z
      exact ⟨ha, by rw [List.length_map]; exact hl, vs, _, rv, ha⟩
    · rw [hn b q] at z
      cases z
end
theorem walkG {l : PySem.W.OpenLaw} {n k : Nat} {q : Program} {loose : List Str} {XP : (Str → Option Value) → Heap → Prop} {YP : World → Heap → Prop} {d : DefRec} {x : Str}
    (hn : l.most = some n) (hn2 : n ≤ sizeLine) (hdf : d.params.defaults = []) (hr : Room k callerA)
    (F : ∀ (w : World) (mg : Str → Option Value) (fa : Addr) (h : Heap), YP w h → h.Ns mainGlobals mg → mg d.name = some (.ref fa) →
      ∃ (K : PySem.W.Frag) (fd : FuncData) (g : List D → Option D), K.In h ∧ (∀ (s : Shared) (u : Value), BindsTo s fd ⟨[u], []⟩ [(x, u)]) ∧
        (∀ ns : List Int, ns.length ≤ n → (∀ k ∈ ns, Builtin.Int.intBits k ≤ 1048576) → g [.list (ns.map .int)] = some (.bool true)) ∧
        ∀ base : Heap, K.In base → base.Ns mainGlobals mg → FnG l.prog w K mg base k fa fd [x] (spD K w g)) :
    PySem.W.WalkO q loose XP YP l.row.toRowW d [] (fun f vs => PySem.call f vs) := by
  refine Att.attach_callB hn hdf fun w s₀ s₁ mg mb fa o pm cd doc a vs ns G Y ho hd hcd hmg hobj hints hlen hbits hg => ?_
  obtain ⟨K, fd, g, KX, hb, hsp, hF⟩ := F w mg fa _ Y G.T.g hmg
  refine law_callG KX G.T.g G.T.b G.T.builtins G.T.nolimit hg hobj hints (Nat.le_trans hlen hn2) hr hF hb fun H hO hS => ?_
  have emp : OkO (fun _ => False) H := fun _ z => z.elim
  have allI : ∀ (ms : List Int), RoAll K w (fun _ => False) H (ms.map V.int) (ms.map .int) := fun ms => by
    induction ms with
    | nil => exact .nil
    | cons m r ih => exact .cons (.int m) ih
  refine ⟨fun _ => False, _, .bool true, emp, .cons ?_ .nil, hsp ns hlen hbits, fun H' v s r => by cases r; rfl⟩
  rcases hS with hS | hS
  · exact .lst hS (fun z => z) (allI ns)
  · exact .kls hS (allI ns)
end EV

namespace EV
open PySem L2
/-! statements with what follows them: both ways of a test go on by themselves -/
section
variable {R : Type}
/-- a fresh list's items -/
def freshK (c : Cfg) (σ : List Sl) (e : Expr) (κ : List D → Option R) : Option R :=
  match e with
  | .List es _ => (args (fun b e => ev c 59 b σ e) es).bind fun ds => cond (decide (ds.length ≤ few)) (κ ds) none
  | .ListComp elt [⟨t, it, ifs, 0⟩] sc _ => (iter c.N (ev c 59 true σ) it).bind fun xs =>
      (compM (fun x => (asg c.N (wipeD σ ((ownOf c.N sc.names).map (·.2))) t x).bind fun σ' => (tests (tst c 59 σ') ifs).bind fun b => cond b ((ev c 59 false σ' elt).bind fun y => some (some y)) (some none)) xs).bind fun ys =>
        cond (decide (ys.length ≤ few)) (κ ys) none
  | .ListComp elt [⟨t, it, [], 0⟩, ⟨t', it', ifs', 0⟩] sc _ => (iter c.N (ev c 59 true σ) it).bind fun xs =>
      (compJ (fun x => (asg c.N (wipeD σ ((ownOf c.N sc.names).map (·.2))) t x).bind fun σ' => (iter c.N (ev c 59 false σ') it').bind fun zs =>
        compM (fun x => (asg c.N (wipeD σ' (tgIx c.N t')) t' x).bind fun σ'' => (tests (tst c 59 σ'') ifs').bind fun b => cond b ((ev c 59 false σ'' elt).bind fun y => some (some y)) (some none)) zs) xs).bind fun ys =>
        cond (decide (ys.length ≤ few)) (κ ys) none
  | _ => none
theorem cond_bind {b : Bool} {x : Option D} {κ : D → Option R} : (cond b x none).bind κ = cond b (x.bind κ) none := by cases b <;> rfl
theorem freshK_eq (c : Cfg) (σ : List Sl) (e : Expr) (h : isFresh e = true) (κ : D → Option R) : freshK c σ e (fun ds => κ (.list ds)) = (ev c ED false σ e).bind κ := by
  unfold freshK
  split
  · show _ = ((args (fun b e => ev c 59 b σ e) _).bind fun ds => cond (decide (ds.length ≤ few)) (some (PyData.list ds)) none).bind κ
    rw [Option.bind_assoc]
    congr 1
    funext ds
    rw [cond_bind]; rfl
  · show _ = ((iter c.N (ev c 59 true σ) _).bind fun xs => lim _).bind κ
    rw [Option.bind_assoc]
    congr 1
    funext xs
    unfold lim
    rw [Option.bind_assoc]
    congr 1
    funext ds
    rw [cond_bind]; rfl
  · show _ = ((iter c.N (ev c 59 true σ) _).bind fun xs => lim _).bind κ
    rw [Option.bind_assoc]
    congr 1
    funext xs
    unfold lim
    rw [Option.bind_assoc]
    congr 1
    funext ds
    rw [cond_bind]; rfl
  · rename_i h1 h2 h3
    have : ev c ED false σ e = none := by
      cases e with
      | List es p => exact absurd rfl (h1 es p)
      | ListComp elt gs sc p =>
        show ev c (59 + 1) false σ _ = none
        unfold ev
        split <;> first | rfl | (rename_i heq; cases heq; done) | skip
        · rename_i heq; cases heq; exact absurd rfl (h2 _ _ _ _ _ _)
        · rename_i heq; cases heq; exact absurd rfl (h3 _ _ _ _ _ _ _ _)
      | _ => cases h
    rw [this]; rfl
/-- arguments, items, with what follows -/
def argsB (f : Bool → Expr → Option D) : List Expr → (List D → Option R) → Option R
  | [], κ => κ []
  | .Starred e _ :: r, κ => (f true e).bind fun d => (items d).bind fun xs => argsB f r fun ys => κ (xs ++ ys)
  | e :: r, κ => (f false e).bind fun d => argsB f r fun ys => κ (d :: ys)
theorem argsB_eq (f : Bool → Expr → Option D) : ∀ (es : List Expr) (κ : List D → Option R), argsB f es κ = (args f es).bind κ
  | [], κ => rfl
  | e :: r, κ => by
    have ih := argsB_eq f r
    cases e <;> first
      | (show (f false _).bind _ = ((f false _).bind fun d => (args f r).bind fun ys => some (d :: ys)).bind κ
         rw [Option.bind_assoc]
         congr 1
         funext d
         rw [Option.bind_assoc, ih]
         rfl)
      | (show (f true _).bind _ = ((f true _).bind fun d => (items d).bind fun xs => (args f r).bind fun ys => some (xs ++ ys)).bind κ
         rw [Option.bind_assoc]
         congr 1
         funext d
         rw [Option.bind_assoc]
         congr 1
         funext xs
         rw [Option.bind_assoc, ih]
         rfl)
theorem freshK_eq' (c : Cfg) (σ : List Sl) (e : Expr) (h : isFresh e = true) {κ : List D → Option R} {κ' : D → Option R} (hk : ∀ ds, κ' (.list ds) = κ ds) : freshK c σ e κ = (ev c ED false σ e).bind κ' := by
  rw [← freshK_eq c σ e h, funext hk]
mutual
def exK (c : Cfg) : Nat → List Sl → Stmt → (Fl → Option R) → Option R
  | 0, _, _, _ => none
  | n + 1, σ, st, κ =>
    match st with
    | .Return (some e) _ => (ev c ED false (σ.map Sl.share) e).bind fun d => κ (.ret d)
    | .If t a b _ => (tst c ED (shareN c.N (esc c.N ED true t) σ) t).bind fun k => cond k (exsK c n (shareN c.N (esc c.N ED true t) σ) a κ) (exsK c n (shareN c.N (esc c.N ED true t) σ) b κ)
    | .Expr (.Call (.Name f p) as [] q) _ => (ev c ED false (shareN c.N (esc c.N ED false (.Call (.Name f p) as [] q)) σ) (.Call (.Name f p) as [] q)).bind fun _ => κ (.next (shareN c.N (esc c.N ED false (.Call (.Name f p) as [] q)) σ))
    | .Assign [.Name x _] e _ => (c.N.idxOf? x).bind fun i => cond (isFresh e)
        (freshK c (shareN c.N (esc c.N ED false e) σ) e fun ds => κ (.next ((shareN c.N (esc c.N ED false e) σ).set i (.ow ds))))
        ((ev c ED false (shareN c.N (esc c.N ED false e) σ) e).bind fun d => κ (.next ((shareN c.N (esc c.N ED false e) σ).set i (.sh d))))
    | .Expr (.Call (.Attribute (.Name x _) m _) [a] [] _) _ =>
      cond (decide (m = "append")) ((c.N.idxOf? x).bind fun i =>
        (ev c ED false (shareN c.N (esc c.N ED false a) σ) a).bind fun d => match (shareN c.N (esc c.N ED false a) σ)[i]? with
          | some (.ow l) => cond (decide (l.length < few)) (κ (.next ((shareN c.N (esc c.N ED false a) σ).set i (.ow (l ++ [d]))))) none
          | _ => none) (cond (decide (m = "extend") && isFresh a) ((c.N.idxOf? x).bind fun i =>
        freshK c (shareN c.N (esc c.N ED false a) σ) a fun ds => match (shareN c.N (esc c.N ED false a) σ)[i]? with
          | some (.ow l) => cond (decide (l.length + ds.length ≤ few)) (κ (.next ((shareN c.N (esc c.N ED false a) σ).set i (.ow (l ++ ds))))) none
          | _ => none) none)
    | .Assign [.Tuple es k p] (.Tuple as k2 p2) _ => argsB (fun b e => ev c 59 b (shareN c.N (esc c.N ED false (.Tuple as k2 p2)) σ) e) as fun ds => cond (decide (ds.length ≤ few))
        ((asgs c.N es ds (shareN c.N (esc c.N ED false (.Tuple as k2 p2)) σ)).bind fun σ' => κ (.next σ')) none
    | .Assign [.Tuple es k p] e _ => (ev c ED false (shareN c.N (esc c.N ED false e) σ) e).bind fun d => (asg c.N (shareN c.N (esc c.N ED false e) σ) (.Tuple es k p) d).bind fun σ' => κ (.next σ')
    | st => (ex c (n + 1) σ st).bind κ
def exsK (c : Cfg) : Nat → List Sl → List Stmt → (Fl → Option R) → Option R
  | 0, _, _, _ => none
  | _ + 1, σ, [], κ => κ (.next σ)
  | n + 1, σ, st :: r, κ => exK c n σ st fun fl => match fl with
    | .next σ' => exsK c n σ' r κ
    | f => κ f
end
theorem exK_eq (c : Cfg) : ∀ n, (∀ σ st (κ : Fl → Option R), exK c n σ st κ = (ex c n σ st).bind κ) ∧ ∀ σ sts (κ : Fl → Option R), exsK c n σ sts κ = (exs c n σ sts).bind κ
  | 0 => ⟨fun _ _ _ => rfl, fun _ _ _ => rfl⟩
  | n + 1 => by
    obtain ⟨i1, i2⟩ := exK_eq c n
    refine ⟨fun σ st κ => ?_, fun σ sts κ => ?_⟩
    · unfold exK
      split
      · rename_i e _
        show (ev c ED false (σ.map Sl.share) e).bind _ = ((ev c ED false (σ.map Sl.share) e).map Fl.ret).bind κ
        cases ev c ED false (σ.map Sl.share) e <;> rfl
      · rename_i t a b _
        unfold ex
        rw [Option.bind_assoc]
        congr 1
        funext k
        cases k with
        | true => exact i2 _ _ _
        | false => exact i2 _ _ _
      · unfold ex
        rw [Option.bind_assoc]
        rfl
      · rename_i x _ e _
        show _ = ((c.N.idxOf? x).bind fun i => (ev c ED false (shareN c.N (esc c.N ED false e) σ) e).bind fun d => some (Fl.next (setOw (shareN c.N (esc c.N ED false e) σ) i (isFresh e) d))).bind κ
        rw [Option.bind_assoc]
        congr 1
        funext i
        rw [Option.bind_assoc]
        cases hf : isFresh e with
        | true =>
          rw [cond_true]
          exact freshK_eq' c _ e hf fun ds => rfl
        | false =>
          rw [cond_false]
          congr 1
          funext d
          cases d <;> rfl
      · rename_i x _ m _ a _ _
        show _ = (cond (decide (m = "append")) _ (cond (decide (m = "extend") && isFresh a) _ none)).bind κ
        cases decide (m = "append") with
        | true =>
          rw [cond_true, cond_true, Option.bind_assoc]
          congr 1
          funext i
          rw [Option.bind_assoc]
          congr 1
          funext d
          generalize (shareN c.N (esc c.N ED false a) σ)[i]? = q
          cases q with
          | none => rfl
          | some s =>
            cases s with
            | ow l =>
              show cond (decide (l.length < few)) _ _ = Option.bind (cond (decide (l.length < few)) _ _) κ
              cases decide (l.length < few) <;> rfl
            | _ => rfl
        | false =>
          rw [cond_false, cond_false]
          cases hq : (decide (m = "extend") && isFresh a) with
          | false => rfl
          | true =>
            have hf : isFresh a = true := (Bool.and_eq_true_iff.mp hq).2
            rw [cond_true, cond_true, Option.bind_assoc]
            congr 1
            funext i
            rw [Option.bind_assoc]
            refine freshK_eq' c _ a hf fun ds => ?_
            generalize (shareN c.N (esc c.N ED false a) σ)[i]? = q
            cases q with
            | none => rfl
            | some s =>
              cases s with
              | ow l =>
                show Option.bind (cond (decide (l.length + ds.length ≤ few)) _ _) κ = cond (decide (l.length + ds.length ≤ few)) _ _
                cases decide (l.length + ds.length ≤ few) <;> rfl
              | _ => rfl
      · rename_i es k p as k2 p2 _
        show _ = (((args (fun b e => ev c 59 b (shareN c.N (esc c.N ED false (.Tuple as k2 p2)) σ) e) as).bind fun ds => cond (decide (ds.length ≤ few)) (some (PyData.tuple ds)) none).bind fun d => (asg c.N (shareN c.N (esc c.N ED false (.Tuple as k2 p2)) σ) (.Tuple es k p) d).map .next).bind κ
        rw [argsB_eq, Option.bind_assoc, Option.bind_assoc]
        congr 1
        funext ds
        cases decide (ds.length ≤ few) with
        | false => rfl
        | true =>
          show _ = ((asgs c.N es ds (shareN c.N (esc c.N ED false (.Tuple as k2 p2)) σ)).map Fl.next).bind κ
          cases asgs c.N es ds (shareN c.N (esc c.N ED false (.Tuple as k2 p2)) σ) <;> rfl
      · rename_i es k p e _ _
        show _ = ((ev c ED false (shareN c.N (esc c.N ED false e) σ) e).bind fun d => (asg c.N (shareN c.N (esc c.N ED false e) σ) (.Tuple es k p) d).map .next).bind κ
        rw [Option.bind_assoc]
        congr 1
        funext d
        cases asg c.N (shareN c.N (esc c.N ED false e) σ) (.Tuple es k p) d <;> rfl
      · rfl
    · cases sts with
      | nil => rfl
      | cons st r =>
        show exK c n σ st _ = ((ex c n σ st).bind _).bind κ
        rw [i1, Option.bind_assoc]
        congr 1
        funext fl
        cases fl with
        | next σ' => exact i2 _ _ _
        | ret d => rfl
        | brk _ => rfl
        | cont _ => rfl
end
/-- how a def ends -/
def endK : Fl → Option D
  | .ret d => some d
  | .next _ => some .none
  | _ => none
theorem callK {P : List Df} {G : GI} {k : Nat} {f : Str} {ds : List D} {d : Df} (h : findD f P = some d) (hpr : d.pr = none) (hl : ds.length = d.np) :
    callN P G (k + 1) f ds = exsK ⟨d.N, G, callN P G k⟩ ED (ds.map Sl.sh ++ List.replicate (d.N.length - d.np) .un) d.body endK := by
  unfold callN
  rw [h]
  simp only [Option.bind_some, hpr]
  show cond (decide (ds.length = d.np)) _ none = _
  rw [decide_eq_true hl, cond_true, (exK_eq _ _).2]
  congr 1
/-- a loop's body, by itself -/
theorem bodyK {c : Cfg} {n : Nat} {σ : List Sl} {b : List Stmt} : exs c n σ b = exsK c n σ b some := by
  rw [(exK_eq c n).2]
  cases exs c n σ b <;> rfl
/-- what a range gives -/
def rng1 (d : D) : Option (List D) := match d with
  | .int j => cond (small62 j) (some (intRange 0 j.toNat)) none
  | _ => none
def rng2 (d d' : D) : Option (List D) := match d, d' with
  | .int i, .int j => cond (small62 i && small62 j) (some (intRange i (j - i).toNat)) none
  | _, _ => none
def prtD (d : D) : Option (Option Int) := match d with
  | .int i => some (some i)
  | _ => none
/-! ways into a text -/
def asgT : Stmt → Expr
  | .Assign [t] _ _ => t
  | _ => .Tuple [] 0 ⟨0, 0, 0, 0⟩
def tupE : Expr → List Expr
  | .Tuple es _ _ => es
  | _ => []
def whT : Stmt → Expr
  | .While t _ _ _ => t
  | _ => .Tuple [] 0 ⟨0, 0, 0, 0⟩
def stAt (b : List Stmt) (i : Nat) : Stmt := b.getD i (.Pass ⟨0, 0, 0, 0⟩)
def forB : Stmt → List Stmt
  | .For _ _ b _ _ => b
  | _ => []
def forT : Stmt → Expr
  | .For t _ _ _ _ => t
  | _ => .Tuple [] 0 ⟨0, 0, 0, 0⟩
def ifA : Stmt → List Stmt
  | .If _ a _ _ => a
  | _ => []
def ifB : Stmt → List Stmt
  | .If _ _ b _ => b
  | _ => []
def whB : Stmt → List Stmt
  | .While _ b _ _ => b
  | _ => []
/-- a target of names -/
def nmT (xs : List Str) : Expr := .Tuple (xs.map fun x => .Name x ⟨0, 0, 0, 0⟩) 0 ⟨0, 0, 0, 0⟩
end EV

namespace EV
open PySem PySem.Spec PyProof.Rows L2
/-! ### try: .. except C as e: return e -/
/-- what this clause wishes: the class fits; the exception is handed out, its object tracked -/
def wEsc (K : PySem.W.Frag) (c : Value) (D : Ends) : WX := fun k d σ H => PySem.W.exmOne K k c = some true ∧ ∃ C dx, k = .ref C ∧ d = some dx ∧ ∀ a, H a = none → D.rt (.ref a) (upd H a (exoA a C dx))
section
variable {X : Cx} {x n : Str} {c : Value} {i : Nat} {body : List Stmt} {np p0 p1 p2 p3 : Pos} {tb : WX → TS}
/-- an object that was made behind the entry, tracked from now on -/
theorem track {pins : List (Addr × Obj)} {σ : L2.St} {H : Hp} {s : Shared} {a C dx : Addr} {oe : Obj} {vs : Array Value} (I : Inv X pins σ H s) (he : s.heap.get? a = some oe) (hz : Zc (.ref C) (some dx) oe) (hf : oe.data = .fields vs) (hn : H a = none) (hs : X.s_0.heap.get? a = none)
    (hl : a ≠ X.env.locals) (hc : ∀ y c, X.env.cells.lookup y = some c → c ≠ a) (hp : ∀ p ∈ X.pn ++ pins, p.1 ≠ a) : Inv X pins σ (upd H a (exoA a C dx)) s := by
  have ne : ∀ {b : Addr} {o : Obj}, X.s_0.heap.get? b = some o → b ≠ a := fun e z => by rw [z, hs] at e; cases e
  have nt : ∀ {b : Addr} {o : HO}, H b = some o → b ≠ a := fun e z => by rw [z, hn] at e; cases e
  have nt0 : ∀ {b : Addr} {o : HO}, X.H_0 b = some o → H b = some o → b ≠ a := fun _ e => nt e
  refine ⟨I.ok, I.os, I.bare, ⟨I.base.keep, I.base.slot, fun b o e n hx => ?_, I.base.there, fun b xs e => ?_, fun b o u e => ?_, fun b ps e => ?_⟩, I.loc, I.cell, ?_, fun y q e => ?_, fun p hq => ?_, fun b o e => ?_, I.len⟩
  · rw [upd_ne (ne e)]; exact I.base.free b o e n hx
  · have := I.base.tups b xs e
    rw [upd_ne (nt this)]; exact this
  · have := I.base.frzs b o u e
    rw [upd_ne (nt this)]; exact this
  · obtain ⟨more, q⟩ := I.base.tbls b ps e
    exact ⟨more, by rw [upd_ne (nt q)]; exact q⟩
  · rw [upd_ne (Ne.symm hl)]; exact I.free
  · rw [upd_ne (hc y q e)]; exact I.freeC y q e
  · obtain ⟨h1, h2, h3⟩ := I.pin p hq
    exact ⟨h1, by rw [upd_ne (hp p hq)]; exact h2, h3⟩
  · by_cases hb : b = a
    · subst hb
      rw [upd_same] at e
      cases e
      exact ⟨⟨oe, vs, he, hz.1, hz.2, hf⟩, ⟨oe, he⟩, fun h1 h2 ⟨o1, v1, z1, z2⟩ k2 => ⟨o1, v1, k2 _ z1, z2⟩⟩
    · rw [upd_ne hb] at e
      exact (I.hok b o e).stay (fun _ _ _ z => z) (fun q hq => by rw [upd_ne (nt hq)]; exact hq) (fun q xs hq => by rw [upd_ne (nt hq)]; exact hq)
theorem ps_try_esc (hs : X.stack = X.env :: X.outer) (hf : X.env.frame = some X.env.locals) (hex : X.ex = []) (hN : X.N.Nodup) (hi : X.N[i]? = some n) (hln : X.env.kindOf n = some .local) (hvis : Vis X.env.scope n) (hdb : (n == ("__debug__" : Str)) = false) (hcd : (n == ("__classdict__" : Str)) = false) (hc : Names X x c)
    (hb : ∀ (W : WX) (pn : List (Addr × Obj)) (xe : Value → Shared → Prop), Takes (X.tr pn xe) W → PassesOwn (model X.prog X.w) X.A X.env xe → PSs (X.tr pn xe) body (tb W)) :
    PS X (.Try body [.ExceptHandler (some (.Name x np)) (some n) [.Return (some (.Name n p2)) p3] p1] [] [] p0) (fun D σ H => tb (wEsc X.K c D) D σ H) := by
  constructor
  intro pins s σ H D I h
  have ok := I.ok
  have hfr : X.A.frames = some (X.env :: X.outer) := ok.frames.trans (by rw [hs])
  let Xe : Value → Shared → Prop := fun e s1 => wpAny (model X.prog X.w) X.A (noteFrame e X.env) (fun _ s2 => wpAny (model X.prog X.w) X.A (setFlight e none) (fun _ s3 => wpAny (model X.prog X.w) X.A (handleBy e X.env [.ExceptHandler (some (.Name x np)) (some n) [.Return (some (.Name n p2)) p3] p1]) (SP X pins D) X.xe s3) X.xe s2) X.xe s1
  have hcatch : Takes (X.tr (X.pn ++ pins) Xe) (wEsc X.K c D) := by
    rintro u s1 ⟨a, B, sI, pins1, σ1, H1, k, d, rfl, J0, nb, up, sky, na, os, ag, hx1, C, dx, rfl, rfl, hD⟩
    have J : Inv X pins σ1 H1 sI := J0.ofTry ok
    have sky1 : Sky B (X.env :: X.outer) a (Zc (.ref C) (some dx)) X.env.locals s1.heap := by rw [← hs]; exact sky
    show wpAny (model X.prog X.w) X.A (noteFrame (.ref a) X.env) _ _ _
    apply Sky.land Zc.steady hfr hf sky1
    intro h2 fl2 up2
    have J2 : Inv X pins σ1 H1 { s1 with heap := h2 } := J.landed nb fl2.1 (up.trans up2) os ag
    obtain ⟨oe2, vs2, he2, hz2, hd2⟩ := fl2.there
    have hBa : B.get? a = none := fl2.2.1
    have nfr : a ∉ frs (X.env :: X.outer) := by
      intro hm
      obtain ⟨_, o1, e1, nd⟩ := fl2.2.2.1.mem hm
      rw [he2] at e1
      cases e1
      exact nd _ hd2
    have nL : a ≠ X.env.locals := fun z => nfr (List.mem_filterMap.mpr ⟨X.env, List.mem_cons_self, z ▸ hf⟩)
    have nF : a ∉ X.fs := fun hm => by
      obtain ⟨e, h1, q⟩ := List.mem_filterMap.mp hm
      exact nfr (List.mem_filterMap.mpr ⟨e, List.mem_cons_of_mem _ h1, q⟩)
    have hs0 : X.s_0.heap.get? a = none := by
      cases e : X.s_0.heap.get? a with
      | none => rfl
      | some o =>
        obtain ⟨o1, e1⟩ := J.base.there a o e (by rw [hex]; simp)
        have := nb a o1 e1 (by rw [hs]; exact nfr)
        rw [hBa] at this
        cases this
    have S2 := J2.suite he2 hd2 na nL nF
    refine wpAny_handleBy_cons (codeAny_handlers_test ?_) (by intro q; cases q)
    have LT2 : PySem.W.Looks (model X.prog X.w) h2 (typeOf (.ref a)) (.ref C) := by
      intro A Q E s k q
      exact wpAny_typeOf_ref (k _ _ he2) (by rw [hz2.1]; exact q)
    have LM := PySem.W.exm_one (M := model X.prog X.w) J2.kIn LT2 hx1
    have test : ∀ {Q : Value → Shared → Prop} {E : Value → Shared → Prop}, Q c { s1 with heap := h2 } → wpAny (model X.prog X.w) (X.A.mark (some (.ref a))) (eval (.Name x np) X.env) Q E { s1 with heap := h2 } := by
      intro Q E q
      obtain ⟨hg, hdbg, hm⟩ := hc
      rcases hm with hm | ⟨hm, hv, hnn⟩
      · exact ld_glob (X := X.suite a ((a, oe2) :: (X.pn ++ pins))) S2 hg hm q hdbg
      · exact ld_blt (X := X.suite a ((a, oe2) :: (X.pn ++ pins))) S2 hg hm hv q hnn hdbg
    refine test (LM.here (codeAny_handlers_suite_as ?_))
    apply HandSPX.lands_againZ fl2
    intro h3 fl3 up3
    have J3 : Inv X pins σ1 H1 { s1 with heap := h3 } := J.landed nb fl3.1 ((up.trans up2).trans up3) os ag
    obtain ⟨oe3, vs3, he3, hz3, hd3⟩ := fl3.there
    have S3 := J3.suite he3 hd3 na nL nF
    have hlen : i < σ1.length := by rw [J3.len]; exact (List.getElem?_eq_some_iff.mp hi).1
    refine store_ok (X := X.suite a ((a, oe3) :: (X.pn ++ pins))) (v := .ref a) S3 hN hi (.inl hln) rfl (fun s4 S4 => ?_) (.inr hln)
    have run := (pss_one (ps_ret (pos := p3) (pe_var (X := X.suite a ((a, oe3) :: (X.pn ++ pins))) (pos := p2) hi hvis hdb hcd))).run [] s4 (σ1.set i (some (.ref a))) H1
      { nx := fun _ _ => False, bk := fun _ _ => False, ct := fun _ _ => False, rt := fun v H' => v = .ref a ∧ H' = H1 } S4 ⟨.ref a, by rw [List.getElem?_set_self hlen], rfl, rfl⟩
    refine wpAny_mono run (fun f s5 hsp => ?_) (fun _ _ z => False.elim z)
    match f, hsp with
    | .next, ⟨_, _, _, q⟩ => exact q.elim
    | .brk, ⟨_, _, _, q⟩ => exact q.elim
    | .cont, ⟨_, _, _, q⟩ => exact q.elim
    | .ret u, ⟨v5, σ5, H5, S5, r5, q1, q2⟩ =>
      subst q1 q2
      obtain ⟨hget, hnone, hloc, hfs, hcell⟩ := S5.pin (a, oe3) (List.mem_append_left _ List.mem_cons_self)
      have J5 : Inv X pins σ5 H5 s5 := S5.unsuite ok
      have J6 : Inv X ((a, oe3) :: pins) σ5 H5 s5 := J5.pins_of fun p hp => by
        rcases List.mem_cons.mp hp with rfl | hp
        · exact ⟨hget, hnone, hloc, hfs, hcell⟩
        · exact J5.pin p (List.mem_append_right _ hp)
      refine gone_ok J6 hN hi hln fun s6 J7 => ?_
      obtain ⟨g1, g2, g3, g4, g5⟩ := J7.pin (a, oe3) (List.mem_append_right _ List.mem_cons_self)
      have J8 : Inv X pins (σ5.set i none) H5 s6 := J7.pins_of fun p hp => J7.pin p (List.mem_append_right _ (List.mem_cons_of_mem _ hp))
      have hcl : ∀ y q, X.env.cells.lookup y = some q → q ≠ a := fun y q e z => by
        obtain ⟨v, o, ho, hv⟩ := J8.cell y q e
        rw [z, g1] at ho
        cases ho
        exact g5 _ hv
      have hpn : ∀ p ∈ X.pn ++ pins, p.1 ≠ a := fun p hp z => by
        obtain ⟨e1, _, e3, e4, _⟩ := J.pin p hp
        rw [z] at e1
        have := nb a _ e1 (by rw [hs]; exact nfr)
        rw [hBa] at this
        cases this
      exact ⟨.ref a, _, _, track J8 g1 hz3 hd3 g2 hs0 g3 hcl hpn, r5, hD a hnone⟩
  refine wpAny_Try_except (wpAny_mono ((hb _ (X.pn ++ pins) Xe hcatch PassesOwn.looking).run [] s σ H D (I.toTry _) h) (fun f s1 hsp => ?_) (fun e s1 he => he))
  match f, hsp with
  | .next, ⟨σ1, H1, J1, q⟩ => exact wpAny_execs_nil ⟨σ1, H1, J1.ofTry ok, q⟩
  | .brk, ⟨σ1, H1, J1, q⟩ => exact ⟨σ1, H1, J1.ofTry ok, q⟩
  | .cont, ⟨σ1, H1, J1, q⟩ => exact ⟨σ1, H1, J1.ofTry ok, q⟩
  | .ret u, ⟨v, σ1, H1, J1, r, q⟩ => exact ⟨v, σ1, H1, J1.ofTry ok, r, q⟩
end
end EV

namespace EV
open PySem PySem.Spec PyProof.Rows L2
/-! ### raise C(v) -/
def tPmE (K : PySem.W.Frag) (x : Str) (ta : TA) : L2.St → Hp → XK → Prop := fun σ H Q => ta σ H fun vs H1 => ∃ v, vs = [v] ∧ ∀ C dx, H1 dx = none → PySem.W.nsIn K mainGlobals x = some (some (.ref C)) → Q (.ref C) (some dx) (upd H1 dx (.xd [("at", v)]))
section
variable {X : Cx} {k : Nat} {x : Str} {p pos : Pos} {e : Expr} {es : List Expr} {ta : TA}
theorem pmk_mkE (T : ExcAt X.prog X.K X.mg x) (hr : Room (k + 1) X.A) (hg : Gl X x) (ha : PA X (e :: es) ta) (hdb : (x == ("__debug__" : Str)) = false) (he : starEach (e :: es) X.env = (false, eval e X.env) :: starEach es X.env) (hpl : (backTo pos (starEach es X.env)).any (·.1) = false) :
    PMk X (.Call (.Name x p) (e :: es) [] pos) (tPmE X.K x ta) := by
  obtain ⟨C, D, fI, cc, cda, qual, params, scope, p0, p1, p2, p3, p4, p5, p6, p7, p8, p9, pl, hns, hm, hms, TF, TI, hev, hint, hsw1, hsw2, hb⟩ := T
  intro pins s σ H Q I h
  refine wpAny_Call_Name_kw (ld_glob I hg hm ?_ hdb)
  refine PySem.W.callWith_K (h₀ := X.base) I.ok.mod.kin TF.oex.kC (thn (ha.run pos pins s σ H _ I h) fun us s1 ⟨vs, H1, J, r, v, ev, q⟩ => ⟨J.kIn, ?_⟩) he hpl
  subst ev
  cases r with
  | @cons _ u _ _ r0 rr =>
    cases rr
    obtain ⟨hp, g, d, t, os⟩ := s1
    refine make_raw (k := k) J.env0.mod (fun b o e => (J.env0.bs b o e).1) J.env0.bsz TI TF hms hev hint hsw1 hsw2 hr (hb u) fun h' tk t1 a dx kk hza hzd hne hx hn => ?_
    obtain ⟨G, g1, g2⟩ := L2.restrict h' fun b => decide (b ≠ a)
    have nb : ∀ {b : Addr} {o : Obj}, hp.get? b = some o → b ≠ a := fun e => Nat.ne_of_lt (Nat.lt_of_lt_of_le (Heap.lt_size e) hza)
    have kG : ∀ b o, hp.get? b = some o → G.get? b = some o := fun b o e => by rw [g1 b (decide_eq_true (nb e))]; exact kk b o e
    have gk : ∀ b o, G.get? b = some o → h'.get? b = some o := fun b o e => by
      by_cases hb : b = a
      · rw [hb, g2 a (by simp)] at e; cases e
      · rw [g1 b (decide_eq_true hb)] at e; exact e
    have hnG : G.Ns1 dx (fun y => if y = ("at" : Str) then some u else none) := hn.at fun o e => (g1 dx (decide_eq_true hne)).trans e
    have JG : Inv X pins σ (upd H1 dx (.xd [("at", v)])) ⟨G, g, d, tk, os⟩ := J.laid kG hzd ⟨_, hnG, fun f => by
      rw [lookup_put]
      by_cases hf : f = ("at" : Str)
      · rw [if_pos hf, if_pos hf]; exact r0
      · rw [if_neg hf, if_neg hf]; trivial⟩
    exact ⟨a, _, _, ⟨G, g, d, tk, os⟩, _, .ref C, some dx, rfl, JG, gk, g2 a (by simp), hx, ⟨rfl, rfl⟩, rfl, rfl, by rw [upd_ne (Ne.symm hne)]; exact J.hok.fresh hza, rfl, J.bare, raises_own TF.oex.exC TF.oex.tyC, q C dx (J.hok.fresh hzd) hns⟩
end
/-- what raises at each number below 0, which it is handed last -/
def spNeg (K : PySem.W.Frag) (x : Str) (n : Nat) : Sp := fun vs H Q E => ∃ ws i, vs = ws ++ [.int i] ∧ ws.length = n ∧ i < 0 ∧ ∀ H' C dx, Same H H' → H' dx = none → PySem.W.nsIn K mainGlobals x = some (some (.ref C)) → E (.ref C) (some dx) (upd H' dx (.xd [("at", .int i)]))
section
variable {P : Program} {w : World} {K : PySem.W.Frag} {mg : Str → Option Value} {base : Heap} {st : Stmt} {f : Addr} {fd : FuncData} {k j : Nat} {p0 p1 p2 p3 p4 p5 p6 p7 p8 p9 : Pos} {b c x y nm : Str} {N : List Str}
theorem fn_cb (F : Fun K nm nm st f fd) (S : FnScope N [b] (defScope st)) (hN : N = [b]) (hbody : defBody st = [.If (.UnaryOp .Not (.Compare (.Constant (.int 0) j p1) [.LtE, .LtE] [.Name b p2, .Name c p3] p4) p5) [.Raise (some (.Call (.Name x p6) [.Name b p7] [] p8)) none p9] [] p0])
    (hl : (defScope st).names.lookup b = some .local) (hb1 : (b == ("__debug__" : Str)) = false) (hb2 : (b == ("__classdict__" : Str)) = false) (hg : (defScope st).names.lookup x = some .globalImplicit) (hx : (x == ("__debug__" : Str)) = false) (T : ExcAt P K mg x) : FnOk P w K mg base (L2.CX P w) (k + 2) f fd [b] (spNeg K x 0) := by
  refine Fun.okX F S (fun vs H Q E ⟨ws, i, e1, e2, _⟩ => by rw [e1, List.length_append, e2]; rfl) fun cdv A outer s H vs Q E hr ⟨ws, i, e1, e2, hneg, hE⟩ => ?_
  cases ws with
  | cons _ _ => cases e2
  | nil =>
    subst e1 hN
    rw [hbody]
    have hu : (cxOf (L2.CX P w) P w K mg base [b] nm (defScope st) f cdv A outer s H E).A.units + 65 < cLine := by
      have h0 := hr.un
      have h1 : (A.deeper (envOfC nm (defScope st) s.heap.objs.size f cdv)).units + 65 < cLine := by omega
      exact h1
    have hv : SE (cxOf (L2.CX P w) P w K mg base [b] nm (defScope st) f cdv A outer s H E) true (.Name b p2) fun es => (es[0]?).bind (rd true) := se_var rfl (.inl hl) hb1 hb2
    have hc := st_not (pos := p5) (st_chain (pos := p4) (o := .LtE) (o' := .LtE) (e3 := .Name c p3) hu (marks2 rfl) (se_const (pos := p1) (j := j) (k := .int 0) (X := cxOf (L2.CX P w) P w K mg base [b] nm (defScope st) f cdv A outer s H E) (b := true) fun s e => by cases e) hv se_no)
    have hr2 := pmk_mkE (X := cxOf (L2.CX P w) P w K mg base [b] nm (defScope st) f cdv A outer s H E) (k := k) (x := x) (p := p6) (pos := p8) T hr hg (pa_cons (pe_var (pos := p7) (i := 0) rfl (.inl hl) hb1 hb2) pa_nil (starEach_cons (by intro e' p z; cases z) _)) hx (starEach_cons (by intro e' p z; cases z) _) rfl
    refine ⟨_, pss_one (ps_if hc (pss_one (ps_raise rfl (takes_of rfl rfl rfl rfl) hr2)) pss_nil), ?_⟩
    refine ⟨fun _ => False, fun _ => False, [Sl.sh (.int i)], true, fun _ h => h.elim, ?_, ?_, fun H1 s1 => ?_⟩
    · intro n s' e
      cases n with
      | zero => cases e; exact ⟨.int i, rfl, .int i⟩
      | succ n => simp at e
    · have : decide ((0 : Int) ≤ i) = false := decide_eq_false (by omega)
      simp [constD, rd, Sl.val, cmpD, cmpI, this]
    · refine ⟨.int i, rfl, .int i, rfl, fun C dx h1 h2 => hE H1 C dx s1 h1 h2⟩
theorem fn_run (F : Fun K nm nm st f fd) {fc : Addr} {fdc : FuncData} (FC : FnOk P w K mg base (L2.CX P w) k fc fdc [y] (spNeg K x 0)) (hmc : mg c = some (.ref fc)) (hkc : PySem.W.keepIn K (.ref fc) = true) (hbc : Binds K fdc [y] [])
    {z : Str} {rest : List Stmt} (S : FnScope N [z, b] (defScope st)) (hbody : defBody st = .Expr (.Call (.Name c p1) [.Name b p2] [] p3) p4 :: rest) (hN : N[1]? = some b) (hl : Vis (defScope st) b) (hb1 : (b == ("__debug__" : Str)) = false) (hb2 : (b == ("__classdict__" : Str)) = false)
    (hg : (defScope st).names.lookup c = some .globalImplicit) (hc : (c == ("__debug__" : Str)) = false) : FnOk P w K mg base (L2.CX P w) (k + 1) f fd [z, b] (spNeg K x 1) := by
  refine Fun.okX F S (fun vs H Q E ⟨ws, i, e1, e2, _⟩ => by rw [e1, List.length_append, e2]; rfl) fun cdv A outer s H vs Q E hr ⟨ws, i, e1, e2, hneg, hE⟩ => ?_
  obtain ⟨v, rfl⟩ : ∃ v, ws = [v] := by
    cases ws with
    | nil => cases e2
    | cons v r => cases r with
      | nil => exact ⟨v, rfl⟩
      | cons _ _ => cases e2
  subst e1
  rw [hbody]
  have tk : Takes (cxOf (L2.CX P w) P w K mg base N nm (defScope st) f cdv A outer s H E) (fun cls d _ H => E cls d H) := takes_of rfl rfl rfl rfl
  have call := pe_callS (X := cxOf (L2.CX P w) P w K mg base N nm (defScope st) f cdv A outer s H E) (x := c) (p := p1) (pos := p3) FC hr hg hmc hkc hbc (fun σ => passAt tk σ) (pa_cons (pe_var (pos := p2) (i := 1) hN hl hb1 hb2) pa_nil (starEach_cons (by intro e' p z; cases z) _)) hc (starEach_cons (by intro e' p z; cases z) _) rfl
  refine ⟨_, pss_cons (ps_expr call) pss_never, ?_⟩
  refine ⟨.int i, by simp [L2.start], [], i, rfl, rfl, hneg, fun H' C dx s1 h1 h2 => hE H' C dx s1 h1 h2⟩
/-- what comes of a call that is caught so -/
def gRaised (x : Str) : List D → Option D
  | [.int i] => cond (decide (i < 0)) (some (excD x (.int i))) none
  | _ => none
theorem fn_raised (F : Fun K nm nm st f fd) {fr : Addr} {fdr : FuncData} {r m z le n : Str} {i : Nat} {CL : Addr} (FR : FnOk P w K mg base (L2.CX P w) k fr fdr [z, b] (spNeg K x 1)) (hmr : mg r = some (.ref fr)) (hkr : PySem.W.keepIn K (.ref fr) = true) (hbr : Binds K fdr [z, b] [])
    (S : FnScope N [m] (defScope st)) {u : Str} {rest : List Stmt} {jt : Nat} {q0 q1 q2 q3 q4 : Pos} (hbody : defBody st = .Try [.Expr (.Call (.Name r p1) [.Tuple [.Constant (.str u) j p2] jt p3, .Name m p4] [] p5) p6] [.ExceptHandler (some (.Name le q0)) (some n) [.Return (some (.Name n q2)) q3] q1] [] [] q4 :: rest)
    (hu : PyData.canLay0 (.str u) = true) (hm : N[0]? = some m) (hml : Vis (defScope st) m) (hm1 : (m == ("__debug__" : Str)) = false) (hm2 : (m == ("__classdict__" : Str)) = false) (hi : N[i]? = some n) (hn : (defScope st).names.lookup n = some .local) (hn1 : (n == ("__debug__" : Str)) = false) (hn2 : (n == ("__classdict__" : Str)) = false)
    (hgr : (defScope st).names.lookup r = some .globalImplicit) (hr1 : (r == ("__debug__" : Str)) = false) (hgl : (defScope st).names.lookup le = some .globalImplicit) (hl1 : (le == ("__debug__" : Str)) = false) (hle : mg le = some (.ref CL))
    (hns : ∃ C, PySem.W.nsIn K mainGlobals x = some (some (.ref C))) (hex : ∀ C, PySem.W.nsIn K mainGlobals x = some (some (.ref C)) → PySem.W.exmOne K (.ref C) (.ref CL) = some true) : FnG P w K mg base (k + 1) f fd [m] (spD K w (gRaised x)) := by
  have gr1 : ∀ {ds : List D} {d : D}, gRaised x ds = some d → ∃ i, ds = [.int i] ∧ i < 0 ∧ d = excD x (.int i) := fun {ds d} e => by
    unfold gRaised at e
    split at e
    · obtain ⟨c, e⟩ := cond_some e
      exact ⟨_, rfl, of_decide_eq_true c, (Option.some.inj e).symm⟩
    · cases e
  refine Fun.okG F S (fun vs H Q E ⟨O, ds, d, hO, rr, e, q⟩ => by obtain ⟨v, rfl, _⟩ := gr1 e; rw [rr.length]; rfl) fun cdv A outer s H vs Q E hr hgd ⟨O, ds, d, hO, rr, e, q⟩ => ?_
  obtain ⟨v, rfl, hneg, rfl⟩ := gr1 e
  obtain ⟨hv⟩ : vs = [.int v] := by
    cases rr with | cons h t => cases t; cases h; rfl
  rw [hbody]
  have body : ∀ (W : WX) (pn : List (Addr × Obj)) (xe : Value → Shared → Prop), Takes ((cxOf CX0 P w K mg base N nm (defScope st) f cdv A outer s H E).nox.tr pn xe) W → PassesOwn (model (cxOf CX0 P w K mg base N nm (defScope st) f cdv A outer s H E).nox.prog (cxOf CX0 P w K mg base N nm (defScope st) f cdv A outer s H E).nox.w) (cxOf CX0 P w K mg base N nm (defScope st) f cdv A outer s H E).nox.A (cxOf CX0 P w K mg base N nm (defScope st) f cdv A outer s H E).nox.env xe →
      PSs ((cxOf CX0 P w K mg base N nm (defScope st) f cdv A outer s H E).nox.tr pn xe) [.Expr (.Call (.Name r p1) [.Tuple [.Constant (.str u) j p2] jt p3, .Name m p4] [] p5) p6] (fun D σ H => tCallS (spNeg K x 1) (WE W) (tCons (tE K w false fun σ => (some [PyData.str u]).bind fun ds => cond (decide (ds.length ≤ few)) (some (PyData.tuple ds)) none) (tCons (tVar 0) tNil)) σ H fun v H' => D.nx σ H') := by
    intro W pn xe tk _
    have a1 := se_tuple (X := (cxOf CX0 P w K mg base N nm (defScope st) f cdv A outer s H E).nox.tr pn xe) (b := false) (pos := p3) (k := jt) (sa_cons (b := false) (e := .Constant (.str u) j p2) (by intro e' p z; cases z) (se_const (pos := p2) (j := j) (k := .str u) (X := (cxOf CX0 P w K mg base N nm (defScope st) f cdv A outer s H E).nox.tr pn xe) (b := false) fun s e => by cases e; exact hu) sa_nil)
    have call := pe_callS (X := (cxOf CX0 P w K mg base N nm (defScope st) f cdv A outer s H E).nox.tr pn xe) (x := r) (p := p1) (pos := p5) FR hr hgr hmr hkr hbr (fun σ => passAt tk σ) (pa_cons a1 (pa_cons (pe_var (pos := p4) (i := 0) hm hml hm1 hm2) pa_nil (starEach_cons (by intro e' p z; cases z) _)) (starEach_cons (by intro e' p z; cases z) _)) hr1 (starEach_cons (by intro e' p z; cases z) _) rfl
    exact pss_one (ps_expr call)
  have tr := ps_try_esc (X := (cxOf CX0 P w K mg base N nm (defScope st) f cdv A outer s H E).nox) (x := le) (n := n) (c := .ref CL) (i := i) (np := q0) (p0 := q4) (p1 := q1) (p2 := q2) (p3 := q3) rfl rfl rfl S.nd hi hn (.inl hn) hn1 hn2 ⟨hgl, hl1, .inl hle⟩ body
  refine ⟨_, pss_cons tr pss_never, ?_⟩
  have h0 : (L2.start N [V.int v])[0]? = some (some (.int v)) := rfl
  refine ⟨fun _ => False, fun _ => False, [], _, fun _ h => h.elim, (fun n s e => by simp at e), rfl, fun H1 vt s1 r1 => ⟨.int v, h0, [vt], v, rfl, rfl, hneg, fun H2 C dx s2 hdx hC => ?_⟩⟩
  refine ⟨hex C hC, C, dx, rfl, rfl, fun a ha => ?_⟩
  have hne : dx ≠ a := fun z => by rw [← z, upd_same] at ha; cases ha
  exact q _ _ (((s1.trans s2).trans (same_upd hdx)).trans (same_upd ha)) (.exc upd_same (by rw [upd_ne hne, upd_same]) hC (.int v))
end
end EV

set_option maxHeartbeats 0
namespace K00
open PySem PySem.Spec PyProof.Rows L2 EV
def top (i : Nat) : Stmt := PySem.Challenge.pw_typedbydegrees_k00_errors_are_apart.main.body.getD i (.Pass ⟨0, 0, 0, 0⟩)
def f__law_draws : Df := ⟨"_law_draws", ["script", "draws", "k", "rest", "turn", "stirred"], 1, defBody (top 69), none⟩
def f__law_mix : Df := ⟨"_law_mix", ["draws", "k", "many", "cell"], 3, defBody (top 70), none⟩
def f__law_kinds : Df := ⟨"_law_kinds", ["e"], 1, defBody (top 71), none⟩
def f__law_made : Df := ⟨"_law_made", ["n"], 1, defBody (top 72), none⟩
def f__law_raised : Df := ⟨"_law_raised", ["many", "e"], 1, defBody (top 73), some (gRaised "OutOfRange")⟩
def f_law : Df := ⟨"law", ["script", "draws", "number", "made", "k", "base", "many", "told", ".0", "t"], 1, defBody (top 74), none⟩
def T : List Df := [f__law_draws, f__law_mix, f__law_kinds, f__law_made, f__law_raised, f_law]
def xsL : List Str := (["LanguageError", "OutOfRange", "TooMany", "TooLarge", "WrongSize", "BadType", "BadTree", "BadCoercion", "BadLabel", "BadTypes", "BadText", "BadValue", "BadToken", "BadPlace", "BadProgram"] : List Str) ++ (["BadTerm", "BadCode", "NameFree", "BadSites", "NotAlike", "BadHeap", "BadRoots", "BadSteps", "BadModule", "NotFlat", "NotFull", "NoBlame", "HasEnded"] : List Str)
def fns : List Str := (["_law_draws", "_law_mix", "_law_kinds", "_law_made", "_law_raised", "law"] : List Str) ++ xsL
def iniFn (st : Stmt) : Stmt := match st with
  | .ClassDef (body := b) .. => b.getD 0 (.Pass ⟨0, 0, 0, 0⟩)
  | s => s
def iniOf (st : Stmt) : IniV := some ("LanguageError.__init__", defArgs (iniFn st), FuncBody.stmts (defBody (iniFn st)), defScope (iniFn st), mainGlobals, [("__class__" : Str)], builtinsNs)
def hd : Hd where
  fn := [ddOf "_law_draws" (top 69), ddOf "_law_mix" (top 70), ddOf "_law_kinds" (top 71), ddOf "_law_made" (top 72), ddOf "_law_raised" (top 73), ddOf "law" (top 74), ddOf "run" (top 67), ddOf "check_bound" (top 66)]
  free := names0 ++ (["super"] : List Str)
  cs := []
  ts := []
  xs := xsL
  xb := "LanguageError"
  is := [("LanguageError", xsL), ("OutOfRange", ["OutOfRange"]), ("TooMany", ["TooMany"]), ("TooLarge", ["TooLarge"]), ("WrongSize", ["WrongSize"]), ("BadType", ["BadType"]), ("BadTree", ["BadTree"]), ("BadCoercion", ["BadCoercion"]), ("BadLabel", ["BadLabel"]), ("BadTypes", ["BadTypes"]), ("BadText", ["BadText"]), ("BadValue", ["BadValue"]), ("BadToken", ["BadToken"]), ("BadPlace", ["BadPlace"]), ("BadProgram", ["BadProgram"]), ("BadTerm", ["BadTerm"]), ("BadCode", ["BadCode"]), ("NameFree", ["NameFree"]), ("BadSites", ["BadSites"]), ("NotAlike", ["NotAlike"]), ("BadHeap", ["BadHeap"]), ("BadRoots", ["BadRoots"]), ("BadSteps", ["BadSteps"]), ("BadModule", ["BadModule"]), ("NotFlat", ["NotFlat"]), ("NotFull", ["NotFull"]), ("NoBlame", ["NoBlame"]), ("HasEnded", ["HasEnded"]), ("ValueError", xsL)]
  file := PySem.Challenge.pw_typedbydegrees_k00_errors_are_apart.main.file
  ini := iniOf (top 1)
  fe := [.exm "OutOfRange" "LanguageError" true]
theorem ck__law_draws : ckDf fns (top 69) f__law_draws = true := by kernel_rfl
theorem bd__law_draws : BindOk (top 69) "_law_draws" := fun _ _ _ _ _ _ us hl => match us, hl with | [_], _ => rfl
theorem ck__law_mix : ckDf fns (top 70) f__law_mix = true := by kernel_rfl
theorem bd__law_mix : BindOk (top 70) "_law_mix" := fun _ _ _ _ _ _ us hl => match us, hl with | [_, _, _], _ => rfl
theorem ck__law_kinds : ckDf fns (top 71) f__law_kinds = true := by kernel_rfl
theorem bd__law_kinds : BindOk (top 71) "_law_kinds" := fun _ _ _ _ _ _ us hl => match us, hl with | [_], _ => rfl
theorem ck__law_made : ckDf fns (top 72) f__law_made = true := by kernel_rfl
theorem bd__law_made : BindOk (top 72) "_law_made" := fun _ _ _ _ _ _ us hl => match us, hl with | [_], _ => rfl
theorem bd__law_raised : BindOk (top 73) "_law_raised" := fun _ _ _ _ _ _ us hl => match us, hl with | [_], _ => rfl
theorem ck_law : ckDf fns (top 74) f_law = true := by kernel_rfl
theorem bd_law : BindOk (top 74) "law" := fun _ _ _ _ _ _ us hl => match us, hl with | [_], _ => rfl
theorem bd_run : BindOk (top 67) "run" := fun _ _ _ _ _ _ us hl => match us, hl with | [_, _], _ => rfl
theorem bd_check_bound : BindOk (top 66) "check_bound" := fun _ _ _ _ _ _ us hl => match us, hl with | [_], _ => rfl
abbrev R : PySem.W.OpenRow := PySem.W.OpenLaw.row PySem.Challenge.rw_typedbydegrees_k00_errors_are_apart
abbrev hk : PySem.W.Hook := hd.hook 4
def ob (s : PySem.W.SharedT) : HdV := hd.obsG 4 (HandSHeadRun.getT s)
theorem ob_eq (s : PySem.W.SharedT) : ob s = hk.obs s.abs := Hd.obsG_eq (HandSHeadRun.getT_eq s)
def loose0 : List Str := ["LanguageError", "OutOfRange", "TooMany", "TooLarge", "WrongSize", "BadType", "BadTree", "BadCoercion", "BadLabel", "BadTypes", "BadText", "BadValue", "BadToken", "BadPlace", "BadProgram", "BadTerm", "BadCode", "NameFree", "BadSites", "NotAlike", "BadHeap", "BadRoots", "BadSteps", "BadModule", "NotFlat", "NotFull", "NoBlame", "HasEnded", "ANY", "PARTS"]
def loose1 : List Str := ["TURNED", "is_id", "composed", "behind_tag", "both", "UNIT", "NIL", "is_blame", "held", "taken", "parted", "first_of", "head_of", "tail_of", "listed", "text_of", "MOST_STEPS", "MODULUS", "EMPTY", "pushed", "with_frame", "found_name", "reckoned", "evaluated", "given", "applied", "of_cells", "of_case", "of_frame", "second_part"]
def loose2 : List Str := ["start", "step", "check_bound", "run", "_law_draws", "_law_mix", "_law_kinds", "_law_made", "_law_raised"]
def loose : List Str := loose0 ++ loose1 ++ loose2
theorem run0 (w : World) : HandSHeadRun.RunEq R (PySem.W.view R.prog [74]) hk ob 20000 loose (w.withFollow "special-get-raises" false) := by
  intro os
  kernel_rfl
theorem run1 (w : World) : HandSHeadRun.RunEq R (PySem.W.view R.prog [74]) hk ob 20000 loose (w.withFollow "special-get-raises" true) := by
  intro os
  kernel_rfl
theorem run (w : World) : HandSHeadRun.RunEq R (PySem.W.view R.prog [74]) hk ob 20000 loose w := PySem.W.byRow2 "special-get-raises" (P := fun w => HandSHeadRun.RunEq R (PySem.W.view R.prog [74]) hk ob 20000 loose w) run0 run1 w
section
variable {K : PySem.W.Frag} {w : World} {hp : Heap} {mg : Str → Option Value}
theorem iniok : IniOk PySem.Challenge.pw_typedbydegrees_k00_errors_are_apart hd := by
  refine .inr ⟨"LanguageError.__init__", defArgs (iniFn (top 1)), defScope (iniFn (top 1)), ⟨5, 8, 5, 13⟩, ⟨5, 8, 5, 15⟩, ⟨5, 8, 5, 24⟩, ⟨5, 25, 5, 27⟩, ⟨5, 8, 5, 28⟩, ⟨5, 8, 5, 28⟩, ⟨6, 8, 6, 12⟩, ⟨6, 8, 6, 15⟩, ⟨6, 18, 6, 20⟩, ⟨6, 8, 6, 20⟩, (do return (← (pure (some false) : Sem (Option Bool))).getD true), ?_⟩
  refine ⟨by kernel_rfl, ?_, by kernel_rfl, ?_, ?_, ?_, ?_, ?_, ?_⟩
  · exact ⟨by kernel_rfl, by kernel_rfl, by kernel_rfl, by decide +kernel, by kernel_rfl, by kernel_rfl, by kernel_rfl, by kernel_rfl, ⟨_, rfl, rfl⟩, by kernel_rfl⟩
  · exact List.mem_append_right _ (.head _)
  · exact fun _ _ _ _ => rfl
  · exact fun _ _ _ _ => rfl
  · exact fun _ _ _ _ => rfl
  · exact fun _ _ _ _ => rfl
  · exact fun _ _ _ _ _ _ _ _ _ _ _ => .of_eq rfl
theorem mgok (c : hd.obs K = hd.val w) (X : K.In hp) (N : hp.Ns mainGlobals mg) : MgOk PySem.Challenge.pw_typedbydegrees_k00_errors_are_apart K w mg hd.G := Hd.mgOk c X N iniok fun _ z => List.mem_append_left _ z
theorem pr__law_raised (base : Heap) (c : hd.obs K = hd.val w) (X : K.In hp) (N : hp.Ns mainGlobals mg) : PrIn PySem.Challenge.pw_typedbydegrees_k00_errors_are_apart w K mg base f__law_raised := by
  obtain ⟨fc, fdc, Fc, hmc, hbc⟩ := Hd.funIn (x := "check_bound") (st := top 66) c X N (.tail _ (.tail _ (.tail _ (.tail _ (.tail _ (.tail _ (.tail _ (.head _)))))))) bd_check_bound
  obtain ⟨fr, fdr, Fr, hmr, hbr⟩ := Hd.funIn (x := "run") (st := top 67) c X N (.tail _ (.tail _ (.tail _ (.tail _ (.tail _ (.tail _ (.head _))))))) bd_run
  obtain ⟨f, fd, F, hm, hb⟩ := Hd.funIn (x := "_law_raised") (st := top 73) c X N (.tail _ (.tail _ (.tail _ (.tail _ (.head _))))) bd__law_raised
  have T : ExcAt PySem.Challenge.pw_typedbydegrees_k00_errors_are_apart K mg "OutOfRange" := Hd.mkrOk c X N iniok "OutOfRange" (by kernel_rfl)
  have LE := (Hd.says_cls c (x := "LanguageError") (.head _)).1
  have OR := (Hd.says_cls c (x := "OutOfRange") (.tail _ (.head _))).1
  refine ⟨_, f, fd, _, rfl, hm, F.kp, hb, fun k hk => ?_⟩
  obtain ⟨k, rfl⟩ : ∃ k', k = k' + 2 := ⟨k - 2, by omega⟩
  have R1 := fn_cb (P := PySem.Challenge.pw_typedbydegrees_k00_errors_are_apart) (w := w) (base := base) (k := k) (b := "bound") (c := "MOST_STEPS") (x := "OutOfRange") (N := ["bound"]) Fc ⟨by kernel_rfl, by kernel_rfl, by kernel_rfl, by decide, by kernel_rfl, by decide +kernel, by decide +kernel⟩ rfl rfl (by kernel_rfl) (by kernel_rfl) (by kernel_rfl) (by kernel_rfl) (by kernel_rfl) T
  have R2 := fn_run (z := "term") (b := "bound") (N := ["term", "bound"]) Fr R1 hmc Fc.kp hbc ⟨by kernel_rfl, by kernel_rfl, by kernel_rfl, by decide, by kernel_rfl, by decide +kernel, by decide +kernel⟩ rfl rfl (.inl (by kernel_rfl)) (by kernel_rfl) (by kernel_rfl) (by kernel_rfl) (by kernel_rfl)
  refine fn_raised (N := ["many", "e"]) (i := 1) F R2 hmr Fr.kp hbr ⟨by kernel_rfl, by kernel_rfl, by kernel_rfl, by decide, by kernel_rfl, by decide +kernel, by decide +kernel⟩ rfl (by kernel_rfl) rfl (.inl (by kernel_rfl)) (by kernel_rfl) (by kernel_rfl) rfl (by kernel_rfl) (by kernel_rfl) (by kernel_rfl) (by kernel_rfl) (by kernel_rfl) (by kernel_rfl) (by kernel_rfl) (PySem.W.mg_of X N LE) ⟨_, OR⟩ fun C hC => ?_
  have e := Hd.says_one c (x := "OutOfRange") (.tail _ (.head _)) hC
  subst e
  exact He.exm_ok (Hd.says_fe c (.head _))
theorem dfin (base : Heap) (c : hd.obs K = hd.val w) (X : K.In hp) (N : hp.Ns mainGlobals mg) : ∀ d ∈ T, (∃ st, DfIn K mg fns st d) ∨ PrIn PySem.Challenge.pw_typedbydegrees_k00_errors_are_apart w K mg base d := by
  intro d hd
  simp only [T, List.mem_cons, List.not_mem_nil, or_false] at hd
  rcases hd with rfl | rfl | rfl | rfl | rfl | rfl
  · exact .inl ⟨top 69, Hd.dfIn c X N (.head _) bd__law_draws rfl ck__law_draws rfl⟩
  · exact .inl ⟨top 70, Hd.dfIn c X N (.tail _ (.head _)) bd__law_mix rfl ck__law_mix rfl⟩
  · exact .inl ⟨top 71, Hd.dfIn c X N (.tail _ (.tail _ (.head _))) bd__law_kinds rfl ck__law_kinds rfl⟩
  · exact .inl ⟨top 72, Hd.dfIn c X N (.tail _ (.tail _ (.tail _ (.head _)))) bd__law_made rfl ck__law_made rfl⟩
  · exact .inr (pr__law_raised base c X N)
  · exact .inl ⟨top 74, Hd.dfIn c X N (.tail _ (.tail _ (.tail _ (.tail _ (.tail _ (.head _)))))) bd_law rfl ck_law rfl⟩
theorem fnsT : ∀ f ∈ fns, hd.G.m f = true ∨ ∃ d ∈ T, d.name = f := by
  intro f hf
  have : fns = T.map (·.name) ++ hd.xs := rfl
  rw [this] at hf
  rcases List.mem_append.mp hf with hf | hf
  · obtain ⟨d, hd, e⟩ := List.mem_map.mp hf
    exact .inr ⟨d, hd, e⟩
  · exact .inl (by show hd.xs.contains f = true; simpa using hf)
end
/-- what is left: the law by the evaluator -/
theorem of_ev {k : Nat} (hr : Room (k + 2) callerA) (law : ∀ ns : List Int, ns.length ≤ 63 → (∀ k ∈ ns, Builtin.Int.intBits k ≤ 1048576) → callN T hd.G (k + 1) "law" [.list (ns.map .int)] = some (.bool true)) :
    PySem.W.WalkO (PySem.W.view R.prog [74]) loose (PySem.W.XL (PySem.W.view R.prog [74]) []) hk.says R.toRowW (HandSHeadRun.topDef R.prog 74) [] (fun f vs => PySem.call f vs) := by
  refine walkG (l := PySem.Challenge.rw_typedbydegrees_k00_errors_are_apart) (n := 63) (k := k + 2) (x := "script") rfl (by decide) (by kernel_rfl) hr ?_
  intro w mg fa h Y G hmg0
  obtain ⟨K, KX, c⟩ := Y
  have hmg : mg ("law" : Str) = some (.ref fa) := by
    have e : (HandSHeadRun.topDef R.prog 74).name = ("law" : Str) := by kernel_rfl
    rw [← e]
    exact hmg0
  have M := mgok c KX G
  have D : DfIn K mg fns (top 74) f_law := Hd.dfIn (d := f_law) (st := top 74) c KX G (.tail _ (.tail _ (.tail _ (.tail _ (.tail _ (.head _)))))) bd_law rfl ck_law rfl
  obtain ⟨f, fd, F, hm, hb⟩ := D.ex
  have e := hmg.symm.trans hm
  cases e
  have hb' : ∀ (s : Shared) (u : Value), BindsTo s fd ⟨[u], []⟩ [("script", u)] := fun s u => by
    obtain ⟨oc, od, kV, doc, pm, an, cdv, ct, osl, rfl, lk, hcd⟩ := F.ex
    exact .of_eq (bd_law kV doc pm an cdv ct [u] rfl)
  refine ⟨K, fd, callN T hd.G (k + 1) "law", KX, hb', law, fun base hK hN => ?_⟩
  have hT := dfin base c KX G
  have hc : ∀ f ∈ fns, hd.G.m f = true ∨ CallB PySem.Challenge.pw_typedbydegrees_k00_errors_are_apart w K mg base (k + 1) f (callN T hd.G k f) := fun x hx => (fnsT x hx).imp id fun ⟨d, hd', e⟩ => by
    subst e
    exact calls_ok M hT fnsT k d hd'
  exact fn_one (base := base) M hc (d := f_law) (by kernel_rfl) rfl D.body D.ck F
end K00
section
open PySem PySem.W PySem.Calls PyProof.Rows EV
theorem K00.holds_of {k : Nat} (hr : L2.Room (k + 2) callerA) (law : ∀ ns : List Int, ns.length ≤ 63 → (∀ k ∈ ns, Builtin.Int.intBits k ≤ 1048576) → callN K00.T K00.hd.G (k + 1) "law" [.list (ns.map .int)] = some (.bool true)) : PySem.Challenge.rw_typedbydegrees_k00_errors_are_apart.Holds := by
  w_on; o_law
  refine HandSHeadRun.head_any (r := OpenLaw.row PySem.Challenge.rw_typedbydegrees_k00_errors_are_apart) (q := view (OpenLaw.row PySem.Challenge.rw_typedbydegrees_k00_errors_are_apart).prog [74]) (H := K00.hk) (ob := K00.ob) (M := 20000) (loose := K00.loose) (d := HandSHeadRun.topDef (OpenLaw.row PySem.Challenge.rw_typedbydegrees_k00_errors_are_apart).prog 74) (kwd := []) K00.ob_eq
    (by kernel_rfl) (fun s => by kernel_rfl) K00.run (by kernel_rfl) (by kernel_rfl) (by kernel_rfl) (by rfl) (by first | assumption | decide +kernel) (by decide +kernel) ⟨rfl, rfl, rfl, rfl, rfl, by decide +kernel⟩ ?hw ?hc
  case hw => w_witness2
  case hc => exact K00.of_ev hr law
end

namespace K00
open PySem L2 EV
theorem r__law_draws (k : Nat) (v_script : D) : callN T hd.G (k + 1) "_law_draws" [v_script] =
    ((((((bD .len [v_script]).bind fun x5 => some ([x5])).bind fun ys6 => some ((PyData.int 63) :: ys6)).bind fun ds7 => bD .min ds7).bind fun x8 => rng1 x8).bind fun xs9 => forL (fun σ x => asg f__law_draws.N σ (forT (stAt f__law_draws.body 1)) x) (fun σ => exs ⟨f__law_draws.N, hd.G, callN T hd.G k⟩ 57 σ (forB (stAt f__law_draws.body 1))) xs9 [Sl.sh v_script, Sl.ow [], Sl.un, Sl.un, Sl.un, Sl.un]).bind (fun fl4 => match fl4 with | .next σ3 => exsK ⟨f__law_draws.N, hd.G, callN T hd.G k⟩ 58 σ3 (f__law_draws.body.drop 2) endK | fl4 => endK fl4) := (callK (d := f__law_draws) (by kernel_rfl) rfl rfl).trans (by kernel_rfl)
theorem r__law_draws_1g (z_0 z_1 z_2 z_3 z_4 z_5 : Sl) (v_x : D) : asg f__law_draws.N [z_0, z_1, z_2, z_3, z_4, z_5] (forT (stAt f__law_draws.body 1)) v_x =
    some [z_0, z_1, Sl.sh v_x, z_3, z_4, z_5] := by kernel_rfl
theorem r__law_draws_1b (k : Nat) (w_0 : D) (l_1 : List D) (s_3 : Sl) (s_4 : Sl) (s_5 : Sl) (v_x : D) : exs ⟨f__law_draws.N, hd.G, callN T hd.G k⟩ 57 [Sl.sh w_0, Sl.ow l_1, Sl.sh v_x, s_3, s_4, s_5] (forB (stAt f__law_draws.body 1)) =
    (((ixD w_0 v_x).bind fun x12 => some ([x12])).bind fun ds13 => bD .abs ds13).bind fun x14 => ((binD .Pow (PyData.int 10) (PyData.int 18)).bind fun x49 => cmpD .GtE x14 x49).bind fun k17 => cond k17 (((rng1 (PyData.int 60)).bind fun xs20 => forL (fun σ x => asg f__law_draws.N σ (forT (stAt (ifA (stAt (forB (stAt f__law_draws.body 1)) 1)) 0)) x) (fun σ => exs ⟨f__law_draws.N, hd.G, callN T hd.G k⟩ 52 σ (forB (stAt (ifA (stAt (forB (stAt f__law_draws.body 1)) 1)) 0))) xs20 [Sl.sh w_0, Sl.ow l_1, Sl.sh v_x, Sl.sh x14, s_4, s_5]).bind (fun fl19 => match fl19 with | .next σ18 => exsK ⟨f__law_draws.N, hd.G, callN T hd.G k⟩ 53 σ18 ((ifA (stAt (forB (stAt f__law_draws.body 1)) 1)).drop 1) (fun fl16 => match fl16 with | .next σ15 => exsK ⟨f__law_draws.N, hd.G, callN T hd.G k⟩ 55 σ15 ((forB (stAt f__law_draws.body 1)).drop 2) some | fl16 => some fl16) | fl19 => (fun fl16 => match fl16 with | .next σ15 => exsK ⟨f__law_draws.N, hd.G, callN T hd.G k⟩ 55 σ15 ((forB (stAt f__law_draws.body 1)).drop 2) some | fl16 => some fl16) fl19)) ((((((binD .Mult x14 (PyData.int 48271)).bind fun x23 => ((binD .Add v_x (PyData.int 1)).bind fun x24 => binD .Mult x24 (PyData.int 69621)).bind fun x25 => binD .Add x23 x25).bind fun x26 => some ([x26])).bind fun ds27 => bD .int ds27).bind fun x28 => binD .Mod x28 (PyData.int 2147483647)).bind fun x29 => ((((((binD .Mult x29 (PyData.int 16807)).bind fun x32 => (binD .Mult (PyData.int 11) v_x).bind fun x33 => binD .Add x32 x33).bind fun x34 => binD .Add x34 (PyData.int 5)).bind fun x35 => some ([x35])).bind fun ds36 => bD .int ds36).bind fun x37 => binD .Mod x37 (PyData.int 2147483629)).bind fun x38 => ((bD .int [x38]).bind fun x41 => binD .Mod x41 (PyData.int 65536)).bind fun x42 => cond (decide ((l_1).length < few)) (((((binD .FloorDiv x38 (PyData.int 65536)).bind fun x45 => some ([x45])).bind fun ds46 => bD .int ds46).bind fun x47 => binD .Mod x47 (PyData.int 32768)).bind fun x48 => cond (decide (((l_1 ++ [x42])).length < few)) (some (Fl.next [Sl.sh w_0, Sl.ow ((l_1 ++ [x42]) ++ [x48]), Sl.sh v_x, Sl.sh x14, s_4, Sl.sh x38])) none) none) := bodyK.trans (by kernel_rfl)
theorem r__law_draws_1b1t0g (z_0 z_1 z_2 z_3 z_4 z_5 : Sl) (v_x : D) : asg f__law_draws.N [z_0, z_1, z_2, z_3, z_4, z_5] (forT (stAt (ifA (stAt (forB (stAt f__law_draws.body 1)) 1)) 0)) v_x =
    some [z_0, z_1, z_2, z_3, Sl.sh v_x, z_5] := by kernel_rfl
theorem r__law_draws_1b1t0b (k : Nat) (w_0 : D) (l_1 : List D) (w_2 : D) (s_3 : Sl) (s_5 : Sl) (v_x : D) : exs ⟨f__law_draws.N, hd.G, callN T hd.G k⟩ 52 [Sl.sh w_0, Sl.ow l_1, Sl.sh w_2, s_3, Sl.sh v_x, s_5] (forB (stAt (ifA (stAt (forB (stAt f__law_draws.body 1)) 1)) 0)) =
    ((rd true s_3).bind fun x63 => cmpD .Gt x63 (PyData.int 0)).bind fun k52 => cond k52 (((((rd true s_3).bind fun x55 => some ([x55])).bind fun ds56 => bD .int ds56).bind fun x57 => binD .Mod x57 (PyData.int 65536)).bind fun x58 => cond (decide ((l_1).length < few)) (((rd true s_3).bind fun x61 => binD .FloorDiv x61 (PyData.int 65536)).bind fun x62 => some (Fl.next [Sl.sh w_0, Sl.ow (l_1 ++ [x58]), Sl.sh w_2, Sl.sh x62, Sl.sh v_x, s_5])) none) (some (Fl.next [Sl.sh w_0, Sl.ow l_1, Sl.sh w_2, s_3, Sl.sh v_x, s_5])) := bodyK.trans (by kernel_rfl)
theorem r__law_draws_1a (k : Nat) (w_0 : D) (l_1 : List D) (s_2 : Sl) (s_3 : Sl) (s_4 : Sl) (s_5 : Sl) : exsK ⟨f__law_draws.N, hd.G, callN T hd.G k⟩ 58 [Sl.sh w_0, Sl.ow l_1, s_2, s_3, s_4, s_5] (f__law_draws.body.drop 2) endK =
    some (PyData.list l_1) := by kernel_rfl
theorem r__law_mix (k : Nat) (v_draws v_k v_many : D) : callN T hd.G (k + 1) "_law_mix" [v_draws, v_k, v_many] =
    ((bD .len [v_draws]).bind fun x50 => cmpD .Gt x50 (PyData.int 0)).bind fun k5 => cond k5 ((((bD .int [v_k]).bind fun x8 => (bD .len [v_draws]).bind fun x9 => binD .Mod x8 x9).bind fun x10 => ixD v_draws x10).bind fun x11 => ((bD .len [v_draws]).bind fun x30 => cmpD .Lt v_k x30).bind fun k14 => cond k14 (((bD .int [x11]).bind fun x17 => binD .Mod x17 v_many).bind fun x18 => some x18) (((((((((binD .Mult x11 (PyData.int 7919)).bind fun x21 => (binD .Mult v_k (PyData.int 104729)).bind fun x22 => binD .Add x21 x22).bind fun x23 => some ([x23])).bind fun ds24 => bD .int ds24).bind fun x25 => binD .FloorDiv x25 (PyData.int 3)).bind fun x26 => some ([x26])).bind fun ds27 => bD .int ds27).bind fun x28 => binD .Mod x28 v_many).bind fun x29 => some x29)) (((bD .len [v_draws]).bind fun x49 => cmpD .Lt v_k x49).bind fun k33 => cond k33 (((bD .int [(PyData.int 0)]).bind fun x36 => binD .Mod x36 v_many).bind fun x37 => some x37) (((((((((binD .Mult (PyData.int 0) (PyData.int 7919)).bind fun x40 => (binD .Mult v_k (PyData.int 104729)).bind fun x41 => binD .Add x40 x41).bind fun x42 => some ([x42])).bind fun ds43 => bD .int ds43).bind fun x44 => binD .FloorDiv x44 (PyData.int 3)).bind fun x45 => some ([x45])).bind fun ds46 => bD .int ds46).bind fun x47 => binD .Mod x47 v_many).bind fun x48 => some x48)) := (callK (d := f__law_mix) (by kernel_rfl) rfl rfl).trans (by kernel_rfl)
theorem r__law_kinds (k : Nat) (v_e : D) : callN T hd.G (k + 1) "_law_kinds" [v_e] =
    (((hd.G.i "OutOfRange" v_e).bind fun x54 => ((hd.G.i "TooMany" v_e).bind fun x52 => ((hd.G.i "TooLarge" v_e).bind fun x50 => ((hd.G.i "WrongSize" v_e).bind fun x48 => ((hd.G.i "BadType" v_e).bind fun x46 => ((hd.G.i "BadTree" v_e).bind fun x44 => ((hd.G.i "BadCoercion" v_e).bind fun x42 => ((hd.G.i "BadLabel" v_e).bind fun x40 => ((hd.G.i "BadTypes" v_e).bind fun x38 => ((hd.G.i "BadText" v_e).bind fun x36 => ((hd.G.i "BadValue" v_e).bind fun x34 => ((hd.G.i "BadToken" v_e).bind fun x32 => ((hd.G.i "BadPlace" v_e).bind fun x30 => ((hd.G.i "BadProgram" v_e).bind fun x28 => ((hd.G.i "BadTerm" v_e).bind fun x26 => ((hd.G.i "BadCode" v_e).bind fun x24 => ((hd.G.i "NameFree" v_e).bind fun x22 => ((hd.G.i "BadSites" v_e).bind fun x20 => ((hd.G.i "NotAlike" v_e).bind fun x18 => ((hd.G.i "BadHeap" v_e).bind fun x16 => ((hd.G.i "BadRoots" v_e).bind fun x14 => ((hd.G.i "BadSteps" v_e).bind fun x12 => ((hd.G.i "BadModule" v_e).bind fun x10 => ((hd.G.i "NotFlat" v_e).bind fun x8 => ((hd.G.i "NotFull" v_e).bind fun x6 => ((hd.G.i "NoBlame" v_e).bind fun x4 => ((hd.G.i "HasEnded" v_e).bind fun x3 => some ([x3])).bind fun ys5 => some (x4 :: ys5)).bind fun ys7 => some (x6 :: ys7)).bind fun ys9 => some (x8 :: ys9)).bind fun ys11 => some (x10 :: ys11)).bind fun ys13 => some (x12 :: ys13)).bind fun ys15 => some (x14 :: ys15)).bind fun ys17 => some (x16 :: ys17)).bind fun ys19 => some (x18 :: ys19)).bind fun ys21 => some (x20 :: ys21)).bind fun ys23 => some (x22 :: ys23)).bind fun ys25 => some (x24 :: ys25)).bind fun ys27 => some (x26 :: ys27)).bind fun ys29 => some (x28 :: ys29)).bind fun ys31 => some (x30 :: ys31)).bind fun ys33 => some (x32 :: ys33)).bind fun ys35 => some (x34 :: ys35)).bind fun ys37 => some (x36 :: ys37)).bind fun ys39 => some (x38 :: ys39)).bind fun ys41 => some (x40 :: ys41)).bind fun ys43 => some (x42 :: ys43)).bind fun ys45 => some (x44 :: ys45)).bind fun ys47 => some (x46 :: ys47)).bind fun ys49 => some (x48 :: ys49)).bind fun ys51 => some (x50 :: ys51)).bind fun ys53 => some (x52 :: ys53)).bind fun ys55 => some (x54 :: ys55)).bind fun ds56 => cond (decide (ds56.length ≤ few)) (some (PyData.list ds56)) none).bind fun x57 => some x57 := (callK (d := f__law_kinds) (by kernel_rfl) rfl rfl).trans (by kernel_rfl)
theorem r__law_made (k : Nat) (v_n : D) : callN T hd.G (k + 1) "_law_made" [v_n] =
    (((((binD .Add v_n (PyData.int 0)).bind fun x3 => some ([x3])).bind fun ds4 => mkD "OutOfRange" ds4).bind fun x108 => ((((binD .Add v_n (PyData.int 1)).bind fun x5 => some ([x5])).bind fun ds6 => mkD "TooMany" ds6).bind fun x106 => ((((binD .Add v_n (PyData.int 2)).bind fun x7 => some ([x7])).bind fun ds8 => mkD "TooLarge" ds8).bind fun x104 => ((((binD .Add v_n (PyData.int 3)).bind fun x9 => some ([x9])).bind fun ds10 => mkD "WrongSize" ds10).bind fun x102 => ((((binD .Add v_n (PyData.int 4)).bind fun x11 => some ([x11])).bind fun ds12 => mkD "BadType" ds12).bind fun x100 => ((((binD .Add v_n (PyData.int 5)).bind fun x13 => some ([x13])).bind fun ds14 => mkD "BadTree" ds14).bind fun x98 => ((((binD .Add v_n (PyData.int 6)).bind fun x15 => some ([x15])).bind fun ds16 => mkD "BadCoercion" ds16).bind fun x96 => ((((binD .Add v_n (PyData.int 7)).bind fun x17 => some ([x17])).bind fun ds18 => mkD "BadLabel" ds18).bind fun x94 => ((((binD .Add v_n (PyData.int 8)).bind fun x19 => some ([x19])).bind fun ds20 => mkD "BadTypes" ds20).bind fun x92 => ((((binD .Add v_n (PyData.int 9)).bind fun x21 => some ([x21])).bind fun ds22 => mkD "BadText" ds22).bind fun x90 => ((((binD .Add v_n (PyData.int 10)).bind fun x23 => some ([x23])).bind fun ds24 => mkD "BadValue" ds24).bind fun x88 => ((((binD .Add v_n (PyData.int 11)).bind fun x25 => some ([x25])).bind fun ds26 => mkD "BadToken" ds26).bind fun x86 => ((((binD .Add v_n (PyData.int 12)).bind fun x27 => some ([x27])).bind fun ds28 => mkD "BadPlace" ds28).bind fun x84 => ((((binD .Add v_n (PyData.int 13)).bind fun x29 => some ([x29])).bind fun ds30 => mkD "BadProgram" ds30).bind fun x82 => ((((binD .Add v_n (PyData.int 14)).bind fun x31 => some ([x31])).bind fun ds32 => mkD "BadTerm" ds32).bind fun x80 => ((((binD .Add v_n (PyData.int 15)).bind fun x33 => some ([x33])).bind fun ds34 => mkD "BadCode" ds34).bind fun x78 => ((((binD .Add v_n (PyData.int 16)).bind fun x35 => some ([x35])).bind fun ds36 => mkD "NameFree" ds36).bind fun x76 => ((((binD .Add v_n (PyData.int 17)).bind fun x37 => some ([x37])).bind fun ds38 => mkD "BadSites" ds38).bind fun x74 => ((((binD .Add v_n (PyData.int 18)).bind fun x39 => some ([x39])).bind fun ds40 => mkD "NotAlike" ds40).bind fun x72 => ((((binD .Add v_n (PyData.int 19)).bind fun x41 => some ([x41])).bind fun ds42 => mkD "BadHeap" ds42).bind fun x70 => ((((binD .Add v_n (PyData.int 20)).bind fun x43 => some ([x43])).bind fun ds44 => mkD "BadRoots" ds44).bind fun x68 => ((((binD .Add v_n (PyData.int 21)).bind fun x45 => some ([x45])).bind fun ds46 => mkD "BadSteps" ds46).bind fun x66 => ((((binD .Add v_n (PyData.int 22)).bind fun x47 => some ([x47])).bind fun ds48 => mkD "BadModule" ds48).bind fun x64 => ((((binD .Add v_n (PyData.int 23)).bind fun x49 => some ([x49])).bind fun ds50 => mkD "NotFlat" ds50).bind fun x62 => ((((binD .Add v_n (PyData.int 24)).bind fun x51 => some ([x51])).bind fun ds52 => mkD "NotFull" ds52).bind fun x60 => ((((binD .Add v_n (PyData.int 25)).bind fun x53 => some ([x53])).bind fun ds54 => mkD "NoBlame" ds54).bind fun x58 => ((((binD .Add v_n (PyData.int 26)).bind fun x55 => some ([x55])).bind fun ds56 => mkD "HasEnded" ds56).bind fun x57 => some ([x57])).bind fun ys59 => some (x58 :: ys59)).bind fun ys61 => some (x60 :: ys61)).bind fun ys63 => some (x62 :: ys63)).bind fun ys65 => some (x64 :: ys65)).bind fun ys67 => some (x66 :: ys67)).bind fun ys69 => some (x68 :: ys69)).bind fun ys71 => some (x70 :: ys71)).bind fun ys73 => some (x72 :: ys73)).bind fun ys75 => some (x74 :: ys75)).bind fun ys77 => some (x76 :: ys77)).bind fun ys79 => some (x78 :: ys79)).bind fun ys81 => some (x80 :: ys81)).bind fun ys83 => some (x82 :: ys83)).bind fun ys85 => some (x84 :: ys85)).bind fun ys87 => some (x86 :: ys87)).bind fun ys89 => some (x88 :: ys89)).bind fun ys91 => some (x90 :: ys91)).bind fun ys93 => some (x92 :: ys93)).bind fun ys95 => some (x94 :: ys95)).bind fun ys97 => some (x96 :: ys97)).bind fun ys99 => some (x98 :: ys99)).bind fun ys101 => some (x100 :: ys101)).bind fun ys103 => some (x102 :: ys103)).bind fun ys105 => some (x104 :: ys105)).bind fun ys107 => some (x106 :: ys107)).bind fun ys109 => some (x108 :: ys109)).bind fun ds110 => cond (decide (ds110.length ≤ few)) (some (PyData.list ds110)) none).bind fun x111 => some x111 := (callK (d := f__law_made) (by kernel_rfl) rfl rfl).trans (by kernel_rfl)
theorem r_law (k : Nat) (v_script : D) : callN T hd.G (k + 1) "law" [v_script] =
    (callN T hd.G k "_law_draws" [v_script]).bind fun x3 => ((callN T hd.G k "_law_mix" [x3, (PyData.int 0), (PyData.int 60000)]).bind fun x6 => binD .Sub x6 (PyData.int 30000)).bind fun x7 => (callN T hd.G k "_law_made" [x7]).bind fun x10 => (((bD .len [x10]).bind fun x13 => rng1 x13).bind fun xs14 => forL (fun σ x => asg f_law.N σ (forT (stAt f_law.body 3)) x) (fun σ => exs ⟨f_law.N, hd.G, callN T hd.G k⟩ 55 σ (forB (stAt f_law.body 3))) xs14 [Sl.sh v_script, Sl.sh x3, Sl.sh x7, Sl.sh x10, Sl.un, Sl.un, Sl.un, Sl.un, Sl.un, Sl.un]).bind (fun fl12 => match fl12 with | .next σ11 => exsK ⟨f_law.N, hd.G, callN T hd.G k⟩ 56 σ11 (f_law.body.drop 4) endK | fl12 => endK fl12) := (callK (d := f_law) (by kernel_rfl) rfl rfl).trans (by kernel_rfl)
theorem r_law_3g (z_0 z_1 z_2 z_3 z_4 z_5 z_6 z_7 z_8 z_9 : Sl) (v_x : D) : asg f_law.N [z_0, z_1, z_2, z_3, z_4, z_5, z_6, z_7, z_8, z_9] (forT (stAt f_law.body 3)) v_x =
    some [z_0, z_1, z_2, z_3, Sl.sh v_x, z_5, z_6, z_7, z_8, z_9] := by kernel_rfl
theorem r_law_3b (k : Nat) (w_0 : D) (w_1 : D) (w_2 : D) (w_3 : D) (v_x : D) : exs ⟨f_law.N, hd.G, callN T hd.G k⟩ 55 [Sl.sh w_0, Sl.sh w_1, Sl.sh w_2, Sl.sh w_3, Sl.sh v_x, Sl.un, Sl.un, Sl.un, Sl.un, Sl.un] (forB (stAt f_law.body 3)) =
    (((((ixD w_3 v_x).bind fun x53 => hd.G.i "LanguageError" x53).bind fun x54 => truD x54).map (!·)).bind fun k46 => cond k46 (some true) (((((ixD w_3 v_x).bind fun x51 => hd.G.i "ValueError" x51).bind fun x52 => truD x52).map (!·)).bind fun k47 => cond k47 (some true) (((ixD w_3 v_x).bind fun x48 => hd.G.a "at" x48).bind fun x49 => (binD .Add w_2 v_x).bind fun x50 => cmpD .NotEq x49 x50))).bind fun k17 => cond k17 (some (Fl.ret (PyData.bool false))) (((((ixD w_3 v_x).bind fun x37 => some ([x37])).bind fun ds38 => callN T hd.G k "_law_kinds" ds38).bind fun x39 => (((bD .len [w_3]).bind fun x41 => rng1 x41).bind fun xs42 => lim (compM (fun x43 => ((cmpD .Eq x43 v_x).map PyData.bool).bind fun x44 => some (some x44)) xs42)).bind fun x45 => cmpD .NotEq x39 x45).bind fun k22 => cond k22 (some (Fl.ret (PyData.bool false))) ((((((ixD w_3 v_x).bind fun x34 => hd.G.a "at" x34).bind fun x35 => (isTy .bool x35).map PyData.bool).bind fun x36 => truD x36).bind fun k30 => cond k30 (some true) (((((ixD w_3 v_x).bind fun x31 => hd.G.a "at" x31).bind fun x32 => (isTy .int x32).map PyData.bool).bind fun x33 => truD x33).map (!·))).bind fun k27 => cond k27 (some (Fl.ret (PyData.bool false))) (some (Fl.next [Sl.sh w_0, Sl.sh w_1, Sl.sh w_2, Sl.sh w_3, Sl.sh v_x, Sl.un, Sl.un, Sl.un, Sl.un, Sl.un])))) := bodyK.trans (by kernel_rfl)
theorem r_law_3a (k : Nat) (w_0 : D) (w_1 : D) (w_2 : D) (w_3 : D) (s_4 : Sl) : exsK ⟨f_law.N, hd.G, callN T hd.G k⟩ 56 [Sl.sh w_0, Sl.sh w_1, Sl.sh w_2, Sl.sh w_3, s_4, Sl.un, Sl.un, Sl.un, Sl.un, Sl.un] (f_law.body.drop 4) endK =
    (mkD "LanguageError" [w_2]).bind fun x57 => (((hd.G.a "at" x57).bind fun x89 => cmpD .NotEq x89 w_2).bind fun k85 => cond k85 (some true) (((callN T hd.G k "_law_kinds" [x57]).bind fun x88 => cmpD .In (PyData.bool true) x88).bind fun k86 => cond k86 (some true) (((hd.G.i "ValueError" x57).bind fun x87 => truD x87).map (!·)))).bind fun k60 => cond k60 (some (PyData.bool false)) (((callN T hd.G k "_law_mix" [w_1, (PyData.int 1), (PyData.int 4)]).bind fun x65 => ixD (PyData.list [(PyData.int (-1)), (PyData.int (-2)), (PyData.int (-7)), (PyData.int (-99))]) x65).bind fun x66 => (callN T hd.G k "_law_raised" [x66]).bind fun x69 => (((cmpD .IsNot x69 PyData.none).map PyData.bool).bind fun x73 => (truD x73).bind fun k72 => cond k72 (((hd.G.a "at" x69).bind fun x75 => (cmpD .Eq x75 x66).map PyData.bool).bind fun x76 => (truD x76).bind fun k74 => cond k74 ((callN T hd.G k "_law_kinds" [x69]).bind fun x77 => (((bD .len [w_3]).bind fun x79 => rng1 x79).bind fun xs80 => lim (compM (fun x81 => ((cmpD .Eq x81 (PyData.int 0)).map PyData.bool).bind fun x82 => some (some x82)) xs80)).bind fun x83 => (cmpD .Eq x77 x83).map PyData.bool) (some x76)) (some x73)).bind fun x84 => some x84) := by kernel_rfl
end K00

namespace EV
open PySem L2
theorem atI_nat {α : Type} {xs : List α} {i : Int} {x : α} (h0 : 0 ≤ i) (h : xs[i.toNat]? = some x) : L2.atI xs i = some x := by
  have hl := (List.getElem?_eq_some_iff.mp h).1
  unfold L2.atI ixN
  have h1 : i < (xs.length : Int) := by omega
  rw [if_pos h0, if_pos h1]
  exact h
theorem ix_lst {xs : List D} {i : Int} {x : D} (h0 : 0 ≤ i) (h : xs[i.toNat]? = some x) : ixD (.list xs) (.int i) = some x := atI_nat h0 h
theorem forL_inv {g : List Sl → D → Option (List Sl)} {body : List Sl → Option Fl} (I : Nat → List Sl → Prop) : ∀ (xs : List D) (i : Nat) (σ : List Sl), I i σ →
    (∀ j (hj : j < xs.length) σ, I (i + j) σ → ∃ σ1, g σ xs[j] = some σ1 ∧ ∃ σ2, body σ1 = some (.next σ2) ∧ I (i + j + 1) σ2) → ∃ σ', forL g body xs σ = some (.next σ') ∧ I (i + xs.length) σ'
  | [], i, σ, h, _ => ⟨σ, rfl, h⟩
  | x :: r, i, σ, h, st => by
    obtain ⟨σ1, h1, σ2, h2, h3⟩ := st 0 (Nat.succ_pos _) σ h
    obtain ⟨σ', h4, h5⟩ := forL_inv I r (i + 1) σ2 h3 fun j hj σ hI => by
      have := st (j + 1) (Nat.succ_lt_succ hj) σ (by rw [show i + (j + 1) = i + 1 + j by omega]; exact hI)
      rw [show i + (j + 1) + 1 = i + 1 + j + 1 by omega] at this
      exact this
    refine ⟨σ', ?_, by rw [List.length_cons, show i + (r.length + 1) = i + 1 + r.length by omega]; exact h5⟩
    unfold forL
    have h1 : g σ x = some σ1 := h1
    rw [h1, Option.bind_some, h2]
    exact h4
theorem obs1 {α β : Type} (x : α) (f : α → Option β) : (some x).bind f = f x := eq_of_heq (heq_of_eq rfl)
theorem ct {α : Type} (x y : α) : cond true x y = x := eq_of_heq (heq_of_eq rfl)
theorem cf {α : Type} (x y : α) : cond false x y = y := eq_of_heq (heq_of_eq rfl)
@[simp] theorem len_l (xs : List D) : bD .len [.list xs] = some (.int xs.length) := eq_of_heq (heq_of_eq rfl)
@[simp] theorem min_i (i j : Int) : bD .min [.int i, .int j] = some (.int (cond (decide (j < i)) j i)) := eq_of_heq (heq_of_eq rfl)
@[simp] theorem abs_i (i : Int) : bD .abs [.int i] = some (.int (cond (decide (i < 0)) (-i) i)) := eq_of_heq (heq_of_eq rfl)
@[simp] theorem int_i (i : Int) : bD .int [.int i] = some (.int i) := eq_of_heq (heq_of_eq rfl)
@[simp] theorem add_i (i j : Int) : binD .Add (.int i) (.int j) = some (.int (i + j)) := eq_of_heq (heq_of_eq rfl)
@[simp] theorem sub_i (i j : Int) : binD .Sub (.int i) (.int j) = some (.int (i - j)) := eq_of_heq (heq_of_eq rfl)
@[simp] theorem lt_i (i j : Int) : cmpD .Lt (.int i) (.int j) = some (decide (i < j)) := eq_of_heq (heq_of_eq rfl)
@[simp] theorem le_i (i j : Int) : cmpD .LtE (.int i) (.int j) = some (decide (i ≤ j)) := eq_of_heq (heq_of_eq rfl)
@[simp] theorem gt_i (i j : Int) : cmpD .Gt (.int i) (.int j) = some (decide (j < i)) := eq_of_heq (heq_of_eq rfl)
@[simp] theorem ge_i (i j : Int) : cmpD .GtE (.int i) (.int j) = some (decide (j ≤ i)) := eq_of_heq (heq_of_eq rfl)
@[simp] theorem eq_i (i j : Int) : cmpD .Eq (.int i) (.int j) = some (i == j) := eq_of_heq (heq_of_eq rfl)
@[simp] theorem ne_i (i j : Int) : cmpD .NotEq (.int i) (.int j) = some (!(i == j)) := eq_of_heq (heq_of_eq rfl)
theorem mulR (i j : Int) (h : small64 j = true) : binD .Mult (.int i) (.int j) = some (.int (i * j)) := by
  show cond (small64 i || small64 j) _ none = _
  rw [h, Bool.or_true]; rfl
theorem mulL (i j : Int) (h : small64 i = true) : binD .Mult (.int i) (.int j) = some (.int (i * j)) := by
  show cond (small64 i || small64 j) _ none = _
  rw [h, Bool.true_or]; rfl
theorem modP (i j : Int) (h : 0 < j) : binD .Mod (.int i) (.int j) = some (.int (i % j)) := by
  show cond (decide (0 < j)) _ none = _
  rw [decide_eq_true h]; rfl
theorem divP (i j : Int) (h : 0 < j) (h2 : j < 1073741824) : binD .FloorDiv (.int i) (.int j) = some (.int (i / j)) := by
  show cond (decide (0 < j) && decide (j < 1073741824)) _ none = _
  rw [decide_eq_true h, decide_eq_true h2]; rfl
theorem rng1_i (j : Int) (h : small62 j = true) : rng1 (.int j) = some (intRange 0 j.toNat) := by
  show cond (small62 j) _ none = _
  rw [h]; rfl
theorem pow18 : binD .Pow (.int 10) (.int 18) = some (.int 1000000000000000000) := by kernel_rfl
theorem range_at {n : Nat} {lo : Int} {j : Nat} (h : j < (intRange lo n).length) : (intRange lo n)[j] = .int (lo + j) := (intRange_get n lo j _ (List.getElem?_eq_getElem h)).2
end EV
namespace K00
open PySem L2 EV
/-- what the draws are -/
structure Dr (ds : List Int) : Prop where
  pos : ∀ d ∈ ds, 0 ≤ d
  few : ds.length ≤ 3780
theorem Dr.app {ds : List Int} {n : Nat} {d : Int} (h : (∀ d ∈ ds, 0 ≤ d) ∧ ds.length ≤ n) (h0 : 0 ≤ d) : (∀ x ∈ ds ++ [d], 0 ≤ x) ∧ (ds ++ [d]).length ≤ n + 1 := by
  refine ⟨fun x hx => ?_, by rw [List.length_append]; exact Nat.succ_le_succ h.2⟩
  rcases List.mem_append.mp hx with hx | hx
  · exact h.1 x hx
  · rw [List.mem_singleton.mp hx]; exact h0
theorem few_lt {n : Nat} (h : n < 100000) : decide (n < EV.few) = true := decide_eq_true h
theorem draws_in (k : Nat) (w0 : D) (w2 : D) (s5 : Sl) (ds : List Int) (r : Int) (s4 : Sl) (n : Nat) (hr : 0 ≤ r) (h : (∀ d ∈ ds, 0 ≤ d) ∧ ds.length ≤ n) (hn : n ≤ 3780) :
    ∃ σ', forL (fun σ x => asg f__law_draws.N σ (forT (stAt (ifA (stAt (forB (stAt f__law_draws.body 1)) 1)) 0)) x) (fun σ => exs ⟨f__law_draws.N, hd.G, callN T hd.G k⟩ 52 σ (forB (stAt (ifA (stAt (forB (stAt f__law_draws.body 1)) 1)) 0))) (intRange 0 60) [Sl.sh w0, Sl.ow (ds.map .int), Sl.sh w2, Sl.sh (.int r), s4, s5] = some (.next σ') ∧
      ∃ (es : List Int) (r' : Int) (t4 : Sl), σ' = [Sl.sh w0, Sl.ow (es.map .int), Sl.sh w2, Sl.sh (.int r'), t4, s5] ∧ (∀ d ∈ es, 0 ≤ d) ∧ es.length ≤ n + 60 := by
  have := forL_inv (g := fun σ x => asg f__law_draws.N σ (forT (stAt (ifA (stAt (forB (stAt f__law_draws.body 1)) 1)) 0)) x) (body := fun σ => exs ⟨f__law_draws.N, hd.G, callN T hd.G k⟩ 52 σ (forB (stAt (ifA (stAt (forB (stAt f__law_draws.body 1)) 1)) 0)))
    (fun j σ => ∃ (es : List Int) (r' : Int) (t4 : Sl), σ = [Sl.sh w0, Sl.ow (es.map .int), Sl.sh w2, Sl.sh (.int r'), t4, s5] ∧ 0 ≤ r' ∧ (∀ d ∈ es, 0 ≤ d) ∧ es.length ≤ n + j)
    (intRange 0 60) 0 [Sl.sh w0, Sl.ow (ds.map .int), Sl.sh w2, Sl.sh (.int r), s4, s5] ⟨ds, r, s4, rfl, hr, h.1, h.2⟩ ?_
  · obtain ⟨σ', h1, es, r', t4, h2, _, h3, h4⟩ := this
    exact ⟨σ', h1, es, r', t4, h2, h3, by rw [intRange_length] at h4; omega⟩
  · rintro j hj σ ⟨es, r', t4, rfl, h0, h1, h2⟩
    rw [intRange_length] at hj
    refine ⟨_, r__law_draws_1b1t0g _ _ _ _ _ _ _, ?_⟩
    simp only [r__law_draws_1b1t0b]
    by_cases hp : 0 < r'
    · have hl : decide ((es.map PyData.int).length < EV.few) = true := few_lt (by rw [List.length_map]; omega)
      simp only [rd, Sl.val, cond_true, Option.bind_some, gt_i, decide_eq_true hp, int_i, modP _ 65536 (by decide), divP _ 65536 (by decide) (by decide), hl]
      have hm : es.map PyData.int ++ [PyData.int (r' % 65536)] = (es ++ [r' % 65536]).map PyData.int := by rw [List.map_append]; rfl
      rw [hm]
      exact ⟨_, rfl, es ++ [r' % 65536], r' / 65536, _, rfl, Int.ediv_nonneg h0 (by decide), Dr.app ⟨h1, h2⟩ (Int.emod_nonneg _ (by decide))⟩
    · simp only [rd, Sl.val, cond_true, cond_false, Option.bind_some, gt_i, decide_eq_false hp]
      exact ⟨_, rfl, es, r', _, rfl, h0, h1, by omega⟩
theorem ix_ns {ns : List Int} {j : Nat} (h : j < ns.length) : ixD (.list (ns.map .int)) (.int (0 + (j : Int))) = some (.int ns[j]) :=
  ix_lst (by omega) (by
    have e : (0 + (j : Int)).toNat = j := by omega
    rw [e, List.getElem?_map, List.getElem?_eq_getElem h]; rfl)
theorem absC (i : Int) : cond (decide (i < 0)) (-i) i = (i.natAbs : Int) := by
  by_cases h : i < 0
  · rw [decide_eq_true h, cond_true]; omega
  · rw [decide_eq_false h, cond_false]; omega
theorem draws_z (k : Nat) (s0 s1 s2 s3 s4 s5 : Sl) : exsK ⟨f__law_draws.N, hd.G, callN T hd.G k⟩ 53 [s0, s1, s2, s3, s4, s5] ((ifA (stAt (forB (stAt f__law_draws.body 1)) 1)).drop 1) (fun fl16 => match fl16 with | .next σ15 => exsK ⟨f__law_draws.N, hd.G, callN T hd.G k⟩ 55 σ15 ((forB (stAt f__law_draws.body 1)).drop 2) some | fl16 => some fl16) =
    some (Fl.next [s0, s1, s2, s3, s4, s5]) := by kernel_rfl
theorem dr_xs (ns : List Int) : ∃ m : Nat, m ≤ 63 ∧ m ≤ ns.length ∧ (((((bD .len [.list (ns.map .int)]).bind fun x5 => some ([x5])).bind fun ys6 => some ((PyData.int 63) :: ys6)).bind fun ds7 => bD .min ds7).bind fun x8 => rng1 x8) = some (intRange 0 m) := by
  have h62 : ∀ n : Nat, n ≤ 63 → small62 (n : Int) = true := fun n h => by
    unfold small62
    rw [Bool.and_eq_true]
    exact ⟨decide_eq_true (by omega), decide_eq_true (by omega)⟩
  simp only [len_l, List.length_map, Option.bind_some, min_i]
  by_cases h : (ns.length : Int) < 63
  · exact ⟨ns.length, by omega, Nat.le_refl _, by rw [decide_eq_true h, cond_true, rng1_i _ (h62 _ (by omega))]; rfl⟩
  · exact ⟨63, Nat.le_refl _, by omega, by rw [decide_eq_false h, cond_false]; kernel_rfl⟩
def cD (k : Nat) : Cfg := ⟨f__law_draws.N, hd.G, callN T hd.G k⟩
def tD1 : Expr := forT (stAt f__law_draws.body 1)
def bD1 : List Stmt := forB (stAt f__law_draws.body 1)
def tD2 : Expr := forT (stAt (ifA (stAt (forB (stAt f__law_draws.body 1)) 1)) 0)
def bD2 : List Stmt := forB (stAt (ifA (stAt (forB (stAt f__law_draws.body 1)) 1)) 0)
/-- one number of the script, greater -/
theorem dr_big (k : Nat) (ns : List Int) (j n : Nat) (hj : j < ns.length) (es : List Int) (s3 s4 s5 : Sl) (h : (∀ d ∈ es, 0 ≤ d) ∧ es.length ≤ n) (hn : n ≤ 3720) :
    ∃ σ', exs ⟨f__law_draws.N, hd.G, callN T hd.G k⟩ 57 [Sl.sh (.list (ns.map .int)), Sl.ow (es.map .int), Sl.sh (.int (0 + (j : Int))), s3, s4, s5] (forB (stAt f__law_draws.body 1)) = some (.next σ') ∧
      ∃ (fs : List Int) (t3 t4 t5 : Sl), σ' = [Sl.sh (.list (ns.map .int)), Sl.ow (fs.map .int), Sl.sh (.int (0 + (j : Int))), t3, t4, t5] ∧ (∀ d ∈ fs, 0 ≤ d) ∧ fs.length ≤ n + 60 := by
  have e1 : (((ixD (.list (ns.map .int)) (.int (0 + (j : Int)))).bind fun x12 => some ([x12])).bind fun ds13 => bD .abs ds13) = some (.int (ns[j].natAbs : Int)) := by
    rw [ix_ns hj, obs1, obs1, abs_i, absC]
  rw [r__law_draws_1b, e1, obs1, pow18, obs1, ge_i, obs1]
  by_cases hp : (1000000000000000000 : Int) ≤ (ns[j].natAbs : Int)
  · have e60 : rng1 (PyData.int 60) = some (intRange 0 60) := by kernel_rfl
    obtain ⟨σ', q1, fs, r', t4, rfl, q2, q3⟩ := draws_in k (.list (ns.map .int)) (.int (0 + (j : Int))) s5 es (ns[j].natAbs : Int) s4 n (by omega) h (by omega)
    rw [decide_eq_true hp, ct, e60, obs1, q1, obs1]
    refine ⟨_, draws_z _ _ _ _ _ _ _, fs, _, _, _, rfl, q2, q3⟩
  · rw [decide_eq_false hp, cf]
    have l1 : decide ((es.map PyData.int).length < EV.few) = true := few_lt (by rw [List.length_map]; omega)
    have l2 : ∀ x : D, decide ((es.map PyData.int ++ [x]).length < EV.few) = true := fun x => few_lt (by rw [List.length_append, List.length_map, List.length_singleton]; omega)
    have hm : ∀ x y : Int, (es.map PyData.int ++ [PyData.int x]) ++ [PyData.int y] = (es ++ [x] ++ [y]).map PyData.int := fun x y => by simp
    have app2 : ∀ x y : Int, (∀ d ∈ es ++ [x % 65536] ++ [y % 32768], 0 ≤ d) ∧ (es ++ [x % 65536] ++ [y % 32768]).length ≤ n + 1 + 1 := fun x y =>
      Dr.app (Dr.app h (Int.emod_nonneg x (by omega))) (Int.emod_nonneg y (by omega))
    simp only [mulR _ 48271 rfl, mulR _ 69621 rfl, mulR _ 16807 rfl, mulL 11 _ rfl, add_i, obs1, int_i, modP _ 2147483647 (by decide), modP _ 2147483629 (by decide), modP _ 65536 (by decide), modP _ 32768 (by decide),
      divP _ 65536 (by decide) (by decide), l1, l2, ct, hm]
    exact ⟨_, rfl, _, _, _, _, rfl, (app2 _ _).1, Nat.le_trans (app2 _ _).2 (by omega)⟩
theorem ev_draws (ns : List Int) (k : Nat) : ∃ ds, callN T hd.G (k + 1) "_law_draws" [.list (ns.map .int)] = some (.list (ds.map .int)) ∧ Dr ds := by
  obtain ⟨m, hm1, hm2, hm⟩ := dr_xs ns
  rw [r__law_draws, hm, obs1]
  have := forL_inv (g := fun σ x => asg f__law_draws.N σ (forT (stAt f__law_draws.body 1)) x) (body := fun σ => exs ⟨f__law_draws.N, hd.G, callN T hd.G k⟩ 57 σ (forB (stAt f__law_draws.body 1)))
    (fun j σ => ∃ (es : List Int) (s2 s3 s4 s5 : Sl), σ = [Sl.sh (.list (ns.map .int)), Sl.ow (es.map .int), s2, s3, s4, s5] ∧ (∀ d ∈ es, 0 ≤ d) ∧ es.length ≤ 60 * j)
    (intRange 0 m) 0 [Sl.sh (.list (ns.map .int)), Sl.ow [], Sl.un, Sl.un, Sl.un, Sl.un] ⟨[], _, _, _, _, rfl, nofun, Nat.le_refl _⟩ ?_
  · obtain ⟨σ', h1, es, s2, s3, s4, s5, rfl, h3, h4⟩ := this
    rw [intRange_length] at h4
    refine ⟨es, ?_, h3, by omega⟩
    rw [h1, obs1]
    exact r__law_draws_1a k _ _ _ _ _ _
  · rintro j hj σ ⟨es, s2, s3, s4, s5, rfl, h1, h2⟩
    have hx := range_at hj
    rw [intRange_length] at hj
    refine ⟨_, r__law_draws_1g _ _ _ _ _ _ _, ?_⟩
    rw [hx]
    obtain ⟨σ', q1, fs, t3, t4, t5, rfl, q2, q3⟩ := dr_big k ns j (60 * (0 + j)) (by omega) es s3 s4 s5 ⟨h1, h2⟩ (by omega)
    exact ⟨_, q1, fs, _, _, _, _, rfl, q2, by omega⟩
/-- a number of the draws -/
theorem ev_mix {ds : List Int} (h : Dr ds) (k : Nat) (i m : Int) (hi : 0 ≤ i) (hm : 0 < m) : ∃ r, callN T hd.G (k + 1) "_law_mix" [.list (ds.map .int), .int i, .int m] = some (.int r) ∧ 0 ≤ r ∧ r < m := by
  rw [r__law_mix]
  have fin : ∀ x : Int, ∃ r : Int, some (PyData.int (x % m)) = some (PyData.int r) ∧ 0 ≤ r ∧ r < m := fun x => ⟨_, rfl, Int.emod_nonneg _ (by omega), Int.emod_lt_of_pos _ hm⟩
  simp only [len_l, List.length_map, Option.bind_some, gt_i, lt_i, int_i]
  by_cases hl : (0 : Int) < (ds.length : Int)
  · have q0 : 0 ≤ i % (ds.length : Int) := Int.emod_nonneg _ (by omega)
    have q1 : i % (ds.length : Int) < (ds.length : Int) := Int.emod_lt_of_pos _ hl
    have ix : ixD (.list (ds.map .int)) (.int (i % (ds.length : Int))) = some (.int (ds[(i % (ds.length : Int)).toNat]'(by omega))) :=
      ix_lst q0 (by rw [List.getElem?_map, List.getElem?_eq_getElem (by omega)]; rfl)
    simp only [decide_eq_true hl, cond_true, modP _ _ hl, Option.bind_some, ix]
    by_cases hk : i < (ds.length : Int)
    · simp only [decide_eq_true hk, cond_true, int_i, Option.bind_some, modP _ _ hm]
      exact fin _
    · simp only [decide_eq_false hk, cond_false, mulR _ 7919 rfl, mulR _ 104729 rfl, add_i, int_i, Option.bind_some, divP _ 3 (by decide) (by decide), modP _ _ hm]
      exact fin _
  · simp only [decide_eq_false hl, cond_false]
    by_cases hk : i < (ds.length : Int)
    · simp only [decide_eq_true hk, cond_true, int_i, Option.bind_some, modP _ _ hm]
      exact fin _
    · simp only [decide_eq_false hk, cond_false, mulR _ 7919 rfl, mulR _ 104729 rfl, add_i, int_i, Option.bind_some, divP _ 3 (by decide) (by decide), modP _ _ hm]
      exact fin _
end K00

namespace K00
open PySem L2 EV
def objs (n : Int) : List D := ([excD "OutOfRange" (.int (n + 0)), excD "TooMany" (.int (n + 1)), excD "TooLarge" (.int (n + 2)), excD "WrongSize" (.int (n + 3)), excD "BadType" (.int (n + 4)), excD "BadTree" (.int (n + 5)), excD "BadCoercion" (.int (n + 6)), excD "BadLabel" (.int (n + 7)), excD "BadTypes" (.int (n + 8)), excD "BadText" (.int (n + 9)), excD "BadValue" (.int (n + 10)), excD "BadToken" (.int (n + 11)), excD "BadPlace" (.int (n + 12)), excD "BadProgram" (.int (n + 13))] : List D) ++ ([excD "BadTerm" (.int (n + 14)), excD "BadCode" (.int (n + 15)), excD "NameFree" (.int (n + 16)), excD "BadSites" (.int (n + 17)), excD "NotAlike" (.int (n + 18)), excD "BadHeap" (.int (n + 19)), excD "BadRoots" (.int (n + 20)), excD "BadSteps" (.int (n + 21)), excD "BadModule" (.int (n + 22)), excD "NotFlat" (.int (n + 23)), excD "NotFull" (.int (n + 24)), excD "NoBlame" (.int (n + 25)), excD "HasEnded" (.int (n + 26))] : List D)
def bits (j : Nat) : List D := (List.range 27).map fun t => .bool (decide (t = j))
theorem ev_made (k : Nat) (n : Int) : callN T hd.G (k + 1) "_law_made" [.int n] = some (.list (objs n)) := by kernel_rfl
theorem kd_0 (k : Nat) (v : Int) : callN T hd.G (k + 1) "_law_kinds" [excD "OutOfRange" (.int v)] = some (.list (bits 0)) := by kernel_rfl
theorem kd_1 (k : Nat) (v : Int) : callN T hd.G (k + 1) "_law_kinds" [excD "TooMany" (.int v)] = some (.list (bits 1)) := by kernel_rfl
theorem kd_2 (k : Nat) (v : Int) : callN T hd.G (k + 1) "_law_kinds" [excD "TooLarge" (.int v)] = some (.list (bits 2)) := by kernel_rfl
theorem kd_3 (k : Nat) (v : Int) : callN T hd.G (k + 1) "_law_kinds" [excD "WrongSize" (.int v)] = some (.list (bits 3)) := by kernel_rfl
theorem kd_4 (k : Nat) (v : Int) : callN T hd.G (k + 1) "_law_kinds" [excD "BadType" (.int v)] = some (.list (bits 4)) := by kernel_rfl
theorem kd_5 (k : Nat) (v : Int) : callN T hd.G (k + 1) "_law_kinds" [excD "BadTree" (.int v)] = some (.list (bits 5)) := by kernel_rfl
theorem kd_6 (k : Nat) (v : Int) : callN T hd.G (k + 1) "_law_kinds" [excD "BadCoercion" (.int v)] = some (.list (bits 6)) := by kernel_rfl
theorem kd_7 (k : Nat) (v : Int) : callN T hd.G (k + 1) "_law_kinds" [excD "BadLabel" (.int v)] = some (.list (bits 7)) := by kernel_rfl
theorem kd_8 (k : Nat) (v : Int) : callN T hd.G (k + 1) "_law_kinds" [excD "BadTypes" (.int v)] = some (.list (bits 8)) := by kernel_rfl
theorem kd_9 (k : Nat) (v : Int) : callN T hd.G (k + 1) "_law_kinds" [excD "BadText" (.int v)] = some (.list (bits 9)) := by kernel_rfl
theorem kd_10 (k : Nat) (v : Int) : callN T hd.G (k + 1) "_law_kinds" [excD "BadValue" (.int v)] = some (.list (bits 10)) := by kernel_rfl
theorem kd_11 (k : Nat) (v : Int) : callN T hd.G (k + 1) "_law_kinds" [excD "BadToken" (.int v)] = some (.list (bits 11)) := by kernel_rfl
theorem kd_12 (k : Nat) (v : Int) : callN T hd.G (k + 1) "_law_kinds" [excD "BadPlace" (.int v)] = some (.list (bits 12)) := by kernel_rfl
theorem kd_13 (k : Nat) (v : Int) : callN T hd.G (k + 1) "_law_kinds" [excD "BadProgram" (.int v)] = some (.list (bits 13)) := by kernel_rfl
theorem kd_14 (k : Nat) (v : Int) : callN T hd.G (k + 1) "_law_kinds" [excD "BadTerm" (.int v)] = some (.list (bits 14)) := by kernel_rfl
theorem kd_15 (k : Nat) (v : Int) : callN T hd.G (k + 1) "_law_kinds" [excD "BadCode" (.int v)] = some (.list (bits 15)) := by kernel_rfl
theorem kd_16 (k : Nat) (v : Int) : callN T hd.G (k + 1) "_law_kinds" [excD "NameFree" (.int v)] = some (.list (bits 16)) := by kernel_rfl
theorem kd_17 (k : Nat) (v : Int) : callN T hd.G (k + 1) "_law_kinds" [excD "BadSites" (.int v)] = some (.list (bits 17)) := by kernel_rfl
theorem kd_18 (k : Nat) (v : Int) : callN T hd.G (k + 1) "_law_kinds" [excD "NotAlike" (.int v)] = some (.list (bits 18)) := by kernel_rfl
theorem kd_19 (k : Nat) (v : Int) : callN T hd.G (k + 1) "_law_kinds" [excD "BadHeap" (.int v)] = some (.list (bits 19)) := by kernel_rfl
theorem kd_20 (k : Nat) (v : Int) : callN T hd.G (k + 1) "_law_kinds" [excD "BadRoots" (.int v)] = some (.list (bits 20)) := by kernel_rfl
theorem kd_21 (k : Nat) (v : Int) : callN T hd.G (k + 1) "_law_kinds" [excD "BadSteps" (.int v)] = some (.list (bits 21)) := by kernel_rfl
theorem kd_22 (k : Nat) (v : Int) : callN T hd.G (k + 1) "_law_kinds" [excD "BadModule" (.int v)] = some (.list (bits 22)) := by kernel_rfl
theorem kd_23 (k : Nat) (v : Int) : callN T hd.G (k + 1) "_law_kinds" [excD "NotFlat" (.int v)] = some (.list (bits 23)) := by kernel_rfl
theorem kd_24 (k : Nat) (v : Int) : callN T hd.G (k + 1) "_law_kinds" [excD "NotFull" (.int v)] = some (.list (bits 24)) := by kernel_rfl
theorem kd_25 (k : Nat) (v : Int) : callN T hd.G (k + 1) "_law_kinds" [excD "NoBlame" (.int v)] = some (.list (bits 25)) := by kernel_rfl
theorem kd_26 (k : Nat) (v : Int) : callN T hd.G (k + 1) "_law_kinds" [excD "HasEnded" (.int v)] = some (.list (bits 26)) := by kernel_rfl
theorem kd_base (k : Nat) (v : Int) : callN T hd.G (k + 1) "_law_kinds" [excD "LanguageError" (.int v)] = some (.list (bits 99)) := by kernel_rfl
theorem turn_0 (k : Nat) (n : Int) (w0 w1 : D) : exs ⟨f_law.N, hd.G, callN T hd.G (k + 1)⟩ 55 [Sl.sh w0, Sl.sh w1, Sl.sh (.int n), Sl.sh (.list (objs n)), Sl.sh (.int 0), Sl.un, Sl.un, Sl.un, Sl.un, Sl.un] (forB (stAt f_law.body 3)) =
    some (Fl.next [Sl.sh w0, Sl.sh w1, Sl.sh (.int n), Sl.sh (.list (objs n)), Sl.sh (.int 0), Sl.un, Sl.un, Sl.un, Sl.un, Sl.un]) := by
  have e1 : ixD (.list (objs n)) (.int 0) = some (excD "OutOfRange" (.int (n + 0))) := by kernel_rfl
  have e2 : hd.G.i "LanguageError" (excD "OutOfRange" (.int (n + 0))) = some (.bool true) := by kernel_rfl
  have e3 : hd.G.i "ValueError" (excD "OutOfRange" (.int (n + 0))) = some (.bool true) := by kernel_rfl
  have e4 : hd.G.a "at" (excD "OutOfRange" (.int (n + 0))) = some (.int (n + 0)) := by kernel_rfl
  have e5 : (((bD .len [.list (objs n)]).bind fun x41 => rng1 x41).bind fun xs42 => lim (compM (fun x43 => ((cmpD .Eq x43 (.int 0)).map PyData.bool).bind fun x44 => some (some x44)) xs42)) = some (.list (bits 0)) := by kernel_rfl
  have e6 : cmpD .NotEq (.list (bits 0)) (.list (bits 0)) = some false := by kernel_rfl
  have e7 : cmpD .NotEq (.int (n + 0)) (.int (n + 0)) = some false := by rw [ne_i]; simp
  have e8 : isTy .bool (.int (n + 0)) = some false := rfl
  have e9 : isTy .int (.int (n + 0)) = some true := rfl
  rw [r_law_3b]
  rw [e1, obs1, e2, obs1, obs1, e3, obs1, obs1, e4, obs1, add_i, obs1, e7, obs1, obs1, kd_0, obs1, e5, obs1, e6, obs1]
  kernel_rfl
theorem turn_1 (k : Nat) (n : Int) (w0 w1 : D) : exs ⟨f_law.N, hd.G, callN T hd.G (k + 1)⟩ 55 [Sl.sh w0, Sl.sh w1, Sl.sh (.int n), Sl.sh (.list (objs n)), Sl.sh (.int 1), Sl.un, Sl.un, Sl.un, Sl.un, Sl.un] (forB (stAt f_law.body 3)) =
    some (Fl.next [Sl.sh w0, Sl.sh w1, Sl.sh (.int n), Sl.sh (.list (objs n)), Sl.sh (.int 1), Sl.un, Sl.un, Sl.un, Sl.un, Sl.un]) := by
  have e1 : ixD (.list (objs n)) (.int 1) = some (excD "TooMany" (.int (n + 1))) := by kernel_rfl
  have e2 : hd.G.i "LanguageError" (excD "TooMany" (.int (n + 1))) = some (.bool true) := by kernel_rfl
  have e3 : hd.G.i "ValueError" (excD "TooMany" (.int (n + 1))) = some (.bool true) := by kernel_rfl
  have e4 : hd.G.a "at" (excD "TooMany" (.int (n + 1))) = some (.int (n + 1)) := by kernel_rfl
  have e5 : (((bD .len [.list (objs n)]).bind fun x41 => rng1 x41).bind fun xs42 => lim (compM (fun x43 => ((cmpD .Eq x43 (.int 1)).map PyData.bool).bind fun x44 => some (some x44)) xs42)) = some (.list (bits 1)) := by kernel_rfl
  have e6 : cmpD .NotEq (.list (bits 1)) (.list (bits 1)) = some false := by kernel_rfl
  have e7 : cmpD .NotEq (.int (n + 1)) (.int (n + 1)) = some false := by rw [ne_i]; simp
  have e8 : isTy .bool (.int (n + 1)) = some false := rfl
  have e9 : isTy .int (.int (n + 1)) = some true := rfl
  rw [r_law_3b]
  rw [e1, obs1, e2, obs1, obs1, e3, obs1, obs1, e4, obs1, add_i, obs1, e7, obs1, obs1, kd_1, obs1, e5, obs1, e6, obs1]
  kernel_rfl
theorem turn_2 (k : Nat) (n : Int) (w0 w1 : D) : exs ⟨f_law.N, hd.G, callN T hd.G (k + 1)⟩ 55 [Sl.sh w0, Sl.sh w1, Sl.sh (.int n), Sl.sh (.list (objs n)), Sl.sh (.int 2), Sl.un, Sl.un, Sl.un, Sl.un, Sl.un] (forB (stAt f_law.body 3)) =
    some (Fl.next [Sl.sh w0, Sl.sh w1, Sl.sh (.int n), Sl.sh (.list (objs n)), Sl.sh (.int 2), Sl.un, Sl.un, Sl.un, Sl.un, Sl.un]) := by
  have e1 : ixD (.list (objs n)) (.int 2) = some (excD "TooLarge" (.int (n + 2))) := by kernel_rfl
  have e2 : hd.G.i "LanguageError" (excD "TooLarge" (.int (n + 2))) = some (.bool true) := by kernel_rfl
  have e3 : hd.G.i "ValueError" (excD "TooLarge" (.int (n + 2))) = some (.bool true) := by kernel_rfl
  have e4 : hd.G.a "at" (excD "TooLarge" (.int (n + 2))) = some (.int (n + 2)) := by kernel_rfl
  have e5 : (((bD .len [.list (objs n)]).bind fun x41 => rng1 x41).bind fun xs42 => lim (compM (fun x43 => ((cmpD .Eq x43 (.int 2)).map PyData.bool).bind fun x44 => some (some x44)) xs42)) = some (.list (bits 2)) := by kernel_rfl
  have e6 : cmpD .NotEq (.list (bits 2)) (.list (bits 2)) = some false := by kernel_rfl
  have e7 : cmpD .NotEq (.int (n + 2)) (.int (n + 2)) = some false := by rw [ne_i]; simp
  have e8 : isTy .bool (.int (n + 2)) = some false := rfl
  have e9 : isTy .int (.int (n + 2)) = some true := rfl
  rw [r_law_3b]
  rw [e1, obs1, e2, obs1, obs1, e3, obs1, obs1, e4, obs1, add_i, obs1, e7, obs1, obs1, kd_2, obs1, e5, obs1, e6, obs1]
  kernel_rfl
theorem turn_3 (k : Nat) (n : Int) (w0 w1 : D) : exs ⟨f_law.N, hd.G, callN T hd.G (k + 1)⟩ 55 [Sl.sh w0, Sl.sh w1, Sl.sh (.int n), Sl.sh (.list (objs n)), Sl.sh (.int 3), Sl.un, Sl.un, Sl.un, Sl.un, Sl.un] (forB (stAt f_law.body 3)) =
    some (Fl.next [Sl.sh w0, Sl.sh w1, Sl.sh (.int n), Sl.sh (.list (objs n)), Sl.sh (.int 3), Sl.un, Sl.un, Sl.un, Sl.un, Sl.un]) := by
  have e1 : ixD (.list (objs n)) (.int 3) = some (excD "WrongSize" (.int (n + 3))) := by kernel_rfl
  have e2 : hd.G.i "LanguageError" (excD "WrongSize" (.int (n + 3))) = some (.bool true) := by kernel_rfl
  have e3 : hd.G.i "ValueError" (excD "WrongSize" (.int (n + 3))) = some (.bool true) := by kernel_rfl
  have e4 : hd.G.a "at" (excD "WrongSize" (.int (n + 3))) = some (.int (n + 3)) := by kernel_rfl
  have e5 : (((bD .len [.list (objs n)]).bind fun x41 => rng1 x41).bind fun xs42 => lim (compM (fun x43 => ((cmpD .Eq x43 (.int 3)).map PyData.bool).bind fun x44 => some (some x44)) xs42)) = some (.list (bits 3)) := by kernel_rfl
  have e6 : cmpD .NotEq (.list (bits 3)) (.list (bits 3)) = some false := by kernel_rfl
  have e7 : cmpD .NotEq (.int (n + 3)) (.int (n + 3)) = some false := by rw [ne_i]; simp
  have e8 : isTy .bool (.int (n + 3)) = some false := rfl
  have e9 : isTy .int (.int (n + 3)) = some true := rfl
  rw [r_law_3b]
  rw [e1, obs1, e2, obs1, obs1, e3, obs1, obs1, e4, obs1, add_i, obs1, e7, obs1, obs1, kd_3, obs1, e5, obs1, e6, obs1]
  kernel_rfl
theorem turn_4 (k : Nat) (n : Int) (w0 w1 : D) : exs ⟨f_law.N, hd.G, callN T hd.G (k + 1)⟩ 55 [Sl.sh w0, Sl.sh w1, Sl.sh (.int n), Sl.sh (.list (objs n)), Sl.sh (.int 4), Sl.un, Sl.un, Sl.un, Sl.un, Sl.un] (forB (stAt f_law.body 3)) =
    some (Fl.next [Sl.sh w0, Sl.sh w1, Sl.sh (.int n), Sl.sh (.list (objs n)), Sl.sh (.int 4), Sl.un, Sl.un, Sl.un, Sl.un, Sl.un]) := by
  have e1 : ixD (.list (objs n)) (.int 4) = some (excD "BadType" (.int (n + 4))) := by kernel_rfl
  have e2 : hd.G.i "LanguageError" (excD "BadType" (.int (n + 4))) = some (.bool true) := by kernel_rfl
  have e3 : hd.G.i "ValueError" (excD "BadType" (.int (n + 4))) = some (.bool true) := by kernel_rfl
  have e4 : hd.G.a "at" (excD "BadType" (.int (n + 4))) = some (.int (n + 4)) := by kernel_rfl
  have e5 : (((bD .len [.list (objs n)]).bind fun x41 => rng1 x41).bind fun xs42 => lim (compM (fun x43 => ((cmpD .Eq x43 (.int 4)).map PyData.bool).bind fun x44 => some (some x44)) xs42)) = some (.list (bits 4)) := by kernel_rfl
  have e6 : cmpD .NotEq (.list (bits 4)) (.list (bits 4)) = some false := by kernel_rfl
  have e7 : cmpD .NotEq (.int (n + 4)) (.int (n + 4)) = some false := by rw [ne_i]; simp
  have e8 : isTy .bool (.int (n + 4)) = some false := rfl
  have e9 : isTy .int (.int (n + 4)) = some true := rfl
  rw [r_law_3b]
  rw [e1, obs1, e2, obs1, obs1, e3, obs1, obs1, e4, obs1, add_i, obs1, e7, obs1, obs1, kd_4, obs1, e5, obs1, e6, obs1]
  kernel_rfl
theorem turn_5 (k : Nat) (n : Int) (w0 w1 : D) : exs ⟨f_law.N, hd.G, callN T hd.G (k + 1)⟩ 55 [Sl.sh w0, Sl.sh w1, Sl.sh (.int n), Sl.sh (.list (objs n)), Sl.sh (.int 5), Sl.un, Sl.un, Sl.un, Sl.un, Sl.un] (forB (stAt f_law.body 3)) =
    some (Fl.next [Sl.sh w0, Sl.sh w1, Sl.sh (.int n), Sl.sh (.list (objs n)), Sl.sh (.int 5), Sl.un, Sl.un, Sl.un, Sl.un, Sl.un]) := by
  have e1 : ixD (.list (objs n)) (.int 5) = some (excD "BadTree" (.int (n + 5))) := by kernel_rfl
  have e2 : hd.G.i "LanguageError" (excD "BadTree" (.int (n + 5))) = some (.bool true) := by kernel_rfl
  have e3 : hd.G.i "ValueError" (excD "BadTree" (.int (n + 5))) = some (.bool true) := by kernel_rfl
  have e4 : hd.G.a "at" (excD "BadTree" (.int (n + 5))) = some (.int (n + 5)) := by kernel_rfl
  have e5 : (((bD .len [.list (objs n)]).bind fun x41 => rng1 x41).bind fun xs42 => lim (compM (fun x43 => ((cmpD .Eq x43 (.int 5)).map PyData.bool).bind fun x44 => some (some x44)) xs42)) = some (.list (bits 5)) := by kernel_rfl
  have e6 : cmpD .NotEq (.list (bits 5)) (.list (bits 5)) = some false := by kernel_rfl
  have e7 : cmpD .NotEq (.int (n + 5)) (.int (n + 5)) = some false := by rw [ne_i]; simp
  have e8 : isTy .bool (.int (n + 5)) = some false := rfl
  have e9 : isTy .int (.int (n + 5)) = some true := rfl
  rw [r_law_3b]
  rw [e1, obs1, e2, obs1, obs1, e3, obs1, obs1, e4, obs1, add_i, obs1, e7, obs1, obs1, kd_5, obs1, e5, obs1, e6, obs1]
  kernel_rfl
theorem turn_6 (k : Nat) (n : Int) (w0 w1 : D) : exs ⟨f_law.N, hd.G, callN T hd.G (k + 1)⟩ 55 [Sl.sh w0, Sl.sh w1, Sl.sh (.int n), Sl.sh (.list (objs n)), Sl.sh (.int 6), Sl.un, Sl.un, Sl.un, Sl.un, Sl.un] (forB (stAt f_law.body 3)) =
    some (Fl.next [Sl.sh w0, Sl.sh w1, Sl.sh (.int n), Sl.sh (.list (objs n)), Sl.sh (.int 6), Sl.un, Sl.un, Sl.un, Sl.un, Sl.un]) := by
  have e1 : ixD (.list (objs n)) (.int 6) = some (excD "BadCoercion" (.int (n + 6))) := by kernel_rfl
  have e2 : hd.G.i "LanguageError" (excD "BadCoercion" (.int (n + 6))) = some (.bool true) := by kernel_rfl
  have e3 : hd.G.i "ValueError" (excD "BadCoercion" (.int (n + 6))) = some (.bool true) := by kernel_rfl
  have e4 : hd.G.a "at" (excD "BadCoercion" (.int (n + 6))) = some (.int (n + 6)) := by kernel_rfl
  have e5 : (((bD .len [.list (objs n)]).bind fun x41 => rng1 x41).bind fun xs42 => lim (compM (fun x43 => ((cmpD .Eq x43 (.int 6)).map PyData.bool).bind fun x44 => some (some x44)) xs42)) = some (.list (bits 6)) := by kernel_rfl
  have e6 : cmpD .NotEq (.list (bits 6)) (.list (bits 6)) = some false := by kernel_rfl
  have e7 : cmpD .NotEq (.int (n + 6)) (.int (n + 6)) = some false := by rw [ne_i]; simp
  have e8 : isTy .bool (.int (n + 6)) = some false := rfl
  have e9 : isTy .int (.int (n + 6)) = some true := rfl
  rw [r_law_3b]
  rw [e1, obs1, e2, obs1, obs1, e3, obs1, obs1, e4, obs1, add_i, obs1, e7, obs1, obs1, kd_6, obs1, e5, obs1, e6, obs1]
  kernel_rfl
theorem turn_7 (k : Nat) (n : Int) (w0 w1 : D) : exs ⟨f_law.N, hd.G, callN T hd.G (k + 1)⟩ 55 [Sl.sh w0, Sl.sh w1, Sl.sh (.int n), Sl.sh (.list (objs n)), Sl.sh (.int 7), Sl.un, Sl.un, Sl.un, Sl.un, Sl.un] (forB (stAt f_law.body 3)) =
    some (Fl.next [Sl.sh w0, Sl.sh w1, Sl.sh (.int n), Sl.sh (.list (objs n)), Sl.sh (.int 7), Sl.un, Sl.un, Sl.un, Sl.un, Sl.un]) := by
  have e1 : ixD (.list (objs n)) (.int 7) = some (excD "BadLabel" (.int (n + 7))) := by kernel_rfl
  have e2 : hd.G.i "LanguageError" (excD "BadLabel" (.int (n + 7))) = some (.bool true) := by kernel_rfl
  have e3 : hd.G.i "ValueError" (excD "BadLabel" (.int (n + 7))) = some (.bool true) := by kernel_rfl
  have e4 : hd.G.a "at" (excD "BadLabel" (.int (n + 7))) = some (.int (n + 7)) := by kernel_rfl
  have e5 : (((bD .len [.list (objs n)]).bind fun x41 => rng1 x41).bind fun xs42 => lim (compM (fun x43 => ((cmpD .Eq x43 (.int 7)).map PyData.bool).bind fun x44 => some (some x44)) xs42)) = some (.list (bits 7)) := by kernel_rfl
  have e6 : cmpD .NotEq (.list (bits 7)) (.list (bits 7)) = some false := by kernel_rfl
  have e7 : cmpD .NotEq (.int (n + 7)) (.int (n + 7)) = some false := by rw [ne_i]; simp
  have e8 : isTy .bool (.int (n + 7)) = some false := rfl
  have e9 : isTy .int (.int (n + 7)) = some true := rfl
  rw [r_law_3b]
  rw [e1, obs1, e2, obs1, obs1, e3, obs1, obs1, e4, obs1, add_i, obs1, e7, obs1, obs1, kd_7, obs1, e5, obs1, e6, obs1]
  kernel_rfl
theorem turn_8 (k : Nat) (n : Int) (w0 w1 : D) : exs ⟨f_law.N, hd.G, callN T hd.G (k + 1)⟩ 55 [Sl.sh w0, Sl.sh w1, Sl.sh (.int n), Sl.sh (.list (objs n)), Sl.sh (.int 8), Sl.un, Sl.un, Sl.un, Sl.un, Sl.un] (forB (stAt f_law.body 3)) =
    some (Fl.next [Sl.sh w0, Sl.sh w1, Sl.sh (.int n), Sl.sh (.list (objs n)), Sl.sh (.int 8), Sl.un, Sl.un, Sl.un, Sl.un, Sl.un]) := by
  have e1 : ixD (.list (objs n)) (.int 8) = some (excD "BadTypes" (.int (n + 8))) := by kernel_rfl
  have e2 : hd.G.i "LanguageError" (excD "BadTypes" (.int (n + 8))) = some (.bool true) := by kernel_rfl
  have e3 : hd.G.i "ValueError" (excD "BadTypes" (.int (n + 8))) = some (.bool true) := by kernel_rfl
  have e4 : hd.G.a "at" (excD "BadTypes" (.int (n + 8))) = some (.int (n + 8)) := by kernel_rfl
  have e5 : (((bD .len [.list (objs n)]).bind fun x41 => rng1 x41).bind fun xs42 => lim (compM (fun x43 => ((cmpD .Eq x43 (.int 8)).map PyData.bool).bind fun x44 => some (some x44)) xs42)) = some (.list (bits 8)) := by kernel_rfl
  have e6 : cmpD .NotEq (.list (bits 8)) (.list (bits 8)) = some false := by kernel_rfl
  have e7 : cmpD .NotEq (.int (n + 8)) (.int (n + 8)) = some false := by rw [ne_i]; simp
  have e8 : isTy .bool (.int (n + 8)) = some false := rfl
  have e9 : isTy .int (.int (n + 8)) = some true := rfl
  rw [r_law_3b]
  rw [e1, obs1, e2, obs1, obs1, e3, obs1, obs1, e4, obs1, add_i, obs1, e7, obs1, obs1, kd_8, obs1, e5, obs1, e6, obs1]
  kernel_rfl
theorem turn_9 (k : Nat) (n : Int) (w0 w1 : D) : exs ⟨f_law.N, hd.G, callN T hd.G (k + 1)⟩ 55 [Sl.sh w0, Sl.sh w1, Sl.sh (.int n), Sl.sh (.list (objs n)), Sl.sh (.int 9), Sl.un, Sl.un, Sl.un, Sl.un, Sl.un] (forB (stAt f_law.body 3)) =
    some (Fl.next [Sl.sh w0, Sl.sh w1, Sl.sh (.int n), Sl.sh (.list (objs n)), Sl.sh (.int 9), Sl.un, Sl.un, Sl.un, Sl.un, Sl.un]) := by
  have e1 : ixD (.list (objs n)) (.int 9) = some (excD "BadText" (.int (n + 9))) := by kernel_rfl
  have e2 : hd.G.i "LanguageError" (excD "BadText" (.int (n + 9))) = some (.bool true) := by kernel_rfl
  have e3 : hd.G.i "ValueError" (excD "BadText" (.int (n + 9))) = some (.bool true) := by kernel_rfl
  have e4 : hd.G.a "at" (excD "BadText" (.int (n + 9))) = some (.int (n + 9)) := by kernel_rfl
  have e5 : (((bD .len [.list (objs n)]).bind fun x41 => rng1 x41).bind fun xs42 => lim (compM (fun x43 => ((cmpD .Eq x43 (.int 9)).map PyData.bool).bind fun x44 => some (some x44)) xs42)) = some (.list (bits 9)) := by kernel_rfl
  have e6 : cmpD .NotEq (.list (bits 9)) (.list (bits 9)) = some false := by kernel_rfl
  have e7 : cmpD .NotEq (.int (n + 9)) (.int (n + 9)) = some false := by rw [ne_i]; simp
  have e8 : isTy .bool (.int (n + 9)) = some false := rfl
  have e9 : isTy .int (.int (n + 9)) = some true := rfl
  rw [r_law_3b]
  rw [e1, obs1, e2, obs1, obs1, e3, obs1, obs1, e4, obs1, add_i, obs1, e7, obs1, obs1, kd_9, obs1, e5, obs1, e6, obs1]
  kernel_rfl
theorem turn_10 (k : Nat) (n : Int) (w0 w1 : D) : exs ⟨f_law.N, hd.G, callN T hd.G (k + 1)⟩ 55 [Sl.sh w0, Sl.sh w1, Sl.sh (.int n), Sl.sh (.list (objs n)), Sl.sh (.int 10), Sl.un, Sl.un, Sl.un, Sl.un, Sl.un] (forB (stAt f_law.body 3)) =
    some (Fl.next [Sl.sh w0, Sl.sh w1, Sl.sh (.int n), Sl.sh (.list (objs n)), Sl.sh (.int 10), Sl.un, Sl.un, Sl.un, Sl.un, Sl.un]) := by
  have e1 : ixD (.list (objs n)) (.int 10) = some (excD "BadValue" (.int (n + 10))) := by kernel_rfl
  have e2 : hd.G.i "LanguageError" (excD "BadValue" (.int (n + 10))) = some (.bool true) := by kernel_rfl
  have e3 : hd.G.i "ValueError" (excD "BadValue" (.int (n + 10))) = some (.bool true) := by kernel_rfl
  have e4 : hd.G.a "at" (excD "BadValue" (.int (n + 10))) = some (.int (n + 10)) := by kernel_rfl
  have e5 : (((bD .len [.list (objs n)]).bind fun x41 => rng1 x41).bind fun xs42 => lim (compM (fun x43 => ((cmpD .Eq x43 (.int 10)).map PyData.bool).bind fun x44 => some (some x44)) xs42)) = some (.list (bits 10)) := by kernel_rfl
  have e6 : cmpD .NotEq (.list (bits 10)) (.list (bits 10)) = some false := by kernel_rfl
  have e7 : cmpD .NotEq (.int (n + 10)) (.int (n + 10)) = some false := by rw [ne_i]; simp
  have e8 : isTy .bool (.int (n + 10)) = some false := rfl
  have e9 : isTy .int (.int (n + 10)) = some true := rfl
  rw [r_law_3b]
  rw [e1, obs1, e2, obs1, obs1, e3, obs1, obs1, e4, obs1, add_i, obs1, e7, obs1, obs1, kd_10, obs1, e5, obs1, e6, obs1]
  kernel_rfl
theorem turn_11 (k : Nat) (n : Int) (w0 w1 : D) : exs ⟨f_law.N, hd.G, callN T hd.G (k + 1)⟩ 55 [Sl.sh w0, Sl.sh w1, Sl.sh (.int n), Sl.sh (.list (objs n)), Sl.sh (.int 11), Sl.un, Sl.un, Sl.un, Sl.un, Sl.un] (forB (stAt f_law.body 3)) =
    some (Fl.next [Sl.sh w0, Sl.sh w1, Sl.sh (.int n), Sl.sh (.list (objs n)), Sl.sh (.int 11), Sl.un, Sl.un, Sl.un, Sl.un, Sl.un]) := by
  have e1 : ixD (.list (objs n)) (.int 11) = some (excD "BadToken" (.int (n + 11))) := by kernel_rfl
  have e2 : hd.G.i "LanguageError" (excD "BadToken" (.int (n + 11))) = some (.bool true) := by kernel_rfl
  have e3 : hd.G.i "ValueError" (excD "BadToken" (.int (n + 11))) = some (.bool true) := by kernel_rfl
  have e4 : hd.G.a "at" (excD "BadToken" (.int (n + 11))) = some (.int (n + 11)) := by kernel_rfl
  have e5 : (((bD .len [.list (objs n)]).bind fun x41 => rng1 x41).bind fun xs42 => lim (compM (fun x43 => ((cmpD .Eq x43 (.int 11)).map PyData.bool).bind fun x44 => some (some x44)) xs42)) = some (.list (bits 11)) := by kernel_rfl
  have e6 : cmpD .NotEq (.list (bits 11)) (.list (bits 11)) = some false := by kernel_rfl
  have e7 : cmpD .NotEq (.int (n + 11)) (.int (n + 11)) = some false := by rw [ne_i]; simp
  have e8 : isTy .bool (.int (n + 11)) = some false := rfl
  have e9 : isTy .int (.int (n + 11)) = some true := rfl
  rw [r_law_3b]
  rw [e1, obs1, e2, obs1, obs1, e3, obs1, obs1, e4, obs1, add_i, obs1, e7, obs1, obs1, kd_11, obs1, e5, obs1, e6, obs1]
  kernel_rfl
theorem turn_12 (k : Nat) (n : Int) (w0 w1 : D) : exs ⟨f_law.N, hd.G, callN T hd.G (k + 1)⟩ 55 [Sl.sh w0, Sl.sh w1, Sl.sh (.int n), Sl.sh (.list (objs n)), Sl.sh (.int 12), Sl.un, Sl.un, Sl.un, Sl.un, Sl.un] (forB (stAt f_law.body 3)) =
    some (Fl.next [Sl.sh w0, Sl.sh w1, Sl.sh (.int n), Sl.sh (.list (objs n)), Sl.sh (.int 12), Sl.un, Sl.un, Sl.un, Sl.un, Sl.un]) := by
  have e1 : ixD (.list (objs n)) (.int 12) = some (excD "BadPlace" (.int (n + 12))) := by kernel_rfl
  have e2 : hd.G.i "LanguageError" (excD "BadPlace" (.int (n + 12))) = some (.bool true) := by kernel_rfl
  have e3 : hd.G.i "ValueError" (excD "BadPlace" (.int (n + 12))) = some (.bool true) := by kernel_rfl
  have e4 : hd.G.a "at" (excD "BadPlace" (.int (n + 12))) = some (.int (n + 12)) := by kernel_rfl
  have e5 : (((bD .len [.list (objs n)]).bind fun x41 => rng1 x41).bind fun xs42 => lim (compM (fun x43 => ((cmpD .Eq x43 (.int 12)).map PyData.bool).bind fun x44 => some (some x44)) xs42)) = some (.list (bits 12)) := by kernel_rfl
  have e6 : cmpD .NotEq (.list (bits 12)) (.list (bits 12)) = some false := by kernel_rfl
  have e7 : cmpD .NotEq (.int (n + 12)) (.int (n + 12)) = some false := by rw [ne_i]; simp
  have e8 : isTy .bool (.int (n + 12)) = some false := rfl
  have e9 : isTy .int (.int (n + 12)) = some true := rfl
  rw [r_law_3b]
  rw [e1, obs1, e2, obs1, obs1, e3, obs1, obs1, e4, obs1, add_i, obs1, e7, obs1, obs1, kd_12, obs1, e5, obs1, e6, obs1]
  kernel_rfl
theorem turn_13 (k : Nat) (n : Int) (w0 w1 : D) : exs ⟨f_law.N, hd.G, callN T hd.G (k + 1)⟩ 55 [Sl.sh w0, Sl.sh w1, Sl.sh (.int n), Sl.sh (.list (objs n)), Sl.sh (.int 13), Sl.un, Sl.un, Sl.un, Sl.un, Sl.un] (forB (stAt f_law.body 3)) =
    some (Fl.next [Sl.sh w0, Sl.sh w1, Sl.sh (.int n), Sl.sh (.list (objs n)), Sl.sh (.int 13), Sl.un, Sl.un, Sl.un, Sl.un, Sl.un]) := by
  have e1 : ixD (.list (objs n)) (.int 13) = some (excD "BadProgram" (.int (n + 13))) := by kernel_rfl
  have e2 : hd.G.i "LanguageError" (excD "BadProgram" (.int (n + 13))) = some (.bool true) := by kernel_rfl
  have e3 : hd.G.i "ValueError" (excD "BadProgram" (.int (n + 13))) = some (.bool true) := by kernel_rfl
  have e4 : hd.G.a "at" (excD "BadProgram" (.int (n + 13))) = some (.int (n + 13)) := by kernel_rfl
  have e5 : (((bD .len [.list (objs n)]).bind fun x41 => rng1 x41).bind fun xs42 => lim (compM (fun x43 => ((cmpD .Eq x43 (.int 13)).map PyData.bool).bind fun x44 => some (some x44)) xs42)) = some (.list (bits 13)) := by kernel_rfl
  have e6 : cmpD .NotEq (.list (bits 13)) (.list (bits 13)) = some false := by kernel_rfl
  have e7 : cmpD .NotEq (.int (n + 13)) (.int (n + 13)) = some false := by rw [ne_i]; simp
  have e8 : isTy .bool (.int (n + 13)) = some false := rfl
  have e9 : isTy .int (.int (n + 13)) = some true := rfl
  rw [r_law_3b]
  rw [e1, obs1, e2, obs1, obs1, e3, obs1, obs1, e4, obs1, add_i, obs1, e7, obs1, obs1, kd_13, obs1, e5, obs1, e6, obs1]
  kernel_rfl
theorem turn_14 (k : Nat) (n : Int) (w0 w1 : D) : exs ⟨f_law.N, hd.G, callN T hd.G (k + 1)⟩ 55 [Sl.sh w0, Sl.sh w1, Sl.sh (.int n), Sl.sh (.list (objs n)), Sl.sh (.int 14), Sl.un, Sl.un, Sl.un, Sl.un, Sl.un] (forB (stAt f_law.body 3)) =
    some (Fl.next [Sl.sh w0, Sl.sh w1, Sl.sh (.int n), Sl.sh (.list (objs n)), Sl.sh (.int 14), Sl.un, Sl.un, Sl.un, Sl.un, Sl.un]) := by
  have e1 : ixD (.list (objs n)) (.int 14) = some (excD "BadTerm" (.int (n + 14))) := by kernel_rfl
  have e2 : hd.G.i "LanguageError" (excD "BadTerm" (.int (n + 14))) = some (.bool true) := by kernel_rfl
  have e3 : hd.G.i "ValueError" (excD "BadTerm" (.int (n + 14))) = some (.bool true) := by kernel_rfl
  have e4 : hd.G.a "at" (excD "BadTerm" (.int (n + 14))) = some (.int (n + 14)) := by kernel_rfl
  have e5 : (((bD .len [.list (objs n)]).bind fun x41 => rng1 x41).bind fun xs42 => lim (compM (fun x43 => ((cmpD .Eq x43 (.int 14)).map PyData.bool).bind fun x44 => some (some x44)) xs42)) = some (.list (bits 14)) := by kernel_rfl
  have e6 : cmpD .NotEq (.list (bits 14)) (.list (bits 14)) = some false := by kernel_rfl
  have e7 : cmpD .NotEq (.int (n + 14)) (.int (n + 14)) = some false := by rw [ne_i]; simp
  have e8 : isTy .bool (.int (n + 14)) = some false := rfl
  have e9 : isTy .int (.int (n + 14)) = some true := rfl
  rw [r_law_3b]
  rw [e1, obs1, e2, obs1, obs1, e3, obs1, obs1, e4, obs1, add_i, obs1, e7, obs1, obs1, kd_14, obs1, e5, obs1, e6, obs1]
  kernel_rfl
theorem turn_15 (k : Nat) (n : Int) (w0 w1 : D) : exs ⟨f_law.N, hd.G, callN T hd.G (k + 1)⟩ 55 [Sl.sh w0, Sl.sh w1, Sl.sh (.int n), Sl.sh (.list (objs n)), Sl.sh (.int 15), Sl.un, Sl.un, Sl.un, Sl.un, Sl.un] (forB (stAt f_law.body 3)) =
    some (Fl.next [Sl.sh w0, Sl.sh w1, Sl.sh (.int n), Sl.sh (.list (objs n)), Sl.sh (.int 15), Sl.un, Sl.un, Sl.un, Sl.un, Sl.un]) := by
  have e1 : ixD (.list (objs n)) (.int 15) = some (excD "BadCode" (.int (n + 15))) := by kernel_rfl
  have e2 : hd.G.i "LanguageError" (excD "BadCode" (.int (n + 15))) = some (.bool true) := by kernel_rfl
  have e3 : hd.G.i "ValueError" (excD "BadCode" (.int (n + 15))) = some (.bool true) := by kernel_rfl
  have e4 : hd.G.a "at" (excD "BadCode" (.int (n + 15))) = some (.int (n + 15)) := by kernel_rfl
  have e5 : (((bD .len [.list (objs n)]).bind fun x41 => rng1 x41).bind fun xs42 => lim (compM (fun x43 => ((cmpD .Eq x43 (.int 15)).map PyData.bool).bind fun x44 => some (some x44)) xs42)) = some (.list (bits 15)) := by kernel_rfl
  have e6 : cmpD .NotEq (.list (bits 15)) (.list (bits 15)) = some false := by kernel_rfl
  have e7 : cmpD .NotEq (.int (n + 15)) (.int (n + 15)) = some false := by rw [ne_i]; simp
  have e8 : isTy .bool (.int (n + 15)) = some false := rfl
  have e9 : isTy .int (.int (n + 15)) = some true := rfl
  rw [r_law_3b]
  rw [e1, obs1, e2, obs1, obs1, e3, obs1, obs1, e4, obs1, add_i, obs1, e7, obs1, obs1, kd_15, obs1, e5, obs1, e6, obs1]
  kernel_rfl
theorem turn_16 (k : Nat) (n : Int) (w0 w1 : D) : exs ⟨f_law.N, hd.G, callN T hd.G (k + 1)⟩ 55 [Sl.sh w0, Sl.sh w1, Sl.sh (.int n), Sl.sh (.list (objs n)), Sl.sh (.int 16), Sl.un, Sl.un, Sl.un, Sl.un, Sl.un] (forB (stAt f_law.body 3)) =
    some (Fl.next [Sl.sh w0, Sl.sh w1, Sl.sh (.int n), Sl.sh (.list (objs n)), Sl.sh (.int 16), Sl.un, Sl.un, Sl.un, Sl.un, Sl.un]) := by
  have e1 : ixD (.list (objs n)) (.int 16) = some (excD "NameFree" (.int (n + 16))) := by kernel_rfl
  have e2 : hd.G.i "LanguageError" (excD "NameFree" (.int (n + 16))) = some (.bool true) := by kernel_rfl
  have e3 : hd.G.i "ValueError" (excD "NameFree" (.int (n + 16))) = some (.bool true) := by kernel_rfl
  have e4 : hd.G.a "at" (excD "NameFree" (.int (n + 16))) = some (.int (n + 16)) := by kernel_rfl
  have e5 : (((bD .len [.list (objs n)]).bind fun x41 => rng1 x41).bind fun xs42 => lim (compM (fun x43 => ((cmpD .Eq x43 (.int 16)).map PyData.bool).bind fun x44 => some (some x44)) xs42)) = some (.list (bits 16)) := by kernel_rfl
  have e6 : cmpD .NotEq (.list (bits 16)) (.list (bits 16)) = some false := by kernel_rfl
  have e7 : cmpD .NotEq (.int (n + 16)) (.int (n + 16)) = some false := by rw [ne_i]; simp
  have e8 : isTy .bool (.int (n + 16)) = some false := rfl
  have e9 : isTy .int (.int (n + 16)) = some true := rfl
  rw [r_law_3b]
  rw [e1, obs1, e2, obs1, obs1, e3, obs1, obs1, e4, obs1, add_i, obs1, e7, obs1, obs1, kd_16, obs1, e5, obs1, e6, obs1]
  kernel_rfl
theorem turn_17 (k : Nat) (n : Int) (w0 w1 : D) : exs ⟨f_law.N, hd.G, callN T hd.G (k + 1)⟩ 55 [Sl.sh w0, Sl.sh w1, Sl.sh (.int n), Sl.sh (.list (objs n)), Sl.sh (.int 17), Sl.un, Sl.un, Sl.un, Sl.un, Sl.un] (forB (stAt f_law.body 3)) =
    some (Fl.next [Sl.sh w0, Sl.sh w1, Sl.sh (.int n), Sl.sh (.list (objs n)), Sl.sh (.int 17), Sl.un, Sl.un, Sl.un, Sl.un, Sl.un]) := by
  have e1 : ixD (.list (objs n)) (.int 17) = some (excD "BadSites" (.int (n + 17))) := by kernel_rfl
  have e2 : hd.G.i "LanguageError" (excD "BadSites" (.int (n + 17))) = some (.bool true) := by kernel_rfl
  have e3 : hd.G.i "ValueError" (excD "BadSites" (.int (n + 17))) = some (.bool true) := by kernel_rfl
  have e4 : hd.G.a "at" (excD "BadSites" (.int (n + 17))) = some (.int (n + 17)) := by kernel_rfl
  have e5 : (((bD .len [.list (objs n)]).bind fun x41 => rng1 x41).bind fun xs42 => lim (compM (fun x43 => ((cmpD .Eq x43 (.int 17)).map PyData.bool).bind fun x44 => some (some x44)) xs42)) = some (.list (bits 17)) := by kernel_rfl
  have e6 : cmpD .NotEq (.list (bits 17)) (.list (bits 17)) = some false := by kernel_rfl
  have e7 : cmpD .NotEq (.int (n + 17)) (.int (n + 17)) = some false := by rw [ne_i]; simp
  have e8 : isTy .bool (.int (n + 17)) = some false := rfl
  have e9 : isTy .int (.int (n + 17)) = some true := rfl
  rw [r_law_3b]
  rw [e1, obs1, e2, obs1, obs1, e3, obs1, obs1, e4, obs1, add_i, obs1, e7, obs1, obs1, kd_17, obs1, e5, obs1, e6, obs1]
  kernel_rfl
theorem turn_18 (k : Nat) (n : Int) (w0 w1 : D) : exs ⟨f_law.N, hd.G, callN T hd.G (k + 1)⟩ 55 [Sl.sh w0, Sl.sh w1, Sl.sh (.int n), Sl.sh (.list (objs n)), Sl.sh (.int 18), Sl.un, Sl.un, Sl.un, Sl.un, Sl.un] (forB (stAt f_law.body 3)) =
    some (Fl.next [Sl.sh w0, Sl.sh w1, Sl.sh (.int n), Sl.sh (.list (objs n)), Sl.sh (.int 18), Sl.un, Sl.un, Sl.un, Sl.un, Sl.un]) := by
  have e1 : ixD (.list (objs n)) (.int 18) = some (excD "NotAlike" (.int (n + 18))) := by kernel_rfl
  have e2 : hd.G.i "LanguageError" (excD "NotAlike" (.int (n + 18))) = some (.bool true) := by kernel_rfl
  have e3 : hd.G.i "ValueError" (excD "NotAlike" (.int (n + 18))) = some (.bool true) := by kernel_rfl
  have e4 : hd.G.a "at" (excD "NotAlike" (.int (n + 18))) = some (.int (n + 18)) := by kernel_rfl
  have e5 : (((bD .len [.list (objs n)]).bind fun x41 => rng1 x41).bind fun xs42 => lim (compM (fun x43 => ((cmpD .Eq x43 (.int 18)).map PyData.bool).bind fun x44 => some (some x44)) xs42)) = some (.list (bits 18)) := by kernel_rfl
  have e6 : cmpD .NotEq (.list (bits 18)) (.list (bits 18)) = some false := by kernel_rfl
  have e7 : cmpD .NotEq (.int (n + 18)) (.int (n + 18)) = some false := by rw [ne_i]; simp
  have e8 : isTy .bool (.int (n + 18)) = some false := rfl
  have e9 : isTy .int (.int (n + 18)) = some true := rfl
  rw [r_law_3b]
  rw [e1, obs1, e2, obs1, obs1, e3, obs1, obs1, e4, obs1, add_i, obs1, e7, obs1, obs1, kd_18, obs1, e5, obs1, e6, obs1]
  kernel_rfl
theorem turn_19 (k : Nat) (n : Int) (w0 w1 : D) : exs ⟨f_law.N, hd.G, callN T hd.G (k + 1)⟩ 55 [Sl.sh w0, Sl.sh w1, Sl.sh (.int n), Sl.sh (.list (objs n)), Sl.sh (.int 19), Sl.un, Sl.un, Sl.un, Sl.un, Sl.un] (forB (stAt f_law.body 3)) =
    some (Fl.next [Sl.sh w0, Sl.sh w1, Sl.sh (.int n), Sl.sh (.list (objs n)), Sl.sh (.int 19), Sl.un, Sl.un, Sl.un, Sl.un, Sl.un]) := by
  have e1 : ixD (.list (objs n)) (.int 19) = some (excD "BadHeap" (.int (n + 19))) := by kernel_rfl
  have e2 : hd.G.i "LanguageError" (excD "BadHeap" (.int (n + 19))) = some (.bool true) := by kernel_rfl
  have e3 : hd.G.i "ValueError" (excD "BadHeap" (.int (n + 19))) = some (.bool true) := by kernel_rfl
  have e4 : hd.G.a "at" (excD "BadHeap" (.int (n + 19))) = some (.int (n + 19)) := by kernel_rfl
  have e5 : (((bD .len [.list (objs n)]).bind fun x41 => rng1 x41).bind fun xs42 => lim (compM (fun x43 => ((cmpD .Eq x43 (.int 19)).map PyData.bool).bind fun x44 => some (some x44)) xs42)) = some (.list (bits 19)) := by kernel_rfl
  have e6 : cmpD .NotEq (.list (bits 19)) (.list (bits 19)) = some false := by kernel_rfl
  have e7 : cmpD .NotEq (.int (n + 19)) (.int (n + 19)) = some false := by rw [ne_i]; simp
  have e8 : isTy .bool (.int (n + 19)) = some false := rfl
  have e9 : isTy .int (.int (n + 19)) = some true := rfl
  rw [r_law_3b]
  rw [e1, obs1, e2, obs1, obs1, e3, obs1, obs1, e4, obs1, add_i, obs1, e7, obs1, obs1, kd_19, obs1, e5, obs1, e6, obs1]
  kernel_rfl
theorem turn_20 (k : Nat) (n : Int) (w0 w1 : D) : exs ⟨f_law.N, hd.G, callN T hd.G (k + 1)⟩ 55 [Sl.sh w0, Sl.sh w1, Sl.sh (.int n), Sl.sh (.list (objs n)), Sl.sh (.int 20), Sl.un, Sl.un, Sl.un, Sl.un, Sl.un] (forB (stAt f_law.body 3)) =
    some (Fl.next [Sl.sh w0, Sl.sh w1, Sl.sh (.int n), Sl.sh (.list (objs n)), Sl.sh (.int 20), Sl.un, Sl.un, Sl.un, Sl.un, Sl.un]) := by
  have e1 : ixD (.list (objs n)) (.int 20) = some (excD "BadRoots" (.int (n + 20))) := by kernel_rfl
  have e2 : hd.G.i "LanguageError" (excD "BadRoots" (.int (n + 20))) = some (.bool true) := by kernel_rfl
  have e3 : hd.G.i "ValueError" (excD "BadRoots" (.int (n + 20))) = some (.bool true) := by kernel_rfl
  have e4 : hd.G.a "at" (excD "BadRoots" (.int (n + 20))) = some (.int (n + 20)) := by kernel_rfl
  have e5 : (((bD .len [.list (objs n)]).bind fun x41 => rng1 x41).bind fun xs42 => lim (compM (fun x43 => ((cmpD .Eq x43 (.int 20)).map PyData.bool).bind fun x44 => some (some x44)) xs42)) = some (.list (bits 20)) := by kernel_rfl
  have e6 : cmpD .NotEq (.list (bits 20)) (.list (bits 20)) = some false := by kernel_rfl
  have e7 : cmpD .NotEq (.int (n + 20)) (.int (n + 20)) = some false := by rw [ne_i]; simp
  have e8 : isTy .bool (.int (n + 20)) = some false := rfl
  have e9 : isTy .int (.int (n + 20)) = some true := rfl
  rw [r_law_3b]
  rw [e1, obs1, e2, obs1, obs1, e3, obs1, obs1, e4, obs1, add_i, obs1, e7, obs1, obs1, kd_20, obs1, e5, obs1, e6, obs1]
  kernel_rfl
theorem turn_21 (k : Nat) (n : Int) (w0 w1 : D) : exs ⟨f_law.N, hd.G, callN T hd.G (k + 1)⟩ 55 [Sl.sh w0, Sl.sh w1, Sl.sh (.int n), Sl.sh (.list (objs n)), Sl.sh (.int 21), Sl.un, Sl.un, Sl.un, Sl.un, Sl.un] (forB (stAt f_law.body 3)) =
    some (Fl.next [Sl.sh w0, Sl.sh w1, Sl.sh (.int n), Sl.sh (.list (objs n)), Sl.sh (.int 21), Sl.un, Sl.un, Sl.un, Sl.un, Sl.un]) := by
  have e1 : ixD (.list (objs n)) (.int 21) = some (excD "BadSteps" (.int (n + 21))) := by kernel_rfl
  have e2 : hd.G.i "LanguageError" (excD "BadSteps" (.int (n + 21))) = some (.bool true) := by kernel_rfl
  have e3 : hd.G.i "ValueError" (excD "BadSteps" (.int (n + 21))) = some (.bool true) := by kernel_rfl
  have e4 : hd.G.a "at" (excD "BadSteps" (.int (n + 21))) = some (.int (n + 21)) := by kernel_rfl
  have e5 : (((bD .len [.list (objs n)]).bind fun x41 => rng1 x41).bind fun xs42 => lim (compM (fun x43 => ((cmpD .Eq x43 (.int 21)).map PyData.bool).bind fun x44 => some (some x44)) xs42)) = some (.list (bits 21)) := by kernel_rfl
  have e6 : cmpD .NotEq (.list (bits 21)) (.list (bits 21)) = some false := by kernel_rfl
  have e7 : cmpD .NotEq (.int (n + 21)) (.int (n + 21)) = some false := by rw [ne_i]; simp
  have e8 : isTy .bool (.int (n + 21)) = some false := rfl
  have e9 : isTy .int (.int (n + 21)) = some true := rfl
  rw [r_law_3b]
  rw [e1, obs1, e2, obs1, obs1, e3, obs1, obs1, e4, obs1, add_i, obs1, e7, obs1, obs1, kd_21, obs1, e5, obs1, e6, obs1]
  kernel_rfl
theorem turn_22 (k : Nat) (n : Int) (w0 w1 : D) : exs ⟨f_law.N, hd.G, callN T hd.G (k + 1)⟩ 55 [Sl.sh w0, Sl.sh w1, Sl.sh (.int n), Sl.sh (.list (objs n)), Sl.sh (.int 22), Sl.un, Sl.un, Sl.un, Sl.un, Sl.un] (forB (stAt f_law.body 3)) =
    some (Fl.next [Sl.sh w0, Sl.sh w1, Sl.sh (.int n), Sl.sh (.list (objs n)), Sl.sh (.int 22), Sl.un, Sl.un, Sl.un, Sl.un, Sl.un]) := by
  have e1 : ixD (.list (objs n)) (.int 22) = some (excD "BadModule" (.int (n + 22))) := by kernel_rfl
  have e2 : hd.G.i "LanguageError" (excD "BadModule" (.int (n + 22))) = some (.bool true) := by kernel_rfl
  have e3 : hd.G.i "ValueError" (excD "BadModule" (.int (n + 22))) = some (.bool true) := by kernel_rfl
  have e4 : hd.G.a "at" (excD "BadModule" (.int (n + 22))) = some (.int (n + 22)) := by kernel_rfl
  have e5 : (((bD .len [.list (objs n)]).bind fun x41 => rng1 x41).bind fun xs42 => lim (compM (fun x43 => ((cmpD .Eq x43 (.int 22)).map PyData.bool).bind fun x44 => some (some x44)) xs42)) = some (.list (bits 22)) := by kernel_rfl
  have e6 : cmpD .NotEq (.list (bits 22)) (.list (bits 22)) = some false := by kernel_rfl
  have e7 : cmpD .NotEq (.int (n + 22)) (.int (n + 22)) = some false := by rw [ne_i]; simp
  have e8 : isTy .bool (.int (n + 22)) = some false := rfl
  have e9 : isTy .int (.int (n + 22)) = some true := rfl
  rw [r_law_3b]
  rw [e1, obs1, e2, obs1, obs1, e3, obs1, obs1, e4, obs1, add_i, obs1, e7, obs1, obs1, kd_22, obs1, e5, obs1, e6, obs1]
  kernel_rfl
theorem turn_23 (k : Nat) (n : Int) (w0 w1 : D) : exs ⟨f_law.N, hd.G, callN T hd.G (k + 1)⟩ 55 [Sl.sh w0, Sl.sh w1, Sl.sh (.int n), Sl.sh (.list (objs n)), Sl.sh (.int 23), Sl.un, Sl.un, Sl.un, Sl.un, Sl.un] (forB (stAt f_law.body 3)) =
    some (Fl.next [Sl.sh w0, Sl.sh w1, Sl.sh (.int n), Sl.sh (.list (objs n)), Sl.sh (.int 23), Sl.un, Sl.un, Sl.un, Sl.un, Sl.un]) := by
  have e1 : ixD (.list (objs n)) (.int 23) = some (excD "NotFlat" (.int (n + 23))) := by kernel_rfl
  have e2 : hd.G.i "LanguageError" (excD "NotFlat" (.int (n + 23))) = some (.bool true) := by kernel_rfl
  have e3 : hd.G.i "ValueError" (excD "NotFlat" (.int (n + 23))) = some (.bool true) := by kernel_rfl
  have e4 : hd.G.a "at" (excD "NotFlat" (.int (n + 23))) = some (.int (n + 23)) := by kernel_rfl
  have e5 : (((bD .len [.list (objs n)]).bind fun x41 => rng1 x41).bind fun xs42 => lim (compM (fun x43 => ((cmpD .Eq x43 (.int 23)).map PyData.bool).bind fun x44 => some (some x44)) xs42)) = some (.list (bits 23)) := by kernel_rfl
  have e6 : cmpD .NotEq (.list (bits 23)) (.list (bits 23)) = some false := by kernel_rfl
  have e7 : cmpD .NotEq (.int (n + 23)) (.int (n + 23)) = some false := by rw [ne_i]; simp
  have e8 : isTy .bool (.int (n + 23)) = some false := rfl
  have e9 : isTy .int (.int (n + 23)) = some true := rfl
  rw [r_law_3b]
  rw [e1, obs1, e2, obs1, obs1, e3, obs1, obs1, e4, obs1, add_i, obs1, e7, obs1, obs1, kd_23, obs1, e5, obs1, e6, obs1]
  kernel_rfl
theorem turn_24 (k : Nat) (n : Int) (w0 w1 : D) : exs ⟨f_law.N, hd.G, callN T hd.G (k + 1)⟩ 55 [Sl.sh w0, Sl.sh w1, Sl.sh (.int n), Sl.sh (.list (objs n)), Sl.sh (.int 24), Sl.un, Sl.un, Sl.un, Sl.un, Sl.un] (forB (stAt f_law.body 3)) =
    some (Fl.next [Sl.sh w0, Sl.sh w1, Sl.sh (.int n), Sl.sh (.list (objs n)), Sl.sh (.int 24), Sl.un, Sl.un, Sl.un, Sl.un, Sl.un]) := by
  have e1 : ixD (.list (objs n)) (.int 24) = some (excD "NotFull" (.int (n + 24))) := by kernel_rfl
  have e2 : hd.G.i "LanguageError" (excD "NotFull" (.int (n + 24))) = some (.bool true) := by kernel_rfl
  have e3 : hd.G.i "ValueError" (excD "NotFull" (.int (n + 24))) = some (.bool true) := by kernel_rfl
  have e4 : hd.G.a "at" (excD "NotFull" (.int (n + 24))) = some (.int (n + 24)) := by kernel_rfl
  have e5 : (((bD .len [.list (objs n)]).bind fun x41 => rng1 x41).bind fun xs42 => lim (compM (fun x43 => ((cmpD .Eq x43 (.int 24)).map PyData.bool).bind fun x44 => some (some x44)) xs42)) = some (.list (bits 24)) := by kernel_rfl
  have e6 : cmpD .NotEq (.list (bits 24)) (.list (bits 24)) = some false := by kernel_rfl
  have e7 : cmpD .NotEq (.int (n + 24)) (.int (n + 24)) = some false := by rw [ne_i]; simp
  have e8 : isTy .bool (.int (n + 24)) = some false := rfl
  have e9 : isTy .int (.int (n + 24)) = some true := rfl
  rw [r_law_3b]
  rw [e1, obs1, e2, obs1, obs1, e3, obs1, obs1, e4, obs1, add_i, obs1, e7, obs1, obs1, kd_24, obs1, e5, obs1, e6, obs1]
  kernel_rfl
theorem turn_25 (k : Nat) (n : Int) (w0 w1 : D) : exs ⟨f_law.N, hd.G, callN T hd.G (k + 1)⟩ 55 [Sl.sh w0, Sl.sh w1, Sl.sh (.int n), Sl.sh (.list (objs n)), Sl.sh (.int 25), Sl.un, Sl.un, Sl.un, Sl.un, Sl.un] (forB (stAt f_law.body 3)) =
    some (Fl.next [Sl.sh w0, Sl.sh w1, Sl.sh (.int n), Sl.sh (.list (objs n)), Sl.sh (.int 25), Sl.un, Sl.un, Sl.un, Sl.un, Sl.un]) := by
  have e1 : ixD (.list (objs n)) (.int 25) = some (excD "NoBlame" (.int (n + 25))) := by kernel_rfl
  have e2 : hd.G.i "LanguageError" (excD "NoBlame" (.int (n + 25))) = some (.bool true) := by kernel_rfl
  have e3 : hd.G.i "ValueError" (excD "NoBlame" (.int (n + 25))) = some (.bool true) := by kernel_rfl
  have e4 : hd.G.a "at" (excD "NoBlame" (.int (n + 25))) = some (.int (n + 25)) := by kernel_rfl
  have e5 : (((bD .len [.list (objs n)]).bind fun x41 => rng1 x41).bind fun xs42 => lim (compM (fun x43 => ((cmpD .Eq x43 (.int 25)).map PyData.bool).bind fun x44 => some (some x44)) xs42)) = some (.list (bits 25)) := by kernel_rfl
  have e6 : cmpD .NotEq (.list (bits 25)) (.list (bits 25)) = some false := by kernel_rfl
  have e7 : cmpD .NotEq (.int (n + 25)) (.int (n + 25)) = some false := by rw [ne_i]; simp
  have e8 : isTy .bool (.int (n + 25)) = some false := rfl
  have e9 : isTy .int (.int (n + 25)) = some true := rfl
  rw [r_law_3b]
  rw [e1, obs1, e2, obs1, obs1, e3, obs1, obs1, e4, obs1, add_i, obs1, e7, obs1, obs1, kd_25, obs1, e5, obs1, e6, obs1]
  kernel_rfl
theorem turn_26 (k : Nat) (n : Int) (w0 w1 : D) : exs ⟨f_law.N, hd.G, callN T hd.G (k + 1)⟩ 55 [Sl.sh w0, Sl.sh w1, Sl.sh (.int n), Sl.sh (.list (objs n)), Sl.sh (.int 26), Sl.un, Sl.un, Sl.un, Sl.un, Sl.un] (forB (stAt f_law.body 3)) =
    some (Fl.next [Sl.sh w0, Sl.sh w1, Sl.sh (.int n), Sl.sh (.list (objs n)), Sl.sh (.int 26), Sl.un, Sl.un, Sl.un, Sl.un, Sl.un]) := by
  have e1 : ixD (.list (objs n)) (.int 26) = some (excD "HasEnded" (.int (n + 26))) := by kernel_rfl
  have e2 : hd.G.i "LanguageError" (excD "HasEnded" (.int (n + 26))) = some (.bool true) := by kernel_rfl
  have e3 : hd.G.i "ValueError" (excD "HasEnded" (.int (n + 26))) = some (.bool true) := by kernel_rfl
  have e4 : hd.G.a "at" (excD "HasEnded" (.int (n + 26))) = some (.int (n + 26)) := by kernel_rfl
  have e5 : (((bD .len [.list (objs n)]).bind fun x41 => rng1 x41).bind fun xs42 => lim (compM (fun x43 => ((cmpD .Eq x43 (.int 26)).map PyData.bool).bind fun x44 => some (some x44)) xs42)) = some (.list (bits 26)) := by kernel_rfl
  have e6 : cmpD .NotEq (.list (bits 26)) (.list (bits 26)) = some false := by kernel_rfl
  have e7 : cmpD .NotEq (.int (n + 26)) (.int (n + 26)) = some false := by rw [ne_i]; simp
  have e8 : isTy .bool (.int (n + 26)) = some false := rfl
  have e9 : isTy .int (.int (n + 26)) = some true := rfl
  rw [r_law_3b]
  rw [e1, obs1, e2, obs1, obs1, e3, obs1, obs1, e4, obs1, add_i, obs1, e7, obs1, obs1, kd_26, obs1, e5, obs1, e6, obs1]
  kernel_rfl
theorem turn (k : Nat) (n : Int) (w0 w1 : D) : ∀ j : Nat, j < 27 → exs ⟨f_law.N, hd.G, callN T hd.G (k + 1)⟩ 55 [Sl.sh w0, Sl.sh w1, Sl.sh (.int n), Sl.sh (.list (objs n)), Sl.sh (.int (0 + (j : Int))), Sl.un, Sl.un, Sl.un, Sl.un, Sl.un] (forB (stAt f_law.body 3)) =
    some (Fl.next [Sl.sh w0, Sl.sh w1, Sl.sh (.int n), Sl.sh (.list (objs n)), Sl.sh (.int (0 + (j : Int))), Sl.un, Sl.un, Sl.un, Sl.un, Sl.un])
  | 0, _ => turn_0 k n w0 w1
  | 1, _ => turn_1 k n w0 w1
  | 2, _ => turn_2 k n w0 w1
  | 3, _ => turn_3 k n w0 w1
  | 4, _ => turn_4 k n w0 w1
  | 5, _ => turn_5 k n w0 w1
  | 6, _ => turn_6 k n w0 w1
  | 7, _ => turn_7 k n w0 w1
  | 8, _ => turn_8 k n w0 w1
  | 9, _ => turn_9 k n w0 w1
  | 10, _ => turn_10 k n w0 w1
  | 11, _ => turn_11 k n w0 w1
  | 12, _ => turn_12 k n w0 w1
  | 13, _ => turn_13 k n w0 w1
  | 14, _ => turn_14 k n w0 w1
  | 15, _ => turn_15 k n w0 w1
  | 16, _ => turn_16 k n w0 w1
  | 17, _ => turn_17 k n w0 w1
  | 18, _ => turn_18 k n w0 w1
  | 19, _ => turn_19 k n w0 w1
  | 20, _ => turn_20 k n w0 w1
  | 21, _ => turn_21 k n w0 w1
  | 22, _ => turn_22 k n w0 w1
  | 23, _ => turn_23 k n w0 w1
  | 24, _ => turn_24 k n w0 w1
  | 25, _ => turn_25 k n w0 w1
  | 26, _ => turn_26 k n w0 w1
  | j + 27, h => by omega
end K00

namespace K00
open PySem L2 EV
theorem rest_of (k : Nat) (n : Int) (w0 w1 : D) (t4 : Sl) (r : Int) (hr : callN T hd.G (k + 10) "_law_mix" [w1, .int 1, .int 4] = some (.int r)) (h0 : 0 ≤ r) (h4 : r < 4) :
    exsK ⟨f_law.N, hd.G, callN T hd.G (k + 10)⟩ 56 [Sl.sh w0, Sl.sh w1, Sl.sh (.int n), Sl.sh (.list (objs n)), t4, Sl.un, Sl.un, Sl.un, Sl.un, Sl.un] (f_law.body.drop 4) endK = some (.bool true) := by
  have e1 : mkD "LanguageError" [.int n] = some (excD "LanguageError" (.int n)) := by kernel_rfl
  have e2 : hd.G.a "at" (excD "LanguageError" (.int n)) = some (.int n) := by kernel_rfl
  have e3 : cmpD .NotEq (.int n) (.int n) = some false := by rw [ne_i]; simp
  have e4 : cmpD .In (PyData.bool true) (.list (bits 99)) = some false := by kernel_rfl
  have e5 : hd.G.i "ValueError" (excD "LanguageError" (.int n)) = some (.bool true) := by kernel_rfl
  have e6 : (truD (.bool true)).map (!·) = some false := by kernel_rfl
  have e7 : (((bD .len [.list (objs n)]).bind fun x79 => rng1 x79).bind fun xs80 => lim (compM (fun x81 => ((cmpD .Eq x81 (PyData.int 0)).map PyData.bool).bind fun x82 => some (some x82)) xs80)) = some (.list (bits 0)) := by kernel_rfl
  have g : ∀ m : Int, callN T hd.G (k + 10) "_law_raised" [.int m] = gRaised "OutOfRange" [.int m] := fun m => by kernel_rfl
  rw [r_law_3a, e1, obs1, e2, obs1, e3, obs1, cf, kd_base, obs1, e4, obs1, cf, e5, obs1, e6, obs1, cf, hr, obs1]
  have fin : ∀ m : Int, m < 0 → ((callN T hd.G (k + 10) "_law_raised" [.int m]).bind fun x69 => (((cmpD .IsNot x69 PyData.none).map PyData.bool).bind fun x73 => (truD x73).bind fun k72 => cond k72 (((hd.G.a "at" x69).bind fun x75 => (cmpD .Eq x75 (.int m)).map PyData.bool).bind fun x76 => (truD x76).bind fun k74 => cond k74 ((callN T hd.G (k + 10) "_law_kinds" [x69]).bind fun x77 => (((bD .len [.list (objs n)]).bind fun x79 => rng1 x79).bind fun xs80 => lim (compM (fun x81 => ((cmpD .Eq x81 (PyData.int 0)).map PyData.bool).bind fun x82 => some (some x82)) xs80)).bind fun x83 => (cmpD .Eq x77 x83).map PyData.bool) (some x76)) (some x73)).bind fun x84 => some x84) = some (.bool true) := fun m hm => by
    have e8 : callN T hd.G (k + 10) "_law_raised" [.int m] = some (excD "OutOfRange" (.int m)) := by
      rw [g]
      show cond (decide (m < 0)) _ _ = _
      rw [decide_eq_true hm]; rfl
    have e9 : (cmpD .IsNot (excD "OutOfRange" (.int m)) PyData.none).map PyData.bool = some (.bool true) := by kernel_rfl
    have e10 : truD (.bool true) = some true := by kernel_rfl
    have e11 : hd.G.a "at" (excD "OutOfRange" (.int m)) = some (.int m) := by kernel_rfl
    have e12 : cmpD .Eq (.int m) (.int m) = some true := by rw [eq_i]; simp
    have e13 : (some true).map PyData.bool = some (.bool true) := rfl
    have e14 : (cmpD .Eq (.list (bits 0)) (.list (bits 0))).map PyData.bool = some (.bool true) := by kernel_rfl
    rw [e8, obs1, e9, obs1, e10, obs1, ct, e11, obs1, e12, e13, obs1, e10, obs1, ct, kd_0, obs1, e7, obs1, e14, obs1]
  have c : r = 0 ∨ r = 1 ∨ r = 2 ∨ r = 3 := by omega
  rcases c with rfl | rfl | rfl | rfl
  · have e : ixD (PyData.list [(PyData.int (-1)), (PyData.int (-2)), (PyData.int (-7)), (PyData.int (-99))]) (.int 0) = some (.int (-1)) := by kernel_rfl
    rw [e, obs1]; exact fin (-1) (by decide)
  · have e : ixD (PyData.list [(PyData.int (-1)), (PyData.int (-2)), (PyData.int (-7)), (PyData.int (-99))]) (.int 1) = some (.int (-2)) := by kernel_rfl
    rw [e, obs1]; exact fin (-2) (by decide)
  · have e : ixD (PyData.list [(PyData.int (-1)), (PyData.int (-2)), (PyData.int (-7)), (PyData.int (-99))]) (.int 2) = some (.int (-7)) := by kernel_rfl
    rw [e, obs1]; exact fin (-7) (by decide)
  · have e : ixD (PyData.list [(PyData.int (-1)), (PyData.int (-2)), (PyData.int (-7)), (PyData.int (-99))]) (.int 3) = some (.int (-99)) := by kernel_rfl
    rw [e, obs1]; exact fin (-99) (by decide)
theorem law_true (ns : List Int) (k : Nat) (hk : 20 ≤ k) : callN T hd.G (k + 1) "law" [.list (ns.map .int)] = some (.bool true) := by
  obtain ⟨k1, rfl⟩ : ∃ i, k = i + 10 := ⟨k - 10, by omega⟩
  obtain ⟨ds, ed, hd0⟩ := ev_draws ns (k1 + 9)
  obtain ⟨r0, er0, _, _⟩ := ev_mix hd0 (k1 + 9) 0 60000 (by decide) (by decide)
  obtain ⟨r1, er1, h0, h4⟩ := ev_mix hd0 (k1 + 9) 1 4 (by decide) (by decide)
  have ex : ((bD .len [.list (objs (r0 - 30000))]).bind fun x13 => rng1 x13) = some (intRange 0 27) := by kernel_rfl
  rw [r_law, ed, obs1, er0, obs1, sub_i, obs1, ev_made, obs1, ex, obs1]
  have lp1 := forL_inv (g := fun σ x => asg f_law.N σ (forT (stAt f_law.body 3)) x) (body := fun σ => exs ⟨f_law.N, hd.G, callN T hd.G (k1 + 10)⟩ 55 σ (forB (stAt f_law.body 3)))
    (fun _ σ => ∃ t4, σ = [Sl.sh (.list (ns.map .int)), Sl.sh (.list (ds.map .int)), Sl.sh (.int (r0 - 30000)), Sl.sh (.list (objs (r0 - 30000))), t4, Sl.un, Sl.un, Sl.un, Sl.un, Sl.un])
    (intRange 0 27) 0 [Sl.sh (.list (ns.map .int)), Sl.sh (.list (ds.map .int)), Sl.sh (.int (r0 - 30000)), Sl.sh (.list (objs (r0 - 30000))), Sl.un, Sl.un, Sl.un, Sl.un, Sl.un, Sl.un] ⟨_, rfl⟩ ?_
  · obtain ⟨σ1, q1, t4, rfl⟩ := lp1
    rw [q1, obs1]
    show exsK _ 56 _ _ _ = _
    exact rest_of k1 _ _ _ _ r1 er1 h0 h4
  · rintro j hj σ ⟨t4, rfl⟩
    have hx := range_at hj
    rw [intRange_length] at hj
    refine ⟨_, r_law_3g _ _ _ _ _ _ _ _ _ _ _, ?_⟩
    rw [hx]
    exact ⟨_, turn (k1 + 9) _ _ _ j hj, _, rfl⟩
end K00

theorem PySem.Challenge.cw_typedbydegrees_k00_errors_are_apart_holds : PySem.Challenge.rw_typedbydegrees_k00_errors_are_apart.Holds := by
  exact K00.holds_of (k := 100) ⟨rfl, by decide, by decide⟩ fun ns _ _ => K00.law_true ns 100 (by decide)

