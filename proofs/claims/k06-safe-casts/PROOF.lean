import PyProof.Rows.All
import Wide.All
import OpenK.AllK
import Wide.FinOn
import HandS.ForMost
import HandS.Star
import HandS.Deep
import HandS.TupAny
import HandS.TupLe
import HandS.IsInst
import HandS.Conv
import HandS.Flow
import KE.SortData
import PyProof.ReprRoads
import PyProof.Rows.RegFStrParts
import HandS.Base
import HandS.List
import HandS.Call
import HandS.Zip
import HandS.TryOnly
import HandS.Ends
import HandS.EndBits
import HandS.Defaults
import HandS.Head0
import HandS.Head1
import HandS.Head2
import HandS.HeadEnd
import HandS.HeadHook1
import HandS.HeadHook2
import HandS.HeadHook3
import PySem.Challenge.RW_typedbydegrees_k06_whole_casts_that_are
set_option linter.all false
set_option autoImplicit false
namespace EV
open PySem L2

abbrev D := PySem.PyData
/-- a slot of a def: unset, a value that is shared, a list that only this slot reaches -/
inductive Sl where
  | un | sh (d : D) | ow (l : List D)
def Sl.val : Sl → Option D
  | .un => none
  | .sh d => some d
  | .ow l => some (.list l)
def Sl.keep : Sl → Option D
  | .sh d => some d
  | _ => none
def Sl.share : Sl → Sl
  | .ow l => .sh (.list l)
  | s => s
def rd (b : Bool) (s : Sl) : Option D := cond b s.val s.keep

structure Cfg where
  N : List Str
  G : Str → Option D
  C : Str → List D → Option D

def items : D → Option (List D)
  | .list xs => some xs
  | .tuple xs => some xs
  | _ => none
def mapO {α β : Type} (f : α → Option β) : List α → Option (List β)
  | [] => some []
  | x :: r => (f x).bind fun y => (mapO f r).bind fun ys => some (y :: ys)
def boolsD : List D → Option (List Bool) := mapO fun d => match d with | .bool b => some b | _ => none
def intsD : List D → Option (List Int) := mapO fun d => match d with | .int i => some i | _ => none

mutual
/-- nesting at most n -/
def dle : Nat → D → Bool
  | 0, d => (match d with | .none | .bool _ | .int _ | .str _ => true | _ => false)
  | n + 1, d => (match d with | .list xs => dles n xs | .tuple xs => dles n xs | .dict _ => false | _ => true)
def dles : Nat → List D → Bool
  | _, [] => true
  | n, x :: xs => dle n x && dles n xs
end

def few : Nat := 100000
def small64 (i : Int) : Bool := decide (-(2 ^ 64) < i) && decide (i < 2 ^ 64)
def binD : Operator → D → D → Option D
  | .Add, .int i, .int j => some (.int (i + j))
  | .Sub, .int i, .int j => some (.int (i - j))
  | .Mult, .int i, .int j => cond (small64 i || small64 j) (some (.int (i * j))) none
  | .FloorDiv, .int i, .int j => cond (decide (0 < j) && decide (j < 1073741824)) (some (.int (i / j))) none
  | .Mod, .int i, .int j => cond (decide (0 < j)) (some (.int (i % j))) none
  | .Pow, .int i, .int j => cond (decide (0 ≤ j) && (decide (j ≤ 1000000) && decide (i.natAbs < 2 ^ 64))) (some (.int (i ^ j.toNat))) none
  | .Add, .list xs, .list ys => cond (decide (xs.length + ys.length ≤ few)) (some (.list (xs ++ ys))) none
  | .Add, .tuple xs, .tuple ys => cond (decide (xs.length + ys.length ≤ few)) (some (.tuple (xs ++ ys))) none
  | _, _, _ => none
/-- a dict of the text with text keys -/
def dget (kvs : List (D × D)) (x : Str) : Option D :=
  match kvs with
  | [] => none
  | (k, v) :: r => (match k with
    | .str y => cond (decide (y = x)) (some v) (dget r x)
    | _ => dget r x)

def eqD (x y : D) : Option Bool := cond (dle 60 x && dle 60 y) (some (PyData.eqv x y)) none
def inD (x y : D) : Option Bool :=
  match y with
  | .list ys => cond (dle 60 x && dle 60 (.list ys)) (some (ys.any fun z => PyData.eqv z x)) none
  | .tuple ys => cond (dle 60 x && dle 60 (.tuple ys)) (some (ys.any fun z => PyData.eqv z x)) none
  | .dict kvs => (match x with | .str z => some (dget kvs z).isSome | _ => none)
  | _ => none
def cmpI (x y : D) (f : Int → Int → Bool) : Option Bool :=
  match x, y with
  | .int i, .int j => some (f i j)
  | _, _ => none
def isB (x y : D) : Option Bool :=
  match x, y with
  | .bool a, .bool b => some (a == b)
  | _, _ => none
def isNone : D → Bool
  | .none => true
  | _ => false
/-- a comparison by values -/
def cmpD : CmpOp → D → D → Option Bool
  | .Eq, x, y => eqD x y
  | .NotEq, x, y => (eqD x y).map (!·)
  | .Lt, x, y => cmpI x y fun i j => decide (i < j)
  | .LtE, x, y => cmpI x y fun i j => decide (i ≤ j)
  | .Gt, x, y => cmpI x y fun i j => decide (j < i)
  | .GtE, x, y => cmpI x y fun i j => decide (j ≤ i)
  | .In, x, y => inD x y
  | .NotIn, x, y => (inD x y).map (!·)
  | .Is, x, y => (match y with | .none => some (isNone x) | _ => isB x y)
  | .IsNot, x, y => (match y with | .none => some (!isNone x) | _ => (isB x y).map (!·))
def truD : D → Option Bool
  | .none => some false
  | .bool b => some b
  | .int i => some (i != 0)
  | .list xs => some (!xs.isEmpty)
  | .tuple xs => some (!xs.isEmpty)
  | _ => none
def ixD (x y : D) : Option D :=
  match x, y with
  | .list xs, .int i => atI xs i
  | .tuple xs, .int i => atI xs i
  | .dict kvs, .str z => dget kvs z
  | _, _ => none
def cut (xs : List D) (lo hi : Option Int) : List D := (xs.drop (HT.sIx xs.length 0 lo)).take (HT.sIx xs.length xs.length hi - HT.sIx xs.length 0 lo)
def slD (x : D) (lo hi : Option Int) : Option D :=
  match x with
  | .list xs => some (.list (cut xs lo hi))
  | .tuple xs => some (.tuple (cut xs lo hi))
  | _ => none
/-- sorting data of one form -/
def isTupN : D → Bool
  | .tuple (_ :: _) => true
  | _ => false
def isPlainD : D → Bool
  | .none => false
  | .tuple _ => false
  | _ => true
def sortOk (xs : List D) : Bool := xs.all (fun x => xs.all fun y => PySem.W.alike x y) && ((xs.all isTupN || xs.all isPlainD) && (dles 60 xs && decide (xs.length ≤ few)))
def sortD : List D → Option D
  | [.list xs] => cond (sortOk xs) (some (.list (xs.mergeSort (PySem.W.dataLe false id)))) none
  | _ => none
/-- the text of data -/
def reprD : List D → Option D
  | [d] => cond (dle 60 d && (PyData.layable0 d && (d.intsShort 13 && d.showable))) (some (.str d.shown)) none
  | _ => none
inductive BI where
  | len | abs | int | min | max | all | any | sum | tuple | repr | sorted
def bName : BI → Str
  | .len => "len" | .abs => "abs" | .int => "int" | .min => "min" | .max => "max" | .all => "all" | .any => "any" | .sum => "sum" | .tuple => "tuple" | .repr => "repr" | .sorted => "sorted"
def bAll : List BI := [.len, .abs, .int, .min, .max, .all, .any, .sum, .tuple, .repr, .sorted]
def bFindIn (f : Str) : List BI → Option BI
  | [] => none
  | b :: r => cond (decide (bName b = f)) (some b) (bFindIn f r)
def bFind (f : Str) : Option BI := bFindIn f bAll
def listsD : List D → Option (List (List D)) := mapO fun d => match d with | .list l => some l | _ => none
def bD : BI → List D → Option D
  | .len, [.list xs] => some (.int xs.length)
  | .len, [.tuple xs] => some (.int xs.length)
  | .abs, [.int i] => some (.int (cond (decide (i < 0)) (-i) i))
  | .int, [.int i] => some (.int i)
  | .int, [.bool b] => some (.int (cond b 1 0))
  | .min, [.int i, .int j] => some (.int (cond (decide (j < i)) j i))
  | .max, [.int i, .int j] => some (.int (cond (decide (j > i)) j i))
  | .all, [.list xs] => (boolsD xs).map fun bs => .bool (bs.all id)
  | .any, [.list xs] => (boolsD xs).map fun bs => .bool (bs.any id)
  | .sum, [.list xs] => (intsD xs).map fun is => .int is.sum
  | .sum, [.list (x :: xs), .list ys] => (listsD (x :: xs)).bind fun ls => cond (decide (ys.length + ls.flatten.length ≤ few)) (some (.list (ys ++ ls.flatten))) none
  | .tuple, [.list xs] => some (.tuple xs)
  | .tuple, [.tuple xs] => some (.tuple xs)
  | .repr, ds => reprD ds
  | .sorted, ds => sortD ds
  | _, _ => none

inductive Ty where
  | tuple | int | bool | str | list
def tName : Ty → Str
  | .tuple => "tuple" | .int => "int" | .bool => "bool" | .str => "str" | .list => "list"
def tString : Ty → String
  | .tuple => "tuple" | .int => "int" | .bool => "bool" | .str => "str" | .list => "list"
def tFindIn (f : Str) : List Ty → Option Ty
  | [] => none
  | b :: r => cond (decide (tName b = f)) (some b) (tFindIn f r)
def tFind (f : Str) : Option Ty := tFindIn f [.tuple, .int, .bool, .str, .list]
def isTy (t : Ty) (d : D) : Option Bool :=
  match d with
  | .none => some false
  | .bool _ => some (match t with | .bool => true | .int => true | _ => false)
  | .int _ => some (match t with | .int => true | _ => false)
  | .str _ => some (match t with | .str => true | _ => false)
  | .list _ => some (match t with | .list => true | _ => false)
  | .tuple _ => some (match t with | .tuple => true | _ => false)
  | .dict _ => none

def constD : Const → Option D
  | .none => some .none
  | .bool b => some (.bool b)
  | .int i => some (.int i)
  | .str s => some (.str s)
  | _ => none

def setSl (σ : List Sl) (i : Nat) (d : D) : List Sl := σ.set i (.sh d)
/-- store in a name, in several names -/
def asgN (N : List Str) (σ : List Sl) (x : Str) (d : D) : Option (List Sl) := (N.idxOf? x).bind fun i => some (setSl σ i d)
def asgs (N : List Str) : List Expr → List D → List Sl → Option (List Sl)
  | [], [], σ => some σ
  | .Name x _ :: es, d :: ds, σ => (asgN N σ x d).bind fun σ' => asgs N es ds σ'
  | _, _, _ => none
def asg (N : List Str) (σ : List Sl) (t : Expr) (d : D) : Option (List Sl) :=
  match t with
  | .Name x _ => asgN N σ x d
  | .Tuple es _ _ => (match d with
    | .tuple ds => asgs N es ds σ
    | .list ds => asgs N es ds σ
    | _ => none)
  | _ => none

/-- the arguments, the items of a display -/
def args (f : Bool → Expr → Option D) : List Expr → Option (List D)
  | [] => some []
  | .Starred e _ :: r => (f true e).bind fun d => (items d).bind fun xs => (args f r).bind fun ys => some (xs ++ ys)
  | e :: r => (f false e).bind fun d => (args f r).bind fun ys => some (d :: ys)
def intRange (lo : Int) : Nat → List D
  | 0 => []
  | n + 1 => .int lo :: intRange (lo + 1) n
def small62 (i : Int) : Bool := decide (-(2 ^ 62) ≤ i) && decide (i < 2 ^ 62)
def enumD (i : Int) : List D → List D
  | [] => []
  | x :: r => .tuple [.int i, x] :: enumD (i + 1) r
def zipT : List D → List D → List D
  | x :: xs, y :: ys => .tuple [x, y] :: zipT xs ys
  | _, _ => []
def zipD : D → D → Option (List D)
  | .list xs, .list ys => some (zipT xs ys)
  | .tuple xs, .tuple ys => some (zipT xs ys)
  | _, _ => none
/-- what a for walks -/
def iter (N : List Str) (f : Expr → Option D) (e : Expr) : Option (List D) :=
  match e with
  | .Call (.Name g _) [a] [] _ => cond (decide (g = "range")) ((f a).bind fun d => match d with
      | .int j => cond (small62 j) (some (intRange 0 j.toNat)) none
      | _ => none) ((f e).bind items)
  | .Call (.Name g _) [a, b] [] _ => cond (decide (g = "range")) ((f a).bind fun d => (f b).bind fun d' => match d, d' with
      | .int i, .int j => cond (small62 i && small62 j) (some (intRange i (j - i).toNat)) none
      | _, _ => none) (cond (decide (g = "zip")) ((f a).bind fun d => (f b).bind fun d' => zipD d d') ((f e).bind items))
  | e => (f e).bind items

/-- all tests of a comprehension -/
def tests (f : Expr → Option Bool) : List Expr → Option Bool
  | [] => some true
  | c :: r => (f c).bind fun b => cond b (tests f r) (some false)
/-- the names of a comprehension's own block, with their slots -/
def ownOf (N : List Str) : List (Str × NameKind) → List (Str × Nat)
  | [] => []
  | (x, k) :: r => (match k with
    | .free => ownOf N r
    | _ => (match N.idxOf? x with
      | some i => (x, i) :: ownOf N r
      | none => ownOf N r))
def wipeD (es : List Sl) : List Nat → List Sl
  | [] => es
  | v :: vs => (wipeD es vs).set v .un
def namesIx (N : List Str) : List Expr → List Nat
  | [] => []
  | .Name x _ :: r => (match N.idxOf? x with
    | some i => i :: namesIx N r
    | none => namesIx N r)
  | _ :: r => namesIx N r
def tgIx (N : List Str) : Expr → List Nat
  | .Name x p => namesIx N [.Name x p]
  | .Tuple es _ _ => namesIx N es
  | _ => []
def lim (r : Option (List D)) : Option D := r.bind fun ys => cond (decide (ys.length ≤ few)) (some (.list ys)) none
/-- the elements -/
def comp1 (g : D → Option (List Sl)) (t : List Sl → Option Bool) (f : List Sl → Option D) : List D → Option (List D)
  | [] => some []
  | x :: r => (g x).bind fun σ => (t σ).bind fun b => cond b ((f σ).bind fun y => (comp1 g t f r).bind fun ys => some (y :: ys)) (comp1 g t f r)
def comp2 (g : D → Option (List Sl)) (it : List Sl → Option (List D)) (inner : List Sl → List D → Option (List D)) : List D → Option (List D)
  | [] => some []
  | x :: r => (g x).bind fun σ => (it σ).bind fun zs => (inner σ zs).bind fun ys => (comp2 g it inner r).bind fun ws => some (ys ++ ws)

/-- the elements of a comprehension by what one item gives: nothing, or an element -/
def compM (F : D → Option (Option D)) : List D → Option (List D)
  | [] => some []
  | x :: r => (F x).bind fun o => (compM F r).bind fun ys => some (match o with
    | some y => y :: ys
    | none => ys)
def compJ (F : D → Option (List D)) : List D → Option (List D)
  | [] => some []
  | x :: r => (F x).bind fun ys => (compJ F r).bind fun ws => some (ys ++ ws)
theorem comp1_eq (g : D → Option (List Sl)) (t : List Sl → Option Bool) (f : List Sl → Option D) : ∀ xs, comp1 g t f xs = compM (fun x => (g x).bind fun σ => (t σ).bind fun b => cond b ((f σ).bind fun y => some (some y)) (some none)) xs
  | [] => rfl
  | x :: r => by
    unfold comp1 compM
    rw [comp1_eq g t f r]
    cases g x with
    | none => rfl
    | some σ =>
      simp only [Option.bind_some]
      cases t σ with
      | none => rfl
      | some b =>
        cases b with
        | true =>
          simp only [Option.bind_some, cond_true]
          cases f σ with
          | none => rfl
          | some y => rfl
        | false =>
          simp only [Option.bind_some, cond_false]
          generalize compM _ r = q
          cases q <;> rfl
theorem comp2_eq (g : D → Option (List Sl)) (it : List Sl → Option (List D)) (inner : List Sl → List D → Option (List D)) : ∀ xs, comp2 g it inner xs = compJ (fun x => (g x).bind fun σ => (it σ).bind fun zs => inner σ zs) xs
  | [] => rfl
  | x :: r => by
    unfold comp2 compJ
    rw [comp2_eq g it inner r]
    cases g x with
    | none => rfl
    | some σ =>
      simp only [Option.bind_some]
      cases it σ <;> rfl
mutual
def ev (c : Cfg) : Nat → Bool → List Sl → Expr → Option D
  | 0, _, _, _ => none
  | n + 1, b, σ, e =>
    match e with
    | .Constant k _ _ => constD k
    | .Name x _ => (match c.N.idxOf? x with
      | some i => (σ[i]?).bind (rd b)
      | none => c.G x)
    | .Tuple es _ _ => (args (fun b e => ev c n b σ e) es).bind fun ds => cond (decide (ds.length ≤ few)) (some (.tuple ds)) none
    | .List es _ => (args (fun b e => ev c n b σ e) es).bind fun ds => cond (decide (ds.length ≤ few)) (some (.list ds)) none
    | .BinOp l o r _ => (ev c n true σ l).bind fun x => (ev c n true σ r).bind fun y => binD o x y
    | .UnaryOp .Not x _ => (ev c n true σ x).bind fun d => (truD d).map fun k => .bool !k
    | .UnaryOp .USub x _ => (ev c n true σ x).bind fun d => match d with
      | .int i => some (.int (-i))
      | _ => none
    | .BoolOp .And vs _ => andV c n b σ vs
    | .BoolOp .Or vs _ => orV c n b σ vs
    | .IfExp t x y _ => (tst c n σ t).bind fun k => cond k (ev c n b σ x) (ev c n b σ y)
    | .Compare l [o] [r] _ => (ev c n true σ l).bind fun x => (ev c n true σ r).bind fun y => (cmpD o x y).map .bool
    | .Compare l [o, o'] [m, r] _ => (ev c n true σ l).bind fun x => (ev c n true σ m).bind fun y => (cmpD o x y).bind fun k =>
        cond k ((ev c n true σ r).bind fun z => (cmpD o' y z).map .bool) (some (.bool false))
    | .Subscript x (.Slice lo hi none _) _ => (ev c n true σ x).bind fun d => (part c n σ lo).bind fun l => (part c n σ hi).bind fun h => slD d l h
    | .Subscript x i _ => (ev c n true σ x).bind fun d => (ev c n true σ i).bind fun j => ixD d j
    | .Call (.Name f _) as [] _ =>
      cond (decide (f = "isinstance")) (match as with
        | [x, .Name t _] => (tFind t).bind fun t => (ev c n true σ x).bind fun d => (isTy t d).map .bool
        | _ => none)
      (match bFind f with
        | some bi => (args (fun _ e => ev c n true σ e) as).bind (bD bi)
        | none => (args (fun _ e => ev c n false σ e) as).bind (c.C f))
    | .ListComp elt [⟨t, it, ifs, 0⟩] sc _ =>
      (iter c.N (ev c n true σ) it).bind fun xs => lim (compM (fun x => (asg c.N (wipeD σ ((ownOf c.N sc.names).map (·.2))) t x).bind fun σ' => (tests (tst c n σ') ifs).bind fun b => cond b ((ev c n false σ' elt).bind fun y => some (some y)) (some none)) xs)
    | .ListComp elt [⟨t, it, [], 0⟩, ⟨t', it', ifs', 0⟩] sc _ =>
      (iter c.N (ev c n true σ) it).bind fun xs => lim (compJ (fun x => (asg c.N (wipeD σ ((ownOf c.N sc.names).map (·.2))) t x).bind fun σ' => (iter c.N (ev c n false σ') it').bind fun zs =>
        compM (fun x => (asg c.N (wipeD σ' (tgIx c.N t')) t' x).bind fun σ'' => (tests (tst c n σ'') ifs').bind fun b => cond b ((ev c n false σ'' elt).bind fun y => some (some y)) (some none)) zs) xs)
    | _ => none
def part (c : Cfg) : Nat → List Sl → Option Expr → Option (Option Int)
  | 0, _, _ => none
  | _ + 1, _, none => some none
  | n + 1, σ, some e => (ev c n true σ e).bind fun d => match d with
    | .int i => some (some i)
    | _ => none
def andV (c : Cfg) : Nat → Bool → List Sl → List Expr → Option D
  | 0, _, _, _ => none
  | _ + 1, _, _, [] => none
  | n + 1, b, σ, [e] => ev c n b σ e
  | n + 1, b, σ, e :: r => (ev c n b σ e).bind fun d => (truD d).bind fun k => cond k (andV c n b σ r) (some d)
def orV (c : Cfg) : Nat → Bool → List Sl → List Expr → Option D
  | 0, _, _, _ => none
  | _ + 1, _, _, [] => none
  | n + 1, b, σ, [e] => ev c n b σ e
  | n + 1, b, σ, e :: r => (ev c n b σ e).bind fun d => (truD d).bind fun k => cond k (some d) (orV c n b σ r)
/-- a test -/
def tst (c : Cfg) : Nat → List Sl → Expr → Option Bool
  | 0, _, _ => none
  | n + 1, σ, e =>
    match e with
    | .BoolOp .And vs _ => andT c n σ vs
    | .BoolOp .Or vs _ => orT c n σ vs
    | .UnaryOp .Not x _ => (tst c n σ x).map (!·)
    | .IfExp t x y _ => (tst c n σ t).bind fun k => cond k (tst c n σ x) (tst c n σ y)
    | .Compare l [o] [r] _ => (ev c n true σ l).bind fun x => (ev c n true σ r).bind fun y => cmpD o x y
    | .Compare l [o, o'] [m, r] _ => (ev c n true σ l).bind fun x => (ev c n true σ m).bind fun y => (cmpD o x y).bind fun k =>
        cond k ((ev c n true σ r).bind fun z => cmpD o' y z) (some false)
    | e => (ev c n true σ e).bind truD
def andT (c : Cfg) : Nat → List Sl → List Expr → Option Bool
  | 0, _, _ => none
  | _ + 1, _, [] => none
  | n + 1, σ, [e] => tst c n σ e
  | n + 1, σ, e :: r => (tst c n σ e).bind fun k => cond k (andT c n σ r) (some false)
def orT (c : Cfg) : Nat → List Sl → List Expr → Option Bool
  | 0, _, _ => none
  | _ + 1, _, [] => none
  | n + 1, σ, [e] => tst c n σ e
  | n + 1, σ, e :: r => (tst c n σ e).bind fun k => cond k (some true) (orT c n σ r)
end
end EV

namespace EV
open PySem L2

/-- names that an expression hands on (not: asks and forgets) -/
def esc (N : List Str) : Nat → Bool → Expr → List Str
  | 0, _, _ => []
  | n + 1, b, e =>
    match e with
    | .Name x _ => cond b [] [x]
    | .Tuple es _ _ => es.flatMap fun e => match e with
      | .Starred e _ => esc N n true e
      | e => esc N n false e
    | .List es _ => es.flatMap fun e => match e with
      | .Starred e _ => esc N n true e
      | e => esc N n false e
    | .BinOp l _ r _ => esc N n true l ++ esc N n true r
    | .UnaryOp _ x _ => esc N n true x
    | .BoolOp _ vs _ => vs.flatMap (esc N n b)
    | .IfExp t x y _ => esc N n true t ++ esc N n b x ++ esc N n b y
    | .Compare l _ rs _ => esc N n true l ++ rs.flatMap (esc N n true)
    | .Subscript x (.Slice lo hi _ _) _ => esc N n true x ++ lo.toList.flatMap (esc N n true) ++ hi.toList.flatMap (esc N n true)
    | .Subscript x i _ => esc N n true x ++ esc N n true i
    | .Call (.Name f _) as _ _ => as.flatMap fun e => match e with
      | .Starred e _ => esc N n true e
      | e => esc N n ((bFind f).isSome || decide (f = "isinstance") || decide (f = "range")) e
    | .ListComp elt gs _ _ => esc N n false elt ++ match gs with
      | [] => []
      | g :: gs => esc N n true g.iter ++ g.ifs.flatMap (esc N n true) ++ gs.flatMap fun g => esc N n false g.iter ++ g.ifs.flatMap (esc N n true)
    | _ => []
def shareN (N : List Str) (xs : List Str) (σ : List Sl) : List Sl := xs.foldl (fun σ x => match N.idxOf? x with
  | some i => σ.modify i Sl.share
  | none => σ) σ
def isFresh : Expr → Bool
  | .List _ _ => true
  | .ListComp _ _ _ _ => true
  | _ => false
inductive Fl where
  | next (σ : List Sl) | ret (d : D) | brk (σ : List Sl) | cont (σ : List Sl)

def setOw (σ : List Sl) (i : Nat) (fresh : Bool) (d : D) : List Sl :=
  match d with
  | .list l => σ.set i (cond fresh (.ow l) (.sh d))
  | _ => σ.set i (.sh d)
/-- a loop over data -/
def forL (g : List Sl → D → Option (List Sl)) (body : List Sl → Option Fl) : List D → List Sl → Option Fl
  | [], σ => some (.next σ)
  | x :: r, σ => (g σ x).bind fun σ1 => (body σ1).bind fun
    | .next σ2 => forL g body r σ2
    | .cont σ2 => forL g body r σ2
    | .brk σ2 => some (.next σ2)
    | .ret d => some (.ret d)
def whileL (t : List Sl → Option Bool) (body : List Sl → Option Fl) : Nat → List Sl → Option Fl
  | 0, _ => none
  | n + 1, σ => (t σ).bind fun k => cond k ((body σ).bind fun
    | .next σ2 => whileL t body n σ2
    | .cont σ2 => whileL t body n σ2
    | .brk σ2 => some (.next σ2)
    | .ret d => some (.ret d)) (some (.next σ))
def turns : Nat := 10000000
def ED : Nat := 60

mutual
def ex (c : Cfg) : Nat → List Sl → Stmt → Option Fl
  | 0, _, _ => none
  | n + 1, σ, st =>
    match st with
    | .Return (some e) _ => (ev c ED false (σ.map Sl.share) e).map .ret
    | .Return none _ => some (.ret .none)
    | .Pass _ => some (.next σ)
    | .Break _ => some (.brk σ)
    | .Continue _ => some (.cont σ)
    | .Expr (.Constant (.str _) _ _) _ => some (.next σ)
    | .Expr (.Call (.Attribute (.Name x _) m _) [a] [] _) _ =>
      cond (decide (m = "append")) ((c.N.idxOf? x).bind fun i =>
        (ev c ED false (shareN c.N (esc c.N ED false a) σ) a).bind fun d => match (shareN c.N (esc c.N ED false a) σ)[i]? with
          | some (.ow l) => cond (decide (l.length < few)) (some (.next ((shareN c.N (esc c.N ED false a) σ).set i (.ow (l ++ [d]))))) none
          | _ => none) (cond (decide (m = "extend") && isFresh a) ((c.N.idxOf? x).bind fun i =>
        (ev c ED false (shareN c.N (esc c.N ED false a) σ) a).bind fun d => match (shareN c.N (esc c.N ED false a) σ)[i]?, d with
          | some (.ow l), .list ds => cond (decide (l.length + ds.length ≤ few)) (some (.next ((shareN c.N (esc c.N ED false a) σ).set i (.ow (l ++ ds))))) none
          | _, _ => none) none)
    | .Expr (.Call (.Name f p) as [] q) _ => (ev c ED false (shareN c.N (esc c.N ED false (.Call (.Name f p) as [] q)) σ) (.Call (.Name f p) as [] q)).bind fun _ => some (.next (shareN c.N (esc c.N ED false (.Call (.Name f p) as [] q)) σ))
    | .Assign [.Name x _] e _ => (c.N.idxOf? x).bind fun i => (ev c ED false (shareN c.N (esc c.N ED false e) σ) e).bind fun d => some (.next (setOw (shareN c.N (esc c.N ED false e) σ) i (isFresh e) d))
    | .Assign [.Tuple es k p] e _ => (ev c ED false (shareN c.N (esc c.N ED false e) σ) e).bind fun d => (asg c.N (shareN c.N (esc c.N ED false e) σ) (.Tuple es k p) d).map .next
    | .If t a b _ => (tst c ED (shareN c.N (esc c.N ED true t) σ) t).bind fun k => cond k (exs c n (shareN c.N (esc c.N ED true t) σ) a) (exs c n (shareN c.N (esc c.N ED true t) σ) b)
    | .For t it body [] _ => (iter c.N (ev c ED false (shareN c.N (esc c.N ED false it) σ)) it).bind fun xs => forL (fun σ x => asg c.N σ t x) (fun σ => exs c n σ body) xs (shareN c.N (esc c.N ED false it) σ)
    | .While t body [] _ => whileL (fun σ => tst c ED σ t) (fun σ => exs c n σ body) turns (shareN c.N (esc c.N ED true t) σ)
    | _ => none
def exs (c : Cfg) : Nat → List Sl → List Stmt → Option Fl
  | 0, _, _ => none
  | _ + 1, σ, [] => some (.next σ)
  | n + 1, σ, st :: r => (ex c n σ st).bind fun
    | .next σ' => exs c n σ' r
    | f => some f
end
/-- a def called: its parameters first, the other names unset -/
def callD (c : Cfg) (np : Nat) (body : List Stmt) (ds : List D) : Option D :=
  cond (decide (ds.length = np)) ((exs c ED (ds.map Sl.sh ++ List.replicate (c.N.length - np) .un) body).bind fun
    | .ret d => some d
    | .next _ => some .none
    | _ => none) none
/-- the defs of a text: name, names of the slots, how many parameters, body -/
structure Df where
  name : Str
  N : List Str
  np : Nat
  body : List Stmt
def findD (x : Str) : List Df → Option Df
  | [] => none
  | d :: r => cond (decide (d.name = x)) (some d) (findD x r)
def callN (P : List Df) (G : Str → Option D) : Nat → Str → List D → Option D
  | 0, _, _ => none
  | k + 1, f, ds => (findD f P).bind fun d => callD ⟨d.N, G, callN P G k⟩ d.np d.body ds
end EV

namespace EV
open PySem L2
/-! the names of all comprehensions blocks in an expression -/
mutual
def cnE : Expr → List Str
  | .BoolOp _ vs _ => cnEs vs
  | .BinOp l _ r _ => cnE l ++ cnE r
  | .UnaryOp _ x _ => cnE x
  | .IfExp t x y _ => cnE t ++ cnE x ++ cnE y
  | .Dict _ vs _ => cnEs vs
  | .ListComp elt gs sc _ => (sc.names.filterMap fun (x, k) => match k with | .local => some x | .cell => some x | _ => none) ++ cnE elt ++ cnGs gs
  | .Compare l _ rs _ => cnE l ++ cnEs rs
  | .Call f as _ _ => cnE f ++ cnEs as
  | .Attribute v _ _ => cnE v
  | .Subscript x i _ => cnE x ++ cnE i
  | .Starred v _ => cnE v
  | .List es _ => cnEs es
  | .Tuple es _ _ => cnEs es
  | .Slice lo hi _ _ => cnO lo ++ cnO hi
  | _ => []
def cnEs : List Expr → List Str
  | [] => []
  | e :: r => cnE e ++ cnEs r
def cnO : Option Expr → List Str
  | none => []
  | some e => cnE e
def cnGs : List Comprehension → List Str
  | [] => []
  | ⟨_, it, ifs, _⟩ :: r => cnE it ++ cnEs ifs ++ cnGs r
end
mutual
def cnS : Stmt → List Str
  | .Return (some e) _ => cnE e
  | .Assign ts e _ => cnEs ts ++ cnE e
  | .For _ it b o _ => cnE it ++ cnSs b ++ cnSs o
  | .While t b o _ => cnE t ++ cnSs b ++ cnSs o
  | .If t a b _ => cnE t ++ cnSs a ++ cnSs b
  | .Expr e _ => cnE e
  | .Raise (some e) _ _ => cnE e
  | _ => []
def cnSs : List Stmt → List Str
  | [] => []
  | s :: r => cnS s ++ cnSs r
end
def dedup (l : List Str) : List Str := l.foldl (fun acc x => if acc.contains x then acc else acc ++ [x]) []
def dfOf : Stmt → Option Df
  | .FunctionDef x a body _ _ _ sc _ _ _ => some ⟨x, dedup (a.args.map (·.arg) ++ sc.names.filterMap (fun (x, k) => match k with | .local => some x | .cell => some x | _ => none) ++ cnSs body), a.args.length, body⟩
  | _ => none
def dfsOf (b : List Stmt) : List Df := b.filterMap dfOf
end EV

set_option maxRecDepth 100000
namespace EV
open PySem L2 PyProof.Rows

/-- the text's own sort of tracked list: owned addresses hold lists -/
def OkO (O : Addr → Prop) (H : Hp) : Prop := ∀ a, O a → ∃ ys, H a = some (.lst ys)
theorem OkO.same {O : Addr → Prop} {H H' : Hp} (h : OkO O H) (s : Same H H') : OkO O H' := fun a ha => let ⟨ys, e⟩ := h a ha; ⟨ys, s a _ e⟩
theorem OkO.none {O : Addr → Prop} {H : Hp} (h : OkO O H) {p : Addr} (hp : H p = none) : ¬ O p := fun ha => by
  obtain ⟨ys, e⟩ := h p ha
  rw [hp] at e; cases e

/-- a list of the module itself -/
def KL (K : PySem.W.Frag) (a : Addr) (xs : List V) : Prop := ∃ (o : Obj) (its : Array Value) (n : Nat), K.lookup a = some o ∧ o.cls = .type "list" ∧ o.dict = none ∧ o.data = .seq its n ∧ its.size ≤ sizeLine ∧ Vals xs its.toList
mutual
/-- a value that is data, and reaches no owned list -/
inductive Ro (K : PySem.W.Frag) (w : World) (O : Addr → Prop) (H : Hp) : V → D → Prop
  | non : Ro K w O H .non .none
  | bl (b : Bool) : Ro K w O H (.bl b) (.bool b)
  | int (i : Int) : Ro K w O H (.int i) (.int i)
  | str (x : Str) (h : PyData.canLay0 (.str x) = true) : Ro K w O H (.str x) (.str x)
  | lst {a : Addr} {xs : List V} {ds : List D} : Rd H a (.lst xs) → ¬ O a → RoAll K w O H xs ds → Ro K w O H (.ref a) (.list ds)
  | kls {a : Addr} {xs : List V} {ds : List D} : KL K a xs → RoAll K w O H xs ds → Ro K w O H (.ref a) (.list ds)
  | tup {a : Addr} {xs : List V} {ds : List D} : SqT K H a xs → RoAll K w O H xs ds → Ro K w O H (.ref a) (.tuple ds)
  | kdc {a : Addr} {es : Array DictEntry} {n : Nat} {ps : List (Str × V)} {ds : List D} : KDict K w a es n → (∀ p ∈ ps, ∃ u, PySem.W.nsIn K a p.1 = some (some u) ∧ RelV p.2 u) →
      (∀ z, z ∉ ps.map (·.1) → PySem.W.nsIn K a z = some none) → RoAll K w O H (ps.map (·.2)) ds → Ro K w O H (.ref a) (.dict ((ps.map fun p => PyData.str p.1).zip ds))
inductive RoAll (K : PySem.W.Frag) (w : World) (O : Addr → Prop) (H : Hp) : List V → List D → Prop
  | nil : RoAll K w O H [] []
  | cons {v : V} {vs : List V} {d : D} {ds : List D} : Ro K w O H v d → RoAll K w O H vs ds → RoAll K w O H (v :: vs) (d :: ds)
end

section
variable {K : PySem.W.Frag} {w : World} {O O' : Addr → Prop} {H H' : Hp}
theorem Rd.same {a : Addr} {u : HO} (s : Same H H') (h : Rd H a u) : Rd H' a u := by
  rcases h with h | ⟨o, h⟩
  · exact .inl (s _ _ h)
  · exact .inr ⟨o, s _ _ h⟩
theorem SqT.same {a : Addr} {xs : List V} (s : Same H H') (h : SqT K H a xs) : SqT K H' a xs := by
  rcases h with h | h
  · exact .inl (Rd.same s h)
  · exact .inr h
theorem SqL.same {a : Addr} {xs : List V} (s : Same H H') (h : SqL K H a xs) : SqL K H' a xs := by
  rcases h with h | h
  · exact .inl (Rd.same s h)
  · exact .inr h
/-- what keeps a relation: every list that is not owned, every tuple, every locked thing stays -/
structure Keeps (O : Addr → Prop) (H H' : Hp) : Prop where
  l : ∀ a xs, H a = some (.lst xs) → ¬ O a → H' a = some (.lst xs)
  t : ∀ a xs, H a = some (.tup xs) → H' a = some (.tup xs)
  f : ∀ a o u, H a = some (.frz o u) → H' a = some (.frz o u)
theorem Same.keeps (s : Same H H') : Keeps O H H' := ⟨fun a xs h _ => s a _ h, fun a xs h => s a _ h, fun a o u h => s a _ h⟩
mutual
theorem Ro.keeps (k : Keeps O H H') (hO : ∀ a, O' a → O a ∨ H a = none) : ∀ {v : V} {d : D}, Ro K w O H v d → Ro K w O' H' v d
  | _, _, .non => .non
  | _, _, .bl b => .bl b
  | _, _, .int i => .int i
  | _, _, .str x h => .str x h
  | _, _, .lst (a := a) hr ho ha => .lst (by
      rcases hr with hr | ⟨o, hr⟩
      · exact .inl (k.l _ _ hr ho)
      · exact .inr ⟨o, k.f _ _ _ hr⟩) (fun h => by
        rcases hO _ h with h | h
        · exact ho h
        · rcases hr with hr | ⟨o, hr⟩ <;> rw [h] at hr <;> cases hr) (RoAll.keeps k hO ha)
  | _, _, .kls hr ha => .kls hr (RoAll.keeps k hO ha)
  | _, _, .tup hr ha => .tup (by
      rcases hr with (hr | ⟨o, hr⟩) | hr
      · exact .inl (.inl (k.t _ _ hr))
      · exact .inl (.inr ⟨o, k.f _ _ _ hr⟩)
      · exact .inr hr) (RoAll.keeps k hO ha)
  | _, _, .kdc hd h1 h2 h3 => .kdc hd h1 h2 (RoAll.keeps k hO h3)
theorem RoAll.keeps (k : Keeps O H H') (hO : ∀ a, O' a → O a ∨ H a = none) : ∀ {vs : List V} {ds : List D}, RoAll K w O H vs ds → RoAll K w O' H' vs ds
  | _, _, .nil => .nil
  | _, _, .cons h t => .cons (Ro.keeps k hO h) (RoAll.keeps k hO t)
end
theorem Ro.same {v : V} {d : D} (s : Same H H') (h : Ro K w O H v d) : Ro K w O H' v d := h.keeps (Same.keeps s) fun _ h => .inl h
theorem RoAll.same {vs : List V} {ds : List D} (s : Same H H') (h : RoAll K w O H vs ds) : RoAll K w O H' vs ds := h.keeps (Same.keeps s) fun _ h => .inl h
/-- fewer owned -/
theorem Ro.less {v : V} {d : D} (hO : ∀ a, O' a → O a) (h : Ro K w O H v d) : Ro K w O' H v d := h.keeps (Same.keeps (Same.refl H)) fun a z => .inl (hO a z)
theorem RoAll.less {vs : List V} {ds : List D} (hO : ∀ a, O' a → O a) (h : RoAll K w O H vs ds) : RoAll K w O' H vs ds := h.keeps (Same.keeps (Same.refl H)) fun a z => .inl (hO a z)
theorem RoAll.length : ∀ {vs : List V} {ds : List D}, RoAll K w O H vs ds → vs.length = ds.length
  | _, _, .nil => rfl
  | _, _, .cons _ t => by simp [RoAll.length t]
theorem RoAll.app : ∀ {vs ws : List V} {ds es : List D}, RoAll K w O H vs ds → RoAll K w O H ws es → RoAll K w O H (vs ++ ws) (ds ++ es)
  | _, _, _, _, .nil, h => h
  | _, _, _, _, .cons h t, g => .cons h (RoAll.app t g)
theorem RoAll.get : ∀ {vs : List V} {ds : List D} {i : Nat} {d : D}, RoAll K w O H vs ds → ds[i]? = some d → ∃ v, vs[i]? = some v ∧ Ro K w O H v d
  | _, _, _, _, .nil, e => by simp at e
  | _, _, 0, _, .cons h _, e => by simp at e; subst e; exact ⟨_, rfl, h⟩
  | _, _, i + 1, _, .cons _ t, e => by
    obtain ⟨v, h1, h2⟩ := RoAll.get (i := i) t (by simpa using e)
    exact ⟨v, by simpa using h1, h2⟩
theorem RoAll.take : ∀ {vs : List V} {ds : List D} (n : Nat), RoAll K w O H vs ds → RoAll K w O H (vs.take n) (ds.take n)
  | _, _, 0, _ => .nil
  | _, _, _ + 1, .nil => .nil
  | _, _, n + 1, .cons h t => .cons h (RoAll.take n t)
theorem RoAll.drop : ∀ {vs : List V} {ds : List D} (n : Nat), RoAll K w O H vs ds → RoAll K w O H (vs.drop n) (ds.drop n)
  | _, _, 0, h => h
  | _, _, _ + 1, .nil => .nil
  | _, _, n + 1, .cons _ t => RoAll.drop n t
/-- the value of a name that is asked and forgotten: perhaps an owned list -/
def RoB (K : PySem.W.Frag) (w : World) (O : Addr → Prop) (H : Hp) (b : Bool) (v : V) (d : D) : Prop :=
  Ro K w O H v d ∨ (b = true ∧ ∃ a xs ds, v = .ref a ∧ d = .list ds ∧ H a = some (.lst xs) ∧ RoAll K w O H xs ds)
theorem RoB.no {v : V} {d : D} (h : RoB K w O H false v d) : Ro K w O H v d := by
  rcases h with h | ⟨e, _⟩
  · exact h
  · cases e
theorem RoB.same {b : Bool} {v : V} {d : D} (s : Same H H') (h : RoB K w O H b v d) : RoB K w O H' b v d := by
  rcases h with h | ⟨e, a, xs, ds, h1, h2, h3, h4⟩
  · exact .inl (h.same s)
  · exact .inr ⟨e, a, xs, ds, h1, h2, s _ _ h3, h4.same s⟩
/-! what a value's kind tells -/
theorem RoB.list {b : Bool} {v : V} {ds : List D} (h : RoB K w O H b v (.list ds)) : ∃ a xs, v = .ref a ∧ SqL K H a xs ∧ RoAll K w O H xs ds := by
  rcases h with h | ⟨_, a, xs, ds', h1, h2, h3, h4⟩
  · cases h with
    | lst h1 h2 h3 => exact ⟨_, _, rfl, .inl h1, h3⟩
    | kls h1 h3 => exact ⟨_, _, rfl, .inr h1, h3⟩
  · cases h2; exact ⟨a, xs, h1, .inl (.inl h3), h4⟩
theorem RoB.tup {b : Bool} {v : V} {ds : List D} (h : RoB K w O H b v (.tuple ds)) : ∃ a xs, v = .ref a ∧ SqT K H a xs ∧ RoAll K w O H xs ds := by
  rcases h with h | ⟨_, a, xs, ds', h1, h2, h3, h4⟩
  · cases h with
    | tup h1 h3 => exact ⟨_, _, rfl, h1, h3⟩
  · cases h2
theorem RoB.int {b : Bool} {v : V} {i : Int} (h : RoB K w O H b v (.int i)) : v = .int i := by
  rcases h with h | ⟨_, a, xs, ds', h1, h2, h3, h4⟩
  · cases h; rfl
  · cases h2
theorem RoB.bl {b : Bool} {v : V} {i : Bool} (h : RoB K w O H b v (.bool i)) : v = .bl i := by
  rcases h with h | ⟨_, a, xs, ds', h1, h2, h3, h4⟩
  · cases h; rfl
  · cases h2
theorem RoB.non {b : Bool} {v : V} (h : RoB K w O H b v .none) : v = .non := by
  rcases h with h | ⟨_, a, xs, ds', h1, h2, h3, h4⟩
  · cases h; rfl
  · cases h2
theorem RoB.str {b : Bool} {v : V} {x : Str} (h : RoB K w O H b v (.str x)) : v = .str x ∧ PyData.canLay0 (.str x) = true := by
  rcases h with h | ⟨_, a, xs, ds', h1, h2, h3, h4⟩
  · cases h with
    | str _ h => exact ⟨rfl, h⟩
  · cases h2
/-! to the layer's own data -/
mutual
theorem Ro.dp : ∀ {v : V} {d : D}, Ro K w O H v d → ∀ n, dle n d = true → Dp K H v d ∧ d.canLay0 = true
  | _, _, .non, _, _ => ⟨.non, rfl⟩
  | _, _, .bl b, _, _ => ⟨.bl b, rfl⟩
  | _, _, .int i, _, _ => ⟨.int i, rfl⟩
  | _, _, .str x h, _, _ => ⟨.str x, h⟩
  | _, _, .lst hr ho ha, 0, e => by cases e
  | _, _, .lst hr ho ha, n + 1, e => let ⟨p, q⟩ := RoAll.dp ha n e; ⟨.lst (.inl hr) p, q⟩
  | _, _, .kls hr ha, 0, e => by cases e
  | _, _, .kls hr ha, n + 1, e => let ⟨p, q⟩ := RoAll.dp ha n e; ⟨.lst (.inr hr) p, q⟩
  | _, _, .tup hr ha, 0, e => by cases e
  | _, _, .tup hr ha, n + 1, e => let ⟨p, q⟩ := RoAll.dp ha n e; ⟨.tup hr p, q⟩
  | _, _, .kdc _ _ _ _, 0, e => by cases e
  | _, _, .kdc _ _ _ _, n + 1, e => by cases e
theorem RoAll.dp : ∀ {vs : List V} {ds : List D}, RoAll K w O H vs ds → ∀ n, dles n ds = true → DpAll K H vs ds ∧ PyData.canLayAll0 ds = true
  | _, _, .nil, _, _ => ⟨.nil, rfl⟩
  | _, _, .cons h t, n, e => by
    rw [dles, Bool.and_eq_true] at e
    obtain ⟨p, q⟩ := Ro.dp h n e.1
    obtain ⟨p', q'⟩ := RoAll.dp t n e.2
    exact ⟨.cons p p', by rw [PyData.canLayAll0, q, q']; rfl⟩
end
theorem RoB.dp {b : Bool} {v : V} {d : D} (h : RoB K w O H b v d) (n : Nat) (e : dle n d = true) : Dp K H v d ∧ d.canLay0 = true := by
  rcases h with h | ⟨_, a, xs, ds, h1, h2, h3, h4⟩
  · exact h.dp n e
  · subst h1 h2
    cases n with
    | zero => cases e
    | succ n =>
      obtain ⟨p, q⟩ := RoAll.dp h4 n e
      exact ⟨.lst (.inl (.inl h3)) p, q⟩
end
mutual
theorem dle_depth : ∀ (n : Nat) (d : D), dle n d = true → d.depth ≤ n
  | 0, d, e => by cases d <;> first | exact Nat.le_refl 0 | (simp only [PyData.depth]; exact Nat.le_refl 0) | cases e
  | n + 1, .none, _ => by simp [PyData.depth]
  | n + 1, .bool _, _ => by simp [PyData.depth]
  | n + 1, .int _, _ => by simp [PyData.depth]
  | n + 1, .str _, _ => by simp [PyData.depth]
  | n + 1, .list xs, e => by
    have := dles_depth n xs e
    simp only [PyData.depth]; omega
  | n + 1, .tuple xs, e => by
    have := dles_depth n xs e
    simp only [PyData.depth]; omega
  | n + 1, .dict _, e => by cases e
theorem dles_depth : ∀ (n : Nat) (ds : List D), dles n ds = true → PyData.depthAll ds ≤ n
  | n, [], _ => by simp [PyData.depthAll]
  | n, d :: ds, e => by
    rw [dles, Bool.and_eq_true] at e
    have h1 := dle_depth n d e.1
    have h2 := dles_depth n ds e.2
    simp only [PyData.depthAll]; omega
end
theorem shaped_of {d : D} (h : d.canLay0 = true) (e : dle 60 d = true) : SeqAt.shaped d = true := by
  have := dle_depth 60 d e
  unfold SeqAt.shaped
  rw [h, decide_eq_true (by omega)]; rfl
end EV

namespace EV
open PySem PySem.Spec PyProof.Rows L2

/-! ### operators by data -/
section
variable {X : Cx}
/-- what an operation on two data gives -/
def rOp (K : PySem.W.Frag) (w : World) (g : D → D → Option D) : R2 := fun x y H Q => ∃ O b dx dy d, OkO O H ∧ RoB K w O H b x dx ∧ RoB K w O H b y dy ∧ g dx dy = some d ∧ ∀ H' v, Same H H' → Ro K w O H' v d → Q v H'
theorem same_upd {H : Hp} {p : Addr} {o : HO} (h : H p = none) : Same H (upd H p o) := fun b u e => by rw [upd_ne (ne_of_none e h)]; exact e
theorem few_line : few ≤ sizeLine := by rw [sizeLine_eq]; decide
/-- list + list, locked ones and the module's too -/
def rCatL (K : PySem.W.Frag) : R2 := fun x y H Q => ∃ l b xs zs, x = .ref l ∧ y = .ref b ∧ SqL K H l xs ∧ SqL K H b zs ∧ xs.length + zs.length ≤ sizeLine ∧ ∀ p, H p = none → Q (.ref p) (upd H p (.lst (xs ++ zs)))
theorem op_catL : OpR X (binaryOp .Add) (rCatL X.K) := by
  intro pins s σ H x y v u Q I rx ry h
  obtain ⟨l, b, xs, zs, rfl, rfl, hH, hB, hz, q⟩ := h
  cases rx
  cases ry
  obtain ⟨its, r, ⟨⟨c1, dd, d1, sl⟩, n, e, hc, _, hd⟩, _⟩ := I.list hH
  obtain ⟨its2, r2, ⟨⟨c2, dd2, d2, sl2⟩, n2, e2, hc2, _, hd2⟩, _⟩ := I.list hB
  simp only at hc hd hc2 hd2
  subst hc hd hc2 hd2
  have hl := r.length
  have hl2 := r2.length
  refine concat_meets ⟨_, e, rfl⟩ ⟨_, e2, rfl⟩ noFill_list_add seq_list_add PySem.F.slot_list_add PySem.F.entry_list_add (PySem.F.args_list_add_2 _ _) (PyProof.Rows.list_addW l b its.toArray its2.toArray n n2 dd dd2 sl sl2 (by rw [List.size_toArray, List.size_toArray]; omega)) ⟨e, e2, ?_⟩
  have ea : its.toArray ++ its2.toArray = (its ++ its2).toArray := by simp
  rw [ea]
  exact ⟨.ref _, _, I.lnew (t' := s.toks) (r.append r2) (by rw [List.length_append]; omega), rfl, q _ I.fresh⟩
theorem small64_ok {i : Int} (h : small64 i = true) : -(2 ^ 64) < i ∧ i < 2 ^ 64 := by
  rw [small64, Bool.and_eq_true] at h
  exact ⟨of_decide_eq_true h.1, of_decide_eq_true h.2⟩
theorem cond_some {α : Type} {b : Bool} {x : Option α} {d : α} (h : cond b x none = some d) : b = true ∧ x = some d := by
  cases b with
  | true => exact ⟨rfl, h⟩
  | false => cases h
section
variable {K : PySem.W.Frag} {w : World} {O : Addr → Prop} {H : Hp}
theorem Ro.newL {p : Addr} {xs : List V} {ds : List D} (hO : OkO O H) (hp : H p = none) (h : RoAll K w O H xs ds) : Ro K w O (upd H p (.lst xs)) (.ref p) (.list ds) :=
  .lst (.inl upd_same) (hO.none hp) (h.same (same_upd hp))
theorem Ro.newT {p : Addr} {xs : List V} {ds : List D} (hp : H p = none) (h : RoAll K w O H xs ds) : Ro K w O (upd H p (.tup xs)) (.ref p) (.tuple ds) :=
  .tup (.inl (.inl upd_same)) (h.same (same_upd hp))
end
theorem op_binD (o : Operator) : OpR X (binaryOp o) (rOp X.K X.w (binD o)) := by
  intro pins s σ H x y v u Q I rx ry h
  obtain ⟨O, b, dx, dy, d, hO, hx, hy, e, q⟩ := h
  have qi : ∀ i : Int, d = .int i → Q (.int i) H := fun i ei => q H _ (Same.refl H) (by rw [ei]; exact .int i)
  unfold binD at e
  split at e
  · rename_i i j
    cases hx.int; cases hy.int
    exact op_add pins s σ H _ _ v u Q I rx ry ⟨i, j, rfl, rfl, qi _ (Option.some.inj e).symm⟩
  · rename_i i j
    cases hx.int; cases hy.int
    exact op_sub pins s σ H _ _ v u Q I rx ry ⟨i, j, rfl, rfl, qi _ (Option.some.inj e).symm⟩
  · rename_i i j
    cases hx.int; cases hy.int
    obtain ⟨c, e⟩ := cond_some e
    refine op_mul pins s σ H _ _ v u Q I rx ry ⟨i, j, rfl, rfl, ?_, qi _ (Option.some.inj e).symm⟩
    rcases Bool.or_eq_true_iff.mp c with c | c
    · exact .inl (small64_ok c)
    · exact .inr (small64_ok c)
  · rename_i i j
    cases hx.int; cases hy.int
    obtain ⟨c, e⟩ := cond_some e
    rw [Bool.and_eq_true] at c
    exact op_fdiv pins s σ H _ _ v u Q I rx ry ⟨i, j, rfl, rfl, ⟨of_decide_eq_true c.1, of_decide_eq_true c.2⟩, qi _ (Option.some.inj e).symm⟩
  · rename_i i j
    cases hx.int; cases hy.int
    obtain ⟨c, e⟩ := cond_some e
    exact op_mod pins s σ H _ _ v u Q I rx ry ⟨i, j, rfl, rfl, of_decide_eq_true c, qi _ (Option.some.inj e).symm⟩
  · rename_i i j
    cases hx.int; cases hy.int
    obtain ⟨c, e⟩ := cond_some e
    rw [Bool.and_eq_true, Bool.and_eq_true] at c
    exact op_pow pins s σ H _ _ v u Q I rx ry ⟨i, j, rfl, rfl, ⟨of_decide_eq_true c.1, of_decide_eq_true c.2.1, of_decide_eq_true c.2.2⟩, qi _ (Option.some.inj e).symm⟩
  · rename_i xs ys
    obtain ⟨a, vs, rfl, h1, h2⟩ := hx.list
    obtain ⟨a', vs', rfl, h1', h2'⟩ := hy.list
    obtain ⟨c, e⟩ := cond_some e
    have c' : xs.length + ys.length ≤ few := of_decide_eq_true c
    have hf := few_line
    refine op_catL pins s σ H _ _ v u Q I rx ry ⟨a, a', vs, vs', rfl, rfl, h1, h1', by rw [h2.length, h2'.length]; omega, fun p hp => ?_⟩
    exact q _ _ (same_upd hp) (by rw [← Option.some.inj e]; exact Ro.newL hO hp (h2.app h2'))
  · rename_i xs ys
    obtain ⟨a, vs, rfl, h1, h2⟩ := hx.tup
    obtain ⟨a', vs', rfl, h1', h2'⟩ := hy.tup
    obtain ⟨c, e⟩ := cond_some e
    have c' : xs.length + ys.length ≤ few := of_decide_eq_true c
    have hf := few_line
    have e := Option.some.inj e
    refine op_catA pins s σ H _ _ v u Q I rx ry ⟨a, a', vs, vs', rfl, rfl, h1, h1', by rw [h2.length, h2'.length]; omega, fun z => ?_, fun z z' => ?_, fun z z' p hp => ?_⟩
    · subst z
      cases h2
      exact q _ _ (Same.refl H) (by rw [← e]; exact .tup h1' h2')
    · subst z'
      cases h2'
      exact q _ _ (Same.refl H) (by rw [← e, List.append_nil]; exact .tup h1 h2)
    · exact q _ _ (same_upd hp) (by rw [← e]; exact Ro.newT hp (h2.app h2'))
  · cases e

/-! ### comparisons -/
def rCmp (K : PySem.W.Frag) (w : World) (g : D → D → Option Bool) : R2 := fun x y H Q => ∃ O b dx dy d, RoB K w O H b x dx ∧ RoB K w O H b y dy ∧ g dx dy = some d ∧ Q (.bl d) H
theorem eqD_ok {x y : D} {d : Bool} (h : eqD x y = some d) : dle 60 x = true ∧ dle 60 y = true ∧ PyData.eqv x y = d := by
  obtain ⟨c, e⟩ := cond_some h
  rw [Bool.and_eq_true] at c
  exact ⟨c.1, c.2, Option.some.inj e⟩
theorem op_inTD (hu : X.A.units + 65 < cLine) {pins : List (Addr × Obj)} {s : Shared} {σ : L2.St} {H : Hp} {x y : V} {v u : Value} {Q : VK} {d : D} {ds : List D} (I : Inv X pins σ H s) (rx : RelV x v) (ry : RelV y u)
    (hd : Dp X.K H x d) (he : Dp X.K H y (.tuple ds)) (sd : SeqAt.shaped d = true) (se : SeqAt.shaped (.tuple ds) = true) (q : Q (.bl (ds.any fun z => PyData.eqv z d)) H) : wpAny (model X.prog X.w) X.A (compareOp .In v u) (EP X pins σ Q) X.xe s := by
  obtain ⟨as, r1⟩ := Dp.reads I d x v hd rx
  obtain ⟨bs, r2⟩ := Dp.reads I (.tuple ds) y u he ry
  exact SeqAt.in_tuple_reads r2 r1 (SeqAt.canLay_of_shaped se) (SeqAt.canLay_of_shaped sd) (room_in_shaped sd hu) ⟨.bl _, H, I, rfl, q⟩
theorem op_notInTD (hu : X.A.units + 65 < cLine) {pins : List (Addr × Obj)} {s : Shared} {σ : L2.St} {H : Hp} {x y : V} {v u : Value} {Q : VK} {d : D} {ds : List D} (I : Inv X pins σ H s) (rx : RelV x v) (ry : RelV y u)
    (hd : Dp X.K H x d) (he : Dp X.K H y (.tuple ds)) (sd : SeqAt.shaped d = true) (se : SeqAt.shaped (.tuple ds) = true) (q : Q (.bl (!ds.any fun z => PyData.eqv z d)) H) : wpAny (model X.prog X.w) X.A (compareOp .NotIn v u) (EP X pins σ Q) X.xe s := by
  obtain ⟨as, r1⟩ := Dp.reads I d x v hd rx
  obtain ⟨bs, r2⟩ := Dp.reads I (.tuple ds) y u he ry
  exact SeqAt.notIn_tuple_reads r2 r1 (SeqAt.canLay_of_shaped se) (SeqAt.canLay_of_shaped sd) (room_in_shaped sd hu) ⟨.bl _, H, I, rfl, q⟩

theorem kdc_some {K : PySem.W.Frag} {w : World} {O : Addr → Prop} {H : Hp} {z : Str} {d : D} : ∀ {ps : List (Str × V)} {ds : List D}, RoAll K w O H (ps.map (·.2)) ds → dget ((ps.map fun p => PyData.str p.1).zip ds) z = some d → ∃ p ∈ ps, p.1 = z ∧ Ro K w O H p.2 d
  | [], _, _, e => by cases e
  | p :: ps, _, .cons h t, e => by
    simp only [List.map_cons, List.zip_cons_cons, dget] at e
    by_cases hz : p.1 = z
    · rw [decide_eq_true hz] at e
      cases e
      exact ⟨p, List.mem_cons_self, hz, h⟩
    · rw [decide_eq_false hz] at e
      obtain ⟨q, h1, h2, h3⟩ := kdc_some t e
      exact ⟨q, List.mem_cons_of_mem _ h1, h2, h3⟩
theorem kdc_none {K : PySem.W.Frag} {w : World} {O : Addr → Prop} {H : Hp} {z : Str} : ∀ {ps : List (Str × V)} {ds : List D}, RoAll K w O H (ps.map (·.2)) ds → dget ((ps.map fun p => PyData.str p.1).zip ds) z = none → z ∉ ps.map (·.1)
  | [], _, _, _ => by simp
  | p :: ps, _, .cons h t, e => by
    simp only [List.map_cons, List.zip_cons_cons, dget] at e
    by_cases hz : p.1 = z
    · rw [decide_eq_true hz] at e
      cases e
    · rw [decide_eq_false hz] at e
      have := kdc_none t e
      simp only [List.map_cons, List.mem_cons, not_or]
      exact ⟨fun q => hz q.symm, this⟩
theorem RoB.kd {K : PySem.W.Frag} {w : World} {O : Addr → Prop} {H : Hp} {b : Bool} {v : V} {kvs : List (D × D)} (h : RoB K w O H b v (.dict kvs)) : ∃ a es n, v = .ref a ∧ KDict K w a es n ∧
    (∀ z d, dget kvs z = some d → ∃ u v, PySem.W.nsIn K a z = some (some u) ∧ RelV v u ∧ Ro K w O H v d) ∧ ∀ z, dget kvs z = none → PySem.W.nsIn K a z = some none := by
  rcases h with h | ⟨_, a, xs, ds', h1, h2, h3, h4⟩
  · cases h with
    | kdc h1 h2 h3 h4 =>
      refine ⟨_, _, _, rfl, h1, fun z d e => ?_, fun z e => h3 z (kdc_none h4 e)⟩
      obtain ⟨p, hp, hz, hr⟩ := kdc_some h4 e
      obtain ⟨u, e1, e2⟩ := h2 p hp
      rw [hz] at e1
      exact ⟨u, p.2, e1, e2, hr⟩
  · cases h2
theorem RoB.isNone {K : PySem.W.Frag} {w : World} {O : Addr → Prop} {H : Hp} {b : Bool} {v : V} {d : D} (h : RoB K w O H b v d) : decide (v = V.non) = EV.isNone d := by
  rcases h with h | ⟨_, a, xs, ds', h1, h2, h3, h4⟩
  · cases h <;> simp [EV.isNone]
  · subst h1 h2; simp [EV.isNone]
theorem cmpI_ok {K : PySem.W.Frag} {w : World} {O : Addr → Prop} {H : Hp} {b : Bool} {x y : V} {dx dy : D} {f : Int → Int → Bool} {d : Bool} (hx : RoB K w O H b x dx) (hy : RoB K w O H b y dy) (e : cmpI dx dy f = some d) : ∃ i j, x = .int i ∧ y = .int j ∧ d = f i j := by
  unfold cmpI at e
  split at e
  · exact ⟨_, _, hx.int, hy.int, (Option.some.inj e).symm⟩
  · cases e
theorem isB_ok {K : PySem.W.Frag} {w : World} {O : Addr → Prop} {H : Hp} {b : Bool} {x y : V} {dx dy : D} {d : Bool} (hx : RoB K w O H b x dx) (hy : RoB K w O H b y dy) (e : isB dx dy = some d) : ∃ i j, x = .bl i ∧ y = .bl j ∧ d = (i == j) := by
  unfold isB at e
  split at e
  · exact ⟨_, _, hx.bl, hy.bl, (Option.some.inj e).symm⟩
  · cases e
theorem bl_beq {i j : Bool} : decide (i = j) = (i == j) := by cases i <;> cases j <;> rfl
theorem op_cmpD (o : CmpOp) (hu : X.A.units + 65 < cLine) : OpR X (compareOp o) (rCmp X.K X.w (cmpD o)) := by
  intro pins s σ H x y v u Q I rx ry h
  obtain ⟨O, b, dx, dy, d, hx, hy, e, q⟩ := h
  have kints : ∀ f : Int → Int → Bool, cmpI dx dy f = some d → ∃ i j, x = .int i ∧ y = .int j ∧ d = f i j := fun f e => cmpI_ok hx hy e
  have ino : ∀ {neg : Bool}, inD dx dy = some (cond neg (!d) d) → (neg = false → o = .In) → (neg = true → o = .NotIn) → wpAny (model X.prog X.w) X.A (compareOp o v u) (EP X pins σ Q) X.xe s := fun {neg} e o1 o2 => by
    rename_i e0
    clear e0 kints
    unfold inD at e
    split at e
    · rename_i ys
      obtain ⟨c, e⟩ := cond_some e
      rw [Bool.and_eq_true] at c
      obtain ⟨p1, p2⟩ := hx.dp 60 c.1
      obtain ⟨p3, p4⟩ := hy.dp 60 c.2
      have e := Option.some.inj e
      cases neg with
      | false =>
        rw [o1 rfl]
        exact op_inD hu pins s σ H _ _ v u Q I rx ry ⟨_, _, p1, p3, shaped_of p2 c.1, shaped_of p4 c.2, by rw [e]; exact q⟩
      | true =>
        rw [o2 rfl]
        exact op_notInD hu pins s σ H _ _ v u Q I rx ry ⟨_, _, p1, p3, shaped_of p2 c.1, shaped_of p4 c.2, by rw [e]; simpa using q⟩
    · rename_i ys
      obtain ⟨c, e⟩ := cond_some e
      rw [Bool.and_eq_true] at c
      obtain ⟨p1, p2⟩ := hx.dp 60 c.1
      obtain ⟨p3, p4⟩ := hy.dp 60 c.2
      have e := Option.some.inj e
      cases neg with
      | false =>
        rw [o1 rfl]
        exact op_inTD hu I rx ry p1 p3 (shaped_of p2 c.1) (shaped_of p4 c.2) (by rw [e]; exact q)
      | true =>
        rw [o2 rfl]
        exact op_notInTD hu I rx ry p1 p3 (shaped_of p2 c.1) (shaped_of p4 c.2) (by rw [e]; simpa using q)
    · rename_i kvs
      split at e
      · rename_i z
        obtain ⟨rfl, _⟩ := hx.str
        obtain ⟨a, es, n, rfl, hk, k1, k2⟩ := hy.kd
        have e := Option.some.inj e
        have key : ∃ r : Option Value, PySem.W.nsIn X.K a z = some r ∧ r.isSome = (dget kvs z).isSome := by
          cases hd : dget kvs z with
          | none => exact ⟨none, k2 z hd, rfl⟩
          | some d => obtain ⟨u', v', h1, _⟩ := k1 z d hd; exact ⟨some u', h1, rfl⟩
        obtain ⟨r, h1, h2⟩ := key
        cases neg with
        | false =>
          rw [o1 rfl]
          refine op_in_kd hk pins s σ H _ _ v u Q I rx ry ⟨z, r, rfl, rfl, h1, ?_⟩
          rw [h2, e]; exact q
        | true =>
          rw [o2 rfl]
          refine op_notIn_kd hk pins s σ H _ _ v u Q I rx ry ⟨z, r, rfl, rfl, h1, ?_⟩
          rw [h2, e]; simpa using q
      · cases e
    · cases e
  cases o with
  | Eq =>
    obtain ⟨c1, c2, e⟩ := eqD_ok (show eqD dx dy = some d from e)
    obtain ⟨p1, p2⟩ := hx.dp 60 c1
    obtain ⟨p3, p4⟩ := hy.dp 60 c2
    exact op_eqD (by omega) pins s σ H _ _ v u Q I rx ry ⟨_, _, p1, p3, shaped_of p2 c1, shaped_of p4 c2, by rw [e]; exact q⟩
  | NotEq =>
    obtain ⟨d', e', e2⟩ := Option.map_eq_some_iff.mp (show (eqD dx dy).map (!·) = some d from e)
    obtain ⟨c1, c2, e⟩ := eqD_ok e'
    obtain ⟨p1, p2⟩ := hx.dp 60 c1
    obtain ⟨p3, p4⟩ := hy.dp 60 c2
    exact op_neD (by omega) pins s σ H _ _ v u Q I rx ry ⟨_, _, p1, p3, shaped_of p2 c1, shaped_of p4 c2, by rw [e, e2]; exact q⟩
  | Lt =>
    obtain ⟨i, j, rfl, rfl, rfl⟩ := kints _ e
    exact op_lt pins s σ H _ _ v u Q I rx ry ⟨i, j, rfl, rfl, q⟩
  | LtE =>
    obtain ⟨i, j, rfl, rfl, rfl⟩ := kints _ e
    exact op_le pins s σ H _ _ v u Q I rx ry ⟨i, j, rfl, rfl, q⟩
  | Gt =>
    obtain ⟨i, j, rfl, rfl, rfl⟩ := kints _ e
    exact op_gt pins s σ H _ _ v u Q I rx ry ⟨i, j, rfl, rfl, q⟩
  | GtE =>
    obtain ⟨i, j, rfl, rfl, rfl⟩ := kints _ e
    exact op_ge pins s σ H _ _ v u Q I rx ry ⟨i, j, rfl, rfl, q⟩
  | In => exact ino (neg := false) e (fun _ => rfl) (fun z => nomatch z)
  | NotIn =>
    obtain ⟨d', e', e2⟩ := Option.map_eq_some_iff.mp (show (inD dx dy).map (!·) = some d from e)
    exact ino (neg := true) (by rw [e', ← e2]; simp) (fun z => nomatch z) (fun _ => rfl)
  | Is =>
    have gen : isB dx dy = some d → wpAny (model X.prog X.w) X.A (compareOp .Is v u) (EP X pins σ Q) X.xe s := fun e => by
      obtain ⟨i, j, rfl, rfl, rfl⟩ := isB_ok hx hy e
      exact op_is_bl pins s σ H _ _ v u Q I rx ry ⟨i, j, rfl, rfl, by rw [bl_beq]; exact q⟩
    cases dy with
    | none =>
      cases hy.non
      cases ry
      have e : isNone dx = d := Option.some.inj e
      exact is_none_gen ⟨.bl _, H, I, by rw [rx.none_iff]; rfl, by rw [hx.isNone, e]; exact q⟩
    | _ => exact gen e
  | IsNot =>
    have gen : (isB dx dy).map (!·) = some d → wpAny (model X.prog X.w) X.A (compareOp .IsNot v u) (EP X pins σ Q) X.xe s := fun e => by
      obtain ⟨d', e', e2⟩ := Option.map_eq_some_iff.mp e
      obtain ⟨i, j, rfl, rfl, rfl⟩ := isB_ok hx hy e'
      exact op_isnot_bl pins s σ H _ _ v u Q I rx ry ⟨i, j, rfl, rfl, by rw [bl_beq, e2]; exact q⟩
    cases dy with
    | none =>
      cases hy.non
      cases ry
      have e : (!isNone dx) = d := Option.some.inj e
      exact isnot_none_gen ⟨.bl _, H, I, by rw [rx.none_iff]; rfl, by rw [hx.isNone, e]; exact q⟩
    | _ => exact gen e
end
end EV

namespace EV
open PySem PySem.Spec PyProof.Rows L2

def SlOk (K : PySem.W.Frag) (w : World) (O Ow : Addr → Prop) (H : Hp) (s : Sl) (o : Option (Option V)) : Prop :=
  match s with
  | .un => True
  | .sh d => ∃ v, o = some (some v) ∧ Ro K w O H v d
  | .ow l => ∃ a xs, o = some (some (.ref a)) ∧ H a = some (.lst xs) ∧ (O a ∧ Ow a) ∧ RoAll K w O H xs l
/-- the slots hold what the evaluator has -/
def Fr (K : PySem.W.Frag) (w : World) (O Ow : Addr → Prop) (es : List Sl) (σ : L2.St) (H : Hp) : Prop := ∀ (i : Nat) (s : Sl), es[i]? = some s → SlOk K w O Ow H s σ[i]?
section
variable {K : PySem.W.Frag} {w : World} {O O' Ow : Addr → Prop} {es : List Sl} {σ : L2.St} {H H' : Hp}
theorem SlOk.same {s : Sl} {o : Option (Option V)} (s0 : Same H H') (h : SlOk K w O Ow H s o) : SlOk K w O Ow H' s o := by
  cases s with
  | un => trivial
  | sh d => obtain ⟨v, e, r⟩ := h; exact ⟨v, e, r.same s0⟩
  | ow l => obtain ⟨a, xs, e, h1, h0, h2⟩ := h; exact ⟨a, xs, e, s0 _ _ h1, h0, h2.same s0⟩
theorem Fr.same (s0 : Same H H') (h : Fr K w O Ow es σ H) : Fr K w O Ow es σ H' := fun i s e => (h i s e).same s0
end
theorem _root_.L2.PE.imp {X : Cx} {e : Expr} {t t' : TE} (h : PE X e t) (hi : ∀ σ H Q, t' σ H Q → t σ H Q) : PE X e t' := ⟨fun pins s σ H Q I hq => h.run pins s σ H Q I (hi _ _ _ hq)⟩
theorem _root_.L2.PT.imp {X : Cx} {e : Expr} {t t' : TT} (h : PT X e t) (hi : ∀ σ H Q, t' σ H Q → t σ H Q) : PT X e t' := ⟨fun pins s σ H Q I hq => h.run pins s σ H Q I (hi _ _ _ hq)⟩
theorem _root_.L2.PA.imp {X : Cx} {e : List Expr} {t t' : TA} (h : PA X e t) (hi : ∀ σ H Q, t' σ H Q → t σ H Q) : PA X e t' := ⟨fun pos pins s σ H Q I hq => h.run pos pins s σ H Q I (hi _ _ _ hq)⟩

inductive RoBs (K : PySem.W.Frag) (w : World) (O : Addr → Prop) (H : Hp) (b : Bool) : List V → List D → Prop
  | nil : RoBs K w O H b [] []
  | cons {v : V} {vs : List V} {d : D} {ds : List D} : RoB K w O H b v d → RoBs K w O H b vs ds → RoBs K w O H b (v :: vs) (d :: ds)
section
variable {K : PySem.W.Frag} {w : World} {O : Addr → Prop} {H H' : Hp} {b : Bool}
theorem RoBs.same : ∀ {vs : List V} {ds : List D}, Same H H' → RoBs K w O H b vs ds → RoBs K w O H' b vs ds
  | _, _, _, .nil => .nil
  | _, _, s, .cons h t => .cons (h.same s) (RoBs.same s t)
theorem RoBs.all : ∀ {vs : List V} {ds : List D}, RoBs K w O H false vs ds → RoAll K w O H vs ds
  | _, _, .nil => .nil
  | _, _, .cons h t => .cons h.no (RoBs.all t)
theorem RoBs.app : ∀ {vs ws : List V} {ds es : List D}, RoBs K w O H b vs ds → RoBs K w O H b ws es → RoBs K w O H b (vs ++ ws) (ds ++ es)
  | _, _, _, _, .nil, h => h
  | _, _, _, _, .cons h t, g => .cons h (RoBs.app t g)
theorem RoAll.bs : ∀ {vs : List V} {ds : List D}, RoAll K w O H vs ds → RoBs K w O H b vs ds
  | _, _, .nil => .nil
  | _, _, .cons h t => .cons (.inl h) (RoAll.bs t)
theorem RoBs.length : ∀ {vs : List V} {ds : List D}, RoBs K w O H b vs ds → vs.length = ds.length
  | _, _, .nil => rfl
  | _, _, .cons _ t => by simp [RoBs.length t]
end

/-- the readings by the evaluator: of an expression, a test, arguments -/
def tE (K : PySem.W.Frag) (w : World) (b : Bool) (f : List Sl → Option D) : TE := fun σ H Q => ∃ O Ow es d, OkO O H ∧ Fr K w O Ow es σ H ∧ f es = some d ∧ ∀ H' v, Same H H' → RoB K w O H' b v d → Q v H'
def tT (K : PySem.W.Frag) (w : World) (f : List Sl → Option Bool) : TT := fun σ H Q => ∃ O Ow es d, OkO O H ∧ Fr K w O Ow es σ H ∧ f es = some d ∧ ∀ H', Same H H' → Q d H'
def tA (K : PySem.W.Frag) (w : World) (b : Bool) (f : List Sl → Option (List D)) : TA := fun σ H Q => ∃ O Ow es ds, OkO O H ∧ Fr K w O Ow es σ H ∧ f es = some ds ∧ ∀ H' vs, Same H H' → RoBs K w O H' b vs ds → Q vs H'
abbrev SE (X : Cx) (b : Bool) (e : Expr) (f : List Sl → Option D) : Prop := PE X e (tE X.K X.w b f)
abbrev ST (X : Cx) (e : Expr) (f : List Sl → Option Bool) : Prop := PT X e (tT X.K X.w f)
abbrev SA (X : Cx) (b : Bool) (e : List Expr) (f : List Sl → Option (List D)) : Prop := PA X e (tA X.K X.w b f)
theorem bind_some {α β : Type} {x : Option α} {f : α → Option β} {d : β} (h : x.bind f = some d) : ∃ a, x = some a ∧ f a = some d := Option.bind_eq_some_iff.mp h

section
variable {X : Cx} {b : Bool} {e e1 e2 e3 : Expr} {es : List Expr} {pos : Pos} {f f1 f2 f3 : List Sl → Option D} {g g1 g2 : List Sl → Option Bool} {fs : List Sl → Option (List D)}
theorem SE.weak (h : SE X false e f) : SE X true e f := h.imp fun σ H Q ⟨O, Ow, es, d, hO, F, e, q⟩ => ⟨O, Ow, es, d, hO, F, e, fun H' v s r => q H' v s (.inl r.no)⟩
theorem SE.eqf {f' : List Sl → Option D} (h : SE X b e f) (he : ∀ es d, f' es = some d → f es = some d) : SE X b e f' := h.imp fun σ H Q ⟨O, Ow, es, d, hO, F, e, q⟩ => ⟨O, Ow, es, d, hO, F, he _ _ e, q⟩
theorem ST.eqf {f' : List Sl → Option Bool} (h : ST X e g) (he : ∀ es d, f' es = some d → g es = some d) : ST X e f' := h.imp fun σ H Q ⟨O, Ow, es, d, hO, F, e, q⟩ => ⟨O, Ow, es, d, hO, F, he _ _ e, q⟩
theorem SA.eqf {f' : List Sl → Option (List D)} (h : SA X b es fs) (he : ∀ es d, f' es = some d → fs es = some d) : SA X b es f' := h.imp fun σ H Q ⟨O, Ow, es, d, hO, F, e, q⟩ => ⟨O, Ow, es, d, hO, F, he _ _ e, q⟩

/-! ### names, constants -/
theorem se_var {i : Nat} {x : Str} (hN : X.N[i]? = some x) (hv : Vis X.env.scope x) (hd : (x == ("__debug__" : Str)) = false) (hcd : (x == ("__classdict__" : Str)) = false) : SE X b (.Name x pos) fun es => (es[i]?).bind (rd b) := by
  refine (pe_var hN hv hd hcd).imp fun σ H Q ⟨O, Ow, es, d, hO, F, e, q⟩ => ?_
  obtain ⟨s, h1, h2⟩ := bind_some e
  have hs := F i s h1
  cases s with
  | un => cases b <;> cases h2
  | sh d' =>
    obtain ⟨v, hv, r⟩ := hs
    have : d' = d := by cases b <;> exact Option.some.inj h2
    subst this
    exact ⟨v, hv, q H v (Same.refl H) (.inl r)⟩
  | ow l =>
    cases b with
    | false => cases h2
    | true =>
      obtain ⟨a, xs, hv, h3, h0, h4⟩ := hs
      have : PyData.list l = d := Option.some.inj h2
      exact ⟨_, hv, q H _ (Same.refl H) (.inr ⟨rfl, a, xs, l, rfl, this.symm, h3, h4⟩)⟩
theorem se_const {k : Const} {j : Nat} (h : ∀ s, k = .str s → PyData.canLay0 (.str s) = true) : SE X b (.Constant k j pos) fun _ => constD k := by
  have key : ∀ {v : V}, PE X (.Constant k j pos) (tC v) → (∀ O H d, constD k = some d → Ro X.K X.w O H v d) → SE X b (.Constant k j pos) fun _ => constD k := fun hp hr =>
    hp.imp fun σ H Q ⟨O, Ow, es, d, hO, F, e, q⟩ => q H _ (Same.refl H) (.inl (hr O H d e))
  cases k with
  | none => exact key pe_non fun O H d e => by cases e; exact .non
  | bool z => exact key pe_bl fun O H d e => by cases e; exact .bl z
  | int i => exact key pe_int fun O H d e => by cases e; exact .int i
  | str s => exact key pe_str fun O H d e => by cases e; exact .str s (h s rfl)
  | _ => exact ⟨fun _ _ _ _ _ _ ⟨O, Ow, es, d, hO, F, e, q⟩ => by cases e⟩
/-- a module's constant -/
def GOk (X : Cx) (x : Str) (o : Option D) : Prop := ∀ d, o = some d → ∃ v u, X.mg x = some u ∧ RelV v u ∧ ∀ O H, Ro X.K X.w O H v d
theorem se_glob {x : Str} {o : Option D} (hg : Gl X x) (h : GOk X x o) (hd : (x == ("__debug__" : Str)) = false) : SE X b (.Name x pos) fun _ => o := by
  cases o with
  | none => exact ⟨fun _ _ _ _ _ _ ⟨O, Ow, es, d, hO, F, e, q⟩ => by cases e⟩
  | some d =>
    obtain ⟨v, u, h1, h2, h3⟩ := h d rfl
    exact (pe_glob hg h1 h2 hd).imp fun σ H Q ⟨O, Ow, es, d', hO, F, e, q⟩ => by cases e; exact q H v (Same.refl H) (.inl (h3 O H))

/-! ### arguments, displays -/
theorem starEach_cons (h : ∀ e' p, e ≠ .Starred e' p) (env : Env) : starEach (e :: es) env = (false, eval e env) :: starEach es env := by
  cases e <;> first | rfl | exact absurd rfl (h _ _)
theorem sa_nil : SA X b [] fun _ => some [] := pa_nil.imp fun σ H Q ⟨O, Ow, es, ds, hO, F, e, q⟩ => by cases e; exact q H [] (Same.refl H) .nil
theorem sa_cons (hn : ∀ e' p, e ≠ .Starred e' p) (h : SE X b e f) (hr : SA X b es fs) : SA X b (e :: es) fun σ => (f σ).bind fun d => (fs σ).bind fun ys => some (d :: ys) := by
  refine (pa_cons h hr (starEach_cons hn _)).imp fun σ H Q ⟨O, Ow, es, ds, hO, F, e, q⟩ => ?_
  obtain ⟨d, e1, e⟩ := bind_some e
  obtain ⟨ys, e2, e⟩ := bind_some e
  cases e
  refine ⟨O, Ow, es, d, hO, F, e1, fun H1 v s1 r1 => ⟨O, Ow, es, ys, hO.same s1, F.same s1, e2, fun H2 vs s2 r2 => ?_⟩⟩
  exact q H2 _ (s1.trans s2) (.cons (r1.same s2) r2)
theorem sa_star {p : Pos} (h : SE X true e f) (hr : SA X b es fs) : SA X b (.Starred e p :: es) fun σ => (f σ).bind fun d => (items d).bind fun xs => (fs σ).bind fun ys => some (xs ++ ys) := by
  refine (StX.pa_star (p := p) h hr rfl).imp fun σ H Q ⟨O, Ow, es, ds, hO, F, e, q⟩ => ?_
  obtain ⟨d, e1, e⟩ := bind_some e
  obtain ⟨xs, e3, e⟩ := bind_some e
  obtain ⟨ys, e2, e⟩ := bind_some e
  cases e
  refine ⟨O, Ow, es, d, hO, F, e1, fun H1 v s1 r1 => ?_⟩
  have fin : ∀ a vs, v = .ref a → (SqT X.K H1 a vs ∨ SqL X.K H1 a vs) → RoAll X.K X.w O H1 vs xs → ∃ p xs, v = V.ref p ∧ (SqT X.K H1 p xs ∨ SqL X.K H1 p xs) ∧ tA X.K X.w b fs σ H1 fun ys H2 => Q (xs ++ ys) H2 := fun a vs ha hq hr =>
    ⟨a, vs, ha, hq, O, Ow, es, ys, hO.same s1, F.same s1, e2, fun H2 ws s2 r2 => q H2 _ (s1.trans s2) ((hr.same s2).bs.app r2)⟩
  cases d with
  | list l =>
    cases e3
    obtain ⟨a, vs, h1, h2, h3⟩ := r1.list
    exact fin a vs h1 (.inr h2) h3
  | tuple l =>
    cases e3
    obtain ⟨a, vs, h1, h2, h3⟩ := r1.tup
    exact fin a vs h1 (.inl h2) h3
  | _ => cases e3
theorem se_tuple {k : Nat} (h : SA X false es fs) : SE X b (.Tuple es k pos) fun σ => (fs σ).bind fun ds => cond (decide (ds.length ≤ few)) (some (.tuple ds)) none := by
  refine (pe_tup h).imp fun σ H Q ⟨O, Ow, es, d, hO, F, e, q⟩ => ?_
  obtain ⟨ds, e1, e⟩ := bind_some e
  obtain ⟨c, e⟩ := cond_some e
  cases e
  have hl : ds.length ≤ few := of_decide_eq_true c
  have hf := few_line
  refine ⟨O, Ow, es, ds, hO, F, e1, fun H1 vs s1 r1 => ⟨by rw [r1.length]; omega, fun p hp => ?_⟩⟩
  exact q _ _ (s1.trans (same_upd hp)) (.inl (Ro.newT hp r1.all))
/-- a fresh list -/
def tF (K : PySem.W.Frag) (w : World) (f : List Sl → Option D) : TE := fun σ H Q => ∃ O Ow es d, OkO O H ∧ Fr K w O Ow es σ H ∧ f es = some d ∧
  ∀ H' p xs ds, Same H H' → H p = none → H' p = some (.lst xs) → d = .list ds → RoAll K w (fun a => O a ∨ a = p) H' xs ds → Q (.ref p) H'
abbrev SF (X : Cx) (e : Expr) (f : List Sl → Option D) : Prop := PE X e (tF X.K X.w f)
theorem SF.se (h : SF X e f) : SE X b e f := h.imp fun σ H Q ⟨O, Ow, es, d, hO, F, e, q⟩ => ⟨O, Ow, es, d, hO, F, e, fun H' p xs ds s hp h1 h2 h3 => q H' _ s (.inl (by
  subst h2
  exact .lst (.inl h1) (hO.none hp) (h3.less fun a z => .inl z)))⟩
theorem sf_list (h : SA X false es fs) : SF X (.List es pos) fun σ => (fs σ).bind fun ds => cond (decide (ds.length ≤ few)) (some (.list ds)) none := by
  refine (pe_lst h).imp fun σ H Q ⟨O, Ow, es, d, hO, F, e, q⟩ => ?_
  obtain ⟨ds, e1, e⟩ := bind_some e
  obtain ⟨c, e⟩ := cond_some e
  cases e
  have hl : ds.length ≤ few := of_decide_eq_true c
  have hf := few_line
  refine ⟨O, Ow, es, ds, hO, F, e1, fun H1 vs s1 r1 => ⟨by rw [r1.length]; omega, fun p hp => ?_⟩⟩
  have hp0 : H p = none := s1.free hp
  exact q _ p vs ds (s1.trans (same_upd hp)) hp0 upd_same rfl (r1.all.keeps (Same.keeps (same_upd hp)) fun a z => z.imp id fun e => by rw [e]; exact hp)

/-! ### operators -/
theorem se_bin {o : Operator} (h1 : SE X true e1 f1) (h2 : SE X true e2 f2) : SE X b (.BinOp e1 o e2 pos) fun σ => (f1 σ).bind fun x => (f2 σ).bind fun y => binD o x y := by
  refine (pe_op (op_binD o) h1 h2).imp fun σ H Q ⟨O, Ow, es, d, hO, F, e, q⟩ => ?_
  obtain ⟨x, e1, e⟩ := bind_some e
  obtain ⟨y, e2, e⟩ := bind_some e
  refine ⟨O, Ow, es, x, hO, F, e1, fun H1 v s1 r1 => ⟨O, Ow, es, y, hO.same s1, F.same s1, e2, fun H2 u s2 r2 => ?_⟩⟩
  exact ⟨O, true, x, y, d, (hO.same s1).same s2, r1.same s2, r2, e, fun H3 z s3 r3 => q H3 z ((s1.trans s2).trans s3) (.inl r3)⟩
theorem se_neg (h1 : SE X true e1 f1) : SE X b (.UnaryOp .USub e1 pos) fun σ => (f1 σ).bind fun d => match d with | .int i => some (.int (-i)) | _ => none := by
  refine (pe_un un_neg h1).imp fun σ H Q ⟨O, Ow, es, d, hO, F, e, q⟩ => ?_
  obtain ⟨x, e1, e⟩ := bind_some e
  refine ⟨O, Ow, es, x, hO, F, e1, fun H1 v s1 r1 => ?_⟩
  cases x with
  | int i =>
    cases e
    cases r1.int
    exact ⟨i, rfl, q H1 _ s1 (.inl (.int _))⟩
  | _ => cases e
theorem mark_of {op : CmpOp} (h : ∀ a k p, e2 ≠ .Set a k p) : behindInMarks op e2 = false := by
  cases e2 <;> first | rfl | exact absurd rfl (h _ _ _)
theorem cmp_read {o : CmpOp} {σ : L2.St} {H : Hp} {Q : VK} (h : tE X.K X.w b (fun σ => (f1 σ).bind fun x => (f2 σ).bind fun y => (cmpD o x y).map .bool) σ H Q) : tOp (rCmp X.K X.w (cmpD o)) (tE X.K X.w true f1) (tE X.K X.w true f2) σ H Q := by
  obtain ⟨O, Ow, es, d, hO, F, e, q⟩ := h
  obtain ⟨x, e1, e⟩ := bind_some e
  obtain ⟨y, e2, e⟩ := bind_some e
  obtain ⟨k, e3, e⟩ := Option.map_eq_some_iff.mp e
  subst e
  refine ⟨O, Ow, es, x, hO, F, e1, fun H1 v s1 r1 => ⟨O, Ow, es, y, hO.same s1, F.same s1, e2, fun H2 u s2 r2 => ?_⟩⟩
  exact ⟨O, true, x, y, k, r1.same s2, r2, e3, q H2 _ (s1.trans s2) (.inl (.bl k))⟩
theorem se_cmp {o : CmpOp} (hu : X.A.units + 65 < cLine) (hm : ∀ a k p, e2 ≠ .Set a k p) (h1 : SE X true e1 f1) (h2 : SE X true e2 f2) :
    SE X b (.Compare e1 [o] [e2] pos) fun σ => (f1 σ).bind fun x => (f2 σ).bind fun y => (cmpD o x y).map .bool :=
  (pe_cmpR (op_cmpD o hu) h1 h2 (mark_of hm)).imp fun σ H Q h => cmp_read h
theorem st_cmp {o : CmpOp} (hu : X.A.units + 65 < cLine) (hm : ∀ a k p, e2 ≠ .Set a k p) (h1 : SE X true e1 f1) (h2 : SE X true e2 f2) :
    ST X (.Compare e1 [o] [e2] pos) fun σ => (f1 σ).bind fun x => (f2 σ).bind fun y => cmpD o x y := by
  refine (pt_cmpR (op_cmpD o hu) h1 h2 (mark_of hm)).imp fun σ H Q ⟨O, Ow, es, k, hO, F, e, q⟩ => ?_
  refine cmp_read (b := true) ⟨O, Ow, es, .bool k, hO, F, ?_, fun H' v s r => ⟨k, r.bl, q H' s⟩⟩
  obtain ⟨x, e1, e⟩ := bind_some e
  obtain ⟨y, e2, e⟩ := bind_some e
  show (f1 es).bind _ = _
  rw [e1, Option.bind_some, e2, Option.bind_some, e]; rfl
end
end EV

namespace EV
open PySem PySem.Spec PyProof.Rows L2
section
variable {K : PySem.W.Frag} {w : World} {O : Addr → Prop} {H : Hp} {b : Bool}
theorem RoB.tru {v : V} {d : D} {k : Bool} (h : RoB K w O H b v d) (e : truD d = some k) : TruV K v H k := by
  cases d with
  | none => cases h.non; exact (Option.some.inj e).symm
  | bool x => cases h.bl; exact (Option.some.inj e).symm
  | int i => cases h.int; exact (Option.some.inj e).symm
  | list xs =>
    obtain ⟨a, vs, rfl, h1, h2⟩ := h.list
    refine .inl ⟨vs, h1, ?_⟩
    rw [← Option.some.inj e]
    cases h2 <;> rfl
  | tuple xs =>
    obtain ⟨a, vs, rfl, h1, h2⟩ := h.tup
    refine .inr (.inl ⟨vs, h1, ?_⟩)
    rw [← Option.some.inj e]
    cases h2 <;> rfl
  | _ => cases e
end
section
variable {X : Cx} {b : Bool} {e e1 e2 e3 : Expr} {es : List Expr} {pos : Pos} {f f1 f2 f3 : List Sl → Option D} {g g1 g2 g3 : List Sl → Option Bool} {fs : List Sl → Option (List D)}
theorem se_not (h : SE X true e f) : SE X b (.UnaryOp .Not e pos) fun σ => (f σ).bind fun d => (truD d).map fun k => .bool !k := by
  refine (pe_notT h).imp fun σ H Q ⟨O, Ow, es, d, hO, F, e, q⟩ => ?_
  obtain ⟨x, e1, e⟩ := bind_some e
  obtain ⟨k, e2, e⟩ := Option.map_eq_some_iff.mp e
  subst e
  exact ⟨O, Ow, es, x, hO, F, e1, fun H1 v s1 r1 => ⟨k, r1.tru e2, q H1 _ s1 (.inl (.bl _))⟩⟩
theorem st_not (h : ST X e g) : ST X (.UnaryOp .Not e pos) fun σ => (g σ).map (!·) := by
  refine (pt_not h).imp fun σ H Q ⟨O, Ow, es, d, hO, F, e, q⟩ => ?_
  obtain ⟨k, e1, e⟩ := Option.map_eq_some_iff.mp e
  subst e
  exact ⟨O, Ow, es, k, hO, F, e1, fun H1 s1 => q H1 s1⟩
theorem st_val (h : SE X true e f) (he : ∀ whole, isTrue e X.env whole = (do let v ← whole; standAt e.pos; holding [v] (truthy v))) : ST X e fun σ => (f σ).bind truD := by
  refine (pt_truth h he).imp fun σ H Q ⟨O, Ow, es, d, hO, F, e, q⟩ => ?_
  obtain ⟨x, e1, e⟩ := bind_some e
  exact ⟨O, Ow, es, x, hO, F, e1, fun H1 v s1 r1 => ⟨d, r1.tru e, q H1 s1⟩⟩
theorem st_ifExp (ht : ST X e1 g1) (h2 : ST X e2 g2) (h3 : ST X e3 g3) : ST X (.IfExp e1 e2 e3 pos) fun σ => (g1 σ).bind fun k => cond k (g2 σ) (g3 σ) := by
  refine ⟨fun pins s σ H Q I ⟨O, Ow, es, d, hO, F, e, q⟩ => ?_⟩
  obtain ⟨k, e1, e⟩ := bind_some e
  refine isTrue_IfExp (thn (ht.run pins s σ H (fun c H1 => c = k ∧ Same H H1) I ⟨O, Ow, es, k, hO, F, e1, fun H1 s1 => ⟨rfl, s1⟩⟩) fun c s1 ⟨H1, I1, ec, s0⟩ => ?_)
  subst ec
  cases c with
  | true => exact h2.run pins s1 σ H1 Q I1 ⟨O, Ow, es, d, hO.same s0, F.same s0, e, fun H2 s2 => q H2 (s0.trans s2)⟩
  | false => exact h3.run pins s1 σ H1 Q I1 ⟨O, Ow, es, d, hO.same s0, F.same s0, e, fun H2 s2 => q H2 (s0.trans s2)⟩
theorem se_ifExp (ht : ST X e1 g1) (h2 : SE X b e2 f2) (h3 : SE X b e3 f3) : SE X b (.IfExp e1 e2 e3 pos) fun σ => (g1 σ).bind fun k => cond k (f2 σ) (f3 σ) := by
  refine (pe_ifExp ht h2 h3).imp fun σ H Q ⟨O, Ow, es, d, hO, F, e, q⟩ => ?_
  obtain ⟨k, e1, e⟩ := bind_some e
  refine ⟨O, Ow, es, k, hO, F, e1, fun H1 s1 => ?_⟩
  cases k with
  | true => exact ⟨O, Ow, es, d, hO.same s1, F.same s1, e, fun H2 v s2 r2 => q H2 v (s1.trans s2) r2⟩
  | false => exact ⟨O, Ow, es, d, hO.same s1, F.same s1, e, fun H2 v s2 r2 => q H2 v (s1.trans s2) r2⟩
theorem se_and1 (h : SE X b e f) {op : BoolOp} : SE X b (.BoolOp op [e] pos) f := pe_one h
theorem se_and (h : SE X b e1 f1) (h2 : SE X b (.BoolOp .And (e2 :: es) pos) f2) : SE X b (.BoolOp .And (e1 :: e2 :: es) pos) fun σ => (f1 σ).bind fun d => (truD d).bind fun k => cond k (f2 σ) (some d) := by
  refine (pe_andT h h2).imp fun σ H Q ⟨O, Ow, es, d, hO, F, e, q⟩ => ?_
  obtain ⟨x, e1, e⟩ := bind_some e
  obtain ⟨k, e2, e⟩ := bind_some e
  refine ⟨O, Ow, es, x, hO, F, e1, fun H1 v s1 r1 => ⟨k, r1.tru e2, ?_⟩⟩
  cases k with
  | true => exact ⟨O, Ow, es, d, hO.same s1, F.same s1, e, fun H2 v s2 r2 => q H2 v (s1.trans s2) r2⟩
  | false => cases e; exact q H1 v s1 r1
theorem se_or (h : SE X b e1 f1) (h2 : SE X b (.BoolOp .Or (e2 :: es) pos) f2) : SE X b (.BoolOp .Or (e1 :: e2 :: es) pos) fun σ => (f1 σ).bind fun d => (truD d).bind fun k => cond k (some d) (f2 σ) := by
  refine (pe_orT h h2).imp fun σ H Q ⟨O, Ow, es, d, hO, F, e, q⟩ => ?_
  obtain ⟨x, e1, e⟩ := bind_some e
  obtain ⟨k, e2, e⟩ := bind_some e
  refine ⟨O, Ow, es, x, hO, F, e1, fun H1 v s1 r1 => ⟨k, r1.tru e2, ?_⟩⟩
  cases k with
  | true => cases e; exact q H1 v s1 r1
  | false => exact ⟨O, Ow, es, d, hO.same s1, F.same s1, e, fun H2 v s2 r2 => q H2 v (s1.trans s2) r2⟩
/-- tests by and, or, whatever the whole is -/
abbrev SW (X : Cx) (e : Expr) (f : List Sl → Option Bool) : Prop := PW X e (tT X.K X.w f)
theorem _root_.L2.PW.imp {X : Cx} {e : Expr} {t t' : TT} (h : PW X e t) (hi : ∀ σ H Q, t' σ H Q → t σ H Q) : PW X e t' := ⟨fun wh pins s σ H Q I hq => h.run wh pins s σ H Q I (hi _ _ _ hq)⟩
theorem sw_and1 (h : ST X e g) : SW X (.BoolOp .And [e] pos) g := pw_and1 h
theorem sw_or1 (h : ST X e g) : SW X (.BoolOp .Or [e] pos) g := pw_or1 h
theorem sw_and (h : ST X e1 g1) (h2 : SW X (.BoolOp .And (e2 :: es) pos) g2) : SW X (.BoolOp .And (e1 :: e2 :: es) pos) fun σ => (g1 σ).bind fun k => cond k (g2 σ) (some false) := by
  refine (pw_and h h2).imp fun σ H Q ⟨O, Ow, es, d, hO, F, e, q⟩ => ?_
  obtain ⟨k, e1, e⟩ := bind_some e
  refine ⟨O, Ow, es, k, hO, F, e1, fun H1 s1 => ?_⟩
  cases k with
  | true => exact ⟨O, Ow, es, d, hO.same s1, F.same s1, e, fun H2 s2 => q H2 (s1.trans s2)⟩
  | false => cases e; exact q H1 s1
theorem sw_or (h : ST X e1 g1) (h2 : SW X (.BoolOp .Or (e2 :: es) pos) g2) : SW X (.BoolOp .Or (e1 :: e2 :: es) pos) fun σ => (g1 σ).bind fun k => cond k (some true) (g2 σ) := by
  refine (pw_or h h2).imp fun σ H Q ⟨O, Ow, es, d, hO, F, e, q⟩ => ?_
  obtain ⟨k, e1, e⟩ := bind_some e
  refine ⟨O, Ow, es, k, hO, F, e1, fun H1 s1 => ?_⟩
  cases k with
  | true => cases e; exact q H1 s1
  | false => exact ⟨O, Ow, es, d, hO.same s1, F.same s1, e, fun H2 s2 => q H2 (s1.trans s2)⟩
theorem se_chain {o o' : CmpOp} (hu : X.A.units + 65 < cLine) (hm : lastMarks [o, o'] [e2, e3] = false) (h1 : SE X true e1 f1) (h2 : SE X true e2 f2) (h3 : SE X true e3 f3) :
    SE X b (.Compare e1 [o, o'] [e2, e3] pos) fun σ => (f1 σ).bind fun x => (f2 σ).bind fun y => (cmpD o x y).bind fun k => cond k ((f3 σ).bind fun z => (cmpD o' y z).map .bool) (some (.bool false)) := by
  refine (pe_chain (op_cmpD o hu) (op_cmpD o' hu) h1 h2 h3 hm).imp fun σ H Q ⟨O, Ow, es, d, hO, F, e, q⟩ => ?_
  obtain ⟨x, e1, e⟩ := bind_some e
  obtain ⟨y, e2, e⟩ := bind_some e
  obtain ⟨k, e3, e⟩ := bind_some e
  refine ⟨O, Ow, es, x, hO, F, e1, fun H1 v s1 r1 => ⟨O, Ow, es, y, hO.same s1, F.same s1, e2, fun H2 u s2 r2 => ⟨O, true, x, y, k, r1.same s2, r2, e3, k, rfl, ?_⟩⟩⟩
  cases k with
  | true =>
    obtain ⟨z, e4, e⟩ := bind_some e
    obtain ⟨k', e5, e⟩ := Option.map_eq_some_iff.mp e
    subst e
    exact ⟨O, Ow, es, z, (hO.same s1).same s2, (F.same s1).same s2, e4, fun H3 t s3 r3 => ⟨O, true, y, z, k', r2.same s3, r3, e5, q H3 _ ((s1.trans s2).trans s3) (.inl (.bl _))⟩⟩
  | false =>
    cases e
    exact q H2 _ (s1.trans s2) (.inl (.bl _))
theorem st_chain {o o' : CmpOp} (hu : X.A.units + 65 < cLine) (hm : lastMarks [o, o'] [e2, e3] = false) (h1 : SE X true e1 f1) (h2 : SE X true e2 f2) (h3 : SE X true e3 f3) :
    ST X (.Compare e1 [o, o'] [e2, e3] pos) fun σ => (f1 σ).bind fun x => (f2 σ).bind fun y => (cmpD o x y).bind fun k => cond k ((f3 σ).bind fun z => cmpD o' y z) (some false) := by
  refine (pt_chain (op_cmpD o hu) (op_cmpD o' hu) h1 h2 h3 hm).imp fun σ H Q ⟨O, Ow, es, d, hO, F, e, q⟩ => ?_
  obtain ⟨x, e1, e⟩ := bind_some e
  obtain ⟨y, e2, e⟩ := bind_some e
  obtain ⟨k, e3, e⟩ := bind_some e
  refine ⟨O, Ow, es, x, hO, F, e1, fun H1 v s1 r1 => ⟨O, Ow, es, y, hO.same s1, F.same s1, e2, fun H2 u s2 r2 => ⟨O, true, x, y, k, r1.same s2, r2, e3, k, rfl, ?_⟩⟩⟩
  cases k with
  | true =>
    obtain ⟨z, e4, e⟩ := bind_some e
    exact ⟨O, Ow, es, z, (hO.same s1).same s2, (F.same s1).same s2, e4, fun H3 t s3 r3 => ⟨O, true, y, z, d, r2.same s3, r3, e, d, rfl, q H3 ((s1.trans s2).trans s3)⟩⟩
  | false =>
    cases e
    exact ⟨false, rfl, q H2 (s1.trans s2)⟩

/-! ### subscripts -/
theorem RoAll.atI {K : PySem.W.Frag} {w : World} {O : Addr → Prop} {H : Hp} {vs : List V} {ds : List D} {i : Int} {d : D} (h : RoAll K w O H vs ds) (e : atI ds i = some d) : ∃ v, atI vs i = some v ∧ Ro K w O H v d := by
  unfold L2.atI at e ⊢
  rw [h.length]
  obtain ⟨j, e1, e2⟩ := bind_some e
  rw [e1]
  exact h.get e2
theorem ix_D : IxR X (rOp X.K X.w ixD) := by
  intro value slice pins s σ H x y v u Q I rx ry ⟨O, b, dx, dy, d, hO, hx, hy, e, q⟩ hs
  unfold ixD at e
  split at e
  · obtain ⟨a, vs, rfl, h1, h2⟩ := hx.list
    cases hy.int
    obtain ⟨z, h3, h4⟩ := h2.atI e
    exact ix_list value slice pins s σ H _ _ v u Q I rx ry ⟨a, vs, _, z, rfl, rfl, h1, h3, q H z (Same.refl H) h4⟩ hs
  · obtain ⟨a, vs, rfl, h1, h2⟩ := hx.tup
    cases hy.int
    obtain ⟨z, h3, h4⟩ := h2.atI e
    exact ix_tup value slice pins s σ H _ _ v u Q I rx ry ⟨a, vs, _, z, rfl, rfl, h1, h3, q H z (Same.refl H) h4⟩ hs
  · obtain ⟨rfl, _⟩ := hy.str
    obtain ⟨a, es, n, rfl, hk, k1, k2⟩ := hx.kd
    obtain ⟨u', v', h1, h2, h3⟩ := k1 _ _ e
    exact ix_kdict value slice pins s σ H _ _ v u Q I rx ry ⟨a, _, v', rfl, rfl, ⟨es, n, u', hk.at_, hk.lit, h1, h2⟩, q H v' (Same.refl H) h3⟩ hs
  · cases e
theorem plainIx_of (h : ∀ a b c d, e ≠ .Slice a b c d) : PlainIx e := by
  intro o i
  cases e <;> first | rfl | exact absurd rfl (h _ _ _ _)
theorem se_ix (hs : ∀ a b c d, e2 ≠ .Slice a b c d) (h1 : SE X true e1 f1) (h2 : SE X true e2 f2) : SE X b (.Subscript e1 e2 pos) fun σ => (f1 σ).bind fun x => (f2 σ).bind fun y => ixD x y := by
  refine (pe_ix ix_D h1 h2 (plainIx_of hs)).imp fun σ H Q ⟨O, Ow, es, d, hO, F, e, q⟩ => ?_
  obtain ⟨x, e1, e⟩ := bind_some e
  obtain ⟨y, e2, e⟩ := bind_some e
  refine ⟨O, Ow, es, x, hO, F, e1, fun H1 v s1 r1 => ⟨O, Ow, es, y, hO.same s1, F.same s1, e2, fun H2 u s2 r2 => ?_⟩⟩
  exact ⟨O, true, x, y, d, (hO.same s1).same s2, r1.same s2, r2, e, fun H3 z s3 r3 => q H3 z ((s1.trans s2).trans s3) (.inl r3)⟩
/-! slices -/
def rSl (K : PySem.W.Frag) (w : World) : V → Option Int → Option Int → Hp → VK → Prop := fun x lo hi H Q => ∃ O b dx d, OkO O H ∧ RoB K w O H b x dx ∧ slD dx lo hi = some d ∧ ∀ H' v, Same H H' → Ro K w O H' v d → Q v H'
theorem cut_ro {K : PySem.W.Frag} {w : World} {O : Addr → Prop} {H : Hp} {vs : List V} {ds : List D} (lo hi : Option Int) (h : RoAll K w O H vs ds) : RoAll K w O H (cutV vs lo hi) (cut ds lo hi) := by
  unfold cutV cut
  rw [h.length]
  exact (h.drop _).take _
theorem sl_D : SlR X (rSl X.K X.w) := by
  intro pins s σ H x v vl vu lo hi sl Q I rx hs pl pu ⟨O, b, dx, d, hO, hx, e, q⟩
  cases dx with
  | list ds =>
    obtain ⟨a, vs, rfl, h1, h2⟩ := hx.list
    cases e
    exact sl_list pins s σ H _ v vl vu lo hi sl Q I rx hs pl pu ⟨a, vs, rfl, h1, fun p hp => q _ _ (same_upd hp) (Ro.newL hO hp (cut_ro lo hi h2))⟩
  | tuple ds =>
    obtain ⟨a, vs, rfl, h1, h2⟩ := hx.tup
    cases e
    refine sl_tupA pins s σ H _ v vl vu lo hi sl Q I rx hs pl pu ⟨a, vs, rfl, h1, fun z => ?_, fun _ p hp => q _ _ (same_upd hp) (Ro.newT hp (cut_ro lo hi h2))⟩
    have e : cut ds lo hi = ds := by
      rw [h2.length] at z
      unfold cut
      rw [z.1, z.2]
      simp
    rw [e] at q
    exact q H _ (Same.refl H) (.tup h1 h2)
  | _ => cases e
def partF (f : Option (List Sl → Option D)) : List Sl → Option (Option Int) := fun σ => match f with
  | none => some none
  | some f => (f σ).bind fun d => match d with | .int i => some (some i) | _ => none
def tO (K : PySem.W.Frag) (w : World) (f : List Sl → Option (Option Int)) : TO := fun σ H Q => ∃ O Ow es d, OkO O H ∧ Fr K w O Ow es σ H ∧ f es = some d ∧ ∀ H', Same H H' → Q d H'
abbrev SO (X : Cx) (e : Option Expr) (f : List Sl → Option (Option Int)) : Prop := PO X e (tO X.K X.w f)
theorem _root_.L2.PO.imp {X : Cx} {e : Option Expr} {t t' : TO} (h : PO X e t) (hi : ∀ σ H Q, t' σ H Q → t σ H Q) : PO X e t' := ⟨fun pins s σ H Q I hq => h.run pins s σ H Q I (hi _ _ _ hq)⟩
theorem so_none : SO X none fun _ => some none := po_none.imp fun σ H Q ⟨O, Ow, es, d, hO, F, e, q⟩ => by cases e; exact q H (Same.refl H)
theorem so_some (h : SE X true e f) : SO X (some e) fun σ => (f σ).bind fun d => match d with | .int i => some (some i) | _ => none := by
  refine (po_some h).imp fun σ H Q ⟨O, Ow, es, d, hO, F, e, q⟩ => ?_
  obtain ⟨x, e1, e⟩ := bind_some e
  refine ⟨O, Ow, es, x, hO, F, e1, fun H1 v s1 r1 => ?_⟩
  cases x with
  | int i => cases e; exact ⟨i, r1.int, q H1 s1⟩
  | _ => cases e
theorem se_slice {lo hi : Option Expr} {fl fh : List Sl → Option (Option Int)} {p2 : Pos} (h : SE X true e f) (hl : SO X lo fl) (hh : SO X hi fh) :
    SE X b (.Subscript e (.Slice lo hi none p2) pos) fun σ => (f σ).bind fun d => (fl σ).bind fun l => (fh σ).bind fun h => slD d l h := by
  refine (pe_slice sl_D h hl hh).imp fun σ H Q ⟨O, Ow, es, d, hO, F, e, q⟩ => ?_
  obtain ⟨x, e1, e⟩ := bind_some e
  obtain ⟨l, e2, e⟩ := bind_some e
  obtain ⟨u, e3, e⟩ := bind_some e
  refine ⟨O, Ow, es, x, hO, F, e1, fun H1 v s1 r1 => ⟨O, Ow, es, l, hO.same s1, F.same s1, e2, fun H2 s2 => ⟨O, Ow, es, u, (hO.same s1).same s2, (F.same s1).same s2, e3, fun H3 s3 => ?_⟩⟩⟩
  exact ⟨O, true, x, d, ((hO.same s1).same s2).same s3, (r1.same s2).same s3, e, fun H4 z s4 r4 => q H4 z (((s1.trans s2).trans s3).trans s4) (.inl r4)⟩
end
end EV

/-! calls below which nothing is being shown: the library's contract of a def with one word more on the stack -/
namespace EV
open PySem PySem.Spec PyProof.Rows L2
structure FnG (P : Program) (w : World) (K : PySem.W.Frag) (mg : Str → Option Value) (base : Heap) (k : Nat) (f : Addr) (fd : FuncData) (ps : List Str) (sp : Sp) : Prop where
  len : ∀ vs H Q E, sp vs H Q E → vs.length = ps.length
  run : ∀ (A : Around) (outer : List Env) (s : Shared) (H : Hp) (args : Args) (us : List Value) (vs : List V) (Q : VK) (E : XK), Room k A → A.guards = some [] → Env0 P w K mg base A outer s H →
    BindsTo s fd args (ps.zip us) → Vals vs us → sp vs H Q E → codeAny (model P w) A (.call (.ref f) args) (CR CX0 outer P w H s Q E) s
section
variable {X : Cx} {k : Nat} {f : Addr} {fd : FuncData} {ps : List Str} {sp : Sp} {x : Str} {p pos : Pos} {e : Expr} {es : List Expr} {t : TA}
theorem pe_callG (F : FnG X.prog X.w X.K X.mg X.base k f fd ps sp) (hr : Room k X.A) (hgd : X.A.guards = some []) (hg : Gl X x) (hm : X.mg x = some (.ref f)) (hk : PySem.W.keepIn X.K (.ref f) = true) (hb : Binds X.K fd ps [])
    (ha : PA X (e :: es) t) (hdb : (x == ("__debug__" : Str)) = false) (he : starEach (e :: es) X.env = (false, eval e X.env) :: starEach es X.env) (hpl : (backTo pos (starEach es X.env)).any (·.1) = false) :
    PE X (.Call (.Name x p) (e :: es) [] pos) (tCall sp [] E0 t) := by
  refine ⟨fun pins s σ H Q I h => wpAny_Call_Name_kw (ld_glob I hg hm ?_ hdb)⟩
  refine PySem.W.callWith_K (h₀ := X.base) I.ok.mod.kin hk (thn (ha.run pos pins s σ H _ I h) fun us s1 ⟨vs, H1, J, r, q⟩ => ⟨J.kIn, ?_⟩) he hpl
  have q' : sp vs H1 Q E0 := by
    have z : sp (vs ++ []) H1 Q E0 := q
    rwa [List.append_nil] at z
  have hl : us.length = ps.length := r.length.symm.trans (F.len _ _ _ _ q')
  have hb' : BindsTo s1 fd ⟨us, []⟩ (ps.zip us) := by
    have := hb s1 us J.kIn (by rw [List.append_nil]; exact hl)
    rwa [List.append_nil] at this
  refine wpAny_call (codeAny_mono (F.run X.A X.stack s1 H1 ⟨us, []⟩ us vs Q E0 hr hgd J.env0 hb' r q') fun z s' hz => ?_)
  match z, hz with
  | .error _, hz => exact False.elim hz
  | .ok (.ret u), hz => exact J.after hz
  | .ok .next, hz => exact False.elim hz
  | .ok .brk, hz => exact False.elim hz
  | .ok .cont, hz => exact False.elim hz
end
section
variable {P : Program} {w : World} {K : PySem.W.Frag} {mg : Str → Option Value} {base : Heap}
theorem Fun.okG {x qual : Str} {st : Stmt} {f : Addr} {fd : FuncData} {N ps : List Str} {k : Nat} {sp : Sp} (F : Fun K x qual st f fd) (S : FnScope N ps (defScope st)) (len : ∀ vs H Q E, sp vs H Q E → vs.length = ps.length)
    (hbody : ∀ (cdv : Value) (A : Around) (outer : List Env) (s : Shared) (H : Hp) (vs : List V) (Q : VK) (E : XK), Room k (A.deeper (envOfC qual (defScope st) s.heap.objs.size f cdv)) → A.guards = some [] → sp vs H Q E →
      ∃ t, PSs (cxOf CX0 P w K mg base N qual (defScope st) f cdv A outer s H E).nox (defBody st) t ∧ t { nx := fun _ H' => Q .non H', rt := Q } (L2.start N vs) H) : FnG P w K mg base (k + 1) f fd ps sp := by
  obtain ⟨oc, od, kV, doc, pm, an, cdv, ct, osl, rfl, lk, hcd⟩ := F.ex
  refine ⟨len, fun A outer s H args us vs Q E hr hgd e0 hb r hsp => ?_⟩
  have old : ∀ {b : Addr} {o : Obj}, base.get? b = some o → s.heap.get? b = some o := fun {b o} e => (e0.bs b o e).1
  have kin : K.In s.heap := e0.mod.kin.keeps fun b o e => old e
  have nolim : s.heap.NoLimit := e0.mod.nolimit.keeps fun b o e => old e
  refine codeAny_call_function hr.depth (kin _ _ lk) rfl S.co S.gen rfl (PySem.W.codeRec_of kin hcd) (hb _ _ _ _ (wpAny_newFunctionEnv_cells S.kind (fun ⟨n, v⟩ hy => ?_) fun env he s1 x => ?_))
  · exact (S.par n (List.of_mem_zip hy).1).elim .inl fun q => .inr ⟨q, PySem.W.cellsFrom_some _ _ _ (.inl q)⟩
  · subst he
    obtain ⟨t, ht, hq⟩ := hbody cdv A outer s H vs Q E (hr.deeper _) hgd hsp
    refine ⟨nolim.keeps x.toInCall.keep, codeAny_func (wpAny_mono (ht.nox.run [] s1 (L2.start N vs) H _ (inv_start S hr.hd e0 (len _ _ _ _ hsp) r x) hq) (fun fl s' hs => ?_) fun e s' hs => hs)⟩
    match fl, hs with
    | .ret u, ⟨v, σ', H', J, rv, q⟩ => exact ⟨v, H', J.os, J.bare, J.base, J.hok, rv, q⟩
    | .next, ⟨σ', H', J, q⟩ => exact ⟨V.non, H', J.os, J.bare, J.base, J.hok, rfl, q⟩
    | .brk, ⟨_, _, _, q⟩ => exact False.elim q
    | .cont, ⟨_, _, _, q⟩ => exact False.elim q
end
end EV

namespace EV
open PySem PySem.Spec PyProof.Rows L2
theorem vals_each {K : PySem.W.Frag} {w : World} {O : Addr → Prop} {H : Hp} : ∀ {vs : List V} {us : List Value} {ds : List D}, Vals vs us → RoAll K w O H vs ds → PySem.W.EachIs (fun u d => ∃ v, RelV v u ∧ Ro K w O H v d) us ds
  | [], _, _, r, h => by cases r; cases h; exact .nil
  | v :: vs, _, _, r, h => by
    cases r with | cons r1 r2 =>
    cases h with | cons h1 h2 =>
    exact .cons ⟨v, r1, h1⟩ (vals_each r2 h2)
theorem each_vals {K : PySem.W.Frag} {w : World} {O : Addr → Prop} {H : Hp} : ∀ {us : List Value} {ds : List D}, PySem.W.EachIs (fun u d => ∃ v, RelV v u ∧ Ro K w O H v d) us ds → ∃ vs, Vals vs us ∧ RoAll K w O H vs ds
  | _, _, .nil => ⟨[], .nil, .nil⟩
  | _, _, .cons ⟨v, r, h⟩ t => by
    obtain ⟨vs, r2, h2⟩ := each_vals t
    exact ⟨v :: vs, .cons r r2, .cons h h2⟩
section
variable {X : Cx}
theorem reads_all {pins : List (Addr × Obj)} {s : Shared} {σ : L2.St} {H : Hp} (I : Inv X pins σ H s) {O : Addr → Prop} : ∀ {us : List Value} {ds : List D}, PySem.W.EachIs (fun u d => ∃ v, RelV v u ∧ Ro X.K X.w O H v d) us ds → dles 60 ds = true → PySem.W.EachIs (fun u d => ∃ as, Reads s.heap u d as) us ds
  | _, _, .nil, _ => .nil
  | _, _, .cons ⟨v, r, h⟩ t, e => by
    rw [dles, Bool.and_eq_true] at e
    exact .cons (Dp.reads I _ _ _ (h.dp 60 e.1).1 r) (reads_all I t e.2)
theorem dles_mem : ∀ {ds : List D}, dles 60 ds = true → ∀ d ∈ ds, dle 60 d = true
  | d :: ds, e, x, hx => by
    rw [dles, Bool.and_eq_true] at e
    rcases List.mem_cons.mp hx with rfl | hx
    · exact e.1
    · exact dles_mem e.2 x hx
theorem call_sortedX (hu : X.A.units + 65 < cLine) : CallR X (.builtin "sorted") (fun xs H Q => ∃ O b ds d, OkO O H ∧ RoBs X.K X.w O H b xs ds ∧ sortD ds = some d ∧ ∀ H' v, Same H H' → Ro X.K X.w O H' v d → Q v H') := by
  intro pins s σ H xs us Q I rx ⟨O, b, ds, d, hO, hx, e, q⟩
  unfold sortD at e
  split at e
  · rename_i ys
    obtain ⟨c, e⟩ := cond_some e
    cases e
    unfold sortOk at c
    simp only [Bool.and_eq_true, List.all_eq_true, Bool.or_eq_true] at c
    obtain ⟨c1, c2, c3, c4⟩ := c
    cases hx with | cons h t =>
    cases t
    obtain ⟨a, vs, rfl, h1, h2⟩ := h.list
    obtain ⟨its, rv, hl, _⟩ := I.list h1
    rw [Vals.ref1 rx]
    have ea := vals_each rv h2
    have hf := few_line
    have c4 := of_decide_eq_true c4
    refine PySem.W.sorted_data (enc := id) hl.isList ea (reads_all I ea c3) ?_ ?_ (by omega) (fun x hx => ?_) fun out ho er => ?_
    · rw [List.map_id]
      exact fun x hx y hy => c1 x hx y hy
    · rw [List.map_id]
      rcases c2 with c2 | c2
      · refine .inl fun x hx => ?_
        have := c2 x hx
        unfold isTupN at this
        split at this
        · exact ⟨_, _, rfl⟩
        · cases this
      · refine .inr fun x hx => ?_
        have := c2 x hx
        unfold isPlainD at this
        split at this
        · cases this
        · cases this
        · rename_i n1 n2
          exact ⟨n1, n2⟩
    · have := dle_depth 60 x (dles_mem c3 x hx)
      show X.A.units + 2 + x.depth < cLine
      omega
    · obtain ⟨vs', r', h'⟩ := each_vals er
      obtain ⟨ep, he'⟩ := PyProof.Rows.sortedAll_at s.heap its (List.toArray out)
      have hlen : vs'.length ≤ sizeLine := by
        rw [r'.length, ho]; omega
      have hfr : H (s.heap.objs.size + 1) = none := I.hok.fresh (Nat.le_succ _)
      exact ⟨.ref _, upd H (s.heap.objs.size + 1) (.lst vs'), I.laid (t' := s.toks) (fun _ _ => PyProof.Rows.sortedAll_old) (Nat.le_succ _) ⟨hlen, out, ep, r', he'⟩, rfl, q _ _ (same_upd hfr) (Ro.newL hO hfr h')⟩
  · cases e
/-! texts of data are texts -/
theorem all_app (x y : Str) : PyData.strOk (x ++ y) = (PyData.strOk x && PyData.strOk y) := by
  show (x.cps ++ y.cps).all _ = _
  rw [Array.all_append]; rfl
theorem all_from : ∀ (ts : List Str) (k : Nat) (acc : Str), PyData.strOk acc = true → (∀ t ∈ ts, PyData.strOk t = true) → PyData.strOk (textFrom k acc ts) = true
  | [], _, acc, h, _ => h
  | t :: r, k, acc, h, ht => by
    refine all_from r (k + 1) _ ?_ fun z hz => ht z (List.mem_cons_of_mem _ hz)
    rw [all_app, all_app, h, ht t List.mem_cons_self]
    split <;> decide +kernel
theorem all_join : ∀ ts : List Str, (∀ t ∈ ts, PyData.strOk t = true) → PyData.strOk (Str.join ", " ts) = true
  | [], _ => by decide +kernel
  | [x], h => h x List.mem_cons_self
  | x :: y :: r, h => by
    have ih := all_join (y :: r) fun z hz => h z (List.mem_cons_of_mem _ hz)
    show PyData.strOk (x ++ ", " ++ Str.join ", " (y :: r)) = true
    rw [all_app, all_app, h x List.mem_cons_self, ih]
    decide +kernel
theorem char_small (c : Char) : c.toNat < 1114112 := by
  rcases c.valid with h | ⟨_, h⟩
  · have h1 : c.toNat < 55296 := h
    omega
  · exact h
theorem all_ofString (x : String) : PyData.strOk (Str.ofString x) = true := by
  rw [Str.ofString_eq_toList]
  unfold PyData.strOk
  rw [Array.all_eq_true]
  intro i hi
  simp only [Array.getElem_map, decide_eq_true_eq]
  simp
  exact char_small _
theorem all_reprChar {q c : Nat} (hq : q < 128) (hc : c < 1114112) : ∀ x ∈ Builtin.Str.reprChar q c, x < 1114112 := by
  intro x hx
  have hd : ∀ {w : Nat} {x : Nat}, x ∈ List.replicate w 48 ++ (Nat.toDigits 16 c).map Char.toNat → x < 1114112 := fun {w x} h => by
    rcases List.mem_append.mp h with h | h
    · rw [(List.mem_replicate.mp h).2]; decide
    · obtain ⟨d, _, rfl⟩ := List.mem_map.mp h
      exact char_small d
  unfold Builtin.Str.reprChar at hx
  repeat' split at hx
  all_goals first
    | (simp at hx; rcases hx with rfl | rfl <;> first | omega | exact hc)
    | (simp at hx; subst hx; exact hc)
    | (rw [List.mem_append] at hx
       rcases hx with hx | hx
       · simp at hx; omega
       · exact hd hx)
theorem all_fold {q : Nat} (hq : q < 128) : ∀ (l : List Nat) (acc : Array Nat), (∀ c ∈ l, c < 1114112) → acc.all (· < 1114112) = true → (l.foldl (fun out c => out ++ (Builtin.Str.reprChar q c).toArray) acc).all (· < 1114112) = true
  | [], _, _, h => h
  | c :: r, acc, hl, h => by
    refine all_fold hq r _ (fun x hx => hl x (List.mem_cons_of_mem _ hx)) ?_
    rw [Array.all_append, h, Bool.true_and, List.all_toArray, List.all_eq_true]
    exact fun x hx => decide_eq_true (all_reprChar hq (hl c List.mem_cons_self) x hx)
theorem all_reprText {x : Str} (h : PyData.strOk x = true) : PyData.strOk (reprText x) = true := by
  have hq : reprQuote x < 128 := by unfold reprQuote; split <;> decide
  unfold PyData.strOk at h ⊢
  unfold reprText
  show Array.all (Array.push _ _) _ = true
  rw [← Array.foldl_toList]
  have h1 := all_fold hq x.cps.toList #[reprQuote x] (fun c hc => by
    rw [Array.all_eq_true_iff_forall_mem] at h
    exact of_decide_eq_true (h c (by simpa using hc))) (by simp; omega)
  rw [Array.all_push, h1]
  simp; omega
mutual
theorem all_shown : ∀ d : D, d.canLay0 = true → PyData.strOk d.shown = true
  | .none, _ => by decide +kernel
  | .bool b, _ => by cases b <;> decide +kernel
  | .int i, _ => by rw [PyData.shown]; exact all_ofString _
  | .str x, h => by rw [PyData.shown]; exact all_reprText h
  | .list xs, h => by
    rw [PyData.shown]
    unfold listText
    rw [all_app, all_from _ _ _ (by decide +kernel) (alls_shown xs h)]
    decide +kernel
  | .tuple xs, h => by
    rw [PyData.shown]
    unfold tupleText
    rw [all_app, all_app, all_join _ (alls_shown xs h)]
    split <;> decide +kernel
  | .dict _, h => by cases h
theorem alls_shown : ∀ ds : List D, PyData.canLayAll0 ds = true → ∀ t ∈ PyData.shownAll ds, PyData.strOk t = true
  | [], _, t, ht => by cases ht
  | d :: ds, h, t, ht => by
    rw [PyData.canLayAll0, Bool.and_eq_true] at h
    rw [PyData.shownAll] at ht
    rcases List.mem_cons.mp ht with rfl | ht
    · exact all_shown d h.1
    · exact alls_shown ds h.2 t ht
end
mutual
theorem nodict : ∀ (n : Nat) (d : D), dle n d = true → d.hasDict = false
  | _, .none, _ => rfl
  | _, .bool _, _ => rfl
  | _, .int _, _ => rfl
  | _, .str _, _ => rfl
  | 0, .list _, e => by cases e
  | 0, .tuple _, e => by cases e
  | n + 1, .list xs, e => by rw [PyData.hasDict]; exact nodicts n xs e
  | n + 1, .tuple xs, e => by rw [PyData.hasDict]; exact nodicts n xs e
  | 0, .dict _, e => by cases e
  | n + 1, .dict _, e => by cases e
theorem nodicts : ∀ (n : Nat) (ds : List D), dles n ds = true → PyData.hasDictAll ds = false
  | _, [], _ => rfl
  | n, d :: ds, e => by
    rw [dles, Bool.and_eq_true] at e
    rw [PyData.hasDictAll, nodict n d e.1, nodicts n ds e.2]; rfl
end
theorem call_reprX (hu : X.A.units + 65 < cLine) (hgd : X.A.guards = some []) : CallR X (.builtin "repr") (fun xs H Q => ∃ O b ds d, OkO O H ∧ RoBs X.K X.w O H b xs ds ∧ reprD ds = some d ∧ ∀ H' v, Same H H' → Ro X.K X.w O H' v d → Q v H') := by
  intro pins s σ H xs us Q I rx ⟨O, b, ds, d, hO, hx, e, q⟩
  unfold reprD at e
  split at e
  · rename_i y
    obtain ⟨c, e⟩ := cond_some e
    cases e
    rw [Bool.and_eq_true, Bool.and_eq_true, Bool.and_eq_true] at c
    obtain ⟨c1, c2, c3, c4⟩ := c
    cases hx with | @cons v0 _ _ _ h t =>
    cases t
    obtain ⟨hd, hc⟩ := h.dp 60 c1
    have qs : Q (.str y.shown) H := q H _ (Same.refl H) (.str _ (all_shown y hc))
    have hlen : y.shown.length ≤ sizeLine := by
      have := PyProof.Rows.shown_le13 c2 c3
      rw [sizeLine_eq]; omega
    obtain ⟨u, rfl⟩ : ∃ u, us = [u] := by cases rx with | cons r t => cases t; exact ⟨_, rfl⟩
    have ru : RelV v0 u := by cases rx with | cons r t => exact r
    have tok : ∀ t', Inv X pins σ H { s with toks := t' } := fun t' => I.kept (h' := s.heap) fun _ _ z => z
    cases y with
    | none => cases h.non; cases ru; exact PySem.P.repr_of_none ⟨.str _, H, tok _, ⟨_, rfl⟩, qs⟩
    | bool x =>
      cases h.bl
      cases ru
      refine PySem.P.repr_of_bool ⟨.str _, H, tok _, ⟨_, rfl⟩, ?_⟩
      cases x <;> exact qs
    | int i =>
      cases h.int
      obtain ⟨t, rfl⟩ := ru
      exact PySem.P.repr_of_int (of_decide_eq_true c4) ⟨.str _, H, tok _, ⟨_, rfl⟩, qs⟩
    | str x =>
      obtain ⟨rfl, _⟩ := h.str
      obtain ⟨t, rfl⟩ := ru
      exact PySem.P.repr_of_str ⟨.str _, H, tok _, ⟨_, rfl⟩, qs⟩ hlen
    | list x =>
      obtain ⟨a, vs, rfl, _, _⟩ := h.list
      cases ru
      obtain ⟨as, r⟩ := Dp.reads I _ _ _ hd rfl
      have hn := nodict 60 _ c1
      have hdp := dle_depth 60 _ c1
      exact repr_of_reads' r c4 (fun z => by rw [hn] at z; cases z) hgd (by omega) (fun _ _ z => z) (fun h' u tk k => ⟨.str _, H, I.kept k, ⟨_, rfl⟩, qs⟩) hlen
    | tuple x =>
      obtain ⟨a, vs, rfl, _, _⟩ := h.tup
      cases ru
      obtain ⟨as, r⟩ := Dp.reads I _ _ _ hd rfl
      have hn := nodict 60 _ c1
      have hdp := dle_depth 60 _ c1
      exact repr_of_reads' r c4 (fun z => by rw [hn] at z; cases z) hgd (by omega) (fun _ _ z => z) (fun h' u tk k => ⟨.str _, H, I.kept k, ⟨_, rfl⟩, qs⟩) hlen
    | dict x => cases c1
  · cases e
end
end EV

namespace EV
open PySem PySem.Spec PyProof.Rows L2
/-! ### sum of lists -/
inductive LsAt (h : Heap) : List Value → List (List Value) → Prop where
  | nil : LsAt h [] []
  | cons {a : Addr} {xs : List Value} {us : List Value} {ls : List (List Value)} : h.IsList a xs.toArray → LsAt h us ls → LsAt h (.ref a :: us) (xs :: ls)
theorem LsAt.len {h : Heap} {us : List Value} {ls : List (List Value)} (r : LsAt h us ls) : ls.length = us.length := by
  induction r with
  | nil => rfl
  | cons _ _ ih => simp [ih]
section
variable {prog : Program} {w : World} {A : Around} {R : Result → Shared → Prop} {l b : Addr} {its st : List Value} {ls : List (List Value)}
theorem drop_ls {h : Heap} {us : List Value} {ls : List (List Value)} (r : LsAt h us ls) : ∀ i, i < us.length → ∃ a xs, us[i]? = some (.ref a) ∧ h.IsList a xs.toArray ∧ ls.drop i = xs :: ls.drop (i + 1) := by
  induction r with
  | nil => intro i hi; exact absurd hi (Nat.not_lt_zero _)
  | @cons a xs us ls h1 t ih =>
    intro i hi
    cases i with
    | zero => exact ⟨a, xs, rfl, h1, rfl⟩
    | succ i =>
      obtain ⟨a', xs', e1, e2, e3⟩ := ih i (by simpa using hi)
      exact ⟨a', xs', by simpa using e1, e2, by simpa using e3⟩
/-- two lists, joined -/
theorem join2 {A : Around} {s : Shared} {Q : Value → Shared → Prop} {E : Value → Shared → Prop} {a c : Addr} {xs ys : List Value} (ha : s.heap.IsList a xs.toArray) (hc : s.heap.IsList c ys.toArray) (hz : xs.length + ys.length ≤ sizeLine)
    (h : Q (.ref s.heap.objs.size) { s with heap := s.heap.push { cls := .type "list", data := .seq (xs ++ ys).toArray } }) : wpAny (model prog w) A (binaryOp .Add (.ref a) (.ref c)) Q E s := by
  obtain ⟨⟨cls, dd, data, sl⟩, ho, hc1, n, hd⟩ := id ha
  obtain ⟨⟨cls2, dd2, data2, sl2⟩, ho2, hc2, n2, hd2⟩ := id hc
  simp only at hc1 hd hc2 hd2
  subst hc1 hd hc2 hd2
  have e : xs.toArray ++ ys.toArray = (xs ++ ys).toArray := by simp
  refine concat_meets ⟨_, ho, rfl⟩ ⟨_, ho2, rfl⟩ noFill_list_add seq_list_add PySem.F.slot_list_add PySem.F.entry_list_add (PySem.F.args_list_add_2 _ _) (list_addW a c xs.toArray ys.toArray n n2 dd dd2 sl sl2 (by simpa using hz)) ⟨ho, ho2, ?_⟩
  rw [e]
  exact h
theorem sum_lists_loop (hh : A.in1.handled = none) (I S : Addr) (hSI : S ≠ I) (k0 : Heap) (hS0 : k0.objs.size ≤ S) (hI0 : k0.objs.size ≤ I) (hne : its ≠ [])
    (hls : LsAt k0 its ls) (hll : k0.IsList l its.toArray) (sh : Shared) :
    ∀ (k i : Nat) (h : Heap) (tk : Tok) (c : Addr) (acc : List Value) (n : Nat), its.length - i = k → i ≤ its.length → (∀ b o, k0.get? b = some o → h.get? b = some o) → k0.objs.size ≤ h.objs.size →
      h.IsListIter I l i → h.get? S = some { cls := .type "list", dict := none, data := .seq #[.ref c] n } → c ≠ S → c ≠ I → h.IsList c acc.toArray → (i = 0 ∨ k0.objs.size ≤ c ∧ ∃ n', h.get? c = some { cls := .type "list", data := .seq acc.toArray n' }) →
      acc.length + (ls.drop i).flatten.length ≤ sizeLine →
      (∀ h' tk' r, (∀ b o, k0.get? b = some o → h'.get? b = some o) → k0.objs.size ≤ r → (∃ n', h'.get? r = some { cls := .type "list", data := .seq (acc ++ (ls.drop i).flatten).toArray n' }) → R (.ok (.ret (.ref r))) { sh with heap := h', toks := tk' }) →
      codeAny (model prog w) A (.builtin "sum.loop" ⟨[.ref I, .ref S, rawInt 2, rawInt 0], []⟩) R { sh with heap := h, toks := tk } := by
  have isl : ∀ h : Heap, (∀ b o, k0.get? b = some o → h.get? b = some o) → ∀ a xs, k0.IsList a xs → h.IsList a xs := fun h old a xs ⟨o, e, r⟩ => ⟨o, old _ _ e, r⟩
  have below : ∀ b o, k0.get? b = some o → b < k0.objs.size := fun b o e => Heap.lt_size e
  have nI : ∀ b o, k0.get? b = some o → b ≠ I := fun b o e z => Nat.not_lt.mpr hI0 (z ▸ below b o e)
  have nS : ∀ b o, k0.get? b = some o → b ≠ S := fun b o e z => Nat.not_lt.mpr hS0 (z ▸ below b o e)
  intro k
  induction k with
  | zero =>
    intro i h tk c acc n hk hi old hsize hit hS hcS hcI hc hlast hsz hR
    have hin : i = its.length := by omega
    subst hin
    refine codeAny_builtin PySem.F.entry_sum_loop ?_
    rw [Around.under_plainId PySem.F.plain_sum_loop _]
    show wpAny _ A.in1 (seqItems? (.ref S) >>= _) _ _ _
    refine wpAny_bind (wpAny_seqItems hS rfl ?_)
    show wpAny _ A.in1 (tryCatch (pyNext (.ref I)) _ >>= _) _ _ _
    refine wpAny_bind (wpAny_tryCatch (wpAny_pyNext_list_end hh hit (isl h old l _ hll) (by simp) fun h' he' => ?_))
    refine wpAny_pure (hR h' tk c (fun b o e => he' b o (nI b o e) (old b o e)) (hlast.resolve_left fun z => hne (List.length_eq_zero_iff.mp z)).1 ?_)
    have hd : (ls.drop its.length).flatten = [] := by
      rw [List.drop_of_length_le (by rw [hls.len]; exact Nat.le_refl _)]; rfl
    rw [hd, List.append_nil]
    obtain ⟨n', e⟩ := (hlast.resolve_left fun z => hne (List.length_eq_zero_iff.mp z)).2
    exact ⟨n', he' c _ hcI e⟩
  | succ k ih =>
    intro i h tk c acc n hk hi old hsize hit hS hcS hcI hc hlast hsz hR
    have hlt : i < its.length := by omega
    obtain ⟨a, xs, e1, e2, e3⟩ := drop_ls hls i hlt
    refine codeAny_builtin PySem.F.entry_sum_loop ?_
    rw [Around.under_plainId PySem.F.plain_sum_loop _]
    show wpAny _ A.in1 (seqItems? (.ref S) >>= _) _ _ _
    refine wpAny_bind (wpAny_seqItems hS rfl ?_)
    show wpAny _ A.in1 (tryCatch (pyNext (.ref I)) _ >>= _) _ _ _
    refine wpAny_bind (wpAny_tryCatch (wpAny_pyNext_list_item hit (isl h old l _ hll) (x := .ref a) (by simpa using e1) fun h' hit' sb => ?_))
    have old' : ∀ b o, k0.get? b = some o → h'.get? b = some o := fun b o e => by
      rw [sb.2 b (nI b o e)]; exact old b o e
    have hS' : h'.get? S = some { cls := .type "list", dict := none, data := .seq #[.ref c] n } := by rw [sb.2 S hSI]; exact hS
    have hc' : h'.IsList c acc.toArray := by obtain ⟨o, e, r⟩ := hc; exact ⟨o, (sb.2 c hcI).trans e, r⟩
    have hsize' : k0.objs.size ≤ h'.objs.size := Nat.le_trans hsize (Nat.le_of_eq sb.1.symm)
    have hIlt : I < h'.objs.size := by obtain ⟨o, e, _⟩ := hit'; exact Heap.lt_size e
    have hSlt : S < h'.objs.size := Heap.lt_size hS'
    have hz : acc.length + xs.length ≤ sizeLine := by
      rw [e3, List.flatten_cons, List.length_append] at hsz; omega
    show wpAny _ A.in1 ((holding [Value.ref a] (binaryOp .Add (.ref c) (.ref a))).attempt >>= _) _ _ _
    refine wpAny_bind (wpAny_attempt (wpAny_holding (join2 hc' (isl h' old' a _ e2) hz ?_)))
    have keep1 : ∀ b o, h'.get? b = some o → (h'.push { cls := .type "list", data := .seq (acc ++ xs).toArray }).get? b = some o := fun b o e => Heap.get?_push_of_some _ e
    show wpAny _ A.in1 (updateSeq S (fun _ => #[Value.ref h'.objs.size]) >>= _) _ _ _
    refine wpAny_bind (wpAny_updateSeq (keep1 _ _ hS') rfl ?_)
    refine wpAny_bind (wpAny_letGo ?_)
    show wpAny _ A.in1 (updateSeq S (fun _ => #[Value.ref h'.objs.size]) >>= _) _ _ _
    have hS2 := Heap.get?_update_self (Obj.mapSeq fun _ => #[Value.ref h'.objs.size]) (keep1 _ _ hS') rfl
    refine wpAny_bind (wpAny_updateSeq hS2 rfl (wpAny_pure ⟨plainId_quiet PySem.F.plain_sum_loop _, ?_⟩))
    have oth : ∀ b o, b ≠ S → h'.get? b = some o → (((h'.push { cls := .type "list", data := .seq (acc ++ xs).toArray }).update S (Obj.mapSeq fun _ => #[Value.ref h'.objs.size])).update S (Obj.mapSeq fun _ => #[Value.ref h'.objs.size])).get? b = some o := fun b o n e =>
      (Heap.get?_update_other _ _ (fun z => n z.symm)).trans ((Heap.get?_update_other _ _ (fun z => n z.symm)).trans (keep1 b o e))
    refine ih (i + 1) _ _ h'.objs.size (acc ++ xs) _ (by omega) hlt (fun b o e => oth b o (nS b o e) (old' b o e)) ?_ ?_ (Heap.get?_update_self _ hS2 rfl) (Nat.ne_of_gt hSlt) (Nat.ne_of_gt hIlt) ?_ (.inr ⟨hsize', _, (Heap.get?_update_other _ _ (Nat.ne_of_lt hSlt)).trans ((Heap.get?_update_other _ _ (Nat.ne_of_lt hSlt)).trans (Heap.get?_push_size _ rfl))⟩) ?_ ?_
    · rw [Heap.size_update, Heap.size_update, Heap.size_push]; exact Nat.le_trans hsize' (Nat.le_succ _)
    · obtain ⟨o, e, r⟩ := hit'; exact ⟨o, oth I o (fun z => hSI z.symm) e, r⟩
    · exact ⟨_, (Heap.get?_update_other _ _ (Nat.ne_of_lt hSlt)).trans ((Heap.get?_update_other _ _ (Nat.ne_of_lt hSlt)).trans (Heap.get?_push_size _ rfl)), rfl, _, rfl⟩
    · rw [e3, List.flatten_cons, List.length_append] at hsz; rw [List.length_append]; omega
    · intro h2 tk' r o2 hr hl2
      refine hR h2 tk' r o2 hr ?_
      rw [e3, List.flatten_cons, ← List.append_assoc]; exact hl2
end
theorem args_sum2 (a b : Value) : argsOk "sum" ⟨[a, b], []⟩ := by unfold argsOk; kernel_rfl
section
variable {prog : Program} {w : World} {A : Around} {E : Value → Shared → Prop} {s : Shared} {l b : Addr} {its st : List Value} {ls : List (List Value)}
theorem sum_lists_raw {Q : Value → Shared → Prop} (hh : A.handled = none) (hl : s.heap.IsList l its.toArray) (hb : s.heap.IsList b st.toArray) (hls : LsAt s.heap its ls) (hne : its ≠ []) (hz : st.length + ls.flatten.length ≤ sizeLine)
    (h : ∀ h' tk r, (∀ b o, s.heap.get? b = some o → h'.get? b = some o) → s.heap.objs.size ≤ r → (∃ n', h'.get? r = some { cls := .type "list", data := .seq (st ++ ls.flatten).toArray n' }) → Q (.ref r) { s with heap := h', toks := tk }) :
    wpAny (model prog w) A (call (.builtin "sum") [.ref l, .ref b]) Q E s := by
  refine call_function_tree PySem.F.kind_sum PySem.F.plain_sum PySem.F.entry_sum (args_sum2 _ _) ?_
  have hlt : l < s.heap.objs.size := by obtain ⟨_, e, _⟩ := hl; exact Heap.lt_size e
  have hbt : b < s.heap.objs.size := by obtain ⟨_, e, _⟩ := hb; exact Heap.lt_size e
  unfold Builtin.«sum»
  simp only [List.length_cons, List.length_nil]
  rw [if_neg (by decide)]
  refine wpAny_bind (wpAny_of_eq (show Builtin.Builtins.bindParams "sum" ["start"] 0 ⟨[.ref b], []⟩ = pure [some (.ref b)] from rfl) ?_)
  refine wpAny_bind (wpAny_pyIter_list hl ?_)
  have hbI : (s.heap.push { cls := .type "list_iterator", data := .fields #[.ref l, .int 0 0] }).IsList b st.toArray := hb.push _
  have hT : Shared.TypeIs { s with heap := s.heap.push { cls := .type "list_iterator", data := .fields #[.ref l, .int 0 0] } } (.ref b) "list" := by obtain ⟨o, e, r, _⟩ := hbI; exact ⟨o, e, r⟩
  refine wpAny_bind (wpAny_pure ?_)
  simp only [List.forIn_cons, List.forIn_nil]
  refine wpAny_bind (wpAny_bind (wpAny_bind (wpAny_isInstance (T := "list") (b := false) hT PySem.F.sub_list_str ?_)))
  simp only [Bool.false_eq_true, if_false]
  refine wpAny_pure (wpAny_bind (wpAny_bind (wpAny_isInstance (T := "list") (b := false) hT PySem.F.sub_list_bytes ?_)))
  simp only [Bool.false_eq_true, if_false]
  refine wpAny_pure (wpAny_bind (wpAny_bind (wpAny_isInstance (T := "list") (b := false) hT (by rw [isSubtype_type]; kernel_rfl) ?_)))
  simp only [Bool.false_eq_true, if_false]
  refine wpAny_pure (wpAny_pure ?_)
  refine wpAny_bind (wpAny_newObj_type ?_)
  have keep : ∀ c o, s.heap.get? c = some o → (((s.heap.push { cls := .type "list_iterator", data := .fields #[.ref l, .int 0 0] }).push { cls := .type "list", data := .seq #[.ref b] }).get? c = some o) := fun c o e => Heap.get?_push_of_some _ (Heap.get?_push_of_some _ e)
  have hsz : (s.heap.push { cls := .type "list_iterator", data := .fields #[.ref l, .int 0 0] }).objs.size = s.heap.objs.size + 1 := Heap.size_push _ _
  refine wpAny_pure ⟨plainId_quiet PySem.F.plain_sum_loop _, sum_lists_loop (A := A) (by simpa using hh) s.heap.objs.size _ (by rw [hsz]; exact Nat.succ_ne_self _) s.heap (by rw [hsz]; exact Nat.le_succ _) (Nat.le_refl _) hne hls hl s its.length 0 _ _ b st _ rfl (Nat.zero_le _) keep ?_ ?_ (Heap.get?_push_size _ rfl) ?_ (Nat.ne_of_lt hbt) ?_ (.inl rfl) hz fun h' tk r o hr e => ?_⟩
  · rw [Heap.size_push, hsz]; exact Nat.le_trans (Nat.le_succ _) (Nat.le_succ _)
  · exact ⟨_, Heap.get?_push_of_some _ (Heap.get?_push_size _ rfl), rfl, rfl⟩
  · rw [hsz]; exact Nat.ne_of_lt (Nat.lt_succ_of_lt hbt)
  · obtain ⟨o, e, r⟩ := hb; exact ⟨o, keep _ _ e, r⟩
  · exact h h' tk r o hr e
end

/-! ### the call -/
inductive LsV (K : PySem.W.Frag) (H : Hp) : List V → List (List V) → Prop where
  | nil : LsV K H [] []
  | cons {a : Addr} {w : List V} {xs : List V} {ws : List (List V)} : SqL K H a w → LsV K H xs ws → LsV K H (.ref a :: xs) (w :: ws)
section
variable {X : Cx}
theorem ls_at {pins : List (Addr × Obj)} {σ : L2.St} {H : Hp} {s : Shared} (I : Inv X pins σ H s) : ∀ {xs : List V} {ws : List (List V)} {us : List Value}, LsV X.K H xs ws → Vals xs us → ∃ ls, LsAt s.heap us ls ∧ Vals ws.flatten ls.flatten
  | _, _, _, .nil, .nil => ⟨[], .nil, .nil⟩
  | _, _, _, .cons h t, .cons r rr => by
    obtain ⟨ls, h1, h2⟩ := ls_at I t rr
    obtain ⟨its, rv, hl, _⟩ := I.list h
    cases r
    exact ⟨its :: ls, .cons hl.isList h1, Vals.append rv h2⟩
def rSumL (K : PySem.W.Frag) : List V → Hp → VK → Prop := fun vs H Q => ∃ (a b : Addr) (xs ys : List V) (ws : List (List V)), vs = [V.ref a, V.ref b] ∧ SqL K H a xs ∧ SqL K H b ys ∧ LsV K H xs ws ∧ xs ≠ [] ∧
  ys.length + ws.flatten.length ≤ sizeLine ∧ ∀ p, H p = none → Q (.ref p) (upd H p (.lst (ys ++ ws.flatten)))
theorem cr_sumL (hc : X.calm = true) : CallR X (.builtin "sum") (rSumL X.K) := by
  intro pins s σ H vs us Q I r h
  obtain ⟨a, b, xs, ys, ws, rfl, hx, hy, hw, hne, hz, q⟩ := h
  obtain ⟨its, rv, hl, _⟩ := I.list hx
  obtain ⟨its2, rv2, hl2, _⟩ := I.list hy
  obtain ⟨ls, h1, h2⟩ := ls_at I hw rv
  have eu : us = [Value.ref a, Value.ref b] := by
    cases r with | cons r rr => cases r; cases rr with | cons r rr => cases r; cases rr; rfl
  rw [eu]
  have e1 := rv2.length
  have e2 := h2.length
  refine sum_lists_raw (I.ok.hd hc) hl.isList hl2.isList h1 (fun z => hne ?_) (by rw [← e1, ← e2]; exact hz) fun h' tk rr o hr ⟨n', e⟩ => ?_
  · have := rv.length; rw [z] at this; exact List.length_eq_zero_iff.mp this
  · exact ⟨.ref rr, upd H rr (.lst (ys ++ ws.flatten)), I.laid o hr ⟨by rw [List.length_append]; exact hz, _, _, Vals.append rv2 h2, e⟩, rfl, q rr (I.hok.fresh hr)⟩
end
end EV

namespace EV
open PySem PySem.Spec PyProof.Rows L2
section
variable {X : Cx} {b : Bool} {e e1 e2 e3 : Expr} {es : List Expr} {pos p : Pos} {f f1 f2 f3 : List Sl → Option D} {fs : List Sl → Option (List D)}
def isStar : Expr → Bool
  | .Starred _ _ => true
  | _ => false
theorem star_no (h : isStar e = false) : ∀ e' p, e ≠ .Starred e' p := fun e' p z => by subst z; cases h
theorem stars_no {env : Env} : ∀ {es : List Expr}, (∀ e ∈ es, isStar e = false) → (backTo pos (starEach es env)).any (·.1) = false
  | [], _ => rfl
  | e :: es, h => by
    rw [starEach_cons (star_no (h e List.mem_cons_self))]
    show (false || (backTo pos (starEach es env)).any (·.1)) = false
    rw [stars_no fun e he => h e (List.mem_cons_of_mem _ he)]; rfl
theorem bFindIn_ok {f : Str} {bi : BI} : ∀ {l : List BI}, bFindIn f l = some bi → f = bName bi
  | [], h => by cases h
  | b :: r, h => by
    unfold bFindIn at h
    by_cases e : bName b = f
    · rw [decide_eq_true e] at h; cases h; exact e.symm
    · rw [decide_eq_false e] at h; exact bFindIn_ok h
theorem tFindIn_ok {f : Str} {t : Ty} : ∀ {l : List Ty}, tFindIn f l = some t → f = tName t
  | [], h => by cases h
  | b :: r, h => by
    unfold tFindIn at h
    by_cases e : tName b = f
    · rw [decide_eq_true e] at h; cases h; exact e.symm
    · rw [decide_eq_false e] at h; exact tFindIn_ok h
/-! ### built-ins -/
def rB (K : PySem.W.Frag) (w : World) (g : List D → Option D) : List V → Hp → VK → Prop := fun vs H Q => ∃ O b ds d, OkO O H ∧ RoBs K w O H b vs ds ∧ g ds = some d ∧ ∀ H' v, Same H H' → Ro K w O H' v d → Q v H'
def bVal : BI → Value
  | .len => .builtin "len" | .abs => .builtin "abs" | .int => .type "int" | .min => .builtin "min" | .max => .builtin "max" | .all => .builtin "all" | .any => .builtin "any" | .sum => .builtin "sum" | .tuple => .type "tuple" | .repr => .builtin "repr" | .sorted => .builtin "sorted"
theorem bls_of {K : PySem.W.Frag} {w : World} {O : Addr → Prop} {H : Hp} : ∀ {vs : List V} {ds : List D} {bs : List Bool}, RoAll K w O H vs ds → boolsD ds = some bs → vs = bs.map V.bl
  | _, _, _, .nil, e => by cases e; rfl
  | _, _, _, .cons h t, e => by
    unfold boolsD mapO at e
    obtain ⟨x, e1, e⟩ := bind_some e
    obtain ⟨xs, e2, e⟩ := bind_some e
    cases e
    split at e1
    · cases e1
      have : RoB K w O H false _ _ := .inl h
      rw [this.bl, bls_of t e2]; rfl
    · cases e1
theorem kints_of {K : PySem.W.Frag} {w : World} {O : Addr → Prop} {H : Hp} : ∀ {vs : List V} {ds : List D} {bs : List Int}, RoAll K w O H vs ds → intsD ds = some bs → vs = bs.map V.int
  | _, _, _, .nil, e => by cases e; rfl
  | _, _, _, .cons h t, e => by
    unfold intsD mapO at e
    obtain ⟨x, e1, e⟩ := bind_some e
    obtain ⟨xs, e2, e⟩ := bind_some e
    cases e
    split at e1
    · cases e1
      have : RoB K w O H false _ _ := .inl h
      rw [this.int, kints_of t e2]; rfl
    · cases e1
theorem lsV_of {K : PySem.W.Frag} {w : World} {O : Addr → Prop} {H : Hp} : ∀ {vs : List V} {ds : List D} {ls : List (List D)}, RoAll K w O H vs ds → listsD ds = some ls → ∃ ws, LsV K H vs ws ∧ RoAll K w O H ws.flatten ls.flatten
  | _, _, _, .nil, e => by cases e; exact ⟨[], .nil, .nil⟩
  | _, _, _, .cons h t, e => by
    unfold listsD mapO at e
    obtain ⟨x, e1, e⟩ := bind_some e
    obtain ⟨xs, e2, e⟩ := bind_some e
    cases e
    split at e1
    · cases e1
      obtain ⟨ws, h1, h2⟩ := lsV_of t e2
      obtain ⟨a, vs, rfl, h3, h4⟩ := (show RoB K w O H false _ _ from .inl h).list
      exact ⟨vs :: ws, .cons h3 h1, h4.app h2⟩
    · cases e1
theorem call_D (hc : X.calm = true) (hu : X.A.units + 65 < cLine) (hgd : X.A.guards = some []) (bi : BI) : CallR X (bVal bi) (rB X.K X.w (bD bi)) := by
  intro pins s σ H xs us Q I rx ⟨O, b, ds, d, hO, hx, e, q⟩
  unfold bD at e
  split at e
  · cases hx with | cons h t => cases t; cases e; obtain ⟨a, vs, rfl, h1, h2⟩ := h.list; exact call_len_seq pins s σ H _ us Q I rx ⟨a, vs, rfl, .inl h1, by rw [h2.length]; exact q H _ (Same.refl H) (.int _)⟩
  · cases hx with | cons h t => cases t; cases e; obtain ⟨a, vs, rfl, h1, h2⟩ := h.tup; exact call_len_seq pins s σ H _ us Q I rx ⟨a, vs, rfl, .inr h1, by rw [h2.length]; exact q H _ (Same.refl H) (.int _)⟩
  · cases hx with | cons h t => cases t; cases e; cases h.int; refine call_abs pins s σ H _ us Q I rx ⟨_, rfl, q H _ (Same.refl H) ?_⟩; (split <;> rename_i hi <;> simp [hi] <;> exact .int _)
  · cases hx with | cons h t => cases t; cases e; cases h.int; exact call_int1 pins s σ H _ us Q I rx (.inl ⟨_, rfl, q H _ (Same.refl H) (.int _)⟩)
  · cases hx with | cons h t => cases t; cases e; cases h.bl; refine call_int1 pins s σ H _ us Q I rx (.inr ⟨_, rfl, q H _ (Same.refl H) ?_⟩); (split <;> rename_i hi <;> simp [hi] <;> exact .int _)
  · cases hx with | cons h t => cases t with | cons h' t => cases t; cases e; cases h.int; cases h'.int; refine call_min2 hc pins s σ H _ us Q I rx ⟨_, _, rfl, q H _ (Same.refl H) ?_⟩; (split <;> rename_i hi <;> simp [hi] <;> exact .int _)
  · cases hx with | cons h t => cases t with | cons h' t => cases t; cases e; cases h.int; cases h'.int; refine call_max2 hc pins s σ H _ us Q I rx ⟨_, _, rfl, q H _ (Same.refl H) ?_⟩; (split <;> rename_i hi <;> simp [hi] <;> exact .int _)
  · cases hx with | cons h t =>
      cases t
      obtain ⟨bs, e1, e⟩ := Option.map_eq_some_iff.mp e
      subst e
      obtain ⟨a, vs, rfl, h1, h2⟩ := h.list
      exact cr_all hc pins s σ H _ us Q I rx ⟨a, bs, rfl, by rw [← bls_of h2 e1]; exact h1, q H _ (Same.refl H) (.bl _)⟩
  · cases hx with | cons h t =>
      cases t
      obtain ⟨bs, e1, e⟩ := Option.map_eq_some_iff.mp e
      subst e
      obtain ⟨a, vs, rfl, h1, h2⟩ := h.list
      exact cr_any hc pins s σ H _ us Q I rx ⟨a, bs, rfl, by rw [← bls_of h2 e1]; exact h1, q H _ (Same.refl H) (.bl _)⟩
  · cases hx with | cons h t =>
      cases t
      obtain ⟨bs, e1, e⟩ := Option.map_eq_some_iff.mp e
      subst e
      obtain ⟨a, vs, rfl, h1, h2⟩ := h.list
      exact cr_sum hc pins s σ H _ us Q I rx ⟨a, bs, rfl, by rw [← kints_of h2 e1]; exact h1, q H _ (Same.refl H) (.int _)⟩
  · cases hx with | cons h t => cases t with | cons h' t =>
      cases t
      obtain ⟨ls, e1, e⟩ := bind_some e
      obtain ⟨c, e⟩ := cond_some e
      cases e
      obtain ⟨a, vs, rfl, h1, h2⟩ := h.list
      obtain ⟨a', vs', rfl, h1', h2'⟩ := h'.list
      obtain ⟨ws, h3, h4⟩ := lsV_of h2 e1
      have hf := few_line
      have c := of_decide_eq_true c
      refine cr_sumL hc pins s σ H _ us Q I rx ⟨a, a', vs, vs', ws, rfl, h1, h1', h3, ?_, ?_, fun p hp => q _ _ (same_upd hp) (Ro.newL hO hp (h2'.app h4))⟩
      · intro z; rw [z] at h2; cases h2
      · rw [h4.length, h2'.length]; omega
  · cases hx with | cons h t => cases t; cases e; obtain ⟨a, vs, rfl, h1, h2⟩ := h.list; exact call_tuple_of pins s σ H _ us Q I rx ⟨a, vs, rfl, .inl ⟨h1, fun l hl => q _ _ (same_upd hl) (Ro.newT hl h2)⟩⟩
  · cases hx with | cons h t => cases t; cases e; obtain ⟨a, vs, rfl, h1, h2⟩ := h.tup; exact call_tuple_of pins s σ H _ us Q I rx ⟨a, vs, rfl, .inr ⟨h1, q _ _ (Same.refl H) (.tup h1 h2)⟩⟩
  · exact call_reprX hu hgd pins s σ H _ us Q I rx ⟨O, b, _, d, hO, hx, e, q⟩
  · exact call_sortedX hu pins s σ H _ us Q I rx ⟨O, b, _, d, hO, hx, e, q⟩
  · cases e
theorem bBoot (bi : BI) : bootBuiltins (bName bi) = some (bVal bi) := by cases bi <;> decide +kernel
theorem bBad (bi : BI) : bName bi ≠ "__name__" ∧ (bName bi == ("__debug__" : Str)) = false := by cases bi <;> decide +kernel
theorem se_builtin {bi : BI} (hc : X.calm = true) (hu : X.A.units + 65 < cLine) (hgd : X.A.guards = some []) (hg : Gl X (bName bi)) (hm : X.mg (bName bi) = none) (he : isStar e = false) (hes : ∀ e ∈ es, isStar e = false) (ha : SA X true (e :: es) fs) :
    SE X b (.Call (.Name (bName bi) p) (e :: es) [] pos) fun σ => (fs σ).bind (bD bi) := by
  have key : ∀ {t : TE}, PE X (.Call (.Name (bName bi) p) (e :: es) [] pos) t → t = tCB (rB X.K X.w (bD bi)) (tA X.K X.w true fs) → SE X b (.Call (.Name (bName bi) p) (e :: es) [] pos) fun σ => (fs σ).bind (bD bi) := fun {t} h et => by
    subst et
    refine h.imp fun σ H Q ⟨O, Ow, es, d, hO, F, e, q⟩ => ?_
    obtain ⟨ds, e1, e⟩ := bind_some e
    exact ⟨O, Ow, es, ds, hO, F, e1, fun H1 vs s1 r1 => ⟨O, true, ds, d, hO.same s1, r1, e, fun H2 v s2 r2 => q H2 v (s1.trans s2) (.inl r2)⟩⟩
  have hb := bBoot bi
  have hd := call_D hc hu hgd bi
  obtain ⟨n1, n2⟩ := bBad bi
  cases h : bVal bi with
  | builtin id => rw [h] at hb hd; exact key (pe_callB hd hg hm hb ha n1 n2 (starEach_cons (star_no he) _) (stars_no hes)) rfl
  | type T => rw [h] at hb hd; exact key (pe_callTy hd hg hm hb ha n1 n2 (starEach_cons (star_no he) _) (stars_no hes)) rfl
  | _ => cases bi <;> cases h
/-! ### isinstance -/
def tyOfD : D → Option String
  | .none => some "NoneType"
  | .bool _ => some "bool"
  | .int _ => some "int"
  | .str _ => some "str"
  | .list _ => some "list"
  | .tuple _ => some "tuple"
  | .dict _ => none
theorem isTy_kit {t : Ty} {d : D} {k : Bool} {a : String} (h : isTy t d = some k) (ha : tyOfD d = some a) : kitB a (tString t) = some k := by
  cases d <;> cases ha <;> cases h <;> cases t <;> decide +kernel
theorem tBoot (t : Ty) : bootBuiltins (tName t) = some (.type (tString t)) := by cases t <;> decide +kernel
theorem tBad (t : Ty) : tName t ≠ "__name__" ∧ (tName t == ("__debug__" : Str)) = false := by cases t <;> decide +kernel
theorem RoB.tyx {K : PySem.W.Frag} {w : World} {O : Addr → Prop} {H : Hp} {v : V} {d : D} {a : String} (h : RoB K w O H b v d) (ha : tyOfD d = some a) : TyX K H v (.type a) := by
  cases d with
  | none => cases ha; cases h.non; exact .base .non
  | bool x => cases ha; cases h.bl; exact .base (.bl _)
  | int x => cases ha; cases h.int; exact .base (.int _)
  | str x => cases ha; obtain ⟨rfl, _⟩ := h.str; exact .base (.str _)
  | list x =>
    cases ha
    obtain ⟨a, vs, rfl, h1, h2⟩ := h.list
    rcases h1 with (h1 | ⟨o, h1⟩) | ⟨o, its, n, h1, h2, _⟩
    · exact .base (.lst h1)
    · exact .base (.frz h1)
    · exact .kList h1 h2
  | tuple x =>
    cases ha
    obtain ⟨a, vs, rfl, h1, h2⟩ := h.tup
    rcases h1 with (h1 | ⟨o, h1⟩) | ⟨o, its, n, h1, h2, _⟩
    · exact .base (.tup h1)
    · exact .fTuple h1
    · exact .kTuple h1 h2
  | dict x => cases ha
theorem se_isi {t : Ty} {x : Str} {p2 : Pos} (hx : x = "isinstance") (hg : Gl X x) (hm : X.mg x = none) (hgt : Gl X (tName t)) (hmt : X.mg (tName t) = none) (he : isStar e = false) (h : SE X true e f) :
    SE X b (.Call (.Name x p) [e, .Name (tName t) p2] [] pos) fun σ => (f σ).bind fun d => (isTy t d).map .bool := by
  subst hx
  have ht : PE X (.Name (tName t) p2) (tC (.ty (tString t))) := pe_bltn hgt hmt (tBoot t) rfl (tBad t).1 (tBad t).2
  refine (pe_callB call_isi hg hm (by decide +kernel) (pa_cons h (pa_cons ht pa_nil) (starEach_cons (star_no he) _)) (by decide +kernel) (by decide +kernel) (starEach_cons (star_no he) _)).imp fun σ H Q ⟨O, Ow, es, d, hO, F, e, q⟩ => ?_
  obtain ⟨x, e1, e⟩ := bind_some e
  obtain ⟨k, e2, e⟩ := Option.map_eq_some_iff.mp e
  subst e
  have hx : ∃ a, tyOfD x = some a := by cases x <;> first | exact ⟨_, rfl⟩ | cases e2
  obtain ⟨a, ha⟩ := hx
  refine ⟨O, Ow, es, x, hO, F, e1, fun H1 v s1 r1 => ?_⟩
  exact ⟨v, .ty (tString t), .type a, .type (tString t), k, rfl, .ty _, r1.tyx ha, kit_ty (isTy_kit e2 ha), q H1 _ s1 (.inl (.bl k))⟩
/-! ### calls of the text's defs -/
def spD (K : PySem.W.Frag) (w : World) (g : List D → Option D) : Sp := fun vs H Q _ => ∃ O ds d, OkO O H ∧ RoAll K w O H vs ds ∧ g ds = some d ∧ ∀ H' v, Same H H' → Ro K w O H' v d → Q v H'
structure CallOk (X : Cx) (k : Nat) (f : Str) (g : List D → Option D) : Prop where
  ex : ∃ fa fd ps, FnG X.prog X.w X.K X.mg X.base k fa fd ps (spD X.K X.w g) ∧ X.mg f = some (.ref fa) ∧ PySem.W.keepIn X.K (.ref fa) = true ∧ Binds X.K fd ps []
theorem se_call {k : Nat} {x : Str} {g : List D → Option D} (c : CallOk X k x g) (hr : Room k X.A) (hgd : X.A.guards = some []) (hg : Gl X x) (hd : (x == ("__debug__" : Str)) = false) (he : isStar e = false) (hes : ∀ e ∈ es, isStar e = false) (ha : SA X false (e :: es) fs) :
    SE X b (.Call (.Name x p) (e :: es) [] pos) fun σ => (fs σ).bind g := by
  obtain ⟨fa, fd, ps, F, hm, hk, hb⟩ := c.ex
  refine (pe_callG F hr hgd hg hm hk hb ha hd (starEach_cons (star_no he) _) (stars_no hes)).imp fun σ H Q ⟨O, Ow, es, d, hO, F, e, q⟩ => ?_
  obtain ⟨ds, e1, e⟩ := bind_some e
  exact ⟨O, Ow, es, ds, hO, F, e1, fun H1 vs s1 r1 => ⟨O, ds, d, hO.same s1, by rw [List.append_nil]; exact r1.all, e, fun H2 v s2 r2 => q H2 v (s1.trans s2) (.inl r2)⟩⟩
end
end EV

namespace EV
open PySem PySem.Spec PyProof.Rows L2

/-! ### what is walked -/
/-- an iterator over data, as long as the lists that are not in Z stay -/
structure Yld (K : PySem.W.Frag) (w : World) (O Z : Addr → Prop) (J : It) (H1 : Hp) (ds : List D) : Prop where
  go : ∀ (H2 : Hp) (i : Nat) (d : D), Keeps Z H1 H2 → ds[i]? = some d → J.go i H2 ∧ ∀ x H', J.yld i H2 x H' → Same H2 H' ∧ ∀ O' : Addr → Prop, (∀ a, O' a → O a ∨ H1 a = none) → Keeps O H1 H2 → Ro K w O' H' x d
  stop : ∀ H2 : Hp, Keeps Z H1 H2 → J.stop ds.length H2
def tI (K : PySem.W.Frag) (w : World) (b : Bool) (f : List Sl → Option (List D)) : TI := fun σ H R => ∃ O Ow es ds, OkO O H ∧ Fr K w O Ow es σ H ∧ f es = some ds ∧ ∀ J H1, Same H H1 → Yld K w O (fun a => b = false ∧ O a) J H1 ds → R J H1
abbrev SI (X : Cx) (b : Bool) (tg e : Expr) (f : List Sl → Option (List D)) : Prop := PI X tg e (tI X.K X.w b f)
section
variable {K : PySem.W.Frag} {w : World} {O Z : Addr → Prop} {H1 : Hp}
theorem yld_list {a : Addr} {vs : List V} {ds : List D} (h : Rd H1 a (.lst vs) ∧ ¬ Z a ∨ KL K a vs) (r : RoAll K w O H1 vs ds) : Yld K w O Z (Itl K a) H1 ds := by
  have at2 : ∀ H2, Keeps Z H1 H2 → SqL K H2 a vs := fun H2 k => by
    rcases h with ⟨h | ⟨o, h⟩, hz⟩ | h
    · exact .inl (.inl (k.l _ _ h hz))
    · exact .inl (.inr ⟨o, k.f _ _ _ h⟩)
    · exact .inr h
  refine ⟨fun H2 i d k e => ?_, fun H2 k => ⟨vs, at2 H2 k, by rw [r.length]; exact Nat.le_refl _⟩⟩
  obtain ⟨v, e1, e2⟩ := r.get e
  refine ⟨⟨vs, v, at2 H2 k, e1⟩, fun x H' ⟨h1, h2⟩ => ?_⟩
  subst h1
  refine ⟨Same.refl _, fun O' hO kk => ?_⟩
  have := h2 vs (at2 H' k)
  rw [e1] at this
  rw [← Option.some.inj this]
  exact e2.keeps kk hO
theorem yld_tup {a : Addr} {vs : List V} {ds : List D} (h : SqT K H1 a vs) (r : RoAll K w O H1 vs ds) : Yld K w O Z (Itt K a) H1 ds := by
  have at2 : ∀ H2, Keeps Z H1 H2 → SqT K H2 a vs := fun H2 k => by
    rcases h with (h | ⟨o, h⟩) | h
    · exact .inl (.inl (k.t _ _ h))
    · exact .inl (.inr ⟨o, k.f _ _ _ h⟩)
    · exact .inr h
  refine ⟨fun H2 i d k e => ?_, fun H2 k => ⟨vs, at2 H2 k, by rw [r.length]; exact Nat.le_refl _⟩⟩
  obtain ⟨v, e1, e2⟩ := r.get e
  refine ⟨⟨vs, v, at2 H2 k, e1⟩, fun x H' ⟨h1, h2⟩ => ?_⟩
  subst h1
  refine ⟨Same.refl _, fun O' hO kk => ?_⟩
  have := h2 vs (at2 H' k)
  rw [e1] at this
  rw [← Option.some.inj this]
  exact e2.keeps kk hO
theorem intRange_length : ∀ (n : Nat) (lo : Int), (intRange lo n).length = n
  | 0, _ => rfl
  | n + 1, lo => by rw [intRange, List.length_cons, intRange_length n]
theorem intRange_get : ∀ (n : Nat) (lo : Int) (i : Nat) (d : D), (intRange lo n)[i]? = some d → i < n ∧ d = .int (lo + i)
  | 0, _, _, _, e => by simp [intRange] at e
  | n + 1, lo, 0, d, e => by
    simp [intRange] at e
    exact ⟨Nat.succ_pos _, by rw [← e]; simp⟩
  | n + 1, lo, i + 1, d, e => by
    simp only [intRange, List.getElem?_cons_succ] at e
    obtain ⟨h1, h2⟩ := intRange_get n (lo + 1) i d e
    refine ⟨Nat.succ_lt_succ h1, ?_⟩
    rw [h2]
    have : lo + 1 + (i : Int) = lo + ((i + 1 : Nat) : Int) := by omega
    rw [this]
theorem yld_range {lo : Int} {n : Nat} : Yld K w O Z (Itr lo n) H1 (intRange lo n) := by
  refine ⟨fun H2 i d k e => ?_, fun H2 k => by rw [intRange_length]; exact Nat.le_refl _⟩
  obtain ⟨h1, h2⟩ := intRange_get n lo i d e
  refine ⟨h1, fun x H' ⟨e1, e2⟩ => ?_⟩
  subst e1 e2 h2
  exact ⟨Same.refl _, fun _ _ _ => .int _⟩
theorem zip_get : ∀ (xs ys : List D) (i : Nat) (d : D), (zipT xs ys)[i]? = some d → ∃ x y, xs[i]? = some x ∧ ys[i]? = some y ∧ d = .tuple [x, y]
  | [], _, i, d, e => by simp [zipT] at e
  | x :: xs, [], i, d, e => by simp [zipT] at e
  | x :: xs, y :: ys, 0, d, e => by simp [zipT] at e; exact ⟨x, y, rfl, rfl, e.symm⟩
  | x :: xs, y :: ys, i + 1, d, e => by
    obtain ⟨a, b, h1, h2, h3⟩ := zip_get xs ys i d (by simpa [zipT] using e)
    exact ⟨a, b, by simpa using h1, by simpa using h2, h3⟩
theorem zip_len : ∀ (xs ys : List D), xs.length ≤ (zipT xs ys).length ∨ ys.length ≤ (zipT xs ys).length
  | [], _ => .inl (Nat.zero_le _)
  | x :: xs, [] => .inr (Nat.zero_le _)
  | x :: xs, y :: ys => by
    rcases zip_len xs ys with h | h
    · exact .inl (by simp [zipT]; exact h)
    · exact .inr (by simp [zipT]; exact h)
theorem yld_zipT {a b : Addr} {vs ws : List V} {ds es : List D} (ha : SqT K H1 a vs) (hb : SqT K H1 b ws) (ra : RoAll K w O H1 vs ds) (rb : RoAll K w O H1 ws es) : Yld K w O Z (RZ.ItzT K a b) H1 (zipT ds es) := by
  have at2 : ∀ {a : Addr} {vs : List V}, SqT K H1 a vs → ∀ H2, Keeps Z H1 H2 → SqT K H2 a vs := fun h H2 k => by
    rcases h with (h | ⟨o, h⟩) | h
    · exact .inl (.inl (k.t _ _ h))
    · exact .inl (.inr ⟨o, k.f _ _ _ h⟩)
    · exact .inr h
  refine ⟨fun H2 i d k e => ?_, fun H2 k => ⟨vs, ws, at2 ha H2 k, at2 hb H2 k, by rw [ra.length, rb.length]; exact zip_len ds es⟩⟩
  obtain ⟨x, y, hx, hy, rfl⟩ := zip_get ds es i d e
  obtain ⟨v, e1, e2⟩ := ra.get hx
  obtain ⟨u, e3, e4⟩ := rb.get hy
  refine ⟨⟨vs, ws, v, u, at2 ha H2 k, at2 hb H2 k, e1, e3⟩, fun x' H' ⟨T, x1, y1, hx', hT, hH, f1, f2⟩ => ?_⟩
  subst hx' hH
  have g1 := f1 vs (at2 ha H2 k)
  have g2 := f2 ws (at2 hb H2 k)
  rw [e1] at g1
  rw [e3] at g2
  refine ⟨same_upd hT, fun O' hO kk => ?_⟩
  rw [← Option.some.inj g1, ← Option.some.inj g2]
  exact Ro.newT hT (.cons (e2.keeps kk hO) (.cons (e4.keeps kk hO) .nil))
theorem yld_zipL {a b : Addr} {vs ws : List V} {ds es : List D} (ha : Rd H1 a (.lst vs) ∧ ¬ Z a ∨ KL K a vs) (hb : Rd H1 b (.lst ws) ∧ ¬ Z b ∨ KL K b ws) (ra : RoAll K w O H1 vs ds) (rb : RoAll K w O H1 ws es) : Yld K w O Z (Itz K a b) H1 (zipT ds es) := by
  have at2 : ∀ {a : Addr} {vs : List V}, Rd H1 a (.lst vs) ∧ ¬ Z a ∨ KL K a vs → ∀ H2, Keeps Z H1 H2 → SqL K H2 a vs := fun h H2 k => by
    rcases h with ⟨h | ⟨o, h⟩, hz⟩ | h
    · exact .inl (.inl (k.l _ _ h hz))
    · exact .inl (.inr ⟨o, k.f _ _ _ h⟩)
    · exact .inr h
  refine ⟨fun H2 i d k e => ?_, fun H2 k => ⟨vs, ws, at2 ha H2 k, at2 hb H2 k, by rw [ra.length, rb.length]; exact zip_len ds es⟩⟩
  obtain ⟨x, y, hx, hy, rfl⟩ := zip_get ds es i d e
  obtain ⟨v, e1, e2⟩ := ra.get hx
  obtain ⟨u, e3, e4⟩ := rb.get hy
  refine ⟨⟨vs, ws, v, u, at2 ha H2 k, at2 hb H2 k, e1, e3⟩, fun x' H' ⟨T, x1, y1, hx', hT, hH, f1, f2⟩ => ?_⟩
  subst hx' hH
  have g1 := f1 vs (at2 ha H2 k)
  have g2 := f2 ws (at2 hb H2 k)
  rw [e1] at g1
  rw [e3] at g2
  refine ⟨same_upd hT, fun O' hO kk => ?_⟩
  rw [← Option.some.inj g1, ← Option.some.inj g2]
  exact Ro.newT hT (.cons (e2.keeps kk hO) (.cons (e4.keeps kk hO) .nil))
end
theorem _root_.L2.PI.imp {X : Cx} {tg e : Expr} {t t' : TI} (h : PI X tg e t) (hi : ∀ σ H Q, t' σ H Q → t σ H Q) : PI X tg e t' := ⟨fun pins s σ H Q I hq => h.run pins s σ H Q I (hi _ _ _ hq)⟩
section
variable {X : Cx} {b : Bool} {tg e e1 e2 : Expr} {pos p : Pos} {f f1 f2 : List Sl → Option D} {g : List Sl → Option Bool}
theorem si_seq (h : SE X b e f) : SI X b tg e fun σ => (f σ).bind items := by
  refine ⟨fun pins s σ H R I ⟨O, Ow, es, ds, hO, F, e0, q⟩ => ?_⟩
  obtain ⟨d, e1, e2⟩ := bind_some e0
  cases d with
  | list l =>
    cases e2
    refine (pi_list h).run pins s σ H R I ⟨O, Ow, es, _, hO, F, e1, fun H1 v s1 r1 => ?_⟩
    have r2 : ∃ a xs, v = .ref a ∧ (Rd H1 a (.lst xs) ∧ ¬ (b = false ∧ O a) ∨ KL X.K a xs) ∧ RoAll X.K X.w O H1 xs ds := by
      cases b with
      | true =>
        obtain ⟨a, xs, h1, h2, h3⟩ := r1.list
        refine ⟨a, xs, h1, ?_, h3⟩
        rcases h2 with h2 | h2
        · exact .inl ⟨h2, fun z => by cases z.1⟩
        · exact .inr h2
      | false =>
        cases r1.no with
        | lst h1 h2 h3 => exact ⟨_, _, rfl, .inl ⟨h1, fun z => h2 z.2⟩, h3⟩
        | kls h1 h3 => exact ⟨_, _, rfl, .inr h1, h3⟩
    obtain ⟨a, xs, rfl, h2, h4⟩ := r2
    refine ⟨a, rfl, ⟨xs, ?_⟩, q _ H1 s1 (yld_list h2 h4)⟩
    rcases h2 with h2 | h2
    · exact .inl h2.1
    · exact .inr h2
  | tuple l =>
    cases e2
    refine (pi_tup h).run pins s σ H R I ⟨O, Ow, es, _, hO, F, e1, fun H1 v s1 r1 => ?_⟩
    obtain ⟨a, xs, rfl, h2, h4⟩ := r1.tup
    exact ⟨a, rfl, ⟨xs, h2⟩, q _ H1 s1 (yld_tup h2 h4)⟩
  | _ => cases e2
theorem small62_ok {i : Int} (h : small62 i = true) : -(2 ^ 62) ≤ i ∧ i < 2 ^ 62 := by
  rw [small62, Bool.and_eq_true] at h
  exact ⟨of_decide_eq_true h.1, of_decide_eq_true h.2⟩
theorem si_range1 {x : Str} (hx : x = "range") (hg : Gl X x) (hm : X.mg x = none) (hs : isStar e = false) (h : SE X b e f) :
    SI X b tg (.Call (.Name x p) [e] [] pos) fun σ => (f σ).bind fun d => match d with | .int j => cond (small62 j) (some (intRange 0 j.toNat)) none | _ => none := by
  subst hx
  refine (pi_range1 hg hm (pa_cons h pa_nil (starEach_cons (star_no hs) _)) (starEach_cons (star_no hs) _)).imp fun σ H R ⟨O, Ow, es, ds, hO, F, e, q⟩ => ?_
  obtain ⟨d, e1, e⟩ := bind_some e
  refine ⟨O, Ow, es, d, hO, F, e1, fun H1 v s1 r1 => ?_⟩
  cases d with
  | int j =>
    obtain ⟨c, e⟩ := cond_some e
    obtain ⟨c1, c2⟩ := small62_ok c
    cases e
    cases r1.int
    exact ⟨j, rfl, c1, c2, q _ H1 s1 yld_range⟩
  | _ => cases e
theorem si_range2 {x : Str} (hx : x = "range") (hg : Gl X x) (hm : X.mg x = none) (hs1 : isStar e1 = false) (hs2 : isStar e2 = false) (h1 : SE X b e1 f1) (h2 : SE X b e2 f2) :
    SI X b tg (.Call (.Name x p) [e1, e2] [] pos) fun σ => (f1 σ).bind fun d => (f2 σ).bind fun d' => match d, d' with
      | .int i, .int j => cond (small62 i && small62 j) (some (intRange i (j - i).toNat)) none
      | _, _ => none := by
  subst hx
  have e2' : starEach [e2] X.env = [(false, eval e2 X.env)] := starEach_cons (star_no hs2) _
  have e1' : starEach [e1, e2] X.env = (false, eval e1 X.env) :: starEach [e2] X.env := starEach_cons (star_no hs1) _
  refine (pi_range2 hg hm (pa_cons h1 (pa_cons h2 pa_nil e2') e1') (by rw [e1', e2']) e2').imp fun σ H R ⟨O, Ow, es, ds, hO, F, e, q⟩ => ?_
  obtain ⟨d, e1, e⟩ := bind_some e
  obtain ⟨d', e2, e⟩ := bind_some e
  refine ⟨O, Ow, es, d, hO, F, e1, fun H1 v s1 r1 => ⟨O, Ow, es, d', hO.same s1, F.same s1, e2, fun H2 v' s2 r2 => ?_⟩⟩
  cases d with
  | int i =>
    cases d' with
    | int j =>
      obtain ⟨c, e⟩ := cond_some e
      rw [Bool.and_eq_true] at c
      cases e
      cases r1.int
      cases r2.int
      exact ⟨i, j, rfl, ⟨(small62_ok c.1).1, (small62_ok c.1).2, (small62_ok c.2).1, (small62_ok c.2).2⟩, q _ H2 (s1.trans s2) yld_range⟩
    | _ => cases e
  | _ => cases e
theorem RoB.lz {b : Bool} {K : PySem.W.Frag} {w : World} {O : Addr → Prop} {H : Hp} {v : V} {l : List D} (r : RoB K w O H b v (.list l)) : ∃ a xs, v = .ref a ∧ (Rd H a (.lst xs) ∧ ¬ (b = false ∧ O a) ∨ KL K a xs) ∧ RoAll K w O H xs l := by
  cases b with
  | true =>
    obtain ⟨a, xs, h1, h2, h3⟩ := r.list
    refine ⟨a, xs, h1, ?_, h3⟩
    rcases h2 with h2 | h2
    · exact .inl ⟨h2, fun z => by cases z.1⟩
    · exact .inr h2
  | false =>
    cases r.no with
    | lst h1 h2 h3 => exact ⟨_, _, rfl, .inl ⟨h1, fun z => h2 z.2⟩, h3⟩
    | kls h1 h3 => exact ⟨_, _, rfl, .inr h1, h3⟩
theorem sql_of {K : PySem.W.Frag} {H : Hp} {a : Addr} {xs : List V} {Z : Prop} (h : Rd H a (.lst xs) ∧ Z ∨ KL K a xs) : SqL K H a xs := h.elim (fun z => .inl z.1) .inr
theorem si_zip {x : Str} {elts : List Expr} {kk : Nat} {tpos : Pos} (hx : x = "zip") (hg : Gl X x) (hm : X.mg x = none) (hs1 : isStar e1 = false) (hs2 : isStar e2 = false) (h1 : SE X b e1 f1) (h2 : SE X b e2 f2) :
    SI X b (.Tuple elts kk tpos) (.Call (.Name x p) [e1, e2] [] pos) fun σ => (f1 σ).bind fun d => (f2 σ).bind fun d' => zipD d d' := by
  subst hx
  have e2' : starEach [e2] X.env = [(false, eval e2 X.env)] := starEach_cons (star_no hs2) _
  have e1' : starEach [e1, e2] X.env = (false, eval e1 X.env) :: starEach [e2] X.env := starEach_cons (star_no hs1) _
  refine (RZ.pi_zipA hg hm (pa_cons h1 (pa_cons h2 pa_nil e2') e1') e1' (by rw [e2']; rfl)).imp fun σ H R ⟨O, Ow, es, ds, hO, F, e, q⟩ => ?_
  obtain ⟨d, e1, e⟩ := bind_some e
  obtain ⟨d', e2, e⟩ := bind_some e
  refine ⟨O, Ow, es, d, hO, F, e1, fun H1 v s1 r1 => ⟨O, Ow, es, d', hO.same s1, F.same s1, e2, fun H2 v' s2 r2 => ?_⟩⟩
  have r1 := r1.same s2
  unfold zipD at e
  split at e
  · cases e
    obtain ⟨a, xs, rfl, ha, h3⟩ := r1.lz
    obtain ⟨a', xs', rfl, hb, h4⟩ := r2.lz
    exact ⟨a, a', xs, xs', rfl, .inl ⟨sql_of ha, sql_of hb, q _ H2 (s1.trans s2) (yld_zipL ha hb h3 h4)⟩⟩
  · cases e
    obtain ⟨a, xs, rfl, ha, h3⟩ := r1.tup
    obtain ⟨a', xs', rfl, hb, h4⟩ := r2.tup
    exact ⟨a, a', xs, xs', rfl, .inr ⟨ha, hb, q _ H2 (s1.trans s2) (yld_zipT ha hb h3 h4)⟩⟩
  · cases e

/-! ### targets -/
/-- a store in the slots of vs alone -/
def tG (K : PySem.W.Frag) (w : World) (vs : List Nat) (g : List Sl → D → Option (List Sl)) : TG := fun v σ H Q => ∃ O Ow es d es', OkO O H ∧ Fr K w O Ow es σ H ∧ Ro K w O H v d ∧ g es d = some es' ∧
  ∀ σ' H', Same H H' → σ'.length = σ.length → (∀ j, j ∉ vs → σ'[j]? = σ[j]?) → Fr K w O Ow es' σ' H' → Q σ' H'
abbrev SG (X : Cx) (vs : List Nat) (t : Expr) (g : List Sl → D → Option (List Sl)) : Prop := PG X t (tG X.K X.w vs g)
theorem Fr.set {K : PySem.W.Frag} {w : World} {O Ow : Addr → Prop} {es : List Sl} {σ : L2.St} {H : Hp} {i : Nat} {v : V} {d : D} (hi : i < σ.length) (F : Fr K w O Ow es σ H) (r : Ro K w O H v d) : Fr K w O Ow (es.set i (.sh d)) (σ.set i (some v)) H := by
  intro j s e
  by_cases hj : i = j
  · subst hj
    have hl : i < es.length := by
      have := (List.getElem?_eq_some_iff.mp e).1
      simpa using this
    rw [List.getElem?_set_self hl] at e
    cases e
    rw [List.getElem?_set_self hi]
    exact ⟨v, rfl, r⟩
  · rw [List.getElem?_set_ne hj] at e ⊢
    exact F j s e
theorem _root_.L2.PG.imp {t : Expr} {a a' : TG} (h : PG X t a) (hi : ∀ v σ H Q, a' v σ H Q → a v σ H Q) : PG X t a' := ⟨fun pins s σ H v u Q I r hq => h.run pins s σ H v u Q I r (hi _ _ _ _ hq)⟩
/-- the same for what only keeps the state's length: it is asked of Inv -/
theorem sg_name {i : Nat} {x : Str} (hN : X.N.Nodup) (hi : X.N[i]? = some x) (hx : Loc X.env.scope x) (hf : X.fn x = true ∨ X.env.scope.names.lookup x = some .local) : SG X [i] (.Name x pos) fun es d => some (es.set i (.sh d)) := by
  refine ⟨fun pins s σ H v u Q I r ⟨O, Ow, es, d, es', hO, F, ro, e, q⟩ => ?_⟩
  have hl : i < σ.length := by
    rw [I.len]
    exact (List.getElem?_eq_some_iff.mp hi).1
  cases e
  refine (pg_name (pos := pos) hN hi hx hf).run pins s σ H v u Q I r ?_
  exact q _ H (Same.refl H) (by rw [List.length_set]) (fun j hj => List.getElem?_set_ne (fun z => hj (by rw [z]; exact List.mem_singleton_self j))) (F.set hl ro)
end
end EV

namespace EV
open PySem PySem.Spec PyProof.Rows L2
theorem ix_get {x : Str} {i : Nat} {N : List Str} (h : N.idxOf? x = some i) : N[i]? = some x := by
  unfold List.idxOf? at h
  rw [List.findIdx?_eq_some_iff_getElem] at h
  obtain ⟨hi, h1, _⟩ := h
  rw [List.getElem?_eq_getElem hi]
  have : N[i] = x := by simpa using h1
  rw [this]
def StoreOk (X : Cx) (x : Str) : Prop := Loc X.env.scope x ∧ (X.fn x = true ∨ X.env.scope.names.lookup x = some .local)
section
variable {X : Cx} {b : Bool} {pos : Pos} {vs : List Nat}
theorem SG.mono {vs vs' : List Nat} {t : Expr} {g : List Sl → D → Option (List Sl)} (h : SG X vs t g) (hs : ∀ j ∈ vs, j ∈ vs') : SG X vs' t g :=
  h.imp fun v σ H Q ⟨O, Ow, es, d, es', hO, F, ro, e, q⟩ => ⟨O, Ow, es, d, es', hO, F, ro, e, fun σ' H' s l k F' => q σ' H' s l (fun j hj => k j fun z => hj (hs j z)) F'⟩
theorem sg_asgN {x : Str} (hN : X.N.Nodup) (hs : StoreOk X x) : SG X (namesIx X.N [.Name x pos]) (.Name x pos) fun es d => asgN X.N es x d := by
  cases e : X.N.idxOf? x with
  | none => exact ⟨fun pins s σ H v u Q I r ⟨O, Ow, es, d, es', hO, F, ro, e', q⟩ => by unfold asgN at e'; rw [e] at e'; cases e'⟩
  | some i =>
    have h := sg_name (pos := pos) hN (ix_get e) hs.1 hs.2
    have e2 : namesIx X.N [.Name x pos] = [i] := by simp [namesIx, e]
    rw [e2]
    refine h.imp fun v σ H Q ⟨O, Ow, es, d, es', hO, F, ro, e', q⟩ => ⟨O, Ow, es, d, es', hO, F, ro, ?_, q⟩
    unfold asgN at e'
    rw [e] at e'
    exact e'
/-- several names -/
def tGs (K : PySem.W.Frag) (w : World) (vs : List Nat) (g : List D → List Sl → Option (List Sl)) : TGs := fun us σ H Q => ∃ O Ow es ds es', OkO O H ∧ Fr K w O Ow es σ H ∧ RoAll K w O H us ds ∧ g ds es = some es' ∧
  ∀ σ' H', Same H H' → σ'.length = σ.length → (∀ j, j ∉ vs → σ'[j]? = σ[j]?) → Fr K w O Ow es' σ' H' → Q σ' H'
theorem _root_.L2.PGs.imp {ts : List Expr} {a a' : TGs} (h : PGs X ts a) (hi : ∀ v σ H Q, a' v σ H Q → a v σ H Q) : PGs X ts a' := ⟨fun pins s σ H v u Q I r hq => h.run pins s σ H v u Q I r (hi _ _ _ _ hq)⟩
def areNames : List Expr → Bool
  | [] => true
  | .Name _ _ :: r => areNames r
  | _ => false
theorem assign_names {env : Env} : ∀ {es : List Expr}, areNames es = true → (assignEach es env).length = es.length ∧ (assignEach es env).findIdx? (·.1) = none
  | [], _ => ⟨rfl, rfl⟩
  | .Name x p :: r, h => by
    obtain ⟨h1, h2⟩ := assign_names (env := env) (es := r) h
    refine ⟨by show (assignEach r env).length + 1 = _; rw [h1]; rfl, ?_⟩
    show ((false, assign (.Name x p) env) :: assignEach r env).findIdx? (·.1) = none
    rw [List.findIdx?_cons, h2]; rfl
theorem sgs_names (hN : X.N.Nodup) : ∀ {es : List Expr}, areNames es = true → (∀ x p, Expr.Name x p ∈ es → StoreOk X x) → PGs X es (tGs X.K X.w (namesIx X.N es) fun ds σ => asgs X.N es ds σ)
  | [], _, _ => pgs_nil.imp fun us σ H Q ⟨O, Ow, es, ds, es', hO, F, ro, e, q⟩ => by
    cases ro with
    | nil => cases e; exact ⟨rfl, q σ H (Same.refl H) rfl (fun _ _ => rfl) F⟩
    | cons _ _ => cases e
  | .Name x p :: r, h, hs => by
    have h1 := sg_asgN (pos := p) hN (hs x p List.mem_cons_self)
    have h2 := sgs_names hN (es := r) h fun y q hy => hs y q (List.mem_cons_of_mem _ hy)
    refine (pgs_cons h1 h2 rfl).imp fun us σ H Q ⟨O, Ow, es, ds, es', hO, F, ro, e, q⟩ => ?_
    cases ro with
    | nil => cases e
    | @cons v vs d ds r1 r2 =>
      have e : (asgN X.N es x d).bind (fun σ' => asgs X.N r ds σ') = some es' := e
      obtain ⟨es1, e1, e2⟩ := bind_some e
      refine ⟨v, vs, rfl, O, Ow, es, d, es1, hO, F, r1, e1, fun σ1 H1 s1 l1 k1 F1 => ?_⟩
      refine ⟨O, Ow, es1, ds, es', hO.same s1, F1, r2.same s1, e2, fun σ2 H2 s2 l2 k2 F2 => ?_⟩
      refine q σ2 H2 (s1.trans s2) (l2.trans l1) (fun j hj => ?_) F2
      have n1 : j ∉ namesIx X.N [.Name x p] ∧ j ∉ namesIx X.N r := by
        simp only [namesIx] at hj ⊢
        split at hj
        · rename_i i hi
          simp only [List.mem_cons, not_or] at hj
          simp [hj.1, hj.2]
        · exact ⟨by simp, hj⟩
      rw [k2 j n1.2, k1 j n1.1]
theorem asgs_length {N : List Str} : ∀ {ts : List Expr} {ds : List D} {es es' : List Sl}, asgs N ts ds es = some es' → ds.length = ts.length
  | ts, ds, es, es', e => by
    unfold asgs at e
    split at e
    · rfl
    · obtain ⟨es1, _, e2⟩ := bind_some e
      simp [asgs_length e2]
    · cases e
theorem sg_asg {t : Expr} (hN : X.N.Nodup) (hc : X.calm = true) (ht : (∃ x p, t = .Name x p ∧ StoreOk X x) ∨ ∃ es k p, t = .Tuple es k p ∧ areNames es = true ∧ ∀ x p, Expr.Name x p ∈ es → StoreOk X x) :
    SG X (tgIx X.N t) t fun es d => asg X.N es t d := by
  rcases ht with ⟨x, p, rfl, hs⟩ | ⟨ts, k, p, rfl, ha, hs⟩
  · exact sg_asgN hN hs
  · obtain ⟨a1, a2⟩ := assign_names (env := X.env) ha
    refine ⟨fun pins s σ H v u Q I r ⟨O, Ow, es, d, es', hO, F, ro, e, q⟩ => ?_⟩
    unfold asg at e
    cases d with
    | tuple ds =>
      cases ro with
      | tup h1 h2 =>
        refine (pg_tup hc (sgs_names hN ha hs) rfl a2).run pins s σ H _ u Q I r ⟨_, _, rfl, h1, ?_, O, Ow, es, ds, es', hO, F, h2, e, q⟩
        rw [a1, h2.length]
        exact asgs_length e
    | list ds =>
      have hb : RoB X.K X.w O H false v (.list ds) := .inl ro
      obtain ⟨a, vs, rfl, h1, h2⟩ := hb.list
      refine (pg_lst hc (sgs_names hN ha hs) rfl a2).run pins s σ H _ u Q I r ⟨_, _, rfl, h1, ?_, O, Ow, es, ds, es', hO, F, h2, e, q⟩
      rw [a1, h2.length]
      exact asgs_length e
    | _ => cases e

/-! ### wiping -/
theorem wipeD_length (es : List Sl) : ∀ vs : List Nat, (wipeD es vs).length = es.length
  | [] => rfl
  | v :: vs => by unfold wipeD; rw [List.length_set, wipeD_length es vs]
theorem wipeD_get {es : List Sl} {j : Nat} : ∀ {vs : List Nat}, j ∉ vs → (wipeD es vs)[j]? = es[j]?
  | [], _ => rfl
  | v :: vs, h => by
    simp only [List.mem_cons, not_or] at h
    unfold wipeD
    rw [List.getElem?_set_ne (fun z => h.1 z.symm), wipeD_get h.2]
theorem wipeD_un {es : List Sl} {j : Nat} {s : Sl} : ∀ {vs : List Nat}, j ∈ vs → (wipeD es vs)[j]? = some s → s = .un
  | v :: vs, h, e => by
    unfold wipeD at e
    by_cases hj : v = j
    · subst hj
      have hl : v < (wipeD es vs).length := by
        have := (List.getElem?_eq_some_iff.mp e).1
        simpa using this
      rw [List.getElem?_set_self hl] at e
      exact (Option.some.inj e).symm
    · rw [List.getElem?_set_ne hj] at e
      rcases List.mem_cons.mp h with z | z
      · exact absurd z.symm hj
      · exact wipeD_un z e
theorem wipe_get {σ : L2.St} {j : Nat} : ∀ {vs : List Nat}, j ∉ vs → (wipe σ vs)[j]? = σ[j]?
  | [], _ => rfl
  | v :: vs, h => by
    simp only [List.mem_cons, not_or] at h
    unfold wipe
    rw [List.getElem?_set_ne (fun z => h.1 z.symm), wipe_get h.2]
theorem wipe_non {σ : L2.St} {j : Nat} : ∀ {vs : List Nat}, j ∈ vs → j < σ.length → (wipe σ vs)[j]? = some none
  | v :: vs, h, hl => by
    unfold wipe
    by_cases hj : v = j
    · subst hj
      rw [List.getElem?_set_self (by rw [wipe_length]; exact hl)]
    · rw [List.getElem?_set_ne hj]
      rcases List.mem_cons.mp h with z | z
      · exact absurd z.symm hj
      · exact wipe_non z hl
theorem wipe_eq {σ σ' : L2.St} {vs : List Nat} (hl : σ'.length = σ.length) (h : ∀ j, j ∉ vs → σ'[j]? = σ[j]?) : wipe σ' vs = wipe σ vs := by
  apply List.ext_getElem?
  intro j
  by_cases hj : j ∈ vs
  · by_cases hlt : j < σ.length
    · rw [wipe_non hj hlt, wipe_non hj (by rw [hl]; exact hlt)]
    · rw [List.getElem?_eq_none (by rw [wipe_length]; omega), List.getElem?_eq_none (by rw [wipe_length]; omega)]
  · rw [wipe_get hj, wipe_get hj, h j hj]
theorem Fr.wipe {K : PySem.W.Frag} {w : World} {O Ow : Addr → Prop} {es : List Sl} {σ : L2.St} {H : Hp} {vs : List Nat} (F : Fr K w O Ow es σ H) : Fr K w O Ow (wipeD es vs) (wipe σ vs) H := by
  intro j s e
  by_cases hj : j ∈ vs
  · rw [wipeD_un hj e]; trivial
  · rw [wipeD_get hj] at e
    rw [wipe_get hj]
    exact F j s e
theorem Fr.more {K : PySem.W.Frag} {w : World} {O O' Ow Ow' : Addr → Prop} {es : List Sl} {σ : L2.St} {H H' : Hp} (s : Same H H') (hO : ∀ a, O' a → O a ∨ H a = none) (h1 : ∀ a, O a → O' a) (h2 : ∀ a, O a → Ow a → Ow' a) (F : Fr K w O Ow es σ H) : Fr K w O' Ow' es σ H' := by
  intro j t e
  have h := F j t e
  cases t with
  | un => trivial
  | sh d => obtain ⟨v, e, r⟩ := h; exact ⟨v, e, r.keeps (Same.keeps s) hO⟩
  | ow l => obtain ⟨a, xs, e, k1, k0, k2⟩ := h; exact ⟨a, xs, e, s _ _ k1, ⟨h1 _ k0.1, h2 _ k0.1 k0.2⟩, k2.keeps (Same.keeps s) hO⟩
/-- .. where other lists may change -/
theorem Fr.keeps {K : PySem.W.Frag} {w : World} {O Ow : Addr → Prop} {es : List Sl} {σ : L2.St} {H H' : Hp} (k : Keeps O H H') (hw : ∀ a xs, Ow a → H a = some (.lst xs) → H' a = some (.lst xs)) (F : Fr K w O Ow es σ H) : Fr K w O Ow es σ H' := by
  intro j t e
  have h := F j t e
  cases t with
  | un => trivial
  | sh d => obtain ⟨v, e, r⟩ := h; exact ⟨v, e, r.keeps k fun _ z => .inl z⟩
  | ow l => obtain ⟨a, xs, e, k1, k0, k2⟩ := h; exact ⟨a, xs, e, hw _ _ k0.2 k1, k0, k2.keeps k fun _ z => .inl z⟩
end
end EV

namespace EV
open PySem PySem.Spec PyProof.Rows L2
theorem lim_some {r : Option (List D)} {d : D} (h : lim r = some d) : ∃ ys, r = some ys ∧ ys.length ≤ few ∧ d = .list ys := by
  obtain ⟨ys, e1, e2⟩ := bind_some h
  obtain ⟨c, e3⟩ := cond_some e2
  exact ⟨ys, e1, of_decide_eq_true c, (Option.some.inj e3).symm⟩
theorem drop_at {α : Type} {xs : List α} {i : Nat} (h : i < xs.length) : xs.drop i = xs[i] :: xs.drop (i + 1) := by
  rw [List.drop_eq_getElem_cons h]
section
variable {K : PySem.W.Frag} {w : World} {O : Addr → Prop} {H : Hp}
/-- the comprehension's list grows: what else there is stays -/
theorem grow_keeps {D0 : Addr} {vs ws : List V} (h : H D0 = some (.lst vs)) : Keeps (fun a => O a ∨ a = D0) H (upd H D0 (.lst ws)) := by
  refine ⟨fun a xs e n => ?_, fun a xs e => ?_, fun a o u e => ?_⟩
  · rw [upd_ne (fun z => n (.inr z))]; exact e
  · rw [upd_ne (fun z => by rw [z, h] at e; cases e)]; exact e
  · rw [upd_ne (fun z => by rw [z, h] at e; cases e)]; exact e
theorem grow_all {D0 : Addr} {vs : List V} {v : V} {ys : List D} {y : D} (h : H D0 = some (.lst vs)) (r : RoAll K w (fun a => O a ∨ a = D0) H vs ys) (r1 : Ro K w (fun a => O a ∨ a = D0) H v y) :
    RoAll K w (fun a => O a ∨ a = D0) (upd H D0 (.lst (vs ++ [v]))) (vs ++ [v]) (ys ++ [y]) :=
  (r.app (.cons r1 .nil)).keeps (grow_keeps h) fun _ z => .inl z
theorem grow_same {H1 : Hp} {D0 : Addr} {ws : List V} (h1 : H1 D0 = none) (s : Same H1 H) : Same H1 (upd H D0 (.lst ws)) := fun b o e => by
  rw [upd_ne (ne_of_none e h1)]; exact s b o e
theorem okO_grow {D0 : Addr} {vs : List V} (hO : OkO O H) (h : H D0 = some (.lst vs)) : OkO (fun a => O a ∨ a = D0) H := fun a z => by
  rcases z with z | z
  · exact hO a z
  · subst z; exact ⟨vs, h⟩
end
section
variable {X : Cx} {tg it elt : Expr} {ifs : List Expr} {scope : Scope} {own : List (Str × Nat)} {pos : Pos} {fi : List Sl → Option (List D)} {g : List Sl → D → Option (List Sl)} {t : List Sl → Option Bool} {f : List Sl → Option D}
abbrev blk (X : Cx) (scope : Scope) (s : Shared) (H : Hp) (C : Addr) (cl : List (Str × Addr)) (fp : List Addr) : Cx := X.blk s H scope (compEnvC scope cl C X.env) fp
theorem comp1_read {σ : L2.St} {H : Hp} {Q : VK} (h : tF X.K X.w (fun σ => (fi σ).bind fun xs => lim (comp1 (g (wipeD σ (own.map (·.2)))) t f xs)) σ H Q) :
    tLc (tI X.K X.w true fi) (tG X.K X.w (own.map (·.2)) g) (tT X.K X.w t) (tE X.K X.w false f) (own.map (·.2)) σ H Q := by
  obtain ⟨O, Ow, es, d, hO, F, e, q⟩ := h
  obtain ⟨xs, e1, e2⟩ := bind_some e
  obtain ⟨ys, e3, hl, rfl⟩ := lim_some e2
  have hf := few_line
  refine ⟨O, Ow, es, xs, hO, F, e1, fun J H1 s1 Y D0 hD => ?_⟩
  have hO1 : ∀ a, (O a ∨ a = D0) → O a ∨ H1 a = none := fun a z => z.imp id fun z => by rw [z]; exact hD
  refine ⟨fun i m H2 => ∃ ys1 ys2 vs, m = xs.length - i ∧ i ≤ xs.length ∧ Same H1 H2 ∧ comp1 (g (wipeD es (own.map (·.2)))) t f (xs.drop i) = some ys2 ∧ ys = ys1 ++ ys2 ∧ H2 D0 = some (.lst vs) ∧ RoAll X.K X.w (fun a => O a ∨ a = D0) H2 vs ys1, ⟨_, [], ys, [], rfl, Nat.zero_le _, same_upd hD, e3, rfl, upd_same, .nil⟩, ?_⟩
  rintro i m H2 ⟨ys1, ys2, vs, rfl, hi, s2, c2, ey, h2, r2⟩
  have kz : Keeps (fun a => true = false ∧ O a) H1 H2 := Same.keeps s2
  by_cases hlt : i < xs.length
  · refine .inr ⟨(Y.go H2 i xs[i] kz (List.getElem?_eq_getElem hlt)).1, fun H3 => ∃ ys1 ys2 vs, i + 1 ≤ xs.length ∧ Same H1 H3 ∧ comp1 (g (wipeD es (own.map (·.2)))) t f (xs.drop (i + 1)) = some ys2 ∧ ys = ys1 ++ ys2 ∧ H3 D0 = some (.lst vs) ∧ RoAll X.K X.w (fun a => O a ∨ a = D0) H3 vs ys1,
      fun H3 ⟨a1, a2, a3, b1, b2, b3, b4, b5, b6⟩ => ⟨xs.length - (i + 1), by omega, a1, a2, a3, rfl, b1, b2, b3, b4, b5, b6⟩, fun x H3 y => ?_⟩
    obtain ⟨sm, rx⟩ := (Y.go H2 i xs[i] kz (List.getElem?_eq_getElem hlt)).2 x H3 y
    have rx := rx (fun a => O a ∨ a = D0) hO1 (Same.keeps s2)
    replace s2 := s2.trans sm
    replace h2 := sm _ _ h2
    replace r2 := r2.same sm
    rw [drop_at hlt] at c2
    obtain ⟨es2, c3, c4⟩ := bind_some (show (g (wipeD es (own.map (·.2))) xs[i]).bind _ = some ys2 from c2)
    obtain ⟨bt, c5, c6⟩ := bind_some c4
    have s02 : Same H H3 := s1.trans s2
    have F3 : Fr X.K X.w (fun a => O a ∨ a = D0) O (wipeD es (own.map (·.2))) (wipe σ (own.map (·.2))) H3 := (((F.same s1).wipe).more (Same.refl H1) hO1 (fun _ z => .inl z) fun _ z _ => z).same s2
    refine ⟨fun a => O a ∨ a = D0, O, wipeD es (own.map (·.2)), xs[i], es2, okO_grow (hO.same s02) h2, F3, rx, c3, fun σ2 H4 s4 l4 k4 F4 => ⟨?_, ?_⟩⟩
    · exact wipe_eq (by rw [l4, wipe_length]) fun j hj => by rw [k4 j hj, wipe_get hj]
    · refine ⟨_, O, es2, bt, okO_grow ((hO.same s02).same s4) (s4 _ _ h2), F4, c5, fun H5 s5 => ?_⟩
      cases bt with
      | false =>
        simp only [Bool.false_eq_true, if_false]
        exact ⟨ys1, ys2, vs, hlt, (s2.trans s4).trans s5, c6, ey, (s4.trans s5) _ _ h2, r2.same (s4.trans s5)⟩
      | true =>
        simp only [if_true]
        obtain ⟨yv, c7, c8⟩ := bind_some c6
        obtain ⟨ys3, c9, c10⟩ := bind_some c8
        cases c10
        refine ⟨_, O, es2, yv, okO_grow (((hO.same s02).same s4).same s5) ((s4.trans s5) _ _ h2), F4.same s5, c7, fun H6 v s6 r6 => ?_⟩
        have s36 : Same H3 H6 := (s4.trans s5).trans s6
        have h6 : H6 D0 = some (.lst vs) := s36 _ _ h2
        have r6' : RoAll X.K X.w (fun a => O a ∨ a = D0) H6 vs ys1 := r2.same s36
        refine ⟨vs, h6, ?_, ys1 ++ [yv], ys3, vs ++ [v], hlt, grow_same hD (s2.trans s36), c9, by rw [ey]; simp, upd_same, grow_all h6 r6' r6.no⟩
        have : ys.length = ys1.length + (ys3.length + 1) := by rw [ey]; simp
        rw [r2.length]; omega
  · have hi' : i = xs.length := by omega
    subst hi'
    refine .inl ⟨Y.stop H2 kz, ?_⟩
    rw [List.drop_length] at c2
    cases c2
    refine q H2 D0 vs ys (s1.trans s2) (s1.free hD) h2 rfl ?_
    rw [ey, List.append_nil]
    exact r2

/-! ### two clauses -/
variable {tg1 it1 : Expr} {ifs1 : List Expr} {fi1 : List Sl → Option (List D)} {g1 : List Sl → D → Option (List Sl)} {t1 : List Sl → Option Bool} {vs1 : List Nat}
theorem sf_comp1 (hc : X.calm = true) (hN : X.N.Nodup) (hi : SI X true tg it fi) (ok : BlkOk X.N X.env.scope scope own)
    (hg : ∀ s H C cl fp, SG (blk X scope s H C cl fp) (own.map (·.2)) tg g) (ht : ∀ s H C cl fp, PTs (blk X scope s H C cl fp) ifs (tT X.K X.w t)) (he : ∀ s H C cl fp, SE (blk X scope s H C cl fp) false elt f)
    (hs : ∀ x, foldedSetIterable it X.env x = pure x) :
    SF X (.ListComp elt [⟨tg, it, ifs, 0⟩] scope pos) fun σ => (fi σ).bind fun xs => lim (comp1 (g (wipeD σ (own.map (·.2)))) t f xs) :=
  (pe_lc (g := tG X.K X.w (own.map (·.2)) g) (tt := tT X.K X.w t) (te := tE X.K X.w false f) hc hN hi ok hg ht he hs).imp fun σ H Q h => comp1_read h
theorem comp2_read {σ : L2.St} {H : Hp} {Q : VK} (h : tF X.K X.w (fun σ => (fi σ).bind fun xs => lim (comp2 (g (wipeD σ (own.map (·.2)))) fi1 (fun σ' zs => comp1 (g1 (wipeD σ' vs1)) t1 f zs) xs)) σ H Q) :
    tLc2 (tI X.K X.w true fi) (tG X.K X.w (own.map (·.2)) g) tYes (tI X.K X.w false fi1) (tG X.K X.w vs1 g1) (tT X.K X.w t1) (tE X.K X.w false f) (own.map (·.2)) vs1 σ H Q := by
  obtain ⟨O, Ow, es, d, hO, F, e, q⟩ := h
  obtain ⟨xs, e1, e2⟩ := bind_some e
  obtain ⟨ys, e3, hl, rfl⟩ := lim_some e2
  have hf := few_line
  refine ⟨O, Ow, es, xs, hO, F, e1, fun J H1 s1 Y D0 hD => ?_⟩
  have hO1 : ∀ a, (O a ∨ a = D0) → O a ∨ H1 a = none := fun a z => z.imp id fun z => by rw [z]; exact hD
  refine ⟨fun i m H2 => ∃ ys1 ys2 vs, m = xs.length - i ∧ i ≤ xs.length ∧ Same H1 H2 ∧ comp2 (g (wipeD es (own.map (·.2)))) fi1 (fun σ' zs => comp1 (g1 (wipeD σ' vs1)) t1 f zs) (xs.drop i) = some ys2 ∧ ys = ys1 ++ ys2 ∧ H2 D0 = some (.lst vs) ∧ RoAll X.K X.w (fun a => O a ∨ a = D0) H2 vs ys1, ⟨_, [], ys, [], rfl, Nat.zero_le _, same_upd hD, e3, rfl, upd_same, .nil⟩, ?_⟩
  rintro i m H2 ⟨ys1, ys2, vs, rfl, hi, s2, c2, ey, h2, r2⟩
  have kz : Keeps (fun a => true = false ∧ O a) H1 H2 := Same.keeps s2
  by_cases hlt : i < xs.length
  · refine .inr ⟨(Y.go H2 i xs[i] kz (List.getElem?_eq_getElem hlt)).1, fun H3 => ∃ ys1 ys2 vs, i + 1 ≤ xs.length ∧ Same H1 H3 ∧ comp2 (g (wipeD es (own.map (·.2)))) fi1 (fun σ' zs => comp1 (g1 (wipeD σ' vs1)) t1 f zs) (xs.drop (i + 1)) = some ys2 ∧ ys = ys1 ++ ys2 ∧ H3 D0 = some (.lst vs) ∧ RoAll X.K X.w (fun a => O a ∨ a = D0) H3 vs ys1,
      fun H3 ⟨a1, a2, a3, b1, b2, b3, b4, b5, b6⟩ => ⟨xs.length - (i + 1), by omega, a1, a2, a3, rfl, b1, b2, b3, b4, b5, b6⟩, fun x H3 y => ?_⟩
    obtain ⟨sm, rx⟩ := (Y.go H2 i xs[i] kz (List.getElem?_eq_getElem hlt)).2 x H3 y
    have rx := rx (fun a => O a ∨ a = D0) hO1 (Same.keeps s2)
    replace s2 := s2.trans sm
    replace h2 := sm _ _ h2
    replace r2 := r2.same sm
    rw [drop_at hlt] at c2
    obtain ⟨es2, c3, c4⟩ := bind_some (show (g (wipeD es (own.map (·.2))) xs[i]).bind _ = some ys2 from c2)
    obtain ⟨zs, c5, c6⟩ := bind_some c4
    obtain ⟨yi, c7, c8⟩ := bind_some c6
    obtain ⟨yr, c9, c10⟩ := bind_some c8
    cases c10
    have s02 : Same H H3 := s1.trans s2
    have F3 : Fr X.K X.w (fun a => O a ∨ a = D0) O (wipeD es (own.map (·.2))) (wipe σ (own.map (·.2))) H3 := (((F.same s1).wipe).more (Same.refl H1) hO1 (fun _ z => .inl z) fun _ z _ => z).same s2
    refine ⟨fun a => O a ∨ a = D0, O, wipeD es (own.map (·.2)), xs[i], es2, okO_grow (hO.same s02) h2, F3, rx, c3, fun σ2 H4 s4 l4 k4 F4 => ⟨?_, ?_⟩⟩
    · exact wipe_eq (by rw [l4, wipe_length]) fun j hj => by rw [k4 j hj, wipe_get hj]
    show tI X.K X.w false fi1 σ2 H4 _
    refine ⟨_, O, es2, zs, okO_grow ((hO.same s02).same s4) (s4 _ _ h2), F4, c5, fun J1 H5 s5 Y1 => ?_⟩
    have s35 : Same H3 H5 := s4.trans s5
    have s15 : Same H1 H5 := s2.trans s35
    -- the second clause's turns: H6 is H5 but for what the list has grown
    refine ⟨fun j k H6 => ∃ ya yb vs, k = zs.length - j ∧ j ≤ zs.length ∧ Same H1 H6 ∧ (∀ b o, b ≠ D0 → H5 b = some o → H6 b = some o) ∧ comp1 (g1 (wipeD es2 vs1)) t1 f (zs.drop j) = some yb ∧ yi = ya ++ yb ∧ H6 D0 = some (.lst vs) ∧ RoAll X.K X.w (fun a => O a ∨ a = D0) H6 vs (ys1 ++ ya),
      ⟨_, [], yi, vs, rfl, Nat.zero_le _, s15, fun b o _ z => z, c7, rfl, s35 _ _ h2, by rw [List.append_nil]; exact r2.same s35⟩, ?_⟩
    rintro j k H6 ⟨ya, yb, ws, rfl, hj, t1', t2', d2, ez, g2, q2⟩
    have nD : ∀ a, O a → a ≠ D0 := fun a z n => hO.none (s1.free hD) (n ▸ z)
    have kz1 : Keeps (fun a => O a ∨ a = D0) H5 H6 := ⟨fun a xs e n => t2' a _ (fun z => n (.inr z)) e, fun a xs e => t2' a _ (fun z => by rw [z, s35 _ _ h2] at e; cases e) e, fun a o u e => t2' a _ (fun z => by rw [z, s35 _ _ h2] at e; cases e) e⟩
    have F6 : Fr X.K X.w (fun a => O a ∨ a = D0) O es2 σ2 H6 := (F4.same s5).keeps kz1 fun a xs z e => t2' a _ (nD a z) e
    have o6 : OkO (fun a => O a ∨ a = D0) H6 := okO_grow (hO.same (s1.trans t1')) g2
    by_cases hjl : j < zs.length
    · have hyl : comp1 (g1 (wipeD es2 vs1)) t1 f (zs[j] :: zs.drop (j + 1)) = some yb := by rw [← drop_at hjl]; exact d2
      have kz2 : Keeps (fun a => false = false ∧ (O a ∨ a = D0)) H5 H6 := ⟨fun a xs e n => kz1.l a xs e fun z => n ⟨rfl, z⟩, kz1.t, kz1.f⟩
      refine .inr ⟨(Y1.go H6 j zs[j] kz2 (List.getElem?_eq_getElem hjl)).1, fun H7 => ∃ ya yb vs, j + 1 ≤ zs.length ∧ Same H1 H7 ∧ (∀ b o, b ≠ D0 → H5 b = some o → H7 b = some o) ∧ comp1 (g1 (wipeD es2 vs1)) t1 f (zs.drop (j + 1)) = some yb ∧ yi = ya ++ yb ∧ H7 D0 = some (.lst vs) ∧ RoAll X.K X.w (fun a => O a ∨ a = D0) H7 vs (ys1 ++ ya),
        fun H7 ⟨a1, a2, a3, b1, b2, b3, b4, b5, b6⟩ => ⟨zs.length - (j + 1), by omega, a1, a2, a3, rfl, b1, b2, b3, b4, b5, b6⟩, fun x1 H7 y1 => ?_⟩
      obtain ⟨sm1, rx1⟩ := (Y1.go H6 j zs[j] kz2 (List.getElem?_eq_getElem hjl)).2 x1 H7 y1
      have rx1 := rx1 (fun a => O a ∨ a = D0) (fun _ z => .inl z) kz1
      replace t1' := t1'.trans sm1
      replace t2' : ∀ b o, b ≠ D0 → H5 b = some o → H7 b = some o := fun b o n e => sm1 b o (t2' b o n e)
      replace g2 := sm1 _ _ g2
      replace q2 := q2.same sm1
      replace F6 := F6.same sm1
      replace o6 := o6.same sm1
      obtain ⟨es3, c11, c12⟩ := bind_some (show (g1 (wipeD es2 vs1) zs[j]).bind _ = some yb from hyl)
      obtain ⟨bt, c13, c14⟩ := bind_some c12
      have tail : ∀ H8, Same H7 H8 → (∀ b o, b ≠ D0 → H5 b = some o → H8 b = some o) := fun H8 s b o n e => s b o (t2' b o n e)
      refine ⟨_, O, wipeD es2 vs1, zs[j], es3, o6, F6.wipe, rx1, c11, fun σ3 H8 s8 l8 k8 F8 => ⟨?_, ?_⟩⟩
      · exact wipe_eq (by rw [l8, wipe_length]) fun j hj => by rw [k8 j hj, wipe_get hj]
      · refine ⟨_, O, es3, bt, o6.same s8, F8, c13, fun H9 s9 => ?_⟩
        cases bt with
        | false =>
          simp only [Bool.false_eq_true, if_false]
          exact ⟨ya, yb, ws, hjl, (t1'.trans s8).trans s9, tail H9 (s8.trans s9), c14, ez, (s8.trans s9) _ _ g2, q2.same (s8.trans s9)⟩
        | true =>
          simp only [if_true]
          obtain ⟨yv, c15, c16⟩ := bind_some c14
          obtain ⟨y3, c17, c18⟩ := bind_some c16
          cases c18
          refine ⟨_, O, es3, yv, (o6.same s8).same s9, F8.same s9, c15, fun H10 v s10 r10 => ?_⟩
          have s710 : Same H7 H10 := (s8.trans s9).trans s10
          have h10 : H10 D0 = some (.lst ws) := s710 _ _ g2
          have r10' : RoAll X.K X.w (fun a => O a ∨ a = D0) H10 ws (ys1 ++ ya) := q2.same s710
          refine ⟨ws, h10, ?_, ya ++ [yv], y3, ws ++ [v], hjl, grow_same hD (t1'.trans s710), fun b o n e => ?_, c17, by rw [ez]; simp, upd_same, ?_⟩
          · have e1 : ys.length = ys1.length + (ya.length + (y3.length + 1) + yr.length) := by rw [ey, ez]; simp; omega
            rw [q2.length, List.length_append]; omega
          · rw [upd_ne n]; exact tail H10 s710 b o n e
          · rw [← List.append_assoc]; exact grow_all h10 r10' r10.no
    · have hj' : j = zs.length := by omega
      subst hj'
      have kz2 : Keeps (fun a => false = false ∧ (O a ∨ a = D0)) H5 H6 := ⟨fun a xs e n => kz1.l a xs e fun z => n ⟨rfl, z⟩, kz1.t, kz1.f⟩
      refine .inl ⟨Y1.stop H6 kz2, ?_⟩
      rw [List.drop_length] at d2
      cases d2
      refine ⟨ys1 ++ ya, yr, ws, hlt, t1', c9, ?_, g2, q2⟩
      rw [ey, ez, List.append_nil, List.append_assoc]
  · have hi' : i = xs.length := by omega
    subst hi'
    refine .inl ⟨Y.stop H2 kz, ?_⟩
    rw [List.drop_length] at c2
    cases c2
    refine q H2 D0 vs ys (s1.trans s2) (s1.free hD) h2 rfl ?_
    rw [ey, List.append_nil]
    exact r2
theorem sf_comp2 (hc : X.calm = true) (hN : X.N.Nodup) (hi : SI X true tg it fi) (ok : BlkOk X.N X.env.scope scope own) (hv : ∀ i ∈ vs1, i ∈ own.map (·.2))
    (hg : ∀ s H C cl fp, SG (blk X scope s H C cl fp) (own.map (·.2)) tg g)
    (hi1 : ∀ s H C cl fp, SI (blk X scope s H C cl fp) false tg1 it1 fi1) (hg1 : ∀ s H C cl fp, SG (blk X scope s H C cl fp) vs1 tg1 g1) (ht1 : ∀ s H C cl fp, PTs (blk X scope s H C cl fp) ifs1 (tT X.K X.w t1))
    (he : ∀ s H C cl fp, SE (blk X scope s H C cl fp) false elt f) (hs : ∀ x, foldedSetIterable it X.env x = pure x) (hs1 : ∀ env x, foldedSetIterable it1 env x = pure x) :
    SF X (.ListComp elt [⟨tg, it, [], 0⟩, ⟨tg1, it1, ifs1, 0⟩] scope pos) fun σ => (fi σ).bind fun xs => lim (comp2 (g (wipeD σ (own.map (·.2)))) fi1 (fun σ' zs => comp1 (g1 (wipeD σ' vs1)) t1 f zs) xs) :=
  (pe_lc2 (g := tG X.K X.w (own.map (·.2)) g) (wi1 := tI X.K X.w false fi1) (g1 := tG X.K X.w vs1 g1) (tt1 := tT X.K X.w t1) (te := tE X.K X.w false f) hc hN hi ok hv hg (fun _ _ _ _ _ => pts_nil) hi1 hg1 ht1 he hs hs1).imp fun σ H Q h => comp2_read h
end
end EV

namespace EV
open PySem PySem.Spec PyProof.Rows L2

/-! ### what is held against the text -/
def locB (names : List (Str × NameKind)) (x : Str) : Bool := match names.lookup x with
  | some .local => true
  | some .cell => true
  | some .free => true
  | _ => false
def glB (names : List (Str × NameKind)) (x : Str) : Bool := match names.lookup x with
  | some .globalImplicit => true
  | _ => false
def storeB (names : List (Str × NameKind)) (fn : Str → Bool) (x : Str) : Bool := match names.lookup x with
  | some .local => true
  | some .cell => fn x
  | _ => false
def ckTg (names : List (Str × NameKind)) (fn : Str → Bool) : Expr → Bool
  | .Name x _ => storeB names fn x
  | .Tuple es _ _ => areNames es && es.all fun e => match e with
    | .Name x _ => storeB names fn x
    | _ => false
  | _ => false
def isSet : Expr → Bool
  | .Set _ _ _ => true
  | _ => false
def isTup : Expr → Bool
  | .Tuple _ _ _ => true
  | _ => false
def unStar : Expr → Expr
  | .Starred e _ => e
  | e => e
def isSlice : Expr → Bool
  | .Slice _ _ _ _ => true
  | _ => false
def kindB : NameKind → NameKind → Bool := fun a b => decide (a = b)
def blkB (N : List Str) (names : List (Str × NameKind)) (scope : Scope) : Bool :=
  decide (scope.kind = .function) && scope.names.all fun y => decide (scope.names.lookup y.1 = some y.2) && (match y.2 with
    | .free => decide (names.lookup y.1 = some .cell) || decide (names.lookup y.1 = some .free)
    | _ => true)
def okX (x : Str) : Bool := !(x == ("__debug__" : Str)) && !(x == ("__classdict__" : Str))
def subB (a b : List Nat) : Bool := a.all fun i => b.contains i
def ckE (N fns : List Str) : Nat → Scope → (Str → Bool) → Expr → Bool
  | 0, _, _, _ => false
  | m + 1, sc, fn, e =>
    let ckI := fun (sc : Scope) (fn : Str → Bool) (tg e : Expr) => !isSet e && (match e with
      | .Call (.Name g _) as [] _ => cond (decide (g = "range")) (glB sc.names g && match as with
        | [a] => !isStar a && ckE N fns m sc fn a
        | [a, a'] => (!isStar a && ckE N fns m sc fn a) && (!isStar a' && ckE N fns m sc fn a')
        | _ => false) (cond (decide (g = "zip")) (glB sc.names g && (isTup tg && match as with
        | [a, a'] => (!isStar a && ckE N fns m sc fn a) && (!isStar a' && ckE N fns m sc fn a')
        | _ => false)) (ckE N fns m sc fn e))
      | e => ckE N fns m sc fn e)
    match e with
    | .Constant k _ _ => (match k with
      | .str s => PyData.canLay0 (.str s)
      | _ => true)
    | .Name x _ => okX x && (match N.idxOf? x with
      | some _ => locB sc.names x
      | none => glB sc.names x)
    | .Tuple es _ _ => es.all fun e => ckE N fns m sc fn (unStar e)
    | .List es _ => es.all fun e => ckE N fns m sc fn (unStar e)
    | .BinOp l _ r _ => ckE N fns m sc fn l && ckE N fns m sc fn r
    | .UnaryOp _ x _ => ckE N fns m sc fn x
    | .BoolOp _ vs _ => vs.all fun e => ckE N fns m sc fn e
    | .IfExp t x y _ => ckE N fns m sc fn t && (ckE N fns m sc fn x && ckE N fns m sc fn y)
    | .Compare l [_] [r] _ => !isSet r && (ckE N fns m sc fn l && ckE N fns m sc fn r)
    | .Compare l [_, _] [t, r] _ => (!isSet t && !isSet r) && (ckE N fns m sc fn l && (ckE N fns m sc fn t && ckE N fns m sc fn r))
    | .Subscript x (.Slice lo hi none _) _ => ckE N fns m sc fn x && (lo.all (fun e => ckE N fns m sc fn e) && hi.all fun e => ckE N fns m sc fn e)
    | .Subscript x i _ => !isSlice i && (ckE N fns m sc fn x && ckE N fns m sc fn i)
    | .Call (.Name f _) as [] _ => glB sc.names f && (okX f && ((!as.isEmpty && as.all fun a => !isStar a) && cond (decide (f = "isinstance")) (match as with
        | [x, .Name t _] => glB sc.names t && ckE N fns m sc fn x
        | _ => false) ((as.all fun a => ckE N fns m sc fn a) && ((bFind f).isSome || fns.contains f))))
    | .ListComp elt [⟨t, it, ifs, 0⟩] scope _ =>
      (ckI sc fn t it && blkB N sc.names scope) && ((ckTg (relS scope sc).names (fun x => scope.names.lookup x == some .cell) t && subB (tgIx N t) ((ownOf N scope.names).map (·.2))) &&
        ((match ifs with
          | [] => true
          | [c] => ckE N fns m (relS scope sc) (fun x => scope.names.lookup x == some .cell) c
          | _ => false) && ckE N fns m (relS scope sc) (fun x => scope.names.lookup x == some .cell) elt))
    | .ListComp elt [⟨t, it, [], 0⟩, ⟨t', it', ifs', 0⟩] scope _ =>
      (ckI sc fn t it && blkB N sc.names scope) && ((ckTg (relS scope sc).names (fun x => scope.names.lookup x == some .cell) t && subB (tgIx N t) ((ownOf N scope.names).map (·.2))) &&
        ((ckI (relS scope sc) (fun x => scope.names.lookup x == some .cell) t' it' && (ckTg (relS scope sc).names (fun x => scope.names.lookup x == some .cell) t' && subB (tgIx N t') ((ownOf N scope.names).map (·.2)))) && ((match ifs' with
          | [] => true
          | [c] => ckE N fns m (relS scope sc) (fun x => scope.names.lookup x == some .cell) c
          | _ => false) && ckE N fns m (relS scope sc) (fun x => scope.names.lookup x == some .cell) elt)))
    | _ => false

structure Good (c : Cfg) (k : Nat) (fns : List Str) (X : Cx) (sc : Scope) (fn : Str → Bool) : Prop where
  nN : X.N = c.N
  nd : X.N.Nodup
  sc : X.env.scope = sc
  fn : ∀ x, fn x = true → X.fn x = true
  calm : X.calm = true
  room : Room k X.A
  gd : X.A.guards = some []
  b : ∀ bi, X.mg (bName bi) = none
  t : ∀ t, X.mg (tName t) = none
  i : X.mg "isinstance" = none
  r : X.mg "range" = none
  z : X.mg "zip" = none
  glob : ∀ x, GOk X x (c.G x)
  call : ∀ f ∈ fns, CallOk X k f (c.C f)

section
variable {c : Cfg} {k : Nat} {fns : List Str} {X : Cx} {sc : Scope} {fn : Str → Bool}
theorem Good.hu (g : Good c k fns X sc fn) : X.A.units + 65 < cLine := by have := g.room.un; omega
theorem gl_of (g : Good c k fns X sc fn) {x : Str} (h : glB sc.names x = true) : Gl X x := by
  rw [← g.sc] at h
  unfold glB at h
  show X.env.scope.names.lookup x = some .globalImplicit
  split at h
  · rename_i e; exact e
  · cases h
theorem vis_of (g : Good c k fns X sc fn) {x : Str} (h : locB sc.names x = true) : Vis X.env.scope x := by
  rw [← g.sc] at h
  unfold locB at h
  split at h
  · rename_i e; exact .inl e
  · rename_i e; exact .inr (.inl e)
  · rename_i e; exact .inr (.inr e)
  · cases h
theorem store_of (g : Good c k fns X sc fn) {x : Str} (h : storeB sc.names fn x = true) : StoreOk X x := by
  rw [← g.sc] at h
  unfold storeB at h
  split at h
  · rename_i e; exact ⟨.inl e, .inr e⟩
  · rename_i e; exact ⟨.inr e, .inl (g.fn x h)⟩
  · cases h
theorem okX_of {x : Str} (h : okX x = true) : (x == ("__debug__" : Str)) = false ∧ (x == ("__classdict__" : Str)) = false := by
  unfold okX at h
  rw [Bool.and_eq_true] at h
  exact ⟨by simpa using h.1, by simpa using h.2⟩
theorem tg_of (g : Good c k fns X sc fn) {t : Expr} (h : ckTg sc.names fn t = true) : SG X (tgIx c.N t) t fun es d => asg c.N es t d := by
  rw [← g.nN]
  refine sg_asg g.nd g.calm ?_
  cases t with
  | Name x p => exact .inl ⟨x, p, rfl, store_of g h⟩
  | Tuple es k p =>
    have h : (areNames es && es.all fun e => match e with | .Name x _ => storeB sc.names fn x | _ => false) = true := h
    rw [Bool.and_eq_true, List.all_eq_true] at h
    exact .inr ⟨es, k, p, rfl, h.1, fun x q hx => store_of g (h.2 _ hx)⟩
  | _ => cases h
theorem sub_of {a b : List Nat} (h : subB a b = true) : ∀ j ∈ a, j ∈ b := fun j hj => by
  have := List.all_eq_true.mp h j hj
  simpa using this
theorem own_ix {N : List Str} : ∀ {names : List (Str × NameKind)}, ∀ p ∈ ownOf N names, N[p.2]? = some p.1
  | (x, k) :: r, p, hp => by
    cases e : N.idxOf? x with
    | none => cases k <;> simp only [ownOf, e] at hp <;> exact own_ix p hp
    | some i =>
      cases k with
      | free => simp only [ownOf] at hp; exact own_ix p hp
      | _ =>
        simp only [ownOf, e, List.mem_cons] at hp
        rcases hp with rfl | hp
        · exact ix_get e
        · exact own_ix p hp
theorem own_mem {N : List Str} : ∀ {names : List (Str × NameKind)}, ∀ y ∈ names, y.2 ≠ .free → y.1 ∈ (ownOf N names).map (·.1) ∨ y.1 ∉ N
  | (x, k) :: r, y, hy, hf => by
    have tail : y ∈ r → y.1 ∈ (ownOf N ((x, k) :: r)).map (·.1) ∨ y.1 ∉ N := fun h => by
      rcases own_mem (N := N) y h hf with z | z
      · left
        cases e : N.idxOf? x <;> cases k <;> simp only [ownOf, e, List.map_cons, List.mem_cons] <;> first | exact z | exact .inr z
      · exact .inr z
    rcases List.mem_cons.mp hy with rfl | hy
    · cases e : N.idxOf? x with
      | none => right; intro hm; rw [List.idxOf?_eq_none_iff] at e; exact e hm
      | some i =>
        left
        cases k with
        | free => exact absurd rfl hf
        | _ => simp [ownOf, e]
    · exact tail hy
theorem blk_of (g : Good c k fns X sc fn) {scope : Scope} (h : blkB c.N sc.names scope = true) : BlkOk X.N X.env.scope scope (ownOf c.N scope.names) := by
  unfold blkB at h
  rw [Bool.and_eq_true, List.all_eq_true] at h
  rw [g.nN, g.sc]
  refine ⟨of_decide_eq_true h.1, fun y hy => ?_, own_ix, fun y hy e => ?_, fun y hy e => own_mem y hy ?_⟩
  · have := h.2 y hy
    rw [Bool.and_eq_true] at this
    exact of_decide_eq_true this.1
  · have := h.2 y hy
    rw [Bool.and_eq_true, e] at this
    rcases Bool.or_eq_true_iff.mp this.2 with z | z
    · exact .inl (of_decide_eq_true z)
    · exact .inr (of_decide_eq_true z)
  · rintro z
    rcases e with e | e <;> rw [z] at e <;> cases e
theorem good_blk (g : Good c k fns X sc fn) (scope : Scope) (s : Shared) (H : Hp) (C : Addr) (cl : List (Str × Addr)) (fp : List Addr) : Good c k fns (blk X scope s H C cl fp) (relS scope sc) fun x => scope.names.lookup x == some .cell :=
  ⟨g.nN, g.nd, by show relS scope X.env.scope = _; rw [g.sc], fun x h => h, g.calm, g.room, g.gd, g.b, g.t, g.i, g.r, g.z, g.glob, fun f hf => ⟨(g.call f hf).ex⟩⟩
end
end EV

namespace EV
open PySem PySem.Spec PyProof.Rows L2
section
variable {c : Cfg} {k : Nat} {fns : List Str} {X : Cx} {b : Bool} {e : Expr}
theorem se_none : SE X b e fun _ => none := ⟨fun _ _ _ _ _ _ ⟨O, Ow, es, d, hO, F, e, q⟩ => by cases e⟩
theorem st_none : ST X e fun _ => none := ⟨fun _ _ _ _ _ _ ⟨O, Ow, es, d, hO, F, e, q⟩ => by cases e⟩
theorem sw_none : SW X e fun _ => none := ⟨fun _ _ _ _ _ _ _ ⟨O, Ow, es, d, hO, F, e, q⟩ => by cases e⟩
theorem set_no {e : Expr} (h : isSet e = false) : ∀ a k p, e ≠ .Set a k p := fun a k p z => by subst z; cases h
theorem slice_no {e : Expr} (h : isSlice e = false) : ∀ a b c d, e ≠ .Slice a b c d := fun _ _ _ _ z => by subst z; cases h
theorem fold_set {e : Expr} (h : isSet e = false) (env : Env) (x : Value) : foldedSetIterable e env x = pure x := by
  cases e <;> first | rfl | cases h
theorem marks2 {o o' : CmpOp} {a b : Expr} (h : isSet b = false) : lastMarks [o, o'] [a, b] = false := by
  show behindInMarks o' b = false
  exact mark_of (set_no h)
/-- what holds of all expressions at one depth -/
structure Snd (c : Cfg) (k : Nat) (fns : List Str) (n : Nat) : Prop where
  e : ∀ (m : Nat) (X : Cx) (sc : Scope) (fn : Str → Bool), Good c k fns X sc fn → ∀ e, ckE c.N fns m sc fn e = true → (∀ b, SE X b e fun σ => ev c n b σ e) ∧ (ST X e fun σ => tst c n σ e) ∧ (isFresh e = true → SF X e fun σ => ev c n false σ e)
  a : ∀ (m : Nat) (X : Cx) (sc : Scope) (fn : Str → Bool), Good c k fns X sc fn → ∀ vs pos, (∀ e ∈ vs, ckE c.N fns m sc fn e = true) → (∀ b, SE X b (.BoolOp .And vs pos) fun σ => andV c n b σ vs) ∧ (∀ b, SE X b (.BoolOp .Or vs pos) fun σ => orV c n b σ vs) ∧
    (SW X (.BoolOp .And vs pos) fun σ => andT c n σ vs) ∧ (SW X (.BoolOp .Or vs pos) fun σ => orT c n σ vs)
  o : ∀ (m : Nat) (X : Cx) (sc : Scope) (fn : Str → Bool), Good c k fns X sc fn → ∀ lo : Option Expr, (∀ e, lo = some e → ckE c.N fns m sc fn e = true) → SO X lo fun σ => part c n σ lo
theorem snd_zero : Snd c k fns 0 := by
  refine ⟨fun m X sc fn g e h => ⟨fun b => se_none, ?_, fun _ => ⟨fun _ _ _ _ _ _ ⟨O, Ow, es, d, hO, F, e, q⟩ => by cases e⟩⟩, fun m X sc fn g vs pos h => ⟨fun b => se_none, fun b => se_none, ?_, ?_⟩, fun m X sc fn g lo h => ⟨fun _ _ _ _ _ _ ⟨O, Ow, es, d, hO, F, e, q⟩ => by cases e⟩⟩
  · exact st_none.eqf fun es d h => by cases h
  · exact sw_none.imp fun σ H Q ⟨O, Ow, es, d, hO, F, e, q⟩ => by cases e
  · exact sw_none.imp fun σ H Q ⟨O, Ow, es, d, hO, F, e, q⟩ => by cases e
end
section
variable {c : Cfg} {k : Nat} {fns : List Str} {n m : Nat} {X : Cx} {sc : Scope} {fn : Str → Bool}
/-- displays' items, arguments -/
theorem sa_args (S : Snd c k fns n) (g : Good c k fns X sc fn) (b0 : Bool) : ∀ es : List Expr, (∀ e ∈ es, ckE c.N fns m sc fn (unStar e) = true) → SA X b0 es fun σ => args (fun b e => ev c n (b || b0) σ e) es
  | [], _ => sa_nil
  | e :: es, h => by
    have ih := sa_args S g b0 es fun e he => h e (List.mem_cons_of_mem _ he)
    have h0 := h e List.mem_cons_self
    by_cases hs : isStar e = true
    · cases e with
      | Starred e' p => exact sa_star ((S.e m X sc fn g e' h0).1 true) ih
      | _ => cases hs
    · have hs : isStar e = false := by simpa using hs
      have hu : unStar e = e := by cases e <;> first | rfl | cases hs
      rw [hu] at h0
      refine (sa_cons (star_no hs) ((S.e m X sc fn g e h0).1 b0) ih).eqf fun σ ds hd => ?_
      cases e <;> first | exact hd | cases hs
def ckI (N fns : List Str) (m : Nat) (sc : Scope) (fn : Str → Bool) (tg e : Expr) : Bool := !isSet e && (match e with
      | .Call (.Name g _) as [] _ => cond (decide (g = "range")) (glB sc.names g && match as with
        | [a] => !isStar a && ckE N fns m sc fn a
        | [a, a'] => (!isStar a && ckE N fns m sc fn a) && (!isStar a' && ckE N fns m sc fn a')
        | _ => false) (cond (decide (g = "zip")) (glB sc.names g && (isTup tg && match as with
        | [a, a'] => (!isStar a && ckE N fns m sc fn a) && (!isStar a' && ckE N fns m sc fn a')
        | _ => false)) (ckE N fns m sc fn e))
      | e => ckE N fns m sc fn e)
theorem si_iter (S : Snd c k fns n) (g : Good c k fns X sc fn) {b : Bool} {tg it : Expr} (h : ckI c.N fns m sc fn tg it = true) : SI X b tg it fun σ => iter c.N (ev c n b σ) it := by
  unfold ckI at h
  rw [Bool.and_eq_true] at h
  obtain ⟨hset, h⟩ := h
  clear hset
  have base : ckE c.N fns m sc fn it = true → SI X b tg it fun σ => (ev c n b σ it).bind items := fun hc => si_seq ((S.e m X sc fn g it hc).1 b)
  unfold iter
  split
  · rename_i x p a q
    by_cases hr : x = "range"
    · subst hr
      simp only [decide_true, cond_true, Bool.and_eq_true] at h ⊢
      exact si_range1 rfl (gl_of g h.1) g.r (by simpa using h.2.1) ((S.e m X sc fn g a h.2.2).1 b)
    · simp only [decide_eq_false hr, cond_false] at h ⊢
      by_cases hz : x = "zip"
      · exfalso
        rw [decide_eq_true hz, cond_true, Bool.and_eq_true, Bool.and_eq_true] at h
        exact absurd h.2.2 (by simp)
      · rw [decide_eq_false hz, cond_false] at h
        exact base h
  · rename_i x p a a' q
    by_cases hr : x = "range"
    · subst hr
      simp only [decide_true, cond_true, Bool.and_eq_true] at h ⊢
      exact si_range2 rfl (gl_of g h.1) g.r (by simpa using h.2.1.1) (by simpa using h.2.2.1) ((S.e m X sc fn g a h.2.1.2).1 b) ((S.e m X sc fn g a' h.2.2.2).1 b)
    · by_cases hz : x = "zip"
      · subst hz
        simp only [decide_eq_false hr, decide_true, cond_false, cond_true, Bool.and_eq_true] at h ⊢
        obtain ⟨es, kk, tp, rfl⟩ : ∃ es kk tp, tg = .Tuple es kk tp := by
          have := h.2.1
          cases tg <;> first | exact ⟨_, _, _, rfl⟩ | cases this
        exact si_zip rfl (gl_of g h.1) g.z (by simpa using h.2.2.1.1) (by simpa using h.2.2.2.1) ((S.e m X sc fn g a h.2.2.1.2).1 b) ((S.e m X sc fn g a' h.2.2.2.2).1 b)
      · simp only [decide_eq_false hr, decide_eq_false hz, cond_false] at h ⊢
        exact base h
  · rename_i h1 h2
    split at h
    · rename_i x p as q
      by_cases hr : x = "range"
      · exfalso
        rw [decide_eq_true hr, cond_true, Bool.and_eq_true] at h
        match as, h1, h2, h with
        | [], _, _, h => exact absurd h.2 (by simp)
        | [a], h1, _, _ => exact h1 _ _ _ _ rfl
        | [a, a'], _, h2, _ => exact h2 _ _ _ _ _ rfl
        | a :: a' :: a'' :: r, _, _, h => exact absurd h.2 (by simp)
      · rw [decide_eq_false hr, cond_false] at h
        by_cases hz : x = "zip"
        · exfalso
          rw [decide_eq_true hz, cond_true, Bool.and_eq_true, Bool.and_eq_true] at h
          match as, h1, h2, h with
          | [], _, _, h => exact absurd h.2.2 (by simp)
          | [a], h1, _, _ => exact h1 _ _ _ _ rfl
          | [a, a'], _, h2, _ => exact h2 _ _ _ _ _ rfl
          | a :: a' :: a'' :: r, _, _, h => exact absurd h.2.2 (by simp)
        · rw [decide_eq_false hz, cond_false] at h
          exact base h
    · exact base h

theorem args_true (c : Cfg) (n : Nat) (σ : List Sl) : ∀ es : List Expr, (∀ e ∈ es, isStar e = false) → args (fun _ e => ev c n true σ e) es = args (fun b e => ev c n (b || true) σ e) es
  | [], _ => rfl
  | e :: es, h => by
    have h0 := h e List.mem_cons_self
    have ih := args_true c n σ es fun e he => h e (List.mem_cons_of_mem _ he)
    cases e <;> first | (cases h0; done) | (unfold args; rw [ih]; rfl)
theorem args_false (c : Cfg) (n : Nat) (σ : List Sl) : ∀ es : List Expr, (∀ e ∈ es, isStar e = false) → args (fun _ e => ev c n false σ e) es = args (fun b e => ev c n (b || false) σ e) es
  | [], _ => rfl
  | e :: es, h => by
    have h0 := h e List.mem_cons_self
    have ih := args_false c n σ es fun e he => h e (List.mem_cons_of_mem _ he)
    cases e <;> first | (cases h0; done) | (unfold args; rw [ih]; rfl)
theorem args_disp (c : Cfg) (n : Nat) (σ : List Sl) (es : List Expr) : args (fun b e => ev c n b σ e) es = args (fun b e => ev c n (b || false) σ e) es := by
  have : (fun (b : Bool) e => ev c n b σ e) = fun b e => ev c n (b || false) σ e := by funext b e; cases b <;> rfl
  rw [← this]
theorem pts_of (S : Snd c k fns n) (g : Good c k fns X sc fn) {ifs : List Expr} (h : (match ifs with
          | [] => true
          | [c'] => ckE c.N fns m sc fn c'
          | _ => false) = true) : PTs X ifs (tT X.K X.w fun σ => tests (tst c n σ) ifs) := by
  match ifs, h with
  | [], _ => exact ⟨fun pins s σ H Q I ⟨O, Ow, es, d, hO, F, e, q⟩ => (pts_nil (X := X)).run pins s σ H Q I (by cases e; exact q H (Same.refl H))⟩
  | [c'], h =>
    refine ⟨fun pins s σ H Q I ⟨O, Ow, es, d, hO, F, e, q⟩ => (pts_one ((S.e m X sc fn g c' h).2.1)).run pins s σ H Q I ?_⟩
    obtain ⟨b, e1, e2⟩ := bind_some (show (tst c n es c').bind (fun b => cond b (tests (tst c n es) []) (some false)) = some d from e)
    refine ⟨O, Ow, es, d, hO, F, ?_, q⟩
    show tst c n es c' = some d
    cases b with
    | true => rw [e1]; exact e2
    | false => rw [e1]; exact e2
theorem se_of_sf {e : Expr} {f : List Sl → Option D} (h : SF X e f) {f' : Bool → List Sl → Option D} (hf : ∀ b σ, f' b σ = f σ) (b : Bool) : SE X b e (f' b) := by
  have : f' b = f := funext (hf b)
  rw [this]
  exact h.se
theorem SF.eqf {X : Cx} {e : Expr} {f f' : List Sl → Option D} (h : SF X e f) (hf : ∀ σ, f' σ = f σ) : SF X e f' := by
  rw [funext hf]
  exact h
theorem ev_lc1 (c : Cfg) (n : Nat) (b : Bool) (σ : List Sl) (elt t it : Expr) (ifs : List Expr) (sc : Scope) (pos : Pos) : ev c (n + 1) b σ (.ListComp elt [⟨t, it, ifs, 0⟩] sc pos) =
    (iter c.N (ev c n true σ) it).bind fun xs => lim (comp1 (asg c.N (wipeD σ ((ownOf c.N sc.names).map (·.2))) t) (fun σ' => tests (tst c n σ') ifs) (fun σ' => ev c n false σ' elt) xs) := by
  have h : ∀ xs, comp1 (asg c.N (wipeD σ ((ownOf c.N sc.names).map (·.2))) t) (fun σ' => tests (tst c n σ') ifs) (fun σ' => ev c n false σ' elt) xs = _ := comp1_eq _ _ _
  simp only [h]
  rfl
theorem ev_lc2 (c : Cfg) (n : Nat) (b : Bool) (σ : List Sl) (elt t it t' it' : Expr) (ifs' : List Expr) (sc : Scope) (pos : Pos) : ev c (n + 1) b σ (.ListComp elt [⟨t, it, [], 0⟩, ⟨t', it', ifs', 0⟩] sc pos) =
    (iter c.N (ev c n true σ) it).bind fun xs => lim (comp2 (asg c.N (wipeD σ ((ownOf c.N sc.names).map (·.2))) t) (fun σ' => iter c.N (ev c n false σ') it')
      (fun σ' zs => comp1 (asg c.N (wipeD σ' (tgIx c.N t')) t') (fun σ'' => tests (tst c n σ'') ifs') (fun σ'' => ev c n false σ'' elt) zs) xs) := by
  simp only [comp2_eq, comp1_eq]
  rfl
theorem gs_of {N : List Str} {elt : Expr} {gs : List Comprehension} {scope : Scope} {pos : Pos} (h : ckE N fns (m + 1) sc fn (.ListComp elt gs scope pos) = true) :
    (∃ t it ifs, gs = [⟨t, it, ifs, 0⟩]) ∨ ∃ t it t' it' ifs', gs = [⟨t, it, [], 0⟩, ⟨t', it', ifs', 0⟩] := by
  unfold ckE at h
  split at h <;> first | (rename_i e; cases e; done) | skip
  all_goals first | (cases h; done) | skip
  · rename_i e; cases e; exact .inl ⟨_, _, _, rfl⟩
  · rename_i e; cases e; exact .inr ⟨_, _, _, _, _, rfl⟩
theorem snd_succ (S : Snd c k fns n) : Snd c k fns (n + 1) := by
  refine ⟨fun m X sc fn g e h => ?_, fun m X sc fn g vs pos h => ?_, fun m X sc fn g lo h => ?_⟩
  · cases m with
    | zero => cases h
    | succ m =>
    -- the test of an expression that is no and, or, not, if, comparison
    have plain : (∀ b, SE X b e fun σ => ev c (n + 1) b σ e) → (isFresh e = true → SF X e fun σ => ev c (n + 1) false σ e) → (∀ whole, isTrue e X.env whole = (do let v ← whole; standAt e.pos; holding [v] (truthy v))) → (∀ σ, tst c (n + 1) σ e = (ev c n true σ e).bind truD) →
        (∀ b, SE X b e fun σ => ev c (n + 1) b σ e) ∧ (ST X e fun σ => tst c (n + 1) σ e) ∧ (isFresh e = true → SF X e fun σ => ev c (n + 1) false σ e) := fun h1 h2 h3 h4 => by
      refine ⟨h1, ?_, h2⟩
      have h5 := st_val ((S.e (m + 1) X sc fn g e h).1 true) h3
      exact h5.eqf fun σ d hd => by rw [h4] at hd; exact hd
    have nof : isFresh e = false → isFresh e = true → SF X e fun σ => ev c (n + 1) false σ e := fun h1 h2 => by rw [h1] at h2; cases h2
    cases e with
    | Constant kk j pos =>
      refine plain (fun b => se_const fun s e => ?_) (nof rfl) (fun _ => rfl) fun _ => rfl
      subst e
      exact h
    | Name x pos =>
      refine plain (fun b => ?_) (nof rfl) (fun _ => rfl) fun _ => rfl
      have h : (okX x && (match c.N.idxOf? x with | some _ => locB sc.names x | none => glB sc.names x)) = true := h
      rw [Bool.and_eq_true] at h
      obtain ⟨o1, o2⟩ := okX_of h.1
      cases hx : c.N.idxOf? x with
      | some i =>
        rw [hx] at h
        refine (se_var (pos := pos) (by rw [g.nN]; exact ix_get hx) (vis_of g h.2) o1 o2).eqf fun σ d hd => ?_
        unfold ev at hd
        simp only [hx] at hd
        exact hd
      | none =>
        rw [hx] at h
        refine (se_glob (pos := pos) (gl_of g h.2) (g.glob x) o1).eqf fun σ d hd => ?_
        unfold ev at hd
        simp only [hx] at hd
        exact hd
    | Tuple es kk pos =>
      refine plain (fun b => ?_) (nof rfl) (fun _ => rfl) fun _ => rfl
      have h : (es.all fun e => ckE c.N fns m sc fn (unStar e)) = true := h
      rw [List.all_eq_true] at h
      refine (se_tuple (sa_args S g false es h)).eqf fun σ d hd => ?_
      unfold ev at hd
      simp only [args_disp] at hd
      exact hd
    | List es pos =>
      have h : (es.all fun e => ckE c.N fns m sc fn (unStar e)) = true := h
      rw [List.all_eq_true] at h
      have hF : ∀ b, SF X (.List es pos) fun σ => ev c (n + 1) b σ (.List es pos) := fun b => (sf_list (pos := pos) (sa_args S g false es h)).imp fun σ H Q ⟨O, Ow, es', d, hO, F, e, q⟩ => ⟨O, Ow, es', d, hO, F, by
        unfold ev at e
        simp only [args_disp] at e
        exact e, q⟩
      exact plain (fun b => (hF b).se) (fun _ => hF false) (fun _ => rfl) fun _ => rfl
    | BinOp l o r pos =>
      refine plain (fun b => ?_) (nof rfl) (fun _ => rfl) fun _ => rfl
      have h : (ckE c.N fns m sc fn l && ckE c.N fns m sc fn r) = true := h
      rw [Bool.and_eq_true] at h
      exact se_bin ((S.e m X sc fn g l h.1).1 true) ((S.e m X sc fn g r h.2).1 true)
    | UnaryOp o x pos =>
      have h : ckE c.N fns m sc fn x = true := h
      cases o with
      | Not => exact ⟨fun b => se_not ((S.e m X sc fn g x h).1 true), st_not ((S.e m X sc fn g x h).2.1), nof rfl⟩
      | USub => exact plain (fun b => se_neg ((S.e m X sc fn g x h).1 true)) (nof rfl) (fun _ => rfl) fun _ => rfl
      | _ => exact plain (fun b => se_none) (nof rfl) (fun _ => rfl) fun _ => rfl
    | BoolOp o vs pos =>
      have h : (vs.all fun e => ckE c.N fns m sc fn e) = true := h
      rw [List.all_eq_true] at h
      obtain ⟨h1, h2, h3, h4⟩ := S.a m X sc fn g vs pos h
      cases o with
      | And => exact ⟨h1, h3.pt, nof rfl⟩
      | Or => exact ⟨h2, h4.pt, nof rfl⟩
    | IfExp t x y pos =>
      have h : (ckE c.N fns m sc fn t && (ckE c.N fns m sc fn x && ckE c.N fns m sc fn y)) = true := h
      rw [Bool.and_eq_true, Bool.and_eq_true] at h
      exact ⟨fun b => se_ifExp ((S.e m X sc fn g t h.1).2.1) ((S.e m X sc fn g x h.2.1).1 b) ((S.e m X sc fn g y h.2.2).1 b), st_ifExp ((S.e m X sc fn g t h.1).2.1) ((S.e m X sc fn g x h.2.1).2.1) ((S.e m X sc fn g y h.2.2).2.1), nof rfl⟩
    | Compare l ops rs pos =>
      match ops, rs, h with
      | [o], [r], h =>
        have h : (!isSet r && (ckE c.N fns m sc fn l && ckE c.N fns m sc fn r)) = true := h
        rw [Bool.and_eq_true, Bool.and_eq_true] at h
        have hr := set_no (show isSet r = false by simpa using h.1)
        exact ⟨fun b => se_cmp g.hu hr ((S.e m X sc fn g l h.2.1).1 true) ((S.e m X sc fn g r h.2.2).1 true), st_cmp g.hu hr ((S.e m X sc fn g l h.2.1).1 true) ((S.e m X sc fn g r h.2.2).1 true), nof rfl⟩
      | [o, o'], [t, r], h =>
        have h : ((!isSet t && !isSet r) && (ckE c.N fns m sc fn l && (ckE c.N fns m sc fn t && ckE c.N fns m sc fn r))) = true := h
        rw [Bool.and_eq_true, Bool.and_eq_true, Bool.and_eq_true, Bool.and_eq_true] at h
        have hr := marks2 (o := o) (o' := o') (a := t) (show isSet r = false by simpa using h.1.2)
        exact ⟨fun b => se_chain g.hu hr ((S.e m X sc fn g l h.2.1).1 true) ((S.e m X sc fn g t h.2.2.1).1 true) ((S.e m X sc fn g r h.2.2.2).1 true), st_chain g.hu hr ((S.e m X sc fn g l h.2.1).1 true) ((S.e m X sc fn g t h.2.2.1).1 true) ((S.e m X sc fn g r h.2.2.2).1 true), nof rfl⟩
      | [], _, h => cases h
      | [_], [], h => cases h
      | [_], _ :: _ :: _, h => cases h
      | [_, _], [], h => cases h
      | [_, _], [_], h => cases h
      | [_, _], _ :: _ :: _ :: _, h => cases h
      | _ :: _ :: _ :: _, _, h => cases h
    | Subscript x i pos =>
      cases hi : isSlice i with
      | false =>
        have h : (ckE c.N fns m sc fn x && ckE c.N fns m sc fn i) = true := by
          cases i <;> first | (cases hi; done) | exact h
        rw [Bool.and_eq_true] at h
        refine plain (fun b => (se_ix (slice_no hi) ((S.e m X sc fn g x h.1).1 true) ((S.e m X sc fn g i h.2).1 true)).eqf fun σ d hd => ?_) (nof rfl) (fun _ => rfl) fun _ => rfl
        cases i <;> first | (cases hi; done) | exact hd
      | true =>
        cases i with
        | Slice lo hi' st p =>
          cases st with
          | some _ => cases h
          | none =>
            have h : (ckE c.N fns m sc fn x && (lo.all (fun e => ckE c.N fns m sc fn e) && hi'.all fun e => ckE c.N fns m sc fn e)) = true := h
            rw [Bool.and_eq_true, Bool.and_eq_true] at h
            have ho : ∀ o : Option Expr, (o.all fun e => ckE c.N fns m sc fn e) = true → ∀ e, o = some e → ckE c.N fns m sc fn e = true := fun o h e he => by subst he; exact h
            exact plain (fun b => se_slice ((S.e m X sc fn g x h.1).1 true) (S.o m X sc fn g lo (ho lo h.2.1)) (S.o m X sc fn g hi' (ho hi' h.2.2))) (nof rfl) (fun _ => rfl) fun _ => rfl
        | _ => cases hi
    | Call fe as kws pos =>
      cases fe with
      | Name f p =>
        cases kws with
        | cons _ _ => cases h
        | nil =>
          have h : (glB sc.names f && (okX f && ((!as.isEmpty && as.all fun a => !isStar a) && cond (decide (f = "isinstance")) (match (generalizing := false) as with
            | [x, .Name t _] => glB sc.names t && ckE c.N fns m sc fn x
            | _ => false) ((as.all fun a => ckE c.N fns m sc fn a) && ((bFind f).isSome || fns.contains f))))) = true := h
          rw [Bool.and_eq_true, Bool.and_eq_true, Bool.and_eq_true, Bool.and_eq_true] at h
          obtain ⟨hg, ho, ⟨hne, hst⟩, hc⟩ := h
          have hst : ∀ a ∈ as, isStar a = false := fun a ha => by simpa using List.all_eq_true.mp hst a ha
          refine plain (fun b => ?_) (nof rfl) (fun _ => rfl) fun _ => rfl
          by_cases hi : f = "isinstance"
          · rw [decide_eq_true hi, cond_true] at hc
            split at hc
            · rename_i _ x t p2 _
              rw [Bool.and_eq_true] at hc
              cases ht : tFind t with
              | none =>
                refine se_none.eqf fun σ d hd => ?_
                unfold ev at hd
                simp only [hi, decide_true, cond_true, ht] at hd
                cases hd
              | some t' =>
                have e := tFindIn_ok ht
                subst e
                refine (se_isi (t := t') hi (gl_of g hg) (by rw [hi]; exact g.i) (gl_of g hc.1) (g.t t') (hst x (by simp)) ((S.e m X sc fn g x hc.2).1 true)).eqf fun σ d hd => ?_
                unfold ev at hd
                simp only [hi, decide_true, cond_true, ht] at hd
                exact hd
            · cases hc
          · rw [decide_eq_false hi, cond_false, Bool.and_eq_true, List.all_eq_true] at hc
            match as, hne, hst, hc with
            | [], hne, _, _ => cases hne
            | a :: as, _, hst, hc =>
              have hu : ∀ e ∈ a :: as, ckE c.N fns m sc fn (unStar e) = true := fun e he => by
                have h1 := hst e he
                have h2 := hc.1 e he
                cases e <;> first | (cases h1; done) | exact h2
              cases hb : bFind f with
              | some bi =>
                have e := bFindIn_ok hb
                subst e
                refine (se_builtin (bi := bi) g.calm g.hu g.gd (gl_of g hg) (g.b bi) (hst a List.mem_cons_self) (fun e he => hst e (List.mem_cons_of_mem _ he)) (sa_args S g true (a :: as) hu)).eqf fun σ d hd => ?_
                unfold ev at hd
                simp only [decide_eq_false hi, cond_false, hb, args_true c n σ _ hst] at hd
                exact hd
              | none =>
                rw [hb] at hc
                have hf : f ∈ fns := by simpa using hc.2
                refine (se_call (g.call f hf) g.room g.gd (gl_of g hg) (okX_of ho).1 (hst a List.mem_cons_self) (fun e he => hst e (List.mem_cons_of_mem _ he)) (sa_args S g false (a :: as) hu)).eqf fun σ d hd => ?_
                unfold ev at hd
                simp only [decide_eq_false hi, cond_false, hb, args_false c n σ _ hst] at hd
                exact hd
      | _ => cases h
    | ListComp elt gs scope pos =>
      have done : (∀ b, SF X (.ListComp elt gs scope pos) fun σ => ev c (n + 1) b σ (.ListComp elt gs scope pos)) → (∀ b, SE X b (.ListComp elt gs scope pos) fun σ => ev c (n + 1) b σ (.ListComp elt gs scope pos)) ∧ (ST X (.ListComp elt gs scope pos) fun σ => tst c (n + 1) σ (.ListComp elt gs scope pos)) ∧ (isFresh (.ListComp elt gs scope pos) = true → SF X (.ListComp elt gs scope pos) fun σ => ev c (n + 1) false σ (.ListComp elt gs scope pos)) := fun hF =>
        plain (fun b => (hF b).se) (fun _ => hF false) (fun _ => rfl) fun _ => rfl
      have setno : ∀ {sc fn t e}, ckI c.N fns m sc fn t e = true → isSet e = false := fun h => by
        unfold ckI at h
        rw [Bool.and_eq_true] at h
        simpa using h.1
      rcases gs_of h with ⟨t, it, ifs, rfl⟩ | ⟨t, it, t', it', ifs', rfl⟩
      ·
        have h : ((ckI c.N fns m sc fn t it && blkB c.N sc.names scope) && ((ckTg (relS scope sc).names (fun x => scope.names.lookup x == some .cell) t && subB (tgIx c.N t) ((ownOf c.N scope.names).map (·.2))) &&
          ((match (generalizing := false) ifs with
            | [] => true
            | [c'] => ckE c.N fns m (relS scope sc) (fun x => scope.names.lookup x == some .cell) c'
            | _ => false) && ckE c.N fns m (relS scope sc) (fun x => scope.names.lookup x == some .cell) elt))) = true := h
        rw [Bool.and_eq_true, Bool.and_eq_true, Bool.and_eq_true, Bool.and_eq_true, Bool.and_eq_true] at h
        obtain ⟨⟨hi, hb⟩, ⟨ht, hsub⟩, hifs, helt⟩ := h
        refine done fun b => ?_
        refine SF.eqf ?_ fun σ => ev_lc1 c n b σ elt t it ifs scope pos
        refine sf_comp1 (own := ownOf c.N scope.names) g.calm g.nd (si_iter S g hi) (blk_of g hb) (fun s H C cl fp => (tg_of (good_blk g scope s H C cl fp) ht).mono (sub_of hsub)) (fun s H C cl fp => pts_of S (good_blk g scope s H C cl fp) hifs) (fun s H C cl fp => (S.e m _ _ _ (good_blk g scope s H C cl fp) elt helt).1 false) (fold_set (setno hi) _)
      ·
        have h : ((ckI c.N fns m sc fn t it && blkB c.N sc.names scope) && ((ckTg (relS scope sc).names (fun x => scope.names.lookup x == some .cell) t && subB (tgIx c.N t) ((ownOf c.N scope.names).map (·.2))) &&
          ((ckI c.N fns m (relS scope sc) (fun x => scope.names.lookup x == some .cell) t' it' && (ckTg (relS scope sc).names (fun x => scope.names.lookup x == some .cell) t' && subB (tgIx c.N t') ((ownOf c.N scope.names).map (·.2)))) && ((match (generalizing := false) ifs' with
            | [] => true
            | [c'] => ckE c.N fns m (relS scope sc) (fun x => scope.names.lookup x == some .cell) c'
            | _ => false) && ckE c.N fns m (relS scope sc) (fun x => scope.names.lookup x == some .cell) elt)))) = true := h
        rw [Bool.and_eq_true, Bool.and_eq_true, Bool.and_eq_true, Bool.and_eq_true, Bool.and_eq_true, Bool.and_eq_true, Bool.and_eq_true, Bool.and_eq_true] at h
        obtain ⟨⟨hi, hb⟩, ⟨ht, hsub⟩, ⟨hi', ht', hsub'⟩, hifs, helt⟩ := h
        refine done fun b => ?_
        refine SF.eqf ?_ fun σ => ev_lc2 c n b σ elt t it t' it' ifs' scope pos
        exact sf_comp2 (own := ownOf c.N scope.names) (vs1 := tgIx c.N t') g.calm g.nd (si_iter S g hi) (blk_of g hb) (sub_of hsub') (fun s H C cl fp => (tg_of (good_blk g scope s H C cl fp) ht).mono (sub_of hsub)) (fun s H C cl fp => si_iter S (good_blk g scope s H C cl fp) hi') (fun s H C cl fp => tg_of (good_blk g scope s H C cl fp) ht') (fun s H C cl fp => pts_of S (good_blk g scope s H C cl fp) hifs) (fun s H C cl fp => (S.e m _ _ _ (good_blk g scope s H C cl fp) elt helt).1 false) (fold_set (setno hi) _) (fold_set (setno hi'))
    | _ => cases h
  · match vs, h with
    | [], _ =>
      refine ⟨fun b => se_none, fun b => se_none, ?_, ?_⟩
      · exact sw_none.imp fun σ H Q ⟨O, Ow, es, d, hO, F, e, q⟩ => by cases e
      · exact sw_none.imp fun σ H Q ⟨O, Ow, es, d, hO, F, e, q⟩ => by cases e
    | [e], h =>
      obtain ⟨h1, h2, h3⟩ := S.e m X sc fn g e (h e List.mem_cons_self)
      exact ⟨fun b => se_and1 (h1 b), fun b => se_and1 (h1 b), sw_and1 h2, sw_or1 h2⟩
    | e :: e' :: r, h =>
      obtain ⟨h1, h2, h3⟩ := S.e m X sc fn g e (h e List.mem_cons_self)
      obtain ⟨i1, i2, i3, i4⟩ := S.a m X sc fn g (e' :: r) pos fun x hx => h x (List.mem_cons_of_mem _ hx)
      exact ⟨fun b => se_and (h1 b) (i1 b), fun b => se_or (h1 b) (i2 b), sw_and h2 i3, sw_or h2 i4⟩
  · cases lo with
    | none => exact so_none
    | some e => exact so_some ((S.e m X sc fn g e (h e rfl)).1 true)
theorem snd_all : ∀ n, Snd c k fns n
  | 0 => snd_zero
  | n + 1 => snd_succ (snd_all n)
end
end EV

namespace EV
open PySem PySem.Spec PyProof.Rows L2

/-! ### the state between statements -/
structure Rs (K : PySem.W.Frag) (w : World) (O0 : Addr → Prop) (H0 : Hp) (O : Addr → Prop) (es : List Sl) (σ : L2.St) (H : Hp) : Prop where
  ok : OkO O H
  sub : ∀ a, O0 a → O a
  new : ∀ a, O a → O0 a ∨ H0 a = none
  k0 : Same H0 H
  fr : Fr K w O (fun a => ¬ O0 a) es σ H
  inj : ∀ (i j : Nat) (l l' : List D) (a : Addr), es[i]? = some (.ow l) → es[j]? = some (.ow l') → σ[i]? = some (some (.ref a)) → σ[j]? = some (some (.ref a)) → i = j
  len : σ.length = es.length
/-- a stretch of work -/
structure Stp (O : Addr → Prop) (H : Hp) (O' : Addr → Prop) (H' : Hp) : Prop where
  k : Keeps O H H'
  o : ∀ a, O' a → O a ∨ H a = none
  g : ∀ a, H' a = none → H a = none
section
variable {K : PySem.W.Frag} {w : World} {O0 : Addr → Prop} {H0 : Hp} {O O' O1 O2 O3 : Addr → Prop} {es es' : List Sl} {σ σ' : L2.St} {H H' H1 H2 H3 : Hp}
theorem same_none (s : Same H H') {a : Addr} (h : H' a = none) : H a = none := s.free h
theorem Stp.same (s : Same H H') : Stp O H O H' := ⟨Same.keeps s, fun _ h => .inl h, fun _ => s.free⟩
theorem Stp.refl : Stp O H O H := .same (Same.refl H)
theorem Stp.trans (a : Stp O1 H1 O2 H2) (b : Stp O2 H2 O3 H3) : Stp O1 H1 O3 H3 := by
  have no : ∀ x xs, H1 x = some (.lst xs) → ¬ O1 x → ¬ O2 x := fun x xs e n z => (a.o x z).elim n fun q => by rw [q] at e; cases e
  refine ⟨⟨fun x xs e n => b.k.l _ _ (a.k.l _ _ e n) (no x xs e n), fun x xs e => b.k.t _ _ (a.k.t _ _ e), fun x o u e => b.k.f _ _ _ (a.k.f _ _ _ e)⟩, fun x z => ?_, fun x z => a.g x (b.g x z)⟩
  rcases b.o x z with z | z
  · exact a.o x z
  · exact .inr (a.g x z)
theorem Stp.less (h : ∀ a, O' a → O a) : Stp O H O' H := ⟨Same.keeps (Same.refl H), fun a z => .inl (h a z), fun _ z => z⟩

theorem Rs.same (R : Rs K w O0 H0 O es σ H) (s : Same H H') : Rs K w O0 H0 O es σ H' :=
  ⟨R.ok.same s, R.sub, R.new, R.k0.trans s, R.fr.same s, R.inj, R.len⟩
theorem Rs.ok0 (R : Rs K w O0 H0 O es σ H) : OkO O0 H := fun a z => R.ok a (R.sub a z)
theorem Rs.less (R : Rs K w O0 H0 O es σ H) {v : V} {d : D} (r : Ro K w O H v d) : Ro K w O0 H v d := r.less R.sub
/-- one slot is shared -/
theorem Rs.share (R : Rs K w O0 H0 O es σ H) (i : Nat) : ∃ O', Rs K w O0 H0 O' (es.modify i Sl.share) σ H ∧ Stp O H O' H := by
  have plain : es.modify i Sl.share = es → ∃ O', Rs K w O0 H0 O' (es.modify i Sl.share) σ H ∧ Stp O H O' H := fun e => ⟨O, by rw [e]; exact R, .refl⟩
  cases e : es[i]? with
  | none =>
    apply plain
    apply List.ext_getElem?
    intro j
    rw [List.getElem?_modify]
    by_cases hj : i = j
    · subst hj; rw [e]; rfl
    · simp [hj]
  | some s =>
    have keep : s.share = s → ∃ O', Rs K w O0 H0 O' (es.modify i Sl.share) σ H ∧ Stp O H O' H := fun h => plain (by
      apply List.ext_getElem?
      intro j
      rw [List.getElem?_modify]
      by_cases hj : i = j
      · subst hj; rw [e]; simp [h]
      · simp [hj])
    cases s with
    | un => exact keep rfl
    | sh d => exact keep rfl
    | ow l =>
      clear keep plain
      obtain ⟨a, xs, e1, h1, ⟨h2, h3⟩, h4⟩ := R.fr i _ e
      have lss : ∀ b, (O b ∧ b ≠ a) → O b := fun b z => z.1
      refine ⟨fun b => O b ∧ b ≠ a, ⟨fun b z => R.ok b z.1, fun b z => ⟨R.sub b z, fun q => h3 (q ▸ z)⟩, fun b z => R.new b z.1, R.k0, fun j s ej => ?_, fun j j' l1 l2 b g1 g2 => ?_, by rw [R.len, List.length_modify]⟩, Stp.less lss⟩
      · rw [List.getElem?_modify] at ej
        by_cases hj : i = j
        · subst hj
          rw [e] at ej
          simp at ej
          subst ej
          exact ⟨_, e1, .lst (.inl h1) (fun z => z.2 rfl) (h4.less lss)⟩
        · simp only [hj, if_false] at ej
          have ej : es[j]? = some s := by simpa using ej
          have hs := R.fr j s ej
          cases s with
          | un => trivial
          | sh d => obtain ⟨v, ev, r⟩ := hs; exact ⟨v, ev, r.less lss⟩
          | ow l2 =>
            obtain ⟨b, ys, f1, f2, ⟨f3, f4⟩, f5⟩ := hs
            exact ⟨b, ys, f1, f2, ⟨⟨f3, fun q => hj (R.inj i j _ _ a e ej e1 (q ▸ f1))⟩, f4⟩, f5.less lss⟩
      · rw [List.getElem?_modify] at g1 g2
        have g1' : es[j]? = some (.ow l1) := by
          by_cases hj : i = j
          · subst hj; rw [e] at g1; simp at g1; cases g1
          · simpa [hj] using g1
        have g2' : es[j']? = some (.ow l2) := by
          by_cases hj : i = j'
          · subst hj; rw [e] at g2; simp at g2; cases g2
          · simpa [hj] using g2
        exact R.inj j j' _ _ b g1' g2'
theorem Rs.shareN {N : List Str} : ∀ (xs : List Str) {O : Addr → Prop} {es : List Sl}, Rs K w O0 H0 O es σ H → ∃ O', Rs K w O0 H0 O' (shareN N xs es) σ H ∧ Stp O H O' H
  | [], O, es, R => ⟨O, R, .refl⟩
  | x :: xs, O, es, R => by
    unfold EV.shareN
    rw [List.foldl_cons]
    cases N.idxOf? x with
    | none => exact Rs.shareN xs R
    | some i =>
      obtain ⟨O1, R1, s1⟩ := R.share i
      obtain ⟨O2, R2, s2⟩ := Rs.shareN (N := N) xs R1
      exact ⟨O2, R2, s1.trans s2⟩
theorem Rs.shareAll (R : Rs K w O0 H0 O es σ H) : Fr K w O0 (fun a => ¬ O0 a) (es.map Sl.share) σ H := by
  intro j s ej
  rw [List.getElem?_map] at ej
  obtain ⟨s0, e0, rfl⟩ := Option.map_eq_some_iff.mp ej
  have hs := R.fr j s0 e0
  cases s0 with
  | un => trivial
  | sh d => obtain ⟨v, ev, r⟩ := hs; exact ⟨v, ev, r.less R.sub⟩
  | ow l =>
    obtain ⟨b, ys, f1, f2, ⟨f3, f4⟩, f5⟩ := hs
    exact ⟨_, f1, .lst (.inl f2) f4 (f5.less R.sub)⟩
theorem set_get {α : Type} {xs : List α} {i j : Nat} {x y : α} (e : (xs.set i x)[j]? = some y) : (i = j ∧ i < xs.length ∧ x = y) ∨ (i ≠ j ∧ xs[j]? = some y) := by
  by_cases hj : i = j
  · subst hj
    have hl : i < xs.length := by
      have := (List.getElem?_eq_some_iff.mp e).1
      simpa using this
    rw [List.getElem?_set_self hl] at e
    exact .inl ⟨rfl, hl, Option.some.inj e⟩
  · rw [List.getElem?_set_ne hj] at e
    exact .inr ⟨hj, e⟩
theorem Rs.setSh (R : Rs K w O0 H0 O es σ H) {i : Nat} {v : V} {d : D} (r : Ro K w O H v d) : Rs K w O0 H0 O (es.set i (.sh d)) (σ.set i (some v)) H := by
  refine ⟨R.ok, R.sub, R.new, R.k0, fun j s ej => ?_, fun j j' l l' a g1 g2 h1 h2 => ?_, by simp [R.len]⟩
  · rcases set_get ej with ⟨rfl, hl, rfl⟩ | ⟨n, ej⟩
    · rw [List.getElem?_set_self (by rw [R.len]; exact hl)]
      exact ⟨v, rfl, r⟩
    · rw [List.getElem?_set_ne n]
      exact R.fr j s ej
  · rcases set_get g1 with ⟨rfl, hl, z⟩ | ⟨n1, g1⟩
    · cases z
    rcases set_get g2 with ⟨rfl, hl, z⟩ | ⟨n2, g2⟩
    · cases z
    rw [List.getElem?_set_ne n1] at h1
    rw [List.getElem?_set_ne n2] at h2
    exact R.inj j j' l l' a g1 g2 h1 h2
/-- a fresh list becomes a slot's own -/
theorem Rs.setOw (R : Rs K w O0 H0 O es σ H) (s : Same H H') {i : Nat} {p : Addr} {xs : List V} {ds : List D} (hp : H p = none) (h1 : H' p = some (.lst xs)) (r : RoAll K w (fun a => O a ∨ a = p) H' xs ds) :
    Rs K w O0 H0 (fun a => O a ∨ a = p) (es.set i (.ow ds)) (σ.set i (some (.ref p))) H' ∧ Stp O H (fun a => O a ∨ a = p) H' := by
  have hO : ∀ a, (O a ∨ a = p) → O a ∨ H a = none := fun a z => z.imp id fun e => by rw [e]; exact hp
  have p0 : ¬ O0 p := fun z => by obtain ⟨ys, e⟩ := R.ok p (R.sub p z); rw [hp] at e; cases e
  have F1 : Fr K w (fun a => O a ∨ a = p) (fun a => ¬ O0 a) es σ H' := R.fr.more s hO (fun _ z => .inl z) fun _ _ z => z
  refine ⟨⟨okO_grow (R.ok.same s) h1, fun a z => .inl (R.sub a z), fun a z => ?_, R.k0.trans s, fun j t ej => ?_, fun j j' l l' a g1 g2 h3 h4 => ?_, by simp [R.len]⟩, ⟨Same.keeps s, hO, fun _ => s.free⟩⟩
  · rcases z with z | z
    · exact R.new a z
    · rw [z]; exact .inr (R.k0.free hp)
  · rcases set_get ej with ⟨rfl, hl, rfl⟩ | ⟨n, ej⟩
    · rw [List.getElem?_set_self (by rw [R.len]; exact hl)]
      exact ⟨p, xs, rfl, h1, ⟨.inr rfl, p0⟩, r⟩
    · rw [List.getElem?_set_ne n]
      exact F1 j t ej
  · have old : ∀ j l, i ≠ j → es[j]? = some (.ow l) → σ[j]? ≠ some (some (.ref p)) := fun j l n ej z => by
      obtain ⟨b, ys, f1, f2, _, _⟩ := R.fr j _ ej
      rw [z] at f1
      cases f1
      rw [hp] at f2; cases f2
    rcases set_get g1 with ⟨rfl, hl, z⟩ | ⟨n1, g1⟩
    · rw [List.getElem?_set_self (by rw [R.len]; exact hl)] at h3
      cases h3
      rcases set_get g2 with ⟨e2, hl2, z2⟩ | ⟨n2, g2⟩
      · exact e2
      · rw [List.getElem?_set_ne n2] at h4
        exact absurd h4 (old _ _ n2 g2)
    · rw [List.getElem?_set_ne n1] at h3
      rcases set_get g2 with ⟨rfl, hl2, z2⟩ | ⟨n2, g2⟩
      · rw [List.getElem?_set_self (by rw [R.len]; exact hl2)] at h4
        cases h4
        exact absurd h3 (old _ _ n1 g1)
      · rw [List.getElem?_set_ne n2] at h4
        exact R.inj j j' l l' a g1 g2 h3 h4
/-- a slot's own list grows -/
theorem Rs.grow (R : Rs K w O0 H0 O es σ H) {i : Nat} {p : Addr} {xs : List V} {l : List D} {v : List V} {d : List D} (e : es[i]? = some (.ow l)) (e1 : σ[i]? = some (some (.ref p))) (h1 : H p = some (.lst xs)) (hr : RoAll K w O H xs l) (r : RoAll K w O H v d) :
    Rs K w O0 H0 O (es.set i (.ow (l ++ d))) σ (upd H p (.lst (xs ++ v))) ∧ Stp O H O (upd H p (.lst (xs ++ v))) := by
  obtain ⟨b, ys, f1, f2, ⟨f3, f4⟩, f5⟩ := R.fr i _ e
  rw [e1] at f1
  cases f1
  have h0 : H0 p = none := (R.new p f3).elim (fun z => absurd z f4) id
  have kp : Keeps O H (upd H p (.lst (xs ++ v))) := by
    refine ⟨fun a xs e n => ?_, fun a xs e => ?_, fun a o u e => ?_⟩
    · rw [upd_ne (fun z => n (by rw [z]; exact f3))]; exact e
    · rw [upd_ne (fun z => by rw [z, h1] at e; cases e)]; exact e
    · rw [upd_ne (fun z => by rw [z, h1] at e; cases e)]; exact e
  have id0 : ∀ a, O a → O a ∨ H a = none := fun _ z => .inl z
  refine ⟨⟨fun a z => ?_, R.sub, R.new, fun a o z => ?_, fun j s ej => ?_, fun j j' l1 l2 a g1 g2 h3 h4 => ?_, by simp [R.len]⟩, ⟨kp, id0, fun a z => ?_⟩⟩
  · by_cases q : a = p
    · subst q; exact ⟨_, upd_same⟩
    · rw [upd_ne q]; exact R.ok a z
  · rw [upd_ne (fun q => by rw [q, h0] at z; cases z)]; exact R.k0 a o z
  · rcases set_get ej with ⟨rfl, hl, rfl⟩ | ⟨n, ej⟩
    · exact ⟨p, xs ++ v, e1, upd_same, ⟨f3, f4⟩, (hr.app r).keeps kp id0⟩
    · have hs := R.fr j s ej
      cases s with
      | un => trivial
      | sh d => obtain ⟨u, ev, r⟩ := hs; exact ⟨u, ev, r.keeps kp id0⟩
      | ow l2 =>
        obtain ⟨c, zs, k1, k2, k3, k4⟩ := hs
        exact ⟨c, zs, k1, (upd_ne (fun q => n (R.inj i j _ _ p e ej e1 (by rw [← q]; exact k1)))).trans k2, k3, k4.keeps kp id0⟩
  · have g1' : ∃ l, es[j]? = some (.ow l) := by
      rcases set_get g1 with ⟨rfl, hl, _⟩ | ⟨n, g⟩
      · exact ⟨_, e⟩
      · exact ⟨_, g⟩
    have g2' : ∃ l, es[j']? = some (.ow l) := by
      rcases set_get g2 with ⟨rfl, hl, _⟩ | ⟨n, g⟩
      · exact ⟨_, e⟩
      · exact ⟨_, g⟩
    obtain ⟨_, g1'⟩ := g1'
    obtain ⟨_, g2'⟩ := g2'
    exact R.inj j j' _ _ a g1' g2' h3 h4
  · by_cases q : a = p
    · subst q; rw [upd_same] at z; cases z
    · rw [upd_ne q] at z; exact z
/-- after a store by a target -/
theorem asgN_ow {N : List Str} {x : Str} {p : Pos} {d : D} (e : asgN N es x d = some es') : es'.length = es.length ∧ ∀ (i : Nat) (l : List D), es'[i]? = some (.ow l) → es[i]? = some (.ow l) ∧ i ∉ namesIx N [.Name x p] := by
  unfold asgN at e
  obtain ⟨j, e1, e2⟩ := bind_some e
  cases e2
  refine ⟨by simp [setSl], fun i l h => ?_⟩
  rcases set_get h with ⟨rfl, hl, z⟩ | ⟨n, h⟩
  · cases z
  · refine ⟨h, ?_⟩
    simp only [namesIx, e1]
    simp
    exact fun z => n z.symm
theorem asgs_ow {N : List Str} : ∀ {ts : List Expr} {ds : List D} {es es' : List Sl}, asgs N ts ds es = some es' → es'.length = es.length ∧ ∀ (i : Nat) (l : List D), es'[i]? = some (.ow l) → es[i]? = some (.ow l) ∧ i ∉ namesIx N ts
  | ts, ds, es, es', e => by
    unfold asgs at e
    split at e
    · cases e
      exact ⟨rfl, fun i l h => ⟨h, by simp [namesIx]⟩⟩
    · rename_i x p ts d ds
      obtain ⟨es1, e1, e2⟩ := bind_some e
      obtain ⟨l2, k2⟩ := asgs_ow e2
      obtain ⟨l1, k1⟩ := asgN_ow (p := p) e1
      refine ⟨l2.trans l1, fun i l h => ?_⟩
      obtain ⟨a1, a2⟩ := k2 i l h
      obtain ⟨b1, b2⟩ := k1 i l a1
      refine ⟨b1, ?_⟩
      simp only [namesIx] at b2 ⊢
      split
      · rename_i j hj
        rw [hj] at b2
        simp at b2 ⊢
        exact ⟨b2, a2⟩
      · exact a2
    · cases e
theorem asg_ow {N : List Str} {t : Expr} {d : D} (e : asg N es t d = some es') : es'.length = es.length ∧ ∀ (i : Nat) (l : List D), es'[i]? = some (.ow l) → es[i]? = some (.ow l) ∧ i ∉ tgIx N t := by
  unfold asg at e
  split at e
  · rename_i x p
    exact asgN_ow (p := p) e
  · split at e
    · exact asgs_ow e
    · exact asgs_ow e
    · cases e
  · cases e
theorem Rs.store {N : List Str} {t : Expr} {d : D} (R : Rs K w O0 H0 O es σ H) (e : asg N es t d = some es') (s : Same H H') (hl : σ'.length = σ.length) (hk : ∀ j, j ∉ tgIx N t → σ'[j]? = σ[j]?) (F : Fr K w O (fun a => ¬ O0 a) es' σ' H') : Rs K w O0 H0 O es' σ' H' := by
  obtain ⟨l1, k1⟩ := asg_ow e
  refine ⟨R.ok.same s, R.sub, R.new, R.k0.trans s, F, fun i j l l' a g1 g2 h1 h2 => ?_, by rw [hl, R.len, l1]⟩
  obtain ⟨a1, a2⟩ := k1 i l g1
  obtain ⟨b1, b2⟩ := k1 j l' g2
  rw [hk i a2] at h1
  rw [hk j b2] at h2
  exact R.inj i j l l' a a1 b1 h1 h2
end
/-! ### the reading of statements -/
def FlK (K : PySem.W.Frag) (w : World) (O0 : Addr → Prop) (H0 : Hp) (D0 : Ends) (O : Addr → Prop) (H : Hp) : Fl → Prop
  | .next es => ∀ O' σ' H', Stp O H O' H' → Rs K w O0 H0 O' es σ' H' → D0.nx σ' H'
  | .brk es => ∀ O' σ' H', Stp O H O' H' → Rs K w O0 H0 O' es σ' H' → D0.bk σ' H'
  | .cont es => ∀ O' σ' H', Stp O H O' H' → Rs K w O0 H0 O' es σ' H' → D0.ct σ' H'
  | .ret d => ∀ v H', Same H0 H' → Ro K w O0 H' v d → D0.rt v H'
def tS (K : PySem.W.Frag) (w : World) (O0 : Addr → Prop) (H0 : Hp) (f : List Sl → Option Fl) : TS := fun D σ H => ∃ O es fl, Rs K w O0 H0 O es σ H ∧ f es = some fl ∧ FlK K w O0 H0 D O H fl
theorem FlK.pre {K : PySem.W.Frag} {w : World} {O0 : Addr → Prop} {H0 : Hp} {D : Ends} {O O1 : Addr → Prop} {H H1 : Hp} {fl : Fl} (s : Stp O H O1 H1) (h : FlK K w O0 H0 D O H fl) : FlK K w O0 H0 D O1 H1 fl := by
  cases fl with
  | next es => exact fun O' σ' H' s' R => h O' σ' H' (s.trans s') R
  | brk es => exact fun O' σ' H' s' R => h O' σ' H' (s.trans s') R
  | cont es => exact fun O' σ' H' s' R => h O' σ' H' (s.trans s') R
  | ret d => exact h
abbrev SSt (X : Cx) (O0 : Addr → Prop) (H0 : Hp) (st : Stmt) (f : List Sl → Option Fl) : Prop := PS X st (tS X.K X.w O0 H0 f)
abbrev SSs (X : Cx) (O0 : Addr → Prop) (H0 : Hp) (st : List Stmt) (f : List Sl → Option Fl) : Prop := PSs X st (tS X.K X.w O0 H0 f)
theorem _root_.L2.PS.imp {X : Cx} {e : Stmt} {t t' : TS} (h : PS X e t) (hi : ∀ D σ H, t' D σ H → t D σ H) : PS X e t' := ⟨fun pins s σ H D I hq => h.run pins s σ H D I (hi _ _ _ hq)⟩
theorem _root_.L2.PSs.imp {X : Cx} {e : List Stmt} {t t' : TS} (h : PSs X e t) (hi : ∀ D σ H, t' D σ H → t D σ H) : PSs X e t' := ⟨fun pins s σ H D I hq => h.run pins s σ H D I (hi _ _ _ hq)⟩
section
variable {X : Cx} {O0 : Addr → Prop} {H0 : Hp} {e t it : Expr} {a b body : List Stmt} {st : Stmt} {pos p : Pos} {f : List Sl → Option D} {g : List Sl → Option Bool} {fa fb : List Sl → Option Fl} {xs : List Str} {N : List Str}
theorem ss_ret (h : SE X false e f) : SSt X O0 H0 (.Return (some e) pos) fun σ => (f (σ.map Sl.share)).map .ret := by
  refine (ps_ret h).imp fun D σ H ⟨O, es, fl, R, e0, q⟩ => ?_
  obtain ⟨d, e1, rfl⟩ := Option.map_eq_some_iff.mp e0
  exact ⟨O0, _, _, d, R.ok0, R.shareAll, e1, fun H' v s r => q v H' (R.k0.trans s) r.no⟩
theorem ss_retN : SSt X O0 H0 (.Return none pos) fun σ => some (.ret .none) := by
  refine ps_retN.imp fun D σ H ⟨O, es, fl, R, e0, q⟩ => ?_
  cases e0
  exact q .non H R.k0 .non
theorem ss_next (h : PS X st tNext) : SSt X O0 H0 st fun σ => some (.next σ) := by
  refine h.imp fun D σ H ⟨O, es, fl, R, e0, q⟩ => ?_
  cases e0
  exact q O σ H .refl R
theorem ss_break : SSt X O0 H0 (.Break pos) fun σ => some (.brk σ) := by
  refine ps_break.imp fun D σ H ⟨O, es, fl, R, e0, q⟩ => ?_
  cases e0
  exact q O σ H .refl R
theorem ss_cont : SSt X O0 H0 (.Continue pos) fun σ => some (.cont σ) := by
  refine ps_continue.imp fun D σ H ⟨O, es, fl, R, e0, q⟩ => ?_
  cases e0
  exact q O σ H .refl R
theorem ss_if (h : ST X e g) (ha : SSs X O0 H0 a fa) (hb : SSs X O0 H0 b fb) : SSt X O0 H0 (.If e a b pos) fun σ => (g (shareN N xs σ)).bind fun k => cond k (fa (shareN N xs σ)) (fb (shareN N xs σ)) := by
  refine (ps_if h ha hb).imp fun D σ H ⟨O, es, fl, R, e0, q⟩ => ?_
  obtain ⟨k, e1, e2⟩ := bind_some e0
  obtain ⟨O1, R1, s1⟩ := R.shareN (N := N) xs
  refine ⟨O1, _, _, k, R1.ok, R1.fr, e1, fun H' s => ?_⟩
  cases k with
  | true => exact ⟨O1, _, fl, R1.same s, e2, q.pre (s1.trans (.same s))⟩
  | false => exact ⟨O1, _, fl, R1.same s, e2, q.pre (s1.trans (.same s))⟩
theorem sss_nil : SSs X O0 H0 [] fun σ => some (.next σ) := by
  refine pss_nil.imp fun D σ H ⟨O, es, fl, R, e0, q⟩ => ?_
  cases e0
  exact q O σ H .refl R
theorem sss_cons {r : List Stmt} (h1 : SSt X O0 H0 st fa) (h2 : SSs X O0 H0 r fb) : SSs X O0 H0 (st :: r) fun σ => (fa σ).bind fun
    | .next σ' => fb σ'
    | f => some f := by
  refine (pss_cons h1 h2).imp fun D σ H ⟨O, es, fl, R, e0, q⟩ => ?_
  obtain ⟨f1, e1, e2⟩ := bind_some e0
  refine ⟨O, es, f1, R, e1, ?_⟩
  cases f1 with
  | next es1 => exact fun O' σ' H' s' R' => ⟨O', es1, fl, R', e2, q.pre s'⟩
  | brk es1 => cases e2; exact q
  | cont es1 => cases e2; exact q
  | ret d => cases e2; exact q
theorem ss_set {i : Nat} {x : Str} (h : PS X (.Assign [.Name x p] e pos) (tAsg (tE X.K X.w false f) (gName i))) :
    SSt X O0 H0 (.Assign [.Name x p] e pos) fun σ => (f (shareN N xs σ)).bind fun d => some (.next (setOw (shareN N xs σ) i false d)) := by
  refine h.imp fun D σ H ⟨O, es, fl, R, e0, q⟩ => ?_
  obtain ⟨d, e1, e2⟩ := bind_some e0
  cases e2
  obtain ⟨O1, R1, s1⟩ := R.shareN (N := N) xs
  refine ⟨O1, _, _, d, R1.ok, R1.fr, e1, fun H' v s r => ?_⟩
  have R2 := (R1.same s).setSh (i := i) r.no
  refine q O1 _ H' (s1.trans (.same s)) ?_
  unfold setOw
  cases d <;> exact R2
theorem ss_setF {i : Nat} {x : Str} (h : PS X (.Assign [.Name x p] e pos) (tAsg (tF X.K X.w f) (gName i))) :
    SSt X O0 H0 (.Assign [.Name x p] e pos) fun σ => (f (shareN N xs σ)).bind fun d => some (.next (setOw (shareN N xs σ) i true d)) := by
  refine h.imp fun D σ H ⟨O, es, fl, R, e0, q⟩ => ?_
  obtain ⟨d, e1, e2⟩ := bind_some e0
  cases e2
  obtain ⟨O1, R1, s1⟩ := R.shareN (N := N) xs
  refine ⟨O1, _, _, d, R1.ok, R1.fr, e1, fun H' p' ys ds s hp h1 hd r => ?_⟩
  subst hd
  obtain ⟨R2, s2⟩ := R1.setOw (i := i) s hp h1 r
  exact q _ _ H' (s1.trans s2) R2
theorem ss_asgT {vs : List Nat} (hv : vs = tgIx N t) (h : PS X (.Assign [t] e pos) (tAsg (tE X.K X.w false f) (tG X.K X.w vs fun es d => asg N es t d))) :
    SSt X O0 H0 (.Assign [t] e pos) fun σ => (f (shareN N xs σ)).bind fun d => (asg N (shareN N xs σ) t d).map .next := by
  subst hv
  refine h.imp fun D σ H ⟨O, es, fl, R, e0, q⟩ => ?_
  obtain ⟨d, e1, e2⟩ := bind_some e0
  obtain ⟨es2, e3, rfl⟩ := Option.map_eq_some_iff.mp e2
  obtain ⟨O1, R1, s1⟩ := R.shareN (N := N) xs
  refine ⟨O1, _, _, d, R1.ok, R1.fr, e1, fun H' v s r => ?_⟩
  refine ⟨O1, _, _, d, es2, R1.ok.same s, R1.fr.same s, r.no, e3, fun σ' H2 s2 l2 k2 F2 => ?_⟩
  exact q O1 σ' H2 (s1.trans (.same (s.trans s2))) ((R1.same s).store e3 s2 l2 k2 F2)
theorem ss_drop (h : SE X false e f) (hs : swapsWith e none pos.line X.env = pure false) : SSt X O0 H0 (.Expr e pos) fun σ => (f (shareN N xs σ)).bind fun _ => some (.next (shareN N xs σ)) := by
  refine (ps_expr h hs).imp fun D σ H ⟨O, es, fl, R, e0, q⟩ => ?_
  obtain ⟨d, e1, e2⟩ := bind_some e0
  cases e2
  obtain ⟨O1, R1, s1⟩ := R.shareN (N := N) xs
  exact ⟨O1, _, _, d, R1.ok, R1.fr, e1, fun H' v s r => q O1 σ H' (s1.trans (.same s)) (R1.same s)⟩
theorem ss_app {i : Nat} {x m : Str} {ap : Pos} (hx : PE X (.Name x p) (tVar i)) (hm : m = "append") (hs : isStar e = false) (h : SE X false e f)
    (hb : attributeBase (.Name x p) m X.env (eval (.Name x p) X.env) = eval (.Name x p) X.env) (hl : (ap.endLine == pos.line) = true) {pp : Pos} :
    SSt X O0 H0 (.Expr (.Call (.Attribute (.Name x p) m ap) [e] [] pos) pp) fun σ => (f (shareN N xs σ)).bind fun d => match (shareN N xs σ)[i]? with
          | some (.ow l) => cond (decide (l.length < few)) (some (.next ((shareN N xs σ).set i (.ow (l ++ [d]))))) none
          | _ => none := by
  subst hm
  have hst : ∀ es, starEach (e :: es) X.env = (false, eval e X.env) :: starEach es X.env := fun es => starEach_cons (star_no hs) _
  have hp : PE X (.Call (.Attribute (.Name x p) "append" ap) [e] [] pos) (tBM X.K "list" rAppend (tVar i) (tA X.K X.w false fun σ => (f σ).bind fun d => some [d])) := by
    refine pe_bm PySem.F.plainAttrs_list PySem.F.slot_list_append PySem.F.type_list_append mt_append hx (sa_cons (star_no hs) h sa_nil) hb ?_ hl (hst []) rfl
    rw [hst []]; rfl
  refine (ps_expr hp).imp fun D σ H ⟨O, es, fl, R, e0, q⟩ => ?_
  obtain ⟨d, e1, e2⟩ := bind_some e0
  obtain ⟨O1, R1, s1⟩ := R.shareN (N := N) xs
  split at e2
  · rename_i l hi
    obtain ⟨c, e2⟩ := cond_some e2
    cases e2
    obtain ⟨a, ys, f1, f2, f3, f4⟩ := R1.fr i _ hi
    refine ⟨.ref a, f1, .inl ⟨rfl, ys, .inl (.inl f2)⟩, ?_⟩
    refine ⟨O1, _, _, [d], R1.ok, R1.fr, by show (f (EV.shareN N xs es)).bind _ = _; rw [e1]; rfl, fun H' vs s r => ?_⟩
    cases r with
    | cons r1 r2 =>
      cases r2
      have hlen : ys.length < sizeLine := by
        have := of_decide_eq_true c
        have hf := few_line
        rw [f4.length]; omega
      refine ⟨a, ys, _, rfl, rfl, s _ _ f2, hlen, ?_⟩
      obtain ⟨R2, s2⟩ := (R1.same s).grow hi f1 (s _ _ f2) (f4.same s) (.cons r1.no .nil)
      exact q O1 σ _ (s1.trans ((Stp.same s).trans s2)) R2
  · cases e2
theorem ss_ext {i : Nat} {x m : Str} {ap : Pos} (hx : PE X (.Name x p) (tVar i)) (hm : m = "extend") (hs : isStar e = false) (h : SF X e f)
    (hb : attributeBase (.Name x p) m X.env (eval (.Name x p) X.env) = eval (.Name x p) X.env) (hl : (ap.endLine == pos.line) = true) {pp : Pos} :
    SSt X O0 H0 (.Expr (.Call (.Attribute (.Name x p) m ap) [e] [] pos) pp) fun σ => (f (shareN N xs σ)).bind fun d => match (shareN N xs σ)[i]?, d with
          | some (.ow l), .list ds => cond (decide (l.length + ds.length ≤ few)) (some (.next ((shareN N xs σ).set i (.ow (l ++ ds))))) none
          | _, _ => none := by
  subst hm
  have hst : ∀ es, starEach (e :: es) X.env = (false, eval e X.env) :: starEach es X.env := fun es => starEach_cons (star_no hs) _
  have hp : PE X (.Call (.Attribute (.Name x p) "extend" ap) [e] [] pos) (tBM X.K "list" rExtend (tVar i) (tCons (tF X.K X.w f) tNil)) := by
    refine pe_bm PySem.F.plainAttrs_list PySem.F.slot_list_extend PySem.F.type_list_extend mt_extend hx (pa_cons h pa_nil (hst [])) hb ?_ hl (hst []) rfl
    rw [hst []]; rfl
  refine (ps_expr hp).imp fun D σ H ⟨O, es, fl, R, e0, q⟩ => ?_
  obtain ⟨d, e1, e2⟩ := bind_some e0
  obtain ⟨O1, R1, s1⟩ := R.shareN (N := N) xs
  split at e2
  · rename_i l ds hi
    obtain ⟨c, e2⟩ := cond_some e2
    cases e2
    obtain ⟨a, ys, f1, f2, f3, f4⟩ := R1.fr i _ hi
    refine ⟨.ref a, f1, .inl ⟨rfl, ys, .inl (.inl f2)⟩, ?_⟩
    refine ⟨O1, _, _, _, R1.ok, R1.fr, e1, fun H' p' zs ds' s hp' h1 hd r => ?_⟩
    cases hd
    have r' : RoAll X.K X.w O1 H' zs ds := r.less fun a z => .inl z
    have hlen : ys.length + zs.length ≤ sizeLine := by
      have := of_decide_eq_true c
      have hf := few_line
      rw [f4.length, r'.length]; omega
    refine ⟨a, p', ys, zs, rfl, rfl, s _ _ f2, h1, hlen, ?_⟩
    obtain ⟨R2, s2⟩ := (R1.same s).grow hi f1 (s _ _ f2) (f4.same s) r'
    exact q O1 σ _ (s1.trans ((Stp.same s).trans s2)) R2
  · cases e2
/-- a, b = x, y: stored from the right -/
theorem ss_par {i j : Nat} {x y : Str} {e1 e2 : Expr} {px py pt : Pos} {kt k2 pt2} {fs : List Sl → Option (List D)} (hij : i ≠ j) (h : PS X (.Assign [.Tuple [.Name x px, .Name y py] kt pt] (.Tuple [e1, e2] k2 pt2) pos) (tPar i j (tA X.K X.w false fs))) :
    SSt X O0 H0 (.Assign [.Tuple [.Name x px, .Name y py] kt pt] (.Tuple [e1, e2] k2 pt2) pos) fun σ => (fs (shareN N xs σ)).bind fun ds => match ds with
      | [d1, d2] => some (.next (((shareN N xs σ).set i (.sh d1)).set j (.sh d2)))
      | _ => none := by
  refine h.imp fun D σ H ⟨O, es, fl, R, e0, q⟩ => ?_
  obtain ⟨ds, e1, e2⟩ := bind_some e0
  obtain ⟨O1, R1, s1⟩ := R.shareN (N := N) xs
  split at e2
  · rename_i d1 d2
    cases e2
    refine ⟨O1, _, _, _, R1.ok, R1.fr, e1, fun H' vs s r => ?_⟩
    cases r with | cons r1 r =>
    cases r with | cons r2 r =>
    cases r
    exact ⟨_, _, rfl, q O1 _ H' (s1.trans (.same s)) (((R1.same s).setSh r1.no).setSh r2.no)⟩
  · cases e2
theorem ss_for {tg : Expr} {fi : List Sl → Option (List D)} {vs : List Nat} (hv : vs = tgIx N tg) (hp : PassesOwn (model X.prog X.w) X.A X.env X.xe) (hc : X.calm = true) (hi : SI X false tg it fi) (hg : SG X vs tg fun es d => asg N es tg d) (hb : SSs X O0 H0 body fb)
    (hs : ∀ x, foldedSetIterable it X.env x = pure x) : SSt X O0 H0 (.For tg it body [] pos) fun σ => (fi (shareN N xs σ)).bind fun ys => forL (fun σ x => asg N σ tg x) fb ys (shareN N xs σ) := by
  subst hv
  refine (ps_for hp hc hi hg hb hs).imp fun D σ H ⟨O, es, fl, R, e0, q⟩ => ?_
  obtain ⟨ys, e1, e2⟩ := bind_some e0
  obtain ⟨O1, R1, s1⟩ := R.shareN (N := N) xs
  refine ⟨O1, _, _, ys, R1.ok, R1.fr, e1, fun J H1 sH Y => ?_⟩
  have q1 := q.pre (s1.trans (.same sH))
  refine ⟨fun i m σ2 H2 => ∃ O2 es2, m = ys.length - i ∧ i ≤ ys.length ∧ Stp O1 H1 O2 H2 ∧ Rs X.K X.w O0 H0 O2 es2 σ2 H2 ∧ forL (fun σ x => asg N σ tg x) fb (ys.drop i) es2 = some fl, ⟨_, O1, _, rfl, Nat.zero_le _, .refl, R1.same sH, e2⟩, ?_⟩
  rintro i m σ2 H2 ⟨O2, es2, rfl, hi, s2, R2, c2⟩
  have kz : Keeps (fun a => false = false ∧ O1 a) H1 H2 := ⟨fun a xs e n => s2.k.l a xs e fun z => n ⟨rfl, z⟩, s2.k.t, s2.k.f⟩
  by_cases hlt : i < ys.length
  · rw [drop_at hlt] at c2
    refine .inr ⟨(Y.go H2 i ys[i] kz (List.getElem?_eq_getElem hlt)).1, fun σ3 H3 => ∃ O3 es3, i + 1 ≤ ys.length ∧ Stp O1 H1 O3 H3 ∧ Rs X.K X.w O0 H0 O3 es3 σ3 H3 ∧ forL (fun σ x => asg N σ tg x) fb (ys.drop (i + 1)) es3 = some fl,
      fun σ3 H3 ⟨O3, es3, a1, a2, a3, a4⟩ => ⟨ys.length - (i + 1), by omega, O3, es3, rfl, a1, a2, a3, a4⟩, fun x H3 y => ?_⟩
    obtain ⟨sm, rx⟩ := (Y.go H2 i ys[i] kz (List.getElem?_eq_getElem hlt)).2 x H3 y
    have rx := rx O2 s2.o s2.k
    replace s2 := s2.trans (.same sm)
    replace R2 := R2.same sm
    obtain ⟨es3, c3, c4⟩ := bind_some (show (asg N es2 tg ys[i]).bind _ = some fl from c2)
    obtain ⟨fl2, c5, c6⟩ := bind_some c4
    refine ⟨O2, _, es2, ys[i], es3, R2.ok, R2.fr, rx, c3, fun σ4 H4 s4 l4 k4 F4 => ?_⟩
    have R4 := R2.store c3 s4 l4 k4 F4
    have s14 : Stp O1 H1 O2 H4 := s2.trans (.same s4)
    refine ⟨O2, es3, fl2, R4, c5, ?_⟩
    cases fl2 with
    | next es5 => exact fun O5 σ5 H5 s5 R5 => ⟨O5, es5, hlt, s14.trans s5, R5, c6⟩
    | cont es5 => exact fun O5 σ5 H5 s5 R5 => ⟨O5, es5, hlt, s14.trans s5, R5, c6⟩
    | brk es5 => cases c6; exact fun O5 σ5 H5 s5 R5 => q1 O5 σ5 H5 (s14.trans s5) R5
    | ret d => cases c6; exact q1
  · have hi' : i = ys.length := by omega
    subst hi'
    refine .inl ⟨Y.stop H2 kz, ?_⟩
    rw [List.drop_length] at c2
    cases c2
    exact q1 O2 σ2 H2 s2 R2
theorem ss_while (hp : PassesOwn (model X.prog X.w) X.A X.env X.xe) (h : ST X e g) (hb : SSs X O0 H0 body fb) {n : Nat} : SSt X O0 H0 (.While e body [] pos) fun σ => whileL g fb n (shareN N xs σ) := by
  refine (ps_while hp h hb).imp fun D σ H ⟨O, es, fl, R, e0, q⟩ => ?_
  obtain ⟨O1, R1, s1⟩ := R.shareN (N := N) xs
  have q1 := q.pre s1
  refine ⟨fun m σ2 H2 => ∃ O2 es2, Stp O1 H O2 H2 ∧ Rs X.K X.w O0 H0 O2 es2 σ2 H2 ∧ whileL g fb m es2 = some fl, ⟨n, O1, _, .refl, R1, e0⟩, ?_⟩
  rintro m σ2 H2 ⟨O2, es2, s2, R2, c2⟩
  cases m with
  | zero => cases c2
  | succ m =>
    obtain ⟨k, c3, c4⟩ := bind_some (show (g es2).bind _ = some fl from c2)
    refine ⟨O2, _, es2, k, R2.ok, R2.fr, c3, fun H3 s3 => ?_⟩
    cases k with
    | false =>
      cases c4
      exact q1 O2 σ2 H3 (s2.trans (.same s3)) (R2.same s3)
    | true =>
      obtain ⟨fl2, c5, c6⟩ := bind_some c4
      simp only [if_true]
      refine ⟨fun σ3 H3 => ∃ O3 es3, Stp O1 H O3 H3 ∧ Rs X.K X.w O0 H0 O3 es3 σ3 H3 ∧ whileL g fb m es3 = some fl, fun σ3 H3 z => ⟨m, Nat.lt_succ_self m, z⟩, O2, es2, fl2, R2.same s3, c5, ?_⟩
      have s13 : Stp O1 H O2 H3 := s2.trans (.same s3)
      cases fl2 with
      | next es5 => exact fun O5 σ5 H5 s5 R5 => ⟨O5, es5, s13.trans s5, R5, c6⟩
      | cont es5 => exact fun O5 σ5 H5 s5 R5 => ⟨O5, es5, s13.trans s5, R5, c6⟩
      | brk es5 => cases c6; exact fun O5 σ5 H5 s5 R5 => q1 O5 σ5 H5 (s13.trans s5) R5
      | ret d => cases c6; exact q1
end
end EV

namespace EV
open PySem PySem.Spec PyProof.Rows L2
def yes : Str → Bool := fun _ => true
/-- is the name's old value let go before the list is stored? -/
def swB (names : List (Str × NameKind)) (x : Str) (p : Pos) : Expr → Bool
  | .ListComp _ _ scope lp => names.lookup x == some .local && p.line == lp.line && !(scope.names.any fun (n, k) => n == x && (k == .local || k == .cell))
  | _ => false
/-- two names of the def's own, stored from the right -/
def parB (names : List (Str × NameKind)) (es : List Expr) (e : Expr) : Bool := match es, e with
  | [.Name x px, .Name y py], .Tuple [a, b] _ _ => (decide (names.lookup x = some .local) && (decide (names.lookup y = some .local) && (px.line == py.line && !(x == y)))) &&
    ((!isStar a && !isStar b) && (!([a, b].all (foldedForSure 8)) && !([a, b].all (constantsAlone 8))))
  | _, _ => false
/-- some name is not the def's own alone: stored from the left -/
def nswB (names : List (Str × NameKind)) (es : List Expr) : Bool := es.any fun e => match e with
  | .Name x _ => !(decide (names.lookup x = some .local))
  | _ => true
mutual
def ckS (N fns : List Str) : Nat → Scope → Stmt → Bool
  | 0, _, _ => false
  | n + 1, sc, st =>
    match st with
    | .Return (some e) _ => ckE N fns ED sc yes e
    | .Return none _ => true
    | .Pass _ => true
    | .Break _ => true
    | .Continue _ => true
    | .Expr (.Constant (.str _) _ _) _ => true
    | .Expr (.Call (.Attribute (.Name x _) m ap) [a] [] p) _ => (decide (m = "append") || decide (m = "extend")) && ((locB sc.names x && okX x) && ((!isStar a && ckE N fns ED sc yes a) && (ap.endLine == p.line)))
    | .Expr (.Call (.Name f p) as [] q) _ => ckE N fns ED sc yes (.Call (.Name f p) as [] q)
    | .Assign [.Name x _] e _ => storeB sc.names yes x && ckE N fns ED sc yes e
    | .Assign [.Tuple es k p] e _ => (ckTg sc.names yes (.Tuple es k p) && ckE N fns ED sc yes e) && cond (isTup e) (parB sc.names es e || nswB sc.names es) true
    | .If t a b _ => ckE N fns ED sc yes t && (ckSs N fns n sc a && ckSs N fns n sc b)
    | .For t it body [] _ => ckI N fns ED sc yes t it && (ckTg sc.names yes t && ckSs N fns n sc body)
    | .While t body [] _ => ckE N fns ED sc yes t && ckSs N fns n sc body
    | .Raise _ _ _ => true
    | _ => false
def ckSs (N fns : List Str) : Nat → Scope → List Stmt → Bool
  | 0, _, _ => false
  | _ + 1, _, [] => true
  | n + 1, sc, st :: r => ckS N fns n sc st && ckSs N fns n sc r
end
section
variable {c : Cfg} {k : Nat} {fns : List Str} {X : Cx} {sc : Scope}
theorem swaps_eq {e : Expr} {x : Str} {p : Pos} {l m : Nat} {N : List Str} {sc' : Scope} {fn : Str → Bool} (hk : X.env.scope.kind = .function) (hs : X.env.scope = sc) (hc : ckE N fns m sc' fn e = true) : swapsWith e (some (.Name x p)) l X.env = pure (swB sc.names x p e) := by
  cases m with
  | zero => cases hc
  | succ m =>
  cases e <;> first | rfl | (cases hc; done) | skip
  rename_i elt gs scope lp
  unfold swapsWith
  have hb : X.env.blockKind = .function := by unfold Env.blockKind; rw [hk]; rfl
  show (pure (X.env.blockKind == .function && X.env.kindOf x == some .local && p.line == lp.line && !(scope.names.any fun (n, k) => n == x && (k == .local || k == .cell))) : Sem Bool) = _
  rw [hb]
  unfold Env.kindOf
  rw [hs]
  rfl
theorem asgs2 {N : List Str} {x y : Str} {px py : Pos} {ds : List D} {σ σ' : List Sl} (h : asgs N [.Name x px, .Name y py] ds σ = some σ') : ∃ i j d1 d2, ds = [d1, d2] ∧ N.idxOf? x = some i ∧ N.idxOf? y = some j ∧ σ' = (σ.set i (.sh d1)).set j (.sh d2) := by
  have one : ∀ {σ σ' : List Sl} {z : Str} {d : D}, asgN N σ z d = some σ' → ∃ i, N.idxOf? z = some i ∧ σ' = σ.set i (.sh d) := fun {σ σ' z d} h => by
    obtain ⟨i, h1, h2⟩ := bind_some h
    cases h2
    exact ⟨i, h1, rfl⟩
  match ds, h with
  | [], z => cases z
  | [d1], z =>
    obtain ⟨w', _, z⟩ := bind_some (show (asgN N σ x d1).bind (fun σ' => asgs N [.Name y py] [] σ') = _ from z)
    cases z
  | d1 :: d2 :: r, z =>
    obtain ⟨w', z1, z⟩ := bind_some (show (asgN N σ x d1).bind (fun σ' => asgs N [.Name y py] (d2 :: r) σ') = _ from z)
    obtain ⟨w2, z2, z⟩ := bind_some (show (asgN N w' y d2).bind (fun σ' => asgs N [] r σ') = _ from z)
    obtain ⟨i, hi, rfl⟩ := one z1
    obtain ⟨j, hj, rfl⟩ := one z2
    cases r with
    | nil => cases z; exact ⟨i, j, d1, d2, rfl, hi, hj, rfl⟩
    | cons _ _ => cases z
theorem swap2 {x y : Str} {px py p p2 : Pos} {kk k2 : Nat} {a b : Expr} (hk : X.env.scope.kind = .function) (l1 : X.env.scope.names.lookup x = some .local) (l2 : X.env.scope.names.lookup y = some .local) (l3 : (px.line == py.line) = true) (hxy : x ≠ y)
    (s1 : isStar a = false) (s2 : isStar b = false) (f1 : [a, b].all (foldedForSure 8) = false) (f2 : [a, b].all (constantsAlone 8) = false) : swappedStores [.Tuple [.Name x px, .Name y py] kk p] (.Tuple [a, b] k2 p2) X.env = pure (some [x, y]) := by
  have hb : X.env.blockKind = .function := by unfold Env.blockKind; rw [hk]; rfl
  have c1 : X.env.kindOf x = some .local := l1
  have c2 : X.env.kindOf y = some .local := l2
  have hline : (py.line == px.line) = true := by
    have : px.line = py.line := by simpa using l3
    simp [this]
  have he : ([x, y].eraseDups.length != [x, y].length) = false := by
    have : ¬ y = x := fun z => hxy z.symm
    simp [List.eraseDups_cons, this]
  have hst : ([a, b].any fun | .Starred .. => true | _ => false) = false := by
    cases a <;> cases b <;> first | rfl | (cases s1; done) | (cases s2; done)
  unfold swappedStores
  have e0 : ((Option.map (fun x : Expr => x.pos.line) [Expr.Name x px, Expr.Name y py].head?).getD 0) = px.line := rfl
  simp only [hb, f1, f2, List.filterMap_cons, List.filterMap_nil, c1, c2, e0, hline, beq_self_eq_true, Bool.and_self, if_true, he]
  refine (if_neg fun z => Bool.noConfusion (show false = true from z)).trans ((if_neg fun z => Bool.noConfusion (show false = true from hst.symm.trans z)).trans ?_)
  rfl
theorem filt_lt {α β : Type} {f : α → Option β} : ∀ {l : List α}, (∃ x ∈ l, f x = none) → (l.filterMap f).length < l.length
  | [], ⟨x, h, _⟩ => by cases h
  | y :: r, ⟨x, h, e⟩ => by
    have hle : (r.filterMap f).length ≤ r.length := List.length_filterMap_le f r
    rw [List.filterMap_cons]
    cases hy : f y with
    | none => exact Nat.lt_succ_of_le hle
    | some z =>
      rcases List.mem_cons.mp h with rfl | h
      · rw [e] at hy; cases hy
      · exact Nat.succ_lt_succ (filt_lt ⟨x, h, e⟩)
theorem swap0 {es : List Expr} {e : Expr} {p : Pos} {kk : Nat} (he : isTup e = true) (h : nswB X.env.scope.names es = true) : swappedStores [.Tuple es kk p] e X.env = pure none := by
  cases e with
  | Tuple vs k2 p2 =>
    unfold swappedStores
    obtain ⟨t, ht, h⟩ := List.any_eq_true.mp h
    have key : ∀ line : Nat, ((es.filterMap fun x => match x with
      | .Name id pos => if (X.env.kindOf id == some .local && pos.line == line) = true then some id else none
      | _ => none).length != es.length) = true := fun line => by
      have := filt_lt (l := es) (f := fun x => match x with
        | .Name id pos => if (X.env.kindOf id == some .local && pos.line == line) = true then some id else none
        | _ => none) ⟨t, ht, by
          cases t with
          | Name x q =>
            have h : (!(decide (X.env.scope.names.lookup x = some .local))) = true := h
            have h2 : X.env.kindOf x ≠ some .local := (by simpa using h : ¬ X.env.scope.names.lookup x = some .local)
            have h3 : (X.env.kindOf x == some .local) = false := by simpa using h2
            simp only [h3, Bool.false_and]
            rfl
          | _ => rfl⟩
      simpa using Nat.ne_of_lt this
    show (if _ then _ else if _ then _ else if _ then _ else _) = _
    split
    · rfl
    · split
      · rfl
      · refine if_pos ?_
        rw [Bool.or_eq_true]
        exact .inl (key _)
  | _ => cases he
/-- name = [..] where the old value goes first -/
theorem set_lc {n m i : Nat} {x : Str} {p pos lp : Pos} {elt : Expr} {gs : List Comprehension} {scope : Scope} {fn : Str → Bool} (g : Good c k fns X sc fn) (h : ckE c.N fns m sc fn (.ListComp elt gs scope lp) = true) (hi : X.N[i]? = some x) (hl : X.env.scope.names.lookup x = some .local)
    (hsw : swapsWith (.ListComp elt gs scope lp) (some (.Name x p)) pos.line X.env = pure true) : PS X (.Assign [.Name x p] (.ListComp elt gs scope lp) pos) (tAsg (tF X.K X.w fun σ => ev c n false σ (.ListComp elt gs scope lp)) (gName i)) := by
  cases n with
  | zero => exact ⟨fun _ _ _ _ _ _ ⟨O, Ow, es, d, hO, F, e, q⟩ => by cases e⟩
  | succ n =>
  cases m with
  | zero => cases h
  | succ m =>
  have S : Snd c k fns n := snd_all n
  have setno : ∀ {sc fn t e}, ckI c.N fns m sc fn t e = true → isSet e = false := fun h => by
    unfold ckI at h
    rw [Bool.and_eq_true] at h
    simpa using h.1
  rcases gs_of h with ⟨t, it, ifs, rfl⟩ | ⟨t, it, t', it', ifs', rfl⟩
  · have h : ((ckI c.N fns m sc fn t it && blkB c.N sc.names scope) && ((ckTg (relS scope sc).names (fun x => scope.names.lookup x == some .cell) t && subB (tgIx c.N t) ((ownOf c.N scope.names).map (·.2))) &&
          ((match (generalizing := false) ifs with
            | [] => true
            | [c'] => ckE c.N fns m (relS scope sc) (fun x => scope.names.lookup x == some .cell) c'
            | _ => false) && ckE c.N fns m (relS scope sc) (fun x => scope.names.lookup x == some .cell) elt))) = true := h
    rw [Bool.and_eq_true, Bool.and_eq_true, Bool.and_eq_true, Bool.and_eq_true, Bool.and_eq_true] at h
    obtain ⟨⟨hit, hb⟩, ⟨ht, hsub⟩, hifs, helt⟩ := h
    exact (ps_setLc (own := ownOf c.N scope.names) (wi := tI X.K X.w true fun σ => iter c.N (ev c n true σ) it) (g := tG X.K X.w ((ownOf c.N scope.names).map fun q : Str × Nat => q.2) fun es d => asg c.N es t d) (tt := tT X.K X.w fun σ' => tests (tst c n σ') ifs) (te := tE X.K X.w false fun σ' => ev c n false σ' elt)
      g.calm g.nd hi hl hsw (si_iter S g hit) (blk_of g hb) (fun s H C cl fp => (tg_of (good_blk g scope s H C cl fp) ht).mono (sub_of hsub)) (fun s H C cl fp => pts_of S (good_blk g scope s H C cl fp) hifs) (fun s H C cl fp => (S.e m _ _ _ (good_blk g scope s H C cl fp) elt helt).1 false) (fold_set (setno hit) _)).imp
      fun D σ H ⟨O, Ow, es, d, hO, F, e, q⟩ => comp1_read (X := X) (own := ownOf c.N scope.names) (fi := fun σ => iter c.N (ev c n true σ) it) (g := fun es d => asg c.N es t d) (t := fun σ' => tests (tst c n σ') ifs) (f := fun σ' => ev c n false σ' elt) (Q := fun x H1 => gName i x σ H1 D.nx) ⟨O, Ow, es, d, hO, F, (ev_lc1 c n false es elt t it ifs scope lp).symm.trans e, q⟩
  · have h : ((ckI c.N fns m sc fn t it && blkB c.N sc.names scope) && ((ckTg (relS scope sc).names (fun x => scope.names.lookup x == some .cell) t && subB (tgIx c.N t) ((ownOf c.N scope.names).map (·.2))) &&
          ((ckI c.N fns m (relS scope sc) (fun x => scope.names.lookup x == some .cell) t' it' && (ckTg (relS scope sc).names (fun x => scope.names.lookup x == some .cell) t' && subB (tgIx c.N t') ((ownOf c.N scope.names).map (·.2)))) && ((match (generalizing := false) ifs' with
            | [] => true
            | [c'] => ckE c.N fns m (relS scope sc) (fun x => scope.names.lookup x == some .cell) c'
            | _ => false) && ckE c.N fns m (relS scope sc) (fun x => scope.names.lookup x == some .cell) elt)))) = true := h
    rw [Bool.and_eq_true, Bool.and_eq_true, Bool.and_eq_true, Bool.and_eq_true, Bool.and_eq_true, Bool.and_eq_true, Bool.and_eq_true, Bool.and_eq_true] at h
    obtain ⟨⟨hit, hb⟩, ⟨ht, hsub⟩, ⟨hi', ht', hsub'⟩, hifs, helt⟩ := h
    exact (ps_setLc2 (own := ownOf c.N scope.names) (vs1 := tgIx c.N t') (wi := tI X.K X.w true fun σ => iter c.N (ev c n true σ) it) (g := tG X.K X.w ((ownOf c.N scope.names).map fun q : Str × Nat => q.2) fun es d => asg c.N es t d) (wi1 := tI X.K X.w false fun σ' => iter c.N (ev c n false σ') it') (g1 := tG X.K X.w (tgIx c.N t') fun es d => asg c.N es t' d) (tt1 := tT X.K X.w fun σ' => tests (tst c n σ') ifs') (te := tE X.K X.w false fun σ' => ev c n false σ' elt)
      g.calm g.nd hi hl hsw (si_iter S g hit) (blk_of g hb) (sub_of hsub') (fun s H C cl fp => (tg_of (good_blk g scope s H C cl fp) ht).mono (sub_of hsub)) (fun _ _ _ _ _ => pts_nil) (fun s H C cl fp => si_iter S (good_blk g scope s H C cl fp) hi') (fun s H C cl fp => tg_of (good_blk g scope s H C cl fp) ht') (fun s H C cl fp => pts_of S (good_blk g scope s H C cl fp) hifs) (fun s H C cl fp => (S.e m _ _ _ (good_blk g scope s H C cl fp) elt helt).1 false) (fold_set (setno hit) _) (fold_set (setno hi'))).imp
      fun D σ H ⟨O, Ow, es, d, hO, F, e, q⟩ => comp2_read (X := X) (own := ownOf c.N scope.names) (fi := fun σ => iter c.N (ev c n true σ) it) (g := fun es d => asg c.N es t d) (fi1 := fun σ' => iter c.N (ev c n false σ') it') (vs1 := tgIx c.N t') (g1 := fun es d => asg c.N es t' d) (t1 := fun σ' => tests (tst c n σ') ifs') (f := fun σ' => ev c n false σ' elt) (Q := fun x H1 => gName i x σ H1 D.nx) ⟨O, Ow, es, d, hO, F, (ev_lc2 c n false es elt t it t' it' ifs' scope lp).symm.trans e, q⟩
theorem ss_all (g : Good c k fns X sc yes) (hk : X.env.scope.kind = .function) (hp : PassesOwn (model X.prog X.w) X.A X.env X.xe) {O0 : Addr → Prop} {H0 : Hp} : ∀ n, (∀ m st, ckS c.N fns m sc st = true → SSt X O0 H0 st fun σ => ex c n σ st) ∧ ∀ m sts, ckSs c.N fns m sc sts = true → SSs X O0 H0 sts fun σ => exs c n σ sts
  | 0 => ⟨fun m st h => ⟨fun _ _ _ _ _ _ ⟨O, es, fl, R, e0, q⟩ => by cases e0⟩, fun m st h => ⟨fun _ _ _ _ _ _ ⟨O, es, fl, R, e0, q⟩ => by cases e0⟩⟩
  | n + 1 => by
    obtain ⟨i1, i2⟩ := ss_all g hk hp (O0 := O0) (H0 := H0) n
    have S : Snd c k fns ED := snd_all ED
    have E : ∀ {e}, ckE c.N fns ED sc yes e = true → (∀ b, SE X b e fun σ => ev c ED b σ e) ∧ (ST X e fun σ => tst c ED σ e) ∧ (isFresh e = true → SF X e fun σ => ev c ED false σ e) := fun {e} h => S.e ED X sc yes g e h
    have none : ∀ {st : Stmt}, SSt X O0 H0 st fun _ => none := ⟨fun _ _ _ _ _ _ ⟨O, es, fl, R, e0, q⟩ => by cases e0⟩
    refine ⟨fun m st h => ?_, fun m sts h => ?_⟩
    · cases m with
      | zero => cases h
      | succ m =>
      unfold ckS at h
      split at h
      · exact ss_ret ((E h).1 false)
      · exact ss_retN
      · exact ss_next ps_pass
      · exact ss_break
      · exact ss_cont
      · exact ss_next ps_doc
      · rename_i x xp m' ap a p pp
        rw [Bool.and_eq_true, Bool.and_eq_true, Bool.and_eq_true, Bool.and_eq_true, Bool.and_eq_true, Bool.or_eq_true] at h
        obtain ⟨hm, ⟨hx, ho⟩, ⟨hs, ha⟩, hl⟩ := h
        obtain ⟨o1, o2⟩ := okX_of ho
        cases hi : c.N.idxOf? x with
        | none =>
          refine none.imp fun D σ H ⟨O, es, fl, R, e0, q⟩ => ?_
          unfold ex at e0
          simp only [hi, Option.bind_none] at e0
          exfalso
          revert e0
          cases decide (m' = "append") <;> cases (decide (m' = "extend") && isFresh a) <;> exact fun z => by cases z
        | some i =>
          by_cases hm0 : m' = "append"
          case neg =>
            have hm1 : m' = "extend" := hm.elim (fun z => absurd (of_decide_eq_true z) hm0) of_decide_eq_true
            cases hf : isFresh a with
            | false =>
              refine none.imp fun D σ H ⟨O, es, fl, R, e0, q⟩ => ?_
              unfold ex at e0
              simp only [decide_eq_false hm0, hf, Bool.and_false, cond_false] at e0
              cases e0
            | true =>
              refine (ss_ext (O0 := O0) (H0 := H0) (N := c.N) (xs := esc c.N ED false a) (pe_var (pos := xp) (by rw [g.nN]; exact ix_get hi) (vis_of g hx) o1 o2) hm1 (by simpa using hs) ((E ha).2.2 hf) (by subst hm1; rfl) hl).imp fun D σ H ⟨O, es, fl, R, e0, q⟩ => ?_
              refine ⟨O, es, fl, R, ?_, q⟩
              unfold ex at e0
              simp only [decide_eq_false hm0, hf, hm1, decide_true, Bool.and_true, cond_true, cond_false, hi] at e0
              exact e0
          have hm := hm0
          refine (ss_app (O0 := O0) (H0 := H0) (N := c.N) (xs := esc c.N ED false a) (pe_var (pos := xp) (by rw [g.nN]; exact ix_get hi) (vis_of g hx) o1 o2) hm (by simpa using hs) ((E ha).1 false) (by subst hm; rfl) hl).imp fun D σ H ⟨O, es, fl, R, e0, q⟩ => ?_
          refine ⟨O, es, fl, R, ?_, q⟩
          unfold ex at e0
          simp only [hm, decide_true, cond_true, hi] at e0
          exact e0
      · rename_i f p as q pos
        exact ss_drop (N := c.N) (xs := esc c.N ED false (.Call (.Name f p) as [] q)) ((E h).1 false) rfl
      · rename_i x p e pos
        rw [Bool.and_eq_true] at h
        obtain ⟨hx, he⟩ := h
        have so := store_of g hx
        cases hi : c.N.idxOf? x with
        | none =>
          refine none.imp fun D σ H ⟨O, es, fl, R, e0, q⟩ => ?_
          unfold ex at e0
          simp only [hi] at e0
          cases e0
        | some i =>
          have hN : X.N[i]? = some x := by rw [g.nN]; exact ix_get hi
          have fin : ∀ b, isFresh e = b → (SSt X O0 H0 (.Assign [.Name x p] e pos) fun σ => (ev c ED false (shareN c.N (esc c.N ED false e) σ) e).bind fun d => some (.next (setOw (shareN c.N (esc c.N ED false e) σ) i b d))) → SSt X O0 H0 (.Assign [.Name x p] e pos) fun σ => ex c (n + 1) σ (.Assign [.Name x p] e pos) := fun b hb z => by
            refine z.imp fun D σ H ⟨O, es, fl, R, e0, q⟩ => ⟨O, es, fl, R, ?_, q⟩
            unfold ex at e0
            simp only [hi, hb] at e0
            exact e0
          cases hf : isFresh e with
          | false =>
            refine fin false hf (ss_set (N := c.N) (xs := esc c.N ED false e) (ps_set g.nd hN so.1 ((E he).1 false) ?_ so.2))
            rw [swaps_eq hk g.sc he]
            cases e <;> first | rfl | cases hf
          | true =>
            cases hw : swB sc.names x p e with
            | false => exact fin true hf (ss_setF (N := c.N) (xs := esc c.N ED false e) (ps_set g.nd hN so.1 ((E he).2.2 hf) (by rw [swaps_eq hk g.sc he, hw]) so.2))
            | true =>
              cases e with
              | ListComp elt gs scope lp =>
                have hl : X.env.scope.names.lookup x = some .local := by
                  rw [g.sc]
                  unfold swB at hw
                  rw [Bool.and_eq_true, Bool.and_eq_true] at hw
                  simpa using hw.1.1
                exact fin true hf (ss_setF (N := c.N) (xs := esc c.N ED false _) (set_lc g he hN hl (by rw [swaps_eq hk g.sc he, hw])))
              | _ => cases hw
      · rename_i es kk p e pos
        rw [Bool.and_eq_true, Bool.and_eq_true] at h
        obtain ⟨⟨ht, he⟩, hn⟩ := h
        cases hq : isTup e with
        | false =>
          refine (ss_asgT (N := c.N) (xs := esc c.N ED false e) rfl (ps_asg ((E he).1 false) (tg_of g ht) ?_ ?_ ?_)).imp fun D σ H z => z
          · cases e <;> rfl
          · cases e <;> first | rfl | cases hq
          · rfl
        | true =>
          rw [hq, cond_true] at hn
          cases hnsw : nswB sc.names es with
          | true =>
            refine (ss_asgT (N := c.N) (xs := esc c.N ED false e) rfl (ps_asg ((E he).1 false) (tg_of g ht) ?_ ?_ ?_)).imp fun D σ H z => z
            · cases e <;> rfl
            · exact swap0 hq (by rw [g.sc]; exact hnsw)
            · rfl
          | false =>
          rw [hnsw, Bool.or_false] at hn
          unfold parB at hn
          split at hn
          · rename_i x px y py a b k2 p2
            simp only [Bool.and_eq_true, decide_eq_true_eq, Bool.not_eq_true'] at hn
            obtain ⟨⟨l1, l2, l3, l4⟩, ⟨s1, s2⟩, f1, f2⟩ := hn
            have hxy : x ≠ y := by simpa using l4
            have he' : ckE c.N fns ED sc yes (.Tuple [a, b] k2 p2) = true := he
            have hab : ∀ z ∈ [a, b], ckE c.N fns 59 sc yes (unStar z) = true := List.all_eq_true.mp (show ([a, b].all fun e => ckE c.N fns 59 sc yes (unStar e)) = true from he)
            have SA2 : SA X false [a, b] fun σ => args (fun b e => ev c 59 (b || false) σ e) [a, b] := sa_args (snd_all 59) g false [a, b] hab
            have hw : swappedStores [.Tuple [.Name x px, .Name y py] kk p] (.Tuple [a, b] k2 p2) X.env = pure (some [x, y]) := swap2 hk (by rw [g.sc]; exact l1) (by rw [g.sc]; exact l2) l3 hxy s1 s2 f1 f2
            have two : ∀ {σ σ'} {d : D}, asg c.N σ (.Tuple [.Name x px, .Name y py] kk p) d = some σ' → ∃ i j d1 d2, (d = .tuple [d1, d2] ∨ d = .list [d1, d2]) ∧ c.N.idxOf? x = some i ∧ c.N.idxOf? y = some j ∧ σ' = (σ.set i (.sh d1)).set j (.sh d2) := fun {σ σ' d} z => by
              cases d with
              | tuple ds => obtain ⟨i, j, d1, d2, rfl, r⟩ := asgs2 (show asgs c.N _ ds σ = some σ' from z); exact ⟨i, j, d1, d2, .inl rfl, r⟩
              | list ds => obtain ⟨i, j, d1, d2, rfl, r⟩ := asgs2 (show asgs c.N _ ds σ = some σ' from z); exact ⟨i, j, d1, d2, .inr rfl, r⟩
              | _ => cases z
            cases hi : c.N.idxOf? x with
            | none =>
              refine none.imp fun D σ H ⟨O, es, fl, R, e0, q⟩ => ?_
              unfold ex at e0
              obtain ⟨d, e1, e2⟩ := bind_some e0
              obtain ⟨fl', e3, e4⟩ := Option.map_eq_some_iff.mp e2
              obtain ⟨i, j, d1, d2, _, z, _⟩ := two e3
              rw [hi] at z; cases z
            | some i =>
            cases hj : c.N.idxOf? y with
            | none =>
              refine none.imp fun D σ H ⟨O, es, fl, R, e0, q⟩ => ?_
              unfold ex at e0
              obtain ⟨d, e1, e2⟩ := bind_some e0
              obtain ⟨fl', e3, e4⟩ := Option.map_eq_some_iff.mp e2
              obtain ⟨i, j, d1, d2, _, _, z, _⟩ := two e3
              rw [hj] at z; cases z
            | some j =>
              have hNi : X.N[i]? = some x := by rw [g.nN]; exact ix_get hi
              have hNj : X.N[j]? = some y := by rw [g.nN]; exact ix_get hj
              have hij : i ≠ j := fun z => by rw [z, hNj] at hNi; exact hxy (Option.some.inj hNi).symm
              refine (ss_par (O0 := O0) (H0 := H0) (N := c.N) (xs := esc c.N ED false (.Tuple [a, b] k2 p2)) hij (ps_par g.calm g.nd hNi hNj hij (by rw [g.sc]; exact l1) (by rw [g.sc]; exact l2) SA2 hw rfl)).imp fun D σ H ⟨O, es, fl, R, e0, q⟩ => ?_
              refine ⟨O, es, fl, R, ?_, q⟩
              unfold ex at e0
              obtain ⟨d, e1, e2⟩ := bind_some e0
              obtain ⟨fl', e3, e4⟩ := Option.map_eq_some_iff.mp e2
              have e1 : (args (fun z e => ev c 59 z (shareN c.N (esc c.N ED false (.Tuple [a, b] k2 p2)) es) e) [a, b]).bind (fun ds => cond (decide (ds.length ≤ few)) (some (PyData.tuple ds)) Option.none) = some d := e1
              rw [args_disp] at e1
              obtain ⟨ds, e5, e6⟩ := bind_some e1
              obtain ⟨_, e6⟩ := cond_some e6
              cases e6
              obtain ⟨i', j', d1, d2, hd, h1, h2, rfl⟩ := two e3
              rw [hi] at h1
              rw [hj] at h2
              cases h1
              cases h2
              rcases hd with hd | hd
              · cases hd
                show (args (fun z e => ev c 59 (z || false) (shareN c.N (esc c.N ED false (.Tuple [a, b] k2 p2)) es) e) [a, b]).bind _ = some fl
                rw [e5]
                exact congrArg some e4
              · cases hd
          · cases hn
      · rename_i t a b pos
        rw [Bool.and_eq_true, Bool.and_eq_true] at h
        exact ss_if (N := c.N) (xs := esc c.N ED true t) ((E h.1).2.1) (i2 m a h.2.1) (i2 m b h.2.2)
      · rename_i t it body pos
        rw [Bool.and_eq_true, Bool.and_eq_true] at h
        obtain ⟨hi, ht, hb⟩ := h
        have hs : isSet it = false := by
          unfold ckI at hi
          rw [Bool.and_eq_true] at hi
          simpa using hi.1
        exact ss_for (N := c.N) (xs := esc c.N ED false it) rfl hp g.calm (si_iter S g hi) (tg_of g ht) (i2 m body hb) (fold_set hs _)
      · rename_i t body pos
        rw [Bool.and_eq_true] at h
        exact ss_while (N := c.N) (xs := esc c.N ED true t) hp ((E h.1).2.1) (i2 m body h.2)
      · exact none
      · cases h
    · cases m with
      | zero => cases h
      | succ m =>
      unfold ckSs at h
      cases sts with
      | nil => exact sss_nil
      | cons st r =>
        rw [Bool.and_eq_true] at h
        exact sss_cons (i1 m st h.1) (i2 m r h.2)
end
end EV

namespace EV
open PySem PySem.Spec PyProof.Rows L2
def argNames (st : Stmt) : List Str := (defArgs st).args.map (·.arg)
/-- a def's text is one that the evaluator covers -/
def ckDf (fns : List Str) (st : Stmt) (d : Df) : Bool :=
  (decide ((defScope st).kind = .function) && (!(defScope st).isCoroutine && !(defScope st).isGenerator)) &&
  ((decide d.N.Nodup && decide (d.N.take (argNames st).length = argNames st)) && (((argNames st).all fun x => decide ((defScope st).names.lookup x = some .local) || decide ((defScope st).names.lookup x = some .cell)) && ((defScope st).names.all fun y => decide (y.2 ≠ .free)))) &&
  (decide (d.np = (argNames st).length) && ckSs d.N fns ED (defScope st) (defBody st))
structure MgOk (K : PySem.W.Frag) (w : World) (mg : Str → Option Value) (G : Str → Option D) : Prop where
  b : ∀ bi, mg (bName bi) = none
  t : ∀ t, mg (tName t) = none
  i : mg "isinstance" = none
  r : mg "range" = none
  z : mg "zip" = none
  glob : ∀ x d, G x = some d → ∃ v u, mg x = some u ∧ RelV v u ∧ ∀ O H, Ro K w O H v d
/-- a def stands in the module -/
structure DfIn (K : PySem.W.Frag) (mg : Str → Option Value) (fns : List Str) (st : Stmt) (d : Df) : Prop where
  ex : ∃ f fd, Fun K d.name d.name st f fd ∧ mg d.name = some (.ref f) ∧ Binds K fd (argNames st) []
  body : d.body = defBody st
  ck : ckDf fns st d = true
theorem findD_mem {f : Str} : ∀ {P : List Df} {d : Df}, findD f P = some d → d ∈ P ∧ d.name = f
  | [], _, h => by cases h
  | e :: r, d, h => by
    unfold findD at h
    by_cases q : e.name = f
    · rw [decide_eq_true q] at h; cases h; exact ⟨List.mem_cons_self, q⟩
    · rw [decide_eq_false q] at h
      obtain ⟨h1, h2⟩ := findD_mem h
      exact ⟨List.mem_cons_of_mem _ h1, h2⟩
theorem findD_none {f : Str} : ∀ {P : List Df}, findD f P = none → ∀ d ∈ P, d.name ≠ f
  | [], _, d, h => by cases h
  | e :: r, h, d, hd => by
    unfold findD at h
    by_cases q : e.name = f
    · rw [decide_eq_true q] at h; cases h
    · rw [decide_eq_false q] at h
      rcases List.mem_cons.mp hd with rfl | hd
      · exact q
      · exact findD_none h d hd
section
variable {P : Program} {w : World} {K : PySem.W.Frag} {mg : Str → Option Value} {base : Heap} {G : Str → Option D} {fns : List Str} {T : List Df}
def CallB (P : Program) (w : World) (K : PySem.W.Frag) (mg : Str → Option Value) (base : Heap) (k : Nat) (f : Str) (g : List D → Option D) : Prop :=
  ∃ fa fd ps, FnG P w K mg base k fa fd ps (spD K w g) ∧ mg f = some (.ref fa) ∧ PySem.W.keepIn K (.ref fa) = true ∧ Binds K fd ps []
theorem rs_start {O : Addr → Prop} {N : List Str} {H : Hp} {vs : List V} {ds : List D} {np : Nat} (hO : OkO O H) (r : RoAll K w O H vs ds) (hl : ds.length = np) (hn : np ≤ N.length) :
    Rs K w O H O (ds.map Sl.sh ++ List.replicate (N.length - np) .un) (L2.start N vs) H := by
  have hv : vs.length = ds.length := r.length
  refine ⟨hO, fun _ z => z, fun _ z => .inl z, Same.refl H, fun i s e => ?_, fun i j l l' a e => ?_, by simp [L2.start, hv, hl]⟩
  · by_cases hi : i < ds.length
    · rw [List.getElem?_append_left (by simpa using hi), List.getElem?_map] at e
      obtain ⟨d, ed, rfl⟩ := Option.map_eq_some_iff.mp e
      obtain ⟨v, ev, rv⟩ := r.get ed
      refine ⟨v, ?_, rv⟩
      unfold L2.start
      rw [List.getElem?_append_left (by simpa [hv] using hi), List.getElem?_map, ev]; rfl
    · rw [List.getElem?_append_right (by simpa using hi)] at e
      have := List.mem_of_getElem? e
      rw [List.mem_replicate] at this
      rw [this.2]
      trivial
  · exfalso
    have := List.mem_of_getElem? e
    rw [List.mem_append] at this
    rcases this with h | h
    · obtain ⟨d, _, h⟩ := List.mem_map.mp h; cases h
    · rw [List.mem_replicate] at h; cases h.2
/-- one def, from its callees -/
theorem fn_one (M : MgOk K w mg G) {k : Nat} (hc : ∀ f ∈ fns, CallB P w K mg base k f (callN T G k f)) {d : Df} {st : Stmt} (hq : findD d.name T = some d) (hbody : d.body = defBody st) (ck : ckDf fns st d = true) {f : Addr} {fd : FuncData} (F : Fun K d.name d.name st f fd) :
    FnG P w K mg base (k + 1) f fd (argNames st) (spD K w (callN T G (k + 1) d.name)) := by
    unfold ckDf at ck
    simp only [Bool.and_eq_true, decide_eq_true_eq, List.all_eq_true, Bool.or_eq_true, Bool.not_eq_true'] at ck
    obtain ⟨⟨⟨c1, c2, c3⟩, ⟨c4, c5⟩, c6, c7⟩, c8, c9⟩ := ck
    have S : FnScope d.N (argNames st) (defScope st) := ⟨c1, c2, c3, c4, c5, c6, c7⟩
    have hle : (argNames st).length ≤ d.N.length := by have := congrArg List.length c5; rw [List.length_take] at this; omega
    have len : ∀ vs H Q E, spD K w (callN T G (k + 1) d.name) vs H Q E → vs.length = (argNames st).length := fun vs H Q E ⟨O, ds, x, hO, r, e, q⟩ => by
      unfold callN at e
      rw [hq] at e
      unfold Option.bind at e
      obtain ⟨c, _⟩ := cond_some (show cond _ _ _ = some x from e)
      have := of_decide_eq_true c
      rw [r.length, this, c8]
    refine Fun.okG F S len fun cdv A outer s H vs Q E hr hgd ⟨O, ds, x, hO, r, e, q⟩ => ?_
    unfold callN at e
    rw [hq] at e
    obtain ⟨c, e⟩ := cond_some (show cond _ _ _ = some x from e)
    have hl := of_decide_eq_true c
    obtain ⟨fl, e1, e2⟩ := bind_some e
    have g : Good ⟨d.N, G, callN T G k⟩ k fns (cxOf CX0 P w K mg base d.N d.name (defScope st) f cdv A outer s H E).nox (defScope st) yes := by
      refine ⟨rfl, S.nd, rfl, fun _ _ => rfl, rfl, hr, hgd, M.b, M.t, M.i, M.r, M.z, fun x y hy => M.glob x y hy, fun x hx => ⟨hc x hx⟩⟩
    have hp : PassesOwn (model (cxOf CX0 P w K mg base d.N d.name (defScope st) f cdv A outer s H E).nox.prog (cxOf CX0 P w K mg base d.N d.name (defScope st) f cdv A outer s H E).nox.w) (cxOf CX0 P w K mg base d.N d.name (defScope st) f cdv A outer s H E).nox.A (cxOf CX0 P w K mg base d.N d.name (defScope st) f cdv A outer s H E).nox.env (cxOf CX0 P w K mg base d.N d.name (defScope st) f cdv A outer s H E).nox.xe := PassesOwn.never
    refine ⟨_, (ss_all g c1 hp (O0 := O) (H0 := H) ED).2 ED (defBody st) c9, O, _, fl, rs_start hO r hl (by rw [c8]; exact hle), by rw [← hbody]; exact e1, ?_⟩
    cases fl with
    | next es => cases e2; exact fun O' σ' H' s' R' => q H' .non R'.k0 .non
    | ret y => cases e2; exact fun v H' s' r' => q H' v s' r'
    | brk es => cases e2
    | cont es => cases e2
theorem calls_ok (M : MgOk K w mg G) (hT : ∀ d ∈ T, ∃ st, DfIn K mg fns st d) (hf : ∀ f ∈ fns, ∃ d ∈ T, d.name = f) : ∀ k, ∀ d ∈ T, CallB P w K mg base k d.name (callN T G k d.name)
  | 0, d, hd => by
    obtain ⟨st, ⟨⟨f, fd, F, hm, hb⟩, _, _⟩⟩ := hT d hd
    exact ⟨f, fd, argNames st, ⟨(fun vs H Q E ⟨O, ds, d, hO, r, e, q⟩ => by cases e), (fun A outer s H args us vs Q E _ _ _ _ _ ⟨O, ds, d, hO, r, e, q⟩ => by cases e)⟩, hm, F.kp, hb⟩
  | k + 1, d0, hd0 => by
    have ih := calls_ok M hT hf k
    cases hq : findD d0.name T with
    | none => exact absurd rfl (findD_none hq d0 hd0)
    | some d =>
    obtain ⟨hd, hn⟩ := findD_mem hq
    obtain ⟨st, ⟨⟨f, fd, F, hm, hb⟩, hbody, ck⟩⟩ := hT d hd
    rw [← hn]
    rw [← hn] at hq
    have hc : ∀ f ∈ fns, CallB P w K mg base k f (callN T G k f) := fun x hx => by
      obtain ⟨d', hd', rfl⟩ := hf x hx
      exact ih d' hd'
    exact ⟨f, fd, argNames st, fn_one M hc hq hbody ck F, hm, F.kp, hb⟩
end
end EV

namespace EV
open PySem PySem.Spec PyProof.Rows L2
/-! ### the module's constants -/
mutual
def kD (K : PySem.W.Frag) : Nat → Value → D → Bool
  | _, .none, .none => true
  | _, .bool b, .bool c => b == c
  | _, .int i _, .int j => decide (i = j)
  | _, .str x _, .str y => decide (x = y) && PyData.canLay0 (.str y)
  | n + 1, .ref a, .list ds => (match K.lookup a with
    | some ⟨.type c, none, .seq its _, _⟩ => decide (c = "list") && (decide (its.size ≤ sizeLine) && kDs K n its.toList ds)
    | _ => false)
  | n + 1, .ref a, .tuple ds => (match K.lookup a with
    | some ⟨.type c, _, .seq its _, _⟩ => decide (c = "tuple") && (decide (its.size ≤ sizeLine) && kDs K n its.toList ds)
    | _ => false)
  | _, _, _ => false
def kDs (K : PySem.W.Frag) : Nat → List Value → List D → Bool
  | _, [], [] => true
  | n, u :: us, d :: ds => kD K n u d && kDs K n us ds
  | _, _, _ => false
end
section
variable {K : PySem.W.Frag} {w : World}
mutual
theorem kD_ok : ∀ (n : Nat) (u : Value) (d : D), kD K n u d = true → ∃ v, RelV v u ∧ ∀ O H, Ro K w O H v d
  | n, u, d, h => by
    unfold kD at h
    split at h
    · exact ⟨.non, rfl, fun _ _ => .non⟩
    · rename_i b c
      have e : b = c := by simpa using h
      subst e
      exact ⟨.bl b, rfl, fun _ _ => .bl b⟩
    · rename_i i t j
      have e : i = j := of_decide_eq_true h
      subst e
      exact ⟨.int i, ⟨t, rfl⟩, fun _ _ => .int i⟩
    · rename_i x t y
      rw [Bool.and_eq_true] at h
      have e : x = y := of_decide_eq_true h.1
      subst e
      exact ⟨.str x, ⟨t, rfl⟩, fun _ _ => .str x h.2⟩
    · rename_i n a ds
      split at h
      · rename_i c its m sl q
        rw [Bool.and_eq_true, Bool.and_eq_true] at h
        obtain ⟨vs, r, hv⟩ := kDs_ok n _ _ h.2.2
        exact ⟨.ref a, rfl, fun O H => .kls ⟨_, its, m, q, congrArg Value.type (of_decide_eq_true h.1), rfl, rfl, of_decide_eq_true h.2.1, r⟩ (hv O H)⟩
      · cases h
    · rename_i n a ds
      split at h
      · rename_i c od its m sl q
        rw [Bool.and_eq_true, Bool.and_eq_true] at h
        obtain ⟨vs, r, hv⟩ := kDs_ok n _ _ h.2.2
        exact ⟨.ref a, rfl, fun O H => .tup (.inr ⟨_, its, m, q, congrArg Value.type (of_decide_eq_true h.1), rfl, of_decide_eq_true h.2.1, r⟩) (hv O H)⟩
      · cases h
    · cases h
theorem kDs_ok : ∀ (n : Nat) (us : List Value) (ds : List D), kDs K n us ds = true → ∃ vs, Vals vs us ∧ ∀ O H, RoAll K w O H vs ds
  | n, us, ds, h => by
    unfold kDs at h
    split at h
    · exact ⟨[], .nil, fun _ _ => .nil⟩
    · rename_i u us d ds
      rw [Bool.and_eq_true] at h
      obtain ⟨v, r, hv⟩ := kD_ok n u d h.1
      obtain ⟨vs, rs, hvs⟩ := kDs_ok n us ds h.2
      exact ⟨v :: vs, .cons r rs, fun O H => .cons (hv O H) (hvs O H)⟩
    · cases h
end
/-! a dict with text keys -/
theorem nsIn_out {P : Params} {a : Addr} {ks : List Str} (h : He.dicW K a = some (He.keysIn P ks)) {z : Str} (hz : z ∉ ks) : PySem.W.nsIn K a z = some none := by
  unfold He.dicW at h
  split at h
  · rename_i c es n sl q
    split at h
    · have h1 := Option.some.inj h
      have hk : ∀ (l : List DictEntry) (ks : List Str), l.map He.keyOf = He.keysIn P ks → z ∉ ks → l.find? (·.key.isStr z) = none ∧ l.any (·.refKey) = false := by
        intro l
        induction l with
        | nil => intro ks _ _; exact ⟨rfl, rfl⟩
        | cons e r ih =>
          intro ks h hz
          cases ks with
          | nil => cases h
          | cons k ks =>
            have h2 : He.keyOf e :: r.map He.keyOf = some (k, PyData.keyHash P k) :: He.keysIn P ks := h
            injection h2 with h3 h4
            obtain ⟨i1, i2⟩ := ih ks h4 fun q => hz (List.mem_cons_of_mem _ q)
            unfold He.keyOf at h3
            split at h3
            · rename_i x t q
              have h5 := (Prod.mk.inj (Option.some.inj h3)).1
              have hne : x ≠ z := fun q => hz (by rw [← q, h5]; exact List.mem_cons_self)
              have hf : e.key.isStr z = false := by
                rw [q]
                unfold Value.isStr
                simp [hne]
              refine ⟨by rw [List.find?_cons, hf]; exact i1, ?_⟩
              rw [List.any_cons, i2, Bool.or_false]
              unfold DictEntry.refKey
              rw [q]
            · cases h3
      obtain ⟨e1, e2⟩ := hk es.toList ks h1 hz
      unfold PySem.W.nsIn
      rw [q]
      show (match es.toList.find? (·.key.isStr z) with
        | some e => some (some e.val)
        | none => if es.toList.any (·.refKey) then none else some none) = _
      rw [e1, e2]
      rfl
    · cases h
  · cases h
/-- a table's values -/
def tabB (K : PySem.W.Frag) (x : Str) (kvs : List (Str × D)) : Bool := He.eqO (PySem.W.nsIn K mainGlobals x) (some (some (.ref (He.ga K x)))) && kvs.all fun q => match PySem.W.nsIn K (He.ga K x) q.1 with
  | some (some u) => kD K 8 u q.2
  | _ => false
def dictD (kvs : List (Str × D)) : D := .dict (kvs.map fun q => (.str q.1, q.2))
theorem tab_vals {a : Addr} : ∀ {kvs : List (Str × D)}, (kvs.all fun q => match PySem.W.nsIn K a q.1 with
  | some (some u) => kD K 8 u q.2
  | _ => false) = true → ∃ ps : List (Str × V), ps.map (·.1) = kvs.map (·.1) ∧ (∀ p ∈ ps, ∃ u, PySem.W.nsIn K a p.1 = some (some u) ∧ RelV p.2 u) ∧ ∀ O H, RoAll K w O H (ps.map (·.2)) (kvs.map (·.2))
  | [], _ => ⟨[], rfl, (fun _ h => by cases h), fun _ _ => .nil⟩
  | q :: r, h => by
    rw [List.all_cons, Bool.and_eq_true] at h
    obtain ⟨ps, h1, h2, h3⟩ := tab_vals h.2
    have h0 := h.1
    split at h0
    · rename_i u e
      obtain ⟨v, rv, hv⟩ := kD_ok (w := w) 8 u q.2 h0
      refine ⟨(q.1, v) :: ps, by simp [h1], fun p hp => ?_, fun O H => .cons (hv O H) (h3 O H)⟩
      rcases List.mem_cons.mp hp with rfl | hp
      · exact ⟨u, e, rv⟩
      · exact h2 p hp
    · cases h0
theorem zip_str : ∀ {ps : List (Str × V)} {kvs : List (Str × D)}, ps.map (·.1) = kvs.map (·.1) → ((ps.map fun p => PyData.str p.1).zip (kvs.map (·.2))) = kvs.map fun q => (.str q.1, q.2)
  | [], [], _ => rfl
  | p :: ps, q :: kvs, h => by
    simp only [List.map_cons, List.cons.injEq] at h
    simp only [List.map_cons, List.zip_cons_cons, h.1, zip_str h.2]
  | [], _ :: _, h => by cases h
  | _ :: _, [], h => by cases h
theorem tab_ok {x : Str} {kvs : List (Str × D)} (h : tabB K x kvs = true) (hd : He.dicW K (He.ga K x) = some (He.keysIn w.params (kvs.map (·.1)))) : PySem.W.nsIn K mainGlobals x = some (some (.ref (He.ga K x))) ∧ ∀ O H, Ro K w O H (.ref (He.ga K x)) (dictD kvs) := by
  unfold tabB at h
  rw [Bool.and_eq_true] at h
  obtain ⟨ps, h1, h2, h3⟩ := tab_vals (w := w) h.2
  obtain ⟨es, n, kd⟩ := He.dicW_ok hd
  refine ⟨He.eqO_ok h.1, fun O H => ?_⟩
  have := Ro.kdc (O := O) (H := H) kd h2 (fun z hz => nsIn_out hd (by rw [← h1]; exact hz)) (h3 O H)
  rw [zip_str h1] at this
  exact this
end
/-! ### what the walk looks at behind the top -/
structure Hd where
  fn : List He.DefD
  free : List Str
  cs : List (Str × D)
  ts : List (Str × List (Str × D))
def Hd.fa (h : Hd) : List He.Fa := h.fn.map (fun d => .glo d.name) ++ h.free.map .free
def Hd.tabs (h : Hd) : List He.Tab := h.ts.map fun t => ((fun K => He.ga K t.1), t.2.map (·.1))
def Hd.extra (h : Hd) (K : PySem.W.Frag) : Bool := (h.cs.all fun q => match PySem.W.nsIn K mainGlobals q.1 with
  | some (some u) => kD K 8 u q.2
  | _ => false) && h.ts.all fun t => tabB K t.1 t.2
def Hd.G (h : Hd) (x : Str) : Option D := (h.cs ++ h.ts.map fun t => (t.1, dictD t.2)).lookup x
def Hd.obs (h : Hd) (K : PySem.W.Frag) : Bool × He.AlT := (h.extra K, He.obsT h.fa h.fn h.tabs K)
def Hd.obsG (h : Hd) (n : Nat) (g : Addr → Option Obj) : Bool × He.AlT := h.obs (He.frG g (He.asD g n))
def Hd.val (h : Hd) (w : World) : Bool × He.AlT := (true, He.valT h.fn h.tabs w)
def Hd.hook (h : Hd) (n : Nat) : PySem.W.Hook where
  α := Bool × He.AlT
  obs := fun s => h.obsG n s.heap.get?
  val := fun w => h.val w
  says := fun w hp => ∃ K : PySem.W.Frag, K.In hp ∧ h.obs K = h.val w
  of := fun _ _ e => ⟨_, He.frG_in, e⟩
  keeps := fun _ _ _ ⟨K, hK, c⟩ k => ⟨K, PySem.W.Frag.In.keeps hK k, c⟩
theorem Hd.obsG_eq {h : Hd} {n : Nat} {g : Addr → Option Obj} {s : Shared} (e : ∀ a, g a = s.heap.get? a) : h.obsG n g = (h.hook n).obs s := by
  have e2 : g = s.heap.get? := funext e
  rw [e2]
  rfl
section
variable {h : Hd} {K : PySem.W.Frag} {w : World} {hp : Heap} {mg : Str → Option Value}
theorem Hd.says_glob (c : h.obs K = h.val w) (X : K.In hp) (N : hp.Ns mainGlobals mg) {x : Str} {d : D} (e : h.G x = some d) : ∃ v u, mg x = some u ∧ RelV v u ∧ ∀ O H, Ro K w O H v d := by
  have c1 : h.extra K = true := congrArg (fun z : Bool × He.AlT => z.1) c
  have c2 : h.tabs.map (fun t => He.dicW K (t.1 K)) = h.tabs.map fun t => some (He.keysIn w.params t.2) := congrArg (fun z : Bool × He.AlT => z.2.2) c
  unfold Hd.extra at c1
  rw [Bool.and_eq_true, List.all_eq_true, List.all_eq_true] at c1
  have hm := PySem.mem_of_lookup e
  rcases List.mem_append.mp hm with hm | hm
  · have := c1.1 _ hm
    split at this
    · rename_i u q
      obtain ⟨v, rv, hv⟩ := kD_ok (w := w) 8 u d this
      exact ⟨v, u, PySem.W.mg_of X N q, rv, hv⟩
    · cases this
  · obtain ⟨t, ht, q⟩ := List.mem_map.mp hm
    cases q
    have hd : He.dicW K (He.ga K t.1) = some (He.keysIn w.params (t.2.map (·.1))) := by
      have hz : ∀ z ∈ h.tabs, He.dicW K (z.1 K) = some (He.keysIn w.params z.2) := List.map_inj_left.mp c2
      exact hz (_, _) (List.mem_map.mpr ⟨t, ht, rfl⟩)
    obtain ⟨e1, e2⟩ := tab_ok (w := w) (c1.2 t ht) hd
    exact ⟨.ref (He.ga K t.1), _, PySem.W.mg_of X N e1, rfl, e2⟩
theorem Hd.says_d (c : h.obs K = h.val w) : He.SaysD h.fa h.fn K := congrArg (fun z : Bool × He.AlT => z.2.1) c
theorem Hd.says_fact (c : h.obs K = h.val w) {f : He.Fa} (hf : f ∈ h.fa) : f.ok K = true := by
  obtain ⟨i, hi⟩ := List.mem_iff_getElem?.mp hf
  exact (Hd.says_d c).fact i hi
theorem Hd.says_free (c : h.obs K = h.val w) (X : K.In hp) (N : hp.Ns mainGlobals mg) {x : Str} (hx : x ∈ h.free) : mg x = none :=
  He.free_ok X N (Hd.says_fact c (List.mem_append_right _ (List.mem_map.mpr ⟨x, hx, rfl⟩)))
theorem Hd.says_glo (c : h.obs K = h.val w) (X : K.In hp) (N : hp.Ns mainGlobals mg) {d : He.DefD} (hd : d ∈ h.fn) : mg d.name = some (.ref (He.ga K d.name)) :=
  He.glo_ok X N (Hd.says_fact c (List.mem_append_left _ (List.mem_map.mpr ⟨d, hd, rfl⟩)))
/-- the builtins' names, one list -/
def names0 : List Str := (bAll.map bName) ++ ([Ty.tuple, .int, .bool, .str, .list].map tName ++ (["isinstance", "range", "zip"] : List Str))
theorem Hd.mgOk (c : h.obs K = h.val w) (X : K.In hp) (N : hp.Ns mainGlobals mg) (hf : ∀ x ∈ names0, x ∈ h.free) : MgOk K w mg h.G := by
  refine ⟨fun bi => ?_, fun t => ?_, ?_, ?_, ?_, fun x d e => Hd.says_glob c X N e⟩
  · exact Hd.says_free c X N (hf _ (List.mem_append_left _ (List.mem_map.mpr ⟨bi, by cases bi <;> simp [bAll], rfl⟩)))
  · exact Hd.says_free c X N (hf _ (List.mem_append_right _ (List.mem_append_left _ (List.mem_map.mpr ⟨t, by cases t <;> simp, rfl⟩))))
  · exact Hd.says_free c X N (hf _ (List.mem_append_right _ (List.mem_append_right _ (by simp))))
  · exact Hd.says_free c X N (hf _ (List.mem_append_right _ (List.mem_append_right _ (by simp))))
  · exact Hd.says_free c X N (hf _ (List.mem_append_right _ (List.mem_append_right _ (by simp))))
/-- a def of the top by its statement -/
def ddOf (x : Str) (st : Stmt) : He.DefD := ⟨(x, none), x, x, defArgs st, defBody st, defScope st, [], []⟩
def BindOk (st : Stmt) (x : Str) : Prop := ∀ (kV doc pm : Value) (an : Option Addr) (cdv ct : Value) (us : List Value), us.length = (argNames st).length → bindArgs (PySem.W.fnOf x x (defArgs st) (defBody st) (defScope st) .none kV doc pm an cdv ct) ⟨us, []⟩ = pure ((argNames st).zip us)
theorem Hd.dfIn (c : h.obs K = h.val w) (X : K.In hp) (N : hp.Ns mainGlobals mg) {fns : List Str} {st : Stmt} {d : Df} (hd : ddOf d.name st ∈ h.fn) (hb : BindOk st d.name) (body : d.body = defBody st) (ck : ckDf fns st d = true) : DfIn K mg fns st d := by
  obtain ⟨i, hi⟩ := List.mem_iff_getElem?.mp hd
  obtain ⟨fd, F⟩ := (Hd.says_d c).def_ i hi
  refine ⟨⟨He.ga K d.name, fd, ?_, Hd.says_glo c X N hd, FunD.bindsN F hb⟩, body, ck⟩
  obtain ⟨oc, od, dV, kV, doc, pm, an, cdv, ct, osl, e1, e2, e3, e4, e5⟩ := F.ex
  rcases e4 with ⟨_, rfl⟩ | ⟨z, _⟩
  · exact ⟨⟨oc, od, kV, doc, pm, an, cdv, ct, osl, e1, e2, e3⟩, F.kp⟩
  · exact absurd rfl z
end
end EV

namespace EV
open PySem PySem.Spec PyProof.Rows L2
section
variable {P : Program} {w : World} {K : PySem.W.Frag} {mg mb : Str → Option Value} {k : Nat} {fa a : Addr} {fd : FuncData} {x : Str} {sp : Sp} {s₁ : Shared} {vs : List Value} {ns : List Int}
/-- the script's list, hidden from the module's part of the heap (H: what is tracked of it) -/
theorem law_at (KX : K.In s₁.heap) (hns : s₁.heap.Ns mainGlobals mg) (hb : s₁.heap.Ns builtinsNs mb) (hbb : ∀ x : Str, x ≠ "__name__" → mb x = bootBuiltins x) (hlim : s₁.heap.NoLimit) (hg : s₁.gens = #[])
    (ha : s₁.heap.get? a = some { cls := .type "list", data := .seq vs.toArray }) (hr : Room k callerA)
    (F : ∀ base : Heap, K.In base → base.Ns mainGlobals mg → FnG P w K mg base k fa fd [x] sp) (hbind : ∀ (s : Shared) (u : Value), BindsTo s fd ⟨[u], []⟩ [(x, u)])
    {H : Hp} (hO : Only H) (hok : HOk P w H s₁.heap) (hA : ∀ b, H b ≠ none → b = a) (hK : H a ≠ none → K.lookup a = none) (hsp : sp [.ref a] H (fun v _ => v = .bl true) E0) :
    codeAny (model P w) callerA (.call (.ref fa) ⟨[.ref a], []⟩) (fun r s' => r = .ok (.ret (.bool true)) ∧ OldK s₁.heap s'.heap ∧ s'.os = s₁.os ∧ AllBare s'.gens) s₁ := by
  have free : ∀ {b : Addr} {o : Obj}, s₁.heap.get? b = some o → (b = a → H a = none) → (hidT s₁.heap H).get? b = some o := fun {b o} e n => by
    refine hidT_get e ?_
    cases q : H b with
    | none => rfl
    | some u =>
      have e' : b = a := hA b (by rw [q]; exact nofun)
      rw [e', n e'] at q
      cases q
  have dict : ∀ {b : Addr} {m : Str → Option Value}, s₁.heap.Ns b m → (hidT s₁.heap H).Ns b m := fun {b m} ⟨o, es, ep, e, d, r⟩ => by
    refine ⟨o, es, ep, free e fun z => ?_, d, r⟩
    subst z
    rw [ha] at e
    cases e
    exact nomatch d
  have kin : K.In (hidT s₁.heap H) := fun b o e => free (KX b o e) fun z => by
    cases q : H a with
    | none => rfl
    | some u =>
      have := hK (by rw [q]; exact nofun)
      rw [← z, e] at this
      cases this
  have md : Mod K mg (hidT s₁.heap H) := ⟨kin, dict hns, ⟨mb, dict hb, hbb⟩, let ⟨mc, h1, h2⟩ := hlim; ⟨mc, dict h1, h2⟩⟩
  have e0 : Env0 P w K mg (hidT s₁.heap H) callerA [] s₁ H := ⟨rfl, md, fun b o e => of_hidT e, Nat.le_of_eq (hidT_size _ _), trivial, nofun, hok, .of_eq hg⟩
  refine codeAny_mono ((F _ kin (dict hns)).run callerA [] s₁ H ⟨[.ref a], []⟩ [.ref a] [.ref a] _ _ hr rfl e0 (hbind s₁ (.ref a)) (.cons rfl .nil) hsp) fun r s' z => ?_
  match r, z with
  | .error _, z => exact False.elim z
  | .ok .next, z => exact False.elim z
  | .ok .brk, z => exact False.elim z
  | .ok .cont, z => exact False.elim z
  | .ok (.ret u), ⟨v, H', os, bare, un, hok', r', q⟩ =>
    have q' : v = .bl true := q
    subst q'
    obtain rfl : u = Value.bool true := r'
    refine ⟨rfl, OldK.of_keep fun b o e => ?_, os, bare⟩
    rcases hO b with n | ⟨ob, ys, n⟩
    · exact un.keep b o e n nofun nofun
    · obtain ⟨e1, _⟩ := hok b _ n
      obtain ⟨e2, _⟩ := hok' b _ (un.frzs b ob _ n)
      rw [e] at e1
      cases e1
      exact e2
theorem law_callG (KX : K.In s₁.heap) (hns : s₁.heap.Ns mainGlobals mg) (hb : s₁.heap.Ns builtinsNs mb) (hbb : ∀ x : Str, x ≠ "__name__" → mb x = bootBuiltins x) (hlim : s₁.heap.NoLimit) (hg : s₁.gens = #[])
    (ha : s₁.heap.get? a = some { cls := .type "list", data := .seq vs.toArray }) (hi : IntsAre vs ns) (hl : ns.length ≤ sizeLine) (hr : Room k callerA)
    (F : ∀ base : Heap, K.In base → base.Ns mainGlobals mg → FnG P w K mg base k fa fd [x] sp) (hbind : ∀ (s : Shared) (u : Value), BindsTo s fd ⟨[u], []⟩ [(x, u)])
    (hsp : ∀ H : Hp, Only H → SqL K H a (ns.map V.int) → sp [.ref a] H (fun v _ => v = .bl true) E0) :
    codeAny (model P w) callerA (.call (.ref fa) ⟨[.ref a], []⟩) (fun r s' => r = .ok (.ret (.bool true)) ∧ OldK s₁.heap s'.heap ∧ s'.os = s₁.os ∧ AllBare s'.gens) s₁ := by
  have rv := vals_ints hi
  have hlen : vs.length = ns.length := hi.length
  cases hk : K.lookup a with
  | some o =>
    have e := KX a o hk
    rw [ha] at e
    cases e
    have hO : Only fun _ => none := fun _ => .inl rfl
    exact law_at KX hns hb hbb hlim hg ha hr F hbind hO (fun _ _ z => nomatch z) (fun _ z => absurd rfl z) (fun z => absurd rfl z) (hsp _ hO (.inr ⟨_, vs.toArray, _, hk, rfl, rfl, rfl, by rw [List.size_toArray, hlen]; exact hl, by simpa using rv⟩))
  | none =>
    let H : Hp := upd (fun _ => none) a (.frz { cls := .type "list", data := .seq vs.toArray } (.lst (ns.map V.int)))
    have hH : H a = some (.frz { cls := .type "list", data := .seq vs.toArray } (.lst (ns.map V.int))) := upd_same
    have hn : ∀ b, b ≠ a → H b = none := fun b n => upd_ne n
    have hO : Only H := fun b => by
      by_cases q : b = a
      · subst q; exact .inr ⟨_, _, hH⟩
      · exact .inl (hn b q)
    refine law_at KX hns hb hbb hlim hg ha hr F hbind hO (fun b u z => ?_) (fun b z => Classical.byContradiction fun n => z (hn b n)) (fun _ => hk) (hsp _ hO (.inl (.inr ⟨_, hH⟩)))
    by_cases q : b = a
    · subst q
      rw [hH] at z
      cases z
      exact ⟨ha, by rw [List.length_map]; exact hl, vs, _, rv, ha⟩
    · rw [hn b q] at z
      cases z
end
theorem walkG {l : PySem.W.OpenLaw} {n k : Nat} {q : Program} {loose : List Str} {XP : (Str → Option Value) → Heap → Prop} {YP : World → Heap → Prop} {d : DefRec} {x : Str}
    (hn : l.most = some n) (hn2 : n ≤ sizeLine) (hdf : d.params.defaults = []) (hr : Room k callerA)
    (F : ∀ (w : World) (mg : Str → Option Value) (fa : Addr) (h : Heap), YP w h → h.Ns mainGlobals mg → mg d.name = some (.ref fa) →
      ∃ (K : PySem.W.Frag) (fd : FuncData) (g : List D → Option D), K.In h ∧ (∀ (s : Shared) (u : Value), BindsTo s fd ⟨[u], []⟩ [(x, u)]) ∧
        (∀ ns : List Int, ns.length ≤ n → (∀ k ∈ ns, Builtin.Int.intBits k ≤ 1048576) → g [.list (ns.map .int)] = some (.bool true)) ∧
        ∀ base : Heap, K.In base → base.Ns mainGlobals mg → FnG l.prog w K mg base k fa fd [x] (spD K w g)) :
    PySem.W.WalkO q loose XP YP l.row.toRowW d [] (fun f vs => PySem.call f vs) := by
  refine Att.attach_callB hn hdf fun w s₀ s₁ mg mb fa o pm cd doc a vs ns G Y ho hd hcd hmg hobj hints hlen hbits hg => ?_
  obtain ⟨K, fd, g, KX, hb, hsp, hF⟩ := F w mg fa _ Y G.T.g hmg
  refine law_callG KX G.T.g G.T.b G.T.builtins G.T.nolimit hg hobj hints (Nat.le_trans hlen hn2) hr hF hb fun H hO hS => ?_
  have emp : OkO (fun _ => False) H := fun _ z => z.elim
  have allI : ∀ (ms : List Int), RoAll K w (fun _ => False) H (ms.map V.int) (ms.map .int) := fun ms => by
    induction ms with
    | nil => exact .nil
    | cons m r ih => exact .cons (.int m) ih
  refine ⟨fun _ => False, _, .bool true, emp, .cons ?_ .nil, hsp ns hlen hbits, fun H' v s r => by cases r; rfl⟩
  rcases hS with hS | hS
  · exact .lst hS (fun z => z) (allI ns)
  · exact .kls hS (allI ns)
end EV

namespace EV
open PySem L2
/-! statements with what follows them: both ways of a test go on by themselves -/
section
variable {R : Type}
/-- a fresh list's items -/
def freshK (c : Cfg) (σ : List Sl) (e : Expr) (κ : List D → Option R) : Option R :=
  match e with
  | .List es _ => (args (fun b e => ev c 59 b σ e) es).bind fun ds => cond (decide (ds.length ≤ few)) (κ ds) none
  | .ListComp elt [⟨t, it, ifs, 0⟩] sc _ => (iter c.N (ev c 59 true σ) it).bind fun xs =>
      (compM (fun x => (asg c.N (wipeD σ ((ownOf c.N sc.names).map (·.2))) t x).bind fun σ' => (tests (tst c 59 σ') ifs).bind fun b => cond b ((ev c 59 false σ' elt).bind fun y => some (some y)) (some none)) xs).bind fun ys =>
        cond (decide (ys.length ≤ few)) (κ ys) none
  | .ListComp elt [⟨t, it, [], 0⟩, ⟨t', it', ifs', 0⟩] sc _ => (iter c.N (ev c 59 true σ) it).bind fun xs =>
      (compJ (fun x => (asg c.N (wipeD σ ((ownOf c.N sc.names).map (·.2))) t x).bind fun σ' => (iter c.N (ev c 59 false σ') it').bind fun zs =>
        compM (fun x => (asg c.N (wipeD σ' (tgIx c.N t')) t' x).bind fun σ'' => (tests (tst c 59 σ'') ifs').bind fun b => cond b ((ev c 59 false σ'' elt).bind fun y => some (some y)) (some none)) zs) xs).bind fun ys =>
        cond (decide (ys.length ≤ few)) (κ ys) none
  | _ => none
theorem cond_bind {b : Bool} {x : Option D} {κ : D → Option R} : (cond b x none).bind κ = cond b (x.bind κ) none := by cases b <;> rfl
theorem freshK_eq (c : Cfg) (σ : List Sl) (e : Expr) (h : isFresh e = true) (κ : D → Option R) : freshK c σ e (fun ds => κ (.list ds)) = (ev c ED false σ e).bind κ := by
  unfold freshK
  split
  · show _ = ((args (fun b e => ev c 59 b σ e) _).bind fun ds => cond (decide (ds.length ≤ few)) (some (PyData.list ds)) none).bind κ
    rw [Option.bind_assoc]
    congr 1
    funext ds
    rw [cond_bind]; rfl
  · show _ = ((iter c.N (ev c 59 true σ) _).bind fun xs => lim _).bind κ
    rw [Option.bind_assoc]
    congr 1
    funext xs
    unfold lim
    rw [Option.bind_assoc]
    congr 1
    funext ds
    rw [cond_bind]; rfl
  · show _ = ((iter c.N (ev c 59 true σ) _).bind fun xs => lim _).bind κ
    rw [Option.bind_assoc]
    congr 1
    funext xs
    unfold lim
    rw [Option.bind_assoc]
    congr 1
    funext ds
    rw [cond_bind]; rfl
  · rename_i h1 h2 h3
    have : ev c ED false σ e = none := by
      cases e with
      | List es p => exact absurd rfl (h1 es p)
      | ListComp elt gs sc p =>
        show ev c (59 + 1) false σ _ = none
        unfold ev
        split <;> first | rfl | (rename_i heq; cases heq; done) | skip
        · rename_i heq; cases heq; exact absurd rfl (h2 _ _ _ _ _ _)
        · rename_i heq; cases heq; exact absurd rfl (h3 _ _ _ _ _ _ _ _)
      | _ => cases h
    rw [this]; rfl
/-- arguments, items, with what follows -/
def argsB (f : Bool → Expr → Option D) : List Expr → (List D → Option R) → Option R
  | [], κ => κ []
  | .Starred e _ :: r, κ => (f true e).bind fun d => (items d).bind fun xs => argsB f r fun ys => κ (xs ++ ys)
  | e :: r, κ => (f false e).bind fun d => argsB f r fun ys => κ (d :: ys)
theorem argsB_eq (f : Bool → Expr → Option D) : ∀ (es : List Expr) (κ : List D → Option R), argsB f es κ = (args f es).bind κ
  | [], κ => rfl
  | e :: r, κ => by
    have ih := argsB_eq f r
    cases e <;> first
      | (show (f false _).bind _ = ((f false _).bind fun d => (args f r).bind fun ys => some (d :: ys)).bind κ
         rw [Option.bind_assoc]
         congr 1
         funext d
         rw [Option.bind_assoc, ih]
         rfl)
      | (show (f true _).bind _ = ((f true _).bind fun d => (items d).bind fun xs => (args f r).bind fun ys => some (xs ++ ys)).bind κ
         rw [Option.bind_assoc]
         congr 1
         funext d
         rw [Option.bind_assoc]
         congr 1
         funext xs
         rw [Option.bind_assoc, ih]
         rfl)
theorem freshK_eq' (c : Cfg) (σ : List Sl) (e : Expr) (h : isFresh e = true) {κ : List D → Option R} {κ' : D → Option R} (hk : ∀ ds, κ' (.list ds) = κ ds) : freshK c σ e κ = (ev c ED false σ e).bind κ' := by
  rw [← freshK_eq c σ e h, funext hk]
mutual
def exK (c : Cfg) : Nat → List Sl → Stmt → (Fl → Option R) → Option R
  | 0, _, _, _ => none
  | n + 1, σ, st, κ =>
    match st with
    | .Return (some e) _ => (ev c ED false (σ.map Sl.share) e).bind fun d => κ (.ret d)
    | .If t a b _ => (tst c ED (shareN c.N (esc c.N ED true t) σ) t).bind fun k => cond k (exsK c n (shareN c.N (esc c.N ED true t) σ) a κ) (exsK c n (shareN c.N (esc c.N ED true t) σ) b κ)
    | .Expr (.Call (.Name f p) as [] q) _ => (ev c ED false (shareN c.N (esc c.N ED false (.Call (.Name f p) as [] q)) σ) (.Call (.Name f p) as [] q)).bind fun _ => κ (.next (shareN c.N (esc c.N ED false (.Call (.Name f p) as [] q)) σ))
    | .Assign [.Name x _] e _ => (c.N.idxOf? x).bind fun i => cond (isFresh e)
        (freshK c (shareN c.N (esc c.N ED false e) σ) e fun ds => κ (.next ((shareN c.N (esc c.N ED false e) σ).set i (.ow ds))))
        ((ev c ED false (shareN c.N (esc c.N ED false e) σ) e).bind fun d => κ (.next ((shareN c.N (esc c.N ED false e) σ).set i (.sh d))))
    | .Expr (.Call (.Attribute (.Name x _) m _) [a] [] _) _ =>
      cond (decide (m = "append")) ((c.N.idxOf? x).bind fun i =>
        (ev c ED false (shareN c.N (esc c.N ED false a) σ) a).bind fun d => match (shareN c.N (esc c.N ED false a) σ)[i]? with
          | some (.ow l) => cond (decide (l.length < few)) (κ (.next ((shareN c.N (esc c.N ED false a) σ).set i (.ow (l ++ [d]))))) none
          | _ => none) (cond (decide (m = "extend") && isFresh a) ((c.N.idxOf? x).bind fun i =>
        freshK c (shareN c.N (esc c.N ED false a) σ) a fun ds => match (shareN c.N (esc c.N ED false a) σ)[i]? with
          | some (.ow l) => cond (decide (l.length + ds.length ≤ few)) (κ (.next ((shareN c.N (esc c.N ED false a) σ).set i (.ow (l ++ ds))))) none
          | _ => none) none)
    | .Assign [.Tuple es k p] (.Tuple as k2 p2) _ => argsB (fun b e => ev c 59 b (shareN c.N (esc c.N ED false (.Tuple as k2 p2)) σ) e) as fun ds => cond (decide (ds.length ≤ few))
        ((asgs c.N es ds (shareN c.N (esc c.N ED false (.Tuple as k2 p2)) σ)).bind fun σ' => κ (.next σ')) none
    | .Assign [.Tuple es k p] e _ => (ev c ED false (shareN c.N (esc c.N ED false e) σ) e).bind fun d => (asg c.N (shareN c.N (esc c.N ED false e) σ) (.Tuple es k p) d).bind fun σ' => κ (.next σ')
    | st => (ex c (n + 1) σ st).bind κ
def exsK (c : Cfg) : Nat → List Sl → List Stmt → (Fl → Option R) → Option R
  | 0, _, _, _ => none
  | _ + 1, σ, [], κ => κ (.next σ)
  | n + 1, σ, st :: r, κ => exK c n σ st fun fl => match fl with
    | .next σ' => exsK c n σ' r κ
    | f => κ f
end
theorem exK_eq (c : Cfg) : ∀ n, (∀ σ st (κ : Fl → Option R), exK c n σ st κ = (ex c n σ st).bind κ) ∧ ∀ σ sts (κ : Fl → Option R), exsK c n σ sts κ = (exs c n σ sts).bind κ
  | 0 => ⟨fun _ _ _ => rfl, fun _ _ _ => rfl⟩
  | n + 1 => by
    obtain ⟨i1, i2⟩ := exK_eq c n
    refine ⟨fun σ st κ => ?_, fun σ sts κ => ?_⟩
    · unfold exK
      split
      · rename_i e _
        show (ev c ED false (σ.map Sl.share) e).bind _ = ((ev c ED false (σ.map Sl.share) e).map Fl.ret).bind κ
        cases ev c ED false (σ.map Sl.share) e <;> rfl
      · rename_i t a b _
        unfold ex
        rw [Option.bind_assoc]
        congr 1
        funext k
        cases k with
        | true => exact i2 _ _ _
        | false => exact i2 _ _ _
      · unfold ex
        rw [Option.bind_assoc]
        rfl
      · rename_i x _ e _
        show _ = ((c.N.idxOf? x).bind fun i => (ev c ED false (shareN c.N (esc c.N ED false e) σ) e).bind fun d => some (Fl.next (setOw (shareN c.N (esc c.N ED false e) σ) i (isFresh e) d))).bind κ
        rw [Option.bind_assoc]
        congr 1
        funext i
        rw [Option.bind_assoc]
        cases hf : isFresh e with
        | true =>
          rw [cond_true]
          exact freshK_eq' c _ e hf fun ds => rfl
        | false =>
          rw [cond_false]
          congr 1
          funext d
          cases d <;> rfl
      · rename_i x _ m _ a _ _
        show _ = (cond (decide (m = "append")) _ (cond (decide (m = "extend") && isFresh a) _ none)).bind κ
        cases decide (m = "append") with
        | true =>
          rw [cond_true, cond_true, Option.bind_assoc]
          congr 1
          funext i
          rw [Option.bind_assoc]
          congr 1
          funext d
          generalize (shareN c.N (esc c.N ED false a) σ)[i]? = q
          cases q with
          | none => rfl
          | some s =>
            cases s with
            | ow l =>
              show cond (decide (l.length < few)) _ _ = Option.bind (cond (decide (l.length < few)) _ _) κ
              cases decide (l.length < few) <;> rfl
            | _ => rfl
        | false =>
          rw [cond_false, cond_false]
          cases hq : (decide (m = "extend") && isFresh a) with
          | false => rfl
          | true =>
            have hf : isFresh a = true := (Bool.and_eq_true_iff.mp hq).2
            rw [cond_true, cond_true, Option.bind_assoc]
            congr 1
            funext i
            rw [Option.bind_assoc]
            refine freshK_eq' c _ a hf fun ds => ?_
            generalize (shareN c.N (esc c.N ED false a) σ)[i]? = q
            cases q with
            | none => rfl
            | some s =>
              cases s with
              | ow l =>
                show Option.bind (cond (decide (l.length + ds.length ≤ few)) _ _) κ = cond (decide (l.length + ds.length ≤ few)) _ _
                cases decide (l.length + ds.length ≤ few) <;> rfl
              | _ => rfl
      · rename_i es k p as k2 p2 _
        show _ = (((args (fun b e => ev c 59 b (shareN c.N (esc c.N ED false (.Tuple as k2 p2)) σ) e) as).bind fun ds => cond (decide (ds.length ≤ few)) (some (PyData.tuple ds)) none).bind fun d => (asg c.N (shareN c.N (esc c.N ED false (.Tuple as k2 p2)) σ) (.Tuple es k p) d).map .next).bind κ
        rw [argsB_eq, Option.bind_assoc, Option.bind_assoc]
        congr 1
        funext ds
        cases decide (ds.length ≤ few) with
        | false => rfl
        | true =>
          show _ = ((asgs c.N es ds (shareN c.N (esc c.N ED false (.Tuple as k2 p2)) σ)).map Fl.next).bind κ
          cases asgs c.N es ds (shareN c.N (esc c.N ED false (.Tuple as k2 p2)) σ) <;> rfl
      · rename_i es k p e _ _
        show _ = ((ev c ED false (shareN c.N (esc c.N ED false e) σ) e).bind fun d => (asg c.N (shareN c.N (esc c.N ED false e) σ) (.Tuple es k p) d).map .next).bind κ
        rw [Option.bind_assoc]
        congr 1
        funext d
        cases asg c.N (shareN c.N (esc c.N ED false e) σ) (.Tuple es k p) d <;> rfl
      · rfl
    · cases sts with
      | nil => rfl
      | cons st r =>
        show exK c n σ st _ = ((ex c n σ st).bind _).bind κ
        rw [i1, Option.bind_assoc]
        congr 1
        funext fl
        cases fl with
        | next σ' => exact i2 _ _ _
        | ret d => rfl
        | brk _ => rfl
        | cont _ => rfl
end
/-- how a def ends -/
def endK : Fl → Option D
  | .ret d => some d
  | .next _ => some .none
  | _ => none
theorem callK {P : List Df} {G : Str → Option D} {k : Nat} {f : Str} {ds : List D} {d : Df} (h : findD f P = some d) (hl : ds.length = d.np) :
    callN P G (k + 1) f ds = exsK ⟨d.N, G, callN P G k⟩ ED (ds.map Sl.sh ++ List.replicate (d.N.length - d.np) .un) d.body endK := by
  unfold callN
  rw [h]
  show cond (decide (ds.length = d.np)) _ none = _
  rw [decide_eq_true hl, cond_true, (exK_eq _ _).2]
  congr 1
/-- a loop's body, by itself -/
theorem bodyK {c : Cfg} {n : Nat} {σ : List Sl} {b : List Stmt} : exs c n σ b = exsK c n σ b some := by
  rw [(exK_eq c n).2]
  cases exs c n σ b <;> rfl
/-- what a range gives -/
def rng1 (d : D) : Option (List D) := match d with
  | .int j => cond (small62 j) (some (intRange 0 j.toNat)) none
  | _ => none
def rng2 (d d' : D) : Option (List D) := match d, d' with
  | .int i, .int j => cond (small62 i && small62 j) (some (intRange i (j - i).toNat)) none
  | _, _ => none
def prtD (d : D) : Option (Option Int) := match d with
  | .int i => some (some i)
  | _ => none
/-! ways into a text -/
def asgT : Stmt → Expr
  | .Assign [t] _ _ => t
  | _ => .Tuple [] 0 ⟨0, 0, 0, 0⟩
def tupE : Expr → List Expr
  | .Tuple es _ _ => es
  | _ => []
def whT : Stmt → Expr
  | .While t _ _ _ => t
  | _ => .Tuple [] 0 ⟨0, 0, 0, 0⟩
def stAt (b : List Stmt) (i : Nat) : Stmt := b.getD i (.Pass ⟨0, 0, 0, 0⟩)
def forB : Stmt → List Stmt
  | .For _ _ b _ _ => b
  | _ => []
def forT : Stmt → Expr
  | .For t _ _ _ _ => t
  | _ => .Tuple [] 0 ⟨0, 0, 0, 0⟩
def ifA : Stmt → List Stmt
  | .If _ a _ _ => a
  | _ => []
def ifB : Stmt → List Stmt
  | .If _ _ b _ => b
  | _ => []
def whB : Stmt → List Stmt
  | .While _ b _ _ => b
  | _ => []
/-- a target of names -/
def nmT (xs : List Str) : Expr := .Tuple (xs.map fun x => .Name x ⟨0, 0, 0, 0⟩) 0 ⟨0, 0, 0, 0⟩
end EV

set_option maxHeartbeats 0
namespace K06
open PySem PySem.Spec PyProof.Rows L2 EV
def top (i : Nat) : Stmt := PySem.Challenge.pw_typedbydegrees_k06_whole_casts_that_are.main.body.getD i (.Pass ⟨0, 0, 0, 0⟩)
def f_is_type : Df := ⟨"is_type", ["told", ".0", "part"], 1, defBody (top 13)⟩
def f_size : Df := ⟨"size", ["told", ".0", "part"], 1, defBody (top 14)⟩
def f_check_type : Df := ⟨"check_type", ["told"], 1, defBody (top 15)⟩
def f_ground : Df := ⟨"ground", ["told", ".0", "_"], 1, defBody (top 16)⟩
def f_check_both : Df := ⟨"check_both", ["one", "two"], 2, defBody (top 18)⟩
def f_precise_of : Df := ⟨"precise_of", ["one", "two", ".0", "k"], 2, defBody (top 19)⟩
def f_precise : Df := ⟨"precise", ["one", "two"], 2, defBody (top 20)⟩
def f_consistent_of : Df := ⟨"consistent_of", ["one", "two", ".0", "k"], 2, defBody (top 21)⟩
def f_consistent : Df := ⟨"consistent", ["one", "two"], 2, defBody (top 22)⟩
def f_safe_of : Df := ⟨"safe_of", ["one", "two", "side", ".0", "k"], 3, defBody (top 23)⟩
def f_safe : Df := ⟨"safe", ["one", "two", "side"], 3, defBody (top 24)⟩
def f_is_label : Df := ⟨"is_label", ["told"], 1, defBody (top 28)⟩
def f_is_place : Df := ⟨"is_place", ["told"], 1, defBody (top 29)⟩
def f_turned : Df := ⟨"turned", ["label"], 1, defBody (top 30)⟩
def f_made : Df := ⟨"made", ["one", "two", "label"], 3, defBody (top 31)⟩
def f_wide : Df := ⟨"wide", ["kind", ".0", "_"], 1, defBody (top 32)⟩
def f_structural : Df := ⟨"structural", ["one", "two", "label", "head", ".0", "a", "b"], 3, defBody (top 33)⟩
def f_make : Df := ⟨"make", ["one", "two", "label"], 3, defBody (top 34)⟩
def f_all_of : Df := ⟨"all_of", ["many", "found", "first", "rows", ".0", "part", "head", "one", "two"], 1, defBody (top 37)⟩
def f_all_types : Df := ⟨"all_types", ["many"], 1, defBody (top 38)⟩
def f__law_draws : Df := ⟨"_law_draws", ["script", "draws", "k", "rest", "turn", "mixed"], 1, defBody (top 40)⟩
def f__law_mix : Df := ⟨"_law_mix", ["draws", "k", "many", "cell_there"], 3, defBody (top 41)⟩
def f__law_kind : Df := ⟨"_law_kind", ["draws", "k", "depth", "pick", "one"], 3, defBody (top 42)⟩
def f__law_blur : Df := ⟨"_law_blur", ["draws", "k", "told", "rate", ".0", "j"], 4, defBody (top 43)⟩
def f__law_safe : Df := ⟨"_law_safe", ["one", "two", "side", "rows", ".0", "part", "k", "row"], 3, defBody (top 48)⟩
def f__law_sides : Df := ⟨"_law_sides", ["told", ".0", "part"], 1, defBody (top 49)⟩
def f__law_pair : Df := ⟨"_law_pair", ["one", "two", "side"], 2, defBody (top 50)⟩
def f_law : Df := ⟨"law", ["script", "draws", "small", "turn", "one", "two", "told", "rate", "side"], 1, defBody (top 51)⟩
def T : List Df := [f_is_type, f_size, f_check_type, f_ground, f_check_both, f_precise_of, f_precise, f_consistent_of, f_consistent, f_safe_of, f_safe, f_is_label, f_is_place, f_turned, f_made, f_wide, f_structural, f_make, f_all_of, f_all_types, f__law_draws, f__law_mix, f__law_kind, f__law_blur, f__law_safe, f__law_sides, f__law_pair, f_law]
def fns : List Str := ["is_type", "size", "check_type", "ground", "check_both", "precise_of", "precise", "consistent_of", "consistent", "safe_of", "safe", "is_label", "is_place", "turned", "made", "wide", "structural", "make", "all_of", "all_types", "_law_draws", "_law_mix", "_law_kind", "_law_blur", "_law_safe", "_law_sides", "_law_pair", "law"]
def hd : Hd where
  fn := [ddOf "is_type" (top 13), ddOf "size" (top 14), ddOf "check_type" (top 15), ddOf "ground" (top 16), ddOf "check_both" (top 18), ddOf "precise_of" (top 19), ddOf "precise" (top 20), ddOf "consistent_of" (top 21), ddOf "consistent" (top 22), ddOf "safe_of" (top 23), ddOf "safe" (top 24), ddOf "is_label" (top 28), ddOf "is_place" (top 29), ddOf "turned" (top 30), ddOf "made" (top 31), ddOf "wide" (top 32), ddOf "structural" (top 33), ddOf "make" (top 34), ddOf "all_of" (top 37), ddOf "all_types" (top 38), ddOf "_law_draws" (top 40), ddOf "_law_mix" (top 41), ddOf "_law_kind" (top 42), ddOf "_law_blur" (top 43), ddOf "_law_safe" (top 48), ddOf "_law_sides" (top 49), ddOf "_law_pair" (top 50), ddOf "law" (top 51)]
  free := names0
  cs := [("HOLE", .tuple [.str "?"]), ("INT", .tuple [.str "int"]), ("BOOL", .tuple [.str "bool"]), ("UNIT", .tuple [.str "unit"]), ("MOST_SIZE", .int 60), ("ANY", .tuple [.str "id?"]), ("BASES", .tuple [.str "int", .str "bool", .str "unit"]), ("MOST_LISTED", .int 4)]
  ts := [("PARTS", [("?", .int 0), ("int", .int 0), ("bool", .int 0), ("unit", .int 0), ("fun", .int 2), ("pair", .int 2), ("cell", .int 1), ("list", .int 1)])]
theorem ck_is_type : ckDf fns (top 13) f_is_type = true := by kernel_rfl
theorem bd_is_type : BindOk (top 13) "is_type" := fun _ _ _ _ _ _ us hl => match us, hl with | [_], _ => rfl
theorem ck_size : ckDf fns (top 14) f_size = true := by kernel_rfl
theorem bd_size : BindOk (top 14) "size" := fun _ _ _ _ _ _ us hl => match us, hl with | [_], _ => rfl
theorem ck_check_type : ckDf fns (top 15) f_check_type = true := by kernel_rfl
theorem bd_check_type : BindOk (top 15) "check_type" := fun _ _ _ _ _ _ us hl => match us, hl with | [_], _ => rfl
theorem ck_ground : ckDf fns (top 16) f_ground = true := by kernel_rfl
theorem bd_ground : BindOk (top 16) "ground" := fun _ _ _ _ _ _ us hl => match us, hl with | [_], _ => rfl
theorem ck_check_both : ckDf fns (top 18) f_check_both = true := by kernel_rfl
theorem bd_check_both : BindOk (top 18) "check_both" := fun _ _ _ _ _ _ us hl => match us, hl with | [_, _], _ => rfl
theorem ck_precise_of : ckDf fns (top 19) f_precise_of = true := by kernel_rfl
theorem bd_precise_of : BindOk (top 19) "precise_of" := fun _ _ _ _ _ _ us hl => match us, hl with | [_, _], _ => rfl
theorem ck_precise : ckDf fns (top 20) f_precise = true := by kernel_rfl
theorem bd_precise : BindOk (top 20) "precise" := fun _ _ _ _ _ _ us hl => match us, hl with | [_, _], _ => rfl
theorem ck_consistent_of : ckDf fns (top 21) f_consistent_of = true := by kernel_rfl
theorem bd_consistent_of : BindOk (top 21) "consistent_of" := fun _ _ _ _ _ _ us hl => match us, hl with | [_, _], _ => rfl
theorem ck_consistent : ckDf fns (top 22) f_consistent = true := by kernel_rfl
theorem bd_consistent : BindOk (top 22) "consistent" := fun _ _ _ _ _ _ us hl => match us, hl with | [_, _], _ => rfl
theorem ck_safe_of : ckDf fns (top 23) f_safe_of = true := by kernel_rfl
theorem bd_safe_of : BindOk (top 23) "safe_of" := fun _ _ _ _ _ _ us hl => match us, hl with | [_, _, _], _ => rfl
theorem ck_safe : ckDf fns (top 24) f_safe = true := by kernel_rfl
theorem bd_safe : BindOk (top 24) "safe" := fun _ _ _ _ _ _ us hl => match us, hl with | [_, _, _], _ => rfl
theorem ck_is_label : ckDf fns (top 28) f_is_label = true := by kernel_rfl
theorem bd_is_label : BindOk (top 28) "is_label" := fun _ _ _ _ _ _ us hl => match us, hl with | [_], _ => rfl
theorem ck_is_place : ckDf fns (top 29) f_is_place = true := by kernel_rfl
theorem bd_is_place : BindOk (top 29) "is_place" := fun _ _ _ _ _ _ us hl => match us, hl with | [_], _ => rfl
theorem ck_turned : ckDf fns (top 30) f_turned = true := by kernel_rfl
theorem bd_turned : BindOk (top 30) "turned" := fun _ _ _ _ _ _ us hl => match us, hl with | [_], _ => rfl
theorem ck_made : ckDf fns (top 31) f_made = true := by kernel_rfl
theorem bd_made : BindOk (top 31) "made" := fun _ _ _ _ _ _ us hl => match us, hl with | [_, _, _], _ => rfl
theorem ck_wide : ckDf fns (top 32) f_wide = true := by kernel_rfl
theorem bd_wide : BindOk (top 32) "wide" := fun _ _ _ _ _ _ us hl => match us, hl with | [_], _ => rfl
theorem ck_structural : ckDf fns (top 33) f_structural = true := by kernel_rfl
theorem bd_structural : BindOk (top 33) "structural" := fun _ _ _ _ _ _ us hl => match us, hl with | [_, _, _], _ => rfl
theorem ck_make : ckDf fns (top 34) f_make = true := by kernel_rfl
theorem bd_make : BindOk (top 34) "make" := fun _ _ _ _ _ _ us hl => match us, hl with | [_, _, _], _ => rfl
theorem ck_all_of : ckDf fns (top 37) f_all_of = true := by kernel_rfl
theorem bd_all_of : BindOk (top 37) "all_of" := fun _ _ _ _ _ _ us hl => match us, hl with | [_], _ => rfl
theorem ck_all_types : ckDf fns (top 38) f_all_types = true := by kernel_rfl
theorem bd_all_types : BindOk (top 38) "all_types" := fun _ _ _ _ _ _ us hl => match us, hl with | [_], _ => rfl
theorem ck__law_draws : ckDf fns (top 40) f__law_draws = true := by kernel_rfl
theorem bd__law_draws : BindOk (top 40) "_law_draws" := fun _ _ _ _ _ _ us hl => match us, hl with | [_], _ => rfl
theorem ck__law_mix : ckDf fns (top 41) f__law_mix = true := by kernel_rfl
theorem bd__law_mix : BindOk (top 41) "_law_mix" := fun _ _ _ _ _ _ us hl => match us, hl with | [_, _, _], _ => rfl
theorem ck__law_kind : ckDf fns (top 42) f__law_kind = true := by kernel_rfl
theorem bd__law_kind : BindOk (top 42) "_law_kind" := fun _ _ _ _ _ _ us hl => match us, hl with | [_, _, _], _ => rfl
theorem ck__law_blur : ckDf fns (top 43) f__law_blur = true := by kernel_rfl
theorem bd__law_blur : BindOk (top 43) "_law_blur" := fun _ _ _ _ _ _ us hl => match us, hl with | [_, _, _, _], _ => rfl
theorem ck__law_safe : ckDf fns (top 48) f__law_safe = true := by kernel_rfl
theorem bd__law_safe : BindOk (top 48) "_law_safe" := fun _ _ _ _ _ _ us hl => match us, hl with | [_, _, _], _ => rfl
theorem ck__law_sides : ckDf fns (top 49) f__law_sides = true := by kernel_rfl
theorem bd__law_sides : BindOk (top 49) "_law_sides" := fun _ _ _ _ _ _ us hl => match us, hl with | [_], _ => rfl
theorem ck__law_pair : ckDf fns (top 50) f__law_pair = true := by kernel_rfl
theorem bd__law_pair : BindOk (top 50) "_law_pair" := fun _ _ _ _ _ _ us hl => match us, hl with | [_, _], _ => rfl
theorem ck_law : ckDf fns (top 51) f_law = true := by kernel_rfl
theorem bd_law : BindOk (top 51) "law" := fun _ _ _ _ _ _ us hl => match us, hl with | [_], _ => rfl
abbrev R : PySem.W.OpenRow := PySem.W.OpenLaw.row PySem.Challenge.rw_typedbydegrees_k06_whole_casts_that_are
abbrev hk : PySem.W.Hook := hd.hook 4
def ob (s : PySem.W.SharedT) : Bool × He.AlT := hd.obsG 4 (HandSHeadRun.getT s)
theorem ob_eq (s : PySem.W.SharedT) : ob s = hk.obs s.abs := Hd.obsG_eq (HandSHeadRun.getT_eq s)
def loose0 : List Str := ["LanguageError", "OutOfRange", "BadType", "BadLabel", "BadTypes", "HOLE", "INT", "BOOL", "UNIT", "PARTS", "MOST_SIZE", "is_type", "size", "check_type", "ground", "check_both", "precise_of", "precise", "consistent_of", "consistent", "safe_of", "safe", "ANY", "BASES", "is_label", "is_place", "turned", "made", "wide", "structural"]
def loose1 : List Str := ["make", "MOST_LISTED", "all_of", "all_types", "_law_draws", "_law_mix", "_law_kind", "_law_blur", "_law_small", "_law_made", "_law_loop", "_law_tree", "_law_safe", "_law_sides", "_law_pair"]
def loose : List Str := loose0 ++ loose1
theorem run0 (w : World) : HandSHeadRun.RunEq R (PySem.W.view R.prog [51]) hk ob 6000 loose (w.withFollow "special-get-raises" false) := by
  intro os
  kernel_rfl
theorem run1 (w : World) : HandSHeadRun.RunEq R (PySem.W.view R.prog [51]) hk ob 6000 loose (w.withFollow "special-get-raises" true) := by
  intro os
  kernel_rfl
theorem run (w : World) : HandSHeadRun.RunEq R (PySem.W.view R.prog [51]) hk ob 6000 loose w := PySem.W.byRow2 "special-get-raises" (P := fun w => HandSHeadRun.RunEq R (PySem.W.view R.prog [51]) hk ob 6000 loose w) run0 run1 w
section
variable {K : PySem.W.Frag} {w : World} {hp : Heap} {mg : Str → Option Value}
theorem mgok (c : hd.obs K = hd.val w) (X : K.In hp) (N : hp.Ns mainGlobals mg) : MgOk K w mg hd.G := Hd.mgOk c X N fun _ z => z
theorem dfin (c : hd.obs K = hd.val w) (X : K.In hp) (N : hp.Ns mainGlobals mg) : ∀ d ∈ T, ∃ st, DfIn K mg fns st d := by
  intro d hd
  simp only [T, List.mem_cons, List.not_mem_nil, or_false] at hd
  rcases hd with rfl | rfl | rfl | rfl | rfl | rfl | rfl | rfl | rfl | rfl | rfl | rfl | rfl | rfl | rfl | rfl | rfl | rfl | rfl | rfl | rfl | rfl | rfl | rfl | rfl | rfl | rfl | rfl
  · exact ⟨top 13, Hd.dfIn c X N (.head _) bd_is_type rfl ck_is_type⟩
  · exact ⟨top 14, Hd.dfIn c X N (.tail _ (.head _)) bd_size rfl ck_size⟩
  · exact ⟨top 15, Hd.dfIn c X N (.tail _ (.tail _ (.head _))) bd_check_type rfl ck_check_type⟩
  · exact ⟨top 16, Hd.dfIn c X N (.tail _ (.tail _ (.tail _ (.head _)))) bd_ground rfl ck_ground⟩
  · exact ⟨top 18, Hd.dfIn c X N (.tail _ (.tail _ (.tail _ (.tail _ (.head _))))) bd_check_both rfl ck_check_both⟩
  · exact ⟨top 19, Hd.dfIn c X N (.tail _ (.tail _ (.tail _ (.tail _ (.tail _ (.head _)))))) bd_precise_of rfl ck_precise_of⟩
  · exact ⟨top 20, Hd.dfIn c X N (.tail _ (.tail _ (.tail _ (.tail _ (.tail _ (.tail _ (.head _))))))) bd_precise rfl ck_precise⟩
  · exact ⟨top 21, Hd.dfIn c X N (.tail _ (.tail _ (.tail _ (.tail _ (.tail _ (.tail _ (.tail _ (.head _)))))))) bd_consistent_of rfl ck_consistent_of⟩
  · exact ⟨top 22, Hd.dfIn c X N (.tail _ (.tail _ (.tail _ (.tail _ (.tail _ (.tail _ (.tail _ (.tail _ (.head _))))))))) bd_consistent rfl ck_consistent⟩
  · exact ⟨top 23, Hd.dfIn c X N (.tail _ (.tail _ (.tail _ (.tail _ (.tail _ (.tail _ (.tail _ (.tail _ (.tail _ (.head _)))))))))) bd_safe_of rfl ck_safe_of⟩
  · exact ⟨top 24, Hd.dfIn c X N (.tail _ (.tail _ (.tail _ (.tail _ (.tail _ (.tail _ (.tail _ (.tail _ (.tail _ (.tail _ (.head _))))))))))) bd_safe rfl ck_safe⟩
  · exact ⟨top 28, Hd.dfIn c X N (.tail _ (.tail _ (.tail _ (.tail _ (.tail _ (.tail _ (.tail _ (.tail _ (.tail _ (.tail _ (.tail _ (.head _)))))))))))) bd_is_label rfl ck_is_label⟩
  · exact ⟨top 29, Hd.dfIn c X N (.tail _ (.tail _ (.tail _ (.tail _ (.tail _ (.tail _ (.tail _ (.tail _ (.tail _ (.tail _ (.tail _ (.tail _ (.head _))))))))))))) bd_is_place rfl ck_is_place⟩
  · exact ⟨top 30, Hd.dfIn c X N (.tail _ (.tail _ (.tail _ (.tail _ (.tail _ (.tail _ (.tail _ (.tail _ (.tail _ (.tail _ (.tail _ (.tail _ (.tail _ (.head _)))))))))))))) bd_turned rfl ck_turned⟩
  · exact ⟨top 31, Hd.dfIn c X N (.tail _ (.tail _ (.tail _ (.tail _ (.tail _ (.tail _ (.tail _ (.tail _ (.tail _ (.tail _ (.tail _ (.tail _ (.tail _ (.tail _ (.head _))))))))))))))) bd_made rfl ck_made⟩
  · exact ⟨top 32, Hd.dfIn c X N (.tail _ (.tail _ (.tail _ (.tail _ (.tail _ (.tail _ (.tail _ (.tail _ (.tail _ (.tail _ (.tail _ (.tail _ (.tail _ (.tail _ (.tail _ (.head _)))))))))))))))) bd_wide rfl ck_wide⟩
  · exact ⟨top 33, Hd.dfIn c X N (.tail _ (.tail _ (.tail _ (.tail _ (.tail _ (.tail _ (.tail _ (.tail _ (.tail _ (.tail _ (.tail _ (.tail _ (.tail _ (.tail _ (.tail _ (.tail _ (.head _))))))))))))))))) bd_structural rfl ck_structural⟩
  · exact ⟨top 34, Hd.dfIn c X N (.tail _ (.tail _ (.tail _ (.tail _ (.tail _ (.tail _ (.tail _ (.tail _ (.tail _ (.tail _ (.tail _ (.tail _ (.tail _ (.tail _ (.tail _ (.tail _ (.tail _ (.head _)))))))))))))))))) bd_make rfl ck_make⟩
  · exact ⟨top 37, Hd.dfIn c X N (.tail _ (.tail _ (.tail _ (.tail _ (.tail _ (.tail _ (.tail _ (.tail _ (.tail _ (.tail _ (.tail _ (.tail _ (.tail _ (.tail _ (.tail _ (.tail _ (.tail _ (.tail _ (.head _))))))))))))))))))) bd_all_of rfl ck_all_of⟩
  · exact ⟨top 38, Hd.dfIn c X N (.tail _ (.tail _ (.tail _ (.tail _ (.tail _ (.tail _ (.tail _ (.tail _ (.tail _ (.tail _ (.tail _ (.tail _ (.tail _ (.tail _ (.tail _ (.tail _ (.tail _ (.tail _ (.tail _ (.head _)))))))))))))))))))) bd_all_types rfl ck_all_types⟩
  · exact ⟨top 40, Hd.dfIn c X N (.tail _ (.tail _ (.tail _ (.tail _ (.tail _ (.tail _ (.tail _ (.tail _ (.tail _ (.tail _ (.tail _ (.tail _ (.tail _ (.tail _ (.tail _ (.tail _ (.tail _ (.tail _ (.tail _ (.tail _ (.head _))))))))))))))))))))) bd__law_draws rfl ck__law_draws⟩
  · exact ⟨top 41, Hd.dfIn c X N (.tail _ (.tail _ (.tail _ (.tail _ (.tail _ (.tail _ (.tail _ (.tail _ (.tail _ (.tail _ (.tail _ (.tail _ (.tail _ (.tail _ (.tail _ (.tail _ (.tail _ (.tail _ (.tail _ (.tail _ (.tail _ (.head _)))))))))))))))))))))) bd__law_mix rfl ck__law_mix⟩
  · exact ⟨top 42, Hd.dfIn c X N (.tail _ (.tail _ (.tail _ (.tail _ (.tail _ (.tail _ (.tail _ (.tail _ (.tail _ (.tail _ (.tail _ (.tail _ (.tail _ (.tail _ (.tail _ (.tail _ (.tail _ (.tail _ (.tail _ (.tail _ (.tail _ (.tail _ (.head _))))))))))))))))))))))) bd__law_kind rfl ck__law_kind⟩
  · exact ⟨top 43, Hd.dfIn c X N (.tail _ (.tail _ (.tail _ (.tail _ (.tail _ (.tail _ (.tail _ (.tail _ (.tail _ (.tail _ (.tail _ (.tail _ (.tail _ (.tail _ (.tail _ (.tail _ (.tail _ (.tail _ (.tail _ (.tail _ (.tail _ (.tail _ (.tail _ (.head _)))))))))))))))))))))))) bd__law_blur rfl ck__law_blur⟩
  · exact ⟨top 48, Hd.dfIn c X N (.tail _ (.tail _ (.tail _ (.tail _ (.tail _ (.tail _ (.tail _ (.tail _ (.tail _ (.tail _ (.tail _ (.tail _ (.tail _ (.tail _ (.tail _ (.tail _ (.tail _ (.tail _ (.tail _ (.tail _ (.tail _ (.tail _ (.tail _ (.tail _ (.head _))))))))))))))))))))))))) bd__law_safe rfl ck__law_safe⟩
  · exact ⟨top 49, Hd.dfIn c X N (.tail _ (.tail _ (.tail _ (.tail _ (.tail _ (.tail _ (.tail _ (.tail _ (.tail _ (.tail _ (.tail _ (.tail _ (.tail _ (.tail _ (.tail _ (.tail _ (.tail _ (.tail _ (.tail _ (.tail _ (.tail _ (.tail _ (.tail _ (.tail _ (.tail _ (.head _)))))))))))))))))))))))))) bd__law_sides rfl ck__law_sides⟩
  · exact ⟨top 50, Hd.dfIn c X N (.tail _ (.tail _ (.tail _ (.tail _ (.tail _ (.tail _ (.tail _ (.tail _ (.tail _ (.tail _ (.tail _ (.tail _ (.tail _ (.tail _ (.tail _ (.tail _ (.tail _ (.tail _ (.tail _ (.tail _ (.tail _ (.tail _ (.tail _ (.tail _ (.tail _ (.tail _ (.head _))))))))))))))))))))))))))) bd__law_pair rfl ck__law_pair⟩
  · exact ⟨top 51, Hd.dfIn c X N (.tail _ (.tail _ (.tail _ (.tail _ (.tail _ (.tail _ (.tail _ (.tail _ (.tail _ (.tail _ (.tail _ (.tail _ (.tail _ (.tail _ (.tail _ (.tail _ (.tail _ (.tail _ (.tail _ (.tail _ (.tail _ (.tail _ (.tail _ (.tail _ (.tail _ (.tail _ (.tail _ (.head _)))))))))))))))))))))))))))) bd_law rfl ck_law⟩
theorem fnsT : ∀ f ∈ fns, ∃ d ∈ T, d.name = f := by
  intro f hf
  have : fns = T.map (·.name) := rfl
  rw [this] at hf
  obtain ⟨d, hd, e⟩ := List.mem_map.mp hf
  exact ⟨d, hd, e⟩
end
/-- what is left: the law by the evaluator -/
theorem of_ev {k : Nat} (hr : Room (k + 1) callerA) (law : ∀ ns : List Int, ns.length ≤ 63 → (∀ k ∈ ns, Builtin.Int.intBits k ≤ 1048576) → callN T hd.G (k + 1) "law" [.list (ns.map .int)] = some (.bool true)) :
    PySem.W.WalkO (PySem.W.view R.prog [51]) loose (PySem.W.XL (PySem.W.view R.prog [51]) []) hk.says R.toRowW (HandSHeadRun.topDef R.prog 51) [] (fun f vs => PySem.call f vs) := by
  refine walkG (l := PySem.Challenge.rw_typedbydegrees_k06_whole_casts_that_are) (n := 63) (k := k + 1) (x := "script") rfl (by decide) (by kernel_rfl) hr ?_
  intro w mg fa h Y G hmg0
  obtain ⟨K, KX, c⟩ := Y
  have hmg : mg ("law" : Str) = some (.ref fa) := by
    have e : (HandSHeadRun.topDef R.prog 51).name = ("law" : Str) := by kernel_rfl
    rw [← e]
    exact hmg0
  have M := mgok c KX G
  have hT := dfin c KX G
  have D : DfIn K mg fns (top 51) f_law := Hd.dfIn (d := f_law) (st := top 51) c KX G (.tail _ (.tail _ (.tail _ (.tail _ (.tail _ (.tail _ (.tail _ (.tail _ (.tail _ (.tail _ (.tail _ (.tail _ (.tail _ (.tail _ (.tail _ (.tail _ (.tail _ (.tail _ (.tail _ (.tail _ (.tail _ (.tail _ (.tail _ (.tail _ (.tail _ (.tail _ (.tail _ (.head _)))))))))))))))))))))))))))) bd_law rfl ck_law
  obtain ⟨f, fd, F, hm, hb⟩ := D.ex
  have e := hmg.symm.trans hm
  cases e
  have hb' : ∀ (s : Shared) (u : Value), BindsTo s fd ⟨[u], []⟩ [("script", u)] := fun s u => by
    obtain ⟨oc, od, kV, doc, pm, an, cdv, ct, osl, rfl, lk, hcd⟩ := F.ex
    exact .of_eq (bd_law kV doc pm an cdv ct [u] rfl)
  refine ⟨K, fd, callN T hd.G (k + 1) "law", KX, hb', law, fun base hK hN => ?_⟩
  have hc : ∀ f ∈ fns, CallB PySem.Challenge.pw_typedbydegrees_k06_whole_casts_that_are w K mg base k f (callN T hd.G k f) := fun x hx => by
    obtain ⟨d, hd', rfl⟩ := fnsT x hx
    exact calls_ok M hT fnsT k d hd'
  exact fn_one (base := base) M hc (d := f_law) (by kernel_rfl) D.body D.ck F
end K06
section
open PySem PySem.W PySem.Calls PyProof.Rows EV
theorem K06.holds_of {k : Nat} (hr : L2.Room (k + 1) callerA) (law : ∀ ns : List Int, ns.length ≤ 63 → (∀ k ∈ ns, Builtin.Int.intBits k ≤ 1048576) → callN K06.T K06.hd.G (k + 1) "law" [.list (ns.map .int)] = some (.bool true)) : PySem.Challenge.rw_typedbydegrees_k06_whole_casts_that_are.Holds := by
  w_on; o_law
  refine HandSHeadRun.head_any (r := OpenLaw.row PySem.Challenge.rw_typedbydegrees_k06_whole_casts_that_are) (q := view (OpenLaw.row PySem.Challenge.rw_typedbydegrees_k06_whole_casts_that_are).prog [51]) (H := K06.hk) (ob := K06.ob) (M := 6000) (loose := K06.loose) (d := HandSHeadRun.topDef (OpenLaw.row PySem.Challenge.rw_typedbydegrees_k06_whole_casts_that_are).prog 51) (kwd := []) K06.ob_eq
    (by kernel_rfl) (fun s => by kernel_rfl) K06.run (by kernel_rfl) (by kernel_rfl) (by kernel_rfl) (by rfl) (by first | assumption | decide +kernel) (by decide +kernel) ⟨rfl, rfl, rfl, rfl, rfl, by decide +kernel⟩ ?hw ?hc
  case hw => w_witness2
  case hc => exact K06.of_ev hr law
end

namespace K06
open PySem L2 EV
theorem r_is_type (k : Nat) (v_told : D) : callN T hd.G (k + 1) "is_type" [v_told] =
    (((((isTy .tuple v_told).map PyData.bool).bind fun x25 => truD x25).map (!·)).bind fun k16 => cond k16 (some true) (((bD .len [v_told]).bind fun x24 => cmpD .Eq x24 (PyData.int 0)).bind fun k17 => cond k17 (some true) (((ixD v_told (PyData.int 0)).bind fun x23 => cmpD .NotIn x23 (dictD [("?", (PyData.int 0)), ("int", (PyData.int 0)), ("bool", (PyData.int 0)), ("unit", (PyData.int 0)), ("fun", (PyData.int 2)), ("pair", (PyData.int 2)), ("cell", (PyData.int 1)), ("list", (PyData.int 1))])).bind fun k18 => cond k18 (some true) ((bD .len [v_told]).bind fun x19 => (((ixD v_told (PyData.int 0)).bind fun x20 => ixD (dictD [("?", (PyData.int 0)), ("int", (PyData.int 0)), ("bool", (PyData.int 0)), ("unit", (PyData.int 0)), ("fun", (PyData.int 2)), ("pair", (PyData.int 2)), ("cell", (PyData.int 1)), ("list", (PyData.int 1))]) x20).bind fun x21 => binD .Add x21 (PyData.int 1)).bind fun x22 => cmpD .NotEq x19 x22)))).bind fun k3 => cond k3 (some (PyData.bool false)) ((((((slD v_told (some 1) none).bind fun x9 => items x9).bind fun xs10 => lim (compM (fun x11 => (callN T hd.G k "is_type" [x11]).bind fun x12 => some (some x12)) xs10)).bind fun x13 => some ([x13])).bind fun ds14 => bD .all ds14).bind fun x15 => some x15) := (callK (d := f_is_type) (by kernel_rfl) rfl).trans (by kernel_rfl)
theorem r_size (k : Nat) (v_told : D) : callN T hd.G (k + 1) "size" [v_told] =
    ((((((slD v_told (some 1) none).bind fun x4 => items x4).bind fun xs5 => lim (compM (fun x6 => (callN T hd.G k "size" [x6]).bind fun x7 => some (some x7)) xs5)).bind fun x8 => some ([x8])).bind fun ds9 => bD .sum ds9).bind fun x10 => binD .Add (PyData.int 1) x10).bind fun x11 => some x11 := (callK (d := f_size) (by kernel_rfl) rfl).trans (by kernel_rfl)
theorem r_check_type (k : Nat) (v_told : D) : callN T hd.G (k + 1) "check_type" [v_told] =
    ((((callN T hd.G k "is_type" [v_told]).bind fun x8 => truD x8).map (!·)).bind fun k6 => cond k6 (some true) ((callN T hd.G k "size" [v_told]).bind fun x7 => cmpD .Gt x7 (PyData.int 60))).bind fun k3 => cond k3 (none) (some PyData.none) := (callK (d := f_check_type) (by kernel_rfl) rfl).trans (by kernel_rfl)
theorem r_ground (k : Nat) (v_told : D) : callN T hd.G (k + 1) "ground" [v_told] =
    (cmpD .Eq v_told (PyData.tuple [(PyData.str "?")])).bind fun k3 => cond k3 (some PyData.none) ((((ixD v_told (PyData.int 0)).bind fun x14 => ((((slD v_told (some 1) none).bind fun x9 => items x9).bind fun xs10 => lim (compM (fun x11 => some (some (PyData.tuple [(PyData.str "?")]))) xs10)).bind fun x12 => (items x12).bind fun x13 => some (x13 ++ [])).bind fun ys15 => some (x14 :: ys15)).bind fun ds16 => cond (decide (ds16.length ≤ few)) (some (PyData.tuple ds16)) none).bind fun x17 => some x17) := (callK (d := f_ground) (by kernel_rfl) rfl).trans (by kernel_rfl)
theorem r_check_both (k : Nat) (v_one v_two : D) : callN T hd.G (k + 1) "check_both" [v_one, v_two] =
    (callN T hd.G k "check_type" [v_one]).bind fun x3 => (((callN T hd.G k "is_type" [v_two]).bind fun x9 => truD x9).map (!·)).bind fun k6 => cond k6 (none) (some PyData.none) := (callK (d := f_check_both) (by kernel_rfl) rfl).trans (by kernel_rfl)
theorem r_precise_of (k : Nat) (v_one v_two : D) : callN T hd.G (k + 1) "precise_of" [v_one, v_two] =
    (cmpD .Eq v_two (PyData.tuple [(PyData.str "?")])).bind fun k3 => cond k3 (some (PyData.bool true)) ((((ixD v_one (PyData.int 0)).bind fun x9 => (ixD v_two (PyData.int 0)).bind fun x10 => (cmpD .Eq x9 x10).map PyData.bool).bind fun x11 => (truD x11).bind fun k8 => cond k8 (((((bD .len [v_two]).bind fun x13 => rng2 (PyData.int 1) x13).bind fun xs14 => lim (compM (fun x15 => (((ixD v_one x15).bind fun x17 => ((ixD v_two x15).bind fun x16 => some ([x16])).bind fun ys18 => some (x17 :: ys18)).bind fun ds19 => callN T hd.G k "precise_of" ds19).bind fun x20 => some (some x20)) xs14)).bind fun x21 => some ([x21])).bind fun ds22 => bD .all ds22) (some x11)).bind fun x23 => some x23) := (callK (d := f_precise_of) (by kernel_rfl) rfl).trans (by kernel_rfl)
theorem r_precise (k : Nat) (v_one v_two : D) : callN T hd.G (k + 1) "precise" [v_one, v_two] =
    (callN T hd.G k "check_both" [v_one, v_two]).bind fun x3 => (callN T hd.G k "precise_of" [v_one, v_two]).bind fun x6 => some x6 := (callK (d := f_precise) (by kernel_rfl) rfl).trans (by kernel_rfl)
theorem r_consistent_of (k : Nat) (v_one v_two : D) : callN T hd.G (k + 1) "consistent_of" [v_one, v_two] =
    (cmpD .In (PyData.tuple [(PyData.str "?")]) (PyData.tuple [v_one, v_two])).bind fun k3 => cond k3 (some (PyData.bool true)) ((((ixD v_one (PyData.int 0)).bind fun x9 => (ixD v_two (PyData.int 0)).bind fun x10 => (cmpD .Eq x9 x10).map PyData.bool).bind fun x11 => (truD x11).bind fun k8 => cond k8 (((((bD .len [v_two]).bind fun x13 => rng2 (PyData.int 1) x13).bind fun xs14 => lim (compM (fun x15 => (((ixD v_one x15).bind fun x17 => ((ixD v_two x15).bind fun x16 => some ([x16])).bind fun ys18 => some (x17 :: ys18)).bind fun ds19 => callN T hd.G k "consistent_of" ds19).bind fun x20 => some (some x20)) xs14)).bind fun x21 => some ([x21])).bind fun ds22 => bD .all ds22) (some x11)).bind fun x23 => some x23) := (callK (d := f_consistent_of) (by kernel_rfl) rfl).trans (by kernel_rfl)
theorem r_consistent (k : Nat) (v_one v_two : D) : callN T hd.G (k + 1) "consistent" [v_one, v_two] =
    (callN T hd.G k "check_both" [v_one, v_two]).bind fun x3 => (callN T hd.G k "consistent_of" [v_one, v_two]).bind fun x6 => some x6 := (callK (d := f_consistent) (by kernel_rfl) rfl).trans (by kernel_rfl)
theorem r_safe_of (k : Nat) (v_one v_two v_side : D) : callN T hd.G (k + 1) "safe_of" [v_one, v_two, v_side] =
    (cmpD .Eq v_one (PyData.tuple [(PyData.str "?")])).bind fun k3 => cond k3 ((((truD v_side).map fun k7 => PyData.bool !k7).bind fun x8 => (truD x8).bind fun k6 => cond k6 (some x8) ((cmpD .Eq v_two (PyData.tuple [(PyData.str "?")])).map PyData.bool)).bind fun x9 => some x9) ((cmpD .Eq v_two (PyData.tuple [(PyData.str "?")])).bind fun k12 => cond k12 (((truD v_side).bind fun k15 => cond k15 (some v_side) ((((callN T hd.G k "ground" [v_one]).bind fun x16 => some ([x16, (PyData.bool false)])).bind fun ys17 => some (v_one :: ys17)).bind fun ds18 => callN T hd.G k "safe_of" ds18)).bind fun x19 => some x19) (((ixD v_one (PyData.int 0)).bind fun x81 => (ixD v_two (PyData.int 0)).bind fun x82 => cmpD .NotEq x81 x82).bind fun k22 => cond k22 (((truD v_side).map fun k25 => PyData.bool !k25).bind fun x26 => some x26) (((ixD v_one (PyData.int 0)).bind fun x80 => cmpD .Eq x80 (PyData.str "fun")).bind fun k29 => cond k29 (((((ixD v_two (PyData.int 1)).bind fun x37 => ((ixD v_one (PyData.int 1)).bind fun x35 => (((truD v_side).map fun k33 => PyData.bool !k33).bind fun x34 => some ([x34])).bind fun ys36 => some (x35 :: ys36)).bind fun ys38 => some (x37 :: ys38)).bind fun ds39 => callN T hd.G k "safe_of" ds39).bind fun x40 => (truD x40).bind fun k32 => cond k32 (((ixD v_one (PyData.int 2)).bind fun x42 => ((ixD v_two (PyData.int 2)).bind fun x41 => some ([x41, v_side])).bind fun ys43 => some (x42 :: ys43)).bind fun ds44 => callN T hd.G k "safe_of" ds44) (some x40)).bind fun x45 => some x45) (((ixD v_one (PyData.int 0)).bind fun x79 => cmpD .Eq x79 (PyData.str "cell")).bind fun k48 => cond k48 (((((ixD v_one (PyData.int 1)).bind fun x53 => ((ixD v_two (PyData.int 1)).bind fun x52 => some ([x52, v_side])).bind fun ys54 => some (x53 :: ys54)).bind fun ds55 => callN T hd.G k "safe_of" ds55).bind fun x56 => (truD x56).bind fun k51 => cond k51 (((ixD v_two (PyData.int 1)).bind fun x61 => ((ixD v_one (PyData.int 1)).bind fun x59 => (((truD v_side).map fun k57 => PyData.bool !k57).bind fun x58 => some ([x58])).bind fun ys60 => some (x59 :: ys60)).bind fun ys62 => some (x61 :: ys62)).bind fun ds63 => callN T hd.G k "safe_of" ds63) (some x56)).bind fun x64 => some x64) ((((((bD .len [v_two]).bind fun x68 => rng2 (PyData.int 1) x68).bind fun xs69 => lim (compM (fun x70 => (((ixD v_one x70).bind fun x72 => ((ixD v_two x70).bind fun x71 => some ([x71, v_side])).bind fun ys73 => some (x72 :: ys73)).bind fun ds74 => callN T hd.G k "safe_of" ds74).bind fun x75 => some (some x75)) xs69)).bind fun x76 => some ([x76])).bind fun ds77 => bD .all ds77).bind fun x78 => some x78))))) := (callK (d := f_safe_of) (by kernel_rfl) rfl).trans (by kernel_rfl)
theorem r_safe (k : Nat) (v_one v_two v_side : D) : callN T hd.G (k + 1) "safe" [v_one, v_two, v_side] =
    (callN T hd.G k "check_both" [v_one, v_two]).bind fun x3 => (callN T hd.G k "safe_of" [v_one, v_two, v_side]).bind fun x6 => some x6 := (callK (d := f_safe) (by kernel_rfl) rfl).trans (by kernel_rfl)
theorem r_is_label (k : Nat) (v_told : D) : callN T hd.G (k + 1) "is_label" [v_told] =
    (((isTy .tuple v_told).map PyData.bool).bind fun x4 => (truD x4).bind fun k3 => cond k3 (((bD .len [v_told]).bind fun x6 => (cmpD .Eq x6 (PyData.int 2)).map PyData.bool).bind fun x7 => (truD x7).bind fun k5 => cond k5 (((ixD v_told (PyData.int 1)).bind fun x9 => (isTy .bool x9).map PyData.bool).bind fun x10 => (truD x10).bind fun k8 => cond k8 (((ixD v_told (PyData.int 0)).bind fun x11 => some ([x11])).bind fun ds12 => callN T hd.G k "is_place" ds12) (some x10)) (some x7)) (some x4)).bind fun x13 => some x13 := (callK (d := f_is_label) (by kernel_rfl) rfl).trans (by kernel_rfl)
theorem r_is_place (k : Nat) (v_told : D) : callN T hd.G (k + 1) "is_place" [v_told] =
    (((isTy .int v_told).map PyData.bool).bind fun x4 => (truD x4).bind fun k3 => cond k3 ((((isTy .bool v_told).map PyData.bool).bind fun x7 => (truD x7).map fun k6 => PyData.bool !k6).bind fun x8 => (truD x8).bind fun k5 => cond k5 ((cmpD .GtE v_told (PyData.int 0)).map PyData.bool) (some x8)) (some x4)).bind fun x9 => some x9 := (callK (d := f_is_place) (by kernel_rfl) rfl).trans (by kernel_rfl)
theorem r_turned (k : Nat) (v_label : D) : callN T hd.G (k + 1) "turned" [v_label] =
    (((ixD v_label (PyData.int 0)).bind fun x6 => (((ixD v_label (PyData.int 1)).bind fun x4 => (truD x4).map fun k3 => PyData.bool !k3).bind fun x5 => some ([x5])).bind fun ys7 => some (x6 :: ys7)).bind fun ds8 => cond (decide (ds8.length ≤ few)) (some (PyData.tuple ds8)) none).bind fun x9 => some x9 := (callK (d := f_turned) (by kernel_rfl) rfl).trans (by kernel_rfl)
theorem r_made (k : Nat) (v_one v_two v_label : D) : callN T hd.G (k + 1) "made" [v_one, v_two, v_label] =
    ((cmpD .Eq v_one (PyData.tuple [(PyData.str "?")])).bind fun k44 => cond k44 (cmpD .Eq v_two (PyData.tuple [(PyData.str "?")])) (some false)).bind fun k3 => cond k3 (some (PyData.tuple [(PyData.str "id?")])) ((cmpD .Eq v_two (PyData.tuple [(PyData.str "?")])).bind fun k8 => cond k8 ((((((((callN T hd.G k "wide" [v_one]).bind fun x11 => some ([x11, v_label])).bind fun ys12 => some (v_one :: ys12)).bind fun ds13 => callN T hd.G k "structural" ds13).bind fun x15 => ((ixD v_one (PyData.int 0)).bind fun x14 => some ([x14])).bind fun ys16 => some (x15 :: ys16)).bind fun ys17 => some ((PyData.str "to") :: ys17)).bind fun ds18 => cond (decide (ds18.length ≤ few)) (some (PyData.tuple ds18)) none).bind fun x19 => some x19) ((cmpD .Eq v_one (PyData.tuple [(PyData.str "?")])).bind fun k22 => cond k22 (((((ixD v_two (PyData.int 0)).bind fun x29 => (((((callN T hd.G k "wide" [v_two]).bind fun x25 => some ([x25, v_two, v_label])).bind fun ds26 => callN T hd.G k "structural" ds26).bind fun x27 => some ([x27])).bind fun ys28 => some (v_label :: ys28)).bind fun ys30 => some (x29 :: ys30)).bind fun ys31 => some ((PyData.str "from") :: ys31)).bind fun ds32 => cond (decide (ds32.length ≤ few)) (some (PyData.tuple ds32)) none).bind fun x33 => some x33) (((ixD v_one (PyData.int 0)).bind fun x42 => (ixD v_two (PyData.int 0)).bind fun x43 => cmpD .NotEq x42 x43).bind fun k36 => cond k36 (none) ((callN T hd.G k "structural" [v_one, v_two, v_label]).bind fun x41 => some x41)))) := (callK (d := f_made) (by kernel_rfl) rfl).trans (by kernel_rfl)
theorem r_wide (k : Nat) (v_kind : D) : callN T hd.G (k + 1) "wide" [v_kind] =
    (((ixD v_kind (PyData.int 0)).bind fun x9 => ((((slD v_kind (some 1) none).bind fun x4 => items x4).bind fun xs5 => lim (compM (fun x6 => some (some (PyData.tuple [(PyData.str "?")]))) xs5)).bind fun x7 => (items x7).bind fun x8 => some (x8 ++ [])).bind fun ys10 => some (x9 :: ys10)).bind fun ds11 => cond (decide (ds11.length ≤ few)) (some (PyData.tuple ds11)) none).bind fun x12 => some x12 := (callK (d := f_wide) (by kernel_rfl) rfl).trans (by kernel_rfl)
theorem r_structural (k : Nat) (v_one v_two v_label : D) : callN T hd.G (k + 1) "structural" [v_one, v_two, v_label] =
    (ixD v_one (PyData.int 0)).bind fun x3 => (cmpD .In x3 (PyData.tuple [(PyData.str "int"), (PyData.str "bool"), (PyData.str "unit")])).bind fun k6 => cond k6 (some (PyData.tuple [(PyData.str "id"), x3])) ((cmpD .Eq x3 (PyData.str "cell")).bind fun k11 => cond k11 (((((((ixD v_one (PyData.int 1)).bind fun x15 => ((ixD v_two (PyData.int 1)).bind fun x14 => some ([x14, v_label])).bind fun ys16 => some (x15 :: ys16)).bind fun ds17 => callN T hd.G k "made" ds17).bind fun x25 => ((((ixD v_two (PyData.int 1)).bind fun x21 => ((ixD v_one (PyData.int 1)).bind fun x19 => ((callN T hd.G k "turned" [v_label]).bind fun x18 => some ([x18])).bind fun ys20 => some (x19 :: ys20)).bind fun ys22 => some (x21 :: ys22)).bind fun ds23 => callN T hd.G k "made" ds23).bind fun x24 => some ([x24])).bind fun ys26 => some (x25 :: ys26)).bind fun ys27 => some (x3 :: ys27)).bind fun ds28 => cond (decide (ds28.length ≤ few)) (some (PyData.tuple ds28)) none).bind fun x29 => some x29) ((cmpD .Eq x3 (PyData.str "fun")).bind fun k32 => cond k32 (((((((ixD v_two (PyData.int 1)).bind fun x38 => ((ixD v_one (PyData.int 1)).bind fun x36 => ((callN T hd.G k "turned" [v_label]).bind fun x35 => some ([x35])).bind fun ys37 => some (x36 :: ys37)).bind fun ys39 => some (x38 :: ys39)).bind fun ds40 => callN T hd.G k "made" ds40).bind fun x46 => ((((ixD v_one (PyData.int 2)).bind fun x42 => ((ixD v_two (PyData.int 2)).bind fun x41 => some ([x41, v_label])).bind fun ys43 => some (x42 :: ys43)).bind fun ds44 => callN T hd.G k "made" ds44).bind fun x45 => some ([x45])).bind fun ys47 => some (x46 :: ys47)).bind fun ys48 => some (x3 :: ys48)).bind fun ds49 => cond (decide (ds49.length ≤ few)) (some (PyData.tuple ds49)) none).bind fun x50 => some x50) (((((((slD v_one (some 1) none).bind fun x54 => (slD v_two (some 1) none).bind fun x55 => zipD x54 x55).bind fun xs56 => lim (compM (fun x57 => (asg f_structural.N [Sl.sh v_one, Sl.sh v_two, Sl.sh v_label, Sl.sh x3, Sl.un, Sl.un, Sl.un] (nmT ["a", "b"]) x57).bind fun σ58 => ((((σ58[5]?).bind (rd false)).bind fun x62 => (((σ58[6]?).bind (rd false)).bind fun x60 => (((σ58[2]?).bind (rd false)).bind fun x59 => some ([x59])).bind fun ys61 => some (x60 :: ys61)).bind fun ys63 => some (x62 :: ys63)).bind fun ds64 => callN T hd.G k "made" ds64).bind fun x65 => some (some x65)) xs56)).bind fun x66 => (items x66).bind fun x67 => some (x67 ++ [])).bind fun ys68 => some (x3 :: ys68)).bind fun ds69 => cond (decide (ds69.length ≤ few)) (some (PyData.tuple ds69)) none).bind fun x70 => some x70))) := (callK (d := f_structural) (by kernel_rfl) rfl).trans (by kernel_rfl)
theorem r_make (k : Nat) (v_one v_two v_label : D) : callN T hd.G (k + 1) "make" [v_one, v_two, v_label] =
    (callN T hd.G k "check_type" [v_one]).bind fun x3 => (callN T hd.G k "check_type" [v_two]).bind fun x6 => (((callN T hd.G k "is_label" [v_label]).bind fun x15 => truD x15).map (!·)).bind fun k9 => cond k9 (none) ((callN T hd.G k "made" [v_one, v_two, v_label]).bind fun x14 => some x14) := (callK (d := f_make) (by kernel_rfl) rfl).trans (by kernel_rfl)
theorem r_all_types (k : Nat) (v_many : D) : callN T hd.G (k + 1) "all_types" [v_many] =
    (((cmpD .LtE (PyData.int 1) v_many).bind fun k11 => cond k11 (cmpD .LtE v_many (PyData.int 4)) (some false)).map (!·)).bind fun k3 => cond k3 (none) ((((callN T hd.G k "all_of" [v_many]).bind fun x8 => some ([x8])).bind fun ds9 => bD .sorted ds9).bind fun x10 => some x10) := (callK (d := f_all_types) (by kernel_rfl) rfl).trans (by kernel_rfl)
theorem r__law_draws (k : Nat) (v_script : D) : callN T hd.G (k + 1) "_law_draws" [v_script] =
    ((((((bD .len [v_script]).bind fun x5 => some ([x5])).bind fun ys6 => some ((PyData.int 63) :: ys6)).bind fun ds7 => bD .min ds7).bind fun x8 => rng1 x8).bind fun xs9 => forL (fun σ x => asg f__law_draws.N σ (forT (stAt f__law_draws.body 1)) x) (fun σ => exs ⟨f__law_draws.N, hd.G, callN T hd.G k⟩ 57 σ (forB (stAt f__law_draws.body 1))) xs9 [Sl.sh v_script, Sl.ow [], Sl.un, Sl.un, Sl.un, Sl.un]).bind (fun fl4 => match fl4 with | .next σ3 => exsK ⟨f__law_draws.N, hd.G, callN T hd.G k⟩ 58 σ3 (f__law_draws.body.drop 2) endK | fl4 => endK fl4) := (callK (d := f__law_draws) (by kernel_rfl) rfl).trans (by kernel_rfl)
theorem r__law_draws_1g (z_0 z_1 z_2 z_3 z_4 z_5 : Sl) (v_x : D) : asg f__law_draws.N [z_0, z_1, z_2, z_3, z_4, z_5] (forT (stAt f__law_draws.body 1)) v_x =
    some [z_0, z_1, Sl.sh v_x, z_3, z_4, z_5] := by kernel_rfl
theorem r__law_draws_1b (k : Nat) (w_0 : D) (l_1 : List D) (s_3 : Sl) (s_4 : Sl) (s_5 : Sl) (v_x : D) : exs ⟨f__law_draws.N, hd.G, callN T hd.G k⟩ 57 [Sl.sh w_0, Sl.ow l_1, Sl.sh v_x, s_3, s_4, s_5] (forB (stAt f__law_draws.body 1)) =
    (((ixD w_0 v_x).bind fun x12 => some ([x12])).bind fun ds13 => bD .abs ds13).bind fun x14 => ((binD .Pow (PyData.int 10) (PyData.int 18)).bind fun x49 => cmpD .GtE x14 x49).bind fun k17 => cond k17 (((rng1 (PyData.int 60)).bind fun xs20 => forL (fun σ x => asg f__law_draws.N σ (forT (stAt (ifA (stAt (forB (stAt f__law_draws.body 1)) 1)) 0)) x) (fun σ => exs ⟨f__law_draws.N, hd.G, callN T hd.G k⟩ 52 σ (forB (stAt (ifA (stAt (forB (stAt f__law_draws.body 1)) 1)) 0))) xs20 [Sl.sh w_0, Sl.ow l_1, Sl.sh v_x, Sl.sh x14, s_4, s_5]).bind (fun fl19 => match fl19 with | .next σ18 => exsK ⟨f__law_draws.N, hd.G, callN T hd.G k⟩ 53 σ18 ((ifA (stAt (forB (stAt f__law_draws.body 1)) 1)).drop 1) (fun fl16 => match fl16 with | .next σ15 => exsK ⟨f__law_draws.N, hd.G, callN T hd.G k⟩ 55 σ15 ((forB (stAt f__law_draws.body 1)).drop 2) some | fl16 => some fl16) | fl19 => (fun fl16 => match fl16 with | .next σ15 => exsK ⟨f__law_draws.N, hd.G, callN T hd.G k⟩ 55 σ15 ((forB (stAt f__law_draws.body 1)).drop 2) some | fl16 => some fl16) fl19)) ((((((binD .Mult x14 (PyData.int 48271)).bind fun x23 => ((binD .Add v_x (PyData.int 1)).bind fun x24 => binD .Mult x24 (PyData.int 69621)).bind fun x25 => binD .Add x23 x25).bind fun x26 => some ([x26])).bind fun ds27 => bD .int ds27).bind fun x28 => binD .Mod x28 (PyData.int 2147483647)).bind fun x29 => ((((((binD .Mult x29 (PyData.int 16807)).bind fun x32 => (binD .Mult (PyData.int 11) v_x).bind fun x33 => binD .Add x32 x33).bind fun x34 => binD .Add x34 (PyData.int 5)).bind fun x35 => some ([x35])).bind fun ds36 => bD .int ds36).bind fun x37 => binD .Mod x37 (PyData.int 2147483629)).bind fun x38 => ((bD .int [x38]).bind fun x41 => binD .Mod x41 (PyData.int 65536)).bind fun x42 => cond (decide ((l_1).length < few)) (((((binD .FloorDiv x38 (PyData.int 65536)).bind fun x45 => some ([x45])).bind fun ds46 => bD .int ds46).bind fun x47 => binD .Mod x47 (PyData.int 32768)).bind fun x48 => cond (decide (((l_1 ++ [x42])).length < few)) (some (Fl.next [Sl.sh w_0, Sl.ow ((l_1 ++ [x42]) ++ [x48]), Sl.sh v_x, Sl.sh x14, s_4, Sl.sh x38])) none) none) := bodyK.trans (by kernel_rfl)
theorem r__law_draws_1b1t0g (z_0 z_1 z_2 z_3 z_4 z_5 : Sl) (v_x : D) : asg f__law_draws.N [z_0, z_1, z_2, z_3, z_4, z_5] (forT (stAt (ifA (stAt (forB (stAt f__law_draws.body 1)) 1)) 0)) v_x =
    some [z_0, z_1, z_2, z_3, Sl.sh v_x, z_5] := by kernel_rfl
theorem r__law_draws_1b1t0b (k : Nat) (w_0 : D) (l_1 : List D) (w_2 : D) (s_3 : Sl) (s_5 : Sl) (v_x : D) : exs ⟨f__law_draws.N, hd.G, callN T hd.G k⟩ 52 [Sl.sh w_0, Sl.ow l_1, Sl.sh w_2, s_3, Sl.sh v_x, s_5] (forB (stAt (ifA (stAt (forB (stAt f__law_draws.body 1)) 1)) 0)) =
    ((rd true s_3).bind fun x63 => cmpD .Gt x63 (PyData.int 0)).bind fun k52 => cond k52 (((((rd true s_3).bind fun x55 => some ([x55])).bind fun ds56 => bD .int ds56).bind fun x57 => binD .Mod x57 (PyData.int 65536)).bind fun x58 => cond (decide ((l_1).length < few)) (((rd true s_3).bind fun x61 => binD .FloorDiv x61 (PyData.int 65536)).bind fun x62 => some (Fl.next [Sl.sh w_0, Sl.ow (l_1 ++ [x58]), Sl.sh w_2, Sl.sh x62, Sl.sh v_x, s_5])) none) (some (Fl.next [Sl.sh w_0, Sl.ow l_1, Sl.sh w_2, s_3, Sl.sh v_x, s_5])) := bodyK.trans (by kernel_rfl)
theorem r__law_draws_1a (k : Nat) (w_0 : D) (l_1 : List D) (s_2 : Sl) (s_3 : Sl) (s_4 : Sl) (s_5 : Sl) : exsK ⟨f__law_draws.N, hd.G, callN T hd.G k⟩ 58 [Sl.sh w_0, Sl.ow l_1, s_2, s_3, s_4, s_5] (f__law_draws.body.drop 2) endK =
    some (PyData.list l_1) := by kernel_rfl
theorem r__law_mix (k : Nat) (v_draws v_k v_many : D) : callN T hd.G (k + 1) "_law_mix" [v_draws, v_k, v_many] =
    ((bD .len [v_draws]).bind fun x50 => cmpD .Gt x50 (PyData.int 0)).bind fun k5 => cond k5 ((((bD .int [v_k]).bind fun x8 => (bD .len [v_draws]).bind fun x9 => binD .Mod x8 x9).bind fun x10 => ixD v_draws x10).bind fun x11 => ((bD .len [v_draws]).bind fun x30 => cmpD .Lt v_k x30).bind fun k14 => cond k14 (((bD .int [x11]).bind fun x17 => binD .Mod x17 v_many).bind fun x18 => some x18) (((((((((binD .Mult x11 (PyData.int 7919)).bind fun x21 => (binD .Mult v_k (PyData.int 104729)).bind fun x22 => binD .Add x21 x22).bind fun x23 => some ([x23])).bind fun ds24 => bD .int ds24).bind fun x25 => binD .FloorDiv x25 (PyData.int 3)).bind fun x26 => some ([x26])).bind fun ds27 => bD .int ds27).bind fun x28 => binD .Mod x28 v_many).bind fun x29 => some x29)) (((bD .len [v_draws]).bind fun x49 => cmpD .Lt v_k x49).bind fun k33 => cond k33 (((bD .int [(PyData.int 0)]).bind fun x36 => binD .Mod x36 v_many).bind fun x37 => some x37) (((((((((binD .Mult (PyData.int 0) (PyData.int 7919)).bind fun x40 => (binD .Mult v_k (PyData.int 104729)).bind fun x41 => binD .Add x40 x41).bind fun x42 => some ([x42])).bind fun ds43 => bD .int ds43).bind fun x44 => binD .FloorDiv x44 (PyData.int 3)).bind fun x45 => some ([x45])).bind fun ds46 => bD .int ds46).bind fun x47 => binD .Mod x47 v_many).bind fun x48 => some x48)) := (callK (d := f__law_mix) (by kernel_rfl) rfl).trans (by kernel_rfl)
theorem r__law_kind (k : Nat) (v_draws v_k v_depth : D) : callN T hd.G (k + 1) "_law_kind" [v_draws, v_k, v_depth] =
    (((((((((cmpD .Gt v_depth (PyData.int 0)).map PyData.bool).bind fun x3 => some ([x3])).bind fun ds4 => bD .int ds4).bind fun x5 => ixD (PyData.list [(PyData.int 4), (PyData.int 10)]) x5).bind fun x6 => some ([x6])).bind fun ys7 => some (v_k :: ys7)).bind fun ys8 => some (v_draws :: ys8)).bind fun ds9 => callN T hd.G k "_law_mix" ds9).bind fun x10 => (cmpD .Lt x10 (PyData.int 4)).bind fun k13 => cond k13 ((ixD (PyData.list [(PyData.tuple [(PyData.str "int")]), (PyData.tuple [(PyData.str "int")]), (PyData.tuple [(PyData.str "bool")]), (PyData.tuple [(PyData.str "unit")])]) x10).bind fun x16 => some x16) ((((((binD .Mult (PyData.int 3) v_k).bind fun x19 => binD .Add x19 (PyData.int 1)).bind fun x21 => ((binD .Sub v_depth (PyData.int 1)).bind fun x20 => some ([x20])).bind fun ys22 => some (x21 :: ys22)).bind fun ys23 => some (v_draws :: ys23)).bind fun ds24 => callN T hd.G k "_law_kind" ds24).bind fun x25 => (cmpD .Lt x10 (PyData.int 6)).bind fun k28 => cond k28 ((((((((((binD .Mult (PyData.int 3) v_k).bind fun x31 => binD .Add x31 (PyData.int 2)).bind fun x33 => ((binD .Sub v_depth (PyData.int 1)).bind fun x32 => some ([x32])).bind fun ys34 => some (x33 :: ys34)).bind fun ys35 => some (v_draws :: ys35)).bind fun ds36 => callN T hd.G k "_law_kind" ds36).bind fun x37 => some ([x37])).bind fun ys38 => some (x25 :: ys38)).bind fun ys39 => some ((PyData.str "fun") :: ys39)).bind fun ds40 => cond (decide (ds40.length ≤ few)) (some (PyData.tuple ds40)) none).bind fun x41 => some x41) ((cmpD .Lt x10 (PyData.int 8)).bind fun k44 => cond k44 ((((((((((binD .Mult (PyData.int 3) v_k).bind fun x47 => binD .Add x47 (PyData.int 2)).bind fun x49 => ((binD .Sub v_depth (PyData.int 1)).bind fun x48 => some ([x48])).bind fun ys50 => some (x49 :: ys50)).bind fun ys51 => some (v_draws :: ys51)).bind fun ds52 => callN T hd.G k "_law_kind" ds52).bind fun x53 => some ([x53])).bind fun ys54 => some (x25 :: ys54)).bind fun ys55 => some ((PyData.str "pair") :: ys55)).bind fun ds56 => cond (decide (ds56.length ≤ few)) (some (PyData.tuple ds56)) none).bind fun x57 => some x57) (((((binD .Sub x10 (PyData.int 8)).bind fun x60 => ixD (PyData.list [(PyData.str "cell"), (PyData.str "list")]) x60).bind fun x61 => some ([x61, x25])).bind fun ds62 => cond (decide (ds62.length ≤ few)) (some (PyData.tuple ds62)) none).bind fun x63 => some x63))) := (callK (d := f__law_kind) (by kernel_rfl) rfl).trans (by kernel_rfl)
theorem r__law_blur (k : Nat) (v_draws v_k v_told v_rate : D) : callN T hd.G (k + 1) "_law_blur" [v_draws, v_k, v_told, v_rate] =
    ((cmpD .Gt v_rate (PyData.int 0)).bind fun k26 => cond k26 ((callN T hd.G k "_law_mix" [v_draws, v_k, v_rate]).bind fun x27 => cmpD .Eq x27 (PyData.int 0)) (some false)).bind fun k3 => cond k3 (some (PyData.tuple [(PyData.str "?")])) (((((ixD v_told (PyData.int 0)).bind fun x8 => some ([x8])).bind fun ds9 => cond (decide (ds9.length ≤ few)) (some (PyData.tuple ds9)) none).bind fun x10 => (((((bD .len [v_told]).bind fun x12 => rng2 (PyData.int 1) x12).bind fun xs13 => lim (compM (fun x14 => (((((binD .Mult (PyData.int 3) v_k).bind fun x15 => binD .Add x15 x14).bind fun x17 => ((ixD v_told x14).bind fun x16 => some ([x16, v_rate])).bind fun ys18 => some (x17 :: ys18)).bind fun ys19 => some (v_draws :: ys19)).bind fun ds20 => callN T hd.G k "_law_blur" ds20).bind fun x21 => some (some x21)) xs13)).bind fun x22 => some ([x22])).bind fun ds23 => bD .tuple ds23).bind fun x24 => binD .Add x10 x24).bind fun x25 => some x25) := (callK (d := f__law_blur) (by kernel_rfl) rfl).trans (by kernel_rfl)
theorem r__law_safe (k : Nat) (v_one v_two v_side : D) : callN T hd.G (k + 1) "_law_safe" [v_one, v_two, v_side] =
    (cmpD .Eq v_one (PyData.tuple [(PyData.str "?")])).bind fun k3 => cond k3 ((((truD v_side).map fun k7 => PyData.bool !k7).bind fun x8 => (truD x8).bind fun k6 => cond k6 (some x8) ((cmpD .Eq v_two (PyData.tuple [(PyData.str "?")])).map PyData.bool)).bind fun x9 => some x9) ((cmpD .Eq v_two (PyData.tuple [(PyData.str "?")])).bind fun k12 => cond k12 (((truD v_side).bind fun k15 => cond k15 (some v_side) (((((((ixD v_one (PyData.int 0)).bind fun x16 => some ([x16])).bind fun ds17 => cond (decide (ds17.length ≤ few)) (some (PyData.tuple ds17)) none).bind fun x18 => (((((slD v_one (some 1) none).bind fun x20 => items x20).bind fun xs21 => lim (compM (fun x22 => some (some (PyData.tuple [(PyData.str "?")]))) xs21)).bind fun x23 => some ([x23])).bind fun ds24 => bD .tuple ds24).bind fun x25 => binD .Add x18 x25).bind fun x26 => some ([x26, (PyData.bool false)])).bind fun ys27 => some (v_one :: ys27)).bind fun ds28 => callN T hd.G k "_law_safe" ds28)).bind fun x29 => some x29) (((ixD v_one (PyData.int 0)).bind fun x167 => (ixD v_two (PyData.int 0)).bind fun x168 => cmpD .NotEq x167 x168).bind fun k32 => cond k32 (((truD v_side).map fun k35 => PyData.bool !k35).bind fun x36 => some x36) (((bD .len [v_one]).bind fun x39 => rng2 (PyData.int 1) x39).bind fun xs40 => (compM (fun x42 => (((ixD v_one x42).bind fun x44 => ((ixD v_two x42).bind fun x43 => some ([x43, v_side])).bind fun ys45 => some (x44 :: ys45)).bind fun ds46 => cond (decide (ds46.length ≤ few)) (some (PyData.tuple ds46)) none).bind fun x47 => some (some x47)) xs40).bind fun ys41 => cond (decide (ys41.length ≤ few)) (((ixD v_one (PyData.int 0)).bind fun x166 => cmpD .Eq x166 (PyData.str "fun")).bind fun k50 => cond k50 (((((ixD v_two (PyData.int 1)).bind fun x57 => ((ixD v_one (PyData.int 1)).bind fun x55 => (((truD v_side).map fun k53 => PyData.bool !k53).bind fun x54 => some ([x54])).bind fun ys56 => some (x55 :: ys56)).bind fun ys58 => some (x57 :: ys58)).bind fun ds59 => cond (decide (ds59.length ≤ few)) (some (PyData.tuple ds59)) none).bind fun x65 => ((((ixD v_one (PyData.int 2)).bind fun x61 => ((ixD v_two (PyData.int 2)).bind fun x60 => some ([x60, v_side])).bind fun ys62 => some (x61 :: ys62)).bind fun ds63 => cond (decide (ds63.length ≤ few)) (some (PyData.tuple ds63)) none).bind fun x64 => some ([x64])).bind fun ys66 => some (x65 :: ys66)).bind fun ds67 => cond (decide (ds67.length ≤ few)) (((ixD v_one (PyData.int 0)).bind fun x116 => cmpD .Eq x116 (PyData.str "cell")).bind fun k70 => cond k70 (((((((ixD v_two (PyData.int 1)).bind fun x77 => ((ixD v_one (PyData.int 1)).bind fun x75 => (((truD v_side).map fun k73 => PyData.bool !k73).bind fun x74 => some ([x74])).bind fun ys76 => some (x75 :: ys76)).bind fun ys78 => some (x77 :: ys78)).bind fun ds79 => cond (decide (ds79.length ≤ few)) (some (PyData.tuple ds79)) none).bind fun x80 => some ([x80])).bind fun ds81 => cond (decide (ds81.length ≤ few)) (some (PyData.list ds81)) none).bind fun x82 => binD .Add (PyData.list ds67) x82).bind fun x83 => (((items x83).bind fun xs87 => lim (compM (fun x88 => ((((((ixD x88 (PyData.int 0)).bind fun x94 => ((ixD x88 (PyData.int 1)).bind fun x92 => ((ixD x88 (PyData.int 2)).bind fun x91 => some ([x91])).bind fun ys93 => some (x92 :: ys93)).bind fun ys95 => some (x94 :: ys95)).bind fun ds96 => callN T hd.G k "_law_safe" ds96).bind fun x97 => truD x97).map (!·)).bind fun b89 => cond b89 (some true) (some false)).bind fun b90 => cond b90 (some (some x88)) (some none)) xs87)).bind fun x98 => (cmpD .Eq x98 (PyData.list [])).map PyData.bool).bind fun x99 => some x99) ((((items (PyData.list ds67)).bind fun xs103 => lim (compM (fun x104 => ((((((ixD x104 (PyData.int 0)).bind fun x110 => ((ixD x104 (PyData.int 1)).bind fun x108 => ((ixD x104 (PyData.int 2)).bind fun x107 => some ([x107])).bind fun ys109 => some (x108 :: ys109)).bind fun ys111 => some (x110 :: ys111)).bind fun ds112 => callN T hd.G k "_law_safe" ds112).bind fun x113 => truD x113).map (!·)).bind fun b105 => cond b105 (some true) (some false)).bind fun b106 => cond b106 (some (some x104)) (some none)) xs103)).bind fun x114 => (cmpD .Eq x114 (PyData.list [])).map PyData.bool).bind fun x115 => some x115)) none) (((ixD v_one (PyData.int 0)).bind fun x165 => cmpD .Eq x165 (PyData.str "cell")).bind fun k119 => cond k119 (((((((ixD v_two (PyData.int 1)).bind fun x126 => ((ixD v_one (PyData.int 1)).bind fun x124 => (((truD v_side).map fun k122 => PyData.bool !k122).bind fun x123 => some ([x123])).bind fun ys125 => some (x124 :: ys125)).bind fun ys127 => some (x126 :: ys127)).bind fun ds128 => cond (decide (ds128.length ≤ few)) (some (PyData.tuple ds128)) none).bind fun x129 => some ([x129])).bind fun ds130 => cond (decide (ds130.length ≤ few)) (some (PyData.list ds130)) none).bind fun x131 => binD .Add (PyData.list ys41) x131).bind fun x132 => (((items x132).bind fun xs136 => lim (compM (fun x137 => ((((((ixD x137 (PyData.int 0)).bind fun x143 => ((ixD x137 (PyData.int 1)).bind fun x141 => ((ixD x137 (PyData.int 2)).bind fun x140 => some ([x140])).bind fun ys142 => some (x141 :: ys142)).bind fun ys144 => some (x143 :: ys144)).bind fun ds145 => callN T hd.G k "_law_safe" ds145).bind fun x146 => truD x146).map (!·)).bind fun b138 => cond b138 (some true) (some false)).bind fun b139 => cond b139 (some (some x137)) (some none)) xs136)).bind fun x147 => (cmpD .Eq x147 (PyData.list [])).map PyData.bool).bind fun x148 => some x148) ((((items (PyData.list ys41)).bind fun xs152 => lim (compM (fun x153 => ((((((ixD x153 (PyData.int 0)).bind fun x159 => ((ixD x153 (PyData.int 1)).bind fun x157 => ((ixD x153 (PyData.int 2)).bind fun x156 => some ([x156])).bind fun ys158 => some (x157 :: ys158)).bind fun ys160 => some (x159 :: ys160)).bind fun ds161 => callN T hd.G k "_law_safe" ds161).bind fun x162 => truD x162).map (!·)).bind fun b154 => cond b154 (some true) (some false)).bind fun b155 => cond b155 (some (some x153)) (some none)) xs152)).bind fun x163 => (cmpD .Eq x163 (PyData.list [])).map PyData.bool).bind fun x164 => some x164))) none))) := (callK (d := f__law_safe) (by kernel_rfl) rfl).trans (by kernel_rfl)
theorem r__law_sides (k : Nat) (v_told : D) : callN T hd.G (k + 1) "_law_sides" [v_told] =
    ((ixD v_told (PyData.int 0)).bind fun x39 => cmpD .Eq x39 (PyData.str "from")).bind fun k3 => cond k3 ((((((ixD v_told (PyData.int 2)).bind fun x6 => ixD x6 (PyData.int 1)).bind fun x7 => some ([x7])).bind fun ds8 => cond (decide (ds8.length ≤ few)) (some (PyData.list ds8)) none).bind fun x9 => (((ixD v_told (PyData.int 3)).bind fun x10 => some ([x10])).bind fun ds11 => callN T hd.G k "_law_sides" ds11).bind fun x12 => binD .Add x9 x12).bind fun x13 => some x13) (((ixD v_told (PyData.int 0)).bind fun x38 => cmpD .Eq x38 (PyData.str "to")).bind fun k16 => cond k16 ((((ixD v_told (PyData.int 1)).bind fun x19 => some ([x19])).bind fun ds20 => callN T hd.G k "_law_sides" ds20).bind fun x21 => some x21) (((ixD v_told (PyData.int 0)).bind fun x37 => cmpD .In x37 (PyData.list [(PyData.str "id"), (PyData.str "id?")])).bind fun k24 => cond k24 (some (PyData.list [])) ((((((slD v_told (some 1) none).bind fun x30 => items x30).bind fun xs31 => lim (compM (fun x32 => (callN T hd.G k "_law_sides" [x32]).bind fun x33 => some (some x33)) xs31)).bind fun x34 => some ([x34, (PyData.list [])])).bind fun ds35 => bD .sum ds35).bind fun x36 => some x36))) := (callK (d := f__law_sides) (by kernel_rfl) rfl).trans (by kernel_rfl)
theorem r__law_pair (k : Nat) (v_one v_two : D) : callN T hd.G (k + 1) "_law_pair" [v_one, v_two] =
    (forL (fun σ x => asg f__law_pair.N σ (forT (stAt f__law_pair.body 0)) x) (fun σ => exs ⟨f__law_pair.N, hd.G, callN T hd.G k⟩ 58 σ (forB (stAt f__law_pair.body 0))) [(PyData.bool true), (PyData.bool false)] [Sl.sh v_one, Sl.sh v_two, Sl.un]).bind (fun fl2 => match fl2 with | .next σ1 => exsK ⟨f__law_pair.N, hd.G, callN T hd.G k⟩ 59 σ1 (f__law_pair.body.drop 1) endK | fl2 => endK fl2) := (callK (d := f__law_pair) (by kernel_rfl) rfl).trans (by kernel_rfl)
theorem r__law_pair_0g (z_0 z_1 z_2 : Sl) (v_x : D) : asg f__law_pair.N [z_0, z_1, z_2] (forT (stAt f__law_pair.body 0)) v_x =
    some [z_0, z_1, Sl.sh v_x] := by kernel_rfl
theorem r__law_pair_0b (k : Nat) (w_0 : D) (w_1 : D) (v_x : D) : exs ⟨f__law_pair.N, hd.G, callN T hd.G k⟩ 58 [Sl.sh w_0, Sl.sh w_1, Sl.sh v_x] (forB (stAt f__law_pair.body 0)) =
    ((((callN T hd.G k "safe" [w_0, w_1, v_x]).bind fun x20 => some ([x20])).bind fun ds21 => bD .repr ds21).bind fun x22 => (((callN T hd.G k "_law_safe" [w_0, w_1, v_x]).bind fun x23 => some ([x23])).bind fun ds24 => bD .repr ds24).bind fun x25 => cmpD .NotEq x22 x25).bind fun k5 => cond k5 (some (Fl.ret (PyData.bool false))) ((((callN T hd.G k "consistent" [w_0, w_1]).bind fun x19 => truD x19).bind fun k13 => cond k13 ((callN T hd.G k "safe" [w_0, w_1, v_x]).bind fun x14 => ((((callN T hd.G k "make" [w_0, w_1, (PyData.tuple [(PyData.int 3), (PyData.bool true)])]).bind fun x15 => some ([x15])).bind fun ds16 => callN T hd.G k "_law_sides" ds16).bind fun x17 => (cmpD .NotIn v_x x17).map PyData.bool).bind fun x18 => cmpD .NotEq x14 x18) (some false)).bind fun k10 => cond k10 (some (Fl.ret (PyData.bool false))) (some (Fl.next [Sl.sh w_0, Sl.sh w_1, Sl.sh v_x]))) := bodyK.trans (by kernel_rfl)
theorem r__law_pair_0a (k : Nat) (w_0 : D) (w_1 : D) (s_2 : Sl) : exsK ⟨f__law_pair.N, hd.G, callN T hd.G k⟩ 59 [Sl.sh w_0, Sl.sh w_1, s_2] (f__law_pair.body.drop 1) endK =
    ((callN T hd.G k "precise" [w_0, w_1]).bind fun x28 => ((callN T hd.G k "safe" [w_0, w_1, (PyData.bool true)]).bind fun x30 => (truD x30).bind fun k29 => cond k29 (callN T hd.G k "safe" [w_1, w_0, (PyData.bool false)]) (some x30)).bind fun x31 => (cmpD .Eq x28 x31).map PyData.bool).bind fun x32 => some x32 := by kernel_rfl
theorem r_law (k : Nat) (v_script : D) : callN T hd.G (k + 1) "law" [v_script] =
    (callN T hd.G k "_law_draws" [v_script]).bind fun x3 => (((callN T hd.G k "all_types" [(PyData.int 1)]).bind fun x6 => (callN T hd.G k "all_types" [(PyData.int 2)]).bind fun x7 => binD .Add x6 x7).bind fun x8 => (callN T hd.G k "all_types" [(PyData.int 3)]).bind fun x9 => binD .Add x8 x9).bind fun x10 => ((rng1 (PyData.int 6)).bind fun xs13 => forL (fun σ x => asg f_law.N σ (forT (stAt f_law.body 2)) x) (fun σ => exs ⟨f_law.N, hd.G, callN T hd.G k⟩ 56 σ (forB (stAt f_law.body 2))) xs13 [Sl.sh v_script, Sl.sh x3, Sl.sh x10, Sl.un, Sl.un, Sl.un, Sl.un, Sl.un, Sl.un]).bind (fun fl12 => match fl12 with | .next σ11 => exsK ⟨f_law.N, hd.G, callN T hd.G k⟩ 57 σ11 (f_law.body.drop 3) endK | fl12 => endK fl12) := (callK (d := f_law) (by kernel_rfl) rfl).trans (by kernel_rfl)
theorem r_law_2g (z_0 z_1 z_2 z_3 z_4 z_5 z_6 z_7 z_8 : Sl) (v_x : D) : asg f_law.N [z_0, z_1, z_2, z_3, z_4, z_5, z_6, z_7, z_8] (forT (stAt f_law.body 2)) v_x =
    some [z_0, z_1, z_2, Sl.sh v_x, z_4, z_5, z_6, z_7, z_8] := by kernel_rfl
theorem r_law_2b (k : Nat) (w_0 : D) (w_1 : D) (w_2 : D) (s_4 : Sl) (s_5 : Sl) (v_x : D) : exs ⟨f_law.N, hd.G, callN T hd.G k⟩ 56 [Sl.sh w_0, Sl.sh w_1, Sl.sh w_2, Sl.sh v_x, s_4, s_5, Sl.un, Sl.un, Sl.un] (forB (stAt f_law.body 2)) =
    (((((binD .Add (PyData.int 10) v_x).bind fun x16 => some ([x16, (PyData.int 60)])).bind fun ys17 => some (w_1 :: ys17)).bind fun ds18 => callN T hd.G k "_law_mix" ds18).bind fun x19 => ixD w_2 x19).bind fun x20 => (((((binD .Add (PyData.int 20) v_x).bind fun x21 => some ([x21, (PyData.int 60)])).bind fun ys22 => some (w_1 :: ys22)).bind fun ds23 => callN T hd.G k "_law_mix" ds23).bind fun x24 => ixD w_2 x24).bind fun x25 => (((callN T hd.G k "_law_pair" [x20, x25]).bind fun x31 => truD x31).map (!·)).bind fun k28 => cond k28 (some (Fl.ret (PyData.bool false))) (some (Fl.next [Sl.sh w_0, Sl.sh w_1, Sl.sh w_2, Sl.sh v_x, Sl.sh x20, Sl.sh x25, Sl.un, Sl.un, Sl.un])) := bodyK.trans (by kernel_rfl)
theorem r_law_2a (k : Nat) (w_0 : D) (w_1 : D) (w_2 : D) (s_3 : Sl) (s_4 : Sl) (s_5 : Sl) : exsK ⟨f_law.N, hd.G, callN T hd.G k⟩ 57 [Sl.sh w_0, Sl.sh w_1, Sl.sh w_2, s_3, s_4, s_5, Sl.un, Sl.un, Sl.un] (f_law.body.drop 3) endK =
    ((rng1 (PyData.int 4)).bind fun xs34 => forL (fun σ x => asg f_law.N σ (forT (stAt f_law.body 3)) x) (fun σ => exs ⟨f_law.N, hd.G, callN T hd.G k⟩ 55 σ (forB (stAt f_law.body 3))) xs34 [Sl.sh w_0, Sl.sh w_1, Sl.sh w_2, s_3, s_4, s_5, Sl.un, Sl.un, Sl.un]).bind (fun fl33 => match fl33 with | .next σ32 => exsK ⟨f_law.N, hd.G, callN T hd.G k⟩ 56 σ32 (f_law.body.drop 4) endK | fl33 => endK fl33) := by kernel_rfl
theorem r_law_3g (z_0 z_1 z_2 z_3 z_4 z_5 z_6 z_7 z_8 : Sl) (v_x : D) : asg f_law.N [z_0, z_1, z_2, z_3, z_4, z_5, z_6, z_7, z_8] (forT (stAt f_law.body 3)) v_x =
    some [z_0, z_1, z_2, Sl.sh v_x, z_4, z_5, z_6, z_7, z_8] := by kernel_rfl
theorem r_law_3b (k : Nat) (w_0 : D) (w_1 : D) (w_2 : D) (s_4 : Sl) (s_5 : Sl) (s_6 : Sl) (s_7 : Sl) (s_8 : Sl) (v_x : D) : exs ⟨f_law.N, hd.G, callN T hd.G k⟩ 55 [Sl.sh w_0, Sl.sh w_1, Sl.sh w_2, Sl.sh v_x, s_4, s_5, s_6, s_7, s_8] (forB (stAt f_law.body 3)) =
    ((((binD .Add (PyData.int 30) v_x).bind fun x37 => some ([x37, (PyData.int 4)])).bind fun ys38 => some (w_1 :: ys38)).bind fun ds39 => callN T hd.G k "_law_kind" ds39).bind fun x40 => ((callN T hd.G k "_law_mix" [w_1, v_x, (PyData.int 3)]).bind fun x43 => ixD (PyData.list [(PyData.int 2), (PyData.int 3), (PyData.int 6)]) x43).bind fun x44 => (((((binD .Mult (PyData.int 10) v_x).bind fun x47 => binD .Add (PyData.int 40) x47).bind fun x48 => some ([x48, x40, x44])).bind fun ys49 => some (w_1 :: ys49)).bind fun ds50 => callN T hd.G k "_law_blur" ds50).bind fun x51 => (((((binD .Mult (PyData.int 10) v_x).bind fun x52 => binD .Add (PyData.int 45) x52).bind fun x53 => some ([x53, x40, x44])).bind fun ys54 => some (w_1 :: ys54)).bind fun ds55 => callN T hd.G k "_law_blur" ds55).bind fun x56 => ((((callN T hd.G k "_law_pair" [x51, x56]).bind fun x110 => truD x110).map (!·)).bind fun k106 => cond k106 (some true) ((((callN T hd.G k "_law_pair" [x51, x40]).bind fun x109 => truD x109).map (!·)).bind fun k107 => cond k107 (some true) (((callN T hd.G k "_law_pair" [x40, x51]).bind fun x108 => truD x108).map (!·)))).bind fun k59 => cond k59 (some (Fl.ret (PyData.bool false))) ((((((binD .Add (PyData.int 4) v_x).bind fun x64 => some ([x64, (PyData.int 2)])).bind fun ys65 => some (w_1 :: ys65)).bind fun ds66 => callN T hd.G k "_law_mix" ds66).bind fun x67 => (cmpD .Eq x67 (PyData.int 0)).map PyData.bool).bind fun x68 => (((callN T hd.G k "safe" [x51, x56, x68]).bind fun x104 => (callN T hd.G k "safe" [(PyData.tuple [(PyData.str "list"), x51]), (PyData.tuple [(PyData.str "list"), x56]), x68]).bind fun x105 => cmpD .NotEq x104 x105).bind fun k96 => cond k96 (some true) ((callN T hd.G k "safe" [x51, x56, x68]).bind fun x97 => ((((((truD x68).map fun k98 => PyData.bool !k98).bind fun x99 => some ([x99])).bind fun ys100 => some ((PyData.tuple [(PyData.str "fun"), x51, (PyData.tuple [(PyData.str "int")])]) :: ys100)).bind fun ys101 => some ((PyData.tuple [(PyData.str "fun"), x56, (PyData.tuple [(PyData.str "int")])]) :: ys101)).bind fun ds102 => callN T hd.G k "safe" ds102).bind fun x103 => cmpD .NotEq x97 x103)).bind fun k71 => cond k71 (some (Fl.ret (PyData.bool false))) (((callN T hd.G k "safe" [(PyData.tuple [(PyData.str "cell"), x51]), (PyData.tuple [(PyData.str "cell"), x56]), x68]).bind fun x87 => ((callN T hd.G k "safe" [x51, x56, x68]).bind fun x89 => (truD x89).bind fun k88 => cond k88 ((((((truD x68).map fun k90 => PyData.bool !k90).bind fun x91 => some ([x91])).bind fun ys92 => some (x51 :: ys92)).bind fun ys93 => some (x56 :: ys93)).bind fun ds94 => callN T hd.G k "safe" ds94) (some x89)).bind fun x95 => cmpD .NotEq x87 x95).bind fun k76 => cond k76 (some (Fl.ret (PyData.bool false))) (((((callN T hd.G k "safe" [x40, x51, (PyData.bool true)]).bind fun x86 => truD x86).map (!·)).bind fun k84 => cond k84 (some true) (((callN T hd.G k "safe" [x51, x40, (PyData.bool false)]).bind fun x85 => truD x85).map (!·))).bind fun k81 => cond k81 (some (Fl.ret (PyData.bool false))) (some (Fl.next [Sl.sh w_0, Sl.sh w_1, Sl.sh w_2, Sl.sh v_x, Sl.sh x51, Sl.sh x56, Sl.sh x40, Sl.sh x44, Sl.sh x68]))))) := bodyK.trans (by kernel_rfl)
theorem r_law_3a (k : Nat) (w_0 : D) (w_1 : D) (w_2 : D) (s_3 : Sl) (s_4 : Sl) (s_5 : Sl) (s_6 : Sl) (s_7 : Sl) (s_8 : Sl) : exsK ⟨f_law.N, hd.G, callN T hd.G k⟩ 56 [Sl.sh w_0, Sl.sh w_1, Sl.sh w_2, s_3, s_4, s_5, s_6, s_7, s_8] (f_law.body.drop 4) endK =
    (((callN T hd.G k "safe" [(PyData.tuple [(PyData.str "fun"), (PyData.tuple [(PyData.str "int")]), (PyData.tuple [(PyData.str "int")])]), (PyData.tuple [(PyData.str "?")]), (PyData.bool false)]).bind fun x114 => (cmpD .Is x114 (PyData.bool false)).map PyData.bool).bind fun x115 => (truD x115).bind fun k113 => cond k113 ((callN T hd.G k "safe" [(PyData.tuple [(PyData.str "fun"), (PyData.tuple [(PyData.str "?")]), (PyData.tuple [(PyData.str "int")])]), (PyData.tuple [(PyData.str "?")]), (PyData.bool false)]).bind fun x116 => (cmpD .Is x116 (PyData.bool true)).map PyData.bool) (some x115)).bind fun x117 => some x117 := by kernel_rfl
end K06

namespace EV
open PySem L2
@[simp] theorem dle_str (n : Nat) (x : Str) : dle n (.str x) = true := by cases n <;> rfl
@[simp] theorem dle_int (n : Nat) (x : Int) : dle n (.int x) = true := by cases n <;> rfl
@[simp] theorem dle_bool (n : Nat) (x : Bool) : dle n (.bool x) = true := by cases n <;> rfl
@[simp] theorem dle_none (n : Nat) : dle n .none = true := by cases n <;> rfl
@[simp] theorem dle_tup (n : Nat) (xs : List D) : dle (n + 1) (.tuple xs) = dles n xs := rfl
@[simp] theorem dle_lst (n : Nat) (xs : List D) : dle (n + 1) (.list xs) = dles n xs := rfl
@[simp] theorem dles_nil (n : Nat) : dles n [] = true := by cases n <;> rfl
@[simp] theorem dles_cons (n : Nat) (x : D) (xs : List D) : dles n (x :: xs) = (dle n x && dles n xs) := by cases n <;> rfl
end EV
namespace K06
open PySem L2 EV
inductive H0 where | hole | int | bool | unit
  deriving DecidableEq
inductive H1 where | cell | list
  deriving DecidableEq
inductive H2 where | fn | pair
  deriving DecidableEq
inductive Ty where
  | t0 (h : H0) | t1 (h : H1) (a : Ty) | t2 (h : H2) (a b : Ty)
  deriving DecidableEq
def n0 : H0 → Str | .hole => "?" | .int => "int" | .bool => "bool" | .unit => "unit"
def n1 : H1 → Str | .cell => "cell" | .list => "list"
def n2 : H2 → Str | .fn => "fun" | .pair => "pair"
@[simp] theorem n00 (a b : H0) : (n0 a == n0 b) = decide (a = b) := by cases a <;> cases b <;> decide +kernel
@[simp] theorem n11 (a b : H1) : (n1 a == n1 b) = decide (a = b) := by cases a <;> cases b <;> decide +kernel
@[simp] theorem n22 (a b : H2) : (n2 a == n2 b) = decide (a = b) := by cases a <;> cases b <;> decide +kernel
@[simp] theorem n01 (a : H0) (b : H1) : (n0 a == n1 b) = false := by cases a <;> cases b <;> decide +kernel
@[simp] theorem n02 (a : H0) (b : H2) : (n0 a == n2 b) = false := by cases a <;> cases b <;> decide +kernel
@[simp] theorem n10 (a : H1) (b : H0) : (n1 a == n0 b) = false := by cases a <;> cases b <;> decide +kernel
@[simp] theorem n12 (a : H1) (b : H2) : (n1 a == n2 b) = false := by cases a <;> cases b <;> decide +kernel
@[simp] theorem n20 (a : H2) (b : H0) : (n2 a == n0 b) = false := by cases a <;> cases b <;> decide +kernel
@[simp] theorem n21 (a : H2) (b : H1) : (n2 a == n1 b) = false := by cases a <;> cases b <;> decide +kernel
def enc : Ty → D
  | .t0 h => .tuple [.str (n0 h)]
  | .t1 h a => .tuple [.str (n1 h), enc a]
  | .t2 h a b => .tuple [.str (n2 h), enc a, enc b]
def Ty.dp : Ty → Nat
  | .t0 _ => 1
  | .t1 _ a => a.dp + 1
  | .t2 _ a b => max a.dp b.dp + 1
def Ty.sz : Ty → Nat
  | .t0 _ => 1
  | .t1 _ a => 1 + a.sz
  | .t2 _ a b => 1 + (a.sz + b.sz)
abbrev hole : Ty := .t0 .hole
theorem hole_enc : (PyData.tuple [(PyData.str "?")]) = enc hole := rfl
theorem dle_enc : ∀ (t : Ty) (n : Nat), t.dp ≤ n → dle n (enc t) = true
  | .t0 _, n + 1, _ => by simp [enc]
  | .t1 _ a, n + 1, h => by
    simp only [Ty.dp] at h
    simp [enc, dle_enc a n (by omega)]
  | .t2 _ a b, n + 1, h => by
    simp only [Ty.dp] at h
    simp [enc, dle_enc a n (by omega), dle_enc b n (by omega)]
  | .t0 _, 0, h => by cases h
  | .t1 _ _, 0, h => by cases h
  | .t2 _ _ _, 0, h => by cases h
theorem eqv_enc : ∀ a b : Ty, PyData.eqv (enc a) (enc b) = decide (a = b)
  | .t0 a, .t0 b => by simp [enc, PyData.eqv, PyData.eqvAll, n00]
  | .t0 a, .t1 b _ => by simp [enc, PyData.eqv, PyData.eqvAll, n01]
  | .t0 a, .t2 b _ _ => by simp [enc, PyData.eqv, PyData.eqvAll, n02]
  | .t1 a _, .t0 b => by simp [enc, PyData.eqv, PyData.eqvAll, n10]
  | .t1 a x, .t1 b y => by simp [enc, PyData.eqv, PyData.eqvAll, n11, eqv_enc x y]
  | .t1 a _, .t2 b _ _ => by simp [enc, PyData.eqv, PyData.eqvAll, n12]
  | .t2 a _ _, .t0 b => by simp [enc, PyData.eqv, PyData.eqvAll, n20]
  | .t2 a _ _, .t1 b _ => by simp [enc, PyData.eqv, PyData.eqvAll, n21]
  | .t2 a x x', .t2 b y y' => by simp [enc, PyData.eqv, PyData.eqvAll, n22, eqv_enc x y, eqv_enc x' y']
/-- types that the evaluator can compare -/
def Ok (t : Ty) : Prop := t.dp ≤ 50
theorem eq_enc {a b : Ty} (ha : Ok a) (hb : Ok b) : cmpD .Eq (enc a) (enc b) = some (decide (a = b)) := by
  unfold Ok at ha hb
  show cond (dle 60 (enc a) && dle 60 (enc b)) _ none = _
  rw [dle_enc a 60 (by omega), dle_enc b 60 (by omega), eqv_enc]; rfl
theorem ne_enc {a b : Ty} (ha : Ok a) (hb : Ok b) : cmpD .NotEq (enc a) (enc b) = some (!decide (a = b)) := by
  show (eqD _ _).map _ = _
  have := eq_enc ha hb
  rw [show eqD (enc a) (enc b) = some (decide (a = b)) from this]; rfl
theorem in2_enc {h a b : Ty} (hh : Ok h) (ha : Ok a) (hb : Ok b) : cmpD .In (enc h) (.tuple [enc a, enc b]) = some (decide (a = h) || decide (b = h)) := by
  unfold Ok at hh ha hb
  show cond (dle 60 (enc h) && dle 60 (.tuple [enc a, enc b])) _ none = _
  simp [dle_enc h 60 (by omega), dle_enc a 59 (by omega), dle_enc b 59 (by omega), eqv_enc]
def hd0 : Ty → Str | .t0 h => n0 h | .t1 h _ => n1 h | .t2 h _ _ => n2 h
@[simp] theorem ix0 (t : Ty) : ixD (enc t) (.int 0) = some (.str (hd0 t)) := by cases t <;> rfl
@[simp] theorem ix11 (h : H1) (a : Ty) : ixD (enc (.t1 h a)) (.int 1) = some (enc a) := rfl
@[simp] theorem ix21 (h : H2) (a b : Ty) : ixD (enc (.t2 h a b)) (.int 1) = some (enc a) := rfl
@[simp] theorem ix22 (h : H2) (a b : Ty) : ixD (enc (.t2 h a b)) (.int 2) = some (enc b) := rfl
def rgs : Ty → List D | .t0 _ => [] | .t1 _ _ => [.int 1] | .t2 _ _ _ => [.int 1, .int 2]
@[simp] theorem rg (t : Ty) : ((bD .len [enc t]).bind fun x => rng2 (PyData.int 1) x) = some (rgs t) := by cases t <;> kernel_rfl
@[simp] theorem eq_str (x y : Str) : cmpD .Eq (.str x) (.str y) = some (x == y) := rfl
@[simp] theorem ne_str (x y : Str) : cmpD .NotEq (.str x) (.str y) = some (!(x == y)) := rfl
end K06

namespace K06
open PySem L2 EV
def prec : Ty → Ty → Bool
  | _, .t0 .hole => true
  | .t0 a, .t0 b => decide (a = b)
  | .t1 a x, .t1 b y => decide (a = b) && prec x y
  | .t2 a x x', .t2 b y y' => decide (a = b) && (prec x y && prec x' y')
  | _, _ => false
def cons (a b : Ty) : Bool := decide (a = hole) || decide (b = hole) || match a, b with
  | .t0 a, .t0 b => decide (a = b)
  | .t1 a x, .t1 b y => decide (a = b) && cons x y
  | .t2 a x x', .t2 b y y' => decide (a = b) && (cons x y && cons x' y')
  | _, _ => false
theorem Ok.h : Ok hole := by show (1 : Nat) ≤ 50; decide
theorem Ok.a {h : H1} {a : Ty} (o : Ok (.t1 h a)) : Ok a := by unfold Ok at *; simp only [Ty.dp] at o; omega
theorem Ok.l {h : H2} {a b : Ty} (o : Ok (.t2 h a b)) : Ok a := by unfold Ok at *; simp only [Ty.dp] at o; omega
theorem Ok.r {h : H2} {a b : Ty} (o : Ok (.t2 h a b)) : Ok b := by unfold Ok at *; simp only [Ty.dp] at o; omega
@[simp] theorem lim1 (x : D) : lim (some [x]) = some (.list [x]) := rfl
@[simp] theorem lim0 : lim (some []) = some (.list []) := rfl
@[simp] theorem lim2 (x y : D) : lim (some [x, y]) = some (.list [x, y]) := rfl
@[simp] theorem all0 : bD .all [.list []] = some (.bool true) := rfl
@[simp] theorem all1 (x : Bool) : bD .all [.list [.bool x]] = some (.bool x) := by cases x <;> rfl
@[simp] theorem all2 (x y : Bool) : bD .all [.list [.bool x, .bool y]] = some (.bool (x && y)) := by cases x <;> cases y <;> rfl
@[simp] theorem few1 : decide (1 ≤ few) = true := by decide
@[simp] theorem few2 : decide (2 ≤ few) = true := by decide
@[simp] theorem few3 : decide (3 ≤ few) = true := by decide
@[simp] theorem few0 : decide (0 ≤ few) = true := by decide
@[simp] theorem tru_b (x : Bool) : truD (.bool x) = some x := rfl
@[simp] theorem t0h (h : H0) : (Ty.t0 h = hole) = (h = .hole) := by simp [hole]
@[simp] theorem t1h (h : H1) (a : Ty) : (Ty.t1 h a = hole) = False := by simp [hole]
@[simp] theorem t2h (h : H2) (a b : Ty) : (Ty.t2 h a b = hole) = False := by simp [hole]
theorem ev_prec : ∀ (b a : Ty) (k : Nat), b.dp ≤ k → Ok a → Ok b → callN T hd.G k "precise_of" [enc a, enc b] = some (.bool (prec a b))
  | .t0 h, a, k + 1, _, oa, ob => by
    rw [r_precise_of, hole_enc, eq_enc ob Ok.h]
    cases h with
    | hole => simp [prec]
    | _ => cases a <;> simp [hd0, rgs, compM, prec] <;> (rename_i g; cases g <;> simp)
  | .t1 h y, a, k + 1, hk, oa, ob => by
    simp only [Ty.dp] at hk
    rw [r_precise_of, hole_enc, eq_enc ob Ok.h]
    cases a with
    | t1 g x =>
      have ih := ev_prec y x k (by omega) oa.a ob.a
      simp [hd0, rgs, compM, prec, ih]
      cases decide (g = h) <;> simp
    | _ => simp [hd0, prec]
  | .t2 h y y', a, k + 1, hk, oa, ob => by
    simp only [Ty.dp] at hk
    rw [r_precise_of, hole_enc, eq_enc ob Ok.h]
    cases a with
    | t2 g x x' =>
      have ih := ev_prec y x k (by omega) oa.l ob.l
      have ih' := ev_prec y' x' k (by omega) oa.r ob.r
      simp [hd0, rgs, compM, prec, ih, ih']
      cases decide (g = h) <;> simp
    | _ => simp [hd0, prec]
  | .t0 _, _, 0, h, _, _ => by cases h
  | .t1 _ _, _, 0, h, _, _ => by cases h
  | .t2 _ _ _, _, 0, h, _, _ => by cases h
theorem ev_cons : ∀ (b a : Ty) (k : Nat), b.dp ≤ k → Ok a → Ok b → callN T hd.G k "consistent_of" [enc a, enc b] = some (.bool (cons a b))
  | .t0 h, a, k + 1, _, oa, ob => by
    rw [r_consistent_of, hole_enc, in2_enc Ok.h oa ob]
    cases h <;> cases a <;> simp [hd0, rgs, compM, cons] <;> (rename_i g; cases g <;> simp)
  | .t1 h y, a, k + 1, hk, oa, ob => by
    simp only [Ty.dp] at hk
    rw [r_consistent_of, hole_enc, in2_enc Ok.h oa ob]
    cases a with
    | t1 g x =>
      have ih := ev_cons y x k (by omega) oa.a ob.a
      rw [cons]
      simp [hd0, rgs, compM, ih]
      cases decide (g = h) <;> simp
    | t0 g => cases g <;> simp [hd0, cons]
    | _ => simp [hd0, cons]
  | .t2 h y y', a, k + 1, hk, oa, ob => by
    simp only [Ty.dp] at hk
    rw [r_consistent_of, hole_enc, in2_enc Ok.h oa ob]
    cases a with
    | t2 g x x' =>
      have ih := ev_cons y x k (by omega) oa.l ob.l
      have ih' := ev_cons y' x' k (by omega) oa.r ob.r
      rw [cons]
      simp [hd0, rgs, compM, ih, ih']
      cases decide (g = h) <;> simp
    | t0 g => cases g <;> simp [hd0, cons]
    | _ => simp [hd0, cons]
  | .t0 _, _, 0, h, _, _ => by cases h
  | .t1 _ _, _, 0, h, _, _ => by cases h
  | .t2 _ _ _, _, 0, h, _, _ => by cases h
@[simp] theorem items_l (xs : List D) : items (.list xs) = some xs := rfl
end K06

namespace K06
open PySem L2 EV
/-! ### parts, sizes -/
def kids : Ty → List D | .t0 _ => [] | .t1 _ a => [enc a] | .t2 _ a b => [enc a, enc b]
@[simp] theorem sl_kids (t : Ty) : slD (enc t) (some 1) none = some (.tuple (kids t)) := by cases t <;> kernel_rfl
@[simp] theorem items_t (xs : List D) : items (.tuple xs) = some xs := rfl
@[simp] theorem isi_enc (t : Ty) : isTy .tuple (enc t) = some true := by cases t <;> rfl
theorem len_enc (t : Ty) : bD .len [enc t] = some (.int (kids t).length.succ) := by cases t <;> rfl
abbrev PT : D := dictD [("?", (PyData.int 0)), ("int", (PyData.int 0)), ("bool", (PyData.int 0)), ("unit", (PyData.int 0)), ("fun", (PyData.int 2)), ("pair", (PyData.int 2)), ("cell", (PyData.int 1)), ("list", (PyData.int 1))]
@[simp] theorem in_PT (t : Ty) : cmpD .NotIn (.str (hd0 t)) PT = some false := by
  cases t with
  | t0 h => cases h <;> kernel_rfl
  | t1 h a => cases h <;> kernel_rfl
  | t2 h a b => cases h <;> kernel_rfl
@[simp] theorem ix_PT (t : Ty) : ixD PT (.str (hd0 t)) = some (.int (kids t).length) := by
  cases t with
  | t0 h => cases h <;> kernel_rfl
  | t1 h a => cases h <;> kernel_rfl
  | t2 h a b => cases h <;> kernel_rfl
theorem eq_int (i j : Int) : cmpD .Eq (.int i) (.int j) = some (i == j) := rfl
theorem ne_int (i j : Int) : cmpD .NotEq (.int i) (.int j) = some (!(i == j)) := rfl
theorem add_int (i j : Int) : binD .Add (.int i) (.int j) = some (.int (i + j)) := rfl
@[simp] theorem sum0 : bD .sum [.list []] = some (.int 0) := rfl
@[simp] theorem sum1 (x : Int) : bD .sum [.list [.int x]] = some (.int x) := by show some (PyData.int (x + 0)) = _; rw [Int.add_zero]
@[simp] theorem sum2 (x y : Int) : bD .sum [.list [.int x, .int y]] = some (.int (x + y)) := by show some (PyData.int (x + (y + 0))) = _; rw [Int.add_zero]
theorem ev_is : ∀ (t : Ty) (k : Nat), t.dp ≤ k → callN T hd.G k "is_type" [enc t] = some (.bool true)
  | .t0 h, k + 1, _ => by
    rw [r_is_type]
    simp [len_enc, eq_int, ne_int, add_int, kids, compM]
  | .t1 h a, k + 1, hk => by
    simp only [Ty.dp] at hk
    rw [r_is_type]
    simp [len_enc, eq_int, ne_int, add_int, kids, compM, ev_is a k (by omega)]
  | .t2 h a b, k + 1, hk => by
    simp only [Ty.dp] at hk
    rw [r_is_type]
    simp [len_enc, eq_int, ne_int, add_int, kids, compM, ev_is a k (by omega), ev_is b k (by omega)]
  | .t0 _, 0, h => by cases h
  | .t1 _ _, 0, h => by cases h
  | .t2 _ _ _, 0, h => by cases h
theorem ev_size : ∀ (t : Ty) (k : Nat), t.dp ≤ k → callN T hd.G k "size" [enc t] = some (.int t.sz)
  | .t0 h, k + 1, _ => by
    rw [r_size]
    simp [add_int, kids, compM, Ty.sz]
  | .t1 h a, k + 1, hk => by
    simp only [Ty.dp] at hk
    rw [r_size]
    simp [add_int, kids, compM, Ty.sz, ev_size a k (by omega)]
  | .t2 h a b, k + 1, hk => by
    simp only [Ty.dp] at hk
    rw [r_size]
    simp [add_int, kids, compM, Ty.sz, ev_size a k (by omega), ev_size b k (by omega)]
  | .t0 _, 0, h => by cases h
  | .t1 _ _, 0, h => by cases h
  | .t2 _ _ _, 0, h => by cases h
/-- types that pass the checks -/
structure Fit (t : Ty) : Prop where
  ok : t.dp ≤ 50
  sz : t.sz ≤ 60
theorem dp_sz : ∀ t : Ty, t.dp ≤ t.sz
  | .t0 _ => Nat.le_refl 1
  | .t1 _ a => by have := dp_sz a; simp only [Ty.dp, Ty.sz]; omega
  | .t2 _ a b => by have := dp_sz a; have := dp_sz b; simp only [Ty.dp, Ty.sz]; omega
theorem gt_int (i j : Int) : cmpD .Gt (.int i) (.int j) = some (decide (j < i)) := rfl
theorem ev_check {t : Ty} {k : Nat} (f : Fit t) (hk : 51 ≤ k) : callN T hd.G k "check_type" [enc t] = some .none := by
  obtain ⟨k, rfl⟩ : ∃ j, k = j + 1 := ⟨k - 1, by omega⟩
  have := f.ok
  have h2 : ¬ (60 : Int) < (t.sz : Int) := by have := f.sz; omega
  rw [r_check_type, ev_is t k (by omega), ev_size t k (by omega)]
  simp [gt_int, h2]
theorem ev_both {a b : Ty} {k : Nat} (f : Fit a) (g : Fit b) (hk : 52 ≤ k) : callN T hd.G k "check_both" [enc a, enc b] = some .none := by
  obtain ⟨k, rfl⟩ : ∃ j, k = j + 1 := ⟨k - 1, by omega⟩
  have := g.ok
  rw [r_check_both, ev_check f (by omega), ev_is b k (by omega)]
  simp
section
variable {a b : Ty} {k : Nat} (f : Fit a) (g : Fit b) (hk : 53 ≤ k)
include f g hk
theorem v_prec : callN T hd.G k "precise" [enc a, enc b] = some (.bool (prec a b)) := by
  obtain ⟨k, rfl⟩ : ∃ j, k = j + 1 := ⟨k - 1, by omega⟩
  have := g.ok
  rw [r_precise, ev_both f g (by omega), ev_prec b a k (by omega) f.ok g.ok]; rfl
theorem v_cons : callN T hd.G k "consistent" [enc a, enc b] = some (.bool (cons a b)) := by
  obtain ⟨k, rfl⟩ : ∃ j, k = j + 1 := ⟨k - 1, by omega⟩
  have := g.ok
  rw [r_consistent, ev_both f g (by omega), ev_cons b a k (by omega) f.ok g.ok]; rfl
end
end K06

namespace K06
open PySem L2 EV
/-! ### casts that are safe -/
def sh : Ty → Bool
  | .t0 _ => true
  | .t1 .cell x => decide (x = hole)
  | .t1 .list x => sh x
  | .t2 .fn x y => decide (x = hole) && sh y
  | .t2 .pair x y => sh x && sh y
def safe (a b : Ty) (s : Bool) : Bool :=
  if a = hole then !s || decide (b = hole) else if b = hole then s || sh a else match a, b with
  | .t0 g, .t0 g' => decide (g = g') || !s
  | .t1 .cell x, .t1 .cell y => safe x y s && safe y x !s
  | .t1 .list x, .t1 .list y => safe x y s
  | .t2 .fn x x', .t2 .fn y y' => safe y x (!s) && safe x' y' s
  | .t2 .pair x x', .t2 .pair y y' => safe x y s && safe x' y' s
  | _, _ => !s
termination_by sizeOf a + sizeOf b
def grd : Ty → Ty
  | .t0 g => .t0 g
  | .t1 g _ => .t1 g hole
  | .t2 g _ _ => .t2 g hole hole
theorem safe_hh (b : Ty) (s : Bool) : safe hole b s = (!s || decide (b = hole)) := by unfold safe; simp
theorem safe_h {a : Ty} (h : a ≠ hole) (s : Bool) : safe a hole s = (s || sh a) := by unfold safe; simp [h]
theorem safe_ah (a : Ty) (s : Bool) : safe a hole s = (s || sh a) := by
  by_cases h : a = hole
  · subst h; rw [safe_hh]; simp [sh, hole]
  · exact safe_h h s
theorem safe_grd {a : Ty} (h : a ≠ hole) : safe a (grd a) false = sh a := by
  cases a with
  | t0 g => cases g <;> simp_all [safe, grd, sh, hole]
  | t1 g x => cases g <;> (unfold safe; simp [grd, sh, safe_ah, safe_hh]) <;> (by_cases e : x = hole <;> simp [e, sh])
  | t2 g x y => cases g <;> (unfold safe; simp [grd, sh, safe_ah, safe_hh])
end K06

namespace K06
open PySem L2 EV
@[simp] theorem c0f (g : H0) : (n0 g == ("fun" : Str)) = false := by cases g <;> decide +kernel
@[simp] theorem c0c (g : H0) : (n0 g == ("cell" : Str)) = false := by cases g <;> decide +kernel
@[simp] theorem c1f (g : H1) : (n1 g == ("fun" : Str)) = false := by cases g <;> decide +kernel
@[simp] theorem c1c : (n1 .cell == ("cell" : Str)) = true := by decide +kernel
@[simp] theorem c1l : (n1 .list == ("cell" : Str)) = false := by decide +kernel
@[simp] theorem c2f : (n2 .fn == ("fun" : Str)) = true := by decide +kernel
@[simp] theorem c2p : (n2 .pair == ("fun" : Str)) = false := by decide +kernel
@[simp] theorem c2c (g : H2) : (n2 g == ("cell" : Str)) = false := by cases g <;> decide +kernel
@[simp] theorem not_b (x : Bool) : (truD (.bool x)) = some x := rfl
theorem ev_ground {a : Ty} (h : a ≠ hole) (oa : Ok a) (k : Nat) : callN T hd.G (k + 1) "ground" [enc a] = some (enc (grd a)) := by
  rw [r_ground, hole_enc, eq_enc oa Ok.h, decide_eq_false h]
  cases a <;> simp [hd0, kids, compM, grd] <;> simp [enc]
theorem dp1 (a : Ty) : 1 ≤ a.dp := by cases a <;> simp only [Ty.dp] <;> omega
theorem dp_grd (a : Ty) : (grd a).dp ≤ a.dp := by
  cases a with
  | t0 g => exact Nat.le_refl _
  | t1 g x => have := dp1 x; show 1 + 1 ≤ x.dp + 1; omega
  | t2 g x y => have := dp1 x; show max 1 1 + 1 ≤ max x.dp y.dp + 1; omega
/-- the value of safe_of by what its parts are -/
abbrev E (f : Str) (k : Nat) (a b : Ty) (s : Bool) : Prop := callN T hd.G k f [enc a, enc b, .bool s] = some (.bool (safe a b s))
theorem ev_safe0 (k : Nat) : (∀ a b s, Ok a → Ok b → a ≠ hole → b ≠ hole → 2 * max a.dp b.dp ≤ k → E "safe_of" k a b s) ∧ (∀ a b s, Ok a → Ok b → 2 * max a.dp b.dp + 1 ≤ k → E "safe_of" k a b s) := by
  induction k with
  | zero =>
    exact ⟨fun a b s _ _ _ _ h => by have := dp1 a; omega, fun a b s _ _ h => by omega⟩
  | succ k ih =>
    have nh : ∀ a b s, Ok a → Ok b → a ≠ hole → b ≠ hole → 2 * max a.dp b.dp ≤ k + 1 → E "safe_of" (k + 1) a b s := by
      intro a b s oa ob ha hb hk
      unfold E
      rw [r_safe_of, hole_enc, eq_enc oa Ok.h, eq_enc ob Ok.h, decide_eq_false ha, decide_eq_false hb]
      cases a with
      | t0 g => cases b <;> (unfold safe; simp [hd0, rgs, compM, ha, hb]) <;> (rename_i g'; by_cases e : g = g' <;> simp [e])
      | t1 g x =>
        cases b with
        | t1 g' y =>
          simp only [Ty.dp] at hk
          have e1 := fun s => ih.2 x y s oa.a ob.a (by omega)
          have e2 := fun s => ih.2 y x s ob.a oa.a (by omega)
          unfold E at e1 e2
          cases g <;> cases g' <;> (unfold safe; simp [hd0, rgs, compM, e1, e2]) <;> (cases safe x y s <;> simp)
        | _ => cases g <;> (unfold safe; simp [hd0, rgs, compM, hb])
      | t2 g x x' =>
        cases b with
        | t2 g' y y' =>
          simp only [Ty.dp] at hk
          have e1 := fun s => ih.2 x y s oa.l ob.l (by omega)
          have e2 := fun s => ih.2 y x s ob.l oa.l (by omega)
          have e3 := fun s => ih.2 x' y' s oa.r ob.r (by omega)
          unfold E at e1 e2 e3
          cases g <;> cases g' <;> (unfold safe; simp [hd0, rgs, compM, e1, e2, e3]) <;> (cases safe y x (!s) <;> simp)
        | _ => cases g <;> (unfold safe; simp [hd0, rgs, compM, hb])
    refine ⟨nh, fun a b s oa ob hk => ?_⟩
    by_cases ha : a = hole
    · unfold E
      rw [r_safe_of, hole_enc, eq_enc oa Ok.h, eq_enc ob Ok.h, decide_eq_true ha, ha, safe_hh]
      cases s <;> simp
    · by_cases hb : b = hole
      · subst hb
        obtain ⟨j, rfl⟩ : ∃ j, k = j + 1 := ⟨k - 1, by have := dp1 a; omega⟩
        unfold E
        rw [r_safe_of, hole_enc, eq_enc oa Ok.h, eq_enc ob Ok.h, decide_eq_false ha, decide_eq_true rfl, ev_ground ha oa, safe_h ha]
        have hg : grd a ≠ hole := by cases a <;> simp_all [grd]
        have dg : (grd a).dp ≤ a.dp := dp_grd a
        have := ih.1 a (grd a) false oa (Nat.le_trans dg oa) ha hg (by omega)
        unfold E at this
        rw [safe_grd ha] at this
        cases s <;> simp [this]
      · exact nh a b s oa ob ha hb (by omega)
end K06

namespace K06
open PySem L2 EV
@[simp] theorem tup_l (xs : List D) : bD .tuple [.list xs] = some (.tuple xs) := eq_of_heq (heq_of_eq rfl)
@[simp] theorem addT0 (x : D) : binD .Add (.tuple [x]) (.tuple []) = some (.tuple [x]) := eq_of_heq (heq_of_eq rfl)
@[simp] theorem addT1 (x y : D) : binD .Add (.tuple [x]) (.tuple [y]) = some (.tuple [x, y]) := eq_of_heq (heq_of_eq rfl)
@[simp] theorem addT2 (x y z : D) : binD .Add (.tuple [x]) (.tuple [y, z]) = some (.tuple [x, y, z]) := eq_of_heq (heq_of_eq rfl)
@[simp] theorem addL1 (x y : D) : binD .Add (.list [x]) (.list [y]) = some (.list [x, y]) := eq_of_heq (heq_of_eq rfl)
@[simp] theorem ix30 (x y z : D) : ixD (.tuple [x, y, z]) (.int 0) = some x := eq_of_heq (heq_of_eq rfl)
@[simp] theorem ix31 (x y z : D) : ixD (.tuple [x, y, z]) (.int 1) = some y := eq_of_heq (heq_of_eq rfl)
@[simp] theorem ix32 (x y z : D) : ixD (.tuple [x, y, z]) (.int 2) = some z := eq_of_heq (heq_of_eq rfl)
theorem eq_nil {xs : List D} (h : dles 59 xs = true) : cmpD .Eq (.list xs) (.list []) = some xs.isEmpty := by
  show cond (dle 60 (.list xs) && dle 60 (.list [])) (some (PyData.eqv (.list xs) (.list []))) none = _
  have e : dle 60 (.list xs) = true := h
  rw [e]
  cases xs <;> rfl
@[simp] theorem eq_nil0 : cmpD .Eq (.list []) (.list []) = some true := eq_nil rfl
theorem row_ok {a b : Ty} (s : Bool) (oa : Ok a) (ob : Ok b) : dle 59 (.tuple [enc a, enc b, .bool s]) = true := by
  unfold Ok at oa ob
  simp [dle_enc a 58 (by omega), dle_enc b 58 (by omega)]
theorem eq_nil1 {a b : Ty} (s : Bool) (oa : Ok a) (ob : Ok b) : cmpD .Eq (.list [.tuple [enc a, enc b, .bool s]]) (.list []) = some false := eq_nil (by rw [dles_cons, row_ok s oa ob]; rfl)
theorem eq_nil2 {a b c d : Ty} (s t : Bool) (oa : Ok a) (ob : Ok b) (oc : Ok c) (od : Ok d) : cmpD .Eq (.list [.tuple [enc a, enc b, .bool s], .tuple [enc c, enc d, .bool t]]) (.list []) = some false :=
  eq_nil (by rw [dles_cons, dles_cons, row_ok s oa ob, row_ok t oc od]; rfl)
theorem ev_lsafe0 (k : Nat) : (∀ a b s, Ok a → Ok b → a ≠ hole → b ≠ hole → 2 * max a.dp b.dp ≤ k → E "_law_safe" k a b s) ∧ (∀ a b s, Ok a → Ok b → 2 * max a.dp b.dp + 1 ≤ k → E "_law_safe" k a b s) := by
  induction k with
  | zero =>
    exact ⟨fun a b s _ _ _ _ h => by have := dp1 a; omega, fun a b s _ _ h => by omega⟩
  | succ k ih =>
    have nh : ∀ a b s, Ok a → Ok b → a ≠ hole → b ≠ hole → 2 * max a.dp b.dp ≤ k + 1 → E "_law_safe" (k + 1) a b s := by
      intro a b s oa ob ha hb hk
      unfold E
      rw [r__law_safe, hole_enc, eq_enc oa Ok.h, eq_enc ob Ok.h, decide_eq_false ha, decide_eq_false hb]
      cases a with
      | t0 g => cases b <;> (unfold safe; simp [hd0, rgs, compM, ha, hb]) <;> (rename_i g'; by_cases e : g = g' <;> simp [e])
      | t1 g x =>
        cases b with
        | t1 g' y =>
          simp only [Ty.dp] at hk
          have e1 := fun s => ih.2 x y s oa.a ob.a (by omega)
          have e2 := fun s => ih.2 y x s ob.a oa.a (by omega)
          unfold E at e1 e2
          cases g <;> cases g' <;> (unfold safe; simp [hd0, rgs, compM, e1, e2]) <;> (cases safe x y s <;> cases safe y x (!s) <;> simp [eq_nil1 _ oa.a ob.a, eq_nil1 _ ob.a oa.a, eq_nil2 _ _ oa.a ob.a ob.a oa.a])
        | _ => cases g <;> (unfold safe; simp [hd0, rgs, compM, hb])
      | t2 g x x' =>
        cases b with
        | t2 g' y y' =>
          simp only [Ty.dp] at hk
          have e1 := fun s => ih.2 x y s oa.l ob.l (by omega)
          have e2 := fun s => ih.2 y x s ob.l oa.l (by omega)
          have e3 := fun s => ih.2 x' y' s oa.r ob.r (by omega)
          unfold E at e1 e2 e3
          cases g <;> cases g' <;> (unfold safe; simp [hd0, rgs, compM, e1, e2, e3]) <;> (cases safe y x (!s) <;> cases safe x y s <;> cases safe x' y' s <;> simp [eq_nil1 _ oa.l ob.l, eq_nil1 _ ob.l oa.l, eq_nil1 _ oa.r ob.r, eq_nil2 _ _ oa.l ob.l oa.r ob.r, eq_nil2 _ _ ob.l oa.l oa.r ob.r])
        | _ => cases g <;> (unfold safe; simp [hd0, rgs, compM, hb])
    refine ⟨nh, fun a b s oa ob hk => ?_⟩
    by_cases ha : a = hole
    · unfold E
      rw [r__law_safe, hole_enc, eq_enc oa Ok.h, eq_enc ob Ok.h, decide_eq_true ha, ha, safe_hh]
      cases s <;> simp
    · by_cases hb : b = hole
      · subst hb
        obtain ⟨j, rfl⟩ : ∃ j, k = j + 1 := ⟨k - 1, by have := dp1 a; omega⟩
        unfold E
        rw [r__law_safe, hole_enc, eq_enc oa Ok.h, eq_enc ob Ok.h, decide_eq_false ha, decide_eq_true rfl, safe_h ha]
        have hg : grd a ≠ hole := by cases a <;> simp_all [grd]
        have dg : (grd a).dp ≤ a.dp := dp_grd a
        have := ih.1 a (grd a) false oa (Nat.le_trans dg oa) ha hg (by omega)
        unfold E at this
        rw [safe_grd ha] at this
        have gr : ((((((ixD (enc a) (PyData.int 0)).bind fun x16 => some ([x16])).bind fun ds17 => cond (decide (ds17.length ≤ few)) (some (PyData.tuple ds17)) none).bind fun x18 => (((((slD (enc a) (some 1) none).bind fun x20 => items x20).bind fun xs21 => lim (compM (fun x22 => some (some (enc hole))) xs21)).bind fun x23 => some ([x23])).bind fun ds24 => bD .tuple ds24).bind fun x25 => binD .Add x18 x25))) = some (enc (grd a)) := by
          cases a <;> simp [hd0, kids, compM, grd] <;> simp [enc]
        rw [gr]
        cases s <;> simp [this]
      · exact nh a b s oa ob ha hb (by omega)
end K06

namespace EV
open PySem L2
theorem atI_nat {α : Type} {xs : List α} {i : Int} {x : α} (h0 : 0 ≤ i) (h : xs[i.toNat]? = some x) : L2.atI xs i = some x := by
  have hl := (List.getElem?_eq_some_iff.mp h).1
  unfold L2.atI ixN
  have h1 : i < (xs.length : Int) := by omega
  rw [if_pos h0, if_pos h1]
  exact h
theorem ix_lst {xs : List D} {i : Int} {x : D} (h0 : 0 ≤ i) (h : xs[i.toNat]? = some x) : ixD (.list xs) (.int i) = some x := atI_nat h0 h
theorem forL_inv {g : List Sl → D → Option (List Sl)} {body : List Sl → Option Fl} (I : Nat → List Sl → Prop) : ∀ (xs : List D) (i : Nat) (σ : List Sl), I i σ →
    (∀ j (hj : j < xs.length) σ, I (i + j) σ → ∃ σ1, g σ xs[j] = some σ1 ∧ ∃ σ2, body σ1 = some (.next σ2) ∧ I (i + j + 1) σ2) → ∃ σ', forL g body xs σ = some (.next σ') ∧ I (i + xs.length) σ'
  | [], i, σ, h, _ => ⟨σ, rfl, h⟩
  | x :: r, i, σ, h, st => by
    obtain ⟨σ1, h1, σ2, h2, h3⟩ := st 0 (Nat.succ_pos _) σ h
    obtain ⟨σ', h4, h5⟩ := forL_inv I r (i + 1) σ2 h3 fun j hj σ hI => by
      have := st (j + 1) (Nat.succ_lt_succ hj) σ (by rw [show i + (j + 1) = i + 1 + j by omega]; exact hI)
      rw [show i + (j + 1) + 1 = i + 1 + j + 1 by omega] at this
      exact this
    refine ⟨σ', ?_, by rw [List.length_cons, show i + (r.length + 1) = i + 1 + r.length by omega]; exact h5⟩
    unfold forL
    have h1 : g σ x = some σ1 := h1
    rw [h1, Option.bind_some, h2]
    exact h4
theorem obs1 {α β : Type} (x : α) (f : α → Option β) : (some x).bind f = f x := eq_of_heq (heq_of_eq rfl)
theorem ct {α : Type} (x y : α) : cond true x y = x := eq_of_heq (heq_of_eq rfl)
theorem cf {α : Type} (x y : α) : cond false x y = y := eq_of_heq (heq_of_eq rfl)
@[simp] theorem len_l (xs : List D) : bD .len [.list xs] = some (.int xs.length) := eq_of_heq (heq_of_eq rfl)
@[simp] theorem min_i (i j : Int) : bD .min [.int i, .int j] = some (.int (cond (decide (j < i)) j i)) := eq_of_heq (heq_of_eq rfl)
@[simp] theorem abs_i (i : Int) : bD .abs [.int i] = some (.int (cond (decide (i < 0)) (-i) i)) := eq_of_heq (heq_of_eq rfl)
@[simp] theorem int_i (i : Int) : bD .int [.int i] = some (.int i) := eq_of_heq (heq_of_eq rfl)
@[simp] theorem add_i (i j : Int) : binD .Add (.int i) (.int j) = some (.int (i + j)) := eq_of_heq (heq_of_eq rfl)
@[simp] theorem sub_i (i j : Int) : binD .Sub (.int i) (.int j) = some (.int (i - j)) := eq_of_heq (heq_of_eq rfl)
@[simp] theorem lt_i (i j : Int) : cmpD .Lt (.int i) (.int j) = some (decide (i < j)) := eq_of_heq (heq_of_eq rfl)
@[simp] theorem le_i (i j : Int) : cmpD .LtE (.int i) (.int j) = some (decide (i ≤ j)) := eq_of_heq (heq_of_eq rfl)
@[simp] theorem gt_i (i j : Int) : cmpD .Gt (.int i) (.int j) = some (decide (j < i)) := eq_of_heq (heq_of_eq rfl)
@[simp] theorem ge_i (i j : Int) : cmpD .GtE (.int i) (.int j) = some (decide (j ≤ i)) := eq_of_heq (heq_of_eq rfl)
@[simp] theorem eq_i (i j : Int) : cmpD .Eq (.int i) (.int j) = some (i == j) := eq_of_heq (heq_of_eq rfl)
@[simp] theorem ne_i (i j : Int) : cmpD .NotEq (.int i) (.int j) = some (!(i == j)) := eq_of_heq (heq_of_eq rfl)
theorem mulR (i j : Int) (h : small64 j = true) : binD .Mult (.int i) (.int j) = some (.int (i * j)) := by
  show cond (small64 i || small64 j) _ none = _
  rw [h, Bool.or_true]; rfl
theorem mulL (i j : Int) (h : small64 i = true) : binD .Mult (.int i) (.int j) = some (.int (i * j)) := by
  show cond (small64 i || small64 j) _ none = _
  rw [h, Bool.true_or]; rfl
theorem modP (i j : Int) (h : 0 < j) : binD .Mod (.int i) (.int j) = some (.int (i % j)) := by
  show cond (decide (0 < j)) _ none = _
  rw [decide_eq_true h]; rfl
theorem divP (i j : Int) (h : 0 < j) (h2 : j < 1073741824) : binD .FloorDiv (.int i) (.int j) = some (.int (i / j)) := by
  show cond (decide (0 < j) && decide (j < 1073741824)) _ none = _
  rw [decide_eq_true h, decide_eq_true h2]; rfl
theorem rng1_i (j : Int) (h : small62 j = true) : rng1 (.int j) = some (intRange 0 j.toNat) := by
  show cond (small62 j) _ none = _
  rw [h]; rfl
theorem pow18 : binD .Pow (.int 10) (.int 18) = some (.int 1000000000000000000) := by kernel_rfl
theorem range_at {n : Nat} {lo : Int} {j : Nat} (h : j < (intRange lo n).length) : (intRange lo n)[j] = .int (lo + j) := (intRange_get n lo j _ (List.getElem?_eq_getElem h)).2
end EV
namespace K06
open PySem L2 EV
/-- what the draws are -/
structure Dr (ds : List Int) : Prop where
  pos : ∀ d ∈ ds, 0 ≤ d
  few : ds.length ≤ 3780
theorem Dr.app {ds : List Int} {n : Nat} {d : Int} (h : (∀ d ∈ ds, 0 ≤ d) ∧ ds.length ≤ n) (h0 : 0 ≤ d) : (∀ x ∈ ds ++ [d], 0 ≤ x) ∧ (ds ++ [d]).length ≤ n + 1 := by
  refine ⟨fun x hx => ?_, by rw [List.length_append]; exact Nat.succ_le_succ h.2⟩
  rcases List.mem_append.mp hx with hx | hx
  · exact h.1 x hx
  · rw [List.mem_singleton.mp hx]; exact h0
theorem few_lt {n : Nat} (h : n < 100000) : decide (n < EV.few) = true := decide_eq_true h
theorem draws_in (k : Nat) (w0 : D) (w2 : D) (s5 : Sl) (ds : List Int) (r : Int) (s4 : Sl) (n : Nat) (hr : 0 ≤ r) (h : (∀ d ∈ ds, 0 ≤ d) ∧ ds.length ≤ n) (hn : n ≤ 3780) :
    ∃ σ', forL (fun σ x => asg f__law_draws.N σ (forT (stAt (ifA (stAt (forB (stAt f__law_draws.body 1)) 1)) 0)) x) (fun σ => exs ⟨f__law_draws.N, hd.G, callN T hd.G k⟩ 52 σ (forB (stAt (ifA (stAt (forB (stAt f__law_draws.body 1)) 1)) 0))) (intRange 0 60) [Sl.sh w0, Sl.ow (ds.map .int), Sl.sh w2, Sl.sh (.int r), s4, s5] = some (.next σ') ∧
      ∃ (es : List Int) (r' : Int) (t4 : Sl), σ' = [Sl.sh w0, Sl.ow (es.map .int), Sl.sh w2, Sl.sh (.int r'), t4, s5] ∧ (∀ d ∈ es, 0 ≤ d) ∧ es.length ≤ n + 60 := by
  have := forL_inv (g := fun σ x => asg f__law_draws.N σ (forT (stAt (ifA (stAt (forB (stAt f__law_draws.body 1)) 1)) 0)) x) (body := fun σ => exs ⟨f__law_draws.N, hd.G, callN T hd.G k⟩ 52 σ (forB (stAt (ifA (stAt (forB (stAt f__law_draws.body 1)) 1)) 0)))
    (fun j σ => ∃ (es : List Int) (r' : Int) (t4 : Sl), σ = [Sl.sh w0, Sl.ow (es.map .int), Sl.sh w2, Sl.sh (.int r'), t4, s5] ∧ 0 ≤ r' ∧ (∀ d ∈ es, 0 ≤ d) ∧ es.length ≤ n + j)
    (intRange 0 60) 0 [Sl.sh w0, Sl.ow (ds.map .int), Sl.sh w2, Sl.sh (.int r), s4, s5] ⟨ds, r, s4, rfl, hr, h.1, h.2⟩ ?_
  · obtain ⟨σ', h1, es, r', t4, h2, _, h3, h4⟩ := this
    exact ⟨σ', h1, es, r', t4, h2, h3, by rw [intRange_length] at h4; omega⟩
  · rintro j hj σ ⟨es, r', t4, rfl, h0, h1, h2⟩
    rw [intRange_length] at hj
    refine ⟨_, r__law_draws_1b1t0g _ _ _ _ _ _ _, ?_⟩
    simp only [r__law_draws_1b1t0b]
    by_cases hp : 0 < r'
    · have hl : decide ((es.map PyData.int).length < EV.few) = true := few_lt (by rw [List.length_map]; omega)
      simp only [rd, Sl.val, cond_true, Option.bind_some, gt_i, decide_eq_true hp, int_i, modP _ 65536 (by decide), divP _ 65536 (by decide) (by decide), hl]
      have hm : es.map PyData.int ++ [PyData.int (r' % 65536)] = (es ++ [r' % 65536]).map PyData.int := by rw [List.map_append]; rfl
      rw [hm]
      exact ⟨_, rfl, es ++ [r' % 65536], r' / 65536, _, rfl, Int.ediv_nonneg h0 (by decide), Dr.app ⟨h1, h2⟩ (Int.emod_nonneg _ (by decide))⟩
    · simp only [rd, Sl.val, cond_true, cond_false, Option.bind_some, gt_i, decide_eq_false hp]
      exact ⟨_, rfl, es, r', _, rfl, h0, h1, by omega⟩
theorem ix_ns {ns : List Int} {j : Nat} (h : j < ns.length) : ixD (.list (ns.map .int)) (.int (0 + (j : Int))) = some (.int ns[j]) :=
  ix_lst (by omega) (by
    have e : (0 + (j : Int)).toNat = j := by omega
    rw [e, List.getElem?_map, List.getElem?_eq_getElem h]; rfl)
theorem absC (i : Int) : cond (decide (i < 0)) (-i) i = (i.natAbs : Int) := by
  by_cases h : i < 0
  · rw [decide_eq_true h, cond_true]; omega
  · rw [decide_eq_false h, cond_false]; omega
theorem draws_z (k : Nat) (s0 s1 s2 s3 s4 s5 : Sl) : exsK ⟨f__law_draws.N, hd.G, callN T hd.G k⟩ 53 [s0, s1, s2, s3, s4, s5] ((ifA (stAt (forB (stAt f__law_draws.body 1)) 1)).drop 1) (fun fl16 => match fl16 with | .next σ15 => exsK ⟨f__law_draws.N, hd.G, callN T hd.G k⟩ 55 σ15 ((forB (stAt f__law_draws.body 1)).drop 2) some | fl16 => some fl16) =
    some (Fl.next [s0, s1, s2, s3, s4, s5]) := by kernel_rfl
theorem dr_xs (ns : List Int) : ∃ m : Nat, m ≤ 63 ∧ m ≤ ns.length ∧ (((((bD .len [.list (ns.map .int)]).bind fun x5 => some ([x5])).bind fun ys6 => some ((PyData.int 63) :: ys6)).bind fun ds7 => bD .min ds7).bind fun x8 => rng1 x8) = some (intRange 0 m) := by
  have h62 : ∀ n : Nat, n ≤ 63 → small62 (n : Int) = true := fun n h => by
    unfold small62
    rw [Bool.and_eq_true]
    exact ⟨decide_eq_true (by omega), decide_eq_true (by omega)⟩
  simp only [len_l, List.length_map, Option.bind_some, min_i]
  by_cases h : (ns.length : Int) < 63
  · exact ⟨ns.length, by omega, Nat.le_refl _, by rw [decide_eq_true h, cond_true, rng1_i _ (h62 _ (by omega))]; rfl⟩
  · exact ⟨63, Nat.le_refl _, by omega, by rw [decide_eq_false h, cond_false]; kernel_rfl⟩
def cD (k : Nat) : Cfg := ⟨f__law_draws.N, hd.G, callN T hd.G k⟩
def tD1 : Expr := forT (stAt f__law_draws.body 1)
def bD1 : List Stmt := forB (stAt f__law_draws.body 1)
def tD2 : Expr := forT (stAt (ifA (stAt (forB (stAt f__law_draws.body 1)) 1)) 0)
def bD2 : List Stmt := forB (stAt (ifA (stAt (forB (stAt f__law_draws.body 1)) 1)) 0)
/-- one number of the script, greater -/
theorem dr_big (k : Nat) (ns : List Int) (j n : Nat) (hj : j < ns.length) (es : List Int) (s3 s4 s5 : Sl) (h : (∀ d ∈ es, 0 ≤ d) ∧ es.length ≤ n) (hn : n ≤ 3720) :
    ∃ σ', exs ⟨f__law_draws.N, hd.G, callN T hd.G k⟩ 57 [Sl.sh (.list (ns.map .int)), Sl.ow (es.map .int), Sl.sh (.int (0 + (j : Int))), s3, s4, s5] (forB (stAt f__law_draws.body 1)) = some (.next σ') ∧
      ∃ (fs : List Int) (t3 t4 t5 : Sl), σ' = [Sl.sh (.list (ns.map .int)), Sl.ow (fs.map .int), Sl.sh (.int (0 + (j : Int))), t3, t4, t5] ∧ (∀ d ∈ fs, 0 ≤ d) ∧ fs.length ≤ n + 60 := by
  have e1 : (((ixD (.list (ns.map .int)) (.int (0 + (j : Int)))).bind fun x12 => some ([x12])).bind fun ds13 => bD .abs ds13) = some (.int (ns[j].natAbs : Int)) := by
    rw [ix_ns hj, obs1, obs1, abs_i, absC]
  rw [r__law_draws_1b, e1, obs1, pow18, obs1, ge_i, obs1]
  by_cases hp : (1000000000000000000 : Int) ≤ (ns[j].natAbs : Int)
  · have e60 : rng1 (PyData.int 60) = some (intRange 0 60) := by kernel_rfl
    obtain ⟨σ', q1, fs, r', t4, rfl, q2, q3⟩ := draws_in k (.list (ns.map .int)) (.int (0 + (j : Int))) s5 es (ns[j].natAbs : Int) s4 n (by omega) h (by omega)
    rw [decide_eq_true hp, ct, e60, obs1, q1, obs1]
    refine ⟨_, draws_z _ _ _ _ _ _ _, fs, _, _, _, rfl, q2, q3⟩
  · rw [decide_eq_false hp, cf]
    have l1 : decide ((es.map PyData.int).length < EV.few) = true := few_lt (by rw [List.length_map]; omega)
    have l2 : ∀ x : D, decide ((es.map PyData.int ++ [x]).length < EV.few) = true := fun x => few_lt (by rw [List.length_append, List.length_map, List.length_singleton]; omega)
    have hm : ∀ x y : Int, (es.map PyData.int ++ [PyData.int x]) ++ [PyData.int y] = (es ++ [x] ++ [y]).map PyData.int := fun x y => by simp
    have app2 : ∀ x y : Int, (∀ d ∈ es ++ [x % 65536] ++ [y % 32768], 0 ≤ d) ∧ (es ++ [x % 65536] ++ [y % 32768]).length ≤ n + 1 + 1 := fun x y =>
      Dr.app (Dr.app h (Int.emod_nonneg x (by omega))) (Int.emod_nonneg y (by omega))
    simp only [mulR _ 48271 rfl, mulR _ 69621 rfl, mulR _ 16807 rfl, mulL 11 _ rfl, add_i, obs1, int_i, modP _ 2147483647 (by decide), modP _ 2147483629 (by decide), modP _ 65536 (by decide), modP _ 32768 (by decide),
      divP _ 65536 (by decide) (by decide), l1, l2, ct, hm]
    exact ⟨_, rfl, _, _, _, _, rfl, (app2 _ _).1, Nat.le_trans (app2 _ _).2 (by omega)⟩
theorem ev_draws (ns : List Int) (k : Nat) : ∃ ds, callN T hd.G (k + 1) "_law_draws" [.list (ns.map .int)] = some (.list (ds.map .int)) ∧ Dr ds := by
  obtain ⟨m, hm1, hm2, hm⟩ := dr_xs ns
  rw [r__law_draws, hm, obs1]
  have := forL_inv (g := fun σ x => asg f__law_draws.N σ (forT (stAt f__law_draws.body 1)) x) (body := fun σ => exs ⟨f__law_draws.N, hd.G, callN T hd.G k⟩ 57 σ (forB (stAt f__law_draws.body 1)))
    (fun j σ => ∃ (es : List Int) (s2 s3 s4 s5 : Sl), σ = [Sl.sh (.list (ns.map .int)), Sl.ow (es.map .int), s2, s3, s4, s5] ∧ (∀ d ∈ es, 0 ≤ d) ∧ es.length ≤ 60 * j)
    (intRange 0 m) 0 [Sl.sh (.list (ns.map .int)), Sl.ow [], Sl.un, Sl.un, Sl.un, Sl.un] ⟨[], _, _, _, _, rfl, nofun, Nat.le_refl _⟩ ?_
  · obtain ⟨σ', h1, es, s2, s3, s4, s5, rfl, h3, h4⟩ := this
    rw [intRange_length] at h4
    refine ⟨es, ?_, h3, by omega⟩
    rw [h1, obs1]
    exact r__law_draws_1a k _ _ _ _ _ _
  · rintro j hj σ ⟨es, s2, s3, s4, s5, rfl, h1, h2⟩
    have hx := range_at hj
    rw [intRange_length] at hj
    refine ⟨_, r__law_draws_1g _ _ _ _ _ _ _, ?_⟩
    rw [hx]
    obtain ⟨σ', q1, fs, t3, t4, t5, rfl, q2, q3⟩ := dr_big k ns j (60 * (0 + j)) (by omega) es s3 s4 s5 ⟨h1, h2⟩ (by omega)
    exact ⟨_, q1, fs, _, _, _, _, rfl, q2, by omega⟩
/-- a number of the draws -/
theorem ev_mix {ds : List Int} (h : Dr ds) (k : Nat) (i m : Int) (hi : 0 ≤ i) (hm : 0 < m) : ∃ r, callN T hd.G (k + 1) "_law_mix" [.list (ds.map .int), .int i, .int m] = some (.int r) ∧ 0 ≤ r ∧ r < m := by
  rw [r__law_mix]
  have fin : ∀ x : Int, ∃ r : Int, some (PyData.int (x % m)) = some (PyData.int r) ∧ 0 ≤ r ∧ r < m := fun x => ⟨_, rfl, Int.emod_nonneg _ (by omega), Int.emod_lt_of_pos _ hm⟩
  simp only [len_l, List.length_map, Option.bind_some, gt_i, lt_i, int_i]
  by_cases hl : (0 : Int) < (ds.length : Int)
  · have q0 : 0 ≤ i % (ds.length : Int) := Int.emod_nonneg _ (by omega)
    have q1 : i % (ds.length : Int) < (ds.length : Int) := Int.emod_lt_of_pos _ hl
    have ix : ixD (.list (ds.map .int)) (.int (i % (ds.length : Int))) = some (.int (ds[(i % (ds.length : Int)).toNat]'(by omega))) :=
      ix_lst q0 (by rw [List.getElem?_map, List.getElem?_eq_getElem (by omega)]; rfl)
    simp only [decide_eq_true hl, cond_true, modP _ _ hl, Option.bind_some, ix]
    by_cases hk : i < (ds.length : Int)
    · simp only [decide_eq_true hk, cond_true, int_i, Option.bind_some, modP _ _ hm]
      exact fin _
    · simp only [decide_eq_false hk, cond_false, mulR _ 7919 rfl, mulR _ 104729 rfl, add_i, int_i, Option.bind_some, divP _ 3 (by decide) (by decide), modP _ _ hm]
      exact fin _
  · simp only [decide_eq_false hl, cond_false]
    by_cases hk : i < (ds.length : Int)
    · simp only [decide_eq_true hk, cond_true, int_i, Option.bind_some, modP _ _ hm]
      exact fin _
    · simp only [decide_eq_false hk, cond_false, mulR _ 7919 rfl, mulR _ 104729 rfl, add_i, int_i, Option.bind_some, divP _ 3 (by decide) (by decide), modP _ _ hm]
      exact fin _
end K06

namespace K06
open PySem L2 EV
def Ty.full : Ty → Bool
  | .t0 h => !decide (h = .hole)
  | .t1 _ a => a.full
  | .t2 _ a b => a.full && b.full
theorem few10 : decide (3 ≤ EV.few) = true := by decide
abbrev KL4 : D := (PyData.list [(PyData.tuple [(PyData.str "int")]), (PyData.tuple [(PyData.str "int")]), (PyData.tuple [(PyData.str "bool")]), (PyData.tuple [(PyData.str "unit")])])
theorem kl0 : ixD KL4 (.int 0) = some (enc (.t0 .int)) := by kernel_rfl
theorem kl1 : ixD KL4 (.int 1) = some (enc (.t0 .int)) := by kernel_rfl
theorem kl2 : ixD KL4 (.int 2) = some (enc (.t0 .bool)) := by kernel_rfl
theorem kl3 : ixD KL4 (.int 3) = some (enc (.t0 .unit)) := by kernel_rfl
theorem mix_kind {ds : List Int} (h : Dr ds) (k d : Nat) (i : Int) (hi : 0 ≤ i) : ∃ r, (((((((((cmpD .Gt (.int d) (PyData.int 0)).map PyData.bool).bind fun x3 => some ([x3])).bind fun ds4 => bD .int ds4).bind fun x5 => ixD (PyData.list [(PyData.int 4), (PyData.int 10)]) x5).bind fun x6 => some ([x6])).bind fun ys7 => some (.int i :: ys7)).bind fun ys8 => some (.list (ds.map .int) :: ys8)).bind fun ds9 => callN T hd.G (k + 1) "_law_mix" ds9) = some (.int r) ∧ 0 ≤ r ∧ r < 10 ∧ (d = 0 → r < 4) := by
  cases d with
  | zero =>
    obtain ⟨r, h1, h2, h3⟩ := ev_mix h k i 4 hi (by decide)
    refine ⟨r, ?_, h2, by omega, fun _ => h3⟩
    rw [← h1]; kernel_rfl
  | succ d =>
    obtain ⟨r, h1, h2, h3⟩ := ev_mix h k i 10 hi (by decide)
    refine ⟨r, ?_, h2, h3, fun z => by cases z⟩
    have hp : (0 : Int) < ((d + 1 : Nat) : Int) := by omega
    rw [gt_i, decide_eq_true hp, ← h1]; kernel_rfl
theorem ev_kind {ds : List Int} (h : Dr ds) : ∀ (d k : Nat) (i : Int), 0 ≤ i → d + 2 ≤ k → ∃ t, callN T hd.G k "_law_kind" [.list (ds.map .int), .int i, .int (d : Nat)] = some (enc t) ∧ t.dp ≤ d + 1 ∧ t.sz + 1 ≤ 2 ^ (d + 1) ∧ t.full = true
  | d, 0, i, hi, hk => by omega
  | d, 1, i, hi, hk => by omega
  | d, k + 2, i, hi, hk => by
    obtain ⟨r, e, r0, r1, rd⟩ := mix_kind h k d i hi
    rw [r__law_kind, e, obs1, lt_i, obs1]
    have leaf : ∀ g : H0, g ≠ .hole → (Ty.t0 g).dp ≤ d + 1 ∧ (Ty.t0 g).sz + 1 ≤ 2 ^ (d + 1) ∧ (Ty.t0 g).full = true := fun g hg => by
      have : 2 ^ 1 ≤ 2 ^ (d + 1) := Nat.pow_le_pow_right (by decide) (by omega)
      refine ⟨by simp only [Ty.dp]; omega, by simp only [Ty.sz]; omega, by simp [Ty.full, hg]⟩
    by_cases h4 : r < 4
    · rw [decide_eq_true h4, ct]
      have : r = 0 ∨ r = 1 ∨ r = 2 ∨ r = 3 := by omega
      rcases this with rfl | rfl | rfl | rfl
      · exact ⟨.t0 .int, by rw [kl0]; rfl, leaf _ (by decide)⟩
      · exact ⟨.t0 .int, by rw [kl1]; rfl, leaf _ (by decide)⟩
      · exact ⟨.t0 .bool, by rw [kl2]; rfl, leaf _ (by decide)⟩
      · exact ⟨.t0 .unit, by rw [kl3]; rfl, leaf _ (by decide)⟩
    · rw [decide_eq_false h4, cf]
      cases d with
      | zero => exact absurd (rd rfl) h4
      | succ d =>
        obtain ⟨a, ea, a1, a2, a3⟩ := ev_kind h d (k + 1) (3 * i + 1) (by omega) (by omega)
        obtain ⟨b, eb, b1, b2, b3⟩ := ev_kind h d (k + 1) (3 * i + 2) (by omega) (by omega)
        have hd' : ((d + 1 : Nat) : Int) - 1 = (d : Nat) := by omega
        have two : 2 ^ (d + 1 + 1) = 2 ^ (d + 1) + 2 ^ (d + 1) := by rw [Nat.pow_succ]; omega
        simp only [mulL 3 _ rfl, add_i, sub_i, obs1, hd', ea, lt_i]
        by_cases h6 : r < 6
        · refine ⟨.t2 .fn a b, ?_, ?_, ?_, ?_⟩
          · simp only [decide_eq_true h6, ct, eb, obs1]; kernel_rfl
          · simp only [Ty.dp]; omega
          · simp only [Ty.sz]; omega
          · simp [Ty.full, a3, b3]
        · by_cases h8 : r < 8
          · refine ⟨.t2 .pair a b, ?_, ?_, ?_, ?_⟩
            · simp only [decide_eq_false h6, cf, decide_eq_true h8, ct, eb, obs1]; kernel_rfl
            · simp only [Ty.dp]; omega
            · simp only [Ty.sz]; omega
            · simp [Ty.full, a3, b3]
          · have : r = 8 ∨ r = 9 := by omega
            rcases this with rfl | rfl
            · refine ⟨.t1 .cell a, ?_, ?_, ?_, ?_⟩
              · kernel_rfl
              · simp only [Ty.dp]; omega
              · simp only [Ty.sz]; omega
              · simp [Ty.full, a3]
            · refine ⟨.t1 .list a, ?_, ?_, ?_, ?_⟩
              · kernel_rfl
              · simp only [Ty.dp]; omega
              · simp only [Ty.sz]; omega
              · simp [Ty.full, a3]
theorem ev_blur {ds : List Int} (h : Dr ds) (m : Int) (hm : 0 < m) : ∀ (t : Ty) (k : Nat) (i : Int), 0 ≤ i → t.dp + 1 ≤ k → ∃ u, callN T hd.G k "_law_blur" [.list (ds.map .int), .int i, enc t, .int m] = some (enc u) ∧ prec t u = true ∧ u.dp ≤ t.dp ∧ u.sz ≤ t.sz
  | t, 0, i, hi, hk => by omega
  | .t0 g, 1, i, hi, hk => by simp only [Ty.dp] at hk; omega
  | .t1 g a, 1, i, hi, hk => by simp only [Ty.dp] at hk; omega
  | .t2 g a b, 1, i, hi, hk => by simp only [Ty.dp] at hk; omega
  | t, k + 2, i, hi, hk => by
    obtain ⟨r, e, r0, r1⟩ := ev_mix h k i m hi hm
    rw [r__law_blur, gt_i, obs1, decide_eq_true hm, ct, e, obs1, eq_i, obs1]
    cases hr : (r == 0) with
    | true =>
      rw [ct]
      refine ⟨hole, rfl, ?_, ?_, ?_⟩
      · cases t <;> simp [prec, hole]
      · cases t <;> simp only [hole, Ty.dp] <;> omega
      · cases t <;> simp only [hole, Ty.sz] <;> omega
    | false =>
      rw [cf]
      match t, hk with
      | .t0 g, hk =>
        refine ⟨.t0 g, by simp [hd0, rgs, compM]; simp [enc], ?_, Nat.le_refl _, Nat.le_refl _⟩
        cases g <;> simp [prec]
      | .t1 g a, hk =>
        simp only [Ty.dp] at hk
        obtain ⟨u, eu, p, u1, u2⟩ := ev_blur h m hm a (k + 1) (3 * i + 1) (by omega) (by omega)
        refine ⟨.t1 g u, ?_, by simp [prec, p], by simp only [Ty.dp]; omega, by simp only [Ty.sz]; omega⟩
        simp [hd0, rgs, compM, mulL 3 _ rfl, eu]
        simp [enc]
      | .t2 g a b, hk =>
        simp only [Ty.dp] at hk
        obtain ⟨u, eu, p, u1, u2⟩ := ev_blur h m hm a (k + 1) (3 * i + 1) (by omega) (by omega)
        obtain ⟨v, ev, q, v1, v2⟩ := ev_blur h m hm b (k + 1) (3 * i + 2) (by omega) (by omega)
        refine ⟨.t2 g u v, ?_, by simp [prec, p, q], by simp only [Ty.dp]; omega, by simp only [Ty.sz]; omega⟩
        simp [hd0, rgs, compM, mulL 3 _ rfl, eu, ev]
        simp [enc]
end K06

namespace K06
open PySem L2 EV
theorem safe_0 (g g' : H0) (s : Bool) (h : g ≠ .hole) (h' : g' ≠ .hole) : safe (.t0 g) (.t0 g') s = (decide (g = g') || !s) := by unfold safe; simp [h, h']
theorem safe_c (x y : Ty) (s : Bool) : safe (.t1 .cell x) (.t1 .cell y) s = (safe x y s && safe y x !s) := by rw [safe]; simp
theorem safe_l (x y : Ty) (s : Bool) : safe (.t1 .list x) (.t1 .list y) s = safe x y s := by rw [safe]; simp
theorem safe_f (x x' y y' : Ty) (s : Bool) : safe (.t2 .fn x x') (.t2 .fn y y') s = (safe y x (!s) && safe x' y' s) := by rw [safe]; simp
theorem safe_p (x x' y y' : Ty) (s : Bool) : safe (.t2 .pair x x') (.t2 .pair y y') s = (safe x y s && safe x' y' s) := by rw [safe]; simp
/-- precision by casts -/
theorem prec_safe : ∀ a b : Ty, prec a b = (safe a b true && safe b a false)
  | a, .t0 .hole => by
    have h1 : safe a hole true = true := by rw [safe_ah]; rfl
    have h2 : safe hole a false = true := by rw [safe_hh]; rfl
    rw [show (Ty.t0 .hole) = hole from rfl, h1, h2]
    cases a <;> simp [prec, hole]
  | .t0 .hole, b@(.t0 .int) | .t0 .hole, b@(.t0 .bool) | .t0 .hole, b@(.t0 .unit) | .t0 .hole, b@(.t1 _ _) | .t0 .hole, b@(.t2 _ _ _) => by
    rw [show (Ty.t0 .hole) = hole from rfl, safe_hh]
    simp [prec, hole]
  | .t0 .int, .t0 .int | .t0 .int, .t0 .bool | .t0 .int, .t0 .unit | .t0 .bool, .t0 .int | .t0 .bool, .t0 .bool | .t0 .bool, .t0 .unit | .t0 .unit, .t0 .int | .t0 .unit, .t0 .bool | .t0 .unit, .t0 .unit => by
    simp [prec, safe]
  | .t0 .int, .t1 _ _ | .t0 .bool, .t1 _ _ | .t0 .unit, .t1 _ _ | .t0 .int, .t2 _ _ _ | .t0 .bool, .t2 _ _ _ | .t0 .unit, .t2 _ _ _ => by simp [prec, safe]
  | .t1 g x, .t0 .int | .t1 g x, .t0 .bool | .t1 g x, .t0 .unit => by cases g <;> simp [prec, safe]
  | .t2 g x y, .t0 .int | .t2 g x y, .t0 .bool | .t2 g x y, .t0 .unit => by cases g <;> simp [prec, safe]
  | .t1 g x, .t2 h y z => by cases g <;> cases h <;> simp [prec, safe]
  | .t2 g x y, .t1 h z => by cases g <;> cases h <;> simp [prec, safe]
  | .t1 .cell x, .t1 .list y => by simp [prec, safe]
  | .t1 .list x, .t1 .cell y => by simp [prec, safe]
  | .t2 .fn x x', .t2 .pair y y' => by simp [prec, safe]
  | .t2 .pair x x', .t2 .fn y y' => by simp [prec, safe]
  | .t1 .cell x, .t1 .cell y => by
    rw [safe_c, safe_c]
    simp [prec, prec_safe x y]
    cases safe x y true <;> cases safe y x false <;> simp
  | .t1 .list x, .t1 .list y => by
    rw [safe_l, safe_l]
    simp [prec, prec_safe x y]
  | .t2 .fn x x', .t2 .fn y y' => by
    rw [safe_f, safe_f]
    simp [prec, prec_safe x y, prec_safe x' y']
    cases safe x y true <;> cases safe y x false <;> cases safe x' y' true <;> cases safe y' x' false <;> simp
  | .t2 .pair x x', .t2 .pair y y' => by
    rw [safe_p, safe_p]
    simp [prec, prec_safe x y, prec_safe x' y']
    cases safe x y true <;> cases safe y x false <;> cases safe x' y' true <;> cases safe y' x' false <;> simp
theorem cons_hl (b : Ty) : cons hole b = true := by unfold cons; simp
theorem cons_hr (b : Ty) : cons b hole = true := by unfold cons; simp
theorem cons_comm : ∀ a b : Ty, cons a b = cons b a
  | .t0 g, .t0 h => by unfold cons; cases g <;> cases h <;> simp
  | .t0 g, .t1 h y => by unfold cons; cases g <;> simp
  | .t0 g, .t2 h y y' => by unfold cons; cases g <;> simp
  | .t1 g x, .t0 h => by unfold cons; cases h <;> simp
  | .t1 g x, .t1 h y => by rw [cons, cons]; simp [cons_comm x y, eq_comm]
  | .t1 g x, .t2 h y y' => by unfold cons; simp
  | .t2 g x x', .t0 h => by unfold cons; cases h <;> simp
  | .t2 g x x', .t1 h y => by unfold cons; simp
  | .t2 g x x', .t2 h y y' => by rw [cons, cons]; simp [cons_comm x y, cons_comm x' y', eq_comm]
theorem cons_1 {g h : H1} {x y : Ty} (c : cons (.t1 g x) (.t1 h y) = true) : g = h ∧ cons x y = true := by
  rw [cons] at c; simpa using c
theorem cons_2 {g h : H2} {x x' y y' : Ty} (c : cons (.t2 g x x') (.t2 h y y') = true) : g = h ∧ cons x y = true ∧ cons x' y' = true := by
  rw [cons] at c; simpa using c
/-! ### coercions -/
inductive Co where
  | any | idn (h : H0) | to (c : Co) (h : Str) | fro (h : Str) (l : Bool) (c : Co) | c1 (c : Co) | c2 (h : H2) (c d : Co) | ce (c d : Co)
def lab (l : Bool) : D := .tuple [.int 3, .bool l]
def encC : Co → D
  | .any => .tuple [.str "id?"]
  | .idn h => .tuple [.str "id", .str (n0 h)]
  | .to c h => .tuple [.str "to", encC c, .str h]
  | .fro h l c => .tuple [.str "from", .str h, lab l, encC c]
  | .c1 c => .tuple [.str "list", encC c]
  | .c2 h c d => .tuple [.str (n2 h), encC c, encC d]
  | .ce c d => .tuple [.str "cell", encC c, encC d]
def sides : Co → List Bool
  | .any => []
  | .idn _ => []
  | .to c _ => sides c
  | .fro _ l c => l :: sides c
  | .c1 c => sides c
  | .c2 _ c d => sides c ++ sides d
  | .ce c d => sides c ++ sides d
mutual
def up : Ty → Bool → Co
  | .t0 .hole, _ => .any
  | .t0 h, _ => .to (.idn h) (n0 h)
  | .t1 .cell x, l => .to (.ce (up x l) (dn x !l)) "cell"
  | .t1 .list x, l => .to (.c1 (up x l)) "list"
  | .t2 .fn x y, l => .to (.c2 .fn (dn x !l) (up y l)) "fun"
  | .t2 .pair x y, l => .to (.c2 .pair (up x l) (up y l)) "pair"
def dn : Ty → Bool → Co
  | .t0 .hole, _ => .any
  | .t0 h, l => .fro (n0 h) l (.idn h)
  | .t1 .cell x, l => .fro "cell" l (.ce (dn x l) (up x !l))
  | .t1 .list x, l => .fro "list" l (.c1 (dn x l))
  | .t2 .fn x y, l => .fro "fun" l (.c2 .fn (up x !l) (dn y l))
  | .t2 .pair x y, l => .fro "pair" l (.c2 .pair (dn x l) (dn y l))
end
def mk (a b : Ty) (l : Bool) : Co :=
  if a = hole then dn b l else if b = hole then up a l else match a, b with
  | .t0 g, _ => .idn g
  | .t1 .cell x, .t1 _ y => .ce (mk x y l) (mk y x !l)
  | .t1 .list x, .t1 _ y => .c1 (mk x y l)
  | .t2 .fn x x', .t2 _ y y' => .c2 .fn (mk y x !l) (mk x' y' l)
  | .t2 .pair x x', .t2 _ y y' => .c2 .pair (mk x y l) (mk x' y' l)
  | _, _ => .any
termination_by sizeOf a + sizeOf b
theorem mk_hl (b : Ty) (l : Bool) : mk hole b l = dn b l := by unfold mk; simp
theorem mk_hr (a : Ty) (l : Bool) : mk a hole l = up a l := by
  by_cases h : a = hole
  · subst h; rw [mk_hl]; simp [hole, up, dn]
  · unfold mk; simp [h]
theorem mk_c (x y : Ty) (l : Bool) : mk (.t1 .cell x) (.t1 .cell y) l = .ce (mk x y l) (mk y x !l) := by rw [mk]; simp
theorem mk_l (x y : Ty) (l : Bool) : mk (.t1 .list x) (.t1 .list y) l = .c1 (mk x y l) := by rw [mk]; simp
theorem mk_f (x x' y y' : Ty) (l : Bool) : mk (.t2 .fn x x') (.t2 .fn y y') l = .c2 .fn (mk y x !l) (mk x' y' l) := by rw [mk]; simp
theorem mk_p (x x' y y' : Ty) (l : Bool) : mk (.t2 .pair x x') (.t2 .pair y y') l = .c2 .pair (mk x y l) (mk x' y' l) := by rw [mk]; simp
mutual
theorem sd_up : ∀ (a : Ty) (l : Bool), (l ∉ sides (up a l)) ∧ ((!l) ∈ sides (up a l) ↔ sh a = false)
  | .t0 g, l => by cases g <;> simp [up, sides, sh]
  | .t1 .cell x, l => by
    obtain ⟨h1, h2⟩ := sd_up x l
    obtain ⟨h3, h4⟩ := sd_dn x (!l)
    rw [Bool.not_not] at h3
    simp only [up, sides, List.mem_append, sh, decide_eq_false_iff_not]
    refine ⟨fun z => z.elim h1 h3, ?_⟩
    rw [h2, h4]
    by_cases e : x = hole
    · subst e; simp [sh, hole]
    · simp [e]
  | .t1 .list x, l => by
    obtain ⟨h1, h2⟩ := sd_up x l
    simp only [up, sides, sh]
    exact ⟨h1, h2⟩
  | .t2 .fn x y, l => by
    obtain ⟨h1, h2⟩ := sd_up y l
    obtain ⟨h3, h4⟩ := sd_dn x (!l)
    rw [Bool.not_not] at h3
    simp only [up, sides, List.mem_append, sh]
    refine ⟨fun z => z.elim h3 h1, ?_⟩
    rw [h2, h4, Bool.and_eq_false_iff, decide_eq_false_iff_not]
  | .t2 .pair x y, l => by
    obtain ⟨h1, h2⟩ := sd_up x l
    obtain ⟨h3, h4⟩ := sd_up y l
    simp only [up, sides, List.mem_append, sh]
    refine ⟨fun z => z.elim h1 h3, ?_⟩
    rw [h2, h4, Bool.and_eq_false_iff]
theorem sd_dn : ∀ (a : Ty) (l : Bool), ((!l) ∉ sides (dn a l)) ∧ (l ∈ sides (dn a l) ↔ a ≠ hole)
  | .t0 g, l => by cases g <;> simp [dn, sides]
  | .t1 .cell x, l => by
    obtain ⟨h1, h2⟩ := sd_dn x l
    obtain ⟨h3, h4⟩ := sd_up x (!l)
    simp only [dn, sides, List.mem_append, List.mem_cons]
    refine ⟨fun z => ?_, by simp⟩
    rcases z with z | z | z
    · cases l <;> cases z
    · exact h1 z
    · exact h3 z
  | .t1 .list x, l => by
    obtain ⟨h1, h2⟩ := sd_dn x l
    simp only [dn, sides, List.mem_cons]
    refine ⟨fun z => ?_, by simp⟩
    rcases z with z | z
    · cases l <;> cases z
    · exact h1 z
  | .t2 .fn x y, l => by
    obtain ⟨h1, h2⟩ := sd_dn y l
    obtain ⟨h3, h4⟩ := sd_up x (!l)
    simp only [dn, sides, List.mem_append, List.mem_cons]
    refine ⟨fun z => ?_, by simp⟩
    rcases z with z | z | z
    · cases l <;> cases z
    · exact h3 z
    · exact h1 z
  | .t2 .pair x y, l => by
    obtain ⟨h1, h2⟩ := sd_dn x l
    obtain ⟨h3, h4⟩ := sd_dn y l
    simp only [dn, sides, List.mem_append, List.mem_cons]
    refine ⟨fun z => ?_, by simp⟩
    rcases z with z | z | z
    · cases l <;> cases z
    · exact h1 z
    · exact h3 z
end
/-- a side stands in the coercion exactly if the cast is not safe for it -/
theorem sd_mk : ∀ (a b : Ty) (l s : Bool), cons a b = true → (s ∈ sides (mk a b l) ↔ safe a b (s == l) = false)
  | a, b, l, s, c => by
    by_cases ha : a = hole
    · subst ha
      obtain ⟨h1, h2⟩ := sd_dn b l
      rw [mk_hl, safe_hh]
      by_cases e : s = l
      · subst e; rw [h2]; simp
      · have : s = !l := by cases s <;> cases l <;> simp_all
        subst this
        simp [h1]
    · by_cases hb : b = hole
      · subst hb
        obtain ⟨h1, h2⟩ := sd_up a l
        rw [mk_hr, safe_ah]
        by_cases e : s = l
        · subst e; simp [h1]
        · have : s = !l := by cases s <;> cases l <;> simp_all
          subst this
          rw [h2]
          cases l <;> simp
      · match a, b, c, ha, hb with
        | .t0 g, .t0 h, c, ha, hb =>
          unfold cons at c
          simp [ha, hb] at c
          subst c
          rw [mk, safe]
          simp [ha, hb, sides]
        | .t1 g x, .t1 h y, c, ha, hb =>
          obtain ⟨rfl, c1⟩ := cons_1 c
          have i1 := sd_mk x y l s c1
          have i2 := sd_mk y x (!l) s (by rw [cons_comm]; exact c1)
          have e : (s == !l) = !(s == l) := by cases s <;> cases l <;> rfl
          rw [e] at i2
          cases g
          · rw [mk_c, safe_c]
            simp only [sides, List.mem_append, i1, i2]
            generalize safe x y (s == l) = p
            generalize safe y x (!(s == l)) = q
            cases p <;> cases q <;> simp
          · rw [mk_l, safe_l]
            simp [sides, i1]
        | .t2 g x x', .t2 h y y', c, ha, hb =>
          obtain ⟨rfl, c1, c2⟩ := cons_2 c
          have i1 := sd_mk x y l s c1
          have i2 := sd_mk y x (!l) s (by rw [cons_comm]; exact c1)
          have i3 := sd_mk x' y' l s c2
          have e : (s == !l) = !(s == l) := by cases s <;> cases l <;> rfl
          rw [e] at i2
          cases g
          · rw [mk_f, safe_f]
            simp only [sides, List.mem_append, i3, i2]
            generalize safe x' y' (s == l) = p
            generalize safe y x (!(s == l)) = q
            cases p <;> cases q <;> simp
          · rw [mk_p, safe_p]
            simp only [sides, List.mem_append, i1, i3]
            generalize safe x y (s == l) = p
            generalize safe x' y' (s == l) = q
            cases p <;> cases q <;> simp
        | .t0 g, .t1 h y, c, ha, hb => unfold cons at c; simp [ha] at c
        | .t0 g, .t2 h y y', c, ha, hb => unfold cons at c; simp [ha] at c
        | .t1 g x, .t0 h, c, ha, hb => unfold cons at c; simp [hb] at c
        | .t1 g x, .t2 h y y', c, ha, hb => unfold cons at c; simp at c
        | .t2 g x x', .t0 h, c, ha, hb => unfold cons at c; simp [hb] at c
        | .t2 g x x', .t1 h y, c, ha, hb => unfold cons at c; simp at c
termination_by a b => sizeOf a + sizeOf b
end K06

namespace K06
open PySem L2 EV
@[simp] theorem few4 : decide (4 ≤ EV.few) = true := by decide
theorem ev_turned (k : Nat) (l : Bool) : callN T hd.G (k + 1) "turned" [lab l] = some (lab !l) := by cases l <;> kernel_rfl
theorem in_b0 (g : H0) (h : g ≠ .hole) : cmpD .In (.str (n0 g)) (.tuple [.str "int", .str "bool", .str "unit"]) = some true := by cases g <;> first | exact absurd rfl h | kernel_rfl
theorem in_b1 (g : H1) : cmpD .In (.str (n1 g)) (.tuple [.str "int", .str "bool", .str "unit"]) = some false := by cases g <;> kernel_rfl
theorem in_b2 (g : H2) : cmpD .In (.str (n2 g)) (.tuple [.str "int", .str "bool", .str "unit"]) = some false := by cases g <;> kernel_rfl
theorem asg_st (z0 z1 z2 z3 z4 z5 z6 : Sl) (u v : D) : asg f_structural.N [z0, z1, z2, z3, z4, z5, z6] (nmT ["a", "b"]) (.tuple [u, v]) = some [z0, z1, z2, z3, z4, .sh u, .sh v] := by kernel_rfl
abbrev M (k : Nat) (a b : Ty) (l : Bool) (c : D) : Prop := callN T hd.G k "made" [enc a, enc b, lab l] = some c
abbrev SX (k : Nat) (a b : Ty) (l : Bool) (c : D) : Prop := callN T hd.G k "structural" [enc a, enc b, lab l] = some c
theorem st_0 (k : Nat) (g : H0) (h : g ≠ .hole) (b : Ty) (l : Bool) : SX (k + 1) (.t0 g) b l (.tuple [.str "id", .str (n0 g)]) := by
  unfold SX
  rw [r_structural]
  simp [hd0, in_b0 g h]
theorem st_c {k : Nat} {x y : Ty} {l : Bool} {c d : D} (h1 : M (k + 1) x y l c) (h2 : M (k + 1) y x (!l) d) : SX (k + 2) (.t1 .cell x) (.t1 .cell y) l (.tuple [.str "cell", c, d]) := by
  unfold SX M at *
  rw [r_structural]
  simp [hd0, in_b1, ev_turned, h1, h2]
  rfl
theorem st_l {k : Nat} {x y : Ty} {l : Bool} {c : D} (h1 : M (k + 1) x y l c) : SX (k + 2) (.t1 .list x) (.t1 .list y) l (.tuple [.str "list", c]) := by
  unfold SX M at *
  rw [r_structural]
  simp [hd0, in_b1, kids, zipD, zipT, compM, asg_st, rd, Sl.keep, h1]
  rfl
theorem st_f {k : Nat} {x y x' y' : Ty} {l : Bool} {c d : D} (h1 : M (k + 1) y x (!l) c) (h2 : M (k + 1) x' y' l d) : SX (k + 2) (.t2 .fn x x') (.t2 .fn y y') l (.tuple [.str "fun", c, d]) := by
  unfold SX M at *
  rw [r_structural]
  simp [hd0, in_b2, ev_turned, h1, h2]
  rfl
theorem st_p {k : Nat} {x y x' y' : Ty} {l : Bool} {c d : D} (h1 : M (k + 1) x y l c) (h2 : M (k + 1) x' y' l d) : SX (k + 2) (.t2 .pair x x') (.t2 .pair y y') l (.tuple [.str "pair", c, d]) := by
  unfold SX M at *
  rw [r_structural]
  simp [hd0, in_b2, kids, zipD, zipT, compM, asg_st, rd, Sl.keep, h1, h2]
  rfl
theorem ev_wide {a : Ty} (h : a ≠ hole) (k : Nat) : callN T hd.G (k + 1) "wide" [enc a] = some (enc (grd a)) := by
  rw [r_wide, hole_enc]
  cases a <;> simp [hd0, kids, compM, grd] <;> simp [enc]
theorem md_hh (k : Nat) (l : Bool) : M (k + 1) hole hole l (encC .any) := by cases l <;> kernel_rfl
theorem md_up {k : Nat} {a : Ty} {l : Bool} {c : D} (oa : Ok a) (h : a ≠ hole) (hs : SX (k + 1) a (grd a) l c) : M (k + 2) a hole l (.tuple [.str "to", c, .str (hd0 a)]) := by
  unfold SX M at *
  rw [r_made, hole_enc, eq_enc oa Ok.h, eq_enc Ok.h Ok.h, decide_eq_false h, decide_eq_true rfl, ev_wide h]
  simp [hs]
theorem md_dn {k : Nat} {b : Ty} {l : Bool} {c : D} (ob : Ok b) (h : b ≠ hole) (hs : SX (k + 1) (grd b) b l c) : M (k + 2) hole b l (.tuple [.str "from", .str (hd0 b), lab l, c]) := by
  unfold SX M at *
  rw [r_made, hole_enc, eq_enc ob Ok.h, eq_enc Ok.h Ok.h, decide_eq_false h, decide_eq_true rfl, ev_wide h]
  simp [hs]
theorem md_st {k : Nat} {a b : Ty} {l : Bool} {c : D} (oa : Ok a) (ob : Ok b) (ha : a ≠ hole) (hb : b ≠ hole) (e : hd0 a = hd0 b) (hs : SX k a b l c) : M (k + 1) a b l c := by
  unfold SX M at *
  rw [r_made, hole_enc, eq_enc oa Ok.h, eq_enc ob Ok.h, decide_eq_false ha, decide_eq_false hb]
  simp [hs, e]
mutual
theorem md_upC : ∀ (a : Ty) (l : Bool) (k : Nat), Ok a → 2 * a.dp ≤ k → M (k + 1) a hole l (encC (up a l))
  | .t0 .hole, l, k, oa, hk => md_hh k l
  | .t0 .int, l, k + 1, oa, hk => by
    have := md_up (k := k) (l := l) oa (by simp) (st_0 k .int (by decide) _ l)
    simpa [up, encC, hd0, n1, n2] using this
  | .t0 .bool, l, k + 1, oa, hk => by
    have := md_up (k := k) (l := l) oa (by simp) (st_0 k .bool (by decide) _ l)
    simpa [up, encC, hd0, n1, n2] using this
  | .t0 .unit, l, k + 1, oa, hk => by
    have := md_up (k := k) (l := l) oa (by simp) (st_0 k .unit (by decide) _ l)
    simpa [up, encC, hd0, n1, n2] using this
  | .t1 .cell x, l, k + 2, oa, hk => by
    simp only [Ty.dp] at hk
    have := md_up (k := k + 1) (l := l) oa (by simp) (st_c (md_upC x l k oa.a (by omega)) (md_dnC x (!l) k oa.a (by omega)))
    simpa [up, encC, hd0, n1, n2] using this
  | .t1 .list x, l, k + 2, oa, hk => by
    simp only [Ty.dp] at hk
    have := md_up (k := k + 1) (l := l) oa (by simp) (st_l (md_upC x l k oa.a (by omega)))
    simpa [up, encC, hd0, n1, n2] using this
  | .t2 .fn x y, l, k + 2, oa, hk => by
    simp only [Ty.dp] at hk
    have := md_up (k := k + 1) (l := l) oa (by simp) (st_f (md_dnC x (!l) k oa.l (by omega)) (md_upC y l k oa.r (by omega)))
    simpa [up, encC, hd0, n1, n2] using this
  | .t2 .pair x y, l, k + 2, oa, hk => by
    simp only [Ty.dp] at hk
    have := md_up (k := k + 1) (l := l) oa (by simp) (st_p (md_upC x l k oa.l (by omega)) (md_upC y l k oa.r (by omega)))
    simpa [up, encC, hd0, n1, n2] using this
  | .t0 .int, l, 0, oa, hk | .t0 .bool, l, 0, oa, hk | .t0 .unit, l, 0, oa, hk => by simp only [Ty.dp] at hk; omega
  | .t1 _ x, l, 0, oa, hk | .t1 _ x, l, 1, oa, hk => by have := dp1 x; simp only [Ty.dp] at hk; omega
  | .t2 _ x _, l, 0, oa, hk | .t2 _ x _, l, 1, oa, hk => by have := dp1 x; simp only [Ty.dp] at hk; omega
theorem md_dnC : ∀ (a : Ty) (l : Bool) (k : Nat), Ok a → 2 * a.dp ≤ k → M (k + 1) hole a l (encC (dn a l))
  | .t0 .hole, l, k, oa, hk => md_hh k l
  | .t0 .int, l, k + 1, oa, hk => by
    have := md_dn (k := k) (l := l) oa (by simp) (st_0 k .int (by decide) _ l)
    simpa [dn, encC, hd0, n1, n2] using this
  | .t0 .bool, l, k + 1, oa, hk => by
    have := md_dn (k := k) (l := l) oa (by simp) (st_0 k .bool (by decide) _ l)
    simpa [dn, encC, hd0, n1, n2] using this
  | .t0 .unit, l, k + 1, oa, hk => by
    have := md_dn (k := k) (l := l) oa (by simp) (st_0 k .unit (by decide) _ l)
    simpa [dn, encC, hd0, n1, n2] using this
  | .t1 .cell x, l, k + 2, oa, hk => by
    simp only [Ty.dp] at hk
    have := md_dn (k := k + 1) (l := l) oa (by simp) (st_c (md_dnC x l k oa.a (by omega)) (md_upC x (!l) k oa.a (by omega)))
    simpa [dn, encC, hd0, n1, n2] using this
  | .t1 .list x, l, k + 2, oa, hk => by
    simp only [Ty.dp] at hk
    have := md_dn (k := k + 1) (l := l) oa (by simp) (st_l (md_dnC x l k oa.a (by omega)))
    simpa [dn, encC, hd0, n1, n2] using this
  | .t2 .fn x y, l, k + 2, oa, hk => by
    simp only [Ty.dp] at hk
    have := md_dn (k := k + 1) (l := l) oa (by simp) (st_f (md_upC x (!l) k oa.l (by omega)) (md_dnC y l k oa.r (by omega)))
    simpa [dn, encC, hd0, n1, n2] using this
  | .t2 .pair x y, l, k + 2, oa, hk => by
    simp only [Ty.dp] at hk
    have := md_dn (k := k + 1) (l := l) oa (by simp) (st_p (md_dnC x l k oa.l (by omega)) (md_dnC y l k oa.r (by omega)))
    simpa [dn, encC, hd0, n1, n2] using this
  | .t0 .int, l, 0, oa, hk | .t0 .bool, l, 0, oa, hk | .t0 .unit, l, 0, oa, hk => by simp only [Ty.dp] at hk; omega
  | .t1 _ x, l, 0, oa, hk | .t1 _ x, l, 1, oa, hk => by have := dp1 x; simp only [Ty.dp] at hk; omega
  | .t2 _ x _, l, 0, oa, hk | .t2 _ x _, l, 1, oa, hk => by have := dp1 x; simp only [Ty.dp] at hk; omega
end
theorem ev_made : ∀ (a b : Ty) (l : Bool) (k : Nat), Ok a → Ok b → cons a b = true → 2 * max a.dp b.dp ≤ k → M (k + 1) a b l (encC (mk a b l))
  | a, b, l, k, oa, ob, c, hk => by
    by_cases ha : a = hole
    · subst ha; rw [mk_hl]; exact md_dnC b l k ob (by omega)
    · by_cases hb : b = hole
      · subst hb; rw [mk_hr]; exact md_upC a l k oa (by omega)
      · obtain ⟨k, rfl⟩ : ∃ j, k = j + 1 := ⟨k - 1, by have := dp1 a; omega⟩
        match a, b, oa, ob, c, ha, hb, hk with
        | .t0 g, .t0 h, oa, ob, c, ha, hb, hk =>
          unfold cons at c
          simp [ha, hb] at c
          subst c
          have : mk (.t0 g) (.t0 g) l = .idn g := by rw [mk]; simp [ha]
          rw [this]
          exact md_st oa ob ha hb rfl (st_0 k g (by simpa using ha) _ l)
        | .t1 g x, .t1 h y, oa, ob, c, ha, hb, hk =>
          obtain ⟨rfl, c1⟩ := cons_1 c
          simp only [Ty.dp] at hk
          obtain ⟨k, rfl⟩ : ∃ j, k = j + 1 := ⟨k - 1, by have := dp1 x; omega⟩
          have i1 := ev_made x y l k oa.a ob.a c1 (by omega)
          have i2 := ev_made y x (!l) k ob.a oa.a (by rw [cons_comm]; exact c1) (by omega)
          cases g
          · rw [mk_c]; exact md_st oa ob ha hb rfl (st_c i1 i2)
          · rw [mk_l]; exact md_st oa ob ha hb rfl (st_l i1)
        | .t2 g x x', .t2 h y y', oa, ob, c, ha, hb, hk =>
          obtain ⟨rfl, c1, c2⟩ := cons_2 c
          simp only [Ty.dp] at hk
          obtain ⟨k, rfl⟩ : ∃ j, k = j + 1 := ⟨k - 1, by have := dp1 x; omega⟩
          have i1 := ev_made x y l k oa.l ob.l c1 (by omega)
          have i2 := ev_made y x (!l) k ob.l oa.l (by rw [cons_comm]; exact c1) (by omega)
          have i3 := ev_made x' y' l k oa.r ob.r c2 (by omega)
          cases g
          · rw [mk_f]; exact md_st oa ob ha hb rfl (st_f i2 i3)
          · rw [mk_p]; exact md_st oa ob ha hb rfl (st_p i1 i3)
        | .t0 g, .t1 h y, oa, ob, c, ha, hb, hk => unfold cons at c; simp [ha] at c
        | .t0 g, .t2 h y y', oa, ob, c, ha, hb, hk => unfold cons at c; simp [ha] at c
        | .t1 g x, .t0 h, oa, ob, c, ha, hb, hk => unfold cons at c; simp [hb] at c
        | .t1 g x, .t2 h y y', oa, ob, c, ha, hb, hk => unfold cons at c; simp at c
        | .t2 g x x', .t0 h, oa, ob, c, ha, hb, hk => unfold cons at c; simp [hb] at c
        | .t2 g x x', .t1 h y, oa, ob, c, ha, hb, hk => unfold cons at c; simp at c
termination_by _ _ _ k => k
decreasing_by all_goals omega
end K06

namespace EV
open PySem L2
theorem repr_of {d : D} (h1 : dle 60 d = true) (h2 : d.canLay0 = true) (h3 : d.weight ≤ 1000) (h4 : d.intsShort 13 = true) (h5 : d.showable = true) : bD .repr [d] = some (.str d.shown) := by
  have hd : d.depth ≤ 64 := Nat.le_trans (dle_depth 60 d h1) (by omega)
  have hl : PyData.layable0 d = true := by
    unfold PyData.layable0
    rw [h2, decide_eq_true hd, decide_eq_true (show d.weight ≤ 2 ^ 20 by omega)]; rfl
  show cond (dle 60 d && (PyData.layable0 d && (d.intsShort 13 && d.showable))) _ none = _
  rw [h1, hl, h4, h5]; rfl
theorem ne_strs (x : Str) : cmpD .NotEq (.str x) (.str x) = some false := by
  show (cond (dle 60 (.str x) && dle 60 (.str x)) (some (PyData.eqv (.str x) (.str x))) none).map _ = _
  simp [PyData.eqv]
end EV
namespace K06
open PySem L2 EV
theorem rp_bool (b : Bool) : bD .repr [.bool b] = some (.str (PyData.shown (.bool b))) := repr_of (by simp) rfl (by simp [PyData.weight]) rfl rfl
theorem ne_bool (x y : Bool) : cmpD .NotEq (.bool x) (.bool y) = some (x != y) := by cases x <;> cases y <;> rfl
theorem eq_bool (x y : Bool) : cmpD .Eq (.bool x) (.bool y) = some (x == y) := by cases x <;> cases y <;> rfl
def Co.dp : Co → Nat
  | .any => 1
  | .idn _ => 1
  | .to c _ => c.dp + 1
  | .fro _ _ c => c.dp + 1
  | .c1 c => c.dp + 1
  | .c2 _ c d => max c.dp d.dp + 1
  | .ce c d => max c.dp d.dp + 1
@[simp] theorem sumL1 (xs : List D) (h : xs.length ≤ 1000) : bD .sum [.list [.list xs], .list []] = some (.list xs) := by
  show cond (decide (0 + [xs].flatten.length ≤ EV.few)) (some (PyData.list ([] ++ [xs].flatten))) none = _
  rw [decide_eq_true (show 0 + [xs].flatten.length ≤ EV.few from by show _ ≤ 100000; simp; omega)]
  simp
theorem sumL2 (xs ys : List D) (h : xs.length + ys.length ≤ 1000) : bD .sum [.list [.list xs, .list ys], .list []] = some (.list (xs ++ ys)) := by
  show cond (decide (0 + [xs, ys].flatten.length ≤ EV.few)) (some (PyData.list ([] ++ [xs, ys].flatten))) none = _
  rw [decide_eq_true (show 0 + [xs, ys].flatten.length ≤ EV.few from by show _ ≤ 100000; simp; omega)]
  simp
@[simp] theorem u2 (h : H2) : (n2 h == ("from" : Str)) = false ∧ (n2 h == ("to" : Str)) = false := by cases h <;> exact ⟨by decide +kernel, by decide +kernel⟩
theorem in_id2 (h : H2) : cmpD .In (.str (n2 h)) (.list [.str "id", .str "id?"]) = some false := by cases h <;> kernel_rfl
theorem addL (xs ys : List D) (h : xs.length + ys.length ≤ 1000) : binD .Add (.list xs) (.list ys) = some (.list (xs ++ ys)) := by
  show cond (decide (xs.length + ys.length ≤ 100000)) _ none = _
  rw [decide_eq_true (by omega)]; rfl
theorem sd_ev : ∀ (c : Co) (k : Nat), c.dp ≤ k → (sides c).length ≤ 900 → callN T hd.G k "_law_sides" [encC c] = some (.list ((sides c).map .bool))
  | .any, k + 1, h, hl => by rw [r__law_sides]; kernel_rfl
  | .idn g, k + 1, h, hl => by rw [r__law_sides]; cases g <;> kernel_rfl
  | .to c x, k + 1, h, hl => by
    have ih := sd_ev c k (by simp only [Co.dp] at h; omega) hl
    rw [r__law_sides]
    show (callN T hd.G k "_law_sides" [encC c]).bind _ = _
    rw [ih]; rfl
  | .fro x l c, k + 1, h, hl => by
    have hl' : (sides c).length ≤ 899 := by simp only [sides, List.length_cons] at hl; omega
    have ih := sd_ev c k (by simp only [Co.dp] at h; omega) (by omega)
    rw [r__law_sides]
    show ((callN T hd.G k "_law_sides" [encC c]).bind fun x12 => binD .Add (.list [.bool l]) x12).bind _ = _
    rw [ih, obs1, addL _ _ (by simp; omega)]; rfl
  | .c1 c, k + 1, h, hl => by
    have ih := sd_ev c k (by simp only [Co.dp] at h; omega) hl
    have hl : (sides c).length ≤ 900 := hl
    rw [r__law_sides]
    show (((lim (((callN T hd.G k "_law_sides" [encC c]).bind fun x33 => some (some x33)).bind fun o => some (match o with | some y => [y] | none => []))).bind fun x34 => some ([x34, (PyData.list [])])).bind fun ds35 => bD .sum ds35).bind _ = _
    rw [ih, obs1, obs1, lim1, obs1, obs1, sumL1 _ (by simp; omega)]; rfl
  | .c2 g c d, k + 1, h, hl => by
    simp only [Co.dp] at h
    simp only [sides, List.length_append] at hl
    have i1 := sd_ev c k (by omega) (by omega)
    have i2 := sd_ev d k (by omega) (by omega)
    rw [r__law_sides]
    have e0 : ixD (encC (.c2 g c d)) (.int 0) = some (.str (n2 g)) := rfl
    have e1 : slD (encC (.c2 g c d)) (some 1) none = some (.tuple [encC c, encC d]) := by cases g <;> kernel_rfl
    simp only [e0, e1, obs1, eq_str, (u2 g).1, (u2 g).2, cf, in_id2, items_t, compM, i1, i2, lim2, sides, List.map_append]
    rw [sumL2 _ _ (by simp; omega)]; rfl
  | .ce c d, k + 1, h, hl => by
    simp only [Co.dp] at h
    simp only [sides, List.length_append] at hl
    have i1 := sd_ev c k (by omega) (by omega)
    have i2 := sd_ev d k (by omega) (by omega)
    rw [r__law_sides]
    have e0 : ixD (encC (.ce c d)) (.int 0) = some (.str "cell") := rfl
    have e1 : slD (encC (.ce c d)) (some 1) none = some (.tuple [encC c, encC d]) := by kernel_rfl
    have e2 : (("cell" : Str) == ("from" : Str)) = false := by decide +kernel
    have e3 : (("cell" : Str) == ("to" : Str)) = false := by decide +kernel
    have e4 : cmpD .In (.str "cell") (.list [.str "id", .str "id?"]) = some false := by kernel_rfl
    simp only [e0, e1, obs1, eq_str, e2, e3, e4, cf, items_t, compM, i1, i2, lim2, sides, List.map_append]
    rw [sumL2 _ _ (by simp; omega)]; rfl
  | .any, 0, h, _ | .idn _, 0, h, _ | .to _ _, 0, h, _ | .fro _ _ _, 0, h, _ | .c1 _, 0, h, _ | .c2 _ _ _, 0, h, _ | .ce _ _, 0, h, _ => by simp only [Co.dp] at h; omega
end K06

namespace K06
open PySem L2 EV
theorem two_le (d : Nat) (h : 1 ≤ d) : 2 ≤ 2 ^ d := Nat.le_trans (show 2 ≤ 2 ^ 1 by decide) (Nat.pow_le_pow_right (by decide) h)
mutual
theorem len_up : ∀ (a : Ty) (l : Bool), (sides (up a l)).length + 1 ≤ 2 ^ a.dp ∧ (up a l).dp ≤ 2 * a.dp
  | .t0 g, l => by cases g <;> exact ⟨by simp [up, sides, Ty.dp], by simp [up, Co.dp, Ty.dp]⟩
  | .t1 .cell x, l => by
    obtain ⟨h1, h2⟩ := len_up x l
    obtain ⟨h3, h4⟩ := len_dn x (!l)
    simp only [up, sides, List.length_append, Ty.dp, Co.dp, Nat.pow_succ]
    omega
  | .t1 .list x, l => by
    obtain ⟨h1, h2⟩ := len_up x l
    simp only [up, sides, Ty.dp, Co.dp, Nat.pow_succ]
    omega
  | .t2 .fn x y, l => by
    obtain ⟨h1, h2⟩ := len_up y l
    obtain ⟨h3, h4⟩ := len_dn x (!l)
    have e1 : 2 ^ x.dp ≤ 2 ^ max x.dp y.dp := Nat.pow_le_pow_right (by decide) (by omega)
    have e2 : 2 ^ y.dp ≤ 2 ^ max x.dp y.dp := Nat.pow_le_pow_right (by decide) (by omega)
    simp only [up, sides, List.length_append, Ty.dp, Co.dp, Nat.pow_succ]
    omega
  | .t2 .pair x y, l => by
    obtain ⟨h1, h2⟩ := len_up x l
    obtain ⟨h3, h4⟩ := len_up y l
    have e1 : 2 ^ x.dp ≤ 2 ^ max x.dp y.dp := Nat.pow_le_pow_right (by decide) (by omega)
    have e2 : 2 ^ y.dp ≤ 2 ^ max x.dp y.dp := Nat.pow_le_pow_right (by decide) (by omega)
    simp only [up, sides, List.length_append, Ty.dp, Co.dp, Nat.pow_succ]
    omega
theorem len_dn : ∀ (a : Ty) (l : Bool), (sides (dn a l)).length + 1 ≤ 2 ^ a.dp ∧ (dn a l).dp ≤ 2 * a.dp
  | .t0 g, l => by cases g <;> exact ⟨by simp [dn, sides, Ty.dp], by simp [dn, Co.dp, Ty.dp]⟩
  | .t1 .cell x, l => by
    obtain ⟨h1, h2⟩ := len_dn x l
    obtain ⟨h3, h4⟩ := len_up x (!l)
    simp only [dn, sides, List.length_append, List.length_cons, Ty.dp, Co.dp, Nat.pow_succ]
    omega
  | .t1 .list x, l => by
    obtain ⟨h1, h2⟩ := len_dn x l
    have := two_le x.dp (dp1 x)
    simp only [dn, sides, List.length_cons, Ty.dp, Co.dp, Nat.pow_succ]
    omega
  | .t2 .fn x y, l => by
    obtain ⟨h1, h2⟩ := len_dn y l
    obtain ⟨h3, h4⟩ := len_up x (!l)
    have e1 : 2 ^ x.dp ≤ 2 ^ max x.dp y.dp := Nat.pow_le_pow_right (by decide) (by omega)
    have e2 : 2 ^ y.dp ≤ 2 ^ max x.dp y.dp := Nat.pow_le_pow_right (by decide) (by omega)
    simp only [dn, sides, List.length_append, List.length_cons, Ty.dp, Co.dp, Nat.pow_succ]
    omega
  | .t2 .pair x y, l => by
    obtain ⟨h1, h2⟩ := len_dn x l
    obtain ⟨h3, h4⟩ := len_dn y l
    have e1 : 2 ^ x.dp ≤ 2 ^ max x.dp y.dp := Nat.pow_le_pow_right (by decide) (by omega)
    have e2 : 2 ^ y.dp ≤ 2 ^ max x.dp y.dp := Nat.pow_le_pow_right (by decide) (by omega)
    simp only [dn, sides, List.length_append, List.length_cons, Ty.dp, Co.dp, Nat.pow_succ]
    omega
end
theorem len_mk : ∀ (a b : Ty) (l : Bool), cons a b = true → (sides (mk a b l)).length + 1 ≤ 2 ^ max a.dp b.dp ∧ (mk a b l).dp ≤ 2 * max a.dp b.dp
  | a, b, l, c => by
    by_cases ha : a = hole
    · subst ha
      rw [mk_hl]
      obtain ⟨h1, h2⟩ := len_dn b l
      have e1 : 2 ^ b.dp ≤ 2 ^ max hole.dp b.dp := Nat.pow_le_pow_right (by decide) (by omega)
      omega
    · by_cases hb : b = hole
      · subst hb
        rw [mk_hr]
        obtain ⟨h1, h2⟩ := len_up a l
        have e1 : 2 ^ a.dp ≤ 2 ^ max a.dp hole.dp := Nat.pow_le_pow_right (by decide) (by omega)
        omega
      · match a, b, c, ha, hb with
        | .t0 g, .t0 h, c, ha, hb =>
          have : mk (.t0 g) (.t0 h) l = .idn g := by rw [mk]; simp [ha, hb]
          rw [this]
          exact ⟨by simp [sides, Ty.dp], by simp [Co.dp, Ty.dp]⟩
        | .t1 g x, .t1 h y, c, ha, hb =>
          obtain ⟨rfl, c1⟩ := cons_1 c
          have i1 := len_mk x y l c1
          have i2 := len_mk y x (!l) (by rw [cons_comm]; exact c1)
          have e2 : max y.dp x.dp = max x.dp y.dp := by omega
          rw [e2] at i2
          have e1 : max (x.dp + 1) (y.dp + 1) = max x.dp y.dp + 1 := by omega
          cases g
          · rw [mk_c]
            simp only [sides, List.length_append, Ty.dp, Co.dp, e1, Nat.pow_succ]
            omega
          · rw [mk_l]
            simp only [sides, Ty.dp, Co.dp, e1, Nat.pow_succ]
            omega
        | .t2 g x x', .t2 h y y', c, ha, hb =>
          obtain ⟨rfl, c1, c2⟩ := cons_2 c
          have i1 := len_mk x y l c1
          have i2 := len_mk y x (!l) (by rw [cons_comm]; exact c1)
          have i3 := len_mk x' y' l c2
          have e2 : max y.dp x.dp = max x.dp y.dp := by omega
          rw [e2] at i2
          have e1 : max (max x.dp x'.dp + 1) (max y.dp y'.dp + 1) = max (max x.dp x'.dp) (max y.dp y'.dp) + 1 := by omega
          have e3 : 2 ^ max x.dp y.dp ≤ 2 ^ max (max x.dp x'.dp) (max y.dp y'.dp) := Nat.pow_le_pow_right (by decide) (by omega)
          have e4 : 2 ^ max x'.dp y'.dp ≤ 2 ^ max (max x.dp x'.dp) (max y.dp y'.dp) := Nat.pow_le_pow_right (by decide) (by omega)
          cases g
          · rw [mk_f]
            simp only [sides, List.length_append, Ty.dp, Co.dp, e1, Nat.pow_succ]
            omega
          · rw [mk_p]
            simp only [sides, List.length_append, Ty.dp, Co.dp, e1, Nat.pow_succ]
            omega
        | .t0 g, .t1 h y, c, ha, hb => unfold cons at c; simp [ha] at c
        | .t0 g, .t2 h y y', c, ha, hb => unfold cons at c; simp [ha] at c
        | .t1 g x, .t0 h, c, ha, hb => unfold cons at c; simp [hb] at c
        | .t1 g x, .t2 h y y', c, ha, hb => unfold cons at c; simp at c
        | .t2 g x x', .t0 h, c, ha, hb => unfold cons at c; simp [hb] at c
        | .t2 g x x', .t1 h y, c, ha, hb => unfold cons at c; simp at c
termination_by a b => sizeOf a + sizeOf b
structure Fit6 (t : Ty) : Prop where
  dp : t.dp ≤ 8
  sz : t.sz ≤ 60
theorem Fit6.fit {t : Ty} (f : Fit6 t) : Fit t := ⟨by have := f.dp; omega, f.sz⟩
theorem v_safe {a b : Ty} {k : Nat} (f : Fit6 a) (g : Fit6 b) (s : Bool) (hk : 53 ≤ k) : callN T hd.G k "safe" [enc a, enc b, .bool s] = some (.bool (safe a b s)) := by
  obtain ⟨k, rfl⟩ : ∃ j, k = j + 1 := ⟨k - 1, by omega⟩
  have h1 := f.dp
  have h2 := g.dp
  have e := (ev_safe0 k).2 a b s f.fit.ok g.fit.ok (by omega)
  unfold E at e
  rw [r_safe, ev_both f.fit g.fit (by omega), e]; rfl
theorem v_lsafe {a b : Ty} {k : Nat} (f : Fit6 a) (g : Fit6 b) (s : Bool) (hk : 53 ≤ k) : callN T hd.G k "_law_safe" [enc a, enc b, .bool s] = some (.bool (safe a b s)) := by
  have h1 := f.dp
  have h2 := g.dp
  exact (ev_lsafe0 k).2 a b s f.fit.ok g.fit.ok (by omega)
theorem ev_lab (k : Nat) : callN T hd.G (k + 2) "is_label" [lab true] = some (.bool true) := by kernel_rfl
theorem v_make {a b : Ty} {k : Nat} (f : Fit6 a) (g : Fit6 b) (c : cons a b = true) (hk : 53 ≤ k) : callN T hd.G k "make" [enc a, enc b, lab true] = some (encC (mk a b true)) := by
  obtain ⟨k, rfl⟩ : ∃ j, k = j + 3 := ⟨k - 3, by omega⟩
  have h1 := f.dp
  have h2 := g.dp
  have e := ev_made a b true (k + 1) f.fit.ok g.fit.ok c (by omega)
  unfold M at e
  rw [r_make, ev_check f.fit (by omega), ev_check g.fit (by omega), ev_lab, e]; rfl
theorem v_sides {a b : Ty} {k : Nat} (f : Fit6 a) (g : Fit6 b) (c : cons a b = true) (hk : 53 ≤ k) : callN T hd.G k "_law_sides" [encC (mk a b true)] = some (.list ((sides (mk a b true)).map .bool)) := by
  obtain ⟨h3, h4⟩ := len_mk a b true c
  have h1 := f.dp
  have h2 := g.dp
  have : 2 ^ max a.dp b.dp ≤ 2 ^ 8 := Nat.pow_le_pow_right (by decide) (by omega)
  exact sd_ev _ k (by omega) (by omega)
theorem notin_b (s : Bool) (bs : List Bool) : cmpD .NotIn (.bool s) (.list (bs.map .bool)) = some (!decide (s ∈ bs)) := by
  have h1 : dles 59 (bs.map PyData.bool) = true := by
    induction bs with
    | nil => rfl
    | cons b bs ih => simp [ih]
  have h2 : ((bs.map PyData.bool).any fun z => PyData.eqv z (.bool s)) = decide (s ∈ bs) := by
    clear h1
    induction bs with
    | nil => rfl
    | cons b bs ih =>
      rw [List.map_cons, List.any_cons, ih]
      cases s <;> cases b <;> simp [PyData.eqv]
  show (cond (dle 60 (.bool s) && dle 60 (.list (bs.map .bool))) (some ((bs.map PyData.bool).any fun z => PyData.eqv z (.bool s))) none).map _ = _
  have h3 : dle 60 (.list (bs.map PyData.bool)) = true := h1
  rw [h3, h2]; rfl
theorem forL_step {g : List Sl → D → Option (List Sl)} {body : List Sl → Option Fl} {x : D} {xs : List D} {σ σ1 σ2 : List Sl} (h1 : g σ x = some σ1) (h2 : body σ1 = some (.next σ2)) : forL g body (x :: xs) σ = forL g body xs σ2 := by
  show (g σ x).bind _ = _
  rw [h1, obs1, h2]; rfl
theorem pair_turn {a b : Ty} {k : Nat} (f : Fit6 a) (g : Fit6 b) (s : Bool) (hk : 53 ≤ k) : exs ⟨f__law_pair.N, hd.G, callN T hd.G k⟩ 58 [Sl.sh (enc a), Sl.sh (enc b), Sl.sh (.bool s)] (forB (stAt f__law_pair.body 0)) = some (Fl.next [Sl.sh (enc a), Sl.sh (enc b), Sl.sh (.bool s)]) := by
  rw [r__law_pair_0b, v_safe f g s hk, v_lsafe f g s hk, v_cons f.fit g.fit hk]
  simp only [obs1, rp_bool, ne_strs, cf, tru_b]
  cases c : cons a b with
  | false => rfl
  | true =>
    have e := sd_mk a b true s c
    rw [ct, show (PyData.tuple [PyData.int 3, PyData.bool true]) = lab true from rfl, v_make f g c hk, obs1, obs1, v_sides f g c hk, obs1, notin_b]
    have e2 : decide (s ∈ sides (mk a b true)) = !safe a b s := by
      rw [show (s == true) = s by cases s <;> rfl] at e
      cases h : safe a b s with
      | false => exact decide_eq_true (e.mpr h)
      | true => exact decide_eq_false fun z => by rw [e.mp z] at h; cases h
    rw [e2, Bool.not_not, Option.map_some, obs1, ne_bool, bne_self_eq_false]; rfl
theorem ev_pair {a b : Ty} {k : Nat} (f : Fit6 a) (g : Fit6 b) (hk : 54 ≤ k) : callN T hd.G k "_law_pair" [enc a, enc b] = some (.bool true) := by
  obtain ⟨k, rfl⟩ : ∃ j, k = j + 1 := ⟨k - 1, by omega⟩
  rw [r__law_pair, forL_step (r__law_pair_0g _ _ _ _) (pair_turn f g true (by omega)), forL_step (r__law_pair_0g _ _ _ _) (pair_turn f g false (by omega))]
  show exsK _ 59 _ _ endK = _
  rw [r__law_pair_0a, v_prec f.fit g.fit (by omega), v_safe f g true (by omega), v_safe g f false (by omega), prec_safe]
  cases safe a b true <;> cases safe b a false <;> rfl
end K06

namespace K06
open PySem L2 EV
def L1 : List Ty := [.t0 .hole, .t0 .int, .t0 .bool, .t0 .unit]
def ups (l : List Ty) : List Ty := l.flatMap fun p => [.t1 .cell p, .t1 .list p]
def twos (l m : List Ty) : List Ty := (l.flatMap fun a => m.map fun b => (a, b)).flatMap fun p => [.t2 .fn p.1 p.2, .t2 .pair p.1 p.2]
def L2' : List Ty := ups L1
def L3 : List Ty := ups L2' ++ twos L1 L1
theorem of1 (k : Nat) : callN T hd.G (k + 6) "all_of" [.int 1] = some (.list (L1.map enc)) := by kernel_rfl
theorem of2 (k : Nat) : callN T hd.G (k + 6) "all_of" [.int 2] = some (.list (L2'.map enc)) := by kernel_rfl
theorem of3 (k : Nat) : callN T hd.G (k + 6) "all_of" [.int 3] = some (.list (L3.map enc)) := by kernel_rfl
theorem so1 : sortOk (L1.map enc) = true := by kernel_rfl
theorem so2 : sortOk (L2'.map enc) = true := by kernel_rfl
theorem so3 : sortOk (L3.map enc) = true := by kernel_rfl
open Classical in
noncomputable def dec (d : D) : Ty := if h : ∃ t, enc t = d then h.choose else hole
theorem enc_inj {a b : Ty} (h : enc a = enc b) : a = b := by
  have := eqv_enc a b
  rw [h, eqv_enc b b, decide_eq_true rfl] at this
  exact of_decide_eq_true this.symm
theorem dec_enc (t : Ty) : dec (enc t) = t := by
  have h : ∃ s, enc s = enc t := ⟨t, rfl⟩
  unfold dec
  rw [dif_pos h]
  exact enc_inj h.choose_spec
theorem perm_enc {l : List D} {m : List Ty} (h : l.Perm (m.map enc)) : ∃ m' : List Ty, l = m'.map enc ∧ m'.Perm m := by
  refine ⟨l.map dec, ?_, ?_⟩
  · rw [List.map_map]
    symm
    conv => rhs; rw [← List.map_id l]
    refine List.map_congr_left fun x hx => ?_
    obtain ⟨t, _, rfl⟩ := List.mem_map.mp (h.mem_iff.mp hx)
    show enc (dec (enc t)) = enc t
    rw [dec_enc]
  · have := h.map dec
    rw [List.map_map] at this
    have e : m.map (dec ∘ enc) = m := by
      conv => rhs; rw [← List.map_id m]
      exact List.map_congr_left fun x _ => dec_enc x
    rwa [e] at this
theorem sorted_ty {l : List Ty} (h : sortOk (l.map enc) = true) : ∃ m : List Ty, bD .sorted [.list (l.map enc)] = some (.list (m.map enc)) ∧ m.Perm l := by
  obtain ⟨m, e, p⟩ := perm_enc (l := (l.map enc).mergeSort (PySem.W.dataLe false id)) (m := l) (List.mergeSort_perm _ _)
  refine ⟨m, ?_, p⟩
  show cond (sortOk (l.map enc)) _ none = _
  rw [h, cond_true, e]
theorem ev_all {n : Int} {l : List Ty} (h1 : 1 ≤ n) (h4 : n ≤ 4) (k : Nat) (ho : callN T hd.G (k + 6) "all_of" [.int n] = some (.list (l.map enc))) (hs : sortOk (l.map enc) = true) :
    ∃ m : List Ty, callN T hd.G (k + 7) "all_types" [.int n] = some (.list (m.map enc)) ∧ m.Perm l := by
  obtain ⟨m, e, p⟩ := sorted_ty hs
  refine ⟨m, ?_, p⟩
  rw [r_all_types]
  simp [le_i, decide_eq_true h1, decide_eq_true h4, ho, e]
/-- the small types -/
structure Small (l : List Ty) : Prop where
  len : l.length = 60
  mem : ∀ t : Ty, t.sz ≤ 3 → t ∈ l
  sz : ∀ t ∈ l, t.sz ≤ 3
theorem all3 : ∀ t : Ty, t.sz ≤ 3 → t ∈ L1 ∨ t ∈ L2' ∨ t ∈ L3
  | .t0 h, _ => by left; cases h <;> decide
  | .t1 h (.t0 g), _ => by right; left; cases h <;> cases g <;> decide
  | .t1 h (.t1 g (.t0 i)), _ => by right; right; cases h <;> cases g <;> cases i <;> decide
  | .t2 h (.t0 g) (.t0 i), _ => by right; right; cases h <;> cases g <;> cases i <;> decide
  | .t1 _ (.t1 _ (.t1 _ a)), h => by simp only [Ty.sz] at h; have : 1 ≤ a.sz := by cases a <;> simp only [Ty.sz] <;> omega
                                     omega
  | .t1 _ (.t1 _ (.t2 _ a b)), h => by simp only [Ty.sz] at h; have : 1 ≤ a.sz := by cases a <;> simp only [Ty.sz] <;> omega
                                       omega
  | .t1 _ (.t2 _ a b), h => by simp only [Ty.sz] at h; have : 1 ≤ a.sz := by cases a <;> simp only [Ty.sz] <;> omega
                               have : 1 ≤ b.sz := by cases b <;> simp only [Ty.sz] <;> omega
                               omega
  | .t2 _ (.t1 _ a) b, h => by simp only [Ty.sz] at h; have : 1 ≤ a.sz := by cases a <;> simp only [Ty.sz] <;> omega
                               have : 1 ≤ b.sz := by cases b <;> simp only [Ty.sz] <;> omega
                               omega
  | .t2 _ (.t2 _ a c) b, h => by simp only [Ty.sz] at h; have : 1 ≤ a.sz := by cases a <;> simp only [Ty.sz] <;> omega
                                 have : 1 ≤ b.sz := by cases b <;> simp only [Ty.sz] <;> omega
                                 omega
  | .t2 _ (.t0 _) (.t1 _ a), h => by simp only [Ty.sz] at h; have : 1 ≤ a.sz := by cases a <;> simp only [Ty.sz] <;> omega
                                     omega
  | .t2 _ (.t0 _) (.t2 _ a b), h => by simp only [Ty.sz] at h; have : 1 ≤ a.sz := by cases a <;> simp only [Ty.sz] <;> omega
                                       omega
theorem ev_small (k : Nat) : ∃ l, Small l ∧ ((((callN T hd.G (k + 7) "all_types" [(PyData.int 1)]).bind fun x6 => (callN T hd.G (k + 7) "all_types" [(PyData.int 2)]).bind fun x7 => binD .Add x6 x7).bind fun x8 => (callN T hd.G (k + 7) "all_types" [(PyData.int 3)]).bind fun x9 => binD .Add x8 x9)) = some (.list (l.map enc)) := by
  obtain ⟨a, e1, p1⟩ := ev_all (n := 1) (by decide) (by decide) k (of1 k) so1
  obtain ⟨b, e2, p2⟩ := ev_all (n := 2) (by decide) (by decide) k (of2 k) so2
  obtain ⟨c, e3, p3⟩ := ev_all (n := 3) (by decide) (by decide) k (of3 k) so3
  have l1 : a.length = 4 := p1.length_eq
  have l2 : b.length = 8 := p2.length_eq
  have l3 : c.length = 48 := p3.length_eq
  refine ⟨a ++ b ++ c, ⟨by simp [l1, l2, l3], fun t h => ?_, fun t h => ?_⟩, ?_⟩
  · rcases all3 t h with h | h | h
    · exact List.mem_append_left _ (List.mem_append_left _ (p1.mem_iff.mpr h))
    · exact List.mem_append_left _ (List.mem_append_right _ (p2.mem_iff.mpr h))
    · exact List.mem_append_right _ (p3.mem_iff.mpr h)
  · have q : ∀ (l : List Ty), (l.all fun t => decide (t.sz ≤ 3)) = true → ∀ t ∈ l, t.sz ≤ 3 := fun l h t ht => of_decide_eq_true (List.all_eq_true.mp h t ht)
    rcases List.mem_append.mp h with h | h
    · rcases List.mem_append.mp h with h | h
      · exact q L1 (by decide +kernel) t (p1.mem_iff.mp h)
      · exact q L2' (by decide +kernel) t (p2.mem_iff.mp h)
    · exact q L3 (by decide +kernel) t (p3.mem_iff.mp h)
  · rw [e1, obs1, e2, obs1]
    have a1 : binD .Add (.list (a.map enc)) (.list (b.map enc)) = some (.list ((a ++ b).map enc)) := by
      show cond (decide ((a.map enc).length + (b.map enc).length ≤ EV.few)) _ none = _
      rw [List.length_map, List.length_map, l1, l2, List.map_append]; rfl
    have a2 : binD .Add (.list ((a ++ b).map enc)) (.list (c.map enc)) = some (.list ((a ++ b ++ c).map enc)) := by
      show cond (decide (((a ++ b).map enc).length + (c.map enc).length ≤ EV.few)) _ none = _
      rw [List.length_map, List.length_map, List.length_append, l1, l2, l3, List.map_append (l₁ := a ++ b)]; rfl
    rw [a1, obs1, e3, obs1, a2]
end K06

namespace K06
open PySem L2 EV
theorem fit_small {t : Ty} (h : t.sz ≤ 3) : Fit6 t := ⟨by have := dp_sz t; omega, by omega⟩
theorem small_at {l : List Ty} (s : Small l) {r : Int} (h0 : 0 ≤ r) (h1 : r < 60) : ∃ t, t ∈ l ∧ ixD (.list (l.map enc)) (.int r) = some (enc t) := by
  have hl := s.len
  have hr : r.toNat < l.length := by omega
  exact ⟨l[r.toNat], List.getElem_mem hr, ix_lst h0 (by rw [List.getElem?_map, List.getElem?_eq_getElem hr]; rfl)⟩
theorem turn2 {ds : List Int} (h : Dr ds) {l : List Ty} (s : Small l) {k : Nat} (hk : 61 ≤ k) (w0 : D) (s4 s5 : Sl) (j : Nat) : ∃ t4 t5,
    exs ⟨f_law.N, hd.G, callN T hd.G k⟩ 56 [Sl.sh w0, Sl.sh (.list (ds.map .int)), Sl.sh (.list (l.map enc)), Sl.sh (.int (0 + (j : Int))), s4, s5, Sl.un, Sl.un, Sl.un] (forB (stAt f_law.body 2)) =
      some (Fl.next [Sl.sh w0, Sl.sh (.list (ds.map .int)), Sl.sh (.list (l.map enc)), Sl.sh (.int (0 + (j : Int))), t4, t5, Sl.un, Sl.un, Sl.un]) := by
  obtain ⟨k', rfl⟩ : ∃ i, k = i + 1 := ⟨k - 1, by omega⟩
  obtain ⟨r, e1, r0, r1⟩ := ev_mix h k' (10 + (0 + (j : Int))) 60 (by omega) (by decide)
  obtain ⟨q, e2, q0, q1⟩ := ev_mix h k' (20 + (0 + (j : Int))) 60 (by omega) (by decide)
  obtain ⟨a, ha, ea⟩ := small_at s r0 r1
  obtain ⟨b, hb, eb⟩ := small_at s q0 q1
  have hp := ev_pair (fit_small (s.sz a ha)) (fit_small (s.sz b hb)) (k := k' + 1) (by omega)
  rw [r_law_2b]
  simp only [add_i, Option.bind_some, e1, ea, e2, eb, hp, tru_b, Option.map_some, Bool.not_true, cond_false]
  exact ⟨_, _, rfl⟩
theorem ne_b (x : Bool) : cmpD .NotEq (.bool x) (.bool x) = some false := by cases x <;> rfl
theorem turn3 {ds : List Int} (h : Dr ds) {k : Nat} (hk : 61 ≤ k) (w0 w2 : D) (s4 s5 s6 s7 s8 : Sl) (j : Nat) : ∃ t4 t5 t6 t7 t8,
    exs ⟨f_law.N, hd.G, callN T hd.G k⟩ 55 [Sl.sh w0, Sl.sh (.list (ds.map .int)), Sl.sh w2, Sl.sh (.int (0 + (j : Int))), s4, s5, s6, s7, s8] (forB (stAt f_law.body 3)) =
      some (Fl.next [Sl.sh w0, Sl.sh (.list (ds.map .int)), Sl.sh w2, Sl.sh (.int (0 + (j : Int))), t4, t5, t6, t7, t8]) := by
  obtain ⟨k', rfl⟩ : ∃ i, k = i + 1 := ⟨k - 1, by omega⟩
  obtain ⟨t, et, t1, t2, _⟩ := ev_kind h 4 (k' + 1) (30 + (0 + (j : Int))) (by omega) (by omega)
  have h32 : (2 : Nat) ^ (4 + 1) = 32 := rfl
  obtain ⟨r, er, r0, r3⟩ := ev_mix h k' (0 + (j : Int)) 3 (by omega) (by decide)
  obtain ⟨m, em, hm⟩ : ∃ m : Int, ixD (PyData.list [(PyData.int 2), (PyData.int 3), (PyData.int 6)]) (.int r) = some (.int m) ∧ 0 < m := by
    have : r = 0 ∨ r = 1 ∨ r = 2 := by omega
    rcases this with rfl | rfl | rfl
    · exact ⟨2, by kernel_rfl, by decide⟩
    · exact ⟨3, by kernel_rfl, by decide⟩
    · exact ⟨6, by kernel_rfl, by decide⟩
  obtain ⟨a, ea, pa, a1, a2⟩ := ev_blur h m hm t (k' + 1) (40 + 10 * (0 + (j : Int))) (by omega) (by omega)
  obtain ⟨b, eb, pb, b1, b2⟩ := ev_blur h m hm t (k' + 1) (45 + 10 * (0 + (j : Int))) (by omega) (by omega)
  obtain ⟨q, eq, q0, q1⟩ := ev_mix h k' (4 + (0 + (j : Int))) 2 (by omega) (by decide)
  have et' : callN T hd.G (k' + 1) "_law_kind" [.list (ds.map .int), .int (30 + (0 + (j : Int))), .int 4] = some (enc t) := et
  have ft : Fit6 t := ⟨by omega, by omega⟩
  have fa : Fit6 a := ⟨by omega, by omega⟩
  have fb : Fit6 b := ⟨by omega, by omega⟩
  have ci : (Ty.t0 .int).dp = 1 ∧ (Ty.t0 .int).sz = 1 := ⟨rfl, rfl⟩
  have fl : ∀ {x : Ty} (g : H1), x.dp ≤ 5 → x.sz ≤ 31 → Fit6 (.t1 g x) := fun g h1 h2 => ⟨by simp only [Ty.dp]; omega, by simp only [Ty.sz]; omega⟩
  have ff : ∀ {x : Ty}, x.dp ≤ 5 → x.sz ≤ 31 → Fit6 (.t2 .fn x (.t0 .int)) := fun h1 h2 => ⟨by simp only [Ty.dp]; omega, by simp only [Ty.sz]; omega⟩
  have x1 := ev_pair fa fb (k := k' + 1) (by omega)
  have x2 := ev_pair fa ft (k := k' + 1) (by omega)
  have x3 := ev_pair ft fa (k := k' + 1) (by omega)
  have ta := prec_safe t a
  rw [pa] at ta
  have ta := Bool.and_eq_true_iff.mp ta.symm
  have va := v_safe ft fa true (k := k' + 1) (by omega)
  have vb := v_safe fa ft false (k := k' + 1) (by omega)
  rw [ta.1] at va
  rw [ta.2] at vb
  have k53 : 53 ≤ k' + 1 := by omega
  generalize hs : (q == (0 : Int)) = sd
  have vl : callN T hd.G (k' + 1) "safe" [(PyData.tuple [(PyData.str "list"), enc a]), (PyData.tuple [(PyData.str "list"), enc b]), .bool sd] = some (.bool (safe a b sd)) := by
    have := v_safe (fl .list (by omega : a.dp ≤ 5) (by omega : a.sz ≤ 31)) (fl .list (by omega : b.dp ≤ 5) (by omega : b.sz ≤ 31)) sd k53
    rw [safe_l] at this; exact this
  have vc : callN T hd.G (k' + 1) "safe" [(PyData.tuple [(PyData.str "cell"), enc a]), (PyData.tuple [(PyData.str "cell"), enc b]), .bool sd] = some (.bool (safe a b sd && safe b a !sd)) := by
    have := v_safe (fl .cell (by omega : a.dp ≤ 5) (by omega : a.sz ≤ 31)) (fl .cell (by omega : b.dp ≤ 5) (by omega : b.sz ≤ 31)) sd k53
    rw [safe_c] at this; exact this
  have vf : callN T hd.G (k' + 1) "safe" [(PyData.tuple [(PyData.str "fun"), enc b, (PyData.tuple [(PyData.str "int")])]), (PyData.tuple [(PyData.str "fun"), enc a, (PyData.tuple [(PyData.str "int")])]), .bool (!sd)] = some (.bool (safe a b sd)) := by
    have := v_safe (ff (by omega : b.dp ≤ 5) (by omega : b.sz ≤ 31)) (ff (by omega : a.dp ≤ 5) (by omega : a.sz ≤ 31)) (!sd) k53
    rw [safe_f, Bool.not_not, safe_0 _ _ _ (by decide) (by decide), decide_eq_true rfl, Bool.true_or, Bool.and_true] at this; exact this
  rw [r_law_3b]
  simp only [add_i, mulL 10 _ rfl, Option.bind_some, et', er, em, ea, eb, x1, x2, x3, tru_b, Option.map_some, Bool.not_true, cond_false, eq, eq_i, hs, v_safe fa fb sd k53, vl, ne_b, vf, vc]
  refine ⟨Sl.sh (enc a), Sl.sh (enc b), Sl.sh (enc t), Sl.sh (.int m), Sl.sh (.bool sd), ?_⟩
  · cases h1 : safe a b sd with
    | false =>
      simp only [cond_false, Bool.false_and, ne_b, Option.bind_some, va, vb, tru_b, Option.map_some, Bool.not_true]
    | true =>
      simp only [cond_true, Bool.true_and, v_safe fb fa (!sd) k53, ne_b, Option.bind_some, va, vb, tru_b, Option.map_some, Bool.not_true, cond_false]
end K06

namespace K06
open PySem L2 EV
theorem ri4 : rng1 (PyData.int 4) = some (intRange 0 4) := by kernel_rfl
theorem ri6 : rng1 (PyData.int 6) = some (intRange 0 6) := by kernel_rfl
theorem law_true (ns : List Int) (k : Nat) (hk : 70 ≤ k) : callN T hd.G (k + 1) "law" [.list (ns.map .int)] = some (.bool true) := by
  obtain ⟨k1, rfl⟩ : ∃ i, k = i + 1 := ⟨k - 1, by omega⟩
  obtain ⟨k7, e7⟩ : ∃ i, k1 + 1 = i + 7 := ⟨k1 - 6, by omega⟩
  obtain ⟨ds, ed, hd0⟩ := ev_draws ns k1
  obtain ⟨l, sl, el⟩ := ev_small k7
  rw [← e7] at el
  rw [r_law, ed, obs1, el, obs1, ri6, obs1]
  have lp1 := forL_inv (g := fun σ x => asg f_law.N σ (forT (stAt f_law.body 2)) x) (body := fun σ => exs ⟨f_law.N, hd.G, callN T hd.G (k1 + 1)⟩ 56 σ (forB (stAt f_law.body 2)))
    (fun _ σ => ∃ t3 t4 t5, σ = [Sl.sh (.list (ns.map .int)), Sl.sh (.list (ds.map .int)), Sl.sh (.list (l.map enc)), t3, t4, t5, Sl.un, Sl.un, Sl.un])
    (intRange 0 6) 0 [Sl.sh (.list (ns.map .int)), Sl.sh (.list (ds.map .int)), Sl.sh (.list (l.map enc)), Sl.un, Sl.un, Sl.un, Sl.un, Sl.un, Sl.un] ⟨_, _, _, rfl⟩ ?_
  · obtain ⟨σ1, q1, t3, t4, t5, rfl⟩ := lp1
    rw [q1, obs1]
    show exsK _ 57 _ _ _ = _
    rw [r_law_2a, ri4, obs1]
    have lp2 := forL_inv (g := fun σ x => asg f_law.N σ (forT (stAt f_law.body 3)) x) (body := fun σ => exs ⟨f_law.N, hd.G, callN T hd.G (k1 + 1)⟩ 55 σ (forB (stAt f_law.body 3)))
      (fun _ σ => ∃ t3 t4 t5 t6 t7 t8, σ = [Sl.sh (.list (ns.map .int)), Sl.sh (.list (ds.map .int)), Sl.sh (.list (l.map enc)), t3, t4, t5, t6, t7, t8])
      (intRange 0 4) 0 [Sl.sh (.list (ns.map .int)), Sl.sh (.list (ds.map .int)), Sl.sh (.list (l.map enc)), t3, t4, t5, Sl.un, Sl.un, Sl.un] ⟨_, _, _, _, _, _, rfl⟩ ?_
    · obtain ⟨σ2, q2, u3, u4, u5, u6, u7, u8, rfl⟩ := lp2
      rw [q2, obs1]
      show exsK _ 56 _ _ _ = _
      rw [r_law_3a]
      have fi : Fit6 (.t2 .fn (.t0 .int) (.t0 .int)) := ⟨by decide, by decide⟩
      have fh : Fit6 hole := ⟨by decide, by decide⟩
      have fg : Fit6 (.t2 .fn hole (.t0 .int)) := ⟨by decide, by decide⟩
      have e1 : callN T hd.G (k1 + 1) "safe" [(PyData.tuple [(PyData.str "fun"), (PyData.tuple [(PyData.str "int")]), (PyData.tuple [(PyData.str "int")])]), (PyData.tuple [(PyData.str "?")]), (PyData.bool false)] = some (.bool false) := by
        have := v_safe fi fh false (k := k1 + 1) (by omega)
        rw [safe_ah] at this; exact this
      have e2 : callN T hd.G (k1 + 1) "safe" [(PyData.tuple [(PyData.str "fun"), (PyData.tuple [(PyData.str "?")]), (PyData.tuple [(PyData.str "int")])]), (PyData.tuple [(PyData.str "?")]), (PyData.bool false)] = some (.bool true) := by
        have := v_safe fg fh false (k := k1 + 1) (by omega)
        rw [safe_ah] at this; exact this
      rw [e1, e2]; rfl
    · rintro j hj σ ⟨t3, t4, t5, t6, t7, t8, rfl⟩
      have hx := range_at hj
      refine ⟨_, r_law_3g _ _ _ _ _ _ _ _ _ _, ?_⟩
      rw [hx]
      obtain ⟨a4, a5, a6, a7, a8, e⟩ := turn3 hd0 (k := k1 + 1) (by omega) (.list (ns.map .int)) (.list (l.map enc)) t4 t5 t6 t7 t8 j
      exact ⟨_, e, _, _, _, _, _, _, rfl⟩
  · rintro j hj σ ⟨t3, t4, t5, rfl⟩
    have hx := range_at hj
    refine ⟨_, r_law_2g _ _ _ _ _ _ _ _ _ _, ?_⟩
    rw [hx]
    obtain ⟨a4, a5, e⟩ := turn2 hd0 sl (k := k1 + 1) (by omega) (.list (ns.map .int)) t4 t5 j
    exact ⟨_, e, _, _, _, rfl⟩
end K06

theorem PySem.Challenge.cw_typedbydegrees_k06_whole_casts_that_are_holds : PySem.Challenge.rw_typedbydegrees_k06_whole_casts_that_are.Holds := by
  exact K06.holds_of (k := 100) ⟨rfl, by decide, by decide⟩ fun ns _ _ => K06.law_true ns 100 (by decide)

