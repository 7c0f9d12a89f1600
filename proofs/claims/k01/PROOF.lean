import PyProof.Rows.All
import Wide.All
import OpenK.AllK
import Wide.FinOn
import PySem.PyData
import PySem.Syntax
import PyProof.ReprReads
import PyProof.EqAt
import PyProof.EqKinds
import PyProof.TupleCall
import HandS.ForMost
import HandS.Exc
import HandS.ExcInit
import HandS.Lambda
import HandS.IsInst
import KE.DataEq
import KE.DataAny
import HandS.ExcIs
import KE.KExcIs
import HandS.TupAny
import HandS.Property
import HandS.MakeKw
import HandS.ExcField
import KE.GoesEnum
import KE.GoesMore
import HandS.Iter
import HandS.Comp
import HandS.Dict
import HandS.TryOnly
import HandS.List
import HandS.Small
import HandS.Style
import HandS.More
import HandS.Defaults
import HandS.WideBits
import HandS.Conv
import HandS.ExcValue
import HandS.Text
import HandS.CallRecv
import HandS.HeadWalk
import HandS.DictComp
import HandS.HeadHook4
import HandS.Head2
import PyProof.ReprLen
import PyProof.StrLawsRepr
import PyProof.FitsInt
import PySem.Challenge.RW_wholestory_k01_errors_by_class
set_option Elab.async false
set_option linter.all false
set_option autoImplicit false
/-! D0: a small core language, its data, its interpreter. Plain Lean: no heap, no model. -/
namespace WS
open PySem

/-- data: trees. loc n (the n-th cell of the store) stands at the top alone -/
inductive DV where
  | non
  | bl (b : Bool)
  | int (i : Int)
  | str (x : Str)
  | tup (xs : List DV)
  | lst (xs : List DV)
  | dct (kvs : List (DV × DV))
  | ins (c : Nat) (fs : List (Str × DV))
  | exc (c : Nat) (fs : List (Str × DV))
  /-- the law's script -/
  | scr (ns : List Int)
  | loc (n : Nat)
  deriving Inhabited

/-- what may be changed in place -/
inductive Cell where
  | lst (xs : List DV)
  | dct (kvs : List (DV × DV))
  | ins (c : Nat) (fs : List (Str × DV))
  /-- changed no more: a tree holds it -/
  | frz (d : DV)
  deriving Inhabited

abbrev S := List Cell
abbrev Env := List (Option DV)

inductive Res (α : Type) where
  | ok (a : α) (s : S)
  | err (c : Nat) (fs : List (Str × DV)) (s : S)
  | stuck
abbrev M (α : Type) := S → Res α
@[reducible] def M.pure {α : Type} (a : α) : M α := fun s => .ok a s
def Res.bind {α β : Type} (r : Res α) (f : α → S → Res β) : Res β := match r with
  | .ok a s => f a s
  | .err c fs s => .err c fs s
  | .stuck => .stuck
@[reducible] def M.bind {α β : Type} (m : M α) (f : α → M β) : M β := fun s => (m s).bind f
instance : Monad M where
  pure := M.pure
  bind := M.bind
@[simp] theorem bind_ok {α β : Type} (a : α) (s : S) (f : α → S → Res β) : (Res.ok a s).bind f = f a s := rfl
@[simp] theorem bind_err {α β : Type} (c : Nat) (fs : List (Str × DV)) (s : S) (f : α → S → Res β) : (Res.err c fs s : Res α).bind f = .err c fs s := rfl
@[simp] theorem bind_stuck {α β : Type} (f : α → S → Res β) : (Res.stuck : Res α).bind f = .stuck := rfl
def ofO {α : Type} (o : Option α) : M α := fun s => match o with
  | some a => .ok a s
  | none => .stuck
@[simp] theorem ofO_some {α : Type} (a : α) (s : S) : ofO (some a) s = .ok a s := rfl
@[simp] theorem ofO_none {α : Type} (s : S) : ofO (none : Option α) s = .stuck := rfl

/-! ### the store -/
/-- the items of a list, as it stands -/
def listOf (s : S) : DV → Option (List DV)
  | .lst xs => some xs
  | .loc n => match s[n]? with
    | some (.lst xs) => some xs
    | some (.frz (.lst xs)) => some xs
    | _ => none
  | _ => none
/-- of a list or a tuple -/
def seqOf (s : S) : DV → Option (List DV)
  | .tup xs => some xs
  | .scr ns => some (ns.map .int)
  | d => listOf s d
def dictOf (s : S) : DV → Option (List (DV × DV))
  | .dct xs => some xs
  | .loc n => match s[n]? with
    | some (.dct xs) => some xs
    | some (.frz (.dct xs)) => some xs
    | _ => none
  | _ => none
def insOf (s : S) : DV → Option (Nat × List (Str × DV))
  | .ins c fs => some (c, fs)
  | .loc n => match s[n]? with
    | some (.ins c fs) => some (c, fs)
    | some (.frz (.ins c fs)) => some (c, fs)
    | _ => none
  | _ => none
def Cell.tree : Cell → DV
  | .lst xs => .lst xs
  | .dct kvs => .dct kvs
  | .ins c fs => .ins c fs
  | .frz d => d
/-- no loc stands at a dict's values -/
def plainKv : List (DV × DV) → Bool
  | [] => true
  | (_, .loc _) :: _ => false
  | _ :: r => plainKv r
/-- a value that is laid into another one: a cell becomes a tree for good -/
def embed : DV → M DV
  | .loc n, s => match s[n]? with
    | some (.lst xs) => .ok (.lst xs) (s.set n (.frz (.lst xs)))
    | some (.dct kvs) => if plainKv kvs then .ok (.dct kvs) (s.set n (.frz (.dct kvs))) else .stuck
    | some (.frz d) => .ok d s
    | _ => .stuck
  | d, s => .ok d s

/-! ### scalar keys -/
inductive SK where
  | i (n : Int)
  | s (x : Str)
  deriving DecidableEq
def skOf : DV → Option SK
  | .int n => some (.i n)
  | .str x => some (.s x)
  | _ => none
def SK.dv : SK → DV
  | .i n => .int n
  | .s x => .str x
def dget (k : SK) : List (DV × DV) → Option DV
  | [] => none
  | (q, v) :: r => if skOf q = some k then some v else dget k r
def dput (k : SK) (v : DV) (kvs : List (DV × DV)) : List (DV × DV) :=
  if (kvs.any fun p => decide (skOf p.1 = some k)) = true then kvs.map (fun p => if skOf p.1 = some k then (p.1, v) else p) else kvs ++ [(k.dv, v)]

/-! ### syntax -/
/-- a default: of which def, which one; what it is -/
abbrev Df := (Nat × Nat) × DV
inductive Op2 where
  | add | sub | mul | fdiv | md | pow
  deriving DecidableEq, Inhabited
inductive Cmp where
  | eq | ne | lt | le | gt | ge | isin | nin | isN | isnN
  deriving DecidableEq, Inhabited
inductive Ty where
  | int | bool | str | list | tuple | dict | own (c : Nat) | exc (c : Nat) | valueError
  deriving DecidableEq, Inhabited
inductive Prim where
  | len | repr | abs | min2 | max2 | all | any | list | tuple | sorted | int | str | sum | dict
  deriving DecidableEq, Inhabited
/-- where an item goes -/
inductive Tg where
  | one (i : Nat)
  | many (is : List Nat)
  deriving Inhabited
mutual
inductive E where
  | var (i : Nat)
  | cst (d : DV)
  | glo (x : Str) (d : DV)
  | op2 (o : Op2) (a b : E)
  | neg (a : E)
  | cmp (o : Cmp) (a b : E)
  | chn (o p : Cmp) (a b c : E)
  | and (a b : E)
  | or (a b : E)
  | not (a : E)
  | ite (c a b : E)
  | tup (es : Es)
  | lst (es : Es)
  | dct (es : Es)
  | sub (a i : E)
  | slc (a lo hi : E) (fl fh : Bool)
  | call (f : Nat) (es : Es)
  | callK (f : Nat) (es ks : Es) (perm : List (Nat ⊕ Df))
  | mk (c : Nat) (es : Es)
  | mkK (c : Nat) (es ks : Es) (perm : List (Nat ⊕ Df))
  /-- an own exception as a value; one whose class has no __init__ -/
  | mkX (c : Nat) (es ks : Es) (perm : List (Nat ⊕ Df))
  | mkX0 (c : Nat) (a : E)
  | attr (a : E) (x : Str)
  | prim (p : Prim) (es : Es)
  | isi (a : E) (ts : List Ty)
  | comp (t : Tg) (elt : E) (src : Sr) (c : E)
  | dcomp (t : Tg) (k v : E) (src : Sr) (c : E)
  /-- a fresh list or dict, as a new cell -/
  | new (e : E)
  | newD (es : Es)
  | lam (g : Nat) (e : E)
  | pop0 (a : E)
  | popL (a : E)
  | popI (a i : E)
  /-- own classes: a[i], a in b, len(a), a.x(..) -/
  | itemI (a i : E)
  | hasI (ng : Bool) (a b : E)
  | lenI (a : E)
  | meth (a : E) (x : Str) (alts : List (Nat × List (Nat ⊕ Df))) (es ks : Es)
  | join (a b : E)
  | rev (a : E)
  /-- a cell becomes a tree -/
  | emb (a : E)
inductive Es where
  | nil
  | cons (e : E) (r : Es)
inductive Sr where
  | val (e : E)
  | range (e : E)
  | range2 (a b : E)
  | enum (e : E)
end
inductive St where
  | set (i : Nat) (e : E)
  | setT (is : List Nat) (e : E)
  | par (i j : Nat) (a b : E)
  | par3 (i j l : Nat) (a b c : E)
  | put (a k v : E)
  | fld (i : Nat) (x : Str) (e : E)
  | exp (e : E)
  | app (a e : E)
  | insr (a i e : E)
  | ife (c : E) (a b : List St)
  | forS (t : Tg) (src : Sr) (body : List St)
  | whl (c : E) (body : List St)
  | ret (e : E)
  | rais (c : Nat) (es : Es)
  | brk | cnt | pas

inductive Flow where
  | nxt (env : Env)
  | ret (d : DV)
  | brk (env : Env)
  | cnt (env : Env)

/-! ### plain data -/
mutual
def plainD : DV → Bool
  | .non => true
  | .bl _ => true
  | .int _ => true
  | .str _ => true
  | .tup xs => plainL xs
  | .lst xs => plainL xs
  | .dct _ => false
  | .ins _ _ => false
  | .exc _ _ => false
  | .scr _ => false
  | .loc _ => false
def plainL : List DV → Bool
  | [] => true
  | x :: xs => plainD x && plainL xs
end
mutual
def deq : DV → DV → Bool
  | .non, .non => true
  | .bl a, .bl b => a == b
  | .bl a, .int j => (if a then 1 else 0) == j
  | .int i, .bl b => i == (if b then 1 else 0)
  | .int i, .int j => i == j
  | .str x, .str y => x == y
  | .lst xs, .lst ys => deqL xs ys
  | .tup xs, .tup ys => deqL xs ys
  | _, _ => false
def deqL : List DV → List DV → Bool
  | [], [] => true
  | x :: xs, y :: ys => deq x y && deqL xs ys
  | _, _ => false
end
mutual
def depthD : DV → Nat
  | .tup xs => depthL xs + 1
  | .lst xs => depthL xs + 1
  | _ => 0
def depthL : List DV → Nat
  | [] => 0
  | x :: xs => max (depthD x) (depthL xs)
end
/-- a value as a tree, to be looked at -/
def treeOf (s : S) : DV → Option DV
  | .loc n => match s[n]? with
    | some (.lst xs) => some (.lst xs)
    | some (.dct kvs) => if plainKv kvs then some (.dct kvs) else none
    | some (.frz d) => some d
    | _ => none
  | d => some d
def LIM : Nat := 16777216
/-- the line of factors -/
def MBIG : Nat := 2 ^ 4096

/-! ### operators -/
/-- a text, so many times -/
def srep (x : Str) (n : Int) : Str := if n < 1 then Str.empty else if (n == 1 || x.length == 0) = true then x else ⟨(List.replicate n.toNat x.cps).foldl (· ++ ·) #[]⟩
def sem2 : Op2 → DV → DV → S → Option DV
  | .add, .int i, .int j, _ => some (.int (i + j))
  | .add, .str x, .str y, _ => if x.length + y.length ≤ LIM then some (.str (x ++ y)) else none
  | .add, a, b, s => match listOf s a, listOf s b with
    | some xs, some ys => if xs.length ≤ LIM ∧ ys.length ≤ LIM ∧ xs.length + ys.length ≤ LIM then some (.lst (xs ++ ys)) else none
    | _, _ => none
  | .sub, .int i, .int j, _ => some (.int (i - j))
  | .mul, .int i, .int j, _ => if i.natAbs < MBIG ∧ j.natAbs < MBIG then some (.int (i * j)) else none
  | .mul, .str x, .int j, _ => if 0 ≤ j ∧ j ≤ 1000 ∧ x.length ≤ 1000 then some (.str (srep x j)) else none
  | .mul, a, .int j, s => match listOf s a with
    | some xs => if 0 ≤ j ∧ j ≤ 1000 ∧ xs.length ≤ 1000 then some (.lst (List.replicate j.toNat xs).flatten) else none
    | none => none
  | .fdiv, .int i, .int j, _ => if 0 < j ∧ j < 1073741824 then some (.int (i / j)) else none
  | .md, .int i, .int j, _ => if 0 < j then some (.int (i % j)) else none
  | .pow, .int i, .int j, _ => if 0 ≤ j ∧ j ≤ 1000000 ∧ i.natAbs < 2 ^ 64 then some (.int (i ^ j.toNat)) else none
  | _, _, _, _ => none
/-- y stands in x -/
def inStr (y x : Str) : Bool := (List.range (x.cps.size + 1)).any fun i => (x.cps.toList.drop i).take y.cps.size == y.cps.toList
def isNon : DV → Bool
  | .non => true
  | _ => false
/-- None, bools, numbers, texts -/
def flatD : DV → Bool
  | .non => true
  | .bl _ => true
  | .int _ => true
  | .str _ => true
  | _ => false
/-- a flat value among flat ones -/
def inSeq (a b : DV) (s : S) : Option Bool := match seqOf s b with
  | some xs => if flatD a && xs.all flatD then some (xs.any fun y => deq y a) else none
  | none => match dictOf s b, skOf a with
    | some kvs, some q => some (dget q kvs).isSome
    | _, _ => none
/-- two lists that are not of one length -/
def lenNe : DV → DV → Bool
  | .lst xs, .lst ys => xs.length != ys.length
  | _, _ => false
/-- x == y -/
def eqT (x y : DV) : Option Bool := if plainD x && plainD y && decide (depthD x ≤ 60) && decide (depthD y ≤ 60) then some (deq x y) else if lenNe x y then some false else none
def semC : Cmp → DV → DV → S → Option Bool
  | .eq, a, b, s => match treeOf s a, treeOf s b with
    | some x, some y => eqT x y
    | _, _ => none
  | .ne, a, b, s => match treeOf s a, treeOf s b with
    | some x, some y => (eqT x y).map (!·)
    | _, _ => none
  | .lt, .int i, .int j, _ => some (decide (i < j))
  | .le, .int i, .int j, _ => some (decide (i ≤ j))
  | .gt, .int i, .int j, _ => some (decide (j < i))
  | .ge, .int i, .int j, _ => some (decide (j ≤ i))
  | .isN, a, .non, _ => some (isNon a)
  | .isnN, a, .non, _ => some (!isNon a)
  | .isin, .str c, .str z, _ => if c.cps.size = 1 then some (decide (c.cps.getD 0 0 ∈ z.cps.toList)) else none
  | .nin, .str c, .str z, _ => if c.cps.size = 1 then some (!decide (c.cps.getD 0 0 ∈ z.cps.toList)) else none
  | .isin, a, b, s => inSeq a b s
  | .nin, a, b, s => (inSeq a b s).map (!·)
  | _, _, _, _ => none
def isTy (subs : Nat → List Nat) : DV → Ty → Option Bool
  | .non, _ => some false
  | .bl _, .bool => some true
  | .bl _, .int => some true
  | .bl _, _ => some false
  | .int _, .int => some true
  | .int _, _ => some false
  | .str _, .str => some true
  | .str _, _ => some false
  | .tup _, .tuple => some true
  | .tup _, _ => some false
  | .lst _, .list => some true
  | .lst _, _ => some false
  | .dct _, .dict => some true
  | .dct _, _ => some false
  | .ins c _, .own d => some (c == d)
  | .ins _ _, _ => some false
  | .exc c _, .exc d => some ((subs c).contains d)
  | .exc _ _, .valueError => some true
  | .exc _ _, _ => some false
  | .scr _, .list => some true
  | .scr _, _ => some false
  | .loc _, _ => none
def isAny (subs : Nat → List Nat) (d : DV) : List Ty → Option Bool
  | [] => some false
  | t :: r => match isTy subs d t with
    | some true => some true
    | some false => isAny subs d r
    | none => none
def boolsOf : List DV → Option (List Bool)
  | [] => some []
  | .bl b :: r => (boolsOf r).map (b :: ·)
  | _ :: _ => none
/-- texts in their order -/
def ltC : List Nat → List Nat → Bool
  | [], [] => false
  | [], _ :: _ => true
  | _ :: _, [] => false
  | a :: r, b :: t => a < b || (a == b && ltC r t)
def insS (x : Str) : List Str → List Str
  | [] => [x]
  | y :: r => if ltC y.cps.toList x.cps.toList then y :: insS x r else x :: y :: r
def sortS : List Str → List Str
  | [] => []
  | x :: r => insS x (sortS r)
def strsOf : List DV → Option (List Str)
  | [] => some []
  | .str x :: r => (strsOf r).map (x :: ·)
  | _ :: _ => none
mutual
/-- data as the library's data, to be shown -/
def toPyR : DV → PyData
  | .bl b => .bool b
  | .int i => .int i
  | .str x => .str x
  | .tup xs => .tuple (toPyRL xs)
  | .lst xs => .list (toPyRL xs)
  | .dct kvs => .dict (toPyRK kvs)
  | _ => .none
def toPyRL : List DV → List PyData
  | [] => []
  | x :: xs => toPyR x :: toPyRL xs
def toPyRK : List (DV × DV) → List (PyData × PyData)
  | [] => []
  | (k, v) :: r => (toPyR k, toPyR v) :: toPyRK r
end
mutual
/-- what repr shows -/
def showD : DV → Bool
  | .non => true
  | .bl _ => true
  | .int i => decide (i.natAbs.log2 < 1920)
  | .str _ => true
  | .tup xs => showL xs
  | .lst xs => showL xs
  | .dct kvs => showK kvs
  | _ => false
def showL : List DV → Bool
  | [] => true
  | x :: xs => showD x && showL xs
def showK : List (DV × DV) → Bool
  | [] => true
  | (k, v) :: r => (skOf k).isSome && (showD k && (showD v && showK r))
end
def reprD (d : DV) : Str := (toPyR d).shown
def semP : Prim → List DV → S → Option DV
  | .len, [.str x], _ => if x.length ≤ LIM then some (.int x.length) else none
  | .len, [d], s => match seqOf s d with
    | some xs => some (.int xs.length)
    | none => (dictOf s d).map fun kvs => .int kvs.length
  | .repr, [d], s => match treeOf s d with
    | some t => if showD t && decide ((toPyR t).depth ≤ 60) && decide ((reprD t).length ≤ LIM) then some (.str (reprD t)) else none
    | none => none
  | .abs, [.int i], _ => some (.int (if i < 0 then -i else i))
  | .min2, [.int i, .int j], _ => some (.int (if j < i then j else i))
  | .max2, [.int i, .int j], _ => some (.int (if j > i then j else i))
  | .all, [d], s => match listOf s d with
    | some xs => (boolsOf xs).map fun bs => .bl (bs.all id)
    | none => none
  | .any, [d], s => match listOf s d with
    | some xs => (boolsOf xs).map fun bs => .bl (bs.any id)
    | none => none
  | .list, [d], s => match seqOf s d with
    | some xs => some (.lst xs)
    | none => (dictOf s d).map fun kvs => .lst (kvs.map (·.1))
  | .tuple, [d], s => (seqOf s d).map .tup
  | .sorted, [d], s => match seqOf s d with
    | some xs => (strsOf xs).bind fun ss => if ss.length < 64 then some (.lst ((sortS ss).map .str)) else none
    | none => match dictOf s d with
      | some kvs => (strsOf (kvs.map (·.1))).bind fun ss => if ss.length < 64 then some (.lst ((sortS ss).map .str)) else none
      | none => none
  | .int, [.int i], _ => some (.int i)
  | .int, [.bl b], _ => some (.int (if b then 1 else 0))
  | _, _, _ => none
/-- the place of an index -/
def ixOf (n : Nat) (i : Int) : Option Nat := if 0 ≤ i then (if i < n then some i.toNat else none) else if -(n : Int) ≤ i then some (i + n).toNat else none
def semSub (a i : DV) (s : S) : Option DV := match i with
  | .int k => match a with
    | .str x => if x.length ≤ LIM then ((ixOf x.cps.size k).bind fun j => x.cps[j]?).map fun c => .str ⟨#[c]⟩ else none
    | _ => match seqOf s a with
      | some xs => (ixOf xs.length k).bind fun j => xs[j]?
      | none => (dictOf s a).bind fun kvs => dget (.i k) kvs
  | .str x => (dictOf s a).bind fun kvs => dget (.s x) kvs
  | _ => none
/-- the bounds of a slice -/
def cutIx (n d : Nat) : Option Int → Nat
  | none => d
  | some k => if k < 0 then (k + (n : Int)).toNat else min k.toNat n
def cut {α : Type} (xs : List α) (lo hi : Option Int) : List α := (xs.drop (cutIx xs.length 0 lo)).take (cutIx xs.length xs.length hi - cutIx xs.length 0 lo)
def semSlc (a : DV) (lo hi : Option Int) (s : S) : Option DV := match a with
  | .tup xs => if cutIx xs.length 0 lo = 0 ∧ cutIx xs.length xs.length hi = xs.length then some (.tup xs) else some (.tup (cut xs lo hi))
  | .str x => if x.length ≤ LIM then some (.str ⟨(cut x.cps.toList lo hi).toArray⟩) else none
  | _ => (listOf s a).map fun xs => .lst (cut xs lo hi)
/-- a slice's part -/
def partOf : DV → Option (Option Int)
  | .int i => some (some i)
  | _ => none
def fget (x : Str) : List (Str × DV) → Option DV
  | [] => none
  | (y, d) :: r => if y = x then some d else fget x r
def fput (x : Str) (d : DV) : List (Str × DV) → List (Str × DV)
  | [] => [(x, d)]
  | (y, e) :: r => if y = x then (x, d) :: r else (y, e) :: fput x d r
/-- the signs of a text -/
def signs (x : Str) : List DV := x.cps.toList.map fun c => .str ⟨#[c]⟩

/-! ### the program's table -/
structure Fn where
  ns : Nat
  body : List St
structure Cl where
  init : Nat
  props : List (Str × Nat)
  meths : List (Str × Nat) := []
structure Pg where
  fn : Nat → Option Fn
  cl : Nat → Option Cl
  /-- an exception's class: its fields' names, the classes above it (itself too) -/
  ex : Nat → Option (List Str)
  up : Nat → List Nat
  /-- what a catcher catches -/
  catches : Nat → Option Nat

/-- a value's class is one of the table -/
def dvOk (P : Pg) : DV → Bool
  | .ins c _ => (P.cl c).isSome
  | .exc c _ => (P.ex c).isSome
  | _ => true
/-! ### expressions -/
section
variable (P : Pg) (call : Nat → List DV → M DV)
def embedAll : List DV → M (List DV)
  | [], s => .ok [] s
  | d :: r, s => (embed d s).bind fun d' s1 => (embedAll r s1).bind fun r' s2 => .ok (d' :: r') s2
def permute (vs ks : List DV) : List (Nat ⊕ Df) → Option (List DV)
  | [] => some []
  | .inl i :: r => match (vs ++ ks)[i]?, permute vs ks r with
    | some d, some t => some (d :: t)
    | _, _ => none
  | .inr d :: r => (permute vs ks r).map (d.2 :: ·)
/-- no loc from k on stands at a cell's values -/
def okCell (k : Nat) : Cell → Bool
  | .dct kvs => kvs.all fun p => match p.2 with
    | .loc m => decide (m < k)
    | _ => true
  | _ => true
/-- the first k cells may stand alone -/
def okCells (k : Nat) (s0 s : S) : Prop := s.take k = s0 ∨ (s.take k).all (okCell k) = true
open Classical in
/-- C(..): the new instance is a cell while __init__ runs -/
noncomputable def make (c : Nat) (vs : List DV) : M DV := fun s => match P.cl c with
  | none => .stuck
  | some k => match call k.init (.loc s.length :: vs) (s ++ [.ins c []]) with
    | .ok .non s' => (match s'[s.length]? with
      | some (.ins c' fs) => if c' = c ∧ okCells s.length s s' then .ok (.ins c fs) (s'.take s.length) else .stuck
      | _ => .stuck)
    | .ok _ _ => .stuck
    | .err c fs s' => if okCells s.length s s' then .err c fs (s'.take s.length) else .stuck
    | .stuck => .stuck
def noErr {α : Type} : Res α → Res α
  | .ok a s => .ok a s
  | _ => .stuck
def getAttr (d : DV) (x : Str) : M DV := fun s => match d with
  | .exc c fs => if (P.ex c).isSome then ofO (fget x fs) s else .stuck
  | _ => match insOf s d with
    | some (c, fs) => match P.cl c with
      | some k => match k.props.lookup x with
        | some f => noErr (call f [d] s)
        | none => ofO (fget x fs) s
      | none => .stuck
    | none => .stuck
def dictFrom : List DV → Option (List (DV × DV))
  | [] => some []
  | [_] => none
  | k :: v :: r => (dictFrom r).map ((k, v) :: ·)
/-- a display's entries, from the left -/
def dictMerge (acc : List (DV × DV)) : List (DV × DV) → Option (List (DV × DV))
  | [] => some acc
  | (k, v) :: r => match skOf k with
    | some q => dictMerge (dput q v acc) r
    | none => none
/-- what is walked: the items; the cell that must stay as it is meanwhile -/
structure Sq where
  xs : List DV
  g : Option (Nat × List DV)
def Sq.ok (q : Sq) (s : S) : Prop := match q.g with
  | none => True
  | some (n, ys) => listOf s (.loc n) = some ys
open Classical in
/-- a comprehension's turns -/
noncomputable def mapIf (ok : S → Prop) (c : DV → M Bool) (f : DV → M DV) : List DV → M (List DV)
  | [], s => if ok s then .ok [] s else .stuck
  | d :: r, s => if ok s then (c d s).bind fun b s0 => if b then (f d s0).bind fun y s1 => (embed y s1).bind fun y' s2 => (mapIf ok c f r s2).bind fun ys s3 => .ok (y' :: ys) s3 else mapIf ok c f r s0 else .stuck
open Classical in
/-- a dict comprehension's turns -/
noncomputable def dictIf (ok : S → Prop) (c : DV → M Bool) (fk fv : DV → M DV) : List DV → List (DV × DV) → M (List (DV × DV))
  | [], acc, s => if ok s then .ok acc s else .stuck
  | d :: r, acc, s => if ok s then (c d s).bind fun b s0 => if b then (fk d s0).bind fun k s1 => (fv d s1).bind fun v s2 => (embed v s2).bind fun v' s3 => match skOf k with
      | some q => dictIf ok c fk fv r (dput q v' acc) s3
      | none => .stuck
    else dictIf ok c fk fv r acc s0 else .stuck
def asB (r : Res DV) : Res Bool := r.bind fun d s => match d with
  | .bl b => .ok b s
  | _ => .stuck
/-- several names get a tuple's items -/
def setAll (env : Env) : List Nat → DV → Option Env
  | is, .tup xs => if is.length = xs.length then some ((is.zip xs).foldl (fun e p => e.set p.1 (some p.2)) env) else none
  | _, _ => none
def setTg (env : Env) : Tg → DV → Option Env
  | .one i, d => some (env.set i (some d))
  | .many is, d => setAll env is d
/-- what is fresh becomes a cell -/
def cellOf : DV → Option Cell
  | .lst xs => some (.lst xs)
  | .dct kvs => some (.dct kvs)
  | _ => none
def popAt (first : Bool) (d : DV) : M DV := fun s => match d with
  | .loc n => match s[n]? with
    | some (.lst xs) => if first then (match xs with
      | x :: r => .ok x (s.set n (.lst r))
      | [] => .stuck) else (match xs.getLast? with
      | some x => .ok x (s.set n (.lst xs.dropLast))
      | none => .stuck)
    | _ => .stuck
  | _ => .stuck
/-- the item at a place goes -/
def popNth (d k : DV) : M DV := fun s => match d, k with
  | .loc n, .int j => match s[n]? with
    | some (.lst xs) => match ixOf xs.length j with
      | some m => match xs[m]? with
        | some x => if xs.length ≤ LIM then .ok x (s.set n (.lst (xs.eraseIdx m))) else .stuck
        | none => .stuck
      | none => .stuck
    | _ => .stuck
  | _, _ => .stuck
/-- the def behind a method's name: the class, the def -/
def methOf (P : Pg) (s : S) (d : DV) (x : Str) : Option (Nat × Nat) := (insOf s d).bind fun p => (P.cl p.1).bind fun k => if (fget x p.2).isNone then (k.meths.lookup x).map fun f => (p.1, f) else none
def callM (d : DV) (x : Str) (args : List DV) : M DV := fun s => match methOf P s d x with
  | some p => call p.2 (d :: args) s
  | none => .stuck
/-- sep.join(texts) -/
def semJoin (a b : DV) (s : S) : Option DV := match a with
  | .str sep => (listOf s b).bind fun xs => (strsOf xs).bind fun ss => if (ss.map (·.length)).sum + ss.length * sep.length ≤ 16777216 then some (.str (Str.join sep ss)) else none
  | _ => none
def rangeL (i j : Int) : List DV := (List.range (j - i).toNat).map fun k => .int (i + (k : Nat))
mutual
noncomputable def ev : E → Env → M DV
  | .var i, env, s => match env[i]? with
    | some (some d) => .ok d s
    | _ => .stuck
  | .cst d, _, s => .ok d s
  | .glo _ d, _, s => .ok d s
  | .op2 o a b, env, s => (ev a env s).bind fun x s1 => (ev b env s1).bind fun y s2 => ofO (sem2 o x y s2) s2
  | .neg a, env, s => (ev a env s).bind fun x s1 => match x with
    | .int i => .ok (.int (-i)) s1
    | _ => .stuck
  | .cmp o a b, env, s => (ev a env s).bind fun x s1 => (ev b env s1).bind fun y s2 => ofO ((semC o x y s2).map .bl) s2
  | .chn o p a b c, env, s => (ev a env s).bind fun x s1 => (ev b env s1).bind fun y s2 => (ofO (semC o x y s2) s2).bind fun k s3 =>
      if k then (ev c env s3).bind fun z s4 => ofO ((semC p y z s4).map .bl) s4 else .ok (.bl false) s3
  | .and a b, env, s => (asB (ev a env s)).bind fun k s1 => if k then (asB (ev b env s1)).bind fun k' s2 => .ok (.bl k') s2 else .ok (.bl false) s1
  | .or a b, env, s => (asB (ev a env s)).bind fun k s1 => if k then .ok (.bl true) s1 else (asB (ev b env s1)).bind fun k' s2 => .ok (.bl k') s2
  | .not a, env, s => (asB (ev a env s)).bind fun k s1 => .ok (.bl (!k)) s1
  | .ite c a b, env, s => (asB (ev c env s)).bind fun k s1 => if k then ev a env s1 else ev b env s1
  | .tup es, env, s => (evs es env s).bind fun vs s1 => (embedAll vs s1).bind fun ds s2 => .ok (.tup ds) s2
  | .lst es, env, s => (evs es env s).bind fun vs s1 => (embedAll vs s1).bind fun ds s2 => .ok (.lst ds) s2
  | .dct es, env, s => (evs es env s).bind fun vs s1 => (embedAll vs s1).bind fun ds s2 => ofO (((dictFrom ds).bind (dictMerge [])).bind fun kvs => if plainKv kvs then some (.dct kvs) else none) s2
  | .sub a i, env, s => (ev a env s).bind fun x s1 => (ev i env s1).bind fun y s2 => ofO (semSub x y s2) s2
  | .slc a lo hi fl fh, env, s => (ev a env s).bind fun x s1 => (if fl then (ev lo env s1).bind fun l s2 => ofO (partOf l) s2 else .ok none s1).bind fun l s2 => (if fh then (ev hi env s2).bind fun h s3 => ofO (partOf h) s3 else .ok none s2).bind fun h s3 => ofO (semSlc x l h s3) s3
  | .call f es, env, s => (evs es env s).bind fun vs s1 => call f vs s1
  | .callK f es ks p, env, s => (evs es env s).bind fun vs s1 => (evs ks env s1).bind fun ws s2 => (ofO (permute vs ws p) s2).bind fun us s3 => call f us s3
  | .mk c es, env, s => (evs es env s).bind fun vs s1 => make P call c vs s1
  | .mkK c es ks p, env, s => (evs es env s).bind fun vs s1 => (evs ks env s1).bind fun ws s2 => (ofO (permute vs ws p) s2).bind fun us s3 => make P call c us s3
  | .mkX c es ks p, env, s => (evs es env s).bind fun vs s1 => (evs ks env s1).bind fun ws s2 => (ofO (permute vs ws p) s2).bind fun us s3 => (embedAll us s3).bind fun ds s4 => match P.ex c with
    | some xs => if xs.length = ds.length then .ok (.exc c (xs.zip ds).reverse) s4 else .stuck
    | none => .stuck
  | .mkX0 c a, env, s => (ev a env s).bind fun _ s1 => match P.ex c with
    | some [] => .ok (.exc c []) s1
    | _ => .stuck
  | .attr a x, env, s => (ev a env s).bind fun d s1 => getAttr P call d x s1
  | .prim p es, env, s => (evs es env s).bind fun vs s1 => ofO (semP p vs s1) s1
  | .isi a ts, env, s => (ev a env s).bind fun d s1 => ofO ((match treeOf s1 d with
    | some t => if dvOk P t then isAny P.up t ts else none
    | none => none).map .bl) s1
  | .comp t elt src c, env, s => (evSr src env s).bind fun q s1 => (noErr (mapIf q.ok (fun d s => match setTg env t d with
    | some e => asB (ev c e s)
    | none => .stuck) (fun d s => match setTg env t d with
    | some e => ev elt e s
    | none => .stuck) q.xs s1)).bind fun ys s2 => .ok (.lst ys) s2
  | .dcomp t k v src c, env, s => (evSr src env s).bind fun q s1 => (noErr (dictIf q.ok (fun d s => match setTg env t d with
    | some e => asB (ev c e s)
    | none => .stuck) (fun d s => match setTg env t d with
    | some e => ev k e s
    | none => .stuck) (fun d s => match setTg env t d with
    | some e => ev v e s
    | none => .stuck) q.xs [] s1)).bind fun kvs s2 => .ok (.dct kvs) s2
  | .new e, env, s => (ev e env s).bind fun d s1 => match cellOf d with
    | some c => .ok (.loc s1.length) (s1 ++ [c])
    | none => .stuck
  | .newD es, env, s => (evs es env s).bind fun vs s1 => match (dictFrom vs).bind (dictMerge []) with
    | some kvs => .ok (.loc s1.length) (s1 ++ [.dct kvs])
    | none => .stuck
  | .lam g e, env, s => match P.catches g with
    | none => .stuck
    | some k => match ev e env s with
      | .ok _ s1 => .ok .non s1
      | .err c fs s1 => if (P.up c).contains k then .ok (.exc c fs) s1 else .stuck
      | .stuck => .stuck
  | .pop0 a, env, s => (ev a env s).bind fun d s1 => popAt true d s1
  | .popL a, env, s => (ev a env s).bind fun d s1 => popAt false d s1
  | .popI a i, env, s => (ev a env s).bind fun d s1 => if (listOf s1 d).isSome then (ev i env s1).bind fun k s2 => popNth d k s2 else .stuck
  | .itemI a i, env, s => (ev a env s).bind fun x s1 => (ev i env s1).bind fun y s2 => callM P call x "__getitem__" [y] s2
  | .hasI ng a b, env, s => (ev a env s).bind fun x s1 => (ev b env s1).bind fun y s2 => (asB (callM P call y "__contains__" [x] s2)).bind fun v s3 => .ok (.bl (if ng then !v else v)) s3
  | .lenI a, env, s => (ev a env s).bind fun x s1 => (callM P call x "__len__" [] s1).bind fun n s2 => match n with
    | .int j => if 0 ≤ j ∧ j < 2 ^ 62 then .ok (.int j) s2 else .stuck
    | _ => .stuck
  | .meth a x alts es ks, env, s => (ev a env s).bind fun d s1 => match methOf P s1 d x with
    | some p => match alts.lookup p.1 with
      | some q => (evs es env s1).bind fun vs s2 => (evs ks env s2).bind fun ws s3 => (ofO (permute vs ws q) s3).bind fun us s4 => call p.2 (d :: us) s4
      | none => .stuck
    | none => .stuck
  | .emb a, env, s => (ev a env s).bind fun x s1 => embed x s1
  | .rev a, env, s => (ev a env s).bind fun x s1 => ofO ((listOf s1 x).map fun xs => .lst xs.reverse) s1
  | .join a b, env, s => (ev a env s).bind fun x s1 => (ev b env s1).bind fun y s2 => ofO (semJoin x y s2) s2
noncomputable def evs : Es → Env → M (List DV)
  | .nil, _, s => .ok [] s
  | .cons e r, env, s => (ev e env s).bind fun d s1 => (evs r env s1).bind fun ds s2 => .ok (d :: ds) s2
noncomputable def evSr : Sr → Env → M Sq
  | .val e, env, s => (ev e env s).bind fun d s1 => match d with
    | .str x => if x.length ≤ LIM then .ok ⟨signs x, none⟩ s1 else .stuck
    | .loc n => match listOf s1 (.loc n) with
      | some xs => .ok ⟨xs, some (n, xs)⟩ s1
      | none => .stuck
    | .dct kvs => .ok ⟨kvs.map (·.1), none⟩ s1
    | d => match seqOf s1 d with
      | some xs => .ok ⟨xs, none⟩ s1
      | none => .stuck
  | .range e, env, s => (ev e env s).bind fun d s1 => match d with
    | .int j => if -(2 ^ 62) ≤ j ∧ j ≤ 16777216 then .ok ⟨rangeL 0 j, none⟩ s1 else .stuck
    | _ => .stuck
  | .range2 a b, env, s => (ev a env s).bind fun d s1 => (ev b env s1).bind fun e s2 => match d, e with
    | .int i, .int j => if -(2 ^ 62) ≤ i ∧ i < 2 ^ 62 ∧ -(2 ^ 62) ≤ j ∧ j < 2 ^ 62 ∧ j - i ≤ 16777216 then .ok ⟨rangeL i j, none⟩ s2 else .stuck
    | _, _ => .stuck
  | .enum e, env, s => (ev e env s).bind fun d s1 => match d with
   | .tup xs => if xs.length ≤ LIM then .ok ⟨(xs.zipIdx).map fun p => .tup [.int (p.2 : Nat), p.1], none⟩ s1 else .stuck
   | d => match listOf s1 d with
    | some xs => if xs.length ≤ LIM then .ok ⟨(xs.zipIdx).map fun p => .tup [.int (p.2 : Nat), p.1], (match d with
      | .loc n => some (n, xs)
      | _ => none)⟩ s1 else .stuck
    | none => .stuck
end
end

/-! ### statements -/
open Classical in
/-- a for loop's turns -/
noncomputable def forL (ok : S → Prop) (f : DV → Env → M Flow) : List DV → Env → M Flow
  | [], env, s => if ok s then .ok (.nxt env) s else .stuck
  | d :: r, env, s => if ok s then (f d env s).bind fun fl s1 => match fl with
    | .nxt e => forL ok f r e s1
    | .cnt e => forL ok f r e s1
    | .brk e => .ok (.nxt e) s1
    | .ret v => .ok (.ret v) s1
    else .stuck
/-- a while loop, k tests at most; none: not yet at its end -/
def iterW (c : Env → M Bool) (f : Env → M Flow) : Nat → Env → S → Option (Res Flow)
  | 0, _, _ => none
  | k + 1, env, s => match c env s with
    | .stuck => some .stuck
    | .err c fs s1 => some (.err c fs s1)
    | .ok false s1 => some (.ok (.nxt env) s1)
    | .ok true s1 => match f env s1 with
      | .stuck => some .stuck
      | .err c fs s2 => some (.err c fs s2)
      | .ok (.nxt e) s2 => iterW c f k e s2
      | .ok (.cnt e) s2 => iterW c f k e s2
      | .ok (.brk e) s2 => some (.ok (.nxt e) s2)
      | .ok (.ret v) s2 => some (.ok (.ret v) s2)
open Classical in
noncomputable def whileM (c : Env → M Bool) (f : Env → M Flow) (env : Env) : M Flow := fun s =>
  if h : ∃ r, ∃ k, iterW c f k env s = some r then h.choose else .stuck
theorem iterW_mono (c : Env → M Bool) (f : Env → M Flow) : ∀ (k : Nat) (env : Env) (s : S) (r : Res Flow), iterW c f k env s = some r → iterW c f (k + 1) env s = some r
  | 0, _, _, _, h => by simp [iterW] at h
  | k + 1, env, s, r, h => by
    rw [iterW] at h ⊢
    cases hc : c env s with
    | stuck => rw [hc] at h; exact h
    | err c' fs s1 => rw [hc] at h; exact h
    | ok b s1 =>
      rw [hc] at h
      cases b with
      | false => exact h
      | true =>
        simp only at h ⊢
        cases hf : f env s1 with
        | stuck => rw [hf] at h; exact h
        | err c' fs s2 => rw [hf] at h; exact h
        | ok fl s2 =>
          rw [hf] at h
          cases fl with
          | nxt e => exact iterW_mono c f k _ _ _ h
          | cnt e => exact iterW_mono c f k _ _ _ h
          | brk e => exact h
          | ret v => exact h
theorem iterW_le {c : Env → M Bool} {f : Env → M Flow} {k m : Nat} {env : Env} {s : S} {r : Res Flow} (h : iterW c f k env s = some r) (hm : k ≤ m) : iterW c f m env s = some r := by
  induction m with
  | zero => obtain rfl : k = 0 := by omega
            exact h
  | succ m ih =>
    by_cases e : k = m + 1
    · subst e; exact h
    · exact iterW_mono c f m _ _ _ (ih (by omega))
theorem whileM_of {c : Env → M Bool} {f : Env → M Flow} {k : Nat} {env : Env} {s : S} {r : Res Flow} (h : iterW c f k env s = some r) : whileM c f env s = r := by
  unfold whileM
  have hx : ∃ r, ∃ k, iterW c f k env s = some r := ⟨r, k, h⟩
  rw [dif_pos hx]
  obtain ⟨k', hk⟩ := hx.choose_spec
  have h1 := iterW_le h (Nat.le_max_left k k')
  have h2 := iterW_le hk (Nat.le_max_right k k')
  rw [h1] at h2
  exact (Option.some.inj h2).symm
/-- a turn more -/
theorem whileM_eq (c : Env → M Bool) (f : Env → M Flow) (env : Env) (s : S) : whileM c f env s = (c env s).bind fun b s1 => if b then (f env s1).bind fun fl s2 => (match fl with
    | .nxt e => whileM c f e s2
    | .cnt e => whileM c f e s2
    | .brk e => .ok (.nxt e) s2
    | .ret v => .ok (.ret v) s2) else .ok (.nxt env) s1 := by
  have key : ∀ e s2, (∀ r k, iterW c f k e s2 = some r → ∃ k', iterW c f k' env s = some r) → (∀ r k, iterW c f (k + 1) env s = some r → iterW c f k e s2 = some r) → whileM c f env s = whileM c f e s2 := by
    intro e s2 h1 h2
    by_cases hx : ∃ r, ∃ k, iterW c f k env s = some r
    · obtain ⟨r, k, hk⟩ := hx
      rw [whileM_of hk, whileM_of (h2 r k (iterW_le hk (Nat.le_succ k)))]
    · have hy : ¬ ∃ r, ∃ k, iterW c f k e s2 = some r := fun ⟨r, k, hk⟩ => hx ⟨r, h1 r k hk⟩
      unfold whileM
      rw [dif_neg hx, dif_neg hy]
  cases hc : c env s with
  | stuck => exact whileM_of (k := 1) (by simp [iterW, hc])
  | err c' fs s1 => exact whileM_of (k := 1) (by simp [iterW, hc])
  | ok b s1 =>
    cases b with
    | false => exact whileM_of (k := 1) (by simp [iterW, hc])
    | true =>
      simp only [bind_ok, if_true]
      cases hf : f env s1 with
      | stuck => exact whileM_of (k := 1) (by simp [iterW, hc, hf])
      | err c' fs s2 => exact whileM_of (k := 1) (by simp [iterW, hc, hf])
      | ok fl s2 =>
        cases fl with
        | nxt e => exact key e s2 (fun r k hk => ⟨k + 1, by simp [iterW, hc, hf, hk]⟩) (fun r k hk => by simpa [iterW, hc, hf] using hk)
        | cnt e => exact key e s2 (fun r k hk => ⟨k + 1, by simp [iterW, hc, hf, hk]⟩) (fun r k hk => by simpa [iterW, hc, hf] using hk)
        | brk e => exact whileM_of (k := 1) (by simp [iterW, hc, hf])
        | ret v => exact whileM_of (k := 1) (by simp [iterW, hc, hf])

section
variable (P : Pg) (call : Nat → List DV → M DV)
def putAt (a k v : DV) : M Unit := fun s => match a with
  | .loc n => match s[n]? with
    | some (.dct kvs) => match skOf k with
      | some q => if kvs.length < LIM then .ok () (s.set n (.dct (dput q v kvs))) else .stuck
      | none => .stuck
    | some (.lst xs) => match k with
      | .int i => match ixOf xs.length i with
        | some j => .ok () (s.set n (.lst (xs.set j v)))
        | none => .stuck
      | _ => .stuck
    | _ => .stuck
  | _ => .stuck
def setFld (a : DV) (x : Str) (v : DV) : M Unit := fun s => match a with
  | .loc n => match s[n]? with
    | some (.ins c fs) => match P.cl c with
      | some k => if k.props.lookup x = none ∧ fs.length < 1000 then .ok () (s.set n (.ins c (fput x v fs))) else .stuck
      | none => .stuck
    | _ => .stuck
  | _ => .stuck
def appAt (a v : DV) : M Unit := fun s => match a with
  | .loc n => match s[n]? with
    | some (.lst xs) => if xs.length < LIM then .ok () (s.set n (.lst (xs ++ [v]))) else .stuck
    | _ => .stuck
  | _ => .stuck
def insAt (a i v : DV) : M Unit := fun s => match a, i with
  | .loc n, .int j => match s[n]? with
    | some (.lst xs) => if xs.length < LIM ∧ 0 ≤ j ∧ j < 2 ^ 63 then .ok () (s.set n (.lst (xs.take j.toNat ++ [v] ++ xs.drop j.toNat))) else .stuck
    | _ => .stuck
  | _, _ => .stuck
mutual
noncomputable def exS : St → Env → M Flow
  | .set i e, env, s => (ev P call e env s).bind fun d s1 => .ok (.nxt (env.set i (some d))) s1
  | .setT is e, env, s => (ev P call e env s).bind fun d s1 => match seqOf s1 d with
    | some xs => if is.length = xs.length then .ok (.nxt ((is.zip xs).foldl (fun e p => e.set p.1 (some p.2)) env)) s1 else .stuck
    | none => .stuck
  | .par i j a b, env, s => (ev P call a env s).bind fun d s1 => (ev P call b env s1).bind fun d' s2 => .ok (.nxt ((env.set i (some d)).set j (some d'))) s2
  | .par3 i j l a b c, env, s => (ev P call a env s).bind fun d s1 => (ev P call b env s1).bind fun d' s2 => (ev P call c env s2).bind fun d'' s3 => .ok (.nxt (((env.set i (some d)).set j (some d')).set l (some d''))) s3
  | .put a k v, env, s => (ev P call v env s).bind fun z s1 => (ev P call a env s1).bind fun x s2 => (ev P call k env s2).bind fun y s3 => (embed z s3).bind fun z' s4 => (putAt x y z' s4).bind fun _ s5 => .ok (.nxt env) s5
  | .fld i x e, env, s => (ev P call e env s).bind fun d s1 => (embed d s1).bind fun d' s2 => match env[i]? with
    | some (some a) => (setFld P a x d' s2).bind fun _ s3 => .ok (.nxt env) s3
    | _ => .stuck
  | .exp e, env, s => (ev P call e env s).bind fun _ s1 => .ok (.nxt env) s1
  | .app a e, env, s => (ev P call a env s).bind fun x s1 => if (listOf s1 x).isSome then (ev P call e env s1).bind fun d s2 => (embed d s2).bind fun d' s3 => (appAt x d' s3).bind fun _ s4 => .ok (.nxt env) s4 else .stuck
  | .insr a i e, env, s => (ev P call a env s).bind fun x s1 => if (listOf s1 x).isSome then (ev P call i env s1).bind fun y s2 => (ev P call e env s2).bind fun d s3 => (embed d s3).bind fun d' s4 => (insAt x y d' s4).bind fun _ s5 => .ok (.nxt env) s5 else .stuck
  | .ife c a b, env, s => (asB (ev P call c env s)).bind fun k s1 => if k then exSs a env s1 else exSs b env s1
  | .forS t src body, env, s => (evSr P call src env s).bind fun q s1 => forL q.ok (fun d env s => match setTg env t d with
    | some e => exSs body e s
    | none => .stuck) q.xs env s1
  | .whl c body, env, s => whileM (fun env s => asB (ev P call c env s)) (fun env => exSs body env) env s
  | .ret e, env, s => (ev P call e env s).bind fun d s1 => .ok (.ret d) s1
  | .rais c es, env, s => (evs P call es env s).bind fun vs s1 => (embedAll vs s1).bind fun ds s2 => match P.ex c with
    | some xs => if xs.length = ds.length then .err c (xs.zip ds).reverse s2 else .stuck
    | none => .stuck
  | .brk, env, s => .ok (.brk env) s
  | .cnt, env, s => .ok (.cnt env) s
  | .pas, env, s => .ok (.nxt env) s
noncomputable def exSs : List St → Env → M Flow
  | [], env, s => .ok (.nxt env) s
  | st :: r, env, s => (exS st env s).bind fun fl s1 => match fl with
    | .nxt e => exSs r e s1
    | fl => .ok fl s1
end
end

/-! ### calls -/
/-- a dict's values as trees: cells from k on -/
def deepKv (k : Nat) (s : S) : List (DV × DV) → Option (List (DV × DV))
  | [] => some []
  | (q, v) :: r => match v with
    | .loc m => if k ≤ m then (match treeOf s (.loc m), deepKv k s r with
      | some t, some r' => some ((q, t) :: r')
      | _, _ => none) else none
    | v => (deepKv k s r).map ((q, v) :: ·)
/-- a cell as a tree, its values too -/
def deepOf (k : Nat) (s : S) (n : Nat) : Option DV := match s[n]? with
  | some (.dct kvs) => (deepKv k s kvs).map .dct
  | _ => treeOf s (.loc n)
open Classical in
/-- a def's end: its own cells go; what it hands back becomes a tree -/
noncomputable def leave (s0 : S) (d : DV) (s : S) : Res DV :=
  if okCells s0.length s0 s then
    match d with
    | .loc n => if n < s0.length then .ok d (s.take s0.length) else match deepOf s0.length s n with
      | some t => .ok t (s.take s0.length)
      | none => .stuck
    | _ => .ok d (s.take s0.length)
  else .stuck
open Classical in
noncomputable def runFn (P : Pg) (keep : Nat → Bool) (call : Nat → List DV → M DV) (f : Nat) (vs : List DV) : M DV := fun s => match P.fn f with
  | none => .stuck
  | some fn => if vs.length ≤ fn.ns then match exSs P call fn.body (vs.map some ++ List.replicate (fn.ns - vs.length) none) s with
      | .ok (.ret d) s1 => if keep f then .ok d s1 else leave s d s1
      | .ok (.nxt _) s1 => if keep f then .ok .non s1 else leave s .non s1
      | .ok _ _ => .stuck
      | .err c fs s1 => if okCells s.length s s1 then .err c fs (s1.take s.length) else .stuck
      | .stuck => .stuck
    else .stuck
noncomputable def callFn (P : Pg) (keep : Nat → Bool) : Nat → Nat → List DV → M DV
  | 0 => fun _ _ _ => .stuck
  | n + 1 => runFn P keep (callFn P keep n)
end WS
set_option maxRecDepth 100000
set_option maxHeartbeats 2000000
/-! D1: how the heap bears the core language's data. -/
namespace WS
open PySem PySem.Spec PyProof.Rows L2

/-- what is fixed through a law: the program, the world, what the top has left, where the classes stand, the tables of code objects -/
structure Lk where
  P : Program
  w : World
  K : PySem.W.Frag
  mg : Str → Option Value
  base : Heap
  ca : Nat → Addr
  xa : Nat → Addr
  T : List (Addr × Str)
  /-- the defs: where they stand, their records, their parameters; the defaults as values -/
  fa : Nat → Addr
  fd : Nat → FuncData
  ps : Nat → List Str
  dfl : Df → V

/-- an exception object that was caught: its class, its dict -/
def ExV (cls : Value) (d : Option Addr) (a : Addr) : HO := .ext fun h => ∃ (oe : Obj) (vs : Array Value), h.get? a = some oe ∧ Zc cls d oe ∧ oe.data = .fields vs

def keyDV : Key → DV
  | .inl i => .int i
  | .inr x => .str x
/-- a list that is no cell -/
def SqF (K : PySem.W.Frag) (M : Addr → Prop) (H : Hp) (a : Addr) (xs : List V) : Prop :=
  (Rd H a (.lst xs) ∧ ¬ M a) ∨
    ∃ (o : Obj) (its : Array Value) (n : Nat), K.lookup a = some o ∧ o.cls = .type "list" ∧ o.dict = none ∧ o.data = .seq its n ∧ its.size ≤ sizeLine ∧ Vals xs its.toList
theorem SqF.sq {K : PySem.W.Frag} {M : Addr → Prop} {H : Hp} {a : Addr} {xs : List V} (h : SqF K M H a xs) : SqL K H a xs := h.elim (fun h => .inl h.1) .inr
section
variable (G : Lk) (M : Addr → Prop) (H : Hp)
mutual
def RepT : DV → V → Prop
  | .non, v => v = .non
  | .bl b, v => v = .bl b
  | .int i, v => v = .int i
  | .str x, v => v = .str x
  | .tup ds, v => ∃ a xs, v = .ref a ∧ SqT G.K H a xs ∧ RepL ds xs
  | .lst ds, v => ∃ a xs, v = .ref a ∧ H a = some (.lst xs) ∧ ¬ M a ∧ RepL ds xs
  | .dct ps, v => ∃ a kvs, v = .ref a ∧ Rd H a (.dK kvs) ∧ ¬ M a ∧ RepP ps kvs
  | .ins c gs, v => ∃ a dx fs, v = .ref a ∧ H a = some (.ins (G.ca c) dx fs) ∧ ¬ M a ∧ RepF gs fs
  | .exc c gs, v => ∃ a d, v = .ref a ∧ H a = some (ExV (.ref (G.xa c)) d a) ∧ ¬ M a ∧ ((gs = [] ∧ d = none) ∨ ∃ dd fs, d = some dd ∧ H dd = some (.xd fs) ∧ ¬ M dd ∧ RepF gs fs)
  | .scr ns, v => ∃ a, v = .ref a ∧ SqF G.K M H a (ns.map V.int)
  | .loc _, _ => False
def RepL : List DV → List V → Prop
  | [], xs => xs = []
  | d :: ds, xs => ∃ x r, xs = x :: r ∧ RepT d x ∧ RepL ds r
def RepP : List (DV × DV) → List (Key × V) → Prop
  | [], xs => xs = []
  | (q, d) :: ds, xs => ∃ k x r, xs = (k, x) :: r ∧ q = keyDV k ∧ RepT d x ∧ RepP ds r
def RepF : List (Str × DV) → List (Str × V) → Prop
  | [], xs => xs = []
  | (q, d) :: ds, xs => ∃ x r, xs = (q, x) :: r ∧ RepT d x ∧ RepF ds r
end
end
section
variable {G : Lk} {M M' : Addr → Prop} {H H' : Hp}
/-- what stands of the heap -/
structure Keep (M M' : Addr → Prop) (H H' : Hp) : Prop where
  keep : ∀ a o, H a = some o → ¬ M a → (∀ ps, o ≠ .tbl ps) → (∀ kvs, o ≠ .dK kvs) → H' a = some o
  dks : ∀ a kvs, Rd H a (.dK kvs) → ¬ M a → Rd H' a (.dK kvs)
  tups : ∀ a xs, H a = some (.tup xs) → H' a = some (.tup xs)
  frzs : ∀ a o u, H a = some (.frz o u) → H' a = some (.frz o u)
  still : ∀ a, ¬ M a → M' a → H a = none ∨ ∃ ps, H a = some (.tbl ps)
theorem Keep.nm (e : Keep M M' H H') {a : Addr} {o : HO} (h : H a = some o) (n : ¬ M a) (t : ∀ ps, o ≠ .tbl ps := by intro _ z; first | cases z | (unfold ExV at z; cases z)) : ¬ M' a := fun z => by
  rcases e.still a n z with q | ⟨ps, q⟩
  · rw [h] at q; cases q
  · rw [h] at q; exact t ps (Option.some.inj q)
theorem Keep.nmD (e : Keep M M' H H') {a : Addr} {kvs : List (Key × V)} (h : Rd H a (.dK kvs)) (n : ¬ M a) : ¬ M' a := by
  rcases h with h | ⟨o, h⟩
  · exact e.nm h n
  · exact e.nm h n
theorem SqT.kp {K : PySem.W.Frag} {a : Addr} {xs : List V} (e : Keep M M' H H') (h : SqT K H a xs) : SqT K H' a xs := by
  rcases h with (h | ⟨o, h⟩) | h
  · exact .inl (.inl (e.tups _ _ h))
  · exact .inl (.inr ⟨o, e.frzs _ _ _ h⟩)
  · exact .inr h
theorem SqF.kp {K : PySem.W.Frag} {a : Addr} {xs : List V} (e : Keep M M' H H') (h : SqF K M H a xs) : SqF K M' H' a xs := by
  rcases h with ⟨h | ⟨o, h⟩, n⟩ | h
  · exact .inl ⟨.inl (e.keep _ _ h n (fun ps z => by cases z) (fun ps z => by cases z)), e.nm h n⟩
  · exact .inl ⟨.inr ⟨o, e.keep _ _ h n (fun ps z => by cases z) (fun ps z => by cases z)⟩, e.nm h n⟩
  · exact .inr h
theorem Keep.refl : Keep M M H H := ⟨fun _ _ h _ _ _ => h, fun _ _ h _ => h, fun _ _ h => h, fun _ _ _ h => h, fun _ n z => absurd z n⟩
theorem Keep.trans {M'' : Addr → Prop} {H'' : Hp} (e : Keep M M' H H') (f : Keep M' M'' H' H'') : Keep M M'' H H'' := by
  refine ⟨fun a o h n t t2 => f.keep a o (e.keep a o h n t t2) (e.nm h n t) t t2, fun a kvs h n => f.dks a kvs (e.dks a kvs h n) (e.nmD h n), fun a xs h => f.tups _ _ (e.tups _ _ h), fun a o u h => f.frzs _ _ _ (e.frzs _ _ _ h), fun a n z => ?_⟩
  by_cases q : M' a
  · exact e.still a n q
  · have h' := f.still a q z
    cases h : H a with
    | none => exact .inl rfl
    | some o =>
      cases o with
      | tbl ps => exact .inr ⟨ps, rfl⟩
      | dK kvs => rcases e.dks a kvs (.inl h) n with h2 | ⟨o, h2⟩ <;> rcases h' with h' | ⟨ps, h'⟩ <;> (rw [h2] at h'; cases h')
      | _ =>
        have h2 := e.keep a _ h n (fun ps z => by cases z) (fun ps z => by cases z)
        rcases h' with h' | ⟨ps, h'⟩ <;> (rw [h2] at h'; cases h')
mutual
theorem RepT.kp (e : Keep M M' H H') : ∀ (d : DV) (v : V), RepT G M H d v → RepT G M' H' d v
  | .non, _, h => h
  | .bl _, _, h => h
  | .int _, _, h => h
  | .str _, _, h => h
  | .tup ds, _, ⟨a, xs, e1, h, r⟩ => ⟨a, xs, e1, SqT.kp e h, RepL.kp e ds xs r⟩
  | .lst ds, _, ⟨a, xs, e1, h, n, r⟩ => ⟨a, xs, e1, e.keep _ _ h n (fun ps z => by cases z) (fun ps z => by cases z), e.nm h n, RepL.kp e ds xs r⟩
  | .scr ns, _, ⟨a, e1, h⟩ => ⟨a, e1, SqF.kp e h⟩
  | .dct ps, _, ⟨a, kvs, e1, h, n, r⟩ => ⟨a, kvs, e1, e.dks _ _ h n, e.nmD h n, RepP.kp e ps kvs r⟩
  | .ins c gs, _, ⟨a, dx, fs, e1, h, n, r⟩ => ⟨a, dx, fs, e1, e.keep _ _ h n (fun ps z => by cases z) (fun ps z => by cases z), e.nm h n, RepF.kp e gs fs r⟩
  | .exc c gs, _, ⟨a, d, e1, h, n, r⟩ => ⟨a, d, e1, e.keep _ _ h n (fun ps z => by unfold ExV at z; cases z) (fun ps z => by unfold ExV at z; cases z), e.nm h n, by
      rcases r with r | ⟨dd, fs, e2, h2, n2, r⟩
      · exact .inl r
      · exact .inr ⟨dd, fs, e2, e.keep _ _ h2 n2 (fun ps z => by cases z) (fun ps z => by cases z), e.nm h2 n2, RepF.kp e gs fs r⟩⟩
  | .loc _, _, h => h.elim
theorem RepL.kp (e : Keep M M' H H') : ∀ (ds : List DV) (xs : List V), RepL G M H ds xs → RepL G M' H' ds xs
  | [], _, h => h
  | d :: ds, _, ⟨x, r, e1, h, q⟩ => ⟨x, r, e1, RepT.kp e d x h, RepL.kp e ds r q⟩
theorem RepP.kp (e : Keep M M' H H') : ∀ (ds : List (DV × DV)) (xs : List (Key × V)), RepP G M H ds xs → RepP G M' H' ds xs
  | [], _, h => h
  | (_, d) :: ds, _, ⟨k, x, r, e1, e2, h, q⟩ => ⟨k, x, r, e1, e2, RepT.kp e d x h, RepP.kp e ds r q⟩
theorem RepF.kp (e : Keep M M' H H') : ∀ (ds : List (Str × DV)) (xs : List (Str × V)), RepF G M H ds xs → RepF G M' H' ds xs
  | [], _, h => h
  | (_, d) :: ds, _, ⟨x, r, e1, h, q⟩ => ⟨x, r, e1, RepT.kp e d x h, RepF.kp e ds r q⟩
end
end

/-! ### the store and its cells -/
def Cell.live : Cell → Bool
  | .frz _ => false
  | _ => true
/-- what may change: live cells, hidden objects -/
def Mu (μ : List Addr) (s : S) (ex : List Addr) (a : Addr) : Prop := a ∈ ex ∨ ∃ (n : Nat) (c : Cell), μ[n]? = some a ∧ s[n]? = some c ∧ c.live = true
section
variable (G : Lk) (μ : List Addr) (M : Addr → Prop) (H : Hp)
/-- a value: a cell, or a tree -/
def Rep (d : DV) (v : V) : Prop := match d with
  | .loc n => ∃ a, v = .ref a ∧ μ[n]? = some a
  | d => RepT G M H d v
/-- a dict's entries, cells among the values -/
def RepQ : List (DV × DV) → List (Key × V) → Prop
  | [], xs => xs = []
  | (q, d) :: ds, xs => ∃ k x r, xs = (k, x) :: r ∧ q = keyDV k ∧ Rep G μ M H d x ∧ RepQ ds r
def RepC (a : Addr) : Cell → Prop
  | .lst ds => ∃ xs, H a = some (.lst xs) ∧ RepL G M H ds xs
  | .dct ps => ∃ kvs, H a = some (.dK kvs) ∧ RepQ G μ M H ps kvs
  | .ins c gs => ∃ dx fs, H a = some (.ins (G.ca c) dx fs) ∧ RepF G M H gs fs
  | .frz d => RepT G M H d (.ref a)
end
/-- the store is borne by the heap: μ the cells' addresses, ex what is hidden -/
structure Wd (G : Lk) (μ : List Addr) (ex : List Addr) (s : S) (H : Hp) : Prop where
  len : μ.length = s.length
  nd : μ.Nodup
  cells : ∀ (n : Nat) (a : Addr) (c : Cell), μ[n]? = some a → s[n]? = some c → RepC G μ (Mu μ s ex) H a c
  tabs : LamX.Tabs G.T H
  exH : ∀ a ∈ ex, H a ≠ none
  exD : ∀ a ∈ ex, a ∉ μ
  muH : ∀ a ∈ μ, H a ≠ none
  exT : ∀ a ∈ ex, ∀ ps, H a ≠ some (.tbl ps)
  muT : ∀ a ∈ μ, ∀ ps, H a ≠ some (.tbl ps)
section
variable {G : Lk} {μ μ' : List Addr} {M M' : Addr → Prop} {H H' : Hp}
theorem Rep.tree {d : DV} {v : V} (h : RepT G M H d v) : Rep G μ M H d v := by
  cases d <;> first | exact h | exact h.elim
theorem Rep.kp (e : Keep M M' H H') (hp : ∀ (n : Nat) (a : Addr), μ[n]? = some a → μ'[n]? = some a) {d : DV} {v : V} (h : Rep G μ M H d v) : Rep G μ' M' H' d v := by
  cases d with
  | loc n => obtain ⟨a, e1, e2⟩ := h; exact ⟨a, e1, hp _ _ e2⟩
  | _ => exact RepT.kp e _ _ h
theorem RepQ.kp (e : Keep M M' H H') (hp : ∀ (n : Nat) (a : Addr), μ[n]? = some a → μ'[n]? = some a) : ∀ (ds : List (DV × DV)) (xs : List (Key × V)), RepQ G μ M H ds xs → RepQ G μ' M' H' ds xs
  | [], _, h => h
  | (_, d) :: ds, _, ⟨k, x, r, e1, e2, h, q⟩ => ⟨k, x, r, e1, e2, h.kp e hp, RepQ.kp e hp ds r q⟩
end
/-- from (μ, s, H) to (μ', s', H') -/
structure Evo (μ ex : List Addr) (s : S) (H : Hp) (μ' : List Addr) (s' : S) (H' : Hp) : Prop where
  kp : Keep (Mu μ s ex) (Mu μ' s' ex) H H'
  pre : ∀ (n : Nat) (a : Addr), μ[n]? = some a → μ'[n]? = some a
  hid : ∀ a ∈ ex, H' a = H a
theorem Evo.refl {μ ex : List Addr} {s : S} {H : Hp} : Evo μ ex s H μ s H := ⟨Keep.refl, fun _ _ h => h, fun _ _ => rfl⟩
theorem Evo.trans {μ ex μ1 μ2 : List Addr} {s s1 s2 : S} {H H1 H2 : Hp} (a : Evo μ ex s H μ1 s1 H1) (b : Evo μ1 ex s1 H1 μ2 s2 H2) : Evo μ ex s H μ2 s2 H2 :=
  ⟨a.kp.trans b.kp, fun n x h => b.pre n x (a.pre n x h), fun x h => (b.hid x h).trans (a.hid x h)⟩
/-- .. and the store is borne there -/
structure Aft (G : Lk) (μ ex : List Addr) (s : S) (H : Hp) (μ' : List Addr) (s' : S) (H' : Hp) : Prop where
  evo : Evo μ ex s H μ' s' H'
  wd : Wd G μ' ex s' H'
theorem Aft.trans {G : Lk} {μ ex μ1 μ2 : List Addr} {s s1 s2 : S} {H H1 H2 : Hp} (a : Aft G μ ex s H μ1 s1 H1) (b : Aft G μ1 ex s1 H1 μ2 s2 H2) : Aft G μ ex s H μ2 s2 H2 := ⟨a.evo.trans b.evo, b.wd⟩
/-- the slots -/
structure EnvR (G : Lk) (μ : List Addr) (M : Addr → Prop) (H : Hp) (σ : L2.St) (env : Env) : Prop where
  len : env.length = σ.length
  at_ : ∀ (i : Nat) (d : DV), env[i]? = some (some d) → ∃ v, σ[i]? = some (some v) ∧ Rep G μ M H d v
theorem EnvR.kp {G : Lk} {μ μ' : List Addr} {M M' : Addr → Prop} {H H' : Hp} {σ : L2.St} {env : Env} (r : EnvR G μ M H σ env) (e : Keep M M' H H') (hp : ∀ (n : Nat) (a : Addr), μ[n]? = some a → μ'[n]? = some a) : EnvR G μ' M' H' σ env :=
  ⟨r.len, fun i d h => by obtain ⟨v, h1, h2⟩ := r.at_ i d h; exact ⟨v, h1, h2.kp e hp⟩⟩
theorem EnvR.evo {G : Lk} {μ ex μ' : List Addr} {s s' : S} {H H' : Hp} {σ : L2.St} {env : Env} (r : EnvR G μ (Mu μ s ex) H σ env) (e : Evo μ ex s H μ' s' H') : EnvR G μ' (Mu μ' s' ex) H' σ env := r.kp e.kp e.pre
theorem EnvR.set {G : Lk} {μ : List Addr} {M : Addr → Prop} {H : Hp} {σ : L2.St} {env : Env} (r : EnvR G μ M H σ env) {i : Nat} {d : DV} {v : V} (h : Rep G μ M H d v) : EnvR G μ M H (σ.set i (some v)) (env.set i (some d)) := by
  refine ⟨by simp [r.len], fun j e hj => ?_⟩
  by_cases hij : i = j
  · subst hij
    have hl : i < env.length := by
      cases q : decide (i < env.length) with
      | true => exact of_decide_eq_true q
      | false =>
        have : ¬ i < env.length := of_decide_eq_false q
        rw [List.getElem?_eq_none (by simpa using this)] at hj
        cases hj
    rw [List.getElem?_set_self hl] at hj
    cases hj
    exact ⟨v, List.getElem?_set_self (by rw [← r.len]; exact hl), h⟩
  · rw [List.getElem?_set_ne hij] at hj
    rw [List.getElem?_set_ne hij]
    exact r.at_ j e hj

/-! ### readings -/
/-- an exception in the air -/
def ErrR (G : Lk) (M : Addr → Prop) (H : Hp) (c : Nat) (gs : List (Str × DV)) (cls : Value) (d : Option Addr) : Prop :=
  cls = .ref (G.xa c) ∧ ((gs = [] ∧ d = none) ∨ ∃ dd fs, d = some dd ∧ H dd = some (.xd fs) ∧ ¬ M dd ∧ RepF G M H gs fs)
/-- what is wanted of a run -/
def Fin (G : Lk) (W : WX) (σ : L2.St) (μ ex : List Addr) (s : S) (H : Hp) (r : Res DV) (Q : VK) : Prop := match r with
  | .ok d s' => ∀ v H' μ', Aft G μ ex s H μ' s' H' → Rep G μ' (Mu μ' s' ex) H' d v → Q v H'
  | .err c gs s' => ∀ cls dd H' μ', Aft G μ ex s H μ' s' H' → ErrR G (Mu μ' s' ex) H' c gs cls dd → W cls dd σ H'
  | .stuck => False
/-- .. of a list of values -/
def FinL (G : Lk) (W : WX) (σ : L2.St) (μ ex : List Addr) (s : S) (H : Hp) (r : Res (List DV)) (Q : List V → Hp → Prop) : Prop := match r with
  | .ok ds s' => ∀ vs H' μ', Aft G μ ex s H μ' s' H' → Paired (fun d v => Rep G μ' (Mu μ' s' ex) H' d v) ds vs → Q vs H'
  | .err c gs s' => ∀ cls dd H' μ', Aft G μ ex s H μ' s' H' → ErrR G (Mu μ' s' ex) H' c gs cls dd → W cls dd σ H'
  | .stuck => False
section
variable {G : Lk} {W : WX} {σ : L2.St} {μ ex μ1 : List Addr} {s s1 : S} {H H1 : Hp}
theorem Fin.mono {r : Res DV} {Q Q' : VK} (h : Fin G W σ μ ex s H r Q) (k : ∀ v H', Q v H' → Q' v H') : Fin G W σ μ ex s H r Q' := by
  cases r with
  | ok d s' => exact fun v H' μ' a b => k _ _ (h v H' μ' a b)
  | err c gs s' => exact h
  | stuck => exact h
theorem Fin.from {r : Res DV} {Q : VK} (a : Aft G μ ex s H μ1 s1 H1) (h : Fin G W σ μ ex s H r Q) : Fin G W σ μ1 ex s1 H1 r Q := by
  cases r with
  | ok d s' => exact fun v H' μ' b c => h v H' μ' (a.trans b) c
  | err c gs s' => exact fun cls dd H' μ' b q => h cls dd H' μ' (a.trans b) q
  | stuck => exact h
theorem FinL.from {r : Res (List DV)} {Q : List V → Hp → Prop} (a : Aft G μ ex s H μ1 s1 H1) (h : FinL G W σ μ ex s H r Q) : FinL G W σ μ1 ex s1 H1 r Q := by
  cases r with
  | ok d s' => exact fun v H' μ' b c => h v H' μ' (a.trans b) c
  | err c gs s' => exact fun cls dd H' μ' b q => h cls dd H' μ' (a.trans b) q
  | stuck => exact h
/-- one run, then another one -/
theorem Fin.bind {m : Res DV} {f : DV → S → Res DV} {Q : VK} (h : Fin G W σ μ ex s H (m.bind f) Q) :
    Fin G W σ μ ex s H m (fun v H1 => ∃ d s1 μ1, m = .ok d s1 ∧ Aft G μ ex s H μ1 s1 H1 ∧ Rep G μ1 (Mu μ1 s1 ex) H1 d v ∧ Fin G W σ μ1 ex s1 H1 (f d s1) Q) := by
  cases m with
  | ok d s1 => exact fun v H1 μ1 a r => ⟨d, s1, μ1, rfl, a, r, h.from a⟩
  | err c gs s' => exact h
  | stuck => exact h
theorem FinL.bind {m : Res (List DV)} {f : List DV → S → Res DV} {Q : VK} (h : Fin G W σ μ ex s H (m.bind f) Q) :
    FinL G W σ μ ex s H m (fun vs H1 => ∃ ds s1 μ1, m = .ok ds s1 ∧ Aft G μ ex s H μ1 s1 H1 ∧ Paired (fun d v => Rep G μ1 (Mu μ1 s1 ex) H1 d v) ds vs ∧ Fin G W σ μ1 ex s1 H1 (f ds s1) Q) := by
  cases m with
  | ok d s1 => exact fun v H1 μ1 a r => ⟨d, s1, μ1, rfl, a, r, h.from a⟩
  | err c gs s' => exact h
  | stuck => exact h
end
section
variable (G : Lk) (W : WX) (P : Pg) (call : Nat → List DV → M DV)
def TD (c : E) : TE := fun σ H Q => ∃ μ ex s env, Wd G μ ex s H ∧ EnvR G μ (Mu μ s ex) H σ env ∧ Fin G W σ μ ex s H (ev P call c env s) Q
def TDs (c : Es) : TA := fun σ H Q => ∃ μ ex s env, Wd G μ ex s H ∧ EnvR G μ (Mu μ s ex) H σ env ∧ FinL G W σ μ ex s H (evs P call c env s) Q
/-- as a test -/
def TDt (c : E) : TT := fun σ H Q => ∃ μ ex s env, Wd G μ ex s H ∧ EnvR G μ (Mu μ s ex) H σ env ∧ Fin G W σ μ ex s H (ev P call c env s) (fun v H' => ∃ b, v = .bl b ∧ Q b H')
end
theorem PE.imp {X : Cx} {e : Expr} {t t' : TE} (h : PE X e t) (k : ∀ σ H Q, t' σ H Q → t σ H Q) : PE X e t' := ⟨fun pins s σ H Q I q => h.run pins s σ H Q I (k σ H Q q)⟩
theorem PT.imp {X : Cx} {e : Expr} {t t' : TT} (h : PT X e t) (k : ∀ σ H Q, t' σ H Q → t σ H Q) : PT X e t' := ⟨fun pins s σ H Q I q => h.run pins s σ H Q I (k σ H Q q)⟩
theorem PA.imp {X : Cx} {es : List Expr} {t t' : TA} (h : PA X es t) (k : ∀ σ H Q, t' σ H Q → t σ H Q) : PA X es t' := ⟨fun pos pins s σ H Q I q => h.run pos pins s σ H Q I (k σ H Q q)⟩
theorem PS.imp {X : Cx} {st : Stmt} {t t' : TS} (h : PS X st t) (k : ∀ D σ H, t' D σ H → t D σ H) : PS X st t' := ⟨fun pins s σ H D I q => h.run pins s σ H D I (k D σ H q)⟩
theorem PSs.imp {X : Cx} {st : List Stmt} {t t' : TS} (h : PSs X st t) (k : ∀ D σ H, t' D σ H → t D σ H) : PSs X st t' := ⟨fun pins s σ H D I q => h.run pins s σ H D I (k D σ H q)⟩
end WS
set_option maxRecDepth 100000
set_option maxHeartbeats 2000000
/-! D2: steps of the store: a new tree, a cell written, a new cell, a cell frozen, a hidden list. -/
namespace WS
open PySem PySem.Spec PyProof.Rows L2
section
variable {G : Lk} {μ ex : List Addr} {s : S} {H : Hp}
theorem Mu.lt {a : Addr} (w : Wd G μ ex s H) (h : Mu μ s ex a) : H a ≠ none := by
  rcases h with h | ⟨n, c, h1, h2, h3⟩
  · exact w.exH a h
  · have q := w.cells n a c h1 h2
    cases c with
    | lst ds => obtain ⟨xs, e, _⟩ := q; rw [e]; simp
    | dct ps => obtain ⟨xs, e, _⟩ := q; rw [e]; simp
    | ins c gs => obtain ⟨dx, fs, e, _⟩ := q; rw [e]; simp
    | frz d => cases h3
theorem Wd.nmu {p : Addr} (w : Wd G μ ex s H) (h : H p = none) : ¬ Mu μ s ex p := fun z => Mu.lt w z h
theorem Wd.kp {μ' : List Addr} {H' : Hp} (w : Wd G μ ex s H) (k : Keep (Mu μ s ex) (Mu μ s ex) H H') (hc : ∀ (n : Nat) (a : Addr) (c : Cell), μ[n]? = some a → s[n]? = some c → c.live = true → H' a = H a) (ht : LamX.Tabs G.T H') (he : ∀ a ∈ ex, H' a ≠ none) (hm : ∀ a ∈ μ, H' a ≠ none) (hx : ∀ a ∈ ex, ∀ ps, H' a ≠ some (.tbl ps)) (hy : ∀ a ∈ μ, ∀ ps, H' a ≠ some (.tbl ps)) : Wd G μ ex s H' := by
  refine ⟨w.len, w.nd, fun n a c h1 h2 => ?_, ht, he, w.exD, hm, hx, hy⟩
  have q := w.cells n a c h1 h2
  cases c with
  | lst ds => obtain ⟨xs, e, r⟩ := q; exact ⟨xs, by rw [hc n a _ h1 h2 rfl]; exact e, RepL.kp k ds xs r⟩
  | dct ps => obtain ⟨xs, e, r⟩ := q; exact ⟨xs, by rw [hc n a _ h1 h2 rfl]; exact e, RepQ.kp k (fun _ _ h => h) ps xs r⟩
  | ins c gs => obtain ⟨dx, fs, e, r⟩ := q; exact ⟨dx, fs, by rw [hc n a _ h1 h2 rfl]; exact e, RepF.kp k gs fs r⟩
  | frz d => exact RepT.kp k d _ q
theorem Keep.alloc {M : Addr → Prop} {p : Addr} {o : HO} (h : H p = none) : Keep M M H (upd H p o) :=
  ⟨fun a u e _ _ _ => by rw [upd_ne (ne_of_none e h)]; exact e, fun a kvs e _ => e.elim (fun e => .inl (by rw [upd_ne (ne_of_none e h)]; exact e)) fun ⟨o, e⟩ => .inr ⟨o, by rw [upd_ne (ne_of_none e h)]; exact e⟩, fun a xs e => by rw [upd_ne (ne_of_none e h)]; exact e, fun a u v e => by rw [upd_ne (ne_of_none e h)]; exact e, fun a n z => absurd z n⟩
/-- a new object -/
theorem Aft.alloc {p : Addr} {o : HO} (w : Wd G μ ex s H) (h : H p = none) : Aft G μ ex s H μ s (upd H p o) := by
  refine ⟨⟨Keep.alloc h, fun _ _ e => e, fun a ha => upd_ne fun z => w.exH a ha (by rw [z]; exact h)⟩, w.kp (μ' := μ) (Keep.alloc h) (fun n a c h1 h2 h3 => ?_) (w.tabs.ext fun b u e => by rw [upd_ne (ne_of_none e h)]; exact e) (fun a ha => ?_) (fun a ha => ?_) (fun a ha ps => ?_) fun a ha ps => ?_⟩
  · have hm : Mu μ s ex a := .inr ⟨n, c, h1, h2, h3⟩
    rw [upd_ne fun z => Mu.lt w hm (by rw [z]; exact h)]
  · rw [upd_ne fun z => w.exH a ha (by rw [z]; exact h)]
    exact w.exH a ha
  · rw [upd_ne fun z => w.muH a ha (by rw [z]; exact h)]
    exact w.muH a ha
  · rw [upd_ne fun z => w.exH a ha (by rw [z]; exact h)]
    exact w.exT a ha ps
  · rw [upd_ne fun z => w.muH a ha (by rw [z]; exact h)]
    exact w.muT a ha ps
theorem Aft.refl (w : Wd G μ ex s H) : Aft G μ ex s H μ s H := ⟨Evo.refl, w⟩
theorem Wd.at_ (w : Wd G μ ex s H) {n : Nat} {c : Cell} (h : s[n]? = some c) : ∃ a, μ[n]? = some a := by
  have hl : n < s.length := (List.getElem?_eq_some_iff.mp h).1
  exact ⟨μ[n]'(by rw [w.len]; exact hl), by simp⟩
theorem Wd.inj (w : Wd G μ ex s H) {n m : Nat} {a : Addr} (h1 : μ[n]? = some a) (h2 : μ[m]? = some a) : n = m := by
  obtain ⟨l1, e1⟩ := List.getElem?_eq_some_iff.mp h1
  obtain ⟨l2, e2⟩ := List.getElem?_eq_some_iff.mp h2
  exact (List.getElem_inj w.nd).mp (e1.trans e2.symm)
theorem mu_set {n : Nat} {c c' : Cell} {a : Addr} (h : s[n]? = some c) (l : c.live = true) (l' : c'.live = true) : Mu μ (s.set n c') ex a ↔ Mu μ s ex a := by
  have hn : n < s.length := (List.getElem?_eq_some_iff.mp h).1
  constructor
  · rintro (z | ⟨m, d, h1, h2, h3⟩)
    · exact .inl z
    · by_cases e : n = m
      · subst e; exact .inr ⟨n, c, h1, h, l⟩
      · rw [List.getElem?_set_ne e] at h2; exact .inr ⟨m, d, h1, h2, h3⟩
  · rintro (z | ⟨m, d, h1, h2, h3⟩)
    · exact .inl z
    · by_cases e : n = m
      · subst e; exact .inr ⟨n, c', h1, List.getElem?_set_self hn, l'⟩
      · exact .inr ⟨m, d, h1, by rw [List.getElem?_set_ne e]; exact h2, h3⟩
theorem mu_set_eq {n : Nat} {c c' : Cell} (h : s[n]? = some c) (l : c.live = true) (l' : c'.live = true) : Mu μ (s.set n c') ex = Mu μ s ex := funext fun a => propext (mu_set h l l')
/-- a live cell's object is none of these -/
theorem Wd.live (w : Wd G μ ex s H) {n : Nat} {a : Addr} {c : Cell} (h1 : μ[n]? = some a) (h2 : s[n]? = some c) (l : c.live = true) : (∀ xs, H a ≠ some (.tup xs)) ∧ (∀ o u, H a ≠ some (.frz o u)) ∧ (∀ ps, H a ≠ some (.tbl ps)) ∧ (∀ φ, H a ≠ some (.ext φ)) := by
  have q := w.cells n a c h1 h2
  cases c with
  | lst ds => obtain ⟨xs, e, _⟩ := q; rw [e]; simp
  | dct ps => obtain ⟨xs, e, _⟩ := q; rw [e]; simp
  | ins c gs => obtain ⟨dx, fs, e, _⟩ := q; rw [e]; simp
  | frz d => cases l
theorem Keep.write {M : Addr → Prop} {a : Addr} {o : HO} (m : M a) (t1 : ∀ xs, H a ≠ some (.tup xs)) (t2 : ∀ o u, H a ≠ some (.frz o u)) (t3 : ∀ ps, H a ≠ some (.tbl ps)) : Keep M M H (upd H a o) :=
  ⟨fun b u e n _ _ => by rw [upd_ne fun z => n (by rw [z]; exact m)]; exact e, fun b kvs e n => by unfold Rd; rw [upd_ne fun z => n (by rw [z]; exact m)]; exact e, fun b xs e => by rw [upd_ne fun z => t1 xs (by rw [← z]; exact e)]; exact e,
    fun b u v e => by rw [upd_ne fun z => t2 u v (by rw [← z]; exact e)]; exact e, fun b n z => absurd z n⟩
theorem tabs_write {T : List (Addr × Str)} {a : Addr} {o : HO} (t : LamX.Tabs T H) (t3 : ∀ ps, H a ≠ some (.tbl ps)) (t4 : ∀ φ, H a ≠ some (.ext φ)) : LamX.Tabs T (upd H a o) := fun p hp => by
  obtain ⟨ps, h1, h2, h3⟩ := t p hp
  refine ⟨ps, by rw [upd_ne fun z => t3 ps (by rw [← z]; exact h1)]; exact h1, h2, fun pos cv hc => ?_⟩
  obtain ⟨c, e1, e2⟩ := h3 pos cv hc
  exact ⟨c, e1, by rw [upd_ne fun z => t4 _ (by rw [← z]; exact e2)]; exact e2⟩
/-- a cell written -/
theorem Aft.write {n : Nat} {a : Addr} {c c' : Cell} {o : HO} (w : Wd G μ ex s H) (h1 : μ[n]? = some a) (h2 : s[n]? = some c) (l : c.live = true) (l' : c'.live = true)
    (new : RepC G μ (Mu μ s ex) (upd H a o) a c') : Aft G μ ex s H μ (s.set n c') (upd H a o) := by
  obtain ⟨t1, t2, t3, t4⟩ := w.live h1 h2 l
  have m : Mu μ s ex a := .inr ⟨n, c, h1, h2, l⟩
  have em : Mu μ (s.set n c') ex = Mu μ s ex := mu_set_eq h2 l l'
  have k : Keep (Mu μ s ex) (Mu μ s ex) H (upd H a o) := Keep.write m t1 t2 t3
  refine ⟨⟨by rw [em]; exact k, fun _ _ e => e, fun b hb => upd_ne fun z => w.exD b hb (by rw [z]; exact List.mem_of_getElem? h1)⟩, ⟨by rw [List.length_set]; exact w.len, w.nd, fun j b d e1 e2 => ?_, tabs_write w.tabs t3 t4, fun b hb => ?_, w.exD, fun b hb => ?_, fun b hb ps => ?_, fun b hb ps => ?_⟩⟩
  · rw [em]
    by_cases e : n = j
    · subst e
      rw [h1] at e1; cases e1
      rw [List.getElem?_set_self (List.getElem?_eq_some_iff.mp h2).1] at e2; cases e2
      exact new
    · rw [List.getElem?_set_ne e] at e2
      have nb : b ≠ a := fun z => e (w.inj h1 (by rw [← z]; exact e1))
      have q := w.cells j b d e1 e2
      cases d with
      | lst ds => obtain ⟨xs, e, r⟩ := q; exact ⟨xs, by rw [upd_ne nb]; exact e, RepL.kp k ds xs r⟩
      | dct ps => obtain ⟨xs, e, r⟩ := q; exact ⟨xs, by rw [upd_ne nb]; exact e, RepQ.kp k (fun _ _ h => h) ps xs r⟩
      | ins c gs => obtain ⟨dx, fs, e, r⟩ := q; exact ⟨dx, fs, by rw [upd_ne nb]; exact e, RepF.kp k gs fs r⟩
      | frz d => exact RepT.kp k d _ q
  · rw [upd_ne fun z => w.exD b hb (by rw [z]; exact List.mem_of_getElem? h1)]
    exact w.exH b hb
  · by_cases z : b = a
    · rw [z, upd_same]; simp
    · rw [upd_ne z]; exact w.muH b hb
  · rw [upd_ne fun z => w.exD b hb (by rw [z]; exact List.mem_of_getElem? h1)]
    exact w.exT b hb ps
  · by_cases z : b = a
    · subst z
      cases c' with
      | lst ds => obtain ⟨xs, e, _⟩ := new; rw [e]; simp
      | dct ps' => obtain ⟨xs, e, _⟩ := new; rw [e]; simp
      | ins c gs => obtain ⟨dx, fs, e, _⟩ := new; rw [e]; simp
      | frz d => cases l'
    · rw [upd_ne z]; exact w.muT b hb ps
/-- the hidden object p becomes the newest cell -/
theorem Aft.cell {p : Addr} {c : Cell} (w : Wd G μ (p :: ex) s H) (hp : p ∉ ex) (l : c.live = true) (new : RepC G (μ ++ [p]) (Mu μ s (p :: ex)) H p c) : Wd G (μ ++ [p]) ex (s ++ [c]) H ∧ Mu (μ ++ [p]) (s ++ [c]) ex = Mu μ s (p :: ex) := by
  have em : Mu (μ ++ [p]) (s ++ [c]) ex = Mu μ s (p :: ex) := by
    funext a
    refine propext ⟨?_, ?_⟩
    · rintro (z | ⟨n, d, h1, h2, h3⟩)
      · exact .inl (List.mem_cons_of_mem _ z)
      · by_cases hn : n < s.length
        · rw [List.getElem?_append_left (by rw [w.len]; exact hn)] at h1
          rw [List.getElem?_append_left hn] at h2
          exact .inr ⟨n, d, h1, h2, h3⟩
        · rw [List.getElem?_append_right (by rw [w.len]; omega)] at h1
          cases hm : n - μ.length with
          | zero => rw [hm] at h1; have e : p = a := by simpa using h1
                    exact .inl (by rw [e]; exact List.mem_cons_self)
          | succ k => rw [hm] at h1; simp at h1
    · rintro (z | ⟨n, d, h1, h2, h3⟩)
      · rcases List.mem_cons.mp z with e | z
        · refine .inr ⟨s.length, c, ?_, ?_, l⟩
          · rw [List.getElem?_append_right (by rw [w.len]; exact Nat.le_refl _), w.len]; simp [e]
          · rw [List.getElem?_append_right (Nat.le_refl _)]; simp
        · exact .inl z
      · have hn : n < s.length := (List.getElem?_eq_some_iff.mp h2).1
        exact .inr ⟨n, d, by rw [List.getElem?_append_left (by rw [w.len]; exact hn)]; exact h1, by rw [List.getElem?_append_left hn]; exact h2, h3⟩
  have pre : ∀ (n : Nat) (a : Addr), μ[n]? = some a → (μ ++ [p])[n]? = some a := fun n a h => by rw [List.getElem?_append_left (List.getElem?_eq_some_iff.mp h).1]; exact h
  refine ⟨⟨by simp [w.len], ?_, fun n a d h1 h2 => ?_, w.tabs, fun a ha => w.exH a (List.mem_cons_of_mem _ ha), fun a ha hm => ?_, fun a ha => ?_, fun a ha => w.exT a (List.mem_cons_of_mem _ ha), fun a ha => ?_⟩, em⟩
  · rw [List.nodup_append]
    refine ⟨w.nd, by simp, fun a ha b hb => ?_⟩
    have e : b = p := by simpa using hb
    rintro rfl
    exact w.exD p List.mem_cons_self (by rw [← e]; exact ha)
  · rw [em]
    by_cases hn : n < s.length
    · rw [List.getElem?_append_left (by rw [w.len]; exact hn)] at h1
      rw [List.getElem?_append_left hn] at h2
      have q := w.cells n a d h1 h2
      cases d with
      | lst ds => exact q
      | dct ps => obtain ⟨xs, e, r⟩ := q; exact ⟨xs, e, RepQ.kp Keep.refl pre ps xs r⟩
      | ins c gs => exact q
      | frz d => exact q
    · rw [List.getElem?_append_right (by omega)] at h2
      rw [List.getElem?_append_right (by rw [w.len]; omega)] at h1
      cases hm : n - s.length with
      | zero =>
        rw [hm] at h2; rw [w.len, hm] at h1
        have e1 : p = a := by simpa using h1
        have e2 : c = d := by simpa using h2
        subst e1; subst e2; exact new
      | succ k => rw [hm] at h2; simp at h2
  · rcases List.mem_append.mp hm with z | z
    · exact w.exD a (List.mem_cons_of_mem _ ha) z
    · have e : a = p := by simpa using z
      exact hp (by rw [← e]; exact ha)
  · rcases List.mem_append.mp ha with z | z
    · exact w.muH a z
    · have e : a = p := by simpa using z
      rw [e]
      exact w.exH p List.mem_cons_self
  · rcases List.mem_append.mp ha with z | z
    · exact w.muT a z
    · have e : a = p := by simpa using z
      rw [e]
      exact w.exT p List.mem_cons_self
/-- a new object, hidden -/
theorem Wd.hide {p : Addr} {o : HO} (w : Wd G μ ex s H) (h : H p = none) (no : ∀ ps, o ≠ .tbl ps := by intro _ z; cases z) : Wd G μ (p :: ex) s (upd H p o) ∧ Keep (Mu μ s ex) (Mu μ s (p :: ex)) H (upd H p o) := by
  have hm : ∀ a, Mu μ s (p :: ex) a → a = p ∨ Mu μ s ex a := fun a z => by
    rcases z with z | z
    · rcases List.mem_cons.mp z with e | z
      · exact .inl e
      · exact .inr (.inl z)
    · exact .inr (.inr z)
  have k : Keep (Mu μ s ex) (Mu μ s (p :: ex)) H (upd H p o) := by
    obtain ⟨k1, k0, k2, k3, _⟩ := Keep.alloc (M := Mu μ s ex) (o := o) h
    exact ⟨k1, k0, k2, k3, fun a n z => (hm a z).elim (fun e => .inl (by rw [e]; exact h)) fun z => absurd z n⟩
  have w' := (Aft.alloc (o := o) w h).wd
  refine ⟨⟨w.len, w.nd, fun n a c h1 h2 => ?_, w'.tabs, fun a ha => ?_, fun a ha z => ?_, w'.muH, fun a ha ps => ?_, w'.muT⟩, k⟩
  · have q := w.cells n a c h1 h2
    have nb : c.live = true → a ≠ p := fun l z => Mu.lt w (.inr ⟨n, c, h1, h2, l⟩) (by rw [z]; exact h)
    cases c with
    | lst ds => obtain ⟨xs, e, r⟩ := q; exact ⟨xs, by rw [upd_ne (nb rfl)]; exact e, RepL.kp k ds xs r⟩
    | dct ps => obtain ⟨xs, e, r⟩ := q; exact ⟨xs, by rw [upd_ne (nb rfl)]; exact e, RepQ.kp k (fun _ _ h => h) ps xs r⟩
    | ins c gs => obtain ⟨dx, fs, e, r⟩ := q; exact ⟨dx, fs, by rw [upd_ne (nb rfl)]; exact e, RepF.kp k gs fs r⟩
    | frz d => exact RepT.kp k d _ q
  · rcases List.mem_cons.mp ha with e | ha
    · rw [e, upd_same]; simp
    · exact w'.exH a ha
  · rcases List.mem_cons.mp ha with e | ha
    · rw [e] at z
      exact w.muH p z h
    · exact w.exD a ha z
  · rcases List.mem_cons.mp ha with e | ha
    · rw [e, upd_same]
      exact fun z => no ps (Option.some.inj z)
    · exact w'.exT a ha ps
end
/-- a live cell is frozen -/
theorem Aft.freeze {G : Lk} {μ ex : List Addr} {s : S} {H : Hp} {n : Nat} {a : Addr} {c : Cell} {d : DV} (w : Wd G μ ex s H) (h1 : μ[n]? = some a) (h2 : s[n]? = some c) (l : c.live = true)
    (new : ∀ M' : Addr → Prop, ¬ M' a → Keep (Mu μ s ex) M' H H → RepT G M' H d (.ref a)) : Aft G μ ex s H μ (s.set n (.frz d)) H ∧ ¬ Mu μ (s.set n (.frz d)) ex a := by
  have hn : n < s.length := (List.getElem?_eq_some_iff.mp h2).1
  have na : ¬ Mu μ (s.set n (.frz d)) ex a := by
    rintro (z | ⟨m, c', e1, e2, e3⟩)
    · exact w.exD a z (List.mem_of_getElem? h1)
    · have e := w.inj h1 e1
      subst e
      rw [List.getElem?_set_self hn] at e2
      cases e2
      cases e3
  have sub : ∀ b, Mu μ (s.set n (.frz d)) ex b → Mu μ s ex b := by
    rintro b (z | ⟨m, c', e1, e2, e3⟩)
    · exact .inl z
    · by_cases e : n = m
      · subst e
        rw [List.getElem?_set_self hn] at e2
        cases e2
        cases e3
      · rw [List.getElem?_set_ne e] at e2
        exact .inr ⟨m, c', e1, e2, e3⟩
  have k : Keep (Mu μ s ex) (Mu μ (s.set n (.frz d)) ex) H H := ⟨fun _ _ h _ _ _ => h, fun _ _ h _ => h, fun _ _ h => h, fun _ _ _ h => h, fun b nb z => absurd (sub b z) nb⟩
  refine ⟨⟨⟨k, fun _ _ e => e, fun _ _ => rfl⟩, ⟨by rw [List.length_set]; exact w.len, w.nd, fun m b c' e1 e2 => ?_, w.tabs, w.exH, w.exD, w.muH, w.exT, w.muT⟩⟩, na⟩
  by_cases e : n = m
  · subst e
    rw [h1] at e1; cases e1
    rw [List.getElem?_set_self hn] at e2
    cases e2
    exact new _ na k
  · rw [List.getElem?_set_ne e] at e2
    have q := w.cells m b c' e1 e2
    cases c' with
    | lst ds => obtain ⟨xs, e, r⟩ := q; exact ⟨xs, e, RepL.kp k ds xs r⟩
    | dct ps => obtain ⟨xs, e, r⟩ := q; exact ⟨xs, e, RepQ.kp k (fun _ _ h => h) ps xs r⟩
    | ins c gs => obtain ⟨dx, fs, e, r⟩ := q; exact ⟨dx, fs, e, RepF.kp k gs fs r⟩
    | frz d => exact RepT.kp k d _ q
/-- entries without cells -/
theorem RepQ.plain {G : Lk} {μ : List Addr} {M : Addr → Prop} {H : Hp} : ∀ (ps : List (DV × DV)) (kvs : List (Key × V)), plainKv ps = true → RepQ G μ M H ps kvs → RepP G M H ps kvs
  | [], _, _, h => h
  | (q, d) :: ps, _, hp, ⟨k, x, r, e1, e2, h, t⟩ => by
    cases d with
    | loc n => simp [plainKv] at hp
    | _ => exact ⟨k, x, r, e1, e2, h, RepQ.plain ps r (by simpa [plainKv] using hp) t⟩
/-- a value laid into another one -/
theorem embed_ok {G : Lk} {μ ex : List Addr} {s s' : S} {H : Hp} {d d' : DV} {v : V} (w : Wd G μ ex s H) (r : Rep G μ (Mu μ s ex) H d v) (e : embed d s = .ok d' s') :
    Aft G μ ex s H μ s' H ∧ RepT G (Mu μ s' ex) H d' v := by
  cases d with
  | loc n =>
    obtain ⟨a, rfl, h1⟩ := r
    unfold embed at e
    simp only at e
    cases h2 : s[n]? with
    | none => rw [h2] at e; cases e
    | some c =>
      rw [h2] at e
      have q := w.cells n a c h1 h2
      cases c with
      | lst xs =>
        simp only at e
        cases e
        obtain ⟨ys, e1, rl⟩ := q
        have z := Aft.freeze (d := .lst xs) w h1 h2 rfl (fun M' nm k => ⟨a, ys, rfl, e1, nm, RepL.kp k xs ys rl⟩)
        exact ⟨z.1, ⟨a, ys, rfl, e1, z.2, RepL.kp z.1.evo.kp xs ys rl⟩⟩
      | dct kvs =>
        simp only at e
        split at e
        · rename_i hp
          cases e
          obtain ⟨ys, e1, rl⟩ := q
          have rp := RepQ.plain kvs ys hp rl
          have z := Aft.freeze (d := .dct kvs) w h1 h2 rfl (fun M' nm k => ⟨a, ys, rfl, .inl e1, nm, RepP.kp k kvs ys rp⟩)
          exact ⟨z.1, ⟨a, ys, rfl, .inl e1, z.2, RepP.kp z.1.evo.kp kvs ys rp⟩⟩
        · cases e
      | ins c gs => simp only at e; cases e
      | frz d =>
        simp only at e
        cases e
        exact ⟨Aft.refl w, q⟩
  | _ =>
    have e' : Res.ok _ s = Res.ok d' s' := e
    cases e'
    exact ⟨Aft.refl w, r⟩
theorem embedAll_ok {G : Lk} {μ ex : List Addr} {H : Hp} : ∀ {ds ds' : List DV} {vs : List V} {s s' : S}, Wd G μ ex s H → Paired (fun d v => Rep G μ (Mu μ s ex) H d v) ds vs → embedAll ds s = .ok ds' s' →
    Aft G μ ex s H μ s' H ∧ RepL G (Mu μ s' ex) H ds' vs
  | [], _, _, s, s', w, .nil, e => by
    have e' : Res.ok [] s = Res.ok _ s' := e
    cases e'
    exact ⟨Aft.refl w, rfl⟩
  | d :: ds, ds', _, s, s', w, .cons r rs, e => by
    unfold embedAll at e
    cases h1 : embed d s with
    | stuck => rw [h1] at e; cases e
    | err c gs s1 => rw [h1] at e; cases e
    | ok d1 s1 =>
      rw [h1] at e
      obtain ⟨a1, r1⟩ := embed_ok w r h1
      have e2 : (embedAll ds s1).bind (fun r' s2 => Res.ok (d1 :: r') s2) = Res.ok ds' s' := e
      cases h2 : embedAll ds s1 with
      | stuck => rw [h2] at e2; cases e2
      | err c gs s2 => rw [h2] at e2; cases e2
      | ok dr s2 =>
        rw [h2] at e2
        have e3 : Res.ok (d1 :: dr) s2 = Res.ok ds' s' := e2
        cases e3
        obtain ⟨a2, r2⟩ := embedAll_ok a1.wd (Paired.mapP rs fun d v h => h.kp a1.evo.kp a1.evo.pre) h2
        exact ⟨a1.trans a2, _, _, rfl, RepT.kp a2.evo.kp _ _ r1, r2⟩
theorem embed_no {d : DV} {s s' : S} {c : Nat} {fs : List (Str × DV)} : embed d s ≠ .err c fs s' := by
  intro e
  unfold embed at e
  split at e
  · split at e <;> first | cases e | (split at e <;> cases e)
  · cases e
theorem embedAll_no {ds : List DV} : ∀ {s s' : S} {c : Nat} {fs : List (Str × DV)}, embedAll ds s ≠ .err c fs s' := by
  induction ds with
  | nil => intro s s' c fs e; cases e
  | cons d ds ih =>
    intro s s' c fs e
    unfold embedAll at e
    cases h1 : embed d s with
    | stuck => rw [h1] at e; cases e
    | err c gs s1 => exact embed_no h1
    | ok d1 s1 =>
      rw [h1] at e
      have e2 : (embedAll ds s1).bind (fun r' s2 => Res.ok (d1 :: r') s2) = Res.err c fs s' := e
      cases h2 : embedAll ds s1 with
      | stuck => rw [h2] at e2; cases e2
      | err c gs s2 => exact ih h2
      | ok dr s2 => rw [h2] at e2; cases e2
end WS
set_option maxRecDepth 100000
set_option maxHeartbeats 2000000
/-! D3: operators, comparisons, built-ins, subscripts: by values. -/
namespace WS
open PySem PySem.Spec PyProof.Rows L2
/-- a context of the layer that fits the link -/
structure Ctx (G : Lk) (X : Cx) (W : WX) : Prop where
  hP : X.prog = G.P
  hw : X.w = G.w
  hK : X.K = G.K
  hm : X.mg = G.mg
  hb : X.base = G.base
  calm : X.calm = true
  nd : X.N.Nodup
  tk : Takes X W
  po : PassesOwn (model X.prog X.w) X.A X.env X.xe
  gd : X.A.guards = some []
  un : X.A.units + 200 < cLine
theorem LIM_eq : LIM = sizeLine := by rw [sizeLine_eq]; rfl
section
variable {G : Lk} {μ ex : List Addr} {s : S} {H : Hp}
/-- a list, as it stands -/
theorem listOf_rep {d : DV} {v : V} {xs : List DV} (w : Wd G μ ex s H) (r : Rep G μ (Mu μ s ex) H d v) (e : listOf s d = some xs) : ∃ a ys, v = .ref a ∧ H a = some (.lst ys) ∧ RepL G (Mu μ s ex) H xs ys := by
  cases d with
  | lst zs =>
    obtain ⟨a, ys, e1, h, n, q⟩ := r
    have e2 : zs = xs := by simpa [listOf] using e
    subst e2
    exact ⟨a, ys, e1, h, q⟩
  | loc n =>
    obtain ⟨a, e1, h1⟩ := r
    unfold listOf at e
    simp only at e
    cases h2 : s[n]? with
    | none => rw [h2] at e; cases e
    | some c =>
      rw [h2] at e
      have q := w.cells n a c h1 h2
      cases c with
      | lst zs =>
        have e2 : zs = xs := by simpa using e
        subst e2
        obtain ⟨ys, h, q⟩ := q
        exact ⟨a, ys, e1, h, q⟩
      | frz d =>
        cases d with
        | lst zs =>
          have e2 : zs = xs := by simpa using e
          subst e2
          obtain ⟨b, ys, e3, h, n, q⟩ := q
          cases e3
          exact ⟨a, ys, e1, h, q⟩
        | _ => simp at e
      | _ => simp at e
  | _ => simp [listOf] at e
theorem RepL.len : ∀ {ds : List DV} {xs : List V} {M : Addr → Prop}, RepL G M H ds xs → ds.length = xs.length
  | [], _, _, h => by rw [show _ = [] from h]; rfl
  | d :: ds, _, _, ⟨x, r, e, _, q⟩ => by rw [e]; simp [q.len]
theorem RepL.get : ∀ {ds : List DV} {xs : List V} {M : Addr → Prop} {i : Nat} {d : DV}, RepL G M H ds xs → ds[i]? = some d → ∃ x, xs[i]? = some x ∧ RepT G M H d x
  | [], _, _, i, _, _, e => by simp at e
  | d :: ds, _, _, 0, d', ⟨x, r, e, h, q⟩, e2 => by
    have : d = d' := by simpa using e2
    subst this
    exact ⟨x, by rw [e]; rfl, h⟩
  | d :: ds, _, _, i + 1, _, ⟨x, r, e, h, q⟩, e2 => by
    obtain ⟨y, h1, h2⟩ := q.get (i := i) (by simpa using e2)
    exact ⟨y, by rw [e]; simpa using h1, h2⟩
theorem RepL.append : ∀ {ds es : List DV} {xs ys : List V} {M : Addr → Prop}, RepL G M H ds xs → RepL G M H es ys → RepL G M H (ds ++ es) (xs ++ ys)
  | [], _, _, _, _, h, q => by rw [show _ = [] from h]; exact q
  | d :: ds, _, _, _, _, ⟨x, r, e, h, t⟩, q => ⟨x, r ++ _, by rw [e]; rfl, h, t.append q⟩
theorem RepL.ints {M : Addr → Prop} : ∀ (ns : List Int), RepL G M H (ns.map .int) (ns.map V.int)
  | [] => rfl
  | n :: ns => ⟨_, _, rfl, rfl, RepL.ints ns⟩
/-- a list or a tuple, or the script -/
theorem seqOf_rep {d : DV} {v : V} {xs : List DV} (w : Wd G μ ex s H) (r : Rep G μ (Mu μ s ex) H d v) (e : seqOf s d = some xs) : ∃ a ys, v = .ref a ∧ (SqL G.K H a ys ∨ SqT G.K H a ys) ∧ RepL G (Mu μ s ex) H xs ys := by
  cases d with
  | tup zs =>
    obtain ⟨a, ys, e1, h, q⟩ := r
    have e2 : zs = xs := by simpa [seqOf] using e
    subst e2
    exact ⟨a, ys, e1, .inr h, q⟩
  | scr ns =>
    obtain ⟨a, e1, h⟩ := r
    have e2 : ns.map DV.int = xs := by simpa [seqOf] using e
    subst e2
    exact ⟨a, _, e1, .inl h.sq, RepL.ints ns⟩
  | lst zs =>
    obtain ⟨a, ys, e1, h, q⟩ := listOf_rep w r (show listOf s (.lst zs) = some xs from e)
    exact ⟨a, ys, e1, .inl (SqL.of h), q⟩
  | loc n =>
    obtain ⟨a, ys, e1, h, q⟩ := listOf_rep w r (show listOf s (.loc n) = some xs from e)
    exact ⟨a, ys, e1, .inl (SqL.of h), q⟩
  | _ => simp [seqOf, listOf] at e
/-- a list of any kind -/
theorem RepP.toQ {M : Addr → Prop} : ∀ {ps : List (DV × DV)} {kvs : List (Key × V)}, RepP G M H ps kvs → RepQ G μ M H ps kvs
  | [], _, h => h
  | (q, d) :: ps, _, ⟨k, x, r, e1, e2, h, t⟩ => ⟨k, x, r, e1, e2, Rep.tree h, RepP.toQ t⟩
theorem dictOf_rep {d : DV} {v : V} {kvs : List (DV × DV)} (w : Wd G μ ex s H) (r : Rep G μ (Mu μ s ex) H d v) (e : dictOf s d = some kvs) : ∃ a ys, v = .ref a ∧ Rd H a (.dK ys) ∧ RepQ G μ (Mu μ s ex) H kvs ys := by
  cases d with
  | dct zs =>
    obtain ⟨a, ys, e1, h, n, q⟩ := r
    have e2 : zs = kvs := by simpa [dictOf] using e
    subst e2
    exact ⟨a, ys, e1, h, q.toQ⟩
  | loc n =>
    obtain ⟨a, e1, h1⟩ := r
    unfold dictOf at e
    simp only at e
    cases h2 : s[n]? with
    | none => rw [h2] at e; cases e
    | some c =>
      rw [h2] at e
      have q := w.cells n a c h1 h2
      cases c with
      | dct zs =>
        have e2 : zs = kvs := by simpa using e
        subst e2
        obtain ⟨ys, h, q⟩ := q
        exact ⟨a, ys, e1, .inl h, q⟩
      | frz d =>
        cases d with
        | dct zs =>
          have e2 : zs = kvs := by simpa using e
          subst e2
          obtain ⟨b, ys, e3, h, n, q⟩ := q
          cases e3
          exact ⟨a, ys, e1, h, q.toQ⟩
        | _ => simp at e
      | _ => simp at e
  | _ => simp [dictOf] at e
/-- a new list, a new tuple -/
theorem new_lst {p : Addr} {ds : List DV} {xs : List V} (w : Wd G μ ex s H) (h : H p = none) (r : RepL G (Mu μ s ex) H ds xs) : RepT G (Mu μ s ex) (upd H p (.lst xs)) (.lst ds) (.ref p) :=
  ⟨p, xs, rfl, upd_same, w.nmu h, RepL.kp (Keep.alloc h) ds xs r⟩
theorem new_tup {p : Addr} {ds : List DV} {xs : List V} (h : H p = none) (r : RepL G (Mu μ s ex) H ds xs) : RepT G (Mu μ s ex) (upd H p (.tup xs)) (.tup ds) (.ref p) :=
  ⟨p, xs, rfl, SqT.of upd_same, RepL.kp (Keep.alloc h) ds xs r⟩
end
theorem opr_imp {X : Cx} {f : Value → Value → Sem Value} {r r' : R2} (h : OpR X f r) (k : ∀ x y H Q, r' x y H Q → r x y H Q) : OpR X f r' := fun pins s σ H x y v u Q I rx ry q => h pins s σ H x y v u Q I rx ry (k _ _ _ _ q)
theorem callr_imp {X : Cx} {f : Value} {r r' : List V → Hp → VK → Prop} (h : CallR X f r) (k : ∀ xs H Q, r' xs H Q → r xs H Q) : CallR X f r' := fun pins s σ H xs us Q I rx q => h pins s σ H xs us Q I rx (k _ _ _ q)
theorem callr_or {X : Cx} {f : Value} {r r' : List V → Hp → VK → Prop} (h : CallR X f r) (h' : CallR X f r') : CallR X f (fun xs H Q => r xs H Q ∨ r' xs H Q) := fun pins s σ H xs us Q I rx q =>
  q.elim (h pins s σ H xs us Q I rx) (h' pins s σ H xs us Q I rx)
/-- two values, and what an operator makes of them -/
def rD (G : Lk) (o : Op2) : R2 := fun x y H Q => ∃ μ ex s d1 d2 d, Wd G μ ex s H ∧ Rep G μ (Mu μ s ex) H d1 x ∧ Rep G μ (Mu μ s ex) H d2 y ∧ sem2 o d1 d2 s = some d ∧
  ∀ v H', Aft G μ ex s H μ s H' → RepT G (Mu μ s ex) H' d v → Q v H'
section
variable {G : Lk} {X : Cx} {W : WX}
theorem sem_add {x y : V} {H : Hp} {Q : VK} (h : rD G .add x y H Q) :
    rI0 (fun i j => .int (i + j)) x y H Q ∨ (∃ i j, x = .str i ∧ y = .str j ∧ i.length + j.length ≤ sizeLine ∧ Q (.str (i ++ j)) H) ∨ rCat x y H Q := by
  obtain ⟨μ, ex, s, d1, d2, d, w, r1, r2, e, k⟩ := h
  have cat : ∀ {xs ys}, listOf s d1 = some xs → listOf s d2 = some ys → (if xs.length ≤ LIM ∧ ys.length ≤ LIM ∧ xs.length + ys.length ≤ LIM then some (DV.lst (xs ++ ys)) else none) = some d → rCat x y H Q := by
    intro xs ys h1 h2 e
    split at e
    · rename_i hl
      cases e
      obtain ⟨a, zs, rfl, ha, q1⟩ := listOf_rep w r1 h1
      obtain ⟨b, ws, rfl, hb, q2⟩ := listOf_rep w r2 h2
      refine ⟨a, b, zs, ws, rfl, rfl, ha, hb, by rw [← q1.len, ← q2.len, ← LIM_eq]; exact hl.2.2, fun p hp => ?_⟩
      exact k _ _ (Aft.alloc w hp) (new_lst w hp (q1.append q2))
    · cases e
  cases d1 with
  | int i =>
    cases d2 with
    | int j =>
      have e' : some (DV.int (i + j)) = some d := e
      cases e'
      exact .inl ⟨i, j, r1, r2, k _ _ (Aft.refl w) rfl⟩
    | _ => simp [sem2, listOf] at e
  | str i =>
    cases d2 with
    | str j =>
      have e' : (if i.length + j.length ≤ LIM then some (DV.str (i ++ j)) else none) = some d := e
      split at e'
      · rename_i hl
        cases e'
        exact .inr (.inl ⟨i, j, r1, r2, by rw [← LIM_eq]; exact hl, k _ _ (Aft.refl w) rfl⟩)
      · cases e'
    | _ => simp [sem2, listOf] at e
  | lst xs =>
    cases d2 with
    | lst ys => exact .inr (.inr (cat (xs := xs) (ys := ys) rfl rfl e))
    | loc n =>
      cases h2 : listOf s (.loc n) with
      | none => simp [sem2, listOf] at e; simp [listOf] at h2; rw [h2] at e; simp at e
      | some ys =>
        refine .inr (.inr (cat (xs := xs) (ys := ys) rfl h2 ?_))
        have e' : (match listOf s (.lst xs), listOf s (.loc n) with
          | some xs, some ys => if xs.length ≤ LIM ∧ ys.length ≤ LIM ∧ xs.length + ys.length ≤ LIM then some (DV.lst (xs ++ ys)) else none
          | _, _ => none) = some d := e
        rw [h2] at e'
        exact e'
    | _ => simp [sem2, listOf] at e
  | loc m =>
    cases h1 : listOf s (.loc m) with
    | none =>
      cases d2 with
      | int j => simp [sem2, listOf] at e
      | str j => simp [sem2, listOf] at e
      | _ =>
        have e' : (match listOf s (.loc m), listOf s _ with
          | some xs, some ys => if xs.length ≤ LIM ∧ ys.length ≤ LIM ∧ xs.length + ys.length ≤ LIM then some (DV.lst (xs ++ ys)) else none
          | _, _ => none) = some d := e
        rw [h1] at e'
        simp at e'
    | some xs =>
      cases h2 : listOf s d2 with
      | none =>
        have e' : (match listOf s (.loc m), listOf s d2 with
          | some xs, some ys => if xs.length ≤ LIM ∧ ys.length ≤ LIM ∧ xs.length + ys.length ≤ LIM then some (DV.lst (xs ++ ys)) else none
          | _, _ => none) = some d := by cases d2 <;> exact e
        rw [h1, h2] at e'
        simp at e'
      | some ys =>
        refine .inr (.inr (cat h1 h2 ?_))
        have e' : (match listOf s (.loc m), listOf s d2 with
          | some xs, some ys => if xs.length ≤ LIM ∧ ys.length ≤ LIM ∧ xs.length + ys.length ≤ LIM then some (DV.lst (xs ++ ys)) else none
          | _, _ => none) = some d := by cases d2 <;> exact e
        rw [h1, h2] at e'
        exact e'
  | _ => cases d2 <;> simp [sem2, listOf] at e
theorem od_add : OpR X (binaryOp .Add) (rD G .add) := opr_imp (OpR.or op_add (OpR.or op_add_str op_cat)) fun _ _ _ _ h => sem_add h
theorem od_sub : OpR X (binaryOp .Sub) (rD G .sub) := opr_imp op_sub fun x y H Q h => by
  obtain ⟨μ, ex, s, d1, d2, d, w, r1, r2, e, k⟩ := h
  cases d1 <;> cases d2 <;> simp [sem2] at e
  subst e
  exact ⟨_, _, r1, r2, k _ _ (Aft.refl w) rfl⟩
theorem od_fdiv : OpR X (binaryOp .FloorDiv) (rD G .fdiv) := opr_imp op_fdiv fun x y H Q h => by
  obtain ⟨μ, ex, s, d1, d2, d, w, r1, r2, e, k⟩ := h
  cases d1 <;> cases d2 <;> simp [sem2] at e
  obtain ⟨e1, e⟩ := e
  subst e
  exact ⟨_, _, r1, r2, e1, k _ _ (Aft.refl w) rfl⟩
theorem od_md : OpR X (binaryOp .Mod) (rD G .md) := opr_imp op_mod fun x y H Q h => by
  obtain ⟨μ, ex, s, d1, d2, d, w, r1, r2, e, k⟩ := h
  cases d1 <;> cases d2 <;> simp [sem2] at e
  obtain ⟨e1, e⟩ := e
  subst e
  exact ⟨_, _, r1, r2, e1, k _ _ (Aft.refl w) rfl⟩
theorem od_pow : OpR X (binaryOp .Pow) (rD G .pow) := opr_imp op_pow fun x y H Q h => by
  obtain ⟨μ, ex, s, d1, d2, d, w, r1, r2, e, k⟩ := h
  cases d1 <;> cases d2 <;> simp only [sem2] at e <;> try (cases e; done)
  split at e
  · rename_i h
    cases e
    exact ⟨_, _, r1, r2, h, k _ _ (Aft.refl w) rfl⟩
  · cases e
end
end WS
set_option maxRecDepth 100000
set_option maxHeartbeats 2000000
/-! D4: comparisons, built-ins, subscripts: by values. -/
namespace WS
open PySem PySem.Spec PyProof.Rows L2
/-! ### plain data as the library's data -/
mutual
def toPy : DV → PyData
  | .bl b => .bool b
  | .int i => .int i
  | .str x => .str x
  | .tup xs => .tuple (toPyL xs)
  | .lst xs => .list (toPyL xs)
  | _ => .none
def toPyL : List DV → List PyData
  | [] => []
  | x :: xs => toPy x :: toPyL xs
end
mutual
theorem toPy_plain : ∀ d : DV, (toPy d).plain = true
  | .bl b => rfl
  | .int i => rfl
  | .str x => rfl
  | .tup xs => by show PyData.plainAll (toPyL xs) = true; exact toPyL_plain xs
  | .lst xs => by show PyData.plainAll (toPyL xs) = true; exact toPyL_plain xs
  | .non => rfl
  | .dct _ => rfl
  | .ins _ _ => rfl
  | .exc _ _ => rfl
  | .scr _ => rfl
  | .loc _ => rfl
theorem toPyL_plain : ∀ xs : List DV, PyData.plainAll (toPyL xs) = true
  | [] => rfl
  | x :: xs => by show (PyData.plain (toPy x) && PyData.plainAll (toPyL xs)) = true; rw [toPy_plain x, toPyL_plain xs]; rfl
end
mutual
theorem toPy_depth : ∀ d : DV, (toPy d).depth = depthD d
  | .bl b => rfl
  | .int i => rfl
  | .str x => rfl
  | .tup xs => by
    show PyData.depth (.tuple (toPyL xs)) = depthL xs + 1
    rw [← toPyL_depth xs]
    first | rfl | (simp [PyData.depth]; done) | (simp [PyData.depth, Nat.add_comm])
  | .lst xs => by
    show PyData.depth (.list (toPyL xs)) = depthL xs + 1
    rw [← toPyL_depth xs]
    first | rfl | (simp [PyData.depth]; done) | (simp [PyData.depth, Nat.add_comm])
  | .non => rfl
  | .dct _ => rfl
  | .ins _ _ => rfl
  | .exc _ _ => rfl
  | .scr _ => rfl
  | .loc _ => rfl
theorem toPyL_depth : ∀ xs : List DV, PyData.depthAll (toPyL xs) = depthL xs
  | [] => rfl
  | x :: xs => by
    show PyData.depthAll (toPy x :: toPyL xs) = max (depthD x) (depthL xs)
    rw [← toPy_depth x, ← toPyL_depth xs]
    first | rfl | simp [PyData.depthAll]
end
mutual
theorem toPy_eqv : ∀ a b : DV, plainD a = true → plainD b = true → PyData.eqv (toPy a) (toPy b) = deq a b
  | .non, b, _, hb => by cases b <;> simp_all [plainD, toPy, PyData.eqv, deq]
  | .bl x, b, _, hb => by cases b <;> simp_all [plainD, toPy, PyData.eqv, deq]
  | .int i, b, _, hb => by cases b <;> simp_all [plainD, toPy, PyData.eqv, deq]
  | .str x, b, _, hb => by cases b <;> simp_all [plainD, toPy, PyData.eqv, deq]
  | .tup xs, b, ha, hb => by
    cases b with
    | tup ys => simpa [toPy, PyData.eqv, deq] using toPyL_eqv xs ys (by simpa [plainD] using ha) (by simpa [plainD] using hb)
    | _ => simp_all [plainD, toPy, PyData.eqv, deq]
  | .lst xs, b, ha, hb => by
    cases b with
    | lst ys => simpa [toPy, PyData.eqv, deq] using toPyL_eqv xs ys (by simpa [plainD] using ha) (by simpa [plainD] using hb)
    | _ => simp_all [plainD, toPy, PyData.eqv, deq]
  | .dct _, _, ha, _ => by simp [plainD] at ha
  | .ins _ _, _, ha, _ => by simp [plainD] at ha
  | .exc _ _, _, ha, _ => by simp [plainD] at ha
  | .scr _, _, ha, _ => by simp [plainD] at ha
  | .loc _, _, ha, _ => by simp [plainD] at ha
theorem toPyL_eqv : ∀ xs ys : List DV, plainL xs = true → plainL ys = true → PyData.eqvAll (toPyL xs) (toPyL ys) = deqL xs ys
  | [], [], _, _ => by simp [toPyL, PyData.eqvAll, deqL]
  | [], _ :: _, _, _ => by simp [toPyL, PyData.eqvAll, deqL]
  | _ :: _, [], _, _ => by simp [toPyL, PyData.eqvAll, deqL]
  | x :: xs, y :: ys, h1, h2 => by
    simp only [plainL, Bool.and_eq_true] at h1 h2
    simp [toPyL, PyData.eqvAll, deqL, toPy_eqv x y h1.1 h2.1, toPyL_eqv xs ys h1.2 h2.2]
end
section
variable {G : Lk} {M : Addr → Prop} {H : Hp}
mutual
theorem RepT.dp : ∀ (d : DV) (v : V), plainD d = true → RepT G M H d v → Dp G.K H v (toPy d)
  | .non, _, _, h => by rw [show _ = V.non from h]; exact .non
  | .bl b, _, _, h => by rw [show _ = V.bl b from h]; exact .bl b
  | .int i, _, _, h => by rw [show _ = V.int i from h]; exact .int i
  | .str x, _, _, h => by rw [show _ = V.str x from h]; exact .str x
  | .tup ds, _, hp, ⟨a, xs, e, h, r⟩ => by rw [e]; exact .tup h (RepL.dp ds xs (by simpa [plainD] using hp) r)
  | .lst ds, _, hp, ⟨a, xs, e, h, n, r⟩ => by rw [e]; exact .lst (SqL.of h) (RepL.dp ds xs (by simpa [plainD] using hp) r)
  | .dct _, _, hp, _ => by simp [plainD] at hp
  | .ins _ _, _, hp, _ => by simp [plainD] at hp
  | .exc _ _, _, hp, _ => by simp [plainD] at hp
  | .scr _, _, hp, _ => by simp [plainD] at hp
  | .loc _, _, hp, _ => by simp [plainD] at hp
theorem RepL.dp : ∀ (ds : List DV) (xs : List V), plainL ds = true → RepL G M H ds xs → DpAll G.K H xs (toPyL ds)
  | [], _, _, h => by rw [show _ = [] from h]; exact .nil
  | d :: ds, _, hp, ⟨x, r, e, h, q⟩ => by
    simp only [plainL, Bool.and_eq_true] at hp
    rw [e]
    exact .cons (RepT.dp d x hp.1 h) (RepL.dp ds r hp.2 q)
end
end
/-- a value as a tree, looked at -/
theorem treeOf_rep {G : Lk} {μ ex : List Addr} {s : S} {H : Hp} {d t : DV} {v : V} (w : Wd G μ ex s H) (r : Rep G μ (Mu μ s ex) H d v) (e : treeOf s d = some t) : ∃ M' : Addr → Prop, RepT G M' H t v := by
  cases d with
  | loc n =>
    obtain ⟨a, rfl, h1⟩ := r
    unfold treeOf at e
    simp only at e
    have sub : Keep (Mu μ s ex) (fun _ => False) H H := ⟨fun _ _ h _ _ _ => h, fun _ _ h _ => h, fun _ _ h => h, fun _ _ _ h => h, fun _ _ z => z.elim⟩
    cases h2 : s[n]? with
    | none => rw [h2] at e; cases e
    | some c =>
      rw [h2] at e
      have q := w.cells n a c h1 h2
      cases c with
      | lst xs =>
        simp only [Option.some.injEq] at e
        subst e
        obtain ⟨ys, h, q⟩ := q
        exact ⟨fun _ => False, a, ys, rfl, h, fun z => z, RepL.kp sub xs ys q⟩
      | dct kvs =>
        simp only at e
        split at e
        · rename_i hp
          simp only [Option.some.injEq] at e
          subst e
          obtain ⟨ys, h, q⟩ := q
          exact ⟨fun _ => False, a, ys, rfl, .inl h, fun z => z, RepP.kp sub kvs ys (RepQ.plain kvs ys hp q)⟩
        · cases e
      | ins c gs => simp only at e; cases e
      | frz d =>
        simp only [Option.some.injEq] at e
        subst e
        exact ⟨_, q⟩
  | _ =>
    have e' : some _ = some t := e
    cases e'
    exact ⟨Mu μ s ex, r⟩
/-- two values, and what a comparison says of them -/
def rC (G : Lk) (o : Cmp) : R2 := fun x y H Q => ∃ μ ex s d1 d2 b, Wd G μ ex s H ∧ Rep G μ (Mu μ s ex) H d1 x ∧ Rep G μ (Mu μ s ex) H d2 y ∧ semC o d1 d2 s = some b ∧ Q (.bl b) H
section
variable {G : Lk} {X : Cx} {W : WX}
theorem sem_eq {x y : V} {H : Hp} {Q : VK} {ng : Bool} {o : Cmp} (ho : o = if ng then .ne else .eq) (h : rC G o x y H Q) : (∃ d e, Dp G.K H x d ∧ Dp G.K H y e ∧ d.plain = true ∧ e.plain = true ∧ d.depth ≤ 60 ∧ Q (.bl (if ng then !PyData.eqv d e else PyData.eqv d e)) H) ∨
    (∃ p q xs ys, x = .ref p ∧ y = .ref q ∧ SqL G.K H p xs ∧ SqL G.K H q ys ∧ xs.length ≠ ys.length ∧ Q (.bl ng) H) := by
  obtain ⟨μ, ex, s, d1, d2, b, w, r1, r2, e, k⟩ := h
  have key : ∀ (f : Bool → Bool), (match treeOf s d1, treeOf s d2 with
      | some x, some y => (eqT x y).map f
      | _, _ => none) = some b → (∃ d e, Dp G.K H x d ∧ Dp G.K H y e ∧ d.plain = true ∧ e.plain = true ∧ d.depth ≤ 60 ∧ b = f (PyData.eqv d e)) ∨
        (∃ p q xs ys, x = .ref p ∧ y = .ref q ∧ SqL G.K H p xs ∧ SqL G.K H q ys ∧ xs.length ≠ ys.length ∧ b = f false) := by
    intro f e
    cases h1 : treeOf s d1 with
    | none => rw [h1] at e; cases e
    | some t1 =>
      cases h2 : treeOf s d2 with
      | none => rw [h1, h2] at e; cases e
      | some t2 =>
        rw [h1, h2] at e
        simp only at e
        obtain ⟨M1, q1⟩ := treeOf_rep w r1 h1
        obtain ⟨M2, q2⟩ := treeOf_rep w r2 h2
        unfold eqT at e
        split at e
        · rename_i hc
          simp only [Bool.and_eq_true, decide_eq_true_eq] at hc
          obtain ⟨⟨⟨p1, p2⟩, p3⟩, p4⟩ := hc
          cases e
          refine .inl ⟨toPy t1, toPy t2, RepT.dp t1 x p1 q1, RepT.dp t2 y p2 q2, toPy_plain _, toPy_plain _, by rw [toPy_depth]; exact p3, ?_⟩
          rw [toPy_eqv t1 t2 p1 p2]
        · split at e
          · rename_i hl
            cases e
            cases t1 with
            | lst xs =>
              cases t2 with
              | lst ys =>
                obtain ⟨p, zs, ex, hp, np, rp⟩ := q1
                obtain ⟨q, ws, ey, hq, nq, rq⟩ := q2
                refine .inr ⟨p, q, zs, ws, ex, ey, SqL.of hp, SqL.of hq, ?_, rfl⟩
                rw [← rp.len, ← rq.len]
                simpa [lenNe] using hl
              | _ => simp [lenNe] at hl
            | _ => simp [lenNe] at hl
          · cases e
  cases ng with
  | true =>
    have ho' : o = .ne := ho
    subst ho'
    rcases key (fun b => !b) e with ⟨d, e', a1, a2, a3, a4, a5, a6⟩ | ⟨p, q, xs, ys, a1, a2, a3, a4, a5, a6⟩
    · exact .inl ⟨d, e', a1, a2, a3, a4, a5, by rw [a6] at k; exact k⟩
    · exact .inr ⟨p, q, xs, ys, a1, a2, a3, a4, a5, by rw [a6] at k; exact k⟩
  | false =>
    have ho' : o = .eq := ho
    subst ho'
    have e2 : (match treeOf s d1, treeOf s d2 with
      | some x, some y => (eqT x y).map (fun b => b)
      | _, _ => none) = some b := by
      rw [← e]
      simp only [semC]
      cases treeOf s d1 <;> cases treeOf s d2 <;> simp
    rcases key (fun b => b) e2 with ⟨d, e', a1, a2, a3, a4, a5, a6⟩ | ⟨p, q, xs, ys, a1, a2, a3, a4, a5, a6⟩
    · exact .inl ⟨d, e', a1, a2, a3, a4, a5, by rw [a6] at k; exact k⟩
    · exact .inr ⟨p, q, xs, ys, a1, a2, a3, a4, a5, by rw [a6] at k; exact k⟩
theorem lists_ne {pins : List (Addr × Obj)} {σ : L2.St} {H : Hp} {s : Shared} {p q : Addr} {xs ys : List V} (I : Inv X pins σ H s) (h1 : SqL X.K H p xs) (h2 : SqL X.K H q ys) (hn : xs.length ≠ ys.length) : ∃ as bs : Array Value, s.heap.IsList p as ∧ s.heap.IsList q bs ∧ (as.size != bs.size) = true := by
  obtain ⟨is, r, pl, hz⟩ := I.list h1
  obtain ⟨js, r', pl', hz'⟩ := I.list h2
  refine ⟨_, _, pl.isList, pl'.isList, ?_⟩
  have l1 := r.length
  have l2 := r'.length
  simp only [List.size_toArray, bne_iff_ne, ne_eq]
  omega
theorem oc_eq (c : Ctx G X W) : OpR X (compareOp .Eq) (rC G .eq) := by
  intro pins s σ H x y v u Q I rx ry h
  rcases sem_eq (ng := false) rfl h with ⟨d, e, q1, q2, p1, p2, p3, k⟩ | ⟨p, q, xs, ys, ex, ey, h1, h2, hn, k⟩
  · rw [← c.hK] at q1 q2
    obtain ⟨as, r1⟩ := Dp.reads I d x v q1 rx
    obtain ⟨bs, r2⟩ := Dp.reads I e y u q2 ry
    exact SeqAt.eq_plain r1 r2 p1 p2 (Nat.lt_of_le_of_lt (Nat.add_le_add_left (Nat.le_trans (Nat.min_le_left _ _) (Nat.le_trans p3 (by decide))) _) c.un) ⟨.bl _, H, I, rfl, k⟩
  · subst ex ey
    rw [← c.hK] at h1 h2
    cases rx
    cases ry
    obtain ⟨as, bs, l1, l2, hs⟩ := lists_ne I h1 h2 hn
    exact SeqAt.RcAt.lists_lengths l1 l2 hs (by have := c.un; omega) X.prog X.w _ _ ⟨.bl false, H, I, rfl, k⟩
theorem oc_ne (c : Ctx G X W) : OpR X (compareOp .NotEq) (rC G .ne) := by
  intro pins s σ H x y v u Q I rx ry h
  rcases sem_eq (ng := true) rfl h with ⟨d, e, q1, q2, p1, p2, p3, k⟩ | ⟨p, q, xs, ys, ex, ey, h1, h2, hn, k⟩
  · rw [← c.hK] at q1 q2
    obtain ⟨as, r1⟩ := Dp.reads I d x v q1 rx
    obtain ⟨bs, r2⟩ := Dp.reads I e y u q2 ry
    exact SeqAt.ne_plain r1 r2 p1 p2 (Nat.lt_of_le_of_lt (Nat.add_le_add_left (Nat.le_trans (Nat.min_le_left _ _) (Nat.le_trans p3 (by decide))) _) c.un) ⟨.bl _, H, I, rfl, k⟩
  · subst ex ey
    rw [← c.hK] at h1 h2
    cases rx
    cases ry
    obtain ⟨as, bs, l1, l2, hs⟩ := lists_ne I h1 h2 hn
    exact SeqAt.RcNeAt.lists_lengths l1 l2 hs (by have := c.un; omega) X.prog X.w _ _ ⟨.bl true, H, I, rfl, k⟩
theorem oc_lt : OpR X (compareOp .Lt) (rC G .lt) := opr_imp op_lt fun x y H Q h => by
  obtain ⟨μ, ex, s, d1, d2, b, w, r1, r2, e, k⟩ := h
  cases d1 <;> cases d2 <;> simp [semC] at e
  subst e
  exact ⟨_, _, r1, r2, k⟩
theorem oc_le : OpR X (compareOp .LtE) (rC G .le) := opr_imp op_le fun x y H Q h => by
  obtain ⟨μ, ex, s, d1, d2, b, w, r1, r2, e, k⟩ := h
  cases d1 <;> cases d2 <;> simp [semC] at e
  subst e
  exact ⟨_, _, r1, r2, k⟩
theorem oc_gt : OpR X (compareOp .Gt) (rC G .gt) := opr_imp op_gt fun x y H Q h => by
  obtain ⟨μ, ex, s, d1, d2, b, w, r1, r2, e, k⟩ := h
  cases d1 <;> cases d2 <;> simp [semC] at e
  subst e
  exact ⟨_, _, r1, r2, k⟩
theorem oc_ge : OpR X (compareOp .GtE) (rC G .ge) := opr_imp op_ge fun x y H Q h => by
  obtain ⟨μ, ex, s, d1, d2, b, w, r1, r2, e, k⟩ := h
  cases d1 <;> cases d2 <;> simp [semC] at e
  subst e
  exact ⟨_, _, r1, r2, k⟩
theorem rep_non {μ : List Addr} {M : Addr → Prop} {H : Hp} {d : DV} {x : V} (r : Rep G μ M H d x) : decide (x = .non) = isNon d := by
  cases d with
  | non => rw [show x = V.non from r]; rfl
  | bl b => rw [show x = V.bl b from r]; rfl
  | int b => rw [show x = V.int b from r]; rfl
  | str b => rw [show x = V.str b from r]; rfl
  | tup b => obtain ⟨a, _, e, _⟩ := r; rw [e]; rfl
  | lst b => obtain ⟨a, _, e, _⟩ := r; rw [e]; rfl
  | dct b => obtain ⟨a, _, e, _⟩ := r; rw [e]; rfl
  | ins b c => obtain ⟨a, _, _, e, _⟩ := r; rw [e]; rfl
  | exc b c => obtain ⟨a, _, e, _⟩ := r; rw [e]; rfl
  | scr b => obtain ⟨a, e, _⟩ := r; rw [e]; rfl
  | loc b => obtain ⟨a, e, _⟩ := r; rw [e]; rfl
theorem oc_isN : OpR X (compareOp .Is) (rC G .isN) := opr_imp op_isN fun x y H Q h => by
  obtain ⟨μ, ex, s, d1, d2, b, w, r1, r2, e, k⟩ := h
  cases d2 with
  | non =>
    refine ⟨r2, ?_⟩
    rw [rep_non r1]
    have e' : some (isNon d1) = some b := by rw [← e]; cases d1 <;> rfl
    cases e'
    exact k
  | _ => cases d1 <;> simp [semC] at e
theorem oc_isnN : OpR X (compareOp .IsNot) (rC G .isnN) := opr_imp op_notN fun x y H Q h => by
  obtain ⟨μ, ex, s, d1, d2, b, w, r1, r2, e, k⟩ := h
  cases d2 with
  | non =>
    refine ⟨r2, ?_⟩
    rw [rep_non r1]
    have e' : some (!isNon d1) = some b := by rw [← e]; cases d1 <;> rfl
    cases e'
    exact k
  | _ => cases d1 <;> simp [semC] at e
theorem sign_of {c : Str} (h : c.cps.size = 1) : c = ⟨#[c.cps.getD 0 0]⟩ := by
  obtain ⟨a⟩ := c
  obtain ⟨l⟩ := a
  match l, h with
  | [x], _ => rfl
/-- flat data are flat values -/
def dvF : DV → V
  | .bl b => .bl b
  | .int i => .int i
  | .str x => .str x
  | _ => .non
theorem flat_t {M : Addr → Prop} {H : Hp} {d : DV} {x : V} (h : flatD d = true) (r : RepT G M H d x) : x = dvF d := by
  cases d <;> first | exact r | (simp [flatD] at h)
theorem flat_r {μ : List Addr} {M : Addr → Prop} {H : Hp} {d : DV} {x : V} (h : flatD d = true) (r : Rep G μ M H d x) : x = dvF d := by
  cases d <;> first | exact r | (simp [flatD] at h)
theorem flat_v {d : DV} (h : flatD d = true) : flatV (dvF d) = true := by
  cases d <;> first | rfl | (simp [flatD] at h)
theorem flat_l {M : Addr → Prop} {H : Hp} : ∀ {ds : List DV} {xs : List V}, ds.all flatD = true → RepL G M H ds xs → xs = ds.map dvF
  | [], _, _, r => r
  | d :: ds, _, h, ⟨x, q, e, rx, rl⟩ => by
    simp only [List.all_cons, Bool.and_eq_true] at h
    rw [e, flat_t h.1 rx, flat_l h.2 rl]
    rfl
theorem flat_eq {a b : DV} (ha : flatD a = true) (hb : flatD b = true) : eqV (dvF b) (dvF a) = deq b a := by
  cases a <;> simp [flatD] at ha <;> cases b <;> simp [flatD] at hb <;> rfl
theorem sk_inj {k k' : Key} {q : SK} (h : skOf (keyDV k) = some q) (h' : skOf (keyDV k') = some q) : k' = k := by
  rw [← h'] at h
  cases k with
  | inl i =>
    cases k' with
    | inl j =>
      have e : some (SK.i i) = some (SK.i j) := h
      cases e
      rfl
    | inr y => have e : some (SK.i i) = some (SK.s y) := h; cases e
  | inr x =>
    cases k' with
    | inl j => have e : some (SK.s x) = some (SK.i j) := h; cases e
    | inr y =>
      have e : some (SK.s x) = some (SK.s y) := h
      cases e
      rfl
/-- what a dict has -/
theorem RepQ.has {μ : List Addr} {M : Addr → Prop} {H : Hp} {k : Key} {q : SK} (hq : skOf (keyDV k) = some q) : ∀ {ds : List (DV × DV)} {xs : List (Key × V)}, RepQ G μ M H ds xs → (valV xs k).isSome = (dget q ds).isSome
  | [], _, e => by rw [show _ = [] from e]; rfl
  | (p, u) :: ds, _, ⟨k', x, r, e1, e2, h, t⟩ => by
    subst e1 e2
    unfold dget
    by_cases hk : k' = k
    · subst hk
      rw [if_pos hq, valV_pos rfl]
      rfl
    · have hn : ¬ skOf (keyDV k') = some q := fun z => hk (sk_inj hq z)
      rw [if_neg hn, valV_neg hk]
      exact RepQ.has hq t
/-- a key in a dict -/
def rDin (neg : Bool) : R2 := fun x y H Q => ∃ a o, y = .ref a ∧ DGet H a x o ∧ Q (.bl (if neg then !o.isSome else o.isSome)) H
theorem op_din (c : Ctx G X W) : OpR X (compareOp .In) (rDin false) := by
  intro pins s σ H x y v u Q I rx ry h
  obtain ⟨a, o, rfl, g, q⟩ := h
  cases (show u = Value.ref a from ry)
  exact d_in (Nat.lt_of_le_of_lt (Nat.add_le_add_left (by decide) _) c.un) I g rx fun s' J => ⟨.bl _, H, J, rfl, q⟩
theorem op_dnin (c : Ctx G X W) : OpR X (compareOp .NotIn) (rDin true) := by
  intro pins s σ H x y v u Q I rx ry h
  obtain ⟨a, o, rfl, g, q⟩ := h
  cases (show u = Value.ref a from ry)
  exact d_notIn (Nat.lt_of_le_of_lt (Nat.add_le_add_left (by decide) _) c.un) I g rx fun s' J => ⟨.bl _, H, J, rfl, q⟩
theorem seq_in (c : Ctx G X W) {μ ex : List Addr} {s : S} {H : Hp} {d1 d2 : DV} {x y : V} {b : Bool} (w : Wd G μ ex s H) (r1 : Rep G μ (Mu μ s ex) H d1 x) (r2 : Rep G μ (Mu μ s ex) H d2 y) (e : inSeq d1 d2 s = some b) :
    (∃ p xs, y = .ref p ∧ (SqL X.K H p xs ∨ SqT X.K H p xs) ∧ flatV x = true ∧ xs.all flatV = true ∧ inV x xs = b) ∨ ∃ a o, y = .ref a ∧ DGet H a x o ∧ o.isSome = b := by
  unfold inSeq at e
  cases hs : seqOf s d2 with
  | none =>
    rw [hs] at e
    simp only at e
    right
    cases hd : dictOf s d2 with
    | none => rw [hd] at e; cases e
    | some kvs =>
      rw [hd] at e
      have key : ∀ (kk : Key) (q : SK), skOf (keyDV kk) = some q → x = kV kk → skOf d1 = some q → ∃ a o, y = .ref a ∧ DGet H a x o ∧ o.isSome = b := by
        intro kk q hq hx h1
        rw [h1] at e
        have e : some (dget q kvs).isSome = some b := e
        cases e
        obtain ⟨a, zs, rfl, ha, rq⟩ := dictOf_rep w r2 hd
        rw [hx]
        exact ⟨a, _, rfl, .inl ⟨zs, kk, ha, rfl, rfl⟩, RepQ.has hq rq⟩
      cases d1 with
      | int i => exact key (.inl i) (.i i) rfl r1 rfl
      | str z => exact key (.inr z) (.s z) rfl r1 rfl
      | _ => cases e
  | some ds =>
    rw [hs] at e
    simp only at e
    left
    split at e
    · rename_i hf
      simp only [Bool.and_eq_true] at hf
      cases e
      obtain ⟨p, zs, ey, hq, rl⟩ := seqOf_rep w r2 hs
      have ez := flat_l hf.2 rl
      subst ez
      have exx := flat_r hf.1 r1
      subst exx
      refine ⟨p, _, ey, by rw [c.hK]; exact hq, flat_v hf.1, ?_, ?_⟩
      · rw [List.all_map, List.all_eq_true]
        intro d hd
        exact flat_v (List.all_eq_true.mp hf.2 d hd)
      · unfold inV
        rw [List.any_map]
        have hall := hf.2
        have ha := hf.1
        clear hs rl hq hf
        induction ds with
        | nil => rfl
        | cons d ds ih =>
          simp only [List.all_cons, Bool.and_eq_true] at hall
          rw [List.any_cons, List.any_cons, ih hall.2]
          congr 1
          exact flat_eq ha hall.1
    · cases e
theorem oc_in (c : Ctx G X W) : OpR X (compareOp .In) (rC G .isin) := opr_imp (OpR.or op_in_sign (OpR.or op_in_seq (op_din c))) fun x y H Q h => by
  obtain ⟨μ, ex, s, d1, d2, b, w, r1, r2, e, k⟩ := h
  have seq : inSeq d1 d2 s = some b → rIn X.K false x y H Q ∨ rDin false x y H Q := fun e => by
    rcases seq_in c w r1 r2 e with ⟨p, xs, h1, h2, h3, h4, h5⟩ | ⟨a, o, h1, h2, h3⟩
    · exact .inl ⟨p, xs, h1, h2, h3, h4, by rw [if_neg Bool.false_ne_true, h5]; exact k⟩
    · exact .inr ⟨a, o, h1, h2, by rw [if_neg Bool.false_ne_true, h3]; exact k⟩
  cases d1 <;> cases d2 <;> first | exact .inr (seq e) | skip
  rename_i c z
  simp only [semC] at e
  split at e
  · rename_i hc
    cases e
    exact .inl ⟨_, z, by rw [show x = V.str c from r1]; rw [← sign_of hc], r2, k⟩
  · cases e
theorem oc_nin (c : Ctx G X W) : OpR X (compareOp .NotIn) (rC G .nin) := opr_imp (OpR.or op_notIn_sign (OpR.or op_notIn_seq (op_dnin c))) fun x y H Q h => by
  obtain ⟨μ, ex, s, d1, d2, b, w, r1, r2, e, k⟩ := h
  have seq : (inSeq d1 d2 s).map (!·) = some b → rIn X.K true x y H Q ∨ rDin true x y H Q := fun e => by
    obtain ⟨b', e1, e2⟩ := Option.map_eq_some_iff.mp e
    rcases seq_in c w r1 r2 e1 with ⟨p, xs, h1, h2, h3, h4, h5⟩ | ⟨a, o, h1, h2, h3⟩
    · exact .inl ⟨p, xs, h1, h2, h3, h4, by rw [if_pos rfl, h5, e2]; exact k⟩
    · exact .inr ⟨a, o, h1, h2, by rw [if_pos rfl, h3, e2]; exact k⟩
  cases d1 <;> cases d2 <;> first | exact .inr (seq e) | skip
  rename_i c z
  simp only [semC] at e
  split at e
  · rename_i hc
    cases e
    exact .inl ⟨_, z, by rw [show x = V.str c from r1]; rw [← sign_of hc], r2, k⟩
  · cases e
end
end WS
set_option maxRecDepth 100000
set_option maxHeartbeats 2000000
/-! D5: built-in functions, isinstance, subscripts: by values. -/
namespace WS
open PySem PySem.Spec PyProof.Rows L2
/-- built-ins that are called by their names -/
def bltNames : List Str := ["len", "repr", "abs", "min", "max", "all", "any", "list", "tuple", "sorted", "int", "str", "sum", "dict", "isinstance", "range", "enumerate", "bool", "ValueError"]
/-- the type of a value, a written class -/
def tyV (G : Lk) : DV → Value
  | .non => .type "NoneType"
  | .bl _ => .type "bool"
  | .int _ => .type "int"
  | .str _ => .type "str"
  | .tup _ => .type "tuple"
  | .lst _ => .type "list"
  | .dct _ => .type "dict"
  | .ins c _ => .ref (G.ca c)
  | .exc c _ => .ref (G.xa c)
  | .scr _ => .type "list"
  | .loc _ => .none
def clV (G : Lk) : Ty → Value
  | .int => .type "int"
  | .bool => .type "bool"
  | .str => .type "str"
  | .list => .type "list"
  | .tuple => .type "tuple"
  | .dict => .type "dict"
  | .own c => .ref (G.ca c)
  | .exc c => .ref (G.xa c)
  | .valueError => .type "ValueError"
def clW (G : Lk) : Ty → V
  | .int => .ty "int"
  | .bool => .ty "bool"
  | .str => .ty "str"
  | .list => .ty "list"
  | .tuple => .ty "tuple"
  | .dict => .ty "dict"
  | .own c => .ref (G.ca c)
  | .exc c => .ref (G.xa c)
  | .valueError => .ty "ValueError"
theorem clW_rel (G : Lk) (t : Ty) : ClsV (clW G t) (clV G t) := by cases t <;> first | exact .ty _ | exact .own _
/-- an own class's facts, for isinstance -/
structure ClsT (K : PySem.W.Frag) (C : Addr) : Prop where
  cl : Cls K C
  ha : PySem.W.findIn K (.ref C) "__class__" = some (some (.builtin "object.__class__"))
  hn : PySem.W.specialIn K (.builtin "object.__class__") "__get__" = some (some (.builtin "getset_descriptor.__get__"))
  ht : PySem.W.takesIn K (.builtin "object.__class__") = some true
  hm : PySem.W.mroIn K C (.type "object") = some true
/-- what isinstance wants of the link -/
structure LnI (G : Lk) (P : Pg) : Prop where
  sm : (G.K.lookup sysModules).isSome = true
  free : ∀ x ∈ bltNames, G.mg x = none
  cls : ∀ c k, P.cl c = some k → ClsT G.K (G.ca c)
  exc : ∀ c fs, P.ex c = some fs → ExcC G.K (G.xa c) ∧ (PySem.W.clsIn G.K (G.xa c)).isSome = true
  kit : ∀ (d : DV) (t : Ty) (b : Bool), isTy P.up d t = some b → (∀ c fs, d = .ins c fs → (P.cl c).isSome = true) → (∀ c fs, d = .exc c fs → (P.ex c).isSome = true) → (∀ c, t = .own c → (P.cl c).isSome = true) → (∀ c, t = .exc c → (P.ex c).isSome = true) → PySem.W.kitOne G.K (tyV G d) (clV G t) = some b
/-- a written class is one of the table -/
def tyOk (P : Pg) : Ty → Bool
  | .own c => (P.cl c).isSome
  | .exc c => (P.ex c).isSome
  | _ => true
section
variable {G : Lk} {P : Pg} {X : Cx} {W : WX}
theorem LnI.kit1 (L : LnI G P) {d : DV} {t : Ty} {b : Bool} (e : isTy P.up d t = some b) (h1 : dvOk P d = true) (h2 : tyOk P t = true) : PySem.W.kitOne G.K (tyV G d) (clV G t) = some b :=
  L.kit d t b e (fun c fs z => by subst z; exact h1) (fun c fs z => by subst z; exact h1) (fun c z => by subst z; exact h2) (fun c z => by subst z; exact h2)
theorem LnI.kitL (L : LnI G P) {d : DV} (h1 : dvOk P d = true) : ∀ {ts : List Ty} {b : Bool}, isAny P.up d ts = some b → ts.all (tyOk P) = true → PySem.W.kitAny G.K (tyV G d) (ts.map (clV G)) = some b
  | [], b, e, _ => by have e' : some false = some b := e; cases e'; rfl
  | t :: ts, b, e, h2 => by
    simp only [List.all_cons, Bool.and_eq_true] at h2
    unfold isAny at e
    cases h : isTy P.up d t with
    | none => rw [h] at e; cases e
    | some k =>
      rw [h] at e
      have q := L.kit1 h h1 h2.1
      cases k with
      | true => have e' : some true = some b := e; cases e'; exact kitAny_cons q (fun z => by cases z) fun _ => rfl
      | false => exact kitAny_cons q (fun _ => L.kitL h1 e h2.2) fun z => by cases z
/-- what the library's isinstance rules ask -/
theorem kit_rep (L : LnI G P) (c : Ctx G X W) {pins : List (Addr × Obj)} {σ : L2.St} {H : Hp} {sh : Shared} (I : Inv X pins σ H sh) {M : Addr → Prop} {d : DV} {v : V} {u : Value} (r : RepT G M H d v) (ru : RelV v u) (hd : dvOk P d = true) :
    ∃ Z : Heap → Prop, PySem.W.KitX X.K u (tyV G d) Z ∧ Z sh.heap ∧ u ≠ .builtin "__main__.__loader__#opaque" := by
  have viaTy : ∀ t, TyX X.K H v t → tyV G d = t → ∃ Z : Heap → Prop, PySem.W.KitX X.K u (tyV G d) Z ∧ Z sh.heap ∧ u ≠ .builtin "__main__.__loader__#opaque" := fun t ty e => by rw [e]; exact kit_of I ru ty
  cases d with
  | non => rw [show v = V.non from r] at viaTy; exact viaTy _ (.base .non) rfl
  | bl b => rw [show v = V.bl b from r] at viaTy; exact viaTy _ (.base (.bl b)) rfl
  | int b => rw [show v = V.int b from r] at viaTy; exact viaTy _ (.base (.int b)) rfl
  | str b => rw [show v = V.str b from r] at viaTy; exact viaTy _ (.base (.str b)) rfl
  | tup ds =>
    obtain ⟨a, xs, e, h, _⟩ := r
    subst e
    rcases h with (h | ⟨o, h⟩) | ⟨o, its, n, h, hc, _⟩
    · exact viaTy _ (.base (.tup h)) rfl
    · exact viaTy _ (.fTuple h) rfl
    · exact viaTy _ (.kTuple (by rw [c.hK]; exact h) hc) rfl
  | lst ds => obtain ⟨a, xs, e, h, _⟩ := r; subst e; exact viaTy _ (.base (.lst h)) rfl
  | dct ds =>
    obtain ⟨a, xs, e, h, _⟩ := r
    subst e
    rcases h with h | ⟨o, h⟩
    · exact viaTy _ (.base (.dK h)) rfl
    · exact viaTy _ (.fDict h) rfl
  | ins k gs =>
    obtain ⟨a, dx, fs, e, h, _⟩ := r
    subst e
    obtain ⟨kd, hk⟩ := Option.isSome_iff_exists.mp (show (P.cl k).isSome = true from hd)
    obtain ⟨t1, t2, t3, t4, t5⟩ := L.cls k kd hk
    rw [← c.hK] at t1 t2 t3 t4 t5
    exact viaTy _ (.base (.ins h t1 t2 t3 t4 t5)) rfl
  | exc k gs =>
    obtain ⟨a, dd, e, h, nm, rr⟩ := r
    subst e
    cases ru
    obtain ⟨kd, hk⟩ := Option.isSome_iff_exists.mp (show (P.ex k).isSome = true from hd)
    obtain ⟨q, hcl⟩ := L.exc k kd hk
    rw [← c.hK] at q hcl
    obtain ⟨⟨oe, vs, h1, ⟨z1, z2⟩, h3⟩, _⟩ := I.hok a _ h
    have no : PySem.W.notCls oe = true := by
      obtain ⟨oc, od, dt, sl⟩ := oe
      simp only at h3
      subst h3
      rfl
    cases dd with
    | none =>
      exact ⟨_, PySem.W.kitx_exc (ox := oe) (od := none) hcl q.hg q.hk q.hs q.ha q.hn q.ht q.hm, ⟨h1, z1, no, by rw [z2]; trivial⟩, fun z => nomatch z⟩
    | some dd =>
      rcases rr with ⟨_, z⟩ | ⟨dd', fs, e1, h4, _⟩
      · cases z
      · cases e1
        obtain ⟨mA, ⟨od, es, ep, e2, _⟩, _⟩ := I.hok dd _ h4
        exact ⟨_, PySem.W.kitx_exc (ox := oe) (od := some od) hcl q.hg q.hk q.hs q.ha q.hn q.ht q.hm, ⟨h1, z1, no, by rw [z2]; exact e2⟩, fun z => nomatch z⟩
  | scr ns =>
    obtain ⟨a, e, h⟩ := r
    subst e
    rcases h with ⟨h | ⟨o, h⟩, _⟩ | ⟨o, its, n, h, hc, _⟩
    · exact viaTy _ (.base (.lst h)) rfl
    · exact viaTy _ (.base (.frz h)) rfl
    · exact viaTy _ (.kList (by rw [c.hK]; exact h) hc) rfl
  | loc n => exact r.elim
/-- isinstance(x, T) -/
def rIs1 (G : Lk) (P : Pg) : List V → Hp → VK → Prop := fun xs H Q => ∃ (x : V) (t : Ty) (M : Addr → Prop) (d : DV) (b : Bool), xs = [x, clW G t] ∧ RepT G M H d x ∧ dvOk P d = true ∧ tyOk P t = true ∧ isTy P.up d t = some b ∧ Q (.bl b) H
/-- isinstance(x, (T, ..)) -/
def rIsT (G : Lk) (P : Pg) : List V → Hp → VK → Prop := fun xs H Q => ∃ (x : V) (ts : List Ty) (tp : Addr) (M : Addr → Prop) (d : DV) (b : Bool), xs = [x, .ref tp] ∧ H tp = some (.tup (ts.map (clW G))) ∧ RepT G M H d x ∧ dvOk P d = true ∧ ts.all (tyOk P) = true ∧ isAny P.up d ts = some b ∧ Q (.bl b) H
theorem cr_is1 (L : LnI G P) (c : Ctx G X W) : CallR X (.builtin "isinstance") (rIs1 G P) := by
  intro pins s σ H xs us Q I r h
  obtain ⟨x, t, M, d, b, rfl, rx, hd, ht, e, q⟩ := h
  obtain ⟨u1, u2, rfl, r1, r2⟩ := vals2 r
  have e2 := (clW_rel G t).eq r2
  subst e2
  obtain ⟨Z, KZ, z, hx⟩ := kit_rep L c I rx r1 hd
  exact PySem.W.kia_one KZ I.kIn z (by rw [c.hK]; exact L.kit1 e hd ht) hx fun tk => ⟨.bl b, H, I.tok tk, rfl, q⟩
theorem clW_all (G : Lk) : ∀ ts : List Ty, Paired ClsV (ts.map (clW G)) (ts.map (clV G))
  | [] => .nil
  | t :: ts => .cons (clW_rel G t) (clW_all G ts)
theorem cr_isT (L : LnI G P) (c : Ctx G X W) : CallR X (.builtin "isinstance") (rIsT G P) := by
  intro pins s σ H xs us Q I r h
  obtain ⟨x, ts, tp, M, d, b, rfl, hT, rx, hd, ht, e, q⟩ := h
  obtain ⟨u1, u2, rfl, r1, r2⟩ := vals2 r
  cases (show u2 = Value.ref tp from r2)
  obtain ⟨Z, KZ, z, hx⟩ := kit_rep L c I rx r1 hd
  obtain ⟨_, its, rv, o, h1, h2, n, h3⟩ := (show ObjOk X.prog X.w H s.heap tp (.tup _) from I.hok tp _ hT)
  have e3 := ClsV.all (clW_all G ts) rv
  subst e3
  obtain ⟨oc, od, dt, sl⟩ := o
  simp only at h2 h3
  subst h2 h3
  exact PySem.W.kia_tup KZ I.kIn z h1 (by rw [c.hK]; exact L.kitL hd e ht) hx fun tk => ⟨.bl b, H, I.tok tk, rfl, q⟩

/-! ### built-in functions -/
def rP (G : Lk) (p : Prim) : List V → Hp → VK → Prop := fun xs H Q => ∃ μ ex s ds d, Wd G μ ex s H ∧ Paired (fun d v => Rep G μ (Mu μ s ex) H d v) ds xs ∧ semP p ds s = some d ∧
  ∀ v H', Aft G μ ex s H μ s H' → RepT G (Mu μ s ex) H' d v → Q v H'
theorem one_of {F : DV → V → Prop} {d : DV} {xs : List V} (h : Paired F [d] xs) : ∃ x, xs = [x] ∧ F d x := by
  cases h with
  | cons a b => cases b; exact ⟨_, rfl, a⟩
theorem two_of {F : DV → V → Prop} {d e : DV} {xs : List V} (h : Paired F [d, e] xs) : ∃ x y, xs = [x, y] ∧ F d x ∧ F e y := by
  cases h with
  | cons a b =>
    cases b with
    | cons a' b => cases b; exact ⟨_, _, rfl, a, a'⟩
theorem cp_abs : CallR X (.builtin "abs") (rP G .abs) := callr_imp call_abs fun xs H Q h => by
  obtain ⟨μ, ex, s, ds, d, w, r, e, k⟩ := h
  match ds, e, r with
  | [.int i], e, r =>
    obtain ⟨x, rfl, rx⟩ := one_of r
    have e' : some (DV.int (if i < 0 then -i else i)) = some d := e
    cases e'
    exact ⟨i, by rw [show x = V.int i from rx], k _ _ (Aft.refl w) rfl⟩
  | [], e, _ => simp [semP] at e
  | [.non], e, _ => simp [semP] at e
  | [.bl _], e, _ => simp [semP] at e
  | [.str _], e, _ => simp [semP] at e
  | [.tup _], e, _ => simp [semP] at e
  | [.lst _], e, _ => simp [semP] at e
  | [.dct _], e, _ => simp [semP] at e
  | [.ins _ _], e, _ => simp [semP] at e
  | [.exc _ _], e, _ => simp [semP] at e
  | [.scr _], e, _ => simp [semP] at e
  | [.loc _], e, _ => simp [semP] at e
  | _ :: _ :: _, e, _ => simp [semP] at e
theorem cp_min2 (hc : X.calm = true) : CallR X (.builtin "min") (rP G .min2) := callr_imp (call_min2 hc) fun xs H Q h => by
  obtain ⟨μ, ex, s, ds, d, w, r, e, k⟩ := h
  rcases ds with _ | ⟨a, _ | ⟨b, _ | ⟨c, ds⟩⟩⟩
  · simp [semP] at e
  · cases a <;> simp [semP] at e
  · cases a <;> cases b <;> simp only [semP] at e <;> try (cases e; done)
    rename_i i j
    cases e
    obtain ⟨x, y, rfl, rx, ry⟩ := two_of r
    exact ⟨i, j, by rw [show x = V.int i from rx, show y = V.int j from ry], k _ _ (Aft.refl w) rfl⟩
  · cases a <;> cases b <;> simp [semP] at e
theorem cp_max2 (hc : X.calm = true) : CallR X (.builtin "max") (rP G .max2) := callr_imp (call_max2 hc) fun xs H Q h => by
  obtain ⟨μ, ex, s, ds, d, w, r, e, k⟩ := h
  rcases ds with _ | ⟨a, _ | ⟨b, _ | ⟨c, ds⟩⟩⟩
  · simp [semP] at e
  · cases a <;> simp [semP] at e
  · cases a <;> cases b <;> simp only [semP] at e <;> try (cases e; done)
    rename_i i j
    cases e
    obtain ⟨x, y, rfl, rx, ry⟩ := two_of r
    exact ⟨i, j, by rw [show x = V.int i from rx, show y = V.int j from ry], k _ _ (Aft.refl w) rfl⟩
  · cases a <;> cases b <;> simp [semP] at e
theorem cp_int : CallR X (.type "int") (rP G .int) := callr_imp call_int1 fun xs H Q h => by
  obtain ⟨μ, ex, s, ds, d, w, r, e, k⟩ := h
  rcases ds with _ | ⟨a, _ | ⟨b, ds⟩⟩
  · simp [semP] at e
  · obtain ⟨x, rfl, rx⟩ := one_of r
    cases a <;> simp only [semP] at e <;> try (cases e; done)
    · rename_i b
      cases e
      exact .inr ⟨b, by rw [show x = V.bl b from rx], k _ _ (Aft.refl w) rfl⟩
    · rename_i i
      cases e
      exact .inl ⟨i, by rw [show x = V.int i from rx], k _ _ (Aft.refl w) rfl⟩
  · cases a <;> simp [semP] at e
theorem call_lenD' : CallR X (.builtin "len") (fun vs H Q => ∃ a kvs, vs = [V.ref a] ∧ Rd H a (.dK kvs) ∧ Q (.int kvs.length) H) := by
  intro pins s σ H xs us Q I r h
  obtain ⟨a, kvs, rfl, ha, q⟩ := h
  obtain ⟨u, rfl, ru⟩ := vals1 r
  cases ru
  exact d_len I ha fun t s' I' => ⟨.int kvs.length, H, I', ⟨t, rfl⟩, q⟩
theorem RepQ.len {μ : List Addr} {M : Addr → Prop} {H : Hp} : ∀ {ds : List (DV × DV)} {xs : List (Key × V)}, RepQ G μ M H ds xs → ds.length = xs.length
  | [], _, h => by rw [show _ = [] from h]; rfl
  | (_, _) :: ds, _, ⟨k, x, r, e, _, _, q⟩ => by rw [e]; simp [RepQ.len q]
theorem cp_len (c : Ctx G X W) : CallR X (.builtin "len") (rP G .len) := callr_imp (callr_or call_len_str (callr_or call_len_seq call_lenD')) fun xs H Q h => by
  obtain ⟨μ, ex, s, ds, d, w, r, e, k⟩ := h
  rcases ds with _ | ⟨a, _ | ⟨b, ds⟩⟩
  · simp [semP] at e
  · obtain ⟨x, rfl, rx⟩ := one_of r
    have seq : (match seqOf s a with
      | some xs => some (DV.int xs.length)
      | none => (dictOf s a).map fun kvs => .int kvs.length) = some d → (∃ p ys, [x] = [.ref p] ∧ (SqL X.K H p ys ∨ SqT X.K H p ys) ∧ Q (.int ys.length) H) ∨ (∃ a kvs, [x] = [V.ref a] ∧ Rd H a (.dK kvs) ∧ Q (.int kvs.length) H) := by
      intro e
      cases hs : seqOf s a with
      | some ys =>
        rw [hs] at e
        have e' : some (DV.int ys.length) = some d := e
        cases e'
        obtain ⟨p, zs, rfl, hq, q⟩ := seqOf_rep w rx hs
        rw [← c.hK] at hq
        refine .inl ⟨p, zs, rfl, hq, ?_⟩
        rw [← q.len]
        exact k _ _ (Aft.refl w) rfl
      | none =>
        rw [hs] at e
        cases hd : dictOf s a with
        | none => rw [hd] at e; cases e
        | some kvs =>
          rw [hd] at e
          have e' : some (DV.int kvs.length) = some d := e
          cases e'
          obtain ⟨p, zs, rfl, hq, q⟩ := dictOf_rep w rx hd
          refine .inr ⟨p, zs, rfl, hq, ?_⟩
          rw [← RepQ.len q]
          exact k _ _ (Aft.refl w) rfl
    cases a with
    | str y =>
      have e' : (if y.length ≤ LIM then some (DV.int y.length) else none) = some d := e
      split at e'
      · rename_i hl
        cases e'
        exact .inl ⟨y, by rw [show x = V.str y from rx], by rw [← LIM_eq]; exact hl, k _ _ (Aft.refl w) rfl⟩
      · cases e'
    | _ => exact .inr (seq e)
  · cases a <;> simp [semP] at e
theorem bools_rep {M : Addr → Prop} {H : Hp} : ∀ {ds : List DV} {xs : List V} {bs : List Bool}, RepL G M H ds xs → boolsOf ds = some bs → xs = bs.map V.bl
  | [], _, _, h, e => by
    have e' : some [] = some _ := e
    cases e'
    exact h
  | d :: ds, _, bs, ⟨x, r, e1, h, q⟩, e => by
    cases d with
    | bl b =>
      have e' : (boolsOf ds).map (b :: ·) = some bs := e
      cases hb : boolsOf ds with
      | none => rw [hb] at e'; cases e'
      | some bs' =>
        rw [hb] at e'
        have e2 : some (b :: bs') = some bs := e'
        cases e2
        rw [e1, bools_rep q hb, show x = V.bl b from h]
        rfl
    | _ => simp [boolsOf] at e
theorem cp_all (c : Ctx G X W) : CallR X (.builtin "all") (rP G .all) := callr_imp (cr_all c.calm) fun xs H Q h => by
  obtain ⟨μ, ex, s, ds, d, w, r, e, k⟩ := h
  rcases ds with _ | ⟨a, _ | ⟨b, ds⟩⟩
  · simp [semP] at e
  · obtain ⟨x, rfl, rx⟩ := one_of r
    have e' : (match listOf s a with
      | some xs => (boolsOf xs).map fun bs => DV.bl (bs.all id)
      | none => none) = some d := e
    cases hl : listOf s a with
    | none => rw [hl] at e'; cases e'
    | some ys =>
      rw [hl] at e'
      have e2 : (boolsOf ys).map (fun bs => DV.bl (bs.all id)) = some d := e'
      cases hb : boolsOf ys with
      | none => rw [hb] at e2; cases e2
      | some bs =>
        rw [hb] at e2
        have e3 : some (DV.bl (bs.all id)) = some d := e2
        cases e3
        obtain ⟨p, zs, rfl, hq, q⟩ := listOf_rep w rx hl
        exact ⟨p, bs, rfl, SqL.of (by rw [← bools_rep q hb]; exact hq), k _ _ (Aft.refl w) rfl⟩
  · cases a <;> simp [semP] at e
theorem cp_any (c : Ctx G X W) : CallR X (.builtin "any") (rP G .any) := callr_imp (cr_any c.calm) fun xs H Q h => by
  obtain ⟨μ, ex, s, ds, d, w, r, e, k⟩ := h
  rcases ds with _ | ⟨a, _ | ⟨b, ds⟩⟩
  · simp [semP] at e
  · obtain ⟨x, rfl, rx⟩ := one_of r
    have e' : (match listOf s a with
      | some xs => (boolsOf xs).map fun bs => DV.bl (bs.any id)
      | none => none) = some d := e
    cases hl : listOf s a with
    | none => rw [hl] at e'; cases e'
    | some ys =>
      rw [hl] at e'
      have e2 : (boolsOf ys).map (fun bs => DV.bl (bs.any id)) = some d := e'
      cases hb : boolsOf ys with
      | none => rw [hb] at e2; cases e2
      | some bs =>
        rw [hb] at e2
        have e3 : some (DV.bl (bs.any id)) = some d := e2
        cases e3
        obtain ⟨p, zs, rfl, hq, q⟩ := listOf_rep w rx hl
        exact ⟨p, bs, rfl, SqL.of (by rw [← bools_rep q hb]; exact hq), k _ _ (Aft.refl w) rfl⟩
  · cases a <;> simp [semP] at e
end
end WS
set_option maxRecDepth 100000
set_option maxHeartbeats 2000000
/-! D6: subscripts, slices: by values. -/
namespace WS
open PySem PySem.Spec PyProof.Rows L2
section
variable {G : Lk} {P : Pg} {X : Cx} {W : WX}
theorem ixr_imp {r r' : R2} (h : IxR X r) (k : ∀ x y H Q, r' x y H Q → r x y H Q) : IxR X r' := fun value slice pins s σ H x y v u Q I rx ry q hs => h value slice pins s σ H x y v u Q I rx ry (k _ _ _ _ q) hs
/-- d[k] of a dict, there -/
theorem ix_dict (hu : X.A.units + 1 < cLine) : IxR X (fun x y H Q => ∃ a v, x = .ref a ∧ DGet H a y (some v) ∧ Q v H) := by
  intro value slice pins s σ H x y v u Q I rx ry h hs
  obtain ⟨a, z, rfl, g, q⟩ := h
  cases rx
  exact tail_any (dict_typeIs I g) PySem.F.slot_dict_getitem.lookup (d_getItem hu I g ry fun w' s3 I3 rw' => ⟨z, H, I3, rw', q⟩) hs
/-- two values, and what a subscript gives -/
def rS (G : Lk) : R2 := fun x y H Q => ∃ μ ex s d1 d2 d, Wd G μ ex s H ∧ Rep G μ (Mu μ s ex) H d1 x ∧ Rep G μ (Mu μ s ex) H d2 y ∧ semSub d1 d2 s = some d ∧ ∀ v, Rep G μ (Mu μ s ex) H d v → Q v H
theorem RepQ.get {μ : List Addr} {M : Addr → Prop} {H : Hp} {k : Key} {q : SK} (hq : skOf (keyDV k) = some q) : ∀ {ds : List (DV × DV)} {xs : List (Key × V)} {d : DV}, RepQ G μ M H ds xs → dget q ds = some d → ∃ v, valV xs k = some v ∧ Rep G μ M H d v
  | [], _, _, _, e => by simp [dget] at e
  | (p, u) :: ds, _, d, ⟨k', x, r, e1, e2, h, t⟩, e => by
    subst e1 e2
    unfold dget at e
    by_cases hk : k' = k
    · subst hk
      rw [if_pos hq] at e
      cases e
      exact ⟨x, valV_pos rfl, h⟩
    · have hn : ¬ skOf (keyDV k') = some q := fun z => hk (sk_inj hq z)
      rw [if_neg hn] at e
      obtain ⟨v, h1, h2⟩ := RepQ.get hq t e
      exact ⟨v, by rw [valV_neg hk]; exact h1, h2⟩
theorem sem_sub (c : Ctx G X W) {x y : V} {H : Hp} {Q : VK} (h : rS G x y H Q) : rIx X.K x y H Q ∨ (∃ a v, x = .ref a ∧ DGet H a y (some v) ∧ Q v H) := by
  obtain ⟨μ, ex, s, d1, d2, d, w, r1, r2, e, k⟩ := h
  have dic : ∀ (kk : Key) (q : SK), skOf (keyDV kk) = some q → y = kV kk → ((dictOf s d1).bind fun kvs => dget q kvs) = some d → ∃ a v, x = .ref a ∧ DGet H a y (some v) ∧ Q v H := by
    intro kk q hq hy e
    cases hd : dictOf s d1 with
    | none => rw [hd] at e; cases e
    | some kvs =>
      rw [hd] at e
      obtain ⟨a, zs, rfl, ha, rq⟩ := dictOf_rep w r1 hd
      obtain ⟨v, h1, h2⟩ := RepQ.get hq rq e
      refine ⟨a, v, rfl, ?_, k v h2⟩
      rw [hy, ← h1]
      exact .inl ⟨zs, kk, ha, rfl, rfl⟩
  cases d2 with
  | int i =>
    have hy : y = V.int i := r2
    have seq : ∀ xs, seqOf s d1 = some xs → ((ixOf xs.length i).bind fun j => xs[j]?) = some d → rIx X.K x y H Q := by
      intro xs hs e
      obtain ⟨a, ys, rfl, hq, rl⟩ := seqOf_rep w r1 hs
      cases hj : ixOf xs.length i with
      | none => rw [hj] at e; cases e
      | some j =>
        rw [hj] at e
        obtain ⟨v, h1, h2⟩ := rl.get (i := j) e
        have at_ : atI ys i = some v := by
          unfold atI
          rw [← rl.len, show ixN xs.length i = some j from hj]
          exact h1
        rw [← c.hK] at hq
        rcases hq with hq | hq
        · exact .inl ⟨a, ys, i, v, rfl, hy, hq, at_, k v (Rep.tree h2)⟩
        · exact .inr (.inl ⟨a, ys, i, v, rfl, hy, hq, at_, k v (Rep.tree h2)⟩)
    have gen : (match seqOf s d1 with
      | some xs => (ixOf xs.length i).bind fun j => xs[j]?
      | none => (dictOf s d1).bind fun kvs => dget (.i i) kvs) = some d → rIx X.K x y H Q ∨ (∃ a v, x = .ref a ∧ DGet H a y (some v) ∧ Q v H) := by
      intro e
      cases hs : seqOf s d1 with
      | some xs => rw [hs] at e; exact .inl (seq xs hs e)
      | none => rw [hs] at e; exact .inr (dic (.inl i) (.i i) rfl hy e)
    cases d1 with
    | str z =>
      have e' : (if z.length ≤ LIM then ((ixOf z.cps.size i).bind fun j => z.cps[j]?).map (fun c => DV.str ⟨#[c]⟩) else none) = some d := e
      split at e'
      · rename_i hl
        cases hj : ixOf z.cps.size i with
        | none => rw [hj] at e'; cases e'
        | some j =>
          rw [hj] at e'
          cases hc : z.cps[j]? with
          | none => simp [hc] at e'
          | some ch =>
            have e2 : some (DV.str ⟨#[ch]⟩) = some d := by simpa [hc] using e'
            cases e2
            refine .inl (.inr (.inr ⟨z, i, ch, r1, hy, by rw [← LIM_eq]; exact hl, ?_, k _ rfl⟩))
            unfold atI
            rw [Array.length_toList, show ixN z.cps.size i = some j from hj]
            simpa using hc
      · cases e'
    | _ => exact gen e
  | str z => exact .inr (dic (.inr z) (.s z) rfl r2 e)
  | _ => simp [semSub] at e
theorem ix_D (c : Ctx G X W) : IxR X (rS G) := ixr_imp (IxR.or ix_seq (ix_dict (Nat.lt_of_le_of_lt (Nat.add_le_add_left (by decide : 1 ≤ 200) _) c.un))) fun _ _ _ _ h => sem_sub c h
/-! ### slices -/
def rSl (G : Lk) : V → Option Int → Option Int → Hp → VK → Prop := fun x lo hi H Q => ∃ μ ex s d1 d, Wd G μ ex s H ∧ Rep G μ (Mu μ s ex) H d1 x ∧ semSlc d1 lo hi s = some d ∧ ∀ v H', Aft G μ ex s H μ s H' → RepT G (Mu μ s ex) H' d v → Q v H'
theorem RepL.drop {M : Addr → Prop} {H : Hp} : ∀ {ds : List DV} {xs : List V} (n : Nat), RepL G M H ds xs → RepL G M H (ds.drop n) (xs.drop n)
  | _, _, 0, h => h
  | [], _, n + 1, h => by rw [show _ = [] from h]; rfl
  | d :: ds, _, n + 1, ⟨x, r, e, _, q⟩ => by rw [e]; exact RepL.drop n q
theorem RepL.take {M : Addr → Prop} {H : Hp} : ∀ {ds : List DV} {xs : List V} (n : Nat), RepL G M H ds xs → RepL G M H (ds.take n) (xs.take n)
  | _, _, 0, _ => by simp [RepL]
  | [], _, n + 1, h => by rw [show _ = [] from h]; rfl
  | d :: ds, _, n + 1, ⟨x, r, e, h, q⟩ => by rw [e]; exact ⟨x, r.take n, rfl, h, RepL.take n q⟩
theorem RepL.cut {M : Addr → Prop} {H : Hp} {ds : List DV} {xs : List V} (lo hi : Option Int) (h : RepL G M H ds xs) : RepL G M H (cut ds lo hi) (cutV xs lo hi) := by
  unfold WS.cut cutV
  rw [h.len]
  exact RepL.take _ (RepL.drop _ h)
theorem slr_imp {r r' : V → Option Int → Option Int → Hp → VK → Prop} (h : SlR X r) (k : ∀ x lo hi H Q, r' x lo hi H Q → r x lo hi H Q) : SlR X r' := fun pins s σ H x v vl vu lo hi sl Q I rx hs pl pu q => h pins s σ H x v vl vu lo hi sl Q I rx hs pl pu (k _ _ _ _ _ q)
theorem cutIx_eq (n d : Nat) (o : Option Int) : cutIx n d o = HT.sIx n d o := by cases o <;> rfl
theorem sem_slc (c : Ctx G X W) {x : V} {lo hi : Option Int} {H : Hp} {Q : VK} (h : rSl G x lo hi H Q) : rSlL X.K x lo hi H Q ∨ rSlA X.K x lo hi H Q ∨ rSlS x lo hi H Q := by
  obtain ⟨μ, ex, s, d1, d, w, r1, e, k⟩ := h
  have lst : (listOf s d1).map (fun xs => DV.lst (cut xs lo hi)) = some d → rSlL X.K x lo hi H Q := by
    intro e
    cases hl : listOf s d1 with
    | none => rw [hl] at e; cases e
    | some xs =>
      rw [hl] at e
      have e' : some (DV.lst (cut xs lo hi)) = some d := e
      cases e'
      obtain ⟨a, ys, rfl, ha, rl⟩ := listOf_rep w r1 hl
      exact ⟨a, ys, rfl, SqL.of ha, fun p hp => k _ _ (Aft.alloc w hp) (new_lst w hp (rl.cut lo hi))⟩
  cases d1 with
  | tup xs =>
    obtain ⟨a, ys, rfl, ha, rl⟩ := r1
    have hl := rl.len
    have e' : (if cutIx xs.length 0 lo = 0 ∧ cutIx xs.length xs.length hi = xs.length then some (DV.tup xs) else some (DV.tup (cut xs lo hi))) = some d := e
    refine .inr (.inl ⟨a, ys, rfl, by rw [c.hK]; exact ha, fun hw => ?_, fun hw p hp => ?_⟩)
    · rw [← hl, ← cutIx_eq, ← cutIx_eq] at hw
      rw [if_pos hw] at e'
      cases e'
      exact k _ _ (Aft.refl w) ⟨a, ys, rfl, ha, rl⟩
    · rw [← hl, ← cutIx_eq, ← cutIx_eq] at hw
      rw [if_neg hw] at e'
      cases e'
      exact k _ _ (Aft.alloc w hp) (new_tup hp (rl.cut lo hi))
  | str z =>
    have e' : (if z.length ≤ LIM then some (DV.str ⟨(cut z.cps.toList lo hi).toArray⟩) else none) = some d := e
    split at e'
    · rename_i hl
      cases e'
      refine .inr (.inr ⟨z, r1, by rw [← LIM_eq]; exact hl, k _ _ (Aft.refl w) ?_⟩)
      show V.str (cutS z lo hi) = V.str _
      have q : z.cps.toList.length = z.length := by simp [Str.length]
      unfold cutS cut
      rw [q]
      rfl
    · cases e'
  | _ => exact .inl (lst e)
theorem sl_D (c : Ctx G X W) : SlR X (rSl G) := slr_imp (SlR.or sl_list (SlR.or sl_tupA sl_str)) fun _ _ _ _ _ h => sem_slc c h
end
end WS
set_option maxRecDepth 100000
set_option maxHeartbeats 2000000
/-! D7: defs called: contracts with the guards told; calls by position and by keywords; instances made; properties. -/
namespace WS
open PySem PySem.Spec PyProof.Rows L2
/-- a def keeps its promise (HandS's FnOk, the guards told) -/
structure FnG (G : Lk) (k : Nat) (f : Addr) (fd : FuncData) (ps : List Str) (sp : Sp) : Prop where
  len : ∀ vs H Q E, sp vs H Q E → vs.length = ps.length
  run : ∀ (A : Around) (outer : List PySem.Env) (s : Shared) (H : Hp) (args : Args) (us : List Value) (vs : List V) (Q : VK) (E : XK), Room k A → A.guards = some [] → Env0 G.P G.w G.K G.mg G.base A outer s H → BindsTo s fd args (ps.zip us) → Vals vs us → sp vs H Q E →
    codeAny (model G.P G.w) A (.call (.ref f) args) (CR (CX G.P G.w) outer G.P G.w H s Q E) s
theorem FnG.mono {G : Lk} {j k : Nat} {f : Addr} {fd : FuncData} {ps : List Str} {sp : Sp} (F : FnG G j f fd ps sp) (h : j ≤ k) : FnG G k f fd ps sp := ⟨F.len, fun A outer s H args us vs Q E hr => F.run A outer s H args us vs Q E (hr.mono h)⟩
/-- the promise of a def of the table -/
def spF (G : Lk) (call : Nat → List DV → M DV) (f : Nat) (n : Nat) : Sp := fun vs H Q E => vs.length = n ∧ ∃ μ ex s ds, Wd G μ ex s H ∧ Paired (fun d v => Rep G μ (Mu μ s ex) H d v) ds vs ∧ match call f ds s with
  | .ok d s' => ∀ v H' μ', Aft G μ ex s H μ' s' H' → Rep G μ' (Mu μ' s' ex) H' d v → Q v H'
  | .err c gs s' => ∀ cls dd H' μ', Aft G μ ex s H μ' s' H' → ErrR G (Mu μ' s' ex) H' c gs cls dd → E cls dd H'
  | .stuck => False
section
variable {G : Lk} {X : Cx} {W : WX}
theorem Ctx.env0 (c : Ctx G X W) {pins : List (Addr × Obj)} {σ : L2.St} {H : Hp} {s : Shared} (I : Inv X pins σ H s) : Env0 G.P G.w G.K G.mg G.base X.A X.stack s H := by
  have e := I.env0
  rw [c.hP, c.hw, c.hK, c.hm, c.hb] at e
  exact e
/-- the wish of a callee's exception, where the slots stand -/
theorem CtxG_err (c : Ctx G X W) {pins : List (Addr × Obj)} {σ : L2.St} {H : Hp} {s s' : Shared} {e : Value} {E : XK} (I : Inv X pins σ H s) (hE : ∀ cls d H', E cls d H' → W cls d σ H') (h : CX G.P G.w X.stack H s E e s') : X.xe e s' := by
  rw [← c.hP, ← c.hw] at h
  exact c.tk e s' (XE.of_call I hE h)
theorem run_fnG {k : Nat} {f : Addr} {fd : FuncData} {ps : List Str} {sp : Sp} {E : XK} (c : Ctx G X W) (F : FnG G k f fd ps sp) (hr : Room k X.A) {pins : List (Addr × Obj)} {σ : L2.St} {H : Hp} {s : Shared} {Q : VK} {args : Args} {us : List Value} {vs : List V}
    (I : Inv X pins σ H s) (hb : BindsTo s fd args (ps.zip us)) (r : Vals vs us) (hE : ∀ cls d H', E cls d H' → W cls d σ H') (h : sp vs H Q E) : wpAny (model X.prog X.w) X.A (call (.ref f) args.pos args.kw) (EP X pins σ Q) X.xe s := by
  have q := F.run X.A X.stack s H args us vs Q E hr c.gd (c.env0 I) hb r h
  rw [← c.hP, ← c.hw] at q
  refine wpAny_call (codeAny_mono q fun r s' hq => ?_)
  cases r with
  | error e => exact CtxG_err c I hE (by rw [← c.hP, ← c.hw]; exact hq)
  | ok fl =>
    cases fl with
    | ret u => exact I.after hq
    | next => exact False.elim hq
    | brk => exact False.elim hq
    | cont => exact False.elim hq
/-- f(..): what is raised is wished for where the slots stand -/
def tCallG (W : WX) (sp : Sp) (t : TA) : TE := fun σ H Q => t σ H fun vs H1 => sp vs H1 Q fun cls d H' => W cls d σ H'
/-- how a call with keywords binds: gV puts the values in the parameters' order -/
structure KBG (G : Lk) (fd : FuncData) (ps ks : List Str) (n : Nat) (gV : List V → List V → List V) : Prop where
  to : ∀ (s : Shared) (us ws : List Value) (vs zs : List V), G.K.In s.heap → Vals vs us → Vals zs ws → us.length = n → ws.length = ks.length → ∃ xs, BindsTo s fd ⟨us, ks.zip ws⟩ (ps.zip xs) ∧ Vals (gV vs zs) xs
def tCallKG (W : WX) (sp : Sp) (n m : Nat) (gV : List V → List V → List V) (t tk : TA) : TE := fun σ H Q => t σ H fun vs H1 => tk σ H1 fun zs H2 => vs.length = n ∧ zs.length = m ∧ sp (gV vs zs) H2 Q fun cls d H' => W cls d σ H'
/-- the arguments of a call, by position and by keywords -/
theorem args_run {f : Value} {e : Expr} {r : List Expr} {kws : List Keyword} {ks : List Str} {t tk : TA} {pos : Pos} {pins : List (Addr × Obj)} {s : Shared} {σ : L2.St} {H : Hp} {Q : Value → Shared → Prop} {R : List V → List V → Hp → Prop} (c : Ctx G X W) (I : Inv X pins σ H s)
    (hk : PySem.W.keepIn G.K f = true) (ha : PA X (e :: r) t) (hkw : PK X kws tk) (hall : (backToKw pos (keywordEach kws X.env)).all (·.1.isSome) = true) (hks : (backToKw pos (keywordEach kws X.env)).filterMap (·.1) = ks)
    (hst : starEach (e :: r) X.env = (false, eval e X.env) :: starEach r X.env)
    (hpl : ((backTo pos (starEach (e :: r) X.env)).any (·.1) || (backToKw pos (keywordEach kws X.env)).any (·.1.isNone)) = false)
    (h : t σ H fun vs H1 => tk σ H1 fun zs H2 => R vs zs H2)
    (k : ∀ us ws s2 vs zs H2, Inv X pins σ H2 s2 → Vals vs us → Vals zs ws → R vs zs H2 → wpAny (model X.prog X.w) X.A (call f us (ks.zip ws)) Q X.xe s2) :
    wpAny (model X.prog X.w) X.A (callWith pos f [] (backTo pos (starEach (e :: r) X.env)) (backToKw pos (keywordEach kws X.env))) Q X.xe s := by
  refine PySem.W.callWith_KW (h₀ := X.base) I.ok.mod.kin (by rw [c.hK]; exact hk) hall (thn (ha.run pos pins s σ H _ I h) fun us s1 ⟨vs, H1, I1, r, q⟩ => ?_) hpl hst
  refine thn (hkw.run pos pins s1 σ H1 _ I1 q) fun ws s2 ⟨zs, H2, I2, rz, q2⟩ => ⟨I2.kIn, ?_⟩
  rw [hks]
  exact k us ws s2 vs zs H2 I2 r rz q2
theorem args_run0 {f : Value} {kws : List Keyword} {ks : List Str} {tk : TA} {pos : Pos} {pins : List (Addr × Obj)} {s : Shared} {σ : L2.St} {H : Hp} {Q : Value → Shared → Prop} {R : List V → Hp → Prop} (c : Ctx G X W) (I : Inv X pins σ H s)
    (hk : PySem.W.keepIn G.K f = true) (hkw : PK X kws tk) (hall : (backToKw pos (keywordEach kws X.env)).all (·.1.isSome) = true) (hks : (backToKw pos (keywordEach kws X.env)).filterMap (·.1) = ks)
    (hpl : ((backTo pos (starEach [] X.env)).any (·.1) || (backToKw pos (keywordEach kws X.env)).any (·.1.isNone)) = false)
    (h : tk σ H fun zs H2 => R zs H2)
    (k : ∀ ws s2 zs H2, Inv X pins σ H2 s2 → Vals zs ws → R zs H2 → wpAny (model X.prog X.w) X.A (call f [] (ks.zip ws)) Q X.xe s2) :
    wpAny (model X.prog X.w) X.A (callWith pos f [] (backTo pos (starEach [] X.env)) (backToKw pos (keywordEach kws X.env))) Q X.xe s := by
  refine PySem.W.callWith_KW0 (h₀ := X.base) I.ok.mod.kin (by rw [c.hK]; exact hk) hall ?_ hpl
  refine thn (hkw.run pos pins s σ H _ I h) fun ws s2 ⟨zs, H2, I2, rz, q2⟩ => ⟨I2.kIn, ?_⟩
  rw [hks]
  exact k ws s2 zs H2 I2 rz q2
/-- C(..) by the class: the new instance, then __init__ -/
theorem run_makeG {k n : Nat} {f C : Addr} {fd : FuncData} {ps ks : List Str} {sp : Sp} {E : XK} {gV : List V → List V → List V} {pins : List (Addr × Obj)} {σ : L2.St} {H : Hp} {s : Shared} {Q : VK} {us ws : List Value} {vs zs : List V} (c : Ctx G X W) (M : Mk G.K C f) (F : FnG G k f fd ps sp) (hr : Room (k + 1) X.A) (hb : KBG G fd ps ks (n + 1) gV)
    (I : Inv X pins σ H s) (r : Vals vs us) (rz : Vals zs ws) (l1 : vs.length = n) (l2 : zs.length = ks.length) (hE : ∀ cls d H', E cls d H' → W cls d σ H')
    (h : ∀ x dx, H x = none → H dx = none → dx ≠ x → sp (gV (.ref x :: vs) zs) (upd (upd H dx (.own x)) x (.ins C dx [])) (fun v H2 => v = .non ∧ Q (.ref x) H2) E) :
    wpAny (model X.prog X.w) X.A (call (.ref C) us (ks.zip ws)) (EP X pins σ Q) X.xe s := by
  have hq := h (s.heap.objs.size + 1) s.heap.objs.size (I.hok.fresh (Nat.le_succ _)) (I.hok.fresh (Nat.le_refl _)) (Nat.ne_of_lt (Nat.lt_succ_self _))
  have I2 := Inv.made (C := C) I
  have r1 : Vals (V.ref (s.heap.objs.size + 1) :: vs) (Value.ref (s.heap.objs.size + 1) :: us) := .cons rfl r
  have e1 : (Value.ref (s.heap.objs.size + 1) :: us).length = n + 1 := r1.length.symm.trans (congrArg Nat.succ l1)
  have e2 : ws.length = ks.length := rz.length.symm.trans l2
  obtain ⟨xs, hbx, rx⟩ := hb.to _ (Value.ref (s.heap.objs.size + 1) :: us) ws _ zs (by rw [← c.hK]; exact I2.kIn) r1 rz e1 e2
  have M' : Mk X.K C f := by rw [c.hK]; exact M
  have q := F.run (X.A.under (.builtin "type.__call__" ⟨.ref C :: us, ks.zip ws⟩)) X.stack _ _ ⟨Value.ref (s.heap.objs.size + 1) :: us, ks.zip ws⟩ xs _ _ E (hr.make C us (ks.zip ws))
    (by first | exact c.gd | (simpa [Around.under, Code.guards, Code.isGuard, guardIds, pushGuards] using c.gd)) ((c.env0 I2).make C us (ks.zip ws)) hbx rx hq
  rw [← c.hP, ← c.hw] at q
  refine wpAny_call (make_map (f := f) I.kIn M'.makes M'.init (beq_iff_eq.mp M'.fn) (codeAny_mono q fun r s' hq' => ?_))
  cases r with
  | error e => exact CtxG_err c I2 hE (by rw [← c.hP, ← c.hw]; exact hq')
  | ok fl =>
    cases fl with
    | ret u =>
      obtain ⟨v, H', I3, rv, ev, q3⟩ := I2.after hq'
      subst ev
      exact ⟨rv, ⟨V.ref (s.heap.objs.size + 1), H', I3, rfl, q3⟩⟩
    | next => exact False.elim hq'
    | brk => exact False.elim hq'
    | cont => exact False.elim hq'
/-- a property's getter -/
theorem getprop_G {k : Nat} {f : Str} {C p g a dx : Addr} {fs : List (Str × V)} {fd : FuncData} {ps : List Str} {sp : Sp} {pins : List (Addr × Obj)} {σ : L2.St} {H : Hp} {s : Shared} {Q : VK} {b : Bool} {E' : Value → Shared → Prop} (c : Ctx G X W) (I : Inv X pins σ H s) (ea : H a = some (.ins C dx fs)) (cl : Cls G.K C) (hp : PropOf G.K C f p g)
    (F : FnG G k g fd ps sp) (hr : Room (k + 1) X.A) (hb : ∀ (s : Shared) (us : List Value), G.K.In s.heap → us.length = ps.length → BindsTo s fd ⟨us, []⟩ (ps.zip us)) (h : sp [.ref a] H Q fun _ _ _ => False) :
    wpAny (model X.prog X.w) X.A (PySem.getAttr (.ref a) f b) (EP X pins σ Q) E' s := by
  obtain ⟨mA, O, _, _, _, _⟩ := ins_get I.hok ea
  obtain ⟨od, J, _⟩ := O.look
  obtain ⟨rest, hrec⟩ := hp.rec_
  have I1 := I.tok (s.toks + 1)
  have hl : [Value.ref a].length = ps.length := F.len _ _ _ _ h
  have KX : G.K.In s.heap := by rw [← c.hK]; exact I.kIn
  have hc : (PySem.W.clsIn G.K C).isSome = true := by
    obtain ⟨cd, hc, _⟩ := PySem.W.any_some cl.hd
    rw [hc]
    rfl
  refine PySem.W.get_bind KX J (PySem.W.plainGet_of (cl.get f)).1 (PySem.W.findObj_data hc hp.at_ hp.get hp.tak) (PySem.W.plainGet_of (cl.get f)).2 (wpAny_call (PySem.W.prop_get (s := { s with toks := s.toks + 1 }) KX hrec ?_))
  have q := F.run X.A.in1 X.stack { s with toks := s.toks + 1 } H ⟨[.ref a], []⟩ [.ref a] [.ref a] Q (fun _ _ _ => False) hr.in1 c.gd (c.env0 I1).in1 (hb _ [.ref a] KX hl) (.cons rfl .nil) h
  rw [← c.hP, ← c.hw] at q
  refine codeAny_mono q fun r s' hq => ?_
  cases r with
  | error er =>
    obtain ⟨_, _, _, _, _, _, _, _, _, _, _, _, z⟩ := hq
    exact z.elim
  | ok fl =>
    cases fl with
    | ret u =>
      obtain ⟨v, H', I3, rv, q3⟩ := I1.after hq
      show wpAny _ _ (handedOut u) _ _ _
      rw [PySem.W.handedOut_of (handed_of rv)]
      exact wpAny_pure ⟨v, H', I3, rv, q3⟩
    | next => exact False.elim hq
    | brk => exact False.elim hq
    | cont => exact False.elim hq
end
end WS
set_option maxRecDepth 100000
set_option maxHeartbeats 2000000
/-! D8: each form of an expression, from its parts. -/
namespace WS
open PySem PySem.Spec PyProof.Rows L2
section
variable {G : Lk} {X : Cx} {W : WX} {P : Pg} {call : Nat → List DV → M DV}
theorem sd_var {i : Nat} {x : Str} {pos : Pos} (hN : X.N[i]? = some x) (hv : Vis X.env.scope x) (hd : (x == ("__debug__" : Str)) = false) (hcd : (x == ("__classdict__" : Str)) = false) : PE X (.Name x pos) (TD G W P call (.var i)) :=
  PE.imp (pe_var hN hv hd hcd) fun σ H Q h => by
    obtain ⟨μ, ex, s, env, w, r, f⟩ := h
    unfold ev at f
    cases e : env[i]? with
    | none => rw [e] at f; exact f.elim
    | some o =>
      cases o with
      | none => rw [e] at f; exact f.elim
      | some d =>
        rw [e] at f
        obtain ⟨v, h1, h2⟩ := r.at_ i d e
        exact ⟨v, h1, f v H μ (Aft.refl w) h2⟩
theorem sd_cst {e : Expr} {v : V} {d : DV} (h : PE X e (tC v)) (hd : ∀ (M : Addr → Prop) (H : Hp), RepT G M H d v) : PE X e (TD G W P call (.cst d)) :=
  PE.imp h fun σ H Q h => by
    obtain ⟨μ, ex, s, env, w, r, f⟩ := h
    exact f v H μ (Aft.refl w) (Rep.tree (hd _ _))
theorem sd_glo {e : Expr} {v : V} {d : DV} {x : Str} (h : PE X e (tC v)) (hd : ∀ (M : Addr → Prop) (H : Hp), RepT G M H d v) : PE X e (TD G W P call (.glo x d)) :=
  PE.imp h fun σ H Q h => by
    obtain ⟨μ, ex, s, env, w, r, f⟩ := h
    exact f v H μ (Aft.refl w) (Rep.tree (hd _ _))
/-- the reading of one part, from the run of the whole -/
theorem td_of {ca : E} {σ : L2.St} {H : Hp} {μ ex : List Addr} {s : S} {env : Env} {Q Q' : VK} {f : DV → S → Res DV} (w : Wd G μ ex s H) (r : EnvR G μ (Mu μ s ex) H σ env) (h : Fin G W σ μ ex s H ((ev P call ca env s).bind f) Q)
    (k : ∀ v H1 d s1 μ1, ev P call ca env s = .ok d s1 → Aft G μ ex s H μ1 s1 H1 → Rep G μ1 (Mu μ1 s1 ex) H1 d v → EnvR G μ1 (Mu μ1 s1 ex) H1 σ env → Fin G W σ μ1 ex s1 H1 (f d s1) Q → Q' v H1) : TD G W P call ca σ H Q' :=
  ⟨μ, ex, s, env, w, r, h.bind.mono fun v H1 ⟨d, s1, μ1, e, a, rp, fn⟩ => k v H1 d s1 μ1 e a rp (r.evo a.evo) fn⟩
theorem tds_of {ca : Es} {σ : L2.St} {H : Hp} {μ ex : List Addr} {s : S} {env : Env} {Q : VK} {Q' : List V → Hp → Prop} {f : List DV → S → Res DV} (w : Wd G μ ex s H) (r : EnvR G μ (Mu μ s ex) H σ env) (h : Fin G W σ μ ex s H ((evs P call ca env s).bind f) Q)
    (k : ∀ vs H1 ds s1 μ1, evs P call ca env s = .ok ds s1 → Aft G μ ex s H μ1 s1 H1 → Paired (fun d v => Rep G μ1 (Mu μ1 s1 ex) H1 d v) ds vs → EnvR G μ1 (Mu μ1 s1 ex) H1 σ env → Fin G W σ μ1 ex s1 H1 (f ds s1) Q → Q' vs H1) : TDs G W P call ca σ H Q' := by
  refine ⟨μ, ex, s, env, w, r, ?_⟩
  have q := FinL.bind h
  cases e : evs P call ca env s with
  | ok ds s1 =>
    rw [e] at q
    exact fun vs H1 μ1 a rp => by
      obtain ⟨ds', s1', μ1', e', a', rp', fn⟩ := q vs H1 μ1 a rp
      cases e'
      exact k vs H1 ds s1 μ1' e a' rp' (r.evo a'.evo) fn
  | err c gs s' => rw [e] at q; exact q
  | stuck => rw [e] at q; exact q
/-- what a pure answer gives -/
theorem fin_ofO {σ : L2.St} {H : Hp} {μ ex : List Addr} {s : S} {o : Option DV} {Q : VK} (h : Fin G W σ μ ex s H (ofO o s) Q) : ∃ d, o = some d ∧ ∀ v H' μ', Aft G μ ex s H μ' s H' → Rep G μ' (Mu μ' s ex) H' d v → Q v H' := by
  cases o with
  | none => exact h.elim
  | some d => exact ⟨d, rfl, h⟩
theorem sd_op2 {o : Op2} {op : Operator} {a b : Expr} {ca cb : E} {pos : Pos} (ho : OpR X (binaryOp op) (rD G o)) (ha : PE X a (TD G W P call ca)) (hb : PE X b (TD G W P call cb)) : PE X (.BinOp a op b pos) (TD G W P call (.op2 o ca cb)) :=
  PE.imp (pe_op ho ha hb) fun σ H Q h => by
    obtain ⟨μ, ex, s, env, w, r, f⟩ := h
    unfold ev at f
    refine td_of w r f fun v H1 d s1 μ1 e a1 rp r1 f1 => td_of a1.wd r1 f1 fun v2 H2 d2 s2 μ2 e2 a2 rp2 r2 f2 => ?_
    obtain ⟨d3, e3, k⟩ := fin_ofO f2
    exact ⟨μ2, ex, s2, d, d2, d3, a2.wd, rp.kp a2.evo.kp a2.evo.pre, rp2, e3, fun v' H' a3 r3 => k v' H' μ2 a3 (Rep.tree r3)⟩
theorem sd_neg {a : Expr} {ca : E} {pos : Pos} (ha : PE X a (TD G W P call ca)) : PE X (.UnaryOp .USub a pos) (TD G W P call (.neg ca)) :=
  PE.imp (pe_un un_neg ha) fun σ H Q h => by
    obtain ⟨μ, ex, s, env, w, r, f⟩ := h
    unfold ev at f
    refine td_of w r f fun v H1 d s1 μ1 e a1 rp r1 f1 => ?_
    cases d with
    | int i => exact ⟨i, rp, f1 _ _ μ1 (Aft.refl a1.wd) rfl⟩
    | _ => exact f1.elim
theorem sd_cmp {o : Cmp} {op : CmpOp} {a b : Expr} {ca cb : E} {pos : Pos} (ho : OpR X (compareOp op) (rC G o)) (ha : PE X a (TD G W P call ca)) (hb : PE X b (TD G W P call cb)) (hm : behindInMarks op b = false) : PE X (.Compare a [op] [b] pos) (TD G W P call (.cmp o ca cb)) :=
  PE.imp (pe_cmpR ho ha hb hm) fun σ H Q h => by
    obtain ⟨μ, ex, s, env, w, r, f⟩ := h
    unfold ev at f
    refine td_of w r f fun v H1 d s1 μ1 e a1 rp r1 f1 => td_of a1.wd r1 f1 fun v2 H2 d2 s2 μ2 e2 a2 rp2 r2 f2 => ?_
    obtain ⟨d3, e3, k⟩ := fin_ofO f2
    cases e4 : semC o d d2 s2 with
    | none => rw [e4] at e3; cases e3
    | some b =>
      rw [e4] at e3
      cases e3
      exact ⟨μ2, ex, s2, d, d2, b, a2.wd, rp.kp a2.evo.kp a2.evo.pre, rp2, e4, k _ _ μ2 (Aft.refl a2.wd) rfl⟩
theorem st_cmp {o : Cmp} {op : CmpOp} {a b : Expr} {ca cb : E} {pos : Pos} (ho : OpR X (compareOp op) (rC G o)) (ha : PE X a (TD G W P call ca)) (hb : PE X b (TD G W P call cb)) (hm : behindInMarks op b = false) : PT X (.Compare a [op] [b] pos) (TDt G W P call (.cmp o ca cb)) :=
  PT.imp (pt_cmpR ho ha hb hm) fun σ H Q h => by
    obtain ⟨μ, ex, s, env, w, r, f⟩ := h
    unfold ev at f
    refine td_of w r f fun v H1 d s1 μ1 e a1 rp r1 f1 => td_of a1.wd r1 f1 fun v2 H2 d2 s2 μ2 e2 a2 rp2 r2 f2 => ?_
    obtain ⟨d3, e3, k⟩ := fin_ofO f2
    cases e4 : semC o d d2 s2 with
    | none => rw [e4] at e3; cases e3
    | some b =>
      rw [e4] at e3
      cases e3
      exact ⟨μ2, ex, s2, d, d2, b, a2.wd, rp.kp a2.evo.kp a2.evo.pre, rp2, e4, k _ _ μ2 (Aft.refl a2.wd) rfl⟩
/-- three in a row -/
theorem chn_go {o o' : Cmp} {ca cb cc : E} {σ : L2.St} {H : Hp} {Q : VK} (h : TD G W P call (.chn o o' ca cb cc) σ H Q) : tChain (rC G o) (rC G o') (TD G W P call ca) (TD G W P call cb) (TD G W P call cc) σ H Q := by
  obtain ⟨μ, ex, s, env, w, r, f⟩ := h
  unfold ev at f
  refine td_of w r f fun v H1 d s1 μ1 e a1 rp r1 f1 => td_of a1.wd r1 f1 fun v2 H2 d2 s2 μ2 e2 a2 rp2 r2 f2 => ?_
  cases e4 : semC o d d2 s2 with
  | none => rw [e4] at f2; exact f2.elim
  | some b =>
    rw [e4] at f2
    refine ⟨μ2, ex, s2, d, d2, b, a2.wd, rp.kp a2.evo.kp a2.evo.pre, rp2, e4, b, rfl, ?_⟩
    cases b with
    | false =>
      rw [if_neg Bool.false_ne_true]
      exact f2 _ _ μ2 (Aft.refl a2.wd) rfl
    | true =>
      rw [if_pos rfl]
      refine td_of a2.wd r2 f2 fun v3 H3 d3 s3 μ3 e3 a3 rp3 r3 f3 => ?_
      obtain ⟨d5, e5, k⟩ := fin_ofO f3
      cases e6 : semC o' d2 d3 s3 with
      | none => rw [e6] at e5; cases e5
      | some b' =>
        rw [e6] at e5
        cases e5
        exact ⟨μ3, ex, s3, d2, d3, b', a3.wd, rp2.kp a3.evo.kp a3.evo.pre, rp3, e6, k _ _ μ3 (Aft.refl a3.wd) rfl⟩
theorem asB_bind {α : Type} (m : Res DV) (f : Bool → S → Res α) : (asB m).bind f = m.bind fun d s => match d with
    | .bl b => f b s
    | _ => .stuck := by
  cases m with
  | ok d s => cases d <;> rfl
  | err c gs s => rfl
  | stuck => rfl
/-- .. of a truth value -/
theorem tdb_of {ca : E} {σ : L2.St} {H : Hp} {μ ex : List Addr} {s : S} {env : Env} {Q Q' : VK} {f : Bool → S → Res DV} (w : Wd G μ ex s H) (r : EnvR G μ (Mu μ s ex) H σ env) (h : Fin G W σ μ ex s H ((asB (ev P call ca env s)).bind f) Q)
    (k : ∀ b H1 s1 μ1, Aft G μ ex s H μ1 s1 H1 → EnvR G μ1 (Mu μ1 s1 ex) H1 σ env → Fin G W σ μ1 ex s1 H1 (f b s1) Q → Q' (.bl b) H1) : TD G W P call ca σ H Q' := by
  rw [asB_bind] at h
  refine td_of w r h fun v H1 d s1 μ1 e a rp r1 f1 => ?_
  cases d with
  | bl b => rw [show v = V.bl b from rp]; exact k b H1 s1 μ1 a r1 f1
  | _ => exact f1.elim
theorem sd_not {a : Expr} {ca : E} {pos : Pos} (ha : PE X a (TD G W P call ca)) : PE X (.UnaryOp .Not a pos) (TD G W P call (.not ca)) :=
  PE.imp (pe_not ha) fun σ H Q h => by
    obtain ⟨μ, ex, s, env, w, r, f⟩ := h
    unfold ev at f
    exact tdb_of w r f fun b H1 s1 μ1 a1 r1 f1 => ⟨b, rfl, f1 _ _ μ1 (Aft.refl a1.wd) rfl⟩
theorem st_not {a : Expr} {ca : E} {pos : Pos} (ha : PT X a (TDt G W P call ca)) : PT X (.UnaryOp .Not a pos) (TDt G W P call (.not ca)) :=
  PT.imp (pt_not ha) fun σ H Q h => by
    obtain ⟨μ, ex, s, env, w, r, f⟩ := h
    unfold ev at f
    exact tdb_of w r f fun b H1 s1 μ1 a1 r1 f1 => ⟨b, rfl, by obtain ⟨b', e, q⟩ := f1 _ _ μ1 (Aft.refl a1.wd) rfl; cases e; exact q⟩
theorem sd_and {a b : Expr} {rest : List Expr} {ca cb : E} {pos : Pos} (ha : PE X a (TD G W P call ca)) (hb : PE X (.BoolOp .And (b :: rest) pos) (TD G W P call cb)) : PE X (.BoolOp .And (a :: b :: rest) pos) (TD G W P call (.and ca cb)) :=
  PE.imp (pe_and ha hb) fun σ H Q h => by
    obtain ⟨μ, ex, s, env, w, r, f⟩ := h
    unfold ev at f
    refine tdb_of w r f fun k H1 s1 μ1 a1 r1 f1 => ⟨k, rfl, ?_⟩
    cases k with
    | false => rw [if_neg Bool.false_ne_true]; exact f1 _ _ μ1 (Aft.refl a1.wd) rfl
    | true =>
      rw [if_pos rfl]
      exact tdb_of a1.wd r1 f1 fun b H2 s2 μ2 a2 r2 f2 => f2 _ _ μ2 (Aft.refl a2.wd) rfl
theorem sd_or {a b : Expr} {rest : List Expr} {ca cb : E} {pos : Pos} (ha : PE X a (TD G W P call ca)) (hb : PE X (.BoolOp .Or (b :: rest) pos) (TD G W P call cb)) : PE X (.BoolOp .Or (a :: b :: rest) pos) (TD G W P call (.or ca cb)) :=
  PE.imp (pe_or ha hb) fun σ H Q h => by
    obtain ⟨μ, ex, s, env, w, r, f⟩ := h
    unfold ev at f
    refine tdb_of w r f fun k H1 s1 μ1 a1 r1 f1 => ⟨k, rfl, ?_⟩
    cases k with
    | true => rw [if_pos rfl]; exact f1 _ _ μ1 (Aft.refl a1.wd) rfl
    | false =>
      rw [if_neg Bool.false_ne_true]
      exact tdb_of a1.wd r1 f1 fun b H2 s2 μ2 a2 r2 f2 => f2 _ _ μ2 (Aft.refl a2.wd) rfl
theorem PW.imp {e : Expr} {t t' : TT} (h : PW X e t) (k : ∀ σ H Q, t' σ H Q → t σ H Q) : PW X e t' := ⟨fun wh pins s σ H Q I q => h.run wh pins s σ H Q I (k σ H Q q)⟩
theorem st_and {a b : Expr} {rest : List Expr} {ca cb : E} {pos : Pos} (ha : PT X a (TDt G W P call ca)) (hb : PW X (.BoolOp .And (b :: rest) pos) (TDt G W P call cb)) : PW X (.BoolOp .And (a :: b :: rest) pos) (TDt G W P call (.and ca cb)) :=
  PW.imp (pw_and ha hb) fun σ H Q h => by
    obtain ⟨μ, ex, s, env, w, r, f⟩ := h
    unfold ev at f
    refine tdb_of w r f fun k H1 s1 μ1 a1 r1 f1 => ⟨k, rfl, ?_⟩
    cases k with
    | false => rw [if_neg Bool.false_ne_true]; obtain ⟨b', e, q⟩ := f1 _ _ μ1 (Aft.refl a1.wd) rfl; cases e; exact q
    | true =>
      rw [if_pos rfl]
      exact tdb_of a1.wd r1 f1 fun b H2 s2 μ2 a2 r2 f2 => ⟨b, rfl, by obtain ⟨b', e, q⟩ := f2 _ _ μ2 (Aft.refl a2.wd) rfl; cases e; exact q⟩
theorem st_or {a b : Expr} {rest : List Expr} {ca cb : E} {pos : Pos} (ha : PT X a (TDt G W P call ca)) (hb : PW X (.BoolOp .Or (b :: rest) pos) (TDt G W P call cb)) : PW X (.BoolOp .Or (a :: b :: rest) pos) (TDt G W P call (.or ca cb)) :=
  PW.imp (pw_or ha hb) fun σ H Q h => by
    obtain ⟨μ, ex, s, env, w, r, f⟩ := h
    unfold ev at f
    refine tdb_of w r f fun k H1 s1 μ1 a1 r1 f1 => ⟨k, rfl, ?_⟩
    cases k with
    | true => rw [if_pos rfl]; obtain ⟨b', e, q⟩ := f1 _ _ μ1 (Aft.refl a1.wd) rfl; cases e; exact q
    | false =>
      rw [if_neg Bool.false_ne_true]
      exact tdb_of a1.wd r1 f1 fun b H2 s2 μ2 a2 r2 f2 => ⟨b, rfl, by obtain ⟨b', e, q⟩ := f2 _ _ μ2 (Aft.refl a2.wd) rfl; cases e; exact q⟩
theorem sd_ite {c a b : Expr} {cc ca cb : E} {pos : Pos} (hc : PT X c (TDt G W P call cc)) (ha : PE X a (TD G W P call ca)) (hb : PE X b (TD G W P call cb)) : PE X (.IfExp c a b pos) (TD G W P call (.ite cc ca cb)) :=
  PE.imp (pe_ifExp hc ha hb) fun σ H Q h => by
    obtain ⟨μ, ex, s, env, w, r, f⟩ := h
    unfold ev at f
    refine tdb_of w r f fun k H1 s1 μ1 a1 r1 f1 => ⟨k, rfl, ?_⟩
    cases k with
    | true => rw [if_pos rfl] at f1 ⊢; exact ⟨μ1, ex, s1, env, a1.wd, r1, f1⟩
    | false => rw [if_neg Bool.false_ne_true] at f1 ⊢; exact ⟨μ1, ex, s1, env, a1.wd, r1, f1⟩
/-- any other expression as a test -/
theorem st_val {e : Expr} {ce : E} (h : PE X e (TD G W P call ce)) (he : ∀ whole, isTrue e X.env whole = (do let v ← whole; standAt e.pos; holding [v] (truthy v))) : PT X e (TDt G W P call ce) :=
  PT.imp (pt_val h he) fun σ H Q h => h
/-! ### argument lists, displays -/
theorem sa_nil : PA X [] (TDs G W P call .nil) := PA.imp pa_nil fun σ H Q h => by
  obtain ⟨μ, ex, s, env, w, r, f⟩ := h
  exact f [] H μ (Aft.refl w) .nil
theorem tds_cons {ca : E} {cr : Es} {σ : L2.St} {H : Hp} {Q : List V → Hp → Prop} (h : TDs G W P call (.cons ca cr) σ H Q) : TD G W P call ca σ H fun x H1 => TDs G W P call cr σ H1 fun xs H2 => Q (x :: xs) H2 := by
  obtain ⟨μ, ex, s, env, w, r, f⟩ := h
  refine ⟨μ, ex, s, env, w, r, ?_⟩
  unfold evs at f
  cases e : ev P call ca env s with
  | stuck => rw [e] at f; exact f
  | err c gs s1 => rw [e] at f; exact f
  | ok d s1 =>
    rw [e] at f
    intro v H1 μ1 a1 rp
    refine ⟨μ1, ex, s1, env, a1.wd, r.evo a1.evo, ?_⟩
    have f1 : FinL G W σ μ ex s H ((evs P call cr env s1).bind fun ds s2 => .ok (d :: ds) s2) Q := f
    cases e2 : evs P call cr env s1 with
    | stuck => rw [e2] at f1; exact f1
    | err c gs s2 => rw [e2] at f1; exact fun cls dd H' μ' b q => f1 cls dd H' μ' (a1.trans b) q
    | ok ds s2 =>
      rw [e2] at f1
      exact fun vs H2 μ2 a2 rps => f1 (v :: vs) H2 μ2 (a1.trans a2) (.cons (rp.kp a2.evo.kp a2.evo.pre) rps)
theorem sa_cons {e : Expr} {es : List Expr} {ca : E} {cr : Es} (ha : PE X e (TD G W P call ca)) (hr : PA X es (TDs G W P call cr)) (hs : starEach (e :: es) X.env = (false, eval e X.env) :: starEach es X.env) : PA X (e :: es) (TDs G W P call (.cons ca cr)) :=
  PA.imp (pa_cons ha hr hs) fun σ H Q h => tds_cons h
theorem PK.imp {kws : List Keyword} {t t' : TA} (h : PK X kws t) (k : ∀ σ H Q, t' σ H Q → t σ H Q) : PK X kws t' := ⟨fun pos pins s σ H Q I q => h.run pos pins s σ H Q I (k σ H Q q)⟩
theorem sk_nil : PK X [] (TDs G W P call .nil) := PK.imp pk_nil fun σ H Q h => by
  obtain ⟨μ, ex, s, env, w, r, f⟩ := h
  exact f [] H μ (Aft.refl w) .nil
theorem sk_cons {nm : Option Str} {e : Expr} {kp : Pos} {es : List Keyword} {ca : E} {cr : Es} (ha : PE X e (TD G W P call ca)) (hr : PK X es (TDs G W P call cr)) : PK X (⟨nm, e, kp⟩ :: es) (TDs G W P call (.cons ca cr)) :=
  PK.imp (pk_cons ha hr) fun σ H Q h => tds_cons h
/-- what is laid into a new thing -/
theorem emb_of {σ : L2.St} {H : Hp} {μ ex : List Addr} {s : S} {ds : List DV} {vs : List V} {f : List DV → S → Res DV} {Q : VK} (w : Wd G μ ex s H) (rp : Paired (fun d v => Rep G μ (Mu μ s ex) H d v) ds vs) (h : Fin G W σ μ ex s H ((embedAll ds s).bind f) Q) :
    ∃ ds' s', Aft G μ ex s H μ s' H ∧ RepL G (Mu μ s' ex) H ds' vs ∧ Fin G W σ μ ex s' H (f ds' s') Q := by
  cases e : embedAll ds s with
  | stuck => rw [e] at h; exact h.elim
  | err c gs s' => exact absurd e embedAll_no
  | ok ds' s' =>
    obtain ⟨a, r⟩ := embedAll_ok w rp e
    rw [e] at h
    exact ⟨ds', s', a, r, Fin.from a h⟩
theorem vlen {M : Addr → Prop} {H : Hp} {ds : List DV} {vs : List V} (h : RepL G M H ds vs) : vs.length = ds.length := h.len.symm
end
end WS
set_option maxRecDepth 100000
set_option maxHeartbeats 2000000
/-! D9: displays, subscripts, calls, instances, attributes. -/
namespace WS
open PySem PySem.Spec PyProof.Rows L2
def Es.len : Es → Nat
  | .nil => 0
  | .cons _ r => r.len + 1
section
variable {G : Lk} {X : Cx} {W : WX} {P : Pg} {call : Nat → List DV → M DV}
theorem evs_len : ∀ {c : Es} {env : Env} {s s' : S} {ds : List DV}, evs P call c env s = .ok ds s' → ds.length = c.len
  | .nil, env, s, s', ds, e => by
    unfold evs at e
    cases e
    rfl
  | .cons a r, env, s, s', ds, e => by
    unfold evs at e
    cases h1 : ev P call a env s with
    | stuck => rw [h1] at e; cases e
    | err c gs s1 => rw [h1] at e; cases e
    | ok d s1 =>
      rw [h1] at e
      have e1 : (evs P call r env s1).bind (fun ds s2 => .ok (d :: ds) s2) = .ok ds s' := e
      cases h2 : evs P call r env s1 with
      | stuck => rw [h2] at e1; cases e1
      | err c gs s1 => rw [h2] at e1; cases e1
      | ok dr s2 =>
        rw [h2] at e1
        have e2 : Res.ok (d :: dr) s2 = Res.ok ds s' := e1
        cases e2
        show dr.length + 1 = r.len + 1
        rw [evs_len h2]
theorem pair_len {F : DV → V → Prop} : ∀ {ds : List DV} {vs : List V}, Paired F ds vs → ds.length = vs.length
  | _, _, .nil => rfl
  | _, _, .cons _ t => by simp [pair_len t]
theorem small_line {n : Nat} (h : n ≤ 1000) : n ≤ sizeLine := Nat.le_trans h (by decide)
theorem sd_tup {es : List Expr} {cr : Es} {k : Nat} {pos : Pos} (ha : PA X es (TDs G W P call cr)) (hl : cr.len ≤ 1000) : PE X (.Tuple es k pos) (TD G W P call (.tup cr)) :=
  PE.imp (pe_tup ha) fun σ H Q h => by
    obtain ⟨μ, ex, s, env, w, r, f⟩ := h
    unfold ev at f
    refine tds_of w r f fun vs H1 ds s1 μ1 e a1 rp r1 f1 => ⟨small_line (by rw [← pair_len rp, evs_len e]; exact hl), fun p hp => ?_⟩
    obtain ⟨ds', s2, a2, rl, f2⟩ := emb_of a1.wd rp f1
    exact f2 _ _ μ1 (Aft.alloc a2.wd hp) (Rep.tree (new_tup hp rl))
theorem sd_lst {es : List Expr} {cr : Es} {pos : Pos} (ha : PA X es (TDs G W P call cr)) (hl : cr.len ≤ 1000) : PE X (.List es pos) (TD G W P call (.lst cr)) :=
  PE.imp (pe_lst ha) fun σ H Q h => by
    obtain ⟨μ, ex, s, env, w, r, f⟩ := h
    unfold ev at f
    refine tds_of w r f fun vs H1 ds s1 μ1 e a1 rp r1 f1 => ⟨small_line (by rw [← pair_len rp, evs_len e]; exact hl), fun p hp => ?_⟩
    obtain ⟨ds', s2, a2, rl, f2⟩ := emb_of a1.wd rp f1
    exact f2 _ _ μ1 (Aft.alloc a2.wd hp) (Rep.tree (new_lst a2.wd hp rl))
theorem sd_sub {a b : Expr} {ca cb : E} {pos : Pos} (c : Ctx G X W) (ha : PE X a (TD G W P call ca)) (hb : PE X b (TD G W P call cb)) (hs : PlainIx b) : PE X (.Subscript a b pos) (TD G W P call (.sub ca cb)) :=
  PE.imp (pe_ix (ix_D c) ha hb hs) fun σ H Q h => by
    obtain ⟨μ, ex, s, env, w, r, f⟩ := h
    unfold ev at f
    refine td_of w r f fun v H1 d s1 μ1 e a1 rp r1 f1 => td_of a1.wd r1 f1 fun v2 H2 d2 s2 μ2 e2 a2 rp2 r2 f2 => ?_
    obtain ⟨d3, e3, k⟩ := fin_ofO f2
    exact ⟨μ2, ex, s2, d, d2, d3, a2.wd, rp.kp a2.evo.kp a2.evo.pre, rp2, e3, fun v' r3 => k v' _ μ2 (Aft.refl a2.wd) r3⟩
/-- a slice's part, then the rest -/
theorem part_of {cl : E} {fl : Bool} {lo : Option Expr} {σ : L2.St} {H : Hp} {μ ex : List Addr} {s : S} {env : Env} {Q : VK} {Q' : Option Int → Hp → Prop} {f : Option Int → S → Res DV} (w : Wd G μ ex s H) (r : EnvR G μ (Mu μ s ex) H σ env)
    (h : Fin G W σ μ ex s H ((if fl then (ev P call cl env s).bind fun l s2 => ofO (partOf l) s2 else .ok none s).bind f) Q)
    (k : ∀ l H1 s1 μ1, Aft G μ ex s H μ1 s1 H1 → EnvR G μ1 (Mu μ1 s1 ex) H1 σ env → Fin G W σ μ1 ex s1 H1 (f l s1) Q → Q' l H1) :
    if fl then TD G W P call cl σ H fun v H1 => ∃ i, v = .int i ∧ Q' (some i) H1 else Q' none H := by
  cases fl with
  | false =>
    rw [if_neg Bool.false_ne_true] at h ⊢
    exact k none H s μ (Aft.refl w) r h
  | true =>
    rw [if_pos rfl] at h ⊢
    have h' : Fin G W σ μ ex s H ((ev P call cl env s).bind fun l s2 => (ofO (partOf l) s2).bind f) Q := by
      cases e : ev P call cl env s with
      | ok d s1 => rw [e] at h; exact h
      | err c gs s1 => rw [e] at h; exact h
      | stuck => rw [e] at h; exact h
    refine td_of w r h' fun v H1 d s1 μ1 e a1 rp r1 f1 => ?_
    cases d with
    | int i => exact ⟨i, rp, k (some i) H1 s1 μ1 a1 r1 f1⟩
    | _ => exact f1.elim
theorem sd_slc {a : Expr} {lo hi : Option Expr} {ca cl ch : E} {fl fh : Bool} {pos p2 : Pos} (c : Ctx G X W) (ha : PE X a (TD G W P call ca)) (hl : if fl then ∃ e, lo = some e ∧ PE X e (TD G W P call cl) else lo = none) (hh : if fh then ∃ e, hi = some e ∧ PE X e (TD G W P call ch) else hi = none) :
    PE X (.Subscript a (.Slice lo hi none p2) pos) (TD G W P call (.slc ca cl ch fl fh)) := by
  have go : ∀ (tl th : TO), (∀ σ H Q, (if fl then TD G W P call cl σ H (fun v H1 => ∃ i, v = .int i ∧ Q (some i) H1) else Q none H) → tl σ H Q) → (∀ σ H Q, (if fh then TD G W P call ch σ H (fun v H1 => ∃ i, v = .int i ∧ Q (some i) H1) else Q none H) → th σ H Q) →
      ∀ σ H Q, TD G W P call (.slc ca cl ch fl fh) σ H Q → tSl (rSl G) (TD G W P call ca) tl th σ H Q := by
    intro tl th htl hth σ H Q h
    obtain ⟨μ, ex, s, env, w, r, f⟩ := h
    unfold ev at f
    refine td_of w r f fun v H1 d s1 μ1 e a1 rp r1 f1 => ?_
    refine htl σ H1 _ (part_of (lo := lo) (Q' := fun l H2 => th σ H2 fun u H3 => rSl G v l u H3 Q) a1.wd r1 f1 fun l H2 s2 μ2 a2 r2 f2 => ?_)
    refine hth σ H2 _ (part_of (lo := hi) (Q' := fun u H3 => rSl G v l u H3 Q) a2.wd r2 f2 fun u H3 s3 μ3 a3 r3 f3 => ?_)
    obtain ⟨d3, e3, k⟩ := fin_ofO f3
    exact ⟨μ3, ex, s3, d, d3, a3.wd, (rp.kp a2.evo.kp a2.evo.pre).kp a3.evo.kp a3.evo.pre, e3, fun v' H' a4 r4 => k v' H' μ3 a4 (Rep.tree r4)⟩
  cases fl with
  | false =>
    cases hl
    cases fh with
    | false => cases hh; exact PE.imp (pe_slice (sl_D c) ha po_none po_none) (go tNoPart tNoPart (fun _ _ _ h => h) (fun _ _ _ h => h))
    | true => obtain ⟨e, rfl, he⟩ := hh; exact PE.imp (pe_slice (sl_D c) ha po_none (po_some he)) (go tNoPart (tPart _) (fun _ _ _ h => h) (fun _ _ _ h => h))
  | true =>
    obtain ⟨e, rfl, he⟩ := hl
    cases fh with
    | false => cases hh; exact PE.imp (pe_slice (sl_D c) ha (po_some he) po_none) (go (tPart _) tNoPart (fun _ _ _ h => h) (fun _ _ _ h => h))
    | true => obtain ⟨e, rfl, he'⟩ := hh; exact PE.imp (pe_slice (sl_D c) ha (po_some he) (po_some he')) (go (tPart _) (tPart _) (fun _ _ _ h => h) (fun _ _ _ h => h))
theorem sd_emb {e : Expr} {ce : E} (he : PE X e (TD G W P call ce)) : PE X e (TD G W P call (.emb ce)) :=
  PE.imp he fun σ H Q h => by
    obtain ⟨μ, ex, s, env, w, r, f⟩ := h
    unfold ev at f
    refine td_of w r f fun v H1 d s1 μ1 e a1 rp r1 f1 => ?_
    cases hd : embed d s1 with
    | stuck => rw [hd] at f1; exact f1.elim
    | err c gs s' => exact absurd hd embed_no
    | ok d' s' =>
      rw [hd] at f1
      obtain ⟨a2, rt⟩ := embed_ok a1.wd rp hd
      exact f1 _ _ μ1 a2 (Rep.tree rt)
/-! ### built-in functions -/
theorem sd_prim {p : Prim} {x : Str} {id : String} {e : Expr} {es : List Expr} {cr : Es} {p1 pos : Pos} (c : Ctx G X W) (hc : CallR X (.builtin id) (rP G p)) (hg : Gl X x) (hm : G.mg x = none) (hv : bootBuiltins x = some (.builtin id)) (ha : PA X (e :: es) (TDs G W P call cr)) (hn : x ≠ "__name__") (hdb : (x == ("__debug__" : Str)) = false)
    (he : starEach (e :: es) X.env = (false, eval e X.env) :: starEach es X.env) (hpl : (backTo pos (starEach es X.env)).any (·.1) = false) : PE X (.Call (.Name x p1) (e :: es) [] pos) (TD G W P call (.prim p cr)) :=
  PE.imp (pe_callB hc hg (by rw [c.hm]; exact hm) hv ha hn hdb he hpl) fun σ H Q h => by
    obtain ⟨μ, ex, s, env, w, r, f⟩ := h
    unfold ev at f
    refine tds_of w r f fun vs H1 ds s1 μ1 e a1 rp r1 f1 => ?_
    obtain ⟨d3, e3, k⟩ := fin_ofO f1
    exact ⟨μ1, ex, s1, ds, d3, a1.wd, rp, e3, fun v' H' a3 r3 => k v' H' μ1 a3 (Rep.tree r3)⟩
theorem sd_primT {p : Prim} {x : Str} {T : String} {e : Expr} {es : List Expr} {cr : Es} {p1 pos : Pos} (c : Ctx G X W) (hc : CallR X (.type T) (rP G p)) (hg : Gl X x) (hm : G.mg x = none) (hv : bootBuiltins x = some (.type T)) (ha : PA X (e :: es) (TDs G W P call cr)) (hn : x ≠ "__name__") (hdb : (x == ("__debug__" : Str)) = false)
    (he : starEach (e :: es) X.env = (false, eval e X.env) :: starEach es X.env) (hpl : (backTo pos (starEach es X.env)).any (·.1) = false) : PE X (.Call (.Name x p1) (e :: es) [] pos) (TD G W P call (.prim p cr)) :=
  PE.imp (pe_callTy hc hg (by rw [c.hm]; exact hm) hv ha hn hdb he hpl) fun σ H Q h => by
    obtain ⟨μ, ex, s, env, w, r, f⟩ := h
    unfold ev at f
    refine tds_of w r f fun vs H1 ds s1 μ1 e a1 rp r1 f1 => ?_
    obtain ⟨d3, e3, k⟩ := fin_ofO f1
    exact ⟨μ1, ex, s1, ds, d3, a1.wd, rp, e3, fun v' H' a3 r3 => k v' H' μ1 a3 (Rep.tree r3)⟩
/-! ### calls -/
/-- the values in the parameters' order -/
def permV (dfl : Df → V) (vs zs : List V) : List (Nat ⊕ Df) → Option (List V)
  | [] => some []
  | .inl i :: r => match (vs ++ zs)[i]?, permV dfl vs zs r with
    | some d, some t => some (d :: t)
    | _, _ => none
  | .inr d :: r => (permV dfl vs zs r).map (dfl d :: ·)
theorem pair_get {F : DV → V → Prop} : ∀ {ds : List DV} {vs : List V} {i : Nat} {d : DV}, Paired F ds vs → ds[i]? = some d → ∃ v, vs[i]? = some v ∧ F d v
  | _, _, i, _, .nil, e => by simp at e
  | _, _, 0, _, .cons h t, e => by simp at e; subst e; exact ⟨_, rfl, h⟩
  | _, _, i + 1, _, .cons h t, e => by
    obtain ⟨v, h1, h2⟩ := pair_get (i := i) t (by simpa using e)
    exact ⟨v, by simpa using h1, h2⟩
theorem pair_app {F : DV → V → Prop} : ∀ {ds es : List DV} {vs zs : List V}, Paired F ds vs → Paired F es zs → Paired F (ds ++ es) (vs ++ zs)
  | _, _, _, _, .nil, q => q
  | _, _, _, _, .cons h t, q => .cons h (pair_app t q)
theorem perm_rep {F : DV → V → Prop} {dfl : Df → V} {ds es : List DV} {vs zs : List V} (h1 : Paired F ds vs) (h2 : Paired F es zs) : ∀ {p : List (Nat ⊕ Df)} {us : List DV}, (∀ d, (Sum.inr d : Nat ⊕ Df) ∈ p → F d.2 (dfl d)) → permute ds es p = some us → ∃ xs, permV dfl vs zs p = some xs ∧ Paired F us xs
  | [], us, _, e => by
    have e' : some [] = some us := e
    cases e'
    exact ⟨[], rfl, .nil⟩
  | .inl i :: p, us, hd, e => by
    unfold permute at e
    cases h3 : (ds ++ es)[i]? with
    | none => rw [h3] at e; cases e
    | some d =>
      cases h4 : permute ds es p with
      | none => rw [h3, h4] at e; cases e
      | some t =>
        rw [h3, h4] at e
        cases e
        obtain ⟨xs, e5, q⟩ := perm_rep h1 h2 (fun d hm => hd d (List.mem_cons_of_mem _ hm)) h4
        obtain ⟨v, e6, q6⟩ := pair_get (pair_app h1 h2) h3
        exact ⟨v :: xs, by unfold permV; rw [e6, e5], .cons q6 q⟩
  | .inr d :: p, us, hd, e => by
    unfold permute at e
    cases h4 : permute ds es p with
    | none => rw [h4] at e; cases e
    | some t =>
      rw [h4] at e
      cases e
      obtain ⟨xs, e5, q⟩ := perm_rep h1 h2 (fun d hm => hd d (List.mem_cons_of_mem _ hm)) h4
      exact ⟨dfl d :: xs, by unfold permV; rw [e5]; rfl, .cons (hd d List.mem_cons_self) q⟩
end
end WS
set_option maxRecDepth 100000
set_option maxHeartbeats 2000000
/-! D10: calls of defs, instances made, attributes, isinstance. -/
namespace WS
open PySem PySem.Spec PyProof.Rows L2
section
variable {G : Lk} {X : Cx} {W : WX} {P : Pg} {call : Nat → List DV → M DV}
/-- the promise of a def at given values -/
theorem spF_of {f n : Nat} {σ : L2.St} {μ ex : List Addr} {s : S} {H : Hp} {ds : List DV} {vs : List V} {Q : VK} (w : Wd G μ ex s H) (rp : Paired (fun d v => Rep G μ (Mu μ s ex) H d v) ds vs) (hl : vs.length = n) (h : Fin G W σ μ ex s H (call f ds s) Q) :
    spF G call f n vs H Q (fun cls d H' => W cls d σ H') := by
  refine ⟨hl, μ, ex, s, ds, w, rp, ?_⟩
  cases e : call f ds s with
  | ok d s' => rw [e] at h; exact h
  | err c gs s' => rw [e] at h; exact h
  | stuck => rw [e] at h; exact h
/-- how a def's call binds, in the table's words: n values and the keywords ks, put in order by p -/
def Pat (G : Lk) (f n : Nat) (ks : List Str) (p : List (Nat ⊕ Df)) : Prop :=
  (∀ (vs zs xs : List V) (us ws : List Value) (s : Shared), G.K.In s.heap → Vals vs us → Vals zs ws → vs.length = n → zs.length = ks.length → permV G.dfl vs zs p = some xs → ∃ ys, BindsTo s (G.fd f) ⟨us, ks.zip ws⟩ ((G.ps f).zip ys) ∧ Vals xs ys) ∧
  ∀ d, (Sum.inr d : Nat ⊕ Df) ∈ p → ∀ (M : Addr → Prop) (H : Hp), RepT G M H d.2 (G.dfl d)
theorem kw_ok {kws : List Keyword} {env : PySem.Env} {pos : Pos} (h : kws.all (fun k => k.arg.isSome) = true) : (backToKw pos (keywordEach kws env)).all (·.1.isSome) = true ∧ (backToKw pos (keywordEach kws env)).filterMap (·.1) = kws.filterMap (·.arg) ∧ (backToKw pos (keywordEach kws env)).any (·.1.isNone) = false := by
  induction kws with
  | nil => exact ⟨rfl, rfl, rfl⟩
  | cons k ks ih =>
    obtain ⟨nm, e, kp⟩ := k
    simp only [List.all_cons, Bool.and_eq_true] at h
    obtain ⟨h1, h2, h3⟩ := ih h.2
    cases nm with
    | none => exact absurd h.1 (by simp)
    | some x =>
      refine ⟨?_, ?_, ?_⟩
      · show (true && (backToKw pos (keywordEach ks env)).all (·.1.isSome)) = true
        rw [h1]; rfl
      · show x :: List.filterMap (·.1) (backToKw pos (keywordEach ks env)) = x :: List.filterMap (·.arg) ks
        rw [h2]
      · show (false || (backToKw pos (keywordEach ks env)).any (·.1.isNone)) = false
        rw [h3]; rfl
/-- no star among them -/
def noStar : List Expr → Bool
  | [] => true
  | .Starred _ _ :: _ => false
  | _ :: r => noStar r
theorem star_ok {e : Expr} {es : List Expr} {env : PySem.Env} (h : noStar (e :: es) = true) : starEach (e :: es) env = (false, eval e env) :: starEach es env := by
  cases e <;> first | rfl | (simp [noStar] at h)
theorem noStar_tl {e : Expr} {es : List Expr} (h : noStar (e :: es) = true) : noStar es = true := by
  cases e <;> first | exact h | (simp [noStar] at h)
theorem star_any {es : List Expr} {env : PySem.Env} {pos : Pos} (h : noStar es = true) : (backTo pos (starEach es env)).any (·.1) = false := by
  induction es with
  | nil => rfl
  | cons e es ih =>
    rw [star_ok h]
    show (false || (backTo pos (starEach es env)).any (·.1)) = false
    rw [ih (noStar_tl h)]; rfl
/-- f(..), by position and by keywords -/
theorem sd_callK {f n k : Nat} {x : Str} {es : List Expr} {kws : List Keyword} {ks : List Str} {p : List (Nat ⊕ Df)} {cr ck : Es} {pp pos : Pos} (c : Ctx G X W) (F : FnG G k (G.fa f) (G.fd f) (G.ps f) (spF G call f (G.ps f).length)) (hr : Room k X.A) (hg : Gl X x) (hm : G.mg x = some (.ref (G.fa f))) (hk : PySem.W.keepIn G.K (.ref (G.fa f)) = true)
    (hp : Pat G f n ks p) (hpl : p.length = (G.ps f).length) (ha : PA X es (TDs G W P call cr)) (hkw : PK X kws (TDs G W P call ck)) (hall : kws.all (fun k => k.arg.isSome) = true) (hks : kws.filterMap (·.arg) = ks) (hn : cr.len = n) (hn2 : ck.len = ks.length)
    (hst : noStar es = true) (h0 : es = [] → cr = .nil) (hdb : (x == ("__debug__" : Str)) = false) : PE X (.Call (.Name x pp) es kws pos) (TD G W P call (.callK f cr ck p)) := by
  obtain ⟨k1, k2, k3⟩ := kw_ok (env := X.env) (pos := pos) hall
  refine ⟨fun pins s σ H Q I h => ?_⟩
  refine wpAny_Call_Name_kw (ld_glob I hg (by rw [c.hm]; exact hm) ?_ hdb)
  have fin : ∀ us ws s2 vs zs H2, Inv X pins σ H2 s2 → Vals vs us → Vals zs ws → (vs.length = n ∧ zs.length = ks.length ∧ ∃ xs, permV G.dfl vs zs p = some xs ∧ spF G call f (G.ps f).length xs H2 Q (fun cls d H' => W cls d σ H')) →
      wpAny (model X.prog X.w) X.A (PySem.call (.ref (G.fa f)) us (ks.zip ws)) (EP X pins σ Q) X.xe s2 := by
    intro us ws s2 vs zs H2 I2 r rz ⟨l1, l2, xs, e, q⟩
    obtain ⟨ys, hb, ry⟩ := hp.1 vs zs xs us ws s2 (by rw [← c.hK]; exact I2.kIn) r rz l1 l2 e
    exact run_fnG (args := ⟨us, ks.zip ws⟩) c F hr I2 hb ry (fun _ _ _ z => z) q
  obtain ⟨μ, ex, s0, env, w, r, fn⟩ := h
  unfold ev at fn
  have last : ∀ {μ1 s1 H1 ds vs μ2 s2 H2 es' zs}, Aft G μ1 ex s1 H1 μ2 s2 H2 → Paired (fun d v => Rep G μ1 (Mu μ1 s1 ex) H1 d v) ds vs → Paired (fun d v => Rep G μ2 (Mu μ2 s2 ex) H2 d v) es' zs → ds.length = n → es'.length = ks.length →
      Fin G W σ μ2 ex s2 H2 ((ofO (permute ds es' p) s2).bind fun us s3 => call f us s3) Q → vs.length = n ∧ zs.length = ks.length ∧ ∃ xs, permV G.dfl vs zs p = some xs ∧ spF G call f (G.ps f).length xs H2 Q (fun cls d H' => W cls d σ H') := by
    intro μ1 s1 H1 ds vs μ2 s2 H2 es' zs a2 rp rp2 l1 l2 f2
    cases e : permute ds es' p with
    | none => rw [e] at f2; exact f2.elim
    | some us =>
      rw [e] at f2
      obtain ⟨xs, e2, q⟩ := perm_rep (dfl := G.dfl) (Paired.mapP rp fun d v h => h.kp a2.evo.kp a2.evo.pre) rp2 (fun d hm => Rep.tree (hp.2 d hm _ _)) e
      have lp : ∀ {p : List (Nat ⊕ Df)} {us : List DV}, permute ds es' p = some us → us.length = p.length := by
        intro p
        induction p with
        | nil => intro us e; have e' : some [] = some us := e; cases e'; rfl
        | cons a p ih =>
          intro us e
          cases a with
          | inl i =>
            unfold permute at e
            cases h3 : (ds ++ es')[i]? with
            | none => rw [h3] at e; cases e
            | some d =>
              cases h4 : permute ds es' p with
              | none => rw [h3, h4] at e; cases e
              | some t => rw [h3, h4] at e; cases e; simp [ih h4]
          | inr d =>
            unfold permute at e
            cases h4 : permute ds es' p with
            | none => rw [h4] at e; cases e
            | some t => rw [h4] at e; cases e; simp [ih h4]
      refine ⟨by rw [← pair_len rp]; exact l1, by rw [← pair_len rp2]; exact l2, xs, e2, spF_of a2.wd q ?_ f2⟩
      rw [← pair_len q, lp e, hpl]
  cases es with
  | nil =>
    have h0' := h0 rfl
    subst h0'
    have fn' : Fin G W σ μ ex s0 H ((evs P call ck env s0).bind fun ws s2 => (ofO (permute [] ws p) s2).bind fun us s3 => call f us s3) Q := fn
    refine args_run0 (R := fun zs H2 => (0 = n ∧ zs.length = ks.length ∧ ∃ xs, permV G.dfl [] zs p = some xs ∧ spF G call f (G.ps f).length xs H2 Q (fun cls d H' => W cls d σ H'))) c I hk hkw k1 (k2.trans hks) (by rw [k3]; rfl)
      (tds_of w r fn' fun zs H2 es' s2 μ2 e2 a2 rp2 r2 f2 => last (ds := []) (vs := []) a2 .nil rp2 hn (by rw [evs_len e2]; exact hn2) f2) fun ws s2 zs H2 I2 rz q => fin [] ws s2 [] zs H2 I2 .nil rz q
  | cons e es =>
    refine args_run (R := fun vs zs H2 => (vs.length = n ∧ zs.length = ks.length ∧ ∃ xs, permV G.dfl vs zs p = some xs ∧ spF G call f (G.ps f).length xs H2 Q (fun cls d H' => W cls d σ H'))) c I hk ha hkw k1 (k2.trans hks) (star_ok hst) (by rw [star_any hst, k3]; rfl)
      (tds_of w r fn fun vs H1 ds s1 μ1 e1 a1 rp r1 f1 => tds_of a1.wd r1 f1 fun zs H2 es' s2 μ2 e2 a2 rp2 r2 f2 => last a2 rp rp2 (by rw [evs_len e1]; exact hn) (by rw [evs_len e2]; exact hn2) f2) fin
end
end WS
set_option maxRecDepth 100000
set_option maxHeartbeats 2000000
/-! D11: a def's own cells go at its end; instances made. -/
namespace WS
open PySem PySem.Spec PyProof.Rows L2
section
variable {G : Lk} {μ0 μ1 ex : List Addr} {s0 s1 : S} {H0 H1 : Hp}
/-- the locs of a dict's values are below k -/
def lowKv (k : Nat) (kvs : List (DV × DV)) : Prop := ∀ p ∈ kvs, ∀ m, p.2 = .loc m → m < k
theorem low_of_rep {G : Lk} {μ : List Addr} {M : Addr → Prop} {H : Hp} : ∀ {kvs : List (DV × DV)} {xs : List (Key × V)}, RepQ G μ M H kvs xs → lowKv μ.length kvs
  | [], _, _ => fun p hp => by cases hp
  | (q, d) :: kvs, _, ⟨k, x, r, e1, e2, h, t⟩ => fun p hp m e => by
    rcases List.mem_cons.mp hp with z | z
    · subst z
      have e' : d = .loc m := e
      subst e'
      obtain ⟨a, _, h2⟩ := h
      exact (List.getElem?_eq_some_iff.mp h2).1
    · exact low_of_rep t p z m e
theorem low_of_ok {k : Nat} {kvs : List (DV × DV)} (h : okCell k (.dct kvs) = true) : lowKv k kvs := fun p hp m e => by
  unfold okCell at h
  have q := List.all_eq_true.mp h p hp
  rw [e] at q
  exact of_decide_eq_true q
theorem RepQ.cutμ {G : Lk} {μ μ' : List Addr} {M : Addr → Prop} {H : Hp} {k : Nat} (hμ : ∀ m a, m < k → μ[m]? = some a → μ'[m]? = some a) : ∀ {kvs : List (DV × DV)} {xs : List (Key × V)}, lowKv k kvs → RepQ G μ M H kvs xs → RepQ G μ' M H kvs xs
  | [], _, _, h => h
  | (q, d) :: kvs, _, hl, ⟨kk, x, r, e1, e2, h, t⟩ => by
    refine ⟨kk, x, r, e1, e2, ?_, RepQ.cutμ hμ (fun p hp m e => hl p (List.mem_cons_of_mem _ hp) m e) t⟩
    cases d with
    | loc m =>
      obtain ⟨a, e3, h2⟩ := h
      exact ⟨a, e3, hμ m a (hl _ List.mem_cons_self m rfl) h2⟩
    | _ => exact h
/-- the newer cells are dropped -/
theorem Aft.drop (w0 : Wd G μ0 ex s0 H0) (a : Aft G μ0 ex s0 H0 μ1 s1 H1) (ok : okCells s0.length s0 s1) :
    Aft G μ0 ex s0 H0 μ0 (s1.take s0.length) H1 ∧ Keep (Mu μ1 s1 ex) (Mu μ0 (s1.take s0.length) ex) H1 H1 ∧ ∀ n x, s0.length ≤ n → μ1[n]? = some x → ¬ Mu μ0 (s1.take s0.length) ex x := by
  have w1 := a.wd
  have len0 : μ0.length ≤ μ1.length := by
    by_cases h : μ0.length = 0
    · omega
    · have hlt : μ0.length - 1 < μ0.length := by omega
      have q := a.evo.pre (μ0.length - 1) (μ0[μ0.length - 1]) (List.getElem?_eq_getElem hlt)
      have := (List.getElem?_eq_some_iff.mp q).1
      omega
  have len1 : s0.length ≤ s1.length := by rw [← w0.len, ← w1.len]; exact len0
  have lt : (s1.take s0.length).length = s0.length := by rw [List.length_take]; omega
  have at0 : ∀ n x, μ0[n]? = some x → μ1[n]? = some x := a.evo.pre
  have sub : ∀ x, Mu μ0 (s1.take s0.length) ex x → Mu μ1 s1 ex x := by
    rintro x (z | ⟨n, c, h1, h2, h3⟩)
    · exact .inl z
    · refine .inr ⟨n, c, at0 n x h1, ?_, h3⟩
      have hn : n < s0.length := by rw [← w0.len]; exact (List.getElem?_eq_some_iff.mp h1).1
      rw [List.getElem?_take_of_lt hn] at h2
      exact h2
  have k1 : Keep (Mu μ1 s1 ex) (Mu μ0 (s1.take s0.length) ex) H1 H1 := ⟨fun _ _ h _ _ _ => h, fun _ _ h _ => h, fun _ _ h => h, fun _ _ _ h => h, fun x n z => absurd (sub x z) n⟩
  have low : ∀ n kvs, n < s0.length → s1[n]? = some (.dct kvs) → lowKv s0.length kvs := by
    intro n kvs hn h2
    rcases ok with e | e
    · have h3 : s0[n]? = some (.dct kvs) := by
        have q : (s1.take s0.length)[n]? = some (.dct kvs) := by rw [List.getElem?_take_of_lt hn]; exact h2
        rw [e] at q
        exact q
      obtain ⟨x, hx⟩ := w0.at_ h3
      obtain ⟨xs, _, rq⟩ := w0.cells n x _ hx h3
      have := low_of_rep rq
      rw [w0.len] at this
      exact this
    · have q : (s1.take s0.length)[n]? = some (.dct kvs) := by rw [List.getElem?_take_of_lt hn]; exact h2
      exact low_of_ok (List.all_eq_true.mp e _ (List.mem_of_getElem? q))
  refine ⟨⟨⟨a.evo.kp.trans k1, fun _ _ h => h, a.evo.hid⟩, ⟨by rw [lt]; exact w0.len, w0.nd, fun n x c h1 h2 => ?_, w1.tabs, w1.exH, w0.exD, fun x hx => ?_, w1.exT, fun x hx => ?_⟩⟩, k1, fun n x hn h1 => ?_⟩
  · have hn : n < s0.length := by rw [← w0.len]; exact (List.getElem?_eq_some_iff.mp h1).1
    rw [List.getElem?_take_of_lt hn] at h2
    have q := w1.cells n x c (at0 n x h1) h2
    cases c with
    | lst ds => obtain ⟨xs, e, r⟩ := q; exact ⟨xs, e, RepL.kp k1 ds xs r⟩
    | dct ps =>
      obtain ⟨xs, e, r⟩ := q
      refine ⟨xs, e, RepQ.cutμ (k := s0.length) (fun m b hm h => ?_) (low n ps hn h2) (RepQ.kp k1 (fun _ _ h => h) ps xs r)⟩
      have hm' : m < μ0.length := by rw [w0.len]; exact hm
      have q := at0 m _ (List.getElem?_eq_getElem hm')
      rw [h] at q
      rw [List.getElem?_eq_getElem hm']
      exact q.symm
    | ins c gs => obtain ⟨dx, fs, e, r⟩ := q; exact ⟨dx, fs, e, RepF.kp k1 gs fs r⟩
    | frz d => exact RepT.kp k1 d _ q
  · obtain ⟨n, hn, e⟩ := List.mem_iff_getElem.mp hx
    exact w1.muH x (List.mem_of_getElem? (at0 n x (by rw [List.getElem?_eq_getElem hn, e])))
  · obtain ⟨n, hn, e⟩ := List.mem_iff_getElem.mp hx
    exact w1.muT x (List.mem_of_getElem? (at0 n x (by rw [List.getElem?_eq_getElem hn, e])))
  · rintro (z | ⟨m, c, e1, e2, e3⟩)
    · exact w1.exD x z (List.mem_of_getElem? h1)
    · have hm : m < s0.length := by rw [← w0.len]; exact (List.getElem?_eq_some_iff.mp e1).1
      have := w1.inj h1 (at0 m x e1)
      omega
end
/-- a cell that goes, as a tree -/
theorem gone_tree {G : Lk} {μ1 ex : List Addr} {s1 : S} {H1 : Hp} {M : Addr → Prop} {n : Nat} {x : Addr} {t : DV} (w : Wd G μ1 ex s1 H1) (k : Keep (Mu μ1 s1 ex) M H1 H1) (h1 : μ1[n]? = some x) (nx : ¬ M x) (e : treeOf s1 (.loc n) = some t) : RepT G M H1 t (.ref x) := by
  cases h2 : s1[n]? with
  | none => simp only [treeOf, h2] at e; cases e
  | some c =>
    have q := w.cells n x c h1 h2
    cases c with
    | lst xs =>
      simp only [treeOf, h2] at e
      cases e
      obtain ⟨ys, e1, rl⟩ := q
      exact ⟨x, ys, rfl, e1, nx, RepL.kp k xs ys rl⟩
    | dct kvs =>
      simp only [treeOf, h2] at e
      split at e
      · rename_i hp
        cases e
        obtain ⟨ys, e1, rl⟩ := q
        exact ⟨x, ys, rfl, .inl e1, nx, RepP.kp k kvs ys (RepQ.plain kvs ys hp rl)⟩
      · cases e
    | ins c gs => simp only [treeOf, h2] at e; cases e
    | frz t =>
      simp only [treeOf, h2] at e
      cases e
      exact RepT.kp k _ _ q
theorem gone_kvs {G : Lk} {μ1 ex : List Addr} {s1 : S} {H1 : Hp} {M : Addr → Prop} {m : Nat} (w : Wd G μ1 ex s1 H1) (k : Keep (Mu μ1 s1 ex) M H1 H1) (nm : ∀ n x, m ≤ n → μ1[n]? = some x → ¬ M x) : ∀ {kvs kvs' : List (DV × DV)} {ys : List (Key × V)}, RepQ G μ1 (Mu μ1 s1 ex) H1 kvs ys → deepKv m s1 kvs = some kvs' → RepP G M H1 kvs' ys
  | [], kvs', ys, h, e => by
    have e : [] = kvs' := by simpa [deepKv] using e
    subst e
    rw [show ys = [] from h]
    rfl
  | (q, v) :: r, kvs', ys, ⟨ky, y, ry, e1, e2, rv, rr⟩, e => by
    subst e1
    have plainC : ∀ (hl : ∀ n, v ≠ .loc n), (deepKv m s1 r).map ((q, v) :: ·) = some kvs' → RepP G M H1 kvs' ((ky, y) :: ry) := by
      intro hl e
      obtain ⟨r', h1, h2⟩ := Option.map_eq_some_iff.mp e
      subst h2
      have rt : RepT G (Mu μ1 s1 ex) H1 v y := by
        cases v <;> first | exact rv | exact absurd rfl (hl _)
      exact ⟨ky, y, ry, rfl, e2, RepT.kp k _ _ rt, gone_kvs w k nm rr h1⟩
    cases v with
    | loc n =>
      simp only [deepKv] at e
      split at e
      · rename_i hn
        split at e
        · rename_i t r' h1 h2
          cases e
          obtain ⟨x, ex', hx⟩ := rv
          subst ex'
          exact ⟨ky, .ref x, ry, rfl, e2, gone_tree w k hx (nm n x hn hx) h1, gone_kvs w k nm rr h2⟩
        · cases e
      · cases e
    | _ => exact plainC (fun n z => by cases z) e
/-- a def's end -/
theorem leave_ok {G : Lk} {μ0 μ1 ex : List Addr} {s0 s1 s' : S} {H0 H1 : Hp} {d d' : DV} {v : V} (w0 : Wd G μ0 ex s0 H0) (a : Aft G μ0 ex s0 H0 μ1 s1 H1) (r : Rep G μ1 (Mu μ1 s1 ex) H1 d v) (e : leave s0 d s1 = .ok d' s') :
    Aft G μ0 ex s0 H0 μ0 s' H1 ∧ Rep G μ0 (Mu μ0 s' ex) H1 d' v := by
  unfold leave at e
  split at e
  · rename_i ok
    obtain ⟨b, k, nm⟩ := Aft.drop w0 a ok
    cases d with
    | loc n =>
      simp only at e
      obtain ⟨x, rfl, h1⟩ := r
      split at e
      · rename_i hn
        cases e
        refine ⟨b, x, rfl, ?_⟩
        have hm' : n < μ0.length := by rw [w0.len]; exact hn
        have q := a.evo.pre n _ (List.getElem?_eq_getElem hm')
        rw [h1] at q
        rw [List.getElem?_eq_getElem hm']
        exact q.symm
      · rename_i hn
        have nx := nm n x (by omega) h1
        have fin : ∀ t, treeOf s1 (.loc n) = some t → Aft G μ0 ex s0 H0 μ0 (s1.take s0.length) H1 ∧ Rep G μ0 (Mu μ0 (s1.take s0.length) ex) H1 t (.ref x) := fun t ht => ⟨b, Rep.tree (gone_tree a.wd k h1 nx ht)⟩
        cases h2 : s1[n]? with
        | none => simp only [deepOf, treeOf, h2] at e; cases e
        | some c =>
          have q := a.wd.cells n x c h1 h2
          cases c with
          | dct kvs =>
            simp only [deepOf, h2] at e
            cases hk : deepKv s0.length s1 kvs with
            | none => rw [hk] at e; cases e
            | some kvs' =>
              rw [hk] at e
              cases e
              obtain ⟨ys, e1, rl⟩ := q
              exact ⟨b, x, ys, rfl, .inl e1, nx, gone_kvs a.wd k nm rl hk⟩
          | _ =>
            simp only [deepOf, h2] at e
            cases ht : treeOf s1 (.loc n) with
            | none => rw [ht] at e; cases e
            | some t =>
              rw [ht] at e
              cases e
              exact fin _ ht
    | _ =>
      simp only at e
      cases e
      exact ⟨b, RepT.kp k _ _ r⟩
  · cases e
theorem leave_no {s0 s1 s' : S} {d : DV} {c : Nat} {fs : List (Str × DV)} : leave s0 d s1 ≠ .err c fs s' := by
  intro e
  unfold leave at e
  split at e
  · split at e
    · split at e
      · cases e
      · split at e <;> cases e
    · cases e
  · cases e
/-! ### instances made -/
section
variable {G : Lk} {X : Cx} {W : WX} {P : Pg} {call : Nat → List DV → M DV}
/-- from the new instance through __init__ to the tree -/
theorem make_of {c n : Nat} {k : Cl} {σ : L2.St} {μ ex : List Addr} {s : S} {H : Hp} {us : List DV} {xs : List V} {Q : VK} (hk : P.cl c = some k) (w : Wd G μ ex s H) (rp : Paired (fun d v => Rep G μ (Mu μ s ex) H d v) us xs) (hl : xs.length + 1 = n)
    (h : Fin G W σ μ ex s H (make P call c us s) Q) (x dx : Addr) (hx : H x = none) (hdx : H dx = none) (hne : dx ≠ x) :
    spF G call k.init n (.ref x :: xs) (upd (upd H dx (.own x)) x (.ins (G.ca c) dx [])) (fun v H2 => v = .non ∧ Q (.ref x) H2) (fun cls d H' => W cls d σ H') := by
  have a1 : Aft G μ ex s H μ s (upd H dx (.own x)) := Aft.alloc w hdx
  have hx1 : upd H dx (.own x) x = none := by rw [upd_ne (Ne.symm hne)]; exact hx
  obtain ⟨w2, k2⟩ := Wd.hide (o := .ins (G.ca c) dx []) a1.wd hx1
  have nx : x ∉ ex := fun z => w.exH x z hx
  obtain ⟨w3, em⟩ := Aft.cell (c := .ins c []) w2 nx rfl ⟨dx, [], upd_same, rfl⟩
  have pre : ∀ (n : Nat) (a : Addr), μ[n]? = some a → (μ ++ [x])[n]? = some a := fun n a h => by rw [List.getElem?_append_left (List.getElem?_eq_some_iff.mp h).1]; exact h
  have kall : Keep (Mu μ s ex) (Mu (μ ++ [x]) (s ++ [.ins c []]) ex) H (upd (upd H dx (.own x)) x (.ins (G.ca c) dx [])) := by rw [em]; exact a1.evo.kp.trans k2
  have a3 : Aft G μ ex s H (μ ++ [x]) (s ++ [.ins c []]) (upd (upd H dx (.own x)) x (.ins (G.ca c) dx [])) := ⟨⟨kall, pre, fun a ha => (upd_ne fun z => nx (by rw [← z]; exact ha)).trans (a1.evo.hid a ha)⟩, w3⟩
  have hloc : (μ ++ [x])[s.length]? = some x := by rw [List.getElem?_append_right (by rw [w.len]; exact Nat.le_refl _), w.len]; simp
  refine ⟨by simp [hl], μ ++ [x], ex, s ++ [.ins c []], .loc s.length :: us, w3, .cons ⟨x, rfl, hloc⟩ (Paired.mapP rp fun d v h => h.kp kall pre), ?_⟩
  unfold make at h
  rw [hk] at h
  simp only at h
  cases e : call k.init (.loc s.length :: us) (s ++ [.ins c []]) with
  | stuck => rw [e] at h; exact h.elim
  | err c' gs s1 =>
    rw [e] at h
    simp only at h ⊢
    intro cls dd H' μ' a4 er
    split at h
    · rename_i ok
      obtain ⟨b, kk, _⟩ := Aft.drop w (a3.trans a4) ok
      refine h cls dd H' μ b ⟨er.1, ?_⟩
      rcases er.2 with z | ⟨d, fs, e1, e2, e3, e4⟩
      · exact .inl z
      · exact .inr ⟨d, fs, e1, e2, kk.nm e2 e3, RepF.kp kk _ _ e4⟩
    · exact h.elim
  | ok r s1 =>
    rw [e] at h
    cases r with
    | non =>
      simp only at h ⊢
      intro v H' μ' a4 rv
      refine ⟨rv, ?_⟩
      cases h5 : s1[s.length]? with
      | none => rw [h5] at h; exact h.elim
      | some cc =>
        rw [h5] at h
        cases cc with
        | ins c2 fs =>
          simp only at h
          split at h
          · rename_i ok
            obtain ⟨rfl, ok⟩ := ok
            obtain ⟨b, kk, nm⟩ := Aft.drop w (a3.trans a4) ok
            have hx2 := a4.evo.pre _ _ hloc
            obtain ⟨dx2, fs2, e6, rf⟩ := a4.wd.cells _ _ _ hx2 h5
            exact h _ _ μ b ⟨x, dx2, fs2, rfl, e6, nm _ _ (Nat.le_refl _) hx2, RepF.kp kk _ _ rf⟩
          · exact h.elim
        | _ => exact h.elim
    | _ => exact h.elim
end
end WS
set_option maxRecDepth 100000
set_option maxHeartbeats 2000000
/-! D12: instances made, attributes, isinstance, as expressions. -/
namespace WS
open PySem PySem.Spec PyProof.Rows L2
section
variable {G : Lk} {X : Cx} {W : WX} {P : Pg} {call : Nat → List DV → M DV}
theorem run_makeH {k : Nat} {f C : Addr} {fd : FuncData} {ps ks : List Str} {sp : Sp} {E : XK} {pins : List (Addr × Obj)} {σ : L2.St} {H : Hp} {s : Shared} {Q : VK} {us ws : List Value} {xs : List V} (c : Ctx G X W) (M : Mk G.K C f) (F : FnG G k f fd ps sp) (hr : Room (k + 1) X.A)
    (hb : ∀ (x : Addr) (s' : Shared), G.K.In s'.heap → ∃ ys, BindsTo s' fd ⟨.ref x :: us, ks.zip ws⟩ (ps.zip ys) ∧ Vals (.ref x :: xs) ys) (I : Inv X pins σ H s) (hE : ∀ cls d H', E cls d H' → W cls d σ H')
    (h : ∀ x dx, H x = none → H dx = none → dx ≠ x → sp (.ref x :: xs) (upd (upd H dx (.own x)) x (.ins C dx [])) (fun v H2 => v = .non ∧ Q (.ref x) H2) E) :
    wpAny (model X.prog X.w) X.A (PySem.call (.ref C) us (ks.zip ws)) (EP X pins σ Q) X.xe s := by
  have hq := h (s.heap.objs.size + 1) s.heap.objs.size (I.hok.fresh (Nat.le_succ _)) (I.hok.fresh (Nat.le_refl _)) (Nat.ne_of_lt (Nat.lt_succ_self _))
  have I2 := Inv.made (C := C) I
  obtain ⟨ys, hbx, rx⟩ := hb (s.heap.objs.size + 1) _ (by rw [← c.hK]; exact I2.kIn)
  have M' : Mk X.K C f := by rw [c.hK]; exact M
  have q := F.run (X.A.under (.builtin "type.__call__" ⟨.ref C :: us, ks.zip ws⟩)) X.stack _ _ ⟨Value.ref (s.heap.objs.size + 1) :: us, ks.zip ws⟩ ys _ _ E (hr.make C us (ks.zip ws))
    (by first | exact c.gd | (simpa [Around.under, Code.guards, Code.isGuard, guardIds, pushGuards] using c.gd)) ((c.env0 I2).make C us (ks.zip ws)) hbx rx hq
  rw [← c.hP, ← c.hw] at q
  refine wpAny_call (make_map (f := f) I.kIn M'.makes M'.init (beq_iff_eq.mp M'.fn) (codeAny_mono q fun r s' hq' => ?_))
  cases r with
  | error e => exact CtxG_err c I2 hE (by rw [← c.hP, ← c.hw]; exact hq')
  | ok fl =>
    cases fl with
    | ret u =>
      obtain ⟨v, H', I3, rv, ev, q3⟩ := I2.after hq'
      subst ev
      exact ⟨rv, ⟨V.ref (s.heap.objs.size + 1), H', I3, rfl, q3⟩⟩
    | next => exact False.elim hq'
    | brk => exact False.elim hq'
    | cont => exact False.elim hq'
theorem perm_len {ds es : List DV} : ∀ {p : List (Nat ⊕ Df)} {us : List DV}, permute ds es p = some us → us.length = p.length
  | [], us, e => by have e' : some [] = some us := e; cases e'; rfl
  | .inl i :: p, us, e => by
    unfold permute at e
    cases h3 : (ds ++ es)[i]? with
    | none => rw [h3] at e; cases e
    | some d =>
      cases h4 : permute ds es p with
      | none => rw [h3, h4] at e; cases e
      | some t => rw [h3, h4] at e; cases e; simp [perm_len h4]
  | .inr d :: p, us, e => by
    unfold permute at e
    cases h4 : permute ds es p with
    | none => rw [h4] at e; cases e
    | some t => rw [h4] at e; cases e; simp [perm_len h4]
/-- how __init__'s call binds: the new instance, n values, the keywords ks -/
def PatI (G : Lk) (f n : Nat) (ks : List Str) (p : List (Nat ⊕ Df)) : Prop :=
  (∀ (vs zs xs : List V) (us ws : List Value) (x : Addr) (s : Shared), G.K.In s.heap → Vals vs us → Vals zs ws → vs.length = n → zs.length = ks.length → permV G.dfl vs zs p = some xs → ∃ ys, BindsTo s (G.fd f) ⟨.ref x :: us, ks.zip ws⟩ ((G.ps f).zip ys) ∧ Vals (.ref x :: xs) ys) ∧
  ∀ d, (Sum.inr d : Nat ⊕ Df) ∈ p → ∀ (M : Addr → Prop) (H : Hp), RepT G M H d.2 (G.dfl d)
/-- C(..), by position and by keywords -/
theorem sd_mkK {ci n k : Nat} {kc : Cl} {x : Str} {es : List Expr} {kws : List Keyword} {ks : List Str} {p : List (Nat ⊕ Df)} {cr ck : Es} {pp pos : Pos} (c : Ctx G X W) (hcl : P.cl ci = some kc) (M : Mk G.K (G.ca ci) (G.fa kc.init)) (F : FnG G k (G.fa kc.init) (G.fd kc.init) (G.ps kc.init) (spF G call kc.init (G.ps kc.init).length)) (hr : Room (k + 1) X.A) (hg : Gl X x) (hm : G.mg x = some (.ref (G.ca ci)))
    (hp : PatI G kc.init n ks p) (hpl : p.length + 1 = (G.ps kc.init).length) (ha : PA X es (TDs G W P call cr)) (hkw : PK X kws (TDs G W P call ck)) (hall : kws.all (fun k => k.arg.isSome) = true) (hks : kws.filterMap (·.arg) = ks) (hn : cr.len = n) (hn2 : ck.len = ks.length)
    (hst : noStar es = true) (h0 : es = [] → cr = .nil) (hdb : (x == ("__debug__" : Str)) = false) : PE X (.Call (.Name x pp) es kws pos) (TD G W P call (.mkK ci cr ck p)) := by
  obtain ⟨k1, k2, k3⟩ := kw_ok (env := X.env) (pos := pos) hall
  refine ⟨fun pins s σ H Q I h => ?_⟩
  refine wpAny_Call_Name_kw (ld_glob I hg (by rw [c.hm]; exact hm) ?_ hdb)
  have fin : ∀ us ws s2 vs zs H2, Inv X pins σ H2 s2 → Vals vs us → Vals zs ws → (vs.length = n ∧ zs.length = ks.length ∧ ∃ xs, permV G.dfl vs zs p = some xs ∧ ∀ y dx, H2 y = none → H2 dx = none → dx ≠ y → spF G call kc.init (G.ps kc.init).length (.ref y :: xs) (upd (upd H2 dx (.own y)) y (.ins (G.ca ci) dx [])) (fun v H3 => v = .non ∧ Q (.ref y) H3) (fun cls d H' => W cls d σ H')) →
      wpAny (model X.prog X.w) X.A (PySem.call (.ref (G.ca ci)) us (ks.zip ws)) (EP X pins σ Q) X.xe s2 := by
    intro us ws s2 vs zs H2 I2 r rz ⟨l1, l2, xs, e, q⟩
    exact run_makeH c M F hr (fun x s' hK => hp.1 vs zs xs us ws x s' hK r rz l1 l2 e) I2 (fun _ _ _ z => z) q
  obtain ⟨μ, ex, s0, env, w, r, fn⟩ := h
  unfold ev at fn
  have last : ∀ {μ1 s1 H1 ds vs μ2 s2 H2 es' zs}, Aft G μ1 ex s1 H1 μ2 s2 H2 → Paired (fun d v => Rep G μ1 (Mu μ1 s1 ex) H1 d v) ds vs → Paired (fun d v => Rep G μ2 (Mu μ2 s2 ex) H2 d v) es' zs → ds.length = n → es'.length = ks.length →
      Fin G W σ μ2 ex s2 H2 ((ofO (permute ds es' p) s2).bind fun us s3 => make P call ci us s3) Q → vs.length = n ∧ zs.length = ks.length ∧ ∃ xs, permV G.dfl vs zs p = some xs ∧ ∀ y dx, H2 y = none → H2 dx = none → dx ≠ y → spF G call kc.init (G.ps kc.init).length (.ref y :: xs) (upd (upd H2 dx (.own y)) y (.ins (G.ca ci) dx [])) (fun v H3 => v = .non ∧ Q (.ref y) H3) (fun cls d H' => W cls d σ H') := by
    intro μ1 s1 H1 ds vs μ2 s2 H2 es' zs a2 rp rp2 l1 l2 f2
    cases e : permute ds es' p with
    | none => rw [e] at f2; exact f2.elim
    | some us =>
      rw [e] at f2
      obtain ⟨xs, e2, q⟩ := perm_rep (dfl := G.dfl) (Paired.mapP rp fun d v h => h.kp a2.evo.kp a2.evo.pre) rp2 (fun d hm => Rep.tree (hp.2 d hm _ _)) e
      refine ⟨by rw [← pair_len rp]; exact l1, by rw [← pair_len rp2]; exact l2, xs, e2, fun y dx hy hdx hne => ?_⟩
      exact make_of hcl a2.wd q (by rw [← pair_len q, perm_len e, hpl]) f2 y dx hy hdx hne
  cases es with
  | nil =>
    have h0' := h0 rfl
    subst h0'
    have fn' : Fin G W σ μ ex s0 H ((evs P call ck env s0).bind fun ws s2 => (ofO (permute [] ws p) s2).bind fun us s3 => make P call ci us s3) Q := fn
    refine args_run0 (R := fun zs H2 => (0 = n ∧ zs.length = ks.length ∧ ∃ xs, permV G.dfl [] zs p = some xs ∧ ∀ y dx, H2 y = none → H2 dx = none → dx ≠ y → spF G call kc.init (G.ps kc.init).length (.ref y :: xs) (upd (upd H2 dx (.own y)) y (.ins (G.ca ci) dx [])) (fun v H3 => v = .non ∧ Q (.ref y) H3) (fun cls d H' => W cls d σ H'))) c I M.kp hkw k1 (k2.trans hks) (by rw [k3]; rfl)
      (tds_of w r fn' fun zs H2 es' s2 μ2 e2 a2 rp2 r2 f2 => last (ds := []) (vs := []) a2 .nil rp2 hn (by rw [evs_len e2]; exact hn2) f2) fun ws s2 zs H2 I2 rz q => fin [] ws s2 [] zs H2 I2 .nil rz q
  | cons e es =>
    refine args_run (R := fun vs zs H2 => (vs.length = n ∧ zs.length = ks.length ∧ ∃ xs, permV G.dfl vs zs p = some xs ∧ ∀ y dx, H2 y = none → H2 dx = none → dx ≠ y → spF G call kc.init (G.ps kc.init).length (.ref y :: xs) (upd (upd H2 dx (.own y)) y (.ins (G.ca ci) dx [])) (fun v H3 => v = .non ∧ Q (.ref y) H3) (fun cls d H' => W cls d σ H'))) c I M.kp ha hkw k1 (k2.trans hks) (star_ok hst) (by rw [star_any hst, k3]; rfl)
      (tds_of w r fn fun vs H1 ds s1 μ1 e1 a1 rp r1 f1 => tds_of a1.wd r1 f1 fun zs H2 es' s2 μ2 e2 a2 rp2 r2 f2 => last a2 rp rp2 (by rw [evs_len e1]; exact hn) (by rw [evs_len e2]; exact hn2) f2) fin
/-! ### attributes -/
/-- how many parameters such a method has -/
def dunN (x : Str) : Option Nat := if x = "__getitem__" ∨ x = "__contains__" ∨ x = "__eq__" then some 2 else if x = "__len__" then some 1 else none
/-- what the attributes of a class want of the link: properties by their getters, the rest no name of the class -/
structure ClsF (G : Lk) (k : Nat) (call : Nat → List DV → M DV) (ci : Nat) (kc : Cl) : Prop where
  cl : Cls G.K (G.ca ci)
  prop : ∀ x f, kc.props.lookup x = some f → (∃ p, PropOf G.K (G.ca ci) x p (G.fa f)) ∧ (G.ps f).length = 1 ∧ FnG G k (G.fa f) (G.fd f) (G.ps f) (spF G call f (G.ps f).length) ∧ ∀ (s : Shared) (us : List Value), G.K.In s.heap → us.length = (G.ps f).length → BindsTo s (G.fd f) ⟨us, []⟩ ((G.ps f).zip us)
  meth : ∀ x f, kc.meths.lookup x = some f → Meth G.K (G.ca ci) x (G.fa f) ∧ PySem.W.fnIn G.K (G.fa f) = true ∧ FnG G k (G.fa f) (G.fd f) (G.ps f) (spF G call f (G.ps f).length) ∧ ∀ (s : Shared) (us : List Value), G.K.In s.heap → us.length = (G.ps f).length → BindsTo s (G.fd f) ⟨us, []⟩ ((G.ps f).zip us)
  dun : ∀ x f n, kc.meths.lookup x = some f → dunN x = some n → (G.ps f).length = n
/-- the names that may be read: fields of instances and exceptions -/
structure FldF (G : Lk) (P : Pg) (x : Str) : Prop where
  ins : ∀ ci kc, P.cl ci = some kc → kc.props.lookup x = none → NoAttr G.K (G.ca ci) x
  exc : ∀ ci fs, P.ex ci = some fs → XfC G.K (G.xa ci) ∧ PySem.W.findIn G.K (.ref (G.xa ci)) x = some none
theorem RepF.get {M : Addr → Prop} {H : Hp} {x : Str} : ∀ {gs : List (Str × DV)} {fs : List (Str × V)} {d : DV}, RepF G M H gs fs → fget x gs = some d → ∃ v, fs.lookup x = some v ∧ RepT G M H d v
  | [], _, _, _, e => by simp [fget] at e
  | (y, u) :: gs, _, d, ⟨v, r, e1, h, t⟩, e => by
    subst e1
    unfold fget at e
    by_cases hy : y = x
    · subst hy
      rw [if_pos rfl] at e
      cases e
      exact ⟨v, by simp [List.lookup], h⟩
    · rw [if_neg hy] at e
      obtain ⟨v', h1, h2⟩ := RepF.get t e
      refine ⟨v', ?_, h2⟩
      have q : (x == y) = false := by
        cases hq : (x == y) with
        | false => rfl
        | true => exact absurd (eq_of_beq hq).symm hy
      simp [List.lookup, q, h1]
/-- an instance, as it stands -/
theorem insOf_rep {μ ex : List Addr} {s : S} {H : Hp} {d : DV} {v : V} {c : Nat} {gs : List (Str × DV)} (w : Wd G μ ex s H) (r : Rep G μ (Mu μ s ex) H d v) (e : insOf s d = some (c, gs)) : ∃ a dx fs, v = .ref a ∧ H a = some (.ins (G.ca c) dx fs) ∧ RepF G (Mu μ s ex) H gs fs := by
  cases d with
  | ins c' zs =>
    obtain ⟨a, dx, fs, e1, h, n, q⟩ := r
    have e2 : some (c', zs) = some (c, gs) := e
    cases e2
    exact ⟨a, dx, fs, e1, h, q⟩
  | loc n =>
    obtain ⟨a, e1, h1⟩ := r
    unfold insOf at e
    simp only at e
    cases h2 : s[n]? with
    | none => rw [h2] at e; cases e
    | some cc =>
      rw [h2] at e
      have q := w.cells n a cc h1 h2
      cases cc with
      | ins c' zs =>
        have e2 : some (c', zs) = some (c, gs) := e
        cases e2
        obtain ⟨dx, fs, h, q⟩ := q
        exact ⟨a, dx, fs, e1, h, q⟩
      | frz d =>
        cases d with
        | ins c' zs =>
          have e2 : some (c', zs) = some (c, gs) := e
          cases e2
          obtain ⟨b, dx, fs, e3, h, n, q⟩ := q
          cases e3
          exact ⟨a, dx, fs, e1, h, q⟩
        | _ => simp at e
      | _ => simp at e
  | _ => simp [insOf] at e
theorem sd_attr {x : Str} {e : Expr} {ce : E} {k : Nat} {pos : Pos} (c : Ctx G X W) (hcf : ∀ ci kc, P.cl ci = some kc → ClsF G k call ci kc) (hf : FldF G P x) (hr : Room (k + 1) X.A) (he : PE X e (TD G W P call ce)) (hab : attributeBase e x X.env (eval e X.env) = eval e X.env) :
    PE X (.Attribute e x pos) (TD G W P call (.attr ce x)) := by
  refine ⟨fun pins s σ H Q I h => ?_⟩
  refine attr_of hab (thn (he.run pins s σ H (fun v H1 => ∃ μ1 ex s1 d, Wd G μ1 ex s1 H1 ∧ Rep G μ1 (Mu μ1 s1 ex) H1 d v ∧ Fin G W σ μ1 ex s1 H1 (getAttr P call d x s1) Q) I ?_) fun u s1 hh => ?_)
  · obtain ⟨μ, ex, s0, env, w, r, f⟩ := h
    unfold ev at f
    exact td_of w r f fun v H1 d s1 μ1 e a1 rp r1 f1 => ⟨μ1, ex, s1, d, a1.wd, rp, f1⟩
  · obtain ⟨v, H1, I1, rv, μ1, ex, t1, d, w, rp, f⟩ := hh
    have viaIns : ∀ {ci gs}, insOf t1 d = some (ci, gs) → Fin G W σ μ1 ex t1 H1 (match P.cl ci with
        | some k => match k.props.lookup x with
          | some f => noErr (call f [d] t1)
          | none => ofO (fget x gs) t1
        | none => .stuck) Q → wpAny (model X.prog X.w) X.A (PySem.getAttr u x true) (EP X pins σ Q) X.xe s1 := by
      intro ci gs hi f
      obtain ⟨a, dx, fs, rfl, ha, rf⟩ := insOf_rep w rp hi
      cases rv
      cases hc : P.cl ci with
      | none => rw [hc] at f; exact f.elim
      | some kc =>
        rw [hc] at f
        obtain ⟨cl, prop, _, _⟩ := hcf ci kc hc
        cases hpr : kc.props.lookup x with
        | none =>
          simp only [hpr] at f
          obtain ⟨dd, e3, kk⟩ := fin_ofO f
          obtain ⟨v', h1, h2⟩ := RepF.get rf e3
          refine getattr_ok I1 ha (by rw [c.hK]; exact cl) (by rw [c.hK]; exact hf.ins ci kc hc hpr) h1 fun u' s' I' ru => ?_
          exact ⟨v', H1, I', ru, kk v' H1 μ1 (Aft.refl w) (Rep.tree h2)⟩
        | some g =>
          simp only [hpr] at f
          obtain ⟨⟨pp, hp⟩, hl, F, hb⟩ := prop x g hpr
          refine getprop_G c I1 ha cl hp F hr hb ?_
          refine ⟨by rw [hl]; rfl, μ1, ex, t1, [d], w, .cons rp .nil, ?_⟩
          cases hcall : call g [d] t1 with
          | stuck => rw [hcall] at f; exact f.elim
          | err a b c' => rw [hcall] at f; exact f.elim
          | ok d' s' => rw [hcall] at f; exact f
    unfold getAttr at f
    cases d with
    | exc ci gs =>
      simp only at f
      split at f
      · rename_i hex
        obtain ⟨fs0, hex⟩ := Option.isSome_iff_exists.mp hex
        obtain ⟨T, hno⟩ := hf.exc ci fs0 hex
        rw [← c.hK] at T hno
        obtain ⟨dd, e3, kk⟩ := fin_ofO f
        obtain ⟨a, od, rfl, ha, nm, rr⟩ := rp
        cases rv
        obtain ⟨⟨oe, vs, h1, hz, h3⟩, _⟩ := I1.hok a _ ha
        rcases rr with ⟨z, _⟩ | ⟨d1, fs, rfl, hd1, nd1, rf⟩
        · rw [z] at e3; simp [fget] at e3
        · obtain ⟨v', l, h2⟩ := RepF.get rf e3
          obtain ⟨mA, hns, hr'⟩ := (show ObjOk X.prog X.w H1 s1.heap d1 (.xd fs) from I1.hok d1 _ hd1)
          obtain ⟨od, ho, hl⟩ := lookIn_ns hns
          obtain ⟨u, hu, ru⟩ := RelO.some_of (v := v') (o := mA x) (by rw [← l]; exact hr' x)
          have J : PySem.W.InstAt s1.heap a oe (G.xa ci) (some od) := ⟨h1, hz.1, by unfold PySem.W.notCls; rw [h3] <;> rfl, by rw [hz.2]; exact ho⟩
          exact HandSPX.exc_get I1.kIn J T.ga T.gg T.exC (PySem.W.findObj_own T.hdC hno rfl (by rw [hl, hu])) (handed_of ru) ⟨v', H1, I1.tok _, ru, kk v' H1 μ1 (Aft.refl w) (Rep.tree h2)⟩
      · exact f.elim
    | _ =>
      simp only at f
      cases hi : insOf t1 _ with
      | none => rw [hi] at f; exact f.elim
      | some p =>
        obtain ⟨ci, gs⟩ := p
        rw [hi] at f
        exact viaIns hi f
end
end WS
set_option maxRecDepth 100000
set_option maxHeartbeats 2000000
/-! D13: isinstance. -/
namespace WS
open PySem PySem.Spec PyProof.Rows L2
section
variable {G : Lk} {X : Cx} {W : WX} {P : Pg} {call : Nat → List DV → M DV}
theorem isi_of {ca : E} {ts : List Ty} {σ : L2.St} {H : Hp} {Q : VK} (h : TD G W P call (.isi ca ts) σ H Q) : TD G W P call ca σ H fun x H1 => ∃ (M : Addr → Prop) (d : DV) (b : Bool), RepT G M H1 d x ∧ dvOk P d = true ∧ isAny P.up d ts = some b ∧ Q (.bl b) H1 ∧ ∀ p o, H1 p = none → Q (.bl b) (upd H1 p o) := by
  obtain ⟨μ, ex, s, env, w, r, f⟩ := h
  unfold ev at f
  refine td_of w r f fun v H1 d s1 μ1 e a1 rp r1 f1 => ?_
  obtain ⟨d3, e3, k⟩ := fin_ofO f1
  cases ht : treeOf s1 d with
  | none => rw [ht] at e3; cases e3
  | some t =>
    rw [ht] at e3
    simp only at e3
    split at e3
    · rename_i hd
      cases hb : isAny P.up t ts with
      | none => rw [hb] at e3; cases e3
      | some b =>
        rw [hb] at e3
        cases e3
        obtain ⟨M, q⟩ := treeOf_rep a1.wd rp ht
        exact ⟨M, t, b, q, hd, hb, k _ _ μ1 (Aft.refl a1.wd) rfl, fun p o hp => k _ _ μ1 (Aft.alloc a1.wd hp) rfl⟩
    · cases e3
theorem is_nosub {x : Str} (h : x = "isinstance") : x ≠ "__name__" ∧ (x == ("__debug__" : Str)) = false := by subst h; exact ⟨by decide, by decide⟩
theorem sd_isi1 {a T : Expr} {ca : E} {t : Ty} {p pos : Pos} (L : LnI G P) (c : Ctx G X W) (hg : Gl X "isinstance") (hm : G.mg "isinstance" = none) (ht : tyOk P t = true) (ha : PE X a (TD G W P call ca)) (hT : PE X T (tC (clW G t))) (hst : noStar [a, T] = true) :
    PE X (.Call (.Name "isinstance" p) [a, T] [] pos) (TD G W P call (.isi ca [t])) :=
  PE.imp (pe_callB (cr_is1 L c) hg (by rw [c.hm]; exact hm) (by decide +kernel) (pa_cons ha (pa_cons hT pa_nil (star_ok (noStar_tl hst))) (star_ok hst)) (by decide) (by decide) (star_ok hst) (star_any (noStar_tl hst))) fun σ H Q h => by
    obtain ⟨μ, ex, s, env, w, r, f⟩ := isi_of h
    refine ⟨μ, ex, s, env, w, r, f.mono fun v H1 ⟨M, d, b, q, hd, hb, k, _⟩ => ?_⟩
    refine ⟨v, t, M, d, b, rfl, q, hd, ht, ?_, k⟩
    unfold isAny at hb
    cases hi : isTy P.up d t with
    | none => rw [hi] at hb; cases hb
    | some bb =>
      rw [hi] at hb
      cases bb with
      | true => exact hb
      | false => exact hb
/-- several names of classes -/
structure PTys (G : Lk) (X : Cx) (es : List Expr) (ts : List Ty) : Prop where
  pa : ∃ t : TA, PA X es t ∧ ∀ σ H (Q : List V → Hp → Prop), Q (ts.map (clW G)) H → t σ H Q
theorem ptys_nil : PTys G X [] [] := ⟨tNil, pa_nil, fun _ _ _ h => h⟩
theorem ptys_cons {e : Expr} {es : List Expr} {t : Ty} {ts : List Ty} (h : PE X e (tC (clW G t))) (hr : PTys G X es ts) (hs : starEach (e :: es) X.env = (false, eval e X.env) :: starEach es X.env) : PTys G X (e :: es) (t :: ts) := by
  obtain ⟨u, h1, h2⟩ := hr.pa
  exact ⟨tCons (tC (clW G t)) u, pa_cons h h1 hs, fun σ H Q q => h2 σ H _ q⟩
theorem sd_isiT {a : Expr} {es : List Expr} {ca : E} {ts : List Ty} {k : Nat} {p tp pos : Pos} (L : LnI G P) (c : Ctx G X W) (hg : Gl X "isinstance") (hm : G.mg "isinstance" = none) (ht : ts.all (tyOk P) = true) (hl : ts.length ≤ 1000) (ha : PE X a (TD G W P call ca)) (hT : PTys G X es ts) (hst : noStar [a] = true) :
    PE X (.Call (.Name "isinstance" p) [a, .Tuple es k tp] [] pos) (TD G W P call (.isi ca ts)) := by
  obtain ⟨u, h1, h2⟩ := hT.pa
  have hst' : noStar [a, .Tuple es k tp] = true := by cases a <;> first | rfl | (simp [noStar] at hst)
  exact PE.imp (pe_callB (cr_isT L c) hg (by rw [c.hm]; exact hm) (by decide +kernel) (pa_cons ha (pa_cons (pe_tup h1) pa_nil rfl) (star_ok hst')) (by decide) (by decide) (star_ok hst') (star_any (noStar_tl hst'))) fun σ H Q h => by
    obtain ⟨μ, ex, s, env, w, r, f⟩ := isi_of h
    refine ⟨μ, ex, s, env, w, r, f.mono fun v H1 ⟨M, d, b, q, hd, hb, _, k⟩ => ?_⟩
    refine h2 σ H1 _ ⟨small_line (by rw [List.length_map]; exact hl), fun pp hp => ?_⟩
    exact ⟨v, ts, pp, M, d, b, rfl, upd_same, RepT.kp (Keep.alloc hp) d v q, hd, ht, hb, k pp _ hp⟩
end
end WS
set_option maxRecDepth 100000
set_option maxHeartbeats 2000000
/-! D14: what is walked. -/
namespace WS
open PySem PySem.Spec PyProof.Rows L2
/-- J walks q's items from a heap of (μ0, M0, H0) on -/
structure Wk (G : Lk) (J : It) (q : Sq) (μ0 : List Addr) (M0 : Addr → Prop) (H0 : Hp) : Prop where
  len : q.xs.length ≤ sizeLine
  go : ∀ i μ ex s H, Wd G μ ex s H → Keep M0 (Mu μ s ex) H0 H → (∀ (n : Nat) (a : Addr), μ0[n]? = some a → μ[n]? = some a) → q.ok s → i < q.xs.length → J.go i H
  stop : ∀ i μ ex s H, Wd G μ ex s H → Keep M0 (Mu μ s ex) H0 H → (∀ (n : Nat) (a : Addr), μ0[n]? = some a → μ[n]? = some a) → q.ok s → q.xs.length ≤ i → J.stop i H
  yld : ∀ i μ ex s H x H' d, Wd G μ ex s H → Keep M0 (Mu μ s ex) H0 H → (∀ (n : Nat) (a : Addr), μ0[n]? = some a → μ[n]? = some a) → q.ok s → q.xs[i]? = some d → J.yld i H x H' → Aft G μ ex s H μ s H' ∧ RepT G (Mu μ s ex) H' d x
def FinI (G : Lk) (W : WX) (σ : L2.St) (μ ex : List Addr) (s : S) (H : Hp) (r : Res Sq) (R : It → Hp → Prop) : Prop := match r with
  | .ok q s' => ∀ J H' μ', Aft G μ ex s H μ' s' H' → Wk G J q μ' (Mu μ' s' ex) H' → R J H'
  | .err c gs s' => ∀ cls dd H' μ', Aft G μ ex s H μ' s' H' → ErrR G (Mu μ' s' ex) H' c gs cls dd → W cls dd σ H'
  | .stuck => False
def TDi (G : Lk) (W : WX) (P : Pg) (call : Nat → List DV → M DV) (c : Sr) : TI := fun σ H R => ∃ μ ex s env, Wd G μ ex s H ∧ EnvR G μ (Mu μ s ex) H σ env ∧ FinI G W σ μ ex s H (evSr P call c env s) R
theorem PI.imp {X : Cx} {tg e : Expr} {t t' : TI} (h : PI X tg e t) (k : ∀ σ H R, t' σ H R → t σ H R) : PI X tg e t' := ⟨fun pins s σ H R I q => h.run pins s σ H R I (k σ H R q)⟩
section
variable {G : Lk} {X : Cx} {W : WX} {P : Pg} {call : Nat → List DV → M DV} {tg : Expr}
/-- of any kind -/
def iAny (K : PySem.W.Frag) (tl : TE) : TI := fun σ H R => tl σ H fun x H1 => (∃ a xs, x = .ref a ∧ SqL K H1 a xs ∧ (xs.length ≤ sizeLine → R (Itl K a) H1)) ∨ (∃ a xs, x = .ref a ∧ SqT K H1 a xs ∧ (xs.length ≤ sizeLine → R (Itt K a) H1)) ∨ (∃ z, x = .str z ∧ R (Its z) H1) ∨ ∃ a kvs, x = .ref a ∧ Rd H1 a (.dK kvs) ∧ ∀ o H2, (H1 a = some (.frz o (.dK kvs)) ∧ H2 = H1 ∨ H1 a = some (.dK kvs) ∧ H2 = upd H1 a (.frz o (.dK kvs))) → kvs.length ≤ sizeLine → R (Itk a o kvs) H2
theorem pi_any {l : Expr} {tl : TE} (hl : PE X l tl) : PI X tg l (iAny X.K tl) := by
  refine ⟨fun pins s σ H R I h => ?_⟩
  refine thn (hl.run pins s σ H _ I h) fun v s1 ⟨x, H1, I1, r1, q1⟩ => ?_
  rcases q1 with ⟨a, xs, e, hq, q⟩ | ⟨a, xs, e, hq, q⟩ | ⟨z, e, q⟩ | ⟨a, kvs, e, hq, q⟩
  · subst e
    cases r1
    obtain ⟨its, rv, p, hz⟩ := I1.list hq
    have hq' := q hz
    refine wpAny_pyIter_list p.isList ?_
    refine ⟨s1.heap.objs.size, [s1.heap.objs.size], _, _, H1, rfl, I1.kept (t' := s1.toks) fun b o e => Heap.get?_push_of_some _ e, turn_list a _, ⟨_, Heap.get?_push_size _ rfl, rfl, rfl⟩, fun b hb => ?_, hq'⟩
    have e : b = s1.heap.objs.size := by simpa using hb
    subst e
    exact I1.fpOk (Nat.le_refl _) (I1.hok.fresh (Nat.le_refl _))
  · subst e
    cases r1
    obtain ⟨its, rv, p, hz⟩ := I1.tuple hq
    have hq' := q hz
    refine wpAny_pyIter_tuple (show s1.heap.IsTuple a its.toArray from p) ?_
    refine ⟨s1.heap.objs.size, [s1.heap.objs.size], _, _, H1, rfl, I1.kept (t' := s1.toks) fun b o e => Heap.get?_push_of_some _ e, turn_tuple a _, ⟨_, Heap.get?_push_size _ rfl, rfl, rfl⟩, fun b hb => ?_, hq'⟩
    have e : b = s1.heap.objs.size := by simpa using hb
    subst e
    exact I1.fpOk (Nat.le_refl _) (I1.hok.fresh (Nat.le_refl _))
  · subst e
    obtain ⟨t, rfl⟩ := r1
    cases ha : z.cps.all (· < 128)
    · exact wpAny_pyIter_wide ha (pi_one (tk := s1.toks) I1 _ (turn_str _ z t "str_iterator" (.inr rfl)) ⟨_, Heap.get?_push_size _ rfl, rfl, rfl⟩ q)
    · exact wpAny_pyIter_ascii ha (pi_one (tk := s1.toks) I1 _ (turn_str _ z t "str_ascii_iterator" (.inl rfl)) ⟨_, Heap.get?_push_size _ rfl, rfl, rfl⟩ q)
  · subst e
    cases r1
    have hz := (dk_rd I1.hok hq).1
    have fin : ∀ o H2, Inv X pins σ H2 s1 → H2 a = some (.frz o (.dK kvs)) → R (Itk a o kvs) H2 → wpAny (model X.prog X.w) X.A (pyIter (.ref a)) (PIE X pins σ tg R) X.xe s1 := by
      intro o H2 I2 hd q
      obtain ⟨hs, hgd, hx, es, ep, vs, hdt, hsz, kv, hm⟩ := I2.frzK hd
      refine iter_keys hs hgd hx hdt (pi_one (tk := s1.toks) I2 _ (turn_keys _ hdt) ⟨_, Heap.get?_push_size _ rfl, rfl, ?_⟩ q)
      rw [hsz] <;> rfl
    rcases hq with hq | ⟨o, hq⟩
    · obtain ⟨o, I2⟩ := I1.lock hq (by simp [Mut])
      exact fin o _ I2 upd_same (q o _ (.inr ⟨hq, rfl⟩) hz)
    · exact fin o _ I1 hq (q o _ (.inl ⟨hq, rfl⟩) hz)
/-! ### the kinds -/
/-- a dict that is no cell is locked -/
theorem Aft.lock {μ ex : List Addr} {s : S} {H : Hp} {a : Addr} {o : Obj} {kvs : List (Key × V)} (w : Wd G μ ex s H) (h : H a = some (.dK kvs)) (n : ¬ Mu μ s ex a) : Aft G μ ex s H μ s (upd H a (.frz o (.dK kvs))) := by
  have k : Keep (Mu μ s ex) (Mu μ s ex) H (upd H a (.frz o (.dK kvs))) := by
    refine ⟨fun b u e _ _ nd => ?_, fun b ks e _ => ?_, fun b xs e => ?_, fun b u v e => ?_, fun b nb z => absurd z nb⟩
    · rw [upd_ne fun z => by rw [z, h] at e; cases e; exact nd _ rfl]; exact e
    · by_cases z : b = a
      · subst z
        rcases e with e | ⟨o', e⟩
        · rw [h] at e; cases e; exact .inr ⟨o, upd_same⟩
        · rw [h] at e; cases e
      · unfold Rd; rw [upd_ne z]; exact e
    · rw [upd_ne fun z => by rw [z, h] at e; cases e]; exact e
    · rw [upd_ne fun z => by rw [z, h] at e; cases e]; exact e
  have nx : ∀ b ∈ ex, b ≠ a := fun b hb z => n (z ▸ .inl hb)
  have ns : ∀ b, upd H a (.frz o (.dK kvs)) b = none → H b = none := fun b e => by
    by_cases z : b = a
    · rw [z, upd_same] at e; cases e
    · rw [upd_ne z] at e; exact e
  have nt : ∀ b ps, upd H a (.frz o (.dK kvs)) b = some (.tbl ps) → H b = some (.tbl ps) := fun b ps e => by
    by_cases z : b = a
    · rw [z, upd_same] at e; cases e
    · rw [upd_ne z] at e; exact e
  refine ⟨⟨k, fun _ _ e => e, fun b hb => upd_ne (nx b hb)⟩, w.kp (μ' := μ) k (fun m b c h1 h2 h3 => upd_ne fun z => n (z ▸ .inr ⟨m, c, h1, h2, h3⟩)) (tabs_write w.tabs (fun ps z => by rw [h] at z; cases z) fun φ z => by rw [h] at z; cases z) (fun b hb z => w.exH b hb (ns b z)) (fun b hb z => w.muH b hb (ns b z)) (fun b hb ps z => w.exT b hb ps (nt b ps z)) fun b hb ps z => w.muT b hb ps (nt b ps z)⟩
theorem keys_get {M : Addr → Prop} {H : Hp} : ∀ {ds : List (DV × DV)} {xs : List (Key × V)} {i : Nat} {d : DV} {k : Key} {v : V}, RepP G M H ds xs → (ds.map (·.1))[i]? = some d → xs[i]? = some (k, v) → d = keyDV k
  | [], _, i, _, _, _, _, h, _ => by simp at h
  | (p, u) :: ds, _, 0, _, _, _, ⟨k', x, r, e1, e2, h, t⟩, h1, h2 => by
    subst e1 e2
    cases h1
    cases h2
    rfl
  | (p, u) :: ds, _, i + 1, _, _, _, ⟨k', x, r, e1, e2, h, t⟩, h1, h2 => by
    subst e1 e2
    exact keys_get t h1 h2
theorem RepP.len {M : Addr → Prop} {H : Hp} : ∀ {ds : List (DV × DV)} {xs : List (Key × V)}, RepP G M H ds xs → ds.length = xs.length
  | [], _, h => by rw [show _ = [] from h]; rfl
  | (_, _) :: ds, _, ⟨k, x, r, e, _, _, q⟩ => by rw [e]; simp [RepP.len q]
theorem wk_keys {μ0 : List Addr} {M0 : Addr → Prop} {H0 : Hp} {a : Addr} {o : Obj} {ps : List (DV × DV)} {kvs : List (Key × V)} (h : H0 a = some (.frz o (.dK kvs))) (q : RepP G M0 H0 ps kvs) (hl : kvs.length ≤ sizeLine) : Wk G (Itk a o kvs) ⟨ps.map (·.1), none⟩ μ0 M0 H0 := by
  have el : (ps.map (·.1)).length = kvs.length := by rw [List.length_map, q.len]
  refine ⟨by show (ps.map (·.1)).length ≤ _; rw [el]; exact hl, fun i μ ex s H w k p _ hi => ?_, fun i μ ex s H w k p _ hi => ?_, fun i μ ex s H v H' d w k p _ hd y => ?_⟩
  · exact ⟨k.frzs _ _ _ h, by rw [← el]; exact hi⟩
  · exact ⟨k.frzs _ _ _ h, by rw [← el]; exact hi⟩
  · obtain ⟨e, kk, vv, h1, h2⟩ := y
    subst e h2
    have e := keys_get q hd h1
    subst e
    refine ⟨Aft.refl w, ?_⟩
    cases kk <;> rfl
theorem wk_str {x : Str} {μ0 : List Addr} {M0 : Addr → Prop} {H0 : Hp} (h : x.length ≤ LIM) : Wk G (Its x) ⟨signs x, none⟩ μ0 M0 H0 := by
  have hl : (signs x).length = x.cps.size := by simp [signs]
  refine ⟨by show (signs x).length ≤ _; rw [hl, ← LIM_eq]; exact h, fun i μ ex s H _ _ _ _ hi => ?_, fun i μ ex s H _ _ _ _ hi => ?_, fun i μ ex s H v H' d w _ _ _ hd y => ?_⟩
  · have hi : i < (signs x).length := hi
    rw [hl] at hi; exact hi
  · have hi : (signs x).length ≤ i := hi
    rw [hl] at hi; exact hi
  · obtain ⟨e, c, hc, ev⟩ := y
    subst e
    have hd : (signs x)[i]? = some d := hd
    have e2 : (signs x)[i]? = some (.str ⟨#[c]⟩) := by simp [signs, hc]
    rw [e2] at hd
    cases hd
    exact ⟨Aft.refl w, ev⟩
theorem wk_rng {lo : Int} {n : Nat} {μ0 : List Addr} {M0 : Addr → Prop} {H0 : Hp} (h : n ≤ sizeLine) : Wk G (Itr lo n) ⟨(List.range n).map fun k => .int (lo + (k : Nat)), none⟩ μ0 M0 H0 := by
  refine ⟨by show ((List.range n).map _).length ≤ _; simpa using h, fun i μ ex s H _ _ _ _ hi => ?_, fun i μ ex s H _ _ _ _ hi => ?_, fun i μ ex s H v H' d w _ _ _ hd y => ?_⟩
  · have hi : i < ((List.range n).map fun k => DV.int (lo + (k : Nat))).length := hi
    show i < n
    simpa using hi
  · have hi : ((List.range n).map fun k => DV.int (lo + (k : Nat))).length ≤ i := hi
    show n ≤ i
    simpa using hi
  · obtain ⟨e, ev⟩ := y
    subst e
    have hd : ((List.range n).map fun k => DV.int (lo + (k : Nat)))[i]? = some d := hd
    have hi : i < n := by
      have := (List.getElem?_eq_some_iff.mp hd).1
      simpa using this
    have e2 : ((List.range n).map fun k => DV.int (lo + (k : Nat)))[i]? = some (.int (lo + i)) := by simp [hi]
    rw [e2] at hd
    cases hd
    exact ⟨Aft.refl w, ev⟩
theorem wk_seq {J : It} {q : Sq} {μ0 : List Addr} {M0 : Addr → Prop} {H0 : Hp} {a : Addr}
    (hJ : J = Itl G.K a ∧ (∀ μ ex s H, Wd G μ ex s H → Keep M0 (Mu μ s ex) H0 H → (∀ (n : Nat) (a : Addr), μ0[n]? = some a → μ[n]? = some a) → q.ok s → ∃ ys, SqL G.K H a ys ∧ RepL G (Mu μ s ex) H q.xs ys) ∨
      J = Itt G.K a ∧ (∀ μ ex s H, Wd G μ ex s H → Keep M0 (Mu μ s ex) H0 H → (∀ (n : Nat) (a : Addr), μ0[n]? = some a → μ[n]? = some a) → q.ok s → ∃ ys, SqT G.K H a ys ∧ RepL G (Mu μ s ex) H q.xs ys)) (hl : q.xs.length ≤ sizeLine) : Wk G J q μ0 M0 H0 := by
  rcases hJ with ⟨rfl, hJ⟩ | ⟨rfl, hJ⟩
  all_goals
    refine ⟨hl, fun i μ ex s H w k p o hi => ?_, fun i μ ex s H w k p o hi => ?_, fun i μ ex s H v H' d w k p o hd y => ?_⟩
    · obtain ⟨ys, hy, r⟩ := hJ μ ex s H w k p o
      have := r.len
      exact ⟨ys, ys[i]'(by omega), hy, List.getElem?_eq_getElem _⟩
    · obtain ⟨ys, hy, r⟩ := hJ μ ex s H w k p o
      have := r.len
      exact ⟨ys, hy, by omega⟩
    · obtain ⟨ys, hy, r⟩ := hJ μ ex s H w k p o
      obtain ⟨e, y⟩ := y
      subst e
      obtain ⟨z, hz, rz⟩ := r.get hd
      have e2 := y ys hy
      rw [hz] at e2
      cases e2
      exact ⟨Aft.refl w, rz⟩
theorem fini_err {σ : L2.St} {H : Hp} {μ ex : List Addr} {s : S} {m : Res DV} {f : DV → S → Res Sq} {R : It → Hp → Prop} {Q : VK} (h : FinI G W σ μ ex s H (m.bind f) R)
    (k : ∀ d s', m = .ok d s' → ∀ v H' μ', Aft G μ ex s H μ' s' H' → Rep G μ' (Mu μ' s' ex) H' d v → FinI G W σ μ' ex s' H' (f d s') R → Q v H') : Fin G W σ μ ex s H m Q := by
  cases m with
  | ok d s' => exact fun v H' μ' a r => k d s' rfl v H' μ' a r (by
      have h : FinI G W σ μ ex s H (f d s') R := h
      cases hf : f d s' with
      | ok q s2 => rw [hf] at h; exact fun J H2 μ2 a2 w2 => h J H2 μ2 (a.trans a2) w2
      | err c gs s2 => rw [hf] at h; exact fun cls dd H2 μ2 a2 w2 => h cls dd H2 μ2 (a.trans a2) w2
      | stuck => rw [hf] at h; exact h)
  | err c gs s' => exact h
  | stuck => exact h
theorem si_val {e : Expr} {ce : E} (c : Ctx G X W) (he : PE X e (TD G W P call ce)) : PI X tg e (TDi G W P call (.val ce)) := by
  refine PI.imp (pi_any he) fun σ H R h => ?_
  obtain ⟨μ, ex, s, env, w, r, f⟩ := h
  rw [c.hK]
  unfold evSr at f
  refine ⟨μ, ex, s, env, w, r, fini_err f fun d s1 e1 v H1 μ1 a1 rp f1 => ?_⟩
  have seq : ∀ xs, (∀ n, d ≠ .loc n) → (∀ x, d ≠ .str x) → seqOf s1 d = some xs → FinI G W σ μ1 ex s1 H1 (.ok ⟨xs, none⟩ s1) R → (∃ a ys, v = .ref a ∧ SqL G.K H1 a ys ∧ (ys.length ≤ sizeLine → R (Itl G.K a) H1)) ∨ (∃ a ys, v = .ref a ∧ SqT G.K H1 a ys ∧ (ys.length ≤ sizeLine → R (Itt G.K a) H1)) := by
    intro xs nl nst hs k
    have k : ∀ J H' μ', Aft G μ1 ex s1 H1 μ' s1 H' → Wk G J ⟨xs, none⟩ μ' (Mu μ' s1 ex) H' → R J H' := k
    cases d with
    | tup zs =>
      obtain ⟨a, ys, e1, h, q⟩ := rp
      have e2 : zs = xs := by simpa [seqOf] using hs
      subst e2
      refine .inr ⟨a, ys, e1, h, fun hl => k _ _ μ1 (Aft.refl a1.wd) (wk_seq (a := a) (.inr ⟨rfl, fun μ ex s H w kp _ _ => ⟨ys, SqT.kp kp h, RepL.kp kp zs ys q⟩⟩) (by show zs.length ≤ _; rw [q.len]; exact hl))⟩
    | scr ns =>
      obtain ⟨a, e1, h⟩ := rp
      have e2 : ns.map DV.int = xs := by simpa [seqOf] using hs
      subst e2
      refine .inl ⟨a, _, e1, h.sq, fun hl => k _ _ μ1 (Aft.refl a1.wd) (wk_seq (a := a) (.inl ⟨rfl, fun μ ex s H w kp _ _ => ⟨_, (SqF.kp kp h).sq, RepL.ints ns⟩⟩) (by show (ns.map DV.int).length ≤ _; simpa using hl))⟩
    | lst zs =>
      obtain ⟨a, ys, e1, h, n, q⟩ := rp
      have e2 : zs = xs := by simpa [seqOf, listOf] using hs
      subst e2
      refine .inl ⟨a, ys, e1, SqL.of h, fun hl => k _ _ μ1 (Aft.refl a1.wd) (wk_seq (a := a) (.inl ⟨rfl, fun μ ex s H w kp _ _ => ⟨ys, SqL.of (kp.keep _ _ h n (fun ps z => by cases z) (fun ps z => by cases z)), RepL.kp kp zs ys q⟩⟩) (by show zs.length ≤ _; rw [q.len]; exact hl))⟩
    | loc n => exact absurd rfl (nl n)
    | _ => simp [seqOf, listOf] at hs
  cases d with
  | str x =>
    simp only at f1
    split at f1
    · rename_i hx
      exact .inr (.inr (.inl ⟨x, rp, f1 _ _ μ1 (Aft.refl a1.wd) (wk_str hx)⟩))
    · exact f1.elim
  | loc n =>
    simp only at f1
    cases hs : listOf s1 (.loc n) with
    | none => rw [hs] at f1; exact f1.elim
    | some xs =>
      rw [hs] at f1
      obtain ⟨a, e2, hμ⟩ := id rp
      obtain ⟨b, ys, e3, hb, q⟩ := listOf_rep a1.wd rp hs
      rw [e2] at e3
      cases e3
      refine .inl ⟨a, ys, e2, SqL.of hb, fun hl => f1 _ _ μ1 (Aft.refl a1.wd) (wk_seq (a := a) (.inl ⟨rfl, fun μ ex s H w kp pre ok => ?_⟩) (by show xs.length ≤ _; rw [q.len]; exact hl))⟩
      obtain ⟨b, zs, e4, hb, q⟩ := listOf_rep (v := .ref a) w (d := .loc n) ⟨a, rfl, pre n a hμ⟩ ok
      cases e4
      exact ⟨zs, SqL.of hb, q⟩
  | dct ps =>
    obtain ⟨a, kvs, e2, h, n, q⟩ := rp
    refine .inr (.inr (.inr ⟨a, kvs, e2, h, fun o H2 hh hl => ?_⟩))
    have f1 : ∀ J H' μ', Aft G μ1 ex s1 H1 μ' s1 H' → Wk G J ⟨ps.map (·.1), none⟩ μ' (Mu μ' s1 ex) H' → R J H' := f1
    rcases hh with ⟨hh, rfl⟩ | ⟨hh, rfl⟩
    · exact f1 _ _ μ1 (Aft.refl a1.wd) (wk_keys hh q hl)
    · have al := Aft.lock (o := o) a1.wd hh n
      exact f1 _ _ μ1 al (wk_keys upd_same (RepP.kp al.evo.kp ps kvs q) hl)
  | _ =>
    simp only at f1
    split at f1
    · rename_i xs hs
      rcases seq xs (fun n z => by cases z) (fun n z => by cases z) hs f1 with z | z
      · exact .inl z
      · exact .inr (.inl z)
    · exact f1.elim
/-! ### enumerate of a tuple -/
theorem enumT_new (tp : Addr) (its : Array Value) (n : Nat) (dd : Option Addr) (sl : Array (Option Value)) :
    Meets (Builtin.«enumerate.__new__» ⟨[.type "enumerate", .ref tp], []⟩) (fun _ R sh => sh.heap.get? tp = some { cls := .type "tuple", dict := dd, data := .seq its n, slots := sl } ∧
      R (.ok (.ret (.ref (sh.heap.push { cls := .type "tuple_iterator", data := .fields #[.ref tp, .int 0 0] }).objs.size)))
        { sh with heap := (sh.heap.push { cls := .type "tuple_iterator", data := .fields #[.ref tp, .int 0 0] }).push { cls := .type "enumerate", data := .fields #[.none, .bool false, .ref sh.heap.objs.size, rawInt 0, .none, .none] } }) :=
  .of_wp fun prog w A R sh hyp => by
    obtain ⟨hp, g, d, tk, os⟩ := sh; obtain ⟨at_, fin⟩ := hyp
    have sub := sub_enumerate
    have isT : Heap.IsTuple (Shared.heap ⟨hp, g, d, tk, os⟩) tp its := ⟨_, at_, rfl, n, rfl⟩
    wp_walk using AutoSeq1.wpAny_loadPart' at_
    refine wpAny_stack_any fun st => wpAny_pure ?_
    split
    · rename_i cls _ _ _ _ _
      cases (cls == Value.type "enumerate") <;> (wp_walk using AutoSeq1.wpAny_loadPart' at_, wpAny_pyIter_tuple isT; exact ⟨_, rfl, fin⟩)
    · (wp_walk using AutoSeq1.wpAny_loadPart' at_, wpAny_pyIter_tuple isT); exact ⟨_, rfl, fin⟩
theorem enumT_call {prog : Program} {w : World} {A : Around} {Er : Value → Shared → Prop} {sh : Shared} {tp : Addr} {its : Array Value} {Q : Value → Shared → Prop} (hT : sh.heap.IsTuple tp its)
    (k : ∀ h', IsEnum h' (sh.heap.objs.size + 1) sh.heap.objs.size 0 .none → h'.IsTupleIter sh.heap.objs.size tp 0 → h'.objs.size = sh.heap.objs.size + 2 → (∀ b o, sh.heap.get? b = some o → h'.get? b = some o) → Q (.ref (sh.heap.objs.size + 1)) { sh with heap := h' }) :
    wpAny (model prog w) A (PySem.call (.type "enumerate") [.ref tp]) Q Er sh := by
  obtain ⟨⟨oc, od, dt, sl⟩, at_, hc, n, hd⟩ := hT
  have hc : oc = .type "tuple" := hc
  have hd : dt = .seq its n := hd
  subst hc hd
  refine callType_new F.called_enumerate (by decide) (F.typeCall_enumerate_1 _) (F.newCall_enumerate_1 _) (fun ob => F.args_object_init_2 ob _) F.entry_enumerate_new (enumT_new tp its n od sl) ⟨at_, ?_⟩
  have sz : (sh.heap.push { cls := .type "tuple_iterator", data := .fields #[.ref tp, .int 0 0] }).objs.size = sh.heap.objs.size + 1 := Heap.size_push ..
  show _ ∧ _
  rw [sz]
  have isE : IsEnum ((sh.heap.push { cls := .type "tuple_iterator", data := .fields #[.ref tp, .int 0 0] }).push { cls := .type "enumerate", data := .fields #[.none, .bool false, .ref sh.heap.objs.size, rawInt 0, .none, .none] }) (sh.heap.objs.size + 1) sh.heap.objs.size 0 .none := by
    have q := Heap.get?_push_size (sh.heap.push { cls := .type "tuple_iterator", data := .fields #[.ref tp, .int 0 0] }) (o := { cls := .type "enumerate", data := .fields #[.none, .bool false, .ref sh.heap.objs.size, rawInt 0, .none, .none] }) rfl
    rw [sz] at q
    exact q
  exact ⟨⟨_, isE, rfl⟩, k _ isE ⟨_, Heap.get?_push_of_some _ (Heap.get?_push_size _ rfl), rfl, rfl⟩ (by rw [Heap.size_push, sz]) fun b o x => Heap.get?_push_of_some _ (Heap.get?_push_of_some _ x)⟩
/-- the tuple's items, each in a new pair -/
def IteT (K : PySem.W.Frag) (a : Addr) (xs : List V) : It :=
  ⟨fun i H => SqT K H a xs ∧ i < xs.length, fun i H v H' => ∃ T x, v = .ref T ∧ H T = none ∧ H' = upd H T (.tup [.int (i : Nat), x]) ∧ xs[i]? = some x, fun i H => SqT K H a xs ∧ xs.length ≤ i⟩
theorem turn_enumT {Pr : Program} {w : World} {K : PySem.W.Frag} {elts : List Expr} {kk : Nat} {tpos : Pos} (a e it : Addr) (xs : List V) :
    Turn Pr w K (.Tuple elts kk tpos) (IteT K a xs) [e, it] e (fun i h => (∃ old, IsEnum h e it ((i : Nat) : Int) old) ∧ (h.IsTupleIter it a i ∧ e ≠ it) ∧ i ≤ xs.length) where
  mem := by simp
  obj := fun i h tn b hb => by
    obtain ⟨⟨old, isE⟩, ⟨⟨o, ho, hc, hd⟩, _⟩, _⟩ := tn
    rcases (show b = e ∨ b = it by simpa using hb) with rfl | rfl
    · exact ⟨_, isE, fun v q => nomatch q⟩
    · exact ⟨o, ho, fun v q => by rw [hd] at q; cases q⟩
  keep := fun i h h' tn k => by
    obtain ⟨⟨old, isE⟩, ⟨itr, ne⟩, le⟩ := tn
    exact ⟨⟨old, k e (by simp) _ isE⟩, ⟨itr.at fun o q => k it (by simp) o q, ne⟩, le⟩
  item := by
    intro X hP hw hK hc i pins s σ H Er I fp tn go
    subst hP hw hK
    obtain ⟨⟨old, isE⟩, ⟨itr, ne⟩, le⟩ := tn
    obtain ⟨sq, lt⟩ := go
    obtain ⟨its, rv, isT, hz⟩ := I.tuple sq
    have hx : xs[i]? = some xs[i] := List.getElem?_eq_getElem lt
    have hl := rv.length
    have elt : e < s.heap.objs.size := Heap.lt_size isE
    have ilt : it < s.heap.objs.size := by obtain ⟨_, q, _⟩ := itr; exact Heap.lt_size q
    have nea : a ≠ it := by
      obtain ⟨o, ho, hc, hd⟩ := itr
      obtain ⟨o2, ho2, hc2, _⟩ := isT
      intro z
      rw [z, ho] at ho2
      cases ho2
      rw [hc] at hc2
      exact absurd (Value.type.inj hc2) (by decide)
    have nee : a ≠ e := by
      obtain ⟨o2, ho2, hc2, _⟩ := isT
      intro z
      rw [z, show s.heap.get? e = some _ from isE] at ho2
      cases ho2
      exact absurd (Value.type.inj hc2) (by decide)
    refine wpAny_pyNext_enum_itemC (Draws.tuple (A := X.A.in1) (I.ok.hd hc) it a nea its.toArray) isE ⟨itr, isT⟩ (by simp; omega) ne (by simp [ne, Ne.symm nee]) fun u h' tk hu ho st' hT hsz hk => ?_
    have hu2 : its[i]? = some u := by simpa using hu
    have ru : RelV xs[i] u := by
      obtain ⟨u2, q1, q2⟩ := rv.get hx
      rw [hu2] at q1
      cases q1
      exact q2
    refine ⟨_, rfl, wpAny_letOwnedTupleGo_enum (s := { s with heap := h', toks := tk + 1 }) ho fun h2 isE2 sb => ?_⟩
    have hT2 : h2.get? s.heap.objs.size = some { cls := .type "tuple", data := .seq #[.int i tk, u] } := (sb.2 _ (Nat.ne_of_gt elt)).trans hT
    have new : ObjOk X.prog X.w (upd H s.heap.objs.size (.tup [.int (i : Nat), xs[i]])) h2 s.heap.objs.size (.tup [.int (i : Nat), xs[i]]) :=
      ⟨by show 2 ≤ sizeLine; decide, [.int i tk, u], .cons ⟨_, rfl⟩ (.cons ru .nil), ⟨_, hT2, rfl, _, rfl⟩⟩
    have I2 : Inv X pins σ (upd H s.heap.objs.size (.tup [.int (i : Nat), xs[i]])) { s with heap := h2, toks := tk + 1 } :=
      I.turnedNew (ch := [e, it]) (fun b ob hb q => (sb.2 b (fun z => hb (by simp [z]))).trans (hk b ob (fun z => hb (by simp [z])) (fun z => hb (by simp [z])) q)) fp (Nat.le_refl _) new
    refine ⟨.ref s.heap.objs.size, _, I2, rfl, ⟨_, xs[i], rfl, I.hok.fresh (Nat.le_refl _), rfl, hx⟩, ⟨⟨u, ?_⟩, ⟨st'.1.at fun o q => (sb.2 it (Ne.symm ne)).trans q, ne⟩, lt⟩, fun b hb => ?_⟩
    · rw [show ((i + 1 : Nat) : Int) = (i : Int) + 1 by omega]
      exact isE2
    · have hb' : b < s.heap.objs.size := by
        rcases (show b = e ∨ b = it by simpa using hb) with rfl | rfl
        · exact elt
        · exact ilt
      rw [upd_ne (Nat.ne_of_lt hb')]
      exact (fp b hb).1
  done := by
    intro X hP hw hK hc i pins s σ H Er I fp tn stop
    subst hP hw hK
    obtain ⟨⟨old, isE⟩, ⟨itr, ne⟩, le⟩ := tn
    obtain ⟨sq, ge⟩ := stop
    obtain ⟨its, rv, isT, hz⟩ := I.tuple sq
    have hl := rv.length
    obtain ⟨f0, f1, f2, f3, f4, f5⟩ := fp it (by simp)
    have nea : a ≠ it := by
      obtain ⟨o, ho, hc, hd⟩ := itr
      obtain ⟨o2, ho2, hc2, _⟩ := isT
      intro z
      rw [z, ho] at ho2
      cases ho2
      rw [hc] at hc2
      exact absurd (Value.type.inj hc2) (by decide)
    have ei : i = its.toArray.size := by simp; omega
    refine wpAny_pyNext_enum_endD (Draws.tuple (A := X.A.in1) (I.ok.hd hc) it a nea its.toArray) isE (by rw [← ei]; exact ⟨itr, isT⟩) fun h' eb => ⟨rfl, I.turned (t' := s.toks) (fun b o hb q => eb b o hb q) f0 f1 f3 f4 f5⟩
  self := fun A i s Q Er tn h => let ⟨⟨_, isE⟩, _⟩ := tn; wpAny_pyIter_enum isE h
/-- enumerate(e), e a list or a tuple -/
def iEnumA (K : PySem.W.Frag) (ta : TA) : TI := fun σ H R => ta σ H fun vs H1 => (∃ a xs, vs = [.ref a] ∧ SqL K H1 a xs ∧ R (Ite K a) H1) ∨ ∃ a xs, vs = [.ref a] ∧ SqT K H1 a xs ∧ R (IteT K a xs) H1
theorem pi_enumA {e : Expr} {ta : TA} {p pos tpos : Pos} {elts : List Expr} {kk : Nat} (hg : Gl X "enumerate") (hm : X.mg "enumerate" = none) (ha : PA X [e] ta) (hs : starEach [e] X.env = [(false, eval e X.env)]) :
    PI X (.Tuple elts kk tpos) (.Call (.Name "enumerate" p) [e] [] pos) (iEnumA X.K ta) := by
  refine ⟨fun pins s σ H R I h => ?_⟩
  refine Call_ (ld_blt I hg hm boot_enumerate (PyProof.Rows.callWith_type1 (thn (ha.run pos pins s σ H _ I h) fun us s1 ⟨vs, H1, I1, r1, q1⟩ => ?_) hs rfl))
  have fpo : ∀ b ∈ [s1.heap.objs.size + 1, s1.heap.objs.size], FpOk X pins H1 b := fun b hb => by
    have le : s1.heap.objs.size ≤ b := by
      rcases (show b = s1.heap.objs.size + 1 ∨ b = s1.heap.objs.size by simpa using hb) with rfl | rfl
      · exact Nat.le_succ _
      · exact Nat.le_refl _
    exact I1.fpOk le (I1.hok.fresh le)
  rcases q1 with ⟨a, xs, rfl, sq, q⟩ | ⟨a, xs, rfl, sq, q⟩
  · obtain ⟨u, rfl, rx⟩ := vals1 r1
    cases rx
    obtain ⟨its, rv, pl, hz⟩ := I1.list sq
    refine call_enumerate_list pl.isList fun h' isE itr hsz hk => wpAny_pyIter_enum isE ?_
    exact ⟨s1.heap.objs.size + 1, [s1.heap.objs.size + 1, s1.heap.objs.size], _, _, H1, rfl, I1.kept (t' := s1.toks) hk, turn_enum a (s1.heap.objs.size + 1) s1.heap.objs.size, ⟨⟨.none, isE⟩, itr, Nat.succ_ne_self _⟩, fpo, q⟩
  · obtain ⟨u, rfl, rx⟩ := vals1 r1
    cases rx
    obtain ⟨its, rv, pl, hz⟩ := I1.tuple sq
    refine enumT_call pl fun h' isE itr hsz hk => wpAny_pyIter_enum isE ?_
    exact ⟨s1.heap.objs.size + 1, [s1.heap.objs.size + 1, s1.heap.objs.size], _, _, H1, rfl, I1.kept (t' := s1.toks) hk, turn_enumT a (s1.heap.objs.size + 1) s1.heap.objs.size xs, ⟨⟨.none, isE⟩, ⟨itr, Nat.succ_ne_self _⟩, Nat.zero_le _⟩, fpo, q⟩
theorem st1 {e : Expr} {env : PySem.Env} (h : noStar [e] = true) : starEach [e] env = [(false, eval e env)] := star_ok h
theorem si_range {e : Expr} {ce : E} {p pos : Pos} (c : Ctx G X W) (hg : Gl X "range") (hm : G.mg "range" = none) (he : PE X e (TD G W P call ce)) (hst : noStar [e] = true) : PI X tg (.Call (.Name "range" p) [e] [] pos) (TDi G W P call (.range ce)) := by
  refine PI.imp (pi_range1 hg (by rw [c.hm]; exact hm) (pa_cons he pa_nil (star_ok hst)) (st1 hst)) fun σ H R h => ?_
  obtain ⟨μ, ex, s, env, w, r, f⟩ := h
  unfold evSr at f
  refine ⟨μ, ex, s, env, w, r, fini_err f fun d s1 e1 v H1 μ1 a1 rp f1 => ?_⟩
  cases d with
  | int j =>
    simp only at f1
    split at f1
    · rename_i hj
      refine ⟨j, by rw [show v = V.int j from rp], hj.1, by omega, f1 _ _ μ1 (Aft.refl a1.wd) ?_⟩
      have := wk_rng (G := G) (lo := 0) (n := j.toNat) (μ0 := μ1) (M0 := Mu μ1 s1 ex) (H0 := H1) (by rw [← LIM_eq]; unfold LIM; omega)
      simpa [rangeL] using this
    · exact f1.elim
  | _ => exact f1.elim
theorem si_range2 {e e' : Expr} {ce ce' : E} {p pos : Pos} (c : Ctx G X W) (hg : Gl X "range") (hm : G.mg "range" = none) (he : PE X e (TD G W P call ce)) (he' : PE X e' (TD G W P call ce')) (hst : noStar [e, e'] = true) : PI X tg (.Call (.Name "range" p) [e, e'] [] pos) (TDi G W P call (.range2 ce ce')) := by
  refine PI.imp (pi_range2 hg (by rw [c.hm]; exact hm) (pa_cons he (pa_cons he' pa_nil (star_ok (noStar_tl hst))) (star_ok hst)) (by rw [star_ok hst, star_ok (noStar_tl hst)]; rfl) (st1 (noStar_tl hst))) fun σ H R h => ?_
  obtain ⟨μ, ex, s, env, w, r, f⟩ := h
  unfold evSr at f
  refine ⟨μ, ex, s, env, w, r, fini_err f fun d s1 e1 v H1 μ1 a1 rp f1 => ?_⟩
  refine ⟨μ1, ex, s1, env, a1.wd, r.evo a1.evo, fini_err f1 fun d' s2 e2 v' H2 μ2 a2 rp' f2 => ?_⟩
  cases d with
  | int i =>
    cases d' with
    | int j =>
      simp only at f2
      split at f2
      · rename_i hj
        refine ⟨i, j, by rw [show v = V.int i from rp, show v' = V.int j from rp'], ⟨hj.1, hj.2.1, hj.2.2.1, hj.2.2.2.1⟩, f2 _ _ μ2 (Aft.refl a2.wd) (wk_rng (by rw [← LIM_eq]; unfold LIM; omega))⟩
      · exact f2.elim
    | _ => exact f2.elim
  | _ => exact f2.elim
theorem si_enum {e : Expr} {ce : E} {p pos tpos : Pos} {elts : List Expr} {kk : Nat} (c : Ctx G X W) (hg : Gl X "enumerate") (hm : G.mg "enumerate" = none) (he : PE X e (TD G W P call ce)) (hst : noStar [e] = true) : PI X (.Tuple elts kk tpos) (.Call (.Name "enumerate" p) [e] [] pos) (TDi G W P call (.enum ce)) := by
  refine PI.imp (pi_enumA hg (by rw [c.hm]; exact hm) (pa_cons he pa_nil (star_ok hst)) (st1 hst)) fun σ H R h => ?_
  rw [c.hK]
  obtain ⟨μ, ex, s, env, w, r, f⟩ := h
  unfold evSr at f
  refine ⟨μ, ex, s, env, w, r, fini_err f fun d s1 e1 v H1 μ1 a1 rp f1 => ?_⟩
  by_cases htu : ∃ xs, d = .tup xs
  · obtain ⟨xs, rfl⟩ := htu
    simp only at f1
    split at f1
    rotate_left
    · exact f1.elim
    rename_i hlen
    obtain ⟨a, ys, e2, hq, q⟩ := rp
    refine .inr ⟨a, ys, by rw [e2], hq, f1 _ _ μ1 (Aft.refl a1.wd) ?_⟩
    have hyl := q.len
    have hl2 : ((xs.zipIdx).map fun p => DV.tup [.int (p.2 : Nat), p.1]).length = xs.length := by simp
    refine ⟨by rw [hl2, ← LIM_eq]; exact hlen, fun i μ ex s H w k p o hi => ?_, fun i μ ex s H w k p o hi => ?_, fun i μ ex s H v H' d' w k p o hd y => ?_⟩
    · rw [hl2] at hi
      exact ⟨SqT.kp k hq, by omega⟩
    · rw [hl2] at hi
      exact ⟨SqT.kp k hq, by omega⟩
    · obtain ⟨T, x, ev, hT, eH, y⟩ := y
      subst eH
      subst ev
      have hi : i < xs.length := by
        have := (List.getElem?_eq_some_iff.mp hd).1
        simpa using this
      have e2 : ((xs.zipIdx).map fun p => DV.tup [.int (p.2 : Nat), p.1])[i]? = some (.tup [.int (i : Nat), xs[i]]) := by simp [hi]
      simp only at hd
      rw [e2] at hd
      cases hd
      obtain ⟨z, hz', rz'⟩ := (RepL.kp k _ _ q).get (List.getElem?_eq_getElem hi)
      rw [hz'] at y
      cases y
      exact ⟨Aft.alloc w hT, new_tup hT ⟨_, _, rfl, rfl, _, _, rfl, rz', rfl⟩⟩
  have f1 : FinI G W σ μ1 ex s1 H1 (match (generalizing := false) listOf s1 d with
      | some xs => if xs.length ≤ LIM then .ok ⟨(xs.zipIdx).map fun p => .tup [.int (p.2 : Nat), p.1], (match (generalizing := false) d with
        | .loc n => some (n, xs)
        | _ => none)⟩ s1 else .stuck
      | none => .stuck) R := by
    cases d <;> first | exact f1 | exact absurd ⟨_, rfl⟩ htu
  cases hs : listOf s1 d with
  | none => rw [hs] at f1; exact f1.elim
  | some xs =>
    rw [hs] at f1
    simp only at f1
    split at f1
    rotate_left
    · exact f1.elim
    rename_i hlen
    obtain ⟨a, ys, e2, hb, q⟩ := listOf_rep a1.wd rp hs
    refine .inl ⟨a, ys, by rw [e2], SqL.of hb, f1 _ _ μ1 (Aft.refl a1.wd) ?_⟩
    have key : ∀ μ ex' s H, Wd G μ ex' s H → Keep (Mu μ1 s1 ex) (Mu μ s ex') H1 H → (∀ (n : Nat) (a : Addr), μ1[n]? = some a → μ[n]? = some a) → Sq.ok ⟨(xs.zipIdx).map fun p => .tup [.int (p.2 : Nat), p.1], (match (generalizing := false) d with
      | .loc n => some (n, xs)
      | _ => none)⟩ s → ∃ zs, SqL G.K H a zs ∧ RepL G (Mu μ s ex') H xs zs := by
      intro μ ex' s H w kp pre ok
      cases d with
      | lst zs =>
        obtain ⟨a', ys', e1', h, n, q'⟩ := rp
        rw [e1'] at e2
        cases e2
        have e3 : zs = xs := by simpa [listOf] using hs
        subst e3
        exact ⟨ys', SqL.of (kp.keep _ _ h n (fun ps z => by cases z) (fun ps z => by cases z)), RepL.kp kp zs ys' q'⟩
      | loc n =>
        obtain ⟨a', e1', hμ⟩ := rp
        rw [e1'] at e2
        cases e2
        obtain ⟨b, zs, e4, hb, q⟩ := listOf_rep (v := .ref a) w (d := .loc n) ⟨a, rfl, pre n a hμ⟩ ok
        cases e4
        exact ⟨zs, SqL.of hb, q⟩
      | _ => simp [listOf] at hs
    have hl2 : ((xs.zipIdx).map fun p => DV.tup [.int (p.2 : Nat), p.1]).length = xs.length := by simp
    refine ⟨by rw [hl2, ← LIM_eq]; exact hlen, fun i μ ex s H w k p o hi => ?_, fun i μ ex s H w k p o hi => ?_, fun i μ ex s H v H' d' w k p o hd y => ?_⟩
    · obtain ⟨zs, hz, rz⟩ := key μ ex s H w k p o
      have := rz.len
      rw [hl2] at hi
      exact ⟨zs, zs[i]'(by omega), hz, List.getElem?_eq_getElem _⟩
    · obtain ⟨zs, hz, rz⟩ := key μ ex s H w k p o
      have := rz.len
      rw [hl2] at hi
      exact ⟨zs, hz, by omega⟩
    · obtain ⟨zs, hz, rz⟩ := key μ ex s H w k p o
      obtain ⟨T, x, ev, hT, eH, y⟩ := y
      subst eH
      subst ev
      have hi : i < xs.length := by
        have := (List.getElem?_eq_some_iff.mp hd).1
        simpa using this
      have e2 : ((xs.zipIdx).map fun p => DV.tup [.int (p.2 : Nat), p.1])[i]? = some (.tup [.int (i : Nat), xs[i]]) := by simp [hi]
      simp only at hd
      rw [e2] at hd
      cases hd
      obtain ⟨z, hz', rz'⟩ := rz.get (List.getElem?_eq_getElem hi)
      have e3 := y zs hz
      rw [hz'] at e3
      cases e3
      exact ⟨Aft.alloc w hT, new_tup hT ⟨_, _, rfl, rfl, _, _, rfl, rz', rfl⟩⟩
end
end WS
set_option maxRecDepth 100000
set_option maxHeartbeats 2000000
/-! D15: comprehensions; fresh lists and dicts as cells. -/
namespace WS
open PySem PySem.Spec PyProof.Rows L2
def WF : WX := fun _ _ _ _ => False
section
variable {G : Lk} {X : Cx} {W : WX} {P : Pg} {call : Nat → List DV → M DV} {tg : Expr}
theorem Ctx.blk (c : Ctx G X W) (s : Shared) (H : Hp) (scope : Scope) (cenv : PySem.Env) (fp : List Addr) : Ctx G (X.blk s H scope cenv fp) WF :=
  ⟨c.hP, c.hw, c.hK, c.hm, c.hb, c.calm, c.nd, LamX.takes0, PassesOwn.never, c.gd, c.un⟩
/-! ### the target -/
/-- the target's store does what setTg does -/
def TgOk (G : Lk) (t : Tg) (g : TG) (vs : List Nat) : Prop := ∀ (μ : List Addr) (M : Addr → Prop) (H : Hp) (σ : L2.St) (env env' : Env) (d : DV) (x : V) (Q : L2.St → Hp → Prop), EnvR G μ M H σ env → setTg env t d = some env' → RepT G M H d x → (∀ σ2, EnvR G μ M H σ2 env' → wipe σ2 vs = wipe σ vs → Q σ2 H) → g x (wipe σ vs) H Q
theorem wipe_set {σ : L2.St} {i : Nat} {v : Option V} : ∀ {vs : List Nat}, i ∈ vs → wipe (σ.set i v) vs = wipe σ vs
  | j :: vs, h => by
    unfold wipe
    by_cases hi : i ∈ vs
    · rw [wipe_set hi]
    · have e : i = j := by simpa [hi] using h
      subst e
      have gen : ∀ ws : List Nat, i ∉ ws → wipe (σ.set i v) ws = (wipe σ ws).set i v := by
        intro ws
        induction ws with
        | nil => intro _; rfl
        | cons k ws ih =>
          intro hn
          have h1 : i ≠ k := fun z => hn (by simp [z])
          have h2 : i ∉ ws := fun z => hn (by simp [z])
          unfold wipe
          rw [ih h2, List.set_comm _ _ h1]
      rw [gen vs hi, List.set_set]
/-- forgotten slots that are set anew -/
structure EnvX (G : Lk) (μ : List Addr) (M : Addr → Prop) (H : Hp) (vs : List Nat) (σ : L2.St) (env : Env) : Prop where
  len : env.length = σ.length
  at_ : ∀ (i : Nat) (d : DV), i ∉ vs → env[i]? = some (some d) → ∃ v, σ[i]? = some (some v) ∧ Rep G μ M H d v
theorem wipe_get {σ : L2.St} {i : Nat} : ∀ {vs : List Nat}, i ∉ vs → (wipe σ vs)[i]? = σ[i]?
  | [], _ => rfl
  | j :: vs, h => by
    unfold wipe
    rw [List.getElem?_set_ne (fun z => h (by simp [z]))]
    exact wipe_get fun z => h (by simp [z])
theorem EnvX.of {μ : List Addr} {M : Addr → Prop} {H : Hp} {vs : List Nat} {σ : L2.St} {env : Env} (r : EnvR G μ M H σ env) : EnvX G μ M H vs (wipe σ vs) env :=
  ⟨by rw [wipe_length]; exact r.len, fun i d hi h => by rw [wipe_get hi]; exact r.at_ i d h⟩
theorem EnvX.set {μ : List Addr} {M : Addr → Prop} {H : Hp} {vs : List Nat} {σ : L2.St} {env : Env} {i : Nat} {d : DV} {v : V} (r : EnvX G μ M H (i :: vs) σ env) (h : Rep G μ M H d v) : EnvX G μ M H vs (σ.set i (some v)) (env.set i (some d)) := by
  refine ⟨by simp [r.len], fun j e hn hj => ?_⟩
  by_cases hij : i = j
  · subst hij
    have hl : i < env.length := by
      cases q : decide (i < env.length) with
      | true => exact of_decide_eq_true q
      | false =>
        have : ¬ i < env.length := of_decide_eq_false q
        rw [List.getElem?_eq_none (by simpa using this)] at hj
        cases hj
    rw [List.getElem?_set_self hl] at hj
    cases hj
    exact ⟨v, List.getElem?_set_self (by rw [← r.len]; exact hl), h⟩
  · rw [List.getElem?_set_ne hij] at hj
    rw [List.getElem?_set_ne hij]
    exact r.at_ j e (by simp [hn, Ne.symm hij]) hj
theorem EnvX.env {μ : List Addr} {M : Addr → Prop} {H : Hp} {σ : L2.St} {env : Env} (r : EnvX G μ M H [] σ env) : EnvR G μ M H σ env := ⟨r.len, fun i d h => r.at_ i d (by simp) h⟩
theorem wipe_wipe {σ : L2.St} : ∀ {ws vs : List Nat}, (∀ i ∈ ws, i ∈ vs) → wipe (wipe σ ws) vs = wipe σ vs
  | [], _, _ => rfl
  | j :: ws, vs, h => by
    have e : wipe σ (j :: ws) = (wipe σ ws).set j none := rfl
    rw [e, wipe_set (h j (by simp)), wipe_wipe fun i hi => h i (by simp [hi])]
theorem tg_one {i : Nat} : TgOk G (.one i) (gName i) [i] := by
  intro μ M H σ env env' d x Q r e rx k
  have e : env.set i (some d) = env' := by simpa [setTg] using e
  subst e
  refine k _ (EnvX.set (EnvX.of r) (Rep.tree rx)).env ?_
  rw [wipe_set (by simp), wipe_wipe fun _ h => h]
def gAll : List Nat → TGs
  | [] => gNil
  | i :: r => gCons (gName i) (gAll r)
theorem gAll_ok {μ : List Addr} {M : Addr → Prop} {H : Hp} {vs : List Nat} {σ0 : L2.St} {Q : L2.St → Hp → Prop} : ∀ (is : List Nat) (xs : List DV) (ys : List V) (σ : L2.St) (env : Env), is.length = xs.length → RepL G M H xs ys → EnvX G μ M H is σ env → (∀ i ∈ is, i ∈ vs) → wipe σ vs = wipe σ0 vs →
    (∀ σ2, EnvR G μ M H σ2 ((is.zip xs).foldl (fun e p => e.set p.1 (some p.2)) env) → wipe σ2 vs = wipe σ0 vs → Q σ2 H) → gAll is ys σ H Q
  | [], [], ys, σ, env, _, rl, re, _, hw, k => ⟨rl, k σ re.env hw⟩
  | i :: is, d :: xs, ys, σ, env, hl, ⟨x, r, e, rx, rl⟩, re, hv, hw, k => by
    subst e
    refine ⟨x, r, rfl, ?_⟩
    exact gAll_ok is xs r _ _ (by simpa using hl) rl (EnvX.set re (Rep.tree rx)) (fun j hj => hv j (by simp [hj])) (by rw [wipe_set (hv i (by simp))]; exact hw) k
  | [], _ :: _, _, _, _, hl, _, _, _, _, _ => by simp at hl
  | _ :: _, [], _, _, _, hl, _, _, _, _, _ => by simp at hl
theorem tg_many {is : List Nat} {n : Nat} (hn : is.length = n) : TgOk G (.many is) (gTup G.K n (gAll is)) is := by
  intro μ M H σ env env' d x Q r e rx k
  cases d with
  | tup xs =>
    obtain ⟨a, ys, e1, h, q⟩ := rx
    simp only [setTg, setAll] at e
    split at e
    · rename_i hl
      cases e
      refine ⟨a, ys, e1, h, by rw [← q.len, ← hl, hn], gAll_ok is xs ys _ env hl q (EnvX.of r) (fun _ h => h) (wipe_wipe fun _ h => h) k⟩
    · cases e
  | _ => simp [setTg, setAll] at e
/-! ### the new list -/
theorem RepC.kp {μ : List Addr} {M M' : Addr → Prop} {H : Hp} {a : Addr} {c : Cell} (k : Keep M M' H H) (q : RepC G μ M H a c) : RepC G μ M' H a c := by
  cases c with
  | lst ds => obtain ⟨xs, e, r⟩ := q; exact ⟨xs, e, RepL.kp k ds xs r⟩
  | dct ps => obtain ⟨xs, e, r⟩ := q; exact ⟨xs, e, RepQ.kp k (fun _ _ h => h) ps xs r⟩
  | ins c gs => obtain ⟨dx, fs, e, r⟩ := q; exact ⟨dx, fs, e, RepF.kp k gs fs r⟩
  | frz d => exact RepT.kp k d _ q
theorem Wd.hidw {μ ex : List Addr} {s : S} {H : Hp} {D : Addr} {xs ys : List V} (w : Wd G μ (D :: ex) s H) (h : H D = some (.lst xs)) : Wd G μ (D :: ex) s (upd H D (.lst ys)) ∧ Keep (Mu μ s (D :: ex)) (Mu μ s (D :: ex)) H (upd H D (.lst ys)) := by
  have m : Mu μ s (D :: ex) D := .inl (by simp)
  have k : Keep (Mu μ s (D :: ex)) (Mu μ s (D :: ex)) H (upd H D (.lst ys)) := Keep.write m (fun _ z => by rw [h] at z; cases z) (fun _ _ z => by rw [h] at z; cases z) (fun _ z => by rw [h] at z; cases z)
  have ne : ∀ a ∈ μ, a ≠ D := fun a ha z => w.exD D (by simp) (by rw [← z]; exact ha)
  refine ⟨w.kp (μ' := μ) k (fun n a c h1 h2 h3 => upd_ne (ne a (List.mem_of_getElem? h1))) (tabs_write w.tabs (fun _ z => by rw [h] at z; cases z) (fun _ z => by rw [h] at z; cases z)) (fun a ha => ?_) (fun a ha => ?_) (fun a ha ps => ?_) fun a ha ps => ?_, k⟩
  · by_cases z : a = D
    · rw [z, upd_same]; simp
    · rw [upd_ne z]; exact w.exH a ha
  · rw [upd_ne (ne a ha)]; exact w.muH a ha
  · by_cases z : a = D
    · rw [z, upd_same]; simp
    · rw [upd_ne z]; exact w.exT a ha ps
  · rw [upd_ne (ne a ha)]; exact w.muT a ha ps
theorem Wd.bare {μ ex : List Addr} {s : S} {H : Hp} {D : Addr} (w : Wd G μ (D :: ex) s H) (hD : D ∉ ex) : Wd G μ ex s H ∧ Keep (Mu μ s (D :: ex)) (Mu μ s ex) H H ∧ ¬ Mu μ s ex D := by
  have sub : ∀ a, Mu μ s ex a → Mu μ s (D :: ex) a := fun a z => z.elim (fun z => .inl (by simp [z])) .inr
  have k : Keep (Mu μ s (D :: ex)) (Mu μ s ex) H H := ⟨fun _ _ h _ _ _ => h, fun _ _ h _ => h, fun _ _ h => h, fun _ _ _ h => h, fun a n z => absurd (sub a z) n⟩
  refine ⟨⟨w.len, w.nd, fun n a c h1 h2 => RepC.kp k (w.cells n a c h1 h2), w.tabs, fun a ha => w.exH a (by simp [ha]), fun a ha => w.exD a (by simp [ha]), w.muH, fun a ha => w.exT a (by simp [ha]), w.muT⟩, k, ?_⟩
  rintro (z | ⟨n, c, h1, _, _⟩)
  · exact hD z
  · exact w.exD D (by simp) (List.mem_of_getElem? h1)
theorem mapIf_cons {ok : S → Prop} {c : DV → M Bool} {f : DV → M DV} {d : DV} {r ys : List DV} {s s2 : S} (h : mapIf ok c f (d :: r) s = .ok ys s2) :
    ok s ∧ ((∃ s0, c d s = .ok false s0 ∧ mapIf ok c f r s0 = .ok ys s2) ∨ ∃ s0 y s1 y' s3 ys', c d s = .ok true s0 ∧ f d s0 = .ok y s1 ∧ embed y s1 = .ok y' s3 ∧ mapIf ok c f r s3 = .ok ys' s2 ∧ ys = y' :: ys') := by
  unfold mapIf at h
  split at h
  rotate_left
  · cases h
  rename_i ho
  refine ⟨ho, ?_⟩
  cases hc : c d s with
  | stuck => rw [hc] at h; cases h
  | err a b e => rw [hc] at h; cases h
  | ok b s0 =>
    rw [hc] at h
    simp only [bind_ok] at h
    cases b with
    | false => exact .inl ⟨s0, rfl, by simpa using h⟩
    | true =>
      simp only [if_true] at h
      cases hf : f d s0 with
      | stuck => rw [hf] at h; cases h
      | err a b e => rw [hf] at h; cases h
      | ok y s1 =>
        rw [hf] at h
        simp only [bind_ok] at h
        cases he : embed y s1 with
        | stuck => rw [he] at h; cases h
        | err a b e => rw [he] at h; cases h
        | ok y' s3 =>
          rw [he] at h
          simp only [bind_ok] at h
          cases hr : mapIf ok c f r s3 with
          | stuck => rw [hr] at h; cases h
          | err a b e => rw [hr] at h; cases h
          | ok ys' s4 =>
            rw [hr] at h
            simp only [bind_ok] at h
            cases h
            exact .inr ⟨s0, y, s1, y', s3, ys', rfl, hf, he, hr, rfl⟩
theorem asB_ok {m : Res DV} {b : Bool} {s : S} (h : asB m = .ok b s) : m = .ok (.bl b) s := by
  unfold asB at h
  cases m with
  | stuck => cases h
  | err a b e => cases h
  | ok d s1 =>
    simp only [bind_ok] at h
    cases d with
    | bl b' => cases h; rfl
    | _ => cases h
theorem comp_core {t : Tg} {g : TG} {vs : List Nat} {ce cc : E} (hgt : TgOk G t g vs) {σ : L2.St} {env : Env} {μ1 ex : List Addr} {s1 s2 : S} {H1 : Hp} {q : Sq} {J : It} {D : Addr} {ys : List DV} {Q : VK}
    (w1 : Wd G μ1 ex s1 H1) (r1 : EnvR G μ1 (Mu μ1 s1 ex) H1 σ env) (wk : Wk G J q μ1 (Mu μ1 s1 ex) H1) (hD : H1 D = none)
    (hm : mapIf q.ok (fun d s => match setTg env t d with
      | some e => asB (ev P call cc e s)
      | none => .stuck) (fun d s => match setTg env t d with
      | some e => ev P call ce e s
      | none => .stuck) q.xs s1 = .ok ys s2)
    (fin : ∀ μ2 H2 acc, Wd G μ2 (D :: ex) s2 H2 → Keep (Mu μ1 s1 ex) (Mu μ2 s2 (D :: ex)) H1 H2 → (∀ (n : Nat) (a : Addr), μ1[n]? = some a → μ2[n]? = some a) → (∀ a ∈ ex, H2 a = H1 a) → H2 D = some (.lst acc) → RepL G (Mu μ2 s2 (D :: ex)) H2 ys acc → Q (.ref D) H2) :
    ∃ Wi : Nat → Nat → Hp → Prop, (∃ m, Wi 0 m (upd H1 D (.lst []))) ∧ ∀ i m H, Wi i m H →
      (J.stop i H ∧ Q (.ref D) H) ∨ (J.go i H ∧ ∃ Nx : Hp → Prop, (∀ H', Nx H' → ∃ m', m' < m ∧ Wi (i + 1) m' H') ∧ ∀ x H', J.yld i H x H' → g x (wipe σ vs) H' fun σ2 H2 => wipe σ2 vs = wipe σ vs ∧ TDt G WF P call cc σ2 H2 fun b H3 =>
        if b = true then TD G WF P call ce σ2 H3 fun y H4 => ∃ acc, H4 D = some (.lst acc) ∧ acc.length < sizeLine ∧ Nx (upd H4 D (.lst (acc ++ [y]))) else Nx H3) := by
  have nD : D ∉ ex := fun z => w1.exH D z hD
  generalize hfc : (fun (d : DV) (s : S) => match setTg env t d with
      | some e => asB (ev P call cc e s)
      | none => (.stuck : Res Bool)) = fc at hm
  generalize hfe : (fun (d : DV) (s : S) => match setTg env t d with
      | some e => ev P call ce e s
      | none => (.stuck : Res DV)) = fe at hm
  refine ⟨fun i m H => m = q.xs.length - i ∧ i ≤ q.xs.length ∧ ∃ μ2 s' acc dn rest, Wd G μ2 (D :: ex) s' H ∧ Keep (Mu μ1 s1 ex) (Mu μ2 s' (D :: ex)) H1 H ∧ (∀ (n : Nat) (a : Addr), μ1[n]? = some a → μ2[n]? = some a) ∧ (∀ a ∈ ex, H a = H1 a) ∧ H D = some (.lst acc) ∧
    RepL G (Mu μ2 s' (D :: ex)) H dn acc ∧ dn.length ≤ i ∧ mapIf q.ok fc fe (q.xs.drop i) s' = .ok rest s2 ∧ dn ++ rest = ys, ⟨_, rfl, Nat.zero_le _, ?_⟩, ?_⟩
  · obtain ⟨w2, k2⟩ := Wd.hide (o := .lst []) w1 hD
    exact ⟨μ1, s1, [], [], ys, w2, k2, fun _ _ h => h, fun a ha => upd_ne fun z => nD (by rw [← z]; exact ha), upd_same, rfl, Nat.le_refl _, hm, rfl⟩
  rintro i m H ⟨rfl, hi, μ2, s', acc, dn, rest, w, k, pre, hid, hDl, rl, hdn, hr, hy⟩
  by_cases hlt : i < q.xs.length
  · have hd : q.xs.drop i = q.xs[i] :: q.xs.drop (i + 1) := List.drop_eq_getElem_cons hlt
    rw [hd] at hr
    obtain ⟨ho, hr⟩ := mapIf_cons hr
    refine .inr ⟨wk.go i μ2 (D :: ex) s' H w k pre ho hlt, _, fun H' nx => ⟨q.xs.length - (i + 1), by omega, rfl, hlt, nx⟩, fun x H' y => ?_⟩
    obtain ⟨a3, rx⟩ := wk.yld i μ2 (D :: ex) s' H x H' _ w k pre ho (List.getElem?_eq_getElem hlt) y
    have k3 := k.trans a3.evo.kp
    have r3 : EnvR G μ2 (Mu μ2 s' (D :: ex)) H' σ env := r1.kp k3 pre
    have hset : ∃ env', setTg env t q.xs[i] = some env' := by
      cases hs : setTg env t q.xs[i] with
      | some e => exact ⟨e, rfl⟩
      | none =>
        rw [← hfc] at hr
        simp only [hs] at hr
        rcases hr with ⟨s0, h, _⟩ | ⟨s0, y, s3, y', s4, ys', h, _⟩ <;> cases h
    obtain ⟨env', hs⟩ := hset
    rw [← hfc, ← hfe] at hr
    simp only [hs] at hr
    rw [hfc, hfe] at hr
    refine hgt μ2 _ H' σ env env' _ x _ r3 hs rx fun σ2 r4 hw => ⟨hw, ?_⟩
    have hD3 : H' D = some (.lst acc) := (a3.evo.hid D (by simp)).trans hDl
    have hid3 : ∀ a ∈ ex, H' a = H1 a := fun a ha => (a3.evo.hid a (by simp [ha])).trans (hid a ha)
    rcases hr with ⟨s0, hc, hrest⟩ | ⟨s0, y, s3, y', s4, ys', hc, hf, he, hrest, hys⟩
    · refine ⟨μ2, D :: ex, s', env', a3.wd, r4, ?_⟩
      rw [asB_ok hc]
      intro v H5 μ5 a5 rv
      have e : v = .bl false := rv
      subst e
      refine ⟨false, rfl, ?_⟩
      show ite _ _ _
      rw [if_neg Bool.false_ne_true]
      exact ⟨μ5, s0, acc, dn, rest, a5.wd, k3.trans a5.evo.kp, fun n a h => a5.evo.pre n a (pre n a h), fun a ha => (a5.evo.hid a (by simp [ha])).trans (hid3 a ha), (a5.evo.hid D (by simp)).trans hD3, RepL.kp a5.evo.kp _ _ (RepL.kp a3.evo.kp _ _ rl), by omega, hrest, hy⟩
    · refine ⟨μ2, D :: ex, s', env', a3.wd, r4, ?_⟩
      rw [asB_ok hc]
      intro v H5 μ5 a5 rv
      have e : v = .bl true := rv
      subst e
      refine ⟨true, rfl, ?_⟩
      show ite _ _ _
      rw [if_pos rfl]
      refine ⟨μ5, D :: ex, s0, env', a5.wd, r4.evo a5.evo, ?_⟩
      rw [hf]
      intro z H6 μ6 a6 rz
      obtain ⟨a7, rz7⟩ := embed_ok a6.wd rz he
      have hD6 : H6 D = some (.lst acc) := (a6.evo.hid D (by simp)).trans ((a5.evo.hid D (by simp)).trans hD3)
      have rl6 : RepL G (Mu μ6 s4 (D :: ex)) H6 dn acc := RepL.kp a7.evo.kp _ _ (RepL.kp a6.evo.kp _ _ (RepL.kp a5.evo.kp _ _ (RepL.kp a3.evo.kp _ _ rl)))
      refine ⟨acc, hD6, ?_, ?_⟩
      · have := rl.len
        have := wk.len
        omega
      · obtain ⟨w8, k8⟩ := Wd.hidw (ys := acc ++ [z]) a7.wd hD6
        refine ⟨μ6, s4, acc ++ [z], dn ++ [y'], ys', w8, ((k3.trans a5.evo.kp).trans a6.evo.kp).trans (a7.evo.kp.trans k8), fun n a h => a6.evo.pre n a (a5.evo.pre n a (pre n a h)), fun a ha => ?_, upd_same, ?_, ?_, hrest, ?_⟩
        · rw [upd_ne fun z => nD (by rw [← z]; exact ha)]
          exact (a6.evo.hid a (by simp [ha])).trans ((a5.evo.hid a (by simp [ha])).trans (hid3 a ha))
        · exact RepL.append (RepL.kp k8 _ _ rl6) ⟨_, _, rfl, RepT.kp k8 _ _ rz7, rfl⟩
        · simp; omega
        · rw [← hy, hys]; simp
  · have e : i = q.xs.length := by omega
    subst e
    rw [List.drop_length] at hr
    unfold mapIf at hr
    split at hr
    · rename_i ho
      cases hr
      refine .inl ⟨wk.stop _ μ2 (D :: ex) _ H w k pre ho (Nat.le_refl _), fin μ2 H acc w k pre hid hDl ?_⟩
      rw [← hy]
      simpa using rl
    · cases hr
theorem bind_assoc {α β γ : Type} (m : Res α) (f : α → S → Res β) (g : β → S → Res γ) : (m.bind f).bind g = m.bind fun a s => (f a s).bind g := by cases m <;> rfl
/-- what a comprehension's end may be: a tree, or a new cell -/
theorem comp_gen {t : Tg} {g : TG} {vs : List Nat} {ce cc : E} {cs : Sr} (hgt : TgOk G t g vs) {σ : L2.St} {env : Env} {μ ex : List Addr} {s : S} {H : Hp} {Q : VK} {F : List DV → S → Res DV} (w : Wd G μ ex s H) (r : EnvR G μ (Mu μ s ex) H σ env)
    (f : Fin G W σ μ ex s H ((evSr P call cs env s).bind fun q s1 => (noErr (mapIf q.ok (fun d s => match setTg env t d with
      | some e => asB (ev P call cc e s)
      | none => .stuck) (fun d s => match setTg env t d with
      | some e => ev P call ce e s
      | none => .stuck) q.xs s1)).bind F) Q)
    (hF : ∀ ys s2 μ1 s1 H1 μ2 H2 acc D, Fin G W σ μ1 ex s1 H1 (F ys s2) Q → D ∉ ex → H1 D = none → Wd G μ2 (D :: ex) s2 H2 → Keep (Mu μ1 s1 ex) (Mu μ2 s2 (D :: ex)) H1 H2 → (∀ (n : Nat) (a : Addr), μ1[n]? = some a → μ2[n]? = some a) → (∀ a ∈ ex, H2 a = H1 a) → H2 D = some (.lst acc) → RepL G (Mu μ2 s2 (D :: ex)) H2 ys acc → Q (.ref D) H2) :
    tLc (TDi G W P call cs) g (TDt G WF P call cc) (TD G WF P call ce) vs σ H Q := by
  refine ⟨μ, ex, s, env, w, r, ?_⟩
  cases hsr : evSr P call cs env s with
  | stuck => rw [hsr] at f; exact f
  | err c gs s1 => rw [hsr] at f; exact f
  | ok q s1 =>
    rw [hsr] at f
    simp only [bind_ok] at f
    intro J H1 μ1 a1 wk D hD
    have f1 := f.from a1
    generalize hmm : mapIf q.ok (fun d s => match setTg env t d with
      | some e => asB (ev P call cc e s)
      | none => .stuck) (fun d s => match setTg env t d with
      | some e => ev P call ce e s
      | none => .stuck) q.xs s1 = mm at f1
    cases mm with
    | stuck => exact f1.elim
    | err c gs s2 => exact f1.elim
    | ok ys s2 => exact comp_core hgt a1.wd (r.evo a1.evo) wk hD hmm fun μ2 H2 acc w2 k2 p2 hid hD2 rl => hF ys s2 μ1 s1 H1 μ2 H2 acc D f1 (fun z => a1.wd.exH D z hD) hD w2 k2 p2 hid hD2 rl
theorem lst_tree {σ : L2.St} {μ1 ex μ2 : List Addr} {s1 s2 : S} {H1 H2 : Hp} {ys : List DV} {acc : List V} {D : Addr} {Q : VK} (f : Fin G W σ μ1 ex s1 H1 (.ok (.lst ys) s2) Q) (nD : D ∉ ex) (w2 : Wd G μ2 (D :: ex) s2 H2) (k2 : Keep (Mu μ1 s1 ex) (Mu μ2 s2 (D :: ex)) H1 H2) (p2 : ∀ (n : Nat) (a : Addr), μ1[n]? = some a → μ2[n]? = some a) (hid : ∀ a ∈ ex, H2 a = H1 a) (hD2 : H2 D = some (.lst acc)) (rl : RepL G (Mu μ2 s2 (D :: ex)) H2 ys acc) : Q (.ref D) H2 := by
  obtain ⟨w3, k3, nm⟩ := w2.bare nD
  exact f _ _ μ2 ⟨⟨k2.trans k3, p2, hid⟩, w3⟩ ⟨D, acc, rfl, hD2, nm, RepL.kp k3 _ _ rl⟩
theorem cell_new {σ : L2.St} {μ1 ex μ2 : List Addr} {s1 s2 : S} {H1 H2 : Hp} {c : Cell} {D : Addr} {Q : VK} (f : Fin G W σ μ1 ex s1 H1 (.ok (.loc s2.length) (s2 ++ [c])) Q) (l : c.live = true) (nD : D ∉ ex) (w2 : Wd G μ2 (D :: ex) s2 H2) (k2 : Keep (Mu μ1 s1 ex) (Mu μ2 s2 (D :: ex)) H1 H2) (p2 : ∀ (n : Nat) (a : Addr), μ1[n]? = some a → μ2[n]? = some a) (hid : ∀ a ∈ ex, H2 a = H1 a) (new : RepC G (μ2 ++ [D]) (Mu μ2 s2 (D :: ex)) H2 D c) : Q (.ref D) H2 := by
  obtain ⟨w3, em⟩ := Aft.cell w2 nD l new
  refine f _ _ (μ2 ++ [D]) ⟨⟨by rw [em]; exact k2, fun n a h => ?_, hid⟩, w3⟩ ⟨D, rfl, ?_⟩
  · have h' := p2 n a h
    rw [List.getElem?_append_left (List.getElem?_eq_some_iff.mp h').1]
    exact h'
  · rw [List.getElem?_append_right (by rw [w2.len]; exact Nat.le_refl _), w2.len]
    simp
theorem sd_comp {elt iter : Expr} {ifs : List Expr} {scope : Scope} {own : List (Str × Nat)} {pos : Pos} {t : Tg} {g : TG} {ce cc : E} {cs : Sr} (c : Ctx G X W) (hi : PI X tg iter (TDi G W P call cs)) (ok : BlkOk X.N X.env.scope scope own)
    (hg : ∀ (s : Shared) (H : Hp) (C : Addr) (cl : List (Str × Addr)) (fp : List Addr), PG (X.blk s H scope (compEnvC scope cl C X.env) fp) tg g) (hgt : TgOk G t g (own.map (·.2)))
    (ht : ∀ (s : Shared) (H : Hp) (C : Addr) (cl : List (Str × Addr)) (fp : List Addr), PTs (X.blk s H scope (compEnvC scope cl C X.env) fp) ifs (TDt G WF P call cc))
    (he : ∀ (s : Shared) (H : Hp) (C : Addr) (cl : List (Str × Addr)) (fp : List Addr), PE (X.blk s H scope (compEnvC scope cl C X.env) fp) elt (TD G WF P call ce)) (hs : ∀ x, foldedSetIterable iter X.env x = pure x) :
    PE X (.ListComp elt [⟨tg, iter, ifs, 0⟩] scope pos) (TD G W P call (.comp t ce cs cc)) :=
  PE.imp (pe_lc c.calm c.nd hi ok hg ht he hs) fun σ H Q h => by
    obtain ⟨μ, ex, s, env, w, r, f⟩ := h
    unfold ev at f
    exact comp_gen hgt w r f fun ys s2 μ1 s1 H1 μ2 H2 acc D f1 nD _ w2 k2 p2 hid hD2 rl => lst_tree f1 nD w2 k2 p2 hid hD2 rl
theorem new_comp_of {t : Tg} {g : TG} {vs : List Nat} {ce cc : E} {cs : Sr} {σ : L2.St} {H : Hp} {Q : VK} (hgt : TgOk G t g vs) (h : TD G W P call (.new (.comp t ce cs cc)) σ H Q) : tLc (TDi G W P call cs) g (TDt G WF P call cc) (TD G WF P call ce) vs σ H Q := by
  obtain ⟨μ, ex, s, env, w, r, f⟩ := h
  unfold ev at f
  unfold ev at f
  simp only [bind_assoc, bind_ok, cellOf] at f
  exact comp_gen hgt w r f fun ys s2 μ1 s1 H1 μ2 H2 acc D f1 nD _ w2 k2 p2 hid hD2 rl => cell_new (c := .lst ys) f1 rfl nD w2 k2 p2 hid ⟨acc, hD2, rl⟩
theorem sd_new_comp {elt iter : Expr} {ifs : List Expr} {scope : Scope} {own : List (Str × Nat)} {pos : Pos} {t : Tg} {g : TG} {ce cc : E} {cs : Sr} (c : Ctx G X W) (hi : PI X tg iter (TDi G W P call cs)) (ok : BlkOk X.N X.env.scope scope own)
    (hg : ∀ (s : Shared) (H : Hp) (C : Addr) (cl : List (Str × Addr)) (fp : List Addr), PG (X.blk s H scope (compEnvC scope cl C X.env) fp) tg g) (hgt : TgOk G t g (own.map (·.2)))
    (ht : ∀ (s : Shared) (H : Hp) (C : Addr) (cl : List (Str × Addr)) (fp : List Addr), PTs (X.blk s H scope (compEnvC scope cl C X.env) fp) ifs (TDt G WF P call cc))
    (he : ∀ (s : Shared) (H : Hp) (C : Addr) (cl : List (Str × Addr)) (fp : List Addr), PE (X.blk s H scope (compEnvC scope cl C X.env) fp) elt (TD G WF P call ce)) (hs : ∀ x, foldedSetIterable iter X.env x = pure x) :
    PE X (.ListComp elt [⟨tg, iter, ifs, 0⟩] scope pos) (TD G W P call (.new (.comp t ce cs cc))) :=
  PE.imp (pe_lc c.calm c.nd hi ok hg ht he hs) fun σ H Q h => new_comp_of hgt h
/-- a test that is none -/
theorem st_yes {X : Cx} {W : WX} : PTs X [] (TDt G W P call (.cst (.bl true))) := ⟨fun pins s σ H Q I h => by
  obtain ⟨μ, ex, s', env, w, r, f⟩ := h
  unfold ev at f
  obtain ⟨b, eb, q⟩ := f (.bl true) H μ (Aft.refl w) rfl
  cases eb
  exact (pts_nil (X := X)).run pins s σ H Q I q⟩
/-! ### displays -/
theorem sd_new_lst {es : List Expr} {cr : Es} {pos : Pos} (ha : PA X es (TDs G W P call cr)) (hl : cr.len ≤ 1000) : PE X (.List es pos) (TD G W P call (.new (.lst cr))) :=
  PE.imp (pe_lst ha) fun σ H Q h => by
    obtain ⟨μ, ex, s, env, w, r, f⟩ := h
    unfold ev at f
    unfold ev at f
    simp only [bind_assoc, bind_ok, cellOf] at f
    refine tds_of w r f fun vs H1 ds s1 μ1 e a1 rp r1 f1 => ?_
    obtain ⟨ds', s2, a2, rl, f2⟩ := emb_of a1.wd rp f1
    refine ⟨small_line (by rw [← pair_len rp, evs_len e]; exact hl), fun p hp => ?_⟩
    obtain ⟨w3, k3⟩ := Wd.hide (o := .lst vs) a2.wd hp
    have np : p ∉ ex := fun z => a2.wd.exH p z hp
    exact cell_new (c := .lst ds') f2 rfl np w3 k3 (fun _ _ h => h) (fun a ha => upd_ne fun z => np (by rw [← z]; exact ha)) ⟨vs, upd_same, RepL.kp k3 _ _ rl⟩
end
end WS
set_option maxRecDepth 100000
set_option maxHeartbeats 2000000
/-! D16: dicts. -/
namespace WS
open PySem PySem.Spec PyProof.Rows L2
section
variable {G : Lk} {X : Cx} {W : WX} {P : Pg} {call : Nat → List DV → M DV}
def kSK : Key → SK
  | .inl i => .i i
  | .inr x => .s x
theorem sk_key (k : Key) : skOf (keyDV k) = some (kSK k) := by cases k <;> rfl
theorem key_sk (k : Key) : (kSK k).dv = keyDV k := by cases k <;> rfl
theorem kSK_inj {k j : Key} : kSK k = kSK j ↔ k = j := by
  cases k <;> cases j <;> simp [kSK]
theorem RepQ.any {μ : List Addr} {M : Addr → Prop} {H : Hp} {k : Key} : ∀ {ds : List (DV × DV)} {xs : List (Key × V)}, RepQ G μ M H ds xs → (ds.any fun p => decide (skOf p.1 = some (kSK k))) = xs.any fun kv => decide (kv.1 = k)
  | [], _, h => by rw [show _ = [] from h]; rfl
  | (q, d) :: ds, _, ⟨j, x, r, e1, e2, h, t⟩ => by
    subst e1 e2
    rw [List.any_cons, List.any_cons, RepQ.any t, sk_key]
    simp [kSK_inj]
theorem RepQ.mapPut {μ : List Addr} {M : Addr → Prop} {H : Hp} {k : Key} {v : DV} {y : V} (hv : Rep G μ M H v y) : ∀ {ds : List (DV × DV)} {xs : List (Key × V)}, RepQ G μ M H ds xs → RepQ G μ M H (ds.map fun p => if skOf p.1 = some (kSK k) then (p.1, v) else p) (xs.map fun kv => if kv.1 = k then (kv.1, y) else kv)
  | [], _, h => by rw [show _ = [] from h]; rfl
  | (q, d) :: ds, _, ⟨j, x, r, e1, e2, h, t⟩ => by
    subst e1 e2
    rw [List.map_cons, List.map_cons]
    by_cases hj : j = k
    · subst hj
      rw [if_pos (sk_key j), if_pos rfl]
      exact ⟨j, y, _, rfl, rfl, hv, RepQ.mapPut hv t⟩
    · rw [if_neg (by rw [sk_key]; simp [kSK_inj, hj]), if_neg hj]
      exact ⟨j, x, _, rfl, rfl, h, RepQ.mapPut hv t⟩
theorem RepQ.snoc {μ : List Addr} {M : Addr → Prop} {H : Hp} {k : Key} {v : DV} {y : V} (hv : Rep G μ M H v y) : ∀ {ds : List (DV × DV)} {xs : List (Key × V)}, RepQ G μ M H ds xs → RepQ G μ M H (ds ++ [(keyDV k, v)]) (xs ++ [(k, y)])
  | [], _, h => by rw [show _ = [] from h]; exact ⟨k, y, [], rfl, rfl, hv, rfl⟩
  | (q, d) :: ds, _, ⟨j, x, r, e1, e2, h, t⟩ => by
    subst e1 e2
    exact ⟨j, x, _, rfl, rfl, h, RepQ.snoc hv t⟩
theorem RepQ.put {μ : List Addr} {M : Addr → Prop} {H : Hp} {k : Key} {v : DV} {y : V} {ds : List (DV × DV)} {xs : List (Key × V)} (h : RepQ G μ M H ds xs) (hv : Rep G μ M H v y) : RepQ G μ M H (dput (kSK k) v ds) (putK xs k y) := by
  unfold dput putK
  rw [h.any (k := k)]
  split
  · exact RepQ.mapPut hv h
  · rw [key_sk]; exact RepQ.snoc hv h
/-- a key that is one -/
theorem sk_of {μ : List Addr} {M : Addr → Prop} {H : Hp} {d : DV} {v : V} {q : SK} (r : Rep G μ M H d v) (e : skOf d = some q) : ∃ k, q = kSK k ∧ d = keyDV k ∧ v = kV k := by
  cases d with
  | int n => exact ⟨.inl n, by simpa [skOf, kSK] using e.symm, rfl, r⟩
  | str x => exact ⟨.inr x, by simpa [skOf, kSK] using e.symm, rfl, r⟩
  | _ => simp [skOf] at e
/-! ### displays -/
def pairUp : List V → List (V × V)
  | x :: y :: r => (x, y) :: pairUp r
  | _ => []
def trsOf (G : Lk) (W : WX) (P : Pg) (call : Nat → List DV → M DV) : Es → List (TE × TE)
  | .cons k (.cons v r) => (TD G W P call k, TD G W P call v) :: trsOf G W P call r
  | _ => []
theorem TDs.mono {cr : Es} {σ : L2.St} {H : Hp} {Q Q' : List V → Hp → Prop} (h : TDs G W P call cr σ H Q) (k : ∀ vs H', Q vs H' → Q' vs H') : TDs G W P call cr σ H Q' := by
  obtain ⟨μ, ex, s, env, w, r, f⟩ := h
  refine ⟨μ, ex, s, env, w, r, ?_⟩
  cases hm : evs P call cr env s with
  | ok ds s1 => rw [hm] at f; exact fun vs H' μ' a rp => k _ _ (f vs H' μ' a rp)
  | err c gs s1 => rw [hm] at f; exact f
  | stuck => rw [hm] at f; exact f
theorem TD.mono {c : E} {σ : L2.St} {H : Hp} {Q Q' : VK} (h : TD G W P call c σ H Q) (k : ∀ v H', Q v H' → Q' v H') : TD G W P call c σ H Q' := by
  obtain ⟨μ, ex, s, env, w, r, f⟩ := h
  exact ⟨μ, ex, s, env, w, r, f.mono k⟩
theorem tp_of : ∀ (es : Es) (σ : L2.St) (H : Hp) (Q : List (V × V) → Hp → Prop), (∃ n, es.len = 2 * n) → TDs G W P call es σ H (fun vs H' => Q (pairUp vs) H') → tPairs (trsOf G W P call es) σ H Q
  | .nil, σ, H, Q, _, h => by
    obtain ⟨μ, ex, s, env, w, r, f⟩ := h
    unfold evs at f
    exact f [] H μ (Aft.refl w) .nil
  | .cons k .nil, _, _, _, ⟨n, hn⟩, _ => by
    have : 1 = 2 * n := hn
    omega
  | .cons k (.cons v r), σ, H, Q, ⟨n, hn⟩, h => by
    refine (tds_cons h).mono fun x H1 h1 => (tds_cons h1).mono fun y H2 h2 => ?_
    exact tp_of r σ H2 _ ⟨n - 1, by have : r.len + 1 + 1 = 2 * n := hn; omega⟩ h2
/-- entries of a display -/
theorem dict_from {μ : List Addr} {M : Addr → Prop} {H : Hp} : ∀ {ds : List DV} {vs : List V} {kvs acc m : List (DV × DV)} {acv : List (Key × V)}, Paired (fun d v => Rep G μ M H d v) ds vs → dictFrom ds = some kvs → dictMerge acc kvs = some m → RepQ G μ M H acc acv →
    ∃ kx : List (Key × V), pairUp vs = kx.map (fun kv => (kV kv.1, kv.2)) ∧ kx.length ≤ vs.length / 2 ∧ RepQ G μ M H m (mergeK acv kx)
  | [], _, kvs, acc, m, acv, .nil, e, e2, hq => by
    have e : [] = kvs := by simpa [dictFrom] using e
    subst e
    have e2 : acc = m := by simpa [dictMerge] using e2
    subst e2
    exact ⟨[], rfl, Nat.zero_le _, hq⟩
  | [d], _, _, _, _, _, _, e, _, _ => by simp [dictFrom] at e
  | k :: v :: ds, _, kvs, acc, m, acv, .cons rk (.cons rv rs), e, e2, hq => by
    unfold dictFrom at e
    cases e3 : dictFrom ds with
    | none => rw [e3] at e; cases e
    | some kr =>
      rw [e3] at e
      have e : (k, v) :: kr = kvs := by simpa using e
      subst e
      unfold dictMerge at e2
      cases hk : skOf k with
      | none => rw [hk] at e2; cases e2
      | some q =>
        rw [hk] at e2
        obtain ⟨j, e4, e5, e6⟩ := sk_of rk hk
        subst e4 e5 e6
        obtain ⟨kx, h1, h2, h3⟩ := dict_from rs e3 e2 (hq.put (k := j) rv)
        exact ⟨(j, _) :: kx, by unfold pairUp; rw [h1]; rfl, by simp; omega, h3⟩
/-- a run, with a hidden object more -/
theorem FinL.hidden {σ : L2.St} {μ ex : List Addr} {s : S} {H : Hp} {p : Addr} {o : HO} {m : Res (List DV)} {F : List DV → S → Res DV} {Q : VK} {Q' : List V → Hp → Prop} (w : Wd G μ ex s H) (hp : H p = none) (no : ∀ ps, o ≠ .tbl ps) (h : Fin G W σ μ ex s H (m.bind F) Q)
    (k : ∀ ds s1 vs H1 μ1, m = .ok ds s1 → Aft G μ (p :: ex) s (upd H p o) μ1 s1 H1 → Paired (fun d v => Rep G μ1 (Mu μ1 s1 (p :: ex)) H1 d v) ds vs → Fin G W σ μ ex s H (F ds s1) Q → Q' vs H1) : FinL G W σ μ (p :: ex) s (upd H p o) m Q' := by
  have np : p ∉ ex := fun z => w.exH p z hp
  obtain ⟨w2, k2⟩ := Wd.hide (o := o) w hp no
  cases m with
  | ok ds s1 => exact fun vs H1 μ1 a rp => k ds s1 vs H1 μ1 rfl a rp h
  | err c gs s1 =>
    intro cls dd H1 μ1 a er
    obtain ⟨w3, k3, nm⟩ := a.wd.bare np
    have a' : Aft G μ ex s H μ1 s1 H1 := ⟨⟨(k2.trans a.evo.kp).trans k3, a.evo.pre, fun b hb => (a.evo.hid b (by simp [hb])).trans (upd_ne fun z => np (by rw [← z]; exact hb))⟩, w3⟩
    refine h cls dd H1 μ1 a' ?_
    obtain ⟨e1, er⟩ := er
    refine ⟨e1, ?_⟩
    rcases er with er | ⟨d1, fs, e2, h1, n1, rf⟩
    · exact .inl er
    · exact .inr ⟨d1, fs, e2, h1, k3.nm h1 n1, RepF.kp k3 _ _ rf⟩
  | stuck => exact h
theorem dk_hidw {μ ex : List Addr} {s : S} {H : Hp} {D : Addr} {xs ys : List (Key × V)} (w : Wd G μ (D :: ex) s H) (h : H D = some (.dK xs)) : Wd G μ (D :: ex) s (upd H D (.dK ys)) ∧ Keep (Mu μ s (D :: ex)) (Mu μ s (D :: ex)) H (upd H D (.dK ys)) := by
  have m : Mu μ s (D :: ex) D := .inl (by simp)
  have k : Keep (Mu μ s (D :: ex)) (Mu μ s (D :: ex)) H (upd H D (.dK ys)) := Keep.write m (fun _ z => by rw [h] at z; cases z) (fun _ _ z => by rw [h] at z; cases z) (fun _ z => by rw [h] at z; cases z)
  have ne : ∀ a ∈ μ, a ≠ D := fun a ha z => w.exD D (by simp) (by rw [← z]; exact ha)
  refine ⟨w.kp (μ' := μ) k (fun n a c h1 h2 h3 => upd_ne (ne a (List.mem_of_getElem? h1))) (tabs_write w.tabs (fun _ z => by rw [h] at z; cases z) (fun _ z => by rw [h] at z; cases z)) (fun a ha => ?_) (fun a ha => ?_) (fun a ha ps => ?_) fun a ha ps => ?_, k⟩
  · by_cases z : a = D
    · rw [z, upd_same]; simp
    · rw [upd_ne z]; exact w.exH a ha
  · rw [upd_ne (ne a ha)]; exact w.muH a ha
  · by_cases z : a = D
    · rw [z, upd_same]; simp
    · rw [upd_ne z]; exact w.exT a ha ps
  · rw [upd_ne (ne a ha)]; exact w.muT a ha ps
theorem RepQ.pre {μ μ' : List Addr} {M : Addr → Prop} {H : Hp} (hp : ∀ (n : Nat) (a : Addr), μ[n]? = some a → μ'[n]? = some a) {ds : List (DV × DV)} {xs : List (Key × V)} (h : RepQ G μ M H ds xs) : RepQ G μ' M H ds xs := RepQ.kp Keep.refl hp ds xs h
theorem newD_of {es : Es} {σ : L2.St} {H : Hp} {Q : VK} (hlen : es.len ≤ 30) (he : ∃ n, es.len = 2 * n) (h : TD G W P call (.newD es) σ H Q) : tDisp (trsOf G W P call es) σ H Q := by
  obtain ⟨μ, ex, s, env, w, r, f⟩ := h
  unfold ev at f
  intro p hp
  have np : p ∉ ex := fun z => w.exH p z hp
  obtain ⟨w2, k2⟩ := Wd.hide (o := .dK []) w hp
  refine tp_of es σ _ _ he ⟨μ, p :: ex, s, env, w2, r.kp k2 fun _ _ h => h, FinL.hidden w hp (fun ps z => by cases z) f fun ds s1 vs H1 μ1 e a1 rp f1 => ?_⟩
  have hp1 : H1 p = some (.dK []) := (a1.evo.hid p (by simp)).trans upd_same
  refine ⟨hp1, ?_⟩
  cases e1 : dictFrom ds with
  | none => rw [e1] at f1; exact f1.elim
  | some kvs =>
    rw [e1] at f1
    simp only [Option.bind_some] at f1
    cases e2 : dictMerge [] kvs with
    | none => rw [e2] at f1; exact f1.elim
    | some m =>
      rw [e2] at f1
      simp only at f1
      obtain ⟨w3, k3⟩ := dk_hidw (ys := []) a1.wd hp1
      obtain ⟨kx, h1, h2, h3⟩ := dict_from rp e1 e2 (acv := []) rfl
      have hl : vs.length = es.len := by rw [← pair_len rp]; exact evs_len e
      refine ⟨kx, h1, by omega, ?_⟩
      obtain ⟨w3, k3⟩ := dk_hidw (ys := mergeK [] kx) a1.wd hp1
      refine cell_new (c := .dct m) (H2 := upd H1 p (.dK (mergeK [] kx))) f1 rfl np w3 ((k2.trans a1.evo.kp).trans k3) a1.evo.pre (fun a ha => ?_) ⟨mergeK [] kx, upd_same, ?_⟩
      · rw [upd_ne fun z => np (by rw [← z]; exact ha), a1.evo.hid a (by simp [ha])]
        exact upd_ne fun z => np (by rw [← z]; exact ha)
      · exact RepQ.kp k3 (fun n a h => by rw [List.getElem?_append_left (List.getElem?_eq_some_iff.mp h).1]; exact h) _ _ h3
theorem newD0_of {σ : L2.St} {H : Hp} {Q : VK} (h : TD G W P call (.newD .nil) σ H Q) : tDNewK σ H Q := by
  obtain ⟨μ, ex, s, env, w, r, f⟩ := h
  unfold ev at f
  unfold evs at f
  simp only [bind_ok, dictFrom, dictMerge, Option.bind_some] at f
  intro p hp
  have np : p ∉ ex := fun z => w.exH p z hp
  obtain ⟨w2, k2⟩ := Wd.hide (o := .dK []) w hp
  exact cell_new (c := .dct []) f rfl np w2 k2 (fun _ _ h => h) (fun a ha => upd_ne fun z => np (by rw [← z]; exact ha)) ⟨[], upd_same, rfl⟩
end
end WS
set_option maxRecDepth 100000
set_option maxHeartbeats 2000000
/-! D17: statements. -/
namespace WS
open PySem PySem.Spec PyProof.Rows L2
def FinS (G : Lk) (W : WX) (μ ex : List Addr) (s : S) (H : Hp) (r : Res Flow) (D : Ends) : Prop := match r with
  | .ok (.nxt e) s' => ∀ σ' H' μ', Aft G μ ex s H μ' s' H' → EnvR G μ' (Mu μ' s' ex) H' σ' e → D.nx σ' H'
  | .ok (.ret d) s' => ∀ v H' μ', Aft G μ ex s H μ' s' H' → Rep G μ' (Mu μ' s' ex) H' d v → D.rt v H'
  | .ok (.brk e) s' => ∀ σ' H' μ', Aft G μ ex s H μ' s' H' → EnvR G μ' (Mu μ' s' ex) H' σ' e → D.bk σ' H'
  | .ok (.cnt e) s' => ∀ σ' H' μ', Aft G μ ex s H μ' s' H' → EnvR G μ' (Mu μ' s' ex) H' σ' e → D.ct σ' H'
  | .err c gs s' => ∀ cls dd σ' H' μ', Aft G μ ex s H μ' s' H' → ErrR G (Mu μ' s' ex) H' c gs cls dd → W cls dd σ' H'
  | .stuck => False
def TDS (G : Lk) (W : WX) (P : Pg) (call : Nat → List DV → M DV) (c : St) : TS := fun D σ H => ∃ μ ex s env, Wd G μ ex s H ∧ EnvR G μ (Mu μ s ex) H σ env ∧ FinS G W μ ex s H (exS P call c env s) D
def TDB (G : Lk) (W : WX) (P : Pg) (call : Nat → List DV → M DV) (c : List St) : TS := fun D σ H => ∃ μ ex s env, Wd G μ ex s H ∧ EnvR G μ (Mu μ s ex) H σ env ∧ FinS G W μ ex s H (exSs P call c env s) D
section
variable {G : Lk} {X : Cx} {W : WX} {P : Pg} {call : Nat → List DV → M DV} {σ : L2.St} {μ ex μ1 : List Addr} {s s1 : S} {H H1 : Hp}
theorem FinS.from {r : Res Flow} {D : Ends} (a : Aft G μ ex s H μ1 s1 H1) (h : FinS G W μ ex s H r D) : FinS G W μ1 ex s1 H1 r D := by
  cases r with
  | ok f s' => cases f with
    | nxt e => exact fun σ' H' μ' b c => h σ' H' μ' (a.trans b) c
    | ret d => exact fun v H' μ' b c => h v H' μ' (a.trans b) c
    | brk e => exact fun σ' H' μ' b c => h σ' H' μ' (a.trans b) c
    | cnt e => exact fun σ' H' μ' b c => h σ' H' μ' (a.trans b) c
  | err c gs s' => exact fun cls dd σ' H' μ' b q => h cls dd σ' H' μ' (a.trans b) q
  | stuck => exact h
theorem fs_of {m : Res DV} {f : DV → S → Res Flow} {D : Ends} {Q : VK} (h : FinS G W μ ex s H (m.bind f) D)
    (k : ∀ d s', m = .ok d s' → ∀ v H' μ', Aft G μ ex s H μ' s' H' → Rep G μ' (Mu μ' s' ex) H' d v → FinS G W μ' ex s' H' (f d s') D → Q v H') : Fin G W σ μ ex s H m Q := by
  cases m with
  | ok d s' => exact fun v H' μ' a r => k d s' rfl v H' μ' a r (FinS.from a h)
  | err c gs s' => exact fun cls dd H' μ' a q => h cls dd σ H' μ' a q
  | stuck => exact h
theorem fsb_of {m : Res DV} {f : Bool → S → Res Flow} {D : Ends} {Q : Bool → Hp → Prop} (h : FinS G W μ ex s H ((asB m).bind f) D)
    (k : ∀ b s', m = .ok (.bl b) s' → ∀ H' μ', Aft G μ ex s H μ' s' H' → FinS G W μ' ex s' H' (f b s') D → Q b H') : Fin G W σ μ ex s H m (fun v H' => ∃ b, v = .bl b ∧ Q b H') := by
  rw [asB_bind] at h
  refine fs_of h fun d s' e v H' μ' a r f1 => ?_
  cases d with
  | bl b => exact ⟨b, r, k b s' e H' μ' a f1⟩
  | _ => exact f1.elim
theorem fi_of {m : Res Sq} {f : Sq → S → Res Flow} {D : Ends} {R : It → Hp → Prop} (h : FinS G W μ ex s H (m.bind f) D)
    (k : ∀ q s', m = .ok q s' → ∀ J H' μ', Aft G μ ex s H μ' s' H' → Wk G J q μ' (Mu μ' s' ex) H' → FinS G W μ' ex s' H' (f q s') D → R J H') : FinI G W σ μ ex s H m R := by
  cases m with
  | ok d s' => exact fun v H' μ' a r => k d s' rfl v H' μ' a r (FinS.from a h)
  | err c gs s' => exact fun cls dd H' μ' a q => h cls dd σ H' μ' a q
  | stuck => exact h
theorem fe_of {d : DV} {v : V} {f : DV → S → Res Flow} {D : Ends} (w : Wd G μ ex s H) (r : Rep G μ (Mu μ s ex) H d v) (h : FinS G W μ ex s H ((embed d s).bind f) D) : ∃ d' s', embed d s = .ok d' s' ∧ Aft G μ ex s H μ s' H ∧ RepT G (Mu μ s' ex) H d' v ∧ FinS G W μ ex s' H (f d' s') D := by
  cases e : embed d s with
  | stuck => rw [e] at h; exact h.elim
  | err c gs s' => exact absurd e embed_no
  | ok d' s' =>
    obtain ⟨a, r⟩ := embed_ok w r e
    rw [e] at h
    exact ⟨d', s', rfl, a, r, FinS.from a h⟩
/-! ### blocks -/
theorem tb_nil : PSs X [] (TDB G W P call []) := PSs.imp pss_nil fun D σ H h => by
  obtain ⟨μ, ex, s, env, w, r, f⟩ := h
  unfold exSs at f
  exact f σ H μ (Aft.refl w) r
theorem tb_cons {st : Stmt} {rest : List Stmt} {c : St} {cr : List St} (h1 : PS X st (TDS G W P call c)) (h2 : PSs X rest (TDB G W P call cr)) : PSs X (st :: rest) (TDB G W P call (c :: cr)) := PSs.imp (pss_cons h1 h2) fun D σ H h => by
  obtain ⟨μ, ex, s, env, w, r, f⟩ := h
  unfold exSs at f
  refine ⟨μ, ex, s, env, w, r, ?_⟩
  cases hm : exS P call c env s with
  | stuck => rw [hm] at f; exact f
  | err c' gs s' => rw [hm] at f; exact f
  | ok fl s' =>
    rw [hm] at f
    cases fl with
    | nxt e => exact fun σ' H' μ' a r' => ⟨μ', ex, s', e, a.wd, r', FinS.from a f⟩
    | ret d => exact f
    | brk e => exact f
    | cnt e => exact f
/-! ### simple statements -/
theorem ts_pass {pos : Pos} : PS X (.Pass pos) (TDS G W P call .pas) := PS.imp ps_pass fun D σ H h => by
  obtain ⟨μ, ex, s, env, w, r, f⟩ := h
  unfold exS at f
  exact f σ H μ (Aft.refl w) r
theorem ts_doc {x j pos pos'} : PS X (.Expr (.Constant (.str x) j pos) pos') (TDS G W P call .pas) := PS.imp ps_doc fun D σ H h => by
  obtain ⟨μ, ex, s, env, w, r, f⟩ := h
  unfold exS at f
  exact f σ H μ (Aft.refl w) r
theorem ts_break {pos : Pos} : PS X (.Break pos) (TDS G W P call .brk) := PS.imp ps_break fun D σ H h => by
  obtain ⟨μ, ex, s, env, w, r, f⟩ := h
  unfold exS at f
  exact f σ H μ (Aft.refl w) r
theorem ts_continue {pos : Pos} : PS X (.Continue pos) (TDS G W P call .cnt) := PS.imp ps_continue fun D σ H h => by
  obtain ⟨μ, ex, s, env, w, r, f⟩ := h
  unfold exS at f
  exact f σ H μ (Aft.refl w) r
theorem ts_ret {e : Expr} {ce : E} {pos : Pos} (he : PE X e (TD G W P call ce)) : PS X (.Return (some e) pos) (TDS G W P call (.ret ce)) := PS.imp (ps_ret he) fun D σ H h => by
  obtain ⟨μ, ex, s, env, w, r, f⟩ := h
  unfold exS at f
  exact ⟨μ, ex, s, env, w, r, fs_of f fun d s' e v H' μ' a rp f1 => f1 v H' μ' (Aft.refl a.wd) rp⟩
theorem ts_retN {pos : Pos} : PS X (.Return none pos) (TDS G W P call (.ret (.cst .non))) := PS.imp ps_retN fun D σ H h => by
  obtain ⟨μ, ex, s, env, w, r, f⟩ := h
  unfold exS ev at f
  exact f .non H μ (Aft.refl w) rfl
theorem ts_exp {e : Expr} {ce : E} {pos : Pos} (he : PE X e (TD G W P call ce)) (hs : swapsWith e none pos.line X.env = pure false) : PS X (.Expr e pos) (TDS G W P call (.exp ce)) := PS.imp (ps_expr he hs) fun D σ H h => by
  obtain ⟨μ, ex, s, env, w, r, f⟩ := h
  unfold exS at f
  exact ⟨μ, ex, s, env, w, r, fs_of f fun d s' e v H' μ' a rp f1 => f1 σ H' μ' (Aft.refl a.wd) (r.evo a.evo)⟩
theorem asg_of {i : Nat} {ce : E} {D : Ends} {σ : L2.St} {H : Hp} (h : TDS G W P call (.set i ce) D σ H) : tAsg (TD G W P call ce) (gName i) D σ H := by
  obtain ⟨μ, ex, s, env, w, r, f⟩ := h
  unfold exS at f
  exact ⟨μ, ex, s, env, w, r, fs_of f fun d s' e v H' μ' a rp f1 => f1 _ H' μ' (Aft.refl a.wd) ((r.evo a.evo).set rp)⟩
theorem ts_set {i : Nat} {x : Str} {e : Expr} {ce : E} {pos pos' : Pos} (c : Ctx G X W) (hi : X.N[i]? = some x) (hx : Loc X.env.scope x) (he : PE X e (TD G W P call ce)) (hs : swapsWith e (some (.Name x pos')) pos.line X.env = pure false) (hf : X.fn x = true ∨ X.env.scope.names.lookup x = some .local) :
    PS X (.Assign [.Name x pos'] e pos) (TDS G W P call (.set i ce)) := PS.imp (ps_set c.nd hi hx he hs hf) fun D σ H h => asg_of h
theorem ts_if {c : Expr} {a b : List Stmt} {cc : E} {ca cb : List St} {pos : Pos} (hc : PT X c (TDt G W P call cc)) (ha : PSs X a (TDB G W P call ca)) (hb : PSs X b (TDB G W P call cb)) : PS X (.If c a b pos) (TDS G W P call (.ife cc ca cb)) := PS.imp (ps_if hc ha hb) fun D σ H h => by
  obtain ⟨μ, ex, s, env, w, r, f⟩ := h
  unfold exS at f
  refine ⟨μ, ex, s, env, w, r, fsb_of f fun b s' e H' μ' a f1 => ?_⟩
  cases b with
  | true => exact ⟨μ', ex, s', env, a.wd, r.evo a.evo, f1⟩
  | false => exact ⟨μ', ex, s', env, a.wd, r.evo a.evo, f1⟩
theorem ts_par {i j : Nat} {x y : Str} {a b : Expr} {ca cb : E} {px py pt pos : Pos} {kt k2 pt2} (c : Ctx G X W) (hi : X.N[i]? = some x) (hj : X.N[j]? = some y) (hij : i ≠ j)
    (hx : X.env.scope.names.lookup x = some .local) (hy : X.env.scope.names.lookup y = some .local) (ha : PE X a (TD G W P call ca)) (hb : PE X b (TD G W P call cb)) (hst : noStar [a, b] = true)
    (hw : swappedStores [.Tuple [.Name x px, .Name y py] kt pt] (.Tuple [a, b] k2 pt2) X.env = pure (some [x, y]))
    (hs : swapsWithSole [.Tuple [.Name x px, .Name y py] kt pt] (.Tuple [a, b] k2 pt2) pos.line X.env = pure false) :
    PS X (.Assign [.Tuple [.Name x px, .Name y py] kt pt] (.Tuple [a, b] k2 pt2) pos) (TDS G W P call (.par i j ca cb)) :=
  PS.imp (ps_par c.calm c.nd hi hj hij hx hy (pa_cons ha (pa_cons hb pa_nil (star_ok (noStar_tl hst))) (star_ok hst)) hw hs) fun D σ H h => by
    obtain ⟨μ, ex, s, env, w, r, f⟩ := h
    unfold exS at f
    refine ⟨μ, ex, s, env, w, r, fs_of f fun d s' e v H' μ' a rp f1 => ?_⟩
    refine ⟨μ', ex, s', env, a.wd, r.evo a.evo, fs_of f1 fun d' s2 e2 v' H2 μ2 a2 rp2 f2 => ?_⟩
    exact ⟨v, v', rfl, f2 _ H2 μ2 (Aft.refl a2.wd) ((((r.evo a.evo).evo a2.evo).set (rp.kp a2.evo.kp a2.evo.pre)).set rp2)⟩
theorem ts_par3 {i j l : Nat} {x y z : Str} {a b c : Expr} {ca cb cc : E} {px py pz pt pos : Pos} {kt k2 pt2} (cx : Ctx G X W) (hi : X.N[i]? = some x) (hj : X.N[j]? = some y) (hl : X.N[l]? = some z) (hij : i ≠ j) (hil : i ≠ l) (hjl : j ≠ l)
    (hx : X.env.scope.names.lookup x = some .local) (hy : X.env.scope.names.lookup y = some .local) (hz : X.env.scope.names.lookup z = some .local) (ha : PE X a (TD G W P call ca)) (hb : PE X b (TD G W P call cb)) (hc : PE X c (TD G W P call cc)) (hst : noStar [a, b, c] = true)
    (hw : swappedStores [.Tuple [.Name x px, .Name y py, .Name z pz] kt pt] (.Tuple [a, b, c] k2 pt2) X.env = pure (some [x, y, z]))
    (hs : swapsWithSole [.Tuple [.Name x px, .Name y py, .Name z pz] kt pt] (.Tuple [a, b, c] k2 pt2) pos.line X.env = pure false) :
    PS X (.Assign [.Tuple [.Name x px, .Name y py, .Name z pz] kt pt] (.Tuple [a, b, c] k2 pt2) pos) (TDS G W P call (.par3 i j l ca cb cc)) :=
  PS.imp (ps_par3 cx.calm cx.nd hi hj hl hij hil hjl hx hy hz (pa_cons ha (pa_cons hb (pa_cons hc pa_nil (star_ok (noStar_tl (noStar_tl hst)))) (star_ok (noStar_tl hst))) (star_ok hst)) hw hs) fun D σ H h => by
    obtain ⟨μ, ex, s, env, w, r, f⟩ := h
    unfold exS at f
    refine ⟨μ, ex, s, env, w, r, fs_of f fun d s' e v H' μ' a rp f1 => ?_⟩
    refine ⟨μ', ex, s', env, a.wd, r.evo a.evo, fs_of f1 fun d' s2 e2 v' H2 μ2 a2 rp2 f2 => ?_⟩
    refine ⟨μ2, ex, s2, env, a2.wd, (r.evo a.evo).evo a2.evo, fs_of f2 fun d'' s3 e3 v'' H3 μ3 a3 rp3 f3 => ?_⟩
    have rp' := rp.kp a2.evo.kp a2.evo.pre
    exact ⟨v, v', v'', rfl, f3 _ H3 μ3 (Aft.refl a3.wd) ((((((r.evo a.evo).evo a2.evo).evo a3.evo).set (rp'.kp a3.evo.kp a3.evo.pre)).set (rp2.kp a3.evo.kp a3.evo.pre)).set rp3)⟩
/-- a tuple's or a list's items -/
def gSeq (K : PySem.W.Frag) (n : Nat) (t : TGs) : TG := fun v σ H Q => gTup K n t v σ H Q ∨ gLst K n t v σ H Q
theorem pg_seq {ts : List Expr} {kt : Nat} {t : TGs} {n : Nat} {pt : Pos} (hc : X.calm = true) (h : PGs X ts t) (hn : (assignEach ts X.env).length = n) (hst : (assignEach ts X.env).findIdx? (·.1) = none) : PG X (.Tuple ts kt pt) (gSeq X.K n t) :=
  ⟨fun pins s σ H v u Q I r q => q.elim (fun q => (pg_tup (k := kt) (pos := pt) hc h hn hst).run pins s σ H v u Q I r q) fun q => (pg_lst (k := kt) (pos := pt) hc h hn hst).run pins s σ H v u Q I r q⟩
theorem ts_setT {is : List Nat} {ts : List Expr} {e : Expr} {ce : E} {kt : Nat} {n : Nat} {pt pos : Pos} (c : Ctx G X W) (hn : is.length = n) (he : PE X e (TD G W P call ce)) (hg : PG X (.Tuple ts kt pt) (gSeq X.K n (gAll is)))
    (hs : swapsWithSole [.Tuple ts kt pt] e pos.line X.env = pure false) (hw : swappedStores [.Tuple ts kt pt] e X.env = pure none) (h1 : (assignEach [.Tuple ts kt pt] X.env).map (·.2) = [assign (.Tuple ts kt pt) X.env]) :
    PS X (.Assign [.Tuple ts kt pt] e pos) (TDS G W P call (.setT is ce)) := PS.imp (ps_asg he hg hs hw h1) fun D σ H h => by
  obtain ⟨μ, ex, s, env, w, r, f⟩ := h
  unfold exS at f
  refine ⟨μ, ex, s, env, w, r, fs_of f fun d s' e v H' μ' a rp f1 => ?_⟩
  rw [c.hK]
  cases hq : seqOf s' d with
  | none => rw [hq] at f1; exact f1.elim
  | some xs =>
    rw [hq] at f1
    simp only at f1
    split at f1
    rotate_left
    · exact f1.elim
    rename_i hl2
    obtain ⟨b, ys, e1, sq, q⟩ := seqOf_rep a.wd rp hq
    have r' := r.evo a.evo
    have go : gAll is ys σ H' D.nx := gAll_ok is xs ys σ env hl2 q (vs := is) (σ0 := σ) (μ := μ') ⟨r'.len, fun i d _ h => r'.at_ i d h⟩ (fun _ h => h) rfl fun σ2 r2 _ => f1 σ2 H' μ' (Aft.refl a.wd) r2
    rcases sq with sq | sq
    · exact .inr ⟨b, ys, e1, sq, by rw [← q.len, ← hl2, hn], go⟩
    · exact .inl ⟨b, ys, e1, sq, by rw [← q.len, ← hl2, hn], go⟩
/-- names that get a tuple's items in their order: the tuple itself is not told -/
theorem ts_parU {i j : Nat} {ts : List Expr} {a b : Expr} {ca cb : E} {kt k2 : Nat} {pt pt2 pos : Pos} (c : Ctx G X W) (ha : PE X a (TD G W P call ca)) (hb : PE X b (TD G W P call cb)) (hst : noStar [a, b] = true) (hg : PG X (.Tuple ts kt pt) (gSeq X.K 2 (gAll [i, j])))
    (hs : swapsWithSole [.Tuple ts kt pt] (.Tuple [a, b] k2 pt2) pos.line X.env = pure false) (hw : swappedStores [.Tuple ts kt pt] (.Tuple [a, b] k2 pt2) X.env = pure none) (h1 : (assignEach [.Tuple ts kt pt] X.env).map (·.2) = [assign (.Tuple ts kt pt) X.env]) :
    PS X (.Assign [.Tuple ts kt pt] (.Tuple [a, b] k2 pt2) pos) (TDS G W P call (.par i j ca cb)) :=
  PS.imp (ps_asg (pe_tup (pa_cons ha (pa_cons hb pa_nil (star_ok (noStar_tl hst))) (star_ok hst))) hg hs hw h1) fun D σ H h => by
    obtain ⟨μ, ex, s, env, w, r, f⟩ := h
    unfold exS at f
    refine ⟨μ, ex, s, env, w, r, fs_of f fun d s' e v H' μ' a rp f1 => ?_⟩
    refine ⟨μ', ex, s', env, a.wd, r.evo a.evo, fs_of f1 fun d' s2 e2 v' H2 μ2 a2 rp2 f2 => ?_⟩
    refine ⟨small_line (by simp), fun p hp => .inl ⟨p, [v, v'], rfl, SqT.of upd_same, rfl, ?_⟩⟩
    have a3 : Aft G μ2 ex s2 H2 μ2 s2 (upd H2 p (.tup [v, v'])) := Aft.alloc a2.wd hp
    have r3 := ((r.evo a.evo).evo a2.evo).evo a3.evo
    refine ⟨v, [v'], rfl, v', [], rfl, rfl, ?_⟩
    exact f2 _ _ μ2 a3 ((r3.set ((rp.kp a2.evo.kp a2.evo.pre).kp a3.evo.kp a3.evo.pre)).set (rp2.kp a3.evo.kp a3.evo.pre))
theorem ts_parU3 {i j l : Nat} {ts : List Expr} {a b e : Expr} {ca cb ce : E} {kt k2 : Nat} {pt pt2 pos : Pos} (c : Ctx G X W) (ha : PE X a (TD G W P call ca)) (hb : PE X b (TD G W P call cb)) (he : PE X e (TD G W P call ce)) (hst : noStar [a, b, e] = true) (hg : PG X (.Tuple ts kt pt) (gSeq X.K 3 (gAll [i, j, l])))
    (hs : swapsWithSole [.Tuple ts kt pt] (.Tuple [a, b, e] k2 pt2) pos.line X.env = pure false) (hw : swappedStores [.Tuple ts kt pt] (.Tuple [a, b, e] k2 pt2) X.env = pure none) (h1 : (assignEach [.Tuple ts kt pt] X.env).map (·.2) = [assign (.Tuple ts kt pt) X.env]) :
    PS X (.Assign [.Tuple ts kt pt] (.Tuple [a, b, e] k2 pt2) pos) (TDS G W P call (.par3 i j l ca cb ce)) :=
  PS.imp (ps_asg (pe_tup (pa_cons ha (pa_cons hb (pa_cons he pa_nil (star_ok (noStar_tl (noStar_tl hst)))) (star_ok (noStar_tl hst))) (star_ok hst))) hg hs hw h1) fun D σ H h => by
    obtain ⟨μ, ex, s, env, w, r, f⟩ := h
    unfold exS at f
    refine ⟨μ, ex, s, env, w, r, fs_of f fun d s' e v H' μ' a rp f1 => ?_⟩
    refine ⟨μ', ex, s', env, a.wd, r.evo a.evo, fs_of f1 fun d' s2 e2 v' H2 μ2 a2 rp2 f2 => ?_⟩
    refine ⟨μ2, ex, s2, env, a2.wd, (r.evo a.evo).evo a2.evo, fs_of f2 fun d'' s3 e3 v'' H3 μ3 a3 rp3 f3 => ?_⟩
    refine ⟨small_line (by simp), fun p hp => .inl ⟨p, [v, v', v''], rfl, SqT.of upd_same, rfl, ?_⟩⟩
    have a4 : Aft G μ3 ex s3 H3 μ3 s3 (upd H3 p (.tup [v, v', v''])) := Aft.alloc a3.wd hp
    have r4 := (((r.evo a.evo).evo a2.evo).evo a3.evo).evo a4.evo
    have q1 := ((rp.kp a2.evo.kp a2.evo.pre).kp a3.evo.kp a3.evo.pre).kp a4.evo.kp a4.evo.pre
    have q2 := (rp2.kp a3.evo.kp a3.evo.pre).kp a4.evo.kp a4.evo.pre
    refine ⟨v, [v', v''], rfl, v', [v''], rfl, v'', [], rfl, rfl, ?_⟩
    exact f3 _ _ μ3 a4 (((r4.set q1).set q2).set (rp3.kp a4.evo.kp a4.evo.pre))
/-! ### stores -/
theorem pset_or {t t' : TSet} (h : PSet X t) (h' : PSet X t') : PSet X (fun o i v H Q => t o i v H Q ∨ t' o i v H Q) := fun pins s σ H o i v ov iv u Q I ro ri rv q => q.elim (h pins s σ H o i v ov iv u Q I ro ri rv) (h' pins s σ H o i v ov iv u Q I ro ri rv)
theorem RepL.set {M : Addr → Prop} {v : DV} {y : V} (hv : RepT G M H v y) : ∀ {ds : List DV} {xs : List V} {j : Nat}, RepL G M H ds xs → RepL G M H (ds.set j v) (xs.set j y)
  | [], _, _, h => by rw [show _ = [] from h]; rfl
  | d :: ds, _, 0, ⟨x, r, e, h, t⟩ => by subst e; exact ⟨y, r, rfl, hv, t⟩
  | d :: ds, _, j + 1, ⟨x, r, e, h, t⟩ => by subst e; exact ⟨x, _, rfl, h, RepL.set hv t⟩
/-- a cell written, by values -/
theorem put_ok {a k z : DV} {x y v : V} {env : Env} {D : Ends} (w : Wd G μ ex s H) (ra : Rep G μ (Mu μ s ex) H a x) (rk : Rep G μ (Mu μ s ex) H k y) (rv : RepT G (Mu μ s ex) H z v) (renv : EnvR G μ (Mu μ s ex) H σ env)
    (f : FinS G W μ ex s H ((putAt a k z s).bind fun _ s5 => .ok (.nxt env) s5) D) : rSetL x y v H (fun H3 => D.nx σ H3) ∨ rSetD x y v H (fun H3 => D.nx σ H3) := by
  cases a with
  | loc n =>
    obtain ⟨p, e1, hμ⟩ := ra
    subst e1
    unfold putAt at f
    simp only at f
    cases hs : s[n]? with
    | none => rw [hs] at f; exact f.elim
    | some c =>
      rw [hs] at f
      have q := w.cells n p c hμ hs
      cases c with
      | dct kvs =>
        simp only at f
        cases hk : skOf k with
        | none => rw [hk] at f; exact f.elim
        | some sk =>
          rw [hk] at f
          simp only at f
          split at f
          rotate_left
          · exact f.elim
          rename_i hlen
          obtain ⟨j, e2, e3, e4⟩ := sk_of rk hk
          subst e2 e3 e4
          obtain ⟨kx, hp, rq⟩ := q
          refine .inr ⟨p, _, rfl, .inl ⟨kx, j, hp, rfl, ?_, rfl⟩, ?_⟩
          · rw [← LIM_eq]
            have : ∀ {ds : List (DV × DV)} {xs : List (Key × V)}, RepQ G μ (Mu μ s ex) H ds xs → xs.length = ds.length := by
              intro ds
              induction ds with
              | nil => intro xs h; rw [show xs = [] from h]; rfl
              | cons d ds ih =>
                intro xs h
                obtain ⟨q, d⟩ := d
                obtain ⟨k, x, r, e, _, _, t⟩ := h
                subst e
                simp [ih t]
            rw [this rq]; exact hlen
          · have m : Mu μ s ex p := .inr ⟨n, _, hμ, hs, rfl⟩
            have k5 : Keep (Mu μ s ex) (Mu μ s ex) H (upd H p (.dK (putK kx j v))) := Keep.write m (fun _ z => by rw [hp] at z; cases z) (fun _ _ z => by rw [hp] at z; cases z) (fun _ z => by rw [hp] at z; cases z)
            have a5 := Aft.write (c' := .dct (dput (kSK j) z kvs)) (o := .dK (putK kx j v)) w hμ hs rfl rfl ⟨_, upd_same, RepQ.kp k5 (fun _ _ h => h) _ _ (rq.put (Rep.tree rv))⟩
            exact f σ _ μ a5 (renv.evo a5.evo)
      | lst xs =>
        simp only at f
        cases k with
        | int i =>
          simp only at f
          cases hj : ixOf xs.length i with
          | none => rw [hj] at f; exact f.elim
          | some j =>
            rw [hj] at f
            obtain ⟨ys, hp, rl⟩ := q
            refine .inl ⟨p, ys, i, j, rfl, rk, hp, by rw [← rl.len]; exact hj, ?_⟩
            have m : Mu μ s ex p := .inr ⟨n, _, hμ, hs, rfl⟩
            have k5 : Keep (Mu μ s ex) (Mu μ s ex) H (upd H p (.lst (ys.set j v))) := Keep.write m (fun _ z => by rw [hp] at z; cases z) (fun _ _ z => by rw [hp] at z; cases z) (fun _ z => by rw [hp] at z; cases z)
            have a5 := Aft.write (c' := .lst (xs.set j z)) (o := .lst (ys.set j v)) w hμ hs rfl rfl ⟨_, upd_same, RepL.kp k5 _ _ (RepL.set rv rl)⟩
            exact f σ _ μ a5 (renv.evo a5.evo)
        | _ => exact f.elim
      | ins c' gs => exact f.elim
      | frz d => exact f.elim
  | _ => exact f.elim
theorem ts_put {o i e : Expr} {co ci ce : E} {pos pos' : Pos} (c : Ctx G X W) (ho : PE X o (TD G W P call co)) (hi : PE X i (TD G W P call ci)) (he : PE X e (TD G W P call ce))
    (ha : ∀ v, assign (.Subscript o i pos') X.env v = (do
      let ov ← holding [v] (eval o X.env)
      let iv ← holding [v, ov] (eval i X.env)
      standAt pos'
      holding [v, ov, iv] (setItem ov iv v)
      release [v, ov, iv] []))
    (hs : swapsWithSole [.Subscript o i pos'] e pos.line X.env = pure false) (hw : swappedStores [.Subscript o i pos'] e X.env = pure none) (h1 : (assignEach [.Subscript o i pos'] X.env).map (·.2) = [assign (.Subscript o i pos') X.env]) :
    PS X (.Assign [.Subscript o i pos'] e pos) (TDS G W P call (.put co ci ce)) :=
  PS.imp (ps_asg he (pg_sub ho hi (pset_or set_list (set_dict (by have := c.un; omega))) ha) hs hw h1) fun D σ H h => by
    obtain ⟨μ, ex, s, env, w, r, f⟩ := h
    unfold exS at f
    refine ⟨μ, ex, s, env, w, r, fs_of f fun z s1 e1 v H1 μ1 a1 rz f1 => ?_⟩
    refine ⟨μ1, ex, s1, env, a1.wd, r.evo a1.evo, fs_of f1 fun x s2 e2 xv H2 μ2 a2 rx f2 => ?_⟩
    have r2 := (r.evo a1.evo).evo a2.evo
    refine ⟨μ2, ex, s2, env, a2.wd, r2, fs_of f2 fun y s3 e3 yv H3 μ3 a3 ry f3 => ?_⟩
    have a23 := a2.trans a3
    obtain ⟨z', s4, e4, a4, rz4, f4⟩ := fe_of a3.wd (rz.kp a23.evo.kp a23.evo.pre) f3
    exact put_ok a4.wd ((rx.kp a3.evo.kp a3.evo.pre).kp a4.evo.kp a4.evo.pre) (ry.kp a4.evo.kp a4.evo.pre) rz4 ((r2.evo a3.evo).evo a4.evo) f4
end
end WS
set_option maxRecDepth 100000
set_option maxHeartbeats 2000000
/-! D18: loops; append, pop; fields. -/
namespace WS
open PySem PySem.Spec PyProof.Rows L2
/-- the target's store in a loop -/
def TgF (G : Lk) (t : Tg) (g : TG) : Prop := ∀ (μ : List Addr) (M : Addr → Prop) (H : Hp) (σ : L2.St) (env env' : Env) (d : DV) (x : V) (Q : L2.St → Hp → Prop), EnvR G μ M H σ env → setTg env t d = some env' → RepT G M H d x → (∀ σ2, EnvR G μ M H σ2 env' → Q σ2 H) → g x σ H Q
section
variable {G : Lk} {X : Cx} {W : WX} {P : Pg} {call : Nat → List DV → M DV} {tg : Expr}
theorem tf_one {i : Nat} : TgF G (.one i) (gName i) := by
  intro μ M H σ env env' d x Q r e rx k
  have e : env.set i (some d) = env' := by simpa [setTg] using e
  subst e
  exact k _ (r.set (Rep.tree rx))
theorem tf_many {is : List Nat} {n : Nat} (hn : is.length = n) : TgF G (.many is) (gTup G.K n (gAll is)) := by
  intro μ M H σ env env' d x Q r e rx k
  cases d with
  | tup xs =>
    obtain ⟨a, ys, e1, h, q⟩ := rx
    simp only [setTg, setAll] at e
    split at e
    · rename_i hl
      cases e
      exact ⟨a, ys, e1, h, by rw [← q.len, ← hl, hn], gAll_ok is xs ys _ env hl q (vs := is) (σ0 := σ) ⟨r.len, fun i d _ h => r.at_ i d h⟩ (fun _ h => h) rfl fun σ2 r2 _ => k σ2 r2⟩
    · cases e
  | _ => simp [setTg, setAll] at e
theorem for_of {t : Tg} {g : TG} {cs : Sr} {cb : List St} {D : Ends} {σ : L2.St} {H : Hp} (hgt : TgF G t g) (h : TDS G W P call (.forS t cs cb) D σ H) : tFor (TDi G W P call cs) g (TDB G W P call cb) D σ H := by
  obtain ⟨μ, ex, s, env, w, r, f⟩ := h
  unfold exS at f
  refine ⟨μ, ex, s, env, w, r, fi_of f fun q s1 e1 J H1 μ1 a1 wk f1 => ?_⟩
  have r1 := r.evo a1.evo
  refine ⟨fun i m σ H => m = q.xs.length - i ∧ i ≤ q.xs.length ∧ ∃ μ2 s2 env2, Aft G μ1 ex s1 H1 μ2 s2 H ∧ EnvR G μ2 (Mu μ2 s2 ex) H σ env2 ∧ FinS G W μ2 ex s2 H (forL q.ok (fun d env s => match setTg env t d with
    | some e => exSs P call cb e s
    | none => .stuck) (q.xs.drop i) env2 s2) D, ⟨_, rfl, Nat.zero_le _, μ1, s1, env, Aft.refl a1.wd, r1, f1⟩, ?_⟩
  rintro i m σ2 H2 ⟨rfl, hi, μ2, s2, env2, a2, r2, f2⟩
  by_cases hlt : i < q.xs.length
  · have hd : q.xs.drop i = q.xs[i] :: q.xs.drop (i + 1) := List.drop_eq_getElem_cons hlt
    rw [hd] at f2
    unfold forL at f2
    split at f2
    rotate_left
    · exact f2.elim
    rename_i ho
    refine .inr ⟨wk.go i μ2 ex s2 H2 a2.wd a2.evo.kp a2.evo.pre ho hlt, _, fun σ' H' nx => ⟨q.xs.length - (i + 1), by omega, rfl, hlt, nx⟩, fun x H' y => ?_⟩
    obtain ⟨a3, rx⟩ := wk.yld i μ2 ex s2 H2 x H' _ a2.wd a2.evo.kp a2.evo.pre ho (List.getElem?_eq_getElem hlt) y
    cases hs : setTg env2 t q.xs[i] with
    | none => rw [hs] at f2; exact f2.elim
    | some env' =>
      rw [hs] at f2
      refine hgt μ2 _ H' σ2 env2 env' _ x _ (r2.evo a3.evo) hs rx fun σ3 r3 => ?_
      have f3 := FinS.from a3 f2
      refine ⟨μ2, ex, s2, env', a3.wd, r3, ?_⟩
      simp only at f3
      cases hb : exSs P call cb env' s2 with
      | stuck => rw [hb] at f3; exact f3
      | err c gs s4 => rw [hb] at f3; exact f3
      | ok fl s4 =>
        rw [hb] at f3
        cases fl with
        | nxt e => exact fun σ' H4 μ4 a4 r4 => ⟨μ4, s4, e, (a2.trans a3).trans a4, r4, FinS.from a4 f3⟩
        | cnt e => exact fun σ' H4 μ4 a4 r4 => ⟨μ4, s4, e, (a2.trans a3).trans a4, r4, FinS.from a4 f3⟩
        | brk e => exact f3
        | ret d => exact f3
  · have e : i = q.xs.length := by omega
    subst e
    rw [List.drop_length] at f2
    unfold forL at f2
    split at f2
    · rename_i ho
      exact .inl ⟨wk.stop _ μ2 ex s2 H2 a2.wd a2.evo.kp a2.evo.pre ho (Nat.le_refl _), f2 σ2 H2 μ2 (Aft.refl a2.wd) r2⟩
    · exact f2.elim
theorem ts_for {iter : Expr} {body : List Stmt} {t : Tg} {g : TG} {cs : Sr} {cb : List St} {pos : Pos} (c : Ctx G X W) (hgt : TgF G t g) (hi : PI X tg iter (TDi G W P call cs)) (hg : PG X tg g) (hb : PSs X body (TDB G W P call cb))
    (hs : ∀ x, foldedSetIterable iter X.env x = pure x) : PS X (.For tg iter body [] pos) (TDS G W P call (.forS t cs cb)) := PS.imp (ps_for c.po c.calm hi hg hb hs) fun D σ H h => for_of hgt h
theorem whl_of {cc : E} {cb : List St} {D : Ends} {σ : L2.St} {H : Hp} (h : TDS G W P call (.whl cc cb) D σ H) : tWhile (TDt G W P call cc) (TDB G W P call cb) D σ H := by
  obtain ⟨μ, ex, s, env, w, r, f⟩ := h
  unfold exS at f
  have hx : ∃ r k, iterW (fun env s => asB (ev P call cc env s)) (fun env => exSs P call cb env) k env s = some r ∧ FinS G W μ ex s H r D := by
    by_cases hx : ∃ r, ∃ k, iterW (fun env s => asB (ev P call cc env s)) (fun env => exSs P call cb env) k env s = some r
    · obtain ⟨r, k, hk⟩ := hx
      exact ⟨r, k, hk, by rw [whileM_of hk] at f; exact f⟩
    · unfold whileM at f
      rw [dif_neg hx] at f
      exact f.elim
  obtain ⟨r0, k0, h0, f0⟩ := hx
  refine ⟨fun m σ H => ∃ μ s env r, Wd G μ ex s H ∧ EnvR G μ (Mu μ s ex) H σ env ∧ iterW (fun env s => asB (ev P call cc env s)) (fun env => exSs P call cb env) m env s = some r ∧ FinS G W μ ex s H r D, ⟨k0, μ, s, env, r0, w, r, h0, f0⟩, ?_⟩
  rintro m σ H ⟨μ, s, env, r0, w, r, h0, f0⟩
  cases m with
  | zero => simp [iterW] at h0
  | succ m =>
    unfold iterW at h0
    refine ⟨μ, ex, s, env, w, r, ?_⟩
    cases hc : ev P call cc env s with
    | stuck =>
      rw [hc] at h0
      have h0 : some Res.stuck = some r0 := h0
      cases h0
      exact f0
    | err c gs s1 =>
      rw [hc] at h0
      have h0 : some (Res.err c gs s1) = some r0 := h0
      cases h0
      exact fun cls dd H' μ' a q => f0 cls dd σ H' μ' a q
    | ok d s1 =>
      rw [hc] at h0
      cases d with
      | bl b =>
        intro v H1 μ1 a1 rv
        refine ⟨b, rv, ?_⟩
        cases b with
        | false =>
          have h0 : some (Res.ok (Flow.nxt env) s1) = some r0 := h0
          cases h0
          exact f0 σ H1 μ1 a1 (r.evo a1.evo)
        | true =>
          show ∃ N, _
          refine ⟨_, fun σ' H' nx => ⟨m, Nat.lt_succ_self m, nx⟩, ?_⟩
          refine ⟨μ1, ex, s1, env, a1.wd, r.evo a1.evo, ?_⟩
          simp only [asB, bind_ok] at h0
          have f1 := FinS.from a1 f0
          cases hb : exSs P call cb env s1 with
          | stuck =>
            rw [hb] at h0
            have h0 : some Res.stuck = some r0 := h0
            cases h0
            exact f1
          | err c gs s2 =>
            rw [hb] at h0
            have h0 : some (Res.err c gs s2) = some r0 := h0
            cases h0
            exact f1
          | ok fl s2 =>
            rw [hb] at h0
            cases fl with
            | nxt e => exact fun σ' H4 μ4 a4 r4 => ⟨μ4, s2, e, r0, a4.wd, r4, h0, FinS.from a4 (FinS.from a1 f0)⟩
            | cnt e => exact fun σ' H4 μ4 a4 r4 => ⟨μ4, s2, e, r0, a4.wd, r4, h0, FinS.from a4 (FinS.from a1 f0)⟩
            | brk e =>
              have h0 : some (Res.ok (Flow.nxt e) s2) = some r0 := h0
              cases h0
              exact f1
            | ret d =>
              have h0 : some (Res.ok (Flow.ret d) s2) = some r0 := h0
              cases h0
              exact f1
      | _ =>
        have h0 : some Res.stuck = some r0 := h0
        cases h0
        exact f0.elim
theorem ts_while {e : Expr} {body : List Stmt} {cc : E} {cb : List St} {pos : Pos} (c : Ctx G X W) (hc : PT X e (TDt G W P call cc)) (hb : PSs X body (TDB G W P call cb)) : PS X (.While e body [] pos) (TDS G W P call (.whl cc cb)) := PS.imp (ps_while c.po hc hb) fun D σ H h => whl_of h
/-! ### lists changed -/
def plainBase : Expr → Bool
  | .Call (.Name _ _) [] [] _ => false
  | _ => true
theorem base_ok {o : Expr} {f : Str} {env : PySem.Env} {m : Sem Value} (h : plainBase o = true) : attributeBase o f env m = m := by
  unfold attributeBase
  split
  · simp [plainBase] at h
  · rfl
theorem few1 {e : Expr} {env : PySem.Env} {pos : Pos} (h : noStar [e] = true) : ((backTo pos (starEach [e] env)).all (fun x => !x.1) && (backToKw pos (keywordEach [] env)).all (fun x => x.1.isSome)
      && decide (([e] : List Expr).length + ([] : List Keyword).length + (if ([] : List Keyword).isEmpty then 0 else 1) < 30)) = true := by
  rw [star_ok h]
  rfl
theorem ts_app {o e : Expr} {co ce : E} {ap cp pos : Pos} (c : Ctx G X W) (ho : PE X o (TD G W P call co)) (he : PE X e (TD G W P call ce)) (hb : plainBase o = true) (hst : noStar [e] = true) (hl : (ap.endLine == cp.line) = true) :
    PS X (.Expr (.Call (.Attribute o "append" ap) [e] [] cp) pos) (TDS G W P call (.app co ce)) :=
  PS.imp (ps_expr (pe_bm (T := "list") (id := "list.append") F.plainAttrs_list F.slot_list_append F.type_list_append mt_append ho (pa_cons he pa_nil (star_ok hst)) (base_ok hb) (few1 hst) hl (star_ok hst) rfl) rfl) fun D σ H h => by
    obtain ⟨μ, ex, s, env, w, r, f⟩ := h
    unfold exS at f
    refine ⟨μ, ex, s, env, w, r, fs_of f fun d s1 e1 x H1 μ1 a1 rx f1 => ?_⟩
    have r1 := r.evo a1.evo
    split at f1
    rotate_left
    · exact f1.elim
    rename_i hls
    obtain ⟨zs, hls⟩ := Option.isSome_iff_exists.mp hls
    obtain ⟨p, ys, ev, hp, rl⟩ := listOf_rep a1.wd rx hls
    subst ev
    refine ⟨.inl ⟨rfl, ys, SqL.of hp⟩, ?_⟩
    refine ⟨μ1, ex, s1, env, a1.wd, r1, fs_of f1 fun d2 s2 e2 y H2 μ2 a2 ry f2 => ?_⟩
    obtain ⟨d3, s3, e3, a3, ry3, f3⟩ := fe_of a2.wd ry f2
    have a23 := a2.trans a3
    cases d with
    | loc n =>
      obtain ⟨p', e4, hμ⟩ := rx
      cases e4
      have hμ2 := a23.evo.pre n p hμ
      unfold appAt at f3
      simp only at f3
      cases hs : s3[n]? with
      | none => rw [hs] at f3; exact f3.elim
      | some cl =>
        rw [hs] at f3
        have q := a3.wd.cells n p cl hμ2 hs
        cases cl with
        | lst xs =>
          simp only at f3
          split at f3
          · rename_i hlen
            obtain ⟨ys2, hp2, rl2⟩ := q
            refine ⟨p, ys2, y, rfl, rfl, hp2, by rw [← rl2.len, ← LIM_eq]; exact hlen, ?_⟩
            have m : Mu μ2 s3 ex p := .inr ⟨n, _, hμ2, hs, rfl⟩
            have k5 : Keep (Mu μ2 s3 ex) (Mu μ2 s3 ex) H2 (upd H2 p (.lst (ys2 ++ [y]))) := Keep.write m (fun _ z => by rw [hp2] at z; cases z) (fun _ _ z => by rw [hp2] at z; cases z) (fun _ z => by rw [hp2] at z; cases z)
            have a5 := Aft.write (c' := .lst (xs ++ [d3])) (o := .lst (ys2 ++ [y])) a3.wd hμ2 hs rfl rfl ⟨_, upd_same, RepL.append (RepL.kp k5 _ _ rl2) ⟨_, _, rfl, RepT.kp k5 _ _ ry3, rfl⟩⟩
            exact f3 σ _ μ2 a5 ((r1.evo a23.evo).evo a5.evo)
          · exact f3.elim
        | _ => exact f3.elim
    | _ => exact f3.elim
theorem few2 {e e' : Expr} {env : PySem.Env} {pos : Pos} (h : noStar [e, e'] = true) : ((backTo pos (starEach [e, e'] env)).all (fun x => !x.1) && (backToKw pos (keywordEach [] env)).all (fun x => x.1.isSome)
      && decide (([e, e'] : List Expr).length + ([] : List Keyword).length + (if ([] : List Keyword).isEmpty then 0 else 1) < 30)) = true := by
  rw [star_ok h, star_ok (noStar_tl h)]
  rfl
theorem RepL.ins {M : Addr → Prop} {H : Hp} {d : DV} {v : V} {ds : List DV} {xs : List V} {j : Nat} (h : RepL G M H ds xs) (hv : RepT G M H d v) : RepL G M H (ds.take j ++ [d] ++ ds.drop j) (xs.take j ++ [v] ++ xs.drop j) := by
  have tk : ∀ {j : Nat} {ds : List DV} {xs : List V}, RepL G M H ds xs → RepL G M H (ds.take j) (xs.take j) ∧ RepL G M H (ds.drop j) (xs.drop j) := by
    intro j
    induction j with
    | zero => intro ds xs h; exact ⟨by simp only [List.take_zero]; rfl, by simpa using h⟩
    | succ j ih =>
      intro ds xs h
      cases ds with
      | nil => rw [show xs = [] from h]; exact ⟨by simp only [List.take_nil]; rfl, by simp only [List.drop_nil]; rfl⟩
      | cons a r =>
        obtain ⟨x, t, e, h1, h2⟩ := id h
        subst e
        obtain ⟨q1, q2⟩ := ih h2
        exact ⟨⟨x, _, rfl, h1, q1⟩, q2⟩
  obtain ⟨q1, q2⟩ := tk (j := j) h
  exact RepL.append (RepL.append q1 ⟨_, _, rfl, hv, rfl⟩) q2
theorem ts_ins {o ei e : Expr} {co ci ce : E} {ap cp pos : Pos} (c : Ctx G X W) (ho : PE X o (TD G W P call co)) (hi : PE X ei (TD G W P call ci)) (he : PE X e (TD G W P call ce)) (hb : plainBase o = true) (hst : noStar [ei, e] = true) (hl : (ap.endLine == cp.line) = true) :
    PS X (.Expr (.Call (.Attribute o "insert" ap) [ei, e] [] cp) pos) (TDS G W P call (.insr co ci ce)) :=
  PS.imp (ps_expr (pe_bm (T := "list") (id := "list.insert") F.plainAttrs_list F.slot_list_insert F.type_list_insert mt_insert ho (pa_cons hi (pa_cons he pa_nil (star_ok (noStar_tl hst))) (star_ok hst)) (base_ok hb) (few2 hst) hl (star_ok hst) (by rw [star_ok (noStar_tl hst)]; rfl)) rfl) fun D σ H h => by
    obtain ⟨μ, ex, s, env, w, r, f⟩ := h
    unfold exS at f
    refine ⟨μ, ex, s, env, w, r, fs_of f fun d s1 e1 x H1 μ1 a1 rx f1 => ?_⟩
    have r1 := r.evo a1.evo
    split at f1
    rotate_left
    · exact f1.elim
    rename_i hls
    obtain ⟨zs, hls⟩ := Option.isSome_iff_exists.mp hls
    obtain ⟨p, ys, ev, hp, rl⟩ := listOf_rep a1.wd rx hls
    subst ev
    refine ⟨.inl ⟨rfl, ys, SqL.of hp⟩, ?_⟩
    refine ⟨μ1, ex, s1, env, a1.wd, r1, fs_of f1 fun di si ei yi Hi μi ai ri fi => ?_⟩
    have r1i := r1.evo ai.evo
    refine ⟨μi, ex, si, env, ai.wd, r1i, fs_of fi fun d2 s2 e2 y H2 μ2 a2 ry f2 => ?_⟩
    obtain ⟨d3, s3, e3, a3, ry3, f3⟩ := fe_of a2.wd ry f2
    have a23 := ai.trans (a2.trans a3)
    have ri3 := (ri.kp a2.evo.kp a2.evo.pre).kp a3.evo.kp a3.evo.pre
    cases d with
    | loc n =>
      obtain ⟨p', e4, hμ⟩ := rx
      cases e4
      have hμ2 := a23.evo.pre n p hμ
      cases di with
      | int j =>
        cases (show yi = .int j from ri)
        unfold insAt at f3
        simp only at f3
        cases hs : s3[n]? with
        | none => rw [hs] at f3; exact f3.elim
        | some cl =>
          rw [hs] at f3
          have q := a3.wd.cells n p cl hμ2 hs
          cases cl with
          | lst xs =>
            simp only at f3
            split at f3
            · rename_i hlen
              obtain ⟨ys2, hp2, rl2⟩ := q
              refine ⟨p, ys2, j, y, rfl, rfl, hp2, by rw [← rl2.len, ← LIM_eq]; exact hlen.1, hlen.2.1, hlen.2.2, ?_⟩
              have m : Mu μ2 s3 ex p := .inr ⟨n, _, hμ2, hs, rfl⟩
              have k5 : Keep (Mu μ2 s3 ex) (Mu μ2 s3 ex) H2 (upd H2 p (.lst (ys2.take j.toNat ++ [y] ++ ys2.drop j.toNat))) := Keep.write m (fun _ z => by rw [hp2] at z; cases z) (fun _ _ z => by rw [hp2] at z; cases z) (fun _ z => by rw [hp2] at z; cases z)
              have a5 := Aft.write (c' := .lst (xs.take j.toNat ++ [d3] ++ xs.drop j.toNat)) (o := .lst (ys2.take j.toNat ++ [y] ++ ys2.drop j.toNat)) a3.wd hμ2 hs rfl rfl ⟨_, upd_same, RepL.ins (RepL.kp k5 _ _ rl2) (RepT.kp k5 _ _ ry3)⟩
              exact f3 σ _ μ2 a5 ((r1.evo a23.evo).evo a5.evo)
            · exact f3.elim
          | _ => exact f3.elim
      | _ => exact f3.elim
    | _ => exact f3.elim
theorem sd_pop0 {o : Expr} {co : E} {ap cp p1 : Pos} {j} (c : Ctx G X W) (ho : PE X o (TD G W P call co)) (hb : plainBase o = true) (hl : (ap.endLine == cp.line) = true) :
    PE X (.Call (.Attribute o "pop" ap) [.Constant (.int 0) j p1] [] cp) (TD G W P call (.pop0 co)) :=
  PE.imp (pe_bm (T := "list") (id := "list.pop") F.plainAttrs_list F.slot_list_pop F.type_list_pop mt_popAt ho (pa_cons pe_int pa_nil rfl) (base_ok hb) rfl hl rfl rfl) fun σ H Q h => by
    obtain ⟨μ, ex, s, env, w, r, f⟩ := h
    unfold ev at f
    refine td_of w r f fun v H1 d s1 μ1 e a1 rp r1 f1 => ?_
    cases d with
    | loc n =>
      obtain ⟨p, e4, hμ⟩ := rp
      subst e4
      unfold popAt at f1
      simp only at f1
      cases hs : s1[n]? with
      | none => rw [hs] at f1; exact f1.elim
      | some cl =>
        rw [hs] at f1
        have q := a1.wd.cells n p cl hμ hs
        cases cl with
        | lst xs =>
          simp only [if_true] at f1
          cases xs with
          | nil => exact f1.elim
          | cons x xr =>
            obtain ⟨ys, hp, x', r', e5, rx, rr⟩ := q
            subst e5
            refine ⟨.inl ⟨rfl, _, SqL.of hp⟩, ?_⟩
            refine ⟨p, _, 0, 0, x', rfl, rfl, hp, by omega, by omega, by simp [seqIndex?], rfl, ?_⟩
            have m : Mu μ1 s1 ex p := .inr ⟨n, _, hμ, hs, rfl⟩
            have k5 : Keep (Mu μ1 s1 ex) (Mu μ1 s1 ex) H1 (upd H1 p (.lst r')) := Keep.write m (fun _ z => by rw [hp] at z; cases z) (fun _ _ z => by rw [hp] at z; cases z) (fun _ z => by rw [hp] at z; cases z)
            have a5 := Aft.write (c' := .lst xr) (o := .lst r') a1.wd hμ hs rfl rfl ⟨_, upd_same, RepL.kp k5 _ _ rr⟩
            exact f1 _ _ μ1 a5 (Rep.tree (RepT.kp a5.evo.kp _ _ rx))
        | _ => exact f1.elim
    | _ => exact f1.elim
theorem RepL.last {M : Addr → Prop} {H : Hp} {ds : List DV} {xs : List V} {d : DV} (h : RepL G M H ds xs) (e : ds.getLast? = some d) : ∃ x, xs[xs.length - 1]? = some x ∧ RepT G M H d x := by
  rw [List.getLast?_eq_getElem?] at e
  rw [← h.len]
  exact h.get e
theorem RepL.dropLast {M : Addr → Prop} {H : Hp} : ∀ {ds : List DV} {xs : List V}, RepL G M H ds xs → RepL G M H ds.dropLast xs.dropLast
  | [], _, h => by rw [show _ = [] from h]; rfl
  | [d], _, ⟨x, r, e, h, t⟩ => by rw [show r = [] from t] at e; subst e; rfl
  | d :: d' :: ds, _, ⟨x, r, e, h, t⟩ => by
    obtain ⟨x', r', e', h', t'⟩ := id t
    subst e' e
    exact ⟨x, _, rfl, h, RepL.dropLast t⟩
theorem sd_popL {o : Expr} {co : E} {ap cp : Pos} (c : Ctx G X W) (ho : PE X o (TD G W P call co)) (hb : plainBase o = true) (hl : (ap.endLine == cp.line) = true) :
    PE X (.Call (.Attribute o "pop" ap) [] [] cp) (TD G W P call (.popL co)) :=
  PE.imp (pe_bm0 (T := "list") (id := "list.pop") F.plainAttrs_list F.slot_list_pop F.type_list_pop mt_pop ho (base_ok hb) hl) fun σ H Q h => by
    obtain ⟨μ, ex, s, env, w, r, f⟩ := h
    unfold ev at f
    refine td_of w r f fun v H1 d s1 μ1 e a1 rp r1 f1 => ?_
    cases d with
    | loc n =>
      obtain ⟨p, e4, hμ⟩ := rp
      subst e4
      unfold popAt at f1
      simp only at f1
      cases hs : s1[n]? with
      | none => rw [hs] at f1; exact f1.elim
      | some cl =>
        rw [hs] at f1
        have q := a1.wd.cells n p cl hμ hs
        cases cl with
        | lst xs =>
          simp only [Bool.false_eq_true, if_false] at f1
          cases hx : xs.getLast? with
          | none => rw [hx] at f1; exact f1.elim
          | some x =>
            rw [hx] at f1
            obtain ⟨ys, hp, rl⟩ := q
            obtain ⟨x', hx', rx⟩ := rl.last hx
            refine ⟨.inl ⟨rfl, _, SqL.of hp⟩, ?_⟩
            refine ⟨p, ys, x', rfl, rfl, hp, hx', ?_⟩
            have m : Mu μ1 s1 ex p := .inr ⟨n, _, hμ, hs, rfl⟩
            have k5 : Keep (Mu μ1 s1 ex) (Mu μ1 s1 ex) H1 (upd H1 p (.lst ys.dropLast)) := Keep.write m (fun _ z => by rw [hp] at z; cases z) (fun _ _ z => by rw [hp] at z; cases z) (fun _ z => by rw [hp] at z; cases z)
            have a5 := Aft.write (c' := .lst xs.dropLast) (o := .lst ys.dropLast) a1.wd hμ hs rfl rfl ⟨_, upd_same, RepL.kp k5 _ _ rl.dropLast⟩
            exact f1 _ _ μ1 a5 (Rep.tree (RepT.kp a5.evo.kp _ _ rx))
        | _ => exact f1.elim
    | _ => exact f1.elim
theorem RepL.erase {M : Addr → Prop} {H : Hp} : ∀ {ds : List DV} {xs : List V} {m : Nat}, RepL G M H ds xs → RepL G M H (ds.eraseIdx m) (xs.eraseIdx m)
  | [], _, m, h => by rw [show _ = [] from h]; simp only [List.eraseIdx_nil]; rfl
  | d :: ds, _, 0, ⟨x, r, e, h, t⟩ => by subst e; exact t
  | d :: ds, _, m + 1, ⟨x, r, e, h, t⟩ => by subst e; exact ⟨x, _, rfl, h, RepL.erase t⟩
theorem ix_seq {n m : Nat} {j : Int} (h : ixOf n j = some m) : seqIndex? j n = some m := by
  unfold ixOf at h
  unfold seqIndex?
  split at h
  · rename_i h0
    split at h
    · rename_i h1
      cases h
      have : ¬ j < 0 := by omega
      simp [this, h0, h1]
    · cases h
  · rename_i h0
    split at h
    · rename_i h1
      cases h
      have a : j < 0 := by omega
      have b : 0 ≤ j + (n : Int) := by omega
      have c : j + (n : Int) < n := by omega
      simp [a, b, c]
    · cases h
theorem sd_popI {o e : Expr} {co ce : E} {ap cp : Pos} (c : Ctx G X W) (ho : PE X o (TD G W P call co)) (he : PE X e (TD G W P call ce)) (hb : plainBase o = true) (hst : noStar [e] = true) (hl : (ap.endLine == cp.line) = true) :
    PE X (.Call (.Attribute o "pop" ap) [e] [] cp) (TD G W P call (.popI co ce)) :=
  PE.imp (pe_bm (T := "list") (id := "list.pop") F.plainAttrs_list F.slot_list_pop F.type_list_pop mt_popAt ho (pa_cons he pa_nil (star_ok hst)) (base_ok hb) (few1 hst) hl (star_ok hst) rfl) fun σ H Q h => by
    obtain ⟨μ, ex, s, env, w, r, f⟩ := h
    unfold ev at f
    refine td_of w r f fun x H1 d s1 μ1 e1 a1 rx r1 f1 => ?_
    split at f1
    rotate_left
    · exact f1.elim
    rename_i hls
    obtain ⟨zs, hls⟩ := Option.isSome_iff_exists.mp hls
    obtain ⟨p, ys, ev, hp, rl⟩ := listOf_rep a1.wd rx hls
    subst ev
    refine ⟨.inl ⟨rfl, ys, SqL.of hp⟩, ?_⟩
    refine td_of a1.wd r1 f1 fun y H2 d2 s2 μ2 e2 a2 ry r2 f2 => ?_
    unfold popNth at f2
    cases d with
    | loc n =>
      obtain ⟨p', e4, hμ⟩ := rx
      cases e4
      have hμ2 := a2.evo.pre n p hμ
      cases d2 with
      | int j =>
        cases (show y = .int j from ry)
        simp only at f2
        cases hs : s2[n]? with
        | none => rw [hs] at f2; exact f2.elim
        | some cl =>
          rw [hs] at f2
          have q := a2.wd.cells n p cl hμ2 hs
          cases cl with
          | lst xs =>
            simp only at f2
            cases hi : ixOf xs.length j with
            | none => rw [hi] at f2; exact f2.elim
            | some m =>
              rw [hi] at f2
              simp only at f2
              cases hx : xs[m]? with
              | none => rw [hx] at f2; exact f2.elim
              | some x =>
                rw [hx] at f2
                simp only at f2
                split at f2
                rotate_left
                · exact f2.elim
                rename_i hlim
                obtain ⟨ys2, hp2, rl2⟩ := q
                obtain ⟨x', hx', rx'⟩ := rl2.get hx
                have hj : -(2 ^ 63) ≤ j ∧ j < 2 ^ 63 := by
                  unfold ixOf at hi
                  unfold LIM at hlim
                  split at hi
                  · split at hi <;> first | (cases hi; done) | omega
                  · split at hi <;> first | (cases hi; done) | omega
                refine ⟨p, ys2, j, m, x', rfl, rfl, hp2, hj.1, hj.2, by rw [← rl2.len]; exact ix_seq hi, hx', ?_⟩
                have m' : Mu μ2 s2 ex p := .inr ⟨n, _, hμ2, hs, rfl⟩
                have k5 : Keep (Mu μ2 s2 ex) (Mu μ2 s2 ex) H2 (upd H2 p (.lst (ys2.eraseIdx m))) := Keep.write m' (fun _ z => by rw [hp2] at z; cases z) (fun _ _ z => by rw [hp2] at z; cases z) (fun _ z => by rw [hp2] at z; cases z)
                have a5 := Aft.write (c' := .lst (xs.eraseIdx m)) (o := .lst (ys2.eraseIdx m)) a2.wd hμ2 hs rfl rfl ⟨_, upd_same, RepL.kp k5 _ _ rl2.erase⟩
                exact f2 _ _ μ2 a5 (Rep.tree (RepT.kp a5.evo.kp _ _ rx'))
          | _ => exact f2.elim
      | _ => exact f2.elim
    | _ => exact f2.elim
/-! ### self.x = e -/
theorem RepF.put {M : Addr → Prop} {H : Hp} {x : Str} {v : DV} {y : V} (hv : RepT G M H v y) : ∀ {gs : List (Str × DV)} {fs : List (Str × V)}, RepF G M H gs fs → RepF G M H (fput x v gs) (putF x y fs)
  | [], _, h => by rw [show _ = [] from h]; exact ⟨y, [], rfl, hv, rfl⟩
  | (q, d) :: gs, _, ⟨z, r, e, h, t⟩ => by
    subst e
    unfold fput putF
    by_cases hq : q = x
    · subst hq
      rw [if_pos rfl, if_pos rfl]
      exact ⟨y, r, rfl, hv, t⟩
    · rw [if_neg hq, if_neg hq]
      exact ⟨z, _, rfl, h, RepF.put hv t⟩
theorem RepF.len {M : Addr → Prop} {H : Hp} : ∀ {gs : List (Str × DV)} {fs : List (Str × V)}, RepF G M H gs fs → gs.length = fs.length
  | [], _, h => by rw [show _ = [] from h]; rfl
  | (q, d) :: gs, _, ⟨z, r, e, h, t⟩ => by subst e; simp [RepF.len t]
theorem ts_fld {i : Nat} {x y : Str} {e : Expr} {ce : E} {k : Nat} {p pos pos' : Pos} (c : Ctx G X W) (hcf : ∀ ci kc, P.cl ci = some kc → ClsF G k call ci kc) (hf : FldF G P x) (ho : PE X (.Name y p) (TD G W P call (.var i))) (he : PE X e (TD G W P call ce))
    (hs : swapsWith e (some (.Attribute (.Name y p) x pos')) pos.line X.env = pure false) : PS X (.Assign [.Attribute (.Name y p) x pos'] e pos) (TDS G W P call (.fld i x ce)) :=
  PS.imp (ps_fld ho he hs) fun D σ H h => by
    obtain ⟨μ, ex, s, env, w, r, f⟩ := h
    unfold exS at f
    refine ⟨μ, ex, s, env, w, r, fs_of f fun d s1 e1 v H1 μ1 a1 rv f1 => ?_⟩
    obtain ⟨d2, s2, e2, a2, rv2, f2⟩ := fe_of a1.wd rv f1
    have r2 := (r.evo a1.evo).evo a2.evo
    refine ⟨μ1, ex, s2, env, a2.wd, r2, ?_⟩
    split at f2
    rotate_left
    · exact f2.elim
    rename_i a ha
    have e5 : ev P call (.var i) env s2 = .ok a s2 := by
      unfold ev
      rw [ha]
    rw [e5]
    intro xv H3 μ3 a3 rx
    cases a with
    | loc n =>
      obtain ⟨p, e4, hμ⟩ := rx
      subst e4
      have f3 := FinS.from a3 f2
      unfold setFld at f3
      simp only at f3
      cases hs : s2[n]? with
      | none => rw [hs] at f3; exact f3.elim
      | some cl =>
        rw [hs] at f3
        have q := a3.wd.cells n p cl hμ hs
        cases cl with
        | ins ci gs =>
          simp only at f3
          cases hk : P.cl ci with
          | none => rw [hk] at f3; exact f3.elim
          | some kc =>
            rw [hk] at f3
            simp only at f3
            split at f3
            · rename_i hpr
              obtain ⟨dx, fs, hp, rf⟩ := q
              rw [c.hK]
              refine ⟨p, G.ca ci, dx, fs, rfl, hp, (hcf ci kc hk).cl, hf.ins ci kc hk hpr.1, by rw [← rf.len]; exact hpr.2, ?_⟩
              have m : Mu μ3 s2 ex p := .inr ⟨n, _, hμ, hs, rfl⟩
              have k5 : Keep (Mu μ3 s2 ex) (Mu μ3 s2 ex) H3 (upd H3 p (.ins (G.ca ci) dx (putF x v fs))) := Keep.write m (fun _ z => by rw [hp] at z; cases z) (fun _ _ z => by rw [hp] at z; cases z) (fun _ z => by rw [hp] at z; cases z)
              have a5 := Aft.write (c' := .ins ci (fput x d2 gs)) (o := .ins (G.ca ci) dx (putF x v fs)) a3.wd hμ hs rfl rfl ⟨dx, _, upd_same, RepF.kp k5 _ _ (RepF.put (RepT.kp a3.evo.kp _ _ rv2) rf)⟩
              exact f3 σ _ μ3 a5 ((r2.evo a3.evo).evo a5.evo)
            · exact f3.elim
        | _ => exact f3.elim
    | _ =>
      simp only [setFld] at f2
      exact f2.elim
end
end WS
set_option maxRecDepth 100000
set_option maxHeartbeats 2000000
/-! D19: a def of the table. -/
namespace WS
open PySem PySem.Spec PyProof.Rows L2
/-- THE RULE (HandS's fn_of, the guards told) -/
theorem fnG_of {G : Lk} {k : Nat} {f : Addr} {name qual : Str} {params : Arguments} {body : List Stmt} {scope : Scope} {dV kV doc pm cdv ct oc : Value} {an od : Option Addr}
    {osl : Array (Option Value)} {N ps : List Str} {sp : Sp} (lk : G.K.lookup f = some ⟨oc, od, .func (PySem.W.fnOf name qual params body scope dV kV doc pm an cdv ct), osl⟩) (hcd : PySem.W.codeIn G.K cdv qual = true) (S : FnScope N ps scope)
    (len : ∀ vs H Q E, sp vs H Q E → vs.length = ps.length)
    (hbody : ∀ (A : Around) (outer : List PySem.Env) (s : Shared) (H : Hp) (vs : List V) (Q : VK) (E : XK), Room k (A.deeper (envOfC qual scope s.heap.objs.size f cdv)) → A.guards = some [] → sp vs H Q E →
      ∃ t, PSs (cxOf (CX G.P G.w) G.P G.w G.K G.mg G.base N qual scope f cdv A outer s H E) body t ∧ t { nx := fun _ H' => Q .non H', rt := Q } (start N vs) H) :
    FnG G (k + 1) f (PySem.W.fnOf name qual params body scope dV kV doc pm an cdv ct) ps sp := by
  refine ⟨len, fun A outer s H args us vs Q E hr hgd e0 hb r hsp => ?_⟩
  have hl := len _ _ _ _ hsp
  have KX : G.K.In s.heap := e0.mod.kin.keeps fun b o e => (e0.bs b o e).1
  have lim : s.heap.NoLimit := e0.mod.nolimit.keeps fun b o e => (e0.bs b o e).1
  have hkind : ∀ y ∈ ps.zip us, scope.names.lookup y.1 = some .local ∨ (scope.names.lookup y.1 = some .cell ∧ ((cellsFrom (s.heap.objs.size + 1) scope.names []).lookup y.1).isSome = true) := fun ⟨n, v⟩ hy => by
    rcases S.par n (List.of_mem_zip hy).1 with q | q
    · exact .inl q
    · exact .inr ⟨q, PySem.W.cellsFrom_some _ _ _ (.inl q)⟩
  refine codeAny_call_function hr.depth (KX _ _ lk) rfl S.co S.gen rfl (PySem.W.codeRec_of KX hcd) (hb _ _ _ _ ?_)
  refine wpAny_newFunctionEnv_cells S.kind hkind fun env he s1 x => ?_
  subst he
  refine ⟨lim.keeps x.toInCall.keep, codeAny_func ?_⟩
  obtain ⟨t, ht, hq⟩ := hbody A outer s H vs Q E (hr.deeper _) hgd hsp
  have I : Inv (cxOf (CX G.P G.w) G.P G.w G.K G.mg G.base N qual scope f cdv A outer s H E) [] (start N vs) H s1 := inv_start S hr.hd e0 hl r x
  refine wpAny_mono (ht.run [] s1 (start N vs) H _ I hq) (fun fl s' hs => ?_) fun e s' hs => hs
  have fin : ∀ {σ' : L2.St} {H' : Hp} {v : V} {u : Value}, Inv (cxOf (CX G.P G.w) G.P G.w G.K G.mg G.base N qual scope f cdv A outer s H E) [] σ' H' s' → RelV v u → Q v H' → CE outer G.P G.w H s Q u s' :=
    fun {σ' H' v u} J rv q => ⟨v, H', J.os, J.bare, J.base, J.hok, rv, q⟩
  cases fl with
  | ret u =>
    obtain ⟨v, σ', H', J, rv, q⟩ := hs
    exact fin J rv q
  | next =>
    obtain ⟨σ', H', J, q⟩ := hs
    exact fin (v := V.non) (u := Value.none) J rfl q
  | brk =>
    obtain ⟨_, _, _, q⟩ := hs
    exact False.elim q
  | cont =>
    obtain ⟨_, _, _, q⟩ := hs
    exact False.elim q
def WE (E : XK) : WX := fun cls d _ H => E cls d H
/-- a def's own context -/
theorem ctx_of {G : Lk} {k : Nat} {f : Addr} {qual : Str} {scope : Scope} {cdv : Value} {N ps : List Str} {A : Around} {outer : List PySem.Env} {s : Shared} {H : Hp} {E : XK} (S : FnScope N ps scope) (hr : Room k (A.deeper (envOfC qual scope s.heap.objs.size f cdv))) (hg : A.guards = some []) :
    Ctx G (cxOf (CX G.P G.w) G.P G.w G.K G.mg G.base N qual scope f cdv A outer s H E) (WE E) where
  hP := rfl
  hw := rfl
  hK := rfl
  hm := rfl
  hb := rfl
  calm := rfl
  nd := S.nd
  tk := takes_of rfl rfl rfl rfl
  po := passes_of rfl
  gd := hg
  un := by have := hr.un; show (A.deeper _).units + 200 < _; omega
section
variable {G : Lk} {W : WX} {P : Pg} {call : Nat → List DV → M DV}
theorem env_start {μ : List Addr} {M : Addr → Prop} {H : Hp} {N : List Str} {n : Nat} : ∀ {ds : List DV} {vs : List V}, Paired (fun d v => Rep G μ M H d v) ds vs → EnvR G μ M H (vs.map some ++ List.replicate n none) (ds.map some ++ List.replicate n none) := by
  intro ds vs h
  refine ⟨by simp [pair_len h], fun i d hi => ?_⟩
  by_cases hl : i < ds.length
  · rw [List.getElem?_append_left (by simpa using hl)] at hi
    have hi2 : ds[i]? = some d := by simpa using hi
    obtain ⟨v, hv, rv⟩ := pair_get h hi2
    refine ⟨v, ?_, rv⟩
    rw [List.getElem?_append_left (by rw [List.length_map, ← pair_len h]; exact hl)]
    simp [hv]
  · rw [List.getElem?_append_right (by simpa using hl)] at hi
    obtain ⟨_, hi⟩ := List.getElem?_eq_some_iff.mp hi
    simp at hi
/-- a body's end is a call's end -/
theorem run_end {keep : Nat → Bool} {f : Nat} {fn : Fn} {μ ex : List Addr} {s : S} {H : Hp} {ds : List DV} {Q : VK} {E : XK} (hfn : P.fn f = some fn) (w : Wd G μ ex s H)
    (h : match runFn P keep call f ds s with
      | .ok d s' => ∀ v H' μ', Aft G μ ex s H μ' s' H' → Rep G μ' (Mu μ' s' ex) H' d v → Q v H'
      | .err c gs s' => ∀ cls dd H' μ', Aft G μ ex s H μ' s' H' → ErrR G (Mu μ' s' ex) H' c gs cls dd → E cls dd H'
      | .stuck => False) :
    ds.length ≤ fn.ns ∧ FinS G (WE E) μ ex s H (exSs P call fn.body (ds.map some ++ List.replicate (fn.ns - ds.length) none) s) { nx := fun _ H' => Q .non H', rt := Q } := by
  unfold runFn at h
  rw [hfn] at h
  simp only at h
  by_cases hl : ds.length ≤ fn.ns
  rotate_left
  · rw [if_neg hl] at h
    exact h.elim
  refine ⟨hl, ?_⟩
  rw [if_pos hl] at h
  have lv : ∀ d s1, (match (if keep f = true then Res.ok d s1 else leave s d s1) with
      | .ok d s' => ∀ v H' μ', Aft G μ ex s H μ' s' H' → Rep G μ' (Mu μ' s' ex) H' d v → Q v H'
      | .err c gs s' => ∀ cls dd H' μ', Aft G μ ex s H μ' s' H' → ErrR G (Mu μ' s' ex) H' c gs cls dd → E cls dd H'
      | .stuck => False) → ∀ v H' μ', Aft G μ ex s H μ' s1 H' → Rep G μ' (Mu μ' s1 ex) H' d v → Q v H' := by
    intro d s1 h v H' μ' a r
    by_cases hk : keep f = true
    · rw [if_pos hk] at h
      exact h v H' μ' a r
    · rw [if_neg hk] at h
      cases hlv : leave s d s1 with
      | stuck => rw [hlv] at h; exact h.elim
      | err c gs s2 => exact absurd hlv leave_no
      | ok d2 s2 =>
        rw [hlv] at h
        obtain ⟨a2, r2⟩ := leave_ok w a r hlv
        exact h v H' μ a2 r2
  generalize hb : exSs P call fn.body (ds.map some ++ List.replicate (fn.ns - ds.length) none) s = bb at h
  cases bb with
  | stuck => exact h
  | err c gs s1 =>
    simp only at h
    intro cls dd σ' H' μ' a er
    split at h
    · rename_i s' hh
      split at hh <;> cases hh
    · rename_i c2 gs2 s' hh
      split at hh
      · rename_i ok
        cases hh
        obtain ⟨b, kk, nm⟩ := Aft.drop w a ok
        refine h cls dd H' μ b ⟨er.1, ?_⟩
        rcases er.2 with q | ⟨d1, fs, e2, h1, n1, rf⟩
        · exact .inl q
        · exact .inr ⟨d1, fs, e2, h1, kk.nm h1 n1, RepF.kp kk _ _ rf⟩
      · cases hh
    · exact h.elim
  | ok fl s1 =>
    cases fl with
    | nxt e => exact fun σ' H' μ' a r => lv .non s1 h .non H' μ' a rfl
    | ret d => exact fun v H' μ' a r => lv d s1 h v H' μ' a r
    | brk e => exact h.elim
    | cnt e => exact h.elim
/-- a def of the table keeps its promise -/
theorem fn_deep {keep : Nat → Bool} {f k : Nat} {fn : Fn} {x qual : Str} {params : Arguments} {body : List Stmt} {scope : Scope} {dvs : List V} {kws : List (Str × V)} {N : List Str} (hfn : P.fn f = some fn) (hns : fn.ns = N.length)
    (F : FunD G.K x qual params body scope dvs kws (G.fa f) (G.fd f)) (S : FnScope N (G.ps f) scope)
    (hb : ∀ (X : Cx) (W : WX), Ctx G X W → Room k X.A → X.N = N → X.env.scope = scope → (∀ y, X.fn y = true) → X.env.qual = qual ++ ".<locals>." → X.env.code = (G.fd f).code → PSs X body (TDB G W P call fn.body)) :
    FnG G (k + 1) (G.fa f) (G.fd f) (G.ps f) (spF G (runFn P keep call) f (G.ps f).length) := by
  obtain ⟨oc, od, dV, kV, doc, pm, an, cdv, ct, osl, efd, lk, hcd, _, _⟩ := F.ex
  have ecd : (G.fd f).code = cdv := by first | (rw [efd]; done) | (rw [efd]; rfl)
  rw [efd]
  rw [efd] at lk
  refine fnG_of lk hcd S (fun vs H Q E h => h.1) fun A outer s H vs Q E hr hg hsp => ?_
  refine ⟨_, hb _ (WE E) (ctx_of S hr hg) hr rfl rfl (fun _ => rfl) rfl ecd.symm, ?_⟩
  obtain ⟨hl, μ, ex, st, ds, w, rp, h⟩ := hsp
  obtain ⟨hle, fin⟩ := run_end hfn w h
  refine ⟨μ, ex, st, _, w, ?_, fin⟩
  have e : start N vs = vs.map some ++ List.replicate (fn.ns - ds.length) none := by
    unfold L2.start
    rw [hns, pair_len rp]
  rw [e]
  exact env_start (N := N) rp
end
end WS
set_option maxRecDepth 100000
set_option maxHeartbeats 2000000
/-! D20: own exceptions: their __init__, raise. -/
namespace WS
open PySem PySem.Spec PyProof.Rows L2
section
variable {G : Lk} {X : Cx} {W : WX} {P : Pg} {call : Nat → List DV → M DV}
/-- C0.__init__(self, ..), C0 an own class over ValueError -/
theorem pe_einitO {e : Expr} {es : List Expr} {ta : TA} {p1 p2 pos : Pos} {x0 : Str} {C0 : Addr} {mc : Value} {pl : Sem Bool} (hg : Gl X x0) (hm : X.mg x0 = some (.ref C0)) (hdb : (x0 == ("__debug__" : Str)) = false)
    (hga : PySem.W.specialIn X.K (.ref C0) "__getattribute__" = some (some (.builtin "type.__getattribute__"))) (hr : PySem.W.readsIn X.K C0 mc = true) (hfc : PySem.W.findCls X.K (.ref C0) mc "__init__" = some (.val (.builtin "ValueError.__init__")))
    (ha : PA X (e :: es) ta)
    (hc : eval (.Call (.Attribute (.Name x0 p1) "__init__" p2) (e :: es) [] pos) X.env = (do
      let ov ← eval (.Name x0 p1) X.env
      standAt p2.atName
      let (f, first) ← holding [ov] (getMethod ov "__init__" pl)
      callWith pos f first (backTo pos (starEach (e :: es) X.env)) (backToKw pos (keywordEach [] X.env))))
    (he : starEach (e :: es) X.env = (false, eval e X.env) :: starEach es X.env) (hpl : (backTo pos (starEach es X.env)).any (·.1) = false) :
    PE X (.Call (.Attribute (.Name x0 p1) "__init__" p2) (e :: es) [] pos) (tVeI X.K ta) := by
  refine ⟨fun pins s σ H Q I h => ?_⟩
  refine PySem.W.methodCall_KW (ld_glob I hg hm ?_ hdb) hc
  refine PySem.W.method_cls I.kIn hga (PySem.W.cls_value I.kIn hr hfc (by decide +kernel) ?_)
  show wpAny _ _ (callWith pos (Value.builtin "ValueError.__init__") [] (backTo pos (starEach (e :: es) X.env)) []) _ _ _
  refine PyProof.Rows.callWith_method1 (thn (ha.run pos pins _ σ H _ (I.tok _) h) fun us s1 ⟨vs, H1, I1, r1, a, C, ws, ev, hl, T, ea, q⟩ => ?_) he hpl
  subst ev
  cases r1 with
  | @cons _ u0 _ ur ra rw' =>
    obtain rfl : u0 = Value.ref a := ra
    have hlen : ur.length ≤ sizeLine := by
      rw [← Paired.length rw', sizeLine_eq]
      omega
    exact oinit_ok T I1 ea hlen fun s' J => ⟨.non, H1, J, rfl, q⟩
/-- the fields of an exception, the newest first -/
def fsX (vs : List V) : List (Str × Nat) → List (Str × V) → List (Str × V)
  | [], acc => acc
  | (f, i) :: r, acc => fsX vs r ((f, vs.getD i .non) :: acc)
/-- an __init__ that stores its parameters -/
def spX (C : Addr) (n : Nat) (fl : List (Str × Nat)) : Sp := fun vs H Q _ => vs.length = n ∧ ∃ a ws, vs = .ref a :: ws ∧ H a = some (exo a C none) ∧ ∀ dx H2, H dx = none → dx ≠ a → H2 a = some (exo a C (some dx)) → H2 dx = some (exd dx (fsX vs fl [])) → (∀ b, b ≠ a → b ≠ dx → H2 b = H b) → Q .non H2
/-- the statements self.f = p -/
inductive Stores (X : Cx) (K : PySem.W.Frag) (C : Addr) : List Stmt → List (Str × Nat) → Prop
  | nil : Stores X K C [] []
  | cons {st : Stmt} {r : List Stmt} {f : Str} {i : Nat} {fl : List (Str × Nat)} : PS X st (tOst K f (tVar 0) (tVar i)) → PySem.W.findIn K (.ref C) f = some none → Stores X K C r fl → Stores X K C (st :: r) ((f, i) :: fl)
theorem stores_old {C : Addr} {vs ws : List V} {a : Addr} {H0 : Hp} {Q : VK} {σ : L2.St} {dx : Addr} (hX : OexC X.K C) (hσ : ∀ (i : Nat) (v : V), vs[i]? = some v → σ[i]? = some (some v)) (ev : vs = .ref a :: ws) (hdx : dx ≠ a) : ∀ {sts : List Stmt} {fl : List (Str × Nat)}, Stores X X.K C sts fl → (∀ p ∈ fl, p.2 < vs.length) →
    ∃ t, PSs X sts t ∧ ∀ H1 acc, acc.length + fl.length ≤ 900 → H1 a = some (exo a C (some dx)) → H1 dx = some (exd dx acc) → (∀ b, b ≠ a → b ≠ dx → H1 b = H0 b) →
      (∀ H2, H2 a = some (exo a C (some dx)) → H2 dx = some (exd dx (fsX vs fl acc)) → (∀ b, b ≠ a → b ≠ dx → H2 b = H0 b) → Q .non H2) → t { nx := fun _ H' => Q .non H', rt := Q } σ H1
  | _, _, .nil, _ => ⟨tNext, pss_nil, fun H1 acc _ h1 h2 h3 k => k H1 h1 h2 h3⟩
  | _, _, .cons (f := f) (i := i) (fl := fl) hp hno hr, hl => by
    obtain ⟨t, ht, k⟩ := stores_old (H0 := H0) (Q := Q) hX hσ ev hdx hr fun p hp => hl p (by simp [hp])
    refine ⟨_, pss_cons hp ht, fun H1 acc hz h1 h2 h3 fin => ?_⟩
    have hi : i < vs.length := hl (f, i) (by simp)
    have e0 : σ[0]? = some (some (.ref a)) := hσ 0 _ (by rw [ev]; rfl)
    have ei : σ[i]? = some (some (vs.getD i .non)) := hσ i _ (by rw [List.getD_eq_getElem?_getD, List.getElem?_eq_getElem hi]; rfl)
    refine ⟨_, ei, _, e0, a, C, rfl, hX, hno, .inr ⟨dx, acc, h1, h2, by simp at hz; omega, ?_⟩⟩
    refine k _ ((f, vs.getD i .non) :: acc) (by simp at hz ⊢; omega) (by rw [upd_ne (Ne.symm hdx)]; exact h1) upd_same (fun b hb hb2 => by rw [upd_ne hb2]; exact h3 b hb hb2) fin
/-- .. from the exception without a dict on -/
theorem stores_new {C : Addr} {vs ws : List V} {a : Addr} {H : Hp} {Q : VK} {σ : L2.St} (hX : OexC X.K C) (hσ : ∀ (i : Nat) (v : V), vs[i]? = some v → σ[i]? = some (some v)) (ev : vs = .ref a :: ws) (ha : H a = some (exo a C none)) {sts : List Stmt} {fl : List (Str × Nat)} (h : Stores X X.K C sts fl) (hl : ∀ p ∈ fl, p.2 < vs.length) (hne : fl ≠ []) (hz : fl.length ≤ 900)
    (fin : ∀ dx H2, H dx = none → dx ≠ a → H2 a = some (exo a C (some dx)) → H2 dx = some (exd dx (fsX vs fl [])) → (∀ b, b ≠ a → b ≠ dx → H2 b = H b) → Q .non H2) :
    ∃ t, PSs X sts t ∧ t { nx := fun _ H' => Q .non H', rt := Q } σ H := by
  cases h with
  | nil => exact absurd rfl hne
  | @cons st r f i fl hp hno hr =>
    have hi : i < vs.length := hl (f, i) (by simp)
    have e0 : σ[0]? = some (some (.ref a)) := hσ 0 _ (by rw [ev]; rfl)
    have ei : σ[i]? = some (some (vs.getD i .non)) := hσ i _ (by rw [List.getD_eq_getElem?_getD, List.getElem?_eq_getElem hi]; rfl)
    have all : ∃ t, PSs X r t ∧ ∀ dx, H dx = none → dx ≠ a → t { nx := fun _ H' => Q .non H', rt := Q } σ (upd (upd H dx (exd dx [(f, vs.getD i .non)])) a (exo a C (some dx))) := by
      refine ⟨fun D σ H' => ∀ (t : TS), PSs X r t → True → ∃ t', PSs X r t' ∧ t' D σ H', ?_, ?_⟩
      · refine ⟨fun pins s σ H' D I h => ?_⟩
        obtain ⟨t', h1, h2⟩ := h tNever pss_never trivial
        exact h1.run pins s σ H' D I h2
      · intro dx hdx hne _ _ _
        obtain ⟨t, ht, k⟩ := stores_old (H0 := H) (Q := Q) hX hσ ev hne hr fun p hp => hl p (by simp [hp])
        refine ⟨t, ht, k _ [(f, vs.getD i .non)] (by simp at hz ⊢; omega) upd_same (by rw [upd_ne hne]; exact upd_same) (fun b hb hb2 => by rw [upd_ne hb, upd_ne hb2]) fun H2 h1 h2 h3 => fin dx H2 hdx hne h1 h2 h3⟩
    obtain ⟨t, ht, k⟩ := all
    refine ⟨_, pss_cons hp ht, ?_⟩
    exact ⟨_, ei, _, e0, a, C, rfl, hX, hno, .inl ⟨ha, fun dx h1 h2 => k dx h1 h2⟩⟩
/-- an exception's __init__ keeps its promise -/
theorem exc_init {k : Nat} {C fI : Addr} {fd : FuncData} {ps N : List Str} {x qual : Str} {params : Arguments} {scope : Scope} {dvs : List V} {kws : List (Str × V)} {ce : Expr} {cp : Pos} {sts : List Stmt} {fl : List (Str × Nat)} {m : Str} (T : OexC G.K C)
    (F : FunD G.K x qual params (.Expr ce cp :: sts) scope dvs kws fI fd) (S : FnScope N ps scope)
    (hcall : ∀ (X : Cx) (W : WX), Ctx G X W → X.N = N → X.env.scope = scope → (∀ y, X.fn y = true) → PE X ce (tVeI X.K (tCons (tVar 0) (tCons (tC (.str m)) tNil)))) (hsw : ∀ env, swapsWith ce none cp.line env = pure false)
    (hst : ∀ (X : Cx) (W : WX), Ctx G X W → X.N = N → X.env.scope = scope → (∀ y, X.fn y = true) → Stores X X.K C sts fl) (hl : ∀ p ∈ fl, p.2 < ps.length) (hne : fl ≠ []) (hz : fl.length ≤ 900) :
    FnG G (k + 1) fI fd ps (spX C ps.length fl) := by
  obtain ⟨oc, od, dV, kV, doc, pm, an, cdv, ct, osl, efd, lk, hcd, _, _⟩ := F.ex
  rw [efd]
  rw [efd] at lk
  refine fnG_of lk hcd S (fun vs H Q E h => h.1) fun A outer s H vs Q E hr hg hsp => ?_
  have c := ctx_of (G := G) (E := E) (H := H) (outer := outer) S hr hg
  obtain ⟨hlen, a, ws, ev, ha, fin⟩ := hsp
  have hσ : ∀ (i : Nat) (v : V), vs[i]? = some v → (L2.start N vs)[i]? = some (some v) := fun i v h => by
    have hi := (List.getElem?_eq_some_iff.mp h).1
    unfold L2.start
    rw [List.getElem?_append_left (by simpa using hi)]
    simp [h]
  obtain ⟨t, ht, q⟩ := stores_new (σ := L2.start N vs) (Q := Q) T hσ ev ha (hst _ _ c rfl rfl fun _ => rfl) (fun p hp => by rw [hlen]; exact hl p hp) hne hz fin
  refine ⟨_, pss_cons (ps_expr (hcall _ _ c rfl rfl fun _ => rfl) (hsw _)) ht, ?_⟩
  have e0 : (L2.start N vs)[0]? = some (some (.ref a)) := hσ 0 _ (by rw [ev]; rfl)
  exact ⟨_, e0, a, C, [.str m], rfl, by simp, T, ha, q⟩
/-- C(e, ..) to be raised (HandS's pmk_oex, the guards told) -/
theorem pmk_G {e : Expr} {es : List Expr} {ta : TA} {x : Str} {p pos : Pos} {C fI : Addr} {k : Nat} {fd : FuncData} {ps : List Str} {sp : Sp} (c : Ctx G X W) (T : OexC G.K C) (iC : PySem.W.findIn G.K (.ref C) "__init__" = some (some (.ref fI))) (tI : PySem.W.typeIn G.K (.ref fI) = some (.type "function"))
    (F1 : FnG G k fI fd ps sp) (hr : Room (k + 1) X.A) (hb : ∀ (s : Shared) (us : List Value), G.K.In s.heap → us.length = ps.length → BindsTo s fd ⟨us, []⟩ (ps.zip us)) (hg : Gl X x) (hm : G.mg x = some (.ref C)) (ha : PA X (e :: es) ta)
    (hdb : (x == ("__debug__" : Str)) = false) (he : starEach (e :: es) X.env = (false, eval e X.env) :: starEach es X.env) (hpl : (backTo pos (starEach es X.env)).any (·.1) = false) :
    PMk X (.Call (.Name x p) (e :: es) [] pos) (tMkO C sp [] ta) := by
  intro pins s σ H Q I h
  have T' : OexC X.K C := by rw [c.hK]; exact T
  obtain ⟨nm, q, N, bs, bm, sn, sub, ab, col, dd, k0, k1, k2, k3, k5, hC, hbm⟩ := T'.cls
  refine wpAny_Call_Name_kw (ld_glob I hg (by rw [c.hm]; exact hm) ?_ hdb)
  refine PySem.W.callWith_K (h₀ := X.base) I.ok.mod.kin T'.kC (thn (ha.run pos pins s σ H _ I h) fun us s1 ⟨vs, H1, I1, r1, hz, q1⟩ => ⟨I1.kIn, ?_⟩) he hpl
  show wpAny _ _ (PySem.call (.ref C) us) _ _ _
  obtain ⟨hp, g, dr, tk, os⟩ := s1
  have hsz : hp.objs.size ≤ hp.objs.size + 1 := Nat.le_succ _
  have hn : H1 (hp.objs.size + 1) = none := I1.hok.fresh hsz
  have hq := q1 (hp.objs.size + 1) hn
  rw [List.append_nil] at hq
  have kk : ∀ b o, hp.get? b = some o → ((hp.push (PySem.W.kdv_tup us)).push (PySem.HandSPX.excO C hp.objs.size)).get? b = some o := fun b o e => Heap.get?_push_of_some _ (Heap.get?_push_of_some _ e)
  have hget : ((hp.push (PySem.W.kdv_tup us)).push (PySem.HandSPX.excO C hp.objs.size)).get? (hp.objs.size + 1) = some (PySem.HandSPX.excO C hp.objs.size) := by heap_get
  have I2 : Inv X pins σ (upd H1 (hp.objs.size + 1) (exo (hp.objs.size + 1) C none)) ⟨(hp.push (PySem.W.kdv_tup us)).push (PySem.HandSPX.excO C hp.objs.size), g, dr, tk, os⟩ :=
    I1.laid (t' := tk) (a := hp.objs.size + 1) (o := exo (hp.objs.size + 1) C none) (h' := (hp.push (PySem.W.kdv_tup us)).push (PySem.HandSPX.excO C hp.objs.size)) kk hsz (exo_ok hget)
  have r2 : Vals (V.ref (hp.objs.size + 1) :: vs) (Value.ref (hp.objs.size + 1) :: us) := .cons rfl r1
  have hl : (Value.ref (hp.objs.size + 1) :: us).length = ps.length := by
    have e := r2.length
    rw [F1.len _ _ _ _ hq] at e
    exact e.symm
  have hus : us.length ≤ sizeLine := by
    rw [← Paired.length r1, sizeLine_eq]
    omega
  have iC' : PySem.W.findIn X.K (.ref C) "__init__" = some (some (.ref fI)) := by rw [c.hK]; exact iC
  have tI' : PySem.W.typeIn X.K (.ref fI) = some (.type "function") := by rw [c.hK]; exact tI
  have qq := F1.run (X.A.under (.builtin "type.__call__" ⟨.ref C :: us, []⟩)) X.stack _ _ ⟨Value.ref (hp.objs.size + 1) :: us, []⟩ (Value.ref (hp.objs.size + 1) :: us) _ _ (fun _ _ _ => False) (hr.make C us [])
    (by first | exact c.gd | (simpa [Around.under, Code.guards, Code.isGuard, guardIds, pushGuards] using c.gd)) ((c.env0 I2).make C us []) (hb _ (Value.ref (hp.objs.size + 1) :: us) (by rw [← c.hK]; exact I2.kIn) hl) r2 hq
  rw [← c.hP, ← c.hw] at qq
  refine wpAny_call (PySem.HandSPX.call_own F.excBase_ValueError (fun Y => PySem.HandSPX.refsVE_contains Y bm hbm) (I1.kIn _ _ hC) (PySem.W.looks_findIn I1.kIn iC') (fun self => PySem.W.bind_fn I1.kIn self tI') hus
    (codeAny_mono qq fun r s' hq' => ?_))
  cases r with
  | error er => exact CtxG_err (E := fun _ _ _ => False) c I2 (fun _ _ _ z => z.elim) (by rw [← c.hP, ← c.hw]; exact hq')
  | ok fl =>
    cases fl with
    | ret u =>
      obtain ⟨v, H2, os2, bare2, un2, hok2, rv, ev, d, fs, ea, ed, hd1, q2⟩ := hq'
      subst ev
      obtain ⟨h2, g2, d2, t2, os'⟩ := s'
      exact ⟨rv, mk_end (raises_own T'.exC T'.tyC) I1 hsz kk un2 hok2 os2 bare2 ea ed hd1 q2⟩
    | next => exact False.elim hq'
    | brk => exact False.elim hq'
    | cont => exact False.elim hq'
theorem repF_fsX {M : Addr → Prop} {H : Hp} {full : List V} : ∀ {xs : List Str} {ds : List DV} {ws : List V} {k : Nat} {gacc : List (Str × DV)} {acc : List (Str × V)}, full.drop k = ws → RepL G M H ds ws → xs.length = ds.length → RepF G M H gacc acc → RepF G M H ((xs.zip ds).reverse ++ gacc) (fsX full (xs.zipIdx k) acc)
  | [], ds, ws, k, gacc, acc, _, _, hl, hr => by
    have : ds = [] := List.eq_nil_of_length_eq_zero (by simpa using hl.symm)
    subst this
    exact hr
  | x :: xs, [], _, _, _, _, _, _, hl, _ => by simp at hl
  | x :: xs, d :: ds, ws, k, gacc, acc, hd, ⟨v, r, e, rv, rl⟩, hl, hr => by
    subst e
    have hk : full.getD k .non = v := by
      have : full[k]? = some v := by
        have := congrArg (fun l => l[0]?) hd
        simpa using this
      rw [List.getD_eq_getElem?_getD, this]
      rfl
    have hd2 : full.drop (k + 1) = r := by
      have := congrArg List.tail hd
      simpa using this
    have q := repF_fsX (xs := xs) (gacc := (x, d) :: gacc) (acc := (x, v) :: acc) hd2 rl (by simpa using hl) ⟨v, acc, rfl, rv, hr⟩
    rw [List.zipIdx_cons]
    unfold fsX
    rw [hk]
    simpa using q
/-- what a class of exceptions wants of the link -/
structure ExF (G : Lk) (k : Nat) (ci : Nat) (xs : List Str) (x : Str) : Prop where
  T : OexC G.K (G.xa ci)
  mg : G.mg x = some (.ref (G.xa ci))
  db : (x == ("__debug__" : Str)) = false
  fn : ∃ fI fd ps, PySem.W.findIn G.K (.ref (G.xa ci)) "__init__" = some (some (.ref fI)) ∧ PySem.W.typeIn G.K (.ref fI) = some (.type "function") ∧ ps.length = xs.length + 1 ∧ FnG G k fI fd ps (spX (G.xa ci) ps.length (xs.zipIdx 1)) ∧ ∀ (s : Shared) (us : List Value), G.K.In s.heap → us.length = ps.length → BindsTo s fd ⟨us, []⟩ (ps.zip us)
theorem ts_raise {k ci : Nat} {xs : List Str} {x : Str} {es : List Expr} {cr : Es} {p pos pos' : Pos} (c : Ctx G X W) (he : P.ex ci = some xs) (E : ExF G k ci xs x) (hr : Room (k + 1) X.A) (hg : Gl X x) (ha : PA X es (TDs G W P call cr)) (hst : noStar es = true) (hne : es ≠ []) (hlen : cr.len ≤ 1000) :
    PS X (.Raise (some (.Call (.Name x p) es [] pos)) none pos') (TDS G W P call (.rais ci cr)) := by
  obtain ⟨fI, fd, ps, h1, h2, h3, h4, h5⟩ := E.fn
  cases es with
  | nil => exact absurd rfl hne
  | cons e es =>
    refine PS.imp (ps_raise c.calm c.tk (pmk_G c E.T h1 h2 h4 hr h5 hg E.mg ha E.db (star_ok hst) (star_any (noStar_tl hst)))) fun D σ H h => ?_
    obtain ⟨μ, ex, s, env, w, r, f⟩ := h
    unfold exS at f
    refine ⟨μ, ex, s, env, w, r, ?_⟩
    cases hm : evs P call cr env s with
    | stuck => rw [hm] at f; exact f
    | err c' gs s1 => rw [hm] at f; exact fun cls dd H' μ' a q => f cls dd σ H' μ' a q
    | ok ds s1 =>
      rw [hm] at f
      intro vs H1 μ1 a1 rp
      have hl : vs.length = cr.len := by rw [← pair_len rp]; exact evs_len hm
      refine ⟨by omega, fun a ha => ?_⟩
      simp only [bind_ok, he] at f
      cases hem : embedAll ds s1 with
      | stuck => rw [hem] at f; exact f.elim
      | err c' gs s2 => exact absurd hem embedAll_no
      | ok ds' s2 =>
        rw [hem] at f
        simp only [bind_ok] at f
        split at f
        rotate_left
        · exact f.elim
        rename_i hxl
        obtain ⟨a2, rl⟩ := embedAll_ok a1.wd rp hem
        have hvl : vs.length = xs.length := by rw [hxl]; exact rl.len.symm
        rw [List.append_nil]
        refine ⟨by rw [List.length_cons, hvl, h3], a, vs, rfl, upd_same, fun dx H2 hdx hne2 h6 h7 h8 => ⟨rfl, dx, _, h6, h7, ?_, ?_⟩⟩
        · rw [upd_ne hne2] at hdx; exact hdx
        · have hdx1 : H1 dx = none := by rw [upd_ne hne2] at hdx; exact hdx
          have eH : upd (del H2 a) dx (.xd (fsX (.ref a :: vs) (xs.zipIdx 1) [])) = upd H1 dx (.xd (fsX (.ref a :: vs) (xs.zipIdx 1) [])) := by
            funext b
            by_cases hb : b = dx
            · rw [hb, upd_same, upd_same]
            · rw [upd_ne hb, upd_ne hb]
              by_cases hba : b = a
              · rw [hba, del_same, ha]
              · rw [del_ne hba, h8 b hba hb, upd_ne hba]
          rw [eH]
          have a3 := Aft.alloc (o := .xd (fsX (.ref a :: vs) (xs.zipIdx 1) [])) a2.wd hdx1
          refine f (.ref (G.xa ci)) (some dx) σ _ μ1 ((a1.trans a2).trans a3) ⟨rfl, .inr ⟨dx, _, rfl, upd_same, ?_, ?_⟩⟩
          · exact a2.wd.nmu hdx1
          · have q := repF_fsX (full := .ref a :: vs) (k := 1) (gacc := []) (acc := []) rfl (RepL.kp a3.evo.kp _ _ rl) hxl rfl
            simpa using q
end
end WS
set_option maxRecDepth 100000
set_option maxHeartbeats 2000000
/-! D21: an exception that is caught and kept. -/
namespace WS
open PySem PySem.Spec PyProof.Rows L2
theorem exv_ok {P : Program} {w : World} {H : Hp} {h : Heap} {a : Addr} {cls : Value} {d : Option Addr} {o : Obj} {vs : Array Value} (ho : h.get? a = some o) (hz : Zc cls d o) (hd : o.data = .fields vs) : ObjOk P w H h a (ExV cls d a) :=
  ⟨⟨o, vs, ho, hz, hd⟩, ⟨o, ho⟩, fun h1 h2 ⟨o', vs', e, z, q⟩ k => ⟨o', vs', k o' e, z, q⟩⟩
/-- an object that nothing is told of is told of from here on -/
theorem adopt {X : Cx} {pins : List (Addr × Obj)} {σ : L2.St} {H : Hp} {s : Shared} {a : Addr} {cls : Value} {d : Option Addr} {o : Obj} {vs : Array Value} (I : Inv X pins σ H s) (ho : s.heap.get? a = some o) (hz : Zc cls d o) (hd : o.data = .fields vs) (hn : H a = none)
    (n0 : X.s_0.heap.get? a = none) (nL : a ≠ X.env.locals) (np : ∀ p ∈ X.pn ++ pins, p.1 ≠ a) : Inv X pins σ (upd H a (ExV cls d a)) s := by
  have ne : ∀ b u, H b = some u → b ≠ a := fun b u e => ne_of_none e hn
  refine ⟨I.ok, I.os, I.bare, ⟨I.base.keep, I.base.slot, fun b u e n x => ?_, I.base.there, fun b xs e => ?_, fun b u v e => ?_, fun b ps e => ?_⟩, I.loc, I.cell, ?_, fun x c e => ?_, fun p hp => ?_, fun b u e => ?_, I.len⟩
  · rw [upd_ne fun z => by rw [z, n0] at e; cases e]
    exact I.base.free b u e n x
  · have q := I.base.tups b xs e
    rw [upd_ne (ne _ _ q)]; exact q
  · have q := I.base.frzs b u v e
    rw [upd_ne (ne _ _ q)]; exact q
  · obtain ⟨m, q⟩ := I.base.tbls b ps e
    exact ⟨m, by rw [upd_ne (ne _ _ q)]; exact q⟩
  · rw [upd_ne (Ne.symm nL)]; exact I.free
  · have q := I.freeC x c e
    rw [upd_ne fun z => ?_]
    · exact q
    · obtain ⟨v, o', e1, e2⟩ := I.cell x c e
      rw [z, ho] at e1
      cases e1
      rw [hd] at e2
      cases e2
  · obtain ⟨q1, q2, q3⟩ := I.pin p hp
    exact ⟨q1, by rw [upd_ne (np p hp)]; exact q2, q3⟩
  · by_cases hb : b = a
    · subst hb
      rw [upd_same] at e
      cases e
      exact exv_ok ho hz hd
    · rw [upd_ne hb] at e
      exact (I.hok b u e).stay (fun c v _ q => q) (fun c q => by rw [upd_ne (ne _ _ q)]; exact q) fun c xs q => by rw [upd_ne (ne _ _ q)]; exact q
/-- the wish of the body: caught, the exception goes to slot j -/
def wKeep (K : PySem.W.Frag) (c : Value) (i j len : Nat) (D : Ends) : WX := fun cls d σ H =>
  ∃ b, PySem.W.exmOne K cls c = some b ∧ (b = true → σ.length = len → ∀ a, H a = none → D.nx ((((σ.set i (some (.ref a))).set j (some (.ref a)))).set i none) (upd H a (ExV cls d a))) ∧ (b = false → False)
/-- try: body / except x as n: y = n -/
theorem ps_try_keep {X : Cx} {x n y : Str} {c : Value} {i j : Nat} {body : List Stmt} {np pos pos' py pn1 ap : Pos} {tb : WX → TS} (hs : X.stack = X.env :: X.outer) (hf : X.env.frame = some X.env.locals) (hN : X.N.Nodup) (hi : X.N[i]? = some n) (hj : X.N[j]? = some y) (hln : X.env.kindOf n = some .local) (hly : X.env.kindOf y = some .local) (hc : Names X x c)
    (hnd : (n == ("__debug__" : Str)) = false) (hncd : (n == ("__classdict__" : Str)) = false) (hex : X.ex = [])
    (hb : ∀ (W : WX) (pn : List (Addr × Obj)) (xe : Value → Shared → Prop), Takes (X.tr pn xe) W → PassesOwn (model X.prog X.w) X.A X.env xe → PSs (X.tr pn xe) body (tb W)) :
    PS X (.Try body [.ExceptHandler (some (.Name x np)) (some n) [.Assign [.Name y py] (.Name n pn1) ap] pos'] [] [] pos) (fun D σ H => tb (wKeep X.K c i j X.N.length D) D σ H) := by
  refine ⟨fun pins s σ H D I h => ?_⟩
  have ok := I.ok
  have frames : X.A.frames = some (X.env :: X.outer) := by rw [ok.frames, hs]
  refine wpAny_Try_except ?_
  refine wpAny_mono ((hb (wKeep X.K c i j X.N.length D) (X.pn ++ pins) (fun e s₁ => wpAny (model X.prog X.w) X.A (noteFrame e X.env) (fun _ s₂ => wpAny (model X.prog X.w) X.A (setFlight e none) (fun _ s₃ =>
    wpAny (model X.prog X.w) X.A (handleBy e X.env [.ExceptHandler (some (.Name x np)) (some n) [.Assign [.Name y py] (.Name n pn1) ap] pos']) (SP X pins D) X.xe s₃) X.xe s₂) X.xe s₁) (fun u s' xx => ?_) PassesOwn.looking).run [] s σ H D (I.toTry _) h) (fun f s1 hsp => ?_) (fun e s1 he => he)
  · obtain ⟨a, B, sI, pins', σ', H', cls, d, rfl, J', nb, up, sky, na, os, ag, b, hb1, hyes, hno⟩ := xx
    cases b with
    | false => exact (hno rfl).elim
    | true =>
      have J : Inv X pins σ' H' sI := J'.ofTry ok
      have sky' : Sky B (X.env :: X.outer) a (Zc cls d) X.env.locals s'.heap := by rw [← hs]; exact sky
      show wpAny (model X.prog X.w) X.A (noteFrame (.ref a) X.env) _ _ _
      refine Sky.land Zc.steady frames hf sky' fun h3 fl3 up3 => ?_
      have J3 : Inv X pins σ' H' { s' with heap := h3 } := J.landed nb fl3.1 (up.trans up3) os ag
      obtain ⟨o3, v3, e3, z3, d3⟩ := fl3.there
      have offFrames : a ∉ frs (X.env :: X.outer) := fun hm => by
        obtain ⟨_, o', e', hnf⟩ := fl3.2.2.1.mem hm
        rw [e3] at e'
        cases e'
        exact hnf _ d3
      have nL : a ≠ X.env.locals := fun z => offFrames (List.mem_filterMap.mpr ⟨X.env, List.mem_cons_self, by rw [hf, z]⟩)
      have nF : a ∉ X.fs := fun hm => by
        obtain ⟨e, he, q⟩ := List.mem_filterMap.mp hm
        exact offFrames (List.mem_filterMap.mpr ⟨e, List.mem_cons_of_mem _ he, q⟩)
      have nB : B.get? a = none := fl3.2.1
      have nI : sI.heap.get? a = none := by
        cases q : sI.heap.get? a with
        | none => rfl
        | some o =>
          have z := nb a o q (by rw [hs]; exact offFrames)
          rw [nB] at z
          cases z
      have n0 : X.s_0.heap.get? a = none := by
        cases q : X.s_0.heap.get? a with
        | none => rfl
        | some o =>
          obtain ⟨o', z⟩ := J.base.there a o q (by rw [hex]; simp)
          rw [nI] at z
          cases z
      have nP : ∀ p ∈ X.pn ++ pins, p.1 ≠ a := fun p hp z => by
        have q := (J.pin p hp).1
        rw [z, nI] at q
        cases q
      have S3 := J3.suite e3 d3 na nL nF
      refine wpAny_handleBy_cons (codeAny_handlers_test ?_) (by intro q; cases q)
      have LT : PySem.W.Looks (model X.prog X.w) h3 (typeOf (.ref a)) cls := fun A Q E s k q => wpAny_typeOf_ref (k _ _ e3) (by rw [z3.1]; exact q)
      have LM := PySem.W.exm_one (M := model X.prog X.w) (J3.kIn) LT hb1
      have test : ∀ {Q : Value → Shared → Prop} {E : Value → Shared → Prop}, Q c { s' with heap := h3 } → wpAny (model X.prog X.w) (X.A.mark (some (.ref a))) (eval (.Name x np) X.env) Q E { s' with heap := h3 } := fun {Q E} q => by
        obtain ⟨hg, hdbg, hm | ⟨hm, hv, hnn⟩⟩ := hc
        · exact ld_glob (X := X.suite a ((a, o3) :: (X.pn ++ pins))) S3 hg hm q hdbg
        · exact ld_blt (X := X.suite a ((a, o3) :: (X.pn ++ pins))) S3 hg hm hv q hnn hdbg
      refine test (LM.here ?_)
      refine codeAny_handlers_suite_as ?_
      refine HandSPX.lands_againZ fl3 fun h4 fl4 up4 => ?_
      have J4 : Inv X pins σ' H' { s' with heap := h4 } := J.landed nb fl4.1 ((up.trans up3).trans up4) os ag
      obtain ⟨o4, v4, e4, z4, d4⟩ := fl4.there
      have S4 := J4.suite e4 d4 na nL nF
      refine store_ok (X := X.suite a ((a, o4) :: (X.pn ++ pins))) (v := .ref a) S4 hN hi (.inl hln) rfl (fun s5 S5 => ?_) (.inr hln)
      have st : PSs (X.suite a ((a, o4) :: (X.pn ++ pins))) [.Assign [.Name y py] (.Name n pn1) ap] (tAsg (tVar i) (gName j)) := pss_one (ps_set hN hj (.inl hly) (pe_var hi (.inl hln) hnd hncd) rfl (.inr hly))
      have hil : i < σ'.length := by
        rw [J.len]
        exact (List.getElem?_eq_some_iff.mp hi).1
      refine wpAny_mono (st.run [] s5 _ H' { nx := fun σ6 H6 => σ6 = (σ'.set i (some (.ref a))).set j (some (.ref a)) ∧ H6 = H', rt := fun _ _ => False } S5 ⟨.ref a, List.getElem?_set_self hil, rfl, rfl⟩) (fun f s6 hsp => ?_) (fun _ _ z => False.elim z)
      cases f with
      | next =>
        obtain ⟨σ6, H6, S6, eσ, eH⟩ := hsp
        subst eσ eH
        have p6 := S6.pin (a, o4) (List.mem_append_left _ List.mem_cons_self)
        have J6 := adopt (S6.unsuite ok) p6.1 z4 d4 na n0 nL nP
        refine gone_ok J6 hN hi hln fun s7 J7 => ⟨_, _, J7, ?_⟩
        exact hyes rfl J.len a na
      | brk => obtain ⟨_, _, _, z⟩ := hsp; exact z.elim
      | cont => obtain ⟨_, _, _, z⟩ := hsp; exact z.elim
      | ret u => obtain ⟨_, _, _, _, _, z⟩ := hsp; exact z.elim
  · cases f with
    | next =>
      obtain ⟨σ', H', J', q⟩ := hsp
      exact wpAny_execs_nil ⟨σ', H', J'.ofTry ok, q⟩
    | brk => obtain ⟨σ', H', J', q⟩ := hsp; exact ⟨σ', H', J'.ofTry ok, q⟩
    | cont => obtain ⟨σ', H', J', q⟩ := hsp; exact ⟨σ', H', J'.ofTry ok, q⟩
    | ret u =>
      obtain ⟨v, σ', H', J', r, q⟩ := hsp
      exact ⟨v, σ', H', J'.ofTry ok, r, q⟩
end WS
set_option maxRecDepth 100000
set_option maxHeartbeats 2000000
/-! D22: a def that calls the lambda it got, and keeps the exception. -/
namespace WS
open PySem PySem.Spec PyProof.Rows L2
section
variable {X : Cx} {pins : List (Addr × Obj)} {σ : L2.St} {H : Hp} {s : Shared}
/-- a(), a the slot of a lambda (LamX's pe_act, the guards told) -/
theorem act_G {CXg : CXT} {Eg : XK} {Ng : List Str} {qg : Str} {sg : Scope} {g f c' : Addr} {cdg pm ctv : Value} {params : Arguments} {body : Expr} {scope : Scope} {k i : Nat} {a : Str} {pn : List (Addr × Obj)} {xe : Value → Shared → Prop} {W : WX} {E : XK} {tb : TE} {p1 p2 : Pos}
    (I : Inv X pins σ H s) (L : LamX.LamS X.env.scope scope) (hf : s.heap.get? f = some (PySem.W.kla_obj "<lambda>" (X.env.qual ++ "<lambda>") params body scope (cloFrom X.env.cells scope.names []) pm c' ctv)) (hfn : H f = none) (hfr : f ∉ frs X.stack)
    (hbind : bindArgs (PySem.W.kla_fn "<lambda>" (X.env.qual ++ "<lambda>") params body scope (cloFrom X.env.cells scope.names []) pm (.ref c') ctv) ⟨[], []⟩ = pure [])
    (tk : Takes ((cxOf CXg X.prog X.w X.K X.mg X.base Ng qg sg g cdg X.A X.stack s H Eg).tr pn xe) W) (hW : ∀ cls d σ' H', E cls d H' → W cls d σ' H') (hr : Room (k + 1) (X.A.deeper (envOfC qg sg s.heap.objs.size g cdg))) (hgd : X.A.guards = some [])
    (hbody : ∀ (A : Around) (outer : List PySem.Env) (s : Shared) (H : Hp), Room k (A.deeper (LamX.lamEnv X scope s.heap.objs.size f c')) → A.guards = some [] → PE (LamX.lamCx X A outer s H E scope f c') body tb)
    (hN : Ng[i]? = some a) (hv : Vis sg a) (hd : (a == ("__debug__" : Str)) = false) (hcd : (a == ("__classdict__" : Str)) = false) :
    PE ((cxOf CXg X.prog X.w X.K X.mg X.base Ng qg sg g cdg X.A X.stack s H Eg).tr pn xe) (.Call (.Name a p1) [] [] p2)
      (fun σZ HZ Q => σZ[i]? = some (some (.ref f)) ∧ HZ c' = some (LamX.CodeO c' (X.env.qual ++ "<lambda>")) ∧ tb σ HZ Q) := by
  refine ⟨fun pz sz σz Hz R Iz hz => ?_⟩
  obtain ⟨slot, code, rd⟩ := hz
  refine wpAny_Call_Name_kw (thn ((pe_var (pos := p1) (i := i) hN hv hd hcd).run pz sz σz Hz (fun v H1 => v = .ref f ∧ H1 = Hz) Iz ⟨.ref f, slot, rfl, rfl⟩) fun u s1 hu => ?_)
  obtain ⟨v, H1, I1, r1, ev, eH⟩ := hu
  subst ev
  rw [eH] at I1
  obtain rfl : u = Value.ref f := r1
  have lam1 : s1.heap.get? f = some (PySem.W.kla_obj "<lambda>" (X.env.qual ++ "<lambda>") params body scope (cloFrom X.env.cells scope.names []) pm c' ctv) := I1.base.keep f _ hf hfn hfr (fun z => nomatch (show f ∈ ([] : List Addr) from z))
  refine PySem.W.callWith_F0 ⟨_, _, _, _, lam1⟩ ?_
  have unZ : Un (frs X.stack) [] H Hz s.heap s1.heap := I1.base
  obtain ⟨⟨oc, ws, t, h1, h2, h3⟩, _, _⟩ := I1.hok c' _ code
  have rc : codeAny (model X.prog X.w) (X.A.deeper (envOfC qg sg s.heap.objs.size g cdg)) (.call (.ref f) ⟨[], []⟩) (CR (L2.CX X.prog X.w) (envOfC qg sg s.heap.objs.size g cdg :: X.stack) X.prog X.w Hz s1 R E) s1 := by
    refine PySem.W.kla_callFunE hr.depth lam1 rfl L.co L.gen rfl ⟨c', oc, ws, t, rfl, h1, h2, h3⟩ ?_
    rw [hbind]
    refine wpAny_pure (wpAny_newFunctionEnv (fun y hy => (L.own y hy).2) (fun y hy => absurd hy (by simp)) (fun hh ns sb => ⟨I1.nolimit.fresh _ sb, ?_⟩) L.kind)
    show codeAny _ _ (.expr body (LamX.lamEnv X scope s1.heap.objs.size f c')) _ _
    have kp : ∀ b o, s1.heap.get? b = some o → hh.get? b = some o := fun b o e => sb.extBut b o (Nat.ne_of_lt (Heap.lt_size e)) (Heap.get?_push_of_some _ e)
    have J : Inv (LamX.lamCx X (X.A.deeper (envOfC qg sg s.heap.objs.size g cdg)) (envOfC qg sg s.heap.objs.size g cdg :: X.stack) s1 Hz E scope f c') [] σ Hz { s1 with heap := hh, toks := s1.toks + ([] : List (Str × Value)).length } :=
      LamX.lam_start2 I L I1.env0 hr.hd unZ ns kp
    refine PySem.W.kla_codeExpr (wpAny_mono ((hbody _ _ s1 Hz (hr.deeper _) hgd).run [] _ _ Hz R J rd) (fun v s' hq => ?_) fun e s' hq => hq)
    obtain ⟨w', H', J', rv, q⟩ := hq
    exact ⟨w', H', J'.os, J'.bare, J'.base, J'.hok, rv, q⟩
  refine wpAny_call (codeAny_mono rc fun r s' hq => ?_)
  cases r with
  | error e => exact passes_call tk hW pz σz Hz s1 e s' I1 hq
  | ok fl =>
    cases fl with
    | ret u => exact I1.after hq
    | _ => exact False.elim hq
/-- x(lambda: body) (LamX's pe_lamcall, the guards told) -/
theorem lamcall_G {T : List (Addr × Str)} {TT : (XK → Hp → VK → Prop) → Hp → VK → Prop} {x a : Str} {g c P : Addr} {k : Nat} {pg : Arguments} {bg : List Stmt} {sg : Scope} {dV kV doc pm cdv ct oc : Value} {an od : Option Addr} {osl : Array (Option Value)} {Ng : List Str}
    {params : Arguments} {body : Expr} {scope : Scope} {t : XK → TE} {p lpos pos : Pos} (hg : Gl X x) (hm : X.mg x = some (.ref g)) (hk : PySem.W.keepIn X.K (.ref g) = true) (hgd : X.A.guards = some [])
    (lk : X.K.lookup g = some ⟨oc, od, .func (PySem.W.fnOf x x pg bg sg dV kV doc pm an cdv ct), osl⟩) (hcg : PySem.W.codeIn X.K cdv x = true) (hb : L2.Binds X.K (PySem.W.fnOf x x pg bg sg dV kV doc pm an cdv ct) [a] []) (Sg : FnScope Ng [a] sg) (hNg : Ng[0]? = some a) (hva : Vis sg a)
    (hG : LamX.GivesTo X Ng x sg g cdv bg a (X.env.qual ++ "<lambda>") TT)
    (TB : LamX.TabB X.base X.mg c P) (hcode : X.env.code = .ref c) (hmT : (P, X.env.qual ++ "<lambda>") ∈ T) (hu : ∀ p ∈ T, p.1 = P → p.2 = X.env.qual ++ "<lambda>") (hr : Room (k + 2) X.A) (L : LamX.LamS X.env.scope scope) (hdef : defaultsOf params X.env = ([], []))
    (hbind : ∀ (q : Str) (cl : List (Str × Addr)) (pm cv ctv : Value), bindArgs (PySem.W.kla_fn "<lambda>" q params body scope cl pm cv ctv) ⟨[], []⟩ = pure [])
    (hbody : ∀ (A : Around) (outer : List PySem.Env) (s : Shared) (H : Hp) (E : XK) (f c' : Addr), Room k (A.deeper (LamX.lamEnv X scope s.heap.objs.size f c')) → A.guards = some [] → PE (LamX.lamCx X A outer s H E scope f c') body (t E))
    (hdb : (x == ("__debug__" : Str)) = false) (hd : (a == ("__debug__" : Str)) = false) (hcd : (a == ("__classdict__" : Str)) = false) :
    PE X (.Call (.Name x p) [.Lambda params body scope lpos] [] pos) (LamX.tLam T TT t) := by
  refine ⟨fun pins s σ H Q I h => ?_⟩
  obtain ⟨hT, h⟩ := h
  refine wpAny_Call_Name_kw (ld_glob I hg hm ?_ hdb)
  refine PySem.W.callWith_K (h₀ := X.base) I.ok.mod.kin hk ?_ (by rfl) (by rfl)
  show wpAny _ _ (spliced ((false, eval (.Lambda params body scope lpos) X.env) :: backTo pos (starEach [] X.env))) _ _ s
  refine Calls.spliced_cons (LamX.lam_make2 I TB hcode hmT hu hT hdef (L.has I.ok) fun f c' pm' ctv H1 s' I1 eN T1 hf hfn hfr hco => ?_)
  refine Calls.spliced_nil ⟨I1.kIn, ?_⟩
  have rc : codeAny (model X.prog X.w) X.A (.call (.ref g) ⟨[.ref f], []⟩) (CR C8.CX0 X.stack X.prog X.w H1 s' Q C8.E0) s' := by
    refine LamX.run_ofS (N := Ng) (ps := [a]) (us := [.ref f]) (vs := [.ref f]) lk hcg Sg hr I1.env0 (hb s' [.ref f] I1.kIn rfl) (.cons rfl .nil) rfl fun hr' => ?_
    obtain ⟨t', ht', hq'⟩ := hG f c' s' H1 Q (fun E H' Q' => t E σ H' Q') (fun W pn xe E p1 p2 tk hW => act_G (i := 0) I1 L hf hfn hfr (hbind _ _ _ _ _) tk hW hr' hgd (fun A outer s H hr2 hg2 => hbody A outer s H E f c' hr2 hg2) hNg hva hd hcd) hco (h H1 eN T1)
    exact ⟨t', ht'.nox, hq'⟩
  refine wpAny_call (codeAny_mono rc fun r s2 hq => ?_)
  cases r with
  | error e => exact (show False from hq).elim
  | ok fl =>
    cases fl with
    | ret u => exact I1.after hq
    | _ => exact False.elim hq
end
/-- h = None / try: a() / except e as n: h = n / return h -/
def TKeep (K : PySem.W.Frag) (CS : Addr) : (XK → Hp → VK → Prop) → Hp → VK → Prop := fun tl H Q =>
  tl (fun cls d H' => ∃ b, PySem.W.exmOne K cls (.ref CS) = some b ∧ (b = true → ∀ a, H' a = none → Q (.ref a) (upd H' a (ExV cls d a))) ∧ (b = false → False)) H fun _ H' => Q .non H'
theorem keep_gives {X : Cx} {Ng : List Str} {x a e n y q : Str} {sg : Scope} {g CS : Addr} {cdg : Value} {i j : Nat} {k1} {p0 p1 p2 p3 p4 p5 p6 p7 p8 p9 pa pb pc pd : Pos} (hge : sg.names.lookup e = some .globalImplicit) (hme : X.mg e = some (.ref CS)) (hde : (e == ("__debug__" : Str)) = false)
    (hN : Ng.Nodup) (h0 : Ng[0]? = some a) (hi : Ng[i]? = some n) (hj : Ng[j]? = some y) (hi0 : i ≠ 0) (hj0 : j ≠ 0) (hij : i ≠ j) (hln : sg.names.lookup n = some .local) (hly : sg.names.lookup y = some .local)
    (hnd : (n == ("__debug__" : Str)) = false) (hncd : (n == ("__classdict__" : Str)) = false) (hyd : (y == ("__debug__" : Str)) = false) (hycd : (y == ("__classdict__" : Str)) = false) :
    LamX.GivesTo X Ng x sg g cdg [.Assign [.Name y p0] (.Constant .none k1 p1) p2, .Try [.Expr (.Call (.Name a p3) [] [] p4) p5] [.ExceptHandler (some (.Name e p6)) (some n) [.Assign [.Name y p7] (.Name n p8) p9] pa] [] [] pb, .Return (some (.Name y pc)) pd] a q (TKeep X.K CS) := by
  intro f c' s H Q tl act hc h
  have hgl : Gl (cxOf C8.CX0 X.prog X.w X.K X.mg X.base Ng x sg g cdg X.A X.stack s H C8.E0).nox e := hge
  have hjl : j < Ng.length := (List.getElem?_eq_some_iff.mp hj).1
  have hil : i < Ng.length := (List.getElem?_eq_some_iff.mp hi).1
  have hlen : (L2.start Ng [V.ref f]).length = Ng.length := by
    unfold L2.start
    simp
    omega
  have hst0 : (L2.start Ng [V.ref f])[0]? = some (some (V.ref f)) := by
    unfold L2.start
    rfl
  refine ⟨_, pss_cons (ps_set (X := (cxOf C8.CX0 X.prog X.w X.K X.mg X.base Ng x sg g cdg X.A X.stack s H C8.E0).nox) hN hj (.inl hly) pe_non rfl (.inr hly)) (pss_cons (ps_try_keep (X := (cxOf C8.CX0 X.prog X.w X.K X.mg X.base Ng x sg g cdg X.A X.stack s H C8.E0).nox) (c := .ref CS) (i := i) (j := j)
      (tb := fun W D σ H => ∃ (Ech : XK) (Qn : Hp → Prop), (∀ cls d σ' H', Ech cls d H' → W cls d σ' H') ∧ σ[0]? = some (some (.ref f)) ∧ H c' = some (LamX.CodeO c' q) ∧ (∀ H', Qn H' → D.nx σ H') ∧ tl Ech H fun _ H' => Qn H')
      rfl rfl hN hi hj hln hly ⟨hgl, hde, .inl hme⟩ hnd hncd rfl (fun W pn xe tk _ => ?_)) (pss_one (ps_ret (pe_var hj (.inl hly) hyd hycd)))), ?_⟩
  · exact pss_one ⟨fun pz sz σz Hz D I ⟨Ech, Qn, hW, h1, h2, hq, h3⟩ => wpAny_Expr_any (thn ((act W pn xe Ech p3 p4 tk hW).run pz sz σz Hz _ I ⟨h1, h2, h3⟩) fun v s1 ⟨x, H1, I1, r1, q1⟩ => ⟨σz, H1, I1, hq H1 q1⟩) I.quiet rfl⟩
  · have hs0 : ((L2.start Ng [V.ref f]).set j (some .non))[0]? = some (some (V.ref f)) := by
      rw [List.getElem?_set_ne hj0]
      exact hst0
    refine ⟨fun cls d H' => ∃ b, PySem.W.exmOne X.K cls (.ref CS) = some b ∧ (b = true → ∀ a, H' a = none → Q (.ref a) (upd H' a (ExV cls d a))) ∧ (b = false → False), fun H' => Q .non H', fun cls d σ' H' hh => ?_, hs0, hc, fun H' q => ?_, h⟩
    · obtain ⟨b, e1, e2, e3⟩ := hh
      refine ⟨b, e1, fun hb hl ad had => ⟨.ref ad, ?_, e2 hb ad had⟩, e3⟩
      have hl : σ'.length = Ng.length := hl
      rw [List.getElem?_set_ne hij, List.getElem?_set_self (by simpa [hl] using hjl)]
    · exact ⟨.non, List.getElem?_set_self (by rw [hlen]; exact hjl), q⟩
end WS
set_option maxRecDepth 100000
set_option maxHeartbeats 2000000
/-! D23: caught(lambda: e). -/
namespace WS
open PySem PySem.Spec PyProof.Rows L2
section
variable {G : Lk} {X : Cx} {W : WX} {P : Pg} {call : Nat → List DV → M DV}
theorem Wd.extN {μ ex : List Addr} {s : S} {H H1 : Hp} (w : Wd G μ ex s H) (e : LamX.ExtN H H1) (t : LamX.Tabs G.T H1) : Aft G μ ex s H μ s H1 := by
  have k : Keep (Mu μ s ex) (Mu μ s ex) H H1 := ⟨fun a o h _ n _ => e a o h n, fun a kvs h _ => h.elim (fun h => .inl (e a _ h (fun ps z => by cases z))) fun ⟨o, h⟩ => .inr ⟨o, e a _ h (fun ps z => by cases z)⟩, fun a xs h => e a _ h (fun ps z => by cases z), fun a o u h => e a _ h (fun ps z => by cases z), fun a n z => absurd z n⟩
  have hid : ∀ a ∈ ex, H1 a = H a := fun a ha => by
    cases q : H a with
    | none => exact absurd q (w.exH a ha)
    | some o => exact e a o q fun ps z => w.exT a ha ps (by rw [q, z])
  have cel : ∀ (n : Nat) (a : Addr) (c : Cell), μ[n]? = some a → s[n]? = some c → H1 a = H a := fun n a c h1 h2 => by
    have q := w.cells n a c h1 h2
    have keepIt : ∀ o, H a = some o → (∀ ps, o ≠ .tbl ps) → H1 a = H a := fun o ho no => (e a o ho no).trans ho.symm
    cases c with
    | lst ds => obtain ⟨xs, h, _⟩ := q; exact keepIt _ h (fun ps z => by cases z)
    | dct ps => obtain ⟨xs, h, _⟩ := q; exact keepIt _ h (fun ps z => by cases z)
    | ins c gs => obtain ⟨dx, fs, h, _⟩ := q; exact keepIt _ h (fun ps z => by cases z)
    | frz d =>
      cases hq : H a with
      | none => exact absurd hq (w.muH a (List.mem_of_getElem? h1))
      | some o => exact e a o hq fun ps z => w.muT a (List.mem_of_getElem? h1) ps (by rw [hq, z])
  refine ⟨⟨k, fun _ _ h => h, hid⟩, w.kp (μ' := μ) k (fun n a c h1 h2 _ => cel n a c h1 h2) t (fun a ha => by rw [hid a ha]; exact w.exH a ha) (fun a ha => ?_) (fun a ha ps => by rw [hid a ha]; exact w.exT a ha ps) fun a ha => ?_⟩
  all_goals
    obtain ⟨n, hn⟩ := List.getElem?_of_mem ha
    have hl : n < s.length := by rw [← w.len]; exact (List.getElem?_eq_some_iff.mp hn).1
    rw [cel n a s[n] hn (List.getElem?_eq_getElem hl)]
  · exact w.muH a ha
  · exact w.muT a ha
/-- the code tables of a def that makes lambdas -/
def LamF (G : Lk) (qual : Str) (code : Value) : Prop := ∃ c T, code = .ref c ∧ LamX.TabB G.base G.mg c T ∧ (T, qual ++ "<lambda>") ∈ G.T ∧ ∀ p ∈ G.T, p.1 = T → p.2 = qual ++ "<lambda>"
/-- the def that catches: its text, its place -/
structure CatF (G : Lk) (P : Pg) (gi ki : Nat) (x : Str) : Prop where
  cat : P.catches gi = some ki
  mg : G.mg x = some (.ref (G.fa gi))
  kp : PySem.W.keepIn G.K (.ref (G.fa gi)) = true
  db : (x == ("__debug__" : Str)) = false
  up : ∀ c, (P.up c).contains ki = true → PySem.W.exmOne G.K (.ref (G.xa c)) (.ref (G.xa ki)) = some true
  fn : ∃ (pg : Arguments) (bg : List Stmt) (sg : Scope) (dV kV doc pm cdv ct oc : Value) (an od : Option Addr) (osl : Array (Option Value)) (Ng : List Str) (a : Str),
    G.K.lookup (G.fa gi) = some ⟨oc, od, .func (PySem.W.fnOf x x pg bg sg dV kV doc pm an cdv ct), osl⟩ ∧ PySem.W.codeIn G.K cdv x = true ∧ L2.Binds G.K (PySem.W.fnOf x x pg bg sg dV kV doc pm an cdv ct) [a] [] ∧ FnScope Ng [a] sg ∧ Ng[0]? = some a ∧ Vis sg a ∧ (a == ("__debug__" : Str)) = false ∧ (a == ("__classdict__" : Str)) = false ∧
    ∀ (X : Cx) (q : Str), X.mg = G.mg → X.K = G.K → LamX.GivesTo X Ng x sg (G.fa gi) cdv bg a q (TKeep X.K (G.xa ki))
theorem ctx_lam (c : Ctx G X W) {A : Around} {outer : List PySem.Env} {s : Shared} {H : Hp} {E : XK} {scope : Scope} {f c' : Addr} {k : Nat} (hr : Room k (A.deeper (LamX.lamEnv X scope s.heap.objs.size f c'))) (hg : A.guards = some []) : Ctx G (LamX.lamCx X A outer s H E scope f c') (WE E) where
  hP := c.hP
  hw := c.hw
  hK := c.hK
  hm := c.hm
  hb := c.hb
  calm := rfl
  nd := c.nd
  tk := takes_of rfl rfl rfl rfl
  po := passes_of rfl
  gd := hg
  un := by have := hr.un; show (A.deeper _).units + 200 < _; omega
theorem sd_lam {gi ki k : Nat} {x : Str} {params : Arguments} {body : Expr} {scope : Scope} {ce : E} {p lpos pos : Pos} (c : Ctx G X W) (C : CatF G P gi ki x) (hg : Gl X x) (LF : LamF G X.env.qual X.env.code) (hr : Room (k + 2) X.A) (L : LamX.LamS X.env.scope scope) (hdef : ∀ env, defaultsOf params env = ([], []))
    (hbind : ∀ (q : Str) (cl : List (Str × Addr)) (pm cv ctv : Value), bindArgs (PySem.W.kla_fn "<lambda>" q params body scope cl pm cv ctv) ⟨[], []⟩ = pure [])
    (hbody : ∀ (X' : Cx) (W' : WX), Ctx G X' W' → Room k X'.A → X'.N = X.N → X'.env.scope = scope → PE X' body (TD G W' P call ce)) :
    PE X (.Call (.Name x p) [.Lambda params body scope lpos] [] pos) (TD G W P call (.lam gi ce)) := by
  obtain ⟨pg, bg, sg, dV, kV, doc, pm, cdv, ct, oc, an, od, osl, Ng, a, lk, hcg, hb, Sg, hNg, hva, had, hacd, hG⟩ := C.fn
  obtain ⟨cc, T, hcode, TB, hmT, hu⟩ := LF
  refine PE.imp (lamcall_G (T := G.T) (TT := TKeep X.K (G.xa ki)) (t := fun E => TD G (WE E) P call ce) (k := k) hg (by rw [c.hm]; exact C.mg) (by rw [c.hK]; exact C.kp) c.gd (by rw [c.hK]; exact lk) (by rw [c.hK]; exact hcg) (by rw [c.hK]; exact hb) Sg hNg hva
    (hG X _ c.hm c.hK) (by rw [c.hb, c.hm]; exact TB) hcode hmT hu hr L (hdef _) hbind (fun A outer s H E f c' hr' hg' => hbody _ _ (ctx_lam c hr' hg') hr' rfl rfl) C.db had hacd) fun σ H Q h => ?_
  obtain ⟨μ, ex, s, env, w, r, f⟩ := h
  refine ⟨w.tabs, fun H1 eN T1 => ?_⟩
  unfold ev at f
  rw [C.cat] at f
  simp only at f
  have a1 : Aft G μ ex s H μ s H1 := w.extN eN T1
  · refine ⟨μ, ex, s, env, a1.wd, r.evo a1.evo, ?_⟩
    cases hm : ev P call ce env s with
    | stuck => rw [hm] at f; exact f
    | ok d s1 =>
      rw [hm] at f
      exact fun v H2 μ2 a2 rv => f .non H2 μ2 (a1.trans a2) rfl
    | err c2 gs s1 =>
      rw [hm] at f
      intro cls dd H2 μ2 a2 er
      simp only at f
      split at f
      rotate_left
      · exact f.elim
      rename_i hup
      obtain ⟨ec, er⟩ := er
      refine ⟨true, by rw [ec, c.hK]; exact C.up c2 hup, fun _ ad had => ?_, fun z => by cases z⟩
      have a3 := Aft.alloc (o := ExV cls dd ad) a2.wd had
      refine f (.ref ad) _ μ2 ((a1.trans a2).trans a3) ⟨ad, dd, rfl, by rw [ec]; exact upd_same, a2.wd.nmu had, ?_⟩
      rcases er with q | ⟨d1, fs, e2, h1, n1, rf⟩
      · exact .inl q
      · exact .inr ⟨d1, fs, e2, by rw [upd_ne (ne_of_none h1 had)]; exact h1, n1, RepF.kp a3.evo.kp _ _ rf⟩
end
end WS
set_option maxRecDepth 100000
set_option maxHeartbeats 2000000
/-! D24: *, chains; what the text alone decides. -/
namespace WS
open PySem PySem.Spec PyProof.Rows L2
section
variable {G : Lk} {X : Cx} {W : WX} {P : Pg} {call : Nat → List DV → M DV}
/-- a text, so many times -/
theorem op_srep : OpR X (binaryOp .Mult) (fun x y H Q => ∃ z j, x = .str z ∧ y = .int j ∧ 0 ≤ j ∧ j ≤ 1000 ∧ z.length ≤ 1000 ∧ Q (.str (srep z j)) H) := by
  intro pins s σ H x y v u Q I rx ry h
  obtain ⟨z, j, rfl, rfl, h0, h1, h2, q⟩ := h
  obtain ⟨t, rfl⟩ := rx
  obtain ⟨tk, rfl⟩ := ry
  have hm : z.length * j.toNat ≤ 1000 * 1000 := Nat.mul_le_mul h2 (by omega)
  refine PySem.P.mul_str ?_ (fun hn _ => ?_) (fun hn _ => ?_) ?_
  · rw [decide_eq_false (by omega), decide_eq_false (by omega)]; rfl
  · intro hgt
    have hp : (0 : Int) < j := by omega
    have : (z.length : Int) ≤ (2 ^ 63 - 1) / j := by
      rw [Int.le_ediv_iff_mul_le hp]
      have h3 : ((z.length * j.toNat : Nat) : Int) ≤ ((1000 * 1000 : Nat) : Int) := Int.ofNat_le.mpr hm
      have h5 : ((1000 * 1000 : Nat) : Int) = 1000000 := by decide
      rw [h5] at h3
      have h4 : ((j.toNat : Nat) : Int) = j := Int.toNat_of_nonneg h0
      rw [Int.natCast_mul, h4] at h3
      omega
    omega
  · unfold Builtin.Str.tooLong
    rw [sizeLine_eq]
    simp
    omega
  · unfold srep at q
    split
    · rename_i hlt
      rw [if_pos hlt] at q
      exact ⟨by decide, .str _, H, I.tok _, ⟨_, rfl⟩, q⟩
    · rename_i hlt
      rw [if_neg hlt] at q
      split
      · rename_i h3
        rw [if_pos h3] at q
        exact ⟨.str _, H, I, ⟨_, rfl⟩, q⟩
      · rename_i h3
        rw [if_neg h3] at q
        refine ⟨?_, .str _, H, I.tok _, ⟨_, rfl⟩, q⟩
        have hl : ∀ (n : Nat) (acc : Array Nat), ((List.replicate n z.cps).foldl (· ++ ·) acc).size = acc.size + n * z.cps.size := by
          intro n
          induction n with
          | zero => intro acc; simp
          | succ n ih => intro acc; rw [List.replicate_succ, List.foldl_cons, ih, Array.size_append, Nat.add_mul]; omega
        show ((List.replicate j.toNat z.cps).foldl (· ++ ·) #[]).size ≤ sizeLine
        rw [hl, sizeLine_eq]
        have : j.toNat * z.cps.size ≤ 1000 * 1000 := by rw [Nat.mul_comm]; exact hm
        simp
        omega
theorem od_mul : OpR X (binaryOp .Mult) (rD G .mul) := opr_imp (OpR.or (OpR.or op_mulX op_rep) op_srep) fun x y H Q h => by
  obtain ⟨μ, ex, s, d1, d2, d, w, r1, r2, e, k⟩ := h
  have lst : ∀ j, d2 = .int j → (∀ i, d1 ≠ .int i) → (match listOf s d1 with
    | some xs => if 0 ≤ j ∧ j ≤ 1000 ∧ xs.length ≤ 1000 then some (DV.lst (List.replicate j.toNat xs).flatten) else none
    | none => none) = some d → rRep x y H Q := by
    intro j e2 n1 e5
    subst e2
    cases hl : listOf s d1 with
    | none => rw [hl] at e5; cases e5
    | some xs =>
      rw [hl] at e5
      simp only at e5
      split at e5
      · rename_i hj
        cases e5
        obtain ⟨a, ys, ev, ha, rl⟩ := listOf_rep w r1 hl
        have hlen := rl.len
        refine ⟨a, j, ys, ev, r2, ha, by omega, by omega, ?_, fun p hp => ?_⟩
        · rw [← LIM_eq]
          unfold LIM
          have h1 : ys.length ≤ 1000 := by omega
          have h2 : j.toNat ≤ 1000 := by omega
          calc ys.length * j.toNat ≤ 1000 * 1000 := Nat.mul_le_mul h1 h2
            _ ≤ 16777216 := by decide
        · have rep : ∀ n : Nat, RepL G (Mu μ s ex) H (List.replicate n xs).flatten (List.replicate n ys).flatten := by
            intro n
            induction n with
            | zero => exact rfl
            | succ n ih =>
              rw [List.replicate_succ, List.replicate_succ, List.flatten_cons, List.flatten_cons]
              exact RepL.append rl ih
          exact k _ _ (Aft.alloc w hp) (new_lst w hp (rep _))
      · cases e5
  cases d1 with
  | int i =>
    cases d2 with
    | int j =>
      have e : (if i.natAbs < MBIG ∧ j.natAbs < MBIG then some (DV.int (i * j)) else none) = some d := e
      split at e
      · rename_i hb
        cases e
        refine .inl (.inl ⟨i, j, r1, r2, mulx_ok (a := 4096) (b := 4096) hb.1 hb.2 (by decide), k _ _ (Aft.refl w) rfl⟩)
      · cases e
    | _ => cases e
  | str z =>
    cases d2 with
    | int j =>
      have e : (if 0 ≤ j ∧ j ≤ 1000 ∧ z.length ≤ 1000 then some (DV.str (srep z j)) else none) = some d := e
      split at e
      · rename_i hb
        cases e
        exact .inr ⟨z, j, r1, r2, hb.1, hb.2.1, hb.2.2, k _ _ (Aft.refl w) rfl⟩
      · cases e
    | _ => cases e
  | _ =>
    cases d2 with
    | int j => exact .inl (.inr (lst j rfl (fun i z => by cases z) e))
    | _ => cases e
theorem sd_chn {o o' : Cmp} {op op' : CmpOp} {a b c : Expr} {ca cb cc : E} {pos : Pos} (ho : OpR X (compareOp op) (rC G o)) (ho' : OpR X (compareOp op') (rC G o')) (ha : PE X a (TD G W P call ca)) (hb : PE X b (TD G W P call cb)) (hc : PE X c (TD G W P call cc)) (hm : lastMarks [op, op'] [b, c] = false) : PE X (.Compare a [op, op'] [b, c] pos) (TD G W P call (.chn o o' ca cb cc)) :=
  PE.imp (pe_chain ho ho' ha hb hc hm) fun σ H Q h => chn_go h
theorem st_chn {o o' : Cmp} {op op' : CmpOp} {a b c : Expr} {ca cb cc : E} {pos : Pos} (ho : OpR X (compareOp op) (rC G o)) (ho' : OpR X (compareOp op') (rC G o')) (ha : PE X a (TD G W P call ca)) (hb : PE X b (TD G W P call cb)) (hc : PE X c (TD G W P call cc)) (hm : lastMarks [op, op'] [b, c] = false) : PT X (.Compare a [op, op'] [b, c] pos) (TDt G W P call (.chn o o' ca cb cc)) :=
  PT.imp (pt_chain ho ho' ha hb hc hm) fun σ H Q h => chn_go h
/-! ### what the text alone decides -/
def isSlice : Expr → Bool
  | .Slice .. => true
  | _ => false
theorem plain_ix {b : Expr} (h : isSlice b = false) : PlainIx b := by
  intro o i
  cases b <;> first | rfl | (simp [isSlice] at h)
def isSetE : Expr → Bool
  | .Set .. => true
  | _ => false
theorem folded_ok {e : Expr} {env : PySem.Env} (h : isSetE e = false) : ∀ x, foldedSetIterable e env x = pure x := by
  intro x
  cases e <;> first | rfl | (simp [isSetE] at h)
/-- tests that are read as values -/
def plainTest : Expr → Bool
  | .UnaryOp .. => false
  | .BoolOp .. => false
  | .IfExp .. => false
  | .Compare .. => false
  | _ => true
theorem test_ok {e : Expr} {env : PySem.Env} (h : plainTest e = true) : ∀ whole, isTrue e env whole = (do let v ← whole; standAt e.pos; holding [v] (truthy v)) := by
  intro whole
  cases e <;> first | rfl | (simp [plainTest] at h)
def isCompE : Expr → Bool
  | .ListComp .. => true
  | .SetComp .. => true
  | .DictComp .. => true
  | _ => false
theorem swaps_no {e : Expr} {t : Option Expr} {l : Nat} {env : PySem.Env} (h : isCompE e = false) : swapsWith e t l env = pure false := by
  cases e <;> first | rfl | (simp [isCompE] at h)
theorem swaps_other {e t : Expr} {l : Nat} {env : PySem.Env} (h : (match t with | .Name .. => false | _ => true) = true) : swapsWith e (some t) l env = pure false := by
  unfold swapsWith
  cases e <;> cases t <;> first | rfl | (simp at h)
end
/-! ### texts in their order -/
theorem ltC_lt : ∀ a b : List Nat, ltC a b = decide (a < b) := fun a b => by
  rw [← PyProof.Rows.ltCps_eq]
  have go : ∀ a b : List Nat, ltC a b = ltCps a b := by
    intro a
    induction a with
    | nil => intro b; cases b <;> rfl
    | cons x r ih =>
      intro b
      cases b with
      | nil => rfl
      | cons y t => simp only [ltC, ltCps, ih t]
  exact go a b
def leS (x y : Str) : Prop := ¬ y.cps.toList < x.cps.toList
theorem leS_trans {x y z : Str} (h1 : leS x y) (h2 : leS y z) : leS x z := by
  have h1 : x.cps.toList ≤ y.cps.toList := h1
  have h2 : y.cps.toList ≤ z.cps.toList := h2
  exact List.le_trans h1 h2
theorem leS_anti {x y : Str} (h1 : leS x y) (h2 : leS y x) : x = y := by
  have h1 : x.cps.toList ≤ y.cps.toList := h1
  have h2 : y.cps.toList ≤ x.cps.toList := h2
  have e := List.le_antisymm h1 h2
  obtain ⟨⟨a⟩⟩ := x
  obtain ⟨⟨b⟩⟩ := y
  have e : a = b := e
  rw [e]
theorem insS_perm (x : Str) : ∀ l, (insS x l).Perm (x :: l)
  | [] => .refl _
  | y :: r => by
    unfold insS
    split
    · exact ((insS_perm x r).cons y).trans (.swap x y r)
    · exact .refl _
theorem sortS_perm : ∀ l, (sortS l).Perm l
  | [] => .refl _
  | x :: r => (insS_perm x (sortS r)).trans ((sortS_perm r).cons x)
theorem insS_sorted {x : Str} : ∀ {l : List Str}, l.Pairwise leS → (insS x l).Pairwise leS
  | [], _ => by simp [insS]
  | y :: r, h => by
    obtain ⟨h1, h2⟩ := List.pairwise_cons.mp h
    unfold insS
    split
    · rename_i hlt
      rw [ltC_lt, decide_eq_true_eq] at hlt
      refine List.pairwise_cons.mpr ⟨fun z hz => ?_, insS_sorted h2⟩
      rcases List.mem_cons.mp ((insS_perm x r).mem_iff.mp hz) with rfl | hz
      · exact fun q => List.lt_asymm hlt q
      · exact h1 z hz
    · rename_i hlt
      rw [ltC_lt, decide_eq_true_eq] at hlt
      have hxy : leS x y := hlt
      refine List.pairwise_cons.mpr ⟨fun z hz => ?_, h⟩
      rcases List.mem_cons.mp hz with rfl | hz
      · exact hxy
      · exact leS_trans hxy (h1 z hz)
theorem sortS_sorted : ∀ l, (sortS l).Pairwise leS
  | [] => .nil
  | x :: r => insS_sorted (sortS_sorted r)
theorem rising_pair : ∀ {l : List Str} {x : Str}, risingS x l = true → (x :: l).Pairwise leS
  | [], x, _ => by simp
  | y :: r, x, h => by
    simp only [risingS, Bool.and_eq_true, Bool.not_eq_true'] at h
    have hxy : leS x y := by
      have := h.1
      rw [PyProof.Rows.ltCps_eq, decide_eq_false_iff_not] at this
      exact this
    have ih := rising_pair h.2
    refine List.pairwise_cons.mpr ⟨fun z hz => ?_, ih⟩
    rcases List.mem_cons.mp hz with rfl | hz
    · exact hxy
    · exact leS_trans hxy ((List.pairwise_cons.mp ih).1 z hz)
theorem sorted_unique {ys xs : List Str} (hp : ys.Perm xs) (hs : sortedS ys = true) : ys = sortS xs := by
  have h : ys.Pairwise leS := by
    cases ys with
    | nil => exact .nil
    | cons y r => exact rising_pair hs
  exact List.Perm.eq_of_pairwise (le := leS) (fun a b _ _ => leS_anti) h (sortS_sorted xs) (hp.trans (sortS_perm xs).symm)
/-! ### sorted, list, tuple -/
section
variable {G : Lk} {X : Cx} {W : WX} {P : Pg} {call : Nat → List DV → M DV}
/-- sorted of a tuple of texts -/
theorem sorted_tup (hcalm : X.calm = true) : CallR X (.builtin "sorted") (fun vs H Q => ∃ (a : Addr) (xs : List Str), vs = [V.ref a] ∧ SqT X.K H a (xs.map V.str) ∧ xs.length < 64 ∧ ∀ (ys : List Str) (p : Addr), ys.Perm xs → sortedS ys = true → H p = none → Q (.ref p) (upd H p (.lst (ys.map V.str)))) := by
  intro pins s σ H vs us Q I r h
  obtain ⟨a, xs, rfl, sq, h64, q⟩ := h
  obtain ⟨u, rfl, rx⟩ := vals1 r
  cases rx
  obtain ⟨its, rv, pl, hz⟩ := I.tuple sq
  have hS := rv.strs
  have hlen : its.length = xs.length := by have z := rv.length; rw [List.length_map] at z; exact z.symm
  obtain ⟨ob, ho, hc, n, hd⟩ := pl
  refine Calls.call_function_entry PyProof.Rows.kind_sorted PyProof.Rows.plain_sorted PyProof.Rows.entry_sorted (PyProof.Rows.args_sorted1 _) ?_; unfold Builtin.«sorted»; refine wpAny_bind (m := checkCount "sorted" 1 1 _) (wpAny_pure ?_)
  refine wpAny_bind (wpAny_collect_seq a (.inr rfl) ho hc hd (fun h1 hk => ?_) (by simp; rw [hlen]; have := sizeLine_eq; omega))
  have I1 : Inv X pins σ H { s with heap := h1 } := I.kept (t' := s.toks) hk
  refine wpAny_bind (wpAny_newList ?_ (by simp only [List.toList_toArray]; rw [hlen, sizeLine_eq]; omega))
  simp only [List.toList_toArray]
  have at_ : (h1.push (seqObj "list" its.toArray 0)).get? h1.objs.size = some (seqObj "list" its.toArray 0) := Heap.get?_push_size _ rfl
  show wpAny _ _ _ _ _ { s with heap := h1.push (seqObj "list" its.toArray 0) }
  refine wpAny_bind (wpAny_holding (wpAny_call_entry PyProof.Rows.slot_list_sort ⟨_, at_, rfl⟩ PyProof.Rows.entry_list_sort
    (list_sort_treeK strKind_oneLt (s := { s with heap := h1.push (seqObj "list" its.toArray 0) }) at_ hS.keysOf (fun v₁ v₂ rest e => keyKind_strs (by rw [← e]; exact hS)) (by rw [hlen]; exact h64) fun st' hp hs => ⟨_, rfl, ?_⟩) (PyProof.Rows.args_list_sort _)))
  obtain ⟨ys, sS, pS, oS⟩ := sorted_out_str hS hp hs
  obtain ⟨ep, he'⟩ := PyProof.Rows.sortedHeap_at (vs := its) (out := (arrOf st').map (·.2)) at_
  have small : (ys.map V.str).length ≤ sizeLine := by rw [List.length_map, pS.length_eq, sizeLine_eq]; omega
  refine wpAny_pure ⟨_, rfl, .ref h1.objs.size, upd H h1.objs.size (.lst (ys.map V.str)), I1.laid (t' := s.toks) (fun b u e => ?_) (Nat.le_refl _) (show ObjOk X.prog X.w _ _ _ (.lst (ys.map V.str)) from ⟨small, ((arrOf st').map (·.2)).toList, ep, vals_of_strs sS, by rw [Array.toArray_toList]; exact he'⟩), rfl, q ys _ pS oS (I1.hok.fresh (Nat.le_refl _))⟩
  have lt : b < h1.objs.size := Heap.lt_size e
  exact (PyProof.Rows.sortedHeap_old (Nat.ne_of_lt lt) (by rw [size_push']; exact Nat.lt_succ_of_lt lt)).trans (Heap.get?_push_of_some _ e)
theorem strs_rep {M : Addr → Prop} {H : Hp} : ∀ {ds : List DV} {xs : List V} {ss : List Str}, RepL G M H ds xs → strsOf ds = some ss → xs = ss.map V.str
  | [], _, _, r, e => by
    have e' : some [] = some _ := e
    cases e'
    exact r
  | d :: ds, _, ss, ⟨x, q, e1, rx, rl⟩, e => by
    cases d with
    | str z =>
      have e' : (strsOf ds).map (z :: ·) = some ss := e
      obtain ⟨t, h1, h2⟩ := Option.map_eq_some_iff.mp e'
      subst h2
      rw [e1, strs_rep rl h1, show x = V.str z from rx]
      rfl
    | _ => simp [strsOf] at e
theorem rep_strs {M : Addr → Prop} {H : Hp} : ∀ ss : List Str, RepL G M H (ss.map DV.str) (ss.map V.str)
  | [] => rfl
  | x :: r => ⟨_, _, rfl, rfl, rep_strs r⟩
/-- a dict's keys -/
theorem keys_rep {μ : List Addr} {M : Addr → Prop} {H : Hp} : ∀ {ds : List (DV × DV)} {xs : List (Key × V)}, RepQ G μ M H ds xs → RepL G M H (ds.map (·.1)) (xs.map fun kv => kV kv.1)
  | [], _, e => by rw [show _ = [] from e]; rfl
  | (p, u) :: ds, _, ⟨k, x, r, e1, e2, h, t⟩ => by
    subst e1 e2
    refine ⟨_, _, rfl, ?_, keys_rep t⟩
    cases k <;> rfl
theorem keys_strs {μ : List Addr} {M : Addr → Prop} {H : Hp} : ∀ {ds : List (DV × DV)} {xs : List (Key × V)} {ss : List Str}, RepQ G μ M H ds xs → strsOf (ds.map (·.1)) = some ss → xs.map (·.1) = ss.map Sum.inr
  | [], _, _, e, h => by
    have h' : some [] = some _ := h
    cases h'
    rw [show _ = [] from e]
    rfl
  | (p, u) :: ds, _, ss, ⟨k, x, r, e1, e2, h, t⟩, hs => by
    subst e1 e2
    cases k with
    | inl i => simp [keyDV, strsOf] at hs
    | inr z =>
      have e' : (strsOf (ds.map (·.1))).map (z :: ·) = some ss := hs
      obtain ⟨ts, h1, h2⟩ := Option.map_eq_some_iff.mp e'
      subst h2
      simp only [List.map_cons, keys_strs t h1]
theorem cp_sorted (c : Ctx G X W) : CallR X (.builtin "sorted") (rP G .sorted) := callr_imp (callr_or (callr_or cr_sortedS (sorted_tup c.calm)) (call_sortedD c.calm)) fun xs H Q h => by
  obtain ⟨μ, ex, s, ds, d, w, r, e, k⟩ := h
  rcases ds with _ | ⟨a, _ | ⟨b, ds⟩⟩
  · simp [semP] at e
  · obtain ⟨x, rfl, rx⟩ := one_of r
    have e' : (match seqOf s a with
      | some xs => (strsOf xs).bind fun ss => if ss.length < 64 then some (DV.lst ((sortS ss).map .str)) else none
      | none => match dictOf s a with
        | some kvs => (strsOf (kvs.map (·.1))).bind fun ss => if ss.length < 64 then some (DV.lst ((sortS ss).map .str)) else none
        | none => none) = some d := e
    cases hs : seqOf s a with
    | none =>
      rw [hs] at e'
      simp only at e'
      cases hd : dictOf s a with
      | none => rw [hd] at e'; cases e'
      | some kvs =>
        rw [hd] at e'
        obtain ⟨ss, h1, h2⟩ := Option.bind_eq_some_iff.mp e'
        split at h2
        · rename_i h64
          cases h2
          obtain ⟨p, ys, rfl, ha, rq⟩ := dictOf_rep w rx hd
          exact .inr ⟨p, ys, ss, rfl, ha, keys_strs rq h1, h64, fun zs q hp hs hn => by
            rw [sorted_unique hp hs]
            exact k _ _ (Aft.alloc w hn) (new_lst w hn (rep_strs _))⟩
        · cases h2
    | some zs =>
      rw [hs] at e'
      obtain ⟨ss, h1, h2⟩ := Option.bind_eq_some_iff.mp e'
      split at h2
      · rename_i h64
        cases h2
        obtain ⟨p, ys, rfl, hq, q⟩ := seqOf_rep w rx hs
        have ey := strs_rep q h1
        subst ey
        rw [← c.hK] at hq
        have fin : ∀ (ys : List Str) (p : Addr), ys.Perm ss → sortedS ys = true → H p = none → Q (.ref p) (upd H p (.lst (ys.map V.str))) := fun ys p hp hs hn => by
          rw [sorted_unique hp hs]
          exact k _ _ (Aft.alloc w hn) (new_lst w hn (rep_strs _))
        rcases hq with hq | hq
        · exact .inl (.inl ⟨p, ss, rfl, hq, h64, fin⟩)
        · exact .inl (.inr ⟨p, ss, rfl, hq, h64, fin⟩)
      · cases h2
  · cases a <;> simp [semP] at e
/-! ### repr -/
mutual
theorem showD_py : ∀ d : DV, showD d = true → (toPyR d).showable = true
  | .non, _ => rfl
  | .bl b, _ => rfl
  | .int i, h => h
  | .str x, _ => rfl
  | .tup xs, h => showL_py xs h
  | .lst xs, h => showL_py xs h
  | .dct kvs, h => showK_py kvs h
  | .ins _ _, h => by cases h
  | .exc _ _, h => by cases h
  | .scr _, h => by cases h
  | .loc _, h => by cases h
theorem showL_py : ∀ xs : List DV, showL xs = true → PyData.showableAll (toPyRL xs) = true
  | [], _ => rfl
  | x :: r, h => by
    simp only [showL, Bool.and_eq_true] at h
    simp [toPyRL, PyData.showableAll, showD_py x h.1, showL_py r h.2]
theorem showK_py : ∀ xs : List (DV × DV), showK xs = true → PyData.showableKv (toPyRK xs) = true
  | [], _ => rfl
  | (k, v) :: r, h => by
    simp only [showK, Bool.and_eq_true] at h
    simp [toPyRK, PyData.showableKv, showD_py k h.2.1, showD_py v h.2.2.1, showK_py r h.2.2.2]
end
theorem kV_py {k : Key} {u : Value} (h : Heap) (r : RelV (kV k) u) : Reads h u (toPyR (keyDV k)) [] := by
  cases k with
  | inl i => obtain ⟨t, rfl⟩ := r; exact Reads.int i t
  | inr x => obtain ⟨t, rfl⟩ := r; exact Reads.str x t
theorem key_py {P : Program} {w : World} {k : Key} {u : Value} (h : Heap) (r : (mixKind P w).is k u = true) : Reads h u (toPyR (keyDV k)) [] := by
  rcases keyIs_shape r with ⟨i, t, e, rfl⟩ | ⟨x, t, e, rfl⟩
  · cases e; exact Reads.int i t
  · cases e; exact Reads.str x t
mutual
/-- data, read from the heap -/
theorem rep_reads {pins : List (Addr × Obj)} {σ : L2.St} {H : Hp} {s : Shared} {M : Addr → Prop} (hK : X.K = G.K) (I : Inv X pins σ H s) (sm : H sysModules = none) : ∀ (d : DV) (v : V) (u : Value), showD d = true → RepT G M H d v → RelV v u → ∃ as, Reads s.heap u (toPyR d) as ∧ sysModules ∉ as
  | .non, _, _, _, h, r => by rw [show _ = V.non from h] at r; cases r; exact ⟨_, Reads.none, by simp⟩
  | .bl b, _, _, _, h, r => by rw [show _ = V.bl b from h] at r; cases r; exact ⟨_, Reads.bool b, by simp⟩
  | .int i, _, _, _, h, r => by rw [show _ = V.int i from h] at r; obtain ⟨t, rfl⟩ := r; exact ⟨_, Reads.int i t, by simp⟩
  | .str x, _, _, _, h, r => by rw [show _ = V.str x from h] at r; obtain ⟨t, rfl⟩ := r; exact ⟨_, Reads.str x t, by simp⟩
  | .tup ds, _, _, hp, ⟨a, xs, e, h, q⟩, r => by
    rw [e] at r
    cases r
    obtain ⟨its, rv, ⟨o, ho, hc, n, hd⟩, _⟩ := I.tuple (by rw [hK]; exact h)
    obtain ⟨as, hr, hn⟩ := rep_readsL hK I sm ds xs its hp q rv
    exact ⟨_, Reads.tuple ho hc hd hr, hn⟩
  | .lst ds, _, _, hp, ⟨a, xs, e, h, _, q⟩, r => by
    rw [e] at r
    cases r
    obtain ⟨its, rv, ⟨o, n, ho, hc, _, hd⟩, _⟩ := I.list (SqL.of h)
    obtain ⟨as, hr, hn⟩ := rep_readsL hK I sm ds xs its hp q rv
    refine ⟨_, Reads.list ho hc hd hr, ?_⟩
    simp only [List.mem_cons, not_or]
    exact ⟨(fun z => by rw [← z, sm] at h; cases h), hn⟩
  | .dct ps, _, _, hp, ⟨a, kvs, e, h, _, q⟩, r => by
    rw [e] at r
    cases r
    obtain ⟨_, hd, vs, rel, o, es, ep, ho, hx, hda, hk, hpr, _⟩ := dk_rd I.hok h
    obtain ⟨as, bs, h1, h2, h3, h4⟩ := rep_readsP hK I sm ps kvs vs es.toList hp q rel hpr
    refine ⟨_, Reads.dict ho hx.1 hda h1 h2, ?_⟩
    simp only [List.mem_cons, List.mem_append, not_or]
    refine ⟨⟨fun z => ?_, h3⟩, h4⟩
    rw [← z] at hd
    simp at hd
  | .ins _ _, _, _, hp, _, _ => by simp [showD] at hp
  | .exc _ _, _, _, hp, _, _ => by simp [showD] at hp
  | .scr _, _, _, hp, _, _ => by simp [showD] at hp
  | .loc _, _, _, hp, _, _ => by simp [showD] at hp
theorem rep_readsL {pins : List (Addr × Obj)} {σ : L2.St} {H : Hp} {s : Shared} {M : Addr → Prop} (hK : X.K = G.K) (I : Inv X pins σ H s) (sm : H sysModules = none) : ∀ (ds : List DV) (vs : List V) (us : List Value), showL ds = true → RepL G M H ds vs → Vals vs us → ∃ as, ReadsAll s.heap us (toPyRL ds) as ∧ sysModules ∉ as
  | [], _, _, _, h, r => by rw [show _ = [] from h] at r; cases r; exact ⟨_, ReadsAll.nil, by simp⟩
  | d :: ds, _, _, hp, ⟨x, t, e, h, q⟩, r => by
    simp only [showL, Bool.and_eq_true] at hp
    rw [e] at r
    cases r with
    | cons r1 r2 =>
      obtain ⟨as, h1, n1⟩ := rep_reads hK I sm d x _ hp.1 h r1
      obtain ⟨bs, h2, n2⟩ := rep_readsL hK I sm ds t _ hp.2 q r2
      exact ⟨_, ReadsAll.cons h1 h2, by simp [n1, n2]⟩
theorem rep_readsP {pins : List (Addr × Obj)} {σ : L2.St} {H : Hp} {s : Shared} {M : Addr → Prop} (hK : X.K = G.K) (I : Inv X pins σ H s) (sm : H sysModules = none) : ∀ (ds : List (DV × DV)) (kvs : List (Key × V)) (vs : List (Key × Value)) (es : List DictEntry), showK ds = true → RepP G M H ds kvs → KV kvs vs → Pairs (mixKind X.prog X.w) es vs →
    ∃ as bs, ReadsAll s.heap (es.map (·.key)) ((toPyRK ds).map (·.1)) as ∧ ReadsAll s.heap (es.map (·.val)) ((toPyRK ds).map (·.2)) bs ∧ sysModules ∉ as ∧ sysModules ∉ bs
  | [], _, _, _, _, h, r, p => by rw [show _ = [] from h] at r; cases r; cases p; exact ⟨_, _, ReadsAll.nil, ReadsAll.nil, by simp, by simp⟩
  | (dk, d) :: ds, _, _, _, hp, ⟨k, x, t, e, ek, h, q⟩, r, p => by
    simp only [showK, Bool.and_eq_true] at hp
    rw [e] at r
    cases r with
    | cons r1 r2 =>
      cases p with
      | @cons e' kv' es' kvs' p1 p2 p3 =>
        obtain ⟨r3, r4⟩ := r1
        obtain ⟨as, h1, n1⟩ := rep_reads hK I sm d x _ hp.2.2.1 h r4
        obtain ⟨as2, bs2, h2, h3, n2, n3⟩ := rep_readsP hK I sm ds t _ _ hp.2.2.2 q r2 p3
        subst ek
        refine ⟨[] ++ as2, as ++ bs2, ReadsAll.cons (key_py (P := X.prog) (w := X.w) (k := k) s.heap (by rw [← r3] at p1; exact p1)) h2, ReadsAll.cons (show Reads s.heap e'.val (toPyR d) as by rw [p2]; exact h1) h3, by simpa using n2, by simp [n1, n3]⟩
end
theorem call_repr_d (hK : X.K = G.K) (hsm : (G.K.lookup sysModules).isSome = true) (hg : X.A.guards = some []) (hu : X.A.units + 200 < cLine) : CallR X (.builtin "repr") (fun xs H Q => ∃ v d M, xs = [v] ∧ RepT G M H d v ∧ showD d = true ∧ (toPyR d).depth ≤ 60 ∧ (toPyR d).shown.length ≤ sizeLine ∧ Q (.str (toPyR d).shown) H) := by
  intro pins s σ H xs us Q I r h
  obtain ⟨v, d, M, rfl, hd, h0, h3, h4, q⟩ := h
  obtain ⟨u, rfl, rx⟩ := vals1 r
  have sm : H sysModules = none := by
    obtain ⟨o, ho⟩ := Option.isSome_iff_exists.mp hsm
    exact (I.bs _ o (I.ok.mod.kin _ _ (by rw [hK]; exact ho))).2
  have h1 := showD_py d h0
  obtain ⟨as, rd, hn⟩ := rep_reads hK I sm d v u h0 hd rx
  generalize toPyR d = pd at *
  cases rd with
  | none => exact PySem.P.repr_of_none ⟨.str _, H, I.tok _, ⟨_, rfl⟩, q⟩
  | bool b => exact PySem.P.repr_of_bool ⟨.str _, H, I.tok _, ⟨_, rfl⟩, q⟩
  | int i t => exact PySem.P.repr_of_int (by simpa [PyData.showable] using h1) ⟨.str _, H, I.tok _, ⟨_, rfl⟩, q⟩
  | str x t => exact PySem.P.repr_of_str ⟨.str _, H, I.tok _, ⟨_, rfl⟩, q⟩ h4
  | list a1 a2 a3 a4 => exact repr_of_reads' (.list a1 a2 a3 a4) h1 (fun _ => hn) hg (by omega) (fun _ _ e => e) (fun h' u tk hk => ⟨.str _, H, I.kept (t' := tk) hk, ⟨u, rfl⟩, q⟩) h4
  | tuple a1 a2 a3 a4 => exact repr_of_reads' (.tuple a1 a2 a3 a4) h1 (fun _ => hn) hg (by omega) (fun _ _ e => e) (fun h' u tk hk => ⟨.str _, H, I.kept (t' := tk) hk, ⟨u, rfl⟩, q⟩) h4
  | dict a1 a2 a3 a4 a5 => exact repr_of_reads' (.dict a1 a2 a3 a4 a5) h1 (fun _ => hn) hg (by omega) (fun _ _ e => e) (fun h' u tk hk => ⟨.str _, H, I.kept (t' := tk) hk, ⟨u, rfl⟩, q⟩) h4
theorem cp_repr (c : Ctx G X W) (hsm : (G.K.lookup sysModules).isSome = true) : CallR X (.builtin "repr") (rP G .repr) := callr_imp (call_repr_d (G := G) c.hK hsm c.gd c.un) fun xs H Q h => by
  obtain ⟨μ, ex, s, ds, d, w, r, e, k⟩ := h
  rcases ds with _ | ⟨a, _ | ⟨b, ds⟩⟩
  · simp [semP] at e
  · obtain ⟨x, rfl, rx⟩ := one_of r
    have e' : (match treeOf s a with
      | some t => if showD t && decide ((toPyR t).depth ≤ 60) && decide ((reprD t).length ≤ LIM) then some (DV.str (reprD t)) else none
      | none => none) = some d := e
    cases ht : treeOf s a with
    | none => rw [ht] at e'; cases e'
    | some t =>
      rw [ht] at e'
      simp only at e'
      split at e'
      · rename_i hc
        simp only [Bool.and_eq_true, decide_eq_true_eq] at hc
        cases e'
        obtain ⟨M', q⟩ := treeOf_rep w rx ht
        refine ⟨x, t, M', rfl, q, hc.1.1, hc.1.2, by rw [sizeLine_eq]; exact hc.2, ?_⟩
        exact k _ _ (Aft.refl w) rfl
      · cases e'
  · cases a <;> simp [semP] at e
/-- list(d), d locked or not -/
theorem list_dict (hc : X.calm = true) : CallR X (.type "list") (fun xs H Q => ∃ p kvs, xs = [.ref p] ∧ Rd H p (.dK kvs) ∧ ∀ q, H q = none → Q (.ref q) (upd H q (.lst (kvs.map fun kv => kV kv.1)))) := by
  intro pins s σ H xs us Q I r h
  obtain ⟨p, kvs, rfl, hk, q⟩ := h
  obtain ⟨u, rfl, rx⟩ := vals1 r
  cases rx
  obtain ⟨z, lo, vs, rk, hd⟩ := dk_rd I.hok hk
  obtain ⟨ep, hat⟩ := hd.dictAt
  have hl : kvs.length = vs.length := Paired.length rk
  have ek : (kvs.map fun kv => kV kv.1) = (kvs.map (·.1)).map kV := by rw [List.map_map]; rfl
  refine PySem.W.kdl_call (PySem.W.kdl_dict (knd := mixKind X.prog X.w) (kvs := vs) (ep := ep) lo) (I.ok.hd hc) hat (by rw [← hl]; exact z) fun h' tk acc' c' hkeep hS hacc => ?_
  have hv : Vals (kvs.map fun kv => kV kv.1) acc'.toList := by
    refine vals_of_at (by have el : acc'.toList.length = acc'.size := by simp
                          rw [List.length_map, el, hacc.1, hl]) fun j x w h1 h2 => ?_
    obtain ⟨k, y, hky, hi⟩ := hacc.2 j w (by rw [← Array.getElem?_toList]; exact h2)
    rw [ek, KV.keys rk, List.getElem?_map, List.getElem?_map, hky] at h1
    cases h1
    exact keyIs_rel hi
  exact ⟨.ref s.heap.objs.size, upd H s.heap.objs.size (.lst (kvs.map fun kv => kV kv.1)), I.laid hkeep (Nat.le_refl _) (show ObjOk X.prog X.w _ _ _ (.lst (kvs.map fun kv => kV kv.1)) from ⟨by rw [List.length_map]; exact z, acc'.toList, c', hv, by rw [Array.toArray_toList]; exact hS⟩), rfl, q _ (I.hok.fresh (Nat.le_refl _))⟩
theorem cp_list (c : Ctx G X W) : CallR X (.type "list") (rP G .list) := callr_imp (callr_or call_list_of (list_dict c.calm)) fun xs H Q h => by
  obtain ⟨μ, ex, s, ds, d, w, r, e, k⟩ := h
  rcases ds with _ | ⟨a, _ | ⟨b, ds⟩⟩
  · simp [semP] at e
  · obtain ⟨x, rfl, rx⟩ := one_of r
    have e' : (match seqOf s a with
      | some xs => some (DV.lst xs)
      | none => (dictOf s a).map fun kvs => DV.lst (kvs.map (·.1))) = some d := e
    cases hs : seqOf s a with
    | some zs =>
      rw [hs] at e'
      cases e'
      obtain ⟨p, ys, rfl, hq, q⟩ := seqOf_rep w rx hs
      rw [← c.hK] at hq
      exact .inl ⟨p, ys, rfl, hq, fun l hl => k _ _ (Aft.alloc w hl) (new_lst w hl q)⟩
    | none =>
      rw [hs] at e'
      obtain ⟨kvs, hd, h2⟩ := Option.map_eq_some_iff.mp e'
      subst h2
      obtain ⟨p, ys, rfl, ha, rq⟩ := dictOf_rep w rx hd
      exact .inr ⟨p, ys, rfl, ha, fun l hl => k _ _ (Aft.alloc w hl) (new_lst w hl (keys_rep rq))⟩
  · cases a <;> simp [semP] at e
/-- .. as a new cell -/
def rPN (G : Lk) (p : Prim) : List V → Hp → VK → Prop := fun xs H Q => ∃ μ ex s ds ys, Wd G μ ex s H ∧ Paired (fun d v => Rep G μ (Mu μ s ex) H d v) ds xs ∧ semP p ds s = some (.lst ys) ∧
  ∀ p zs, H p = none → RepL G (Mu μ s ex) H ys zs → Q (.ref p) (upd H p (.lst zs))
theorem cn_list (c : Ctx G X W) : CallR X (.type "list") (rPN G .list) := callr_imp (callr_or call_list_of (list_dict c.calm)) fun xs H Q h => by
  obtain ⟨μ, ex, s, ds, d, w, r, e, k⟩ := h
  rcases ds with _ | ⟨a, _ | ⟨b, ds⟩⟩
  · simp [semP] at e
  · obtain ⟨x, rfl, rx⟩ := one_of r
    have e' : (match seqOf s a with
      | some xs => some (DV.lst xs)
      | none => (dictOf s a).map fun kvs => DV.lst (kvs.map (·.1))) = some (.lst d) := e
    cases hs : seqOf s a with
    | some zs =>
      rw [hs] at e'
      cases e'
      obtain ⟨p, ys, rfl, hq, q⟩ := seqOf_rep w rx hs
      rw [← c.hK] at hq
      exact .inl ⟨p, ys, rfl, hq, fun l hl => k _ _ hl q⟩
    | none =>
      rw [hs] at e'
      obtain ⟨kvs, hd, h2⟩ := Option.map_eq_some_iff.mp e'
      cases h2
      obtain ⟨p, ys, rfl, ha, rq⟩ := dictOf_rep w rx hd
      exact .inr ⟨p, ys, rfl, ha, fun l hl => k _ _ hl (keys_rep rq)⟩
  · cases a <;> simp [semP] at e
theorem list_lst {ds : List DV} {s : S} {d : DV} (h : semP .list ds s = some d) : ∃ ys, d = .lst ys := by
  rcases ds with _ | ⟨a, _ | ⟨b, ds⟩⟩
  · simp [semP] at h
  · have e' : (match seqOf s a with
      | some xs => some (DV.lst xs)
      | none => (dictOf s a).map fun kvs => DV.lst (kvs.map (·.1))) = some d := h
    split at e'
    · exact ⟨_, (Option.some.inj e').symm⟩
    · obtain ⟨_, _, q⟩ := Option.map_eq_some_iff.mp e'
      exact ⟨_, q.symm⟩
  · cases a <;> simp [semP] at h
theorem sd_newList {P : Pg} {call : Nat → List DV → M DV} {e : Expr} {es : List Expr} {cr : Es} {p1 pos : Pos} (c : Ctx G X W) (hg : Gl X "list") (hm : G.mg "list" = none) (ha : PA X (e :: es) (TDs G W P call cr))
    (he : starEach (e :: es) X.env = (false, eval e X.env) :: starEach es X.env) (hpl : (backTo pos (starEach es X.env)).any (·.1) = false) : PE X (.Call (.Name "list" p1) (e :: es) [] pos) (TD G W P call (.new (.prim .list cr))) :=
  PE.imp (pe_callTy (cn_list c) hg (by rw [c.hm]; exact hm) (by decide +kernel) ha (by decide) (by decide) he hpl) fun σ H Q h => by
    obtain ⟨μ, ex, s, env, w, r, f⟩ := h
    unfold ev at f
    unfold ev at f
    simp only [bind_assoc] at f
    refine tds_of w r f fun vs H1 ds s1 μ1 e a1 rp r1 f1 => ?_
    cases hsp : semP .list ds s1 with
    | none => rw [hsp] at f1; exact f1.elim
    | some d =>
      obtain ⟨ys, rfl⟩ := list_lst hsp
      rw [hsp] at f1
      refine ⟨μ1, ex, s1, ds, ys, a1.wd, rp, hsp, fun p xs hp rl => ?_⟩
      obtain ⟨w3, k3⟩ := Wd.hide (o := .lst xs) a1.wd hp
      have np : p ∉ ex := fun z => a1.wd.exH p z hp
      exact cell_new (c := .lst ys) f1 rfl np w3 k3 (fun _ _ h => h) (fun a ha => upd_ne fun z => np (by rw [← z]; exact ha)) ⟨xs, upd_same, RepL.kp k3 _ _ rl⟩
theorem cp_tuple (c : Ctx G X W) : CallR X (.type "tuple") (rP G .tuple) := callr_imp call_tuple_of fun xs H Q h => by
  obtain ⟨μ, ex, s, ds, d, w, r, e, k⟩ := h
  rcases ds with _ | ⟨a, _ | ⟨b, ds⟩⟩
  · simp [semP] at e
  · obtain ⟨x, rfl, rx⟩ := one_of r
    have e' : (seqOf s a).map DV.tup = some d := e
    obtain ⟨zs, hs, h2⟩ := Option.map_eq_some_iff.mp e'
    subst h2
    obtain ⟨p, ys, rfl, hq, q⟩ := seqOf_rep w rx hs
    refine ⟨p, ys, rfl, ?_⟩
    rcases hq with hq | hq
    · exact .inl ⟨by rw [c.hK]; exact hq, fun l hl => k _ _ (Aft.alloc w hl) (new_tup hl q)⟩
    · exact .inr ⟨by rw [c.hK]; exact hq, k _ _ (Aft.refl w) ⟨p, ys, rfl, hq, q⟩⟩
  · cases a <;> simp [semP] at e
end
end WS
set_option maxRecDepth 100000
set_option maxHeartbeats 2000000
/-! D25: dict displays as trees; scopes; targets; name = [..]. -/
namespace WS
section
open PySem PySem.HandSPX
open Builtin Builtin.ObjectAttr
section
variable {M : Model} {A : Around} {E : Value → Shared → Prop} {h : Heap} {g : Array GenState} {d : Drawn} {t : Nat} {os : OsState}
variable {nm q : Str} {C N : Addr} {bs bm bmB : List Value} {hdct : Bool} {sn : List Str} {sub : List Value} {ab : Bool} {col : Option Bool} {dd : Option Addr} {k0 k1 k2 k3 k5 : Option Value} {B newId initId : String}
theorem check_newK (F : ExcBaseFacts B newId initId bmB) (hT : ∀ X : String, bm.contains (.type X) = bmB.contains (.type X)) {rest : List Value} {kws : List (Str × Value)} {Q : Unit → Shared → Prop}
    (hC : h.get? C = some (excClassObj nm q C N bs bm hdct sn sub ab col dd k0 k1 k2 k3 k5 newId)) (hq : Q () ⟨h, g, d, t, os⟩) : wpAny M A (checkBuiltinCall newId ⟨.ref C :: rest, kws⟩) Q E ⟨h, g, d, t, os⟩ := by
  have hcont : (Value.ref C :: bm).contains (.type B) = true := by rw [List.contains_cons, hT, F.hasB, Bool.or_true]
  have hstar := F.noStar
  simp only [checkBuiltinCall, F.newKind, F.newSplit, F.newRow]
  repeat (first | refine wpAny_loadPart_at hC ?_ | (refine wpAny_isSubtype_exc hC ?_; rw [hcont]) | refine wpAny_staticBase_exc hC ?_ | refine wpAny_madeBy_exc hC ?_ | simp only [bne_self_eq_false, Bool.false_eq_true, if_false] | wp_step)
  exact hq
end
section
variable {prog : Program} {w : World} {A : Around} {E : Value → Shared → Prop} {R : Result → Shared → Prop} {h : Heap} {g : Array GenState} {d : Drawn} {t : Nat} {os : OsState}
variable {nm q : Str} {C N : Addr} {bs bm bmB : List Value} {hdct : Bool} {sn : List Str} {sub : List Value} {ab : Bool} {col : Option Bool} {dd : Option Addr} {k0 k1 k2 k3 k5 : Option Value} {B newId initId : String}
theorem newK (F : ExcBaseFacts B newId initId bmB) (hT : ∀ X : String, bm.contains (.type X) = bmB.contains (.type X)) {rest : List Value} {kws : List (Str × Value)}
    (hC : h.get? C = some (excClassObj nm q C N bs bm hdct sn sub ab col dd k0 k1 k2 k3 k5 newId))
    (hq : R (.ok (.ret (.ref (h.objs.size + 1)))) ⟨(h.push { cls := .type "tuple", data := .seq rest.toArray }).push
      { cls := .ref C, data := .fields #[.ref h.objs.size, .none, .none, .none, .bool false, .none] }, g, d, t, os⟩) (hrest : rest.length ≤ sizeLine) :
    codeAny (model prog w) A (.builtin newId ⟨.ref C :: rest, kws⟩) R ⟨h, g, d, t, os⟩ := by
  have hends := F.ends
  have hcB : (Value.ref C :: bm).contains (.type B) = true := by rw [List.contains_cons, hT, F.hasB, Bool.or_true]
  have hcA : (Value.ref C :: bm).contains (.type "AttributeError") = false := by rw [List.contains_cons, hT, F.noAttr]; rfl
  have hcN : (Value.ref C :: bm).contains (.type "NameError") = false := by rw [List.contains_cons, hT, F.noName]; rfl
  refine codeAny_builtinAt F.entry ?_
  unfold Builtin.«BaseException.__new__»
  refine wpAt_bind ?_
  show wpAt _ _ _ (stack >>= _) _ _ _
  refine wpAt_bind (wpAt_stack fun p below => wpAt_of_wpAny ?_)
  wp_walk
  refine wpAt_of_wpAny ?_
  rw [F.owner]
  repeat (first | with_reducible refine wpAny_madeHere_exc F.canon hC ?_ | with_reducible refine wpAny_loadPart_at hC ?_ | (with_reducible refine wpAny_isSubtype_exc hC ?_; first | rw [hcB] | rw [hcA] | rw [hcN]) | wp_step)
  show R _ _
  rw [Heap.size_push]
  exact hq
theorem type_callK (F : ExcBaseFacts B newId initId bmB) (hT : ∀ X : String, bm.contains (.type X) = bmB.contains (.type X)) {rest : List Value} {kws : List (Str × Value)} {fI : Addr} {Q : PySem.Fin → Shared → Prop}
    (hC : h.get? C = some (excClassObj nm q C N bs bm hdct sn sub ab col dd k0 k1 k2 k3 k5 newId))
    (hi : W.Looks (model prog w) h (typeLookup (.ref C) "__init__") (some (.ref fI))) (hb : ∀ self, W.Looks (model prog w) h (bindSpecial (.ref fI) self) (.ref fI, [self])) (hrest : rest.length ≤ sizeLine)
    (hq : codeAny (model prog w) A (.call (.ref fI) ⟨.ref (h.objs.size + 1) :: rest, kws⟩)
      (fun r s' => match r with | .ok (.ret v) => v = .none ∧ Q (.done (.ret (.ref (h.objs.size + 1)))) s' | .ok _ => False | .error e => E e s')
      ⟨(h.push (W.kdv_tup rest)).push (excO C h.objs.size), g, d, t, os⟩) :
    wpAny (model prog w) A (Builtin.«type.__call__» ⟨.ref C :: rest, kws⟩) Q E ⟨h, g, d, t, os⟩ := by
  repeat (first | with_reducible refine wpAny_loadPart_at hC ?_ | with_reducible refine wpAny_madeBy_exc hC ?_ | wp_step)
  refine codeAny_call_builtin_code (Code.quiet_builtin _ F.quiet) (check_newK F hT hC ?_)
  refine newK F hT hC ?_ hrest
  show wpAny _ _ _ _ _ _
  have k : ∀ b o, h.get? b = some o → ((h.push (W.kdv_tup rest)).push (excO C h.objs.size)).get? b = some o := fun b o e => Heap.get?_push_of_some _ (Heap.get?_push_of_some _ e)
  have hC₁ := k _ _ hC
  have hget : ((h.push (W.kdv_tup rest)).push (excO C h.objs.size)).get? (h.objs.size + 1) = some (excO C h.objs.size) := by heap_get
  have hcC : (Value.ref C :: bm).contains (.ref C) = true := by simp
  have i1 := hi.keeps k
  have b1 := (hb (.ref (h.objs.size + 1))).keeps k
  unfold isInstance
  repeat (first | with_reducible refine wpAny_loadPart_at hget ?_ | (with_reducible refine wpAny_isSubtype_exc hC₁ ?_; rw [hcC]) | wp_step)
  show wpAny _ _ (typeLookup (.ref C) _) _ _ _
  refine i1.at ?_
  refine wpAny_holding (wpAny_bind (b1.at ?_))
  refine wpAny_bind (wpAny_call (codeAny_mono hq fun r s' z => ?_))
  rcases r with e | (v | _ | _ | _) <;> first | exact z | exact z.elim | skip
  obtain ⟨rfl, z⟩ := z
  first
    | exact wpAny_pure (wpAny_pure z)
    | (wp_walk; exact z)
theorem call_ownK (F : ExcBaseFacts B newId initId bmB) (hT : ∀ X : String, bm.contains (.type X) = bmB.contains (.type X)) {rest : List Value} {kws : List (Str × Value)} {fI : Addr}
    (hC : h.get? C = some (excClassObj nm q C N bs bm hdct sn sub ab col dd k0 k1 k2 k3 k5 newId))
    (hi : W.Looks (model prog w) h (typeLookup (.ref C) "__init__") (some (.ref fI))) (hb : ∀ self, W.Looks (model prog w) h (bindSpecial (.ref fI) self) (.ref fI, [self])) (hrest : rest.length ≤ sizeLine)
    (hq : codeAny (model prog w) (A.under (.builtin "type.__call__" ⟨.ref C :: rest, kws⟩)) (.call (.ref fI) ⟨.ref (h.objs.size + 1) :: rest, kws⟩) (W.InitBack (h.objs.size + 1) R)
      ⟨(h.push (W.kdv_tup rest)).push (excO C h.objs.size), g, d, t, os⟩) :
    codeAny (model prog w) A (.call (.ref C) ⟨rest, kws⟩) R ⟨h, g, d, t, os⟩ := by
  have f1 := tc_lookup
  have f2 := tc_bind (.ref C)
  have hTy : (⟨h, g, d, t, os⟩ : Shared).TypeIs (.ref C) "type" := ⟨_, hC, rfl⟩
  refine codeAny_of_tree ?_
  show wpAny _ _ (callAny (.ref C) _) _ _ _
  repeat (any_goals (first | assumption | with_reducible refine wpAny_loadPart_at hC ?_ | wp_step))
  refine ⟨rfl, ?_⟩
  refine codeAny_call_builtin_at (Code.quiet_builtin _ (by decide +kernel)) entry_typeCall (wpAny_check_type_call_sub hC (type_callK F hT hC hi hb hrest ?_))
  refine codeAny_mono hq fun r s' z => ?_
  rcases r with e | (v | _ | _ | _) <;> exact z
end
end
end WS
namespace WS
open PySem PySem.Spec PyProof.Rows L2
section
variable {G : Lk} {X : Cx} {W : WX} {P : Pg} {call : Nat → List DV → M DV}
theorem dct_of {es : Es} {σ : L2.St} {H : Hp} {Q : VK} (hlen : es.len ≤ 30) (he : ∃ n, es.len = 2 * n) (h : TD G W P call (.dct es) σ H Q) : tDisp (trsOf G W P call es) σ H Q := by
  obtain ⟨μ, ex, s, env, w, r, f⟩ := h
  unfold ev at f
  intro p hp
  have np : p ∉ ex := fun z => w.exH p z hp
  obtain ⟨w2, k2⟩ := Wd.hide (o := .dK []) w hp
  refine tp_of es σ _ _ he ⟨μ, p :: ex, s, env, w2, r.kp k2 fun _ _ h => h, FinL.hidden w hp (fun ps z => by cases z) f fun ds s1 vs H1 μ1 e a1 rp f1 => ?_⟩
  have hp1 : H1 p = some (.dK []) := (a1.evo.hid p (by simp)).trans upd_same
  refine ⟨hp1, ?_⟩
  cases e0 : embedAll ds s1 with
  | stuck => rw [e0] at f1; exact f1.elim
  | err c gs s2 => exact absurd e0 embedAll_no
  | ok dt s2 =>
    rw [e0] at f1
    simp only [bind_ok] at f1
    obtain ⟨a2, rl⟩ := embedAll_ok a1.wd rp e0
    have rp2 : Paired (fun d v => Rep G μ1 (Mu μ1 s2 (p :: ex)) H1 d v) dt vs := by
      have conv : ∀ {ds : List DV} {vs : List V}, RepL G (Mu μ1 s2 (p :: ex)) H1 ds vs → Paired (fun d v => Rep G μ1 (Mu μ1 s2 (p :: ex)) H1 d v) ds vs := by
        intro ds
        induction ds with
        | nil => intro vs h; rw [show vs = [] from h]; exact .nil
        | cons d ds ih =>
          intro vs h
          obtain ⟨x, r, e, h1, h2⟩ := h
          subst e
          exact .cons (Rep.tree h1) (ih h2)
      exact conv rl
    cases e1 : dictFrom dt with
    | none => rw [e1] at f1; exact f1.elim
    | some kvs =>
      rw [e1] at f1
      simp only [Option.bind_some] at f1
      cases e2 : dictMerge [] kvs with
      | none => rw [e2] at f1; exact f1.elim
      | some m =>
        rw [e2] at f1
        simp only [Option.bind_some] at f1
        split at f1
        rotate_left
        · exact f1.elim
        rename_i hpl
        obtain ⟨kx, h1, h2, h3⟩ := dict_from rp2 e1 e2 (acv := []) rfl
        have hl : vs.length = es.len := by rw [← pair_len rp]; exact evs_len e
        refine ⟨kx, h1, by omega, ?_⟩
        obtain ⟨w3, k3⟩ := dk_hidw (ys := mergeK [] kx) a2.wd hp1
        obtain ⟨w4, k4, nm⟩ := w3.bare np
        refine f1 (.ref p) _ μ1 ⟨⟨((k2.trans a1.evo.kp).trans (a2.evo.kp.trans k3)).trans k4, a1.evo.pre, fun a ha => ?_⟩, w4⟩ ⟨p, _, rfl, .inl upd_same, nm, ?_⟩
        · rw [upd_ne fun z => np (by rw [← z]; exact ha), a1.evo.hid a (by simp [ha])]
          exact upd_ne fun z => np (by rw [← z]; exact ha)
        · exact RepP.kp k4 _ _ (RepQ.plain m _ hpl (RepQ.kp k3 (fun _ _ h => h) _ _ h3))
theorem dct0_of {σ : L2.St} {H : Hp} {Q : VK} (h : TD G W P call (.dct .nil) σ H Q) : tDNewK σ H Q := by
  obtain ⟨μ, ex, s, env, w, r, f⟩ := h
  unfold ev at f
  unfold evs at f
  simp only [bind_ok, embedAll, dictFrom, dictMerge, Option.bind_some, plainKv, if_true, ofO_some] at f
  intro p hp
  exact f (.ref p) _ μ (Aft.alloc w hp) ⟨p, [], rfl, .inl upd_same, w.nmu hp, rfl⟩
theorem comp_of {t : Tg} {g : TG} {vs : List Nat} {ce cc : E} {cs : Sr} {σ : L2.St} {H : Hp} {Q : VK} (hgt : TgOk G t g vs) (h : TD G W P call (.comp t ce cs cc) σ H Q) : tLc (TDi G W P call cs) g (TDt G WF P call cc) (TD G WF P call ce) vs σ H Q := by
  obtain ⟨μ, ex, s, env, w, r, f⟩ := h
  unfold ev at f
  exact comp_gen hgt w r f fun ys s2 μ1 s1 H1 μ2 H2 acc D f1 nD _ w2 k2 p2 hid hD2 rl => lst_tree f1 nD w2 k2 p2 hid hD2 rl
/-! ### dict comprehensions -/
theorem dictIf_cons {ok : S → Prop} {c : DV → M Bool} {fk fv : DV → M DV} {d : DV} {r : List DV} {acc kvs : List (DV × DV)} {s s2 : S} (h : dictIf ok c fk fv (d :: r) acc s = .ok kvs s2) :
    ok s ∧ ((∃ s0, c d s = .ok false s0 ∧ dictIf ok c fk fv r acc s0 = .ok kvs s2) ∨ ∃ s0 k s1 v s3 v' s4 q, c d s = .ok true s0 ∧ fk d s0 = .ok k s1 ∧ fv d s1 = .ok v s3 ∧ embed v s3 = .ok v' s4 ∧ skOf k = some q ∧ dictIf ok c fk fv r (dput q v' acc) s4 = .ok kvs s2) := by
  unfold dictIf at h
  split at h
  rotate_left
  · cases h
  rename_i ho
  refine ⟨ho, ?_⟩
  cases hc : c d s with
  | stuck => rw [hc] at h; cases h
  | err a b e => rw [hc] at h; cases h
  | ok b s0 =>
    rw [hc] at h
    simp only [bind_ok] at h
    cases b with
    | false => exact .inl ⟨s0, rfl, by simpa using h⟩
    | true =>
      simp only [if_true] at h
      cases hk : fk d s0 with
      | stuck => rw [hk] at h; cases h
      | err a b e => rw [hk] at h; cases h
      | ok k s1 =>
        rw [hk] at h
        simp only [bind_ok] at h
        cases hv : fv d s1 with
        | stuck => rw [hv] at h; cases h
        | err a b e => rw [hv] at h; cases h
        | ok v s3 =>
          rw [hv] at h
          simp only [bind_ok] at h
          cases he : embed v s3 with
          | stuck => rw [he] at h; cases h
          | err a b e => rw [he] at h; cases h
          | ok v' s4 =>
            rw [he] at h
            simp only [bind_ok] at h
            cases hq : skOf k with
            | none => rw [hq] at h; cases h
            | some q =>
              rw [hq] at h
              exact .inr ⟨s0, k, s1, v, s3, v', s4, q, rfl, hk, hv, he, hq, h⟩
theorem dput_len {q : SK} {v : DV} {acc : List (DV × DV)} : (dput q v acc).length ≤ acc.length + 1 := by
  unfold dput
  split <;> simp
theorem RepP.q {μ : List Addr} {M : Addr → Prop} {H : Hp} : ∀ {ds : List (DV × DV)} {xs : List (Key × V)}, RepP G M H ds xs → RepQ G μ M H ds xs
  | [], _, h => h
  | (_, _) :: ds, _, ⟨k, x, r, e, e2, rx, q⟩ => ⟨k, x, r, e, e2, Rep.tree rx, RepP.q q⟩
theorem plainKv_dput {q : SK} {v : DV} (hv : ∀ n, v ≠ .loc n) : ∀ {acc : List (DV × DV)}, plainKv acc = true → plainKv (dput q v acc) = true := by
  intro acc h
  have mp : ∀ {l : List (DV × DV)}, plainKv l = true → plainKv (l.map fun p => if skOf p.1 = some q then (p.1, v) else p) = true := by
    intro l
    induction l with
    | nil => intro _; rfl
    | cons p l ih =>
      intro h
      obtain ⟨k, x⟩ := p
      have hx : (∀ n, x ≠ .loc n) ∧ plainKv l = true := by
        cases x <;> first | exact ⟨fun n z => (by cases z), h⟩ | cases h
      simp only [List.map_cons]
      split
      · cases v <;> first | exact ih hx.2 | exact absurd rfl (hv _)
      · have := ih hx.2
        cases x <;> first | exact this | exact absurd rfl (hx.1 _)
  have ap : ∀ {l : List (DV × DV)}, plainKv l = true → plainKv (l ++ [(q.dv, v)]) = true := by
    intro l
    induction l with
    | nil => intro _; cases v <;> first | rfl | exact absurd rfl (hv _)
    | cons p l ih =>
      intro h
      obtain ⟨k, x⟩ := p
      cases x <;> first | exact ih h | cases h
  unfold dput
  split
  · exact mp h
  · exact ap h
theorem tree_noloc {M : Addr → Prop} {H : Hp} {d : DV} {v : V} (r : RepT G M H d v) : ∀ n, d ≠ .loc n := fun n z => by subst z; exact r.elim
theorem dcomp_core {t : Tg} {g : TG} {vs : List Nat} {ck cv cc : E} (hgt : TgOk G t g vs) {σ : L2.St} {env : Env} {μ1 ex : List Addr} {s1 s2 : S} {H1 : Hp} {q : Sq} {J : It} {D : Addr} {kvs : List (DV × DV)} {Q : VK}
    (w1 : Wd G μ1 ex s1 H1) (r1 : EnvR G μ1 (Mu μ1 s1 ex) H1 σ env) (wk : Wk G J q μ1 (Mu μ1 s1 ex) H1) (hD : H1 D = none)
    (hm : dictIf q.ok (fun d s => match setTg env t d with
      | some e => asB (ev P call cc e s)
      | none => .stuck) (fun d s => match setTg env t d with
      | some e => ev P call ck e s
      | none => .stuck) (fun d s => match setTg env t d with
      | some e => ev P call cv e s
      | none => .stuck) q.xs [] s1 = .ok kvs s2)
    (fin : ∀ μ2 H2 acc, Wd G μ2 (D :: ex) s2 H2 → Keep (Mu μ1 s1 ex) (Mu μ2 s2 (D :: ex)) H1 H2 → (∀ (n : Nat) (a : Addr), μ1[n]? = some a → μ2[n]? = some a) → (∀ a ∈ ex, H2 a = H1 a) → H2 D = some (.dK acc) → RepP G (Mu μ2 s2 (D :: ex)) H2 kvs acc → Q (.ref D) H2) :
    ∃ Wi : Nat → Nat → Hp → Prop, (∃ m, Wi 0 m (upd H1 D (.dK []))) ∧ ∀ i m H, Wi i m H →
      (J.stop i H ∧ Q (.ref D) H) ∨ (J.go i H ∧ ∃ Nx : Hp → Prop, (∀ H', Nx H' → ∃ m', m' < m ∧ Wi (i + 1) m' H') ∧ ∀ x H', J.yld i H x H' → g x (wipe σ vs) H' fun σ2 H2 => wipe σ2 vs = wipe σ vs ∧ TDt G WF P call cc σ2 H2 fun b H3 =>
        if b = true then TD G WF P call ck σ2 H3 fun y H4 => TD G WF P call cv σ2 H4 fun z H5 => ∃ kvs k, y = kV k ∧ H5 D = some (.dK kvs) ∧ kvs.length < sizeLine ∧ Nx (upd H5 D (.dK (putK kvs k z))) else Nx H3) := by
  have nD : D ∉ ex := fun z => w1.exH D z hD
  generalize hfc : (fun (d : DV) (s : S) => match setTg env t d with
      | some e => asB (ev P call cc e s)
      | none => (.stuck : Res Bool)) = fc at hm
  generalize hfk : (fun (d : DV) (s : S) => match setTg env t d with
      | some e => ev P call ck e s
      | none => (.stuck : Res DV)) = fk at hm
  generalize hfv : (fun (d : DV) (s : S) => match setTg env t d with
      | some e => ev P call cv e s
      | none => (.stuck : Res DV)) = fv at hm
  refine ⟨fun i m H => m = q.xs.length - i ∧ i ≤ q.xs.length ∧ ∃ μ2 s' acc dn, Wd G μ2 (D :: ex) s' H ∧ Keep (Mu μ1 s1 ex) (Mu μ2 s' (D :: ex)) H1 H ∧ (∀ (n : Nat) (a : Addr), μ1[n]? = some a → μ2[n]? = some a) ∧ (∀ a ∈ ex, H a = H1 a) ∧ H D = some (.dK acc) ∧
    RepP G (Mu μ2 s' (D :: ex)) H dn acc ∧ plainKv dn = true ∧ dn.length ≤ i ∧ dictIf q.ok fc fk fv (q.xs.drop i) dn s' = .ok kvs s2, ⟨_, rfl, Nat.zero_le _, ?_⟩, ?_⟩
  · obtain ⟨w2, k2⟩ := Wd.hide (o := .dK []) w1 hD
    exact ⟨μ1, s1, [], [], w2, k2, fun _ _ h => h, fun a ha => upd_ne fun z => nD (by rw [← z]; exact ha), upd_same, rfl, rfl, Nat.le_refl _, hm⟩
  rintro i m H ⟨rfl, hi, μ2, s', acc, dn, w, k, pre, hid, hDl, rl, hpl, hdn, hr⟩
  by_cases hlt : i < q.xs.length
  · have hd : q.xs.drop i = q.xs[i] :: q.xs.drop (i + 1) := List.drop_eq_getElem_cons hlt
    rw [hd] at hr
    obtain ⟨ho, hr⟩ := dictIf_cons hr
    refine .inr ⟨wk.go i μ2 (D :: ex) s' H w k pre ho hlt, _, fun H' nx => ⟨q.xs.length - (i + 1), by omega, rfl, hlt, nx⟩, fun x H' y => ?_⟩
    obtain ⟨a3, rx⟩ := wk.yld i μ2 (D :: ex) s' H x H' _ w k pre ho (List.getElem?_eq_getElem hlt) y
    have k3 := k.trans a3.evo.kp
    have r3 : EnvR G μ2 (Mu μ2 s' (D :: ex)) H' σ env := r1.kp k3 pre
    have hset : ∃ env', setTg env t q.xs[i] = some env' := by
      cases hs : setTg env t q.xs[i] with
      | some e => exact ⟨e, rfl⟩
      | none =>
        rw [← hfc] at hr
        simp only [hs] at hr
        rcases hr with ⟨s0, h, _⟩ | ⟨s0, _, _, _, _, _, _, _, h, _⟩ <;> cases h
    obtain ⟨env', hs⟩ := hset
    rw [← hfc, ← hfk, ← hfv] at hr
    simp only [hs] at hr
    rw [hfc, hfk, hfv] at hr
    refine hgt μ2 _ H' σ env env' _ x _ r3 hs rx fun σ2 r4 hw => ⟨hw, ?_⟩
    have hD3 : H' D = some (.dK acc) := (a3.evo.hid D (by simp)).trans hDl
    have hid3 : ∀ a ∈ ex, H' a = H1 a := fun a ha => (a3.evo.hid a (by simp [ha])).trans (hid a ha)
    rcases hr with ⟨s0, hc, hrest⟩ | ⟨s0, kd, s3, vd, s5, v', s6, sk, hc, hfk1, hfv1, he, hsk, hrest⟩
    · refine ⟨μ2, D :: ex, s', env', a3.wd, r4, ?_⟩
      rw [asB_ok hc]
      intro v H5 μ5 a5 rv
      have e : v = .bl false := rv
      subst e
      refine ⟨false, rfl, ?_⟩
      show ite _ _ _
      rw [if_neg Bool.false_ne_true]
      exact ⟨μ5, s0, acc, dn, a5.wd, k3.trans a5.evo.kp, fun n a h => a5.evo.pre n a (pre n a h), fun a ha => (a5.evo.hid a (by simp [ha])).trans (hid3 a ha), (a5.evo.hid D (by simp)).trans hD3, RepP.kp a5.evo.kp _ _ (RepP.kp a3.evo.kp _ _ rl), hpl, by omega, hrest⟩
    · refine ⟨μ2, D :: ex, s', env', a3.wd, r4, ?_⟩
      rw [asB_ok hc]
      intro v H5 μ5 a5 rv
      have e : v = .bl true := rv
      subst e
      refine ⟨true, rfl, ?_⟩
      show ite _ _ _
      rw [if_pos rfl]
      refine ⟨μ5, D :: ex, s0, env', a5.wd, r4.evo a5.evo, ?_⟩
      rw [hfk1]
      intro y H6 μ6 a6 ry
      obtain ⟨j, e2, e3, e4⟩ := sk_of ry hsk
      subst e2 e3 e4
      refine ⟨μ6, D :: ex, s3, env', a6.wd, (r4.evo a5.evo).evo a6.evo, ?_⟩
      rw [hfv1]
      intro z H7 μ7 a7 rz
      obtain ⟨a8, rz8⟩ := embed_ok a7.wd rz he
      have hD7 : H7 D = some (.dK acc) := (a7.evo.hid D (by simp)).trans ((a6.evo.hid D (by simp)).trans ((a5.evo.hid D (by simp)).trans hD3))
      have rl7 : RepP G (Mu μ7 s6 (D :: ex)) H7 dn acc := RepP.kp a8.evo.kp _ _ (RepP.kp a7.evo.kp _ _ (RepP.kp a6.evo.kp _ _ (RepP.kp a5.evo.kp _ _ (RepP.kp a3.evo.kp _ _ rl))))
      refine ⟨acc, j, rfl, hD7, ?_, ?_⟩
      · have := RepP.len rl
        have := wk.len
        omega
      · obtain ⟨w9, k9⟩ := dk_hidw (ys := putK acc j z) a8.wd hD7
        have pl9 := plainKv_dput (q := kSK j) (tree_noloc rz8) hpl
        refine ⟨μ7, s6, putK acc j z, dput (kSK j) v' dn, w9, (((k3.trans a5.evo.kp).trans a6.evo.kp).trans a7.evo.kp).trans (a8.evo.kp.trans k9), fun n a h => a7.evo.pre n a (a6.evo.pre n a (a5.evo.pre n a (pre n a h))), fun a ha => ?_, upd_same, ?_, pl9, ?_, hrest⟩
        · rw [upd_ne fun z => nD (by rw [← z]; exact ha)]
          exact (a7.evo.hid a (by simp [ha])).trans ((a6.evo.hid a (by simp [ha])).trans ((a5.evo.hid a (by simp [ha])).trans (hid3 a ha)))
        · exact RepQ.plain _ _ pl9 (RepQ.kp k9 (fun _ _ h => h) _ _ ((RepP.q (μ := μ7) rl7).put (Rep.tree rz8)))
        · have := dput_len (q := kSK j) (v := v') (acc := dn)
          omega
  · have e : i = q.xs.length := by omega
    subst e
    rw [List.drop_length] at hr
    unfold dictIf at hr
    split at hr
    · rename_i ho
      cases hr
      exact .inl ⟨wk.stop _ μ2 (D :: ex) _ H w k pre ho (Nat.le_refl _), fin μ2 H acc w k pre hid hDl rl⟩
    · cases hr
theorem sd_dcomp {kx vx tg iter : Expr} {ifs : List Expr} {scope : Scope} {own : List (Str × Nat)} {pos : Pos} {t : Tg} {g : TG} {ck cv cc : E} {cs : Sr} (c : Ctx G X W) (hi : PI X tg iter (TDi G W P call cs)) (ok : BlkOk X.N X.env.scope scope own)
    (hg : ∀ (s : Shared) (H : Hp) (C : Addr) (cl : List (Str × Addr)) (fp : List Addr), PG (X.blk s H scope (compEnvC scope cl C X.env) fp) tg g) (hgt : TgOk G t g (own.map (·.2)))
    (ht : ∀ (s : Shared) (H : Hp) (C : Addr) (cl : List (Str × Addr)) (fp : List Addr), PTs (X.blk s H scope (compEnvC scope cl C X.env) fp) ifs (TDt G WF P call cc))
    (hk : ∀ (s : Shared) (H : Hp) (C : Addr) (cl : List (Str × Addr)) (fp : List Addr), PE (X.blk s H scope (compEnvC scope cl C X.env) fp) kx (TD G WF P call ck))
    (hv : ∀ (s : Shared) (H : Hp) (C : Addr) (cl : List (Str × Addr)) (fp : List Addr), PE (X.blk s H scope (compEnvC scope cl C X.env) fp) vx (TD G WF P call cv)) (hs : ∀ x, foldedSetIterable iter X.env x = pure x) :
    PE X (.DictComp kx vx [⟨tg, iter, ifs, 0⟩] scope pos) (TD G W P call (.dcomp t ck cv cs cc)) :=
  PE.imp (pe_dc c.calm c.nd hi ok hg ht hk hv hs) fun σ H Q h => by
    obtain ⟨μ, ex, s, env, w, r, f⟩ := h
    unfold ev at f
    refine ⟨μ, ex, s, env, w, r, ?_⟩
    cases hsr : evSr P call cs env s with
    | stuck => rw [hsr] at f; exact f
    | err c gs s1 => rw [hsr] at f; exact f
    | ok q s1 =>
      rw [hsr] at f
      simp only [bind_ok] at f
      intro J H1 μ1 a1 wk D hD
      have f1 := f.from a1
      generalize hmm : dictIf q.ok (fun d s => match setTg env t d with
        | some e => asB (ev P call cc e s)
        | none => .stuck) (fun d s => match setTg env t d with
        | some e => ev P call ck e s
        | none => .stuck) (fun d s => match setTg env t d with
        | some e => ev P call cv e s
        | none => .stuck) q.xs [] s1 = mm at f1
      cases mm with
      | stuck => exact f1.elim
      | err c gs s2 => exact f1.elim
      | ok kvs s2 =>
        refine dcomp_core hgt a1.wd (r.evo a1.evo) wk hD hmm fun μ2 H2 acc w2 k2 p2 hid hD2 rl => ?_
        obtain ⟨w3, k3, nm⟩ := w2.bare (fun z => a1.wd.exH D z hD)
        exact f1 _ _ μ2 ⟨⟨k2.trans k3, p2, hid⟩, w3⟩ ⟨D, acc, rfl, .inl hD2, nm, RepP.kp k3 _ _ rl⟩
/-! ### scopes -/
/-- a scope of the text, and the context's -/
structure ScOk (X : Cx) (sc : Scope) : Prop where
  loc : ∀ x, sc.names.lookup x = some .local → X.env.scope.names.lookup x = some .local
  cel : ∀ x, sc.names.lookup x = some .cell → X.env.scope.names.lookup x = some .cell
  fre : ∀ x, sc.names.lookup x = some .free → X.env.scope.names.lookup x = some .cell ∨ X.env.scope.names.lookup x = some .free
  glo : ∀ x, sc.names.lookup x = some .globalImplicit → X.env.scope.names.lookup x = some .globalImplicit
  cfn : ∀ x, sc.names.lookup x = some .cell → X.fn x = true
theorem look_relabel {env : PySem.Env} : ∀ {names : List (Str × NameKind)} {x : Str} {k : NameKind}, names.lookup x = some k →
    (names.map fun (p : Str × NameKind) => if (p.2 == NameKind.free && env.scope.kind == .function && env.kindOf p.1 == some .cell) then (p.1, NameKind.cell) else (p.1, p.2)).lookup x = some (if (k == NameKind.free && env.scope.kind == .function && env.kindOf x == some .cell) then .cell else k)
  | (n, j) :: r, x, k, h => by
    rw [List.map_cons]
    by_cases hx : x = n
    · subst hx
      have e : j = k := by simpa [List.lookup] using h
      subst e
      by_cases hc : (j == NameKind.free && env.scope.kind == .function && env.kindOf x == some .cell) = true
      · simp only [hc, if_true, List.lookup, beq_self_eq_true]
      · simp only [hc, if_false, List.lookup, beq_self_eq_true]
        simp
    · have h' : r.lookup x = some k := by
        have hb : (x == n) = false := by simpa using hx
        simpa [List.lookup, hb] using h
      have ih := look_relabel (env := env) h'
      have hb : (x == n) = false := by simpa using hx
      by_cases hc : (j == NameKind.free && env.scope.kind == .function && env.kindOf n == some .cell) = true
      · simp only [hc, if_true, List.lookup, hb]
        exact ih
      · simp only [hc, List.lookup, hb]
        simpa [hb] using ih
theorem sc_blk {s : Shared} {H : Hp} {scope : Scope} {C : Addr} {cl : List (Str × Addr)} {fp : List Addr} : ScOk (X.blk s H scope (compEnvC scope cl C X.env) fp) scope := by
  refine ⟨fun x h => ?_, fun x h => ?_, fun x h => ?_, fun x h => ?_, fun x h => ?_⟩
  · have q := look_relabel (env := X.env) h
    exact q
  · have q := look_relabel (env := X.env) h
    exact q
  · have q := look_relabel (env := X.env) h
    by_cases hc : (NameKind.free == NameKind.free && X.env.scope.kind == .function && X.env.kindOf x == some .cell) = true
    · rw [if_pos hc] at q; exact .inl q
    · rw [if_neg hc] at q; exact .inr q
  · have q := look_relabel (env := X.env) h
    exact q
  · show (scope.names.lookup x == some .cell) = true
    rw [h]; rfl
theorem ScOk.blkOk {N : List Str} {sc scope : Scope} {own : List (Str × Nat)} (h : ScOk X sc) (b : BlkOk N sc scope own) : BlkOk N X.env.scope scope own :=
  ⟨b.kind, b.uniq, b.ix, fun y hy e => (b.free y hy e).elim (fun q => .inl (h.cel _ q)) (fun q => h.fre _ q), b.own⟩
theorem ScOk.lamS {sc scope : Scope} (h : ScOk X sc) (b : LamX.LamS sc scope) : LamX.LamS X.env.scope scope :=
  ⟨b.kind, b.co, b.gen, b.own, fun y hy e => (b.free y hy e).elim (fun q => .inl (h.cel _ q)) (fun q => h.fre _ q)⟩
theorem ScOk.vis {sc : Scope} (h : ScOk X sc) {x : Str} {k : NameKind} (e : sc.names.lookup x = some k) (hk : k = .local ∨ k = .cell ∨ k = .free) : Vis X.env.scope x := by
  rcases hk with rfl | rfl | rfl
  · exact .inl (h.loc _ e)
  · exact .inr (.inl (h.cel _ e))
  · exact .inr ((h.fre _ e).elim .inl .inr)
theorem ScOk.gl {sc : Scope} (h : ScOk X sc) {x : Str} (e : sc.names.lookup x = some .globalImplicit) : Gl X x := h.glo _ e
/-! ### targets -/
theorem sg_one {sc : Scope} {i : Nat} {x : Str} {pos : Pos} (c : X.N.Nodup) (h : ScOk X sc) (hi : X.N[i]? = some x) (hx : sc.names.lookup x = some .local ∨ sc.names.lookup x = some .cell) : PG X (.Name x pos) (gName i) :=
  pg_name c hi (hx.elim (fun q => .inl (h.loc _ q)) (fun q => .inr (h.cel _ q))) (hx.elim (fun q => .inr (h.loc _ q)) (fun q => .inl (h.cfn _ q)))
/-- names to slots -/
def slotOf (N : List Str) (sc : Scope) (x : Str) : Option Nat := match sc.names.lookup x with
  | some .local => N.idxOf? x
  | some .cell => N.idxOf? x
  | _ => none
def slotsOf (N : List Str) (sc : Scope) : List Expr → Option (List Nat)
  | [] => some []
  | .Name x _ :: r => (slotOf N sc x).bind fun i => (slotsOf N sc r).map (i :: ·)
  | _ => none
theorem idx_get {N : List Str} {x : Str} {i : Nat} (h : N.idxOf? x = some i) : N[i]? = some x := by
  unfold List.idxOf? at h
  obtain ⟨h1, h2, _⟩ := List.findIdx?_eq_some_iff_getElem.mp h
  rw [List.getElem?_eq_getElem h1]
  exact congrArg some (by simpa using h2)
theorem slot_ok {N : List Str} {sc : Scope} {x : Str} {i : Nat} (h : slotOf N sc x = some i) : N[i]? = some x ∧ (sc.names.lookup x = some .local ∨ sc.names.lookup x = some .cell) := by
  unfold slotOf at h
  split at h
  · exact ⟨idx_get h, .inl (by assumption)⟩
  · exact ⟨idx_get h, .inr (by assumption)⟩
  · cases h
theorem sg_all {sc : Scope} (c : X.N.Nodup) (h : ScOk X sc) : ∀ {ts : List Expr} {is : List Nat}, slotsOf X.N sc ts = some is → PGs X ts (gAll is) ∧ (assignEach ts X.env).length = is.length ∧ (assignEach ts X.env).findIdx? (·.1) = none
  | [], is, e => by
    have e : [] = is := by simpa [slotsOf] using e
    subst e
    exact ⟨pgs_nil, rfl, rfl⟩
  | t :: r, is, e => by
    cases t with
    | Name x p =>
      simp only [slotsOf, Option.bind_eq_some_iff, Option.map_eq_some_iff] at e
      obtain ⟨i, h1, js, h2, e⟩ := e
      subst e
      obtain ⟨q1, q2⟩ := slot_ok h1
      obtain ⟨a, b, d⟩ := sg_all c h h2
      refine ⟨pgs_cons (sg_one c h q1 q2) a rfl, ?_, ?_⟩
      · show (assignEach r X.env).length + 1 = _
        rw [b]; rfl
      · show List.findIdx? _ ((false, _) :: assignEach r X.env) = none
        rw [List.findIdx?_cons, d]
        rfl
    | _ => simp [slotsOf] at e
end
/-! ### own classes: a[i], a in b, len, methods -/
section
variable {G : Lk} {X : Cx} {W : WX} {P : Pg} {call : Nat → List DV → M DV}
theorem RepF.no {M : Addr → Prop} {H : Hp} {x : Str} : ∀ {gs : List (Str × DV)} {fs : List (Str × V)}, RepF G M H gs fs → fget x gs = none → fs.lookup x = none
  | [], _, h, _ => by rw [show _ = [] from h]; rfl
  | (y, u) :: gs, _, ⟨v, r, e1, h, t⟩, e => by
    subst e1
    unfold fget at e
    by_cases hy : y = x
    · rw [if_pos hy] at e; cases e
    · rw [if_neg hy] at e
      have q : (x == y) = false := by
        cases hq : (x == y) with
        | false => rfl
        | true => exact absurd (beq_iff_eq.mp hq).symm hy
      simp only [List.lookup, q]
      exact RepF.no t e
/-- what stands behind a method's name -/
theorem meth_rep {k : Nat} {μ ex : List Addr} {s : S} {H : Hp} {d : DV} {v : V} {x : Str} {p : Nat × Nat} (hcf : ∀ ci kc, P.cl ci = some kc → ClsF G k call ci kc) (w : Wd G μ ex s H) (r : Rep G μ (Mu μ s ex) H d v) (e : methOf P s d x = some p) :
    ∃ kc a dx fs, P.cl p.1 = some kc ∧ kc.meths.lookup x = some p.2 ∧ ClsF G k call p.1 kc ∧ v = .ref a ∧ H a = some (.ins (G.ca p.1) dx fs) ∧ fs.lookup x = none := by
  unfold methOf at e
  simp only [Option.bind_eq_some_iff] at e
  obtain ⟨⟨c, gs⟩, h1, kc, h2, e⟩ := e
  split at e
  · rename_i hn
    obtain ⟨f, h3, h4⟩ := Option.map_eq_some_iff.mp e
    subst h4
    obtain ⟨a, dx, fs, ev, ha, rf⟩ := insOf_rep w r h1
    exact ⟨kc, a, dx, fs, h2, h3, hcf c kc h2, ev, ha, RepF.no rf (by simpa using hn)⟩
  · cases e
/-- a def called, one unit deeper -/
theorem run_fnG1 {k : Nat} {f : Addr} {fd : FuncData} {ps : List Str} {sp : Sp} {E : XK} (c : Ctx G X W) (F : FnG G k f fd ps sp) (hr : Room (k + 1) X.A) {pins : List (Addr × Obj)} {σ : L2.St} {H : Hp} {s : Shared} {Q : VK} {args : Args} {us : List Value} {vs : List V}
    (I : Inv X pins σ H s) (hb : BindsTo s fd args (ps.zip us)) (r : Vals vs us) (hE : ∀ cls d H', E cls d H' → W cls d σ H') (h : sp vs H Q E) : wpAny (model X.prog X.w) X.A.in1 (PySem.call (.ref f) args.pos args.kw) (EP X pins σ Q) X.xe s := by
  have q := F.run X.A.in1 X.stack s H args us vs Q E hr.in1 c.gd (c.env0 I).in1 hb r h
  rw [← c.hP, ← c.hw] at q
  refine wpAny_call (codeAny_mono q fun r s' hq => ?_)
  cases r with
  | error e => exact CtxG_err c I hE (by rw [← c.hP, ← c.hw]; exact hq)
  | ok fl =>
    cases fl with
    | ret u => exact I.after hq
    | next => exact False.elim hq
    | brk => exact False.elim hq
    | cont => exact False.elim hq
theorem fin_callM {σ : L2.St} {μ ex : List Addr} {s : S} {H : Hp} {d : DV} {x : Str} {args : List DV} {Q : VK} (f : Fin G W σ μ ex s H (callM P call d x args s) Q) : ∃ p, methOf P s d x = some p ∧ Fin G W σ μ ex s H (call p.2 (d :: args) s) Q := by
  unfold callM at f
  cases h : methOf P s d x with
  | none => rw [h] at f; exact f.elim
  | some p => rw [h] at f; exact ⟨p, rfl, f⟩
/-- two values, then a method -/
def rM (G : Lk) (W : WX) (P : Pg) (call : Nat → List DV → M DV) (σ : L2.St) (f : DV → DV → S → Res DV) : R2 := fun x y H Q => ∃ μ ex s d d2, Wd G μ ex s H ∧ Rep G μ (Mu μ s ex) H d x ∧ Rep G μ (Mu μ s ex) H d2 y ∧ Fin G W σ μ ex s H (f d d2 s) Q
theorem two_M {ca cb : E} {σ : L2.St} {H : Hp} {μ ex : List Addr} {s : S} {env : Env} {Q : VK} {f : DV → DV → S → Res DV} (w : Wd G μ ex s H) (r : EnvR G μ (Mu μ s ex) H σ env) (h : Fin G W σ μ ex s H ((ev P call ca env s).bind fun x s1 => (ev P call cb env s1).bind fun y s2 => f x y s2) Q) :
    tOp (rM G W P call σ f) (TD G W P call ca) (TD G W P call cb) σ H Q :=
  td_of w r h fun v H1 d s1 μ1 e a1 rp r1 f1 => td_of a1.wd r1 f1 fun v2 H2 d2 s2 μ2 e2 a2 rp2 r2 f2 => ⟨μ2, ex, s2, d, d2, a2.wd, rp.kp a2.evo.kp a2.evo.pre, rp2, f2⟩
theorem sub_true {b : Expr} {o i : Value} (h : isSlice b = false) : subscripted b true o i = runValue (.builtin "lifetime.subscript" ⟨[o, i], []⟩) := by
  cases b <;> first | rfl | (simp [isSlice] at h)
/-- a[i] -/
theorem sd_itemI {a b : Expr} {ca cb : E} {k : Nat} {pos : Pos} (c : Ctx G X W) (hcf : ∀ ci kc, P.cl ci = some kc → ClsF G k call ci kc) (hr : Room (k + 1) X.A) (ha : PE X a (TD G W P call ca)) (hb : PE X b (TD G W P call cb)) (hs : isSlice b = false) : PE X (.Subscript a b pos) (TD G W P call (.itemI ca cb)) := by
  refine ⟨fun pins s σ H Q I h => ?_⟩
  obtain ⟨μ, ex, s0, env, w, r, fn⟩ := h
  unfold ev at fn
  refine Subscript_ (binT (R := fun x y H2 => rM G W P call σ (fun x y s2 => callM P call x "__getitem__" [y] s2) x y H2 Q) ha hb I (two_M w r fn) fun v u s2 x y H2 I2 rx ry q => ?_)
  obtain ⟨μ2, ex2, t2, d, d2, w2, rp, rp2, f2⟩ := q
  obtain ⟨p, hp, f3⟩ := fin_callM f2
  obtain ⟨kc, a0, dx, fs, hc, hm, cf, rfl, ea, _⟩ := meth_rep hcf w2 rp hp
  cases rx
  obtain ⟨m1, m2, F, hbn⟩ := cf.meth _ _ hm
  obtain ⟨mA, O, _⟩ := ins_get I2.hok ea
  obtain ⟨od, J, _⟩ := O.look
  obtain ⟨m, hF⟩ := I2.fr
  rw [← c.hK] at m1 m2
  have sp := spF_of (n := (G.ps p.2).length) (vs := [.ref a0, y]) w2 (.cons rp (.cons rp2 .nil)) (cf.dun _ _ 2 hm rfl).symm f3
  exact PySem.W.sub_K hF I2.ok.mod.kin J m1.at_ m2 m1.fn (run_fnG1 (args := ⟨[.ref a0, u], []⟩) (us := [.ref a0, u]) c F hr I2 (hbn _ _ (by rw [← c.hK]; exact I2.kIn) (cf.dun _ _ 2 hm rfl).symm) (.cons (show RelV (.ref a0) (.ref a0) from rfl) (.cons ry .nil)) (fun _ _ _ z => z) sp) (sub_true hs)
/-- a in b -/
theorem has_run {k : Nat} {ng : Bool} {op : CmpOp} {pins : List (Addr × Obj)} {σ : L2.St} {H : Hp} {s : Shared} {x y : V} {v u : Value} {Q : VK} (c : Ctx G X W) (hcf : ∀ ci kc, P.cl ci = some kc → ClsF G k call ci kc) (hr : Room k X.A) (ho : op = if ng then .NotIn else .In) (I : Inv X pins σ H s) (rx : RelV x v) (ry : RelV y u)
    (q : rM G W P call σ (fun x y s2 => (asB (callM P call y "__contains__" [x] s2)).bind fun v s3 => .ok (.bl (if ng then !v else v)) s3) x y H Q) : wpAny (model X.prog X.w) X.A (compareOp op v u) (EP X pins σ fun z H' => ∃ b, z = .bl b ∧ Q z H') X.xe s := by
  obtain ⟨μ2, ex2, t2, d, d2, w2, rp, rp2, f2⟩ := q
  obtain ⟨p, hp, f3⟩ : ∃ p, methOf P t2 d2 "__contains__" = some p ∧ Fin G W σ μ2 ex2 t2 H (call p.2 [d2, d] t2) (fun z H' => ∃ b, z = .bl b ∧ Q (.bl (if ng then !b else b)) H') := by
    unfold callM at f2
    simp only at f2
    cases h : methOf P t2 d2 "__contains__" with
    | none => rw [h] at f2; exact f2.elim
    | some p =>
      rw [h] at f2
      simp only at f2
      refine ⟨p, rfl, ?_⟩
      cases hcall : call p.2 [d2, d] t2 with
      | stuck => rw [hcall] at f2; exact f2.elim
      | err a b s' => rw [hcall] at f2; exact f2
      | ok d' s' =>
        rw [hcall] at f2
        cases d' with
        | bl b => exact fun v' H' μ' a' r' => ⟨b, r', f2 _ H' μ' a' rfl⟩
        | _ => exact f2.elim
  obtain ⟨kc, a0, dx, fs, hc, hm, cf, rfl, ea, _⟩ := meth_rep hcf w2 rp2 hp
  cases ry
  obtain ⟨m1, m2, F, hbn⟩ := cf.meth _ _ hm
  obtain ⟨mA, O, _⟩ := ins_get I.hok ea
  obtain ⟨od, J, _⟩ := O.look
  obtain ⟨m, hF⟩ := I.fr
  rw [← c.hK] at m1 m2
  have sp := spF_of (n := (G.ps p.2).length) (vs := [.ref a0, x]) w2 (.cons rp2 (.cons rp .nil)) (cf.dun _ _ 2 hm rfl).symm f3
  have run := run_fnG (args := ⟨[.ref a0, v], []⟩) (us := [.ref a0, v]) c F hr I (hbn _ _ (by rw [← c.hK]; exact I.kIn) (cf.dun _ _ 2 hm rfl).symm) (.cons (show RelV (.ref a0) (.ref a0) from rfl) (.cons rx .nil)) (fun _ _ _ z => z) sp
  cases ng with
  | false =>
    subst ho
    refine PySem.W.in_K hF I.ok.mod.kin J m1.at_ m1.fn (thn run fun r s' hh => ?_)
    obtain ⟨z, H', I', rz, b, rfl, q⟩ := hh
    cases rz
    exact wpAny_truthy_bool ⟨.bl b, H', I', rfl, b, rfl, q⟩
  | true =>
    subst ho
    refine PySem.W.notIn_K hF I.ok.mod.kin J m1.at_ m1.fn (thn run fun r s' hh => ?_)
    obtain ⟨z, H', I', rz, b, rfl, q⟩ := hh
    cases rz
    exact wpAny_truthy_bool ⟨.bl (!b), H', I', rfl, !b, rfl, q⟩
theorem sd_hasI {ng : Bool} {op : CmpOp} {a b : Expr} {ca cb : E} {k : Nat} {pos : Pos} (c : Ctx G X W) (hcf : ∀ ci kc, P.cl ci = some kc → ClsF G k call ci kc) (hr : Room k X.A) (ho : op = if ng then .NotIn else .In) (ha : PE X a (TD G W P call ca)) (hb : PE X b (TD G W P call cb)) (hm : behindInMarks op b = false) : PE X (.Compare a [op] [b] pos) (TD G W P call (.hasI ng ca cb)) := by
  refine ⟨fun pins s σ H Q I h => ?_⟩
  obtain ⟨μ, ex, s0, env, w, r, fn⟩ := h
  unfold ev at fn
  exact wpAny_Compare1 (binT (R := fun x y H2 => rM G W P call σ (fun x y s2 => (asB (callM P call y "__contains__" [x] s2)).bind fun v s3 => .ok (.bl (if ng then !v else v)) s3) x y H2 Q) ha hb I (two_M w r fn) fun v u s2 x y H2 I2 rx ry q => thn (has_run c hcf hr ho I2 rx ry q) fun z s' ⟨z', H', I', rz, b, _, q'⟩ => ⟨z', H', I', rz, q'⟩) hm
theorem st_hasI {ng : Bool} {op : CmpOp} {a b : Expr} {ca cb : E} {k : Nat} {pos : Pos} (c : Ctx G X W) (hcf : ∀ ci kc, P.cl ci = some kc → ClsF G k call ci kc) (hr : Room k X.A) (ho : op = if ng then .NotIn else .In) (ha : PE X a (TD G W P call ca)) (hb : PE X b (TD G W P call cb)) (hm : behindInMarks op b = false) : PT X (.Compare a [op] [b] pos) (TDt G W P call (.hasI ng ca cb)) := by
  refine ⟨fun pins s σ H Q I h => ?_⟩
  obtain ⟨μ, ex, s0, env, w, r, fn⟩ := h
  unfold ev at fn
  refine wpAny_isTrue_Compare1 (binT (R := fun x y H2 => rM G W P call σ (fun x y s2 => (asB (callM P call y "__contains__" [x] s2)).bind fun v s3 => .ok (.bl (if ng then !v else v)) s3) x y H2 (fun z H' => ∃ b, z = .bl b ∧ Q b H')) ha hb I (two_M w r fn) fun v u s2 x y H2 I2 rx ry q => thn (has_run c hcf hr ho I2 rx ry q) fun z s' hh => ?_) hm
  obtain ⟨z', H', I', rz, b, rfl, q'⟩ := hh
  cases rz
  obtain ⟨b', e, q'⟩ := q'
  cases e
  exact wpAny_truthy_bool ⟨H', I', q'⟩
theorem RepL.rev {M : Addr → Prop} {H : Hp} : ∀ {ds : List DV} {xs : List V}, RepL G M H ds xs → RepL G M H ds.reverse xs.reverse
  | [], _, h => by rw [show _ = [] from h]; rfl
  | d :: ds, _, ⟨x, r, e, h, t⟩ => by
    subst e
    rw [List.reverse_cons, List.reverse_cons]
    exact RepL.append (RepL.rev t) ⟨_, _, rfl, h, rfl⟩
/-- a[::-1] -/
theorem sd_rev {a : Expr} {ca : E} {k : Nat} {p1 p2 p3 pos : Pos} (c : Ctx G X W) (ha : PE X a (TD G W P call ca)) : PE X (.Subscript a (.Slice none none (some (.UnaryOp .USub (.Constant (.int 1) k p1) p2)) p3) pos) (TD G W P call (.rev ca)) :=
  PE.imp (pe_revL ha) fun σ H Q h => by
    obtain ⟨μ, ex, s, env, w, r, f⟩ := h
    unfold ev at f
    refine td_of w r f fun v H1 d s1 μ1 e1 a1 rp r1 f1 => ?_
    obtain ⟨d3, e3, k⟩ := fin_ofO f1
    obtain ⟨xs, h1, h2⟩ := Option.map_eq_some_iff.mp e3
    subst h2
    obtain ⟨p, ys, ev', hp, rl⟩ := listOf_rep a1.wd rp h1
    subst ev'
    exact ⟨p, ys, rfl, SqL.of hp, fun q hq => k _ _ μ1 (Aft.alloc a1.wd hq) (Rep.tree (new_lst a1.wd hq (RepL.rev rl)))⟩
/-- sep.join(..) -/
theorem strs_repJ {M : Addr → Prop} {H : Hp} : ∀ {ds : List DV} {xs : List V} {ss : List Str}, RepL G M H ds xs → strsOf ds = some ss → xs = ss.map V.str
  | [], _, ss, h, e => by
    have e : [] = ss := by simpa [strsOf] using e
    subst e
    exact h
  | d :: ds, _, ss, ⟨x, r, e1, h, t⟩, e => by
    subst e1
    cases d with
    | str y =>
      simp only [strsOf] at e
      obtain ⟨t', q1, q2⟩ := Option.map_eq_some_iff.mp e
      subst q2
      rw [show x = V.str y from h, strs_repJ t q1]
      rfl
    | _ => simp [strsOf] at e
theorem sd_join {e : Expr} {x : Str} {ce : E} {ap cp p0 : Pos} {j} (c : Ctx G X W) (he : PE X e (TD G W P call ce)) (hst : noStar [e] = true) (hl : (ap.endLine == cp.line) = true) : PE X (.Call (.Attribute (.Constant (.str x) j p0) "join" ap) [e] [] cp) (TD G W P call (.join (.cst (.str x)) ce)) :=
  PE.imp (pe_join pe_str he (star_ok hst) (base_ok rfl) hl) fun σ H Q h => by
    obtain ⟨μ, ex, s, env, w, r, f⟩ := h
    unfold ev at f
    rw [show ev P call (.cst (.str x)) env s = .ok (.str x) s by rw [ev]] at f
    simp only [bind_ok] at f
    refine ⟨⟨x, rfl⟩, ?_⟩
    refine td_of w r f fun v H1 d s1 μ1 e1 a1 rp r1 f1 => ?_
    obtain ⟨d3, e3, k⟩ := fin_ofO f1
    unfold semJoin at e3
    simp only [Option.bind_eq_some_iff] at e3
    obtain ⟨xs, h1, ss, h2, e3⟩ := e3
    split at e3
    · rename_i hz
      cases e3
      obtain ⟨p, ys, ev', hp, rl⟩ := listOf_rep a1.wd rp h1
      subst ev'
      have ey := strs_repJ rl h2
      subst ey
      refine ⟨x, p, ss, rfl, rfl, .inl (SqL.of hp), hz, ?_⟩
      have e : Txt.join x ss = Str.join x ss := StrLaws.glued_eq_join ..
      rw [e]
      exact k _ _ μ1 (Aft.refl a1.wd) rfl
    · cases e3
/-- the arguments of a method's call, by position and by keywords -/
theorem args_runF {f : Value} {first : List Value} {es : List Expr} {kws : List Keyword} {ks : List Str} {cr : Es} {tk : TA} {pos : Pos} {pins : List (Addr × Obj)} {s : Shared} {σ : L2.St} {H : Hp} {Q : Value → Shared → Prop} {R : List V → List V → Hp → Prop} (c : Ctx G X W) (I : Inv X pins σ H s)
    (hk : PySem.W.keepIn G.K f = true) (ha : PA X es (TDs G W P call cr)) (hkw : PK X kws tk) (hall : (backToKw pos (keywordEach kws X.env)).all (·.1.isSome) = true) (hks : (backToKw pos (keywordEach kws X.env)).filterMap (·.1) = ks)
    (hst : noStar es = true) (hpl : (backToKw pos (keywordEach kws X.env)).any (·.1.isNone) = false)
    (h0 : es = [] → tk σ H fun zs H2 => R [] zs H2) (h1 : es ≠ [] → TDs G W P call cr σ H fun vs H1 => tk σ H1 fun zs H2 => R vs zs H2)
    (k : ∀ us ws s2 vs zs H2, Inv X pins σ H2 s2 → Vals vs us → Vals zs ws → R vs zs H2 → wpAny (model X.prog X.w) X.A (PySem.call f (first ++ us) (ks.zip ws)) Q X.xe s2) :
    wpAny (model X.prog X.w) X.A (callWith pos f first (backTo pos (starEach es X.env)) (backToKw pos (keywordEach kws X.env))) Q X.xe s := by
  cases es with
  | nil =>
    refine PySem.W.callWith_KW0 (h₀ := X.base) I.ok.mod.kin (by rw [c.hK]; exact hk) hall ?_ (by rw [hpl]; rfl)
    refine thn (hkw.run pos pins s σ H _ I (h0 rfl)) fun ws s2 ⟨zs, H2, I2, rz, q2⟩ => ⟨I2.kIn, ?_⟩
    rw [hks]
    exact k [] ws s2 [] zs H2 I2 .nil rz q2
  | cons e r =>
    refine PySem.W.callWith_KW (h₀ := X.base) I.ok.mod.kin (by rw [c.hK]; exact hk) hall (thn (ha.run pos pins s σ H _ I (h1 (by simp))) fun us s1 ⟨vs, H1, I1, r, q⟩ => ?_) (by rw [star_any hst, hpl]; rfl) (star_ok hst)
    refine thn (hkw.run pos pins s1 σ H1 _ I1 q) fun ws s2 ⟨zs, H2, I2, rz, q2⟩ => ⟨I2.kIn, ?_⟩
    rw [hks]
    exact k us ws s2 vs zs H2 I2 r rz q2
theorem perm_lenM {ds es : List DV} : ∀ {p : List (Nat ⊕ Df)} {us : List DV}, permute ds es p = some us → us.length = p.length
  | [], us, e => by have e' : some [] = some us := e; cases e'; rfl
  | .inl i :: p, us, e => by
    unfold permute at e
    cases h3 : (ds ++ es)[i]? with
    | none => rw [h3] at e; cases e
    | some d =>
      cases h4 : permute ds es p with
      | none => rw [h3, h4] at e; cases e
      | some t => rw [h3, h4] at e; cases e; simp [perm_lenM h4]
  | .inr d :: p, us, e => by
    unfold permute at e
    cases h4 : permute ds es p with
    | none => rw [h4] at e; cases e
    | some t => rw [h4] at e; cases e; simp [perm_lenM h4]
/-- a.x(..) -/
theorem sd_meth {o : Expr} {co : E} {x : Str} {alts : List (Nat × List (Nat ⊕ Df))} {n k : Nat} {es : List Expr} {kws : List Keyword} {ks : List Str} {cr ck : Es} {ap pos : Pos} (c : Ctx G X W) (hcf : ∀ ci kc, P.cl ci = some kc → ClsF G k call ci kc) (hr : Room k X.A)
    (hal : ∀ ci q kc f, alts.lookup ci = some q → P.cl ci = some kc → kc.meths.lookup x = some f → PatI G f n ks q ∧ q.length + 1 = (G.ps f).length)
    (ho : PE X o (TD G W P call co)) (ha : PA X es (TDs G W P call cr)) (hkw : PK X kws (TDs G W P call ck)) (hall : kws.all (fun k => k.arg.isSome) = true) (hks : kws.filterMap (·.arg) = ks) (hn : cr.len = n) (hn2 : ck.len = ks.length)
    (hst : noStar es = true) (h0 : es = [] → cr = .nil) (hb : plainBase o = true) (hl : (ap.endLine == pos.line) = true) (hfew : es.length + kws.length < 28) : PE X (.Call (.Attribute o x ap) es kws pos) (TD G W P call (.meth co x alts cr ck)) := by
  obtain ⟨k1, k2, k3⟩ := kw_ok (env := X.env) (pos := pos) hall
  have few : methodCallForm (es.length + kws.length) (backTo pos (starEach es X.env)) (backToKw pos (keywordEach kws X.env)) = true := by
    unfold methodCallForm
    rw [k1, Bool.and_true]
    have a1 : (backTo pos (starEach es X.env)).all (fun x => !x.1) = true := by
      have := star_any (pos := pos) (env := X.env) hst
      rw [List.any_eq_false] at this
      rw [List.all_eq_true]
      intro y hy
      simpa using this y hy
    rw [a1, Bool.true_and]
    simp only [decide_eq_true_eq]
    split <;> omega
  have ht := mcall_of (m := x) (apos := ap) (pos := pos) (args := es) (kws := kws) (base_ok (f := x) (env := X.env) (m := eval o X.env) hb) (fun ov => mcall_line few hl)
  refine ⟨fun pins s σ H Q I h => ?_⟩
  obtain ⟨μ, ex, s0, env, w, r, fn⟩ := h
  unfold ev at fn
  refine PySem.W.methodCall_KW (pl := plainOf o X.env) (thn (ho.run pins s σ H (fun v H1 => ∃ μ1 s1 d, Wd G μ1 ex s1 H1 ∧ Rep G μ1 (Mu μ1 s1 ex) H1 d v ∧ EnvR G μ1 (Mu μ1 s1 ex) H1 σ env ∧ Fin G W σ μ1 ex s1 H1 (match methOf P s1 d x with
    | some p => match alts.lookup p.1 with
      | some q => (evs P call cr env s1).bind fun vs s2 => (evs P call ck env s2).bind fun ws s3 => (ofO (permute vs ws q) s3).bind fun us s4 => call p.2 (d :: us) s4
      | none => .stuck
    | none => .stuck) Q) I (td_of w r fn fun v H1 d s1 μ1 e a1 rp r1 f1 => ⟨μ1, s1, d, a1.wd, rp, r1, f1⟩)) fun u s1 hh => ?_) ht
  obtain ⟨v, H1, I1, rv, μ1, t1, d, w1, rp, r1, f1⟩ := hh
  cases hp : methOf P t1 d x with
  | none => rw [hp] at f1; exact f1.elim
  | some p =>
    rw [hp] at f1
    simp only at f1
    cases hq : alts.lookup p.1 with
    | none => rw [hq] at f1; exact f1.elim
    | some q =>
      rw [hq] at f1
      simp only at f1
      obtain ⟨kc, a0, dx, fs, hc, hm, cf, rfl, ea, hno⟩ := meth_rep hcf w1 rp hp
      cases rv
      obtain ⟨m1, m2, F, hbn⟩ := cf.meth _ _ hm
      obtain ⟨hpat, hpl⟩ := hal p.1 q kc p.2 hq hc hm
      have m1' := m1
      have cl' := cf.cl
      rw [← c.hK] at m1' cl'
      refine getmeth_ok I1 ea cl' m1' hno ?_
      have last : ∀ {μ2 s2 H2 ds vs μ3 s3 H3 es' zs}, Aft G μ1 ex t1 H1 μ2 s2 H2 → Aft G μ2 ex s2 H2 μ3 s3 H3 → Paired (fun d v => Rep G μ2 (Mu μ2 s2 ex) H2 d v) ds vs → Paired (fun d v => Rep G μ3 (Mu μ3 s3 ex) H3 d v) es' zs → ds.length = n → es'.length = ks.length →
          Fin G W σ μ3 ex s3 H3 ((ofO (permute ds es' q) s3).bind fun us s4 => call p.2 (d :: us) s4) Q → vs.length = n ∧ zs.length = ks.length ∧ ∃ xs, permV G.dfl vs zs q = some xs ∧ spF G call p.2 (G.ps p.2).length (.ref a0 :: xs) H3 Q (fun cls d H' => W cls d σ H') := by
        intro μ2 s2 H2 ds vs μ3 s3 H3 es' zs a2 a3 rp2 rp3 l1 l2 f2
        cases e : permute ds es' q with
        | none => rw [e] at f2; exact f2.elim
        | some us =>
          rw [e] at f2
          obtain ⟨xs, e2, qq⟩ := perm_rep (dfl := G.dfl) (Paired.mapP rp2 fun d v h => h.kp a3.evo.kp a3.evo.pre) rp3 (fun d hm => Rep.tree (hpat.2 d hm _ _)) e
          have a13 := a2.trans a3
          refine ⟨by rw [← pair_len rp2]; exact l1, by rw [← pair_len rp3]; exact l2, xs, e2, spF_of a3.wd (.cons (rp.kp a13.evo.kp a13.evo.pre) qq) ?_ f2⟩
          rw [List.length_cons, ← pair_len qq, perm_lenM e, hpl]
      refine args_runF (first := [.ref a0]) (R := fun vs zs H2 => vs.length = n ∧ zs.length = ks.length ∧ ∃ xs, permV G.dfl vs zs q = some xs ∧ spF G call p.2 (G.ps p.2).length (.ref a0 :: xs) H2 Q (fun cls d H' => W cls d σ H')) c I1 m1.kp ha hkw k1 (k2.trans hks) hst k3 (fun he => ?_) (fun he => ?_) fun us ws s2 vs zs H2 I2 r rz ⟨l1, l2, xs, e, qq⟩ => ?_
      · have h0' := h0 he
        subst h0'
        have f1' : Fin G W σ μ1 ex t1 H1 ((evs P call ck env t1).bind fun ws s2 => (ofO (permute [] ws q) s2).bind fun us s3 => call p.2 (d :: us) s3) Q := by
          rw [show evs P call .nil env t1 = .ok [] t1 by rw [evs]] at f1
          exact f1
        exact tds_of w1 r1 f1' fun zs H2 es' s2 μ2 e2 a2 rp2 r2 f2 => last (ds := []) (vs := []) (Aft.refl w1) a2 .nil rp2 hn (by rw [evs_len e2]; exact hn2) f2
      · exact tds_of w1 r1 f1 fun vs H2 ds s2 μ2 e1 a2 rp2 r2 f2 => tds_of a2.wd r2 f2 fun zs H3 es' s3 μ3 e2 a3 rp3 r3 f3 => last a2 a3 rp2 rp3 (by rw [evs_len e1]; exact hn) (by rw [evs_len e2]; exact hn2) f3
      · obtain ⟨ys, hb', ry⟩ := hpat.1 vs zs xs us ws a0 s2 (by rw [← c.hK]; exact I2.kIn) r rz l1 l2 e
        exact run_fnG (args := ⟨.ref a0 :: us, ks.zip ws⟩) c F hr I2 hb' ry (fun _ _ _ z => z) qq
end
/-! ### own exceptions as values -/
section
open PySem PySem.Spec PyProof.Rows L2
variable {G : Lk} {X : Cx} {W : WX} {P : Pg} {call : Nat → List DV → M DV}
/-- an own exception is made -/
theorem run_makeX {k : Nat} {fI C : Addr} {fd : FuncData} {ps ks : List Str} {sp : Sp} {pins : List (Addr × Obj)} {σ : L2.St} {H : Hp} {s : Shared} {Q : VK} {us ws : List Value} {xs : List V} (c : Ctx G X W) (T : OexC G.K C) (iC : PySem.W.findIn G.K (.ref C) "__init__" = some (some (.ref fI))) (tI : PySem.W.typeIn G.K (.ref fI) = some (.type "function"))
    (F1 : FnG G k fI fd ps sp) (hr : Room (k + 1) X.A) (hb : ∀ (x : Addr) (s' : Shared), G.K.In s'.heap → ∃ ys, BindsTo s' fd ⟨.ref x :: us, ks.zip ws⟩ (ps.zip ys) ∧ Vals (.ref x :: xs) ys) (I : Inv X pins σ H s) (hus : us.length ≤ sizeLine)
    (h : ∀ a, H a = none → sp (.ref a :: xs) (upd H a (exo a C none)) (fun v H2 => v = .non ∧ ∃ (d : Addr) (fs : List (Str × V)), d ≠ a ∧ H2 a = some (exo a C (some d)) ∧ H2 d = some (exd d fs) ∧ Q (.ref a) (upd (upd H2 d (.xd fs)) a (ExV (.ref C) (some d) a))) (fun _ _ _ => False)) :
    wpAny (model X.prog X.w) X.A (PySem.call (.ref C) us (ks.zip ws)) (EP X pins σ Q) X.xe s := by
  have T' : OexC X.K C := by rw [c.hK]; exact T
  obtain ⟨nm, q, N, bs, bm, sn, sub, ab, col, dd, k0, k1, k2, k3, k5, hC, hbm⟩ := T'.cls
  obtain ⟨hp, g, dr, tk, os⟩ := s
  have hsz : hp.objs.size ≤ hp.objs.size + 1 := Nat.le_succ _
  have hn : H (hp.objs.size + 1) = none := I.hok.fresh hsz
  have hq := h (hp.objs.size + 1) hn
  have kk : ∀ b o, hp.get? b = some o → ((hp.push (PySem.W.kdv_tup us)).push (PySem.HandSPX.excO C hp.objs.size)).get? b = some o := fun b o e => Heap.get?_push_of_some _ (Heap.get?_push_of_some _ e)
  have hget : ((hp.push (PySem.W.kdv_tup us)).push (PySem.HandSPX.excO C hp.objs.size)).get? (hp.objs.size + 1) = some (PySem.HandSPX.excO C hp.objs.size) := by heap_get
  have I2 : Inv X pins σ (upd H (hp.objs.size + 1) (exo (hp.objs.size + 1) C none)) ⟨(hp.push (PySem.W.kdv_tup us)).push (PySem.HandSPX.excO C hp.objs.size), g, dr, tk, os⟩ :=
    I.laid (t' := tk) (a := hp.objs.size + 1) (o := exo (hp.objs.size + 1) C none) (h' := (hp.push (PySem.W.kdv_tup us)).push (PySem.HandSPX.excO C hp.objs.size)) kk hsz (exo_ok hget)
  have iC' : PySem.W.findIn X.K (.ref C) "__init__" = some (some (.ref fI)) := by rw [c.hK]; exact iC
  have tI' : PySem.W.typeIn X.K (.ref fI) = some (.type "function") := by rw [c.hK]; exact tI
  obtain ⟨ys, hbx, rx⟩ := hb (hp.objs.size + 1) ⟨(hp.push (PySem.W.kdv_tup us)).push (PySem.HandSPX.excO C hp.objs.size), g, dr, tk, os⟩ (by rw [← c.hK]; exact I2.kIn)
  have qq := F1.run (X.A.under (.builtin "type.__call__" ⟨.ref C :: us, ks.zip ws⟩)) X.stack _ _ ⟨Value.ref (hp.objs.size + 1) :: us, ks.zip ws⟩ ys _ _ (fun _ _ _ => False) (hr.make C us (ks.zip ws))
    (by first | exact c.gd | (simpa [Around.under, Code.guards, Code.isGuard, guardIds, pushGuards] using c.gd)) ((c.env0 I2).make C us (ks.zip ws)) hbx rx hq
  rw [← c.hP, ← c.hw] at qq
  refine wpAny_call (call_ownK F.excBase_ValueError (fun Y => PySem.HandSPX.refsVE_contains Y bm hbm) (I.kIn _ _ hC) (PySem.W.looks_findIn I.kIn iC') (fun self => PySem.W.bind_fn I.kIn self tI') hus
    (codeAny_mono qq fun r s' hq' => ?_))
  cases r with
  | error er => exact CtxG_err (E := fun _ _ _ => False) c I2 (fun _ _ _ z => z.elim) (by rw [← c.hP, ← c.hw]; exact hq')
  | ok fl =>
    cases fl with
    | ret u =>
      obtain ⟨v, H2, I3, rv, ev, d, fs, hda, ea, ed, q2⟩ := I2.after hq'
      subst ev
      obtain ⟨t0, hoe⟩ := exo_at I3.hok ea
      obtain ⟨mA, hns, rel⟩ := exd_at I3.hok ed
      have hds : ∃ u, s'.heap.get? d = some u := by
        obtain ⟨o, es, ep, ho, _⟩ := hns
        exact ⟨o, ho⟩
      have I4 : Inv X pins σ (upd H2 d (.xd fs)) s' := I3.write (e := d) (o := .xd fs) (h' := s'.heap) (t' := s'.toks) (by rw [ed]; exact True.intro) (.inl rfl) (fun b u _ hu => hu) hds ⟨mA, hns, rel⟩
      have ea4 : upd H2 d (.xd fs) (hp.objs.size + 1) = some (exo (hp.objs.size + 1) C (some d)) := by rw [upd_ne (Ne.symm hda)]; exact ea
      have I5 : Inv X pins σ (upd (upd H2 d (.xd fs)) (hp.objs.size + 1) (ExV (.ref C) (some d) (hp.objs.size + 1))) s' := I4.write (e := hp.objs.size + 1) (o := ExV (.ref C) (some d) (hp.objs.size + 1)) (h' := s'.heap) (t' := s'.toks) (by rw [ea4]; exact True.intro) (.inl rfl) (fun b u _ hu => hu) ⟨_, hoe⟩ (exv_ok hoe ⟨rfl, rfl⟩ rfl)
      exact ⟨rv, ⟨V.ref (hp.objs.size + 1), _, I5, rfl, q2⟩⟩
    | next => exact False.elim hq'
    | brk => exact False.elim hq'
    | cont => exact False.elim hq'
/-- how an exception's __init__ binds -/
def PatX (G : Lk) (fd : FuncData) (ps : List Str) (n : Nat) (ks : List Str) (p : List (Nat ⊕ Df)) : Prop :=
  (∀ (vs zs xs : List V) (us ws : List Value) (x : Addr) (s : Shared), G.K.In s.heap → Vals vs us → Vals zs ws → vs.length = n → zs.length = ks.length → permV G.dfl vs zs p = some xs → ∃ ys, BindsTo s fd ⟨.ref x :: us, ks.zip ws⟩ (ps.zip ys) ∧ Vals (.ref x :: xs) ys) ∧
  ∀ d, (Sum.inr d : Nat ⊕ Df) ∈ p → ∀ (M : Addr → Prop) (H : Hp), RepT G M H d.2 (G.dfl d)
/-- C(..) as a value, C a class of exceptions -/
theorem sd_mkX {ci n k : Nat} {x : Str} {xs : List Str} {es : List Expr} {kws : List Keyword} {ks ps : List Str} {fI : Addr} {fd : FuncData} {p : List (Nat ⊕ Df)} {cr ck : Es} {pp pos : Pos} (c : Ctx G X W) (he : P.ex ci = some xs) (T : OexC G.K (G.xa ci)) (iC : PySem.W.findIn G.K (.ref (G.xa ci)) "__init__" = some (some (.ref fI))) (tI : PySem.W.typeIn G.K (.ref fI) = some (.type "function"))
    (hps : ps.length = xs.length + 1) (F : FnG G k fI fd ps (spX (G.xa ci) ps.length (xs.zipIdx 1))) (hr : Room (k + 1) X.A) (hg : Gl X x) (hm : G.mg x = some (.ref (G.xa ci)))
    (hp : PatX G fd ps n ks p) (hpl : p.length + 1 = ps.length) (ha : PA X es (TDs G W P call cr)) (hkw : PK X kws (TDs G W P call ck)) (hall : kws.all (fun k => k.arg.isSome) = true) (hks : kws.filterMap (·.arg) = ks) (hn : cr.len = n) (hn2 : ck.len = ks.length) (hlim : n ≤ 1000)
    (hst : noStar es = true) (h0 : es = [] → cr = .nil) (hdb : (x == ("__debug__" : Str)) = false) : PE X (.Call (.Name x pp) es kws pos) (TD G W P call (.mkX ci cr ck p)) := by
  obtain ⟨k1, k2, k3⟩ := kw_ok (env := X.env) (pos := pos) hall
  refine ⟨fun pins s σ H Q I h => ?_⟩
  refine wpAny_Call_Name_kw (ld_glob I hg (by rw [c.hm]; exact hm) ?_ hdb)
  let PP : List V → List V → Hp → Prop := fun vs zs H2 => vs.length = n ∧ zs.length = ks.length ∧ ∃ ys, permV G.dfl vs zs p = some ys ∧ ∀ a, H2 a = none → spX (G.xa ci) ps.length (xs.zipIdx 1) (.ref a :: ys) (upd H2 a (exo a (G.xa ci) none)) (fun v H3 => v = .non ∧ ∃ (d : Addr) (fs : List (Str × V)), d ≠ a ∧ H3 a = some (exo a (G.xa ci) (some d)) ∧ H3 d = some (exd d fs) ∧ Q (.ref a) (upd (upd H3 d (.xd fs)) a (ExV (.ref (G.xa ci)) (some d) a))) (fun _ _ _ => False)
  have fin : ∀ us ws s2 vs zs H2, Inv X pins σ H2 s2 → Vals vs us → Vals zs ws → PP vs zs H2 →
      wpAny (model X.prog X.w) X.A (PySem.call (.ref (G.xa ci)) us (ks.zip ws)) (EP X pins σ Q) X.xe s2 := by
    intro us ws s2 vs zs H2 I2 r rz ⟨l1, l2, ys, e, q⟩
    exact run_makeX c T iC tI F hr (fun x s' hK => hp.1 vs zs ys us ws x s' hK r rz l1 l2 e) I2 (by rw [← Paired.length r, l1, sizeLine_eq]; omega) q
  obtain ⟨μ, ex, s0, env, w, r, fn⟩ := h
  unfold ev at fn
  have last : ∀ {μ1 s1 H1 ds vs μ2 s2 H2 es' zs}, Aft G μ1 ex s1 H1 μ2 s2 H2 → Paired (fun d v => Rep G μ1 (Mu μ1 s1 ex) H1 d v) ds vs → Paired (fun d v => Rep G μ2 (Mu μ2 s2 ex) H2 d v) es' zs → ds.length = n → es'.length = ks.length →
      Fin G W σ μ2 ex s2 H2 ((ofO (permute ds es' p) s2).bind fun us s3 => (embedAll us s3).bind fun ds s4 => match P.ex ci with
    | some xs => if xs.length = ds.length then .ok (.exc ci (xs.zip ds).reverse) s4 else .stuck
    | none => .stuck) Q → PP vs zs H2 := by
    intro μ1 s1 H1 ds vs μ2 s2 H2 es' zs a2 rp rp2 l1 l2 f2
    cases e : permute ds es' p with
    | none => rw [e] at f2; exact f2.elim
    | some us =>
      rw [e] at f2
      obtain ⟨ys, e2, q⟩ := perm_rep (dfl := G.dfl) (Paired.mapP rp fun d v h => h.kp a2.evo.kp a2.evo.pre) rp2 (fun d hm => Rep.tree (hp.2 d hm _ _)) e
      refine ⟨by rw [← pair_len rp]; exact l1, by rw [← pair_len rp2]; exact l2, ys, e2, fun a ha => ?_⟩
      simp only [ofO_some, bind_ok, he] at f2
      cases hem : embedAll us s2 with
      | stuck => rw [hem] at f2; exact f2.elim
      | err c' gs s2 => exact absurd hem embedAll_no
      | ok ds' s3 =>
        rw [hem] at f2
        simp only [bind_ok] at f2
        split at f2
        rotate_left
        · exact f2.elim
        rename_i hxl
        obtain ⟨a3, rl⟩ := embedAll_ok a2.wd q hem
        have hvl : ys.length = xs.length := by rw [hxl]; exact rl.len.symm
        refine ⟨by rw [List.length_cons, hvl, hps], a, ys, rfl, upd_same, fun dx H3 hdx hne2 h6 h7 h8 => ⟨rfl, dx, _, hne2, h6, h7, ?_⟩⟩
        have hdx1 : H2 dx = none := by rw [upd_ne hne2] at hdx; exact hdx
        have eH : upd (upd H3 dx (.xd (fsX (.ref a :: ys) (xs.zipIdx 1) []))) a (ExV (.ref (G.xa ci)) (some dx) a) = upd (upd H2 dx (.xd (fsX (.ref a :: ys) (xs.zipIdx 1) []))) a (ExV (.ref (G.xa ci)) (some dx) a) := by
          funext b
          by_cases hba : b = a
          · rw [hba, upd_same, upd_same]
          · rw [upd_ne hba, upd_ne hba]
            by_cases hb : b = dx
            · rw [hb, upd_same, upd_same]
            · rw [upd_ne hb, upd_ne hb, h8 b hba hb, upd_ne hba]
        rw [eH]
        have a4 := Aft.alloc (o := .xd (fsX (.ref a :: ys) (xs.zipIdx 1) [])) a3.wd hdx1
        have ha4 : upd H2 dx (.xd (fsX (.ref a :: ys) (xs.zipIdx 1) [])) a = none := by rw [upd_ne (Ne.symm hne2)]; exact ha
        have a5 := Aft.alloc (o := ExV (.ref (G.xa ci)) (some dx) a) a4.wd ha4
        refine f2 (.ref a) _ μ2 ((a3.trans a4).trans a5) (Rep.tree ⟨a, some dx, rfl, upd_same, ?_, .inr ⟨dx, _, rfl, by rw [upd_ne hne2]; exact upd_same, ?_, ?_⟩⟩)
        · exact a4.wd.nmu ha4
        · exact a3.wd.nmu hdx1
        · have q := repF_fsX (full := .ref a :: ys) (k := 1) (gacc := []) (acc := []) rfl (RepL.kp (a4.trans a5).evo.kp _ _ rl) hxl rfl
          simpa using q
  cases es with
  | nil =>
    have h0' := h0 rfl
    subst h0'
    refine args_run0 (R := fun zs H2 => PP [] zs H2) c I T.kC hkw k1 (k2.trans hks) (by rw [k3]; rfl)
      (tds_of w r fn fun zs H2 es' s2 μ2 e2 a2 rp2 r2 f2 => last (ds := []) (vs := []) a2 .nil rp2 hn (by rw [evs_len e2]; exact hn2) f2) fun ws s2 zs H2 I2 rz q => fin [] ws s2 [] zs H2 I2 .nil rz q
  | cons e es =>
    refine args_run (R := PP) c I T.kC ha hkw k1 (k2.trans hks) (star_ok hst) (by rw [star_any hst, k3]; rfl)
      (tds_of w r fn fun vs H1 ds s1 μ1 e1 a1 rp r1 f1 => tds_of a1.wd r1 f1 fun zs H2 es' s2 μ2 e2 a2 rp2 r2 f2 => last a2 rp rp2 (by rw [evs_len e1]; exact hn) (by rw [evs_len e2]; exact hn2) f2) fin
abbrev bmVE : List Value := [.type "ValueError", .type "Exception", .type "BaseException", .type "object"]
/-- C(e), C without __init__ of its own -/
theorem sd_mkX0 {ci : Nat} {x : Str} {e : Expr} {ce : E} {p pos : Pos} (c : Ctx G X W) (he : P.ex ci = some []) (q : PySem.W.excIn G.K (G.xa ci) bmVE "ValueError.__new__" = true) (kC : PySem.W.keepIn G.K (.ref (G.xa ci)) = true) (hg : Gl X x) (hm : G.mg x = some (.ref (G.xa ci)))
    (ha : PE X e (TD G W P call ce)) (hs : noStar [e] = true) (hdb : (x == ("__debug__" : Str)) = false) : PE X (.Call (.Name x p) [e] [] pos) (TD G W P call (.mkX0 ci ce)) := by
  have hs := star_ok (env := X.env) hs
  refine ⟨fun pins s σ H Q I h => ?_⟩
  obtain ⟨μ, ex, s0, env, w, r, fn⟩ := h
  unfold ev at fn
  refine wpAny_Call_Name_kw (ld_glob I hg (by rw [c.hm]; exact hm) ?_ hdb)
  refine PySem.W.callWith_K (h₀ := X.base) I.ok.mod.kin (by rw [c.hK]; exact kC) ?_ hs (by rfl)
  rw [hs]
  show wpAny _ _ (spliced ((false, eval e X.env) :: backTo pos (starEach [] X.env))) _ _ s
  have hrun := td_of (Q' := fun v H1 => ∀ a, H1 a = none → Q (.ref a) (upd H1 a (ExV (.ref (G.xa ci)) none a))) w r fn fun v H1 d s1 μ1 e1 a1 rp r1 f1 => fun a hn => by
    simp only [he] at f1
    have a2 := Aft.alloc (o := ExV (.ref (G.xa ci)) none a) a1.wd hn
    exact f1 (.ref a) _ μ1 a2 (Rep.tree ⟨a, none, rfl, upd_same, a1.wd.nmu hn, .inl ⟨rfl, rfl⟩⟩)
  refine Calls.spliced_cons (thn (ha.run pins s σ H _ I hrun) fun u s1 ⟨v, H1, I1, r1, q1⟩ => ?_)
  refine Calls.spliced_nil ⟨I1.kIn, ?_⟩
  show wpAny _ _ (PySem.call (.ref (G.xa ci)) [u]) _ _ _
  obtain ⟨bm, N, nm, qn, bs, hdct, sn, sub, ab, col, dd, k0, k1, k2, k3, k5, mN, hC, hN, hni, T⟩ := exc_obj I1.kIn (by rw [c.hK]; exact q)
  refine wpAny_call_exc_subT F.excBase_ValueError T hC hN hni (fun h' a hm => ?_) (by show 1 ≤ sizeLine; rw [sizeLine_eq]; omega)
  have hn : H1 a = none := I1.hok.gone hm.new
  obtain ⟨t, ht, _, _⟩ := hm.there
  exact ⟨.ref a, upd H1 a (ExV (.ref (G.xa ci)) none a), I1.laidN hm.keeps hm.new hn (exv_ok ht ⟨rfl, rfl⟩ rfl), rfl, q1 a hn⟩
end
end WS
set_option maxRecDepth 100000
set_option maxHeartbeats 2000000
/-! D26: from the model's text to the core language. -/
namespace WS
open PySem
/-! ### how a call binds, by places -/
section
variable {α : Type}
/-- the keywords -/
def kwOk (ps : List Str) : List (Str × α) → List (Str × α) → Bool
  | [], _ => true
  | (k, v) :: r, s => (ps.contains k && (s.lookup k).isNone) && kwOk ps r (s ++ [(k, v)])
/-- a default, where nothing is given -/
def dput1 (s : List (Str × α)) (p : Str × α) : List (Str × α) := if (s.lookup p.1).isNone then s ++ [p] else s
def bindP (ps : List Str) (us : List α) (kw : List (Str × α)) (dfl : List α) : Option (List (Str × α)) :=
  if kwOk ps kw (ps.zip us) = true ∧ us.length ≤ ps.length ∧ dfl.length ≤ ps.length ∧ ((ps.take (ps.length - dfl.length)).filter fun n => ((ps.zip us ++ kw).lookup n).isNone).isEmpty = true then
    some (ps.filterMap fun n => ((((ps.drop (ps.length - dfl.length)).zip dfl).foldl dput1 (ps.zip us ++ kw)).lookup n).map (n, ·))
  else none
/-- what a call binds, by places: the given values, then the defaults -/
def tokP (ps : List Str) (n : Nat) (ks : List Str) (m : Nat) : Option (List (Str × (Nat ⊕ Nat))) :=
  bindP ps ((List.range n).map Sum.inl) (ks.zip ((List.range ks.length).map fun i => Sum.inl (n + i))) ((List.range m).map Sum.inr)
end
/-- the order, the defaults as data -/
def permOf (dd : List Df) (bs : List (Str × (Nat ⊕ Nat))) : List (Nat ⊕ Df) := bs.map fun p => match p.2 with
  | .inl i => .inl i
  | .inr j => .inr (dd.getD j ((0, 0), .non))
/-- what the translation knows of the program -/
structure Tb where
  fns : List (Str × Nat)
  cls : List (Str × Nat)
  exs : List (Str × Nat)
  /-- those with fields -/
  exf : List Nat
  glo : List (Str × DV)
  cats : List (Str × Nat)
  /-- a def's parameters and defaults; those of a class's __init__ -/
  sig : Nat → Option (List Str × List Df)
  sigI : Nat → Option (List Str × List Df)
  flds : List Str
  /-- names that stand for instances of own classes: which classes have a method -/
  own : List Str
  /-- names whose cells become trees where they are handed to a class -/
  emb : List Str
  mth : Str → List (Nat × Nat)
  /-- the parameters of an exception's __init__; classes without one -/
  sigX : Nat → Option (List Str)
  exz : List Nat
def esOf (f : Expr → Option E) : List Expr → Option Es
  | [] => some .nil
  | e :: r => (f e).bind fun c => (esOf f r).bind fun cr => some (.cons c cr)
def ksOf (f : Expr → Option E) : List Keyword → Option Es
  | [] => some .nil
  | ⟨_, e, _⟩ :: r => (f e).bind fun c => (ksOf f r).bind fun cr => some (.cons c cr)
def andOf (f : Expr → Option E) : List Expr → Option E
  | [] => none
  | [e] => f e
  | e :: r => (f e).bind fun c => (andOf f r).bind fun cr => some (.and c cr)
def orOf (f : Expr → Option E) : List Expr → Option E
  | [] => none
  | [e] => f e
  | e :: r => (f e).bind fun c => (orOf f r).bind fun cr => some (.or c cr)
def pairsOf (f : Expr → Option E) : List (Option Expr) → List Expr → Option Es
  | [], [] => some .nil
  | some k :: ks, v :: vs => (f k).bind fun ck => (f v).bind fun cv => (pairsOf f ks vs).bind fun cr => some (.cons ck (.cons cv cr))
  | _, _ => none
def opOf : Operator → Option Op2
  | .Add => some .add
  | .Sub => some .sub
  | .Mult => some .mul
  | .FloorDiv => some .fdiv
  | .Mod => some .md
  | .Pow => some .pow
  | _ => none
def cmpOf : CmpOp → Option Cmp
  | .Eq => some .eq
  | .NotEq => some .ne
  | .Lt => some .lt
  | .LtE => some .le
  | .Gt => some .gt
  | .GtE => some .ge
  | .Is => some .isN
  | .IsNot => some .isnN
  | .In => some .isin
  | .NotIn => some .nin
def cstOf : Const → Option DV
  | .none => some .non
  | .bool b => some (.bl b)
  | .int i => some (.int i)
  | .str x => some (.str x)
  | _ => none
/-- an own type's name -/
def bltTy (x : Str) : Option Ty :=
  if x = "int" then some .int else if x = "bool" then some .bool else if x = "str" then some .str else if x = "list" then some .list else if x = "tuple" then some .tuple else if x = "dict" then some .dict else if x = "ValueError" then some .valueError else none
def tyOf (T : Tb) (sc : Scope) : Expr → Option Ty
  | .Name x _ => if sc.names.lookup x = some .globalImplicit then (match T.cls.lookup x with
    | some c => some (.own c)
    | none => match T.exs.lookup x with
      | some c => some (.exc c)
      | none => bltTy x) else none
  | _ => none
def tysOf (T : Tb) (sc : Scope) : List Expr → Option (List Ty)
  | [] => some []
  | e :: r => (tyOf T sc e).bind fun t => (tysOf T sc r).map (t :: ·)
/-- built-in functions -/
def primOf (x : Str) (k : Nat) : Option Prim :=
  if x = "len" ∧ k = 1 then some .len else if x = "abs" ∧ k = 1 then some .abs else if x = "min" ∧ k = 2 then some .min2 else if x = "max" ∧ k = 2 then some .max2
  else if x = "all" ∧ k = 1 then some .all else if x = "any" ∧ k = 1 then some .any else if x = "int" ∧ k = 1 then some .int else if x = "sorted" ∧ k = 1 then some .sorted else if x = "list" ∧ k = 1 then some .list else if x = "tuple" ∧ k = 1 then some .tuple else if x = "repr" ∧ k = 1 then some .repr else none
def badName (x : Str) : Bool := x == ("__debug__" : Str) || x == ("__classdict__" : Str)
def tgOf (N : List Str) (sc : Scope) : Expr → Option (Tg × List Nat × List (Str × Nat))
  | .Name x _ => (slotOf N sc x).map fun i => (.one i, [i], [(x, i)])
  | .Tuple ts _ _ => (slotsOf N sc ts).map fun is => (.many is, is, is.filterMap fun i => (N[i]?).map fun x => (x, i))
  | _ => none
/-- may be read as a test -/
def tOk : Nat → Expr → Bool
  | 0, _ => false
  | n + 1, e => match e with
    | .UnaryOp .Not a _ => tOk n a
    | .BoolOp _ vs _ => vs.all (tOk n)
    | .Compare .. => true
    | .UnaryOp .. => false
    | .IfExp .. => false
    | _ => true
/-- the order in which a call's values go to the parameters -/
def patS (s : Option (List Str × List Df)) (n : Nat) (ks : List Str) : Option (List (Nat ⊕ Df)) := match s with
  | some (ps, dd) => (match tokP ps n ks dd.length with
    | some bs => if bs.map (·.1) = ps ∧ (bs.all fun p => match p.2 with
      | .inr j => decide (j < dd.length)
      | _ => true) = true then some (permOf dd bs) else none
    | none => none)
  | none => none
def patOf (T : Tb) (f n : Nat) (ks : List Str) : Option (List (Nat ⊕ Df)) := patS (T.sig f) n ks
/-- .. of an __init__, the new instance left out -/
def unsh : List (Nat ⊕ Df) → Option (List (Nat ⊕ Df))
  | [] => some []
  | .inl (i + 1) :: r => (unsh r).map (.inl i :: ·)
  | .inl 0 :: _ => none
  | .inr d :: r => (unsh r).map (.inr d :: ·)
def patI (T : Tb) (c n : Nat) (ks : List Str) : Option (List (Nat ⊕ Df)) := match patS (T.sigI c) (n + 1) ks with
  | some (.inl 0 :: r) => unsh r
  | _ => none
/-- .. of a method, the instance left out -/
def patM (T : Tb) (f n : Nat) (ks : List Str) : Option (List (Nat ⊕ Df)) := match patS (T.sig f) (n + 1) ks with
  | some (.inl 0 :: r) => unsh r
  | _ => none
/-- .. of an exception's __init__ -/
def patX (T : Tb) (c n : Nat) (ks : List Str) : Option (List (Nat ⊕ Df)) := match patS ((T.sigX c).map fun ps => (ps, [])) (n + 1) ks with
  | some (.inl 0 :: r) => unsh r
  | _ => none
/-- the name of an instance -/
def isOwn (T : Tb) : Expr → Bool
  | .Name y _ => T.own.contains y
  | _ => false
def inOf : CmpOp → Option Bool
  | .In => some false
  | .NotIn => some true
  | _ => none
def kwsOk (kws : List Keyword) : Bool := kws.all fun k => k.arg.isSome
section
variable (T : Tb) (N : List Str)
/-- an argument of a class -/
def argOf (f : Expr → Option E) (e : Expr) : Option E := match e with
  | .Name x p => if T.emb.contains x then (f (.Name x p)).map .emb else f (.Name x p)
  | e => f e
/-- a call by a name -/
def callOf (f : Expr → Option E) (lam : Scope → Expr → Option E) (sc : Scope) (x : Str) (args : List Expr) (kws : List Keyword) : Option E :=
  if sc.names.lookup x = some .globalImplicit ∧ noStar args = true ∧ kwsOk kws = true then
    match T.fns.lookup x with
    | some g => (patOf T g args.length (kws.filterMap (·.arg))).bind fun p => (esOf f args).bind fun cr => (ksOf f kws).bind fun ck => some (.callK g cr ck p)
    | none => match T.cls.lookup x with
      | some g => (patI T g args.length (kws.filterMap (·.arg))).bind fun p => (esOf (argOf T f) args).bind fun cr => (ksOf (argOf T f) kws).bind fun ck => some (.mkK g cr ck p)
      | none => match T.exs.lookup x with
       | some c => if T.exf.contains c = true ∧ args.length ≤ 1000 then (patX T c args.length (kws.filterMap (·.arg))).bind fun p => (esOf f args).bind fun cr => (ksOf f kws).bind fun ck => some (.mkX c cr ck p)
          else if T.exz.contains c = true then (match args, kws with
            | [a], [] => (f a).map (.mkX0 c)
            | _, _ => none) else none
       | none => match T.cats.lookup x with
        | some g => match args, kws with
          | [.Lambda ⟨[], [], none, [], [], none, []⟩ body scope _], [] => if LamX.lamSB sc scope then (lam scope body).map (.lam g) else none
          | _, _ => none
        | none => match kws with
          | [] => match args with
            | [a, b] => if x = "isinstance" then (f a).bind fun ca => (match b with
                | .Tuple es _ _ => (tysOf T sc es).bind fun ts => if ts.length ≤ 1000 then some (.isi ca ts) else none
                | b => (tyOf T sc b).map fun t => .isi ca [t])
              else (primOf x 2).bind fun p => (esOf f args).map (.prim p)
            | _ => (primOf x args.length).bind fun p => (esOf f args).map (.prim p)
          | _ => none
  else none
/-- what is walked -/
def srOf (f : Expr → Option E) (sc : Scope) (tup : Bool) (e : Expr) : Option Sr :=
  match e with
  | .Call (.Name x _) args [] _ =>
    if x = "range" then (if sc.names.lookup x = some .globalImplicit ∧ noStar args = true then (match args with
      | [a] => (f a).map .range
      | [a, b] => (f a).bind fun ca => (f b).map fun cb => .range2 ca cb
      | _ => none) else none)
    else if x = "enumerate" then (match args with
      | [a] => if tup = true ∧ sc.names.lookup x = some .globalImplicit ∧ noStar [a] = true then (f a).map .enum else none
      | _ => none)
    else (f e).map .val
  | e => if isSetE e = false then (f e).map .val else none
/-- [elt for tg in iter if ..] -/
def compOf (f : Scope → Expr → Option E) (ok : Expr → Bool) (sc : Scope) (elt tg iter : Expr) (ifs : List Expr) (scope : Scope) : Option E :=
  (tgOf N scope tg).bind fun t =>
    if L2.blkC N sc scope t.2.2 = true ∧ t.2.2.map (·.2) = t.2.1 ∧ isSetE iter = false then
      (srOf (f sc) sc (match tg with | .Tuple .. => true | _ => false) iter).bind fun cs => (f scope elt).bind fun ce => (match ifs with
        | [] => some (.comp t.1 ce cs (.cst (.bl true)))
        | [c] => if ok c then (f scope c).map fun cc => .comp t.1 ce cs cc else none
        | _ => none)
    else none
/-- {key: val for tg in iter if ..} -/
def dcompOf (f : Scope → Expr → Option E) (ok : Expr → Bool) (sc : Scope) (kx vx tg iter : Expr) (ifs : List Expr) (scope : Scope) : Option E :=
  (tgOf N scope tg).bind fun t =>
    if L2.blkC N sc scope t.2.2 = true ∧ t.2.2.map (·.2) = t.2.1 ∧ isSetE iter = false then
      (srOf (f sc) sc (match tg with | .Tuple .. => true | _ => false) iter).bind fun cs => (f scope kx).bind fun ck => (f scope vx).bind fun cv => (match ifs with
        | [] => some (.dcomp t.1 ck cv cs (.cst (.bl true)))
        | [c] => if ok c then (f scope c).map fun cc => .dcomp t.1 ck cv cs cc else none
        | _ => none)
    else none
def trE : Bool → Nat → Scope → Expr → Option E
  | _, 0, _, _ => none
  | ll, n + 1, sc, e => match e with
    | .Name x _ => if badName x then none else (match sc.names.lookup x with
      | some .local => (N.idxOf? x).map .var
      | some .cell => (N.idxOf? x).map .var
      | some .free => (N.idxOf? x).map .var
      | some .globalImplicit => (T.glo.lookup x).map (.glo x)
      | _ => none)
    | .Constant c _ _ => (cstOf c).map .cst
    | .BinOp a op b _ => (opOf op).bind fun o => (trE ll n sc a).bind fun ca => (trE ll n sc b).bind fun cb => some (.op2 o ca cb)
    | .UnaryOp .Not a _ => (trE ll n sc a).map .not
    | .UnaryOp .USub a _ => (trE ll n sc a).map .neg
    | .Compare a [op] [b] _ => if behindInMarks op b = false then (if isOwn T b = true ∧ (inOf op).isSome = true then (inOf op).bind fun ng => (trE ll n sc a).bind fun ca => (trE ll n sc b).bind fun cb => some (.hasI ng ca cb)
        else (cmpOf op).bind fun o => (trE ll n sc a).bind fun ca => (trE ll n sc b).bind fun cb => some (.cmp o ca cb)) else none
    | .Compare a [op, op'] [b, c] _ => if lastMarks [op, op'] [b, c] = false then (cmpOf op).bind fun o => (cmpOf op').bind fun o' => (trE ll n sc a).bind fun ca => (trE ll n sc b).bind fun cb => (trE ll n sc c).bind fun cc => some (.chn o o' ca cb cc) else none
    | .BoolOp .And vs _ => andOf (trE ll n sc) vs
    | .BoolOp .Or vs _ => orOf (trE ll n sc) vs
    | .IfExp c a b _ => if tOk n c then (trE ll n sc c).bind fun cc => (trE ll n sc a).bind fun ca => (trE ll n sc b).bind fun cb => some (.ite cc ca cb) else none
    | .Tuple es _ _ => if es.length ≤ 1000 ∧ noStar es = true then (esOf (trE ll n sc) es).map .tup else none
    | .List es _ => if es.length ≤ 1000 ∧ noStar es = true then (esOf (trE ll n sc) es).map .lst else none
    | .Dict ks vs _ => if ks.length ≤ 15 then (pairsOf (trE ll n sc) ks vs).map .dct else none
    | .Subscript a (.Slice none none (some (.UnaryOp .USub (.Constant (.int 1) _ _) _)) _) _ => (trE ll n sc a).map .rev
    | .Subscript a (.Slice lo hi none _) _ => (trE ll n sc a).bind fun ca => (match lo with
        | some l => (trE ll n sc l).map fun c => (c, true)
        | none => some (.cst .non, false)).bind fun cl => (match hi with
        | some l => (trE ll n sc l).map fun c => (c, true)
        | none => some (.cst .non, false)).bind fun ch => some (.slc ca cl.1 ch.1 cl.2 ch.2)
    | .Subscript a i _ => if isSlice i = false then (trE ll n sc a).bind fun ca => (trE ll n sc i).bind fun ci => some (if isOwn T a then .itemI ca ci else .sub ca ci) else none
    | .Attribute a x _ => if plainBase a = true ∧ T.flds.contains x = true then (trE ll n sc a).map fun ca => .attr ca x else none
    | .Call (.Attribute o m ap) args kws cp => if plainBase o = true ∧ (ap.endLine == cp.line) = true then (if m = "pop" then (match args, kws with
        | [], [] => (trE ll n sc o).map .popL
        | [.Constant (.int 0) _ _], [] => (trE ll n sc o).map .pop0
        | [i], [] => if noStar [i] = true then (trE ll n sc o).bind fun co => (trE ll n sc i).map fun ci => .popI co ci else none
        | _, _ => none)
      else if m = "join" then (match o, args, kws with
        | .Constant (.str x) _ _, [a], [] => if noStar [a] = true then (trE ll n sc a).map fun ca => .join (.cst (.str x)) ca else none
        | _, _, _ => none)
      else if noStar args = true ∧ kwsOk kws = true ∧ args.length + kws.length < 28 then (trE ll n sc o).bind fun co => (esOf (trE ll n sc) args).bind fun cr => (ksOf (trE ll n sc) kws).bind fun ck =>
        (match (T.mth m).filterMap (fun p => (patM T p.2 args.length (kws.filterMap (·.arg))).map fun q => (p.1, q)) with
        | [] => none
        | al => some (.meth co m al cr ck))
      else none) else none
    | .Call (.Name x _) args kws _ => callOf T (trE ll n sc) (fun scope body => if ll then trE false n scope body else none) sc x args kws
    | .ListComp elt [⟨tg, iter, ifs, 0⟩] scope _ => compOf N (trE ll n) (tOk n) sc elt tg iter ifs scope
    | .DictComp kx vx [⟨tg, iter, ifs, 0⟩] scope _ => dcompOf N (trE ll n) (tOk n) sc kx vx tg iter ifs scope
    | _ => none
/-- a value of a dict that is changed later: an empty dict is a cell -/
def trD (ll : Bool) (n : Nat) (sc : Scope) (e : Expr) : Option E := match e with
  | .Dict [] [] _ => some (.newD .nil)
  | e => trE T N ll n sc e
/-- fresh, as a new cell -/
def trN (ll : Bool) (n : Nat) (sc : Scope) (e : Expr) : Option E := match e with
  | .List _ _ => (trE T N ll n sc e).map .new
  | .ListComp _ _ _ _ => (trE T N ll n sc e).map .new
  | .Dict ks vs _ => if ks.length ≤ 15 then (pairsOf (trD T N ll n sc) ks vs).map .newD else none
  | .Call (.Name x _) [a] [] _ => if x = "list" ∧ sc.names.lookup x = some .globalImplicit ∧ noStar [a] = true then (trE T N ll n sc a).map fun ca => .new (.prim .list (.cons ca .nil)) else none
  | _ => none
end
end WS
set_option maxRecDepth 100000
set_option maxHeartbeats 4000000
/-! D27: the translation of expressions is sound. -/
namespace WS
open PySem PySem.Spec PyProof.Rows L2
/-- what the program's link gives, the defs of the level below keeping their promises -/
structure Lnk (G : Lk) (T : Tb) (P : Pg) (call : Nat → List DV → M DV) (k : Nat) : Prop where
  li : LnI G P
  fn : ∀ x f, T.fns.lookup x = some f → G.mg x = some (.ref (G.fa f)) ∧ PySem.W.keepIn G.K (.ref (G.fa f)) = true ∧ (x == ("__debug__" : Str)) = false ∧ FnG G k (G.fa f) (G.fd f) (G.ps f) (spF G call f (G.ps f).length)
  cl : ∀ x c, T.cls.lookup x = some c → ∃ kc, P.cl c = some kc ∧ Mk G.K (G.ca c) (G.fa kc.init) ∧ FnG G k (G.fa kc.init) (G.fd kc.init) (G.ps kc.init) (spF G call kc.init (G.ps kc.init).length) ∧ G.mg x = some (.ref (G.ca c)) ∧ (x == ("__debug__" : Str)) = false
  cf : ∀ ci kc, P.cl ci = some kc → ClsF G k call ci kc
  ex : ∀ x c, T.exs.lookup x = some c → ∃ xs, P.ex c = some xs ∧ (T.exf.contains c = true → ExF G k c xs x) ∧ G.mg x = some (.ref (G.xa c)) ∧ (x == ("__debug__" : Str)) = false
  exk : ∀ x c n ks p, T.exs.lookup x = some c → T.exf.contains c = true → patX T c n ks = some p → ∃ xs fI fd ps, P.ex c = some xs ∧ OexC G.K (G.xa c) ∧ PySem.W.findIn G.K (.ref (G.xa c)) "__init__" = some (some (.ref fI)) ∧ PySem.W.typeIn G.K (.ref fI) = some (.type "function") ∧ ps.length = xs.length + 1 ∧ FnG G k fI fd ps (spX (G.xa c) ps.length (xs.zipIdx 1)) ∧ PatX G fd ps n ks p ∧ p.length + 1 = ps.length
  exz : ∀ x c, T.exs.lookup x = some c → T.exz.contains c = true → P.ex c = some [] ∧ PySem.W.excIn G.K (G.xa c) bmVE "ValueError.__new__" = true ∧ PySem.W.keepIn G.K (.ref (G.xa c)) = true
  gl : ∀ x d, T.glo.lookup x = some d → ∃ v u, G.mg x = some u ∧ RelV v u ∧ (∀ (M : Addr → Prop) (H : Hp), RepT G M H d v) ∧ (x == ("__debug__" : Str)) = false
  cat : ∀ x g, T.cats.lookup x = some g → ∃ ki, CatF G P g ki x
  pt : ∀ f n ks p, patOf T f n ks = some p → Pat G f n ks p ∧ p.length = (G.ps f).length
  pi : ∀ c n ks p, patI T c n ks = some p → ∀ kc, P.cl c = some kc → PatI G kc.init n ks p ∧ p.length + 1 = (G.ps kc.init).length
  fl : ∀ x ∈ T.flds, FldF G P x
  pm : ∀ f n ks p, patM T f n ks = some p → PatI G f n ks p ∧ p.length + 1 = (G.ps f).length
  mt : ∀ x c f kc f', (c, f) ∈ T.mth x → P.cl c = some kc → kc.meths.lookup x = some f' → f = f'
section
variable {G : Lk} {X : Cx} {W : WX} {P : Pg} {call : Nat → List DV → M DV} {T : Tb} {N : List Str} {k : Nat}
theorem es_ok {f : Expr → Option E} : ∀ {es : List Expr} {cr : Es}, (∀ e ∈ es, ∀ c, f e = some c → PE X e (TD G W P call c)) → esOf f es = some cr → noStar es = true → PA X es (TDs G W P call cr) ∧ cr.len = es.length ∧ (es = [] → cr = .nil)
  | [], cr, _, e, _ => by
    have e : Es.nil = cr := by simpa [esOf] using e
    subst e
    exact ⟨sa_nil, rfl, fun _ => rfl⟩
  | a :: es, cr, hf, e, hn => by
    simp only [esOf, Option.bind_eq_some_iff] at e
    obtain ⟨c, h1, r, h2, e⟩ := e
    cases e
    obtain ⟨q1, q2, _⟩ := es_ok (fun e he => hf e (by simp [he])) h2 (noStar_tl hn)
    exact ⟨sa_cons (hf a (by simp) c h1) q1 (star_ok hn), by show r.len + 1 = _; rw [q2]; rfl, fun z => by cases z⟩
theorem ks_ok {f : Expr → Option E} : ∀ {kws : List Keyword} {cr : Es}, (∀ e, ∀ c, f e = some c → PE X e (TD G W P call c)) → ksOf f kws = some cr → PK X kws (TDs G W P call cr) ∧ cr.len = kws.length
  | [], cr, _, e => by
    have e : Es.nil = cr := by simpa [ksOf] using e
    subst e
    exact ⟨sk_nil, rfl⟩
  | ⟨nm, a, kp⟩ :: es, cr, hf, e => by
    simp only [ksOf, Option.bind_eq_some_iff] at e
    obtain ⟨c, h1, r, h2, e⟩ := e
    cases e
    obtain ⟨q1, q2⟩ := ks_ok hf h2
    exact ⟨sk_cons (hf a c h1) q1, by show r.len + 1 = _; rw [q2]; rfl⟩
theorem and_ok {f : Expr → Option E} {pos : Pos} : ∀ {vs : List Expr} {c : E}, (∀ e, ∀ c, f e = some c → PE X e (TD G W P call c)) → andOf f vs = some c → PE X (.BoolOp .And vs pos) (TD G W P call c)
  | [], c, _, e => by simp [andOf] at e
  | [a], c, hf, e => pe_one (hf a c e)
  | a :: b :: r, c, hf, e => by
    simp only [andOf, Option.bind_eq_some_iff] at e
    obtain ⟨c1, h1, c2, h2, e⟩ := e
    cases e
    exact sd_and (hf a c1 h1) (and_ok hf h2)
theorem or_ok {f : Expr → Option E} {pos : Pos} : ∀ {vs : List Expr} {c : E}, (∀ e, ∀ c, f e = some c → PE X e (TD G W P call c)) → orOf f vs = some c → PE X (.BoolOp .Or vs pos) (TD G W P call c)
  | [], c, _, e => by simp [orOf] at e
  | [a], c, hf, e => pe_one (hf a c e)
  | a :: b :: r, c, hf, e => by
    simp only [orOf, Option.bind_eq_some_iff] at e
    obtain ⟨c1, h1, c2, h2, e⟩ := e
    cases e
    exact sd_or (hf a c1 h1) (or_ok hf h2)
theorem andT_ok {f : Expr → Option E} {ok : Expr → Bool} {pos : Pos} : ∀ {vs : List Expr} {c : E}, (∀ e, ∀ c, f e = some c → ok e = true → PT X e (TDt G W P call c)) → andOf f vs = some c → vs.all ok = true → PW X (.BoolOp .And vs pos) (TDt G W P call c)
  | [], c, _, e, _ => by simp [andOf] at e
  | [a], c, hf, e, h => pw_and1 (hf a c e (by simpa using h))
  | a :: b :: r, c, hf, e, h => by
    simp only [andOf, Option.bind_eq_some_iff] at e
    obtain ⟨c1, h1, c2, h2, e⟩ := e
    cases e
    simp only [List.all_cons, Bool.and_eq_true] at h
    exact st_and (hf a c1 h1 h.1) (andT_ok hf h2 (by simp [h.2]))
theorem orT_ok {f : Expr → Option E} {ok : Expr → Bool} {pos : Pos} : ∀ {vs : List Expr} {c : E}, (∀ e, ∀ c, f e = some c → ok e = true → PT X e (TDt G W P call c)) → orOf f vs = some c → vs.all ok = true → PW X (.BoolOp .Or vs pos) (TDt G W P call c)
  | [], c, _, e, _ => by simp [orOf] at e
  | [a], c, hf, e, h => pw_or1 (hf a c e (by simpa using h))
  | a :: b :: r, c, hf, e, h => by
    simp only [orOf, Option.bind_eq_some_iff] at e
    obtain ⟨c1, h1, c2, h2, e⟩ := e
    cases e
    simp only [List.all_cons, Bool.and_eq_true] at h
    exact st_or (hf a c1 h1 h.1) (orT_ok hf h2 (by simp [h.2]))
theorem pairs_ok {f : Expr → Option E} {pos : Pos} : ∀ {ks : List (Option Expr)} {vs : List Expr} {cr : Es}, (∀ e, ∀ c, f e = some c → PE X e (TD G W P call c)) → pairsOf f ks vs = some cr → PPs X pos ks vs (trsOf G W P call cr) ∧ cr.len = 2 * ks.length ∧ ks.all (·.isSome) = true ∧ ks.length = vs.length
  | [], [], cr, _, e => by
    have e : Es.nil = cr := by simpa [pairsOf] using e
    subst e
    exact ⟨pps_nil, rfl, rfl, rfl⟩
  | some k :: ks, v :: vs, cr, hf, e => by
    simp only [pairsOf, Option.bind_eq_some_iff] at e
    obtain ⟨c1, h1, c2, h2, r, h3, e⟩ := e
    cases e
    obtain ⟨q1, q2, q3, q4⟩ := pairs_ok hf h3
    exact ⟨pps_cons (hf k c1 h1) (hf v c2 h2) q1, by show r.len + 1 + 1 = _; rw [q2]; simp; omega, by simpa using q3, by simp [q4]⟩
  | none :: _, _ :: _, _, _, e => by simp [pairsOf] at e
  | [], _ :: _, _, _, e => by simp [pairsOf] at e
  | _ :: _, [], _, _, e => by simp [pairsOf] at e
theorem op_ok {op : Operator} {o : Op2} (h : opOf op = some o) : OpR X (binaryOp op) (rD G o) := by
  cases op <;> simp [opOf] at h <;> subst h
  · exact od_add
  · exact od_sub
  · exact od_mul
  · exact od_md
  · exact od_pow
  · exact od_fdiv
theorem cmp_ok {op : CmpOp} {o : Cmp} (c : Ctx G X W) (h : cmpOf op = some o) : OpR X (compareOp op) (rC G o) := by
  cases op <;> simp [cmpOf] at h <;> subst h
  · exact oc_eq c
  · exact oc_ne c
  · exact oc_lt
  · exact oc_le
  · exact oc_gt
  · exact oc_ge
  · exact oc_isN
  · exact oc_isnN
  · exact oc_in c
  · exact oc_nin c
theorem cst_ok {c : Const} {d : DV} {j : Nat} {pos : Pos} (h : cstOf c = some d) : PE X (.Constant c j pos) (TD G W P call (.cst d)) := by
  cases c <;> simp [cstOf] at h <;> subst h
  · exact sd_cst pe_non fun _ _ => rfl
  · exact sd_cst pe_bl fun _ _ => rfl
  · exact sd_cst pe_int fun _ _ => rfl
  · exact sd_cst pe_str fun _ _ => rfl
theorem blt_ty {x : Str} {t : Ty} (h : bltTy x = some t) : x ∈ bltNames ∧ bootBuiltins x = some (clV G t) ∧ RelV (clW G t) (clV G t) ∧ x ≠ "__name__" ∧ (x == ("__debug__" : Str)) = false := by
  unfold bltTy at h
  repeat' split at h
  all_goals cases h
  all_goals (rename_i e; subst e; exact ⟨by decide, by (simp only [clV]; decide +kernel), rfl, by decide, by decide⟩)
theorem ty_ok {sc : Scope} {e : Expr} {t : Ty} (c : Ctx G X W) (L : Lnk G T P call k) (hs : ScOk X sc) (h : tyOf T sc e = some t) : PE X e (tC (clW G t)) ∧ tyOk P t = true := by
  cases e with
  | Name x p =>
    simp only [tyOf] at h
    split at h
    rotate_left
    · cases h
    rename_i hg
    split at h
    · rename_i ci hc
      cases h
      obtain ⟨kc, h1, _, _, h2, h3⟩ := L.cl x ci hc
      exact ⟨pe_glob (hs.gl hg) (by rw [c.hm]; exact h2) rfl h3, by simp [tyOk, h1]⟩
    · split at h
      · rename_i ci hc
        cases h
        obtain ⟨xs, h1, _, h2, h3⟩ := L.ex x ci hc
        exact ⟨pe_glob (hs.gl hg) (by rw [c.hm]; exact h2) rfl h3, by simp [tyOk, h1]⟩
      · obtain ⟨h1, h2, h3, h4, h5⟩ := blt_ty (G := G) h
        refine ⟨pe_bltn (hs.gl hg) (by rw [c.hm]; exact L.li.free x h1) h2 h3 h4 h5, ?_⟩
        unfold bltTy at h
        repeat' split at h
        all_goals first | (cases h; rfl) | cases h
  | _ => simp [tyOf] at h
theorem tys_ok {sc : Scope} (c : Ctx G X W) (L : Lnk G T P call k) (hs : ScOk X sc) : ∀ {es : List Expr} {ts : List Ty}, tysOf T sc es = some ts → PTys G X es ts ∧ ts.all (tyOk P) = true
  | [], ts, h => by
    have e : [] = ts := by simpa [tysOf] using h
    subst e
    exact ⟨ptys_nil, rfl⟩
  | e :: es, ts, h => by
    simp only [tysOf, Option.bind_eq_some_iff, Option.map_eq_some_iff] at h
    obtain ⟨t, h1, r, h2, h⟩ := h
    subst h
    obtain ⟨q1, q2⟩ := ty_ok c L hs h1
    obtain ⟨q3, q4⟩ := tys_ok c L hs h2
    refine ⟨ptys_cons q1 q3 ?_, by simp [q2, q4]⟩
    cases e with
    | Name x p => rfl
    | _ => simp [tyOf] at h1
theorem prim_ok {sc : Scope} {x : Str} {args : List Expr} {p : Prim} {cr : Es} {pp pos : Pos} (c : Ctx G X W) (L : Lnk G T P call k) (hg : Gl X x) (h : primOf x args.length = some p) (ha : PA X args (TDs G W P call cr)) (hst : noStar args = true) : PE X (.Call (.Name x pp) args [] pos) (TD G W P call (.prim p cr)) := by
  have go : ∀ {a : Expr} {r : List Expr} {x : Str} {id : String} {p : Prim}, args = a :: r → CallR X (.builtin id) (rP G p) → Gl X x → x ∈ bltNames → bootBuiltins x = some (.builtin id) → x ≠ "__name__" → (x == ("__debug__" : Str)) = false → PE X (.Call (.Name x pp) args [] pos) (TD G W P call (.prim p cr)) := by
    intro a r x id p e hc hg hb hv hn hd
    subst e
    exact sd_prim c hc hg (L.li.free x hb) hv ha hn hd (star_ok hst) (star_any (noStar_tl hst))
  have goT : ∀ {a : Expr} {r : List Expr} {x : Str} {id : String} {p : Prim}, args = a :: r → CallR X (.type id) (rP G p) → Gl X x → x ∈ bltNames → bootBuiltins x = some (.type id) → x ≠ "__name__" → (x == ("__debug__" : Str)) = false → PE X (.Call (.Name x pp) args [] pos) (TD G W P call (.prim p cr)) := by
    intro a r x id p e hc hg hb hv hn hd
    subst e
    exact sd_primT c hc hg (L.li.free x hb) hv ha hn hd (star_ok hst) (star_any (noStar_tl hst))
  cases args with
  | nil => simp [primOf] at h
  | cons a r =>
    unfold primOf at h
    repeat' split at h
    all_goals cases h
    all_goals (rename_i e; obtain ⟨e, _⟩ := e; subst e)
    · exact go rfl (cp_len c) hg (by decide) (by decide +kernel) (by decide) (by decide)
    · exact go rfl cp_abs hg (by decide) (by decide +kernel) (by decide) (by decide)
    · exact go rfl (cp_min2 c.calm) hg (by decide) (by decide +kernel) (by decide) (by decide)
    · exact go rfl (cp_max2 c.calm) hg (by decide) (by decide +kernel) (by decide) (by decide)
    · exact go rfl (cp_all c) hg (by decide) (by decide +kernel) (by decide) (by decide)
    · exact go rfl (cp_any c) hg (by decide) (by decide +kernel) (by decide) (by decide)
    · exact goT rfl cp_int hg (by decide) (by decide +kernel) (by decide) (by decide)
    · exact go rfl (cp_sorted c) hg (by decide) (by decide +kernel) (by decide) (by decide)
    · exact goT rfl (cp_list c) hg (by decide) (by decide +kernel) (by decide) (by decide)
    · exact goT rfl (cp_tuple c) hg (by decide) (by decide +kernel) (by decide) (by decide)
    · exact go rfl (cp_repr c L.li.sm) hg (by decide) (by decide +kernel) (by decide) (by decide)
end
end WS
set_option maxRecDepth 100000
set_option maxHeartbeats 4000000
/-! D28: the translation of expressions is sound: the induction. -/
namespace WS
open PySem PySem.Spec PyProof.Rows L2
section
variable {G : Lk} {P : Pg} {call : Nat → List DV → M DV} {T : Tb} {N : List Str} {k : Nat}
/-- a context in which the translation is right -/
structure Sur (G : Lk) (N : List Str) (k : Nat) (ll : Bool) (sc : Scope) (X : Cx) (W : WX) : Prop where
  c : Ctx G X W
  r : Room (k + 1) X.A
  n : X.N = N
  s : ScOk X sc
  l : ll = true → Room (k + 3) X.A ∧ LamF G X.env.qual X.env.code
def SndE (G : Lk) (P : Pg) (call : Nat → List DV → M DV) (T : Tb) (N : List Str) (k n : Nat) : Prop := ∀ (ll : Bool) (sc : Scope) (e : Expr) (ce : E) (X : Cx) (W : WX), trE T N ll n sc e = some ce → Sur G N k ll sc X W → PE X e (TD G W P call ce) ∧ (tOk n e = true → PT X e (TDt G W P call ce))
theorem Sur.blk {ll : Bool} {sc scope : Scope} {X : Cx} {W : WX} (u : Sur G N k ll sc X W) (s : Shared) (H : Hp) (C : Addr) (cl : List (Str × Addr)) (fp : List Addr) : Sur G N k ll scope (X.blk s H scope (compEnvC scope cl C X.env) fp) WF :=
  ⟨u.c.blk _ _ _ _ _, u.r, u.n, sc_blk, fun h => u.l h⟩
theorem kws_ok {kws : List Keyword} (h : kwsOk kws = true) : (kws.filterMap (·.arg)).length = kws.length := by
  induction kws with
  | nil => rfl
  | cons a r ih =>
    simp only [kwsOk, List.all_cons, Bool.and_eq_true] at h
    obtain ⟨x, hx⟩ := Option.isSome_iff_exists.mp h.1
    rw [List.filterMap_cons, hx]
    simp [ih h.2]
theorem sr_ok {ll : Bool} {n : Nat} {sc : Scope} {X : Cx} {W : WX} {tg e : Expr} {tup : Bool} {cs : Sr} (L : Lnk G T P call k) (u : Sur G N k ll sc X W) (hf : ∀ e c, trE T N ll n sc e = some c → PE X e (TD G W P call c)) (ht : tup = true → ∃ es kk p, tg = .Tuple es kk p)
    (h : srOf (trE T N ll n sc) sc tup e = some cs) : PI X tg e (TDi G W P call cs) := by
  have val : ∀ {e : Expr} {cs : Sr}, (trE T N ll n sc e).map Sr.val = some cs → PI X tg e (TDi G W P call cs) := fun {e cs} h => by
    obtain ⟨c, h1, h2⟩ := Option.map_eq_some_iff.mp h
    subst h2
    exact si_val u.c (hf _ _ h1)
  unfold srOf at h
  split at h
  · rename_i x p args pos
    split at h
    · rename_i hx
      subst hx
      split at h
      rotate_left
      · cases h
      rename_i hg
      split at h
      · rename_i a
        obtain ⟨c, h1, h2⟩ := Option.map_eq_some_iff.mp h
        subst h2
        exact si_range u.c (u.s.gl hg.1) (L.li.free _ (by decide)) (hf _ _ h1) hg.2
      · rename_i a b
        simp only [Option.bind_eq_some_iff, Option.map_eq_some_iff] at h
        obtain ⟨c1, h1, c2, h2, h⟩ := h
        subst h
        exact si_range2 u.c (u.s.gl hg.1) (L.li.free _ (by decide)) (hf _ _ h1) (hf _ _ h2) hg.2
      · cases h
    · split at h
      · rename_i hx
        subst hx
        split at h
        · rename_i a
          split at h
          rotate_left
          · cases h
          rename_i hg
          obtain ⟨es, kk, tp, et⟩ := ht hg.1
          subst et
          obtain ⟨c, h1, h2⟩ := Option.map_eq_some_iff.mp h
          subst h2
          exact si_enum u.c (u.s.gl hg.2.1) (L.li.free _ (by decide)) (hf _ _ h1) hg.2.2
        · cases h
      · exact val h
  · split at h
    · exact val h
    · cases h
theorem comp_ok {ll : Bool} {n : Nat} {sc scope : Scope} {X : Cx} {W : WX} {elt tg iter : Expr} {ifs : List Expr} {ce : E} (L : Lnk G T P call k) (u : Sur G N k ll sc X W) (IH : SndE G P call T N k n) (h : compOf N (trE T N ll n) (tOk n) sc elt tg iter ifs scope = some ce) :
    ∃ (t : Tg) (c1 : E) (cs : Sr) (c2 : E) (g : TG) (own : List (Str × Nat)), ce = .comp t c1 cs c2 ∧ PI X tg iter (TDi G W P call cs) ∧ BlkOk X.N X.env.scope scope own ∧ TgOk G t g (own.map (·.2)) ∧ (∀ (s : Shared) (H : Hp) (C : Addr) (cl : List (Str × Addr)) (fp : List Addr), PG (X.blk s H scope (compEnvC scope cl C X.env) fp) tg g) ∧
      (∀ (s : Shared) (H : Hp) (C : Addr) (cl : List (Str × Addr)) (fp : List Addr), PTs (X.blk s H scope (compEnvC scope cl C X.env) fp) ifs (TDt G WF P call c2)) ∧ (∀ (s : Shared) (H : Hp) (C : Addr) (cl : List (Str × Addr)) (fp : List Addr), PE (X.blk s H scope (compEnvC scope cl C X.env) fp) elt (TD G WF P call c1)) ∧ ∀ x, foldedSetIterable iter X.env x = pure x := by
  unfold compOf at h
  obtain ⟨t, ht, h⟩ := Option.bind_eq_some_iff.mp h
  split at h
  rotate_left
  · cases h
  rename_i hc
  obtain ⟨hb, hown, hset⟩ := hc
  simp only [Option.bind_eq_some_iff] at h
  obtain ⟨cs, hcs, c1, hc1, h⟩ := h
  have tgs : ∃ g, TgOk G t.1 g (t.2.2.map (·.2)) ∧ ∀ (s : Shared) (H : Hp) (C : Addr) (cl : List (Str × Addr)) (fp : List Addr), PG (X.blk s H scope (compEnvC scope cl C X.env) fp) tg g := by
    rw [hown]
    unfold tgOf at ht
    split at ht
    · rename_i x p
      obtain ⟨i, h1, h2⟩ := Option.map_eq_some_iff.mp ht
      subst h2
      obtain ⟨q1, q2⟩ := slot_ok h1
      exact ⟨gName i, tg_one, fun s H C cl fp => sg_one u.c.nd (sc_blk (X := X) (scope := scope)) (by show X.N[i]? = _; rw [u.n]; exact q1) q2⟩
    · rename_i ts kk p
      obtain ⟨is, h1, h2⟩ := Option.map_eq_some_iff.mp ht
      subst h2
      refine ⟨gTup G.K is.length (gAll is), tg_many rfl, fun s H C cl fp => ?_⟩
      have hN : slotsOf (X.blk s H scope (compEnvC scope cl C X.env) fp).N scope ts = some is := by show slotsOf X.N _ _ = _; rw [u.n]; exact h1
      obtain ⟨a, b, d⟩ := sg_all (X := X.blk s H scope (compEnvC scope cl C X.env) fp) u.c.nd sc_blk hN
      have q := pg_tup (X := X.blk s H scope (compEnvC scope cl C X.env) fp) (k := kk) (pos := p) u.c.calm a b d
      rw [show (X.blk s H scope (compEnvC scope cl C X.env) fp).K = G.K from u.c.hK] at q
      exact q
    · cases ht
  obtain ⟨g, hg1, hg2⟩ := tgs
  have hi : PI X tg iter (TDi G W P call cs) := sr_ok L u (fun e c he => (IH ll sc e c X W he u).1) (fun z => by
    cases tg <;> first | exact ⟨_, _, _, rfl⟩ | cases z) hcs
  have he : ∀ (s : Shared) (H : Hp) (C : Addr) (cl : List (Str × Addr)) (fp : List Addr), PE (X.blk s H scope (compEnvC scope cl C X.env) fp) elt (TD G WF P call c1) := fun s H C cl fp => (IH ll scope elt c1 _ _ hc1 (u.blk s H C cl fp)).1
  have hbk : BlkOk X.N X.env.scope scope t.2.2 := u.s.blkOk (by rw [u.n]; exact blkOk_by hb)
  cases ifs with
  | nil =>
    cases h
    exact ⟨t.1, c1, cs, _, g, t.2.2, rfl, hi, hbk, hg1, hg2, fun s H C cl fp => st_yes, he, folded_ok hset⟩
  | cons c r =>
    cases r with
    | cons c' r' => cases h
    | nil =>
      simp only at h
      split at h
      · rename_i hok
        obtain ⟨c2, h2, h3⟩ := Option.map_eq_some_iff.mp h
        subst h3
        exact ⟨t.1, c1, cs, c2, g, t.2.2, rfl, hi, hbk, hg1, hg2, fun s H C cl fp => pts_one ((IH ll scope c c2 _ _ h2 (u.blk s H C cl fp)).2 hok), he, folded_ok hset⟩
      · cases h
theorem dcomp_ok {ll : Bool} {n : Nat} {sc scope : Scope} {X : Cx} {W : WX} {kx vx tg iter : Expr} {ifs : List Expr} {ce : E} (L : Lnk G T P call k) (u : Sur G N k ll sc X W) (IH : SndE G P call T N k n) (h : dcompOf N (trE T N ll n) (tOk n) sc kx vx tg iter ifs scope = some ce) :
    ∃ (t : Tg) (c1 c0 : E) (cs : Sr) (c2 : E) (g : TG) (own : List (Str × Nat)), ce = .dcomp t c1 c0 cs c2 ∧ PI X tg iter (TDi G W P call cs) ∧ BlkOk X.N X.env.scope scope own ∧ TgOk G t g (own.map (·.2)) ∧ (∀ (s : Shared) (H : Hp) (C : Addr) (cl : List (Str × Addr)) (fp : List Addr), PG (X.blk s H scope (compEnvC scope cl C X.env) fp) tg g) ∧
      (∀ (s : Shared) (H : Hp) (C : Addr) (cl : List (Str × Addr)) (fp : List Addr), PTs (X.blk s H scope (compEnvC scope cl C X.env) fp) ifs (TDt G WF P call c2)) ∧ (∀ (s : Shared) (H : Hp) (C : Addr) (cl : List (Str × Addr)) (fp : List Addr), PE (X.blk s H scope (compEnvC scope cl C X.env) fp) kx (TD G WF P call c1)) ∧ (∀ (s : Shared) (H : Hp) (C : Addr) (cl : List (Str × Addr)) (fp : List Addr), PE (X.blk s H scope (compEnvC scope cl C X.env) fp) vx (TD G WF P call c0)) ∧ ∀ x, foldedSetIterable iter X.env x = pure x := by
  unfold dcompOf at h
  obtain ⟨t, ht, h⟩ := Option.bind_eq_some_iff.mp h
  split at h
  rotate_left
  · cases h
  rename_i hc
  obtain ⟨hb, hown, hset⟩ := hc
  simp only [Option.bind_eq_some_iff] at h
  obtain ⟨cs, hcs, c1, hc1, c0, hc0, h⟩ := h
  have tgs : ∃ g, TgOk G t.1 g (t.2.2.map (·.2)) ∧ ∀ (s : Shared) (H : Hp) (C : Addr) (cl : List (Str × Addr)) (fp : List Addr), PG (X.blk s H scope (compEnvC scope cl C X.env) fp) tg g := by
    rw [hown]
    unfold tgOf at ht
    split at ht
    · rename_i x p
      obtain ⟨i, h1, h2⟩ := Option.map_eq_some_iff.mp ht
      subst h2
      obtain ⟨q1, q2⟩ := slot_ok h1
      exact ⟨gName i, tg_one, fun s H C cl fp => sg_one u.c.nd (sc_blk (X := X) (scope := scope)) (by show X.N[i]? = _; rw [u.n]; exact q1) q2⟩
    · rename_i ts kk p
      obtain ⟨is, h1, h2⟩ := Option.map_eq_some_iff.mp ht
      subst h2
      refine ⟨gTup G.K is.length (gAll is), tg_many rfl, fun s H C cl fp => ?_⟩
      have hN : slotsOf (X.blk s H scope (compEnvC scope cl C X.env) fp).N scope ts = some is := by show slotsOf X.N _ _ = _; rw [u.n]; exact h1
      obtain ⟨a, b, d⟩ := sg_all (X := X.blk s H scope (compEnvC scope cl C X.env) fp) u.c.nd sc_blk hN
      have q := pg_tup (X := X.blk s H scope (compEnvC scope cl C X.env) fp) (k := kk) (pos := p) u.c.calm a b d
      rw [show (X.blk s H scope (compEnvC scope cl C X.env) fp).K = G.K from u.c.hK] at q
      exact q
    · cases ht
  obtain ⟨g, hg1, hg2⟩ := tgs
  have hi : PI X tg iter (TDi G W P call cs) := sr_ok L u (fun e c he => (IH ll sc e c X W he u).1) (fun z => by
    cases tg <;> first | exact ⟨_, _, _, rfl⟩ | cases z) hcs
  have he : ∀ (s : Shared) (H : Hp) (C : Addr) (cl : List (Str × Addr)) (fp : List Addr), PE (X.blk s H scope (compEnvC scope cl C X.env) fp) kx (TD G WF P call c1) := fun s H C cl fp => (IH ll scope kx c1 _ _ hc1 (u.blk s H C cl fp)).1
  have he0 : ∀ (s : Shared) (H : Hp) (C : Addr) (cl : List (Str × Addr)) (fp : List Addr), PE (X.blk s H scope (compEnvC scope cl C X.env) fp) vx (TD G WF P call c0) := fun s H C cl fp => (IH ll scope vx c0 _ _ hc0 (u.blk s H C cl fp)).1
  have hbk : BlkOk X.N X.env.scope scope t.2.2 := u.s.blkOk (by rw [u.n]; exact blkOk_by hb)
  cases ifs with
  | nil =>
    cases h
    exact ⟨t.1, c1, c0, cs, _, g, t.2.2, rfl, hi, hbk, hg1, hg2, fun s H C cl fp => st_yes, he, he0, folded_ok hset⟩
  | cons c r =>
    cases r with
    | cons c' r' => cases h
    | nil =>
      simp only at h
      split at h
      · rename_i hok
        obtain ⟨c2, h2, h3⟩ := Option.map_eq_some_iff.mp h
        subst h3
        exact ⟨t.1, c1, c0, cs, c2, g, t.2.2, rfl, hi, hbk, hg1, hg2, fun s H C cl fp => pts_one ((IH ll scope c c2 _ _ h2 (u.blk s H C cl fp)).2 hok), he, he0, folded_ok hset⟩
      · cases h
end
end WS
set_option maxRecDepth 100000
set_option maxHeartbeats 4000000
/-! D29: the translation of expressions is sound. -/
namespace WS
open PySem PySem.Spec PyProof.Rows L2
section
variable {G : Lk} {P : Pg} {call : Nat → List DV → M DV} {T : Tb} {N : List Str} {k : Nat}
theorem lam_bind {body : Expr} {scope : Scope} : ∀ (q : Str) (cl : List (Str × Addr)) (pm cv ctv : Value), bindArgs (PySem.W.kla_fn "<lambda>" q ⟨[], [], none, [], [], none, []⟩ body scope cl pm cv ctv) ⟨[], []⟩ = pure [] := fun _ _ _ _ _ => rfl
theorem call_ok {ll : Bool} {n : Nat} {sc : Scope} {X : Cx} {W : WX} {x : Str} {args : List Expr} {kws : List Keyword} {ce : E} {pp pos : Pos} (L : Lnk G T P call k) (u : Sur G N k ll sc X W) (IH : SndE G P call T N k n)
    (h : callOf T (trE T N ll n sc) (fun scope body => if ll then trE T N false n scope body else none) sc x args kws = some ce) : PE X (.Call (.Name x pp) args kws pos) (TD G W P call ce) := by
  have hf : ∀ e c, trE T N ll n sc e = some c → PE X e (TD G W P call c) := fun e c he => (IH ll sc e c X W he u).1
  unfold callOf at h
  split at h
  rotate_left
  · cases h
  rename_i hc
  obtain ⟨hg, hst, hkw⟩ := hc
  have hgl := u.s.gl hg
  split at h
  · rename_i g hfn
    obtain ⟨h1, h2, h3, h4⟩ := L.fn x g hfn
    simp only [Option.bind_eq_some_iff] at h
    obtain ⟨p, hp, cr, hcr, ck, hck, e⟩ := h
    cases e
    obtain ⟨a1, a2, a3⟩ := es_ok (fun e _ c he => hf e c he) hcr hst
    obtain ⟨b1, b2⟩ := ks_ok hf hck
    obtain ⟨q1, q2⟩ := L.pt _ _ _ _ hp
    exact sd_callK u.c h4 (u.r.mono (Nat.le_succ k)) hgl h1 h2 q1 q2 a1 b1 hkw rfl a2 (by rw [b2, kws_ok hkw]) hst a3 h3
  · split at h
    · rename_i g hcl
      obtain ⟨kc, h1, h2, h3, h4, h5⟩ := L.cl x g hcl
      simp only [Option.bind_eq_some_iff] at h
      obtain ⟨p, hp, cr, hcr, ck, hck, e⟩ := h
      cases e
      have hfa : ∀ e c, argOf T (trE T N ll n sc) e = some c → PE X e (TD G W P call c) := by
        intro e c he
        unfold argOf at he
        split at he
        · split at he
          · obtain ⟨c', q1, q2⟩ := Option.map_eq_some_iff.mp he
            subst q2
            exact sd_emb (hf _ _ q1)
          · exact hf _ _ he
        · exact hf _ _ he
      obtain ⟨a1, a2, a3⟩ := es_ok (fun e _ c he => hfa e c he) hcr hst
      obtain ⟨b1, b2⟩ := ks_ok hfa hck
      obtain ⟨q1, q2⟩ := L.pi _ _ _ _ hp kc h1
      exact sd_mkK u.c h1 h2 h3 u.r hgl h4 q1 q2 a1 b1 hkw rfl a2 (by rw [b2, kws_ok hkw]) hst a3 h5
    · split at h
      · rename_i cx hex
        obtain ⟨xs, _, _, hmg, hdb⟩ := L.ex x cx hex
        split at h
        · rename_i hxf
          simp only [Option.bind_eq_some_iff] at h
          obtain ⟨p, hp, cr, hcr, ck, hck, e⟩ := h
          cases e
          obtain ⟨a1, a2, a3⟩ := es_ok (fun e _ c he => hf e c he) hcr hst
          obtain ⟨b1, b2⟩ := ks_ok hf hck
          obtain ⟨xs', fI, fd, ps, y1, y2, y3, y4, y5, y6, y7, y8⟩ := L.exk x cx _ _ p hex hxf.1 hp
          exact sd_mkX u.c y1 y2 y3 y4 y5 y6 u.r hgl hmg y7 y8 a1 b1 hkw rfl a2 (by rw [b2, kws_ok hkw]) hxf.2 hst a3 hdb
        · split at h
          · rename_i hxz
            split at h
            · rename_i a
              obtain ⟨ca, h1, h2⟩ := Option.map_eq_some_iff.mp h
              subst h2
              obtain ⟨y1, y2, y3⟩ := L.exz x cx hex hxz
              exact sd_mkX0 u.c y1 y2 y3 hgl hmg (hf _ _ h1) hst hdb
            · cases h
          · cases h
      split at h
      · rename_i g hct
        obtain ⟨ki, C⟩ := L.cat x g hct
        split at h
        · rename_i body scope lp
          split at h
          · rename_i hlam
            obtain ⟨c1, h1, h2⟩ := Option.map_eq_some_iff.mp h
            subst h2
            cases ll with
            | false => cases h1
            | true =>
              obtain ⟨r3, LF⟩ := u.l rfl
              have h1 : trE T N false n scope body = some c1 := h1
              refine sd_lam (k := k + 1) u.c C hgl LF r3 (u.s.lamS (LamX.lamS_by hlam)) (fun _ => rfl) lam_bind fun X' W' c' r' hN hsc => ?_
              refine (IH false scope body c1 X' W' h1 ⟨c', r', hN.trans u.n, ?_, fun z => by cases z⟩).1
              have lam := LamX.lamS_by hlam
              refine ⟨fun y hy => by rw [hsc]; exact hy, fun y hy => by rw [hsc]; exact hy, fun y hy => .inr (by rw [hsc]; exact hy), fun y hy => by rw [hsc]; exact hy, fun y hy => ?_⟩
              exact absurd rfl (lam.own (y, .cell) (PySem.mem_of_lookup hy)).2
          · cases h
        · cases h
      · split at h
        rotate_left
        · cases h
        split at h
        · rename_i a b
          split at h
          · rename_i hx
            subst hx
            obtain ⟨ca, h1, h⟩ := Option.bind_eq_some_iff.mp h
            split at h
            · rename_i es kk tp
              simp only [Option.bind_eq_some_iff] at h
              obtain ⟨ts, h2, h⟩ := h
              split at h
              · rename_i hl
                cases h
                obtain ⟨q1, q2⟩ := tys_ok u.c L u.s h2
                exact sd_isiT L.li u.c hgl (L.li.free _ (by decide)) q2 hl (hf _ _ h1) q1 (by cases a <;> first | rfl | (simp [noStar] at hst))
              · cases h
            · obtain ⟨t, h2, h3⟩ := Option.map_eq_some_iff.mp h
              subst h3
              obtain ⟨q1, q2⟩ := ty_ok u.c L u.s h2
              exact sd_isi1 L.li u.c hgl (L.li.free _ (by decide)) q2 (hf _ _ h1) q1 hst
          · simp only [Option.bind_eq_some_iff, Option.map_eq_some_iff] at h
            obtain ⟨p, hp, cr, hcr, e⟩ := h
            subst e
            exact prim_ok (sc := sc) u.c L hgl hp (es_ok (fun e _ c he => hf e c he) hcr hst).1 hst
        · simp only [Option.bind_eq_some_iff, Option.map_eq_some_iff] at h
          obtain ⟨p, hp, cr, hcr, e⟩ := h
          subst e
          exact prim_ok (sc := sc) u.c L hgl hp (es_ok (fun e _ c he => hf e c he) hcr hst).1 hst
end
end WS
set_option maxRecDepth 100000
set_option maxHeartbeats 4000000
/-! D30: the translation of expressions is sound: the theorem. -/
namespace WS
open PySem PySem.Spec PyProof.Rows L2
section
variable {G : Lk} {P : Pg} {call : Nat → List DV → M DV} {T : Tb} {N : List Str} {k : Nat}
theorem both {X : Cx} {W : WX} {e : Expr} {ce : E} {n : Nat} (hp : plainTest e = true) (h : PE X e (TD G W P call ce)) : PE X e (TD G W P call ce) ∧ (tOk n e = true → PT X e (TDt G W P call ce)) := ⟨h, fun _ => st_val h (test_ok hp)⟩
theorem in_op {op : CmpOp} {ng : Bool} (h : inOf op = some ng) : op = if ng then .NotIn else .In := by
  cases op <;> first | (cases h; rfl) | cases h
theorem look_memA {β : Type} : ∀ {l : List (Nat × β)} {a : Nat} {b : β}, l.lookup a = some b → (a, b) ∈ l
  | [], _, _, h => by cases h
  | (c, d) :: r, a, b, h => by
    simp only [List.lookup] at h
    split at h
    · rename_i e
      cases h
      rw [beq_iff_eq.mp e]
      exact List.mem_cons_self
    · exact List.mem_cons_of_mem _ (look_memA h)
theorem sndE (L : Lnk G T P call k) : ∀ n, SndE G P call T N k n
  | 0 => fun ll sc e ce X W h _ => by cases h
  | n + 1 => by
    have IH := sndE L n
    intro ll sc e ce X W h u
    have hf : ∀ e c, trE T N ll n sc e = some c → PE X e (TD G W P call c) := fun e c he => (IH ll sc e c X W he u).1
    have ht : ∀ e c, trE T N ll n sc e = some c → tOk n e = true → PT X e (TDt G W P call c) := fun e c he => (IH ll sc e c X W he u).2
    unfold trE at h
    split at h
    · -- a name
      rename_i x p
      split at h
      · cases h
      rename_i hb
      have hb : badName x = false := by simpa using hb
      simp only [badName, Bool.or_eq_false_iff] at hb
      have var : ∀ {k : NameKind}, sc.names.lookup x = some k → (k = .local ∨ k = .cell ∨ k = .free) → (N.idxOf? x).map E.var = some ce → PE X (.Name x p) (TD G W P call ce) := by
        intro k hk hk2 h
        obtain ⟨i, h1, h2⟩ := Option.map_eq_some_iff.mp h
        subst h2
        exact sd_var (by rw [u.n]; exact idx_get h1) (u.s.vis hk hk2) hb.1 hb.2
      split at h
      · rename_i hk; exact both rfl (var hk (.inl rfl) h)
      · rename_i hk; exact both rfl (var hk (.inr (.inl rfl)) h)
      · rename_i hk; exact both rfl (var hk (.inr (.inr rfl)) h)
      · rename_i hk
        obtain ⟨d, h1, h2⟩ := Option.map_eq_some_iff.mp h
        subst h2
        obtain ⟨v, w, q1, q2, q3, q4⟩ := L.gl x d h1
        exact both rfl (sd_glo (pe_glob (u.s.gl hk) (by rw [u.c.hm]; exact q1) q2 q4) q3)
      · cases h
    · rename_i c j p
      obtain ⟨d, h1, h2⟩ := Option.map_eq_some_iff.mp h
      subst h2
      exact both rfl (cst_ok h1)
    · simp only [Option.bind_eq_some_iff] at h
      obtain ⟨o, h1, ca, h2, cb, h3, h⟩ := h
      cases h
      exact both rfl (sd_op2 (op_ok h1) (hf _ _ h2) (hf _ _ h3))
    · obtain ⟨ca, h1, h2⟩ := Option.map_eq_some_iff.mp h
      subst h2
      exact ⟨sd_not (hf _ _ h1), fun t => st_not (ht _ _ h1 t)⟩
    · obtain ⟨ca, h1, h2⟩ := Option.map_eq_some_iff.mp h
      subst h2
      exact ⟨sd_neg (hf _ _ h1), fun t => by cases t⟩
    · split at h
      · rename_i hm
        split at h
        · simp only [Option.bind_eq_some_iff] at h
          obtain ⟨ng, h1, ca, h2, cb, h3, h⟩ := h
          cases h
          have ho := in_op h1
          exact ⟨sd_hasI u.c L.cf (u.r.mono (Nat.le_succ k)) ho (hf _ _ h2) (hf _ _ h3) hm, fun _ => st_hasI u.c L.cf (u.r.mono (Nat.le_succ k)) ho (hf _ _ h2) (hf _ _ h3) hm⟩
        simp only [Option.bind_eq_some_iff] at h
        obtain ⟨o, h1, ca, h2, cb, h3, h⟩ := h
        cases h
        exact ⟨sd_cmp (cmp_ok u.c h1) (hf _ _ h2) (hf _ _ h3) hm, fun _ => st_cmp (cmp_ok u.c h1) (hf _ _ h2) (hf _ _ h3) hm⟩
      · cases h
    · split at h
      · rename_i hm
        simp only [Option.bind_eq_some_iff] at h
        obtain ⟨o, h1, o', h1', ca, h2, cb, h3, cc, h4, h⟩ := h
        cases h
        exact ⟨sd_chn (cmp_ok u.c h1) (cmp_ok u.c h1') (hf _ _ h2) (hf _ _ h3) (hf _ _ h4) hm, fun _ => st_chn (cmp_ok u.c h1) (cmp_ok u.c h1') (hf _ _ h2) (hf _ _ h3) (hf _ _ h4) hm⟩
      · cases h
    · exact ⟨and_ok hf h, fun t => (andT_ok ht h t).pt⟩
    · exact ⟨or_ok hf h, fun t => (orT_ok ht h t).pt⟩
    · split at h
      · rename_i hc
        simp only [Option.bind_eq_some_iff] at h
        obtain ⟨cc, h1, ca, h2, cb, h3, h⟩ := h
        cases h
        exact ⟨sd_ite (ht _ _ h1 hc) (hf _ _ h2) (hf _ _ h3), fun t => by cases t⟩
      · cases h
    · split at h
      · rename_i hl
        obtain ⟨cr, h1, h2⟩ := Option.map_eq_some_iff.mp h
        subst h2
        obtain ⟨a1, a2, _⟩ := es_ok (fun e _ c he => hf e c he) h1 hl.2
        exact both rfl (sd_tup a1 (by rw [a2]; exact hl.1))
      · cases h
    · split at h
      · rename_i hl
        obtain ⟨cr, h1, h2⟩ := Option.map_eq_some_iff.mp h
        subst h2
        obtain ⟨a1, a2, _⟩ := es_ok (fun e _ c he => hf e c he) h1 hl.2
        exact both rfl (sd_lst a1 (by rw [a2]; exact hl.1))
      · cases h
    · rename_i ks vs p
      split at h
      · rename_i hl
        obtain ⟨cr, h1, h2⟩ := Option.map_eq_some_iff.mp h
        subst h2
        obtain ⟨a1, a2, a3, a4⟩ := pairs_ok (pos := p) hf h1
        refine both rfl ?_
        cases ks with
        | nil =>
          cases vs with
          | nil =>
            have e : Es.nil = cr := by simpa [pairsOf] using h1
            subst e
            exact PE.imp pe_dnewK fun σ H Q h => dct0_of h
          | cons v vs => simp at a4
        | cons k1 ks => exact PE.imp (pe_disp a1 a3 a4 (by simp) hl) fun σ H Q h => dct_of (by omega) ⟨_, a2⟩ h
      · cases h
    · obtain ⟨ca, h1, h2⟩ := Option.map_eq_some_iff.mp h
      subst h2
      exact both rfl (sd_rev u.c (hf _ _ h1))
    · rename_i a lo hi p2 p
      simp only [Option.bind_eq_some_iff] at h
      obtain ⟨ca, h1, cl, h2, ch, h3, h⟩ := h
      cases h
      refine both rfl (sd_slc u.c (hf _ _ h1) ?_ ?_)
      · cases lo with
        | none => cases h2; exact rfl
        | some l =>
          obtain ⟨c, q1, q2⟩ := Option.map_eq_some_iff.mp h2
          subst q2
          exact ⟨l, rfl, hf _ _ q1⟩
      · cases hi with
        | none => cases h3; exact rfl
        | some l =>
          obtain ⟨c, q1, q2⟩ := Option.map_eq_some_iff.mp h3
          subst q2
          exact ⟨l, rfl, hf _ _ q1⟩
    · split at h
      · rename_i hs
        simp only [Option.bind_eq_some_iff] at h
        obtain ⟨ca, h1, ci, h2, h⟩ := h
        cases h
        refine both rfl ?_
        split
        · exact sd_itemI u.c L.cf u.r (hf _ _ h1) (hf _ _ h2) hs
        · exact sd_sub u.c (hf _ _ h1) (hf _ _ h2) (plain_ix hs)
      · cases h
    · rename_i a x p
      split at h
      · rename_i hs
        obtain ⟨ca, h1, h2⟩ := Option.map_eq_some_iff.mp h
        subst h2
        exact both rfl (sd_attr u.c L.cf (L.fl x (by simpa using hs.2)) u.r (hf _ _ h1) (base_ok hs.1))
      · cases h
    · rename_i o m ap args kws cp
      split at h
      · rename_i hs
        obtain ⟨hb, hl⟩ := hs
        split at h
        · rename_i hm
          subst hm
          split at h
          · obtain ⟨ca, h1, h2⟩ := Option.map_eq_some_iff.mp h
            subst h2
            exact both rfl (sd_popL u.c (hf _ _ h1) hb hl)
          · obtain ⟨ca, h1, h2⟩ := Option.map_eq_some_iff.mp h
            subst h2
            exact both rfl (sd_pop0 u.c (hf _ _ h1) hb hl)
          · split at h
            · rename_i hst
              simp only [Option.bind_eq_some_iff, Option.map_eq_some_iff] at h
              obtain ⟨co, h1, ci, h2, h⟩ := h
              subst h
              exact both rfl (sd_popI u.c (hf _ _ h1) (hf _ _ h2) hb hst hl)
            · cases h
          · cases h
        · split at h
          · rename_i hm
            subst hm
            split at h
            · split at h
              · rename_i hst
                obtain ⟨ca, h1, h2⟩ := Option.map_eq_some_iff.mp h
                subst h2
                exact both rfl (sd_join u.c (hf _ _ h1) hst hl)
              · cases h
            · cases h
          · split at h
            · rename_i hc
              obtain ⟨hst, hkw, hfew⟩ := hc
              simp only [Option.bind_eq_some_iff] at h
              obtain ⟨co, h1, cr, hcr, ck, hck, h⟩ := h
              split at h
              · cases h
              · cases h
                obtain ⟨a1, a2, a3⟩ := es_ok (fun e _ c he => hf e c he) hcr hst
                obtain ⟨b1, b2⟩ := ks_ok hf hck
                refine both rfl (sd_meth u.c L.cf (u.r.mono (Nat.le_succ k)) (fun ci q kc f hq hc hm => ?_) (hf _ _ h1) a1 b1 hkw rfl a2 (by rw [b2, kws_ok hkw]) hst a3 hb hl hfew)
                have hmem := look_memA hq
                obtain ⟨p, hp, e⟩ := List.mem_filterMap.mp hmem
                obtain ⟨q', e1, e2⟩ := Option.map_eq_some_iff.mp e
                cases e2
                have e3 := L.mt m p.1 p.2 kc f hp hc hm
                rw [← e3]
                exact L.pm _ _ _ _ e1
            · cases h
      · cases h
    · exact both rfl (call_ok L u IH h)
    · rename_i elt tg iter ifs scope p
      obtain ⟨t, c1, cs, c2, g, own, ec, hi, hb, hgt, hg, ht, he, hs⟩ := comp_ok L u IH h
      subst ec
      exact both rfl (sd_comp u.c hi hb hg hgt ht he hs)
    · rename_i kx vx tg iter ifs scope p
      obtain ⟨t, c1, c0, cs, c2, g, own, ec, hi, hb, hgt, hg, ht, he, he0, hs⟩ := dcomp_ok L u IH h
      subst ec
      exact both rfl (sd_dcomp u.c hi hb hg hgt ht he he0 hs)
    · cases h
end
end WS
set_option maxRecDepth 100000
set_option maxHeartbeats 4000000
/-! D31: statements: the translation. -/
namespace WS
open PySem
section
variable (T : Tb) (N : List Str) (mu : List Str) (kr ll : Bool)
/-- the value of a name, of a return: b: as a new cell, where it is fresh -/
def trV (b : Bool) (n : Nat) (sc : Scope) (e : Expr) : Option E := if b then (match trN T N ll n sc e with
  | some c => some c
  | none => trE T N ll n sc e) else trE T N ll n sc e
/-- name = [.. for ..] that is stored within the comprehension -/
def swB (sc : Scope) (x : Str) (l : Nat) : Expr → Bool
  | .ListComp _ _ s p | .SetComp _ _ s p | .DictComp _ _ _ s p => sc.names.lookup x == some .local && l == p.line && !(s.names.any fun (n, k) => n == x && (k == .local || k == .cell))
  | _ => false
def notLC : Expr → Bool
  | .ListComp .. => false
  | _ => true
/-- a name that is no plain local one: the stores are in their order -/
def noSw (sc : Scope) (ts : List Expr) : Bool := ts.any fun t => match t with
  | .Name x _ => sc.names.lookup x != some .local
  | _ => true
def blkOf (f : Stmt → Option St) : List Stmt → Option (List St)
  | [] => some []
  | s :: r => (f s).bind fun c => (blkOf f r).map (c :: ·)
def trS : Nat → Scope → Stmt → Option St
  | 0, _, _ => none
  | n + 1, sc, st => match st with
    | .Pass _ => some .pas
    | .Break _ => some .brk
    | .Continue _ => some .cnt
    | .Return none _ => some (.ret (.cst .non))
    | .Return (some e) _ => (trV T N ll kr n sc e).map .ret
    | .Raise (some (.Call (.Name x _) es [] _)) none _ => (T.exs.lookup x).bind fun c =>
        if T.exf.contains c = true ∧ sc.names.lookup x = some .globalImplicit ∧ noStar es = true ∧ es ≠ [] ∧ es.length ≤ 1000 then (esOf (trE T N ll n sc) es).map (.rais c) else none
    | .If c a b _ => if tOk n c then (trE T N ll n sc c).bind fun cc => (blkOf (trS n sc) a).bind fun ca => (blkOf (trS n sc) b).bind fun cb => some (.ife cc ca cb) else none
    | .While c a [] _ => if tOk n c then (trE T N ll n sc c).bind fun cc => (blkOf (trS n sc) a).bind fun ca => some (.whl cc ca) else none
    | .For tg iter body [] _ => if isSetE iter = false then (tgOf N sc tg).bind fun t => (srOf (trE T N ll n sc) sc (match tg with | .Tuple .. => true | _ => false) iter).bind fun cs => (blkOf (trS n sc) body).bind fun cb => some (.forS t.1 cs cb) else none
    | .Assign [.Name x p'] e pos => (slotOf N sc x).bind fun i =>
        if swB sc x p'.line e then (match e with
          | .ListComp _ [⟨_, _, _, 0⟩] _ _ => (trV T N ll (mu.contains x) n sc e).map (.set i)
          | _ => none)
        else (trV T N ll (mu.contains x) n sc e).map (.set i)
    | .Assign [.Attribute (.Name y p) x _] e _ => if T.flds.contains x = true then (match trE T N ll n sc (.Name y p) with
        | some (.var i) => (trE T N ll n sc e).map (.fld i x)
        | _ => none) else none
    | .Assign [.Subscript o i _] e _ => if isSlice i = false then (trE T N ll n sc o).bind fun co => (trE T N ll n sc i).bind fun ci => (trE T N ll n sc e).bind fun ce => some (.put co ci ce) else none
    | .Assign [.Tuple ts _ _] e _ => match ts, e with
      | [.Name x px, .Name y py], .Tuple [a, b] _ _ => (slotOf N sc x).bind fun i => (slotOf N sc y).bind fun j =>
          if i ≠ j ∧ sc.names.lookup x = some .local ∧ sc.names.lookup y = some .local ∧ px.line = py.line ∧ x ≠ y ∧ noStar [a, b] = true ∧ ([a, b].all (foldedForSure 8)) = false ∧ ([a, b].all (constantsAlone 8)) = false then
            (trV T N ll (mu.contains x) n sc a).bind fun ca => (trV T N ll (mu.contains y) n sc b).bind fun cb => some (.par i j ca cb)
          else if noSw sc ts = true ∧ noStar [a, b] = true then (trV T N ll (mu.contains x) n sc a).bind fun ca => (trV T N ll (mu.contains y) n sc b).bind fun cb => some (.par i j ca cb) else none
      | [.Name x px, .Name y py, .Name z pz], .Tuple [a, b, c] _ _ => (slotOf N sc x).bind fun i => (slotOf N sc y).bind fun j => (slotOf N sc z).bind fun l =>
          if (i ≠ j ∧ i ≠ l ∧ j ≠ l) ∧ (sc.names.lookup x = some .local ∧ sc.names.lookup y = some .local ∧ sc.names.lookup z = some .local) ∧ (px.line = py.line ∧ px.line = pz.line) ∧ (x ≠ y ∧ x ≠ z ∧ y ≠ z) ∧ noStar [a, b, c] = true ∧ ([a, b, c].all (foldedForSure 8)) = false ∧ ([a, b, c].all (constantsAlone 8)) = false then
            (trV T N ll (mu.contains x) n sc a).bind fun ca => (trV T N ll (mu.contains y) n sc b).bind fun cb => (trV T N ll (mu.contains z) n sc c).bind fun cc => some (.par3 i j l ca cb cc)
          else if noSw sc ts = true ∧ noStar [a, b, c] = true then (trV T N ll (mu.contains x) n sc a).bind fun ca => (trV T N ll (mu.contains y) n sc b).bind fun cb => (trV T N ll (mu.contains z) n sc c).bind fun cc => some (.par3 i j l ca cb cc) else none
      | ts, .Tuple vs k2 p2 => if noSw sc ts = true then (slotsOf N sc ts).bind fun is => (trE T N ll n sc (.Tuple vs k2 p2)).bind fun ce => some (.setT is ce) else none
      | ts, e => if isCompE e = false then (slotsOf N sc ts).bind fun is => (trE T N ll n sc e).bind fun ce => some (.setT is ce) else none
    | .Expr e _ => match e with
      | .Constant (.str _) _ _ => some .pas
      | .Call (.Attribute o m ap) [a] [] cp => if m = "append" then (if plainBase o = true ∧ noStar [a] = true ∧ (ap.endLine == cp.line) = true then (trE T N ll n sc o).bind fun co => (trE T N ll n sc a).bind fun ca => some (.app co ca) else none)
          else (trE T N ll n sc e).map .exp
      | .Call (.Attribute o m ap) [i, a] [] cp => if m = "insert" then (if plainBase o = true ∧ noStar [i, a] = true ∧ (ap.endLine == cp.line) = true then (trE T N ll n sc o).bind fun co => (trE T N ll n sc i).bind fun ci => (trE T N ll n sc a).bind fun ca => some (.insr co ci ca) else none)
          else (trE T N ll n sc e).map .exp
      | e => if isCompE e = false then (trE T N ll n sc e).map .exp else none
    | _ => none
def trB (n : Nat) (sc : Scope) (b : List Stmt) : Option (List St) := blkOf (trS T N mu kr ll n sc) b
end
end WS
set_option maxRecDepth 100000
set_option maxHeartbeats 4000000
/-! D32: the translation of statements is sound. -/
namespace WS
open PySem PySem.Spec PyProof.Rows L2
section
variable {G : Lk} {P : Pg} {call : Nat → List DV → M DV} {T : Tb} {N : List Str} {k : Nat} {mu : List Str} {kr ll : Bool}
/-- a def's own context -/
structure SurS (G : Lk) (N : List Str) (k : Nat) (ll : Bool) (sc : Scope) (X : Cx) (W : WX) : Prop where
  c : Ctx G X W
  r : Room (k + 3) X.A
  n : X.N = N
  s : X.env.scope = sc
  f : ∀ y, X.fn y = true
  kd : sc.kind = .function
  l : ll = true → LamF G X.env.qual X.env.code
theorem SurS.sur {sc : Scope} {X : Cx} {W : WX} (u : SurS G N k ll sc X W) : Sur G N k ll sc X W where
  c := u.c
  r := u.r.mono (by omega)
  n := u.n
  s := by
    rw [← u.s]
    exact ⟨fun _ h => h, fun _ h => h, fun _ h => .inr h, fun _ h => h, fun x _ => u.f x⟩
  l := fun h => ⟨u.r, u.l h⟩
theorem sw_eq {e : Expr} {x : Str} {p : Pos} {l : Nat} {env : PySem.Env} (hk : env.scope.kind = .function) : swapsWith e (some (.Name x p)) l env = pure (swB env.scope x p.line e) := by
  have hb : env.blockKind = .function := by unfold PySem.Env.blockKind; rw [hk]; rfl
  have hky : env.kindOf x = env.scope.names.lookup x := rfl
  unfold swapsWith
  cases e <;> first | rfl | (simp only [hb, hky, swB, Expr.pos]; simp)
theorem trD_ok {sc : Scope} {X : Cx} {W : WX} {n : Nat} {e : Expr} {ce : E} (L : Lnk G T P call k) (u : SurS G N k ll sc X W) (h : trD T N ll n sc e = some ce) : PE X e (TD G W P call ce) := by
  unfold trD at h
  split at h
  · cases h
    exact PE.imp pe_dnewK fun σ H Q h => newD0_of h
  · exact (sndE L n ll sc _ ce X W h u.sur).1
theorem sn_ok {sc : Scope} {X : Cx} {W : WX} {n : Nat} {e : Expr} {ce : E} (L : Lnk G T P call k) (u : SurS G N k ll sc X W) (h : trN T N ll n sc e = some ce) : PE X e (TD G W P call ce) := by
  have u' := u.sur
  unfold trN at h
  split at h
  · rename_i es p
    obtain ⟨c, h1, h2⟩ := Option.map_eq_some_iff.mp h
    subst h2
    cases n with
    | zero => cases h1
    | succ n =>
      unfold trE at h1
      simp only at h1
      split at h1
      · rename_i hl
        obtain ⟨cr, q1, q2⟩ := Option.map_eq_some_iff.mp h1
        subst q2
        obtain ⟨a1, a2, _⟩ := es_ok (fun e _ c he => (sndE L n ll sc e c X W he u').1) q1 hl.2
        exact sd_new_lst a1 (by rw [a2]; exact hl.1)
      · cases h1
  · rename_i elt gs scope p
    obtain ⟨c, h1, h2⟩ := Option.map_eq_some_iff.mp h
    subst h2
    cases n with
    | zero => cases h1
    | succ n =>
      unfold trE at h1
      split at h1 <;> first | (rename_i z; cases z; done) | skip
      all_goals first | (cases h1; done) | skip
      rename_i tg iter ifs scope' p' z
      cases z
      obtain ⟨t, c1, cs, c2, g, own, ec, hi, hb, hgt, hg, ht, he, hs⟩ := comp_ok L u' (sndE L n) h1
      subst ec
      exact sd_new_comp u.c hi hb hg hgt ht he hs
  · rename_i ks vs p
    split at h
    · rename_i hl
      obtain ⟨cr, h1, h2⟩ := Option.map_eq_some_iff.mp h
      subst h2
      obtain ⟨a1, a2, a3, a4⟩ := pairs_ok (pos := p) (fun e c he => trD_ok L u he) h1
      cases ks with
      | nil =>
        cases vs with
        | nil =>
          have e : Es.nil = cr := by simpa [pairsOf] using h1
          subst e
          exact PE.imp pe_dnewK fun σ H Q h => newD0_of h
        | cons v vs => simp at a4
      | cons k1 ks => exact PE.imp (pe_disp a1 a3 a4 (by simp) hl) fun σ H Q h => newD_of (by omega) ⟨_, a2⟩ h
    · cases h
  · rename_i x p1 a p
    split at h
    · rename_i hx
      obtain ⟨hx, hg, hst⟩ := hx
      subst hx
      obtain ⟨ca, h1, h2⟩ := Option.map_eq_some_iff.mp h
      subst h2
      obtain ⟨a1, _, _⟩ := es_ok (es := [a]) (cr := .cons ca .nil) (fun e _ c he => (sndE L n ll sc e c X W he u').1) (by simp [esOf, h1]) hst
      exact sd_newList u.c (u'.s.gl hg) (L.li.free "list" (by decide)) a1 (star_ok hst) (star_any (noStar_tl hst))
    · cases h
  · cases h
theorem sv_ok {b : Bool} {sc : Scope} {X : Cx} {W : WX} {n : Nat} {e : Expr} {ce : E} (L : Lnk G T P call k) (u : SurS G N k ll sc X W) (h : trV T N ll b n sc e = some ce) : PE X e (TD G W P call ce) := by
  unfold trV at h
  split at h
  · split at h
    · rename_i c hc
      cases h
      exact sn_ok L u hc
    · exact (sndE L n ll sc e ce X W h u.sur).1
  · exact (sndE L n ll sc e ce X W h u.sur).1
/-- name = [.. for ..] -/
theorem sv_lc {b : Bool} {sc scope : Scope} {X : Cx} {W : WX} {n i : Nat} {elt tg iter : Expr} {ifs : List Expr} {ce : E} {p p' pos : Pos} {x : Str} (L : Lnk G T P call k) (u : SurS G N k ll sc X W) (hi : X.N[i]? = some x) (hx : X.env.scope.names.lookup x = some .local)
    (hsw : swapsWith (.ListComp elt [⟨tg, iter, ifs, 0⟩] scope p) (some (.Name x p')) pos.line X.env = pure true) (h : trV T N ll b n sc (.ListComp elt [⟨tg, iter, ifs, 0⟩] scope p) = some ce) :
    PS X (.Assign [.Name x p'] (.ListComp elt [⟨tg, iter, ifs, 0⟩] scope p) pos) (TDS G W P call (.set i ce)) := by
  have u' := u.sur
  have go : ∀ {n : Nat} {ce : E}, trE T N ll n sc (.ListComp elt [⟨tg, iter, ifs, 0⟩] scope p) = some ce → PS X (.Assign [.Name x p'] (.ListComp elt [⟨tg, iter, ifs, 0⟩] scope p) pos) (TDS G W P call (.set i ce)) ∧ PS X (.Assign [.Name x p'] (.ListComp elt [⟨tg, iter, ifs, 0⟩] scope p) pos) (TDS G W P call (.set i (.new ce))) := by
    intro n ce h
    cases n with
    | zero => cases h
    | succ n =>
      unfold trE at h
      simp only at h
      obtain ⟨t, c1, cs, c2, g, own, ec, hi', hb, hgt, hg, ht, he, hs⟩ := comp_ok L u' (sndE L n) h
      subst ec
      refine ⟨PS.imp (ps_setLc u.c.calm u.c.nd hi hx hsw hi' hb hg ht he hs) fun D σ H h => ?_, PS.imp (ps_setLc u.c.calm u.c.nd hi hx hsw hi' hb hg ht he hs) fun D σ H h => ?_⟩
      · exact comp_of hgt (asg_of h)
      · exact new_comp_of hgt (asg_of h)
  unfold trV at h
  split at h
  · split at h
    · rename_i c hc
      cases h
      unfold trN at hc
      simp only at hc
      obtain ⟨c', h1, h2⟩ := Option.map_eq_some_iff.mp hc
      subst h2
      exact (go h1).2
    · exact (go h).1
  · exact (go h).1
def SndS (G : Lk) (P : Pg) (call : Nat → List DV → M DV) (T : Tb) (N : List Str) (mu : List Str) (kr ll : Bool) (k n : Nat) : Prop := ∀ (sc : Scope) (st : Stmt) (c : St) (X : Cx) (W : WX), trS T N mu kr ll n sc st = some c → SurS G N k ll sc X W → PS X st (TDS G W P call c)
theorem blk_ok {sc : Scope} {X : Cx} {W : WX} {n : Nat} (IH : SndS G P call T N mu kr ll k n) (u : SurS G N k ll sc X W) : ∀ {b : List Stmt} {cb : List St}, blkOf (trS T N mu kr ll n sc) b = some cb → PSs X b (TDB G W P call cb)
  | [], cb, h => by
    have e : [] = cb := by simpa [blkOf] using h
    subst e
    exact tb_nil
  | s :: r, cb, h => by
    simp only [blkOf, Option.bind_eq_some_iff, Option.map_eq_some_iff] at h
    obtain ⟨c, h1, cr, h2, h⟩ := h
    subst h
    exact tb_cons (IH sc s c X W h1 u) (blk_ok IH u h2)
theorem sw_par {x y : Str} {a b : Expr} {px py pt pt2 : Pos} {kt k2 : Nat} {env : PySem.Env} (hk : env.scope.kind = .function) (hx : env.scope.names.lookup x = some .local) (hy : env.scope.names.lookup y = some .local) (hl : px.line = py.line) (hxy : x ≠ y) (hst : noStar [a, b] = true)
    (h1 : ([a, b].all (foldedForSure 8)) = false) (h2 : ([a, b].all (constantsAlone 8)) = false) : swappedStores [.Tuple [.Name x px, .Name y py] kt pt] (.Tuple [a, b] k2 pt2) env = pure (some [x, y]) := by
  have hb : env.blockKind = .function := by unfold PySem.Env.blockKind; rw [hk]; rfl
  have kx : env.kindOf x = some .local := hx
  have ky : env.kindOf y = some .local := hy
  have hs : ([a, b].any fun | .Starred .. => true | _ => false) = false := by
    cases a <;> cases b <;> first | rfl | (simp [noStar] at hst)
  have hyx : ¬ y = x := fun z => hxy z.symm
  unfold swappedStores
  simp only [hb, hs, h1, h2, List.filterMap_cons, List.filterMap_nil, kx, ky, List.head?_cons, Option.map_some, Option.getD_some, Expr.pos, hl]
  simp only [List.any_cons, List.any_nil, Bool.or_false, Bool.or_eq_false_iff] at hs
  simp [List.eraseDups_cons, hyx]
  rintro (z | z)
  · exact absurd (hs.1.symm.trans z) (by simp)
  · exact absurd (hs.2.symm.trans z) (by simp)
theorem sw_par3 {x y z : Str} {a b c : Expr} {px py pz pt pt2 : Pos} {kt k2 : Nat} {env : PySem.Env} (hk : env.scope.kind = .function) (hx : env.scope.names.lookup x = some .local) (hy : env.scope.names.lookup y = some .local) (hz : env.scope.names.lookup z = some .local) (hl : px.line = py.line) (hl2 : px.line = pz.line) (hxy : x ≠ y) (hxz : x ≠ z) (hyz : y ≠ z) (hst : noStar [a, b, c] = true)
    (h1 : ([a, b, c].all (foldedForSure 8)) = false) (h2 : ([a, b, c].all (constantsAlone 8)) = false) : swappedStores [.Tuple [.Name x px, .Name y py, .Name z pz] kt pt] (.Tuple [a, b, c] k2 pt2) env = pure (some [x, y, z]) := by
  have hb : env.blockKind = .function := by unfold PySem.Env.blockKind; rw [hk]; rfl
  have kx : env.kindOf x = some .local := hx
  have ky : env.kindOf y = some .local := hy
  have kz : env.kindOf z = some .local := hz
  have ga : ∀ e : Expr, noStar [e] = true → (match e with | .Starred .. => true | _ => false) = false := by
    intro e he
    cases e <;> first | rfl | (simp [noStar] at he)
  have hs : ([a, b, c].any fun | .Starred .. => true | _ => false) = false := by
    have hd : ∀ (e : Expr) (r : List Expr), noStar (e :: r) = true → noStar [e] = true := by
      intro e r he
      cases e <;> first | rfl | (simp [noStar] at he)
    have n1 : noStar [a] = true ∧ noStar [b] = true ∧ noStar [c] = true := ⟨hd _ _ hst, hd _ _ (noStar_tl hst), noStar_tl (noStar_tl hst)⟩
    simp only [List.any_cons, List.any_nil, Bool.or_false, Bool.or_eq_false_iff]
    exact ⟨ga a n1.1, ga b n1.2.1, ga c n1.2.2⟩
  have hyx : ¬ y = x := fun z => hxy z.symm
  have hzx : ¬ z = x := fun q => hxz q.symm
  have hzy : ¬ z = y := fun q => hyz q.symm
  unfold swappedStores
  simp only [hb, hs, h1, h2, List.filterMap_cons, List.filterMap_nil, kx, ky, kz, List.head?_cons, Option.map_some, Option.getD_some, Expr.pos, ← hl, ← hl2]
  simp only [List.any_cons, List.any_nil, Bool.or_false, Bool.or_eq_false_iff] at hs
  simp [List.eraseDups_cons, hyx, hzx, hzy]
  rintro (z | z | z)
  · exact absurd (hs.1.symm.trans z) (by simp)
  · exact absurd (hs.2.1.symm.trans z) (by simp)
  · exact absurd (hs.2.2.symm.trans z) (by simp)
theorem fm_lt {α β : Type} {f : α → Option β} : ∀ {xs : List α}, (∃ x ∈ xs, f x = none) → (xs.filterMap f).length < xs.length
  | [], h => by obtain ⟨x, h, _⟩ := h; cases h
  | a :: r, h => by
    by_cases hr : ∃ x ∈ r, f x = none
    · have := fm_lt hr
      rw [List.filterMap_cons]
      cases f a <;> simp <;> omega
    · obtain ⟨x, hx, hn⟩ := h
      rcases List.mem_cons.mp hx with e | hx
      · subst e
        have := List.length_filterMap_le f r
        rw [List.filterMap_cons, hn]
        simp only [List.length_cons]
        omega
      · exact absurd ⟨x, hx, hn⟩ hr
theorem sw_none {ts : List Expr} {kt : Nat} {pt : Pos} {e : Expr} {env : PySem.Env} (h : noSw env.scope ts = true) : swappedStores [.Tuple ts kt pt] e env = pure none := by
  unfold swappedStores
  cases e <;> first | rfl | skip
  rename_i vs k2 p2
  simp only
  have hlt := fun (l : Nat) => fm_lt (xs := ts) (f := fun t => match t with
    | .Name id pos => if env.kindOf id == some NameKind.local && pos.line == l then some id else none
    | _ => none) (by
      obtain ⟨t, h1, h2⟩ := List.any_eq_true.mp h
      refine ⟨t, h1, ?_⟩
      cases t <;> first | rfl | skip
      rename_i x p
      have hk : env.kindOf x = env.scope.names.lookup x := rfl
      simp only [hk]
      rw [if_neg]
      simp only [bne_iff_ne, ne_eq] at h2
      simp [h2])
  split
  · rfl
  · split
    · rfl
    · rw [if_pos]
      have q := hlt ((Option.map (fun x => x.pos.line) ts.head?).getD 0)
      simp only [Bool.or_eq_true, bne_iff_ne, ne_eq]
      left
      exact Nat.ne_of_lt q
theorem sndS (L : Lnk G T P call k) : ∀ n, SndS G P call T N mu kr ll k n
  | 0 => fun sc st c X W h _ => by cases h
  | n + 1 => by
    have IH := sndS L n
    intro sc st c X W h u
    have u' := u.sur
    have hf : ∀ e c, trE T N ll n sc e = some c → PE X e (TD G W P call c) := fun e c he => (sndE L n ll sc e c X W he u').1
    have ht : ∀ e c, trE T N ll n sc e = some c → tOk n e = true → PT X e (TDt G W P call c) := fun e c he => (sndE L n ll sc e c X W he u').2
    have slot : ∀ {x : Str} {i : Nat}, slotOf N sc x = some i → X.N[i]? = some x ∧ Loc X.env.scope x := fun {x i} hx => by
      obtain ⟨q1, q2⟩ := slot_ok hx
      rw [u.n, u.s]
      exact ⟨q1, q2⟩
    unfold trS at h
    split at h
    · cases h; exact ts_pass
    · cases h; exact ts_break
    · cases h; exact ts_continue
    · cases h; exact ts_retN
    · obtain ⟨ce, h1, h2⟩ := Option.map_eq_some_iff.mp h
      subst h2
      exact ts_ret (sv_ok L u h1)
    · simp only [Option.bind_eq_some_iff] at h
      obtain ⟨ci, hc, h⟩ := h
      split at h
      · rename_i hs
        obtain ⟨cr, h1, h2⟩ := Option.map_eq_some_iff.mp h
        subst h2
        obtain ⟨xs, q1, q2, _⟩ := L.ex _ _ hc
        obtain ⟨a1, a2, _⟩ := es_ok (fun e _ c he => hf e c he) h1 hs.2.2.1
        exact ts_raise u.c q1 (q2 hs.1) u'.r (u'.s.gl hs.2.1) a1 hs.2.2.1 hs.2.2.2.1 (by rw [a2]; exact hs.2.2.2.2)
      · cases h
    · split at h
      · rename_i hok
        simp only [Option.bind_eq_some_iff] at h
        obtain ⟨cc, h1, ca, h2, cb, h3, h⟩ := h
        cases h
        exact ts_if (ht _ _ h1 hok) (blk_ok IH u h2) (blk_ok IH u h3)
      · cases h
    · split at h
      · rename_i hok
        simp only [Option.bind_eq_some_iff] at h
        obtain ⟨cc, h1, ca, h2, h⟩ := h
        cases h
        exact ts_while u.c (ht _ _ h1 hok) (blk_ok IH u h2)
      · cases h
    · rename_i tg iter body p
      split at h
      rotate_left
      · cases h
      rename_i hset
      simp only [Option.bind_eq_some_iff] at h
      obtain ⟨t, h1, cs, h2, cb, h3, h⟩ := h
      cases h
      have hi : PI X tg iter (TDi G W P call cs) := sr_ok L u' hf (fun z => by
        cases tg <;> first | exact ⟨_, _, _, rfl⟩ | cases z) h2
      unfold tgOf at h1
      split at h1
      · obtain ⟨i, q1, q2⟩ := Option.map_eq_some_iff.mp h1
        subst q2
        obtain ⟨s1, s2⟩ := slot_ok q1
        exact ts_for u.c tf_one hi (sg_one u.c.nd u'.s (by rw [u.n]; exact s1) s2) (blk_ok IH u h3) (folded_ok hset)
      · rename_i ts kk p
        obtain ⟨is, q1, q2⟩ := Option.map_eq_some_iff.mp h1
        subst q2
        obtain ⟨a, b, d⟩ := sg_all (X := X) u.c.nd u'.s (by rw [u.n]; exact q1)
        have q := pg_tup (X := X) (k := kk) (pos := p) u.c.calm a b d
        rw [u.c.hK] at q
        exact ts_for u.c (tf_many rfl) hi q (blk_ok IH u h3) (folded_ok hset)
      · cases h1
    · rename_i x p' e pos
      simp only [Option.bind_eq_some_iff] at h
      obtain ⟨i, hi, h⟩ := h
      obtain ⟨s1, s2⟩ := slot hi
      have sw := sw_eq (e := e) (x := x) (p := p') (l := pos.line) (env := X.env) (by rw [u.s]; exact u.kd)
      rw [u.s] at sw
      split at h
      · rename_i hsw
        rw [hsw] at sw
        split at h
        · obtain ⟨ce, h1, h2⟩ := Option.map_eq_some_iff.mp h
          subst h2
          refine sv_lc L u s1 ?_ sw h1
          rw [u.s]
          simp only [swB, Bool.and_eq_true] at hsw
          simpa using hsw.1.1
        · cases h
      · rename_i hsw
        rw [show swB sc x p'.line e = false by simpa using hsw] at sw
        obtain ⟨ce, h1, h2⟩ := Option.map_eq_some_iff.mp h
        subst h2
        exact ts_set u.c s1 s2 (sv_ok L u h1) sw (.inl (u.f x))
    · rename_i y p x p2 e pos
      split at h
      rotate_left
      · cases h
      rename_i hfl
      split at h
      · rename_i i hv
        obtain ⟨ce, h1, h2⟩ := Option.map_eq_some_iff.mp h
        subst h2
        exact ts_fld u.c L.cf (L.fl x (by simpa using hfl)) (hf _ _ hv) (hf _ _ h1) (swaps_other rfl)
      · cases h
    · rename_i o i p e pos
      split at h
      rotate_left
      · cases h
      rename_i hs
      simp only [Option.bind_eq_some_iff] at h
      obtain ⟨co, h1, ci, h2, ce, h3, h⟩ := h
      cases h
      refine ts_put u.c (hf _ _ h1) (hf _ _ h2) (hf _ _ h3) ?_ ?_ ?_ ?_
      · intro v
        cases i <;> first | rfl | (simp [isSlice] at hs)
      · show swapsWith e (some (.Subscript o i p)) pos.line X.env = pure false
        exact swaps_other rfl
      · cases e <;> rfl
      · rfl
    · rename_i ts kt pt e pos
      have setTu : ∀ {ts : List Expr} {kt : Nat} {pt : Pos} {vs : List Expr} {k2 : Nat} {p2 : Pos}, (if noSw sc ts = true then (slotsOf N sc ts).bind fun is => (trE T N ll n sc (.Tuple vs k2 p2)).bind fun ce => some (St.setT is ce) else none) = some c → PS X (.Assign [.Tuple ts kt pt] (.Tuple vs k2 p2) pos) (TDS G W P call c) := by
        intro ts kt pt vs k2 p2 h
        split at h
        · rename_i hns
          simp only [Option.bind_eq_some_iff] at h
          obtain ⟨is, h1, ce, h2, h⟩ := h
          cases h
          obtain ⟨a, b, d⟩ := sg_all (X := X) u.c.nd u'.s (by rw [u.n]; exact h1)
          refine ts_setT u.c rfl (hf _ _ h2) (pg_seq (X := X) (kt := kt) (pt := pt) u.c.calm a b d) ?_ (sw_none (by rw [u.s]; exact hns)) rfl
          rfl
        · cases h
      split at h
      · rename_i x px y py a b k2 pt2
        simp only [Option.bind_eq_some_iff] at h
        obtain ⟨i, hi, j, hj, h⟩ := h
        split at h
        rotate_left
        · split at h
          · rename_i hns
            simp only [Option.bind_eq_some_iff] at h
            obtain ⟨ca, h1, cb, h2, h⟩ := h
            cases h
            obtain ⟨qa, qb, qd⟩ := sg_all (X := X) (ts := [.Name x px, .Name y py]) (is := [i, j]) u.c.nd u'.s (by rw [u.n]; simp [slotsOf, hi, hj])
            exact ts_parU u.c (sv_ok L u h1) (sv_ok L u h2) hns.2 (pg_seq (X := X) (kt := kt) (pt := pt) u.c.calm qa qb qd) rfl (sw_none (by rw [u.s]; exact hns.1)) rfl
          · cases h
        rename_i hs
        obtain ⟨e1, e2, e3, e4, e5, e6, e7, e8⟩ := hs
        simp only [Option.bind_eq_some_iff] at h
        obtain ⟨ca, h1, cb, h2, h⟩ := h
        cases h
        refine ts_par u.c (slot hi).1 (slot hj).1 e1 (by rw [u.s]; exact e2) (by rw [u.s]; exact e3) (sv_ok L u h1) (sv_ok L u h2) e6 ?_ ?_
        · exact sw_par (by rw [u.s]; exact u.kd) (by rw [u.s]; exact e2) (by rw [u.s]; exact e3) e4 e5 e6 e7 e8
        · rfl
      · rename_i x px y py z pz a b c3 k2 pt2
        simp only [Option.bind_eq_some_iff] at h
        obtain ⟨i, hi, j, hj, l, hl, h⟩ := h
        split at h
        rotate_left
        · split at h
          · rename_i hns
            simp only [Option.bind_eq_some_iff] at h
            obtain ⟨ca, h1, cb, h2, cc, h3, h⟩ := h
            cases h
            obtain ⟨qa, qb, qd⟩ := sg_all (X := X) (ts := [.Name x px, .Name y py, .Name z pz]) (is := [i, j, l]) u.c.nd u'.s (by rw [u.n]; simp [slotsOf, hi, hj, hl])
            exact ts_parU3 u.c (sv_ok L u h1) (sv_ok L u h2) (sv_ok L u h3) hns.2 (pg_seq (X := X) (kt := kt) (pt := pt) u.c.calm qa qb qd) rfl (sw_none (by rw [u.s]; exact hns.1)) rfl
          · cases h
        rename_i hs
        obtain ⟨e1, e2, e4, e5, e6, e7, e8⟩ := hs
        simp only [Option.bind_eq_some_iff] at h
        obtain ⟨ca, h1, cb, h2, cc, h3, h⟩ := h
        cases h
        refine ts_par3 u.c (slot hi).1 (slot hj).1 (slot hl).1 e1.1 e1.2.1 e1.2.2 (by rw [u.s]; exact e2.1) (by rw [u.s]; exact e2.2.1) (by rw [u.s]; exact e2.2.2) (sv_ok L u h1) (sv_ok L u h2) (sv_ok L u h3) e6 ?_ ?_
        · exact sw_par3 (by rw [u.s]; exact u.kd) (by rw [u.s]; exact e2.1) (by rw [u.s]; exact e2.2.1) (by rw [u.s]; exact e2.2.2) e4.1 e4.2 e5.1 e5.2.1 e5.2.2 e6 e7 e8
        · rfl
      · exact setTu h
      · rename_i tsx ex h2n h3n hneT
        split at h
        rotate_left
        · cases h
        rename_i hcomp
        simp only [Option.bind_eq_some_iff] at h
        obtain ⟨is, h1, ce, h2, h⟩ := h
        cases h
        obtain ⟨a, b, d⟩ := sg_all (X := X) u.c.nd u'.s (by rw [u.n]; exact h1)
        refine ts_setT u.c rfl (hf _ _ h2) (pg_seq (X := X) (kt := kt) (pt := pt) u.c.calm a b d) ?_ ?_ rfl
        · show swapsWith e (some (.Tuple ts kt pt)) pos.line X.env = pure false
          exact swaps_other rfl
        · cases e <;> first | rfl | exact (hneT _ _ _ rfl).elim | exact (h3n _ _ _ rfl).elim | exact (h2n _ _ _ rfl).elim
    · rename_i e pos
      split at h
      · cases h; exact ts_doc
      · rename_i o m ap a cp
        split at h
        · rename_i hm
          subst hm
          split at h
          rotate_left
          · cases h
          rename_i hs
          simp only [Option.bind_eq_some_iff] at h
          obtain ⟨co, h1, ca, h2, h⟩ := h
          cases h
          exact ts_app u.c (hf _ _ h1) (hf _ _ h2) hs.1 hs.2.1 hs.2.2
        · obtain ⟨ce, h1, h2⟩ := Option.map_eq_some_iff.mp h
          subst h2
          exact ts_exp (hf _ _ h1) (swaps_no rfl)
      · rename_i o m ap ei a cp
        split at h
        · rename_i hm
          subst hm
          split at h
          rotate_left
          · cases h
          rename_i hs
          simp only [Option.bind_eq_some_iff] at h
          obtain ⟨co, h1, ci, h2, ca, h3, h⟩ := h
          cases h
          exact ts_ins u.c (hf _ _ h1) (hf _ _ h2) (hf _ _ h3) hs.1 hs.2.1 hs.2.2
        · obtain ⟨ce, h1, h2⟩ := Option.map_eq_some_iff.mp h
          subst h2
          exact ts_exp (hf _ _ h1) (swaps_no rfl)
      · split at h
        rotate_left
        · cases h
        rename_i hcomp
        obtain ⟨ce, h1, h2⟩ := Option.map_eq_some_iff.mp h
        subst h2
        exact ts_exp (hf _ _ h1) (swaps_no hcomp)
    · cases h
end
end WS
set_option maxRecDepth 100000
set_option maxHeartbeats 4000000
/-! D33: how a call binds its arguments, once for all patterns. -/
namespace WS
open PySem PySem.Spec PyProof.Rows L2
section
variable {α β : Type}
def okL (ok : α → β → Bool) (g : α → β → β) : List α → β → Bool
  | [], _ => true
  | a :: r, b => ok a b && okL ok g r (g a b)
theorem forIn_yields {f : α → β → Sem (ForInStep β)} {g : α → β → β} {ok : α → β → Bool} (h : ∀ a b, ok a b = true → f a b = pure (.yield (g a b))) : ∀ (l : List α) (b : β), okL ok g l b = true → forIn l b f = pure (l.foldl (fun b a => g a b) b)
  | [], b, _ => by rfl
  | a :: r, b, hk => by
    simp only [okL, Bool.and_eq_true] at hk
    rw [List.forIn_cons, h a b hk.1]
    simp only [pure_bind]
    rw [forIn_yields h r _ hk.2]
    rfl
theorem kw_loop {ps : List Str} : ∀ {kw s : List (Str × α)} {ex : List (Str × α)}, kwOk ps kw s = true → okL (fun (x : Str × α) (st : List (Str × α) × List (Str × α)) => ps.contains x.1 && (st.1.lookup x.1).isNone) (fun x st => (st.1 ++ [(x.1, x.2)], st.2)) kw (s, ex) = true ∧ kw.foldl (fun st x => (st.1 ++ [(x.1, x.2)], st.2)) (s, ex) = (s ++ kw, ex)
  | [], s, ex, _ => ⟨rfl, by simp⟩
  | (k, v) :: r, s, ex, h => by
    simp only [kwOk, Bool.and_eq_true] at h
    obtain ⟨h1, h2⟩ := kw_loop (ex := ex) h.2
    refine ⟨?_, ?_⟩
    · simp only [okL, Bool.and_eq_true]
      exact ⟨h.1, h1⟩
    · rw [List.foldl_cons, h2]
      simp
theorem bind_gen {fd : FuncData} {ps : List Str} {us its : List Value} {kw bs : List (Str × Value)} (h1 : fd.params.posonlyargs = []) (h2 : fd.params.args.map (·.arg) = ps) (h3 : fd.params.kwonlyargs = []) (h4 : fd.params.vararg = none) (h5 : fd.params.kwarg = none)
    (h : bindP ps us kw its = some bs) : ∃ k, bindArgs fd ⟨us, kw⟩ = seqItems? fd.defaults >>= k ∧ ∀ o : Option (Array Value), (o.getD #[]).toList = its → k o = pure bs := by
  unfold bindP at h
  split at h
  rotate_left
  · cases h
  rename_i hc
  obtain ⟨c1, c2, c3, c4⟩ := hc
  cases h
  obtain ⟨l1, l2⟩ := kw_loop (ex := ([] : List (Str × Value))) c1
  unfold bindArgs
  simp only [h1, h3, h4, h5, List.map_nil, List.nil_append, List.append_nil, Option.isSome_none, Option.isNone_none, Bool.and_true, h2]
  rw [forIn_yields (g := fun x st => (st.1 ++ [(x.1, x.2)], st.2)) (ok := fun (x : Str × Value) (st : List (Str × Value) × List (Str × Value)) => ps.contains x.1 && (st.1.lookup x.1).isNone) (fun a b hab => ?_) kw _ l1, l2]
  rotate_left
  · simp only [Bool.and_eq_true] at hab
    rw [if_pos (by simp only [hab.1, Bool.true_or]), if_neg (by have := hab.2; simp only [Option.isNone_iff_eq_none] at this; simp [this])]
  simp only [pure_bind]
  refine ⟨_, rfl, fun o ho => ?_⟩
  simp only [ho]
  rw [if_neg (by simpa using c2)]
  have e0 : its.drop (its.length - ps.length) = its := by rw [Nat.sub_eq_zero_of_le c3]; rfl
  simp only [e0]
  rw [if_neg (by simp only [c4]; simp)]
  rw [forIn_yields (g := fun x st => dput1 st x) (ok := fun _ _ => true) (fun a b _ => ?_) _ _ ?_]
  · simp only [pure_bind]
    rw [show (forIn ([] : List Str) _ _ : Sem _) = pure _ from rfl]
    simp only [pure_bind]
    rfl
  · have : ∀ (l : List (Str × Value)) (b : List (Str × Value)), okL (fun _ _ => true) (fun x st => dput1 st x) l b = true := by
      intro l
      induction l with
      | nil => intro b; rfl
      | cons a r ih => intro b; simp only [okL, Bool.true_and]; exact ih _
    exact this _ _
  · unfold dput1
    by_cases hn : (List.lookup a.1 b).isNone = true
    · rw [if_pos hn, if_pos hn]
    · rw [if_neg hn, if_neg hn]
/-! ### values are carried along -/
theorem lookup_nat {α β : Type} (f : α → β) (k : Str) : ∀ l : List (Str × α), (l.map fun p => (p.1, f p.2)).lookup k = (l.lookup k).map f
  | [] => rfl
  | (q, v) :: r => by
    simp only [List.map_cons, List.lookup]
    cases h : k == q with
    | true => rfl
    | false => exact lookup_nat f k r
theorem lookup_none_nat {α β : Type} (f : α → β) (k : Str) (l : List (Str × α)) : ((l.map fun p => (p.1, f p.2)).lookup k).isNone = (l.lookup k).isNone := by
  rw [lookup_nat]; cases l.lookup k <;> rfl
theorem kwOk_nat {α β : Type} (f : α → β) (ps : List Str) : ∀ kw s : List (Str × α), kwOk ps (kw.map fun p => (p.1, f p.2)) (s.map fun p => (p.1, f p.2)) = kwOk ps kw s
  | [], _ => rfl
  | (k, v) :: r, s => by
    simp only [List.map_cons, kwOk, lookup_none_nat]
    have := kwOk_nat f ps r (s ++ [(k, v)])
    simp only [List.map_append, List.map_cons, List.map_nil] at this
    rw [this]
theorem zip_nat {α β : Type} (f : α → β) : ∀ (ps : List Str) (us : List α), ps.zip (us.map f) = (ps.zip us).map fun p => (p.1, f p.2)
  | [], _ => by simp
  | _ :: _, [] => by simp
  | p :: ps, u :: us => by simp [zip_nat f ps us]
theorem dput1_nat {α β : Type} (f : α → β) (s : List (Str × α)) (p : Str × α) : dput1 (s.map fun p => (p.1, f p.2)) (p.1, f p.2) = (dput1 s p).map fun p => (p.1, f p.2) := by
  unfold dput1
  rw [lookup_none_nat]
  split <;> simp
theorem foldl_nat {α β : Type} (f : α → β) : ∀ (l s : List (Str × α)), (l.map fun p => (p.1, f p.2)).foldl dput1 (s.map fun p => (p.1, f p.2)) = (l.foldl dput1 s).map fun p => (p.1, f p.2)
  | [], _ => rfl
  | p :: r, s => by
    simp only [List.map_cons, List.foldl_cons]
    rw [dput1_nat, foldl_nat f r]
theorem bindP_nat {α β : Type} (f : α → β) (ps : List Str) (us : List α) (kw : List (Str × α)) (dfl : List α) : bindP ps (us.map f) (kw.map fun p => (p.1, f p.2)) (dfl.map f) = (bindP ps us kw dfl).map fun l => l.map fun p => (p.1, f p.2) := by
  unfold bindP
  simp only [zip_nat, List.length_map]
  rw [kwOk_nat, ← List.map_append, foldl_nat]
  have e1 : ∀ n : Str, (List.lookup n ((ps.zip us ++ kw).map fun p => (p.1, f p.2))).isNone = (List.lookup n (ps.zip us ++ kw)).isNone := fun n => lookup_none_nat f n _
  simp only [e1]
  split
  · simp only [Option.map_some, List.map_filterMap]
    congr 1
    congr 1
    funext n
    rw [lookup_nat]
    cases (List.lookup n (((ps.drop (ps.length - dfl.length)).zip dfl).foldl dput1 (ps.zip us ++ kw))) <;> rfl
  · rfl
/-! ### patterns -/
def tokV {α : Type} (d : α) (us its : List α) : Nat ⊕ Nat → α
  | .inl i => us.getD i d
  | .inr j => its.getD j d
theorem range_getD {α : Type} (d : α) (us : List α) : (List.range us.length).map (fun i => us.getD i d) = us := by
  apply List.ext_getElem
  · simp
  · intro i h1 h2
    simp only [List.getElem_map, List.getElem_range, List.getD_eq_getElem?_getD, List.getElem?_eq_getElem h2, Option.getD_some]
theorem tokP_val {ps ks : List Str} {us ws its : List Value} {bs : List (Str × (Nat ⊕ Nat))} (hw : ws.length = ks.length) (h : tokP ps us.length ks its.length = some bs) :
    bindP ps us (ks.zip ws) its = some (bs.map fun p => (p.1, tokV Value.none (us ++ ws) its p.2)) := by
  have q := bindP_nat (tokV Value.none (us ++ ws) its) ps ((List.range us.length).map Sum.inl) (ks.zip ((List.range ks.length).map fun i => Sum.inl (us.length + i))) ((List.range its.length).map Sum.inr)
  unfold tokP at h
  rw [h] at q
  simp only [Option.map_some] at q
  rw [← q]
  congr 1
  · rw [List.map_map]
    conv => lhs; rw [← range_getD Value.none us]
    apply List.map_congr_left
    intro i hi
    have hi : i < us.length := by simpa using hi
    simp [tokV, List.getD_eq_getElem?_getD, List.getElem?_append_left hi]
  · rw [← zip_nat]
    congr 1
    rw [List.map_map]
    conv => lhs; rw [← range_getD Value.none ws]
    rw [hw]
    apply List.map_congr_left
    intro i hi
    simp only [Function.comp, tokV, List.getD_eq_getElem?_getD]
    rw [List.getElem?_append_right (by omega)]
    congr 2
    omega
  · rw [List.map_map]
    conv => lhs; rw [← range_getD Value.none its]
    rfl
theorem vals_getD {vs : List V} {us : List Value} (h : Vals vs us) (i : Nat) : RelV (vs.getD i .non) (us.getD i .none) := by
  induction h generalizing i with
  | nil => simp; rfl
  | cons a b ih =>
    cases i with
    | zero => simpa using a
    | succ i => simpa using ih i
/-- the values that are bound -/
theorem perm_vals {dfl : Df → V} {dd : List Df} {vs zs : List V} {us ws its : List Value} (hv : Vals vs us) (hz : Vals zs ws) (hd : Vals (dd.map dfl) its) : ∀ {bs : List (Str × (Nat ⊕ Nat))} {xs : List V}, (∀ p ∈ bs, ∀ j, p.2 = .inr j → j < dd.length) → permV dfl vs zs (permOf dd bs) = some xs → Vals xs (bs.map fun p => tokV Value.none (us ++ ws) its p.2)
  | [], xs, _, h => by
    have : [] = xs := by simpa [permOf, permV] using h
    subst this
    exact .nil
  | (n, .inl i) :: bs, xs, hj, h => by
    simp only [permOf, List.map_cons, permV] at h
    split at h
    · rename_i d t h1 h2
      cases h
      refine .cons ?_ (perm_vals hv hz hd (fun p hp => hj p (by simp [hp])) h2)
      have q := vals_getD (hv.append hz) i
      rw [List.getD_eq_getElem?_getD, h1] at q
      exact q
    · cases h
  | (n, .inr j) :: bs, xs, hj, h => by
    simp only [permOf, List.map_cons, permV] at h
    obtain ⟨t, h2, h3⟩ := Option.map_eq_some_iff.mp h
    subst h3
    refine .cons ?_ (perm_vals hv hz hd (fun p hp => hj p (by simp [hp])) h2)
    have hl : j < dd.length := hj (n, .inr j) (by simp) j rfl
    have q := vals_getD hd j
    rw [List.getD_eq_getElem?_getD, List.getElem?_map, List.getElem?_eq_getElem hl] at q
    simp only [Option.map_some, Option.getD_some] at q
    show RelV (dfl (dd.getD j ((0, 0), .non))) _
    rw [List.getD_eq_getElem?_getD, List.getElem?_eq_getElem hl]
    exact q
theorem zip_keys {α : Type} {ps : List Str} : ∀ {bs : List (Str × α)}, bs.map (·.1) = ps → bs = ps.zip (bs.map (·.2)) := by
  intro bs h
  subst h
  induction bs with
  | nil => rfl
  | cons a r ih => simp only [List.map_cons, List.zip_cons_cons]; rw [← ih]
/-- a def's plain parameters -/
def plainPs (p : Arguments) : Bool := p.posonlyargs.isEmpty && p.kwonlyargs.isEmpty && p.vararg.isNone && p.kwarg.isNone
theorem bindsTo_of {K : PySem.W.Frag} {x qual : Str} {params : Arguments} {body : List Stmt} {scope : Scope} {dvs : List V} {kws : List (Str × V)} {f : Addr} {fd : FuncData} {ps ks : List Str} {dfl : Df → V} {dd : List Df} {bs : List (Str × (Nat ⊕ Nat))} (F : FunD K x qual params body scope dvs kws f fd)
    (hp : plainPs params = true) (hps : params.args.map (·.arg) = ps) (hdd : dd.map dfl = dvs) {vs zs xs : List V} {us ws : List Value} {s : Shared} (X : K.In s.heap) (hv : Vals vs us) (hz : Vals zs ws) (hzl : zs.length = ks.length)
    (ht : tokP ps vs.length ks dd.length = some bs) (hb : bs.map (·.1) = ps) (hx : permV dfl vs zs (permOf dd bs) = some xs) (hj : ∀ p ∈ bs, ∀ j, p.2 = .inr j → j < dd.length) : ∃ ys, BindsTo s fd ⟨us, ks.zip ws⟩ (ps.zip ys) ∧ Vals xs ys := by
  obtain ⟨oc, od, dV, kV, doc, pm, an, cdv, ct, osl, rfl, lk, hcd, hD, hK⟩ := F.ex
  simp only [plainPs, Bool.and_eq_true, List.isEmpty_iff, Option.isNone_iff_eq_none] at hp
  obtain ⟨⟨⟨p1, p2⟩, p3⟩, p4⟩ := hp
  have key : ∀ (its : List Value), Vals dvs its → (∀ k : Option (Array Value) → Sem (List (Str × Value)), (∀ o : Option (Array Value), (o.getD #[]).toList = its → k o = pure (ps.zip (bs.map fun p => tokV Value.none (us ++ ws) its p.2))) → ∀ M, PySem.W.Looks M s.heap (seqItems? dV >>= k) (ps.zip (bs.map fun p => tokV Value.none (us ++ ws) its p.2))) →
      ∃ ys, BindsTo s (PySem.W.fnOf x qual params body scope dV kV doc pm an cdv ct) ⟨us, ks.zip ws⟩ (ps.zip ys) ∧ Vals xs ys := by
    intro its hi hl
    have hl1 : vs.length = us.length := hv.length
    have hl2 : dd.length = its.length := by rw [← hi.length, ← hdd, List.length_map]
    have hl3 : ws.length = ks.length := by rw [← hz.length, hzl]
    rw [hl1, hl2] at ht
    have tv := tokP_val hl3 ht
    rw [zip_keys (bs := bs.map fun p => (p.1, tokV Value.none (us ++ ws) its p.2)) (ps := ps) (by rw [List.map_map]; exact hb)] at tv
    rw [List.map_map] at tv
    obtain ⟨k, e1, e2⟩ := bind_gen (fd := PySem.W.fnOf x qual params body scope dV kV doc pm an cdv ct) p1 hps p2 p3 p4 tv
    refine ⟨_, BindsTo.of_looks fun M => ?_, perm_vals hv hz (by rw [hdd]; exact hi) hj hx⟩
    rw [e1]
    exact hl k e2 M
  rcases hD with ⟨e1, e2⟩ | ⟨_, T, o, its, m, rfl, lT, oT, rT⟩
  · subst e1 e2
    refine key [] .nil fun k hk M => ?_
    have e : (seqItems? Value.none >>= k) = k none := by
      show (pure none >>= k) = _
      rw [pure_bind]
    rw [e]
    exact PySem.W.Looks.of_pure (hk none rfl)
  · exact key its rT fun k hk M => looks_items X lT oT (.of_pure (hk _ (by simp)))
end
end WS
set_option maxRecDepth 100000
set_option maxHeartbeats 4000000
/-! D34: the law's call, by a promise that knows the guards. -/
namespace WS
open PySem PySem.Spec PyProof.Rows L2
/-- what the abstract heap holds when the law is called: the tables of code objects, perhaps the script -/
structure Beg (P : Program) (w : World) (K : PySem.W.Frag) (a : Addr) (ts : List Addr) (ns : List Int) (h : Heap) (H : Hp) : Prop where
  tb : ∀ t ∈ ts, H t = some (.tbl #[])
  all : ∀ b, H b = none ∨ b ∈ ts ∨ (b = a ∧ ∃ o xs, H b = some (.frz o (.lst xs)))
  sq : SqL K H a (ns.map V.int)
  ok : HOk P w H h
  ka : H a ≠ none → K.lookup a = none
theorem beg_of {P : Program} {w : World} {K : PySem.W.Frag} {a : Addr} {ts : List Addr} {ns : List Int} {h : Heap} {vs : List Value} (KX : K.In h) (hT : ∀ t ∈ ts, h.get? t = some { cls := .none, data := .fields #[] }) (ha : h.get? a = some { cls := .type "list", data := .seq vs.toArray }) (hi : IntsAre vs ns) (hl : ns.length ≤ sizeLine) : ∃ H, Beg P w K a ts ns h H := by
  have rv := vals_ints hi
  have lv := hi.length
  have na : a ∉ ts := fun z => by
    have q := hT a z
    rw [ha] at q
    exact Data.noConfusion (congrArg Obj.data (Option.some.inj q))
  cases hk : K.lookup a with
  | some o =>
    obtain rfl : { cls := .type "list", data := .seq vs.toArray } = o := Option.some.inj (ha.symm.trans (KX a o hk))
    let H0 : Hp := fun b => if b ∈ ts then some (.tbl #[]) else none
    have h1 : ∀ b, b ∈ ts → H0 b = some (.tbl #[]) := fun b hb => if_pos hb
    have h2 : ∀ b, b ∉ ts → H0 b = none := fun b hb => if_neg hb
    refine ⟨H0, h1, fun b => ?_, .inr ⟨_, vs.toArray, _, hk, rfl, rfl, rfl, ?_, ?_⟩, fun b u z => ?_, fun z => absurd (h2 a na) z⟩
    · by_cases hb : b ∈ ts
      · exact .inr (.inl hb)
      · exact .inl (h2 b hb)
    · rw [List.size_toArray, lv]; exact hl
    · simpa using rv
    · by_cases hb : b ∈ ts
      · rw [h1 b hb] at z; cases z; exact hT b hb
      · rw [h2 b hb] at z; cases z
  | none =>
    let H0 : Hp := fun b => if b ∈ ts then some (.tbl #[]) else if b = a then some (.frz { cls := .type "list", data := .seq vs.toArray } (.lst (ns.map V.int))) else none
    have h1 : ∀ b, b ∈ ts → H0 b = some (.tbl #[]) := fun b hb => if_pos hb
    have h2 : H0 a = some (.frz { cls := .type "list", data := .seq vs.toArray } (.lst (ns.map V.int))) := (if_neg na).trans (if_pos rfl)
    have h3 : ∀ b, b ∉ ts → b ≠ a → H0 b = none := fun b hb n => (if_neg hb).trans (if_neg n)
    refine ⟨H0, h1, fun b => ?_, .inl (.inr ⟨_, h2⟩), fun b u z => ?_, fun _ => hk⟩
    · by_cases hb : b ∈ ts
      · exact .inr (.inl hb)
      · by_cases e : b = a
        · exact .inr (.inr ⟨e, _, _, by rw [e]; exact h2⟩)
        · exact .inl (h3 b hb e)
    · by_cases hb : b ∈ ts
      · rw [h1 b hb] at z; cases z; exact hT b hb
      · by_cases e : b = a
        · subst e; rw [h2] at z; cases z
          exact ⟨ha, by rw [List.length_map]; exact hl, vs, _, rv, ha⟩
        · rw [h3 b hb e] at z; cases z
/-- THE LAW'S CALL -/
theorem top_run {P : Program} {w : World} {K : PySem.W.Frag} {mg mb : Str → Option Value} {fa a : Addr} {cs : List (Addr × Addr)} {x : Str} {s1 : Shared} {vs : List Value} {ns : List Int} {G : Heap → Lk} {k : Nat} {fd : FuncData} {sp : Heap → Sp}
    (KX : K.In s1.heap) (hns : s1.heap.Ns mainGlobals mg) (hb : s1.heap.Ns builtinsNs mb) (hbb : ∀ x : Str, x ≠ "__name__" → mb x = bootBuiltins x) (hlim : s1.heap.NoLimit) (hg : s1.gens = #[])
    (hT : ∀ p ∈ cs, s1.heap.get? p.2 = some { cls := .none, data := .fields #[] }) (nT : ∀ p ∈ cs, K.lookup p.2 = none) (C : ∀ p ∈ cs, PySem.W.CodeHd s1.heap p.1 p.2)
    (hbm : ∃ (bm : Addr) (ob : Obj), mg "__builtins__" = some (.ref bm) ∧ bm ≠ builtinsNs ∧ s1.heap.get? bm = some ob ∧ ob.cls = .type "module" ∧ ob.dict = some builtinsNs ∧ ob.data = .plain)
    (ha : s1.heap.get? a = some { cls := .type "list", data := .seq vs.toArray }) (hi : IntsAre vs ns) (hl : ns.length ≤ sizeLine) (hr : Room k callerA)
    (hG : ∀ base, (G base).P = P ∧ (G base).w = w ∧ (G base).K = K ∧ (G base).mg = mg ∧ (G base).base = base)
    (F : ∀ base : Heap, K.In base → base.Ns mainGlobals mg → (∀ p ∈ cs, LamX.TabB base mg p.1 p.2) → FnG (G base) k fa fd [x] (sp base)) (hbind : BindsTo s1 fd ⟨[.ref a], []⟩ [(x, .ref a)])
    (hsp : ∀ (H : Hp) (base : Heap), Beg P w K a (cs.map (·.2)) ns s1.heap H → sp base [.ref a] H (fun v _ => v = .bl true) fun _ _ _ => False) :
    codeAny (model P w) callerA (.call (.ref fa) ⟨[.ref a], []⟩) (fun r s' => r = .ok (.ret (.bool true)) ∧ OldK s1.heap s'.heap ∧ s'.os = s1.os ∧ AllBare s'.gens) s1 := by
  have hT2 : ∀ t ∈ cs.map (·.2), s1.heap.get? t = some { cls := .none, data := .fields #[] } := fun t ht => by
    obtain ⟨p, hp, rfl⟩ := List.mem_map.mp ht
    exact hT p hp
  obtain ⟨H, B⟩ := beg_of (P := P) (w := w) KX hT2 ha hi hl
  -- what is no list and no table is not told of
  have quiet : ∀ {b : Addr} {o : Obj}, s1.heap.get? b = some o → (∀ us n, o.data ≠ .seq us n) → o.data ≠ .fields #[] → H b = none := by
    intro b o e n1 n2
    rcases B.all b with q | q | ⟨q, _⟩
    · exact q
    · rw [hT2 b q] at e; cases e; exact absurd rfl n2
    · subst q; rw [ha] at e; cases e; exact absurd rfl (n1 _ _)
  have carry : ∀ {b : Addr} {m : Str → Option Value}, s1.heap.Ns b m → (hidT s1.heap H).Ns b m := by
    rintro b m ⟨o, es, ep, e, d, r⟩
    exact ⟨o, es, ep, hidT_get e (quiet e (by rw [d]; exact fun _ _ z => by cases z) (by rw [d]; exact fun z => by cases z)), d, r⟩
  have inK : K.In (hidT s1.heap H) := fun b o e => hidT_get (KX b o e) (by
    rcases B.all b with q | q | ⟨q, _⟩
    · exact q
    · obtain ⟨p, hp, rfl⟩ := List.mem_map.mp q
      rw [nT p hp] at e; cases e
    · subst q
      cases hb : H b with
      | none => rfl
      | some u => rw [B.ka (by rw [hb]; simp)] at e; cases e)
  have tabs : ∀ p ∈ cs, LamX.TabB (hidT s1.heap H) mg p.1 p.2 := by
    intro p hp
    have tp := hT p hp
    refine ⟨?_, ?_, ?_⟩
    · obtain ⟨o, us, file, tf, fl, tg, inF, tx, tt, e1, r1, r2, r3, r4⟩ := C p hp
      refine ⟨o, us, file, tf, fl, tg, inF, tx, tt, hidT_get e1 (quiet e1 (by rw [r2]; exact fun _ _ z => by cases z) (by rw [r2]; intro z; cases z; simp at r3)), r1, r2, r3, r4⟩
    · obtain ⟨bm, ob, b1, b2, b3, b4, b5, b6⟩ := hbm
      refine ⟨bm, ob, b1, b2, fun q => ?_, fun q => ?_, hidT_get b3 (quiet b3 (by rw [b6]; exact fun _ _ z => by cases z) (by rw [b6]; exact fun z => by cases z)), b4, b5, b6⟩
      · obtain ⟨o, es, ep, e, d, _⟩ := hns
        rw [q, e] at b3; cases b3; rw [d] at b6; cases b6
      · rw [q, tp] at b3; cases b3; cases b6
    · intro z
      obtain ⟨o, es, ep, e, d, _⟩ := hns
      rw [z, tp] at e; cases e; cases d
  obtain ⟨g1, g2, g3, g4, g5⟩ := hG (hidT s1.heap H)
  have lim2 : (hidT s1.heap H).NoLimit := by
    obtain ⟨mc, q1, q2⟩ := hlim
    exact ⟨mc, carry q1, q2⟩
  have e0 : Env0 P w K mg (hidT s1.heap H) callerA [] s1 H :=
    { frames := rfl, mod := ⟨inK, carry hns, ⟨mb, carry hb, hbb⟩, lim2⟩, bs := fun b o e => of_hidT e, bsz := Nat.le_of_eq (hidT_size _ _), funs := trivial, frf := fun b hb => absurd (show b ∈ ([] : List Addr) from hb) (by simp), hok := B.ok, bare := .of_eq hg }
  have run := (F _ inK (carry hns) tabs).run callerA [] s1 H ⟨[.ref a], []⟩ [.ref a] [.ref a] _ _ hr rfl (by rw [g1, g2, g3, g4, g5]; exact e0) hbind (.cons rfl .nil) (hsp H (hidT s1.heap H) B)
  rw [g1, g2] at run
  refine codeAny_mono run fun r s' q => ?_
  cases r with
  | error e =>
    obtain ⟨_, _, _, _, _, _, _, _, _, _, _, _, z⟩ := (show CX P w [] H s1 (fun _ _ _ => False) e s' from q)
    exact z.elim
  | ok fl =>
    cases fl with
    | next => exact (show False from q).elim
    | brk => exact (show False from q).elim
    | cont => exact (show False from q).elim
    | ret u =>
      obtain ⟨v, H', os, bare, un, ok', rel, eq⟩ := (show CE [] P w H s1 (fun v _ => v = .bl true) u s' from q)
      subst eq
      obtain rfl : u = Value.bool true := rel
      have same : ∀ b o, b ∉ cs.map (·.2) → s1.heap.get? b = some o → s'.heap.get? b = some o := by
        intro b o nb e
        rcases B.all b with z | z | ⟨_, ob, xs, z⟩
        · exact un.keep b o e z (fun y => by cases y) (by simp)
        · exact absurd z nb
        · have e1 := (B.ok b _ z).1
          rw [e] at e1; cases e1
          exact (ok' b _ (un.frzs b _ _ z)).1
      have more : ∀ p ∈ cs, ∃ m : Array Value, s'.heap.get? p.2 = some { cls := .none, data := .fields m } := by
        intro p hp
        obtain ⟨m, z⟩ := un.tbls p.2 #[] (B.tb _ (List.mem_map.mpr ⟨p, hp, rfl⟩))
        exact ⟨_, ok' p.2 _ z⟩
      refine ⟨rfl, ⟨fun b o e => ?_, fun b o e => ?_⟩, os, bare⟩
      · by_cases hb : b ∈ cs.map (·.2)
        · obtain ⟨p, hp, rfl⟩ := List.mem_map.mp hb
          obtain ⟨m, hm⟩ := more p hp
          rw [hT p hp] at e; cases e
          refine .inr (.inl ⟨((C p hp).tab (hT p hp)).isCodeTable, rfl, #[], m, rfl, ?_⟩)
          rw [Array.empty_append]; exact hm
        · exact .inl (same b o hb e)
      · by_cases hb : b ∈ cs.map (·.2)
        · obtain ⟨p, hp, rfl⟩ := List.mem_map.mp hb
          exact ⟨_, (more p hp).choose_spec⟩
        · exact ⟨o, same b o hb e⟩
end WS
set_option maxRecDepth 100000
set_option maxHeartbeats 4000000
/-! D35: a program's description; what is looked at behind the top. -/
namespace WS
open PySem PySem.Spec PyProof.Rows L2
/-! ### where defs stand -/
inductive Pth where
  | g (x : Str)
  | m (C x : Str)
  | p (C x : Str)
def getterOf (K : PySem.W.Frag) (p : Addr) : Addr := match PySem.W.recIn K p "property" with
  | some (.ref g :: _) => g
  | _ => 0
def Pth.ad (K : PySem.W.Frag) : Pth → Addr
  | .g x => He.ga K x
  | .m C x => He.ma K (He.ga K C) x
  | .p C x => getterOf K (He.ma K (He.ga K C) x)
/-- a def: its place, its text, its defaults as data, its slots; the names that stand for cells; whether it hands back a cell; whether it makes lambdas; which class it catches -/
structure DD where
  at_ : Pth
  name : Str
  qual : Str
  params : Arguments
  body : List Stmt
  scope : Scope
  N : List Str
  dd : List DV := []
  mu : List Str := []
  kr : Bool := false
  ll : Bool := false
  cat : Option Nat := none
def DD.ps (d : DD) : List Str := d.params.args.map (·.arg)
/-- scalars as values -/
def dvV : DV → V
  | .bl b => .bl b
  | .int i => .int i
  | .str x => .str x
  | _ => .non
def scal : DV → Bool
  | .non => true
  | .bl _ => true
  | .int _ => true
  | .str _ => true
  | _ => false
theorem scal_rep {G : Lk} {M : Addr → Prop} {H : Hp} {d : DV} (h : scal d = true) : RepT G M H d (dvV d) := by
  cases d <;> first | rfl | cases h
def isUnit : DV → Bool
  | .tup [] => true
  | _ => false
/-- the empty tuple in K -/
def unitB (K : PySem.W.Frag) (u : Addr) : Bool := match K.lookup u with
  | some ⟨.type c, _, .seq its _, _⟩ => decide (c = "tuple") && its.isEmpty
  | _ => false
theorem unitB_ok {K : PySem.W.Frag} {u : Addr} (h : unitB K u = true) (H : Hp) : SqT K H u [] := by
  unfold unitB at h
  split at h
  · rename_i c od its n sl q
    obtain ⟨h1, h2⟩ := Bool.and_eq_true_iff.mp h
    have e : its = #[] := Array.isEmpty_iff.mp h2
    subst e
    exact .inr ⟨_, #[], n, q, congrArg Value.type (of_decide_eq_true h1), rfl, by simp, .nil⟩
  · cases h
def noFd : FuncData := PySem.W.fnOf "" "" ⟨[], [], none, [], [], none, []⟩ [] ⟨.function, [], false, false, []⟩ .none .none .none .none none .none .none
def fdAt (K : PySem.W.Frag) (a : Addr) : FuncData := match K.lookup a with
  | some ⟨_, _, .func fd, _⟩ => fd
  | _ => noFd
def fnWAt (K : PySem.W.Frag) (a : Addr) : He.FnW := match K.lookup a with
  | some ⟨_, _, .func fd, _⟩ => some (fd.name, fd.qualname, fd.params, fd.body, fd.scope, fd.globals, fd.closure, fd.builtins)
  | _ => none
/-- the i-th default of the def at p -/
def dflOf (K : PySem.W.Frag) (p : Pth) (i : Nat) : Addr := match K.lookup (p.ad K) with
  | some ⟨_, _, .func fd, _⟩ => (match fd.defaults with
    | .ref T => (match K.lookup T with
      | some ⟨_, _, .seq its _, _⟩ => (match its.toList[i]? with
        | some (.ref a) => a
        | _ => 0)
      | _ => 0)
    | _ => 0)
  | _ => 0
/-- a default as a value: scalars, the empty tuple where it stands -/
def dfV (K : PySem.W.Frag) (p : Pth) (i : Nat) (d : DV) : V := if isUnit d then .ref (dflOf K p i) else dvV d
def DD.dvs (K : PySem.W.Frag) (d : DD) : List V := d.dd.zipIdx.map fun q => dfV K d.at_ q.2 q.1
def DD.df (f : Nat) (d : DD) : List Df := d.dd.zipIdx.map fun q => ((f, q.2), q.1)
def DD.dfB (K : PySem.W.Frag) (d : DD) : Bool := d.dd.zipIdx.all fun q => if isUnit q.1 then unitB K (dflOf K d.at_ q.2) else scal q.1
theorem dfV_rep {G : Lk} {M : Addr → Prop} {H : Hp} {d : DD} {i : Nat} {x : DV} (h : (if isUnit x then unitB G.K (dflOf G.K d.at_ i) else scal x) = true) : RepT G M H x (dfV G.K d.at_ i x) := by
  unfold dfV
  by_cases hu : isUnit x = true
  · rw [if_pos hu] at h ⊢
    obtain rfl : x = .tup [] := by
      cases x with
      | tup ds => cases ds with
        | nil => rfl
        | cons => cases hu
      | _ => cases hu
    exact ⟨_, [], rfl, unitB_ok h H, rfl⟩
  · rw [if_neg hu] at h ⊢
    exact scal_rep h
theorem dvs_len {K : PySem.W.Frag} {d : DD} : (d.dvs K).length = d.dd.length := by simp [DD.dvs]
theorem df_len {f : Nat} {d : DD} : (d.df f).length = d.dd.length := by simp [DD.df]
def DD.val (d : DD) : He.FnW := some (d.name, d.qual, d.params, .stmts d.body, d.scope, mainGlobals, [], builtinsNs)
def DD.okB (K : PySem.W.Frag) (d : DD) : Bool := PySem.W.keepIn K (.ref (d.at_.ad K)) && (match K.lookup (d.at_.ad K) with
  | some ⟨_, _, .func fd, _⟩ => PySem.W.codeIn K fd.code d.qual && (He.dflB K fd.defaults (d.dvs K) && d.dfB K)
  | _ => false)
theorem DD.funD {K : PySem.W.Frag} {d : DD} (e : fnWAt K (d.at_.ad K) = d.val) (c : d.okB K = true) : FunD K d.name d.qual d.params d.body d.scope (d.dvs K) [] (d.at_.ad K) (fdAt K (d.at_.ad K)) ∧ d.dfB K = true := by
  obtain ⟨kp, c2⟩ := Bool.and_eq_true_iff.mp c
  unfold fnWAt at e
  unfold fdAt
  cases q : K.lookup (d.at_.ad K) with
  | none => rw [q] at c2; cases c2
  | some o =>
    obtain ⟨oc, od, dt, osl⟩ := o
    rw [q] at c2 e
    cases dt with
    | func fd =>
      obtain ⟨n1, n2, n3, n4, n5, n6, n7, n8, n9, n10, n11, n12, n13, n14, n15⟩ := fd
      have e2 : (some (n1, n2, n3, n4, n5, n6, n7, n15) : He.FnW) = some (d.name, d.qual, d.params, .stmts d.body, d.scope, mainGlobals, [], builtinsNs) := e
      simp only [Option.some.injEq, Prod.mk.injEq] at e2
      obtain ⟨h1, h2, h3, h4, h5, h6, h7, h8⟩ := e2
      obtain ⟨k1, k2⟩ := Bool.and_eq_true_iff.mp (show (PySem.W.codeIn K n13 d.qual && (He.dflB K n8 (d.dvs K) && d.dfB K)) = true from c2)
      obtain ⟨k2, k3⟩ := Bool.and_eq_true_iff.mp k2
      subst h1 h2 h3 h4 h5 h6 h7 h8
      exact ⟨⟨⟨oc, od, n8, n9, n10, n11, n12, n13, n14, osl, rfl, q, k1, He.dflB_ok k2, .inl rfl⟩, kp⟩, k3⟩
    | _ => cases c2
/-! ### the Hook -/
abbrev AlW : Type := Bool × List He.FnW
/-- what is looked at: what the names reach, the interpreter's own statics -/
def asW (g : Addr → Option Obj) (n : Nat) : List Addr := He.asD g n ++ [cStatics, sysModules]
def kW (g : Addr → Option Obj) (n : Nat) : PySem.W.Frag := He.frT g (asW g n)
def obsW (n : Nat) (ds : List DD) (tf : List He.Defn) (ex : PySem.W.Frag → Bool) (g : Addr → Option Obj) : AlW := (ex (kW g n) && He.tabsB g tf (kW g n), ds.map fun d => fnWAt (kW g n) (d.at_.ad (kW g n)))
structure SaysW (ds : List DD) (tf : List He.Defn) (ex : PySem.W.Frag → Bool) (w : World) (h : Heap) (K : PySem.W.Frag) : Prop where
  more : ex K = true
  hd : ∀ p ∈ tf, PySem.W.codeHdIn K (He.cT K p).1 (He.cT K p).2 = true
  out : ∀ p ∈ tf, K.lookup (He.cT K p).2 = none
  empty : ∀ p ∈ tf, h.get? (He.cT K p).2 = some { cls := .none, data := .fields #[] }
  fns : ∀ d ∈ ds, fnWAt K (d.at_.ad K) = d.val
theorem saysW_of {n : Nat} {ds : List DD} {tf : List He.Defn} {ex : PySem.W.Frag → Bool} {w : World} {h : Heap} (e : obsW n ds tf ex h.get? = (true, ds.map DD.val)) : SaysW ds tf ex w h (kW h.get? n) := by
  have e1 : (ex (kW h.get? n) && He.tabsB h.get? tf (kW h.get? n)) = true := congrArg Prod.fst e
  have e2 : (ds.map fun d => fnWAt (kW h.get? n) (d.at_.ad (kW h.get? n))) = ds.map DD.val := congrArg Prod.snd e
  obtain ⟨m, t⟩ := Bool.and_eq_true_iff.mp e1
  have tab : ∀ p ∈ tf, PySem.W.codeHdIn (kW h.get? n) (He.cT (kW h.get? n) p).1 (He.cT (kW h.get? n) p).2 = true ∧ ∃ o, h.get? (He.cT (kW h.get? n) p).2 = some o ∧ He.emptyTab o = true := by
    intro p hp
    obtain ⟨t1, t2⟩ := Bool.and_eq_true_iff.mp (List.all_eq_true.mp t p hp)
    refine ⟨t1, ?_⟩
    cases q : h.get? (He.cT (kW h.get? n) p).2 with
    | none => rw [q] at t2; cases t2
    | some o => rw [q] at t2; exact ⟨o, rfl, t2⟩
  refine ⟨m, fun p hp => (tab p hp).1, fun p hp => ?_, fun p hp => ?_, fun d hd => List.map_inj_left.mp e2 d hd⟩
  · obtain ⟨o, q, z⟩ := (tab p hp).2
    exact He.frT_none q z
  · obtain ⟨o, q, z⟩ := (tab p hp).2
    rw [q, He.emptyTab_eq z]
def hookW (n : Nat) (ds : List DD) (tf : List He.Defn) (ex : PySem.W.Frag → Bool) : PySem.W.Hook where
  α := AlW
  obs := fun s => obsW n ds tf ex s.heap.get?
  val := fun _ => (true, ds.map DD.val)
  says := fun w h => ∃ K : PySem.W.Frag, K.In h ∧ SaysW ds tf ex w h K
  of := fun w s e => ⟨_, He.frT_in, saysW_of e⟩
  keeps := fun _ _ _ ⟨K, hK, c⟩ k => ⟨K, PySem.W.Frag.In.keeps hK k, ⟨c.more, c.hd, c.out, fun p hp => k _ _ (c.empty p hp), c.fns⟩⟩
theorem obsW_eq {n : Nat} {ds : List DD} {tf : List He.Defn} {ex : PySem.W.Frag → Bool} {g : Addr → Option Obj} {s : Shared} (h : ∀ a, g a = s.heap.get? a) : obsW n ds tf ex g = (hookW n ds tf ex).obs s := by
  have e : g = s.heap.get? := funext h
  rw [e]
  rfl
/-! ### a program's description -/
structure ExD where
  x : Str
  fs : List Str
  up : List Nat
  init : Option DD
structure Desc where
  defs : List DD
  code : List (List St)
  cls : List (Str × Cl)
  exs : List ExD
  /-- the class whose __init__ the exceptions call -/
  root : Str
  glo : List (Str × DV)
  flds : List Str
  own : List Str := []
  emb : List Str := []
section
variable (Δ : Desc)
def Desc.all : List DD := Δ.defs ++ Δ.exs.filterMap (·.init)
def fnsFrom : List DD → Nat → List (Str × Nat)
  | [], _ => []
  | d :: r, i => match d.at_, d.cat with
    | .g x, none => (x, i) :: fnsFrom r (i + 1)
    | _, _ => fnsFrom r (i + 1)
def catsFrom : List DD → Nat → List (Str × Nat)
  | [], _ => []
  | d :: r, i => match d.at_, d.cat with
    | .g x, some _ => (x, i) :: catsFrom r (i + 1)
    | _, _ => catsFrom r (i + 1)
def numFrom {α : Type} (f : α → Str) : List α → Nat → List (Str × Nat)
  | [], _ => []
  | d :: r, i => (f d, i) :: numFrom f r (i + 1)
def exfFrom : List ExD → Nat → List Nat
  | [], _ => []
  | d :: r, i => match d.init with
    | some _ => i :: exfFrom r (i + 1)
    | none => exfFrom r (i + 1)
def exzFrom : List ExD → Nat → List Nat
  | [], _ => []
  | d :: r, i => match d.init with
    | some _ => exzFrom r (i + 1)
    | none => i :: exzFrom r (i + 1)
def Desc.tb : Tb where
  sigX := fun c => (Δ.exs[c]?).bind fun e => e.init.bind fun d => if d.dd.isEmpty then some d.ps else none
  exz := exzFrom Δ.exs 0
  fns := fnsFrom Δ.defs 0
  cls := numFrom (·.1) Δ.cls 0
  exs := numFrom (·.x) Δ.exs 0
  exf := exfFrom Δ.exs 0
  glo := Δ.glo
  cats := catsFrom Δ.defs 0
  sig := fun f => (Δ.defs[f]?).map fun d => (d.ps, d.df f)
  sigI := fun c => (Δ.cls[c]?).bind fun k => (Δ.defs[k.2.init]?).map fun d => (d.ps, d.df k.2.init)
  flds := Δ.flds
  own := Δ.own
  emb := Δ.emb
  mth := fun x => Δ.cls.zipIdx.filterMap fun c => (c.1.2.meths.lookup x).map fun f => (c.2, f)
def Desc.pg : Pg where
  fn := fun f => (Δ.defs[f]?).bind fun d => match d.cat with
    | some _ => none
    | none => (Δ.code[f]?).map fun b => ⟨d.N.length, b⟩
  cl := fun c => (Δ.cls[c]?).map (·.2)
  ex := fun c => (Δ.exs[c]?).map (·.fs)
  up := fun c => match Δ.exs[c]? with
    | some e => e.up
    | none => []
  catches := fun f => (Δ.defs[f]?).bind (·.cat)
def Desc.keep (f : Nat) : Bool := match Δ.defs[f]? with
  | some d => d.kr
  | none => false
def Desc.fa (K : PySem.W.Frag) (f : Nat) : Addr := match Δ.defs[f]? with
  | some d => d.at_.ad K
  | none => 0
def Desc.ca (K : PySem.W.Frag) (c : Nat) : Addr := match Δ.cls[c]? with
  | some k => He.ga K k.1
  | none => 0
def Desc.xa (K : PySem.W.Frag) (c : Nat) : Addr := match Δ.exs[c]? with
  | some k => He.ga K k.x
  | none => 0
/-- the defs that make lambdas -/
def Desc.tf : List He.Defn := Δ.defs.filterMap fun d => match d.at_, d.ll with
  | .g x, true => some (x, none)
  | _, _ => none
def lamQ (x : Str) : Str := x ++ ".<locals>." ++ "<lambda>"
def Desc.lk (Pr : Program) (w : World) (K : PySem.W.Frag) (mg : Str → Option Value) (base : Heap) : Lk where
  P := Pr
  w := w
  K := K
  mg := mg
  base := base
  ca := Δ.ca K
  xa := Δ.xa K
  T := Δ.tf.map fun p => ((He.cT K p).2, lamQ p.1)
  fa := Δ.fa K
  fd := fun f => fdAt K (Δ.fa K f)
  ps := fun f => match Δ.defs[f]? with
    | some d => d.ps
    | none => []
  dfl := fun q => match Δ.defs[q.1.1]? with
    | some d => dfV K d.at_ q.1.2 q.2
    | none => .non
end
end WS
set_option maxRecDepth 100000
set_option maxHeartbeats 4000000
/-! D36: what of the heap behind the top is checked. -/
namespace WS
open PySem PySem.Spec PyProof.Rows L2
theorem ba {a b : Bool} (h : (a && b) = true) : a = true ∧ b = true := Bool.and_eq_true_iff.mp h
/-! ### scopes of defs -/
def scB (N ps : List Str) (sc : Scope) : Bool := decide (sc.kind = .function) && (!sc.isCoroutine && (!sc.isGenerator && (decide N.Nodup && (decide (N.take ps.length = ps) && ((ps.all fun x => decide (sc.names.lookup x = some .local) || decide (sc.names.lookup x = some .cell)) && sc.names.all fun y => !decide (y.2 = .free))))))
theorem scB_ok {N ps : List Str} {sc : Scope} (h : scB N ps sc = true) : FnScope N ps sc := by
  obtain ⟨h1, h⟩ := ba h
  obtain ⟨h2, h⟩ := ba h
  obtain ⟨h3, h⟩ := ba h
  obtain ⟨h4, h⟩ := ba h
  obtain ⟨h5, h⟩ := ba h
  obtain ⟨h6, h7⟩ := ba h
  refine ⟨of_decide_eq_true h1, by simpa using h2, by simpa using h3, of_decide_eq_true h4, of_decide_eq_true h5, fun x hx => ?_, fun y hy => ?_⟩
  · have := List.all_eq_true.mp h6 x hx
    simpa using this
  · have := List.all_eq_true.mp h7 y hy
    simpa using this
/-! ### classes -/
def eqV (a b : Option (Option Value)) : Bool := He.eqO a b
def clsB (K : PySem.W.Frag) (x : Str) : Bool := (He.Fa.glo x).ok K && ((He.Fa.cls x).ok K && (eqV (PySem.W.findIn K (.ref (He.ga K x)) "__class__") (some (some (.builtin "object.__class__"))) && (eqV (PySem.W.specialIn K (.builtin "object.__class__") "__get__") (some (some (.builtin "getset_descriptor.__get__"))) &&
  (decide (PySem.W.takesIn K (.builtin "object.__class__") = some true) && (decide (PySem.W.mroIn K (He.ga K x) (.type "object") = some true) && !(x == ("__debug__" : Str)))))))
theorem clsB_ok {K : PySem.W.Frag} {x : Str} (h : clsB K x = true) : (He.Fa.glo x).ok K = true ∧ ClsT K (He.ga K x) ∧ (x == ("__debug__" : Str)) = false := by
  obtain ⟨h1, h⟩ := ba h
  obtain ⟨h2, h⟩ := ba h
  obtain ⟨h3, h⟩ := ba h
  obtain ⟨h4, h⟩ := ba h
  obtain ⟨h5, h⟩ := ba h
  obtain ⟨h6, h7⟩ := ba h
  exact ⟨h1, ⟨He.cls_ok h2, He.eqO_ok h3, He.eqO_ok h4, of_decide_eq_true h5, of_decide_eq_true h6⟩, by simpa using h7⟩
def mkB (K : PySem.W.Frag) (C f : Addr) : Bool := PySem.W.makesIn K C && (eqV (PySem.W.findIn K (.ref C) "__init__") (some (some (.ref f))) && (PySem.W.isFn K (.ref f) && PySem.W.keepIn K (.ref C)))
theorem mkB_ok {K : PySem.W.Frag} {C f : Addr} (h : mkB K C f = true) : Mk K C f := by
  obtain ⟨h1, h⟩ := ba h
  obtain ⟨h2, h⟩ := ba h
  obtain ⟨h3, h4⟩ := ba h
  exact ⟨h1, He.eqO_ok h2, h3, h4⟩
def propB (K : PySem.W.Frag) (C : Addr) (x : Str) (g : Addr) : Bool := eqV (PySem.W.findIn K (.ref C) x) (some (some (.ref (He.ma K C x)))) && (eqV (PySem.W.specialIn K (.ref (He.ma K C x)) "__get__") (some (some (.builtin "property.__get__"))) &&
  (decide (PySem.W.takesIn K (.ref (He.ma K C x)) = some true) && (match PySem.W.recIn K (He.ma K C x) "property" with
    | some (.ref a :: _) => decide (a = g)
    | _ => false)))
theorem propB_ok {K : PySem.W.Frag} {C : Addr} {x : Str} {g : Addr} (h : propB K C x g = true) : ∃ p, PropOf K C x p g := by
  obtain ⟨h1, h⟩ := ba h
  obtain ⟨h2, h⟩ := ba h
  obtain ⟨h3, h4⟩ := ba h
  refine ⟨_, He.eqO_ok h1, He.eqO_ok h2, of_decide_eq_true h3, ?_⟩
  split at h4
  · rename_i a rest q
    have e : a = g := of_decide_eq_true h4
    subst e
    exact ⟨rest, q⟩
  · cases h4
/-! ### exceptions -/
def excCB (K : PySem.W.Frag) (D : Addr) : Bool := eqV (PySem.W.findIn K (.ref D) "__getattribute__") (some (some (.builtin "BaseException.__getattribute__"))) && (eqV (PySem.W.findIn K (.ref D) "__getattr__") (some none) && (decide (PySem.W.subIn K (.ref D) (.type "BaseException") = some true) && (PySem.W.hasDictIn K D &&
  (eqV (PySem.W.findIn K (.ref D) "__class__") (some (some (.builtin "object.__class__"))) && (eqV (PySem.W.specialIn K (.builtin "object.__class__") "__get__") (some (some (.builtin "getset_descriptor.__get__"))) && (decide (PySem.W.takesIn K (.builtin "object.__class__") = some true) && (decide (PySem.W.mroIn K D (.type "object") = some true) && (PySem.W.clsIn K D).isSome)))))))
theorem excCB_ok {K : PySem.W.Frag} {D : Addr} (h : excCB K D = true) : ExcC K D ∧ (PySem.W.clsIn K D).isSome = true ∧ XfC K D := by
  obtain ⟨h1, h⟩ := ba h
  obtain ⟨h2, h⟩ := ba h
  obtain ⟨h3, h⟩ := ba h
  obtain ⟨h4, h⟩ := ba h
  obtain ⟨h5, h⟩ := ba h
  obtain ⟨h6, h⟩ := ba h
  obtain ⟨h7, h⟩ := ba h
  obtain ⟨h8, h9⟩ := ba h
  exact ⟨⟨He.eqO_ok h1, He.eqO_ok h2, of_decide_eq_true h3, h4, He.eqO_ok h5, He.eqO_ok h6, of_decide_eq_true h7, of_decide_eq_true h8⟩, h9, ⟨He.eqO_ok h1, He.eqO_ok h2, of_decide_eq_true h3, h4⟩⟩
/-- the class's object -/
def oexO (C : Addr) : Obj → Bool
  | ⟨.type t, _, .cls cd, sl⟩ => decide (t = "type") && (match cd.mro, sl.toList with
    | .ref C' :: bm, [_, _, _, _, some (.builtin n), _] => decide (C' = C) && (decide (n = "ValueError.__new__") && (!cd.hasDel && (cd.hasDict && PySem.HandSPX.refsVE bm)))
    | _, _ => false)
  | _ => false
def oexB (K : PySem.W.Frag) (C : Addr) : Bool := (match K.lookup C with
  | some o => oexO C o
  | none => false) && (eqV (PySem.W.findIn K (.ref C) "__setattr__") (some (some (.builtin "object.__setattr__"))) && (decide (PySem.W.subIn K (.ref C) (.type "BaseException") = some true) && (decide (PySem.W.typeIn K (.ref C) = some (.type "type")) && PySem.W.keepIn K (.ref C))))
theorem oexB_ok {K : PySem.W.Frag} {C : Addr} (h : oexB K C = true) : OexC K C := by
  obtain ⟨h1, h⟩ := ba h
  obtain ⟨h2, h⟩ := ba h
  obtain ⟨h3, h⟩ := ba h
  obtain ⟨h4, h5⟩ := ba h
  refine ⟨?_, He.eqO_ok h2, of_decide_eq_true h3, of_decide_eq_true h4, h5⟩
  split at h1
  rotate_left
  · cases h1
  rename_i o q
  unfold oexO at h1
  split at h1
  rotate_left
  · cases h1
  rename_i t d cd sl
  obtain ⟨e1, h1⟩ := ba h1
  have e1 := of_decide_eq_true e1
  subst e1
  split at h1
  rotate_left
  · cases h1
  rename_i C' bm k0 k1 k2 k3 n k5 em es
  obtain ⟨_, h1⟩ := ba h1
  obtain ⟨e2, h1⟩ := ba h1
  obtain ⟨e3, h1⟩ := ba h1
  obtain ⟨e4, h1⟩ := ba h1
  obtain ⟨e5, e6⟩ := ba h1
  have e2 := of_decide_eq_true e2
  have e3 := of_decide_eq_true e3
  subst e2 e3
  obtain ⟨c1, c2, c3, c4, c5, c6, c7, c8, c9, c10, c11⟩ := cd
  simp only at em e4 e5
  have e4 : c11 = false := by simpa using e4
  subst em e4 e5
  have esl : sl = #[k0, k1, k2, k3, some (.builtin "ValueError.__new__"), k5] := by
    rw [← Array.toArray_toList (xs := sl), es]
  subst esl
  exact ⟨_, _, _, _, _, _, _, _, _, d, k0, k1, k2, k3, k5, q, e6⟩
end WS
set_option maxRecDepth 100000
set_option maxHeartbeats 4000000
/-! D37: own exceptions' __init__, the def that catches: by their text. -/
namespace WS
open PySem PySem.Spec PyProof.Rows L2
/-! ### every parameter is given -/
def fullB (ps : List Str) (m : Nat) : Bool := match tokP ps ps.length [] m with
  | some bs => decide (bs.map (·.1) = ps) && decide (bs.map (·.2) = (List.range ps.length).map Sum.inl)
  | none => false
theorem binds_full {K : PySem.W.Frag} {x qual : Str} {params : Arguments} {body : List Stmt} {scope : Scope} {dvs : List V} {kws : List (Str × V)} {f : Addr} {fd : FuncData} {ps : List Str} {s : Shared} {us : List Value} (F : FunD K x qual params body scope dvs kws f fd)
    (hp : plainPs params = true) (hps : params.args.map (·.arg) = ps) (hb : fullB ps dvs.length = true) (X : K.In s.heap) (hl : us.length = ps.length) : BindsTo s fd ⟨us, []⟩ (ps.zip us) := by
  unfold fullB at hb
  split at hb
  rotate_left
  · cases hb
  rename_i bs ht
  obtain ⟨h1, h2⟩ := ba hb
  have h1 := of_decide_eq_true h1
  have h2 := of_decide_eq_true h2
  obtain ⟨oc, od, dV, kV, doc, pm, an, cdv, ct, osl, rfl, lk, hcd, hD, hK⟩ := F.ex
  simp only [plainPs, Bool.and_eq_true, List.isEmpty_iff, Option.isNone_iff_eq_none] at hp
  obtain ⟨⟨⟨p1, p2⟩, p3⟩, p4⟩ := hp
  have tv : ∀ its : List Value, its.length = dvs.length → bindP ps us [] its = some (ps.zip us) := by
    intro its hi
    rw [← hl, ← hi] at ht
    have q := tokP_val (ws := []) (ks := []) rfl ht
    rw [List.zip_nil_left] at q
    rw [q]
    congr 1
    rw [zip_keys (bs := bs.map fun p => (p.1, tokV Value.none (us ++ []) its p.2)) (ps := ps) (by rw [List.map_map]; exact h1)]
    rw [List.map_map]
    have e : (bs.map ((fun x => x.2) ∘ fun p => (p.1, tokV Value.none (us ++ []) its p.2))) = (bs.map (·.2)).map (tokV Value.none (us ++ []) its) := by rw [List.map_map]; rfl
    rw [e, h2, List.map_map, ← hl]
    congr 1
    rw [List.append_nil]
    exact range_getD Value.none us
  rcases hD with ⟨e1, e2⟩ | ⟨_, T, o, its, m, rfl, lT, oT, rT⟩
  · subst e1 e2
    obtain ⟨k, e1, e2⟩ := bind_gen (fd := PySem.W.fnOf x qual params body scope .none kV doc pm an cdv ct) p1 hps p2 p3 p4 (tv [] rfl)
    refine BindsTo.of_looks fun M => ?_
    rw [e1]
    have e : (seqItems? Value.none >>= k) = k none := by
      show (pure none >>= k) = _
      rw [pure_bind]
    show PySem.W.Looks M s.heap (seqItems? Value.none >>= k) _
    rw [e]
    exact PySem.W.Looks.of_pure (e2 none rfl)
  · obtain ⟨k, e1, e2⟩ := bind_gen (fd := PySem.W.fnOf x qual params body scope (.ref T) kV doc pm an cdv ct) p1 hps p2 p3 p4 (tv its rT.length.symm)
    refine BindsTo.of_looks fun M => ?_
    rw [e1]
    exact looks_items X lT oT (.of_pure (e2 _ (by simp)))
/-! ### an exception's __init__ -/
def visB (sc : Scope) (x : Str) : Bool := (decide (sc.names.lookup x = some .local) || decide (sc.names.lookup x = some .cell)) && (!(x == ("__debug__" : Str)) && !(x == ("__classdict__" : Str)))
theorem visB_ok {sc : Scope} {x : Str} (h : visB sc x = true) : Vis sc x ∧ (x == ("__debug__" : Str)) = false ∧ (x == ("__classdict__" : Str)) = false := by
  obtain ⟨h1, h⟩ := ba h
  obtain ⟨h2, h3⟩ := ba h
  refine ⟨?_, by simpa using h2, by simpa using h3⟩
  rcases Bool.or_eq_true_iff.mp h1 with q | q
  · exact .inl (of_decide_eq_true q)
  · exact .inr (.inl (of_decide_eq_true q))
def stB (N : List Str) (sc : Scope) (self : Str) : List Stmt → List Str → Nat → Bool
  | [], [], _ => true
  | .Assign [.Attribute (.Name s _) f _] (.Name y _) _ :: r, g :: gs, i => (decide (s = self) && (decide (f = g) && (decide (N[i]? = some y) && visB sc y))) && stB N sc self r gs (i + 1)
  | _, _, _ => false
def initB (x0 : Str) (d : DD) (fs : List Str) : Bool := match d.N, d.body with
  | self :: _, .Expr (.Call (.Attribute (.Name r _) m p2) [.Name s _, .Constant (.str _) _ _] [] p5) _ :: sts => (p2.endLine == p5.line) && (
    (decide (r = x0) && (decide (m = "__init__") && (decide (s = self) && (decide (d.scope.names.lookup r = some .globalImplicit) && visB d.scope self)))) && (stB d.N d.scope self sts fs 1 && (scB d.N d.ps d.scope && (fullB d.ps d.dd.length && (plainPs d.params && decide (d.ps.length = fs.length + 1 ∧ fs ≠ [] ∧ fs.length ≤ 900))))))
  | _, _ => false
def rootB (K : PySem.W.Frag) (x : Str) : Bool := (He.Fa.glo x).ok K && (eqV (PySem.W.specialIn K (.ref (He.ga K x)) "__getattribute__") (some (some (.builtin "type.__getattribute__"))) && (PySem.W.readsIn K (He.ga K x) (.type "type") && ((match PySem.W.findCls K (.ref (He.ga K x)) (.type "type") "__init__" with
  | some (.val (.builtin s)) => decide (s = "ValueError.__init__")
  | _ => false) && !(x == ("__debug__" : Str)))))
theorem st_ok {X : Cx} {C : Addr} {N : List Str} {sc : Scope} {self : Str} (hN : X.N = N) (hs : X.env.scope = sc) (h0 : N[0]? = some self) (hv : visB sc self = true) : ∀ {sts : List Stmt} {fs : List Str} {i : Nat}, stB N sc self sts fs i = true → (∀ f ∈ fs, PySem.W.findIn X.K (.ref C) f = some none) → Stores X X.K C sts (fs.zipIdx i)
  | [], [], i, _, _ => .nil
  | [], _ :: _, _, h, _ => by cases h
  | .Assign [.Attribute (.Name s p1) f p2] (.Name y p3) p4 :: r, g :: gs, i, h, hf => by
    obtain ⟨h1, h2⟩ := ba h
    obtain ⟨e1, h1⟩ := ba h1
    obtain ⟨e2, h1⟩ := ba h1
    obtain ⟨e3, e4⟩ := ba h1
    have e1 := of_decide_eq_true e1
    have e2 := of_decide_eq_true e2
    have e3 := of_decide_eq_true e3
    subst e1 e2
    obtain ⟨v1, v2, v3⟩ := visB_ok hv
    obtain ⟨w1, w2, w3⟩ := visB_ok e4
    rw [List.zipIdx_cons]
    exact .cons (ps_ost (pe_var (by rw [hN]; exact h0) (by rw [hs]; exact v1) v2 v3) (pe_var (by rw [hN]; exact e3) (by rw [hs]; exact w1) w2 w3) rfl) (hf _ (by simp)) (st_ok hN hs h0 hv h2 fun q hq => hf q (by simp [hq]))
  | _ :: _, [], _, h, _ => by
    unfold stB at h
    split at h <;> first | cases h | (rename_i z _; cases z) | skip
    all_goals first | (rename_i z; cases z; done) | contradiction
theorem zipIdx_lt {α : Type} {l : List α} {k : Nat} {p : α × Nat} (h : p ∈ l.zipIdx k) : p.2 < k + l.length := (List.snd_lt_add_of_mem_zipIdx h)
theorem init_ok {G : Lk} {k : Nat} {x0 : Str} {d : DD} {fs : List Str} {C : Addr} (hd : initB x0 d fs = true) (hr : rootB G.K x0 = true) (hm : G.mg x0 = some (.ref (He.ga G.K x0))) (T : OexC G.K C) (hf : ∀ f ∈ fs, PySem.W.findIn G.K (.ref C) f = some none)
    (F : FunD G.K d.name d.qual d.params d.body d.scope (d.dvs G.K) [] (d.at_.ad G.K) (fdAt G.K (d.at_.ad G.K))) :
    d.ps.length = fs.length + 1 ∧ FnG G (k + 1) (d.at_.ad G.K) (fdAt G.K (d.at_.ad G.K)) d.ps (spX C d.ps.length (fs.zipIdx 1)) ∧ ∀ (s : Shared) (us : List Value), G.K.In s.heap → us.length = d.ps.length → BindsTo s (fdAt G.K (d.at_.ad G.K)) ⟨us, []⟩ (d.ps.zip us) := by
  unfold initB at hd
  split at hd
  rotate_left
  · cases hd
  rename_i self rN r p1 m p2 s p3 sx j p4 p5 p6 sts eN eb
  obtain ⟨hline, hd⟩ := ba hd
  obtain ⟨h1, hd2⟩ := ba hd
  clear hd
  obtain ⟨e1, h1⟩ := ba h1
  obtain ⟨e2, h1⟩ := ba h1
  obtain ⟨e3, h1⟩ := ba h1
  obtain ⟨e4, e5⟩ := ba h1
  have e1 := of_decide_eq_true e1
  have e2 := of_decide_eq_true e2
  have e3 := of_decide_eq_true e3
  have e4 := of_decide_eq_true e4
  subst e1 e2 e3
  obtain ⟨f1, hd2⟩ := ba hd2
  obtain ⟨f2, hd2⟩ := ba hd2
  obtain ⟨f3, hd2⟩ := ba hd2
  obtain ⟨f4, f5⟩ := ba hd2
  obtain ⟨g1, g2, g3⟩ := of_decide_eq_true f5
  refine ⟨g1, ?_, fun sh us X hl => binds_full F f4 rfl (by rw [dvs_len]; exact f3) X hl⟩
  obtain ⟨r1, hr⟩ := ba hr
  obtain ⟨r2, hr⟩ := ba hr
  obtain ⟨r3, hr⟩ := ba hr
  obtain ⟨r4, r5⟩ := ba hr
  have r4' : PySem.W.findCls G.K (.ref (He.ga G.K r)) (.type "type") "__init__" = some (.val (.builtin "ValueError.__init__")) := by
    split at r4
    · rename_i s q
      rw [q, of_decide_eq_true r4]
    · cases r4
  rw [eb] at F
  obtain ⟨v1, v2, v3⟩ := visB_ok e5
  have h0 : d.N[0]? = some s := by rw [eN]; rfl
  refine exc_init (m := sx) (sts := sts) (fl := fs.zipIdx 1) T F (scB_ok f2) (fun X W c hN hs hfn => ?_) (fun env => rfl) (fun X W c hN hs hfn => ?_) (fun p hp => ?_) (fun z => ?_) (by simpa using g3)
  · refine pe_einitO (C0 := He.ga G.K r) (mc := .type "type") (by show X.env.scope.names.lookup r = _; rw [hs]; exact e4) (by rw [c.hm]; exact hm) (by simpa using r5) (by rw [c.hK]; exact He.eqO_ok r2) (by rw [c.hK]; exact r3) (by rw [c.hK]; exact r4')
      (pa_cons (pe_var (by rw [hN]; exact h0) (by rw [hs]; exact v1) v2 v3) (pa_cons pe_str pa_nil rfl) rfl) (pl := plainOf (.Name r p1) X.env) ?_ rfl rfl
    have q : ∀ ov, methodCall (.Name r p1) "__init__" p2 p5 X.env ov ([.Name s p3, .Constant (.str sx) j p4] : List Expr).length (backTo p5 (starEach [.Name s p3, .Constant (.str sx) j p4] X.env)) (backToKw p5 (keywordEach [] X.env)) = (do
        let (f, first) ← holding [ov] (getMethod ov "__init__" (plainOf (.Name r p1) X.env))
        callWith p5 f first (backTo p5 (starEach [.Name s p3, .Constant (.str sx) j p4] X.env)) (backToKw p5 (keywordEach [] X.env))) := fun ov => mcall_line rfl hline
    show (do
      let ov ← eval (.Name r p1) X.env
      standAt p2.atName
      methodCall (.Name r p1) "__init__" p2 p5 X.env ov _ (backTo p5 (starEach [.Name s p3, .Constant (.str sx) j p4] X.env)) (backToKw p5 (keywordEach [] X.env))) = _
    refine congrArg (fun k => eval (.Name r p1) X.env >>= k) (funext fun ov => ?_)
    exact congrArg (fun k => standAt p2.atName >>= k) (funext fun _ => q ov)
  · exact st_ok hN hs h0 e5 f1 (fun f hf' => by rw [c.hK]; exact hf f hf')
  · have := zipIdx_lt hp
    omega
  · have : (fs.zipIdx 1).length = 0 := by rw [z]; rfl
    rw [List.length_zipIdx] at this
    exact g2 (List.eq_nil_of_length_eq_zero this)
end WS
set_option maxRecDepth 100000
set_option maxHeartbeats 4000000
/-! D38: the link by one look. -/
namespace WS
open PySem PySem.Spec PyProof.Rows L2
/-! ### the def that catches -/
def catB (d : DD) (e : Str) : Bool := match d.body with
  | [.Assign [.Name y _] (.Constant .none _ _) _, .Try [.Expr (.Call (.Name a _) [] [] _) _] [.ExceptHandler (some (.Name e' _)) (some n) [.Assign [.Name y1 _] (.Name n1 _) _] _] [] [] _, .Return (some (.Name y2 _)) _] =>
    (match d.N.idxOf? n, d.N.idxOf? y with
      | some i, some j => decide (i ≠ 0 ∧ j ≠ 0 ∧ i ≠ j)
      | _, _ => false) &&
    (decide (y1 = y ∧ y2 = y ∧ n1 = n ∧ e' = e ∧ d.ps = [a] ∧ d.N[0]? = some a ∧ d.scope.names.lookup n = some .local ∧ d.scope.names.lookup y = some .local ∧ d.scope.names.lookup e = some .globalImplicit ∧ d.name = d.qual) &&
    (visB d.scope a && (visB d.scope n && (visB d.scope y && (scB d.N d.ps d.scope && (fullB d.ps d.dd.length && plainPs d.params))))))
  | _ => false
theorem cat_ok {G : Lk} {P : Pg} {gi ki : Nat} {e x : Str} {d : DD} (hc : catB d e = true) (hx : d.name = x) (cat : P.catches gi = some ki) (mg : G.mg x = some (.ref (G.fa gi))) (db : (x == ("__debug__" : Str)) = false) (up : ∀ c, (P.up c).contains ki = true → PySem.W.exmOne G.K (.ref (G.xa c)) (.ref (G.xa ki)) = some true)
    (F : FunD G.K d.name d.qual d.params d.body d.scope (d.dvs G.K) [] (G.fa gi) (fdAt G.K (G.fa gi))) (hme : G.mg e = some (.ref (G.xa ki))) (hde : (e == ("__debug__" : Str)) = false) : CatF G P gi ki x := by
  unfold catB at hc
  split at hc
  rotate_left
  · cases hc
  rename_i y p0 k1 p1 p2 a p3 p4 p5 e' p6 n y1 p7 n1 p8 p9 pa pb y2 pc pd eb
  obtain ⟨h1, hc2⟩ := ba hc
  clear hc
  obtain ⟨h2, hc2⟩ := ba hc2
  obtain ⟨v1, hc2⟩ := ba hc2
  obtain ⟨v2, hc2⟩ := ba hc2
  obtain ⟨v3, hc2⟩ := ba hc2
  obtain ⟨v4, hc2⟩ := ba hc2
  obtain ⟨v5, v6⟩ := ba hc2
  obtain ⟨q1, q2, q3, q4, q5, q6, q7, q8, q9, q10⟩ := of_decide_eq_true h2
  subst q1 q2 q3 q4
  have hij : ∃ i j, d.N.idxOf? n1 = some i ∧ d.N.idxOf? y2 = some j ∧ i ≠ 0 ∧ j ≠ 0 ∧ i ≠ j := by
    split at h1
    · rename_i i j z1 z2
      exact ⟨i, j, z1, z2, of_decide_eq_true h1⟩
    · cases h1
  obtain ⟨i, j, i1, j1, i0, j0, ij⟩ := hij
  obtain ⟨w1, w2, w3⟩ := visB_ok v1
  obtain ⟨_, u2, u3⟩ := visB_ok v2
  obtain ⟨_, t2, t3⟩ := visB_ok v3
  have bf : L2.Binds G.K (fdAt G.K (G.fa gi)) [a] [] := fun s us X hl => by
    rw [List.append_nil] at hl ⊢
    rw [← q5]
    exact binds_full F v6 rfl (by rw [dvs_len]; exact v5) X (by rw [q5]; exact hl)
  have kp := F.kp
  obtain ⟨oc, od, dV, kV, doc, pm, an, cdv, ct, osl, efd, lk, hcd, hD, hK⟩ := F.ex
  rw [← q10, hx] at efd
  rw [efd] at lk bf
  rw [← q10, hx] at hcd
  refine ⟨cat, mg, kp, db, up, ⟨d.params, d.body, d.scope, dV, kV, doc, pm, cdv, ct, oc, an, od, osl, d.N, a, lk, hcd, bf, by rw [← q5]; exact scB_ok v4, q6, w1, w2, w3, fun X q hm hk => ?_⟩⟩
  rw [eb]
  exact keep_gives (i := i) (j := j) q9 (by rw [hm]; exact hme) hde (scB_ok v4).nd q6 (idx_get i1) (idx_get j1) i0 j0 ij q7 q8 u2 u3 t2 t3
/-! ### kinds -/
def tyK (ca xa : Nat → Addr) : DV → Value
  | .non => .type "NoneType"
  | .bl _ => .type "bool"
  | .int _ => .type "int"
  | .str _ => .type "str"
  | .tup _ => .type "tuple"
  | .lst _ => .type "list"
  | .dct _ => .type "dict"
  | .ins c _ => .ref (ca c)
  | .exc c _ => .ref (xa c)
  | .scr _ => .type "list"
  | .loc _ => .none
def clK (ca xa : Nat → Addr) : Ty → Value
  | .int => .type "int"
  | .bool => .type "bool"
  | .str => .type "str"
  | .list => .type "list"
  | .tuple => .type "tuple"
  | .dict => .type "dict"
  | .own c => .ref (ca c)
  | .exc c => .ref (xa c)
  | .valueError => .type "ValueError"
def baseD : List DV := [.non, .bl true, .int 0, .str "", .tup [], .lst [], .dct [], .scr []]
def baseT : List Ty := [.int, .bool, .str, .list, .tuple, .dict, .valueError]
def kitB (K : PySem.W.Frag) (ca xa : Nat → Addr) (up : Nat → List Nat) (nc nx : Nat) : Bool :=
  (baseD ++ ((List.range nc).map (DV.ins · []) ++ (List.range nx).map (DV.exc · []))).all fun d => (baseT ++ ((List.range nc).map Ty.own ++ (List.range nx).map Ty.exc)).all fun t => match isTy up d t with
    | some b => decide (PySem.W.kitOne K (tyK ca xa d) (clK ca xa t) = some b)
    | none => true
theorem kitB_ok {K : PySem.W.Frag} {ca xa : Nat → Addr} {up : Nat → List Nat} {nc nx : Nat} (h : kitB K ca xa up nc nx = true) {d : DV} {t : Ty} {b : Bool} (e : isTy up d t = some b) (h1 : ∀ c fs, d = .ins c fs → c < nc) (h2 : ∀ c fs, d = .exc c fs → c < nx) (h3 : ∀ c, t = .own c → c < nc) (h4 : ∀ c, t = .exc c → c < nx) :
    PySem.W.kitOne K (tyK ca xa d) (clK ca xa t) = some b := by
  have ht : t ∈ baseT ++ ((List.range nc).map Ty.own ++ (List.range nx).map Ty.exc) := by
    cases t with
    | own c => simp [h3 c rfl]
    | exc c => simp [h4 c rfl]
    | _ => simp [baseT]
  have go : ∀ r, r ∈ baseD ++ ((List.range nc).map (DV.ins · []) ++ (List.range nx).map (DV.exc · [])) → isTy up r t = isTy up d t → tyK ca xa r = tyK ca xa d → PySem.W.kitOne K (tyK ca xa d) (clK ca xa t) = some b := by
    intro r hr e1 e2
    have q := List.all_eq_true.mp (List.all_eq_true.mp h r hr) t ht
    rw [e1, e] at q
    rw [← e2]
    exact of_decide_eq_true q
  cases d with
  | non => exact go .non (by simp [baseD]) rfl rfl
  | bl v => exact go (.bl true) (by simp [baseD]) (by cases t <;> rfl) rfl
  | int v => exact go (.int 0) (by simp [baseD]) (by cases t <;> rfl) rfl
  | str v => exact go (.str "") (by simp [baseD]) (by cases t <;> rfl) rfl
  | tup v => exact go (.tup []) (by simp [baseD]) (by cases t <;> rfl) rfl
  | lst v => exact go (.lst []) (by simp [baseD]) (by cases t <;> rfl) rfl
  | dct v => exact go (.dct []) (by simp [baseD]) (by cases t <;> rfl) rfl
  | scr v => exact go (.scr []) (by simp [baseD]) (by cases t <;> rfl) rfl
  | ins c fs => exact go (.ins c []) (by simp [h1 c fs rfl]) (by cases t <;> rfl) rfl
  | exc c fs => exact go (.exc c []) (by simp [h2 c fs rfl]) (by cases t <;> rfl) rfl
  | loc n => cases t <;> cases e
/-! ### the look -/
def gloB (K : PySem.W.Frag) (q : Str × DV) : Bool := scal q.2 && ((match PySem.W.nsIn K mainGlobals q.1 with
  | some (some u) => He.relB (dvV q.2) u
  | _ => false) && !(q.1 == ("__debug__" : Str)))
def exB (Δ : Desc) (K : PySem.W.Frag) (e : ExD) : Bool := (He.Fa.glo e.x).ok K && (!(e.x == ("__debug__" : Str)) && (excCB K (He.ga K e.x) && ((Δ.flds.all fun y => eqV (PySem.W.findIn K (.ref (He.ga K e.x)) y) (some none)) && (match e.init with
  | none => (e.fs.isEmpty && PySem.W.excIn K (He.ga K e.x) bmVE "ValueError.__new__") && PySem.W.keepIn K (.ref (He.ga K e.x))
  | some d => oexB K (He.ga K e.x) && (eqV (PySem.W.findIn K (.ref (He.ga K e.x)) "__init__") (some (some (.ref (d.at_.ad K)))) && (decide (PySem.W.typeIn K (.ref (d.at_.ad K)) = some (.type "function")) && (initB Δ.root d e.fs && (rootB K Δ.root && e.fs.all fun y => eqV (PySem.W.findIn K (.ref (He.ga K e.x)) y) (some none)))))))))
/-- a method: a def of the class -/
def methB (K : PySem.W.Frag) (C : Addr) (x : Str) (f : Addr) : Bool := eqV (PySem.W.findIn K (.ref C) x) (some (some (.ref f))) && PySem.W.isFn K (.ref f)
def clB (Δ : Desc) (K : PySem.W.Frag) (c : Str × Cl) : Bool := clsB K c.1 && (mkB K (He.ga K c.1) (Δ.fa K c.2.init) && ((c.2.props.all fun q => propB K (He.ga K c.1) q.1 (Δ.fa K q.2)) && ((c.2.meths.all fun q => methB K (He.ga K c.1) q.1 (Δ.fa K q.2)) && Δ.flds.all fun y => (c.2.props.lookup y).isSome || eqV (PySem.W.findIn K (.ref (He.ga K c.1)) y) (some none))))
def defB (Δ : Desc) (K : PySem.W.Frag) (d : DD) : Bool := (match d.at_ with
  | .g x => (He.Fa.glo x).ok K && (!(x == ("__debug__" : Str)) && decide (d.name = x ∧ d.qual = x))
  | _ => true) && (match d.cat with
  | some k => (match Δ.exs[k]? with
    | some e => catB d e.x
    | none => false)
  | none => true)
def upB (Δ : Desc) (K : PySem.W.Frag) : Bool := Δ.defs.all fun d => match d.cat with
  | some k => (List.range Δ.exs.length).all fun c => !((Δ.pg.up c).contains k) || decide (PySem.W.exmOne K (.ref (Δ.xa K c)) (.ref (Δ.xa K k)) = some true)
  | none => true
def Desc.lnkB (Δ : Desc) (K : PySem.W.Frag) : Bool := ((K.lookup sysModules).isSome && bltNames.all fun x => (He.Fa.free x).ok K) && ((Δ.all.all fun d => d.okB K) && ((Δ.defs.all fun d => defB Δ K d) && ((Δ.cls.all fun c => clB Δ K c) && ((Δ.exs.all fun e => exB Δ K e) && (kitB K (Δ.ca K) (Δ.xa K) Δ.pg.up Δ.cls.length Δ.exs.length && (upB Δ K && ((Δ.glo.all fun q => gloB K q) && decide ((Δ.tf.map fun p => (He.cT K p).2).Nodup))))))))
/-- what the text alone decides -/
def Desc.statB (Δ : Desc) : Bool := (Δ.defs.all fun d => scB d.N d.ps d.scope && (plainPs d.params && (match d.at_, d.ll with
  | .g _, _ => true
  | _, false => true
  | _, true => false))) && (Δ.cls.all fun c => decide (c.2.init < Δ.defs.length) && ((match Δ.defs[c.2.init]? with
    | some d => decide (d.cat = none)
    | none => false) && ((c.2.props.all fun q => match Δ.defs[q.2]? with
      | some d => decide (d.ps.length = 1 ∧ d.cat = none) && fullB d.ps d.dd.length
      | none => false) && c.2.meths.all fun q => match Δ.defs[q.2]? with
      | some d => (decide (d.cat = none) && fullB d.ps d.dd.length) && (match dunN q.1 with
        | some n => decide (d.ps.length = n)
        | none => true)
      | none => false)))
end WS
set_option maxRecDepth 100000
set_option maxHeartbeats 4000000
/-! D39: the link, the levels. -/
namespace WS
open PySem PySem.Spec PyProof.Rows L2
theorem look_mem {α : Type} {x : Str} {v : α} {l : List (Str × α)} (h : l.lookup x = some v) : (x, v) ∈ l := PySem.mem_of_lookup h
theorem fns_mem {x : Str} {i : Nat} : ∀ {ds : List DD} {k : Nat}, (x, i) ∈ fnsFrom ds k → ∃ d, k ≤ i ∧ ds[i - k]? = some d ∧ d.at_ = .g x ∧ d.cat = none
  | [], _, h => by cases h
  | d :: r, k, h => by
    have rest : (x, i) ∈ fnsFrom r (k + 1) → ∃ d', k ≤ i ∧ (d :: r)[i - k]? = some d' ∧ d'.at_ = .g x ∧ d'.cat = none := fun h => by
      obtain ⟨d', h1, h2, h3⟩ := fns_mem h
      refine ⟨d', by omega, ?_, h3⟩
      rw [show i - k = (i - (k + 1)) + 1 by omega, List.getElem?_cons_succ]
      exact h2
    unfold fnsFrom at h
    split at h
    · rename_i y e1 e2
      rcases List.mem_cons.mp h with h | h
      · cases h
        exact ⟨d, Nat.le_refl _, by simp, e1, e2⟩
      · exact rest h
    · exact rest h
theorem cats_mem {x : Str} {i : Nat} : ∀ {ds : List DD} {k : Nat}, (x, i) ∈ catsFrom ds k → ∃ d c, k ≤ i ∧ ds[i - k]? = some d ∧ d.at_ = .g x ∧ d.cat = some c
  | [], _, h => by cases h
  | d :: r, k, h => by
    have rest : (x, i) ∈ catsFrom r (k + 1) → ∃ d' c, k ≤ i ∧ (d :: r)[i - k]? = some d' ∧ d'.at_ = .g x ∧ d'.cat = some c := fun h => by
      obtain ⟨d', c, h1, h2, h3⟩ := cats_mem h
      refine ⟨d', c, by omega, ?_, h3⟩
      rw [show i - k = (i - (k + 1)) + 1 by omega, List.getElem?_cons_succ]
      exact h2
    unfold catsFrom at h
    split at h
    · rename_i y c e1 e2
      rcases List.mem_cons.mp h with h | h
      · cases h
        exact ⟨d, c, Nat.le_refl _, by simp, e1, e2⟩
      · exact rest h
    · exact rest h
theorem num_mem {α : Type} {f : α → Str} {x : Str} {i : Nat} : ∀ {ds : List α} {k : Nat}, (x, i) ∈ numFrom f ds k → ∃ d, k ≤ i ∧ ds[i - k]? = some d ∧ f d = x
  | [], _, h => by cases h
  | d :: r, k, h => by
    unfold numFrom at h
    rcases List.mem_cons.mp h with h | h
    · cases h
      exact ⟨d, Nat.le_refl _, by simp, rfl⟩
    · obtain ⟨d', h1, h2, h3⟩ := num_mem h
      refine ⟨d', by omega, ?_, h3⟩
      rw [show i - k = (i - (k + 1)) + 1 by omega, List.getElem?_cons_succ]
      exact h2
theorem exz_mem {i : Nat} : ∀ {ds : List ExD} {k : Nat}, i ∈ exzFrom ds k → ∃ e, k ≤ i ∧ ds[i - k]? = some e ∧ e.init = none
  | [], k, h => by cases h
  | e :: r, k, h => by
    have rest : i ∈ exzFrom r (k + 1) → ∃ e', k ≤ i ∧ (e :: r)[i - k]? = some e' ∧ e'.init = none := fun h => by
      obtain ⟨d', h1, h2, h3⟩ := exz_mem h
      refine ⟨d', by omega, ?_, h3⟩
      rw [show i - k = (i - (k + 1)) + 1 by omega]
      exact h2
    unfold exzFrom at h
    cases hd : e.init with
    | some d => rw [hd] at h; exact rest h
    | none =>
      rw [hd] at h
      rcases List.mem_cons.mp h with z | z
      · subst z
        exact ⟨e, Nat.le_refl _, by simp, hd⟩
      · exact rest z
theorem exf_mem {i : Nat} : ∀ {ds : List ExD} {k : Nat}, i ∈ exfFrom ds k → ∃ e d, k ≤ i ∧ ds[i - k]? = some e ∧ e.init = some d
  | [], _, h => by cases h
  | e :: r, k, h => by
    have rest : i ∈ exfFrom r (k + 1) → ∃ e' d, k ≤ i ∧ (e :: r)[i - k]? = some e' ∧ e'.init = some d := fun h => by
      obtain ⟨d', c, h1, h2, h3⟩ := exf_mem h
      refine ⟨d', c, by omega, ?_, h3⟩
      rw [show i - k = (i - (k + 1)) + 1 by omega, List.getElem?_cons_succ]
      exact h2
    unfold exfFrom at h
    split at h
    · rename_i d e1
      rcases List.mem_cons.mp h with h | h
      · subst h
        exact ⟨e, d, Nat.le_refl _, by simp, e1⟩
      · exact rest h
    · exact rest h
section
variable {Δ : Desc} {Pr : Program} {w : World} {K : PySem.W.Frag} {mg : Str → Option Value} {base : Heap}
/-- what is known behind the top -/
structure Fac (Δ : Desc) (K : PySem.W.Frag) (mg : Str → Option Value) (base : Heap) : Prop where
  kin : K.In base
  ns : base.Ns mainGlobals mg
  lnk : Δ.lnkB K = true
  stat : Δ.statB = true
  fns : ∀ d ∈ Δ.all, fnWAt K (d.at_.ad K) = d.val
  code : (Δ.defs.map fun d => match d.cat with
    | some _ => some []
    | none => trB Δ.tb d.N d.mu d.kr d.ll 100 d.scope d.body) = Δ.code.map some
  tabs : ∀ p ∈ Δ.tf, LamX.TabB base mg (He.cT K p).1 (He.cT K p).2
theorem Fac.defs (A : Fac Δ K mg base) {f : Nat} {d : DD} (h : Δ.defs[f]? = some d) : FunD K d.name d.qual d.params d.body d.scope (d.dvs K) [] (d.at_.ad K) (fdAt K (d.at_.ad K)) ∧ defB Δ K d = true ∧ FnScope d.N d.ps d.scope ∧ plainPs d.params = true ∧ d.dfB K = true ∧ (d.ll = true → ∃ x, d.at_ = .g x) := by
  have hm := List.mem_of_getElem? h
  obtain ⟨_, l⟩ := ba A.lnk
  obtain ⟨l1, l⟩ := ba l
  obtain ⟨l2, _⟩ := ba l
  have hma : d ∈ Δ.all := List.mem_append_left _ hm
  obtain ⟨s1, _⟩ := ba A.stat
  obtain ⟨s2, s3⟩ := ba (List.all_eq_true.mp s1 d hm)
  obtain ⟨s4, s7⟩ := ba s3
  obtain ⟨fu, s6⟩ := DD.funD (A.fns d hma) (List.all_eq_true.mp l1 d hma)
  refine ⟨fu, List.all_eq_true.mp l2 d hm, scB_ok s2, s4, s6, fun hl => ?_⟩
  rw [hl] at s7
  cases hat : d.at_ with
  | g x => exact ⟨x, rfl⟩
  | m C x => rw [hat] at s7; cases s7
  | p C x => rw [hat] at s7; cases s7
theorem Fac.glo (A : Fac Δ K mg base) {x : Str} (h : (He.Fa.glo x).ok K = true) : mg x = some (.ref (He.ga K x)) := He.glo_ok A.kin A.ns h
theorem Fac.defG (A : Fac Δ K mg base) {f : Nat} {d : DD} {x : Str} (h : Δ.defs[f]? = some d) (e : d.at_ = .g x) : mg x = some (.ref (Δ.fa K f)) ∧ (x == ("__debug__" : Str)) = false ∧ d.name = x ∧ d.qual = x := by
  obtain ⟨_, q, _⟩ := A.defs h
  obtain ⟨q1, _⟩ := ba q
  rw [e] at q1
  obtain ⟨q2, q3⟩ := ba q1
  obtain ⟨q4, q5⟩ := ba q3
  obtain ⟨q6, q7⟩ := of_decide_eq_true q5
  refine ⟨?_, by simpa using q4, q6, q7⟩
  rw [A.glo q2]
  unfold Desc.fa
  rw [h]
  simp only [e, Pth.ad]
theorem Fac.cls (A : Fac Δ K mg base) {c : Nat} {k : Str × Cl} (h : Δ.cls[c]? = some k) : clB Δ K k = true := by
  obtain ⟨_, l⟩ := ba A.lnk
  obtain ⟨_, l⟩ := ba l
  obtain ⟨_, l⟩ := ba l
  obtain ⟨l1, _⟩ := ba l
  exact List.all_eq_true.mp l1 k (List.mem_of_getElem? h)
theorem Fac.exs (A : Fac Δ K mg base) {c : Nat} {e : ExD} (h : Δ.exs[c]? = some e) : exB Δ K e = true := by
  obtain ⟨_, l⟩ := ba A.lnk
  obtain ⟨_, l⟩ := ba l
  obtain ⟨_, l⟩ := ba l
  obtain ⟨_, l⟩ := ba l
  obtain ⟨l1, _⟩ := ba l
  exact List.all_eq_true.mp l1 e (List.mem_of_getElem? h)
theorem Fac.li (A : Fac Δ K mg base) : LnI (Δ.lk Pr w K mg base) Δ.pg := by
  obtain ⟨l0, l⟩ := ba A.lnk
  obtain ⟨lsm, l0⟩ := ba l0
  obtain ⟨_, l⟩ := ba l
  obtain ⟨_, l⟩ := ba l
  obtain ⟨_, l⟩ := ba l
  obtain ⟨_, l⟩ := ba l
  obtain ⟨l1, _⟩ := ba l
  have lc : ∀ c, (Δ.pg.cl c).isSome = true → c < Δ.cls.length := fun c h => by
    cases q : Δ.cls[c]? with
    | none =>
      have : Δ.pg.cl c = none := by show (Δ.cls[c]?).map _ = none; rw [q]; rfl
      rw [this] at h; cases h
    | some k => exact (List.getElem?_eq_some_iff.mp q).1
  have lx : ∀ c, (Δ.pg.ex c).isSome = true → c < Δ.exs.length := fun c h => by
    cases q : Δ.exs[c]? with
    | none =>
      have : Δ.pg.ex c = none := by show (Δ.exs[c]?).map _ = none; rw [q]; rfl
      rw [this] at h; cases h
    | some k => exact (List.getElem?_eq_some_iff.mp q).1
  refine ⟨lsm, fun x hx => He.free_ok A.kin A.ns (List.all_eq_true.mp l0 x hx), fun c k h => ?_, fun c fs h => ?_, fun d t b e h1 h2 h3 h4 => ?_⟩
  · obtain ⟨k', q, _⟩ := Option.map_eq_some_iff.mp h
    have z := (clsB_ok (ba (A.cls q)).1).2.1
    show ClsT K (Δ.ca K c)
    unfold Desc.ca
    rw [q]
    exact z
  · obtain ⟨k', q, _⟩ := Option.map_eq_some_iff.mp h
    obtain ⟨_, z⟩ := ba (A.exs q)
    obtain ⟨_, z⟩ := ba z
    obtain ⟨z, _⟩ := ba z
    show ExcC K (Δ.xa K c) ∧ (PySem.W.clsIn K (Δ.xa K c)).isSome = true
    unfold Desc.xa
    rw [q]
    exact ⟨(excCB_ok z).1, (excCB_ok z).2.1⟩
  · have q := kitB_ok l1 e (fun c fs z => lc c (h1 c fs z)) (fun c fs z => lx c (h2 c fs z)) (fun c z => lc c (h3 c z)) (fun c z => lx c (h4 c z))
    have e1 : tyV (Δ.lk Pr w K mg base) d = tyK (Δ.ca K) (Δ.xa K) d := by cases d <;> rfl
    have e2 : clV (Δ.lk Pr w K mg base) t = clK (Δ.ca K) (Δ.xa K) t := by cases t <;> rfl
    rw [e1, e2]
    exact q
theorem Fac.ps (A : Fac Δ K mg base) {f : Nat} {d : DD} (h : Δ.defs[f]? = some d) : (Δ.lk Pr w K mg base).ps f = d.ps ∧ (Δ.lk Pr w K mg base).fa f = d.at_.ad K ∧ (Δ.lk Pr w K mg base).fd f = fdAt K (d.at_.ad K) := by
  have e : Δ.fa K f = d.at_.ad K := by unfold Desc.fa; rw [h]
  refine ⟨?_, e, ?_⟩
  · show (match Δ.defs[f]? with | some d => d.ps | none => []) = _
    rw [h]
  · show fdAt K (Δ.fa K f) = _
    rw [e]
/-- the defaults of a def as the link has them -/
theorem Fac.df (A : Fac Δ K mg base) {f : Nat} {d : DD} (h : Δ.defs[f]? = some d) : (d.df f).map (Δ.lk Pr w K mg base).dfl = d.dvs K := by
  unfold DD.df DD.dvs
  rw [List.map_map]
  apply List.map_congr_left
  intro q _
  show (match Δ.defs[f]? with
    | some d => dfV K d.at_ q.2 q.1
    | none => .non) = _
  rw [h]
theorem Fac.dfR (A : Fac Δ K mg base) {f : Nat} {d : DD} (h : Δ.defs[f]? = some d) {q : Df} (hq : q ∈ d.df f) (M : Addr → Prop) (H : Hp) : RepT (Δ.lk Pr w K mg base) M H q.2 ((Δ.lk Pr w K mg base).dfl q) := by
  obtain ⟨_, _, _, _, sc, _⟩ := A.defs h
  unfold DD.df at hq
  obtain ⟨r, hr, e⟩ := List.mem_map.mp hq
  subst e
  have hs := List.all_eq_true.mp sc r hr
  show RepT _ M H r.1 (match Δ.defs[f]? with
    | some d => dfV K d.at_ r.2 r.1
    | none => .non)
  rw [h]
  exact dfV_rep (G := Δ.lk Pr w K mg base) hs
theorem patS_len {ps : List Str} {dd : List Df} {n : Nat} {ks : List Str} {p : List (Nat ⊕ Df)} (h : patS (some (ps, dd)) n ks = some p) : ∃ bs, tokP ps n ks dd.length = some bs ∧ bs.map (·.1) = ps ∧ (∀ q ∈ bs, ∀ j, q.2 = .inr j → j < dd.length) ∧ p = permOf dd bs ∧ p.length = ps.length := by
  unfold patS at h
  simp only at h
  split at h
  · rename_i bs hb
    split at h
    · rename_i hc
      cases h
      refine ⟨bs, hb, hc.1, fun q hq j ej => ?_, rfl, ?_⟩
      · have := List.all_eq_true.mp hc.2 q hq
        rw [ej] at this
        exact of_decide_eq_true this
      · rw [← hc.1]
        simp [permOf]
    · cases h
  · cases h
theorem perm_dfl {dd : List Df} {bs : List (Str × (Nat ⊕ Nat))} (hj : ∀ q ∈ bs, ∀ j, q.2 = .inr j → j < dd.length) {d : Df} (h : (Sum.inr d : Nat ⊕ Df) ∈ permOf dd bs) : d ∈ dd := by
  unfold permOf at h
  obtain ⟨q, hq, e⟩ := List.mem_map.mp h
  split at e
  · cases e
  · rename_i j ej
    cases e
    have hl := hj q hq j ej
    rw [List.getD_eq_getElem?_getD, List.getElem?_eq_getElem hl]
    exact List.getElem_mem hl
theorem Fac.pt (A : Fac Δ K mg base) {f n : Nat} {ks : List Str} {p : List (Nat ⊕ Df)} (h : patOf Δ.tb f n ks = some p) : Pat (Δ.lk Pr w K mg base) f n ks p ∧ p.length = ((Δ.lk Pr w K mg base).ps f).length := by
  unfold patOf at h
  cases hd : Δ.defs[f]? with
  | none =>
    have e : Δ.tb.sig f = none := by show (Δ.defs[f]?).map _ = none; rw [hd]; rfl
    rw [e] at h
    cases h
  | some d =>
    have e : Δ.tb.sig f = some (d.ps, d.df f) := by show (Δ.defs[f]?).map _ = _; rw [hd]; rfl
    rw [e] at h
    obtain ⟨bs, t1, t2, t3, t4, t5⟩ := patS_len h
    obtain ⟨F, _, _, pl, sc, _⟩ := A.defs hd
    obtain ⟨p1, p2, p3⟩ := A.ps (Pr := Pr) (w := w) hd
    subst t4
    refine ⟨⟨fun vs zs xs us ws s X hv hz hn hzl hx => ?_, fun d' hd' M H => ?_⟩, by rw [p1]; exact t5⟩
    · rw [p1, p3]
      exact bindsTo_of F pl rfl (A.df (Pr := Pr) (w := w) hd) X hv hz hzl (by rw [hn]; exact t1) t2 hx t3
    · exact A.dfR hd (perm_dfl t3 hd') M H
theorem unsh_perm {dfl : Df → V} {v : V} {vs zs : List V} : ∀ {l p : List (Nat ⊕ Df)} {xs : List V}, unsh l = some p → permV dfl vs zs p = some xs → permV dfl (v :: vs) zs l = some xs
  | [], p, xs, h, hx => by
    have : [] = p := by simpa [unsh] using h
    subst this
    exact hx
  | .inl 0 :: r, p, xs, h, hx => by simp [unsh] at h
  | .inl (i + 1) :: r, p, xs, h, hx => by
    simp only [unsh] at h
    obtain ⟨t, h1, h2⟩ := Option.map_eq_some_iff.mp h
    subst h2
    simp only [permV] at hx
    split at hx
    · rename_i d t' q1 q2
      cases hx
      simp only [permV, List.cons_append, List.getElem?_cons_succ]
      rw [q1, unsh_perm h1 q2]
    · cases hx
  | .inr d :: r, p, xs, h, hx => by
    simp only [unsh] at h
    obtain ⟨t, h1, h2⟩ := Option.map_eq_some_iff.mp h
    subst h2
    simp only [permV] at hx
    obtain ⟨t', q1, q2⟩ := Option.map_eq_some_iff.mp hx
    subst q2
    simp only [permV]
    rw [unsh_perm h1 q1]
    rfl
theorem unsh_len : ∀ {l p : List (Nat ⊕ Df)}, unsh l = some p → p.length = l.length ∧ ∀ d, (Sum.inr d : Nat ⊕ Df) ∈ p → (Sum.inr d : Nat ⊕ Df) ∈ l
  | [], p, h => by
    have : [] = p := by simpa [unsh] using h
    subst this
    exact ⟨rfl, fun _ h => h⟩
  | .inl 0 :: r, p, h => by simp [unsh] at h
  | .inl (i + 1) :: r, p, h => by
    simp only [unsh] at h
    obtain ⟨t, h1, h2⟩ := Option.map_eq_some_iff.mp h
    subst h2
    obtain ⟨q1, q2⟩ := unsh_len h1
    refine ⟨by simp [q1], fun d hd => ?_⟩
    rcases List.mem_cons.mp hd with z | z
    · cases z
    · exact List.mem_cons_of_mem _ (q2 d z)
  | .inr d :: r, p, h => by
    simp only [unsh] at h
    obtain ⟨t, h1, h2⟩ := Option.map_eq_some_iff.mp h
    subst h2
    obtain ⟨q1, q2⟩ := unsh_len h1
    refine ⟨by simp [q1], fun d' hd => ?_⟩
    rcases List.mem_cons.mp hd with z | z
    · rw [z]; exact List.mem_cons_self
    · exact List.mem_cons_of_mem _ (q2 d' z)
theorem initB_pl {x0 : Str} {d : DD} {fs : List Str} (h : initB x0 d fs = true) : plainPs d.params = true := by
  unfold initB at h
  split at h
  · obtain ⟨_, h⟩ := ba h
    obtain ⟨_, h⟩ := ba h
    obtain ⟨_, h⟩ := ba h
    obtain ⟨_, h⟩ := ba h
    obtain ⟨_, h⟩ := ba h
    exact (ba h).1
  · cases h
theorem Fac.pm (A : Fac Δ K mg base) {f n : Nat} {ks : List Str} {p : List (Nat ⊕ Df)} (h : patM Δ.tb f n ks = some p) : PatI (Δ.lk Pr w K mg base) f n ks p ∧ p.length + 1 = ((Δ.lk Pr w K mg base).ps f).length := by
  unfold patM at h
  cases hd : Δ.defs[f]? with
  | none =>
    have e : Δ.tb.sig f = none := by show (Δ.defs[f]?).map _ = none; rw [hd]; rfl
    rw [e] at h
    cases h
  | some d =>
    have e : Δ.tb.sig f = some (d.ps, d.df f) := by show (Δ.defs[f]?).map _ = _; rw [hd]; rfl
    rw [e] at h
    split at h
    rotate_left
    · cases h
    rename_i r hr
    obtain ⟨bs, t1, t2, t3, t4, t5⟩ := patS_len hr
    obtain ⟨F, _, _, pl, sc, _⟩ := A.defs hd
    obtain ⟨p1, p2, p3⟩ := A.ps (Pr := Pr) (w := w) hd
    obtain ⟨u1, u2⟩ := unsh_len h
    refine ⟨⟨fun vs zs xs us ws x s X hv hz hn hzl hx => ?_, fun d' hd' M H => ?_⟩, ?_⟩
    · rw [p1, p3]
      refine bindsTo_of (vs := .ref x :: vs) (us := .ref x :: us) F pl rfl (A.df (Pr := Pr) (w := w) hd) X (.cons rfl hv) hz hzl (by rw [List.length_cons, hn]; exact t1) t2 ?_ t3
      rw [← t4]
      have q := unsh_perm (v := V.ref x) h hx
      show (match ((V.ref x :: vs) ++ zs)[0]?, permV (Δ.lk Pr w K mg base).dfl (V.ref x :: vs) zs r with
        | some d, some t => some (d :: t)
        | _, _ => none) = _
      rw [show permV (Δ.lk Pr w K mg base).dfl (V.ref x :: vs) zs r = some xs from q]
      rfl
    · refine A.dfR hd (perm_dfl t3 ?_) M H
      rw [← t4]
      exact List.mem_cons_of_mem _ (u2 d' hd')
    · rw [p1, ← t5, List.length_cons, u1]
theorem Fac.pi (A : Fac Δ K mg base) {c n : Nat} {ks : List Str} {p : List (Nat ⊕ Df)} (h : patI Δ.tb c n ks = some p) {kc : Cl} (hc : Δ.pg.cl c = some kc) : PatI (Δ.lk Pr w K mg base) kc.init n ks p ∧ p.length + 1 = ((Δ.lk Pr w K mg base).ps kc.init).length := by
  obtain ⟨k, q, e⟩ := Option.map_eq_some_iff.mp hc
  subst e
  unfold patI at h
  cases hd : Δ.defs[k.2.init]? with
  | none =>
    have e : Δ.tb.sigI c = none := by show ((Δ.cls[c]?).bind _) = none; rw [q]; show (Δ.defs[k.2.init]?).map _ = none; rw [hd]; rfl
    rw [e] at h
    cases h
  | some d =>
    have e : Δ.tb.sigI c = some (d.ps, d.df k.2.init) := by show ((Δ.cls[c]?).bind _) = _; rw [q]; show (Δ.defs[k.2.init]?).map _ = _; rw [hd]; rfl
    rw [e] at h
    split at h
    rotate_left
    · cases h
    rename_i r hr
    obtain ⟨bs, t1, t2, t3, t4, t5⟩ := patS_len hr
    obtain ⟨F, _, _, pl, sc, _⟩ := A.defs hd
    obtain ⟨p1, p2, p3⟩ := A.ps (Pr := Pr) (w := w) hd
    obtain ⟨u1, u2⟩ := unsh_len h
    refine ⟨⟨fun vs zs xs us ws x s X hv hz hn hzl hx => ?_, fun d' hd' M H => ?_⟩, ?_⟩
    · rw [p1, p3]
      refine bindsTo_of (vs := .ref x :: vs) (us := .ref x :: us) F pl rfl (A.df (Pr := Pr) (w := w) hd) X (.cons rfl hv) hz hzl (by rw [List.length_cons, hn]; exact t1) t2 ?_ t3
      rw [← t4]
      have q := unsh_perm (v := V.ref x) h hx
      show (match ((V.ref x :: vs) ++ zs)[0]?, permV (Δ.lk Pr w K mg base).dfl (V.ref x :: vs) zs r with
        | some d, some t => some (d :: t)
        | _, _ => none) = _
      rw [show permV (Δ.lk Pr w K mg base).dfl (V.ref x :: vs) zs r = some xs from q]
      rfl
    · refine A.dfR hd (perm_dfl t3 ?_) M H
      rw [← t4]
      exact List.mem_cons_of_mem _ (u2 d' hd')
    · rw [p1, ← t5, List.length_cons, u1]
/-! ### the levels -/
def AllFn (Δ : Desc) (G : Lk) (call : Nat → List DV → M DV) (k : Nat) : Prop := ∀ f d, Δ.defs[f]? = some d → d.cat = none → FnG G k (G.fa f) (G.fd f) (G.ps f) (spF G call f (G.ps f).length)
theorem Fac.lnkOf (A : Fac Δ K mg base) {call : Nat → List DV → M DV} {k : Nat} (hF : AllFn Δ (Δ.lk Pr w K mg base) call (k + 1)) : Lnk (Δ.lk Pr w K mg base) Δ.tb Δ.pg call (k + 1) where
  li := A.li
  fn := fun x f h => by
    obtain ⟨d, _, h1, h2, h3⟩ := fns_mem (look_mem h)
    have h1 : Δ.defs[f]? = some d := h1
    obtain ⟨g1, g2, _⟩ := A.defG h1 h2
    obtain ⟨p1, p2, p3⟩ := A.ps (Pr := Pr) (w := w) h1
    refine ⟨g1, ?_, g2, hF f d h1 h3⟩
    rw [p2]
    exact (A.defs h1).1.kp
  cl := fun x c h => by
    obtain ⟨kc, _, h1, h2⟩ := num_mem (look_mem h)
    have h1 : Δ.cls[c]? = some kc := h1
    subst h2
    obtain ⟨z1, z⟩ := ba (A.cls h1)
    obtain ⟨z2, z3⟩ := ba z
    obtain ⟨y1, y2, y3⟩ := clsB_ok z1
    obtain ⟨_, s⟩ := ba A.stat
    obtain ⟨s1, s⟩ := ba (List.all_eq_true.mp s kc (List.mem_of_getElem? h1))
    obtain ⟨s2, s3⟩ := ba s
    have eca : (Δ.lk Pr w K mg base).ca c = He.ga K kc.1 := by show Δ.ca K c = _; unfold Desc.ca; rw [h1]
    refine ⟨kc.2, by show (Δ.cls[c]?).map _ = _; rw [h1]; rfl, ?_, ?_, ?_, y3⟩
    · rw [eca]; exact mkB_ok z2
    · split at s2
      · rename_i d hd
        exact hF _ d hd (of_decide_eq_true s2)
      · cases s2
    · rw [eca]; exact A.glo y1
  cf := fun ci kc h => by
    obtain ⟨k', h1, e⟩ := Option.map_eq_some_iff.mp h
    subst e
    obtain ⟨z1, z⟩ := ba (A.cls h1)
    obtain ⟨z2, z3⟩ := ba z
    obtain ⟨z4, z5⟩ := ba z3
    obtain ⟨zm, z5⟩ := ba z5
    obtain ⟨y1, y2, y3⟩ := clsB_ok z1
    obtain ⟨_, s⟩ := ba A.stat
    obtain ⟨s1, s⟩ := ba (List.all_eq_true.mp s k' (List.mem_of_getElem? h1))
    obtain ⟨s2, s3⟩ := ba s
    have eca : (Δ.lk Pr w K mg base).ca ci = He.ga K k'.1 := by show Δ.ca K ci = _; unfold Desc.ca; rw [h1]
    obtain ⟨s3, s4⟩ := ba s3
    refine ⟨by rw [eca]; exact y2.cl, fun x f hx => ?_, fun x f hx => ?_, fun x f n hx hn => ?_⟩
    rotate_left
    · have hm := look_mem hx
      have q1 := List.all_eq_true.mp zm _ hm
      have q2 := List.all_eq_true.mp s4 _ hm
      simp only at q2
      split at q2
      rotate_left
      · cases q2
      rename_i d hd
      obtain ⟨q2, _⟩ := ba q2
      obtain ⟨q3, q4⟩ := ba q2
      have q6 := of_decide_eq_true q3
      obtain ⟨p1, p2, p3⟩ := A.ps (Pr := Pr) (w := w) hd
      obtain ⟨F, _, _, pl, sc, _⟩ := A.defs hd
      obtain ⟨r1, r2⟩ := ba q1
      have ef : (Δ.lk Pr w K mg base).fa f = Δ.fa K f := rfl
      refine ⟨⟨by rw [eca]; exact He.eqO_ok r1, r2, by rw [p2]; exact F.kp⟩, ?_, hF f d hd q6, fun sh us X hl => ?_⟩
      · rw [p2]
        obtain ⟨oc, od, dV, kV, doc, pm, an, cdv, ct, osl, _, lk, _⟩ := F.ex
        show PySem.W.fnIn K _ = true
        unfold PySem.W.fnIn
        rw [lk]
      · rw [p1] at hl ⊢
        rw [p3]
        exact binds_full F pl rfl (by rw [dvs_len]; exact q4) X hl
    · have hm := look_mem hx
      have q2 := List.all_eq_true.mp s4 _ hm
      simp only at q2
      split at q2
      rotate_left
      · cases q2
      rename_i d hd
      obtain ⟨_, q2⟩ := ba q2
      obtain ⟨p1, p2, p3⟩ := A.ps (Pr := Pr) (w := w) hd
      rw [hn] at q2
      rw [p1]
      exact of_decide_eq_true q2
    have hm := look_mem hx
    have q1 := List.all_eq_true.mp z4 _ hm
    have q2 := List.all_eq_true.mp s3 _ hm
    simp only at q2
    split at q2
    rotate_left
    · cases q2
    rename_i d hd
    obtain ⟨q3, q4⟩ := ba q2
    obtain ⟨q5, q6⟩ := of_decide_eq_true q3
    obtain ⟨p1, p2, p3⟩ := A.ps (Pr := Pr) (w := w) hd
    obtain ⟨F, _, _, pl, sc, _⟩ := A.defs hd
    refine ⟨by rw [eca]; exact propB_ok q1, by rw [p1]; exact q5, hF f d hd q6, fun sh us X hl => ?_⟩
    rw [p1] at hl ⊢
    rw [p3]
    exact binds_full F pl rfl (by rw [dvs_len]; exact q4) X hl
  ex := fun x c h => by
    obtain ⟨e, _, h1, h2⟩ := num_mem (look_mem h)
    have h1 : Δ.exs[c]? = some e := h1
    subst h2
    obtain ⟨z1, z⟩ := ba (A.exs h1)
    obtain ⟨z2, z⟩ := ba z
    obtain ⟨z3, z⟩ := ba z
    obtain ⟨z4, z5⟩ := ba z
    have exa : (Δ.lk Pr w K mg base).xa c = He.ga K e.x := by show Δ.xa K c = _; unfold Desc.xa; rw [h1]
    refine ⟨e.fs, by show (Δ.exs[c]?).map _ = _; rw [h1]; rfl, fun hc => ?_, by rw [exa]; exact A.glo z1, by simpa using z2⟩
    have hce : c ∈ Δ.tb.exf := by simpa using hc
    obtain ⟨e', d, _, h3, h4⟩ := exf_mem (show c ∈ exfFrom Δ.exs 0 from hce)
    have h3 : Δ.exs[c]? = some e' := h3
    rw [h1] at h3
    cases h3
    rw [h4] at z5
    obtain ⟨y1, z5⟩ := ba z5
    obtain ⟨y2, z5⟩ := ba z5
    obtain ⟨y3, z5⟩ := ba z5
    obtain ⟨y4, z5⟩ := ba z5
    obtain ⟨y5, y6⟩ := ba z5
    have hda : d ∈ Δ.all := List.mem_append_right _ (List.mem_filterMap.mpr ⟨e, List.mem_of_getElem? h1, h4⟩)
    obtain ⟨_, l⟩ := ba A.lnk
    obtain ⟨l1, _⟩ := ba l
    have F := (DD.funD (A.fns d hda) (List.all_eq_true.mp l1 d hda)).1
    obtain ⟨r1, _⟩ := ba y5
    obtain ⟨i1, i2, i3⟩ := init_ok (G := Δ.lk Pr w K mg base) (k := k) y4 y5 (A.glo r1) (oexB_ok y1) (fun f hf => He.eqO_ok (List.all_eq_true.mp y6 f hf)) F
    refine ⟨by rw [exa]; exact oexB_ok y1, by rw [exa]; exact A.glo z1, by simpa using z2, d.at_.ad K, _, d.ps, by rw [exa]; exact He.eqO_ok y2, of_decide_eq_true y3, i1, ?_, i3⟩
    rw [exa]
    exact i2
  exk := fun x c n ks p h hc hpx => by
    obtain ⟨e, _, h1, h2⟩ := num_mem (look_mem h)
    have h1 : Δ.exs[c]? = some e := h1
    subst h2
    obtain ⟨z1, z⟩ := ba (A.exs h1)
    obtain ⟨z2, z⟩ := ba z
    obtain ⟨z3, z⟩ := ba z
    obtain ⟨z4, z5⟩ := ba z
    have exa : (Δ.lk Pr w K mg base).xa c = He.ga K e.x := by show Δ.xa K c = _; unfold Desc.xa; rw [h1]
    have hce : c ∈ Δ.tb.exf := by simpa using hc
    obtain ⟨e', d, _, h3, h4⟩ := exf_mem (show c ∈ exfFrom Δ.exs 0 from hce)
    have h3 : Δ.exs[c]? = some e' := h3
    rw [h1] at h3
    cases h3
    rw [h4] at z5
    obtain ⟨y1, z5⟩ := ba z5
    obtain ⟨y2, z5⟩ := ba z5
    obtain ⟨y3, z5⟩ := ba z5
    obtain ⟨y4, z5⟩ := ba z5
    obtain ⟨y5, y6⟩ := ba z5
    have hda : d ∈ Δ.all := List.mem_append_right _ (List.mem_filterMap.mpr ⟨e, List.mem_of_getElem? h1, h4⟩)
    obtain ⟨_, l⟩ := ba A.lnk
    obtain ⟨l1, _⟩ := ba l
    have F := (DD.funD (A.fns d hda) (List.all_eq_true.mp l1 d hda)).1
    obtain ⟨r1, _⟩ := ba y5
    obtain ⟨i1, i2, i3⟩ := init_ok (G := Δ.lk Pr w K mg base) (k := k) y4 y5 (A.glo r1) (oexB_ok y1) (fun f hf => He.eqO_ok (List.all_eq_true.mp y6 f hf)) F
    have hsx : Δ.tb.sigX c = if d.dd.isEmpty then some d.ps else none := by
      show (Δ.exs[c]?).bind _ = _
      rw [h1]
      show e.init.bind _ = _
      rw [h4]
      rfl
    unfold patX at hpx
    rw [hsx] at hpx
    by_cases hdd : d.dd.isEmpty = true
    rotate_left
    · rw [if_neg hdd] at hpx
      cases hpx
    rw [if_pos hdd] at hpx
    have hd0 : d.dd = [] := List.isEmpty_iff.mp hdd
    have hdv : ([] : List Df).map (Δ.lk Pr w K mg base).dfl = d.dvs K := by simp [DD.dvs, hd0]
    split at hpx
    rotate_left
    · cases hpx
    rename_i r hr
    obtain ⟨bs, t1, t2, t3, t4, t5⟩ := patS_len hr
    obtain ⟨u1, u2⟩ := unsh_len hpx
    refine ⟨e.fs, d.at_.ad K, fdAt K (d.at_.ad K), d.ps, by show (Δ.exs[c]?).map _ = _; rw [h1]; rfl, by rw [exa]; exact oexB_ok y1, by rw [exa]; exact He.eqO_ok y2, of_decide_eq_true y3, i1, by rw [exa]; exact i2, ⟨fun vs zs xs us ws x s X hv hz hn hzl hx => ?_, fun d' hd' M H => ?_⟩, ?_⟩
    · refine bindsTo_of (vs := .ref x :: vs) (us := .ref x :: us) F (initB_pl y4) rfl hdv X (.cons rfl hv) hz hzl (by rw [List.length_cons, hn]; exact t1) t2 ?_ t3
      rw [← t4]
      have q := unsh_perm (v := V.ref x) hpx hx
      show (match ((V.ref x :: vs) ++ zs)[0]?, permV (Δ.lk Pr w K mg base).dfl (V.ref x :: vs) zs r with
        | some d, some t => some (d :: t)
        | _, _ => none) = _
      rw [show permV (Δ.lk Pr w K mg base).dfl (V.ref x :: vs) zs r = some xs from q]
      rfl
    · exact absurd (perm_dfl t3 (by rw [← t4]; exact List.mem_cons_of_mem _ (u2 d' hd'))) (by simp)
    · rw [← t5, List.length_cons, u1]
  exz := fun x c h hc => by
    obtain ⟨e, _, h1, h2⟩ := num_mem (look_mem h)
    have h1 : Δ.exs[c]? = some e := h1
    subst h2
    obtain ⟨z1, z⟩ := ba (A.exs h1)
    obtain ⟨z2, z⟩ := ba z
    obtain ⟨z3, z⟩ := ba z
    obtain ⟨z4, z5⟩ := ba z
    have exa : (Δ.lk Pr w K mg base).xa c = He.ga K e.x := by show Δ.xa K c = _; unfold Desc.xa; rw [h1]
    have hce : c ∈ Δ.tb.exz := by simpa using hc
    obtain ⟨e', _, h3, h4⟩ := exz_mem (show c ∈ exzFrom Δ.exs 0 from hce)
    have h3 : Δ.exs[c]? = some e' := h3
    rw [h1] at h3
    cases h3
    rw [h4] at z5
    obtain ⟨z5, z6⟩ := ba z5
    obtain ⟨z7, z8⟩ := ba z5
    refine ⟨?_, by rw [exa]; exact z8, by rw [exa]; exact z6⟩
    show (Δ.exs[c]?).map _ = _
    rw [h1]
    show some e.fs = _
    rw [List.isEmpty_iff.mp z7]
  gl := fun x d h => by
    obtain ⟨_, l⟩ := ba A.lnk
    obtain ⟨_, l⟩ := ba l
    obtain ⟨_, l⟩ := ba l
    obtain ⟨_, l⟩ := ba l
    obtain ⟨_, l⟩ := ba l
    obtain ⟨_, l⟩ := ba l
    obtain ⟨_, l⟩ := ba l
    obtain ⟨l1, _⟩ := ba l
    obtain ⟨q1, q2⟩ := ba (List.all_eq_true.mp l1 _ (look_mem h))
    obtain ⟨q3, q4⟩ := ba q2
    simp only at q3
    split at q3
    · rename_i u hu
      exact ⟨dvV d, u, PySem.W.mg_of A.kin A.ns hu, He.relB_ok q3, fun M H => scal_rep q1, by simpa using q4⟩
    · cases q3
  cat := fun x g h => by
    obtain ⟨d, c, _, h1, h2, h3⟩ := cats_mem (look_mem h)
    have h1 : Δ.defs[g]? = some d := h1
    obtain ⟨g1, g2, g3, g4⟩ := A.defG h1 h2
    obtain ⟨F, db, _⟩ := A.defs h1
    obtain ⟨p1, p2, p3⟩ := A.ps (Pr := Pr) (w := w) h1
    obtain ⟨_, q⟩ := ba db
    rw [h3] at q
    simp only at q
    split at q
    rotate_left
    · cases q
    rename_i e he
    have exa : (Δ.lk Pr w K mg base).xa c = He.ga K e.x := by show Δ.xa K c = _; unfold Desc.xa; rw [he]
    obtain ⟨z1, z⟩ := ba (A.exs he)
    obtain ⟨z2, _⟩ := ba z
    obtain ⟨_, l⟩ := ba A.lnk
    obtain ⟨_, l⟩ := ba l
    obtain ⟨_, l⟩ := ba l
    obtain ⟨_, l⟩ := ba l
    obtain ⟨_, l⟩ := ba l
    obtain ⟨_, l⟩ := ba l
    obtain ⟨l1, _⟩ := ba l
    have l2 := List.all_eq_true.mp l1 d (List.mem_of_getElem? h1)
    rw [h3] at l2
    refine ⟨c, cat_ok q g3 (by show (Δ.defs[g]?).bind _ = _; rw [h1]; exact h3) g1 g2 (fun c' hc' => ?_) ?_ (by rw [exa]; exact A.glo z1) (by simpa using z2)⟩
    · by_cases hlt : c' < Δ.exs.length
      · have := List.all_eq_true.mp l2 c' (List.mem_range.mpr hlt)
        rw [hc'] at this
        have q : PySem.W.exmOne K (.ref (Δ.xa K c')) (.ref (Δ.xa K c)) = some true := by simpa using this
        exact q
      · have e0 : Δ.pg.up c' = [] := by
          show (match Δ.exs[c']? with | some e => e.up | none => []) = []
          rw [List.getElem?_eq_none (by omega)]
        rw [e0] at hc'
        simp at hc'
    · rw [p2]
      exact F
  pt := fun f n ks p h => A.pt h
  pi := fun c n ks p h kc hc => A.pi h hc
  pm := fun f n ks p h => A.pm h
  mt := fun x c f kc f' hm hc hf => by
    obtain ⟨q, hq, e⟩ := List.mem_filterMap.mp (show (c, f) ∈ Δ.cls.zipIdx.filterMap fun c => (c.1.2.meths.lookup x).map fun f => (c.2, f) from hm)
    obtain ⟨g, e1, e2⟩ := Option.map_eq_some_iff.mp e
    cases e2
    obtain ⟨k', h1, e⟩ := Option.map_eq_some_iff.mp (show (Δ.cls[q.2]?).map (·.2) = some kc from hc)
    subst e
    have h2 := List.mk_mem_zipIdx_iff_getElem?.mp (show (q.1, q.2) ∈ Δ.cls.zipIdx from hq)
    rw [h1] at h2
    cases h2
    rw [e1] at hf
    exact Option.some.inj hf
  fl := fun x hx => by
    refine ⟨fun ci kc h hp => ?_, fun ci fs h => ?_⟩
    · obtain ⟨k', h1, e⟩ := Option.map_eq_some_iff.mp h
      subst e
      obtain ⟨_, z⟩ := ba (A.cls h1)
      obtain ⟨_, z⟩ := ba z
      obtain ⟨_, z⟩ := ba z
      obtain ⟨_, z⟩ := ba z
      have q := List.all_eq_true.mp z x hx
      rw [hp] at q
      have eca : (Δ.lk Pr w K mg base).ca ci = He.ga K k'.1 := by show Δ.ca K ci = _; unfold Desc.ca; rw [h1]
      rw [eca]
      have q : eqV (PySem.W.findIn K (.ref (He.ga K k'.1)) x) (some none) = true := by simpa using q
      exact He.eqO_ok q
    · obtain ⟨e, h1, _⟩ := Option.map_eq_some_iff.mp h
      obtain ⟨_, z⟩ := ba (A.exs h1)
      obtain ⟨_, z⟩ := ba z
      obtain ⟨z3, z⟩ := ba z
      obtain ⟨z4, _⟩ := ba z
      have exa : (Δ.lk Pr w K mg base).xa ci = He.ga K e.x := by show Δ.xa K ci = _; unfold Desc.xa; rw [h1]
      rw [exa]
      exact ⟨(excCB_ok z3).2.2, He.eqO_ok (List.all_eq_true.mp z4 x hx)⟩
theorem Fac.lam (A : Fac Δ K mg base) {f : Nat} {d : DD} (h : Δ.defs[f]? = some d) (hl : d.ll = true) : LamF (Δ.lk Pr w K mg base) (d.qual ++ ".<locals>.") ((Δ.lk Pr w K mg base).fd f).code := by
  obtain ⟨F, _, _, _, _, hg⟩ := A.defs h
  obtain ⟨x, hx⟩ := hg hl
  obtain ⟨_, _, g3, g4⟩ := A.defG h hx
  obtain ⟨p1, p2, p3⟩ := A.ps (Pr := Pr) (w := w) h
  have hm : ((x, none) : He.Defn) ∈ Δ.tf := List.mem_filterMap.mpr ⟨d, List.mem_of_getElem? h, by rw [hx, hl]⟩
  have tb := A.tabs _ hm
  obtain ⟨oc, od, dV, kV, doc, pm, an, cdv, ct, osl, efd, lk, hcd, _, _⟩ := F.ex
  obtain ⟨c, hc⟩ := He.codeIn_ref hcd
  have ecode : ((Δ.lk Pr w K mg base).fd f).code = .ref c := by rw [p3, efd]; exact hc
  have eco : He.codeOf K (x, none) = c := He.codeOf_eq (fd := fdAt K (d.at_.ad K)) (by rw [show He.fAd K (x, none) = d.at_.ad K by rw [hx]; rfl]; exact lk) (by rw [efd]; exact hc)
  obtain ⟨_, l⟩ := ba A.lnk
  obtain ⟨_, l⟩ := ba l
  obtain ⟨_, l⟩ := ba l
  obtain ⟨_, l⟩ := ba l
  obtain ⟨_, l⟩ := ba l
  obtain ⟨_, l⟩ := ba l
  obtain ⟨_, l⟩ := ba l
  obtain ⟨_, l1⟩ := ba l
  have nd := of_decide_eq_true l1
  refine ⟨c, (He.cT K (x, none)).2, ecode, by rw [← eco]; exact tb, ?_, fun p hp e => ?_⟩
  · rw [g4]
    exact List.mem_map.mpr ⟨(x, none), hm, rfl⟩
  · obtain ⟨q, hq, eq⟩ := List.mem_map.mp hp
    subst eq
    have inj : ∀ {l : List He.Defn} {a b : He.Defn}, (l.map fun p => (He.cT K p).2).Nodup → a ∈ l → b ∈ l → (He.cT K a).2 = (He.cT K b).2 → a = b := by
      intro l
      induction l with
      | nil => intro a b _ h; cases h
      | cons y r ih =>
        intro a b hn ha hb e
        rw [List.map_cons, List.nodup_cons] at hn
        rcases List.mem_cons.mp ha with rfl | ha
        · rcases List.mem_cons.mp hb with rfl | hb
          · rfl
          · exact absurd (List.mem_map.mpr ⟨b, hb, e.symm⟩) hn.1
        · rcases List.mem_cons.mp hb with rfl | hb
          · exact absurd (List.mem_map.mpr ⟨a, (by first | assumption | (rename_i hh; exact hh)), e⟩ : (He.cT K _).2 ∈ r.map fun p => (He.cT K p).2) hn.1
          · exact ih hn.2 ha hb e
    have e2 : q = (x, none) := inj nd hq hm e
    subst e2
    rw [g4]
    rfl
theorem Fac.levels (A : Fac Δ K mg base) : ∀ n, AllFn Δ (Δ.lk Pr w K mg base) (callFn Δ.pg Δ.keep n) (4 * n + 1)
  | 0 => fun f d h hc => ⟨fun vs H Q E h => h.1, fun A' outer s H args us vs Q E _ _ _ _ _ hsp => by
      obtain ⟨_, μ, ex, st, ds, _, _, z⟩ := hsp
      exact z.elim⟩
  | n + 1 => fun f d h hc => by
    have L := A.lnkOf (Pr := Pr) (w := w) (k := 4 * n) (Fac.levels A n)
    obtain ⟨F, _, S, pl, sc, hg⟩ := A.defs h
    obtain ⟨p1, p2, p3⟩ := A.ps (Pr := Pr) (w := w) h
    have hcode : ∃ b, Δ.code[f]? = some b ∧ trB Δ.tb d.N d.mu d.kr d.ll 100 d.scope d.body = some b := by
      have q := congrArg (fun l => l[f]?) A.code
      simp only [List.getElem?_map, h, Option.map_some, hc] at q
      obtain ⟨b, q1, q2⟩ := Option.map_eq_some_iff.mp q.symm
      exact ⟨b, q1, q2.symm⟩
    obtain ⟨b, c1, c2⟩ := hcode
    have hfn : Δ.pg.fn f = some ⟨d.N.length, b⟩ := by
      show (Δ.defs[f]?).bind _ = _
      rw [h]
      simp only [Option.bind_some, hc, c1, Option.map_some]
    have q := fn_deep (G := Δ.lk Pr w K mg base) (call := callFn Δ.pg Δ.keep n) (keep := Δ.keep) (k := 4 * n + 4) (f := f) hfn rfl (N := d.N) (by rw [p2, p3]; exact F) (by rw [p1]; exact S) fun X W c hr hN hs hf hq hcd => ?_
    · exact q
    · refine blk_ok (T := Δ.tb) (N := d.N) (mu := d.mu) (kr := d.kr) (ll := d.ll) (k := 4 * n + 1) (sc := d.scope) (n := 100) (sndS L 100) ⟨c, hr, hN, hs, hf, S.kind, fun hl => ?_⟩ c2
      rw [hq, hcd]
      exact A.lam h hl
end
end WS
set_option maxRecDepth 100000
set_option maxHeartbeats 4000000
/-! D40: a law, by the interpreter. -/
namespace WS
open PySem PySem.Spec PyProof.Rows L2
theorem law_walk {l : PySem.W.OpenLaw} {n m : Nat} {q : Program} {loose : List Str} {XP : (Str → Option Value) → Heap → Prop} {d : DefRec} {Δ : Desc} {f0 lv : Nat} {x : Str} {D : DD} (hn : l.most = some n) (hn2 : n ≤ sizeLine) (hdf : d.params.defaults = [])
    (hD : Δ.defs[f0]? = some D) (hat : D.at_ = .g d.name) (hps : D.ps = [x]) (hfull : fullB D.ps D.dd.length = true) (hcat : D.cat = none) (hr : Room (4 * lv + 1) callerA) (stat : Δ.statB = true)
    (code : (Δ.defs.map fun d => match d.cat with
      | some _ => some []
      | none => trB Δ.tb d.N d.mu d.kr d.ll 100 d.scope d.body) = Δ.code.map some)
    (main : ∀ ns : List Int, ns.length ≤ n → (∀ z ∈ ns, Builtin.Int.intBits z ≤ 1048576) → ∃ s, callFn Δ.pg Δ.keep lv f0 [.scr ns] [] = .ok (.bl true) s) :
    PySem.W.WalkO q loose XP (hookW m Δ.all Δ.tf Δ.lnkB).says l.row.toRowW d [] (fun f vs => PySem.call f vs) := by
  refine Att.attach_callB hn hdf fun w s0 s1 mg mb fa o pm cd doc a vs ns Gr Y ho hd hcd hmg hobj hints hlen hbits hg => ?_
  obtain ⟨K, KX, sw⟩ := Y
  have fac : ∀ base, K.In base → base.Ns mainGlobals mg → (∀ p ∈ Δ.tf.map (He.cT K), LamX.TabB base mg p.1 p.2) → Fac Δ K mg base := fun base h1 h2 h3 =>
    ⟨h1, h2, sw.more, stat, sw.fns, code, fun p hp => h3 _ (List.mem_map.mpr ⟨p, hp, rfl⟩)⟩
  -- where the law stands
  have efa : ∀ base, K.In base → base.Ns mainGlobals mg → (∀ p ∈ Δ.tf.map (He.cT K), LamX.TabB base mg p.1 p.2) → fa = Δ.fa K f0 := fun base h1 h2 h3 => by
    have q := ((fac base h1 h2 h3).defG hD hat).1
    rw [hmg] at q
    cases q
    rfl
  have egl : (He.Fa.glo d.name).ok K = true ∧ FunD K D.name D.qual D.params D.body D.scope (D.dvs K) [] (D.at_.ad K) (fdAt K (D.at_.ad K)) ∧ plainPs D.params = true := by
    obtain ⟨_, l⟩ := ba sw.more
    obtain ⟨l1, l⟩ := ba l
    obtain ⟨l2, _⟩ := ba l
    have hm := List.mem_of_getElem? hD
    have hma : D ∈ Δ.all := List.mem_append_left _ hm
    obtain ⟨s2, _⟩ := ba stat
    obtain ⟨_, s3⟩ := ba (List.all_eq_true.mp s2 D hm)
    obtain ⟨q1, _⟩ := ba (List.all_eq_true.mp l2 D hm)
    rw [hat] at q1
    exact ⟨(ba q1).1, (DD.funD (sw.fns D hma) (List.all_eq_true.mp l1 D hma)).1, (ba s3).1⟩
  obtain ⟨eg, F, pl⟩ := egl
  have efa2 : fa = D.at_.ad K := by
    have q := He.glo_ok KX Gr.T.g eg
    rw [hmg] at q
    cases q
    rw [hat]
    rfl
  refine top_run (K := K) (mg := mg) (mb := mb) (cs := Δ.tf.map (He.cT K)) (x := x) (ns := ns) (G := fun base => Δ.lk l.prog w K mg base) (k := 4 * lv + 1) (fd := fdAt K (D.at_.ad K)) (sp := fun base => spF (Δ.lk l.prog w K mg base) (callFn Δ.pg Δ.keep lv) f0 1) KX Gr.T.g Gr.T.b Gr.T.builtins Gr.T.nolimit hg ?_ ?_ ?_ Gr.T.bmain hobj hints (Nat.le_trans hlen hn2) hr (fun base => ⟨rfl, rfl, rfl, rfl, rfl⟩) ?_ ?_ ?_
  · intro p hp
    obtain ⟨t, ht, rfl⟩ := List.mem_map.mp hp
    exact sw.empty t ht
  · intro p hp
    obtain ⟨t, ht, rfl⟩ := List.mem_map.mp hp
    exact sw.out t ht
  · intro p hp
    obtain ⟨t, ht, rfl⟩ := List.mem_map.mp hp
    exact PySem.W.codeHd_of_K KX (sw.hd t ht)
  · intro base h1 h2 h3
    have A := fac base h1 h2 h3
    have q := A.levels (Pr := l.prog) (w := w) lv f0 D hD hcat
    obtain ⟨p1, p2, p3⟩ := A.ps (Pr := l.prog) (w := w) hD
    rw [p1, p2, p3, hps] at q
    rw [efa2]
    exact q
  · have q := binds_full (s := s1) (us := [.ref a]) F pl rfl (by rw [dvs_len]; exact hfull) KX (by rw [show D.params.args.map (·.arg) = D.ps from rfl, hps]; rfl)
    rw [show D.params.args.map (·.arg) = D.ps from rfl, hps] at q
    exact q
  · intro H base B
    obtain ⟨s', hm⟩ := main ns hlen hbits
    have nmu : ∀ b, ¬ Mu [] [] [] b := fun b z => by
      rcases z with z | ⟨n, c, z, _⟩
      · cases z
      · simp at z
    refine ⟨rfl, [], [], [], [.scr ns], ⟨rfl, List.nodup_nil, fun n a c z => (by simp at z), fun p hp => ?_, fun a z => (by cases z), fun a z => (by cases z), fun a z => (by cases z), fun a z => (by cases z), fun a z => (by cases z)⟩, .cons ?_ .nil, ?_⟩
    · obtain ⟨t, ht, rfl⟩ := List.mem_map.mp hp
      exact LamX.TabS.nil (B.tb _ (List.mem_map.mpr ⟨_, List.mem_map.mpr ⟨t, ht, rfl⟩, rfl⟩))
    · refine ⟨a, rfl, ?_⟩
      rcases B.sq with z | z
      · exact .inl ⟨z, nmu a⟩
      · exact .inr z
    · rw [hm]
      exact fun v H' μ' _ r => r
end WS
/-! D41: defs found in a program's text. -/
namespace WS
open PySem PySem.Spec PyProof.Rows L2
def isDefOf (x : Str) : Stmt → Bool
  | .FunctionDef n .. => n == x
  | _ => false
def isClsOf (x : Str) : Stmt → Bool
  | .ClassDef n .. => n == x
  | _ => false
def defIn (b : List Stmt) (x : Str) : DefRec := match b.find? (isDefOf x) with
  | some (.FunctionDef n a b _ _ _ sc _ _ pos) => ⟨n, a, b, sc, pos⟩
  | _ => ⟨"", ⟨[], [], none, [], [], none, []⟩, [], ⟨.function, [], false, false, []⟩, default⟩
def bodyOf (p : Program) (C : Str) : List Stmt := match p.main.body.find? (isClsOf C) with
  | some (.ClassDef _ _ _ b ..) => b
  | _ => []
def ddG (p : Program) (x : Str) (N : List Str) (dd : List DV) (mu : List Str) (kr ll : Bool) (cat : Option Nat) : DD :=
  { at_ := .g x, name := x, qual := x, params := (defIn p.main.body x).params, body := (defIn p.main.body x).body, scope := (defIn p.main.body x).scope, N := N, dd := dd, mu := mu, kr := kr, ll := ll, cat := cat }
def ddM (p : Program) (C x : Str) (N : List Str) (dd : List DV) (mu : List Str) : DD :=
  { at_ := .m C x, name := x, qual := C ++ "." ++ x, params := (defIn (bodyOf p C) x).params, body := (defIn (bodyOf p C) x).body, scope := (defIn (bodyOf p C) x).scope, N := N, dd := dd, mu := mu }
def ddP (p : Program) (C x : Str) (N : List Str) : DD :=
  { at_ := .p C x, name := x, qual := C ++ "." ++ x, params := (defIn (bodyOf p C) x).params, body := (defIn (bodyOf p C) x).body, scope := (defIn (bodyOf p C) x).scope, N := N }
end WS
set_option maxRecDepth 100000
/-! E0: the interpreter, step by step; the draws of the laws. -/
namespace WS.I
open PySem
/-! ### small facts -/
@[simp] theorem asB_ok (b : Bool) (s : S) : asB (.ok (.bl b) s) = .ok b s := rfl
@[simp] theorem asB_err (c : Nat) (fs : List (Str × DV)) (s : S) : asB (.err c fs s) = .err c fs s := rfl
@[simp] theorem noErr_ok {α : Type} (a : α) (s : S) : noErr (.ok a s) = .ok a s := rfl
@[simp] theorem Sq_ok_fun (xs : List DV) : Sq.ok ⟨xs, none⟩ = fun _ => True := rfl
@[simp] theorem Sq_ok_none (xs : List DV) (s : S) : (Sq.mk xs none).ok s = True := rfl
theorem okCells_same (s : S) : okCells s.length s s := .inl (List.take_length ..)
theorem leave_tree {s : S} {d : DV} (h : ∀ n, d ≠ .loc n) : leave s d s = .ok d s := by
  unfold leave
  rw [if_pos (okCells_same s)]
  cases d <;> simp_all
open Classical in
/-- a body's end is a call's end -/
noncomputable def fnEnd (kp : Bool) (s : S) : Res Flow → Res DV
  | .ok (.ret d) s1 => if kp then .ok d s1 else leave s d s1
  | .ok (.nxt _) s1 => if kp then .ok .non s1 else leave s .non s1
  | .ok _ _ => .stuck
  | .err c fs s1 => if okCells s.length s s1 then .err c fs (s1.take s.length) else .stuck
  | .stuck => .stuck
/-- a call of a def -/
theorem runFn_eq {P : Pg} {keep : Nat → Bool} {call : Nat → List DV → M DV} {f n : Nat} {b : List St} {vs : List DV} {s : S} (h : P.fn f = some ⟨n, b⟩) (hl : vs.length ≤ n) : runFn P keep call f vs s = fnEnd (keep f) s (exSs P call b (vs.map some ++ List.replicate (n - vs.length) none) s) := by
  unfold runFn
  rw [h]
  simp only [hl, if_true]
  cases exSs P call b (vs.map some ++ List.replicate (n - vs.length) none) s with
  | ok fl s1 => cases fl <;> rfl
  | err c fs s1 => rfl
  | stuck => rfl
@[simp] theorem fnEnd_ret (s s1 : S) (d : DV) : fnEnd false s (.ok (.ret d) s1) = leave s d s1 := rfl
@[simp] theorem fnEnd_nxt (s s1 : S) (e : Env) : fnEnd false s (.ok (.nxt e) s1) = leave s .non s1 := rfl
@[simp] theorem fnEnd_retK (s s1 : S) (d : DV) : fnEnd true s (.ok (.ret d) s1) = .ok d s1 := rfl
theorem fnEnd_err {kp : Bool} {s s1 : S} {c : Nat} {fs : List (Str × DV)} (h : okCells s.length s s1) : fnEnd kp s (.err c fs s1) = .err c fs (s1.take s.length) := by
  exact if_pos h
/-! ### expressions, one by one -/
/-- a comprehension's part behind its target -/
def tgC {α : Type} (t : Tg) (k : Env → M α) (env : Env) : DV → M α := fun d s => match setTg env t d with
  | some e => k e s
  | none => .stuck
@[simp] theorem tgC_one {α : Type} (i : Nat) (k : Env → M α) (env : Env) (d : DV) (s : S) : tgC (.one i) k env d s = k (env.set i (some d)) s := rfl
/-- a slot -/
def slot (env : Env) (i : Nat) (s : S) : Res DV := match env[i]? with
  | some (some d) => .ok d s
  | _ => .stuck
@[simp] theorem slot_ok (env : Env) (d : DV) (s : S) : slot (some d :: env) 0 s = .ok d s := rfl
@[simp] theorem slot_succ (env : Env) (d : Option DV) (i : Nat) (s : S) : slot (d :: env) (i + 1) s = slot env i s := rfl
/-- a catcher's end -/
def caughtR (P : Pg) (k : Nat) : Res DV → Res DV
  | .ok _ s1 => .ok .non s1
  | .err c fs s1 => if (P.up c).contains k then .ok (.exc c fs) s1 else .stuck
  | .stuck => .stuck
@[simp] theorem caughtR_ok (P : Pg) (k : Nat) (d : DV) (s : S) : caughtR P k (.ok d s) = .ok .non s := rfl
def asCell (d : DV) (s1 : S) : Res DV := match cellOf d with
  | some c => .ok (.loc s1.length) (s1 ++ [c])
  | none => .stuck
@[simp] theorem asCell_lst (xs : List DV) (s : S) : asCell (.lst xs) s = .ok (.loc s.length) (s ++ [.lst xs]) := rfl
section
variable {P : Pg} {call : Nat → List DV → M DV} {env : Env} {s : S}
@[simp] theorem e_var {i : Nat} : ev P call (.var i) env s = slot env i s := by rw [ev]; first | done | rfl
@[simp] theorem e_cst {d : DV} : ev P call (.cst d) env s = .ok d s := by rw [ev]
@[simp] theorem e_glo {x : Str} {d : DV} : ev P call (.glo x d) env s = .ok d s := by rw [ev]
@[simp] theorem e_op2 {o : Op2} {a b : E} : ev P call (.op2 o a b) env s = (ev P call a env s).bind fun x s1 => (ev P call b env s1).bind fun y s2 => ofO (sem2 o x y s2) s2 := by rw [ev]
@[simp] theorem e_cmp {o : Cmp} {a b : E} : ev P call (.cmp o a b) env s = (ev P call a env s).bind fun x s1 => (ev P call b env s1).bind fun y s2 => ofO ((semC o x y s2).map .bl) s2 := by rw [ev]
@[simp] theorem e_chn {o p : Cmp} {a b c : E} : ev P call (.chn o p a b c) env s = (ev P call a env s).bind fun x s1 => (ev P call b env s1).bind fun y s2 => (ofO (semC o x y s2) s2).bind fun k s3 => if k then (ev P call c env s3).bind fun z s4 => ofO ((semC p y z s4).map .bl) s4 else .ok (.bl false) s3 := by rw [ev]
@[simp] theorem e_and {a b : E} : ev P call (.and a b) env s = (asB (ev P call a env s)).bind fun k s1 => if k then (asB (ev P call b env s1)).bind fun k' s2 => .ok (.bl k') s2 else .ok (.bl false) s1 := by rw [ev]
@[simp] theorem e_or {a b : E} : ev P call (.or a b) env s = (asB (ev P call a env s)).bind fun k s1 => if k then .ok (.bl true) s1 else (asB (ev P call b env s1)).bind fun k' s2 => .ok (.bl k') s2 := by rw [ev]
@[simp] theorem e_not {a : E} : ev P call (.not a) env s = (asB (ev P call a env s)).bind fun k s1 => .ok (.bl (!k)) s1 := by rw [ev]
@[simp] theorem e_ite {c a b : E} : ev P call (.ite c a b) env s = (asB (ev P call c env s)).bind fun k s1 => if k then ev P call a env s1 else ev P call b env s1 := by rw [ev]
@[simp] theorem e_tup {es : Es} : ev P call (.tup es) env s = (evs P call es env s).bind fun vs s1 => (embedAll vs s1).bind fun ds s2 => .ok (.tup ds) s2 := by rw [ev]
@[simp] theorem e_lst {es : Es} : ev P call (.lst es) env s = (evs P call es env s).bind fun vs s1 => (embedAll vs s1).bind fun ds s2 => .ok (.lst ds) s2 := by rw [ev]
@[simp] theorem e_dct {es : Es} : ev P call (.dct es) env s = (evs P call es env s).bind fun vs s1 => (embedAll vs s1).bind fun ds s2 => ofO (((dictFrom ds).bind (dictMerge [])).bind fun kvs => if plainKv kvs then some (.dct kvs) else none) s2 := by rw [ev]
@[simp] theorem e_sub {a i : E} : ev P call (.sub a i) env s = (ev P call a env s).bind fun x s1 => (ev P call i env s1).bind fun y s2 => ofO (semSub x y s2) s2 := by rw [ev]
@[simp] theorem e_slc {a lo hi : E} {fl fh : Bool} : ev P call (.slc a lo hi fl fh) env s = (ev P call a env s).bind fun x s1 => (if fl then (ev P call lo env s1).bind fun l s2 => ofO (partOf l) s2 else .ok none s1).bind fun l s2 => (if fh then (ev P call hi env s2).bind fun h s3 => ofO (partOf h) s3 else .ok none s2).bind fun h s3 => ofO (semSlc x l h s3) s3 := by rw [ev]
@[simp] theorem e_callK {f : Nat} {es ks : Es} {p : List (Nat ⊕ Df)} : ev P call (.callK f es ks p) env s = (evs P call es env s).bind fun vs s1 => (evs P call ks env s1).bind fun ws s2 => (ofO (permute vs ws p) s2).bind fun us s3 => call f us s3 := by rw [ev]
@[simp] theorem e_mkK {f : Nat} {es ks : Es} {p : List (Nat ⊕ Df)} : ev P call (.mkK f es ks p) env s = (evs P call es env s).bind fun vs s1 => (evs P call ks env s1).bind fun ws s2 => (ofO (permute vs ws p) s2).bind fun us s3 => make P call f us s3 := by rw [ev]
@[simp] theorem e_attr {a : E} {x : Str} : ev P call (.attr a x) env s = (ev P call a env s).bind fun d s1 => getAttr P call d x s1 := by rw [ev]
@[simp] theorem e_prim {p : Prim} {es : Es} : ev P call (.prim p es) env s = (evs P call es env s).bind fun vs s1 => ofO (semP p vs s1) s1 := by rw [ev]
/-- what isinstance answers -/
def isiR (P : Pg) (d : DV) (ts : List Ty) (s1 : S) : Option Bool := match treeOf s1 d with
    | some t => if dvOk P t then isAny P.up t ts else none
    | none => none
@[simp] theorem e_isi {a : E} {ts : List Ty} : ev P call (.isi a ts) env s = (ev P call a env s).bind fun d s1 => ofO ((isiR P d ts s1).map .bl) s1 := by rw [ev]; first | done | rfl
/-- a test -/
noncomputable def evB (P : Pg) (call : Nat → List DV → M DV) (c : E) (env : Env) : M Bool := fun s => asB (ev P call c env s)
@[simp] theorem evB_ap {P : Pg} {call : Nat → List DV → M DV} {c : E} {env : Env} {s : S} : evB P call c env s = asB (ev P call c env s) := rfl
@[simp] theorem e_comp {t : Tg} {elt : E} {src : Sr} {c : E} : ev P call (.comp t elt src c) env s = (evSr P call src env s).bind fun q s1 => (noErr (mapIf q.ok (tgC t (evB P call c) env) (tgC t (ev P call elt) env) q.xs s1)).bind fun ys s2 => .ok (.lst ys) s2 := by rw [ev]; first | done | rfl
@[simp] theorem e_dcomp {t : Tg} {k v : E} {src : Sr} {c : E} : ev P call (.dcomp t k v src c) env s = (evSr P call src env s).bind fun q s1 => (noErr (dictIf q.ok (tgC t (evB P call c) env) (tgC t (ev P call k) env) (tgC t (ev P call v) env) q.xs [] s1)).bind fun kvs s2 => .ok (.dct kvs) s2 := by rw [ev]; first | done | rfl
@[simp] theorem e_new {e : E} : ev P call (.new e) env s = (ev P call e env s).bind asCell := by rw [ev]; first | done | rfl
@[simp] theorem e_newD {es : Es} : ev P call (.newD es) env s = (evs P call es env s).bind fun vs s1 => (ofO ((dictFrom vs).bind (dictMerge [])) s1).bind fun kvs s2 => .ok (.loc s2.length) (s2 ++ [.dct kvs]) := by
  rw [ev]
  congr 1
  funext vs s1
  cases (dictFrom vs).bind (dictMerge []) <;> rfl
theorem e_lam {g k : Nat} {e : E} (h : P.catches g = some k) : ev P call (.lam g e) env s = caughtR P k (ev P call e env s) := by
  rw [ev]
  simp only [h]
  cases ev P call e env s <;> rfl
@[simp] theorem e_pop0 {a : E} : ev P call (.pop0 a) env s = (ev P call a env s).bind fun d s1 => popAt true d s1 := by rw [ev]
@[simp] theorem e_popI {a i : E} : ev P call (.popI a i) env s = (ev P call a env s).bind fun d s1 => if (listOf s1 d).isSome then (ev P call i env s1).bind fun k s2 => popNth d k s2 else .stuck := by rw [ev]
@[simp] theorem e_itemI {a i : E} : ev P call (.itemI a i) env s = (ev P call a env s).bind fun x s1 => (ev P call i env s1).bind fun y s2 => callM P call x "__getitem__" [y] s2 := by rw [ev]
@[simp] theorem e_hasI {ng : Bool} {a b : E} : ev P call (.hasI ng a b) env s = (ev P call a env s).bind fun x s1 => (ev P call b env s1).bind fun y s2 => (asB (callM P call y "__contains__" [x] s2)).bind fun v s3 => .ok (.bl (if ng then !v else v)) s3 := by rw [ev]
/-- a method called -/
noncomputable def methR (P : Pg) (call : Nat → List DV → M DV) (x : Str) (alts : List (Nat × List (Nat ⊕ Df))) (es ks : Es) (env : Env) (d : DV) (s1 : S) : Res DV := match methOf P s1 d x with
    | some p => match alts.lookup p.1 with
      | some q => (evs P call es env s1).bind fun vs s2 => (evs P call ks env s2).bind fun ws s3 => (ofO (permute vs ws q) s3).bind fun us s4 => call p.2 (d :: us) s4
      | none => .stuck
    | none => .stuck
@[simp] theorem e_meth {a : E} {x : Str} {alts : List (Nat × List (Nat ⊕ Df))} {es ks : Es} : ev P call (.meth a x alts es ks) env s = (ev P call a env s).bind (methR P call x alts es ks env) := by rw [ev]; first | done | rfl
@[simp] theorem e_join {a b : E} : ev P call (.join a b) env s = (ev P call a env s).bind fun x s1 => (ev P call b env s1).bind fun y s2 => ofO (semJoin x y s2) s2 := by rw [ev]
@[simp] theorem e_emb {a : E} : ev P call (.emb a) env s = (ev P call a env s).bind fun x s1 => embed x s1 := by rw [ev]
@[simp] theorem e_rev {a : E} : ev P call (.rev a) env s = (ev P call a env s).bind fun x s1 => ofO ((listOf s1 x).map fun xs => .lst xs.reverse) s1 := by rw [ev]
@[simp] theorem e_popL {a : E} : ev P call (.popL a) env s = (ev P call a env s).bind fun d s1 => popAt false d s1 := by rw [ev]
@[simp] theorem e_negi {i : Int} : ev P call (.neg (.cst (.int i))) env s = .ok (.int (-i)) s := by rw [ev]; simp
@[simp] theorem es_nil : evs P call .nil env s = .ok [] s := by rw [evs]
@[simp] theorem es_cons {e : E} {r : Es} : evs P call (.cons e r) env s = (ev P call e env s).bind fun d s1 => (evs P call r env s1).bind fun ds s2 => .ok (d :: ds) s2 := by rw [evs]
/-- what a value's walk is -/
def walkOf (d : DV) (s1 : S) : Res Sq := match d with
    | .str x => if x.length ≤ LIM then .ok ⟨signs x, none⟩ s1 else .stuck
    | .loc n => match listOf s1 (.loc n) with
      | some xs => .ok ⟨xs, some (n, xs)⟩ s1
      | none => .stuck
    | .dct kvs => .ok ⟨kvs.map (·.1), none⟩ s1
    | d => match seqOf s1 d with
      | some xs => .ok ⟨xs, none⟩ s1
      | none => .stuck
@[simp] theorem r_val {e : E} : evSr P call (.val e) env s = (ev P call e env s).bind walkOf := by
  rw [evSr]
  rfl
@[simp] theorem r_range {e : E} {j : Int} {s1 : S} (h : ev P call e env s = .ok (.int j) s1) (h1 : -(2 ^ 62) ≤ j) (h2 : j ≤ 16777216) : evSr P call (.range e) env s = .ok ⟨rangeL 0 j, none⟩ s1 := by
  rw [evSr, h]
  simp only [bind_ok]
  rw [if_pos ⟨h1, h2⟩]
@[simp] theorem w_lst (xs : List DV) (s : S) : walkOf (.lst xs) s = .ok ⟨xs, none⟩ s := rfl
@[simp] theorem w_dct (kvs : List (DV × DV)) (s : S) : walkOf (.dct kvs) s = .ok ⟨kvs.map (·.1), none⟩ s := rfl
@[simp] theorem w_tup (xs : List DV) (s : S) : walkOf (.tup xs) s = .ok ⟨xs, none⟩ s := rfl
@[simp] theorem w_scr (ns : List Int) (s : S) : walkOf (.scr ns) s = .ok ⟨ns.map .int, none⟩ s := rfl
theorem w_str {x : Str} (s : S) (h : x.length ≤ LIM) : walkOf (.str x) s = .ok ⟨signs x, none⟩ s := if_pos h
end
/-- a comprehension of pure parts -/
theorem mapIf_pure {c : DV → M Bool} {f : DV → M DV} {p : DV → Bool} {g : DV → DV} {s : S} : ∀ {xs : List DV}, (∀ x ∈ xs, c x s = .ok (p x) s) → (∀ x ∈ xs, p x = true → f x s = .ok (g x) s ∧ ∀ n, g x ≠ .loc n) → mapIf (fun _ => True) c f xs s = .ok ((xs.filter p).map g) s
  | [], _, _ => by simp [mapIf]
  | x :: r, hc, hf => by
    have ih := mapIf_pure (c := c) (f := f) (p := p) (g := g) (s := s) (xs := r) (fun y hy => hc y (by simp [hy])) (fun y hy => hf y (by simp [hy]))
    unfold mapIf
    rw [if_pos trivial, hc x (by simp)]
    simp only [bind_ok]
    cases hp : p x with
    | false => simp [hp, ih]
    | true =>
      obtain ⟨h1, h2⟩ := hf x (by simp) hp
      have he : embed (g x) s = .ok (g x) s := by
        cases hg : g x <;> first | rfl | exact absurd hg (h2 _)
      simp [hp, h1, he, ih]
@[simp] theorem embedAll_nil (s : S) : embedAll [] s = .ok [] s := rfl
theorem embed_tree {d : DV} (s : S) (h : ∀ n, d ≠ .loc n) : embed d s = .ok d s := by
  cases d <;> first | rfl | exact absurd rfl (h _)
/-- no cell -/
def isTree : DV → Bool
  | .loc _ => false
  | _ => true
theorem embed_t {d : DV} (s : S) (h : isTree d = true) : embed d s = .ok d s := embed_tree s fun n z => by subst z; cases h
theorem embedAll_t {s : S} : ∀ {ds : List DV}, ds.all isTree = true → embedAll ds s = .ok ds s
  | [], _ => rfl
  | d :: r, h => by
    simp only [List.all_cons, Bool.and_eq_true] at h
    simp [embedAll, embed_t s h.1, embedAll_t h.2]
/-! ### statements, one by one -/
/-- a loop's body behind its target -/
def tgB (t : Tg) (k : Env → M Flow) : DV → Env → M Flow := fun d env s => match setTg env t d with
  | some e => k e s
  | none => .stuck
@[simp] theorem tgB_one (i : Nat) (k : Env → M Flow) (d : DV) (env : Env) (s : S) : tgB (.one i) k d env s = k (env.set i (some d)) s := rfl
section
variable {P : Pg} {call : Nat → List DV → M DV} {env : Env} {s : S}
@[simp] theorem x_set {i : Nat} {e : E} : exS P call (.set i e) env s = (ev P call e env s).bind fun d s1 => .ok (.nxt (env.set i (some d))) s1 := by rw [exS]
theorem x_setT {is : List Nat} {e : E} {xs : List DV} {d : DV} {s1 : S} (h : ev P call e env s = .ok d s1) (h1 : seqOf s1 d = some xs) (h2 : is.length = xs.length) : exS P call (.setT is e) env s = .ok (.nxt ((is.zip xs).foldl (fun e p => e.set p.1 (some p.2)) env)) s1 := by
  rw [exS, h]
  simp [h1, h2]
@[simp] theorem x_par {i j : Nat} {a b : E} : exS P call (.par i j a b) env s = (ev P call a env s).bind fun d s1 => (ev P call b env s1).bind fun d' s2 => .ok (.nxt ((env.set i (some d)).set j (some d'))) s2 := by rw [exS]
@[simp] theorem x_par3 {i j l : Nat} {a b c : E} : exS P call (.par3 i j l a b c) env s = (ev P call a env s).bind fun d s1 => (ev P call b env s1).bind fun d' s2 => (ev P call c env s2).bind fun d'' s3 => .ok (.nxt (((env.set i (some d)).set j (some d')).set l (some d''))) s3 := by rw [exS]
@[simp] theorem x_put {a k v : E} : exS P call (.put a k v) env s = (ev P call v env s).bind fun z s1 => (ev P call a env s1).bind fun x s2 => (ev P call k env s2).bind fun y s3 => (embed z s3).bind fun z' s4 => (putAt x y z' s4).bind fun _ s5 => .ok (.nxt env) s5 := by rw [exS]
theorem x_fld {i : Nat} {x : Str} {e : E} {a : DV} (h : env[i]? = some (some a)) : exS P call (.fld i x e) env s = (ev P call e env s).bind fun d s1 => (embed d s1).bind fun d' s2 => (setFld P a x d' s2).bind fun _ s3 => .ok (.nxt env) s3 := by
  rw [exS]
  simp only [h]
@[simp] theorem x_exp {e : E} : exS P call (.exp e) env s = (ev P call e env s).bind fun _ s1 => .ok (.nxt env) s1 := by rw [exS]
@[simp] theorem x_app {a e : E} : exS P call (.app a e) env s = (ev P call a env s).bind fun x s1 => if (listOf s1 x).isSome then (ev P call e env s1).bind fun d s2 => (embed d s2).bind fun d' s3 => (appAt x d' s3).bind fun _ s4 => .ok (.nxt env) s4 else .stuck := by rw [exS]
@[simp] theorem x_insr {a i e : E} : exS P call (.insr a i e) env s = (ev P call a env s).bind fun x s1 => if (listOf s1 x).isSome then (ev P call i env s1).bind fun y s2 => (ev P call e env s2).bind fun d s3 => (embed d s3).bind fun d' s4 => (insAt x y d' s4).bind fun _ s5 => .ok (.nxt env) s5 else .stuck := by rw [exS]
@[simp] theorem x_if {c : E} {a b : List St} : exS P call (.ife c a b) env s = (asB (ev P call c env s)).bind fun k s1 => if k then exSs P call a env s1 else exSs P call b env s1 := by rw [exS]
@[simp] theorem x_for {t : Tg} {src : Sr} {body : List St} : exS P call (.forS t src body) env s = (evSr P call src env s).bind fun q s1 => forL q.ok (tgB t (exSs P call body)) q.xs env s1 := by rw [exS]; first | done | rfl
@[simp] theorem x_whl {c : E} {body : List St} : exS P call (.whl c body) env s = whileM (evB P call c) (exSs P call body) env s := by rw [exS]; first | done | rfl
@[simp] theorem x_ret {e : E} : exS P call (.ret e) env s = (ev P call e env s).bind fun d s1 => .ok (.ret d) s1 := by rw [exS]
theorem x_rais {c : Nat} {es : Es} {xs : List Str} (h : P.ex c = some xs) : exS P call (.rais c es) env s = (evs P call es env s).bind fun vs s1 => (embedAll vs s1).bind fun ds s2 => if xs.length = ds.length then .err c (xs.zip ds).reverse s2 else .stuck := by
  rw [exS]
  simp only [h]
@[simp] theorem x_nil : exSs P call [] env s = .ok (.nxt env) s := by rw [exSs]
/-- what follows a statement -/
noncomputable def andThen (P : Pg) (call : Nat → List DV → M DV) (r : List St) : Res Flow → Res Flow
  | .ok (.nxt e) s1 => exSs P call r e s1
  | .ok fl s1 => .ok fl s1
  | .err c fs s1 => .err c fs s1
  | .stuck => .stuck
@[simp] theorem x_cons {st : St} {r : List St} : exSs P call (st :: r) env s = andThen P call r (exS P call st env s) := by
  rw [exSs]
  cases exS P call st env s with
  | ok fl s1 => cases fl <;> rfl
  | err c fs s1 => rfl
  | stuck => rfl
@[simp] theorem t_nxt {r : List St} {e : Env} : andThen P call r (.ok (.nxt e) s) = exSs P call r e s := rfl
@[simp] theorem t_ret {r : List St} {d : DV} : andThen P call r (.ok (.ret d) s) = .ok (.ret d) s := rfl
@[simp] theorem t_err {r : List St} {c : Nat} {fs : List (Str × DV)} : andThen P call r (.err c fs s) = .err c fs s := rfl
end
/-- a for loop by an invariant -/
theorem forL_inv {f : DV → Env → M Flow} {I : Nat → Env → S → Prop} : ∀ {xs : List DV} {i : Nat} {env : Env} {s : S}, I i env s → (∀ j x env s, xs[j]? = some x → I (i + j) env s → ∃ e s', (f x env s = .ok (.nxt e) s' ∨ f x env s = .ok (.cnt e) s') ∧ I (i + j + 1) e s') →
    ∃ e s', forL (fun _ => True) f xs env s = .ok (.nxt e) s' ∧ I (i + xs.length) e s'
  | [], i, env, s, h, _ => ⟨env, s, by simp [forL], h⟩
  | x :: r, i, env, s, h, hs => by
    obtain ⟨e, s', h1, h2⟩ := hs 0 x env s rfl h
    obtain ⟨e2, s2, h3, h4⟩ := forL_inv (xs := r) (i := i + 1) h2 fun j y env s hj hI => by
      have := hs (j + 1) y env s (by simpa using hj) (by rw [show i + (j + 1) = i + 1 + j by omega]; exact hI)
      rw [show i + (j + 1) + 1 = i + 1 + j + 1 by omega] at this
      exact this
    refine ⟨e2, s2, ?_, by rw [show i + (x :: r).length = i + 1 + r.length by simp; omega]; exact h4⟩
    unfold forL
    simp only [if_true]
    rcases h1 with h1 | h1 <;> rw [h1] <;> simp only [bind_ok] <;> exact h3
@[simp] theorem forL_nil {f : DV → Env → M Flow} {env : Env} {s : S} : forL (fun _ => True) f [] env s = .ok (.nxt env) s := by simp [forL]
/-- behind a turn -/
noncomputable def turnEnd (f : DV → Env → M Flow) (r : List DV) : Res Flow → Res Flow
  | .ok (.nxt e) s1 => forL (fun _ => True) f r e s1
  | .ok (.cnt e) s1 => forL (fun _ => True) f r e s1
  | .ok (.brk e) s1 => .ok (.nxt e) s1
  | .ok (.ret v) s1 => .ok (.ret v) s1
  | .err c fs s1 => .err c fs s1
  | .stuck => .stuck
@[simp] theorem forL_cons {f : DV → Env → M Flow} {d : DV} {r : List DV} {env : Env} {s : S} : forL (fun _ => True) f (d :: r) env s = turnEnd f r (f d env s) := by
  unfold forL
  rw [if_pos trivial]
  cases f d env s with
  | ok fl s1 => cases fl <;> rfl
  | err c fs s1 => rfl
  | stuck => rfl
@[simp] theorem u_nxt {f : DV → Env → M Flow} {r : List DV} {e : Env} {s : S} : turnEnd f r (.ok (.nxt e) s) = forL (fun _ => True) f r e s := rfl
@[simp] theorem u_ret {f : DV → Env → M Flow} {r : List DV} {v : DV} {s : S} : turnEnd f r (.ok (.ret v) s) = .ok (.ret v) s := rfl
/-! ### comparisons of trees -/
theorem eqT_plain {x y : DV} (p1 : plainD x = true) (p2 : plainD y = true) (d1 : depthD x ≤ 60) (d2 : depthD y ≤ 60) : eqT x y = some (deq x y) := by
  unfold eqT
  rw [if_pos]
  simp [p1, p2, d1, d2]
theorem sC_ne {a b x y : DV} {s : S} (h1 : treeOf s a = some x) (h2 : treeOf s b = some y) (p1 : plainD x = true) (p2 : plainD y = true) (d1 : depthD x ≤ 60) (d2 : depthD y ≤ 60) : semC .ne a b s = some (!deq x y) := by
  show (match treeOf s a, treeOf s b with
    | some x, some y => (eqT x y).map (!·)
    | _, _ => none) = _
  rw [h1, h2]
  simp [eqT_plain p1 p2 d1 d2]
theorem sC_eq {a b x y : DV} {s : S} (h1 : treeOf s a = some x) (h2 : treeOf s b = some y) (p1 : plainD x = true) (p2 : plainD y = true) (d1 : depthD x ≤ 60) (d2 : depthD y ≤ 60) : semC .eq a b s = some (deq x y) := by
  show (match treeOf s a, treeOf s b with
    | some x, some y => eqT x y
    | _, _ => none) = _
  rw [h1, h2]
  simp [eqT_plain p1 p2 d1 d2]
/-- a list and the empty one -/
theorem eqT_nil (xs : List DV) : eqT (.lst xs) (.lst []) = some xs.isEmpty := by
  unfold eqT
  cases xs with
  | nil => simp [plainD, plainL, depthD, depthL, deq, deqL]
  | cons x r =>
    split
    · simp [deq, deqL]
    · simp [lenNe]
theorem ne_nilT {d : DV} {xs : List DV} {s : S} (h : treeOf s d = some (.lst xs)) : semC .ne d (.lst []) s = some (!xs.isEmpty) := by
  show (match treeOf s d, treeOf s (.lst []) with
    | some x, some y => (eqT x y).map (!·)
    | _, _ => none) = _
  rw [h]
  simp [treeOf, eqT_nil]
theorem eq_nilT {d : DV} {xs : List DV} {s : S} (h : treeOf s d = some (.lst xs)) : semC .eq d (.lst []) s = some xs.isEmpty := by
  show (match treeOf s d, treeOf s (.lst []) with
    | some x, some y => eqT x y
    | _, _ => none) = _
  rw [h]
  simp [treeOf, eqT_nil]
theorem ints_plain : ∀ w : List Int, plainL (w.map .int) = true ∧ depthL (w.map .int) = 0
  | [] => ⟨rfl, rfl⟩
  | a :: r => by simp [plainL, plainD, depthL, depthD, ints_plain r]
/-! ### operators on numbers -/
@[simp] theorem s2_add (i j : Int) (s : S) : sem2 .add (.int i) (.int j) s = some (.int (i + j)) := rfl
@[simp] theorem s2_sub (i j : Int) (s : S) : sem2 .sub (.int i) (.int j) s = some (.int (i - j)) := rfl
theorem s2_mul {i j : Int} (s : S) (hi : i.natAbs < MBIG) (hj : j.natAbs < MBIG) : sem2 .mul (.int i) (.int j) s = some (.int (i * j)) := if_pos ⟨hi, hj⟩
theorem s2_fdiv {i j : Int} (s : S) (h : 0 < j ∧ j < 1073741824) : sem2 .fdiv (.int i) (.int j) s = some (.int (i / j)) := if_pos h
theorem s2_md {i j : Int} (s : S) (h : 0 < j) : sem2 .md (.int i) (.int j) s = some (.int (i % j)) := if_pos h
theorem s2_pow {i j : Int} (s : S) (h : 0 ≤ j ∧ j ≤ 1000000 ∧ i.natAbs < 2 ^ 64) : sem2 .pow (.int i) (.int j) s = some (.int (i ^ j.toNat)) := if_pos h
@[simp] theorem sP_int (i : Int) (s : S) : semP .int [.int i] s = some (.int i) := rfl
def absI (i : Int) : Int := if i < 0 then -i else i
def minI (i j : Int) : Int := if j < i then j else i
@[simp] theorem sP_abs (i : Int) (s : S) : semP .abs [.int i] s = some (.int (absI i)) := rfl
@[simp] theorem sP_min (i j : Int) (s : S) : semP .min2 [.int i, .int j] s = some (.int (minI i j)) := rfl
@[simp] theorem sC_lt (i j : Int) (s : S) : semC .lt (.int i) (.int j) s = some (decide (i < j)) := rfl
@[simp] theorem sC_le (i j : Int) (s : S) : semC .le (.int i) (.int j) s = some (decide (i ≤ j)) := rfl
@[simp] theorem sC_gt (i j : Int) (s : S) : semC .gt (.int i) (.int j) s = some (decide (j < i)) := rfl
@[simp] theorem sC_ge (i j : Int) (s : S) : semC .ge (.int i) (.int j) s = some (decide (j ≤ i)) := rfl
@[simp] theorem sC_eqi (i j : Int) (s : S) : semC .eq (.int i) (.int j) s = some (i == j) := by
  simp [semC, eqT, treeOf, plainD, depthD, deq]
@[simp] theorem sC_nei (i j : Int) (s : S) : semC .ne (.int i) (.int j) s = some (!(i == j)) := by
  simp [semC, eqT, treeOf, plainD, depthD, deq]
theorem MBIG_big : 2 ^ 250 < MBIG := by unfold MBIG; exact Nat.pow_lt_pow_right (by omega) (by omega)
theorem small_M {i : Int} (h0 : 0 ≤ i) (h : i ≤ 2 ^ 250) : i.natAbs < MBIG := by
  have := MBIG_big
  omega
/-! ### the draws -/
def drawC (c : List Int) (r t : Int) : Cell := .dct [(.str "wide", .loc 0), (.str "cells", .lst (c.map .int)), (.str "rest", .int r), (.str "turn", .int t)]
/-- the store while numbers are drawn -/
def st (w c : List Int) (r t : Int) (rest : List Cell) : S := .lst (w.map .int) :: drawC c r t :: rest
def noDct : Cell → Bool
  | .dct kvs => plainKv kvs
  | _ => true
theorem plainKv_all : ∀ {kvs : List (DV × DV)} {k : Nat}, plainKv kvs = true → (kvs.all fun p => match p.2 with
    | .loc m => decide (m < k)
    | _ => true) = true
  | [], _, _ => rfl
  | (q, v) :: r, k, h => by
    cases v <;> first | (simp only [plainKv] at h; simp only [List.all_cons, plainKv_all h]; rfl) | (simp [plainKv] at h)
theorem okCell_of {k : Nat} {c : Cell} (h : noDct c = true) : okCell k c = true := by
  cases c <;> first | rfl | exact plainKv_all h
/-- references to older cells alone -/
def rsOk (rest : List Cell) : Prop := ∀ (i : Nat) (c : Cell), rest[i]? = some c → okCell (i + 2) c = true
theorem okCell_le {k k' : Nat} (h : k ≤ k') : ∀ {c : Cell}, okCell k c = true → okCell k' c = true
  | .dct kvs, e => by
    simp only [okCell, List.all_eq_true] at e ⊢
    intro p hp
    have := e p hp
    split at this
    · rename_i m hm
      simp only [decide_eq_true_eq] at this ⊢
      omega
    · exact this
  | .lst _, _ => rfl
  | .ins _ _, _ => rfl
  | .frz _, _ => rfl
structure DS (b : Nat) (rest : List Cell) (s : S) : Prop where
  ex : ∃ w c r t, s = st w c r t rest ∧ (∀ x ∈ w, 0 ≤ x) ∧ (∀ x ∈ c, 0 ≤ x ∧ x < 2147483629) ∧ 0 ≤ r ∧ 0 ≤ t ∧ t ≤ b
  rs : rsOk rest
theorem okCells_st {w c w' c' : List Int} {r t r' t' : Int} {rest more : List Cell} (h : rsOk rest) : okCells (st w c r t rest).length (st w c r t rest) (st w' c' r' t' rest ++ more) := by
  right
  have e : (st w' c' r' t' rest ++ more).take (st w c r t rest).length = st w' c' r' t' rest := by
    have : (st w c r t rest).length = (st w' c' r' t' rest).length := by simp [st]
    rw [this, List.take_append_of_le_length (Nat.le_refl _), List.take_length]
  rw [e]
  simp only [st, List.all_cons, okCell, drawC, Bool.true_and, Bool.and_eq_true, List.all_nil, Bool.and_true, decide_eq_true_eq, List.length_cons]
  refine ⟨by simp, ?_⟩
  rw [List.all_eq_true]
  intro c hc
  obtain ⟨i, hi, e⟩ := List.getElem_of_mem hc
  exact okCell_le (by omega) (h i c (by rw [← e]; exact List.getElem?_eq_getElem hi))
theorem take_st {w c w' c' : List Int} {r t r' t' : Int} {rest more : List Cell} : (st w' c' r' t' rest ++ more).take (st w c r t rest).length = st w' c' r' t' rest := by
  have : (st w c r t rest).length = (st w' c' r' t' rest).length := by simp [st]
  rw [this, List.take_append_of_le_length (Nat.le_refl _), List.take_length]
theorem leave_st {w c w' c' : List Int} {r t r' t' : Int} {rest more : List Cell} {d : DV} (h : rsOk rest) (hd : ∀ n, d ≠ .loc n) : leave (st w c r t rest) d (st w' c' r' t' rest ++ more) = .ok d (st w' c' r' t' rest) := by
  unfold leave
  rw [if_pos (okCells_st h)]
  cases d <;> first | (simp only [take_st]; done) | exact absurd rfl (hd _)
theorem leave_st0 {w c w' c' : List Int} {r t r' t' : Int} {rest : List Cell} {d : DV} (h : rsOk rest) (hd : ∀ n, d ≠ .loc n) : leave (st w c r t rest) d (st w' c' r' t' rest) = .ok d (st w' c' r' t' rest) := by
  have q := leave_st (more := []) (w := w) (c := c) (r := r) (t := t) (w' := w') (c' := c') (r' := r') (t' := t') h hd
  rw [List.append_nil] at q
  exact q
section
variable {w c : List Int} {r t : Int} {rest : List Cell}
theorem dict_st : dictOf (st w c r t rest) (.loc 1) = some [(.str "wide", .loc 0), (.str "cells", .lst (c.map .int)), (.str "rest", .int r), (.str "turn", .int t)] := rfl
theorem seq_st : seqOf (st w c r t rest) (.loc 1) = none := rfl
theorem sub_wide : semSub (.loc 1) (.str "wide") (st w c r t rest) = some (.loc 0) := by rfl
theorem sub_cells : semSub (.loc 1) (.str "cells") (st w c r t rest) = some (.lst (c.map .int)) := by rfl
theorem sub_rest : semSub (.loc 1) (.str "rest") (st w c r t rest) = some (.int r) := by rfl
theorem sub_turn : semSub (.loc 1) (.str "turn") (st w c r t rest) = some (.int t) := by rfl
theorem put_rest (v : Int) : putAt (.loc 1) (.str "rest") (.int v) (st w c r t rest) = .ok () (st w c v t rest) := by rfl
theorem put_turn (v : Int) : putAt (.loc 1) (.str "turn") (.int v) (st w c r t rest) = .ok () (st w c r v rest) := by rfl
end
end WS.I
set_option maxRecDepth 100000
/-! E1: the laws' common defs: mixed, take, pick. -/
namespace WS.I
open PySem
def cMixed : List St := [.par 1 2 (.op2 .add (.sub (.var 0) (.cst (.str "turn"))) (.cst (.int 1))) (.cst (.int 0)), .put (.var 0) (.cst (.str "turn")) (.var 1), .forS (.one 3) (.val (.lst (.cons (.cst (.int 2147483629)) (.cons (.cst (.int 2147483587)) (.cons (.cst (.int 2147483579)) (.cons (.cst (.int 2147483563)) .nil)))))) [.set 4 (.op2 .add (.op2 .mul (.cst (.int 61441)) (.var 1)) (.op2 .fdiv (.var 3) (.cst (.int 19)))), .forS (.one 5) (.val (.sub (.var 0) (.cst (.str "cells")))) [.set 4 (.op2 .md (.prim .int (.cons (.op2 .add (.op2 .add (.op2 .mul (.var 4) (.cst (.int 48271))) (.var 5)) (.var 1)) .nil)) (.var 3))], .set 2 (.op2 .add (.op2 .mul (.var 2) (.cst (.int 2147483647))) (.op2 .md (.prim .int (.cons (.op2 .pow (.var 4) (.cst (.int 5))) .nil)) (.var 3)))], .ret (.var 2)]
section
variable {P : Pg} {keep : Nat → Bool} {call : Nat → List DV → M DV} {w c : List Int} {r t : Int} {rest : List Cell}
def cIn : List St := [.set 4 (.op2 .md (.prim .int (.cons (.op2 .add (.op2 .add (.op2 .mul (.var 4) (.cst (.int 48271))) (.var 5)) (.var 1)) .nil)) (.var 3))]
theorem mixed_inner {p : Int} {b F : Int} {e5 : Option DV} (hp : 0 < p) (hp2 : p < 4294967296) (ht : 0 ≤ t) (ht2 : t < 1099511627776) (hc : ∀ x ∈ c, 0 ≤ x ∧ x < 2147483629) (hb : 0 ≤ b) (hb2 : b < 9223372036854775808) (s : S) :
    ∃ b' e5', forL (fun _ => True) (tgB (.one 5) (exSs P call cIn)) (c.map .int) [some (.loc 1), some (.int t), some (.int F), some (.int p), some (.int b), e5] s = .ok (.nxt [some (.loc 1), some (.int t), some (.int F), some (.int p), some (.int b'), e5']) s ∧ 0 ≤ b' ∧ b' < 9223372036854775808 := by
  have step : ∀ (j : Nat) (x : DV) (env : Env) (s2 : S), (c.map DV.int)[j]? = some x → (s2 = s ∧ ∃ b' e5', env = [some (.loc 1), some (.int t), some (.int F), some (.int p), some (.int b'), e5'] ∧ 0 ≤ b' ∧ b' < 9223372036854775808) →
      ∃ e s', (tgB (.one 5) (exSs P call cIn) x env s2 = .ok (.nxt e) s' ∨ tgB (.one 5) (exSs P call cIn) x env s2 = .ok (.cnt e) s') ∧ (s' = s ∧ ∃ b' e5', e = [some (.loc 1), some (.int t), some (.int F), some (.int p), some (.int b'), e5'] ∧ 0 ≤ b' ∧ b' < 9223372036854775808) := by
    rintro j x env s2 hx ⟨rfl, b', e5', rfl, q1, q2⟩
    obtain ⟨y, hy, rfl⟩ : ∃ y, c[j]? = some y ∧ x = .int y := by
      rw [List.getElem?_map] at hx
      obtain ⟨y, h1, h2⟩ := Option.map_eq_some_iff.mp hx
      exact ⟨y, h1, h2.symm⟩
    have hcy := hc y (List.mem_of_getElem? hy)
    refine ⟨_, _, .inl ?_, rfl, (b' * 48271 + y + t) % p, some (.int y), rfl, Int.emod_nonneg _ (by omega), ?_⟩
    · have hm := s2_mul s2 (small_M q1 (by omega)) (small_M (i := 48271) (by omega) (by omega))
      simp [cIn, tgB_one, x_cons, x_nil, t_nxt, x_set, ev, evs, hm, s2_md _ hp]
    · have := Int.emod_lt_of_pos (b' * 48271 + y + t) hp
      omega
  obtain ⟨e, s', h1, h2⟩ := forL_inv (I := fun _ env s' => s' = s ∧ ∃ b' e5', env = [some (.loc 1), some (.int t), some (.int F), some (.int p), some (.int b'), e5'] ∧ 0 ≤ b' ∧ b' < 9223372036854775808) (xs := c.map .int) (i := 0) (s := s) (env := [some (.loc 1), some (.int t), some (.int F), some (.int p), some (.int b), e5]) ⟨rfl, b, e5, rfl, hb, hb2⟩ (fun j x env s hx hI => step j x env s hx hI)
  obtain ⟨rfl, b', e5', rfl, q⟩ := h2
  exact ⟨b', e5', h1, q⟩
def cTurn : List St := [.set 4 (.op2 .add (.op2 .mul (.cst (.int 61441)) (.var 1)) (.op2 .fdiv (.var 3) (.cst (.int 19)))), .forS (.one 5) (.val (.sub (.var 0) (.cst (.str "cells")))) cIn, .set 2 (.op2 .add (.op2 .mul (.var 2) (.cst (.int 2147483647))) (.op2 .md (.prim .int (.cons (.op2 .pow (.var 4) (.cst (.int 5))) .nil)) (.var 3)))]
theorem mixed_turn {t' p F : Int} {e3 e4 e5 : Option DV} (hp : 0 < p) (hp2 : p < 4294967296) (ht : 0 ≤ t) (ht2 : t < 1099511627776) (hc : ∀ x ∈ c, 0 ≤ x ∧ x < 2147483629) (hF : 0 ≤ F) (hF2 : F ≤ 2 ^ 200) :
    ∃ F' e4' e5', exSs P call cTurn [some (.loc 1), some (.int t), some (.int F), some (.int p), e4, e5] (st w c r t' rest) = .ok (.nxt [some (.loc 1), some (.int t), some (.int F'), some (.int p), e4', e5']) (st w c r t' rest) ∧ 0 ≤ F' ∧ F' ≤ F * 2147483647 + p := by
  obtain ⟨b', e5', h1, h2, h3⟩ := mixed_inner (P := P) (call := call) (c := c) (t := t) (F := F) (e5 := e5) (b := 61441 * t + p / 19) hp hp2 ht ht2 hc (by omega) (by omega) (st w c r t' rest)
  have m1 := s2_mul (st w c r t' rest) (small_M (i := 61441) (by omega) (by omega)) (small_M ht (by omega))
  have m2 := s2_mul (st w c r t' rest) (small_M hF (by omega)) (small_M (i := 2147483647) (by omega) (by omega))
  have m3 := s2_pow (i := b') (j := 5) (st w c r t' rest) ⟨by omega, by omega, by omega⟩
  have m4 := s2_fdiv (i := p) (j := 19) (st w c r t' rest) ⟨by omega, by omega⟩
  refine ⟨F * 2147483647 + b' ^ 5 % p, some (.int b'), e5', ?_, ?_, ?_⟩
  · unfold cTurn
    simp only [x_cons, x_nil, t_nxt, x_set, x_for, ev, evSr, List.getElem?_cons_zero, List.getElem?_cons_succ, bind_ok, m1, m4, ofO_some, s2_add, List.set_cons_zero, List.set_cons_succ, sub_cells, seqOf, listOf, Sq_ok_fun, h1]
    simp only [t_nxt, x_nil, evs, ev, List.getElem?_cons_zero, List.getElem?_cons_succ, bind_ok, m2, m3, ofO_some, sP_int, s2_md _ hp, s2_add, List.set_cons_zero, List.set_cons_succ, show (5 : Int).toNat = 5 from rfl]
  · have := Int.emod_nonneg (b' ^ 5) (show p ≠ 0 by omega)
    omega
  · have := Int.emod_lt_of_pos (b' ^ 5) hp
    omega
theorem mixed_run {f : Nat} (hf : P.fn f = some ⟨6, cMixed⟩) (hk : keep f = false) (hrs : rsOk rest) (hc : ∀ x ∈ c, 0 ≤ x ∧ x < 2147483629) (ht : 0 ≤ t) (ht2 : t < 1099511627000) :
    ∃ m, runFn P keep call f [.loc 1] (st w c r t rest) = .ok (.int m) (st w c r (t + 1) rest) ∧ 0 ≤ m := by
  have go := fun (p F : Int) (e3 e4 e5 : Option DV) (hp : 0 < p) (hp2 : p < 4294967296) (hF : 0 ≤ F) (hF2 : F ≤ 2 ^ 200) => mixed_turn (P := P) (call := call) (w := w) (r := r) (rest := rest) (t' := t + 1) (t := t + 1) (e3 := e3) (e4 := e4) (e5 := e5) hp hp2 (by omega) (by omega) hc hF hF2
  obtain ⟨F1, a4, a5, q1, l1, u1⟩ := go 2147483629 0 none none none (by omega) (by omega) (by omega) (by omega)
  obtain ⟨F2, b4, b5, q2, l2, u2⟩ := go 2147483587 F1 none a4 a5 (by omega) (by omega) l1 (by omega)
  obtain ⟨F3, c4, c5, q3, l3, u3⟩ := go 2147483579 F2 none b4 b5 (by omega) (by omega) l2 (by omega)
  obtain ⟨F4, d4, d5, q4, l4, u4⟩ := go 2147483563 F3 none c4 c5 (by omega) (by omega) l3 (by omega)
  refine ⟨F4, ?_, l4⟩
  rw [runFn_eq hf (by simp), hk]
  have e : cMixed = [.par 1 2 (.op2 .add (.sub (.var 0) (.cst (.str "turn"))) (.cst (.int 1))) (.cst (.int 0)), .put (.var 0) (.cst (.str "turn")) (.var 1), .forS (.one 3) (.val (.lst (.cons (.cst (.int 2147483629)) (.cons (.cst (.int 2147483587)) (.cons (.cst (.int 2147483579)) (.cons (.cst (.int 2147483563)) .nil)))))) cTurn, .ret (.var 2)] := rfl
  rw [e]
  simp only [List.map_cons, List.map_nil, List.length_cons, List.length_nil, List.cons_append, List.nil_append, List.replicate, x_cons, x_nil, t_nxt, t_ret, x_set, x_par, x_put, x_for, x_ret, tgB_one, ev, evs, evSr, List.getElem?_cons_zero, List.getElem?_cons_succ, bind_ok, sub_turn, ofO_some, s2_add, List.set_cons_zero, List.set_cons_succ, embed, embedAll, put_turn, seqOf, listOf, Sq_ok_fun, forL_nil, forL_cons, u_nxt, q1, q2, q3, q4, fnEnd_ret]
  exact leave_st0 (d := .int F4) hrs (fun n z => by cases z)
/-! ### take -/
def cTake (m : Nat) : List St := [.ife (.cmp .eq (.sub (.var 0) (.cst (.str "rest"))) (.cst (.int 0))) [.put (.var 0) (.cst (.str "rest")) (.ite (.cmp .ne (.sub (.var 0) (.cst (.str "wide"))) (.lst .nil)) (.pop0 (.sub (.var 0) (.cst (.str "wide")))) (.callK m (.cons (.var 0) .nil) .nil [.inl 0]))] [], .set 2 (.op2 .md (.prim .int (.cons (.sub (.var 0) (.cst (.str "rest"))) .nil)) (.var 1)), .put (.var 0) (.cst (.str "rest")) (.op2 .fdiv (.sub (.var 0) (.cst (.str "rest"))) (.var 1)), .ret (.var 2)]
theorem ne_wide : semC .ne (.loc 0) (.lst []) (st w c r t rest) = some (!w.isEmpty) := by
  obtain ⟨h1, h2⟩ := ints_plain w
  rw [sC_ne (x := .lst (w.map .int)) (y := .lst []) rfl rfl h1 rfl (by simp [depthD, h2]) (by simp [depthD, depthL])]
  cases w <;> simp [deq, deqL]
theorem take_run {f m : Nat} {k : Int} {b : Nat} {s : S} (hf : P.fn f = some ⟨3, cTake m⟩) (hk : keep f = false) (hk0 : 0 < k) (hk1 : k < 1073741824) (hs : DS b rest s) (hb : b < 1099511627000)
    (hm : ∀ w c r t, (∀ x ∈ c, 0 ≤ x ∧ x < 2147483629) → 0 ≤ t → t < 1099511627000 → ∃ v, call m [.loc 1] (st w c r t rest) = .ok (.int v) (st w c r (t + 1) rest) ∧ 0 ≤ v) :
    ∃ v s', runFn P keep call f [.loc 1, .int k] s = .ok (.int v) s' ∧ 0 ≤ v ∧ v < k ∧ DS (b + 1) rest s' := by
  obtain ⟨⟨w, c, r, t, rfl, hw, hc, hr, ht, htb⟩, hrs⟩ := hs
  -- what is left to draw from
  have main : ∀ (w0 : List Int) (r0 t0 : Int) (w : List Int) (r t : Int), (∀ x ∈ w, 0 ≤ x) → 0 ≤ r → 0 ≤ t → t ≤ b + 1 → ∃ v s', fnEnd false (st w0 c r0 t0 rest) (exSs P call [.set 2 (.op2 .md (.prim .int (.cons (.sub (.var 0) (.cst (.str "rest"))) .nil)) (.var 1)), .put (.var 0) (.cst (.str "rest")) (.op2 .fdiv (.sub (.var 0) (.cst (.str "rest"))) (.var 1)), .ret (.var 2)] [some (.loc 1), some (.int k), none] (st w c r t rest)) = .ok (.int v) s' ∧ 0 ≤ v ∧ v < k ∧ DS (b + 1) rest s' := by
    intro w0 r0 t0 w r t hw hr ht htb
    refine ⟨r % k, st w c (r / k) t rest, ?_, Int.emod_nonneg _ (by omega), Int.emod_lt_of_pos _ hk0, ⟨⟨w, c, r / k, t, rfl, hw, hc, Int.ediv_nonneg hr (by omega), ht, by omega⟩, hrs⟩⟩
    simp only [x_cons, x_nil, t_nxt, t_ret, x_set, x_put, x_ret, ev, evs, List.getElem?_cons_zero, List.getElem?_cons_succ, bind_ok, sub_rest, ofO_some, sP_int, s2_md _ hk0, s2_fdiv _ ⟨hk0, hk1⟩, List.set_cons_zero, List.set_cons_succ, embed, put_rest, fnEnd_ret]
    exact leave_st0 (d := .int (r % k)) hrs (fun n z => by cases z)
  rw [runFn_eq hf (by simp), hk]
  unfold cTake
  by_cases h0 : r = 0
  rotate_left
  · have hne : (r == 0) = false := by simpa using h0
    have q := main w r t w r t hw hr ht (by omega)
    simp only [List.map_cons, List.map_nil, List.length_cons, List.length_nil, List.cons_append, List.nil_append, List.replicate, x_cons (r := _ :: _), x_if, ev, List.getElem?_cons_zero, bind_ok, sub_rest, ofO_some, sC_eqi, hne, Option.map_some, asB_ok, Bool.false_eq_true, if_false, x_nil, t_nxt] at q ⊢
    exact q
  · subst h0
    have hne : ((0 : Int) == 0) = true := rfl
    cases w with
    | cons x w =>
      have hp : popAt true (.loc 0) (st (x :: w) c 0 t rest) = .ok (.int x) (st w c 0 t rest) := rfl
      have q := main (x :: w) 0 t w x t (fun y hy => hw y (by simp [hy])) (hw x (by simp)) ht (by omega)
      simp only [List.map_cons, List.map_nil, List.length_cons, List.length_nil, List.cons_append, List.nil_append, List.replicate, x_cons (r := _ :: _), x_if, ev, evs, embedAll, List.getElem?_cons_zero, List.getElem?_cons_succ, bind_ok, sub_rest, sub_wide, ofO_some, sC_eqi, hne, Option.map_some, asB_ok, if_true, x_cons, x_put, ne_wide, List.isEmpty_cons, Bool.not_false, hp, embed, put_rest, x_nil, t_nxt] at q ⊢
      exact q
    | nil =>
      obtain ⟨x, hm1, hx⟩ := hm [] c 0 t hc ht (by omega)
      have q := main [] 0 t [] x (t + 1) (by simp) hx (by omega) (by omega)
      simp only [List.map_cons, List.map_nil, List.length_cons, List.length_nil, List.cons_append, List.nil_append, List.replicate, x_cons (r := _ :: _), x_if, ev, evs, embedAll, List.getElem?_cons_zero, List.getElem?_cons_succ, bind_ok, sub_rest, sub_wide, ofO_some, sC_eqi, hne, Option.map_some, asB_ok, if_true, x_cons, x_put, ne_wide, List.isEmpty_nil, Bool.not_true, Bool.false_eq_true, if_false, permute, hm1, embed, put_rest, x_nil, t_nxt] at q ⊢
      exact q
end
end WS.I
set_option maxRecDepth 100000
/-! E2: begun, pick. -/
namespace WS.I
open PySem
/-- what take promises -/
def TakeOk (call : Nat → List DV → M DV) (tk : Nat) (rest : List Cell) : Prop := ∀ (b : Nat) (s : S) (k : Int), DS b rest s → 0 < k → k < 1073741824 → b < 1099511627000 → ∃ v s', call tk [.loc 1, .int k] s = .ok (.int v) s' ∧ 0 ≤ v ∧ v < k ∧ DS (b + 1) rest s'
def cPick (tk : Nat) : List St := [.ret (.sub (.var 1) (.callK tk (.cons (.var 0) (.cons (.prim .len (.cons (.var 1) .nil)) .nil)) .nil [.inl 0, .inl 1]))]
section
variable {P : Pg} {keep : Nat → Bool} {call : Nat → List DV → M DV} {rest : List Cell}
theorem leave_DS {b b' : Nat} {s s' : S} {d : DV} (h : DS b rest s) (h' : DS b' rest s') (hd : isTree d = true) : leave s d s' = .ok d s' := by
  obtain ⟨⟨w, c, r, t, rfl, _⟩, hrs⟩ := h
  obtain ⟨⟨w', c', r', t', rfl, _⟩, _⟩ := h'
  exact leave_st0 hrs fun n z => by subst z; cases hd
theorem ixOf_nat {n : Nat} {v : Int} (h0 : 0 ≤ v) (h : v < n) : ixOf n v = some v.toNat := by
  unfold ixOf
  rw [if_pos h0, if_pos h]
@[simp] theorem sP_len_lst (xs : List DV) (s : S) : semP .len [.lst xs] s = some (.int xs.length) := rfl
@[simp] theorem sP_len_tup (xs : List DV) (s : S) : semP .len [.tup xs] s = some (.int xs.length) := rfl
@[simp] theorem sP_len_scr (ns : List Int) (s : S) : semP .len [.scr ns] s = some (.int ns.length) := by
  show some (DV.int ((ns.map DV.int).length : Int)) = _
  simp
theorem sub_lst {xs : List DV} {v : Int} {s : S} (h0 : 0 ≤ v) (h : v < xs.length) : semSub (.lst xs) (.int v) s = xs[v.toNat]? := by
  show (ixOf xs.length v).bind (fun j => xs[j]?) = _
  rw [ixOf_nat h0 h]
  rfl
theorem pick_run {f tk b : Nat} {xs : List DV} {s : S} (hf : P.fn f = some ⟨2, cPick tk⟩) (hk : keep f = false) (ht : TakeOk call tk rest) (hs : DS b rest s) (hb : b < 1099511627000) (h0 : 0 < xs.length) (h1 : xs.length < 1073741824) (hx : xs.all isTree = true) :
    ∃ x s', runFn P keep call f [.loc 1, .lst xs] s = .ok x s' ∧ x ∈ xs ∧ isTree x = true ∧ DS (b + 1) rest s' := by
  obtain ⟨v, s', e, v0, v1, hs'⟩ := ht b s xs.length hs (by omega) (by omega) hb
  have hl : v.toNat < xs.length := by omega
  have hg : xs[v.toNat]? = some xs[v.toNat] := List.getElem?_eq_getElem hl
  refine ⟨xs[v.toNat], s', ?_, List.getElem_mem hl, List.all_eq_true.mp hx _ (List.getElem_mem hl), hs'⟩
  rw [runFn_eq hf (by simp), hk]
  have ht' : isTree xs[v.toNat] = true := List.all_eq_true.mp hx _ (List.getElem_mem hl)
  simp [cPick, permute, e, sub_lst v0 v1, hg, leave_DS hs hs' ht']
/-! ### the beginning -/
def cBegun : List St := [.set 1 (.new (.comp (.one 2) (.op2 .sub (.prim .abs (.cons (.var 2) .nil)) (.op2 .pow (.cst (.int 10)) (.cst (.int 18)))) (.val (.var 0)) (.cmp .ge (.prim .abs (.cons (.var 2) .nil)) (.op2 .pow (.cst (.int 10)) (.cst (.int 18)))))), .ret (.newD (.cons (.cst (.str "wide")) (.cons (.var 1) (.cons (.cst (.str "cells")) (.cons (.comp (.one 2) (.op2 .md (.prim .int (.cons (.prim .abs (.cons (.var 2) .nil)) .nil)) (.cst (.int 2147483629))) (.val (.var 0)) (.cst (.bl true))) (.cons (.cst (.str "rest")) (.cons (.cst (.int 0)) (.cons (.cst (.str "turn")) (.cons (.cst (.int 0)) .nil)))))))))]
def toI : DV → Int
  | .int i => i
  | _ => 0
theorem begun_run {f : Nat} {ns : List Int} (hf : P.fn f = some ⟨3, cBegun⟩) (hk : keep f = true) : ∃ s, runFn P keep call f [.scr ns] [] = .ok (.loc 1) s ∧ DS 0 [] s := by
  let w : List Int := (ns.filter fun i => decide (10 ^ 18 ≤ absI i)).map fun i => absI i - 10 ^ 18
  let c : List Int := ns.map fun i => absI i % 2147483629
  refine ⟨st w c 0 0 [], ?_, ⟨⟨w, c, 0, 0, rfl, ?_, ?_, by omega, by omega, by omega⟩, fun i c h => by simp at h⟩⟩
  · have h18 := fun s => s2_pow (i := 10) (j := 18) s ⟨by omega, by omega, by omega⟩
    have e1 : ∀ env : Env, mapIf (fun _ => True) (tgC (.one 2) (evB P call (.cmp .ge (.prim .abs (.cons (.var 2) .nil)) (.op2 .pow (.cst (.int 10)) (.cst (.int 18))))) [some (.scr ns), none, none]) (tgC (.one 2) (ev P call (.op2 .sub (.prim .abs (.cons (.var 2) .nil)) (.op2 .pow (.cst (.int 10)) (.cst (.int 18))))) [some (.scr ns), none, none]) (ns.map .int) [] = .ok (w.map .int) [] := by
      intro env
      rw [mapIf_pure (p := fun d => decide (10 ^ 18 ≤ absI (toI d))) (g := fun d => .int (absI (toI d) - 10 ^ 18))]
      · show Res.ok (List.map _ (List.filter _ (ns.map DV.int))) [] = _
        rw [List.filter_map, List.map_map]
        simp only [w, List.map_map]
        rfl
      · intro x hx
        obtain ⟨i, _, rfl⟩ := List.mem_map.mp hx
        simp [h18, toI]
        rfl
      · intro x hx _
        obtain ⟨i, _, rfl⟩ := List.mem_map.mp hx
        simp [h18, toI]
    have e2 : ∀ (s : S) (d : DV), mapIf (fun _ => True) (tgC (.one 2) (evB P call (.cst (.bl true))) [some (.scr ns), some d, none]) (tgC (.one 2) (ev P call (.op2 .md (.prim .int (.cons (.prim .abs (.cons (.var 2) .nil)) .nil)) (.cst (.int 2147483629)))) [some (.scr ns), some d, none]) (ns.map .int) s = .ok (c.map .int) s := by
      intro s d
      rw [mapIf_pure (p := fun _ => true) (g := fun d => .int (absI (toI d) % 2147483629))]
      · rw [List.filter_eq_self.mpr (by simp)]
        simp only [c, List.map_map]
        rfl
      · intro x hx
        simp
      · intro x hx _
        obtain ⟨i, _, rfl⟩ := List.mem_map.mp hx
        simp [s2_md, toI]
    rw [runFn_eq hf (by simp), hk]
    unfold cBegun
    simp only [List.map_cons, List.map_nil, List.length_cons, List.length_nil, List.cons_append, List.nil_append, List.replicate, x_cons, x_set, e_new, e_comp, r_val, e_var, slot_ok, bind_ok, w_scr, Sq_ok_fun, e1 [], noErr_ok, asCell_lst, t_nxt, x_ret, e_newD, es_cons, es_nil, e_cst, List.set_cons_zero, List.set_cons_succ, slot_succ, e2, t_ret, fnEnd_retK]
    rfl
  · intro x hx
    obtain ⟨i, hi, rfl⟩ := List.mem_map.mp hx
    have := (List.mem_filter.mp hi).2
    simp only [decide_eq_true_eq] at this
    omega
  · intro x hx
    obtain ⟨i, _, rfl⟩ := List.mem_map.mp hx
    exact ⟨Int.emod_nonneg _ (by omega), Int.emod_lt_of_pos _ (by omega)⟩
end
end WS.I
set_option maxRecDepth 100000
/-! E3: stores that may stand alone; instances made; isinstance; names. -/
namespace WS.I
open PySem
/-! ### stores -/
def stOk (s : S) : Prop := s.all (okCell s.length) = true
theorem okCell_mono {k k' : Nat} (h : k ≤ k') : ∀ {c : Cell}, okCell k c = true → okCell k' c = true
  | .dct kvs, e => by
    simp only [okCell, List.all_eq_true] at e ⊢
    intro p hp
    have := e p hp
    split at this
    · rename_i m
      simp only [decide_eq_true_eq] at this ⊢
      omega
    · exact this
  | .lst _, _ => rfl
  | .ins _ _, _ => rfl
  | .frz _, _ => rfl
theorem stOk_DS {b : Nat} {rest : List Cell} {s : S} (h : DS b rest s) : stOk s := by
  obtain ⟨⟨w, c, r, t, rfl, _⟩, hrs⟩ := h
  simp only [stOk, st, List.all_cons, okCell, drawC, List.length_cons, Bool.true_and, List.all_nil, Bool.and_true, Bool.and_eq_true, decide_eq_true_eq]
  refine ⟨by omega, ?_⟩
  rw [List.all_eq_true]
  intro c hc
  obtain ⟨i, hi, e⟩ := List.getElem_of_mem hc
  exact okCell_le (by omega) (hrs i c (by rw [← e]; exact List.getElem?_eq_getElem hi))
theorem stOk_nil : stOk [] := rfl
theorem okCells_app {s : S} {x y : Cell} (h : stOk s) (hy : noDct y = true) : okCells (s ++ [x]).length (s ++ [x]) (s ++ [y]) := by
  right
  have e : (s ++ [y]).take (s ++ [x]).length = s ++ [y] := by
    rw [show (s ++ [x]).length = (s ++ [y]).length by simp, List.take_length]
  rw [e, List.all_append]
  simp only [List.all_cons, List.all_nil, Bool.and_true, Bool.and_eq_true]
  refine ⟨?_, ?_⟩
  · rw [List.all_eq_true]
    intro c hc
    exact okCell_mono (by simp) (List.all_eq_true.mp h c hc)
  · exact okCell_of hy
theorem leave_app {s : S} {x y : Cell} (h : stOk s) (hy : noDct y = true) {d : DV} (hd : isTree d = true) : leave (s ++ [x]) d (s ++ [y]) = .ok d (s ++ [y]) := by
  unfold leave
  rw [if_pos (okCells_app h hy)]
  have e : (s ++ [y]).take (s ++ [x]).length = s ++ [y] := by
    rw [show (s ++ [x]).length = (s ++ [y]).length by simp, List.take_length]
  cases d <;> first | (simp only [e]; done) | cases hd
/-- a new cell at the end goes with the call -/
theorem leave_new {s : S} {x : Cell} {d : DV} (hd : isTree d = true) : leave s d (s ++ [x]) = .ok d s := by
  unfold leave
  have e : (s ++ [x]).take s.length = s := by rw [List.take_append_of_le_length (Nat.le_refl _), List.take_length]
  rw [if_pos (.inl e)]
  cases d <;> first | (simp only [e]; done) | cases hd
theorem leave_same {s : S} {d : DV} (hd : isTree d = true) : leave s d s = .ok d s := leave_tree fun n z => by subst z; cases hd
theorem DS_appK {b : Nat} {rest : List Cell} {s : S} {c : Cell} (h : DS b rest s) (hc : okCell (rest.length + 2) c = true) : DS b (rest ++ [c]) (s ++ [c]) := by
  obtain ⟨⟨w, cs, r, t, rfl, q⟩, hrs⟩ := h
  refine ⟨⟨w, cs, r, t, rfl, q⟩, fun i x hx => ?_⟩
  by_cases hi : i < rest.length
  · rw [List.getElem?_append_left hi] at hx
    exact hrs i x hx
  · rw [List.getElem?_append_right (by omega)] at hx
    have h0 : i - rest.length = 0 := by
      have := (List.getElem?_eq_some_iff.mp hx).1
      simp at this
      omega
    rw [h0] at hx
    cases hx
    exact okCell_le (by omega) hc
theorem DS_app {b : Nat} {rest : List Cell} {s : S} {c : Cell} (h : DS b rest s) (hc : noDct c = true) : DS b (rest ++ [c]) (s ++ [c]) := DS_appK h (okCell_of hc)
theorem DS_mono {b b' : Nat} {rest : List Cell} {s : S} (h : DS b rest s) (hb : b ≤ b') : DS b' rest s := by
  obtain ⟨⟨w, cs, r, t, e, q1, q2, q3, q4, q5⟩, hrs⟩ := h
  exact ⟨⟨w, cs, r, t, e, q1, q2, q3, q4, by omega⟩, hrs⟩
/-- a comprehension whose parts draw -/
theorem mapIf_draw {c : DV → M Bool} {f : DV → M DV} {p : DV → Bool} {k : Nat} {rest : List Cell} (hc : ∀ x s, c x s = .ok true s) : ∀ {xs : List DV} {b : Nat} {s : S}, DS b rest s → (∀ x ∈ xs, ∀ b' s', b' + k ≤ b + k * xs.length → DS b' rest s' → ∃ y s2, f x s' = .ok y s2 ∧ p y = true ∧ isTree y = true ∧ DS (b' + k) rest s2) →
    ∃ ys s2, mapIf (fun _ => True) c f xs s = .ok ys s2 ∧ ys.length = xs.length ∧ ys.all p = true ∧ DS (b + k * xs.length) rest s2
  | [], b, s, h, _ => ⟨[], s, by simp [mapIf], rfl, rfl, h⟩
  | x :: r, b, s, h, hf => by
    obtain ⟨y, s1, h1, h2, h3, h4⟩ := hf x (by simp) b s (by simp [Nat.mul_add]) h
    obtain ⟨ys, s2, g1, g2, g3, g4⟩ := mapIf_draw hc (xs := r) (b := b + k) h4 fun z hz b' s' hb hs => hf z (by simp [hz]) b' s' (by simp [Nat.mul_add]; omega) hs
    refine ⟨y :: ys, s2, ?_, by simp [g2], by simp [h2, g3], by rw [show b + k * (x :: r).length = b + k + k * r.length by simp [Nat.mul_add]; omega]; exact g4⟩
    conv => lhs; unfold mapIf
    rw [if_pos trivial, hc]
    simp [h1, embed_t s1 h3, g1]
/-- a loop that leaves the store as it is -/
theorem forL_stay {ok : S → Prop} {f : DV → Env → M Flow} {I : Env → Prop} {s : S} (ho : ok s) : ∀ {xs : List DV} {env : Env}, I env → (∀ x ∈ xs, ∀ env, I env → ∃ e, f x env s = .ok (.nxt e) s ∧ I e) → ∃ e, forL ok f xs env s = .ok (.nxt e) s ∧ I e
  | [], env, h, _ => ⟨env, by unfold forL; exact if_pos ho, h⟩
  | x :: r, env, h, hs => by
    obtain ⟨e, h1, h2⟩ := hs x (by simp) env h
    obtain ⟨e2, h3, h4⟩ := forL_stay ho (xs := r) h2 fun y hy => hs y (by simp [hy])
    refine ⟨e2, ?_, h4⟩
    conv => lhs; unfold forL
    rw [if_pos ho, h1]
    exact h3
/-! ### instances -/
open Classical in
/-- behind __init__ -/
noncomputable def makeEnd (s : S) (c : Nat) : Res DV → Res DV
    | .ok .non s' => (match s'[s.length]? with
      | some (.ins c' fs) => if c' = c ∧ okCells s.length s s' then .ok (.ins c fs) (s'.take s.length) else .stuck
      | _ => .stuck)
    | .ok _ _ => .stuck
    | .err c fs s' => if okCells s.length s s' then .err c fs (s'.take s.length) else .stuck
    | .stuck => .stuck
section
variable {P : Pg} {keep : Nat → Bool} {call : Nat → List DV → M DV} {s : S}
theorem make_eq {c : Nat} {k : Cl} {vs : List DV} (h : P.cl c = some k) : make P call c vs s = makeEnd s c (call k.init (.loc s.length :: vs) (s ++ [.ins c []])) := by
  unfold make
  rw [h]
  simp only
  cases call k.init (.loc s.length :: vs) (s ++ [.ins c []]) with
  | ok d s1 => cases d <;> rfl
  | err c fs s1 => rfl
  | stuck => rfl
theorem take_app {s : S} {x : Cell} : (s ++ [x]).take s.length = s := by rw [List.take_append_of_le_length (Nat.le_refl _), List.take_length]
theorem makeEnd_ok {c : Nat} {fs : List (Str × DV)} : makeEnd s c (.ok .non (s ++ [.ins c fs])) = .ok (.ins c fs) s := by
  have e : (s ++ [Cell.ins c fs])[s.length]? = some (.ins c fs) := by simp
  simp only [makeEnd, e]
  rw [if_pos ⟨rfl, .inl take_app⟩, take_app]
theorem makeEnd_err {c e : Nat} {fs : List (Str × DV)} {x : Cell} : makeEnd s c (.err e fs (s ++ [x])) = .err e fs s := by
  exact (if_pos (.inl take_app)).trans (by rw [take_app])
theorem fnEnd_err_same {kp : Bool} {c : Nat} {fs : List (Str × DV)} : fnEnd kp s (.err c fs s) = .err c fs s := by
  rw [fnEnd_err (okCells_same s), List.take_length]
theorem setFld_app {c : Nat} {gs : List (Str × DV)} {k : Cl} {x : Str} {v : DV} (h : P.cl c = some k) (hx : k.props.lookup x = none) (hl : gs.length < 1000) : setFld P (.loc s.length) x v (s ++ [.ins c gs]) = .ok () (s ++ [.ins c (fput x v gs)]) := by
  unfold setFld
  simp only [List.getElem?_append_right (Nat.le_refl _), Nat.sub_self, List.getElem?_cons_zero, h]
  rw [if_pos ⟨hx, hl⟩]
  simp
/-! ### dicts, lists -/
@[simp] theorem sk_str (x : Str) : skOf (.str x) = some (.s x) := rfl
@[simp] theorem sk_int (i : Int) : skOf (.int i) = some (.i i) := rfl
@[simp] theorem dput_nil (k : SK) (v : DV) : dput k v [] = [(k.dv, v)] := rfl
@[simp] theorem skdv_s (x : Str) : (SK.s x).dv = .str x := rfl
@[simp] theorem skdv_i (i : Int) : (SK.i i).dv = .int i := rfl
theorem s2_addL {xs ys : List DV} (s : S) (h : xs.length + ys.length ≤ 16777216) : sem2 .add (.lst xs) (.lst ys) s = some (.lst (xs ++ ys)) := if_pos ⟨by unfold LIM; omega, by unfold LIM; omega, h⟩
theorem listOf_app {s : S} {xs : List DV} : listOf (s ++ [.lst xs]) (.loc s.length) = some xs := by
  show (match (s ++ [Cell.lst xs])[s.length]? with
    | some (.lst xs) => some xs
    | some (.frz (.lst xs)) => some xs
    | _ => none) = _
  simp
theorem appAt_app {s : S} {xs : List DV} {v : DV} (h : xs.length < 1000000) : appAt (.loc s.length) v (s ++ [.lst xs]) = .ok () (s ++ [.lst (xs ++ [v])]) := by
  unfold appAt
  simp only [List.getElem?_append_right (Nat.le_refl _), Nat.sub_self, List.getElem?_cons_zero]
  rw [if_pos (by unfold LIM; omega)]
  simp
theorem s2_addC {s : S} {xs ys : List DV} (h : xs.length + ys.length ≤ 16777216) : sem2 .add (.loc s.length) (.lst ys) (s ++ [.lst xs]) = some (.lst (xs ++ ys)) := by
  show (match listOf (s ++ [.lst xs]) (.loc s.length), listOf (s ++ [.lst xs]) (.lst ys) with
    | some xs, some ys => if xs.length ≤ LIM ∧ ys.length ≤ LIM ∧ xs.length + ys.length ≤ LIM then some (DV.lst (xs ++ ys)) else none
    | _, _ => none) = _
  rw [listOf_app]
  exact if_pos ⟨by unfold LIM; omega, by unfold LIM; omega, h⟩
/-! ### comprehensions, turn by turn -/
@[simp] theorem mapIf_nil {c : DV → M Bool} {f : DV → M DV} {s : S} : mapIf (fun _ => True) c f [] s = .ok [] s := by simp [mapIf]
theorem mapIf_yes {c : DV → M Bool} {f : DV → M DV} {d y y' : DV} {r : List DV} {s s0 s1 s2 : S} (h1 : c d s = .ok true s0) (h2 : f d s0 = .ok y s1) (h3 : embed y s1 = .ok y' s2) : mapIf (fun _ => True) c f (d :: r) s = (mapIf (fun _ => True) c f r s2).bind fun ys s3 => .ok (y' :: ys) s3 := by
  conv => lhs; unfold mapIf
  rw [if_pos trivial, h1]
  simp [h2, h3]
theorem mapIf_no {c : DV → M Bool} {f : DV → M DV} {d : DV} {r : List DV} {s s0 : S} (h1 : c d s = .ok false s0) : mapIf (fun _ => True) c f (d :: r) s = mapIf (fun _ => True) c f r s0 := by
  conv => lhs; unfold mapIf
  rw [if_pos trivial, h1]
  simp
@[simp] theorem tgC_two {α : Type} (i j : Nat) (k : Env → M α) (env : Env) (x y : DV) (s : S) : tgC (.many [i, j]) k env (.tup [x, y]) s = k ((env.set i (some x)).set j (some y)) s := rfl
theorem slc_one {xs : List DV} {s : S} : semSlc (.lst xs) none (some 1) s = some (.lst (xs.take 1)) := by
  show (some (DV.lst (cut xs none (some 1)))) = _
  cases xs <;> simp [cut, cutIx]
/-! ### isinstance -/
theorem isi_tree {d : DV} {ts : List Ty} (h : isTree d = true) (ho : dvOk P d = true) : isiR P d ts s = isAny P.up d ts := by
  unfold isiR
  cases d <;> first | (simp only [treeOf, ho, if_true]; done) | cases h
@[simp] theorem isAny_nil {up : Nat → List Nat} {d : DV} : isAny up d [] = some false := rfl
def isIntD : DV → Bool
  | .int _ => true
  | .bl _ => true
  | _ => false
def isBlD : DV → Bool
  | .bl _ => true
  | _ => false
def isStrD : DV → Bool
  | .str _ => true
  | _ => false
def isNumD : DV → Bool
  | .int _ => true
  | _ => false
theorem isi_int {d : DV} (h : isTree d = true) (ho : dvOk P d = true) : isiR P d [.int] s = some (isIntD d) := by
  rw [isi_tree h ho]
  cases d <;> first | rfl | cases h
theorem isi_bool {d : DV} (h : isTree d = true) (ho : dvOk P d = true) : isiR P d [.bool] s = some (isBlD d) := by
  rw [isi_tree h ho]
  cases d <;> first | rfl | cases h
theorem isi_str {d : DV} (h : isTree d = true) (ho : dvOk P d = true) : isiR P d [.str] s = some (isStrD d) := by
  rw [isi_tree h ho]
  cases d <;> first | rfl | cases h
/-! ### is_number, is_name -/
def cIsNum : List St := [.ret (.and (.isi (.var 0) [.int]) (.not (.isi (.var 0) [.bool])))]
theorem isnum_run {f : Nat} {d : DV} (hf : P.fn f = some ⟨1, cIsNum⟩) (hk : keep f = false) (h : isTree d = true) (ho : dvOk P d = true) : runFn P keep call f [d] s = .ok (.bl (isNumD d)) s := by
  rw [runFn_eq hf (by simp), hk]
  have e : (if isIntD d = true then !isBlD d else false) = isNumD d := by cases d <;> rfl
  by_cases hi : isIntD d = true
  · have e2 : (!isBlD d) = isNumD d := by rw [← e, if_pos hi]
    simp [cIsNum, isi_int h ho, isi_bool h ho, hi, e2, leave_same (d := .bl (isNumD d)) rfl]
  · have e2 : false = isNumD d := by rw [← e, if_neg hi]
    have hi : isIntD d = false := by simpa using hi
    simp [cIsNum, isi_int h ho, hi, ← e2, leave_same (d := .bl false) rfl]
def LETT : Str := "abcdefghijklmnopqrstuvwxyz"
def letB (c : Nat) : Bool := decide (c ∈ LETT.cps.toList)
/-- a name of a house, a word -/
def nameB : DV → Bool
  | .str x => decide (1 ≤ (x.length : Int)) && decide ((x.length : Int) ≤ 6) && x.cps.toList.all letB
  | _ => false
def signB : DV → Bool
  | .str x => letB (x.cps.getD 0 0)
  | _ => false
theorem sign_in {c : Nat} {z : Str} {s : S} : semC .isin (.str ⟨#[c]⟩) (.str z) s = some (decide (c ∈ z.cps.toList)) := by
  show (if (#[c] : Array Nat).size = 1 then some (decide ((#[c] : Array Nat).getD 0 0 ∈ z.cps.toList)) else none) = _
  simp
theorem sign_nin {c : Nat} {z : Str} {s : S} : semC .nin (.str ⟨#[c]⟩) (.str z) s = some (!decide (c ∈ z.cps.toList)) := by
  show (if (#[c] : Array Nat).size = 1 then some (!decide ((#[c] : Array Nat).getD 0 0 ∈ z.cps.toList)) else none) = _
  simp
def bls (bs : List Bool) : List DV := bs.map .bl
theorem boolsOf_bls : ∀ bs : List Bool, boolsOf (bls bs) = some bs
  | [] => rfl
  | b :: r => by
    have ih := boolsOf_bls r
    simp only [bls] at ih ⊢
    simp [boolsOf, ih]
theorem all_bls {bs : List Bool} : semP .all [.lst (bls bs)] s = some (.bl (bs.all id)) := by
  show ((boolsOf (bls bs)).map fun bs => DV.bl (bs.all id)) = _
  rw [boolsOf_bls]
  rfl
theorem any_bls {bs : List Bool} : semP .any [.lst (bls bs)] s = some (.bl (bs.any id)) := by
  show ((boolsOf (bls bs)).map fun bs => DV.bl (bs.any id)) = _
  rw [boolsOf_bls]
  rfl
theorem len_str {x : Str} (h : x.length ≤ LIM) : semP .len [.str x] s = some (.int x.length) := if_pos h
def cIsName : List St := [.ife (.or (.not (.isi (.var 0) [.str])) (.not (.chn .le .le (.cst (.int 1)) (.prim .len (.cons (.var 0) .nil)) (.glo "LONGEST_NAME" (.int 6))))) [.ret (.cst (.bl false))] [], .ret (.prim .all (.cons (.comp (.one 1) (.cmp .isin (.var 1) (.glo "LETTERS" (.str "abcdefghijklmnopqrstuvwxyz"))) (.val (.var 0)) (.cst (.bl true))) .nil))]
/-- texts of a size that the model counts -/
def strOk : DV → Bool
  | .str x => decide (x.length ≤ LIM)
  | _ => true
theorem isname_run {f : Nat} {d : DV} (hf : P.fn f = some ⟨2, cIsName⟩) (hk : keep f = false) (h : isTree d = true) (ho : dvOk P d = true) (hs : strOk d = true) : runFn P keep call f [d] s = .ok (.bl (nameB d)) s := by
  rw [runFn_eq hf (by simp), hk]
  by_cases hi : isStrD d = true
  rotate_left
  · have e2 : nameB d = false := by cases d <;> simp_all [nameB, isStrD]
    have hi : isStrD d = false := by simpa using hi
    simp [cIsName, isi_str h ho, hi, e2, leave_same (d := .bl false) rfl]
  · obtain ⟨x, rfl⟩ : ∃ x, d = .str x := by cases d <;> simp_all [isStrD]
    have hl : x.length ≤ LIM := by simpa [strOk] using hs
    have hm : ∀ env, mapIf (fun _ => True) (tgC (.one 1) (evB P call (.cst (.bl true))) [some (.str x), env]) (tgC (.one 1) (ev P call (.cmp .isin (.var 1) (.glo "LETTERS" (.str "abcdefghijklmnopqrstuvwxyz")))) [some (.str x), env]) (signs x) s = .ok (bls (x.cps.toList.map letB)) s := by
      intro env
      rw [mapIf_pure (p := fun _ => true) (g := fun d => .bl (signB d))]
      · rw [List.filter_eq_self.mpr (by simp)]
        simp only [signs, List.map_map, bls]
        rfl
      · intro y hy; simp
      · intro y hy _
        obtain ⟨c, _, rfl⟩ := List.mem_map.mp hy
        simp [sign_in, signB, letB, LETT]
    have hn : nameB (.str x) = (decide (1 ≤ (x.length : Int)) && (decide ((x.length : Int) ≤ 6) && (x.cps.toList.map letB).all id)) := by
      simp [nameB, Bool.and_assoc, List.all_map]
    rw [hn]
    by_cases h1 : (1 : Int) ≤ x.length
    · by_cases h2 : (x.length : Int) ≤ 6
      · simp [cIsName, isi_str h ho, hi, len_str hl, h1, h2, w_str s hl, hm, all_bls, leave_same]
        exact leave_same rfl
      · simp [cIsName, isi_str h ho, hi, len_str hl, h1, h2, leave_same (d := .bl false) rfl]
    · simp [cIsName, isi_str h ho, hi, len_str hl, h1, leave_same (d := .bl false) rfl]
end
end WS.I
set_option maxRecDepth 100000
/-! E4: lists of names; what is different; texts sorted. -/
namespace WS.I
open PySem
/-- each one new, behind those seen -/
def distB : List DV → List DV → Bool
  | _, [] => true
  | acc, x :: r => !(acc.any fun y => deq y x) && distB (acc ++ [x]) r
def itemsD : DV → List DV
  | .lst xs => xs
  | .tup xs => xs
  | _ => []
def isSeqD : DV → Bool
  | .lst _ => true
  | .tup _ => true
  | .scr _ => true
  | _ => false
/-- lists and tuples that are not the script -/
def noScr : DV → Bool
  | .scr _ => false
  | _ => true
def namesB (d : DV) : Bool := isSeqD d && (itemsD d).all nameB && distB [] (itemsD d)
/-- a value that may be handed on -/
def okV (P : Pg) (d : DV) : Bool := isTree d && dvOk P d && strOk d
theorem nameB_str {d : DV} (h : nameB d = true) : ∃ x, d = .str x := by cases d <;> simp_all [nameB]
theorem key_deq {q : DV} {x : Str} (hq : isStrD q = true) : decide (skOf q = some (.s x)) = deq q (.str x) := by
  cases q <;> simp_all [isStrD, skOf, deq]
  rename_i y
  by_cases h : y = x <;> simp [h]
section
variable {P : Pg} {keep : Nat → Bool} {call : Nat → List DV → M DV} {s : S}
theorem isi_seq {d : DV} (h : isTree d = true) (ho : dvOk P d = true) : isiR P d [.list, .tuple] s = some (isSeqD d) := by
  rw [isi_tree h ho]
  cases d <;> first | rfl | cases h
theorem isi_own {d : DV} {c : Nat} (h : isTree d = true) (ho : dvOk P d = true) : isiR P d [.own c] s = some (match d with
    | .ins c' _ => c' == c
    | _ => false) := by
  rw [isi_tree h ho]
  cases d <;> first | rfl | cases h | skip
  rename_i c' fs
  simp only [isAny, isTy]
  cases c' == c <;> rfl
theorem dput_keys {q : SK} {v : DV} {kvs : List (DV × DV)} : dput q v kvs = if (kvs.any fun p => decide (skOf p.1 = some q)) = true then kvs.map (fun p => if skOf p.1 = some q then (p.1, v) else p) else kvs ++ [(q.dv, v)] := rfl
/-- a dict of names -/
theorem dict_names {c : DV → M Bool} {fk fv : DV → M DV} (hc : ∀ x s, c x s = .ok true s) (hk : ∀ x s, fk x s = .ok x s) (hv : ∀ x s, fv x s = .ok (.bl true) s) : ∀ {xs : List DV} {acc : List (DV × DV)}, xs.all isStrD = true → (acc.map Prod.fst).all isStrD = true → ∃ kvs, dictIf (fun _ => True) c fk fv xs acc s = .ok kvs s ∧ kvs.length ≤ acc.length + xs.length ∧ decide (kvs.length = acc.length + xs.length) = distB (acc.map Prod.fst) xs
  | [], acc, _, _ => ⟨acc, by simp [dictIf], by simp, by simp [distB]⟩
  | d :: r, acc, hx, ha => by
    simp only [List.all_cons, Bool.and_eq_true] at hx
    obtain ⟨x, rfl⟩ : ∃ x, d = .str x := by cases d <;> simp_all [isStrD]
    have e0 : dictIf (fun _ => True) c fk fv (.str x :: r) acc s = dictIf (fun _ => True) c fk fv r (dput (.s x) (.bl true) acc) s := by
      conv => lhs; unfold dictIf
      rw [if_pos trivial, hc]
      simp only [bind_ok, if_true, hk, hv]
      rfl
    have ek : (acc.any fun p => decide (skOf p.1 = some (.s x))) = ((acc.map Prod.fst).any fun y => deq y (.str x)) := by
      rw [List.any_map]
      clear e0
      induction acc with
      | nil => rfl
      | cons p t ih =>
        simp only [List.map_cons, List.all_cons, Bool.and_eq_true] at ha
        simp only [List.any_cons, ih ha.2, Function.comp, key_deq ha.1]
    rw [e0, dput_keys, ek]
    by_cases hb : ((acc.map Prod.fst).any fun y => deq y (.str x)) = true
    · rw [if_pos hb]
      have em : ((acc.map fun p => if skOf p.1 = some (SK.s x) then (p.1, DV.bl true) else p).map Prod.fst) = acc.map Prod.fst := by
        rw [List.map_map]
        refine List.map_congr_left fun p _ => ?_
        simp only [Function.comp]
        split <;> rfl
      obtain ⟨kvs, h1, h2, h3⟩ := dict_names hc hk hv (xs := r) (acc := acc.map fun p => if skOf p.1 = some (SK.s x) then (p.1, DV.bl true) else p) hx.2 (by rw [em]; exact ha)
      rw [List.length_map] at h2
      refine ⟨kvs, h1, by simp; omega, ?_⟩
      simp only [distB, hb, Bool.not_true, Bool.false_and, decide_eq_false_iff_not, List.length_cons]
      omega
    · rw [if_neg hb]
      obtain ⟨kvs, h1, h2, h3⟩ := dict_names hc hk hv (xs := r) (acc := acc ++ [(.str x, .bl true)]) hx.2 (by rw [List.map_append, List.all_append, ha]; rfl)
      simp only [List.length_append, List.length_cons, List.length_nil] at h2 h3
      refine ⟨kvs, h1, by simp; omega, ?_⟩
      have hb : ((acc.map Prod.fst).any fun y => deq y (.str x)) = false := by simpa using hb
      simp only [distB, hb, Bool.not_false, Bool.true_and, List.length_cons]
      rw [List.map_append] at h3
      simp only [List.map_cons, List.map_nil] at h3
      rw [← h3]
      congr 1
      simp only [eq_iff_iff]
      omega
/-- a walk over a list or a tuple -/
theorem w_seq {d : DV} (h : isSeqD d = true) (hs : noScr d = true) (s : S) : walkOf d s = .ok ⟨itemsD d, none⟩ s := by
  cases d <;> first | rfl | (cases h; done) | (cases hs; done)
theorem len_seq {d : DV} (h : isSeqD d = true) (hs : noScr d = true) (s : S) : semP .len [d] s = some (.int (itemsD d).length) := by
  cases d <;> first | rfl | (cases h; done) | (cases hs; done)
def cDiff : List St := [.ret (.cmp .eq (.prim .len (.cons (.dcomp (.one 1) (.var 1) (.cst (.bl true)) (.val (.var 0)) (.cst (.bl true))) .nil)) (.prim .len (.cons (.var 0) .nil)))]
theorem diff_run {f : Nat} {d : DV} (hf : P.fn f = some ⟨2, cDiff⟩) (hk : keep f = false) (h : isSeqD d = true) (hs : noScr d = true) (hx : (itemsD d).all isStrD = true) : runFn P keep call f [d] s = .ok (.bl (distB [] (itemsD d))) s := by
  rw [runFn_eq hf (by simp), hk]
  obtain ⟨kvs, h1, h2, h3⟩ := dict_names (s := s) (c := tgC (.one 1) (evB P call (.cst (.bl true))) [some d, none]) (fk := tgC (.one 1) (ev P call (.var 1)) [some d, none]) (fv := tgC (.one 1) (ev P call (.cst (.bl true))) [some d, none]) (fun x s => by simp) (fun x s => by simp) (fun x s => by simp) (xs := itemsD d) (acc := []) hx rfl
  have hl : semP .len [.dct kvs] s = some (.int kvs.length) := rfl
  simp only [List.length_nil, Nat.zero_add, List.map_nil] at h3
  have e : (((kvs.length : Nat) : Int) == (((itemsD d).length : Nat) : Int)) = distB [] (itemsD d) := by
    rw [← h3]
    by_cases z : kvs.length = (itemsD d).length
    · simp [z]
    · simp only [z, decide_false, beq_eq_false_iff_ne, ne_eq]
      omega
  simp [cDiff, w_seq h hs, h1, hl, len_seq h hs, e]
  exact leave_same rfl
def cNames (nm df : Nat) : List St := [.ret (.and (.isi (.var 0) [.list, .tuple]) (.and (.prim .all (.cons (.comp (.one 1) (.callK nm (.cons (.var 1) .nil) .nil [.inl 0]) (.val (.var 0)) (.cst (.bl true))) .nil)) (.callK df (.cons (.var 0) .nil) .nil [.inl 0])))]
theorem names_run {f nm df : Nat} {d : DV} (hf : P.fn f = some ⟨2, cNames nm df⟩) (hk : keep f = false) (h : isTree d = true) (ho : dvOk P d = true) (hs : noScr d = true) (hi : (itemsD d).all (okV P) = true)
    (hn : ∀ x ∈ itemsD d, call nm [x] s = .ok (.bl (nameB x)) s) (hd : isSeqD d = true → (itemsD d).all isStrD = true → call df [d] s = .ok (.bl (distB [] (itemsD d))) s) : runFn P keep call f [d] s = .ok (.bl (namesB d)) s := by
  rw [runFn_eq hf (by simp), hk]
  cases hq : isSeqD d with
  | false =>
    have e : namesB d = false := by simp [namesB, hq]
    simp [cNames, isi_seq h ho, hq, e]
    exact leave_same rfl
  | true =>
    have hm : mapIf (fun _ => True) (tgC (.one 1) (evB P call (.cst (.bl true))) [some d, none]) (tgC (.one 1) (ev P call (.callK nm (.cons (.var 1) .nil) .nil [.inl 0])) [some d, none]) (itemsD d) s = .ok (bls ((itemsD d).map nameB)) s := by
      rw [mapIf_pure (p := fun _ => true) (g := fun d => .bl (nameB d))]
      · rw [List.filter_eq_self.mpr (by simp)]
        simp only [List.map_map, bls]
        rfl
      · intro y hy; simp
      · intro y hy _
        simp [permute, hn y hy]
    cases ha : (itemsD d).all nameB with
    | false =>
      have e : namesB d = false := by simp [namesB, ha]
      have ha2 : ((itemsD d).map nameB).all id = false := by rw [List.all_map]; exact ha
      simp only [cNames, List.map_cons, List.map_nil, List.length_cons, List.length_nil, List.cons_append, List.nil_append, List.replicate, x_cons, x_ret, e_and, e_isi, e_var, slot_ok, bind_ok, isi_seq h ho, hq, Option.map_some, ofO_some, asB_ok, if_true, e_prim, es_cons, es_nil, e_comp, r_val, w_seq hq hs, Sq_ok_fun, hm, noErr_ok, all_bls, ha2, if_false, Bool.false_eq_true, t_ret, fnEnd_ret, e]
      exact leave_same rfl
    | true =>
      have e : namesB d = distB [] (itemsD d) := by simp [namesB, ha, hq]
      have ha2 : ((itemsD d).map nameB).all id = true := by rw [List.all_map]; exact ha
      have hst : (itemsD d).all isStrD = true := by
        rw [List.all_eq_true] at ha ⊢
        intro x hx
        obtain ⟨y, rfl⟩ := nameB_str (ha x hx)
        rfl
      simp only [cNames, List.map_cons, List.map_nil, List.length_cons, List.length_nil, List.cons_append, List.nil_append, List.replicate, x_cons, x_ret, e_and, e_isi, e_var, slot_ok, bind_ok, isi_seq h ho, hq, Option.map_some, ofO_some, asB_ok, if_true, e_prim, es_cons, es_nil, e_comp, r_val, w_seq hq hs, Sq_ok_fun, hm, noErr_ok, all_bls, ha2, e_callK, permute, List.append_nil, List.getElem?_cons_zero, hd hq hst, t_ret, fnEnd_ret, e]
      exact leave_same rfl
/-! ### texts sorted -/
theorem strsOf_strs : ∀ {xs : List DV}, xs.all isStrD = true → ∃ ss, strsOf xs = some ss ∧ ss.length = xs.length
  | [], _ => ⟨[], rfl, rfl⟩
  | d :: r, h => by
    simp only [List.all_cons, Bool.and_eq_true] at h
    obtain ⟨x, rfl⟩ : ∃ x, d = .str x := by cases d <;> simp_all [isStrD]
    obtain ⟨ss, h1, h2⟩ := strsOf_strs h.2
    exact ⟨x :: ss, by simp [strsOf, h1], by simp [h2]⟩
theorem sorted_seq {d : DV} (h : isSeqD d = true) (hs : noScr d = true) (hx : (itemsD d).all isStrD = true) (hl : (itemsD d).length < 64) (s : S) : ∃ ys, semP .sorted [d] s = some (.lst ys) := by
  obtain ⟨ss, h1, h2⟩ := strsOf_strs hx
  refine ⟨(sortS ss).map .str, ?_⟩
  have e : seqOf s d = some (itemsD d) := by cases d <;> first | rfl | (cases h; done) | (cases hs; done)
  show (match seqOf s d with
    | some xs => (strsOf xs).bind fun ss => if ss.length < 64 then some (DV.lst ((sortS ss).map .str)) else none
    | none => match dictOf s d with
      | some kvs => (strsOf (kvs.map Prod.fst)).bind fun ss => if ss.length < 64 then some (DV.lst ((sortS ss).map .str)) else none
      | none => none) = _
  rw [e]
  simp only [h1, Option.bind_some]
  rw [if_pos (by omega)]
theorem tuple_seq {d : DV} (h : isSeqD d = true) (hs : noScr d = true) (s : S) : semP .tuple [d] s = some (.tup (itemsD d)) := by
  cases d <;> first | rfl | (cases h; done) | (cases hs; done)
theorem list_seq {d : DV} (h : isSeqD d = true) (hs : noScr d = true) (s : S) : semP .list [d] s = some (.lst (itemsD d)) := by
  cases d <;> first | rfl | (cases h; done) | (cases hs; done)
/-! ### a text among texts -/
theorem isin_seq {x : Str} {d : DV} (h : isSeqD d = true) (hs : noScr d = true) (hx : (itemsD d).all flatD = true) (s : S) : semC .isin (.str x) d s = some ((itemsD d).any fun y => deq y (.str x)) := by
  have q : inSeq (.str x) d s = some ((itemsD d).any fun y => deq y (.str x)) := by
    have e : seqOf s d = some (itemsD d) := by cases d <;> first | rfl | (cases h; done) | (cases hs; done)
    unfold inSeq
    rw [e]
    simp [flatD, hx]
  cases d <;> first | exact q | cases h
theorem nin_seq {x : Str} {d : DV} (h : isSeqD d = true) (hs : noScr d = true) (hx : (itemsD d).all flatD = true) (s : S) : semC .nin (.str x) d s = some (!(itemsD d).any fun y => deq y (.str x)) := by
  have q : (inSeq (.str x) d s).map (!·) = some (!(itemsD d).any fun y => deq y (.str x)) := by
    have e : seqOf s d = some (itemsD d) := by cases d <;> first | rfl | (cases h; done) | (cases hs; done)
    unfold inSeq
    rw [e]
    simp [flatD, hx]
  cases d <;> first | exact q | cases h
/-- a list that is compared with the empty one -/
theorem ne_nil {xs : List DV} (hp : plainL xs = true) (hd : depthL xs ≤ 59) (s : S) : semC .ne (.lst xs) (.lst []) s = some (!xs.isEmpty) := by
  rw [sC_ne (x := .lst xs) (y := .lst []) rfl rfl hp rfl (by simp [depthD]; omega) (by simp [depthD, depthL])]
  cases xs <;> rfl
theorem plainL_of : ∀ {xs : List DV} {n : Nat}, (∀ x ∈ xs, plainD x = true ∧ depthD x ≤ n) → plainL xs = true ∧ depthL xs ≤ n
  | [], n, _ => ⟨rfl, by simp [depthL]⟩
  | x :: r, n, h => by
    obtain ⟨h1, h2⟩ := h x (by simp)
    obtain ⟨h3, h4⟩ := plainL_of (xs := r) (n := n) fun y hy => h y (by simp [hy])
    simp only [plainL, depthL, h1, h3, Bool.and_self, true_and]
    omega
end
end WS.I
set_option maxRecDepth 100000
/-! E5: repr: how long it gets; when it is told. -/
namespace WS.I
open PySem
mutual
/-- texts of signs that may be shown, numbers that are not too great -/
def shwD : DV → Bool
  | .non => true
  | .bl _ => true
  | .int i => decide (i.natAbs.log2 < 1920)
  | .str x => x.cps.toList.all fun c => decide (c < 4294967296)
  | .tup xs => shwL xs
  | .lst xs => shwL xs
  | .dct kvs => shwK kvs
  | _ => false
def shwL : List DV → Bool
  | [] => true
  | x :: xs => shwD x && shwL xs
def shwK : List (DV × DV) → Bool
  | [] => true
  | (k, v) :: r => (skOf k).isSome && (shwD k && (shwD v && shwK r))
end
mutual
/-- no less than the text of repr -/
def rsz : DV → Nat
  | .int _ => 1921
  | .str x => 10 * x.length + 2
  | .tup xs => rszL xs + 3
  | .lst xs => rszL xs + 3
  | .dct kvs => rszK kvs + 3
  | _ => 5
def rszL : List DV → Nat
  | [] => 0
  | x :: xs => rsz x + 2 + rszL xs
def rszK : List (DV × DV) → Nat
  | [] => 0
  | (k, v) :: r => rsz k + rsz v + 4 + rszK r
end
mutual
def dpR : DV → Nat
  | .tup xs => dpRL xs + 1
  | .lst xs => dpRL xs + 1
  | .dct kvs => dpRK kvs + 1
  | _ => 0
def dpRL : List DV → Nat
  | [] => 0
  | x :: xs => max (dpR x) (dpRL xs)
def dpRK : List (DV × DV) → Nat
  | [] => 0
  | (k, v) :: r => max (max (dpR k) (dpR v)) (dpRK r)
end
mutual
theorem shw_all : ∀ d : DV, shwD d = true → showD d = true ∧ (toPyR d).depth = dpR d ∧ (reprD d).length ≤ rsz d
  | .non, _ => ⟨rfl, rfl, by show ("None" : Str).length ≤ 5; decide⟩
  | .bl b, _ => ⟨rfl, rfl, by
    cases b
    · show ("False" : Str).length ≤ 5
      decide
    · show ("True" : Str).length ≤ 5
      decide⟩
  | .int i, h => ⟨h, rfl, by
    have h' : i.natAbs.log2 < 1920 := by simpa [shwD] using h
    have q := int_text_length_le (a := i) (k := 1920) (by omega) h'
    show (Str.ofString (toString i)).length ≤ 1921
    rw [ofString_length]
    exact q⟩
  | .str x, h => ⟨rfl, rfl, StrLaws.reprText_len x fun c hc => by
    have := List.all_eq_true.mp h c hc
    have e : (16 : Nat) ^ 8 = 4294967296 := by decide
    rw [e]
    simpa using this⟩
  | .tup xs, h => by
    obtain ⟨a, b, c⟩ := shwL_all xs h
    refine ⟨a, ?_, ?_⟩
    · show PyData.depth (.tuple (toPyRL xs)) = dpRL xs + 1
      simp only [PyData.depth, b]
    · have q := tupleText_len_le (PyData.shownAll (toPyRL xs))
      show (tupleText (PyData.shownAll (toPyRL xs))).length ≤ rszL xs + 3
      omega
  | .lst xs, h => by
    obtain ⟨a, b, c⟩ := shwL_all xs h
    refine ⟨a, ?_, ?_⟩
    · show PyData.depth (.list (toPyRL xs)) = dpRL xs + 1
      simp only [PyData.depth, b]
    · have q := listText_len_le (PyData.shownAll (toPyRL xs))
      show (listText (PyData.shownAll (toPyRL xs))).length ≤ rszL xs + 3
      omega
  | .dct kvs, h => by
    obtain ⟨a, b, c⟩ := shwK_all kvs h
    refine ⟨a, ?_, ?_⟩
    · show PyData.depth (.dict (toPyRK kvs)) = dpRK kvs + 1
      simp only [PyData.depth, b]
    · have q := dictText_len_le (PyData.shownKv (toPyRK kvs))
      show (dictText (PyData.shownKv (toPyRK kvs))).length ≤ rszK kvs + 3
      omega
  | .ins _ _, h => by cases h
  | .exc _ _, h => by cases h
  | .scr _, h => by cases h
  | .loc _, h => by cases h
theorem shwL_all : ∀ xs : List DV, shwL xs = true → showL xs = true ∧ PyData.depthAll (toPyRL xs) = dpRL xs ∧ ((PyData.shownAll (toPyRL xs)).map (·.length)).sum + 2 * (PyData.shownAll (toPyRL xs)).length ≤ rszL xs
  | [], _ => ⟨rfl, rfl, Nat.le_refl _⟩
  | x :: r, h => by
    simp only [shwL, Bool.and_eq_true] at h
    obtain ⟨a1, a2, a3⟩ := shw_all x h.1
    obtain ⟨b1, b2, b3⟩ := shwL_all r h.2
    refine ⟨by simp [showL, a1, b1], by simp only [toPyRL, PyData.depthAll, dpRL, a2, b2], ?_⟩
    simp only [toPyRL, PyData.shownAll, List.map_cons, List.sum_cons, List.length_cons, rszL]
    have : (PyData.shown (toPyR x)).length ≤ rsz x := a3
    omega
theorem shwK_all : ∀ xs : List (DV × DV), shwK xs = true → showK xs = true ∧ PyData.depthKv (toPyRK xs) = dpRK xs ∧ ((PyData.shownKv (toPyRK xs)).map (·.length)).sum + 2 * (PyData.shownKv (toPyRK xs)).length ≤ rszK xs
  | [], _ => ⟨rfl, rfl, Nat.le_refl _⟩
  | (k, v) :: r, h => by
    simp only [shwK, Bool.and_eq_true] at h
    obtain ⟨a1, a2, a3⟩ := shw_all k h.2.1
    obtain ⟨c1, c2, c3⟩ := shw_all v h.2.2.1
    obtain ⟨b1, b2, b3⟩ := shwK_all r h.2.2.2
    refine ⟨by simp [showK, a1, b1, c1, h.1], by simp only [toPyRK, PyData.depthKv, dpRK, a2, b2, c2], ?_⟩
    simp only [toPyRK, PyData.shownKv, List.map_cons, List.sum_cons, List.length_cons, rszK]
    have h1 : (PyData.shown (toPyR k)).length ≤ rsz k := a3
    have h2 : (PyData.shown (toPyR v)).length ≤ rsz v := c3
    have h3 : (PyData.shown (toPyR k) ++ ": " ++ PyData.shown (toPyR v)).length = (PyData.shown (toPyR k)).length + 2 + (PyData.shown (toPyR v)).length := by
      rw [strLen_append, strLen_append]; rfl
    omega
end
theorem repr_run {d t : DV} {s : S} (h : treeOf s d = some t) (h1 : shwD t = true) (h2 : dpR t ≤ 60) (h3 : rsz t ≤ 16777216) : semP .repr [d] s = some (.str (reprD t)) := by
  obtain ⟨a, b, c⟩ := shw_all t h1
  show (match treeOf s d with
    | some t => if showD t && decide ((toPyR t).depth ≤ 60) && decide ((reprD t).length ≤ LIM) then some (DV.str (reprD t)) else none
    | none => none) = _
  rw [h]
  simp only
  rw [if_pos]
  simp only [a, b, Bool.true_and, Bool.and_eq_true, decide_eq_true_eq]
  exact ⟨h2, Nat.le_trans c h3⟩
/-! ### own exceptions as values -/
section
variable {P : Pg} {call : Nat → List DV → M DV} {env : Env} {s : S}
theorem e_mkX {c : Nat} {es ks : Es} {p : List (Nat ⊕ Df)} {xs : List Str} (h : P.ex c = some xs) : ev P call (.mkX c es ks p) env s = (evs P call es env s).bind fun vs s1 => (evs P call ks env s1).bind fun ws s2 => (ofO (permute vs ws p) s2).bind fun us s3 => (embedAll us s3).bind fun ds s4 => if xs.length = ds.length then .ok (.exc c (xs.zip ds).reverse) s4 else .stuck := by
  rw [ev]
  simp only [h]
theorem e_mkX0 {c : Nat} {a : E} (h : P.ex c = some []) : ev P call (.mkX0 c a) env s = (ev P call a env s).bind fun _ s1 => .ok (.exc c []) s1 := by
  rw [ev]
  simp only [h]
/-- one attribute, the value a name's -/
theorem e_mkX1 {c i : Nat} {x : Str} {d : DV} (h : P.ex c = some [x]) (hi : env[i]? = some (some d)) (hd : isTree d = true) : ev P call (.mkX c (.cons (.var i) .nil) .nil [.inl 0]) env s = .ok (.exc c [(x, d)]) s := by
  rw [e_mkX h]
  simp [slot, hi, permute, embedAll, embed_t _ hd]
theorem e_mkX1k {c i : Nat} {x : Str} {d : DV} (h : P.ex c = some [x]) (hi : env[i]? = some (some d)) (hd : isTree d = true) : ev P call (.mkX c .nil (.cons (.var i) .nil) [.inl 0]) env s = .ok (.exc c [(x, d)]) s := by
  rw [e_mkX h]
  simp [slot, hi, permute, embedAll, embed_t _ hd]
theorem e_mkX2 {c i j : Nat} {x y : Str} {d e : DV} (h : P.ex c = some [x, y]) (hi : env[i]? = some (some d)) (hj : env[j]? = some (some e)) (hd : isTree d = true) (he : isTree e = true) : ev P call (.mkX c (.cons (.var i) (.cons (.var j) .nil)) .nil [.inl 0, .inl 1]) env s = .ok (.exc c [(y, e), (x, d)]) s := by
  rw [e_mkX h]
  simp [slot, hi, hj, permute, embedAll, embed_t _ hd, embed_t _ he]
theorem e_mkX2k {c i j : Nat} {x y : Str} {d e : DV} (h : P.ex c = some [x, y]) (hi : env[i]? = some (some d)) (hj : env[j]? = some (some e)) (hd : isTree d = true) (he : isTree e = true) : ev P call (.mkX c .nil (.cons (.var j) (.cons (.var i) .nil)) [.inl 1, .inl 0]) env s = .ok (.exc c [(y, e), (x, d)]) s := by
  rw [e_mkX h]
  simp [slot, hi, hj, permute, embedAll, embed_t _ hd, embed_t _ he]
theorem a_exc {c : Nat} {x : Str} {fs : List (Str × DV)} {xs : List Str} {d : DV} (h : P.ex c = some xs) (hx : fget x fs = some d) : getAttr P call (.exc c fs) x s = .ok d s := by
  unfold getAttr
  simp [h, hx]
end
end WS.I
set_option maxRecDepth 100000
/-! E6: rules and houses: the program's own defs, wherever they stand in a law's table. -/
namespace WS.I
open PySem
def cRuleI (num name xR : Nat) : List St := [.ife (.or (.not (.callK num (.cons (.var 1) .nil) .nil [.inl 0])) (.not (.chn .le .le (.cst (.int 0)) (.var 1) (.glo "MOST_FINE" (.int 1000))))) [.rais xR (.cons (.cst (.str "share")) .nil)] [], .ife (.not (.callK name (.cons (.var 2) .nil) .nil [.inl 0])) [.rais xR (.cons (.cst (.str "mark")) .nil)] [], .ife (.not (.isi (.var 3) [.bool])) [.rais xR (.cons (.cst (.str "always")) .nil)] [], .ife (.not (.isi (.var 4) [.bool])) [.rais xR (.cons (.cst (.str "late")) .nil)] [], .fld 0 "r_parts" (.tup (.cons (.var 1) (.cons (.var 2) (.cons (.var 3) (.cons (.var 4) .nil)))))]
def cHouseI (rules names xH : Nat) : List St := [.ife (.not (.callK rules (.cons (.var 1) .nil) .nil [.inl 0])) [.rais xH (.cons (.cst (.str "rules")) .nil)] [], .ife (.not (.callK names (.cons (.var 2) .nil) .nil [.inl 0])) [.rais xH (.cons (.cst (.str "calls")) .nil)] [], .ife (.or (.not (.callK names (.cons (.var 3) .nil) .nil [.inl 0])) (.not (.prim .all (.cons (.comp (.one 5) (.cmp .isin (.var 5) (.var 2)) (.val (.var 3)) (.cst (.bl true))) .nil)))) [.rais xH (.cons (.cst (.str "lost")) .nil)] [], .ife (.not (.isi (.var 4) [.bool])) [.rais xH (.cons (.cst (.str "fails")) .nil)] [], .fld 0 "h_rules" (.prim .tuple (.cons (.var 1) .nil)), .fld 0 "h_calls" (.prim .tuple (.cons (.prim .sorted (.cons (.var 2) .nil)) .nil)), .fld 0 "h_lost" (.prim .tuple (.cons (.prim .sorted (.cons (.var 3) .nil)) .nil)), .fld 0 "h_fails" (.var 4)]
def cRules (cR : Nat) : List St := [.ife (.or (.not (.isi (.var 0) [.list, .tuple])) (.not (.chn .le .le (.cst (.int 1)) (.prim .len (.cons (.var 0) .nil)) (.cst (.int 2))))) [.ret (.cst (.bl false))] [], .ret (.prim .all (.cons (.comp (.one 1) (.isi (.var 1) [(.own cR)]) (.val (.var 0)) (.cst (.bl true))) .nil))]
def cPart (k : Int) : List St := [.ret (.sub (.attr (.var 0) "r_parts") (.cst (.int k)))]
def cFld (x : Str) : List St := [.ret (.attr (.var 0) x)]
/-- where the program's defs, classes, errors stand -/
structure Ix where
  num : Nat
  name : Nat
  diff : Nat
  names : Nat
  rules : Nat
  ruleI : Nat
  share : Nat
  mark : Nat
  always : Nat
  late : Nat
  houseI : Nat
  hrules : Nat
  hcalls : Nat
  hlost : Nat
  hfails : Nat
  cR : Nat
  cH : Nat
  xR : Nat
  xH : Nat
  mR : List (Str × Nat)
  mH : List (Str × Nat)
structure HT (P : Pg) (keep : Nat → Bool) (x : Ix) : Prop where
  num : P.fn x.num = some ⟨1, cIsNum⟩
  name : P.fn x.name = some ⟨2, cIsName⟩
  diff : P.fn x.diff = some ⟨2, cDiff⟩
  names : P.fn x.names = some ⟨2, cNames x.name x.diff⟩
  rules : P.fn x.rules = some ⟨2, cRules x.cR⟩
  ruleI : P.fn x.ruleI = some ⟨5, cRuleI x.num x.name x.xR⟩
  share : P.fn x.share = some ⟨1, cPart 0⟩
  mark : P.fn x.mark = some ⟨1, cPart 1⟩
  always : P.fn x.always = some ⟨1, cPart 2⟩
  late : P.fn x.late = some ⟨1, cPart 3⟩
  houseI : P.fn x.houseI = some ⟨6, cHouseI x.rules x.names x.xH⟩
  hrules : P.fn x.hrules = some ⟨1, cFld "h_rules"⟩
  hcalls : P.fn x.hcalls = some ⟨1, cFld "h_calls"⟩
  hlost : P.fn x.hlost = some ⟨1, cFld "h_lost"⟩
  hfails : P.fn x.hfails = some ⟨1, cFld "h_fails"⟩
  knum : keep x.num = false
  kname : keep x.name = false
  kdiff : keep x.diff = false
  knames : keep x.names = false
  krules : keep x.rules = false
  kruleI : keep x.ruleI = false
  kshare : keep x.share = false
  kmark : keep x.mark = false
  kalways : keep x.always = false
  klate : keep x.late = false
  khouseI : keep x.houseI = false
  khrules : keep x.hrules = false
  khcalls : keep x.hcalls = false
  khlost : keep x.hlost = false
  khfails : keep x.hfails = false
  cR : P.cl x.cR = some ⟨x.ruleI, [("share", x.share), ("mark", x.mark), ("always", x.always), ("late", x.late)], x.mR⟩
  cH : P.cl x.cH = some ⟨x.houseI, [("rules", x.hrules), ("calls", x.hcalls), ("lost", x.hlost), ("fails", x.hfails)], x.mH⟩
  xR : P.ex x.xR = some (["field"] : List Str)
  xH : P.ex x.xH = some (["field"] : List Str)
/-- a rule's share -/
def shareB : DV → Bool
  | .int i => decide (0 ≤ i) && decide (i ≤ 1000)
  | _ => false
/-- the first part of a rule that is wrong -/
def ruleBad (a b c d : DV) : Option Str := if shareB a = false then some "share" else if nameB b = false then some "mark" else if isBlD c = false then some "always" else if isBlD d = false then some "late" else none
def isInsD (c0 : Nat) : DV → Bool
  | .ins c _ => c == c0
  | _ => false
def okI (P : Pg) (d : DV) : Bool := okV P d && noScr d && decide ((itemsD d).length < 64) && (itemsD d).all (okV P)
def rulesB (cR : Nat) (d : DV) : Bool := isSeqD d && (decide (1 ≤ ((itemsD d).length : Int)) && decide (((itemsD d).length : Int) ≤ 2)) && (itemsD d).all (isInsD cR)
def inB (b c : DV) : Bool := (itemsD c).all fun x => (itemsD b).any fun y => deq y x
/-- texts of a list, in their order -/
def strsD (xs : List DV) : List Str := xs.filterMap fun d => match d with
  | .str x => some x
  | _ => none
def sortD (d : DV) : List DV := (sortS (strsD (itemsD d))).map .str
theorem strsOf_eq : ∀ {xs : List DV}, xs.all isStrD = true → strsOf xs = some (strsD xs) ∧ (strsD xs).length = xs.length
  | [], _ => ⟨rfl, rfl⟩
  | d :: r, h => by
    simp only [List.all_cons, Bool.and_eq_true] at h
    obtain ⟨x, rfl⟩ : ∃ x, d = .str x := by cases d <;> simp_all [isStrD]
    obtain ⟨h1, h2⟩ := strsOf_eq h.2
    refine ⟨?_, ?_⟩
    · show (strsOf r).map (x :: ·) = some (strsD (.str x :: r))
      rw [h1]
      rfl
    · show (x :: strsD r).length = _
      simp [h2]
theorem sorted_seqE {d : DV} (h : isSeqD d = true) (hs : noScr d = true) (hx : (itemsD d).all isStrD = true) (hl : (itemsD d).length < 64) (s : S) : semP .sorted [d] s = some (.lst (sortD d)) := by
  obtain ⟨h1, h2⟩ := strsOf_eq hx
  have e : seqOf s d = some (itemsD d) := by cases d <;> first | rfl | (cases h; done) | (cases hs; done)
  show (match seqOf s d with
    | some xs => (strsOf xs).bind fun ss => if ss.length < 64 then some (DV.lst ((sortS ss).map .str)) else none
    | none => match dictOf s d with
      | some kvs => (strsOf (kvs.map Prod.fst)).bind fun ss => if ss.length < 64 then some (DV.lst ((sortS ss).map .str)) else none
      | none => none) = _
  rw [e]
  simp only [h1, Option.bind_some]
  rw [if_pos (by omega)]
  rfl
theorem str_flat {xs : List DV} (h : xs.all nameB = true) : xs.all flatD = true ∧ xs.all isStrD = true := by
  rw [List.all_eq_true] at h
  constructor <;> rw [List.all_eq_true] <;> intro x hx <;> obtain ⟨y, rfl⟩ := nameB_str (h x hx) <;> rfl
theorem namesB_parts {d : DV} (h : namesB d = true) : isSeqD d = true ∧ (itemsD d).all nameB = true := by
  simp only [namesB, Bool.and_eq_true] at h
  exact h.1
/-- a house -/
def houseD (cH : Nat) (rs cs ls : List DV) (f : DV) : DV := .ins cH [("h_rules", .tup rs), ("h_calls", .tup cs), ("h_lost", .tup ls), ("h_fails", f)]
def ruleD (cR : Nat) (a b c d : DV) : DV := .ins cR [("r_parts", .tup [a, b, c, d])]
/-- the first part of a house that is wrong -/
def houseBad (cR : Nat) (a b c d : DV) : Option Str := if rulesB cR a = false then some "rules" else if namesB b = false then some "calls" else if (namesB c && inB b c) = false then some "lost" else if isBlD d = false then some "fails" else none
section
variable {P : Pg} {keep : Nat → Bool} {z : Ix} (T : HT P keep z)
include T
theorem num_call (n : Nat) {d : DV} {s : S} (h : okV P d = true) : callFn P keep (n + 1) z.num [d] s = .ok (.bl (isNumD d)) s := by
  simp only [okV, Bool.and_eq_true] at h
  exact isnum_run T.num T.knum h.1.1 h.1.2
theorem name_call (n : Nat) {d : DV} {s : S} (h : okV P d = true) : callFn P keep (n + 1) z.name [d] s = .ok (.bl (nameB d)) s := by
  simp only [okV, Bool.and_eq_true] at h
  exact isname_run T.name T.kname h.1.1 h.1.2 h.2
/-- Rule(a, b, c, d) -/
theorem rule_make (n : Nat) {a b c d : DV} {s : S} (hs : stOk s) (ha : okV P a = true) (hb : okV P b = true) (hc : okV P c = true) (hd : okV P d = true) :
    make P (callFn P keep (n + 2)) z.cR [a, b, c, d] s = match ruleBad a b c d with
      | some x => .err z.xR [("field", .str x)] s
      | none => .ok (.ins z.cR [("r_parts", .tup [a, b, c, d])]) s := by
  rw [make_eq T.cR]
  show makeEnd s z.cR (runFn P keep (callFn P keep (n + 1)) z.ruleI [.loc s.length, a, b, c, d] (s ++ [.ins z.cR []])) = _
  rw [runFn_eq T.ruleI (by simp), T.kruleI]
  have n5 := num_call T n (d := a) (s := s ++ [.ins z.cR []]) ha
  have n6 := name_call T n (d := b) (s := s ++ [.ins z.cR []]) hb
  simp only [okV, Bool.and_eq_true] at ha hb hc hd
  have bc := isi_bool (s := s ++ [.ins z.cR []]) hc.1.1 hc.1.2
  have bd := isi_bool (s := s ++ [.ins z.cR []]) hd.1.1 hd.1.2
  have rs := fun (x : Str) (env : Env) (s : S) => x_rais (P := P) (call := callFn P keep (n + 1)) (env := env) (s := s) (c := z.xR) (es := .cons (.cst (.str x)) .nil) T.xR
  have er : ∀ (x : Str), makeEnd s z.cR (fnEnd false (s ++ [Cell.ins z.cR []]) (.err z.xR [("field", .str x)] (s ++ [Cell.ins z.cR []]))) = .err z.xR [("field", .str x)] s := fun x => by rw [fnEnd_err_same, makeEnd_err]
  unfold cRuleI
  unfold ruleBad
  by_cases h1 : shareB a = true
  rotate_left
  · have h1 : shareB a = false := by simpa using h1
    rw [if_pos h1]
    by_cases hn : isNumD a = true
    · obtain ⟨i, rfl⟩ : ∃ i, a = .int i := by cases a <;> simp_all [isNumD]
      by_cases hi : 0 ≤ i
      · have hi2 : ¬ i ≤ 1000 := by simpa [shareB, hi] using h1
        simp [permute, n5, hn, hi, hi2, rs, embedAll, embed, er]
      · simp [permute, n5, hn, hi, rs, embedAll, embed, er]
    · have hn : isNumD a = false := by simpa using hn
      simp [permute, n5, hn, rs, embedAll, embed, er]
  obtain ⟨i, rfl⟩ : ∃ i, a = .int i := by cases a <;> simp_all [shareB]
  have hi : 0 ≤ i ∧ i ≤ 1000 := by simpa [shareB] using h1
  rw [if_neg (by simp [h1])]
  by_cases h2 : nameB b = true
  rotate_left
  · have h2 : nameB b = false := by simpa using h2
    rw [if_pos h2]
    simp [permute, n5, isNumD, hi.1, hi.2, n6, h2, rs, embedAll, embed, er]
  rw [if_neg (by simp [h2])]
  by_cases h3 : isBlD c = true
  rotate_left
  · have h3 : isBlD c = false := by simpa using h3
    rw [if_pos h3]
    simp [permute, n5, isNumD, hi.1, hi.2, n6, h2, bc, h3, rs, embedAll, embed, er]
  rw [if_neg (by simp [h3])]
  by_cases h4 : isBlD d = true
  rotate_left
  · have h4 : isBlD d = false := by simpa using h4
    rw [if_pos h4]
    simp [permute, n5, isNumD, hi.1, hi.2, n6, h2, bc, h3, bd, h4, rs, embedAll, embed, er]
  rw [if_neg (by simp [h4])]
  have em := fun s' => embedAll_t (s := s') (ds := [DV.int i, b, c, d]) (by simp only [List.all_cons, List.all_nil, hb.1.1, hc.1.1, hd.1.1]; rfl)
  have xf := fun (env : Env) (s' : S) (h : env[0]? = some (some (.loc s.length))) => x_fld (P := P) (call := callFn P keep (n + 1)) (env := env) (s := s') (i := 0) (x := "r_parts") (e := .tup (.cons (.var 1) (.cons (.var 2) (.cons (.var 3) (.cons (.var 4) .nil))))) h
  have sf := setFld_app (P := P) (s := s) (gs := []) (x := "r_parts") (v := .tup [.int i, b, c, d]) T.cR (by rfl) (by simp)
  simp [permute, n5, isNumD, hi.1, hi.2, n6, h2, bc, h3, bd, h4, xf, em, embed, sf, fput]
  rw [leave_app hs rfl rfl, makeEnd_ok]
theorem okV_rule {fs : List (Str × DV)} : okV P (.ins z.cR fs) = true := by simp [okV, isTree, dvOk, T.cR, strOk]
theorem diff_call (n : Nat) {d : DV} {s : S} (h : isSeqD d = true) (hs : noScr d = true) (hx : (itemsD d).all isStrD = true) : callFn P keep (n + 1) z.diff [d] s = .ok (.bl (distB [] (itemsD d))) s := diff_run T.diff T.kdiff h hs hx
theorem okI_items {d x : DV} (h : okI P d = true) (hx : x ∈ itemsD d) : okV P x = true := by
  simp only [okI, Bool.and_eq_true, List.all_eq_true] at h
  exact h.2 x hx
theorem okI_all {d : DV} (h : okI P d = true) : (itemsD d).all (okV P) = true := List.all_eq_true.mpr fun x hx => (okI_items T h hx)
theorem names_call (n : Nat) {d : DV} {s : S} (h : okI P d = true) : callFn P keep (n + 2) z.names [d] s = .ok (.bl (namesB d)) s := by
  have hi := okI_all T h
  have hq := fun x (hx : x ∈ itemsD d) => name_call T n (s := s) (okI_items T h hx)
  simp only [okI, okV, Bool.and_eq_true] at h
  exact names_run (call := callFn P keep (n + 1)) T.names T.knames h.1.1.1.1.1 h.1.1.1.1.2 h.1.1.2 hi hq fun a b => diff_call T n a h.1.1.2 b
theorem isi_rule {x : DV} {s : S} (h : okV P x = true) : isiR P x [.own z.cR] s = some ((isInsD z.cR) x) := by
  simp only [okV, Bool.and_eq_true] at h
  rw [isi_own h.1.1 h.1.2]
  cases x <;> rfl
theorem rules_call (n : Nat) {d : DV} {s : S} (h : okI P d = true) : callFn P keep (n + 1) z.rules [d] s = .ok (.bl (rulesB z.cR d)) s := by
  have hi := fun x hx => isi_rule T (s := s) (okI_items T h (x := x) hx)
  simp only [okI, okV, Bool.and_eq_true] at h
  obtain ⟨⟨⟨⟨⟨h1, h2⟩, h3⟩, h4⟩, h5⟩, h6⟩ := h
  show runFn P keep (callFn P keep n) z.rules [d] s = _
  rw [runFn_eq T.rules (by simp), T.krules]
  unfold cRules
  cases hq : isSeqD d with
  | false =>
    have e : rulesB z.cR d = false := by simp [rulesB, hq]
    simp [isi_seq h1 h2, hq, e]
    exact leave_same rfl
  | true =>
    by_cases l1 : (1 : Int) ≤ (itemsD d).length
    · by_cases l2 : ((itemsD d).length : Int) ≤ 2
      · have hm : mapIf (fun _ => True) (tgC (.one 1) (evB P (callFn P keep n) (.cst (.bl true))) [some d, none]) (tgC (.one 1) (ev P (callFn P keep n) (.isi (.var 1) [.own z.cR])) [some d, none]) (itemsD d) s = .ok (bls ((itemsD d).map (isInsD z.cR))) s := by
          rw [mapIf_pure (p := fun _ => true) (g := fun d => .bl ((isInsD z.cR) d))]
          · rw [List.filter_eq_self.mpr (by simp)]
            simp only [List.map_map, bls]
            rfl
          · intro y hy; simp
          · intro y hy _
            simp [hi y hy]
        have e : rulesB z.cR d = ((itemsD d).map (isInsD z.cR)).all id := by simp [rulesB, hq, l1, l2, List.all_map]
        simp only [List.map_cons, List.map_nil, List.length_cons, List.length_nil, List.cons_append, List.nil_append, List.replicate, x_cons, x_nil, x_if, t_nxt, x_ret, e_or, e_not, e_chn, e_cst, e_isi, e_var, WS.I.slot_ok, bind_ok, isi_seq h1 h2, hq, Option.map_some, ofO_some, WS.I.asB_ok, if_true, Bool.not_true, Bool.false_eq_true, if_false, e_prim, es_cons, es_nil, e_comp, r_val, w_seq hq h4, len_seq hq h4, sC_le, l1, l2, decide_true, Sq_ok_fun, hm, noErr_ok, all_bls, t_ret, fnEnd_ret, e]
        exact leave_same rfl
      · have e : rulesB z.cR d = false := by simp [rulesB, l2]
        simp [isi_seq h1 h2, hq, e, len_seq hq h4, l1, l2]
        exact leave_same rfl
    · have e : rulesB z.cR d = false := by simp [rulesB, l1]
      simp [isi_seq h1 h2, hq, e, len_seq hq h4, l1]
      exact leave_same rfl
theorem house_make (n : Nat) {a b c d : DV} {s : S} (hs : stOk s) (ha : okI P a = true) (hb : okI P b = true) (hc : okI P c = true) (hd : okV P d = true) :
    make P (callFn P keep (n + 3)) z.cH [a, b, c, d] s = match houseBad z.cR a b c d with
      | some x => .err z.xH [("field", .str x)] s
      | none => .ok (houseD z.cH (itemsD a) (sortD b) (sortD c) d) s := by
  rw [make_eq T.cH]
  have r15 := fun s => rules_call T (n + 1) (s := s) ha
  have n14 := fun s => names_call T n (s := s) hb
  have m14 := fun s => names_call T n (s := s) hc
  have pb := hb
  have pc := hc
  have pa := ha
  simp only [okI, okV, Bool.and_eq_true, decide_eq_true_eq] at pa pb pc hd
  have bd := isi_bool (s := s ++ [.ins z.cH []]) hd.1.1 hd.1.2
  have rs := fun (x : Str) (env : Env) (s : S) => x_rais (P := P) (call := callFn P keep (n + 2)) (env := env) (s := s) (c := z.xH) (es := .cons (.cst (.str x)) .nil) T.xH
  have er : ∀ (x : Str), makeEnd s z.cH (fnEnd false (s ++ [Cell.ins z.cH []]) (.err z.xH [("field", .str x)] (s ++ [Cell.ins z.cH []]))) = .err z.xH [("field", .str x)] s := fun x => by rw [fnEnd_err_same, makeEnd_err]
  have key : makeEnd s z.cH (runFn P keep (callFn P keep (n + 2)) z.houseI [.loc s.length, a, b, c, d] (s ++ [.ins z.cH []])) = match houseBad z.cR a b c d with
      | some x => .err z.xH [("field", .str x)] s
      | none => .ok (houseD z.cH (itemsD a) (sortD b) (sortD c) d) s := by
    rw [runFn_eq T.houseI (by simp), T.khouseI]
    unfold cHouseI houseBad
    by_cases h1 : rulesB z.cR a = true
    rotate_left
    · have h1 : rulesB z.cR a = false := by simpa using h1
      rw [if_pos h1]
      simp [permute, r15, h1, rs, embedAll, embed, er]
    rw [if_neg (by simp [h1])]
    by_cases h2 : namesB b = true
    rotate_left
    · have h2 : namesB b = false := by simpa using h2
      rw [if_pos h2]
      simp [permute, r15, h1, n14, h2, rs, embedAll, embed, er]
    rw [if_neg (by simp [h2])]
    obtain ⟨sb, nb⟩ := namesB_parts h2
    obtain ⟨fb, tb⟩ := str_flat nb
    by_cases h3 : namesB c = true
    rotate_left
    · have h3 : namesB c = false := by simpa using h3
      rw [if_pos (by simp [h3])]
      simp [permute, r15, h1, n14, h2, m14, h3, rs, embedAll, embed, er]
    obtain ⟨sc, nc⟩ := namesB_parts h3
    obtain ⟨fc, tc⟩ := str_flat nc
    have hm : mapIf (fun _ => True) (tgC (.one 5) (evB P (callFn P keep (n + 2)) (.cst (.bl true))) [some (.loc s.length), some a, some b, some c, some d, none]) (tgC (.one 5) (ev P (callFn P keep (n + 2)) (.cmp .isin (.var 5) (.var 2))) [some (.loc s.length), some a, some b, some c, some d, none]) (itemsD c) (s ++ [.ins z.cH []]) = .ok (bls ((itemsD c).map fun x => (itemsD b).any fun y => deq y x)) (s ++ [.ins z.cH []]) := by
      rw [mapIf_pure (p := fun _ => true) (g := fun x => .bl ((itemsD b).any fun y => deq y x))]
      · rw [List.filter_eq_self.mpr (by simp)]
        simp only [List.map_map, bls]
        rfl
      · intro y hy; simp
      · intro y hy _
        obtain ⟨x, rfl⟩ := nameB_str (List.all_eq_true.mp nc y hy)
        simp [isin_seq sb pb.1.1.2 fb]
    have hI : ((itemsD c).map fun x => (itemsD b).any fun y => deq y x).all id = inB b c := by rw [List.all_map]; rfl
    have al := all_bls (s := s ++ [Cell.ins z.cH []]) (bs := (itemsD c).map fun x => (itemsD b).any fun y => deq y x)
    rw [hI] at al
    by_cases h4 : inB b c = true
    rotate_left
    · have h4 : inB b c = false := by simpa using h4
      rw [if_pos (by simp [h4])]
      simp [permute, r15, h1, n14, h2, m14, h3, w_seq sc pc.1.1.2, hm, al, h4, rs, embedAll, embed, er]
    rw [if_neg (by simp [h3, h4])]
    by_cases h5 : isBlD d = true
    rotate_left
    · have h5 : isBlD d = false := by simpa using h5
      rw [if_pos h5]
      simp [permute, r15, h1, n14, h2, m14, h3, w_seq sc pc.1.1.2, hm, al, h4, bd, h5, rs, embedAll, embed, er]
    rw [if_neg (by simp [h5])]
    have sa : isSeqD a = true := by simp only [rulesB, Bool.and_eq_true] at h1; exact h1.1.1
    have sob := fun s => sorted_seqE sb pb.1.1.2 tb pb.1.2 s
    have soc := fun s => sorted_seqE sc pc.1.1.2 tc pc.1.2 s
    have tl : ∀ xs (s : S), semP .tuple [.lst xs] s = some (.tup xs) := fun _ _ => rfl
    have et : ∀ xs (s : S), embed (.tup xs) s = .ok (.tup xs) s := fun _ _ => rfl
    have ed := fun s => embed_t s hd.1.1
    have xf := fun (env : Env) (s' : S) (x : Str) (e : E) (h : env[0]? = some (some (.loc s.length))) => x_fld (P := P) (call := callFn P keep (n + 2)) (env := env) (s := s') (i := 0) (x := x) (e := e) h
    have s1 := setFld_app (P := P) (s := s) (gs := []) (x := "h_rules") (v := .tup (itemsD a)) T.cH (by rfl) (by simp)
    have s2 := setFld_app (P := P) (s := s) (gs := [("h_rules", .tup (itemsD a))]) (x := "h_calls") (v := .tup (sortD b)) T.cH (by rfl) (by simp)
    have s3 := setFld_app (P := P) (s := s) (gs := [("h_rules", .tup (itemsD a)), ("h_calls", .tup (sortD b))]) (x := "h_lost") (v := .tup (sortD c)) T.cH (by rfl) (by simp)
    have s4 := setFld_app (P := P) (s := s) (gs := [("h_rules", .tup (itemsD a)), ("h_calls", .tup (sortD b)), ("h_lost", .tup (sortD c))]) (x := "h_fails") (v := d) T.cH (by rfl) (by simp)
    simp only [fput, show ¬ (("h_rules" : Str) = "h_calls") by decide, show ¬ (("h_rules" : Str) = "h_lost") by decide, show ¬ (("h_rules" : Str) = "h_fails") by decide, show ¬ (("h_calls" : Str) = "h_lost") by decide, show ¬ (("h_calls" : Str) = "h_fails") by decide, show ¬ (("h_lost" : Str) = "h_fails") by decide, if_false] at s1 s2 s3 s4
    simp [permute, r15, h1, n14, h2, m14, h3, w_seq sc pc.1.1.2, hm, al, h4, bd, h5, xf, tuple_seq sa pa.1.1.2, sob, soc, tl, et, ed, s1, s2, s3, s4]
    rw [leave_app hs rfl rfl, makeEnd_ok]
    rfl
  exact key
end
end WS.I
set_option maxRecDepth 100000
/-! E7: what rules and houses tell; loops that look for the first; dicts of houses. -/
namespace WS.I
open PySem
section
variable {P : Pg} {keep : Nat → Bool} {z : Ix} (T : HT P keep z)
theorem attr_prop {call : Nat → List DV → M DV} {c f : Nat} {k : Cl} {x : Str} {fs : List (Str × DV)} {s : S} (h : P.cl c = some k) (hx : k.props.lookup x = some f) : getAttr P call (.ins c fs) x s = noErr (call f [.ins c fs] s) := by
  show (match P.cl c with
      | some k => (match k.props.lookup x with
        | some f => noErr (call f [.ins c fs] s)
        | none => ofO (fget x fs) s)
      | none => .stuck) = _
  rw [h]
  simp only [hx]
theorem attr_fld {call : Nat → List DV → M DV} {c : Nat} {k : Cl} {x : Str} {fs : List (Str × DV)} {s : S} (h : P.cl c = some k) (hx : k.props.lookup x = none) : getAttr P call (.ins c fs) x s = ofO (fget x fs) s := by
  show (match P.cl c with
      | some k => (match k.props.lookup x with
        | some f => noErr (call f [.ins c fs] s)
        | none => ofO (fget x fs) s)
      | none => .stuck) = _
  rw [h]
  simp only [hx]
include T
theorem h_rules (n : Nat) {rs cs ls : List DV} {f : DV} {s : S} : getAttr P (callFn P keep (n + 1)) (houseD z.cH rs cs ls f) "rules" s = .ok (.tup rs) s := by
  unfold houseD
  rw [attr_prop (f := z.hrules) T.cH (by rfl)]
  show noErr (runFn P keep (callFn P keep n) z.hrules _ s) = _
  rw [runFn_eq T.hrules (by simp), T.khrules]
  have q := attr_fld (P := P) (call := callFn P keep n) (x := "h_rules") (fs := [("h_rules", .tup rs), ("h_calls", .tup cs), ("h_lost", .tup ls), ("h_fails", f)]) (s := s) T.cH (by rfl)
  simp [cFld, q, fget, leave_same (d := .tup rs) rfl]
theorem h_calls (n : Nat) {rs cs ls : List DV} {f : DV} {s : S} : getAttr P (callFn P keep (n + 1)) (houseD z.cH rs cs ls f) "calls" s = .ok (.tup cs) s := by
  unfold houseD
  rw [attr_prop (f := z.hcalls) T.cH (by rfl)]
  show noErr (runFn P keep (callFn P keep n) z.hcalls _ s) = _
  rw [runFn_eq T.hcalls (by simp), T.khcalls]
  have q := attr_fld (P := P) (call := callFn P keep n) (x := "h_calls") (fs := [("h_rules", .tup rs), ("h_calls", .tup cs), ("h_lost", .tup ls), ("h_fails", f)]) (s := s) T.cH (by rfl)
  have e : fget "h_calls" [("h_rules", DV.tup rs), ("h_calls", .tup cs), ("h_lost", .tup ls), ("h_fails", f)] = some (.tup cs) := by rfl
  simp [cFld, q, e, leave_same (d := .tup cs) rfl]
theorem h_lost (n : Nat) {rs cs ls : List DV} {f : DV} {s : S} : getAttr P (callFn P keep (n + 1)) (houseD z.cH rs cs ls f) "lost" s = .ok (.tup ls) s := by
  unfold houseD
  rw [attr_prop (f := z.hlost) T.cH (by rfl)]
  show noErr (runFn P keep (callFn P keep n) z.hlost _ s) = _
  rw [runFn_eq T.hlost (by simp), T.khlost]
  have q := attr_fld (P := P) (call := callFn P keep n) (x := "h_lost") (fs := [("h_rules", .tup rs), ("h_calls", .tup cs), ("h_lost", .tup ls), ("h_fails", f)]) (s := s) T.cH (by rfl)
  have e : fget "h_lost" [("h_rules", DV.tup rs), ("h_calls", .tup cs), ("h_lost", .tup ls), ("h_fails", f)] = some (.tup ls) := by rfl
  simp [cFld, q, e, leave_same (d := .tup ls) rfl]
theorem h_fails (n : Nat) {rs cs ls : List DV} {f : DV} {s : S} (hf : isTree f = true) : getAttr P (callFn P keep (n + 1)) (houseD z.cH rs cs ls f) "fails" s = .ok f s := by
  unfold houseD
  rw [attr_prop (f := z.hfails) T.cH (by rfl)]
  show noErr (runFn P keep (callFn P keep n) z.hfails _ s) = _
  rw [runFn_eq T.hfails (by simp), T.khfails]
  have q := attr_fld (P := P) (call := callFn P keep n) (x := "h_fails") (fs := [("h_rules", .tup rs), ("h_calls", .tup cs), ("h_lost", .tup ls), ("h_fails", f)]) (s := s) T.cH (by rfl)
  have e : fget "h_fails" [("h_rules", DV.tup rs), ("h_calls", .tup cs), ("h_lost", .tup ls), ("h_fails", f)] = some f := by rfl
  simp [cFld, q, e, leave_same hf]
theorem r_share (n : Nat) {a b c d : DV} {s : S} (h : isTree a = true) : getAttr P (callFn P keep (n + 1)) (ruleD z.cR a b c d) "share" s = .ok a s := by
  unfold ruleD
  rw [attr_prop (f := z.share) T.cR (by rfl)]
  show noErr (runFn P keep (callFn P keep n) z.share _ s) = _
  rw [runFn_eq T.share (by simp), T.kshare]
  have q := attr_fld (P := P) (call := callFn P keep n) (x := "r_parts") (fs := [("r_parts", .tup [a, b, c, d])]) (s := s) T.cR (by rfl)
  have e : semSub (.tup [a, b, c, d]) (.int 0) s = some a := by rfl
  simp [cPart, q, fget, e, leave_same h]
theorem r_mark (n : Nat) {a b c d : DV} {s : S} (h : isTree b = true) : getAttr P (callFn P keep (n + 1)) (ruleD z.cR a b c d) "mark" s = .ok b s := by
  unfold ruleD
  rw [attr_prop (f := z.mark) T.cR (by rfl)]
  show noErr (runFn P keep (callFn P keep n) z.mark _ s) = _
  rw [runFn_eq T.mark (by simp), T.kmark]
  have q := attr_fld (P := P) (call := callFn P keep n) (x := "r_parts") (fs := [("r_parts", .tup [a, b, c, d])]) (s := s) T.cR (by rfl)
  have e : semSub (.tup [a, b, c, d]) (.int 1) s = some b := by rfl
  simp [cPart, q, fget, e, leave_same h]
theorem r_always (n : Nat) {a b c d : DV} {s : S} (h : isTree c = true) : getAttr P (callFn P keep (n + 1)) (ruleD z.cR a b c d) "always" s = .ok c s := by
  unfold ruleD
  rw [attr_prop (f := z.always) T.cR (by rfl)]
  show noErr (runFn P keep (callFn P keep n) z.always _ s) = _
  rw [runFn_eq T.always (by simp), T.kalways]
  have q := attr_fld (P := P) (call := callFn P keep n) (x := "r_parts") (fs := [("r_parts", .tup [a, b, c, d])]) (s := s) T.cR (by rfl)
  have e : semSub (.tup [a, b, c, d]) (.int 2) s = some c := by rfl
  simp [cPart, q, fget, e, leave_same h]
theorem r_late (n : Nat) {a b c d : DV} {s : S} (h : isTree d = true) : getAttr P (callFn P keep (n + 1)) (ruleD z.cR a b c d) "late" s = .ok d s := by
  unfold ruleD
  rw [attr_prop (f := z.late) T.cR (by rfl)]
  show noErr (runFn P keep (callFn P keep n) z.late _ s) = _
  rw [runFn_eq T.late (by simp), T.klate]
  have q := attr_fld (P := P) (call := callFn P keep n) (x := "r_parts") (fs := [("r_parts", .tup [a, b, c, d])]) (s := s) T.cR (by rfl)
  have e : semSub (.tup [a, b, c, d]) (.int 3) s = some d := by rfl
  simp [cPart, q, fget, e, leave_same h]
end
/-! ### loops that end at the first -/
theorem forL_find {f : DV → Env → M Flow} {p : Str → Bool} {out : Str → Res Flow} {I : Env → Prop} {s : S} (ho : ∀ x f r, turnEnd f r (out x) = out x) : ∀ {xs : List Str} {env : Env}, I env →
    (∀ x ∈ xs, ∀ env, I env → (p x = true → f (.str x) env s = out x) ∧ (p x = false → ∃ e, f (.str x) env s = .ok (.nxt e) s ∧ I e)) →
    ∃ e, I e ∧ forL (fun _ => True) f (xs.map .str) env s = match xs.find? p with
      | some x => out x
      | none => .ok (.nxt e) s
  | [], env, h, _ => ⟨env, h, by simp⟩
  | x :: r, env, h, hs => by
    obtain ⟨h1, h2⟩ := hs x (by simp) env h
    cases hp : p x with
    | true => exact ⟨env, h, by simp [h1 hp, hp, ho]⟩
    | false =>
      obtain ⟨e, h3, h4⟩ := h2 hp
      obtain ⟨e2, h5, h6⟩ := forL_find ho (xs := r) h4 fun y hy => hs y (by simp [hy])
      exact ⟨e2, h5, by simp [h3, hp, h6]⟩
theorem te_err {f : DV → Env → M Flow} {r : List DV} {c : Nat} {fs : List (Str × DV)} {s : S} : turnEnd f r (.err c fs s) = .err c fs s := rfl
theorem te_ret {f : DV → Env → M Flow} {r : List DV} {d : DV} {s : S} : turnEnd f r (.ok (.ret d) s) = .ok (.ret d) s := rfl
/-! ### dicts -/
def isDctD : DV → Bool
  | .dct _ => true
  | _ => false
def kvsD : DV → List (DV × DV)
  | .dct kvs => kvs
  | _ => []
def keysD (d : DV) : List DV := (kvsD d).map (·.1)
/-- a dict from 1 to 8 names -/
def namedB (d : DV) : Bool := isDctD d && decide (1 ≤ ((kvsD d).length : Int)) && decide (((kvsD d).length : Int) ≤ 8) && (keysD d).all nameB
def getD (d : DV) (x : Str) : Option DV := dget (.s x) (kvsD d)
theorem isi_dict {P : Pg} {d : DV} {s : S} (h : isTree d = true) (ho : dvOk P d = true) : isiR P d [.dict] s = some (isDctD d) := by
  rw [isi_tree h ho]
  cases d <;> first | rfl | cases h
@[simp] theorem sP_len_dct (kvs : List (DV × DV)) (s : S) : semP .len [.dct kvs] s = some (.int kvs.length) := rfl
theorem sub_dct (kvs : List (DV × DV)) (x : Str) (s : S) : semSub (.dct kvs) (.str x) s = dget (.s x) kvs := rfl
theorem isin_dct (kvs : List (DV × DV)) (x : Str) (s : S) : semC .isin (.str x) (.dct kvs) s = some (dget (.s x) kvs).isSome := by
  show inSeq (.str x) (.dct kvs) s = _
  rfl
theorem nin_dct (kvs : List (DV × DV)) (x : Str) (s : S) : semC .nin (.str x) (.dct kvs) s = some (!(dget (.s x) kvs).isSome) := by
  show (inSeq (.str x) (.dct kvs) s).map (!·) = _
  rfl
theorem dget_mem : ∀ {kvs : List (DV × DV)} {x : Str}, (.str x) ∈ kvs.map (·.1) → ∃ v, dget (.s x) kvs = some v ∧ v ∈ kvs.map (·.2)
  | [], x, h => by simp at h
  | (k, v) :: r, x, h => by
    unfold dget
    by_cases hk : skOf k = some (.s x)
    · rw [if_pos hk]; exact ⟨v, rfl, by simp⟩
    · rw [if_neg hk]
      simp only [List.map_cons, List.mem_cons] at h
      rcases h with h | h
      · subst h; exact absurd rfl hk
      · obtain ⟨v', h1, h2⟩ := dget_mem h
        exact ⟨v', h1, by simp [h2]⟩
theorem dget_key : ∀ {kvs : List (DV × DV)} {x : Str}, (dget (.s x) kvs).isSome = true → (.str x) ∈ kvs.map (·.1)
  | [], x, h => by simp [dget] at h
  | (k, v) :: r, x, h => by
    unfold dget at h
    by_cases hk : skOf k = some (.s x)
    · have : k = .str x := by cases k <;> simp_all [skOf]
      simp [this]
    · rw [if_neg hk] at h
      simp [dget_key h]
/-- the names of a dict, ascending -/
def namesS (d : DV) : List Str := sortS (strsD (keysD d))
theorem mem_insS {x y : Str} : ∀ {r : List Str}, y ∈ insS x r ↔ y = x ∨ y ∈ r
  | [] => by simp [insS]
  | a :: r => by
    unfold insS
    split
    · simp only [List.mem_cons, mem_insS]
      constructor
      · rintro (h | h | h) <;> simp [h]
      · rintro (h | h | h) <;> simp [h]
    · simp
theorem mem_sortS {y : Str} : ∀ {r : List Str}, y ∈ sortS r ↔ y ∈ r
  | [] => by simp [sortS]
  | a :: r => by simp only [sortS, mem_insS, mem_sortS, List.mem_cons]
theorem mem_strsD {x : Str} {xs : List DV} : x ∈ strsD xs ↔ DV.str x ∈ xs := by
  unfold strsD
  rw [List.mem_filterMap]
  constructor
  · rintro ⟨d, h1, h2⟩
    cases d <;> simp at h2
    subst h2
    exact h1
  · intro h
    exact ⟨_, h, rfl⟩
theorem sorted_dct {kvs : List (DV × DV)} (hx : (kvs.map (·.1)).all isStrD = true) (hl : kvs.length < 64) (s : S) : semP .sorted [.dct kvs] s = some (.lst ((namesS (.dct kvs)).map .str)) := by
  obtain ⟨h1, h2⟩ := strsOf_eq hx
  show ((strsOf (kvs.map Prod.fst)).bind fun ss => if ss.length < 64 then some (DV.lst ((sortS ss).map .str)) else none) = _
  rw [h1]
  simp only [Option.bind_some]
  rw [if_pos (by rw [h2]; simpa using hl)]
  rfl
end WS.I
set_option maxRecDepth 100000
/-! E8: nets: what is asked of their parts, how they are made. -/
namespace WS.I
open PySem
def cNamed (name : Nat) : List St := [.ret (.and (.isi (.var 0) [.dict]) (.and (.chn .le .le (.cst (.int 1)) (.prim .len (.cons (.var 0) .nil)) (.glo "MOST_HOUSES" (.int 8))) (.prim .all (.cons (.comp (.one 1) (.callK name (.cons (.var 1) .nil) .nil [.inl 0]) (.val (.var 0)) (.cst (.bl true))) .nil))))]
def cNeedH (named cH xN : Nat) : List St := [.ife (.not (.callK named (.cons (.var 1) .nil) .nil [.inl 0])) [.rais xN (.cons (.cst (.str "houses")) (.cons (.cst .non) .nil))] [], .set 2 (.prim .sorted (.cons (.var 1) .nil)), .forS (.one 3) (.val (.var 2)) [.ife (.not (.isi (.sub (.var 1) (.var 3)) [(.own cH)])) [.rais xN (.cons (.cst (.str "houses")) (.cons (.var 3) .nil))] []], .forS (.one 3) (.val (.var 2)) [.ife (.prim .any (.cons (.comp (.one 4) (.cmp .gt (.attr (.var 4) "share") (.var 0)) (.val (.attr (.sub (.var 1) (.var 3)) "rules")) (.cst (.bl true))) .nil)) [.rais xN (.cons (.cst (.str "share")) (.cons (.var 3) .nil))] []], .forS (.one 3) (.val (.var 2)) [.ife (.not (.prim .all (.cons (.comp (.one 5) (.cmp .isin (.var 5) (.var 1)) (.val (.attr (.sub (.var 1) (.var 3)) "calls")) (.cst (.bl true))) .nil))) [.rais xN (.cons (.cst (.str "calls")) (.cons (.var 3) .nil))] []]]
def cNetI (num needH names xN : Nat) : List St := [.ife (.or (.not (.callK num (.cons (.var 1) .nil) .nil [.inl 0])) (.not (.chn .le .le (.cst (.int 1)) (.var 1) (.glo "MOST_FINE" (.int 1000))))) [.rais xN (.cons (.cst (.str "fine")) (.cons (.cst .non) .nil))] [], .exp (.callK needH (.cons (.var 1) (.cons (.var 2) .nil)) .nil [.inl 0, .inl 1]), .ife (.or (.not (.callK names (.cons (.var 3) .nil) .nil [.inl 0])) (.or (.cmp .eq (.prim .len (.cons (.var 3) .nil)) (.cst (.int 0))) (.not (.prim .all (.cons (.comp (.one 4) (.cmp .isin (.var 4) (.var 2)) (.val (.var 3)) (.cst (.bl true))) .nil))))) [.rais xN (.cons (.cst (.str "entries")) (.cons (.cst .non) .nil))] [], .fld 0 "n_fine" (.var 1), .fld 0 "n_houses" (.dcomp (.one 4) (.var 4) (.sub (.var 2) (.var 4)) (.val (.prim .sorted (.cons (.var 2) .nil))) (.cst (.bl true))), .fld 0 "n_entries" (.prim .tuple (.cons (.prim .sorted (.cons (.var 3) .nil)) .nil))]
structure IxN extends Ix where
  named : Nat
  needH : Nat
  netI : Nat
  nfine : Nat
  nentries : Nat
  cN : Nat
  xN : Nat
  mN : List (Str × Nat)
structure NT (P : Pg) (keep : Nat → Bool) (x : IxN) : Prop extends HT P keep x.toIx where
  named : P.fn x.named = some ⟨2, cNamed x.name⟩
  needH : P.fn x.needH = some ⟨6, cNeedH x.named x.cH x.xN⟩
  netI : P.fn x.netI = some ⟨5, cNetI x.num x.needH x.names x.xN⟩
  nfine : P.fn x.nfine = some ⟨1, cFld "n_fine"⟩
  nentries : P.fn x.nentries = some ⟨1, cFld "n_entries"⟩
  knamed : keep x.named = false
  kneedH : keep x.needH = false
  knetI : keep x.netI = false
  knfine : keep x.nfine = false
  knentries : keep x.nentries = false
  cN : P.cl x.cN = some ⟨x.netI, [("fine", x.nfine), ("entries", x.nentries)], x.mN⟩
  xN : P.ex x.xN = some (["field", "house"] : List Str)
/-! ### rules, houses as data -/
structure RuleS where
  sh : Int
  wd : Str
  al : Bool
  lt : Bool
def RuleS.dv (c : Nat) (r : RuleS) : DV := ruleD c (.int r.sh) (.str r.wd) (.bl r.al) (.bl r.lt)
structure HouseS where
  rules : List RuleS
  calls : List Str
  lost : List Str
  fails : Bool
def HouseS.dv (z : Ix) (h : HouseS) : DV := houseD z.cH (h.rules.map (·.dv z.cR)) (h.calls.map .str) (h.lost.map .str) (.bl h.fails)
/-- a value of a dict of houses -/
structure ValG (P : Pg) (z : Ix) (v : DV) : Prop where
  ok : okV P v = true
  ho : isInsD z.cH v = true → ∃ h : HouseS, v = h.dv z
/-- what may be handed in as houses -/
structure DictG (P : Pg) (z : Ix) (d : DV) : Prop where
  ok : okV P d = true
  keys : (keysD d).all (okV P) = true
  len : (kvsD d).length < 64
  vals : ∀ p ∈ kvsD d, ValG P z p.2
/-! ### what is wrong first -/
def rulesV : DV → List DV
  | .ins _ ((_, .tup rs) :: _) => rs
  | _ => []
def callsV : DV → List DV
  | .ins _ (_ :: (_, .tup cs) :: _) => cs
  | _ => []
def shareV : DV → Int
  | .ins _ ((_, .tup (.int i :: _)) :: _) => i
  | _ => 0
def inDct (d : DV) : DV → Bool
  | .str x => (getD d x).isSome
  | _ => false
def atB (d : DV) (p : DV → Bool) (x : Str) : Bool := match getD d x with
  | some v => p v
  | none => false
def overB (g : Int) (v : DV) : Bool := (rulesV v).any fun r => decide (g < shareV r)
def outB (d v : DV) : Bool := !(callsV v).all (inDct d)
def housesBad (cH : Nat) (g : Int) (d : DV) : Option (Str × DV) :=
  if namedB d = false then some ("houses", .non) else
  match (namesS d).find? (atB d fun v => !isInsD cH v) with
  | some x => some ("houses", .str x)
  | none => match (namesS d).find? (atB d (overB g)) with
    | some x => some ("share", .str x)
    | none => match (namesS d).find? (atB d (outB d)) with
      | some x => some ("calls", .str x)
      | none => none
def fineB : DV → Bool
  | .int i => decide (1 ≤ i) && decide (i ≤ 1000)
  | _ => false
def fineI : DV → Int
  | .int i => i
  | _ => 0
def entB (d e : DV) : Bool := namesB e && !((itemsD e).length == 0) && (itemsD e).all (inDct d)
def netBad (cH : Nat) (g d e : DV) : Option (Str × DV) :=
  if fineB g = false then some ("fine", .non) else
  match housesBad cH (fineI g) d with
  | some r => some r
  | none => if entB d e = false then some ("entries", .non) else none
def badR (xN : Nat) (r : Str × DV) (s : S) : Res DV := .err xN [("house", r.2), ("field", .str r.1)] s
section
variable {P : Pg} {keep : Nat → Bool} {z : IxN} (T : NT P keep z)
include T
theorem named_call (n : Nat) {d : DV} {s : S} (h : DictG P z.toIx d) : callFn P keep (n + 2) z.named [d] s = .ok (.bl (namedB d)) s := by
  show runFn P keep (callFn P keep (n + 1)) z.named [d] s = _
  rw [runFn_eq T.named (by simp), T.knamed]
  have ho := h.ok
  simp only [okV, Bool.and_eq_true] at ho
  have si := isi_dict (P := P) (s := s) ho.1.1 ho.1.2
  unfold cNamed
  cases hd : isDctD d with
  | false =>
    have e : namedB d = false := by simp [namedB, hd]
    simp [si, hd, e]
    exact leave_same rfl
  | true =>
    obtain ⟨kvs, rfl⟩ : ∃ kvs, d = .dct kvs := by cases d <;> simp_all [isDctD]
    by_cases l1 : (1 : Int) ≤ kvs.length
    · by_cases l2 : (kvs.length : Int) ≤ 8
      · have hm : mapIf (fun _ => True) (tgC (.one 1) (evB P (callFn P keep (n + 1)) (.cst (.bl true))) [some (.dct kvs), none]) (tgC (.one 1) (ev P (callFn P keep (n + 1)) (.callK z.name (.cons (.var 1) .nil) .nil [.inl 0])) [some (.dct kvs), none]) (kvs.map (·.1)) s = .ok (bls ((kvs.map (·.1)).map nameB)) s := by
          rw [mapIf_pure (p := fun _ => true) (g := fun d => .bl (nameB d))]
          · rw [List.filter_eq_self.mpr (by simp)]
            simp only [List.map_map, bls]
            rfl
          · intro y hy; simp
          · intro y hy _
            have hk := List.all_eq_true.mp h.keys y hy
            simp [permute, name_call T.toHT n (s := s) hk]
        have e : namedB (.dct kvs) = ((kvs.map (·.1)).map nameB).all id := by
          simp [namedB, isDctD, kvsD, keysD, l1, l2, List.all_map]
        simp only [List.map_cons, List.map_nil, List.length_cons, List.length_nil, List.cons_append, List.nil_append, List.replicate, x_cons, x_ret, e_and, e_chn, e_cst, e_glo, e_isi, e_var, slot_ok, bind_ok, si, hd, Option.map_some, ofO_some, asB_ok, if_true, e_prim, es_cons, es_nil, sP_len_dct, sC_le, l1, l2, decide_true, e_comp, r_val, w_dct, Sq_ok_fun, hm, noErr_ok, all_bls, t_ret, fnEnd_ret, e]
        exact leave_same rfl
      · have e : namedB (.dct kvs) = false := by simp [namedB, kvsD, l2]
        simp [si, hd, l1, l2, e]
        exact leave_same rfl
    · have e : namedB (.dct kvs) = false := by simp [namedB, kvsD, l1]
      simp [si, hd, l1, e]
      exact leave_same rfl
omit T in
theorem named_dct {d : DV} (h : namedB d = true) : ∃ kvs, d = .dct kvs ∧ (kvs.map (·.1)).all nameB = true ∧ 1 ≤ kvs.length ∧ kvs.length ≤ 8 := by
  simp only [namedB, Bool.and_eq_true, decide_eq_true_eq] at h
  obtain ⟨⟨⟨h1, h2⟩, h3⟩, h4⟩ := h
  obtain ⟨kvs, rfl⟩ : ∃ kvs, d = .dct kvs := by cases d <;> simp_all [isDctD]
  simp only [kvsD] at h2 h3
  exact ⟨kvs, rfl, h4, by omega, by omega⟩
/-- a name's value -/
theorem at_name {kvs : List (DV × DV)} {x : Str} (h : DictG P z.toIx (.dct kvs)) (hx : x ∈ namesS (.dct kvs)) : ∃ v, dget (.s x) kvs = some v ∧ ValG P z.toIx v := by
  have hk : DV.str x ∈ kvs.map (·.1) := mem_strsD.mp (mem_sortS.mp hx)
  obtain ⟨v, h1, h2⟩ := dget_mem hk
  obtain ⟨p, hp, e⟩ := List.mem_map.mp h2
  subst e
  exact ⟨p.2, h1, h.vals p hp⟩
theorem isi_house {v : DV} {s : S} (h : okV P v = true) : isiR P v [.own z.cH] s = some (isInsD z.cH v) := by
  simp only [okV, Bool.and_eq_true] at h
  rw [isi_own h.1.1 h.1.2]
  cases v <;> rfl
def cL1 (cH xN : Nat) : List St := [.ife (.not (.isi (.sub (.var 1) (.var 3)) [(.own cH)])) [.rais xN (.cons (.cst (.str "houses")) (.cons (.var 3) .nil))] []]
def cL2 (xN : Nat) : List St := [.ife (.prim .any (.cons (.comp (.one 4) (.cmp .gt (.attr (.var 4) "share") (.var 0)) (.val (.attr (.sub (.var 1) (.var 3)) "rules")) (.cst (.bl true))) .nil)) [.rais xN (.cons (.cst (.str "share")) (.cons (.var 3) .nil))] []]
def cL3 (xN : Nat) : List St := [.ife (.not (.prim .all (.cons (.comp (.one 5) (.cmp .isin (.var 5) (.var 1)) (.val (.attr (.sub (.var 1) (.var 3)) "calls")) (.cst (.bl true))) .nil))) [.rais xN (.cons (.cst (.str "calls")) (.cons (.var 3) .nil))] []]
theorem over_run (n : Nat) {g : Int} {h : HouseS} {env : Env} {s : S} (he : env.length = 6) (hg : env[0]? = some (some (.int g))) : mapIf (fun _ => True) (tgC (.one 4) (evB P (callFn P keep (n + 1)) (.cst (.bl true))) env) (tgC (.one 4) (ev P (callFn P keep (n + 1)) (.cmp .gt (.attr (.var 4) "share") (.var 0))) env) (h.rules.map (·.dv z.cR)) s
    = .ok (bls (h.rules.map fun r => decide (g < r.sh))) s := by
  obtain ⟨e0, e1, e2, e3, e4, e5, rfl⟩ : ∃ e0 e1 e2 e3 e4 e5, env = [e0, e1, e2, e3, e4, e5] := by
    match env, he with
    | [e0, e1, e2, e3, e4, e5], _ => exact ⟨_, _, _, _, _, _, rfl⟩
  obtain rfl : e0 = some (.int g) := by simpa using hg
  rw [mapIf_pure (p := fun _ => true) (g := fun d => .bl (decide (g < shareV d)))]
  · rw [List.filter_eq_self.mpr (by simp)]
    simp only [List.map_map, bls]
    rfl
  · intro y hy; simp
  · intro y hy _
    obtain ⟨r, _, rfl⟩ := List.mem_map.mp hy
    have q := r_share T.toHT n (a := .int r.sh) (b := .str r.wd) (c := .bl r.al) (d := .bl r.lt) (s := s) rfl
    change getAttr P (callFn P keep (n + 1)) (r.dv z.cR) "share" s = _ at q
    simp [q]
    rfl
theorem needH_call (n : Nat) {g : Int} {d : DV} {s : S} (h : DictG P z.toIx d) : callFn P keep (n + 3) z.needH [.int g, d] s = match housesBad z.cH g d with
    | some r => badR z.xN r s
    | none => .ok .non s := by
  show runFn P keep (callFn P keep (n + 2)) z.needH [.int g, d] s = _
  rw [runFn_eq T.needH (by simp), T.kneedH]
  have nc := named_call T n (s := s) h
  have e : cNeedH z.named z.cH z.xN = [.ife (.not (.callK z.named (.cons (.var 1) .nil) .nil [.inl 0])) [.rais z.xN (.cons (.cst (.str "houses")) (.cons (.cst .non) .nil))] [], .set 2 (.prim .sorted (.cons (.var 1) .nil)), .forS (.one 3) (.val (.var 2)) (cL1 z.cH z.xN), .forS (.one 3) (.val (.var 2)) (cL2 z.xN), .forS (.one 3) (.val (.var 2)) (cL3 z.xN)] := rfl
  rw [e]
  have rs := fun (es : Es) (env : Env) (s : S) => x_rais (P := P) (call := callFn P keep (n + 2)) (env := env) (s := s) (c := z.xN) (es := es) T.xN
  unfold housesBad
  cases hnb : namedB d with
  | false =>
    simp [permute, nc, hnb, rs, embedAll, embed, badR, fnEnd_err_same]
  | true =>
  obtain ⟨kvs, rfl, hk, hl1, hl2⟩ := named_dct hnb
  obtain ⟨hf, hst⟩ := str_flat hk
  have so := sorted_dct hst (by omega) s
  rw [if_neg (by simp)]
  have eo : ∀ x : Str, (atB (.dct kvs) (fun v => !isInsD z.cH v) x) = (match dget (.s x) kvs with
    | some v => !isInsD z.cH v
    | none => false) := fun _ => rfl
  -- the first loop
  obtain ⟨E1, ⟨a3, a4, a5, rfl⟩, L1⟩ := forL_find (f := tgB (.one 3) (exSs P (callFn P keep (n + 2)) (cL1 z.cH z.xN))) (p := atB (.dct kvs) fun v => !isInsD z.cH v) (out := fun x => .err z.xN [("house", .str x), ("field", .str "houses")] s) (I := fun env => ∃ a3 a4 a5, env = [some (.int g), some (.dct kvs), some (.lst ((namesS (.dct kvs)).map .str)), a3, a4, a5]) (s := s) (fun _ _ _ => rfl) (xs := namesS (.dct kvs)) (env := [some (.int g), some (.dct kvs), some (.lst ((namesS (.dct kvs)).map .str)), none, none, none]) ⟨_, _, _, rfl⟩ (by
    rintro x hx env ⟨a3, a4, a5, rfl⟩
    obtain ⟨v, hv, gv⟩ := at_name T h hx
    have si := isi_house T (s := s) gv.ok
    have ea : atB (.dct kvs) (fun v => !isInsD z.cH v) x = !isInsD z.cH v := by
      rw [eo, hv]
    rw [ea]
    constructor
    · intro hb
      have hb : isInsD z.cH v = false := by simpa using hb
      simp [cL1, sub_dct, hv, si, hb, rs, embedAll, embed]
    · intro hb
      have hb : isInsD z.cH v = true := by simpa using hb
      refine ⟨[some (.int g), some (.dct kvs), some (.lst ((namesS (.dct kvs)).map .str)), some (.str x), a4, a5], ?_, _, _, _, rfl⟩
      simp [cL1, sub_dct, hv, si, hb])
  cases h1 : (namesS (.dct kvs)).find? (atB (.dct kvs) fun v => !isInsD z.cH v) with
  | some x =>
    rw [h1] at L1
    simp [permute, nc, hnb, so, L1, badR, fnEnd_err_same]
  | none =>
  rw [h1] at L1
  have ho : ∀ x ∈ namesS (.dct kvs), ∃ hh : HouseS, dget (.s x) kvs = some (hh.dv z.toIx) := by
    intro x hx
    obtain ⟨v, hv, gv⟩ := at_name T h hx
    have := List.find?_eq_none.mp h1 x hx
    rw [eo, hv] at this
    obtain ⟨hh, e⟩ := gv.ho (by simpa using this)
    exact ⟨hh, by rw [hv, e]⟩
  -- the second loop
  obtain ⟨E2, ⟨b3, b4, b5, rfl⟩, L2⟩ := forL_find (f := tgB (.one 3) (exSs P (callFn P keep (n + 2)) (cL2 z.xN))) (p := atB (.dct kvs) (overB g)) (out := fun x => .err z.xN [("house", .str x), ("field", .str "share")] s) (I := fun env => ∃ a3 a4 a5, env = [some (.int g), some (.dct kvs), some (.lst ((namesS (.dct kvs)).map .str)), a3, a4, a5]) (s := s) (fun _ _ _ => rfl) (xs := namesS (.dct kvs)) (env := [some (.int g), some (.dct kvs), some (.lst ((namesS (.dct kvs)).map .str)), a3, a4, a5]) ⟨_, _, _, rfl⟩ (by
    rintro x hx env ⟨a3, a4, a5, rfl⟩
    obtain ⟨hh, hv⟩ := ho x hx
    have hr := h_rules T.toHT (n + 1) (rs := hh.rules.map (·.dv z.cR)) (cs := hh.calls.map .str) (ls := hh.lost.map .str) (f := .bl hh.fails) (s := s)
    change getAttr P (callFn P keep (n + 2)) (hh.dv z.toIx) "rules" s = _ at hr
    have hm := over_run T (n + 1) (g := g) (h := hh) (env := [some (.int g), some (.dct kvs), some (.lst ((namesS (.dct kvs)).map .str)), some (.str x), a4, a5]) (s := s) rfl rfl
    have ea : atB (.dct kvs) (overB g) x = (hh.rules.map fun r => decide (g < r.sh)).any id := by
      show (match dget (.s x) kvs with
        | some v => overB g v
        | none => false) = _
      rw [hv]
      show ((hh.rules.map (·.dv z.cR)).any fun r => decide (g < shareV r)) = _
      rw [List.any_map, List.any_map]
      rfl
    have an := any_bls (s := s) (bs := hh.rules.map fun r => decide (g < r.sh))
    rw [← ea] at an
    constructor
    · intro hb
      rw [hb] at an
      simp [cL2, sub_dct, hv, hr, hm, an, rs, embedAll, embed]
    · intro hb
      rw [hb] at an
      refine ⟨[some (.int g), some (.dct kvs), some (.lst ((namesS (.dct kvs)).map .str)), some (.str x), a4, a5], ?_, _, _, _, rfl⟩
      simp [cL2, sub_dct, hv, hr, hm, an])
  cases h2 : (namesS (.dct kvs)).find? (atB (.dct kvs) (overB g)) with
  | some x =>
    rw [h2] at L2
    simp [permute, nc, hnb, so, L1, L2, badR, fnEnd_err_same]
  | none =>
  rw [h2] at L2
  -- the third loop
  obtain ⟨E3, ⟨c3, c4, c5, rfl⟩, L3⟩ := forL_find (f := tgB (.one 3) (exSs P (callFn P keep (n + 2)) (cL3 z.xN))) (p := atB (.dct kvs) (outB (.dct kvs))) (out := fun x => .err z.xN [("house", .str x), ("field", .str "calls")] s) (I := fun env => ∃ a3 a4 a5, env = [some (.int g), some (.dct kvs), some (.lst ((namesS (.dct kvs)).map .str)), a3, a4, a5]) (s := s) (fun _ _ _ => rfl) (xs := namesS (.dct kvs)) (env := [some (.int g), some (.dct kvs), some (.lst ((namesS (.dct kvs)).map .str)), b3, b4, b5]) ⟨_, _, _, rfl⟩ (by
    rintro x hx env ⟨a3, a4, a5, rfl⟩
    obtain ⟨hh, hv⟩ := ho x hx
    have hr := h_calls T.toHT (n + 1) (rs := hh.rules.map (·.dv z.cR)) (cs := hh.calls.map .str) (ls := hh.lost.map .str) (f := .bl hh.fails) (s := s)
    change getAttr P (callFn P keep (n + 2)) (hh.dv z.toIx) "calls" s = _ at hr
    have hm : mapIf (fun _ => True) (tgC (.one 5) (evB P (callFn P keep (n + 2)) (.cst (.bl true))) [some (.int g), some (.dct kvs), some (.lst ((namesS (.dct kvs)).map .str)), some (.str x), a4, a5]) (tgC (.one 5) (ev P (callFn P keep (n + 2)) (.cmp .isin (.var 5) (.var 1))) [some (.int g), some (.dct kvs), some (.lst ((namesS (.dct kvs)).map .str)), some (.str x), a4, a5]) (hh.calls.map .str) s
        = .ok (bls (hh.calls.map fun w => inDct (.dct kvs) (.str w))) s := by
      rw [mapIf_pure (p := fun _ => true) (g := fun d => .bl (inDct (.dct kvs) d))]
      · rw [List.filter_eq_self.mpr (by simp)]
        simp only [List.map_map, bls]
        rfl
      · intro y hy; simp
      · intro y hy _
        obtain ⟨w, _, rfl⟩ := List.mem_map.mp hy
        simp [isin_dct, inDct, getD, kvsD]
    have al := all_bls (s := s) (bs := hh.calls.map fun w => inDct (.dct kvs) (.str w))
    have ea : atB (.dct kvs) (outB (.dct kvs)) x = !(hh.calls.map fun w => inDct (.dct kvs) (.str w)).all id := by
      show (match dget (.s x) kvs with
        | some v => outB (.dct kvs) v
        | none => false) = _
      rw [hv]
      show (!(hh.calls.map DV.str).all (inDct (.dct kvs))) = _
      rw [List.all_map, List.all_map]
      rfl
    constructor
    · intro hb
      rw [ea] at hb
      have hb : (hh.calls.map fun w => inDct (.dct kvs) (.str w)).all id = false := by simpa using hb
      rw [hb] at al
      simp [cL3, sub_dct, hv, hr, hm, al, rs, embedAll, embed]
    · intro hb
      rw [ea] at hb
      have hb : (hh.calls.map fun w => inDct (.dct kvs) (.str w)).all id = true := by simpa using hb
      rw [hb] at al
      refine ⟨[some (.int g), some (.dct kvs), some (.lst ((namesS (.dct kvs)).map .str)), some (.str x), a4, a5], ?_, _, _, _, rfl⟩
      simp [cL3, sub_dct, hv, hr, hm, al])
  cases h3 : (namesS (.dct kvs)).find? (atB (.dct kvs) (outB (.dct kvs))) with
  | some x =>
    rw [h3] at L3
    simp [permute, nc, hnb, so, L1, L2, L3, badR, fnEnd_err_same]
  | none =>
    rw [h3] at L3
    simp [permute, nc, hnb, so, L1, L2, L3]
    exact leave_same rfl
end
end WS.I
set_option maxRecDepth 100000
/-! E9: nets made; things in a drawn order. -/
namespace WS.I
open PySem
theorem em_non (s : S) : embed .non s = .ok .non s := rfl
theorem em_bl (b : Bool) (s : S) : embed (.bl b) s = .ok (.bl b) s := rfl
theorem em_int (b : Int) (s : S) : embed (.int b) s = .ok (.int b) s := rfl
theorem em_str (b : Str) (s : S) : embed (.str b) s = .ok (.str b) s := rfl
theorem em_tup (b : List DV) (s : S) : embed (.tup b) s = .ok (.tup b) s := rfl
theorem em_lst (b : List DV) (s : S) : embed (.lst b) s = .ok (.lst b) s := rfl
theorem em_dct (b : List (DV × DV)) (s : S) : embed (.dct b) s = .ok (.dct b) s := rfl
theorem em_ins (c : Nat) (b : List (Str × DV)) (s : S) : embed (.ins c b) s = .ok (.ins c b) s := rfl
theorem em_rule (c : Nat) (r : RuleS) (s : S) : embed (r.dv c) s = .ok (r.dv c) s := rfl
theorem em_house (z : Ix) (h : HouseS) (s : S) : embed (h.dv z) s = .ok (h.dv z) s := rfl
theorem eA_cons (d : DV) (r : List DV) (s : S) : embedAll (d :: r) s = (embed d s).bind fun d' s1 => (embedAll r s1).bind fun r' s2 => .ok (d' :: r') s2 := rfl
theorem dict_fold {c : DV → M Bool} {fk fv : DV → M DV} {v : Str → DV} {s : S} (hc : ∀ x, c x s = .ok true s) (hk : ∀ x, fk x s = .ok x s) : ∀ {xs : List Str} {acc : List (DV × DV)}, (∀ x ∈ xs, fv (.str x) s = .ok (v x) s ∧ isTree (v x) = true) →
    dictIf (fun _ => True) c fk fv (xs.map .str) acc s = .ok (xs.foldl (fun a x => dput (.s x) (v x) a) acc) s
  | [], acc, _ => by simp [dictIf]
  | x :: r, acc, h => by
    obtain ⟨h1, h2⟩ := h x (by simp)
    have ih := dict_fold hc hk (xs := r) (acc := dput (.s x) (v x) acc) fun y hy => h y (by simp [hy])
    rw [List.map_cons]
    conv => lhs; unfold dictIf
    rw [if_pos trivial, hc]
    simp only [bind_ok, if_true, hk, h1, embed_t s h2]
    exact ih
/-- the houses of a net, names ascending -/
def netKvs (d : DV) : List (DV × DV) := (namesS d).foldl (fun a x => dput (.s x) ((getD d x).getD .non) a) []
def netD (cN : Nat) (g : DV) (kvs : List (DV × DV)) (es : List DV) : DV := .ins cN [("n_fine", g), ("n_houses", .dct kvs), ("n_entries", .tup es)]
section
variable {P : Pg} {keep : Nat → Bool} {z : IxN} (T : NT P keep z)
include T
theorem net_make (n : Nat) {g d e : DV} {s : S} (hs : stOk s) (hg : okV P g = true) (hd : DictG P z.toIx d) (he : okI P e = true) :
    make P (callFn P keep (n + 4)) z.cN [g, d, e] s = match netBad z.cH g d e with
      | some r => badR z.xN r s
      | none => .ok (netD z.cN g (netKvs d) (sortD e)) s := by
  rw [make_eq T.cN]
  show makeEnd s z.cN (runFn P keep (callFn P keep (n + 3)) z.netI [.loc s.length, g, d, e] (s ++ [.ins z.cN []])) = _
  rw [runFn_eq T.netI (by simp), T.knetI]
  have nm := num_call T.toHT (n + 2) (d := g) (s := s ++ [.ins z.cN []]) hg
  have nn := names_call T.toHT (n + 1) (d := e) (s := s ++ [.ins z.cN []]) he
  have rs := fun (es : Es) (env : Env) (s : S) => x_rais (P := P) (call := callFn P keep (n + 3)) (env := env) (s := s) (c := z.xN) (es := es) T.xN
  have er : ∀ fs, makeEnd s z.cN (fnEnd false (s ++ [Cell.ins z.cN []]) (.err z.xN fs (s ++ [Cell.ins z.cN []]))) = .err z.xN fs s := fun fs => by rw [fnEnd_err_same, makeEnd_err]
  unfold cNetI netBad
  by_cases h1 : fineB g = true
  rotate_left
  · have h1 : fineB g = false := by simpa using h1
    rw [if_pos h1]
    by_cases hn : isNumD g = true
    · obtain ⟨i, rfl⟩ : ∃ i, g = .int i := by cases g <;> simp_all [isNumD]
      by_cases hi : 1 ≤ i
      · have hi2 : ¬ i ≤ 1000 := by simpa [fineB, hi] using h1
        simp [permute, nm, hn, hi, hi2, rs, embedAll, embed, er, badR]
      · simp [permute, nm, hn, hi, rs, embedAll, embed, er, badR]
    · have hn : isNumD g = false := by simpa using hn
      simp [permute, nm, hn, rs, embedAll, embed, er, badR]
  obtain ⟨i, rfl⟩ : ∃ i, g = .int i := by cases g <;> simp_all [fineB]
  have hi : 1 ≤ i ∧ i ≤ 1000 := by simpa [fineB] using h1
  rw [if_neg (by simp [h1])]
  have nh := needH_call T n (g := i) (d := d) (s := s ++ [.ins z.cN []]) hd
  have ef : fineI (.int i) = i := rfl
  rw [ef]
  cases hb : housesBad z.cH i d with
  | some r =>
    rw [hb] at nh
    simp only [badR] at nh
    simp [permute, nm, isNumD, hi.1, hi.2, nh, er, badR]
  | none =>
  rw [hb] at nh
  have hnb : namedB d = true := by
    cases h : namedB d with
    | true => rfl
    | false => simp [housesBad, h] at hb
  obtain ⟨kvs, rfl, hk, hl1, hl2⟩ := named_dct hnb
  obtain ⟨hf, hst⟩ := str_flat hk
  have pe := he
  simp only [okI, okV, Bool.and_eq_true, decide_eq_true_eq] at pe
  by_cases h2 : namesB e = true
  rotate_left
  · have h2 : namesB e = false := by simpa using h2
    simp [permute, nm, isNumD, hi.1, hi.2, nh, nn, h2, rs, embedAll, embed, er, badR, entB]
  obtain ⟨se, ne⟩ := namesB_parts h2
  obtain ⟨fe, te⟩ := str_flat ne
  have le := len_seq se pe.1.1.2 (s ++ [.ins z.cN []])
  by_cases h3 : (itemsD e).length = 0
  · have h3' : (((itemsD e).length : Int) == 0) = true := by simp [h3]
    simp [permute, nm, isNumD, hi.1, hi.2, nh, nn, h2, le, h3', rs, embedAll, embed, er, badR, entB, h3]
  have h3' : (((itemsD e).length : Int) == 0) = false := by
    simp only [beq_eq_false_iff_ne, ne_eq]
    omega
  have h3n : ((itemsD e).length == 0) = false := by simpa using h3
  have hm : mapIf (fun _ => True) (tgC (.one 4) (evB P (callFn P keep (n + 3)) (.cst (.bl true))) [some (.loc s.length), some (.int i), some (.dct kvs), some e, none]) (tgC (.one 4) (ev P (callFn P keep (n + 3)) (.cmp .isin (.var 4) (.var 2))) [some (.loc s.length), some (.int i), some (.dct kvs), some e, none]) (itemsD e) (s ++ [.ins z.cN []]) = .ok (bls ((itemsD e).map (inDct (.dct kvs)))) (s ++ [.ins z.cN []]) := by
    rw [mapIf_pure (p := fun _ => true) (g := fun x => .bl (inDct (.dct kvs) x))]
    · rw [List.filter_eq_self.mpr (by simp)]
      simp only [List.map_map, bls]
      rfl
    · intro y hy; simp
    · intro y hy _
      obtain ⟨x, rfl⟩ := nameB_str (List.all_eq_true.mp ne y hy)
      simp [isin_dct, inDct, getD, kvsD]
  have al := all_bls (s := s ++ [.ins z.cN []]) (bs := (itemsD e).map (inDct (.dct kvs)))
  have hI : ((itemsD e).map (inDct (.dct kvs))).all id = (itemsD e).all (inDct (.dct kvs)) := by rw [List.all_map]; rfl
  rw [hI] at al
  by_cases h4 : (itemsD e).all (inDct (.dct kvs)) = true
  rotate_left
  · have h4 : (itemsD e).all (inDct (.dct kvs)) = false := by simpa using h4
    rw [h4] at al
    simp [permute, nm, isNumD, hi.1, hi.2, nh, nn, h2, le, h3', w_seq se pe.1.1.2, hm, al, rs, embedAll, embed, er, badR, entB, h4]
  rw [h4] at al
  have eB : entB (.dct kvs) e = true := by simp [entB, h2, h3n, h4]
  have so := fun s => sorted_dct hst (by omega) s
  have soe := fun s => sorted_seqE se pe.1.1.2 te pe.1.2 s
  have tl : ∀ xs (s : S), semP .tuple [.lst xs] s = some (.tup xs) := fun _ _ => rfl
  have et : ∀ xs (s : S), embed (.tup xs) s = .ok (.tup xs) s := fun _ _ => rfl
  have ei : ∀ j (s : S), embed (.int j) s = .ok (.int j) s := fun _ _ => rfl
  have ed : ∀ xs (s : S), embed (.dct xs) s = .ok (.dct xs) s := fun _ _ => rfl
  have xf := fun (env : Env) (s' : S) (x : Str) (e : E) (h : env[0]? = some (some (.loc s.length))) => x_fld (P := P) (call := callFn P keep (n + 3)) (env := env) (s := s') (i := 0) (x := x) (e := e) h
  have s1 := setFld_app (P := P) (s := s) (gs := []) (x := "n_fine") (v := .int i) T.cN (by rfl) (by simp)
  have s2 := setFld_app (P := P) (s := s) (gs := [("n_fine", .int i)]) (x := "n_houses") (v := .dct (netKvs (.dct kvs))) T.cN (by rfl) (by simp)
  have s3 := setFld_app (P := P) (s := s) (gs := [("n_fine", .int i), ("n_houses", .dct (netKvs (.dct kvs)))]) (x := "n_entries") (v := .tup (sortD e)) T.cN (by rfl) (by simp)
  simp only [fput, show ¬ (("n_fine" : Str) = "n_houses") by decide, show ¬ (("n_fine" : Str) = "n_entries") by decide, show ¬ (("n_houses" : Str) = "n_entries") by decide, if_false] at s1 s2 s3
  have df := fun (s' : S) => dict_fold (c := tgC (.one 4) (evB P (callFn P keep (n + 3)) (.cst (.bl true))) [some (.loc s.length), some (.int i), some (.dct kvs), some e, none]) (fk := tgC (.one 4) (ev P (callFn P keep (n + 3)) (.var 4)) [some (.loc s.length), some (.int i), some (.dct kvs), some e, none]) (fv := tgC (.one 4) (ev P (callFn P keep (n + 3)) (.sub (.var 2) (.var 4))) [some (.loc s.length), some (.int i), some (.dct kvs), some e, none]) (v := fun x => (getD (.dct kvs) x).getD .non) (s := s') (fun x => by simp) (fun x => by simp) (xs := namesS (.dct kvs)) (acc := []) (by
    intro x hx
    obtain ⟨v, hv, gv⟩ := at_name T hd hx
    have : getD (.dct kvs) x = some v := hv
    have go := gv.ok
    simp only [okV, Bool.and_eq_true] at go
    simp only [this, Option.getD_some]
    exact ⟨by simp [sub_dct, hv], go.1.1⟩)
  change ∀ s', dictIf _ _ _ _ _ _ s' = .ok (netKvs (.dct kvs)) s' at df
  rw [if_neg (by simp [eB])]
  simp [permute, nm, isNumD, hi.1, hi.2, nh, nn, h2, le, h3', w_seq se pe.1.1.2, hm, al, xf, so, soe, tl, et, ei, ed, df, s1, s2, s3]
  rw [leave_app hs rfl rfl, makeEnd_ok]
  rfl
end
/-! ### things in a drawn order -/
theorem DS_app2 {b : Nat} {rest : List Cell} {s : S} {x y : Cell} (h : DS b rest s) (hx : noDct x = true) (hy : noDct y = true) : DS b (rest ++ [x, y]) (s ++ [x, y]) := by
  have := DS_app (DS_app h hx) hy
  rw [List.append_assoc, List.append_assoc] at this
  exact this
theorem DS_split {b : Nat} {rest more : List Cell} {s : S} (h : DS b (rest ++ more) s) : ∃ s0, s = s0 ++ more ∧ DS b rest s0 := by
  obtain ⟨⟨w, c, r, t, rfl, q⟩, hrs⟩ := h
  exact ⟨st w c r t rest, by simp [st], ⟨w, c, r, t, rfl, q⟩, fun i x hx => hrs i x (by rw [List.getElem?_append_left (List.getElem?_eq_some_iff.mp hx).1]; exact hx)⟩
theorem DS_len {b : Nat} {rest : List Cell} {s : S} (h : DS b rest s) : s.length = rest.length + 2 := by
  obtain ⟨⟨w, c, r, t, rfl, _⟩, _⟩ := h
  simp [st]
theorem leave_more {b b' : Nat} {rest more : List Cell} {s s' : S} {d : DV} (h : DS b rest s) (h' : DS b' rest s') (hd : isTree d = true) : leave s d (s' ++ more) = .ok d s' := by
  obtain ⟨⟨w, c, r, t, rfl, _⟩, hrs⟩ := h
  obtain ⟨⟨w', c', r', t', rfl, _⟩, _⟩ := h'
  exact leave_st hrs fun n z => by subst z; cases hd
theorem leave_loc {b b' : Nat} {rest more : List Cell} {s s' : S} {n : Nat} {t : DV} (h : DS b rest s) (h' : DS b' rest s') (hn : s.length ≤ n) (ht : deepOf s.length (s' ++ more) n = some t) : leave s (.loc n) (s' ++ more) = .ok t s' := by
  obtain ⟨⟨w, c, r, t, rfl, _⟩, hrs⟩ := h
  obtain ⟨⟨w', c', r', t', rfl, _⟩, _⟩ := h'
  unfold leave
  rw [if_pos (okCells_st hrs)]
  simp only
  rw [if_neg (by omega), ht, take_st]
theorem deepKv_plain {k : Nat} {s : S} : ∀ {kvs : List (DV × DV)}, plainKv kvs = true → deepKv k s kvs = some kvs
  | [], _ => rfl
  | (q, v) :: r, h => by
    have go : plainKv r = true → (∀ n, v ≠ .loc n) → deepKv k s ((q, v) :: r) = some ((q, v) :: r) := by
      intro hr hv
      have ih := deepKv_plain (k := k) (s := s) hr
      cases v <;> first | (simp only [deepKv, ih]; rfl) | exact absurd rfl (hv _)
    cases v <;> first | exact go h (fun n z => by cases z) | (simp [plainKv] at h)
theorem deep_lst {k n : Nat} {s : S} {xs : List DV} (h : s[n]? = some (.lst xs)) : deepOf k s n = some (.lst xs) := by
  unfold deepOf treeOf
  simp only [h]
theorem deep_dct {k n : Nat} {s : S} {kvs : List (DV × DV)} (h : s[n]? = some (.dct kvs)) (hp : plainKv kvs = true) : deepOf k s n = some (.dct kvs) := by
  unfold deepOf
  simp only [h, deepKv_plain hp]
  rfl
theorem get0 {s : S} {x y : Cell} : (s ++ [x, y])[s.length]? = some x := by simp
theorem get1 {s : S} {x y : Cell} : (s ++ [x, y])[s.length + 1]? = some y := by simp
theorem set0 {s : S} {x y v : Cell} : (s ++ [x, y]).set s.length v = s ++ [v, y] := by simp
theorem set1 {s : S} {x y v : Cell} : (s ++ [x, y]).set (s.length + 1) v = s ++ [x, v] := by
  rw [List.set_append_right _ _ (by omega)]
  simp
def cShuf (tk : Nat) : List St := [.par 2 3 (.new (.prim .list (.cons (.var 1) .nil))) (.new (.lst .nil)), .whl (.cmp .ne (.var 2) (.lst .nil)) [.app (.var 3) (.popI (.var 2) (.callK tk (.cons (.var 0) (.cons (.prim .len (.cons (.var 2) .nil)) .nil)) .nil [.inl 0, .inl 1]))], .ret (.var 3)]
def cShufB (tk : Nat) : List St := [.app (.var 3) (.popI (.var 2) (.callK tk (.cons (.var 0) (.cons (.prim .len (.cons (.var 2) .nil)) .nil)) .nil [.inl 0, .inl 1]))]
theorem erase_perm : ∀ {xs : List DV} {m : Nat} {x : DV}, xs[m]? = some x → (x :: xs.eraseIdx m).Perm xs
  | [], m, x, h => by simp at h
  | a :: r, 0, x, h => by
    obtain rfl : a = x := by simpa using h
    exact List.Perm.refl _
  | a :: r, m + 1, x, h => by
    have ih := erase_perm (xs := r) (m := m) (x := x) (by simpa using h)
    exact (List.Perm.swap a x _).trans (ih.cons a)
section
variable {P : Pg} {keep : Nat → Bool} {call : Nat → List DV → M DV} {rest : List Cell}
theorem shuf_loop {tk : Nat} (ht : ∀ rest', TakeOk call tk rest') {a1 : Option DV} : ∀ {k : Nat} {l f : List DV} {b : Nat} {s0 : S}, l.length = k → f.length + k < 1000000 → DS b rest s0 → b + k < 1099511627000 → l.all isTree = true →
    ∃ f' s', whileM (evB P call (.cmp .ne (.var 2) (.lst .nil))) (exSs P call (cShufB tk)) [some (.loc 1), a1, some (.loc s0.length), some (.loc (s0.length + 1))] (s0 ++ [.lst l, .lst f]) = .ok (.nxt [some (.loc 1), a1, some (.loc s0.length), some (.loc (s0.length + 1))]) (s' ++ [.lst [], .lst f']) ∧ f'.Perm (f ++ l) ∧ DS (b + k) rest s' ∧ s'.length = s0.length
  | 0, l, f, b, s0, hk, _, hs, _, _ => by
    obtain rfl : l = [] := by simpa using hk
    refine ⟨f, s0, ?_, by simp, hs, rfl⟩
    have hn := ne_nilT (d := .loc s0.length) (xs := []) (s := s0 ++ [.lst [], .lst f]) (by unfold treeOf; simp only [get0])
    rw [whileM_eq]
    simp [hn]
  | k + 1, l, f, b, s0, hk, hfl, hs, hb, hlt => by
    have hl0 : 0 < l.length := by omega
    have hn := ne_nilT (d := .loc s0.length) (xs := l) (s := s0 ++ [.lst l, .lst f]) (by unfold treeOf; simp only [get0])
    have hne : l.isEmpty = false := by cases l <;> simp_all
    rw [hne] at hn
    obtain ⟨v, s1, e1, v0, v1, d1⟩ := ht (rest ++ [.lst l, .lst f]) b (s0 ++ [.lst l, .lst f]) l.length (DS_app2 hs rfl rfl) (by omega) (by omega) (by omega)
    obtain ⟨s2, rfl, d2⟩ := DS_split d1
    have l2 : s2.length = s0.length := by rw [DS_len d2, DS_len hs]
    have hvl : v.toNat < l.length := by omega
    obtain ⟨x, hx⟩ : ∃ x, l[v.toNat]? = some x := ⟨_, List.getElem?_eq_getElem hvl⟩
    have hxt : isTree x = true := List.all_eq_true.mp hlt x (List.mem_of_getElem? hx)
    have pn : popNth (.loc s0.length) (.int v) (s2 ++ [.lst l, .lst f]) = .ok x (s2 ++ [.lst (l.eraseIdx v.toNat), .lst f]) := by
      unfold popNth
      rw [← l2]
      simp only [get0, ixOf_nat v0 v1, hx]
      rw [if_pos (by unfold LIM; omega), set0]
    have ap : appAt (.loc (s0.length + 1)) x (s2 ++ [.lst (l.eraseIdx v.toNat), .lst f]) = .ok () (s2 ++ [.lst (l.eraseIdx v.toNat), .lst (f ++ [x])]) := by
      unfold appAt
      rw [← l2]
      simp only [get1]
      rw [if_pos (by unfold LIM; omega), set1]
    have hl3 : listOf (s0 ++ [Cell.lst l, .lst f]) (.loc (s0.length + 1)) = some f := by
      unfold listOf
      simp only [get1]
    have hl2 : listOf (s0 ++ [Cell.lst l, .lst f]) (.loc s0.length) = some l := by
      unfold listOf
      simp only [get0]
    have ln : semP .len [.loc s0.length] (s0 ++ [.lst l, .lst f]) = some (.int l.length) := by
      show (match seqOf (s0 ++ [Cell.lst l, .lst f]) (.loc s0.length) with
        | some xs => some (DV.int xs.length)
        | none => (dictOf (s0 ++ [Cell.lst l, .lst f]) (.loc s0.length)).map fun (kvs : List (DV × DV)) => DV.int kvs.length) = _
      have : seqOf (s0 ++ [Cell.lst l, .lst f]) (.loc s0.length) = some l := by
        unfold seqOf
        first | exact hl2 | simp only [get0]
      rw [this]
    have le : (l.eraseIdx v.toNat).length = k := by rw [List.length_eraseIdx_of_lt hvl]; omega
    obtain ⟨f', s', q1, q2, q3, q4⟩ := shuf_loop ht (a1 := a1) (k := k) (l := l.eraseIdx v.toNat) (f := f ++ [x]) (b := b + 1) (s0 := s2) le (by simp; omega) d2 (by omega) (List.all_eq_true.mpr fun y hy => List.all_eq_true.mp hlt y (List.mem_of_mem_eraseIdx hy))
    rw [l2] at q1
    refine ⟨f', s', ?_, ?_, by rw [show b + (k + 1) = b + 1 + k by omega]; exact q3, by omega⟩
    · rw [whileM_eq]
      simp [hn, cShufB, permute, hl3, hl2, ln, e1, pn, embed_t _ hxt, ap]
      exact q1
    · refine q2.trans ?_
      rw [List.append_assoc]
      exact List.Perm.append_left f (erase_perm hx)
theorem shuf_run {fn tk b : Nat} {xs : List DV} {s : S} (hf : P.fn fn = some ⟨4, cShuf tk⟩) (hk : keep fn = false) (ht : ∀ rest', TakeOk call tk rest') (hs : DS b rest s) (hb : b + xs.length < 1099511627000) (hl : xs.length < 1000000) (hx : xs.all isTree = true) :
    ∃ zs s', runFn P keep call fn [.loc 1, .lst xs] s = .ok (.lst zs) s' ∧ zs.Perm xs ∧ DS (b + xs.length) rest s' := by
  obtain ⟨f', s', q1, q2, q3, q4⟩ := shuf_loop (P := P) ht (a1 := some (.lst xs)) (rest := rest) (k := xs.length) (l := xs) (f := []) rfl (by simpa using hl) hs hb hx
  refine ⟨f', s', ?_, by simpa using q2, q3⟩
  rw [runFn_eq hf (by simp), hk]
  have e : cShuf tk = [.par 2 3 (.new (.prim .list (.cons (.var 1) .nil))) (.new (.lst .nil)), .whl (.cmp .ne (.var 2) (.lst .nil)) (cShufB tk), .ret (.var 3)] := rfl
  rw [e]
  have ls := list_seq (d := .lst xs) rfl rfl s
  simp only [itemsD] at ls
  have ap : s ++ [Cell.lst xs] ++ [Cell.lst []] = s ++ [.lst xs, .lst []] := by simp
  have tr : deepOf s.length (s' ++ [Cell.lst [], .lst f']) (s.length + 1) = some (.lst f') := deep_lst (by rw [← q4]; exact get1)
  have lv := leave_loc (more := [.lst [], .lst f']) hs q3 (n := s.length + 1) (by omega) tr
  simp [ls, q1, lv]
end
end WS.I
set_option maxRecDepth 100000
/-! E10: different drawn names. -/
namespace WS.I
open PySem
/-! ### texts -/
theorem cps_app (a b : Str) : (a ++ b).cps.toList = a.cps.toList ++ b.cps.toList := by
  show (a.cps ++ b.cps).toList = _
  simp
theorem len_app (a b : Str) : (a ++ b).length = a.length + b.length := by
  show (a.cps ++ b.cps).size = a.cps.size + b.cps.size
  simp
theorem cps_join : ∀ ss : List Str, (Str.join "" ss).cps.toList = (ss.map (·.cps.toList)).flatten
  | [] => rfl
  | [x] => by simp [Str.join]
  | x :: y :: r => by
    have ih := cps_join (y :: r)
    show (x ++ ("" : Str) ++ Str.join "" (y :: r)).cps.toList = _
    rw [cps_app, cps_app, ih]
    have e : ("" : Str).cps.toList = [] := by decide +kernel
    rw [e]
    simp
def sgn (c : Nat) : Str := ⟨#[c]⟩
theorem str_ext {a b : Str} (h : a.cps.toList = b.cps.toList) : a = b := by
  cases a
  cases b
  congr
  exact Array.toList_inj.mp h
/-- no two of a list's items alike, all in another: not longer -/
theorem nodup_len {α : Type} [DecidableEq α] : ∀ {xs ys : List α}, xs.Nodup → (∀ x ∈ xs, x ∈ ys) → xs.length ≤ ys.length
  | [], ys, _, _ => by simp
  | x :: r, ys, h, hs => by
    rw [List.nodup_cons] at h
    have hx := hs x (by simp)
    have ih := nodup_len (xs := r) (ys := ys.erase x) h.2 (fun y hy => by
      have hne : y ≠ x := fun e => h.1 (by rw [← e]; exact hy)
      exact (List.mem_erase_of_ne hne).mpr (hs y (by simp [hy])))
    rw [List.length_erase_of_mem hx] at ih
    have : 0 < ys.length := List.length_pos_of_mem hx
    simp only [List.length_cons]
    omega
def LET : List Nat := LETT.cps.toList
theorem nodup_map' {α β : Type} {f : α → β} : ∀ {l : List α}, (∀ x ∈ l, ∀ y ∈ l, f x = f y → x = y) → l.Nodup → (l.map f).Nodup
  | [], _, _ => List.Pairwise.nil
  | a :: r, hf, h => by
    rw [List.nodup_cons] at h
    rw [List.map_cons, List.nodup_cons]
    refine ⟨fun hm => ?_, nodup_map' (fun x hx y hy => hf x (by simp [hx]) y (by simp [hy])) h.2⟩
    obtain ⟨y, hy, e⟩ := List.mem_map.mp hm
    have := hf y (by simp [hy]) a (by simp) e
    subst this
    exact h.1 hy
/-- the words near to one -/
def w5 (x : Str) : Str := ⟨(x.cps.toList.take 5).toArray⟩
def nearS (x : Str) : List Str := x :: LET.map fun c => w5 x ++ sgn c
theorem near_ok {x : Str} (h : nameB (.str x) = true) : ∀ y ∈ nearS x, nameB (.str y) = true := by
  intro y hy
  simp only [nearS, List.mem_cons, List.mem_map] at hy
  rcases hy with rfl | ⟨c, hc, rfl⟩
  · exact h
  · simp only [nameB, Bool.and_eq_true, decide_eq_true_eq] at h ⊢
    obtain ⟨⟨h1, h2⟩, h3⟩ := h
    have e : (w5 x ++ sgn c).cps.toList = x.cps.toList.take 5 ++ [c] := by
      rw [cps_app]
      simp [w5, sgn]
    have l : (w5 x ++ sgn c).length = (x.cps.toList.take 5).length + 1 := by
      rw [len_app]
      simp [w5, sgn, Str.length]
    refine ⟨⟨by rw [l]; omega, by rw [l]; have := List.length_take_le 5 x.cps.toList; omega⟩, ?_⟩
    rw [e, List.all_append]
    simp only [List.all_cons, List.all_nil, Bool.and_true, Bool.and_eq_true]
    refine ⟨?_, by simp only [letB, decide_eq_true_eq]; exact hc⟩
    rw [List.all_eq_true] at h3 ⊢
    intro d hd
    exact h3 d (List.mem_of_mem_take hd)
theorem near_free {x : Str} {found : List Str} (h : found.length < 26) : ∃ y ∈ nearS x, y ∉ found := by
  apply Classical.byContradiction
  intro hn
  have hall : ∀ y ∈ nearS x, y ∈ found := fun y hy => Classical.byContradiction fun z => hn ⟨y, hy, z⟩
  have nd : (LET.map fun c => w5 x ++ sgn c).Nodup := by
    refine nodup_map' (fun a _ b _ e => ?_) (by decide +kernel)
    have := congrArg (fun s : Str => s.cps.toList) e
    simp only [cps_app] at this
    have q := List.append_cancel_left this
    simpa [sgn] using q
  have := nodup_len nd (fun y hy => hall y (by simp only [nearS, List.mem_cons]; exact .inr hy))
  rw [List.length_map] at this
  have e : LET.length = 26 := by decide +kernel
  omega
section
variable {P : Pg} {keep : Nat → Bool} {call : Nat → List DV → M DV} {rest : List Cell}
/-- a drawn sign -/
theorem pick_str {f tk b : Nat} {x : Str} {s : S} (hf : P.fn f = some ⟨2, cPick tk⟩) (hk : keep f = false) (ht : TakeOk call tk rest) (hs : DS b rest s) (hb : b < 1099511627000) (h0 : 0 < x.length) (h1 : x.length < 1000000) :
    ∃ c s', runFn P keep call f [.loc 1, .str x] s = .ok (.str (sgn c)) s' ∧ c ∈ x.cps.toList ∧ DS (b + 1) rest s' := by
  obtain ⟨v, s', e, v0, v1, hs'⟩ := ht b s x.length hs (by omega) (by omega) hb
  have hl : v.toNat < x.cps.size := by have : x.length = x.cps.size := rfl; omega
  have hg : x.cps[v.toNat]? = some x.cps[v.toNat] := Array.getElem?_eq_getElem hl
  refine ⟨x.cps[v.toNat], s', ?_, by simp, hs'⟩
  rw [runFn_eq hf (by simp), hk]
  have ln := len_str (s := s) (x := x) (by unfold LIM; omega)
  have su : semSub (.str x) (.int v) s' = some (.str (sgn x.cps[v.toNat])) := by
    show (if x.length ≤ LIM then ((ixOf x.cps.size v).bind fun j => x.cps[j]?).map fun c => DV.str ⟨#[c]⟩ else none) = _
    rw [if_pos (by unfold LIM; omega), ixOf_nat v0 (by have : x.length = x.cps.size := rfl; omega)]
    simp [hg, sgn]
  simp [cPick, permute, ln, e, su, leave_DS hs hs' (d := .str (sgn x.cps[v.toNat])) rfl]
end
def someW : List Str := ["a", "b", "ab", "aa", "house", "handed", "rule", "zzzzzz", "fails", "calls"]
def eWord (pk tk : Nat) : E := .join (.cst (.str "")) (.comp (.one 7) (.callK pk (.cons (.var 0) (.cons (.var 2) .nil)) .nil [.inl 0, .inl 1]) (.range (.op2 .add (.cst (.int 1)) (.callK tk (.cons (.var 0) (.cons (.cst (.int 3)) .nil)) .nil [.inl 0, .inl 1]))) (.cst (.bl true)))
def eNear : E := .op2 .add (.lst (.cons (.var 6) .nil)) (.comp (.one 9) (.op2 .add (.slc (.var 6) (.cst .non) (.cst (.int 5)) false true) (.var 9)) (.val (.var 2)) (.cst (.bl true)))
def eFree : E := .sub (.comp (.one 10) (.var 10) (.val (.var 8)) (.cmp .nin (.var 10) (.var 3))) (.cst (.int 0))
def nmTurn (pk tk : Nat) : List St := [.set 6 (.callK pk (.cons (.var 0) (.cons (.var 4) .nil)) .nil [.inl 0, .inl 1]), .ife (.cmp .eq (.callK tk (.cons (.var 0) (.cons (.cst (.int 2)) .nil)) .nil [.inl 0, .inl 1]) (.cst (.int 0))) [.set 6 (eWord pk tk)] [], .set 8 eNear, .app (.var 3) eFree]
def cLawNames (pk tk : Nat) : List St := [.par 2 3 (.cst (.str "abcdefghijklmnopqrstuvwxyz")) (.new (.lst .nil)), .set 4 (.lst (.cons (.cst (.str "a")) (.cons (.cst (.str "b")) (.cons (.cst (.str "ab")) (.cons (.cst (.str "aa")) (.cons (.cst (.str "house")) (.cons (.cst (.str "handed")) (.cons (.cst (.str "rule")) (.cons (.cst (.str "zzzzzz")) (.cons (.cst (.str "fails")) (.cons (.cst (.str "calls")) .nil))))))))))), .forS (.one 5) (.range (.var 1)) (nmTurn pk tk), .ret (.var 3)]
/-- what the draws promise at a level -/
structure Draws (call : Nat → List DV → M DV) (pk tk : Nat) : Prop where
  take : ∀ rest, TakeOk call tk rest
  pick : ∀ (rest : List Cell) (b : Nat) (s : S) (xs : List DV), DS b rest s → b < 1099511627000 → 0 < xs.length → xs.length < 1000000 → xs.all isTree = true → ∃ x s', call pk [.loc 1, .lst xs] s = .ok x s' ∧ x ∈ xs ∧ isTree x = true ∧ DS (b + 1) rest s'
  picks : ∀ (rest : List Cell) (b : Nat) (s : S) (x : Str), DS b rest s → b < 1099511627000 → 0 < x.length → x.length < 1000000 → ∃ c s', call pk [.loc 1, .str x] s = .ok (.str (sgn c)) s' ∧ c ∈ x.cps.toList ∧ DS (b + 1) rest s'
section
variable {P : Pg} {keep : Nat → Bool} {call : Nat → List DV → M DV} {pk tk : Nat} {rest : List Cell}
theorem word_run (D : Draws call pk tk) {b : Nat} {s : S} {a1 a3 a4 a5 a6 a7 a8 a9 a10 : Option DV} (hs : DS b rest s) (hb : b + 10 < 1099511627000) :
    ∃ x s', ev P call (eWord pk tk) [some (.loc 1), a1, some (.str LETT), a3, a4, a5, a6, a7, a8, a9, a10] s = .ok (.str x) s' ∧ nameB (.str x) = true ∧ DS (b + 4) rest s' := by
  obtain ⟨v, s1, e1, v0, v1, d1⟩ := D.take rest b s 3 hs (by omega) (by omega) (by omega)
  have hr := r_range (P := P) (call := call) (env := [some (.loc 1), a1, some (.str LETT), a3, a4, a5, a6, a7, a8, a9, a10]) (s := s) (s1 := s1) (j := 1 + v) (e := .op2 .add (.cst (.int 1)) (.callK tk (.cons (.var 0) (.cons (.cst (.int 3)) .nil)) .nil [.inl 0, .inl 1])) (by simp [permute, e1]) (by omega) (by omega)
  have hlen : (rangeL 0 (1 + v)).length = (1 + v).toNat := by simp [rangeL]
  obtain ⟨ys, s2, m1, m2, m3, m4⟩ := mapIf_draw (c := tgC (.one 7) (evB P call (.cst (.bl true))) [some (.loc 1), a1, some (.str LETT), a3, a4, a5, a6, a7, a8, a9, a10]) (f := tgC (.one 7) (ev P call (.callK pk (.cons (.var 0) (.cons (.var 2) .nil)) .nil [.inl 0, .inl 1])) [some (.loc 1), a1, some (.str LETT), a3, a4, a5, a6, a7, a8, a9, a10]) (p := fun d => match d with | .str x => decide (x.cps.toList.length = 1) && x.cps.toList.all letB | _ => false) (k := 1) (rest := rest) (fun x s => by simp) (xs := rangeL 0 (1 + v)) d1 (by
    intro x hx b' s' hb' hd'
    rw [hlen] at hb'
    obtain ⟨c, s3, p1, p2, p3⟩ := D.picks rest b' s' LETT hd' (by omega) (by decide +kernel) (by decide +kernel)
    refine ⟨.str (sgn c), s3, by simp [permute, p1], ?_, rfl, p3⟩
    simp [sgn, letB, p2])
  obtain ⟨ss, rfl⟩ : ∃ ss : List Str, ys = ss.map .str := by
    refine ⟨strsD ys, ?_⟩
    clear m1 m2
    induction ys with
    | nil => rfl
    | cons y r ih =>
      simp only [List.all_cons, Bool.and_eq_true] at m3
      cases y <;> first | (simp at m3; done) | skip
      rename_i x
      show _ = DV.str x :: (strsD r).map .str
      rw [← ih m3.2]
  have hss : ∀ x ∈ ss, x.cps.toList.length = 1 ∧ x.cps.toList.all letB = true := by
    intro x hx
    have := List.all_eq_true.mp m3 (.str x) (List.mem_map.mpr ⟨x, hx, rfl⟩)
    simpa using this
  have hl : ss.length = (1 + v).toNat := by rw [← hlen, ← m2, List.length_map]
  have sum1 : ∀ {ss : List Str}, (∀ x ∈ ss, x.cps.toList.length = 1 ∧ x.cps.toList.all letB = true) → (ss.map (·.length)).sum = ss.length ∧ (ss.map (·.cps.toList)).flatten.length = ss.length ∧ (ss.map (·.cps.toList)).flatten.all letB = true := by
    intro ss
    induction ss with
    | nil => intro _; exact ⟨rfl, rfl, rfl⟩
    | cons x r ih =>
      intro h
      obtain ⟨i1, i2, i3⟩ := ih fun y hy => h y (by simp [hy])
      obtain ⟨h1, h2⟩ := h x (by simp)
      have hx : x.length = 1 := by rw [← h1]; simp [Str.length]
      refine ⟨by simp [hx, i1]; omega, by simp only [List.map_cons, List.flatten_cons, List.length_append, List.length_cons, h1, i2]; omega, ?_⟩
      simp only [List.map_cons, List.flatten_cons, List.all_append, h2, i3, Bool.and_self]
  obtain ⟨q1, q2, q3⟩ := sum1 hss
  refine ⟨Str.join "" ss, s2, ?_, ?_, DS_mono m4 (by rw [hlen]; omega)⟩
  · have jn : semJoin (.str "") (.lst (ss.map .str)) s2 = some (.str (Str.join "" ss)) := by
      have so : strsOf (ss.map DV.str) = some ss := by
        clear hss sum1 q1 q2 q3 hl m1 m2 m3
        induction ss with
        | nil => rfl
        | cons x r ih => simp [strsOf, ih]
      show ((some (ss.map DV.str)).bind fun xs => (strsOf xs).bind fun ss => if (ss.map (·.length)).sum + ss.length * ("" : Str).length ≤ 16777216 then some (DV.str (Str.join "" ss)) else none) = _
      simp only [Option.bind_some, so, q1]
      have e0 : ("" : Str).length = 0 := by decide +kernel
      rw [e0, if_pos (by omega)]
    simp only [eWord, e_join, e_cst, bind_ok, e_comp, hr, Sq_ok_fun, m1, noErr_ok, jn, ofO_some]
  · have e : (Str.join "" ss).cps.toList = (ss.map (·.cps.toList)).flatten := cps_join ss
    have l : (Str.join "" ss).length = ss.length := by
      rw [← q2, ← e]
      simp [Str.length]
    simp only [nameB, Bool.and_eq_true, decide_eq_true_eq]
    refine ⟨⟨by rw [l]; omega, by rw [l]; omega⟩, by rw [e]; exact q3⟩
theorem near_run {x : Str} {s : S} {a0 a1 a3 a4 a5 a7 a8 a9 a10 : Option DV} (h : nameB (.str x) = true) : ev P call eNear [a0, a1, some (.str LETT), a3, a4, a5, some (.str x), a7, a8, a9, a10] s = .ok (.lst ((nearS x).map .str)) s := by
  have hx : x.length ≤ 6 := by
    simp only [nameB, Bool.and_eq_true, decide_eq_true_eq] at h
    omega
  have hsl : ∀ s : S, semSlc (.str x) none (some 5) s = some (.str (w5 x)) := by
    intro s
    show (if x.length ≤ LIM then some (DV.str ⟨(cut x.cps.toList none (some 5)).toArray⟩) else none) = _
    rw [if_pos (by unfold LIM; omega)]
    congr 3
    unfold cut cutIx
    simp only [List.drop_zero, Nat.sub_zero]
    rw [if_neg (by omega)]
    congr 1
    rw [List.take_eq_take_iff]
    omega
  have wl : (w5 x).length ≤ 5 := by
    show (x.cps.toList.take 5).toArray.size ≤ 5
    simp
    omega
  have hm : mapIf (fun _ => True) (tgC (.one 9) (evB P call (.cst (.bl true))) [a0, a1, some (.str LETT), a3, a4, a5, some (.str x), a7, a8, a9, a10]) (tgC (.one 9) (ev P call (.op2 .add (.slc (.var 6) (.cst .non) (.cst (.int 5)) false true) (.var 9))) [a0, a1, some (.str LETT), a3, a4, a5, some (.str x), a7, a8, a9, a10]) (signs LETT) s = .ok ((LET.map fun c => w5 x ++ sgn c).map .str) s := by
    rw [mapIf_pure (p := fun _ => true) (g := fun d => match d with | .str y => .str (w5 x ++ y) | _ => .non)]
    · rw [List.filter_eq_self.mpr (by simp)]
      simp only [signs, List.map_map, LET]
      rfl
    · intro y hy; simp
    · intro y hy _
      obtain ⟨c, _, rfl⟩ := List.mem_map.mp hy
      have ad : sem2 .add (.str (w5 x)) (.str ⟨#[c]⟩) s = some (.str (w5 x ++ ⟨#[c]⟩)) := by
        show (if (w5 x).length + (⟨#[c]⟩ : Str).length ≤ LIM then some (DV.str (w5 x ++ ⟨#[c]⟩)) else none) = _
        rw [if_pos]
        have : (⟨#[c]⟩ : Str).length = 1 := rfl
        unfold LIM
        omega
      refine ⟨by simp [partOf, hsl, ad], fun k z => by cases z⟩
  have ll : LETT.length ≤ LIM := by decide +kernel
  have ad := s2_addL (xs := [.str x]) (ys := (LET.map fun c => w5 x ++ sgn c).map .str) s (by
    have e : LET.length = 26 := by decide +kernel
    simp [e])
  simp only [eNear, e_op2, e_lst, es_cons, es_nil, e_var, slot_ok, slot_succ, bind_ok, eA_cons, em_str, embedAll_nil, e_comp, r_val, w_str s ll, Sq_ok_fun, hm, noErr_ok, ad, ofO_some]
  rfl
theorem free_run {x : Str} {found : List Str} {s : S} {n : Nat} {a0 a1 a2 a4 a5 a6 a7 a9 a10 : Option DV} (hl : listOf s (.loc n) = some (found.map .str)) (hf : found.length < 26) : ∃ y, ev P call eFree [a0, a1, a2, some (.loc n), a4, a5, a6, a7, some (.lst ((nearS x).map .str)), a9, a10] s = .ok (.str y) s ∧ y ∈ nearS x ∧ y ∉ found := by
  have sq : seqOf s (.loc n) = some (found.map .str) := by unfold seqOf; exact hl
  have ni : ∀ y : Str, semC .nin (.str y) (.loc n) s = some (!decide (y ∈ found)) := by
    intro y
    show (inSeq (.str y) (.loc n) s).map (!·) = _
    unfold inSeq
    rw [sq]
    have fl : (found.map DV.str).all flatD = true := by rw [List.all_map, List.all_eq_true]; intro _ _; rfl
    have an : ((found.map DV.str).any fun z => deq z (.str y)) = decide (y ∈ found) := by
      rw [List.any_map, Bool.eq_iff_iff, List.any_eq_true, decide_eq_true_eq]
      constructor
      · rintro ⟨z, h1, h2⟩
        simp only [Function.comp, deq, beq_iff_eq] at h2
        rw [← h2]; exact h1
      · intro h
        exact ⟨y, h, by simp [deq]⟩
    simp [flatD, fl, an]
  have hm : mapIf (fun _ => True) (tgC (.one 10) (evB P call (.cmp .nin (.var 10) (.var 3))) [a0, a1, a2, some (.loc n), a4, a5, a6, a7, some (.lst ((nearS x).map .str)), a9, a10]) (tgC (.one 10) (ev P call (.var 10)) [a0, a1, a2, some (.loc n), a4, a5, a6, a7, some (.lst ((nearS x).map .str)), a9, a10]) ((nearS x).map .str) s = .ok (((nearS x).filter fun y => !decide (y ∈ found)).map .str) s := by
    rw [mapIf_pure (p := fun d => match d with | .str y => !decide (y ∈ found) | _ => false) (g := id)]
    · rw [List.filter_map, List.map_id]
      rfl
    · intro y hy
      obtain ⟨z, _, rfl⟩ := List.mem_map.mp hy
      simp [ni]
    · intro y hy _
      obtain ⟨z, _, rfl⟩ := List.mem_map.mp hy
      exact ⟨by simp, fun k z => by cases z⟩
  obtain ⟨y0, h1, h2⟩ := near_free (x := x) hf
  have hmem : y0 ∈ (nearS x).filter fun y => !decide (y ∈ found) := List.mem_filter.mpr ⟨h1, by simp [h2]⟩
  generalize hF : ((nearS x).filter fun y => !decide (y ∈ found)) = fl at hm hmem
  cases fl with
  | nil => cases hmem
  | cons y r =>
    have hy : y ∈ (nearS x).filter fun y => !decide (y ∈ found) := by rw [hF]; simp
    obtain ⟨g1, g2⟩ := List.mem_filter.mp hy
    refine ⟨y, ?_, g1, by simpa using g2⟩
    have su : semSub (.lst ((y :: r).map .str)) (.int 0) s = some (.str y) := by rw [sub_lst (by omega) (by simp <;> omega)]; rfl
    simp only [eFree, e_sub, e_comp, r_val, e_var, slot_ok, slot_succ, bind_ok, w_lst, Sq_ok_fun, hm, noErr_ok, e_cst, su, ofO_some]
/-- one name more -/
theorem name_turn (D : Draws call pk tk) {b : Nat} {s : S} {found : List Str} {a1 a5 a6 a7 a8 a9 a10 : Option DV} (hs : DS b rest s) (hb : b + 20 < 1099511627000) (hf : found.length < 26) (hn : found.Nodup) (ho : ∀ x ∈ found, nameB (.str x) = true) :
    ∃ y s' a6' a8', exSs P call (nmTurn pk tk) [some (.loc 1), a1, some (.str LETT), some (.loc s.length), some (.lst (someW.map .str)), a5, a6, a7, a8, a9, a10] (s ++ [.lst (found.map .str)]) = .ok (.nxt [some (.loc 1), a1, some (.str LETT), some (.loc s.length), some (.lst (someW.map .str)), a5, a6', a7, a8', a9, a10]) (s' ++ [.lst ((found ++ [y]).map .str)]) ∧ (found ++ [y]).Nodup ∧ nameB (.str y) = true ∧ DS (b + 6) rest s' ∧ s'.length = s.length := by
  have d0 := DS_app (c := .lst (found.map .str)) hs rfl
  obtain ⟨w, s1, q1, m1, t1, d1⟩ := D.pick (rest ++ [.lst (found.map .str)]) b _ (someW.map .str) d0 (by omega) (by simp [someW]) (by simp [someW]) rfl
  obtain ⟨x0, hx0, rfl⟩ := List.mem_map.mp m1
  have nx0 : nameB (.str x0) = true := by
    have : ∀ x ∈ someW, nameB (.str x) = true := by decide +kernel
    exact this x0 hx0
  obtain ⟨v, s2, q2, v0, v1, d2⟩ := D.take (rest ++ [.lst (found.map .str)]) (b + 1) s1 2 d1 (by omega) (by omega) (by omega)
  have key : ∀ (x : Str) (s3 : S), nameB (.str x) = true → DS (b + 6) (rest ++ [.lst (found.map .str)]) s3 → ∃ y s' a8', exSs P call [.set 8 eNear, .app (.var 3) eFree] [some (.loc 1), a1, some (.str LETT), some (.loc s.length), some (.lst (someW.map .str)), a5, some (.str x), a7, a8, a9, a10] s3 = .ok (.nxt [some (.loc 1), a1, some (.str LETT), some (.loc s.length), some (.lst (someW.map .str)), a5, some (.str x), a7, a8', a9, a10]) (s' ++ [.lst ((found ++ [y]).map .str)]) ∧ (found ++ [y]).Nodup ∧ nameB (.str y) = true ∧ DS (b + 6) rest s' ∧ s'.length = s.length := by
    intro x s3 nx d3
    obtain ⟨s4, rfl, d4⟩ := DS_split d3
    have l4 : s4.length = s.length := by rw [DS_len d4, DS_len hs]
    have nr := near_run (P := P) (call := call) (s := s4 ++ [.lst (found.map .str)]) (a0 := some (.loc 1)) (a1 := a1) (a3 := some (.loc s.length)) (a4 := some (.lst (someW.map .str))) (a5 := a5) (a7 := a7) (a8 := a8) (a9 := a9) (a10 := a10) nx
    have lo : listOf (s4 ++ [Cell.lst (found.map .str)]) (.loc s.length) = some (found.map .str) := by rw [← l4]; exact listOf_app
    obtain ⟨y, fr, hy, hny⟩ := free_run (P := P) (call := call) (x := x) (a0 := some (.loc 1)) (a1 := a1) (a2 := some (.str LETT)) (a4 := some (.lst (someW.map .str))) (a5 := a5) (a6 := some (.str x)) (a7 := a7) (a9 := a9) (a10 := a10) lo hf
    have ap := appAt_app (s := s4) (xs := found.map .str) (v := .str y) (by simp; omega)
    rw [l4] at ap
    refine ⟨y, s4, some (.lst ((nearS x).map .str)), ?_, ?_, near_ok nx y hy, d4, l4⟩
    · rw [List.map_append]
      simp only [x_cons, x_set, nr, bind_ok, List.set_cons_succ, List.set_cons_zero, t_nxt, x_app, e_var, slot_ok, slot_succ, lo, Option.isSome_some, if_true, fr, em_str, ap, x_nil, List.map_cons, List.map_nil]
    · rw [List.nodup_append]
      exact ⟨hn, by simp, fun a ha b hb => by rw [List.mem_singleton.mp hb]; exact fun e => hny (by rw [← e]; exact ha)⟩
  by_cases hv : v = 0
  · subst hv
    obtain ⟨x, s3, q3, nx, d3⟩ := word_run (P := P) D (a1 := a1) (a3 := some (.loc s.length)) (a4 := some (.lst (someW.map .str))) (a5 := a5) (a6 := some (.str x0)) (a7 := a7) (a8 := a8) (a9 := a9) (a10 := a10) d2 (by omega)
    obtain ⟨y, s', a8', k1, k2, k3, k4, k5⟩ := key x s3 nx (DS_mono d3 (by omega))
    refine ⟨y, s', some (.str x), a8', ?_, k2, k3, k4, k5⟩
    simp only [nmTurn, x_cons (r := _ :: _), x_set, e_callK, es_cons, es_nil, e_var, slot_ok, slot_succ, bind_ok, permute, List.cons_append, List.nil_append, List.append_nil, List.getElem?_cons_zero, List.getElem?_cons_succ, ofO_some, q1, List.set_cons_succ, List.set_cons_zero, t_nxt, x_if, e_cmp, e_cst, q2, sC_eqi, Option.map_some, show ((0 : Int) == 0) = true from rfl, asB_ok, if_true, x_cons (r := []), q3, x_nil] at k1 ⊢
    exact k1
  · have hv2 : (v == 0) = false := by simpa using hv
    obtain ⟨y, s', a8', k1, k2, k3, k4, k5⟩ := key x0 s2 nx0 (DS_mono d2 (by omega))
    refine ⟨y, s', some (.str x0), a8', ?_, k2, k3, k4, k5⟩
    simp only [nmTurn, x_cons (r := _ :: _), x_set, e_callK, es_cons, es_nil, e_var, slot_ok, slot_succ, bind_ok, permute, List.cons_append, List.nil_append, List.append_nil, List.getElem?_cons_zero, List.getElem?_cons_succ, ofO_some, q1, List.set_cons_succ, List.set_cons_zero, t_nxt, x_if, e_cmp, e_cst, q2, sC_eqi, Option.map_some, hv2, asB_ok, if_false, Bool.false_eq_true, x_nil] at k1 ⊢
    exact k1
theorem lawNames_run {f : Nat} (hf : P.fn f = some ⟨11, cLawNames pk tk⟩) (hk : keep f = false) (D : Draws call pk tk) {b m : Nat} {s : S} (hs : DS b rest s) (hb : b + 1000 < 1099511627000) (hm : m < 26) :
    ∃ (ss : List Str) (s' : S), runFn P keep call f [.loc 1, .int m] s = .ok (.lst (ss.map .str)) s' ∧ ss.length = m ∧ ss.Nodup ∧ (∀ x ∈ ss, nameB (.str x) = true) ∧ DS (b + 6 * m) rest s' := by
  have hlen : (rangeL 0 (m : Int)).length = m := by simp [rangeL]
  obtain ⟨E, sE, L, ss, s4, g5, g6, g7, g8, g9, g10, rfl, rfl, h1, h2, h3, d4, l4⟩ := forL_inv (f := tgB (.one 5) (exSs P call (nmTurn pk tk))) (I := fun i env st => ∃ (ss : List Str) (s4 : S) (g5 g6 g7 g8 g9 g10 : Option DV), env = [some (.loc 1), some (.int m), some (.str LETT), some (.loc s.length), some (.lst (someW.map .str)), g5, g6, g7, g8, g9, g10] ∧ st = s4 ++ [.lst (ss.map .str)] ∧ ss.length = i ∧ ss.Nodup ∧ (∀ x ∈ ss, nameB (.str x) = true) ∧ DS (b + 6 * i) rest s4 ∧ s4.length = s.length) (xs := rangeL 0 (m : Int)) (i := 0) (s := s ++ [.lst []]) (env := [some (.loc 1), some (.int m), some (.str LETT), some (.loc s.length), some (.lst (someW.map .str)), none, none, none, none, none, none])
    ⟨[], s, none, none, none, none, none, none, rfl, rfl, rfl, List.nodup_nil, by simp, hs, rfl⟩ (by
      rintro j y env st hy ⟨ss, s4, g5, g6, g7, g8, g9, g10, rfl, rfl, h1, h2, h3, d4, l4⟩
      have hj : j < (rangeL 0 (m : Int)).length := (List.getElem?_eq_some_iff.mp hy).1
      rw [hlen] at hj
      obtain ⟨w, s5, b6, b8, k1, k2, k3, k4, k5⟩ := name_turn (P := P) D (found := ss) (a1 := some (.int m)) (a5 := some y) (a6 := g6) (a7 := g7) (a8 := g8) (a9 := g9) (a10 := g10) d4 (by omega) (by omega) h2 h3
      rw [l4] at k1
      refine ⟨_, _, .inl ?_, ss ++ [w], s5, some y, b6, g7, b8, g9, g10, rfl, rfl, by rw [List.length_append, h1]; simp, k2, ?_, ?_, by omega⟩
      · simp only [tgB_one, List.set_cons_succ, List.set_cons_zero]
        exact k1
      · intro x hx
        rcases List.mem_append.mp hx with z | z
        · exact h3 x z
        · rw [List.mem_singleton.mp z]; exact k3
      · rw [show b + 6 * (0 + j + 1) = b + 6 * (0 + j) + 6 by omega]
        exact k4)
  rw [hlen] at h1 d4
  refine ⟨ss, s4, ?_, by omega, h2, h3, by rw [show b + 6 * m = b + 6 * (0 + m) by omega]; exact d4⟩
  rw [runFn_eq hf (by simp), hk]
  have hr := r_range (P := P) (call := call) (env := [some (.loc 1), some (.int m), some (.str LETT), some (.loc s.length), some (.lst (someW.map .str)), none, none, none, none, none, none]) (s := s ++ [.lst []]) (s1 := s ++ [.lst []]) (j := m) (e := .var 1) (by simp) (by omega) (by omega)
  have dp : deepOf s.length (s4 ++ [Cell.lst (ss.map .str)]) s.length = some (.lst (ss.map .str)) := deep_lst (by rw [← l4]; simp)
  have lv := leave_loc (more := [.lst (ss.map .str)]) hs d4 (n := s.length) (Nat.le_refl _) dp
  have em : embedAll (someW.map .str) (s ++ [.lst []]) = .ok (someW.map .str) (s ++ [.lst []]) := rfl
  simp only [someW, List.map_cons, List.map_nil] at em hr L
  simp only [cLawNames, List.map_cons, List.map_nil, List.length_cons, List.length_nil, List.cons_append, List.nil_append, List.replicate, x_cons, x_par, e_cst, bind_ok, e_new, e_lst, es_nil, embedAll_nil, asCell_lst, List.set_cons_succ, List.set_cons_zero, t_nxt, x_set, es_cons, em, x_for]
  have eL : (Str.ofString "abcdefghijklmnopqrstuvwxyz") = LETT := rfl
  rw [eL, hr]
  simp only [bind_ok, Sq_ok_fun, L, t_nxt, x_cons, x_ret, e_var, slot_ok, slot_succ, t_ret, fnEnd_ret, lv]
end
end WS.I
set_option maxRecDepth 100000
/-! E11: drawn nets as dicts. -/
namespace WS.I
open PySem
def cLawRule (pk tk : Nat) : List St := [.set 3 (.callK pk (.cons (.var 0) (.cons (.op2 .add (.op2 .add (.var 2) (.var 2)) (.lst (.cons (.cst (.int 0)) (.cons (.sub (.var 1) (.cst (.str "fine"))) (.cons (.callK tk (.cons (.var 0) (.cons (.op2 .add (.sub (.var 1) (.cst (.str "fine"))) (.cst (.int 1))) .nil)) .nil [.inl 0, .inl 1]) .nil))))) .nil)) .nil [.inl 0, .inl 1]), .set 4 (.callK pk (.cons (.var 0) (.cons (.op2 .add (.lst (.cons (.cst (.str "handed")) (.cons (.cst (.str "handed")) (.cons (.cst (.str "handed")) .nil)))) (.sub (.var 1) (.cst (.str "some")))) .nil)) .nil [.inl 0, .inl 1]), .ret (.tup (.cons (.var 3) (.cons (.var 4) (.cons (.cmp .eq (.callK tk (.cons (.var 0) (.cons (.sub (.var 1) (.cst (.str "odds"))) .nil)) .nil [.inl 0, .inl 1]) (.cst (.int 0))) (.cons (.cmp .eq (.callK tk (.cons (.var 0) (.cons (.sub (.var 1) (.cst (.str "odds"))) .nil)) .nil [.inl 0, .inl 1]) (.cst (.int 0))) .nil)))))]
def mdTurn (tk ru : Nat) : List St := [.set 13 (.ite (.var 9) (.var 2) (.slc (.var 2) (.op2 .add (.var 11) (.cst (.int 1))) (.cst .non) true false)), .set 14 (.comp (.one 15) (.var 15) (.val (.var 13)) (.cmp .eq (.callK tk (.cons (.var 0) (.cons (.var 8) .nil)) .nil [.inl 0, .inl 1]) (.cst (.int 0)))), .set 16 (.comp (.one 15) (.var 15) (.val (.var 14)) (.cmp .eq (.callK tk (.cons (.var 0) (.cons (.op2 .add (.cst (.int 2)) (.sub (.var 4) (.cst (.str "odds")))) .nil)) .nil [.inl 0, .inl 1]) (.cst (.int 0)))), .set 17 (.comp (.one 7) (.callK ru (.cons (.var 0) (.cons (.var 4) (.cons (.var 5) .nil))) .nil [.inl 0, .inl 1, .inl 2]) (.range (.op2 .add (.cst (.int 1)) (.prim .int (.cons (.cmp .eq (.callK tk (.cons (.var 0) (.cons (.op2 .add (.var 10) (.cst (.int 1))) .nil)) .nil [.inl 0, .inl 1]) (.cst (.int 0))) .nil)))) (.cst (.bl true))), .put (.var 6) (.var 12) (.dct (.cons (.cst (.str "rules")) (.cons (.var 17) (.cons (.cst (.str "calls")) (.cons (.var 14) (.cons (.cst (.str "lost")) (.cons (.var 16) (.cons (.cst (.str "fails")) (.cons (.cmp .lt (.callK tk (.cons (.var 0) (.cons (.sub (.var 4) (.cst (.str "odds"))) .nil)) .nil [.inl 0, .inl 1]) (.cst (.int 2))) .nil)))))))))]
def cLawModel (nm ru pk tk : Nat) : List St := [.par 2 3 (.callK nm (.cons (.var 0) (.cons (.op2 .add (.cst (.int 1)) (.callK tk (.cons (.var 0) (.cons (.var 1) .nil)) .nil [.inl 0, .inl 1])) .nil)) .nil [.inl 0, .inl 1]) (.callK pk (.cons (.var 0) (.cons (.lst (.cons (.cst (.int 1)) (.cons (.cst (.int 2)) (.cons (.cst (.int 3)) (.cons (.cst (.int 4)) (.cons (.cst (.int 10)) (.cons (.cst (.int 60)) (.cons (.cst (.int 1000)) .nil)))))))) .nil)) .nil [.inl 0, .inl 1]), .set 4 (.newD (.cons (.cst (.str "fine")) (.cons (.var 3) (.cons (.cst (.str "houses")) (.cons (.newD .nil) (.cons (.cst (.str "some")) (.cons (.callK pk (.cons (.var 0) (.cons (.lst (.cons (.lst .nil) (.cons (.lst (.cons (.cst (.str "m")) .nil)) (.cons (.lst (.cons (.cst (.str "m")) (.cons (.cst (.str "story")) .nil))) (.cons (.lst (.cons (.cst (.str "ab")) (.cons (.cst (.str "aa")) .nil))) .nil))))) .nil)) .nil [.inl 0, .inl 1]) .nil))))))), .put (.var 4) (.cst (.str "odds")) (.callK pk (.cons (.var 0) (.cons (.lst (.cons (.cst (.int 2)) (.cons (.cst (.int 4)) (.cons (.cst (.int 9)) .nil)))) .nil)) .nil [.inl 0, .inl 1]), .par 5 6 (.comp (.one 7) (.callK tk (.cons (.var 0) (.cons (.op2 .add (.var 3) (.cst (.int 1))) .nil)) .nil [.inl 0, .inl 1]) (.range (.callK pk (.cons (.var 0) (.cons (.lst (.cons (.cst (.int 1)) (.cons (.cst (.int 2)) (.cons (.cst (.int 3)) .nil)))) .nil)) .nil [.inl 0, .inl 1])) (.cst (.bl true))) (.sub (.var 4) (.cst (.str "houses"))), .par3 8 9 10 (.callK pk (.cons (.var 0) (.cons (.lst (.cons (.cst (.int 2)) (.cons (.cst (.int 3)) (.cons (.cst (.int 4)) .nil)))) .nil)) .nil [.inl 0, .inl 1]) (.cmp .eq (.callK tk (.cons (.var 0) (.cons (.cst (.int 3)) .nil)) .nil [.inl 0, .inl 1]) (.cst (.int 0))) (.callK pk (.cons (.var 0) (.cons (.lst (.cons (.cst (.int 1)) (.cons (.cst (.int 3)) (.cons (.cst (.int 9)) .nil)))) .nil)) .nil [.inl 0, .inl 1]), .forS (.many [11, 12]) (.enum (.var 2)) (mdTurn tk ru), .put (.var 4) (.cst (.str "entries")) (.op2 .add (.lst (.cons (.sub (.var 2) (.cst (.int 0))) .nil)) (.comp (.one 12) (.var 12) (.val (.slc (.var 2) (.cst (.int 1)) (.cst .non) true false)) (.cmp .eq (.callK tk (.cons (.var 0) (.cons (.cst (.int 6)) .nil)) .nil [.inl 0, .inl 1]) (.cst (.int 0))))), .ret (.var 4)]
/-! ### the data -/
structure MS where
  fine : Int
  houses : List (Str × HouseS)
  some_ : List Str
  odds : Int
  entries : List Str
def ruleT (r : RuleS) : DV := .tup [.int r.sh, .str r.wd, .bl r.al, .bl r.lt]
def hT (h : HouseS) : DV := .dct [(.str "rules", .lst (h.rules.map ruleT)), (.str "calls", .lst (h.calls.map .str)), (.str "lost", .lst (h.lost.map .str)), (.str "fails", .bl h.fails)]
def hKv (hs : List (Str × HouseS)) : List (DV × DV) := hs.map fun p => (.str p.1, hT p.2)
def MS.dv (m : MS) : DV := .dct [(.str "fine", .int m.fine), (.str "houses", .dct (hKv m.houses)), (.str "some", .lst (m.some_.map .str)), (.str "odds", .int m.odds), (.str "entries", .lst (m.entries.map .str))]
def MS.names (m : MS) : List Str := m.houses.map (·.1)
structure RuleOk (fine : Int) (r : RuleS) : Prop where
  lo : 0 ≤ r.sh
  hi : r.sh ≤ fine
  wd : nameB (.str r.wd) = true
structure HouseOk (names : List Str) (fine : Int) (h : HouseS) : Prop where
  r1 : 1 ≤ h.rules.length
  r2 : h.rules.length ≤ 2
  rules : ∀ r ∈ h.rules, RuleOk fine r
  calls : h.calls.Sublist names
  lost : h.lost.Sublist h.calls
structure MSok (most : Nat) (m : MS) : Prop where
  f1 : 1 ≤ m.fine
  f2 : m.fine ≤ 1000
  nd : m.names.Nodup
  nm : ∀ x ∈ m.names, nameB (.str x) = true
  n1 : 1 ≤ m.names.length
  n2 : m.names.length ≤ most
  hs : ∀ p ∈ m.houses, HouseOk m.names m.fine p.2
  en : m.entries.Sublist m.names
  e1 : m.entries ≠ []
  so : ∀ x ∈ m.some_, nameB (.str x) = true
  sl : m.some_.length ≤ 2
  od : m.odds = 2 ∨ m.odds = 4 ∨ m.odds = 9

/-- a comprehension whose test draws -/
theorem mapIf_filt {c : DV → M Bool} {f : DV → M DV} {rest : List Cell} (hf : ∀ x s, isTree x = true → f x s = .ok x s) : ∀ {xs : List DV} {b : Nat} {s : S}, xs.all isTree = true → DS b rest s → (∀ x ∈ xs, ∀ b' s', b' < b + xs.length → DS b' rest s' → ∃ v s2, c x s' = .ok v s2 ∧ DS (b' + 1) rest s2) →
    ∃ ys s2, mapIf (fun _ => True) c f xs s = .ok ys s2 ∧ ys.Sublist xs ∧ DS (b + xs.length) rest s2
  | [], b, s, _, h, _ => ⟨[], s, by simp [mapIf], List.Sublist.refl _, h⟩
  | x :: r, b, s, ht, h, hc => by
    simp only [List.all_cons, Bool.and_eq_true] at ht
    obtain ⟨v, s1, h1, h2⟩ := hc x (by simp) b s (by simp) h
    obtain ⟨ys, s2, g1, g2, g3⟩ := mapIf_filt hf (xs := r) (b := b + 1) ht.2 h2 fun z hz b' s' hb hs => hc z (by simp [hz]) b' s' (by simp; omega) hs
    have e : b + (x :: r).length = b + 1 + r.length := by simp; omega
    cases v with
    | true =>
      refine ⟨x :: ys, s2, ?_, g2.cons₂ x, by rw [e]; exact g3⟩
      rw [mapIf_yes h1 (hf x s1 ht.1) (embed_t s1 ht.1), g1]
      rfl
    | false =>
      refine ⟨ys, s2, ?_, g2.cons x, by rw [e]; exact g3⟩
      rw [mapIf_no h1, g1]
theorem subl_str {ys : List DV} {ss : List Str} (h : ys.Sublist (ss.map DV.str)) : ∃ zs : List Str, zs.Sublist ss ∧ ys = zs.map DV.str := by
  obtain ⟨zs, h1, h2⟩ := List.sublist_map_iff.mp h
  exact ⟨zs, h1, h2⟩
theorem strs_tree (ss : List Str) : (ss.map DV.str).all isTree = true := by rw [List.all_map, List.all_eq_true]; intro _ _; rfl
theorem ints_tree (ss : List Int) : (ss.map DV.int).all isTree = true := by rw [List.all_map, List.all_eq_true]; intro _ _; rfl
theorem cutD (xs : List DV) (i : Nat) (s : S) : semSlc (.lst xs) (some (i : Int)) none s = some (.lst (xs.drop i)) := by
  show some (DV.lst (cut xs (some (i : Int)) none)) = _
  unfold cut cutIx
  have : ¬ ((i : Int) < 0) := by omega
  simp only [this, if_false, Int.toNat_natCast]
  congr 2
  by_cases h : i ≤ xs.length
  · rw [Nat.min_eq_left h, List.take_of_length_le (by simp)]
  · rw [Nat.min_eq_right (by omega), List.drop_eq_nil_of_le (Nat.le_refl _), List.drop_eq_nil_of_le (by omega)]
    simp
section
variable {P : Pg} {keep : Nat → Bool} {call : Nat → List DV → M DV} {pk tk : Nat} {rest : List Cell}
theorem lawRule_run {f : Nat} (hf : P.fn f = some ⟨5, cLawRule pk tk⟩) (hk : keep f = false) (D : Draws call pk tk) {b : Nat} {s : S} {d : DV} {fine odds : Int} {so : List Str} {shs : List Int} (hs : DS b rest s) (hb : b + 100 < 1099511627000)
    (h1 : ∀ b s', DS b rest s' → semSub d (.str "fine") s' = some (.int fine)) (h2 : ∀ b s', DS b rest s' → semSub d (.str "some") s' = some (.lst (so.map .str))) (h3 : ∀ b s', DS b rest s' → semSub d (.str "odds") s' = some (.int odds))
    (f1 : 1 ≤ fine) (f2 : fine ≤ 1000) (o1 : 1 ≤ odds) (o2 : odds ≤ 9) (hsh : ∀ i ∈ shs, 0 ≤ i ∧ i ≤ fine) (hl : shs.length ≤ 10) (hso : ∀ x ∈ so, nameB (.str x) = true) (hsl : so.length ≤ 10) :
    ∃ r s', runFn P keep call f [.loc 1, d, .lst (shs.map .int)] s = .ok (ruleT r) s' ∧ RuleOk fine r ∧ DS (b + 5) rest s' := by
  obtain ⟨v, s1, q1, v0, v1, d1⟩ := D.take rest b s (fine + 1) hs (by omega) (by omega) (by omega)
  have a1 := s2_addL (xs := shs.map .int) (ys := shs.map .int) s (by simp; omega)
  have a2 := s2_addL (xs := shs.map .int ++ shs.map .int) (ys := [.int 0, .int fine, .int v]) s1 (by simp; omega)
  obtain ⟨x, s2, q2, m2, t2, d2⟩ := D.pick rest (b + 1) s1 (shs.map .int ++ shs.map .int ++ [.int 0, .int fine, .int v]) d1 (by omega) (by simp; omega) (by simp; omega) (by simp only [List.all_append, ints_tree]; rfl)
  obtain ⟨i, rfl, i0, i1⟩ : ∃ i : Int, x = .int i ∧ 0 ≤ i ∧ i ≤ fine := by
    simp only [List.mem_append, List.mem_map, List.mem_cons, List.mem_nil_iff, or_false] at m2
    rcases m2 with (⟨i, hi, rfl⟩ | ⟨i, hi, rfl⟩) | rfl | rfl | rfl
    · exact ⟨i, rfl, hsh i hi⟩
    · exact ⟨i, rfl, hsh i hi⟩
    · exact ⟨0, rfl, by omega, by omega⟩
    · exact ⟨fine, rfl, by omega, by omega⟩
    · exact ⟨v, rfl, v0, by omega⟩
  have a3 := s2_addL (xs := [.str "handed", .str "handed", .str "handed"]) (ys := so.map .str) s2 (by simp; omega)
  obtain ⟨w, s3, q3, m3, t3, d3⟩ := D.pick rest (b + 1 + 1) s2 ([.str "handed", .str "handed", .str "handed"] ++ so.map .str) d2 (by omega) (by simp) (by simp; omega) (by simp only [List.all_append, strs_tree]; rfl)
  obtain ⟨z, rfl, nz⟩ : ∃ z, w = .str z ∧ nameB (.str z) = true := by
    simp only [List.mem_append, List.mem_map, List.mem_cons, List.mem_nil_iff, or_false] at m3
    rcases m3 with (rfl | rfl | rfl) | ⟨z, hz, rfl⟩
    · exact ⟨"handed", rfl, by decide +kernel⟩
    · exact ⟨"handed", rfl, by decide +kernel⟩
    · exact ⟨"handed", rfl, by decide +kernel⟩
    · exact ⟨z, rfl, hso z hz⟩
  obtain ⟨u, s4, q4, u0, u1, d4⟩ := D.take rest _ s3 odds d3 (by omega) (by omega) (by omega)
  obtain ⟨u', s5, q5, u0', u1', d5⟩ := D.take rest _ s4 odds d4 (by omega) (by omega) (by omega)
  refine ⟨⟨i, z, u == 0, u' == 0⟩, s5, ?_, ⟨i0, i1, nz⟩, d5⟩
  rw [runFn_eq hf (by simp), hk]
  have lv := leave_DS hs d5 (d := ruleT ⟨i, z, u == 0, u' == 0⟩) rfl
  have e1 := h1 b s hs
  have e2 := h2 _ s2 d2
  have e3 := h3 _ s3 d3
  have e4 := h3 _ s4 d4
  have em : ∀ s, embedAll [.int 0, .int fine, .int v] s = .ok [.int 0, .int fine, .int v] s := fun _ => rfl
  have em2 : ∀ s, embedAll [.str "handed", .str "handed", .str "handed"] s = .ok [.str "handed", .str "handed", .str "handed"] s := fun _ => rfl
  have em3 : ∀ s, embedAll [.int i, .str z, .bl (u == 0), .bl (u' == 0)] s = .ok [.int i, .str z, .bl (u == 0), .bl (u' == 0)] s := fun _ => rfl
  simp only [cLawRule, List.map_cons, List.map_nil, List.length_cons, List.length_nil, List.cons_append, List.nil_append, List.replicate, x_cons, x_set, e_callK, es_cons, es_nil, e_op2, e_lst, e_cst, e_sub, e_var, slot_ok, slot_succ, bind_ok, a1, e1, ofO_some, s2_add, permute, List.append_nil, List.getElem?_cons_zero, List.getElem?_cons_succ, q1, em]
  rw [a2]
  simp only [ofO_some, bind_ok, permute, List.cons_append, List.nil_append, List.append_nil, List.getElem?_cons_zero, List.getElem?_cons_succ, q2, List.set_cons_succ, List.set_cons_zero, t_nxt, x_cons, x_set, e_callK, es_cons, es_nil, e_op2, e_lst, e_cst, e_sub, e_var, slot_ok, slot_succ, em2, e2]
  rw [a3]
  simp only [ofO_some, bind_ok, permute, List.cons_append, List.nil_append, List.append_nil, List.getElem?_cons_zero, List.getElem?_cons_succ]
  simp only [List.cons_append, List.nil_append] at q3
  simp only [q3, bind_ok, List.set_cons_succ, List.set_cons_zero, t_nxt, x_cons, x_ret, e_tup, e_callK, e_cmp, es_cons, es_nil, e_cst, e_sub, e_var, slot_ok, slot_succ, e3, e4, ofO_some, permute, List.cons_append, List.nil_append, List.append_nil, List.getElem?_cons_zero, List.getElem?_cons_succ, q4, q5, sC_eqi, Option.map_some, em3, t_ret, fnEnd_ret]
  exact lv
end
end WS.I
set_option maxRecDepth 100000
/-! E12: drawn nets as dicts: the run. -/
namespace WS.I
open PySem
theorem sub_cell0 {s : S} {kvs : List (DV × DV)} {y : Cell} {x : Str} : semSub (.loc s.length) (.str x) (s ++ [.dct kvs, y]) = dget (.s x) kvs := by
  show (dictOf (s ++ [.dct kvs, y]) (.loc s.length)).bind (fun kvs => dget (.s x) kvs) = _
  unfold dictOf
  simp only [get0]
  rfl
theorem sub_cell1 {s : S} {kvs : List (DV × DV)} {y : Cell} {x : Str} : semSub (.loc (s.length + 1)) (.str x) (s ++ [y, .dct kvs]) = dget (.s x) kvs := by
  show (dictOf (s ++ [y, .dct kvs]) (.loc (s.length + 1))).bind (fun kvs => dget (.s x) kvs) = _
  unfold dictOf
  simp only [get1]
  rfl
theorem put_cell0 {s : S} {kvs : List (DV × DV)} {y : Cell} {x : Str} {v : DV} (h : kvs.length < 1000000) : putAt (.loc s.length) (.str x) v (s ++ [.dct kvs, y]) = .ok () (s ++ [.dct (dput (.s x) v kvs), y]) := by
  unfold putAt
  simp only [get0, skOf]
  rw [if_pos (by unfold LIM; omega), set0]
theorem put_cell1 {s : S} {kvs : List (DV × DV)} {y : Cell} {x : Str} {v : DV} (h : kvs.length < 1000000) : putAt (.loc (s.length + 1)) (.str x) v (s ++ [y, .dct kvs]) = .ok () (s ++ [y, .dct (dput (.s x) v kvs)]) := by
  unfold putAt
  simp only [get1, skOf]
  rw [if_pos (by unfold LIM; omega), set1]
theorem DS_app2K {b : Nat} {rest : List Cell} {s : S} {x y : Cell} (h : DS b rest s) (hx : noDct x = true) (hy : okCell (rest.length + 3) y = true) : DS b (rest ++ [x, y]) (s ++ [x, y]) := by
  have := DS_appK (DS_app h hx) (c := y) (by rw [List.length_append]; simpa using hy)
  rw [List.append_assoc, List.append_assoc] at this
  exact this
theorem dput_new {x : Str} {v : DV} {hs : List (Str × HouseS)} (h : x ∉ hs.map (·.1)) : dput (.s x) v (hKv hs) = hKv hs ++ [(.str x, v)] := by
  rw [dput_keys, if_neg]
  · rfl
  · simp only [List.any_eq_true, not_exists, not_and, decide_eq_true_eq, hKv, List.mem_map]
    rintro p ⟨q, hq, rfl⟩ e
    have : q.1 = x := by simpa [skOf] using e
    exact h (List.mem_map.mpr ⟨q, hq, this⟩)
theorem hKv_plain : ∀ hs : List (Str × HouseS), plainKv (hKv hs) = true
  | [] => rfl
  | p :: r => by
    show plainKv ((.str p.1, hT p.2) :: hKv r) = true
    have := hKv_plain r
    simpa [plainKv, hT] using this
/-- the dict of the net while it is drawn -/
def mkv (N : Nat) (fine : Int) (so : List Str) (o : Int) : List (DV × DV) := [(.str "fine", .int fine), (.str "houses", .loc N), (.str "some", .lst (so.map .str)), (.str "odds", .int o)]
section
variable {P : Pg} {keep : Nat → Bool} {call : Nat → List DV → M DV} {pk tk ru : Nat} {rest : List Cell}
/-- a comprehension whose parts draw -/
theorem mapIf_drawP {c : DV → M Bool} {f : DV → M DV} {p : DV → Prop} {k : Nat} {rest : List Cell} (hc : ∀ x s, c x s = .ok true s) : ∀ {xs : List DV} {b : Nat} {s : S}, DS b rest s → (∀ x ∈ xs, ∀ b' s', b' + k ≤ b + k * xs.length → DS b' rest s' → ∃ y s2, f x s' = .ok y s2 ∧ p y ∧ isTree y = true ∧ DS (b' + k) rest s2) →
    ∃ ys s2, mapIf (fun _ => True) c f xs s = .ok ys s2 ∧ ys.length = xs.length ∧ (∀ y ∈ ys, p y) ∧ DS (b + k * xs.length) rest s2
  | [], b, s, h, _ => ⟨[], s, by simp [mapIf], rfl, by simp, h⟩
  | x :: r, b, s, h, hf => by
    obtain ⟨y, s1, h1, h2, h3, h4⟩ := hf x (by simp) b s (by simp [Nat.mul_add]) h
    obtain ⟨ys, s2, g1, g2, g3, g4⟩ := mapIf_drawP hc (xs := r) (b := b + k) h4 fun z hz b' s' hb hs => hf z (by simp [hz]) b' s' (by simp [Nat.mul_add]; omega) hs
    refine ⟨y :: ys, s2, ?_, by simp [g2], ?_, by rw [show b + k * (x :: r).length = b + k + k * r.length by simp [Nat.mul_add]; omega]; exact g4⟩
    · conv => lhs; unfold mapIf
      rw [if_pos trivial, hc]
      simp [h1, embed_t s1 h3, g1]
    · intro z hz
      rcases List.mem_cons.mp hz with rfl | hz
      · exact h2
      · exact g3 z hz
theorem rules_list {fine : Int} : ∀ {ys : List DV}, (∀ y ∈ ys, ∃ r : RuleS, y = ruleT r ∧ RuleOk fine r) → ∃ rs : List RuleS, ys = rs.map ruleT ∧ ∀ r ∈ rs, RuleOk fine r
  | [], _ => ⟨[], rfl, by simp⟩
  | y :: r, h => by
    obtain ⟨a, rfl, ha⟩ := h y (by simp)
    obtain ⟨rs, rfl, hr⟩ := rules_list (ys := r) fun z hz => h z (by simp [hz])
    exact ⟨a :: rs, rfl, by intro q hq; rcases List.mem_cons.mp hq with rfl | hq; exact ha; exact hr q hq⟩
def RuleC (call : Nat → List DV → M DV) (ru : Nat) : Prop := ∀ (rest : List Cell) (b : Nat) (s : S) (d : DV) (fine odds : Int) (so : List Str) (shs : List Int), DS b rest s → b + 100 < 1099511627000 →
    (∀ b s', DS b rest s' → semSub d (.str "fine") s' = some (.int fine)) → (∀ b s', DS b rest s' → semSub d (.str "some") s' = some (.lst (so.map .str))) → (∀ b s', DS b rest s' → semSub d (.str "odds") s' = some (.int odds)) →
    1 ≤ fine → fine ≤ 1000 → 1 ≤ odds → odds ≤ 9 → (∀ i ∈ shs, 0 ≤ i ∧ i ≤ fine) → shs.length ≤ 10 → (∀ x ∈ so, nameB (.str x) = true) → so.length ≤ 10 →
    ∃ r s', call ru [.loc 1, d, .lst (shs.map .int)] s = .ok (ruleT r) s' ∧ RuleOk fine r ∧ DS (b + 5) rest s'
/-- a comprehension over names, a draw each -/
theorem filt_run {L : List Str} {src : E} {k : E} {kk : Int} {env : Env} {b : Nat} {s : S} (D : Draws call pk tk) (hs : DS b rest s) (hb : b + L.length + 10 < 1099511627000) (h0 : 0 < kk) (h1 : kk < 100) (he : env.length = 18) (e0 : env[0]? = some (some (.loc 1))) (hsrc : ev P call src env s = .ok (.lst (L.map .str)) s)
    (hk : ∀ x b' s', DS b' rest s' → ev P call k (env.set 15 (some x)) s' = .ok (.int kk) s') :
    ∃ (ss : List Str) (s' : S), ev P call (.comp (.one 15) (.var 15) (.val src) (.cmp .eq (.callK tk (.cons (.var 0) (.cons k .nil)) .nil [.inl 0, .inl 1]) (.cst (.int 0)))) env s = .ok (.lst (ss.map .str)) s' ∧ ss.Sublist L ∧ DS (b + L.length) rest s' := by
  obtain ⟨ys, s', m1, m2, m3⟩ := mapIf_filt (c := tgC (.one 15) (evB P call (.cmp .eq (.callK tk (.cons (.var 0) (.cons k .nil)) .nil [.inl 0, .inl 1]) (.cst (.int 0)))) env) (f := tgC (.one 15) (ev P call (.var 15)) env) (rest := rest) (fun x s _ => by
      have : slot (env.set 15 (some x)) 15 s = .ok x s := by
        unfold slot
        rw [List.getElem?_set_self (by omega)]
      simp [this]) (xs := L.map .str) (strs_tree L) hs (by
    intro x hx b' s' hb' hd'
    rw [List.length_map] at hb'
    obtain ⟨w, s2, q1, q2, q3, q4⟩ := D.take rest b' s' kk hd' (by omega) (by omega) (by omega)
    have s0 : slot (env.set 15 (some x)) 0 s' = .ok (.loc 1) s' := by
      unfold slot
      rw [List.getElem?_set_ne (by omega), e0]
    exact ⟨(w == 0), s2, by simp [s0, hk x b' s' hd', permute, q1], q4⟩)
  obtain ⟨ss, h1, rfl⟩ := subl_str m2
  rw [List.length_map] at m3
  refine ⟨ss, s', ?_, h1, m3⟩
  simp only [e_comp, r_val, hsrc, bind_ok, w_lst, Sq_ok_fun, m1, noErr_ok]
/-- one house more -/
theorem model_turn (D : Draws call pk tk) (R : RuleC call ru) {b : Nat} {s : S} {names : List Str} {hs : List (Str × HouseS)} {fine odds wide pairs : Int} {so : List Str} {shs : List Int} {rings : Bool} {at_ : Nat} {x : Str} {a1 a7 a13 a14 a15 a16 a17 : Option DV} (hd : DS b rest s) (hb : b + 200 < 1099511627000)
    (hn : names.length ≤ 20) (f1 : 1 ≤ fine) (f2 : fine ≤ 1000) (o1 : 1 ≤ odds) (o2 : odds ≤ 9) (w1 : 1 ≤ wide) (w2 : wide ≤ 9) (p1 : 1 ≤ pairs) (p2 : pairs ≤ 9) (hsh : ∀ i ∈ shs, 0 ≤ i ∧ i ≤ fine) (hl : shs.length ≤ 10) (hso : ∀ x ∈ so, nameB (.str x) = true) (hsl : so.length ≤ 10) (hx : x ∉ hs.map (·.1)) (hhl : hs.length < 1000) :
    ∃ h s' a7' a13' a14' a15' a16' a17', exSs P call (mdTurn tk ru) [some (.loc 1), a1, some (.lst (names.map .str)), some (.int fine), some (.loc (s.length + 1)), some (.lst (shs.map .int)), some (.loc s.length), a7, some (.int wide), some (.bl rings), some (.int pairs), some (.int (at_ : Nat)), some (.str x), a13, a14, a15, a16, a17] (s ++ [.dct (hKv hs), .dct (mkv s.length fine so odds)])
      = .ok (.nxt [some (.loc 1), a1, some (.lst (names.map .str)), some (.int fine), some (.loc (s.length + 1)), some (.lst (shs.map .int)), some (.loc s.length), a7', some (.int wide), some (.bl rings), some (.int pairs), some (.int (at_ : Nat)), some (.str x), a13', a14', a15', a16', a17']) (s' ++ [.dct (hKv (hs ++ [(x, h)])), .dct (mkv s.length fine so odds)]) ∧ HouseOk names fine h ∧ DS (b + 60) rest s' ∧ s'.length = s.length := by
  have okm : okCell (rest.length + 3) (.dct (mkv s.length fine so odds)) = true := by
    have := DS_len hd
    simp only [okCell, mkv, List.all_cons, List.all_nil, Bool.true_and, Bool.and_true, decide_eq_true_eq]
    omega
  have d0 := DS_app2K (x := .dct (hKv hs)) (y := .dct (mkv s.length fine so odds)) hd (hKv_plain hs) okm
  have rd : ∀ (k : Str) (v : DV), dget (.s k) (mkv s.length fine so odds) = some v → ∀ b s', DS b (rest ++ [.dct (hKv hs), .dct (mkv s.length fine so odds)]) s' → semSub (.loc (s.length + 1)) (.str k) s' = some v := by
    intro k v hk b s' hs'
    obtain ⟨s0, rfl, d0⟩ := DS_split hs'
    have l0 : s0.length = s.length := by rw [DS_len d0, DS_len hd]
    rw [← l0, sub_cell1, l0]
    exact hk
  have rf := rd "fine" (.int fine) (by rfl)
  have rs := rd "some" (.lst (so.map .str)) (by rfl)
  have ro := rd "odds" (.int odds) (by rfl)
  -- those that can be called
  obtain ⟨L, hL, eL⟩ : ∃ L : List Str, L.Sublist names ∧ ∀ t : S, ev P call (.ite (.var 9) (.var 2) (.slc (.var 2) (.op2 .add (.var 11) (.cst (.int 1))) (.cst .non) true false)) [some (.loc 1), a1, some (.lst (names.map .str)), some (.int fine), some (.loc (s.length + 1)), some (.lst (shs.map .int)), some (.loc s.length), a7, some (.int wide), some (.bl rings), some (.int pairs), some (.int (at_ : Nat)), some (.str x), a13, a14, a15, a16, a17] t = .ok (.lst (L.map .str)) t := by
    cases rings with
    | true => exact ⟨names, List.Sublist.refl _, fun t => by simp⟩
    | false =>
      refine ⟨names.drop (at_ + 1), List.drop_sublist .., fun t => ?_⟩
      have cu := cutD (names.map .str) (at_ + 1) t
      have e : ((at_ : Nat) : Int) + 1 = ((at_ + 1 : Nat) : Int) := by omega
      simp only [e_ite, e_var, slot_ok, slot_succ, asB_ok, bind_ok, Bool.false_eq_true, if_false, e_slc, if_true, e_op2, e_cst, s2_add, ofO_some, partOf, e, cu, List.map_drop]
  obtain ⟨cs, s1, c1, c2, c3⟩ := filt_run (P := P) (rest := rest ++ [.dct (hKv hs), .dct (mkv s.length fine so odds)]) (L := L) (src := .var 13) (k := .var 8) (kk := wide) (env := [some (.loc 1), a1, some (.lst (names.map .str)), some (.int fine), some (.loc (s.length + 1)), some (.lst (shs.map .int)), some (.loc s.length), a7, some (.int wide), some (.bl rings), some (.int pairs), some (.int (at_ : Nat)), some (.str x), some (.lst (L.map .str)), a14, a15, a16, a17]) D d0 (by have := hL.length_le; omega) (by omega) (by omega) rfl rfl (by simp) (fun y b' s' _ => by simp)
  obtain ⟨ls, s2, l1, l2, l3⟩ := filt_run (P := P) (rest := rest ++ [.dct (hKv hs), .dct (mkv s.length fine so odds)]) (L := cs) (src := .var 14) (k := .op2 .add (.cst (.int 2)) (.sub (.var 4) (.cst (.str "odds")))) (kk := 2 + odds) (env := [some (.loc 1), a1, some (.lst (names.map .str)), some (.int fine), some (.loc (s.length + 1)), some (.lst (shs.map .int)), some (.loc s.length), a7, some (.int wide), some (.bl rings), some (.int pairs), some (.int (at_ : Nat)), some (.str x), some (.lst (L.map .str)), some (.lst (cs.map .str)), a15, a16, a17]) D c3 (by have := hL.length_le; have := c2.length_le; omega) (by omega) (by omega) rfl rfl (by simp) (fun y b' s' hs' => by simp [ro b' s' hs'])
  have lL := hL.length_le
  have lc := c2.length_le
  have ll := l2.length_le
  obtain ⟨v, s3, q3, v0, v1, d3⟩ := D.take _ _ s2 (pairs + 1) l3 (by omega) (by omega) (by omega)
  let j : Int := 1 + (if (v == 0) = true then 1 else 0)
  have hj : 1 ≤ j ∧ j ≤ 2 := by
    show 1 ≤ 1 + (if (v == 0) = true then (1 : Int) else 0) ∧ 1 + (if (v == 0) = true then (1 : Int) else 0) ≤ 2
    split <;> omega
  have pi : ∀ s : S, semP .int [.bl (v == 0)] s = some (.int (if (v == 0) = true then 1 else 0)) := fun _ => rfl
  have hr := r_range (P := P) (call := call) (env := [some (.loc 1), a1, some (.lst (names.map .str)), some (.int fine), some (.loc (s.length + 1)), some (.lst (shs.map .int)), some (.loc s.length), a7, some (.int wide), some (.bl rings), some (.int pairs), some (.int (at_ : Nat)), some (.str x), some (.lst (L.map .str)), some (.lst (cs.map .str)), a15, some (.lst (ls.map .str)), a17]) (s := s2) (s1 := s3) (j := j) (e := .op2 .add (.cst (.int 1)) (.prim .int (.cons (.cmp .eq (.callK tk (.cons (.var 0) (.cons (.op2 .add (.var 10) (.cst (.int 1))) .nil)) .nil [.inl 0, .inl 1]) (.cst (.int 0))) .nil))) (by simp [permute, q3, pi, j]) (by omega) (by omega)
  have hlen : (rangeL 0 j).length = j.toNat := by simp [rangeL]
  obtain ⟨ys, s4, m1, m2, m3, m4⟩ := mapIf_drawP (c := tgC (.one 7) (evB P call (.cst (.bl true))) [some (.loc 1), a1, some (.lst (names.map .str)), some (.int fine), some (.loc (s.length + 1)), some (.lst (shs.map .int)), some (.loc s.length), a7, some (.int wide), some (.bl rings), some (.int pairs), some (.int (at_ : Nat)), some (.str x), some (.lst (L.map .str)), some (.lst (cs.map .str)), a15, some (.lst (ls.map .str)), a17]) (f := tgC (.one 7) (ev P call (.callK ru (.cons (.var 0) (.cons (.var 4) (.cons (.var 5) .nil))) .nil [.inl 0, .inl 1, .inl 2])) [some (.loc 1), a1, some (.lst (names.map .str)), some (.int fine), some (.loc (s.length + 1)), some (.lst (shs.map .int)), some (.loc s.length), a7, some (.int wide), some (.bl rings), some (.int pairs), some (.int (at_ : Nat)), some (.str x), some (.lst (L.map .str)), some (.lst (cs.map .str)), a15, some (.lst (ls.map .str)), a17]) (p := fun y => ∃ r : RuleS, y = ruleT r ∧ RuleOk fine r) (k := 5) (rest := rest ++ [.dct (hKv hs), .dct (mkv s.length fine so odds)]) (fun x s => by simp) (xs := rangeL 0 j) d3 (by
    intro y hy b' s' hb' hd'
    rw [hlen] at hb'
    obtain ⟨r, s5, r1, r2, r3⟩ := R _ b' s' (.loc (s.length + 1)) fine odds so shs hd' (by omega) rf rs ro f1 f2 o1 o2 hsh hl hso hsl
    exact ⟨ruleT r, s5, by simp [permute, r1], ⟨r, rfl, r2⟩, rfl, r3⟩)
  obtain ⟨rl, rfl, hrl⟩ := rules_list m3
  rw [List.length_map, hlen] at m2
  rw [hlen] at m4
  obtain ⟨u, s5, q5, u0, u1, d5⟩ := D.take _ _ s4 odds m4 (by omega) (by omega) (by omega)
  obtain ⟨s6, rfl, d6⟩ := DS_split d5
  have l6 : s6.length = s.length := by rw [DS_len d6, DS_len hd]
  have e4 := ro _ s4 m4
  let hh : HouseS := ⟨rl, cs, ls, decide (u < 2)⟩
  refine ⟨hh, s6, a7, some (.lst (L.map .str)), some (.lst (cs.map .str)), a15, some (.lst (ls.map .str)), some (.lst (rl.map ruleT)), ?_, ⟨by show 1 ≤ rl.length; omega, by show rl.length ≤ 2; omega, hrl, c2.trans hL, l2⟩, DS_mono d6 (by omega), l6⟩
  have pu := put_cell0 (s := s6) (kvs := hKv hs) (y := .dct (mkv s.length fine so odds)) (x := x) (v := hT hh) (by simp [hKv]; omega)
  rw [l6, dput_new hx] at pu
  have ek : hKv (hs ++ [(x, hh)]) = hKv hs ++ [(.str x, hT hh)] := by simp [hKv]
  rw [ek]
  have em : ∀ s : S, embedAll [.str "rules", .lst (rl.map ruleT), .str "calls", .lst (cs.map .str), .str "lost", .lst (ls.map .str), .str "fails", .bl (decide (u < 2))] s = .ok [.str "rules", .lst (rl.map ruleT), .str "calls", .lst (cs.map .str), .str "lost", .lst (ls.map .str), .str "fails", .bl (decide (u < 2))] s := fun _ => rfl
  have df : ((dictFrom [DV.str "rules", .lst (rl.map ruleT), .str "calls", .lst (cs.map .str), .str "lost", .lst (ls.map .str), .str "fails", .bl (decide (u < 2))]).bind (dictMerge [])).bind (fun kvs => if plainKv kvs then some (DV.dct kvs) else none) = some (hT hh) := by rfl
  simp only [mdTurn, x_cons, x_set, eL, bind_ok, List.set_cons_succ, List.set_cons_zero, t_nxt, c1, l1, e_comp (t := .one 7), hr, Sq_ok_fun, m1, noErr_ok, x_put, e_dct, es_cons, es_nil, e_cst, e_var, slot_ok, slot_succ, e_cmp, e_callK, e_sub, e4, ofO_some, permute, List.cons_append, List.nil_append, List.append_nil, List.getElem?_cons_zero, List.getElem?_cons_succ, q5, sC_lt, Option.map_some, em, df]
  have eh : embed (hT hh) (s6 ++ [.dct (hKv hs), .dct (mkv s.length fine so odds)]) = .ok (hT hh) (s6 ++ [.dct (hKv hs), .dct (mkv s.length fine so odds)]) := rfl
  simp only [eh, bind_ok, pu, t_nxt, x_nil]
def NamesC (call : Nat → List DV → M DV) (nm : Nat) : Prop := ∀ (rest : List Cell) (b m : Nat) (s : S), DS b rest s → b + 1000 < 1099511627000 → m < 26 → ∃ (ss : List Str) (s' : S), call nm [.loc 1, .int m] s = .ok (.lst (ss.map .str)) s' ∧ ss.length = m ∧ ss.Nodup ∧ (∀ x ∈ ss, nameB (.str x) = true) ∧ DS (b + 6 * m) rest s'
theorem ints_list {fine : Int} : ∀ {ys : List DV}, (∀ y ∈ ys, ∃ i : Int, y = .int i ∧ 0 ≤ i ∧ i ≤ fine) → ∃ is : List Int, ys = is.map .int ∧ ∀ i ∈ is, 0 ≤ i ∧ i ≤ fine
  | [], _ => ⟨[], rfl, by simp⟩
  | y :: r, h => by
    obtain ⟨a, rfl, ha⟩ := h y (by simp)
    obtain ⟨rs, rfl, hr⟩ := ints_list (ys := r) fun z hz => h z (by simp [hz])
    exact ⟨a :: rs, rfl, by intro q hq; rcases List.mem_cons.mp hq with rfl | hq; exact ha; exact hr q hq⟩
def mk0 (N : Nat) (fine : Int) (so : List Str) : List (DV × DV) := [(.str "fine", .int fine), (.str "houses", .loc N), (.str "some", .lst (so.map .str))]
theorem enum_run {L : List Str} {env : Env} {s : S} (he : env[2]? = some (some (.lst (L.map .str)))) (hl : L.length < 1000) : evSr P call (.enum (.var 2)) env s = .ok ⟨((L.map DV.str).zipIdx).map fun p => .tup [.int (p.2 : Nat), p.1], none⟩ s := by
  have sl : slot env 2 s = .ok (.lst (L.map .str)) s := by unfold slot; rw [he]
  have e : ev P call (.var 2) env s = .ok (.lst (L.map .str)) s := by rw [e_var]; exact sl
  rw [evSr, e]
  simp only [bind_ok, listOf]
  rw [if_pos (by rw [List.length_map]; unfold LIM; omega)]
theorem lawModel_run {f nm most : Nat} (hf : P.fn f = some ⟨18, cLawModel nm ru pk tk⟩) (hk : keep f = false) (D : Draws call pk tk) (R : RuleC call ru) (Nm : NamesC call nm) {b : Nat} {s : S} (hs : DS b rest s) (hb : b + 5000 < 1099511627000) (h1 : 1 ≤ most) (h8 : most ≤ 8) :
    ∃ m s', runFn P keep call f [.loc 1, .int most] s = .ok (MS.dv m) s' ∧ MSok most m ∧ DS (b + 700) rest s' := by
  obtain ⟨v, t1, q1, v0, v1, d1⟩ := D.take rest b s most hs (by omega) (by omega) (by omega)
  obtain ⟨m, hm⟩ : ∃ m : Nat, 1 + v = m := ⟨(1 + v).toNat, by omega⟩
  obtain ⟨names, t2, q2, n1, n2, n3, d2⟩ := Nm rest (b + 1) m t1 d1 (by omega) (by omega)
  obtain ⟨xf, t3, q3, m3, _, d3⟩ := D.pick rest _ t2 [.int 1, .int 2, .int 3, .int 4, .int 10, .int 60, .int 1000] d2 (by omega) (by simp) (by simp) rfl
  obtain ⟨fine, rfl, f1, f2⟩ : ∃ i : Int, xf = .int i ∧ 1 ≤ i ∧ i ≤ 1000 := by
    simp only [List.mem_cons, List.mem_nil_iff, or_false] at m3
    rcases m3 with rfl | rfl | rfl | rfl | rfl | rfl | rfl <;> exact ⟨_, rfl, by omega, by omega⟩
  have d3' := DS_app (c := .dct []) d3 rfl
  obtain ⟨xs, t4, q4, m4, _, d4⟩ := D.pick _ _ (t3 ++ [.dct []]) [.lst [], .lst [.str "m"], .lst [.str "m", .str "story"], .lst [.str "ab", .str "aa"]] d3' (by omega) (by simp) (by simp) rfl
  obtain ⟨so, rfl, so1, so2⟩ : ∃ so : List Str, xs = .lst (so.map .str) ∧ (∀ x ∈ so, nameB (.str x) = true) ∧ so.length ≤ 2 := by
    simp only [List.mem_cons, List.mem_nil_iff, or_false] at m4
    rcases m4 with rfl | rfl | rfl | rfl
    · exact ⟨[], rfl, by simp, by simp⟩
    · exact ⟨["m"], rfl, by decide +kernel, by simp⟩
    · exact ⟨["m", "story"], rfl, by decide +kernel, by simp⟩
    · exact ⟨["ab", "aa"], rfl, by decide +kernel, by simp⟩
  obtain ⟨u4, rfl, d4'⟩ := DS_split d4
  have l4 : u4.length = t3.length := by rw [DS_len d4', DS_len d3]
  have ok0 : okCell (rest.length + 3) (.dct (mk0 u4.length fine so)) = true := by
    have := DS_len d4'
    simp only [okCell, mk0, List.all_cons, List.all_nil, Bool.true_and, Bool.and_true, decide_eq_true_eq]
    omega
  have d5 := DS_app2K (x := .dct []) (y := .dct (mk0 u4.length fine so)) d4' rfl ok0
  obtain ⟨xo, t5, q5, m5, _, d5'⟩ := D.pick _ _ _ [.int 2, .int 4, .int 9] d5 (by omega) (by simp) (by simp) rfl
  obtain ⟨odds, rfl, o1⟩ : ∃ i : Int, xo = .int i ∧ (i = 2 ∨ i = 4 ∨ i = 9) := by
    simp only [List.mem_cons, List.mem_nil_iff, or_false] at m5
    rcases m5 with rfl | rfl | rfl <;> exact ⟨_, rfl, by omega⟩
  obtain ⟨u5, rfl, d6⟩ := DS_split d5'
  have l5 : u5.length = u4.length := by rw [DS_len d6, DS_len d4']
  have pu5 := put_cell1 (s := u5) (kvs := mk0 u4.length fine so) (y := .dct []) (x := "odds") (v := .int odds) (by simp [mk0])
  have ed : dput (.s "odds") (.int odds) (mk0 u4.length fine so) = mkv u4.length fine so odds := by rfl
  rw [ed] at pu5
  have okm : okCell (rest.length + 3) (.dct (mkv u4.length fine so odds)) = true := by
    have := DS_len d4'
    simp only [okCell, mkv, List.all_cons, List.all_nil, Bool.true_and, Bool.and_true, decide_eq_true_eq]
    omega
  have d7 := DS_app2K (x := .dct []) (y := .dct (mkv u4.length fine so odds)) d6 rfl okm
  obtain ⟨xr, t8, q8, m8, _, d8⟩ := D.pick _ _ _ [.int 1, .int 2, .int 3] d7 (by omega) (by simp) (by simp) rfl
  obtain ⟨jr, rfl, j1, j2⟩ : ∃ i : Int, xr = .int i ∧ 1 ≤ i ∧ i ≤ 3 := by
    simp only [List.mem_cons, List.mem_nil_iff, or_false] at m8
    rcases m8 with rfl | rfl | rfl <;> exact ⟨_, rfl, by omega, by omega⟩
  let E0 : Env := [some (.loc 1), some (.int most), some (.lst (names.map .str)), some (.int fine), some (.loc (u4.length + 1)), none, none, none, none, none, none, none, none, none, none, none, none, none]
  have hr := r_range (P := P) (call := call) (env := E0) (s := u5 ++ [.dct [], .dct (mkv u4.length fine so odds)]) (s1 := t8) (j := jr) (e := .callK pk (.cons (.var 0) (.cons (.lst (.cons (.cst (.int 1)) (.cons (.cst (.int 2)) (.cons (.cst (.int 3)) .nil)))) .nil)) .nil [.inl 0, .inl 1]) (by simp [E0, permute, eA_cons, em_int, q8]) (by omega) (by omega)
  have hlen : (rangeL 0 jr).length = jr.toNat := by simp [rangeL]
  obtain ⟨ys, t9, g1, g2, g3, d9⟩ := mapIf_drawP (c := tgC (.one 7) (evB P call (.cst (.bl true))) E0) (f := tgC (.one 7) (ev P call (.callK tk (.cons (.var 0) (.cons (.op2 .add (.var 3) (.cst (.int 1))) .nil)) .nil [.inl 0, .inl 1])) E0) (p := fun y => ∃ i : Int, y = .int i ∧ 0 ≤ i ∧ i ≤ fine) (k := 1) (rest := rest ++ [.dct [], .dct (mkv u4.length fine so odds)]) (fun x s => by simp) (xs := rangeL 0 jr) d8 (by
    intro y hy b' s' hb' hd'
    rw [hlen] at hb'
    obtain ⟨w, s5, r1, r2, r3, r4⟩ := D.take _ b' s' (fine + 1) hd' (by omega) (by omega) (by omega)
    exact ⟨.int w, s5, by simp [E0, permute, r1], ⟨w, rfl, r2, by omega⟩, rfl, r4⟩)
  obtain ⟨shs, rfl, hsh⟩ := ints_list g3
  rw [List.length_map, hlen] at g2
  rw [hlen] at d9
  have rd9 : semSub (.loc (u4.length + 1)) (.str "houses") t9 = some (.loc u4.length) := by
    obtain ⟨u9, rfl, d9'⟩ := DS_split d9
    have l9 : u9.length = u4.length := by rw [DS_len d9', DS_len d4']
    rw [← l9, sub_cell1]
    show _ = some (DV.loc u9.length)
    rw [l9]
    rfl
  obtain ⟨xw, t10, q10, m10, _, d10⟩ := D.pick _ _ t9 [.int 2, .int 3, .int 4] d9 (by omega) (by simp) (by simp) rfl
  obtain ⟨wide, rfl, w1, w2⟩ : ∃ i : Int, xw = .int i ∧ 1 ≤ i ∧ i ≤ 9 := by
    simp only [List.mem_cons, List.mem_nil_iff, or_false] at m10
    rcases m10 with rfl | rfl | rfl <;> exact ⟨_, rfl, by omega, by omega⟩
  obtain ⟨vr, t11, q11, _, _, d11⟩ := D.take _ _ t10 3 d10 (by omega) (by omega) (by omega)
  obtain ⟨xp, t12, q12, m12, _, d12⟩ := D.pick _ _ t11 [.int 1, .int 3, .int 9] d11 (by omega) (by simp) (by simp) rfl
  obtain ⟨pairs, rfl, p1, p2⟩ : ∃ i : Int, xp = .int i ∧ 1 ≤ i ∧ i ≤ 9 := by
    simp only [List.mem_cons, List.mem_nil_iff, or_false] at m12
    rcases m12 with rfl | rfl | rfl <;> exact ⟨_, rfl, by omega, by omega⟩
  obtain ⟨u12, rfl, d13⟩ := DS_split d12
  have l12 : u12.length = u4.length := by rw [DS_len d13, DS_len d4']
  have hzl : (((names.map DV.str).zipIdx).map fun p => DV.tup [.int (p.2 : Nat), p.1]).length = names.length := by simp
  obtain ⟨E, sE, L, hs', s4, g7, g11, g12, g13, g14, g15, g16, g17, rfl, rfl, k1, k2, k3, d14⟩ := forL_inv (f := tgB (.many [11, 12]) (exSs P call (mdTurn tk ru))) (I := fun i env st => ∃ (hs' : List (Str × HouseS)) (s4 : S) (g7 g11 g12 g13 g14 g15 g16 g17 : Option DV), env = [some (.loc 1), some (.int most), some (.lst (names.map .str)), some (.int fine), some (.loc (u4.length + 1)), some (.lst (shs.map .int)), some (.loc u4.length), g7, some (.int wide), some (.bl (vr == 0)), some (.int pairs), g11, g12, g13, g14, g15, g16, g17] ∧ st = s4 ++ [.dct (hKv hs'), .dct (mkv u4.length fine so odds)] ∧ hs'.map (·.1) = names.take i ∧ (∀ p ∈ hs', HouseOk names fine p.2) ∧ s4.length = u4.length ∧ DS (b + 100 + 60 * i) rest s4) (xs := ((names.map DV.str).zipIdx).map fun p => .tup [.int (p.2 : Nat), p.1]) (i := 0) (s := u12 ++ [.dct [], .dct (mkv u4.length fine so odds)]) (env := [some (.loc 1), some (.int most), some (.lst (names.map .str)), some (.int fine), some (.loc (u4.length + 1)), some (.lst (shs.map .int)), some (.loc u4.length), none, some (.int wide), some (.bl (vr == 0)), some (.int pairs), none, none, none, none, none, none, none])
    ⟨[], u12, none, none, none, none, none, none, none, none, rfl, rfl, by simp, by simp, l12, DS_mono d13 (by omega)⟩ (by
      rintro j y env st hy ⟨hs', s4, g7, g11, g12, g13, g14, g15, g16, g17, rfl, rfl, k1, k2, k3, d14⟩
      have hj : j < names.length := by rw [← hzl]; exact (List.getElem?_eq_some_iff.mp hy).1
      obtain ⟨x, hx⟩ : ∃ x, names[j]? = some x := ⟨_, List.getElem?_eq_getElem hj⟩
      have ey : y = .tup [.int (j : Nat), .str x] := by
        rw [List.getElem?_map, List.getElem?_zipIdx, List.getElem?_map, hx] at hy
        simpa using hy.symm
      subst ey
      simp only [Nat.zero_add] at k1 d14 ⊢
      have nx : x ∉ hs'.map (·.1) := by
        rw [k1]
        intro hmem
        obtain ⟨i, hi, e⟩ := List.getElem_of_mem hmem
        rw [List.length_take] at hi
        rw [List.getElem_take] at e
        have h2 : names[j] = x := by rw [List.getElem?_eq_getElem hj] at hx; exact Option.some.inj hx
        have := (List.getElem_inj (h₀ := by omega) (h₁ := hj) n2).mp (e.trans h2.symm)
        omega
      have hl' : hs'.length = j := by
        have := congrArg List.length k1
        rw [List.length_map, List.length_take] at this
        omega
      obtain ⟨h, s5, b7, b13, b14, b15, b16, b17, r1, r2, r3, r4⟩ := model_turn (P := P) D R (names := names) (hs := hs') (fine := fine) (odds := odds) (wide := wide) (pairs := pairs) (so := so) (shs := shs) (rings := vr == 0) (at_ := j) (x := x) (a1 := some (.int most)) (a7 := g7) (a13 := g13) (a14 := g14) (a15 := g15) (a16 := g16) (a17 := g17) d14 (by omega) (by omega) f1 f2 (by omega) (by omega) w1 w2 p1 p2 hsh (by omega) so1 (by omega) nx (by omega)
      rw [k3] at r1
      refine ⟨_, _, .inl r1, hs' ++ [(x, h)], s5, b7, some (.int (j : Nat)), some (.str x), b13, b14, b15, b16, b17, rfl, rfl, ?_, ?_, by omega, ?_⟩
      · rw [List.map_append, k1, List.take_add_one, hx]
        rfl
      · intro p hp
        rcases List.mem_append.mp hp with z | z
        · exact k2 p z
        · rw [List.mem_singleton.mp z]; exact r2
      · rw [show b + 100 + 60 * (j + 1) = b + 100 + 60 * j + 60 by omega]
        exact r3)
  rw [hzl] at k1 d14
  simp only [Nat.zero_add] at k1 d14
  rw [List.take_length] at k1
  -- the entries
  have okm' : okCell (rest.length + 3) (.dct (mkv u4.length fine so odds)) = true := okm
  have d15 := DS_app2K (x := .dct (hKv hs')) (y := .dct (mkv u4.length fine so odds)) d14 (hKv_plain hs') okm'
  have cu := cutD (names.map .str) 1 (s4 ++ [.dct (hKv hs'), .dct (mkv u4.length fine so odds)])
  rw [← List.map_drop] at cu
  obtain ⟨zs, t16, z1, z2, d16⟩ := mapIf_filt (c := tgC (.one 12) (evB P call (.cmp .eq (.callK tk (.cons (.var 0) (.cons (.cst (.int 6)) .nil)) .nil [.inl 0, .inl 1]) (.cst (.int 0)))) [some (.loc 1), some (.int most), some (.lst (names.map .str)), some (.int fine), some (.loc (u4.length + 1)), some (.lst (shs.map .int)), some (.loc u4.length), g7, some (.int wide), some (.bl (vr == 0)), some (.int pairs), g11, g12, g13, g14, g15, g16, g17]) (f := tgC (.one 12) (ev P call (.var 12)) [some (.loc 1), some (.int most), some (.lst (names.map .str)), some (.int fine), some (.loc (u4.length + 1)), some (.lst (shs.map .int)), some (.loc u4.length), g7, some (.int wide), some (.bl (vr == 0)), some (.int pairs), g11, g12, g13, g14, g15, g16, g17]) (rest := rest ++ [.dct (hKv hs'), .dct (mkv u4.length fine so odds)]) (fun x s _ => by simp) (xs := (names.drop 1).map .str) (strs_tree _) d15 (by
    intro x hx b' s' hb' hd'
    rw [List.length_map, List.length_drop] at hb'
    obtain ⟨w, s2, r1, r2, r3, r4⟩ := D.take _ b' s' 6 hd' (by omega) (by omega) (by omega)
    exact ⟨(w == 0), s2, by simp [permute, r1], r4⟩)
  obtain ⟨es, e1, rfl⟩ := subl_str z2
  rw [List.length_map, List.length_drop] at d16
  obtain ⟨n0, nr, en⟩ : ∃ n0 nr, names = n0 :: nr := by
    cases names with
    | nil => simp at n1; omega
    | cons a r => exact ⟨a, r, rfl⟩
  have s0 : ∀ s : S, semSub (.lst (names.map .str)) (.int 0) s = some (.str n0) := by
    intro s
    rw [en, sub_lst (by omega) (by simp <;> omega)]
    rfl
  have ad := s2_addL (xs := [.str n0]) (ys := es.map .str) t16 (by
    have := e1.length_le
    rw [List.length_drop] at this
    simp
    omega)
  obtain ⟨u16, rfl, d17⟩ := DS_split d16
  have l16 : u16.length = u4.length := by rw [DS_len d17, DS_len d4']
  have pu16 := put_cell1 (s := u16) (kvs := mkv u4.length fine so odds) (y := .dct (hKv hs')) (x := "entries") (v := .lst ([.str n0] ++ es.map .str)) (by simp [mkv])
  have ed2 : dput (.s "entries") (.lst ([.str n0] ++ es.map .str)) (mkv u4.length fine so odds) = mkv u4.length fine so odds ++ [(.str "entries", .lst ([.str n0] ++ es.map .str))] := by rfl
  rw [ed2] at pu16
  let mm : MS := ⟨fine, hs', so, odds, n0 :: es⟩
  refine ⟨mm, u16, ?_, ⟨f1, f2, ?_, ?_, ?_, ?_, ?_, ?_, by simp [mm], so1, so2, o1⟩, DS_mono d17 (by omega)⟩
  · rw [runFn_eq hf (by simp), hk]
    have tr : deepOf s.length (u16 ++ [.dct (hKv hs'), .dct (mkv u4.length fine so odds ++ [(.str "entries", .lst ([.str n0] ++ es.map .str))])]) (u4.length + 1) = some mm.dv := by
      have hN : s.length ≤ u4.length := by show s.length ≤ u4.length; rw [DS_len hs, DS_len d4']; exact Nat.le_refl _
      unfold deepOf
      rw [← l16]
      simp only [get1]
      have tl : treeOf (u16 ++ [.dct (hKv hs'), .dct (mkv u16.length fine so odds ++ [(.str "entries", .lst ([.str n0] ++ es.map .str))])]) (.loc u16.length) = some (.dct (hKv hs')) := by
        unfold treeOf
        simp only [get0, hKv_plain]
        rfl
      simp only [mkv, List.cons_append, List.nil_append, deepKv] at tl ⊢
      rw [if_pos (by rw [l16]; exact hN), tl]
      rfl
    have lv := leave_loc (more := [.dct (hKv hs'), .dct (mkv u4.length fine so odds ++ [(.str "entries", .lst ([.str n0] ++ es.map .str))])]) hs d17 (n := u4.length + 1) (by show s.length ≤ u4.length + 1; rw [DS_len hs, DS_len d4']; omega) tr
    have ie : (1 : Int) + v = ((m : Nat) : Int) := hm
    have emf : ∀ s : S, embedAll [.int 1, .int 2, .int 3, .int 4, .int 10, .int 60, .int 1000] s = .ok [.int 1, .int 2, .int 3, .int 4, .int 10, .int 60, .int 1000] s := fun _ => rfl
    have ems : ∀ s : S, embedAll [.lst [], .lst [.str "m"], .lst [.str "m", .str "story"], .lst [.str "ab", .str "aa"]] s = .ok [.lst [], .lst [.str "m"], .lst [.str "m", .str "story"], .lst [.str "ab", .str "aa"]] s := fun _ => rfl
    have em3 : ∀ (i j k : Int) (s : S), embedAll [.int i, .int j, .int k] s = .ok [.int i, .int j, .int k] s := fun _ _ _ _ => rfl
    have em1s : ∀ (x : Str) (s : S), embedAll [.str x] s = .ok [.str x] s := fun _ _ => rfl
    have em2s : ∀ (x y : Str) (s : S), embedAll [.str x, .str y] s = .ok [.str x, .str y] s := fun _ _ _ => rfl
    have dfn : (dictFrom ([] : List DV)).bind (dictMerge []) = some [] := rfl
    have dfm : (dictFrom [.str "fine", .int fine, .str "houses", .loc t3.length, .str "some", .lst (so.map .str)]).bind (dictMerge []) = some (mk0 u4.length fine so) := by rw [← l4]; rfl
    have lenA : (u4 ++ [Cell.dct []]).length = u4.length + 1 := by simp
    have apA : u4 ++ [Cell.dct []] ++ [Cell.dct (mk0 u4.length fine so)] = u4 ++ [.dct [], .dct (mk0 u4.length fine so)] := by simp
    rw [l5] at pu5
    rw [l16] at pu16
    have eint : ∀ (i : Int) (s : S), embed (.int i) s = .ok (.int i) s := fun _ _ => rfl
    have elst : ∀ (l : List DV) (s : S), embed (.lst l) s = .ok (.lst l) s := fun _ _ => rfl
    have en2 := enum_run (P := P) (call := call) (L := names) (env := [some (.loc 1), some (.int most), some (.lst (names.map .str)), some (.int fine), some (.loc (u4.length + 1)), some (.lst (shs.map .int)), some (.loc u4.length), none, some (.int wide), some (.bl (vr == 0)), some (.int pairs), none, none, none, none, none, none, none]) (s := u12 ++ [.dct [], .dct (mkv u4.length fine so odds)]) rfl (by omega)
    simp only [cLawModel, List.map_cons, List.map_nil, List.length_cons, List.length_nil, List.cons_append, List.nil_append, List.replicate, x_cons, x_par, e_callK, es_cons, es_nil, e_var, slot_ok, slot_succ, bind_ok, e_op2, e_cst, permute, List.append_nil, List.getElem?_cons_zero, List.getElem?_cons_succ, ofO_some, q1, s2_add, ie, q2, e_lst, emf, q3, List.set_cons_succ, List.set_cons_zero, t_nxt, x_set, e_newD, dfn, embedAll_nil, em1s, em2s, ems, q4]
    rw [dfm]
    simp only [ofO_some, bind_ok, List.set_cons_succ, List.set_cons_zero, t_nxt, lenA, apA, x_cons, x_put, e_callK, es_cons, es_nil, e_var, slot_ok, slot_succ, e_lst, e_cst, em3, permute, List.cons_append, List.nil_append, List.append_nil, List.getElem?_cons_zero, List.getElem?_cons_succ, q5, eint, pu5, x_par]
    simp only [E0] at hr g1
    simp only [e_comp (t := .one 7), hr, bind_ok, Sq_ok_fun, g1, noErr_ok, e_sub, e_var, slot_ok, slot_succ, e_cst, rd9, ofO_some, t_nxt, x_cons, x_par3, e_callK, es_cons, es_nil, e_lst, em3, permute, List.cons_append, List.nil_append, List.append_nil, List.getElem?_cons_zero, List.getElem?_cons_succ, q10, e_cmp, q11, sC_eqi, Option.map_some, q12, List.set_cons_succ, List.set_cons_zero, x_for, en2, L]
    simp only [x_put, e_op2, e_lst, es_cons, es_nil, e_sub, e_var, slot_ok, slot_succ, e_cst, bind_ok, s0, ofO_some, em1s, e_comp, r_val, e_slc, if_true, Bool.false_eq_true, if_false, partOf]
    have cu' : semSlc (.lst (names.map .str)) (some 1) none (s4 ++ [.dct (hKv hs'), .dct (mkv u4.length fine so odds)]) = some (.lst ((names.drop 1).map .str)) := cu
    simp only [cu', ofO_some, bind_ok, w_lst, Sq_ok_fun, z1, noErr_ok, ad, elst, pu16, t_nxt, x_cons, x_ret, e_var, slot_ok, slot_succ, t_ret, fnEnd_ret, lv]
  · show (hs'.map (·.1)).Nodup
    rw [k1]; exact n2
  · intro x hx
    exact n3 x (by rw [← k1]; exact hx)
  · show 1 ≤ (hs'.map (·.1)).length
    rw [k1, n1]; omega
  · show (hs'.map (·.1)).length ≤ most
    rw [k1, n1]; omega
  · intro p hp
    show HouseOk (hs'.map (·.1)) fine p.2
    rw [k1]
    exact k2 p hp
  · show (n0 :: es).Sublist (hs'.map (·.1))
    rw [k1, en]
    rw [en] at e1
    exact List.Sublist.cons₂ n0 (by simpa using e1)
end
end WS.I
set_option maxRecDepth 100000
/-! E13: the net of a drawn dict. -/
namespace WS.I
open PySem
theorem distB_nodup : ∀ {ss acc : List Str}, ss.Nodup → (∀ x ∈ ss, x ∉ acc) → distB (acc.map DV.str) (ss.map DV.str) = true
  | [], acc, _, _ => rfl
  | x :: r, acc, h, ha => by
    rw [List.nodup_cons] at h
    simp only [List.map_cons, distB, Bool.and_eq_true, Bool.not_eq_true', List.any_eq_false]
    constructor
    · intro y hy
      obtain ⟨z, hz, rfl⟩ := List.mem_map.mp hy
      have : z ≠ x := fun e => ha x (by simp) (by rw [← e]; exact hz)
      simpa [deq] using this
    · have ih := distB_nodup (ss := r) (acc := acc ++ [x]) h.2 (by
        intro y hy hm
        rcases List.mem_append.mp hm with z | z
        · exact ha y (by simp [hy]) z
        · rw [List.mem_singleton.mp z] at hy
          exact h.1 hy)
      rw [List.map_append] at ih
      exact ih
theorem namesB_strs {ss : List Str} (hn : ss.Nodup) (h : ∀ x ∈ ss, nameB (.str x) = true) : namesB (.lst (ss.map .str)) = true := by
  simp only [namesB, isSeqD, itemsD, Bool.true_and, Bool.and_eq_true, List.all_map, List.all_eq_true]
  exact ⟨fun x hx => h x hx, distB_nodup (acc := []) hn (by simp)⟩
theorem name_okV {P : Pg} {x : Str} (h : nameB (.str x) = true) : okV P (.str x) = true := by
  simp only [nameB, Bool.and_eq_true, decide_eq_true_eq] at h
  simp only [okV, isTree, dvOk, strOk, Bool.and_eq_true, decide_eq_true_eq, true_and]
  unfold LIM
  omega
theorem okI_strs {P : Pg} {ss : List Str} (hl : ss.length < 64) (h : ∀ x ∈ ss, nameB (.str x) = true) : okI P (.lst (ss.map .str)) = true := by
  simp only [okI, Bool.and_eq_true, decide_eq_true_eq]
  refine ⟨⟨⟨rfl, rfl⟩, by simpa [itemsD] using hl⟩, ?_⟩
  simp only [itemsD, List.all_map, List.all_eq_true]
  intro x hx
  exact name_okV (h x hx)
theorem strsD_strs (ss : List Str) : strsD (ss.map DV.str) = ss := by
  unfold strsD
  rw [List.filterMap_map]
  exact List.filterMap_some ..
theorem stOk_app {s : S} {c : Cell} (h : stOk s) (hc : noDct c = true) : stOk (s ++ [c]) := by
  unfold stOk at h ⊢
  rw [List.all_append]
  simp only [List.all_cons, List.all_nil, Bool.and_true, Bool.and_eq_true]
  refine ⟨?_, okCell_of hc⟩
  rw [List.all_eq_true] at h ⊢
  intro c hc
  exact okCell_le (by simp) (h c hc)
/-! ### dicts -/
theorem dget_dput {k q : SK} {v : DV} : ∀ {kvs : List (DV × DV)}, (∀ p ∈ kvs, (skOf p.1).isSome = true) → dget k (dput q v kvs) = if k = q then some v else dget k kvs := by
  intro kvs hk
  rw [dput_keys]
  split
  · rename_i h
    clear hk
    induction kvs with
    | nil => simp at h
    | cons p r ih =>
      simp only [List.map_cons]
      by_cases hp : skOf p.1 = some q
      · rw [if_pos hp]
        unfold dget
        by_cases hkq : k = q
        · subst hkq
          rw [if_pos hp, if_pos rfl]
        · rw [if_neg (by rw [hp]; intro e; exact hkq (Option.some.inj e).symm), if_neg hkq]
          rw [if_neg (by rw [hp]; intro e; exact hkq (Option.some.inj e).symm)]
          by_cases hr : (r.any fun p => decide (skOf p.1 = some q)) = true
          · rw [ih hr, if_neg hkq]
          · have e : r.map (fun p => if skOf p.1 = some q then (p.1, v) else p) = r := by
              conv => rhs; rw [← List.map_id r]
              refine List.map_congr_left fun z hz => ?_
              rw [if_neg]
              · rfl
              · intro e
                exact hr (List.any_eq_true.mpr ⟨z, hz, by simpa using e⟩)
            rw [e]
      · rw [if_neg hp]
        have hr : (r.any fun p => decide (skOf p.1 = some q)) = true := by simpa [hp] using h
        show dget k ((p.1, p.2) :: _) = _
        unfold dget
        by_cases hk2 : skOf p.1 = some k
        · rw [if_pos hk2, if_pos hk2]
          rw [if_neg]
          intro e
          subst e
          exact hp hk2
        · rw [if_neg hk2, if_neg hk2]
          exact ih hr
  · rename_i h
    have go : ∀ {l : List (DV × DV)}, (l.any fun p => decide (skOf p.1 = some q)) = false → dget k (l ++ [(q.dv, v)]) = if k = q then some v else dget k l := by
      intro l
      induction l with
      | nil =>
        intro _
        show (if skOf q.dv = some k then some v else none) = _
        have e : skOf q.dv = some q := by cases q <;> rfl
        rw [e]
        by_cases hkq : k = q
        · subst hkq; simp [dget]
        · rw [if_neg (fun z => hkq (Option.some.inj z).symm), if_neg hkq]; rfl
      | cons p r ih =>
        intro hl
        simp only [List.any_cons, Bool.or_eq_false_iff, decide_eq_false_iff_not] at hl
        show dget k ((p.1, p.2) :: (r ++ [(q.dv, v)])) = _
        unfold dget
        by_cases hk2 : skOf p.1 = some k
        · rw [if_pos hk2, if_pos hk2, if_neg]
          intro e
          subst e
          exact hl.1 hk2
        · rw [if_neg hk2, if_neg hk2]
          exact ih hl.2
    exact go (by simpa using h)
theorem netKvs_get {d : DV} (hk : ∀ p ∈ kvsD d, isStrD p.1 = true) (x : Str) : dget (.s x) (netKvs d) = getD d x := by
  have go : ∀ (ns : List Str) (acc : List (DV × DV)), (∀ p ∈ acc, (skOf p.1).isSome = true) → dget (.s x) (ns.foldl (fun a y => dput (.s y) ((getD d y).getD .non) a) acc) = if x ∈ ns then some ((getD d x).getD .non) else dget (.s x) acc := by
    intro ns
    induction ns with
    | nil => intro acc _; simp
    | cons n r ih =>
      intro acc ha
      rw [List.foldl_cons, ih]
      · by_cases hx : x ∈ r
        · simp [hx]
        · rw [if_neg hx, dget_dput ha]
          by_cases hxn : x = n
          · subst hxn; simp
          · rw [if_neg (by intro e; exact hxn (by cases e; rfl)), if_neg (by simp [hx, hxn])]
      · intro p hp
        rw [dput_keys] at hp
        split at hp
        · obtain ⟨q, hq, e⟩ := List.mem_map.mp hp
          split at e <;> subst e <;> exact ha q hq
        · rcases List.mem_append.mp hp with z | z
          · exact ha p z
          · rw [List.mem_singleton.mp z]; rfl
  unfold netKvs
  rw [go _ _ (by simp)]
  by_cases hx : x ∈ namesS d
  · rw [if_pos hx]
    have : DV.str x ∈ (kvsD d).map (·.1) := mem_strsD.mp (mem_sortS.mp hx)
    obtain ⟨v, h1, _⟩ := dget_mem this
    have h1 : getD d x = some v := h1
    rw [h1]
    rfl
  · rw [if_neg hx]
    cases hg : getD d x with
    | none => rfl
    | some v =>
      exact absurd (mem_sortS.mpr (mem_strsD.mpr (dget_key (by show (getD d x).isSome = true; rw [hg]; rfl)))) hx
/-! ### the data -/
def HouseS.norm (h : HouseS) : HouseS := ⟨h.rules, sortS h.calls, sortS h.lost, h.fails⟩
def madeKv (z : Ix) (hs : List (Str × HouseS)) : List (DV × DV) := hs.map fun p => (.str p.1, p.2.norm.dv z)
def MS.net (z : IxN) (m : MS) : DV := netD z.cN (.int m.fine) (netKvs (.dct (madeKv z.toIx m.houses))) (sortD (.lst (m.entries.map .str)))
def MS.get (m : MS) (x : Str) : Option HouseS := (m.houses.find? fun p => p.1 == x).map (·.2)
theorem made_get (z : Ix) (x : Str) : ∀ hs : List (Str × HouseS), dget (.s x) (madeKv z hs) = ((hs.find? fun p => p.1 == x).map (·.2)).map fun h => h.norm.dv z
  | [] => rfl
  | p :: r => by
    show dget (.s x) ((.str p.1, p.2.norm.dv z) :: madeKv z r) = _
    unfold dget
    by_cases h : p.1 = x
    · rw [if_pos (by simp [skOf, h])]
      simp [h]
    · rw [if_neg (by simp [skOf, h]), made_get z x r]
      have : (p.1 == x) = false := by simpa using h
      simp [this]
theorem hKv_get (x : Str) : ∀ hs : List (Str × HouseS), dget (.s x) (hKv hs) = ((hs.find? fun p => p.1 == x).map (·.2)).map hT
  | [] => rfl
  | p :: r => by
    show dget (.s x) ((.str p.1, hT p.2) :: hKv r) = _
    unfold dget
    by_cases h : p.1 = x
    · rw [if_pos (by simp [skOf, h])]
      simp [h]
    · rw [if_neg (by simp [skOf, h]), hKv_get x r]
      have : (p.1 == x) = false := by simpa using h
      simp [this]
theorem MS.get_mem {m : MS} {x : Str} {h : HouseS} (e : m.get x = some h) : (x, h) ∈ m.houses := by
  unfold MS.get at e
  obtain ⟨p, h1, h2⟩ := Option.map_eq_some_iff.mp e
  have := List.mem_of_find?_eq_some h1
  have hp := List.find?_some h1
  have : p.1 = x := by simpa using hp
  subst this h2
  assumption
theorem MS.get_some {m : MS} {x : Str} : (m.get x).isSome = true ↔ x ∈ m.names := by
  unfold MS.get MS.names
  rw [Option.isSome_map, List.find?_isSome]
  constructor
  · rintro ⟨p, h1, h2⟩
    exact List.mem_map.mpr ⟨p, h1, by simpa using h2⟩
  · intro h
    obtain ⟨p, h1, h2⟩ := List.mem_map.mp h
    exact ⟨p, h1, by simpa using h2⟩
/-! ### the runs -/
def cRulesOf (cR : Nat) : List St := [.ret (.comp (.many [1, 2, 3, 4]) (.mkK cR (.cons (.var 1) .nil) (.cons (.var 2) (.cons (.var 3) (.cons (.var 4) .nil))) [.inl 0, .inl 1, .inl 2, .inl 3]) (.val (.var 0)) (.cst (.bl true)))]
def ntTurn (cH ro : Nat) : List St := [.set 3 (.sub (.sub (.var 0) (.cst (.str "houses"))) (.var 2)), .put (.var 1) (.var 2) (.mkK cH (.cons (.callK ro (.cons (.sub (.var 3) (.cst (.str "rules"))) .nil) .nil [.inl 0]) (.cons (.sub (.var 3) (.cst (.str "calls"))) (.cons (.sub (.var 3) (.cst (.str "lost"))) (.cons (.sub (.var 3) (.cst (.str "fails"))) .nil)))) .nil [.inl 0, .inl 1, .inl 2, .inl 3])]
def cLawNet (cH cN ro : Nat) : List St := [.set 1 (.newD .nil), .forS (.one 2) (.val (.sub (.var 0) (.cst (.str "houses")))) (ntTurn cH ro), .ret (.mkK cN (.cons (.sub (.var 0) (.cst (.str "fine"))) (.cons (.emb (.var 1)) (.cons (.sub (.var 0) (.cst (.str "entries"))) .nil))) .nil [.inl 0, .inl 1, .inl 2])]
section
variable {P : Pg} {keep : Nat → Bool} {z : IxN} (T : NT P keep z)
include T
theorem rule_newG (n : Nat) {r : RuleS} {s : S} (hst : stOk s) (h0 : 0 ≤ r.sh) (h1 : r.sh ≤ 1000) (hw : nameB (.str r.wd) = true) : make P (callFn P keep (n + 2)) z.cR [.int r.sh, .str r.wd, .bl r.al, .bl r.lt] s = .ok (r.dv z.cR) s := by
  have q := rule_make T.toHT n (a := .int r.sh) (b := .str r.wd) (c := .bl r.al) (d := .bl r.lt) hst rfl (name_okV hw) rfl rfl
  have e : ruleBad (.int r.sh) (.str r.wd) (.bl r.al) (.bl r.lt) = none := by
    have e1 : shareB (.int r.sh) = true := by simp [shareB, h0, h1]
    simp [ruleBad, e1, hw, isBlD]
  rw [e] at q
  exact q
theorem okV_ruleG (r : RuleS) : okV P (r.dv z.cR) = true := by simp [okV, isTree, dvOk, T.cR, strOk, RuleS.dv, ruleD]
theorem okV_houseG (h : HouseS) : okV P (h.dv z.toIx) = true := by
  simp [okV, isTree, dvOk, T.cH, strOk, HouseS.dv, houseD]
theorem ValG_houseG (h : HouseS) : ValG P z.toIx (h.dv z.toIx) := ⟨okV_houseG T h, fun _ => ⟨h, rfl⟩⟩
theorem rulesOf_run {ro : Nat} (hf : P.fn ro = some ⟨5, cRulesOf z.cR⟩) (hk : keep ro = false) (n : Nat) {fine : Int} {rs : List RuleS} {s : S} (hst : stOk s) (hfine : fine ≤ 1000) (h : ∀ r ∈ rs, RuleOk fine r) : callFn P keep (n + 3) ro [.lst (rs.map ruleT)] s = .ok (.lst (rs.map (·.dv z.cR))) s := by
  show runFn P keep (callFn P keep (n + 2)) ro _ s = _
  rw [runFn_eq hf (by simp), hk]
  have hm : mapIf (fun _ => True) (tgC (.many [1, 2, 3, 4]) (evB P (callFn P keep (n + 2)) (.cst (.bl true))) [some (.lst (rs.map ruleT)), none, none, none, none]) (tgC (.many [1, 2, 3, 4]) (ev P (callFn P keep (n + 2)) (.mkK z.cR (.cons (.var 1) .nil) (.cons (.var 2) (.cons (.var 3) (.cons (.var 4) .nil))) [.inl 0, .inl 1, .inl 2, .inl 3])) [some (.lst (rs.map ruleT)), none, none, none, none]) (rs.map ruleT) s = .ok (rs.map (·.dv z.cR)) s := by
    rw [mapIf_pure (p := fun _ => true) (g := fun d => match d with | .tup [a, b, c, e] => ruleD z.cR a b c e | _ => .non)]
    · rw [List.filter_eq_self.mpr (by simp), List.map_map]
      rfl
    · intro y hy
      obtain ⟨r, _, rfl⟩ := List.mem_map.mp hy
      rfl
    · intro y hy _
      obtain ⟨r, hr, rfl⟩ := List.mem_map.mp hy
      obtain ⟨r1, r2, r3⟩ := h r hr
      have q := rule_newG T n hst r1 (by omega) r3
      refine ⟨?_, fun k z => by cases z⟩
      have tg : ∀ (k : Env → M DV) (e0 : Option DV), tgC (.many [1, 2, 3, 4]) k [e0, none, none, none, none] (ruleT r) s = k [e0, some (.int r.sh), some (.str r.wd), some (.bl r.al), some (.bl r.lt)] s := fun _ _ => rfl
      rw [tg]
      simp [permute, q]
      rfl
  simp only [cRulesOf, List.map_cons, List.map_nil, List.length_cons, List.length_nil, List.cons_append, List.nil_append, List.replicate, x_cons, x_ret, e_comp, r_val, e_var, slot_ok, bind_ok, w_lst, Sq_ok_fun, hm, noErr_ok, t_ret, fnEnd_ret]
  exact leave_same rfl
/-- House(rules, calls, lost, fails) of a drawn house -/
theorem house_newG (n : Nat) {names : List Str} {fine : Int} {h : HouseS} {s : S} (hst : stOk s) (ho : HouseOk names fine h) (hn : names.Nodup) (hl : names.length ≤ 20) (hnm : ∀ x ∈ names, nameB (.str x) = true) :
    make P (callFn P keep (n + 3)) z.cH [.lst (h.rules.map (·.dv z.cR)), .lst (h.calls.map .str), .lst (h.lost.map .str), .bl h.fails] s = .ok (h.norm.dv z.toIx) s := by
  have lc := ho.calls.length_le
  have ll := ho.lost.length_le
  have nc : ∀ x ∈ h.calls, nameB (.str x) = true := fun x hx => hnm x (ho.calls.subset hx)
  have nl : ∀ x ∈ h.lost, nameB (.str x) = true := fun x hx => nc x (ho.lost.subset hx)
  have dc := ho.calls.nodup hn
  have dl := ho.lost.nodup dc
  have okr : okI P (.lst (h.rules.map (·.dv z.cR))) = true := by
    have := ho.r2
    simp only [okI, Bool.and_eq_true, decide_eq_true_eq]
    refine ⟨⟨⟨rfl, rfl⟩, by simp [itemsD]; omega⟩, ?_⟩
    simp only [itemsD, List.all_map, List.all_eq_true]
    intro r _
    exact okV_ruleG T r
  have q := house_make T.toHT n (a := .lst (h.rules.map (·.dv z.cR))) (b := .lst (h.calls.map .str)) (c := .lst (h.lost.map .str)) (d := .bl h.fails) hst okr (okI_strs (by omega) nc) (okI_strs (by omega) nl) rfl
  have er : rulesB z.cR (.lst (h.rules.map (·.dv z.cR))) = true := by
    have h1 := ho.r1
    have h2 := ho.r2
    simp only [rulesB, isSeqD, itemsD, Bool.true_and, Bool.and_eq_true, decide_eq_true_eq, List.length_map, List.all_map, List.all_eq_true]
    exact ⟨⟨by omega, by omega⟩, fun r _ => by simp [isInsD, RuleS.dv, ruleD]⟩
  have ei : inB (.lst (h.calls.map .str)) (.lst (h.lost.map .str)) = true := by
    simp only [inB, itemsD, List.all_map, List.all_eq_true]
    intro x hx
    simp only [Function.comp, List.any_map, List.any_eq_true]
    exact ⟨x, ho.lost.subset hx, by simp [deq]⟩
  have e : houseBad z.cR (.lst (h.rules.map (·.dv z.cR))) (.lst (h.calls.map .str)) (.lst (h.lost.map .str)) (.bl h.fails) = none := by
    simp [houseBad, er, namesB_strs dc nc, namesB_strs dl nl, ei, isBlD]
  rw [e] at q
  have ef : houseD z.cH (itemsD (.lst (h.rules.map (·.dv z.cR)))) (sortD (.lst (h.calls.map .str))) (sortD (.lst (h.lost.map .str))) (.bl h.fails) = h.norm.dv z.toIx := by
    unfold sortD
    simp only [itemsD, strsD_strs]
    rfl
  rw [ef] at q
  exact q
/-- nothing is wrong with a drawn net -/
theorem net_good {most : Nat} {m : MS} (h : MSok most m) (h8 : most ≤ 8) : netBad z.cH (.int m.fine) (.dct (madeKv z.toIx m.houses)) (.lst (m.entries.map .str)) = none := by
  have f1 := h.f1
  have f2 := h.f2
  have hfine : fineB (.int m.fine) = true := by simp [fineB, f1, f2]
  have kl : (madeKv z.toIx m.houses).length = m.names.length := by simp [madeKv, MS.names]
  have kk : (madeKv z.toIx m.houses).map (·.1) = m.names.map DV.str := by simp [madeKv, MS.names, Function.comp_def]
  have n1 := h.n1
  have n2 := h.n2
  have hnb : namedB (.dct (madeKv z.toIx m.houses)) = true := by
    simp only [namedB, isDctD, kvsD, keysD, kk, kl, Bool.true_and, Bool.and_eq_true, decide_eq_true_eq]
    refine ⟨⟨by omega, by omega⟩, ?_⟩
    rw [List.all_map, List.all_eq_true]
    exact fun x hx => h.nm x hx
  have gt : ∀ x, getD (.dct (madeKv z.toIx m.houses)) x = (m.get x).map fun h => h.norm.dv z.toIx := fun x => made_get z.toIx x m.houses
  have inN : ∀ x ∈ m.names, inDct (.dct (madeKv z.toIx m.houses)) (.str x) = true := by
    intro x hx
    show (getD (.dct (madeKv z.toIx m.houses)) x).isSome = true
    rw [gt, Option.isSome_map]
    exact MS.get_some.mpr hx
  have find0 : ∀ p : DV → Bool, (∀ x hh, m.get x = some hh → p (hh.norm.dv z.toIx) = false) → (namesS (.dct (madeKv z.toIx m.houses))).find? (atB (.dct (madeKv z.toIx m.houses)) p) = none := by
    intro p hp
    rw [List.find?_eq_none]
    intro x _
    unfold atB
    rw [gt]
    cases hg : m.get x with
    | none => simp
    | some hh => simp [hp x hh hg]
  have hb : housesBad z.cH (fineI (.int m.fine)) (.dct (madeKv z.toIx m.houses)) = none := by
    unfold housesBad
    rw [if_neg (by simp [hnb]), find0 _ (fun x hh _ => by simp [isInsD, HouseS.dv, houseD])]
    simp only
    rw [find0 _ (fun x hh hg => ?_)]
    · simp only
      rw [find0 _ (fun x hh hg => ?_)]
      · have ho := h.hs _ (MS.get_mem hg)
        show (!(hh.norm.calls.map DV.str).all (inDct (.dct (madeKv z.toIx m.houses)))) = false
        simp only [Bool.not_eq_false', List.all_map, List.all_eq_true]
        intro y hy
        exact inN y (ho.calls.subset (mem_sortS.mp hy))
    · have ho := h.hs _ (MS.get_mem hg)
      show ((hh.norm.rules.map (·.dv z.cR)).any fun r => decide (m.fine < shareV r)) = false
      rw [List.any_map, List.any_eq_false]
      intro r hr
      have := (ho.rules r hr).hi
      simp only [Function.comp, decide_eq_true_eq]
      show ¬ (m.fine < r.sh)
      omega
  have hent : entB (.dct (madeKv z.toIx m.houses)) (.lst (m.entries.map .str)) = true := by
    have ne : ∀ x ∈ m.entries, nameB (.str x) = true := fun x hx => h.nm x (h.en.subset hx)
    simp only [entB, namesB_strs (h.en.nodup h.nd) ne, itemsD, Bool.true_and, Bool.and_eq_true, Bool.not_eq_true', beq_eq_false_iff_ne, ne_eq, List.length_map, List.all_map, List.all_eq_true]
    refine ⟨?_, fun x hx => inN x (h.en.subset hx)⟩
    intro e
    exact h.e1 (List.length_eq_zero_iff.mp e)
  unfold netBad
  rw [if_neg (by simp [hfine]), hb]
  simp only
  rw [if_neg (by simp [hent])]
theorem made_dictG {most : Nat} {m : MS} (h : MSok most m) (h8 : most ≤ 8) : DictG P z.toIx (.dct (madeKv z.toIx m.houses)) where
  ok := rfl
  keys := by
    have n2 := h.n2
    have kk : (madeKv z.toIx m.houses).map (·.1) = m.names.map DV.str := by simp [madeKv, MS.names, Function.comp_def]
    show ((madeKv z.toIx m.houses).map (·.1)).all (okV P) = true
    rw [kk, List.all_map, List.all_eq_true]
    exact fun x hx => name_okV (h.nm x hx)
  len := by
    have n2 := h.n2
    have kl : (madeKv z.toIx m.houses).length = m.names.length := by simp [madeKv, MS.names]
    show (madeKv z.toIx m.houses).length < 64
    omega
  vals := fun p hp => by
    obtain ⟨q, _, rfl⟩ := List.mem_map.mp (show p ∈ madeKv z.toIx m.houses from hp)
    exact ValG_houseG T _
theorem lawNet_run {f ro : Nat} (hf : P.fn f = some ⟨4, cLawNet z.cH z.cN ro⟩) (hk : keep f = false) (hro : P.fn ro = some ⟨5, cRulesOf z.cR⟩) (hkr : keep ro = false) (n : Nat) {most : Nat} {m : MS} {s : S} (hst : stOk s) (h : MSok most m) (h8 : most ≤ 8) :
    callFn P keep (n + 5) f [m.dv] s = .ok (m.net z) s := by
  show runFn P keep (callFn P keep (n + 4)) f [m.dv] s = _
  rw [runFn_eq hf (by simp), hk]
  have n2 := h.n2
  have su : ∀ (x : Str) (v : DV), dget (.s x) (kvsD m.dv) = some v → ∀ s : S, semSub m.dv (.str x) s = some v := fun x v hv s => hv
  have sh := su "houses" (.dct (hKv m.houses)) (by rfl)
  have sf := su "fine" (.int m.fine) (by rfl)
  have se := su "entries" (.lst (m.entries.map .str)) (by rfl)
  have hkeys : (hKv m.houses).map (·.1) = m.names.map DV.str := by simp [hKv, MS.names, Function.comp_def]
  obtain ⟨E, sE, L, hs', g2, g3, rfl, rfl, k1⟩ := forL_inv (f := tgB (.one 2) (exSs P (callFn P keep (n + 4)) (ntTurn z.cH ro))) (I := fun i env st => ∃ (hs' : List (Str × HouseS)) (g2 g3 : Option DV), env = [some m.dv, some (.loc s.length), g2, g3] ∧ st = s ++ [.dct (madeKv z.toIx hs')] ∧ hs' = m.houses.take i) (xs := m.names.map DV.str) (i := 0) (s := s ++ [.dct []]) (env := [some m.dv, some (.loc s.length), none, none])
    ⟨[], none, none, rfl, rfl, by simp⟩ (by
      rintro j y env st hy ⟨hs', g2, g3, rfl, rfl, k1⟩
      have hj : j < m.houses.length := by
        have := (List.getElem?_eq_some_iff.mp hy).1
        simpa [MS.names] using this
      obtain ⟨p, hp⟩ : ∃ p, m.houses[j]? = some p := ⟨_, List.getElem?_eq_getElem hj⟩
      have ey : y = .str p.1 := by
        simp only [MS.names, List.map_map, List.getElem?_map, hp, Option.map_some, Function.comp, Option.some.injEq] at hy
        exact hy.symm
      subst ey
      have hpm : p ∈ m.houses := List.mem_of_getElem? hp
      have gp : m.get p.1 = some p.2 := by
        have : (m.get p.1).isSome = true := MS.get_some.mpr (List.mem_map.mpr ⟨p, hpm, rfl⟩)
        obtain ⟨h', e⟩ := Option.isSome_iff_exists.mp this
        have hm' := MS.get_mem e
        have : h' = p.2 := by
          obtain ⟨i1, hi1, e1⟩ := List.getElem_of_mem hm'
          have e2 : m.houses[j] = p := by rw [List.getElem?_eq_getElem hj] at hp; exact Option.some.inj hp
          have inj := (List.getElem_inj (xs := m.names) (h₀ := by simpa [MS.names] using hi1) (h₁ := by simpa [MS.names] using hj) h.nd).mp (by simp [MS.names, e1, e2])
          subst inj
          rw [e2] at e1
          rw [e1]
        rw [e, this]
      have sg : ∀ s : S, semSub (.dct (hKv m.houses)) (.str p.1) s = some (hT p.2) := by
        intro s
        rw [sub_dct, hKv_get]
        have gp' : (m.houses.find? fun q => q.1 == p.1).map (·.2) = some p.2 := gp
        rw [gp']
        rfl
      have ho := h.hs p hpm
      have s1 : ∀ s : S, semSub (hT p.2) (.str "rules") s = some (.lst (p.2.rules.map ruleT)) := fun _ => rfl
      have s2 : ∀ s : S, semSub (hT p.2) (.str "calls") s = some (.lst (p.2.calls.map .str)) := fun _ => rfl
      have s3 : ∀ s : S, semSub (hT p.2) (.str "lost") s = some (.lst (p.2.lost.map .str)) := fun _ => rfl
      have s4 : ∀ s : S, semSub (hT p.2) (.str "fails") s = some (.bl p.2.fails) := fun _ => rfl
      have pl : plainKv (madeKv z.toIx hs') = true := by
        generalize hs' = l
        induction l with
        | nil => rfl
        | cons q r ih =>
          show plainKv ((.str q.1, q.2.norm.dv z.toIx) :: madeKv z.toIx r) = true
          simpa [plainKv, HouseS.dv, houseD] using ih
      have st1 := stOk_app (c := .dct (madeKv z.toIx hs')) hst pl
      have r1 := rulesOf_run T hro hkr (n + 1) st1 h.f2 ho.rules
      have hn := house_newG T (n + 1) st1 ho h.nd (by omega) h.nm
      have hl' : (madeKv z.toIx hs').length < 1000000 := by
        have e1 : (madeKv z.toIx hs').length = hs'.length := by simp [madeKv]
        have e2 : hs'.length ≤ m.houses.length := by rw [k1]; simp; omega
        have e3 : m.houses.length = m.names.length := by simp [MS.names]
        omega
      have pu : putAt (.loc s.length) (.str p.1) (p.2.norm.dv z.toIx) (s ++ [.dct (madeKv z.toIx hs')]) = .ok () (s ++ [.dct (dput (.s p.1) (p.2.norm.dv z.toIx) (madeKv z.toIx hs'))]) := by
        unfold putAt
        simp only [List.getElem?_append_right (Nat.le_refl _), Nat.sub_self, List.getElem?_cons_zero, skOf]
        rw [if_pos (by unfold LIM; omega)]
        simp
      have nx : p.1 ∉ hs'.map (·.1) := by
        rw [k1]
        simp only [Nat.zero_add]
        intro hmem
        obtain ⟨q, hq, e⟩ := List.mem_map.mp hmem
        obtain ⟨i, hi, e'⟩ := List.getElem_of_mem hq
        rw [List.length_take] at hi
        rw [List.getElem_take] at e'
        have e2 : m.houses[j] = p := by rw [List.getElem?_eq_getElem hj] at hp; exact Option.some.inj hp
        have hil : i < m.names.length := by simp only [MS.names, List.length_map]; omega
        have hjl : j < m.names.length := by simpa [MS.names] using hj
        have inj : i = j := (List.getElem_inj (xs := m.names) (h₀ := hil) (h₁ := hjl) h.nd).mp (by simp [MS.names, e', e2, e])
        omega
      have dn : dput (.s p.1) (p.2.norm.dv z.toIx) (madeKv z.toIx hs') = madeKv z.toIx (hs' ++ [p]) := by
        rw [dput_keys, if_neg]
        · simp [madeKv]
        · simp only [List.any_eq_true, not_exists, not_and, decide_eq_true_eq, madeKv, List.mem_map]
          rintro w ⟨q, hq, rfl⟩ e
          have : q.1 = p.1 := by simpa [skOf] using e
          exact nx (List.mem_map.mpr ⟨q, hq, this⟩)
      rw [dn] at pu
      refine ⟨[some m.dv, some (.loc s.length), some (.str p.1), some (hT p.2)], s ++ [.dct (madeKv z.toIx (hs' ++ [p]))], .inl ?_, hs' ++ [p], some (.str p.1), some (hT p.2), rfl, rfl, ?_⟩
      · simp only [ntTurn, tgB_one, List.set_cons_succ, List.set_cons_zero, x_cons, x_set, e_sub, e_var, slot_ok, slot_succ, e_cst, bind_ok, sh, ofO_some, sg, t_nxt, x_put, e_mkK, es_cons, es_nil, e_callK, s1, s2, s3, s4, permute, List.cons_append, List.nil_append, List.append_nil, List.getElem?_cons_zero, List.getElem?_cons_succ, r1, hn, em_house, pu, x_nil]
      · simp only [Nat.zero_add] at k1 ⊢
        rw [k1, List.take_add_one, hp]
        rfl)
  have hlm : (m.names.map DV.str).length = m.houses.length := by simp [MS.names]
  rw [hlm, Nat.zero_add, List.take_length] at k1
  subst k1
  have plF : plainKv (madeKv z.toIx m.houses) = true := by
    generalize m.houses = l
    induction l with
    | nil => rfl
    | cons q r ih =>
      show plainKv ((.str q.1, q.2.norm.dv z.toIx) :: madeKv z.toIx r) = true
      simpa [plainKv, HouseS.dv, houseD] using ih
  have em : embed (.loc s.length) (s ++ [.dct (madeKv z.toIx m.houses)]) = .ok (.dct (madeKv z.toIx m.houses)) (s ++ [.frz (.dct (madeKv z.toIx m.houses))]) := by
    unfold embed
    simp only [List.getElem?_append_right (Nat.le_refl _), Nat.sub_self, List.getElem?_cons_zero, plF, if_true]
    simp
  have ne : ∀ x ∈ m.entries, nameB (.str x) = true := fun x hx => h.nm x (h.en.subset hx)
  have le := h.en.length_le
  have nm := net_make T n (g := .int m.fine) (d := .dct (madeKv z.toIx m.houses)) (e := .lst (m.entries.map .str)) (s := s ++ [.frz (.dct (madeKv z.toIx m.houses))]) (stOk_app hst rfl) rfl (made_dictG T h h8) (okI_strs (by omega) ne)
  rw [net_good T h h8] at nm
  have df : (dictFrom ([] : List DV)).bind (dictMerge []) = some [] := rfl
  simp only [cLawNet, List.map_cons, List.map_nil, List.length_cons, List.length_nil, List.cons_append, List.nil_append, List.replicate, x_cons, x_set, e_newD, es_nil, df, ofO_some, bind_ok, List.set_cons_succ, List.set_cons_zero, t_nxt, x_for, r_val, e_sub, e_var, slot_ok, slot_succ, e_cst, sh, w_dct, hkeys, Sq_ok_fun, L, x_ret, e_mkK, es_cons, sf, e_emb, em, se, permute, List.append_nil, List.getElem?_cons_zero, List.getElem?_cons_succ, nm, t_ret, fnEnd_ret]
  exact leave_new rfl
end
end WS.I
/-! the core code of the law's defs; what a table must say -/
namespace WS.k01
open PySem
def c0 : List St := [.set 1 (.new (.comp (.one 2) (.op2 .sub (.prim .abs (.cons (.var 2) .nil)) (.op2 .pow (.cst (.int 10)) (.cst (.int 18)))) (.val (.var 0)) (.cmp .ge (.prim .abs (.cons (.var 2) .nil)) (.op2 .pow (.cst (.int 10)) (.cst (.int 18)))))), .ret (.newD (.cons (.cst (.str "wide")) (.cons (.var 1) (.cons (.cst (.str "cells")) (.cons (.comp (.one 2) (.op2 .md (.prim .int (.cons (.prim .abs (.cons (.var 2) .nil)) .nil)) (.cst (.int 2147483629))) (.val (.var 0)) (.cst (.bl true))) (.cons (.cst (.str "rest")) (.cons (.cst (.int 0)) (.cons (.cst (.str "turn")) (.cons (.cst (.int 0)) .nil)))))))))]
def c1 : List St := [.par 1 2 (.op2 .add (.sub (.var 0) (.cst (.str "turn"))) (.cst (.int 1))) (.cst (.int 0)), .put (.var 0) (.cst (.str "turn")) (.var 1), .forS (.one 3) (.val (.lst (.cons (.cst (.int 2147483629)) (.cons (.cst (.int 2147483587)) (.cons (.cst (.int 2147483579)) (.cons (.cst (.int 2147483563)) .nil)))))) [.set 4 (.op2 .add (.op2 .mul (.cst (.int 61441)) (.var 1)) (.op2 .fdiv (.var 3) (.cst (.int 19)))), .forS (.one 5) (.val (.sub (.var 0) (.cst (.str "cells")))) [.set 4 (.op2 .md (.prim .int (.cons (.op2 .add (.op2 .add (.op2 .mul (.var 4) (.cst (.int 48271))) (.var 5)) (.var 1)) .nil)) (.var 3))], .set 2 (.op2 .add (.op2 .mul (.var 2) (.cst (.int 2147483647))) (.op2 .md (.prim .int (.cons (.op2 .pow (.var 4) (.cst (.int 5))) .nil)) (.var 3)))], .ret (.var 2)]
def c2 : List St := [.ife (.cmp .eq (.sub (.var 0) (.cst (.str "rest"))) (.cst (.int 0))) [.put (.var 0) (.cst (.str "rest")) (.ite (.cmp .ne (.sub (.var 0) (.cst (.str "wide"))) (.lst .nil)) (.pop0 (.sub (.var 0) (.cst (.str "wide")))) (.callK 1 (.cons (.var 0) .nil) .nil [.inl 0]))] [], .set 2 (.op2 .md (.prim .int (.cons (.sub (.var 0) (.cst (.str "rest"))) .nil)) (.var 1)), .put (.var 0) (.cst (.str "rest")) (.op2 .fdiv (.sub (.var 0) (.cst (.str "rest"))) (.var 1)), .ret (.var 2)]
def c3 : List St := [.ret (.sub (.var 1) (.callK 2 (.cons (.var 0) (.cons (.prim .len (.cons (.var 1) .nil)) .nil)) .nil [.inl 0, .inl 1]))]
def c4 : List St := []
def c5 : List St := [.set 1 (.lst .nil), .forS (.one 2) (.range (.callK 2 (.cons (.var 0) (.cons (.cst (.int 15)) .nil)) .nil [.inl 0, .inl 1])) [.set 1 (.lst (.cons (.var 1) (.cons (.var 2) .nil)))], .set 3 (.lst (.cons (.cst .non) (.cons (.cst (.bl true)) (.cons (.cst (.bl false)) (.cons (.neg (.cst (.int 2))) (.cons (.cst (.int 0)) (.cons (.cst (.int 4)) (.cons (.op2 .pow (.cst (.int 10)) (.cst (.int 30))) (.cons (.cst (.str "")) (.cons (.cst (.str "a")) (.cons (.cst (.str "share")) (.cons (.cst (.str "A")) (.cons (.cst (.str "two\nlines")) (.cons (.tup .nil) (.cons (.tup (.cons (.cst (.int 0)) .nil)) (.cons (.lst .nil) (.cons (.lst (.cons (.cst (.int 1)) .nil)) (.cons (.dct .nil) (.cons (.dct (.cons (.cst (.int 1)) (.cons (.cst (.int 2)) .nil))) .nil))))))))))))))))))), .set 3 (.op2 .add (.var 3) (.lst (.cons (.op2 .pow (.cst (.int 10)) (.cst (.int 60))) (.cons (.neg (.op2 .pow (.cst (.int 10)) (.cst (.int 60)))) (.cons (.op2 .mul (.cst (.str "A")) (.callK 2 (.cons (.var 0) (.cons (.cst (.int 60)) .nil)) .nil [.inl 0, .inl 1])) (.cons (.var 1) (.cons (.dct (.cons (.cst (.str "a")) (.cons (.lst (.cons (.cst (.int 1)) (.cons (.tup (.cons (.cst (.int 2)) .nil)) .nil))) .nil))) (.cons (.tup (.cons (.cst (.str "a")) (.cons (.tup (.cons (.cst (.str "b")) (.cons (.cst .non) .nil))) .nil))) .nil)))))))), .ret (.callK 3 (.cons (.var 0) (.cons (.op2 .add (.var 3) (.op2 .mul (.lst (.cons (.tup (.cons (.cst (.str "a")) (.cons (.cst (.int 0)) (.cons (.cst (.bl false)) (.cons (.tup .nil) .nil))))) .nil)) (.cst (.int 3)))) .nil)) .nil [.inl 0, .inl 1])]
def c6 : List St := [.set 1 (.lst (.cons (.mkX 1 (.cons (.var 0) .nil) .nil [.inl 0]) (.cons (.mkX 2 (.cons (.var 0) .nil) .nil [.inl 0]) (.cons (.mkX 4 (.cons (.var 0) .nil) .nil [.inl 0]) (.cons (.mkX 5 (.cons (.var 0) .nil) .nil [.inl 0]) (.cons (.mkX 6 (.cons (.var 0) .nil) .nil [.inl 0]) (.cons (.mkX 8 (.cons (.var 0) .nil) .nil [.inl 0]) (.cons (.mkX 9 (.cons (.var 0) .nil) .nil [.inl 0]) .nil)))))))), .set 1 (.op2 .add (.var 1) (.lst (.cons (.mkX 10 (.cons (.var 0) .nil) .nil [.inl 0]) (.cons (.mkX 12 (.cons (.var 0) .nil) .nil [.inl 0]) (.cons (.mkX 13 (.cons (.var 0) .nil) .nil [.inl 0]) (.cons (.mkX 16 (.cons (.var 0) .nil) .nil [.inl 0]) (.cons (.mkX 17 (.cons (.var 0) .nil) .nil [.inl 0]) (.cons (.mkX 19 (.cons (.var 0) .nil) .nil [.inl 0]) .nil)))))))), .ret (.op2 .add (.var 1) (.lst (.cons (.mkX 20 (.cons (.var 0) .nil) .nil [.inl 0]) (.cons (.mkX 23 (.cons (.var 0) .nil) .nil [.inl 0]) (.cons (.mkX 24 (.cons (.var 0) .nil) .nil [.inl 0]) .nil)))))]
def c7 : List St := [.set 1 (.lst (.cons (.mkX 1 .nil (.cons (.var 0) .nil) [.inl 0]) (.cons (.mkX 2 .nil (.cons (.var 0) .nil) [.inl 0]) (.cons (.mkX 4 .nil (.cons (.var 0) .nil) [.inl 0]) (.cons (.mkX 5 .nil (.cons (.var 0) .nil) [.inl 0]) (.cons (.mkX 6 .nil (.cons (.var 0) .nil) [.inl 0]) .nil)))))), .set 1 (.op2 .add (.var 1) (.lst (.cons (.mkX 8 .nil (.cons (.var 0) .nil) [.inl 0]) (.cons (.mkX 9 .nil (.cons (.var 0) .nil) [.inl 0]) (.cons (.mkX 10 .nil (.cons (.var 0) .nil) [.inl 0]) (.cons (.mkX 12 .nil (.cons (.var 0) .nil) [.inl 0]) (.cons (.mkX 13 .nil (.cons (.var 0) .nil) [.inl 0]) .nil))))))), .set 1 (.op2 .add (.var 1) (.lst (.cons (.mkX 16 .nil (.cons (.var 0) .nil) [.inl 0]) (.cons (.mkX 17 .nil (.cons (.var 0) .nil) [.inl 0]) (.cons (.mkX 19 .nil (.cons (.var 0) .nil) [.inl 0]) (.cons (.mkX 20 .nil (.cons (.var 0) .nil) [.inl 0]) (.cons (.mkX 23 .nil (.cons (.var 0) .nil) [.inl 0]) .nil))))))), .ret (.op2 .add (.var 1) (.lst (.cons (.mkX 24 .nil (.cons (.var 0) .nil) [.inl 0]) .nil)))]
def c8 : List St := [.set 1 (.lst (.cons (.attr (.sub (.var 0) (.cst (.int 0))) "field") (.cons (.attr (.sub (.var 0) (.cst (.int 1))) "field") (.cons (.attr (.sub (.var 0) (.cst (.int 2))) "house") (.cons (.attr (.sub (.var 0) (.cst (.int 3))) "house") (.cons (.attr (.sub (.var 0) (.cst (.int 4))) "path") (.cons (.attr (.sub (.var 0) (.cst (.int 5))) "path") (.cons (.attr (.sub (.var 0) (.cst (.int 6))) "word") .nil)))))))), .set 1 (.op2 .add (.var 1) (.lst (.cons (.attr (.sub (.var 0) (.cst (.int 7))) "stand") (.cons (.attr (.sub (.var 0) (.cst (.int 8))) "key") (.cons (.attr (.sub (.var 0) (.cst (.int 9))) "house") (.cons (.attr (.sub (.var 0) (.cst (.int 10))) "number") (.cons (.attr (.sub (.var 0) (.cst (.int 11))) "at") (.cons (.attr (.sub (.var 0) (.cst (.int 12))) "field") .nil)))))))), .ret (.op2 .add (.var 1) (.lst (.cons (.attr (.sub (.var 0) (.cst (.int 13))) "path") (.cons (.attr (.sub (.var 0) (.cst (.int 14))) "at") (.cons (.attr (.sub (.var 0) (.cst (.int 15))) "line") .nil)))))]
def c9 : List St := [.set 3 (.lst (.cons (.mkX 3 (.cons (.var 0) (.cons (.var 1) .nil)) .nil [.inl 0, .inl 1]) (.cons (.mkX 14 (.cons (.var 0) (.cons (.var 1) .nil)) .nil [.inl 0, .inl 1]) (.cons (.mkX 21 (.cons (.var 0) (.cons (.var 1) .nil)) .nil [.inl 0, .inl 1]) .nil)))), .ife (.var 2) [.set 3 (.lst (.cons (.mkX 3 .nil (.cons (.var 1) (.cons (.var 0) .nil)) [.inl 1, .inl 0]) (.cons (.mkX 14 .nil (.cons (.var 1) (.cons (.var 0) .nil)) [.inl 1, .inl 0]) (.cons (.mkX 21 .nil (.cons (.var 1) (.cons (.var 0) .nil)) [.inl 1, .inl 0]) .nil))))] [], .ret (.op2 .add (.var 3) (.lst (.cons (.mkX0 7 (.cst (.str "a"))) (.cons (.mkX0 11 (.cst (.str "a"))) (.cons (.mkX0 15 (.cst (.str "a"))) (.cons (.mkX0 18 (.cst (.str "a"))) (.cons (.mkX0 22 (.cst (.str "a"))) .nil)))))))]
def c10 : List St := [.set 1 (.lst (.cons (.attr (.sub (.var 0) (.cst (.int 0))) "field") (.cons (.attr (.sub (.var 0) (.cst (.int 0))) "house") (.cons (.attr (.sub (.var 0) (.cst (.int 1))) "one") (.cons (.attr (.sub (.var 0) (.cst (.int 1))) "other") .nil))))), .ret (.op2 .add (.var 1) (.lst (.cons (.attr (.sub (.var 0) (.cst (.int 2))) "house") (.cons (.attr (.sub (.var 0) (.cst (.int 2))) "other") .nil))))]
def c11 : List St := [.set 1 (.lst (.cons (.isi (.var 0) [(.exc 1)]) (.cons (.isi (.var 0) [(.exc 2)]) (.cons (.isi (.var 0) [(.exc 4)]) .nil)))), .set 1 (.op2 .add (.var 1) (.lst (.cons (.isi (.var 0) [(.exc 5)]) (.cons (.isi (.var 0) [(.exc 6)]) (.cons (.isi (.var 0) [(.exc 8)]) .nil))))), .set 1 (.op2 .add (.var 1) (.lst (.cons (.isi (.var 0) [(.exc 9)]) (.cons (.isi (.var 0) [(.exc 10)]) (.cons (.isi (.var 0) [(.exc 12)]) .nil))))), .set 1 (.op2 .add (.var 1) (.lst (.cons (.isi (.var 0) [(.exc 13)]) (.cons (.isi (.var 0) [(.exc 16)]) (.cons (.isi (.var 0) [(.exc 17)]) .nil))))), .set 1 (.op2 .add (.var 1) (.lst (.cons (.isi (.var 0) [(.exc 19)]) (.cons (.isi (.var 0) [(.exc 20)]) (.cons (.isi (.var 0) [(.exc 23)]) .nil))))), .set 1 (.op2 .add (.var 1) (.lst (.cons (.isi (.var 0) [(.exc 24)]) (.cons (.isi (.var 0) [(.exc 3)]) (.cons (.isi (.var 0) [(.exc 14)]) .nil))))), .set 1 (.op2 .add (.var 1) (.lst (.cons (.isi (.var 0) [(.exc 21)]) (.cons (.isi (.var 0) [(.exc 7)]) (.cons (.isi (.var 0) [(.exc 11)]) .nil))))), .ret (.op2 .add (.var 1) (.lst (.cons (.isi (.var 0) [(.exc 15)]) (.cons (.isi (.var 0) [(.exc 18)]) (.cons (.isi (.var 0) [(.exc 22)]) .nil)))))]
def c12 : List St := [.rais 12 (.cons (.var 0) .nil)]
def c13 : List St := [.set 1 (.callK 0 (.cons (.var 0) .nil) .nil [.inl 0]), .forS (.one 2) (.range (.op2 .add (.cst (.int 3)) (.prim .min2 (.cons (.prim .len (.cons (.var 0) .nil)) (.cons (.cst (.int 12)) .nil))))) [.par 3 4 (.callK 5 (.cons (.var 1) .nil) .nil [.inl 0]) (.callK 5 (.cons (.var 1) .nil) .nil [.inl 0]), .forS (.one 5) (.val (.lst (.cons (.cst (.bl false)) (.cons (.cst (.bl true)) .nil)))) [.set 6 (.ite (.var 5) (.callK 7 (.cons (.var 3) .nil) .nil [.inl 0]) (.callK 6 (.cons (.var 3) .nil) .nil [.inl 0])), .set 7 (.callK 9 (.cons (.var 3) (.cons (.var 4) (.cons (.var 5) .nil))) .nil [.inl 0, .inl 1, .inl 2]), .ife (.cmp .ne (.prim .repr (.cons (.callK 8 (.cons (.var 6) .nil) .nil [.inl 0]) .nil)) (.prim .repr (.cons (.op2 .mul (.lst (.cons (.var 3) .nil)) (.cst (.int 16))) .nil))) [.ret (.cst (.bl false))] [], .ife (.cmp .ne (.prim .repr (.cons (.callK 10 (.cons (.var 7) .nil) .nil [.inl 0]) .nil)) (.prim .repr (.cons (.op2 .mul (.lst (.cons (.var 3) (.cons (.var 4) .nil))) (.cst (.int 3))) .nil))) [.ret (.cst (.bl false))] [], .forS (.many [8, 9]) (.enum (.op2 .add (.var 6) (.var 7))) [.ife (.or (.not (.isi (.var 9) [(.exc 0)])) (.not (.isi (.var 9) [.valueError]))) [.ret (.cst (.bl false))] [], .ife (.cmp .ne (.callK 11 (.cons (.var 9) .nil) .nil [.inl 0]) (.comp (.one 10) (.cmp .eq (.var 10) (.var 8)) (.range (.cst (.int 24))) (.cst (.bl true)))) [.ret (.cst (.bl false))] []]], .set 11 (.lam 4 (.callK 12 (.cons (.var 3) .nil) .nil [.inl 0])), .ife (.or (.not (.isi (.var 11) [(.exc 12)])) (.cmp .ne (.prim .repr (.cons (.attr (.var 11) "key") .nil)) (.prim .repr (.cons (.var 3) .nil)))) [.ret (.cst (.bl false))] []], .ret (.cst (.bl true))]
structure Tbl (P : Pg) (keep : Nat → Bool) : Prop where
  f0 : P.fn 0 = some ⟨3, c0⟩
  k0 : keep 0 = true
  f1 : P.fn 1 = some ⟨6, c1⟩
  k1 : keep 1 = false
  f2 : P.fn 2 = some ⟨3, c2⟩
  k2 : keep 2 = false
  f3 : P.fn 3 = some ⟨2, c3⟩
  k3 : keep 3 = false
  cat4 : P.catches 4 = some 0
  f5 : P.fn 5 = some ⟨4, c5⟩
  k5 : keep 5 = false
  f6 : P.fn 6 = some ⟨2, c6⟩
  k6 : keep 6 = false
  f7 : P.fn 7 = some ⟨2, c7⟩
  k7 : keep 7 = false
  f8 : P.fn 8 = some ⟨2, c8⟩
  k8 : keep 8 = false
  f9 : P.fn 9 = some ⟨4, c9⟩
  k9 : keep 9 = false
  f10 : P.fn 10 = some ⟨2, c10⟩
  k10 : keep 10 = false
  f11 : P.fn 11 = some ⟨2, c11⟩
  k11 : keep 11 = false
  f12 : P.fn 12 = some ⟨1, c12⟩
  k12 : keep 12 = false
  f13 : P.fn 13 = some ⟨12, c13⟩
  k13 : keep 13 = false
  ex0 : P.ex 0 = some ([] : List Str)
  up0 : P.up 0 = [0]
  ex1 : P.ex 1 = some (["field"] : List Str)
  up1 : P.up 1 = [1, 0]
  ex2 : P.ex 2 = some (["field"] : List Str)
  up2 : P.up 2 = [2, 0]
  ex3 : P.ex 3 = some (["field", "house"] : List Str)
  up3 : P.up 3 = [3, 0]
  ex4 : P.ex 4 = some (["house"] : List Str)
  up4 : P.up 4 = [4, 0]
  ex5 : P.ex 5 = some (["house"] : List Str)
  up5 : P.up 5 = [5, 0]
  ex6 : P.ex 6 = some (["path"] : List Str)
  up6 : P.up 6 = [6, 0]
  ex7 : P.ex 7 = some ([] : List Str)
  up7 : P.up 7 = [7, 0]
  ex8 : P.ex 8 = some (["path"] : List Str)
  up8 : P.up 8 = [8, 0]
  ex9 : P.ex 9 = some (["word"] : List Str)
  up9 : P.up 9 = [9, 0]
  ex10 : P.ex 10 = some (["stand"] : List Str)
  up10 : P.up 10 = [10, 0]
  ex11 : P.ex 11 = some ([] : List Str)
  up11 : P.up 11 = [11, 0]
  ex12 : P.ex 12 = some (["key"] : List Str)
  up12 : P.up 12 = [12, 0]
  ex13 : P.ex 13 = some (["house"] : List Str)
  up13 : P.up 13 = [13, 0]
  ex14 : P.ex 14 = some (["one", "other"] : List Str)
  up14 : P.up 14 = [14, 0]
  ex15 : P.ex 15 = some ([] : List Str)
  up15 : P.up 15 = [15, 0]
  ex16 : P.ex 16 = some (["number"] : List Str)
  up16 : P.up 16 = [16, 0]
  ex17 : P.ex 17 = some (["at"] : List Str)
  up17 : P.up 17 = [17, 0]
  ex18 : P.ex 18 = some ([] : List Str)
  up18 : P.up 18 = [18, 0]
  ex19 : P.ex 19 = some (["field"] : List Str)
  up19 : P.up 19 = [19, 0]
  ex20 : P.ex 20 = some (["path"] : List Str)
  up20 : P.up 20 = [20, 0]
  ex21 : P.ex 21 = some (["house", "other"] : List Str)
  up21 : P.up 21 = [21, 0]
  ex22 : P.ex 22 = some ([] : List Str)
  up22 : P.up 22 = [22, 0]
  ex23 : P.ex 23 = some (["at"] : List Str)
  up23 : P.up 23 = [23, 0]
  ex24 : P.ex 24 = some (["line"] : List Str)
  up24 : P.up 24 = [24, 0]
end WS.k01
set_option maxRecDepth 100000
/-! k01: what is drawn. -/
namespace WS.k01
open PySem WS.I
/-- a value that is handed to an error -/
def okA (d : DV) : Bool := isTree d && (shwD d && (decide (dpR d ≤ 20) && decide (rsz d ≤ 100000)))
theorem okA_tree {d : DV} (h : okA d = true) : isTree d = true := by
  simp only [okA, Bool.and_eq_true] at h
  exact h.1
def deepN : Nat → DV
  | 0 => .lst []
  | n + 1 => .lst [deepN n, .int n]
theorem deep_tree : ∀ n, isTree (deepN n) = true
  | 0 => rfl
  | n + 1 => rfl
theorem deep_dp : ∀ n, dpR (deepN n) = n + 1
  | 0 => rfl
  | n + 1 => by simp [deepN, dpR, dpRL, deep_dp n]
theorem deep_rsz : ∀ n, rsz (deepN n) ≤ 2000 * (n + 1)
  | 0 => by simp [deepN, rsz, rszL]
  | n + 1 => by
    have := deep_rsz n
    simp only [deepN, rsz, rszL]
    omega
theorem deep_shw : ∀ n, n ≤ 1000 → shwD (deepN n) = true
  | 0, _ => rfl
  | n + 1, h => by
    have i := deep_shw n (by omega)
    have : n.log2 < 1920 := by
      by_cases h0 : n = 0
      · subst h0; decide
      · rw [Nat.log2_lt h0]
        exact Nat.lt_of_lt_of_le (show n < 2 ^ 10 by omega) (Nat.pow_le_pow_right (by omega) (by omega))
    simp [deepN, shwD, shwL, i, this]
theorem deep_ok {n : Nat} (h : n ≤ 15) : okA (deepN n) = true := by
  simp only [okA, Bool.and_eq_true, decide_eq_true_eq]
  exact ⟨deep_tree n, deep_shw n (by omega), by rw [deep_dp]; omega, Nat.le_trans (deep_rsz n) (by omega)⟩
theorem srepA_ok : ∀ v : _root_.Fin 60, okA (.str (srep "A" ((v : Nat) : Int))) = true := by decide +kernel
section
variable {P : Pg} {keep : Nat → Bool} (T : Tbl P keep)
include T
theorem take2 (n : Nat) (rest : List Cell) : TakeOk (callFn P keep (n + 2)) 2 rest := by
  intro b s k hs h0 h1 hb
  exact take_run (m := 1) T.f2 T.k2 h0 h1 hs hb fun w c r t hc ht ht2 => mixed_run T.f1 T.k1 hs.rs hc ht ht2
theorem pick3 (n : Nat) {rest : List Cell} {b : Nat} {s : S} {xs : List DV} (hs : DS b rest s) (hb : b < 1099511627000) (h0 : 0 < xs.length) (h1 : xs.length < 1073741824) (hx : xs.all isTree = true) :
    ∃ x s', callFn P keep (n + 3) 3 [.loc 1, .lst xs] s = .ok x s' ∧ x ∈ xs ∧ isTree x = true ∧ DS (b + 1) rest s' :=
  pick_run T.f3 T.k3 (take2 T n rest) hs hb h0 h1 hx
end
/-- what is drawn from -/
def some1 : List DV := [.non, .bl true, .bl false, .int (-2), .int 0, .int 4, .int (10 ^ 30), .str "", .str "a", .str "share", .str "A", .str "two\nlines", .tup [], .tup [.int 0], .lst [], .lst [.int 1], .dct [], .dct [(.int 1, .int 2)]]
def some2 (x : Str) (d : DV) : List DV := [.int (10 ^ 60), .int (-(10 ^ 60)), .str x, d, .dct [(.str "a", .lst [.int 1, .tup [.int 2]])], .tup [.str "a", .tup [.str "b", .non]]]
def some3 : List DV := [.tup [.str "a", .int 0, .bl false, .tup []], .tup [.str "a", .int 0, .bl false, .tup []], .tup [.str "a", .int 0, .bl false, .tup []]]
theorem some_ok {x : Str} {d : DV} (hx : okA (.str x) = true) (hd : okA d = true) : (some1 ++ some2 x d ++ some3).all okA = true := by
  have h1 : some1.all okA = true := by decide +kernel
  have h3 : some3.all okA = true := by decide +kernel
  have h2 : (some2 x d).all okA = true := by
    simp only [some2, List.all_cons, List.all_nil, hx, hd, Bool.and_true, Bool.true_and]
    decide +kernel
  simp [List.all_append, h1, h2, h3]
def cDeep : List St := [.set 1 (.lst (.cons (.var 1) (.cons (.var 2) .nil)))]
section
variable {P : Pg} {keep : Nat → Bool} (T : Tbl P keep)
include T
theorem any5 (n : Nat) {rest : List Cell} {b : Nat} {s : S} (hs : DS b rest s) (hb : b + 3 < 1099511627000) : ∃ x s', callFn P keep (n + 4) 5 [.loc 1] s = .ok x s' ∧ okA x = true ∧ DS (b + 3) rest s' := by
  obtain ⟨v, s1, a1, a2, a3, d1⟩ := take2 T (n + 1) rest b s 15 hs (by omega) (by omega) (by omega)
  obtain ⟨v2, s2, b1, b2, b3, d2⟩ := take2 T (n + 1) rest (b + 1) s1 60 d1 (by omega) (by omega) (by omega)
  have hx : okA (.str (srep "A" v2)) = true := by
    have := srepA_ok ⟨v2.toNat, by omega⟩
    rwa [show ((v2.toNat : Nat) : Int) = v2 from Int.toNat_of_nonneg b2] at this
  have hdp : okA (deepN v.toNat) = true := deep_ok (by omega)
  have hall := some_ok hx hdp
  have hlen : (some1 ++ some2 (srep "A" v2) (deepN v.toNat) ++ some3).length = 27 := rfl
  obtain ⟨x, s3, e, hm, ht, d3⟩ := pick3 T n (xs := some1 ++ some2 (srep "A" v2) (deepN v.toNat) ++ some3) d2 (by omega) (by rw [hlen]; omega) (by rw [hlen]; omega) (by
    rw [List.all_eq_true] at hall ⊢
    exact fun x hx => okA_tree (hall x hx))
  refine ⟨x, s3, ?_, List.all_eq_true.mp hall x hm, d3⟩
  show runFn P keep (callFn P keep (n + 3)) 5 [.loc 1] s = _
  rw [runFn_eq T.f5 (by simp), T.k5]
  obtain ⟨en, s', g1, ⟨e2, rfl⟩, hse⟩ := forL_inv (f := tgB (.one 2) (exSs P (callFn P keep (n + 3)) cDeep)) (I := fun i env s' => (∃ e2, env = [some (.loc 1), some (deepN i), e2, none]) ∧ s' = s1) (xs := rangeL 0 v) (i := 0) (env := [some (.loc 1), some (.lst []), none, none]) (s := s1) ⟨⟨none, rfl⟩, rfl⟩ (by
    rintro j x env s' hx ⟨⟨e2, rfl⟩, rfl⟩
    have hx2 : x = .int (j : Nat) := by
      unfold rangeL at hx
      rw [List.getElem?_map] at hx
      obtain ⟨k, hk, e⟩ := Option.map_eq_some_iff.mp hx
      have := List.getElem?_eq_some_iff.mp hk
      obtain ⟨_, hk⟩ := this
      simp at hk
      subst hk
      rw [← e]
      simp
    subst hx2
    refine ⟨_, s', .inl ?_, ⟨some (.int (j : Nat)), rfl⟩, rfl⟩
    have em := embedAll_t (s := s') (ds := [deepN j, .int (j : Nat)]) (by simp [deep_tree]; rfl)
    simp [cDeep, em, deepN])
  have hl : (rangeL 0 v).length = v.toNat := by simp [rangeL]
  rw [hl, Nat.zero_add, hse] at g1
  have e5 : c5 = .set 1 (.lst .nil) :: .forS (.one 2) (.range (.callK 2 (.cons (.var 0) (.cons (.cst (.int 15)) .nil)) .nil [.inl 0, .inl 1])) cDeep :: c5.drop 2 := rfl
  have hr := r_range (P := P) (call := callFn P keep (n + 3)) (env := [some (.loc 1), some (.lst []), none, none]) (s := s) (s1 := s1) (j := v) (e := .callK 2 (.cons (.var 0) (.cons (.cst (.int 15)) .nil)) .nil [.inl 0, .inl 1]) (by simp [permute, a1]) (by omega) (by omega)
  have h30 := fun s => s2_pow (i := 10) (j := 30) s ⟨by omega, by omega, by omega⟩
  have h60 := fun s => s2_pow (i := 10) (j := 60) s ⟨by omega, by omega, by omega⟩
  have sr : ∀ s, sem2 .mul (.str "A") (.int v2) s = some (.str (srep "A" v2)) := fun s => if_pos ⟨b2, by omega, by decide⟩
  have em1 : ∀ s, embedAll some1 s = .ok some1 s := fun s => embedAll_t rfl
  have em2 : ∀ s, embedAll (some2 (srep "A" v2) (deepN v.toNat)) s = .ok (some2 (srep "A" v2) (deepN v.toNat)) s := fun s => embedAll_t (by have h := deep_tree v.toNat; simp only [some2, List.all_cons, List.all_nil, h, Bool.and_true]; rfl)
  have ng : ∀ env s, ev P (callFn P keep (n + 3)) (.neg (.op2 .pow (.cst (.int 10)) (.cst (.int 60)))) env s = .ok (.int (-(10 ^ 60))) s := fun env s => by rw [ev]; simp [h60]
  have m3 : ∀ s, sem2 .mul (.lst [.tup [.str "a", .int 0, .bl false, .tup []]]) (.int 3) s = some (.lst some3) := fun s => rfl
  have tail : exSs P (callFn P keep (n + 3)) (c5.drop 2) [some (.loc 1), some (deepN v.toNat), e2, none] s1 = .ok (.ret x) s3 := by
    unfold c5
    simp only [List.drop_succ_cons, List.drop_zero]
    have eN : ∀ s, embed .non s = .ok .non s := fun _ => rfl
    have eI : ∀ i s, embed (.int i) s = .ok (.int i) s := fun _ _ => rfl
    have eB : ∀ i s, embed (.bl i) s = .ok (.bl i) s := fun _ _ => rfl
    have eS : ∀ i s, embed (.str i) s = .ok (.str i) s := fun _ _ => rfl
    have eT : ∀ i s, embed (.tup i) s = .ok (.tup i) s := fun _ _ => rfl
    have eL : ∀ i s, embed (.lst i) s = .ok (.lst i) s := fun _ _ => rfl
    have eD : ∀ i s, embed (.dct i) s = .ok (.dct i) s := fun _ _ => rfl
    have eX := fun s => embed_t s (deep_tree v.toNat)
    simp [some1, some2, some3] at e m3
    simp [h30, h60, ng, dictFrom, dictMerge, plainKv, permute, b1, sr, embedAll, eN, eI, eB, eS, eT, eL, eD, eX, s2_addL, m3, e]
  rw [e5]
  simp only [List.map_cons, List.map_nil, List.length_cons, List.length_nil, List.cons_append, List.nil_append, x_cons, x_set, e_lst, es_nil, embedAll, bind_ok, t_nxt, x_for]
  simp [hr, g1, tail, embedAll, leave_DS hs d3 ht]
end
end WS.k01
set_option maxRecDepth 100000
/-! k01: the errors. -/
namespace WS.k01
open PySem WS.I
def ones1 (d : DV) : List DV := [.exc 1 [("field", d)], .exc 2 [("field", d)], .exc 4 [("house", d)], .exc 5 [("house", d)], .exc 6 [("path", d)], .exc 8 [("path", d)], .exc 9 [("word", d)], .exc 10 [("stand", d)], .exc 12 [("key", d)], .exc 13 [("house", d)], .exc 16 [("number", d)], .exc 17 [("at", d)], .exc 19 [("field", d)], .exc 20 [("path", d)], .exc 23 [("at", d)], .exc 24 [("line", d)]]
def twos (d e : DV) : List DV := [.exc 3 [("house", e), ("field", d)], .exc 14 [("other", e), ("one", d)], .exc 21 [("other", e), ("house", d)], .exc 7 [], .exc 11 [], .exc 15 [], .exc 18 [], .exc 22 []]
section
variable {P : Pg} {keep : Nat → Bool} (T : Tbl P keep)
include T
theorem ones6 (n : Nat) {d : DV} {s : S} (hd : isTree d = true) : callFn P keep (n + 1) 6 [d] s = .ok (.lst (ones1 d)) s := by
  show runFn P keep (callFn P keep n) 6 [d] s = _
  rw [runFn_eq T.f6 (by simp), T.k6]
  have mk := fun (c : Nat) (x : Str) (h : P.ex c = some [x]) (r : Env) => e_mkX1 (P := P) (call := callFn P keep n) (s := s) (env := some d :: r) (i := 0) h rfl hd
  have eX : ∀ c fs, embed (.exc c fs) s = .ok (.exc c fs) s := fun _ _ => rfl
  unfold c6
  simp [mk _ _ T.ex1, mk _ _ T.ex2, mk _ _ T.ex4, mk _ _ T.ex5, mk _ _ T.ex6, mk _ _ T.ex8, mk _ _ T.ex9, mk _ _ T.ex10, mk _ _ T.ex12, mk _ _ T.ex13, mk _ _ T.ex16, mk _ _ T.ex17, mk _ _ T.ex19, mk _ _ T.ex20, mk _ _ T.ex23, mk _ _ T.ex24, embedAll, eX, s2_addL]
  rw [leave_same rfl]
  rfl
theorem ones7 (n : Nat) {d : DV} {s : S} (hd : isTree d = true) : callFn P keep (n + 1) 7 [d] s = .ok (.lst (ones1 d)) s := by
  show runFn P keep (callFn P keep n) 7 [d] s = _
  rw [runFn_eq T.f7 (by simp), T.k7]
  have mk := fun (c : Nat) (x : Str) (h : P.ex c = some [x]) (r : Env) => e_mkX1k (P := P) (call := callFn P keep n) (s := s) (env := some d :: r) (i := 0) h rfl hd
  have eX : ∀ c fs, embed (.exc c fs) s = .ok (.exc c fs) s := fun _ _ => rfl
  unfold c7
  simp [mk _ _ T.ex1, mk _ _ T.ex2, mk _ _ T.ex4, mk _ _ T.ex5, mk _ _ T.ex6, mk _ _ T.ex8, mk _ _ T.ex9, mk _ _ T.ex10, mk _ _ T.ex12, mk _ _ T.ex13, mk _ _ T.ex16, mk _ _ T.ex17, mk _ _ T.ex19, mk _ _ T.ex20, mk _ _ T.ex23, mk _ _ T.ex24, embedAll, eX, s2_addL]
  rw [leave_same rfl]
  rfl
theorem twos9 (n : Nat) {d e : DV} {k : Bool} {s : S} (hd : isTree d = true) (he : isTree e = true) : callFn P keep (n + 1) 9 [d, e, .bl k] s = .ok (.lst (twos d e)) s := by
  show runFn P keep (callFn P keep n) 9 [d, e, .bl k] s = _
  rw [runFn_eq T.f9 (by simp), T.k9]
  have mk := fun (c : Nat) (x y : Str) (h : P.ex c = some [x, y]) (r : Env) => e_mkX2 (P := P) (call := callFn P keep n) (s := s) (env := some d :: some e :: r) (i := 0) (j := 1) h rfl rfl hd he
  have mkk := fun (c : Nat) (x y : Str) (h : P.ex c = some [x, y]) (r : Env) => e_mkX2k (P := P) (call := callFn P keep n) (s := s) (env := some d :: some e :: r) (i := 0) (j := 1) h rfl rfl hd he
  have m0 := fun (c : Nat) (h : P.ex c = some []) (r : Env) (a : E) => e_mkX0 (P := P) (call := callFn P keep n) (s := s) (env := r) (a := a) h
  have eX : ∀ c fs, embed (.exc c fs) s = .ok (.exc c fs) s := fun _ _ => rfl
  unfold c9
  cases k <;> simp [mk _ _ _ T.ex3, mk _ _ _ T.ex14, mk _ _ _ T.ex21, mkk _ _ _ T.ex3, mkk _ _ _ T.ex14, mkk _ _ _ T.ex21, m0 _ T.ex7, m0 _ T.ex11, m0 _ T.ex15, m0 _ T.ex18, m0 _ T.ex22, embedAll, eX, s2_addL]
  · rw [leave_same rfl]
    rfl
  · rw [leave_same rfl]
    rfl
theorem kept8 (n : Nat) {d : DV} {s : S} (hd : isTree d = true) : callFn P keep (n + 1) 8 [.lst (ones1 d)] s = .ok (.lst (List.replicate 16 d)) s := by
  show runFn P keep (callFn P keep n) 8 [.lst (ones1 d)] s = _
  rw [runFn_eq T.f8 (by simp), T.k8]
  have g := fun (c : Nat) (x : Str) (h : P.ex c = some [x]) => a_exc (P := P) (call := callFn P keep n) (s := s) (c := c) (x := x) (fs := [(x, d)]) (d := d) h (by simp [fget])
  have ed := embed_t s hd
  have s0 : ∀ s : S, semSub (.lst (ones1 d)) (.int 0) s = some (.exc 1 [("field", d)]) := fun _ => rfl
  have s1 : ∀ s : S, semSub (.lst (ones1 d)) (.int 1) s = some (.exc 2 [("field", d)]) := fun _ => rfl
  have s2 : ∀ s : S, semSub (.lst (ones1 d)) (.int 2) s = some (.exc 4 [("house", d)]) := fun _ => rfl
  have s3 : ∀ s : S, semSub (.lst (ones1 d)) (.int 3) s = some (.exc 5 [("house", d)]) := fun _ => rfl
  have s4 : ∀ s : S, semSub (.lst (ones1 d)) (.int 4) s = some (.exc 6 [("path", d)]) := fun _ => rfl
  have s5 : ∀ s : S, semSub (.lst (ones1 d)) (.int 5) s = some (.exc 8 [("path", d)]) := fun _ => rfl
  have s6 : ∀ s : S, semSub (.lst (ones1 d)) (.int 6) s = some (.exc 9 [("word", d)]) := fun _ => rfl
  have s7 : ∀ s : S, semSub (.lst (ones1 d)) (.int 7) s = some (.exc 10 [("stand", d)]) := fun _ => rfl
  have s8 : ∀ s : S, semSub (.lst (ones1 d)) (.int 8) s = some (.exc 12 [("key", d)]) := fun _ => rfl
  have s9 : ∀ s : S, semSub (.lst (ones1 d)) (.int 9) s = some (.exc 13 [("house", d)]) := fun _ => rfl
  have s10 : ∀ s : S, semSub (.lst (ones1 d)) (.int 10) s = some (.exc 16 [("number", d)]) := fun _ => rfl
  have s11 : ∀ s : S, semSub (.lst (ones1 d)) (.int 11) s = some (.exc 17 [("at", d)]) := fun _ => rfl
  have s12 : ∀ s : S, semSub (.lst (ones1 d)) (.int 12) s = some (.exc 19 [("field", d)]) := fun _ => rfl
  have s13 : ∀ s : S, semSub (.lst (ones1 d)) (.int 13) s = some (.exc 20 [("path", d)]) := fun _ => rfl
  have s14 : ∀ s : S, semSub (.lst (ones1 d)) (.int 14) s = some (.exc 23 [("at", d)]) := fun _ => rfl
  have s15 : ∀ s : S, semSub (.lst (ones1 d)) (.int 15) s = some (.exc 24 [("line", d)]) := fun _ => rfl
  unfold c8
  simp [s0, s1, s2, s3, s4, s5, s6, s7, s8, s9, s10, s11, s12, s13, s14, s15, g _ _ T.ex1, g _ _ T.ex2, g _ _ T.ex4, g _ _ T.ex5, g _ _ T.ex6, g _ _ T.ex8, g _ _ T.ex9, g _ _ T.ex10, g _ _ T.ex12, g _ _ T.ex13, g _ _ T.ex16, g _ _ T.ex17, g _ _ T.ex19, g _ _ T.ex20, g _ _ T.ex23, g _ _ T.ex24, embedAll, ed, s2_addL]
  rw [leave_same rfl]
theorem kept10 (n : Nat) {d e : DV} {s : S} (hd : isTree d = true) (he : isTree e = true) : callFn P keep (n + 1) 10 [.lst (twos d e)] s = .ok (.lst [d, e, d, e, d, e]) s := by
  show runFn P keep (callFn P keep n) 10 [.lst (twos d e)] s = _
  rw [runFn_eq T.f10 (by simp), T.k10]
  have g := fun (c : Nat) (x y : Str) (h : P.ex c = some [x, y]) (hxy : y ≠ x) => a_exc (P := P) (call := callFn P keep n) (s := s) (c := c) (x := x) (fs := [(y, e), (x, d)]) (d := d) h (by simp [fget, hxy])
  have g2 := fun (c : Nat) (x y : Str) (h : P.ex c = some [x, y]) => a_exc (P := P) (call := callFn P keep n) (s := s) (c := c) (x := y) (fs := [(y, e), (x, d)]) (d := e) h (by simp [fget])
  have ed := embed_t s hd
  have ee := embed_t s he
  have s0 : ∀ s : S, semSub (.lst (twos d e)) (.int 0) s = some (.exc 3 [("house", e), ("field", d)]) := fun _ => rfl
  have s1 : ∀ s : S, semSub (.lst (twos d e)) (.int 1) s = some (.exc 14 [("other", e), ("one", d)]) := fun _ => rfl
  have s2 : ∀ s : S, semSub (.lst (twos d e)) (.int 2) s = some (.exc 21 [("other", e), ("house", d)]) := fun _ => rfl
  unfold c10
  simp [s0, s1, s2, g _ _ _ T.ex3 (by decide), g _ _ _ T.ex14 (by decide), g _ _ _ T.ex21 (by decide), g2 _ _ _ T.ex3, g2 _ _ _ T.ex14, g2 _ _ _ T.ex21, embedAll, ed, ee, s2_addL]
  rw [leave_same rfl]
/-- the classes in their order -/
def ord : List Nat := [1, 2, 4, 5, 6, 8, 9, 10, 12, 13, 16, 17, 19, 20, 23, 24, 3, 14, 21, 7, 11, 15, 18, 22]
omit T in
theorem flags_raw {c : Nat} {fs : List (Str × DV)} {s : S} {xs : List Str} (h : P.ex c = some xs) (k : Nat) : isiR P (.exc c fs) [.exc k] s = some ((P.up c).contains k) := by
  unfold isiR
  simp only [treeOf, dvOk, h, Option.isSome_some, if_true, isAny, isTy]
  cases (P.up c).contains k <;> rfl
theorem flags11 (n : Nat) {c : Nat} {fs : List (Str × DV)} {s : S} {xs : List Str} (h : P.ex c = some xs) (hu : P.up c = [c, 0]) : callFn P keep (n + 1) 11 [.exc c fs] s = .ok (.lst (ord.map fun k => .bl ([c, 0].contains k))) s := by
  show runFn P keep (callFn P keep n) 11 [.exc c fs] s = _
  rw [runFn_eq T.f11 (by simp), T.k11]
  have f := fun k s => flags_raw (fs := fs) (s := s) h k
  rw [hu] at f
  have eB : ∀ b s, embed (.bl b) s = .ok (.bl b) s := fun _ _ => rfl
  suffices hh : ∀ q : Nat → Bool, (∀ k s, isiR P (.exc c fs) [.exc k] s = some (q k)) → fnEnd false s (exSs P (callFn P keep n) c11 ([DV.exc c fs].map some ++ List.replicate (2 - [DV.exc c fs].length) none) s) = .ok (.lst (ord.map fun k => .bl (q k))) s from hh _ f
  clear f
  intro q f
  unfold c11
  simp only [List.map_cons, List.map_nil, List.length_cons, List.length_nil, List.cons_append, List.nil_append, List.replicate, x_cons, x_set, x_ret, e_lst, es_cons, es_nil, e_isi, e_var, WS.I.slot_ok, slot_succ, bind_ok, f, Option.map_some, ofO_some, embedAll, eB, e_op2, List.set_cons_succ, List.set_cons_zero, t_nxt, s2_addL, Nat.reduceAdd, Nat.reduceSub, List.length_append]
  simp [embedAll, eB, f, s2_addL]
  rw [leave_same rfl]
  rfl
theorem thrown12 (n : Nat) {d : DV} {s : S} (hd : isTree d = true) : callFn P keep (n + 1) 12 [d] s = .err 12 [("key", d)] s := by
  show runFn P keep (callFn P keep n) 12 [d] s = _
  rw [runFn_eq T.f12 (by simp), T.k12]
  have ed := embed_t s hd
  have rs := fun (env : Env) => x_rais (P := P) (call := callFn P keep n) (env := env) (s := s) (c := 12) (es := .cons (.var 0) .nil) T.ex12
  unfold c12
  simp [rs, embedAll, ed]
  rw [fnEnd_err_same]
/-- each class: its fields; it and the root above it -/
theorem each : ∀ w : _root_.Fin 24, ∃ xs, P.ex (ord[w]'w.2) = some xs ∧ P.up (ord[w]'w.2) = [ord[w]'w.2, 0] := by
  intro w
  obtain ⟨w, hw⟩ := w
  have : w = 0 ∨ w = 1 ∨ w = 2 ∨ w = 3 ∨ w = 4 ∨ w = 5 ∨ w = 6 ∨ w = 7 ∨ w = 8 ∨ w = 9 ∨ w = 10 ∨ w = 11 ∨ w = 12 ∨ w = 13 ∨ w = 14 ∨ w = 15 ∨ w = 16 ∨ w = 17 ∨ w = 18 ∨ w = 19 ∨ w = 20 ∨ w = 21 ∨ w = 22 ∨ w = 23 := by omega
  rcases this with rfl | rfl | rfl | rfl | rfl | rfl | rfl | rfl | rfl | rfl | rfl | rfl | rfl | rfl | rfl | rfl | rfl | rfl | rfl | rfl | rfl | rfl | rfl | rfl
  · exact ⟨_, T.ex1, T.up1⟩
  · exact ⟨_, T.ex2, T.up2⟩
  · exact ⟨_, T.ex4, T.up4⟩
  · exact ⟨_, T.ex5, T.up5⟩
  · exact ⟨_, T.ex6, T.up6⟩
  · exact ⟨_, T.ex8, T.up8⟩
  · exact ⟨_, T.ex9, T.up9⟩
  · exact ⟨_, T.ex10, T.up10⟩
  · exact ⟨_, T.ex12, T.up12⟩
  · exact ⟨_, T.ex13, T.up13⟩
  · exact ⟨_, T.ex16, T.up16⟩
  · exact ⟨_, T.ex17, T.up17⟩
  · exact ⟨_, T.ex19, T.up19⟩
  · exact ⟨_, T.ex20, T.up20⟩
  · exact ⟨_, T.ex23, T.up23⟩
  · exact ⟨_, T.ex24, T.up24⟩
  · exact ⟨_, T.ex3, T.up3⟩
  · exact ⟨_, T.ex14, T.up14⟩
  · exact ⟨_, T.ex21, T.up21⟩
  · exact ⟨_, T.ex7, T.up7⟩
  · exact ⟨_, T.ex11, T.up11⟩
  · exact ⟨_, T.ex15, T.up15⟩
  · exact ⟨_, T.ex18, T.up18⟩
  · exact ⟨_, T.ex22, T.up22⟩
end
end WS.k01
set_option maxRecDepth 100000
/-! k01: the turns. -/
namespace WS.k01
open PySem WS.I
def cFl : List St := [.ife (.or (.not (.isi (.var 9) [(.exc 0)])) (.not (.isi (.var 9) [.valueError]))) [.ret (.cst (.bl false))] [], .ife (.cmp .ne (.callK 11 (.cons (.var 9) .nil) .nil [.inl 0]) (.comp (.one 10) (.cmp .eq (.var 10) (.var 8)) (.range (.cst (.int 24))) (.cst (.bl true)))) [.ret (.cst (.bl false))] []]
def cBy : List St := [.set 6 (.ite (.var 5) (.callK 7 (.cons (.var 3) .nil) .nil [.inl 0]) (.callK 6 (.cons (.var 3) .nil) .nil [.inl 0])), .set 7 (.callK 9 (.cons (.var 3) (.cons (.var 4) (.cons (.var 5) .nil))) .nil [.inl 0, .inl 1, .inl 2]), .ife (.cmp .ne (.prim .repr (.cons (.callK 8 (.cons (.var 6) .nil) .nil [.inl 0]) .nil)) (.prim .repr (.cons (.op2 .mul (.lst (.cons (.var 3) .nil)) (.cst (.int 16))) .nil))) [.ret (.cst (.bl false))] [], .ife (.cmp .ne (.prim .repr (.cons (.callK 10 (.cons (.var 7) .nil) .nil [.inl 0]) .nil)) (.prim .repr (.cons (.op2 .mul (.lst (.cons (.var 3) (.cons (.var 4) .nil))) (.cst (.int 3))) .nil))) [.ret (.cst (.bl false))] [], .forS (.many [8, 9]) (.enum (.op2 .add (.var 6) (.var 7))) cFl]
def cTurn : List St := [.par 3 4 (.callK 5 (.cons (.var 1) .nil) .nil [.inl 0]) (.callK 5 (.cons (.var 1) .nil) .nil [.inl 0]), .forS (.one 5) (.val (.lst (.cons (.cst (.bl false)) (.cons (.cst (.bl true)) .nil)))) cBy, .set 11 (.lam 4 (.callK 12 (.cons (.var 3) .nil) .nil [.inl 0])), .ife (.or (.not (.isi (.var 11) [(.exc 12)])) (.cmp .ne (.prim .repr (.cons (.attr (.var 11) "key") .nil)) (.prim .repr (.cons (.var 3) .nil)))) [.ret (.cst (.bl false))] []]
/-- what the flags are compared with -/
def dueF (w : Nat) : List DV := (rangeL 0 24).map fun d => match d with
  | .int k => .bl (k == (w : Int))
  | _ => .non
theorem due_eq : ∀ w : _root_.Fin 24, deq (.lst (ord.map fun k => .bl ([ord[w]'w.2, 0].contains k))) (.lst (dueF w)) = true ∧ plainD (.lst (dueF w)) = true ∧ depthD (.lst (dueF w)) ≤ 60 := by decide +kernel
theorem flag_plain (q : Nat → Bool) : plainD (.lst (ord.map fun k => .bl (q k))) = true ∧ depthD (.lst (ord.map fun k => .bl (q k))) ≤ 60 := by
  constructor <;> simp [ord, plainD, plainL, depthD, depthL]
theorem r_enumL {P : Pg} {call : Nat → List DV → M DV} {env : Env} {s s1 : S} {e : E} {xs : List DV} (h : ev P call e env s = .ok (.lst xs) s1) (hl : xs.length ≤ 1000) : evSr P call (.enum e) env s = .ok ⟨(xs.zipIdx).map fun p => .tup [.int (p.2 : Nat), p.1], none⟩ s1 := by
  rw [evSr, h]
  have e : listOf s1 (.lst xs) = some xs := rfl
  simp only [bind_ok, e]
  rw [if_pos (by unfold LIM; omega)]
section
variable {P : Pg} {keep : Nat → Bool} (T : Tbl P keep)
include T
theorem flag_step (n : Nat) (w : _root_.Fin 24) {fs : List (Str × DV)} {a0 a1 a2 a3 a4 a5 a6 a7 a10 a11 : Option DV} {s : S} :
    exSs P (callFn P keep (n + 1)) cFl [a0, a1, a2, a3, a4, a5, a6, a7, some (.int ((w : Nat) : Int)), some (.exc (ord[w]'w.2) fs), a10, a11] s = .ok (.nxt [a0, a1, a2, a3, a4, a5, a6, a7, some (.int ((w : Nat) : Int)), some (.exc (ord[w]'w.2) fs), a10, a11]) s := by
  obtain ⟨xs, h1, h2⟩ := each T w
  have hf := flags11 T n (fs := fs) (s := s) h1 h2
  obtain ⟨q1, q2, q3⟩ := due_eq w
  generalize hc : ord[w]'w.2 = c at *
  obtain ⟨p1, p2⟩ := flag_plain (fun k => [c, 0].contains k)
  have i0 : isiR P (.exc c fs) [.exc 0] s = some true := by
    rw [flags_raw h1, h2]
    simp
  have i1 : isiR P (.exc c fs) [.valueError] s = some true := by
    unfold isiR
    simp only [treeOf, dvOk, h1, Option.isSome_some, if_true, isAny, isTy]
  have hm : mapIf (fun _ => True) (tgC (.one 10) (evB P (callFn P keep (n + 1)) (.cst (.bl true))) [a0, a1, a2, a3, a4, a5, a6, a7, some (.int ((w : Nat) : Int)), some (.exc c fs), a10, a11]) (tgC (.one 10) (ev P (callFn P keep (n + 1)) (.cmp .eq (.var 10) (.var 8))) [a0, a1, a2, a3, a4, a5, a6, a7, some (.int ((w : Nat) : Int)), some (.exc c fs), a10, a11]) (rangeL 0 24) s = .ok (dueF w) s := by
    rw [mapIf_pure (p := fun _ => true) (g := fun d => match d with
      | .int k => .bl (k == ((w : Nat) : Int))
      | _ => .non)]
    · simp [dueF, List.filter_eq_self.mpr]
    · intro x hx
      simp
    · intro x hx _
      obtain ⟨k, _, rfl⟩ := List.mem_map.mp hx
      simp
  have hne := sC_ne (s := s) (a := .lst (ord.map fun k => .bl ([c, 0].contains k))) (b := .lst (dueF w)) rfl rfl p1 q2 p2 q3
  rw [q1] at hne
  have hr := r_range (P := P) (call := callFn P keep (n + 1)) (env := [a0, a1, a2, a3, a4, a5, a6, a7, some (.int ((w : Nat) : Int)), some (.exc c fs), a10, a11]) (s := s) (s1 := s) (j := 24) (e := .cst (.int 24)) (by simp) (by omega) (by omega)
  have hok : ∀ xs, Sq.ok ⟨xs, none⟩ = fun _ => True := fun xs => rfl
  simp only [cFl, x_cons, x_if, e_or, e_not, e_isi, e_var, WS.I.slot_ok, slot_succ, bind_ok, i0, i1, Option.map_some, ofO_some, WS.I.asB_ok, e_cmp, e_callK, es_cons, es_nil, permute, List.nil_append, List.cons_append, List.append_nil, List.getElem?_cons_zero, hf, e_comp, hr, hok, hm, noErr_ok, hne, Bool.not_true, Bool.false_eq_true, if_false, x_nil, t_nxt]
omit T in
theorem okA_rep {d : DV} (h : okA d = true) : shwD d = true ∧ dpR d ≤ 20 ∧ rsz d ≤ 100000 := by
  simp only [okA, Bool.and_eq_true, decide_eq_true_eq] at h
  exact h.2
omit T in
theorem repr_one {d : DV} (h : okA d = true) (s : S) : semP .repr [d] s = some (.str (reprD d)) := by
  obtain ⟨h1, h2, h3⟩ := okA_rep h
  refine repr_run ?_ h1 (by omega) (by omega)
  have ht := okA_tree h
  cases d <;> first | rfl | cases ht
omit T in
theorem shwL_all' : ∀ {xs : List DV}, (∀ x ∈ xs, okA x = true) → shwL xs = true ∧ dpRL xs ≤ 20 ∧ rszL xs ≤ 100002 * xs.length
  | [], _ => ⟨rfl, Nat.zero_le _, Nat.zero_le _⟩
  | x :: r, h => by
    obtain ⟨a1, a2, a3⟩ := okA_rep (h x (by simp))
    obtain ⟨b1, b2, b3⟩ := shwL_all' (xs := r) fun y hy => h y (by simp [hy])
    refine ⟨by simp [shwL, a1, b1], by simp only [dpRL]; omega, by simp only [rszL, List.length_cons]; omega⟩
omit T in
theorem repr_list {xs : List DV} (h : ∀ x ∈ xs, okA x = true) (hl : xs.length ≤ 100) (s : S) : semP .repr [.lst xs] s = some (.str (reprD (.lst xs))) := by
  obtain ⟨h1, h2, h3⟩ := shwL_all' h
  exact repr_run rfl h1 (by simp only [dpR]; omega) (by simp only [rsz]; omega)
theorem by_step (n : Nat) {d e : DV} {k : Bool} {a0 a1 a2 a6 a7 a8 a9 a10 a11 : Option DV} {s : S} (hd : okA d = true) (he : okA e = true) :
    ∃ g6 g7 g8 g9, exSs P (callFn P keep (n + 1)) cBy [a0, a1, a2, some d, some e, some (.bl k), a6, a7, a8, a9, a10, a11] s = .ok (.nxt [a0, a1, a2, some d, some e, some (.bl k), g6, g7, g8, g9, a10, a11]) s := by
  have td := okA_tree hd
  have te := okA_tree he
  have o6 := ones6 T n (s := s) td
  have o7 := ones7 T n (s := s) td
  have t9 := twos9 T n (k := k) (s := s) td te
  have k8 := kept8 T n (s := s) td
  have k10 := kept10 T n (s := s) td te
  have r1 := repr_list (xs := List.replicate 16 d) (fun x hx => by rw [List.eq_of_mem_replicate hx]; exact hd) (by simp) s
  have r2 := repr_list (xs := [d, e, d, e, d, e]) (fun x hx => by
    simp only [List.mem_cons, List.mem_nil_iff, or_false] at hx
    rcases hx with rfl | rfl | rfl | rfl | rfl | rfl <;> first | exact hd | exact he) (by simp) s
  have m1 : sem2 .mul (.lst [d]) (.int 16) s = some (.lst (List.replicate 16 d)) := by
    show (if (0 : Int) ≤ 16 ∧ (16 : Int) ≤ 1000 ∧ [d].length ≤ 1000 then some (DV.lst (List.replicate (16 : Int).toNat [d]).flatten) else none) = _
    rw [if_pos ⟨by omega, by omega, by simp⟩]
    rfl
  have m2 : sem2 .mul (.lst [d, e]) (.int 3) s = some (.lst [d, e, d, e, d, e]) := by
    show (if (0 : Int) ≤ 3 ∧ (3 : Int) ≤ 1000 ∧ [d, e].length ≤ 1000 then some (DV.lst (List.replicate (3 : Int).toNat [d, e]).flatten) else none) = _
    rw [if_pos ⟨by omega, by omega, by simp⟩]
    rfl
  have em1 := embedAll_t (s := s) (ds := [d]) (by simp [td])
  have em2 := embedAll_t (s := s) (ds := [d, e]) (by simp [td, te])
  have ne : ∀ x : Str, semC .ne (.str x) (.str x) s = some false := fun x => by
    rw [sC_ne (x := .str x) (y := .str x) rfl rfl rfl rfl (by simp [depthD]) (by simp [depthD])]
    simp [deq]
  have ad := s2_addL (xs := ones1 d) (ys := twos d e) s (by simp [ones1, twos])
  have cls : ∀ w : Nat, (hw : w < 24) → ∃ fs, (ones1 d ++ twos d e)[w]? = some (.exc (ord[w]'hw) fs) := by
    intro w hw
    have : w = 0 ∨ w = 1 ∨ w = 2 ∨ w = 3 ∨ w = 4 ∨ w = 5 ∨ w = 6 ∨ w = 7 ∨ w = 8 ∨ w = 9 ∨ w = 10 ∨ w = 11 ∨ w = 12 ∨ w = 13 ∨ w = 14 ∨ w = 15 ∨ w = 16 ∨ w = 17 ∨ w = 18 ∨ w = 19 ∨ w = 20 ∨ w = 21 ∨ w = 22 ∨ w = 23 := by omega
    rcases this with rfl | rfl | rfl | rfl | rfl | rfl | rfl | rfl | rfl | rfl | rfl | rfl | rfl | rfl | rfl | rfl | rfl | rfl | rfl | rfl | rfl | rfl | rfl | rfl <;> exact ⟨_, rfl⟩
  obtain ⟨en, f1, g8, g9, rfl⟩ := forL_stay (ok := fun _ => True) (f := tgB (.many [8, 9]) (exSs P (callFn P keep (n + 1)) cFl)) (s := s) (I := fun env => ∃ g8 g9, env = [a0, a1, a2, some d, some e, some (.bl k), some (.lst (ones1 d)), some (.lst (twos d e)), g8, g9, a10, a11]) trivial
    (xs := ((ones1 d ++ twos d e).zipIdx).map fun p => .tup [.int (p.2 : Nat), p.1]) (env := [a0, a1, a2, some d, some e, some (.bl k), some (.lst (ones1 d)), some (.lst (twos d e)), a8, a9, a10, a11]) ⟨a8, a9, rfl⟩ (by
      rintro x hx env ⟨g8, g9, rfl⟩
      obtain ⟨⟨y, w⟩, hp, rfl⟩ := List.mem_map.mp hx
      have hy := List.mk_mem_zipIdx_iff_getElem?.mp hp
      have hw : w < 24 := by
        have := (List.getElem?_eq_some_iff.mp hy).1
        simpa [ones1, twos] using this
      obtain ⟨fs, hfs⟩ := cls w hw
      rw [hy] at hfs
      have hye := Option.some.inj hfs
      subst hye
      exact ⟨_, flag_step T n ⟨w, hw⟩, _, _, rfl⟩)
  refine ⟨some (.lst (ones1 d)), some (.lst (twos d e)), g8, g9, ?_⟩
  have hen := r_enumL (P := P) (call := callFn P keep (n + 1)) (env := [a0, a1, a2, some d, some e, some (.bl k), some (.lst (ones1 d)), some (.lst (twos d e)), a8, a9, a10, a11]) (s := s) (s1 := s) (e := .op2 .add (.var 6) (.var 7)) (xs := ones1 d ++ twos d e) (by simp [ad]) (by simp [ones1, twos])
  have hok : ∀ xs, Sq.ok ⟨xs, none⟩ = fun _ => True := fun xs => rfl
  cases k
  · simp only [cBy, x_cons, x_set, e_ite, e_var, WS.I.slot_ok, slot_succ, bind_ok, WS.I.asB_ok, Bool.false_eq_true, if_false, e_callK, es_cons, es_nil, permute, List.nil_append, List.cons_append, List.append_nil, List.getElem?_cons_zero, List.getElem?_cons_succ, ofO_some, o6, o7, t9, k8, k10, List.set_cons_succ, List.set_cons_zero, t_nxt, x_if, e_cmp, e_prim, r1, r2, e_op2, e_lst, e_cst, em1, em2, m1, m2, ne, Option.map_some, x_nil, x_for, hen, hok, f1]
  · simp only [cBy, x_cons, x_set, e_ite, e_var, WS.I.slot_ok, slot_succ, bind_ok, WS.I.asB_ok, Bool.false_eq_true, if_false, if_true, e_callK, es_cons, es_nil, permute, List.nil_append, List.cons_append, List.append_nil, List.getElem?_cons_zero, List.getElem?_cons_succ, ofO_some, o6, o7, t9, k8, k10, List.set_cons_succ, List.set_cons_zero, t_nxt, x_if, e_cmp, e_prim, r1, r2, e_op2, e_lst, e_cst, em1, em2, m1, m2, ne, Option.map_some, x_nil, x_for, hen, hok, f1]
theorem turn (n : Nat) {ns : List Int} {rest : List Cell} {b : Nat} {s : S} {e2 e3 e4 e5 e6 e7 e8 e9 e10 e11 : Option DV} (hs : DS b rest s) (hb : b + 6 < 1099511627000) :
    ∃ f3 f4 f5 f6 f7 f8 f9 f11 s', exSs P (callFn P keep (n + 4)) cTurn [some (.scr ns), some (.loc 1), e2, e3, e4, e5, e6, e7, e8, e9, e10, e11] s = .ok (.nxt [some (.scr ns), some (.loc 1), e2, f3, f4, f5, f6, f7, f8, f9, e10, f11]) s' ∧ DS (b + 6) rest s' := by
  obtain ⟨d, s1, a1, hd, d1⟩ := any5 T n hs (by omega)
  obtain ⟨e, s2, b1, he, d2⟩ := any5 T n d1 (by omega)
  have td := okA_tree hd
  obtain ⟨en, f1, g5, g6, g7, g8, g9, rfl⟩ := forL_stay (ok := fun _ => True) (f := tgB (.one 5) (exSs P (callFn P keep (n + 4)) cBy)) (s := s2) (I := fun env => ∃ g5 g6 g7 g8 g9, env = [some (.scr ns), some (.loc 1), e2, some d, some e, g5, g6, g7, g8, g9, e10, e11]) trivial
    (xs := [.bl false, .bl true]) (env := [some (.scr ns), some (.loc 1), e2, some d, some e, e5, e6, e7, e8, e9, e10, e11]) ⟨e5, e6, e7, e8, e9, rfl⟩ (by
      rintro x hx env ⟨g5, g6, g7, g8, g9, rfl⟩
      obtain ⟨k, rfl⟩ : ∃ k, x = .bl k := by
        simp only [List.mem_cons, List.mem_nil_iff, or_false] at hx
        rcases hx with rfl | rfl <;> exact ⟨_, rfl⟩
      obtain ⟨h6, h7, h8, h9, q⟩ := by_step T (n + 3) (k := k) (a0 := some (.scr ns)) (a1 := some (.loc 1)) (a2 := e2) (a6 := g6) (a7 := g7) (a8 := g8) (a9 := g9) (a10 := e10) (a11 := e11) (s := s2) hd he
      exact ⟨_, q, _, h6, h7, h8, h9, rfl⟩)
  have th := thrown12 T (n + 3) (s := s2) td
  have la := fun (env : Env) (e : E) => e_lam (P := P) (call := callFn P keep (n + 4)) (env := env) (s := s2) (e := e) T.cat4
  have i12 : isiR P (.exc 12 [("key", d)]) [.exc 12] s2 = some true := by
    rw [flags_raw T.ex12, T.up12]
    rfl
  have ga : getAttr P (callFn P keep (n + 4)) (.exc 12 [("key", d)]) "key" s2 = .ok d s2 := a_exc T.ex12 (by simp [fget])
  have rd := repr_one hd s2
  have ne : ∀ x : Str, semC .ne (.str x) (.str x) s2 = some false := fun x => by
    rw [sC_ne (x := .str x) (y := .str x) rfl rfl rfl rfl (by simp [depthD]) (by simp [depthD])]
    simp [deq]
  have emb : embedAll [.bl false, .bl true] s2 = .ok [.bl false, .bl true] s2 := rfl
  refine ⟨some d, some e, g5, g6, g7, g8, g9, some (.exc 12 [("key", d)]), s2, ?_, d2⟩
  have hok : ∀ xs, Sq.ok ⟨xs, none⟩ = fun _ => True := fun xs => rfl
  have hca : caughtR P 0 (.err 12 [("key", d)] s2) = .ok (.exc 12 [("key", d)]) s2 := by
    show (if (P.up 12).contains 0 then Res.ok (DV.exc 12 [("key", d)]) s2 else .stuck) = _
    rw [T.up12]
    rfl
  simp only [cTurn, x_cons, x_par, e_callK, es_cons, es_nil, e_var, WS.I.slot_ok, slot_succ, bind_ok, permute, List.nil_append, List.cons_append, List.append_nil, List.getElem?_cons_zero, List.getElem?_cons_succ, ofO_some, a1, b1, List.set_cons_succ, List.set_cons_zero, t_nxt, x_for, r_val, e_lst, e_cst, emb, w_lst, hok, f1, x_set, la, th, hca, x_if, e_or, e_not, e_isi, i12, Option.map_some, WS.I.asB_ok, Bool.not_true, Bool.false_eq_true, if_false, e_cmp, e_prim, e_attr, ga, rd, ne, x_nil]
theorem law13 {ns : List Int} (hl : ns.length ≤ 63) : ∃ s, callFn P keep 12 13 [.scr ns] [] = .ok (.bl true) s := by
  obtain ⟨s0, h0, d0⟩ := begun_run (P := P) (keep := keep) (call := callFn P keep 10) (ns := ns) T.f0 T.k0
  let j : Int := 3 + minI ns.length 12
  have hj : 3 ≤ j ∧ j ≤ 15 := by
    show 3 ≤ 3 + minI ns.length 12 ∧ 3 + minI ns.length 12 ≤ 15
    unfold minI
    split <;> omega
  have hlen : (rangeL 0 j).length = j.toNat := by simp [rangeL]
  obtain ⟨e, s', h1, g2, g3, g4, g5, g6, g7, g8, g9, g11, rfl, d1⟩ := forL_inv (f := tgB (.one 2) (exSs P (callFn P keep 11) cTurn)) (I := fun i env s => ∃ e2 e3 e4 e5 e6 e7 e8 e9 e11, env = [some (.scr ns), some (.loc 1), e2, e3, e4, e5, e6, e7, e8, e9, none, e11] ∧ DS (6 * i) [] s) (xs := rangeL 0 j) (i := 0) (s := s0) (env := [some (.scr ns), some (.loc 1), none, none, none, none, none, none, none, none, none, none])
    ⟨none, none, none, none, none, none, none, none, none, rfl, d0⟩ (by
      rintro i x env s hx ⟨e2, e3, e4, e5, e6, e7, e8, e9, e11, rfl, ds⟩
      have hi : i < (rangeL 0 j).length := (List.getElem?_eq_some_iff.mp hx).1
      rw [hlen] at hi
      obtain ⟨f3, f4, f5, f6, f7, f8, f9, f11, s', q1, q2⟩ := turn T 7 (ns := ns) (e2 := some x) (e3 := e3) (e4 := e4) (e5 := e5) (e6 := e6) (e7 := e7) (e8 := e8) (e9 := e9) (e10 := none) (e11 := e11) ds (by omega)
      refine ⟨_, s', .inl ?_, some x, f3, f4, f5, f6, f7, f8, f9, f11, rfl, ?_⟩
      · simp only [tgB_one, List.set_cons_succ, List.set_cons_zero]
        exact q1
      · rw [show 6 * (0 + i + 1) = 6 * (0 + i) + 6 by omega]
        exact q2)
  refine ⟨[], ?_⟩
  show runFn P keep (callFn P keep 11) 13 [.scr ns] [] = _
  rw [runFn_eq T.f13 (by simp), T.k13]
  have e : c13 = [.set 1 (.callK 0 (.cons (.var 0) .nil) .nil [.inl 0]), .forS (.one 2) (.range (.op2 .add (.cst (.int 3)) (.prim .min2 (.cons (.prim .len (.cons (.var 0) .nil)) (.cons (.cst (.int 12)) .nil))))) cTurn, .ret (.cst (.bl true))] := rfl
  rw [e]
  have h0' : callFn P keep 11 0 [.scr ns] [] = .ok (.loc 1) s0 := h0
  have hr := r_range (P := P) (call := callFn P keep 11) (env := [some (.scr ns), some (.loc 1), none, none, none, none, none, none, none, none, none, none]) (s := s0) (s1 := s0) (j := j) (e := .op2 .add (.cst (.int 3)) (.prim .min2 (.cons (.prim .len (.cons (.var 0) .nil)) (.cons (.cst (.int 12)) .nil)))) (by simp [j]) (by omega) (by omega)
  have lv : leave [] (.bl true) s' = .ok (.bl true) [] := by
    unfold leave
    rw [if_pos (.inl rfl)]
    rfl
  simp [permute, h0', hr, h1, lv]
end
end WS.k01
set_option maxRecDepth 100000
set_option maxHeartbeats 0
namespace WS.k01
open PySem PySem.Spec PyProof.Rows L2
abbrev Pr : Program := PySem.Challenge.pw_wholestory_k01_errors_by_class
def defs : List DD := [
  /- 0 _law_begun -/ ddG Pr "_law_begun" ["_law_script", "_law_wide", "_law_cell"] [] ["_law_wide"] true false none,
  /- 1 _law_mixed -/ ddG Pr "_law_mixed" ["_law_draw", "_law_turn", "_law_found", "_law_prime", "_law_blend", "_law_cell"] [] ["_law_draw"] false false none,
  /- 2 _law_take -/ ddG Pr "_law_take" ["_law_draw", "_law_size", "_law_found"] [] ["_law_draw"] false false none,
  /- 3 _law_pick -/ ddG Pr "_law_pick" ["_law_draw", "_law_some"] [] [] false false none,
  /- 4 _law_caught -/ ddG Pr "_law_caught" ["_law_work", "_law_caught_here", "_law_error"] [] [] false false (some 0),
  /- 5 _law_any -/ ddG Pr "_law_any" ["_law_draw", "_law_deep", "_law_lap", "_law_some"] [] [] false false none,
  /- 6 _law_ones -/ ddG Pr "_law_ones" ["_law_odd", "_law_some"] [] [] false false none,
  /- 7 _law_ones_named -/ ddG Pr "_law_ones_named" ["_law_odd", "_law_some"] [] [] false false none,
  /- 8 _law_kept_by_ones -/ ddG Pr "_law_kept_by_ones" ["_law_some", "_law_found"] [] [] false false none,
  /- 9 _law_twos -/ ddG Pr "_law_twos" ["_law_odd", "_law_even", "_law_by_names", "_law_some"] [] [] false false none,
  /- 10 _law_kept_by_twos -/ ddG Pr "_law_kept_by_twos" ["_law_some", "_law_found"] [] [] false false none,
  /- 11 _law_flags -/ ddG Pr "_law_flags" ["_law_error", "_law_some"] [] [] false false none,
  /- 12 _law_thrown -/ ddG Pr "_law_thrown" ["_law_odd"] [] [] false false none,
  /- 13 law -/ ddG Pr "law" ["_law_script", "_law_draw", "_law_turn", "_law_odd", "_law_even", "_law_by_names", "_law_first", "_law_second", "_law_way", "_law_error", "_law_k", "_law_caught_here"] [] [] false true none]
def clsL : List (Str × Cl) := []
def exsL : List ExD := [{ x := "StoryError", fs := [], up := [0], init := none },
  { x := "BadRule", fs := ["field"], up := [1, 0], init := some (ddM Pr "BadRule" "__init__" ["self", "field"] [] []) },
  { x := "BadHouse", fs := ["field"], up := [2, 0], init := some (ddM Pr "BadHouse" "__init__" ["self", "field"] [] []) },
  { x := "BadNet", fs := ["field", "house"], up := [3, 0], init := some (ddM Pr "BadNet" "__init__" ["self", "field", "house"] [] []) },
  { x := "NoHouse", fs := ["house"], up := [4, 0], init := some (ddM Pr "NoHouse" "__init__" ["self", "house"] [] []) },
  { x := "NoEntry", fs := ["house"], up := [5, 0], init := some (ddM Pr "NoEntry" "__init__" ["self", "house"] [] []) },
  { x := "BadStory", fs := ["path"], up := [6, 0], init := some (ddM Pr "BadStory" "__init__" ["self", "path"] [] []) },
  { x := "BadMarks", fs := [], up := [7, 0], init := none },
  { x := "NoCall", fs := ["path"], up := [8, 0], init := some (ddM Pr "NoCall" "__init__" ["self", "path"] [] []) },
  { x := "BadHarm", fs := ["word"], up := [9, 0], init := some (ddM Pr "BadHarm" "__init__" ["self", "word"] [] []) },
  { x := "BadStand", fs := ["stand"], up := [10, 0], init := some (ddM Pr "BadStand" "__init__" ["self", "stand"] [] []) },
  { x := "BadTells", fs := [], up := [11, 0], init := none },
  { x := "NoClass", fs := ["key"], up := [12, 0], init := some (ddM Pr "NoClass" "__init__" ["self", "key"] [] []) },
  { x := "NotPlain", fs := ["house"], up := [13, 0], init := some (ddM Pr "NotPlain" "__init__" ["self", "house"] [] []) },
  { x := "InConflict", fs := ["one", "other"], up := [14, 0], init := some (ddM Pr "InConflict" "__init__" ["self", "one", "other"] [] []) },
  { x := "OtherNets", fs := [], up := [15, 0], init := none },
  { x := "BadNumber", fs := ["number"], up := [16, 0], init := some (ddM Pr "BadNumber" "__init__" ["self", "number"] [] []) },
  { x := "BadSeen", fs := ["at"], up := [17, 0], init := some (ddM Pr "BadSeen" "__init__" ["self", "at"] [] []) },
  { x := "NotPossible", fs := [], up := [18, 0], init := none },
  { x := "BadTimes", fs := ["field"], up := [19, 0], init := some (ddM Pr "BadTimes" "__init__" ["self", "field"] [] []) },
  { x := "BadCourse", fs := ["path"], up := [20, 0], init := some (ddM Pr "BadCourse" "__init__" ["self", "path"] [] []) },
  { x := "NoWay", fs := ["house", "other"], up := [21, 0], init := some (ddM Pr "NoWay" "__init__" ["self", "house", "other"] [] []) },
  { x := "NothingDone", fs := [], up := [22, 0], init := none },
  { x := "BadDeed", fs := ["at"], up := [23, 0], init := some (ddM Pr "BadDeed" "__init__" ["self", "at"] [] []) },
  { x := "BadText", fs := ["line"], up := [24, 0], init := some (ddM Pr "BadText" "__init__" ["self", "line"] [] []) }]
def gloL : List (Str × DV) := []
def fldL : List Str := ["at", "field", "house", "key", "line", "number", "one", "other", "path", "stand", "word"]
def embL : List Str := []
def ownL : List Str := ["net", "self"]

def code : List (List St) := [c0, c1, c2, c3, c4, c5, c6, c7, c8, c9, c10, c11, c12, c13]
def Δ : Desc := { defs := defs, code := code, cls := clsL, exs := exsL, root := "StoryError", glo := gloL, flds := fldL, own := ownL, emb := embL }
theorem stat : Δ.statB = true := by decide +kernel
theorem code_ok : (Δ.defs.map fun d => match d.cat with
      | some _ => some []
      | none => trB Δ.tb d.N d.mu d.kr d.ll 100 d.scope d.body) = Δ.code.map some := by kernel_rfl
theorem tbl : Tbl Δ.pg Δ.keep := by constructor <;> kernel_rfl
end WS.k01
set_option maxRecDepth 100000
set_option maxHeartbeats 0
namespace WS.k01
open PySem PySem.Spec PyProof.Rows L2
abbrev R := PySem.W.OpenLaw.row PySem.Challenge.rw_wholestory_k01_errors_by_class
def hk : PySem.W.Hook := hookW 7 Δ.all Δ.tf Δ.lnkB
def ob (s : PySem.W.SharedT) : AlW := obsW 7 Δ.all Δ.tf Δ.lnkB (HandSHeadRun.getT s)
theorem ob_eq (s : PySem.W.SharedT) : ob s = hk.obs s.abs := obsW_eq (HandSHeadRun.getT_eq s)
def loose : List Str := (["__name__", "StoryError", "BadRule", "BadHouse", "BadNet", "NoHouse", "NoEntry", "BadStory", "BadMarks", "NoCall", "BadHarm", "BadStand", "BadTells", "NoClass", "NotPlain", "InConflict", "OtherNets", "BadNumber", "BadSeen", "NotPossible", "BadTimes", "BadCourse", "NoWay", "NothingDone", "BadDeed", "BadText", "_law_begun", "_law_mixed", "_law_take", "_law_pick"] : List Str) ++ (["_law_caught", "_law_any", "_law_ones", "_law_ones_named", "_law_kept_by_ones", "_law_twos", "_law_kept_by_twos", "_law_flags", "_law_thrown"] : List Str)
theorem run (w : World) : HandSHeadRun.RunEq R (PySem.W.view R.prog [40]) hk ob 8000 loose w := by
  intro os
  kernel_rfl
end WS.k01
set_option maxRecDepth 100000
set_option maxHeartbeats 8000000
open PySem PySem.W PySem.Calls PyProof.Rows
theorem PySem.Challenge.cw_wholestory_k01_errors_by_class_holds : PySem.Challenge.rw_wholestory_k01_errors_by_class.Holds := by
  w_on; o_law
  refine HandSHeadRun.head_any (r := OpenLaw.row PySem.Challenge.rw_wholestory_k01_errors_by_class) (q := view (OpenLaw.row PySem.Challenge.rw_wholestory_k01_errors_by_class).prog [40]) (H := WS.k01.hk) (ob := WS.k01.ob) (M := 8000) (loose := WS.k01.loose) (d := HandSHeadRun.topDef (OpenLaw.row PySem.Challenge.rw_wholestory_k01_errors_by_class).prog 40) (kwd := []) WS.k01.ob_eq
    (by kernel_rfl) (fun s => by kernel_rfl) WS.k01.run (by kernel_rfl) (by kernel_rfl) (by kernel_rfl) (by rfl) (by first | assumption | decide +kernel) (by decide +kernel) ⟨rfl, rfl, rfl, rfl, rfl, by decide +kernel⟩ ?hw ?hc
  case hw => w_witness2
  case hc =>
    exact WS.law_walk (l := PySem.Challenge.rw_wholestory_k01_errors_by_class) (n := 63) (m := 7) (Δ := WS.k01.Δ) (f0 := 13) (lv := 12) (x := "_law_script") rfl (by decide) (by kernel_rfl) (D := WS.k01.defs.getLast (by decide)) (by kernel_rfl) (by kernel_rfl) (by kernel_rfl) (by decide +kernel) (by kernel_rfl) ⟨rfl, by decide, by decide⟩ WS.k01.stat WS.k01.code_ok fun ns hl _ => WS.k01.law13 WS.k01.tbl hl
