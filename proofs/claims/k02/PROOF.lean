import PyProof.Rows.All
import Wide.All
import OpenK.AllK
import Wide.FinOn
import HandS.Head0
import HandS.Head1
import HandS.Head2
import HandS.HeadEnd
import HandS.HeadWalk
import HandS.NestedK
import HandS.HeadHook4
import HandS.Defaults
import HandS.Deep
import HandS.ExcIs
import HandS.HotCalls
import HandS.Zip0
import HandS.Walk
import HandS.Zip
import HandS.ExcOwn
import HandS.RevRange
import HandS.Text
import KE.DataCmp
import KE.DataMinMax
import KE.DataAny
import KE.SortData
import HandS.Style
import HandS.Wide
import HandS.TupAny
import HandS.TupMul
import KE.KDictKeyed
import KE.KeyNested
import HandS.Base
import HandS.Call
import HandS.List
import HandS.Comp
import HandS.Exc
import HandS.ExcCtx
import HandS.Iter
import HandS.Lambda
import PySem.Str
import HandS.IsInst
import KE.KRevSl
import HandS.TupSets
import PySem.Challenge.RW_snowsteps_k02_whole_walks
set_option Elab.async false
set_option linter.all false
/-! MiA: data, the small language, its evaluator. -/
namespace Mi
open PySem

/-! ### data -/
inductive D where
  | non | bl (b : Bool) | int (i : Int) | str (x : Str)
  | tup (xs : List D) | lst (xs : List D) | dct (kvs : List (D × D)) | set (xs : List D) | exc (c : Nat)

mutual
/-- the equality of the language, on plain data -/
def D.eqv : D → D → Bool
  | .non, .non => true
  | .bl a, .bl b => a == b
  | .bl a, .int j => (if a then 1 else 0) == j
  | .int i, .bl b => i == (if b then 1 else 0)
  | .int i, .int j => i == j
  | .str x, .str y => x == y
  | .lst xs, .lst ys => D.eqvs xs ys
  | .tup xs, .tup ys => D.eqvs xs ys
  | _, _ => false
def D.eqvs : List D → List D → Bool
  | [], [] => true
  | x :: xs, y :: ys => D.eqv x y && D.eqvs xs ys
  | _, _ => false
end
mutual
/-- no dict, no set, no error within; so many levels at most -/
def D.plain : Nat → D → Bool
  | _, .non => true
  | _, .bl _ => true
  | _, .int _ => true
  | _, .str x => x.cps.toList.all fun c => decide (c < 1114112)
  | n + 1, .lst xs => D.plains n xs
  | n + 1, .tup xs => D.plains n xs
  | _, _ => false
def D.plains : Nat → List D → Bool
  | _, [] => true
  | n, x :: xs => D.plain n x && D.plains n xs
end
mutual
/-- the order of the language, on data of one kind -/
def D.lt : D → D → Bool
  | .int a, .int b => decide (a < b)
  | .bl a, .bl b => !a && b
  | .str a, .str b => decide (a.cps.toList < b.cps.toList)
  | .tup xs, .tup ys => D.lts xs ys
  | .lst xs, .lst ys => D.lts xs ys
  | _, _ => false
def D.lts : List D → List D → Bool
  | [], _ :: _ => true
  | x :: xs, y :: ys => if D.eqv x y then D.lts xs ys else D.lt x y
  | _, _ => false
end
mutual
def D.alike : D → D → Bool
  | .non, .non => true
  | .bl _, .bl _ => true
  | .int _, .int _ => true
  | .str _, .str _ => true
  | .lst xs, .lst ys => D.alikes xs ys
  | .tup xs, .tup ys => D.alikes xs ys
  | _, _ => false
def D.alikes : List D → List D → Bool
  | x :: xs, y :: ys => D.alike x y && D.alikes xs ys
  | _, _ => true
end
/-- levels that are told of data -/
abbrev lvl : Nat := 12

/-! ### the language -/
inductive Op2 where | add | sub | mul | fdiv | mod | pow
  deriving DecidableEq
inductive Cm where | eq | ne | lt | le | gt | ge | isin | notin | is_ | isnot
  deriving DecidableEq
inductive Ty where | int | bool | str | tuple | list | value | cls (x : Nat)
  deriving DecidableEq
inductive Bi where | len | all | any | tuple | list | sorted | set | sum | min | max | int | str | dict | min2 | max2
  deriving DecidableEq
inductive Mt where | append | pop | popAt | remove | index | get | join | split | count | partition | replace
  deriving DecidableEq

mutual
inductive Tg where
  | n (i : Nat) | t (l : Tgs)
inductive Tgs where
  | nil | cons (a : Tg) (l : Tgs)
end

mutual
inductive E where
  | var (i : Nat)
  | non | bl (b : Bool) | int (i : Int) | str (x : Str)
  | gi (i : Int) | gs (x : Str)
  | tup (l : Es) | lst (l : Es) | dct0 | dct1 (k v : E)
  | bin (o : Op2) (a b : E) | neg (a : E)
  | not_ (a : E) | and_ (a b : E) | or_ (a b : E)
  | cmp (c : Cm) (a b : E) | chn (c c' : Cm) (a b d : E)
  | ife (t a b : E)
  | sub (a i : E)
  | slf (a i : E) | slt (a i : E) | rev (a : E)
  | call (f : Nat) (l : Es)
  | bi (f : Bi) (l : Es)
  | mth (m : Mt) (a : E) (l : Es)
  | isi (a : E) (t : Ty)
  | cmp1 (hf : Bool) (el : E) (g : Tg) (it : It) (c : E) (own : List Nat)
  | cmp2 (el : E) (g : Tg) (it : It) (g2 : Tg) (it2 : It) (own : List Nat)
  | dcm (k v : E) (g : Tg) (it : It) (own : List Nat)
  | told (k : Nat) (a : E)
  | fld (i x : Nat)
  | mthF (m : Mt) (i x : Nat) (l : Es)
  | subF (i x : Nat) (a : E)
  | own (i f : Nat) (l : Es)
  | mk (k f : Nat) (l : Es)
  | fstr (a : E) (m : Str) (b : E)
  | stuck
  | cnt (i : Nat)
  | sset (l : Es)
inductive Es where
  | nil | cons (a : E) (l : Es)
inductive It where
  | seq (a : E) | rng1 (a : E) | rng3 (a b c : E) | enum (a : E) | zip (a b : E) | fldI (i x : Nat)
end
inductive S where
  | pass | brk | stuck
  | fin (b : S) (kl : List Nat)
  | seq (a b : S)
  | asg (fz : Bool) (i : Nat) (e : E)
  | asgT (g : Tg) (e : E)
  | par (loc fa fb : Bool) (i j : Nat) (a b : E)
  | par3 (loc fa fb fc : Bool) (i j k : Nat) (a b c : E)
  | setI (i : Nat) (k v : E)
  | setF (i x : Nat) (k v : E)
  | fldS (fz : Bool) (i x : Nat) (e : E)
  | ex (e : E)
  | ifs (t : E) (a b : S)
  | for_ (g : Tg) (it : It) (b : S)
  | whl (t : E) (b : S)
  | ret (e : E)
  | rais (c : Nat)

def Es.len : Es → Nat
  | .nil => 0
  | .cons _ l => l.len + 1
def Tgs.len : Tgs → Nat
  | .nil => 0
  | .cons _ l => l.len + 1

mutual
def Tg.sub : Tg → List Nat → Bool
  | .n i, vs => vs.contains i
  | .t l, vs => Tgs.sub l vs
def Tgs.sub : Tgs → List Nat → Bool
  | .nil, _ => true
  | .cons a l, vs => a.sub vs && l.sub vs
end

/-! ### what stands in a name -/
inductive Cn where | p (d : D) | l (xs : List D) | d (kvs : List (D × D))
def Cn.dat : Cn → D
  | .p y => y
  | .l xs => .lst xs
  | .d kvs => .dct kvs
/-- x: nothing; c: content; o: an object of the class k -/
inductive Slot where | x | c (c : Cn) | o (k : Nat) (fs : List Cn)
abbrev Env := List Slot
abbrev Slot.p (d : D) : Slot := .c (.p d)
/-- a value in hand: data; new and nobody else's; the name i -/
inductive W where | d (x : D) | m (s : Slot) | s (i : Nat)

inductive Rs (α : Type) where | ok (a : α) (ρ : Env) | ex (c : Nat) (ρ : Env)
abbrev R (α : Type) := Option (Rs α)
@[reducible] def R.bind {α β : Type} (r : R α) (f : α → Env → R β) : R β :=
  match r with
  | some (.ok a ρ) => f a ρ
  | some (.ex c ρ) => some (.ex c ρ)
  | none => none
@[simp] theorem R.bind_ok {α β : Type} (a : α) (ρ : Env) (f : α → Env → R β) : R.bind (some (.ok a ρ)) f = f a ρ := rfl
@[simp] theorem R.bind_ex {α β : Type} (c : Nat) (ρ : Env) (f : α → Env → R β) : R.bind (some (.ex c ρ)) f = some (.ex c ρ) := rfl
@[simp] theorem R.bind_none {α β : Type} (f : α → Env → R β) : R.bind none f = none := rfl

def Slot.dat? : Slot → Option D
  | .c y => some y.dat
  | _ => none
def look (ρ : Env) : W → Option D
  | .d x => some x
  | .m s => s.dat?
  | .s i => (ρ[i]?).bind Slot.dat?
def looks (ρ : Env) : List W → Option (List D)
  | [] => some []
  | w :: ws => match look ρ w with
    | some d => match looks ρ ws with
      | some ds => some (d :: ds)
      | none => none
    | none => none
/-- handed away for good: from now on it never changes -/
def esc (ρ : Env) : W → Option (D × Env)
  | .d x => some (x, ρ)
  | .m (.c c) => some (c.dat, ρ)
  | .m _ => none
  | .s i => match ρ[i]? with
    | some (.c (.p d)) => some (d, ρ)
    | some (.c c) => some (c.dat, ρ.set i (.p c.dat))
    | _ => none
def escs (ρ : Env) : List W → Option (List D × Env)
  | [] => some ([], ρ)
  | w :: ws => match esc ρ w with
    | some (d, ρ1) => match escs ρ1 ws with
      | some (ds, ρ2) => some (d :: ds, ρ2)
      | none => none
    | none => none
/-- new things in hand are kept as data -/
def W.fz : W → W
  | .m (.c c) => .d c.dat
  | w => w

/-! ### the operators -/
def intMul (i j : Int) : Option Int := if i.natAbs.log2 + j.natAbs.log2 < 100000000 then some (i * j) else none
/-- a list, a text has at most so many items -/
def big : Nat := 16000000
def newL (xs : List D) : Option W := if xs.length ≤ big then some (.m (.c (.l xs))) else none
def newT (xs : List D) : Option W := if xs.length ≤ big then some (.d (.tup xs)) else none
def rep {α : Type} (xs : List α) : Nat → List α
  | 0 => []
  | n + 1 => xs ++ rep xs n
def bin (o : Op2) (a b : D) : Option W := match o, a, b with
  | .add, .int i, .int j => some (.d (.int (i + j)))
  | .add, .str x, .str y => if x.length + y.length ≤ big then some (.d (.str (x ++ y))) else none
  | .add, .lst xs, .lst ys => newL (xs ++ ys)
  | .add, .tup xs, .tup ys => newT (xs ++ ys)
  | .sub, .int i, .int j => some (.d (.int (i - j)))
  | .mul, .int i, .int j => (intMul i j).map fun z => .d (.int z)
  | .mul, .lst xs, .int j => if 0 ≤ j ∧ j ≤ 1000 ∧ xs.length ≤ 1000 then newL (rep xs j.toNat) else none
  | .mul, .tup xs, .int j => if 2 ≤ j ∧ j ≤ 1000 ∧ xs.length ≤ 1000 ∧ xs ≠ [] then newT (rep xs j.toNat) else none
  | .fdiv, .int i, .int j => if 0 < j ∧ j < 2 ^ 80 then some (.d (.int (i / j))) else none
  | .mod, .int i, .int j => if 0 < j then some (.d (.int (i % j))) else none
  | .pow, .int i, .int j => if 0 ≤ j ∧ j ≤ 100 ∧ i.natAbs < 2 ^ 60 then some (.d (.int (i ^ j.toNat))) else none
  | _, _, _ => none
def occIn (x y : Str) : Bool := match x.cps.toList with
  | [c] => y.cps.toList.contains c
  | _ => false
def mem (x : D) (xs : List D) : Bool := xs.any fun y => D.eqv y x
def keyOk (k : D) : Bool := k.plain lvl
def dget (kvs : List (D × D)) (k : D) : Option D := match kvs with
  | [] => none
  | (a, v) :: r => if D.eqv a k then some v else dget r k
def dput (kvs : List (D × D)) (k v : D) : List (D × D) := match kvs with
  | [] => [(k, v)]
  | (a, w) :: r => if D.eqv a k then (a, v) :: r else (a, w) :: dput r k v
/-- data that can be keys of one dict: tuples (of texts, intsOf, tuples ..), or texts -/
def D.isTup : D → Bool | .tup _ => true | _ => false
def D.isStr : D → Bool | .str _ => true | _ => false
mutual
/-- no list within -/
def D.hard : Nat → D → Bool
  | _, .non => true
  | _, .bl _ => true
  | _, .int _ => true
  | _, .str _ => true
  | n + 1, .tup xs => D.hards n xs
  | _, _ => false
def D.hards : Nat → List D → Bool
  | _, [] => true
  | n, x :: xs => D.hard n x && D.hards n xs
end
mutual
/-- keys whose equality is being the same: no truth values, no lists -/
def D.firm : Nat → D → Bool
  | _, .non => true
  | _, .int _ => true
  | _, .str _ => true
  | n + 1, .tup xs => D.firms n xs
  | _, _ => false
def D.firms : Nat → List D → Bool
  | _, [] => true
  | n, x :: xs => D.firm n x && D.firms n xs
end
def keyFit (kvs : List (D × D)) (k : D) : Bool := (k.isTup && k.hard 6 && kvs.all fun p => p.1.isTup) || (k.isStr && kvs.all fun p => p.1.isStr)
def cmpD (c : Cm) (a b : D) : Option Bool := match c with
  | .eq => if a.plain lvl && b.plain lvl then some (D.eqv a b) else none
  | .ne => if a.plain lvl && b.plain lvl then some (!D.eqv a b) else none
  | .lt => if a.plain lvl && b.plain lvl && a.alike b then match a, b with
      | .int i, .int j => some (decide (i < j))
      | .str _, .str _ => some (D.lt a b)
      | .tup _, .tup _ => some (D.lt a b)
      | _, _ => none
    else none
  | .le => match a, b with
    | .int i, .int j => some (decide (i ≤ j))
    | .str i, .str j => some (!decide (j.cps.toList < i.cps.toList))
    | _, _ => none
  | .gt => match a, b with | .int i, .int j => some (decide (j < i)) | _, _ => none
  | .ge => match a, b with | .int i, .int j => some (decide (j ≤ i)) | _, _ => none
  | .isin => match a, b with
    | .str x, .str y => if x.length = 1 ∧ y.length ≤ 1000 then some (occIn x y) else none
    | a, .lst xs => if a.plain lvl && D.plains lvl xs then some (mem a xs) else none
    | a, .tup xs => if a.plain lvl && D.plains lvl xs then some (mem a xs) else none
    | _, _ => none
  | .notin => match a, b with
    | a, .lst xs => if a.plain lvl && D.plains lvl xs then some (!mem a xs) else none
    | a, .tup xs => if a.plain lvl && D.plains lvl xs then some (!mem a xs) else none
    | _, _ => none
  | .is_ => match a, b with
    | .non, .non => some true
    | _, .non => some false
    | .bl x, .bl y => some (x == y)
    | _, _ => none
  | .isnot => match a, b with
    | .non, .non => some false
    | _, .non => some true
    | .bl x, .bl y => some (!(x == y))
    | _, _ => none
/-- the place of an index -/
def ixOf (n : Nat) (i : Int) : Option Nat := if 0 ≤ i then (if i < n then some i.toNat else none) else if -(n : Int) ≤ i then some (i + n).toNat else none
def at? {α : Type} (xs : List α) (i : Int) : Option α := (ixOf xs.length i).bind fun j => xs[j]?
def subD (a i : D) : Option D := match a, i with
  | .lst xs, .int i => at? xs i
  | .tup xs, .int i => at? xs i
  | _, _ => none
/-- the end of a slice [:i], the start of a slice [i:] -/
def cutAt (n : Nat) (i : Int) : Nat := if 0 ≤ i then Nat.min i.toNat n else (i + n).toNat
def slD (from_ : Bool) (a i : D) : Option W := match a, i with
  | .lst xs, .int i => newL (if from_ then xs.drop (cutAt xs.length i) else xs.take (cutAt xs.length i))
  | .tup xs, .int i => newT (if from_ then xs.drop (cutAt xs.length i) else xs.take (cutAt xs.length i))
  | .str x, .int i => if x.length ≤ big then some (.d (.str ⟨(if from_ then x.cps.toList.drop (cutAt x.length i) else x.cps.toList.take (cutAt x.length i)).toArray⟩)) else none
  | _, _ => none
def revD : D → Option W
  | .lst xs => newL xs.reverse
  | .tup xs => newT xs.reverse
  | _ => none
def boolsOf : List D → Option (List Bool)
  | [] => some []
  | .bl b :: r => (boolsOf r).map (b :: ·)
  | _ => none
def intsOf : List D → Option (List Int)
  | [] => some []
  | .int b :: r => (intsOf r).map (b :: ·)
  | _ => none
def D.leB (a b : D) : Bool := !D.lt b a
def allAlike (xs : List D) : Bool := xs.all fun x => x.plain lvl && xs.all fun y => x.alike y
def sortOk (xs : List D) : Bool := allAlike xs && ((xs.all fun x => match x with | .tup (_ :: _) => true | _ => false) || xs.all fun x => match x with | .non => false | .tup _ => false | _ => true)
/-- an equal one for each, once -/
def dedup : List D → List D
  | [] => []
  | x :: r => if mem x r then dedup r else x :: dedup r
def minOf (x : D) : List D → D
  | [] => x
  | y :: r => minOf (if D.lt y x then y else x) r
def maxOf (x : D) : List D → D
  | [] => x
  | y :: r => maxOf (if D.lt x y then y else x) r
def items : D → Option (List D)
  | .lst xs => some xs
  | .tup xs => some xs
  | .set xs => some xs
  | .dct kvs => some (kvs.map (·.1))
  | _ => none
def smallNat (i : Int) : Bool := decide (0 ≤ i ∧ i < 1000)
def biLen : List D → Option W
  | [.str x] => if x.length ≤ big then some (.d (.int x.length)) else none
  | [.lst xs] => some (.d (.int xs.length))
  | [.tup xs] => some (.d (.int xs.length))
  | _ => none
def biAll : List D → Option W
  | [.lst xs] => (boolsOf xs).map fun bs => .d (.bl (bs.all id))
  | _ => none
def biAny : List D → Option W
  | [.lst xs] => (boolsOf xs).map fun bs => .d (.bl (bs.any id))
  | _ => none
def biTuple : List D → Option W
  | [.tup xs] => some (.d (.tup xs))
  | [.lst xs] => newT xs
  | _ => none
def biList : List D → Option W
  | [.lst xs] => newL xs
  | [.tup xs] => newL xs
  | _ => none
def biSorted : List D → Option W
  | [.lst xs] => if sortOk xs then newL (xs.mergeSort D.leB) else none
  | _ => none
def biSum : List D → Option W
  | [.lst xs] => (intsOf xs).map fun ns => .d (.int ns.sum)
  | _ => none
def biMin2 : List D → Option W
  | [.int i, .int j] => some (.d (.int (if j < i then j else i)))
  | _ => none
def biMax2 : List D → Option W
  | [.int i, .int j] => some (.d (.int (if j > i then j else i)))
  | _ => none
def biInt : List D → Option W
  | [.bl b] => some (.d (.int (if b then 1 else 0)))
  | _ => none
/-- strictly rising, each behind the ones before it, and no other way -/
def risesB : List D → Bool
  | [] => true
  | x :: r => !D.lt x x && (r.all (fun y => D.lt x y && !D.lt y x) && risesB r)
def setOk (xs : List D) : Bool := decide (xs.length < 64) && (sortOk xs && (xs.all (fun x => x.isTup && x.firm 8) && risesB ((dedup xs).mergeSort D.leB)))
def ssetD : List D → Option W
  | [.lst xs] => if setOk xs then newL ((dedup xs).mergeSort D.leB) else none
  | [.tup xs] => if setOk xs then newL ((dedup xs).mergeSort D.leB) else none
  | _ => none
def biD (f : Bi) (l : List D) : Option W := match f with
  | .len => biLen l
  | .all => biAll l
  | .any => biAny l
  | .tuple => biTuple l
  | .list => biList l
  | .sorted => biSorted l
  | .sum => biSum l
  | .min2 => biMin2 l
  | .max2 => biMax2 l
  | .int => biInt l
  | _ => none
/-- texts: cut at a sign; joined -/
def splitL (p : List Nat) : List Nat → List Nat → List (List Nat)
  | acc, [] => [acc.reverse]
  | acc, c :: r => if p.isPrefixOf (c :: r) then
      match p with
      | [_] => acc.reverse :: splitL p [] r
      | [_, _] => match r with
        | _ :: r' => acc.reverse :: splitL p [] r'
        | [] => [acc.reverse]
      | _ => []
    else splitL p (c :: acc) r
def joinL (p : List Nat) : List (List Nat) → List Nat
  | [] => []
  | [x] => x
  | x :: r => x ++ p ++ joinL p r
def strsOf : List D → Option (List (List Nat))
  | [] => some []
  | .str x :: r => (strsOf r).map (x.cps.toList :: ·)
  | _ => none
def sepOk (p : Str) : Bool := p.length == 1 || p.length == 2
/-- methods that change nothing -/
def mtIndex (a : D) : List D → Option W
  | [x] => (match a with
    | .lst xs => if x.plain lvl && D.plains lvl xs then (xs.findIdx? fun y => D.eqv y x).map fun (i : Nat) => .d (.int i) else none
    | _ => none)
  | _ => none
def mtD (m : Mt) (a : D) (l : List D) : Option W := match m with
  | .index => mtIndex a l
  | _ => none
/-- methods that change the list -/
def mtAppend (xs : List D) : List D → Option (D × List D)
  | [x] => if xs.length < big then some (.non, xs ++ [x]) else none
  | _ => none
def mtPop (xs : List D) : List D → Option (D × List D)
  | [] => (match xs.getLast? with
    | some x => some (x, xs.dropLast)
    | none => none)
  | _ => none
def mtPopAt (xs : List D) : List D → Option (D × List D)
  | [.int i] => (match ixOf xs.length i with
    | some k => (match xs[k]? with
      | some x => if xs.length ≤ big then some (x, xs.eraseIdx k) else none
      | none => none)
    | none => none)
  | _ => none
def mtL (m : Mt) (xs : List D) (l : List D) : Option (D × List D) := match m with
  | .append => mtAppend xs l
  | .pop => mtPop xs l
  | .popAt => mtPopAt xs l
  | _ => none
def Mt.writes : Mt → Bool
  | .append => true | .pop => true | .popAt => true | .remove => true | _ => false
/-- what such a method is asked of -/
def Mt.fits : Mt → D → Bool
  | .index, .lst _ => true
  | _, _ => false
def isiD (d : D) (t : Ty) : Option Bool := match d with
  | .non => (match t with | .int => some false | .bool => some false | .str => some false | .tuple => some false | .list => some false | _ => none)
  | .bl _ => (match t with | .int => some true | .bool => some true | .str => some false | .tuple => some false | .list => some false | _ => none)
  | .int _ => (match t with | .int => some true | .bool => some false | .str => some false | .tuple => some false | .list => some false | _ => none)
  | .str _ => (match t with | .int => some false | .bool => some false | .str => some true | .tuple => some false | .list => some false | _ => none)
  | .tup _ => (match t with | .int => some false | .bool => some false | .str => some false | .tuple => some true | .list => some false | _ => none)
  | .lst _ => (match t with | .int => some false | .bool => some false | .str => some false | .tuple => some false | .list => some true | _ => none)
  | _ => none

/-- an exception of the kind c: is it of this class? 10: the base of all -/
def isiX (c : Nat) : Ty → Option Bool
  | .cls x => some (x == c || x == 10)
  | _ => none
def exOf (ρ : Env) : W → Option Nat
  | .s i => match ρ[i]? with
    | some (.o c [.p (.exc 0)]) => some c
    | _ => none
  | _ => none

/-! ### the evaluator -/
/-- a call: the name, what the arguments' places hold; the end, what they hold then -/
abbrev Cal := Nat → List Slot → Option (Except Nat W × List Slot)
structure Ctx where
  cal : Cal
  turns : Nat
def sRefused : Str := ⟨#[114, 101, 102, 117, 115, 101, 100]⟩
/-- the names of the refusals, in the order in which they are looked for -/
def kinds : List Str := [⟨#[66, 97, 100, 89, 97, 114, 100]⟩, ⟨#[66, 97, 100, 83, 112, 111, 116]⟩, ⟨#[66, 97, 100, 80, 114, 105, 110, 116, 115]⟩, ⟨#[66, 97, 100, 76, 97, 110, 101]⟩,
  ⟨#[66, 97, 100, 87, 97, 108, 107]⟩, ⟨#[66, 97, 100, 78, 117, 109, 98, 101, 114]⟩, ⟨#[66, 97, 100, 69, 118, 101, 110, 105, 110, 103]⟩, ⟨#[78, 111, 116, 104, 105, 110, 103]⟩, ⟨#[70, 117, 108, 108]⟩, ⟨#[66, 97, 100, 84, 101, 120, 116]⟩]
/-- what stands for a refusal that was met -/
def toldE (k c : Nat) : Option D := match kinds[c]? with
  | some x => some (if k = 0 then .tup [.str sRefused, .str x] else .exc c)
  | none => none

mutual
def asT (np : Nat) : Tg → D → Env → Option Env
  | .n i, d, ρ => if np ≤ i ∧ i < ρ.length then some (ρ.set i (.p d)) else none
  | .t l, .tup ds, ρ => asTs np l ds ρ
  | .t _, _, _ => none
def asTs (np : Nat) : Tgs → List D → Env → Option Env
  | .nil, [], ρ => some ρ
  | .cons a l, d :: ds, ρ => match asT np a d ρ with
    | some ρ1 => asTs np l ds ρ1
    | none => none
  | _, _, _ => none
end
def killAll (ρ : Env) : List Nat → Env
  | [] => ρ
  | i :: r => (killAll ρ r).set i .x
/-- the names of a comprehension get back what they had -/
def backAll (ρ ρ0 : Env) : List Nat → Env
  | [] => ρ
  | i :: r => (backAll ρ ρ0 r).set i (ρ0.getD i .x)
def Slot.free : Slot → Bool
  | .c (.l _) => true
  | .c (.d _) => true
  | .o _ _ => true
  | _ => false
/-- what a call gets; lent things are not to be had for so long -/
def lend : Env → List W → Option (List Slot × Env)
  | ρ, [] => some ([], ρ)
  | ρ, .d x :: ws => (lend ρ ws).map fun p => (.p x :: p.1, p.2)
  | ρ, .m s :: ws => (lend ρ ws).map fun p => (s :: p.1, p.2)
  | ρ, .s i :: ws => match ρ[i]? with
    | some (.c (.p d)) => (lend ρ ws).map fun p => (.p d :: p.1, p.2)
    | some .x => none
    | some s => (lend (ρ.set i .x) ws).map fun p => (s :: p.1, p.2)
    | none => none
/-- behind a call: what was lent has changed -/
def giveBack (ρ0 : Env) : Env → List W → List Slot → Option Env
  | ρ, [], [] => some ρ
  | ρ, .s i :: ws, s :: ss => match ρ0[i]? with
    | some s0 => if s0.free then giveBack ρ0 (ρ.set i s) ws ss else giveBack ρ0 ρ ws ss
    | none => none
  | ρ, _ :: ws, _ :: ss => giveBack ρ0 ρ ws ss
  | _, _, _ => none
def rngL (lo c : Int) : Nat → List D
  | 0 => []
  | n + 1 => .int lo :: rngL (lo + c) c n
def enumL (i : Int) : List D → List D
  | [] => []
  | x :: r => .tup [.int i, x] :: enumL (i + 1) r
def zipL : List D → List D → List D
  | x :: r, y :: q => .tup [x, y] :: zipL r q
  | _, _ => []
def chars (x : Str) : List D := x.cps.toList.map fun c => .str ⟨#[c]⟩
def itemsI : D → Option (List D)
  | .lst xs => some xs
  | .tup xs => some xs
  | .str x => some (chars x)
  | _ => none
def smallI (i : Int) : Bool := decide (-1000000 ≤ i ∧ i ≤ 1000000)
def seq2 : D → Option (List D)
  | .lst xs => some xs
  | .tup xs => some xs
  | _ => none

/-- the walk of a comprehension -/
def walkC (f : D → Env → R D) : List D → List D → Env → R (List D)
  | acc, [], ρ => some (.ok acc.reverse ρ)
  | acc, x :: r, ρ => R.bind (f x ρ) fun d ρ1 => walkC f (d :: acc) r ρ1
/-- with a test -/
def walkF (f : D → Env → R (Option D)) : List D → List D → Env → R (List D)
  | acc, [], ρ => some (.ok acc ρ)
  | acc, x :: r, ρ => R.bind (f x ρ) fun o ρ1 => match o with
    | some d => walkF f (acc ++ [d]) r ρ1
    | none => walkF f acc r ρ1
def walkD (f : D → Env → R (D × D)) : List (D × D) → List D → Env → R (List (D × D))
  | acc, [], ρ => some (.ok acc ρ)
  | acc, x :: r, ρ => R.bind (f x ρ) fun kv ρ1 => if keyFit acc kv.1 then walkD f (dput acc kv.1 kv.2) r ρ1 else none
/-- names whose own lists a comprehension walks: for so long they are not to be had -/
def freeIx (ρ : Env) : List W → List Nat
  | [] => []
  | .s i :: ws => match ρ[i]? with
    | some s => if s.free then i :: freeIx ρ ws else freeIx ρ ws
    | none => freeIx ρ ws
  | _ :: ws => freeIx ρ ws
/-- the items that a walk goes through -/
def wk0 : List D → Option (List D)
  | [d] => itemsI d
  | _ => none
def wk1 : List D → Option (List D)
  | [.int n] => if smallI n then some (rngL 0 1 n.toNat) else none
  | _ => none
def wk3 : List D → Option (List D)
  | [.int a, .int b, .int c] => if smallI a && smallI b && c == -1 then some (rngL a (-1) (a - b).toNat) else none
  | _ => none
def wk4 : List D → Option (List D)
  | [.lst xs] => some (enumL 0 xs)
  | _ => none
def wk5 : List D → Option (List D)
  | [.lst xs, .lst ys] => some (zipL xs ys)
  | [.tup xs, .tup ys] => some (zipL xs ys)
  | _ => none
def wkD (k : Nat) (ds : List D) : Option (List D) := match k with
  | 0 => wk0 ds
  | 1 => wk1 ds
  | 3 => wk3 ds
  | 4 => wk4 ds
  | 5 => wk5 ds
  | _ => none
def walked (ρ : Env) (k : Nat) (ws : List W) : Option (List D) := match looks ρ ws with
  | some ds => wkD k ds
  | none => none

mutual
def evE (C : Ctx) : E → Env → R W
  | .var i, ρ => match ρ[i]? with
    | some .x => none
    | some _ => some (.ok (.s i) ρ)
    | none => none
  | .non, ρ => some (.ok (.d .non) ρ)
  | .bl b, ρ => some (.ok (.d (.bl b)) ρ)
  | .int i, ρ => some (.ok (.d (.int i)) ρ)
  | .str x, ρ => some (.ok (.d (.str x)) ρ)
  | .gi i, ρ => some (.ok (.d (.int i)) ρ)
  | .gs x, ρ => some (.ok (.d (.str x)) ρ)
  | .tup l, ρ => R.bind (evEs C l ρ) fun ws ρ1 => match escs ρ1 ws with
    | some (ds, ρ2) => (newT ds).map fun w => .ok w ρ2
    | none => none
  | .lst l, ρ => R.bind (evEs C l ρ) fun ws ρ1 => match escs ρ1 ws with
    | some (ds, ρ2) => (newL ds).map fun w => .ok w ρ2
    | none => none
  | .dct0, _ => none
  | .dct1 _ _, _ => none
  | .bin o a b, ρ => R.bind (evE C a ρ) fun x ρ1 => R.bind (evE C b ρ1) fun y ρ2 => match looks ρ2 [x.fz, y.fz] with
    | some [d, e] => (bin o d e).map fun w => .ok w ρ2
    | _ => none
  | .neg a, ρ => R.bind (evE C a ρ) fun x ρ1 => match look ρ1 x with
    | some (.int i) => some (.ok (.d (.int (-i))) ρ1)
    | _ => none
  | .not_ a, ρ => R.bind (evE C a ρ) fun x ρ1 => match look ρ1 x with
    | some (.bl b) => some (.ok (.d (.bl (!b))) ρ1)
    | _ => none
  | .and_ a b, ρ => R.bind (evE C a ρ) fun x ρ1 => match look ρ1 x with
    | some (.bl true) => evE C b ρ1
    | some (.bl false) => some (.ok (.d (.bl false)) ρ1)
    | _ => none
  | .or_ a b, ρ => R.bind (evE C a ρ) fun x ρ1 => match look ρ1 x with
    | some (.bl false) => evE C b ρ1
    | some (.bl true) => some (.ok (.d (.bl true)) ρ1)
    | _ => none
  | .cmp c a b, ρ => R.bind (evE C a ρ) fun x ρ1 => R.bind (evE C b ρ1) fun y ρ2 => match looks ρ2 [x.fz, y.fz] with
    | some [d, e] => (cmpD c d e).map fun b => .ok (.d (.bl b)) ρ2
    | _ => none
  | .chn c c' a b e, ρ => R.bind (evE C a ρ) fun x ρ1 => R.bind (evE C b ρ1) fun y ρ2 => match looks ρ2 [x.fz, y.fz] with
    | some [d1, d2] => match cmpD c d1 d2 with
      | some true => R.bind (evE C e ρ2) fun z ρ3 => match looks ρ3 [y.fz, z.fz] with
        | some [d2', d3] => (cmpD c' d2' d3).map fun b => .ok (.d (.bl b)) ρ3
        | _ => none
      | some false => some (.ok (.d (.bl false)) ρ2)
      | none => none
    | _ => none
  | .ife t a b, ρ => R.bind (evE C t ρ) fun x ρ1 => match look ρ1 x with
    | some (.bl true) => evE C a ρ1
    | some (.bl false) => evE C b ρ1
    | _ => none
  | .sub a i, ρ => R.bind (evE C a ρ) fun x ρ1 => R.bind (evE C i ρ1) fun y ρ2 => match looks ρ2 [x.fz, y.fz] with
    | some [d, e] => (subD d e).map fun d => .ok (.d d) ρ2
    | _ => none
  | .slf a i, ρ => R.bind (evE C a ρ) fun x ρ1 => R.bind (evE C i ρ1) fun y ρ2 => match looks ρ2 [x.fz, y.fz] with
    | some [d, e] => (slD true d e).map fun w => .ok w ρ2
    | _ => none
  | .slt a i, ρ => R.bind (evE C a ρ) fun x ρ1 => R.bind (evE C i ρ1) fun y ρ2 => match looks ρ2 [x.fz, y.fz] with
    | some [d, e] => (slD false d e).map fun w => .ok w ρ2
    | _ => none
  | .rev a, ρ => R.bind (evE C a ρ) fun x ρ1 => match look ρ1 x with
    | some d => (revD d).map fun w => .ok w ρ1
    | _ => none
  | .call f l, ρ => R.bind (evEs C l ρ) fun ws ρ1 => match lend ρ1 (ws.map W.fz) with
    | some (ss, ρk) => (match C.cal f ss with
      | some (.ok w, ss') => (giveBack ρ1 ρk (ws.map W.fz) ss').map fun ρ2 => .ok w ρ2
      | some (.error c, ss') => (giveBack ρ1 ρk (ws.map W.fz) ss').map fun ρ2 => .ex c ρ2
      | none => none)
    | none => none
  | .bi f l, ρ => R.bind (evEs C l ρ) fun ws ρ1 => match looks ρ1 (ws.map W.fz) with
    | some ds => (biD f ds).map fun w => .ok w ρ1
    | none => none
  | .sset l, ρ => R.bind (evEs C l ρ) fun ws ρ1 => match looks ρ1 (ws.map W.fz) with
    | some ds => (ssetD ds).map fun w => .ok w ρ1
    | none => none
  | .mth m a l, ρ => R.bind (evE C a ρ) fun x ρ1 => match m.writes with
    | true => (match x with
      | .s i => (match ρ1[i]? with
        | some (.c (.l _)) => R.bind (evEs C l ρ1) fun ws ρ2 => match escs ρ2 ws with
          | some (ds, ρ3) => (match ρ3[i]? with
            | some (.c (.l xs)) => (mtL m xs ds).map fun p => .ok (.d p.1) (ρ3.set i (.c (.l p.2)))
            | _ => none)
          | none => none
        | _ => none)
      | _ => none)
    | false => (match look ρ1 x with
      | some d0 => if m.fits d0 then R.bind (evEs C l ρ1) fun ws ρ2 => match looks ρ2 (x.fz :: ws.map W.fz) with
        | some (d :: ds) => (mtD m d ds).map fun w => .ok w ρ2
        | _ => none else none
      | none => none)
  | .isi a t, ρ => R.bind (evE C a ρ) fun x ρ1 => match exOf ρ1 x with
    | some c => (isiX c t).map fun b => .ok (.d (.bl b)) ρ1
    | none => match look ρ1 x with
      | some d => (isiD d t).map fun b => .ok (.d (.bl b)) ρ1
      | _ => none
  | .cmp1 _ el g it c own, ρ => R.bind (evI C it ρ) fun kw ρ1 => match walked ρ1 kw.1 (kw.2.map W.fz) with
    | some xs => (match walkF (fun x ρ => match asT 0 g x (killAll ρ own) with
        | some ρ => R.bind (evE C c ρ) fun t ρ => match look ρ t with
          | some (.bl true) => R.bind (evE C el ρ) fun w ρ => match esc ρ w with
            | some (d, ρ) => some (.ok (some d) ρ)
            | none => none
          | some (.bl false) => some (.ok none ρ)
          | _ => none
        | none => none) [] xs (killAll ρ1 (freeIx ρ1 kw.2)) with
      | some (.ok ys ρ2) => (newL ys).map fun w => .ok w (backAll (killAll ρ2 own) ρ1 (own ++ freeIx ρ1 kw.2))
      | _ => none)
    | none => none
  | .cmp2 el g it g2 it2 own, ρ => R.bind (evI C it ρ) fun kw ρ1 => match walked ρ1 kw.1 (kw.2.map W.fz) with
    | some xs => R.bind (walkC (fun x ρ => match asT 0 g x ρ with
        | some ρ => R.bind (evI C it2 ρ) fun kw2 ρ => match walked ρ kw2.1 (kw2.2.map W.fz) with
          | some ys => R.bind (walkC (fun y ρ => match asT 0 g2 y ρ with
              | some ρ => R.bind (evE C el ρ) fun w ρ => match esc ρ w with
                | some (d, ρ) => some (.ok d ρ)
                | none => none
              | none => none) [] ys (killAll ρ (freeIx ρ kw2.2))) fun zs ρ3 => some (.ok (.lst zs) (backAll ρ3 ρ (freeIx ρ kw2.2)))
          | none => none
        | none => none) [] xs (killAll ρ1 (own ++ freeIx ρ1 kw.2))) fun yss ρ2 => (newL ((yss.filterMap items).flatten)).map fun w => .ok w (backAll ρ2 ρ1 (own ++ freeIx ρ1 kw.2))
    | none => none
  | .dcm _ _ _ _ _, _ => none
  | .told k a, ρ => match evE C a ρ with
    | some (.ok w ρ1) => if k = 0 then (match esc ρ1 w with
        | some (d, ρ2) => some (.ok (.d d) ρ2)
        | none => none) else some (.ok (.d .non) ρ1)
    | some (.ex c ρ1) => (toldE k c).map fun d => .ok (.d d) ρ1
    | none => none
  | .fstr _ _ _, _ => none
  | .stuck, _ => none
  | .cnt i, ρ => match ρ[i]? with
    | some (.c (.l xs)) => (boolsOf xs).map fun bs => .ok (.d (.int (bs.map fun b => if b then (1 : Int) else 0).sum)) ρ
    | _ => none
  | .fld _ _, _ => none
  | .mthF _ _ _ _, _ => none
  | .subF _ _ _, _ => none
  | .own _ _ _, _ => none
  | .mk _ _ _, _ => none
def evEs (C : Ctx) : Es → Env → R (List W)
  | .nil, ρ => some (.ok [] ρ)
  | .cons a l, ρ => R.bind (evE C a ρ) fun w ρ1 => R.bind (evEs C l ρ1) fun ws ρ2 => some (.ok (w :: ws) ρ2)
def evI (C : Ctx) : It → Env → R (Nat × List W)
  | .seq a, ρ => R.bind (evE C a ρ) fun w ρ1 => some (.ok (0, [w]) ρ1)
  | .rng1 a, ρ => R.bind (evE C a ρ) fun w ρ1 => some (.ok (1, [w]) ρ1)
  | .rng3 a b c, ρ => R.bind (evE C a ρ) fun w ρ1 => R.bind (evE C b ρ1) fun w2 ρ2 => R.bind (evE C c ρ2) fun w3 ρ3 => some (.ok (3, [w, w2, w3]) ρ3)
  | .enum a, ρ => R.bind (evE C a ρ) fun w ρ1 => some (.ok (4, [w]) ρ1)
  | .zip a b, ρ => R.bind (evE C a ρ) fun w ρ1 => R.bind (evE C b ρ1) fun w2 ρ2 => some (.ok (5, [w, w2]) ρ2)
  | .fldI _ _, _ => none
end

inductive Out where | nx (ρ : Env) | rt (w : W) (ρ : Env) | bk (ρ : Env) | ex (c : Nat) (ρ : Env)
def forL (f : D → Env → Option Out) : List D → Env → Option Out
  | [], ρ => some (.nx ρ)
  | x :: r, ρ => match f x ρ with
    | some (.nx ρ1) => forL f r ρ1
    | some (.bk ρ1) => some (.nx ρ1)
    | o => o
def whlL (t : Env → R Bool) (f : Env → Option Out) : Nat → Env → Option Out
  | 0, _ => none
  | n + 1, ρ => match t ρ with
    | some (.ok true ρ1) => match f ρ1 with
      | some (.nx ρ2) => whlL t f n ρ2
      | some (.bk ρ2) => some (.nx ρ2)
      | o => o
    | some (.ok false ρ1) => some (.nx ρ1)
    | some (.ex c ρ1) => some (.ex c ρ1)
    | none => none
def evT (C : Ctx) (t : E) (ρ : Env) : R Bool := R.bind (evE C t ρ) fun w ρ1 => match look ρ1 w with
  | some (.bl b) => some (.ok b ρ1)
  | _ => none
/-- what is stored in a name -/
def stored (fz : Bool) (ρ : Env) (w : W) : Option (Slot × Env) :=
  if fz then (esc ρ w).map fun p => (.p p.1, p.2) else match w with
    | .m s => some (s, ρ)
    | w => (esc ρ w).map fun p => (.p p.1, p.2)
def put (np : Nat) (ρ : Env) (i : Nat) (s : Slot) : Option Env := if np ≤ i ∧ i < ρ.length then some (ρ.set i s) else none
def evS (C : Ctx) (np : Nat) : S → Env → Option Out
  | .pass, ρ => some (.nx ρ)
  | .brk, ρ => some (.bk ρ)
  | .stuck, _ => none
  | .fin b kl, ρ => match evS C np b ρ with
    | some (.nx ρ1) => some (.nx (killAll ρ1 kl))
    | some (.bk ρ1) => some (.bk (killAll ρ1 kl))
    | o => o
  | .seq a b, ρ => match evS C np a ρ with
    | some (.nx ρ1) => evS C np b ρ1
    | o => o
  | .asg fz i e, ρ => match evE C e ρ with
    | some (.ok w ρ1) => match stored fz ρ1 w with
      | some (s, ρ2) => (put np ρ2 i s).map Out.nx
      | none => none
    | some (.ex c ρ1) => some (.ex c ρ1)
    | none => none
  | .asgT g e, ρ => match evE C e ρ with
    | some (.ok w ρ1) => match esc ρ1 w with
      | some (d, ρ2) => (asT np g d ρ2).map Out.nx
      | none => none
    | some (.ex c ρ1) => some (.ex c ρ1)
    | none => none
  | .par _ fa fb i j a b, ρ => match evEs C (.cons a (.cons b .nil)) ρ with
    | some (.ok [w1, w2] ρ1) => match stored fa ρ1 w1 with
      | some (s1, ρ2) => match stored fb ρ2 w2 with
        | some (s2, ρ3) => (put np ρ3 i s1).bind fun ρ4 => (put np ρ4 j s2).map Out.nx
        | none => none
      | none => none
    | some (.ex c ρ1) => some (.ex c ρ1)
    | _ => none
  | .par3 _ fa fb fc i j k a b c, ρ => match evEs C (.cons a (.cons b (.cons c .nil))) ρ with
    | some (.ok [w1, w2, w3] ρ1) => match stored fa ρ1 w1 with
      | some (s1, ρ2) => match stored fb ρ2 w2 with
        | some (s2, ρ3) => match stored fc ρ3 w3 with
          | some (s3, ρ4) => (put np ρ4 i s1).bind fun ρ5 => (put np ρ5 j s2).bind fun ρ6 => (put np ρ6 k s3).map Out.nx
          | none => none
        | none => none
      | none => none
    | some (.ex c ρ1) => some (.ex c ρ1)
    | _ => none
  | .setI i k v, ρ => match evE C v ρ with
    | some (.ok vw ρ1) => (match ρ1[i]? with
      | some (.c (.l _)) => (match evE C k ρ1 with
        | some (.ok kw ρ2) => (match escs ρ2 [vw, kw] with
          | some ([vd, .int z], ρ3) => (match ρ3[i]? with
            | some (.c (.l xs)) => (match ixOf xs.length z with
              | some j => some (.nx (ρ3.set i (.c (.l (xs.set j vd)))))
              | none => none)
            | _ => none)
          | _ => none)
        | some (.ex c ρ2) => some (.ex c ρ2)
        | none => none)
      | _ => none)
    | some (.ex c ρ1) => some (.ex c ρ1)
    | none => none
  | .ex e, ρ => match evE C e ρ with
    | some (.ok _ ρ1) => some (.nx ρ1)
    | some (.ex c ρ1) => some (.ex c ρ1)
    | none => none
  | .ifs t a b, ρ => match evT C t ρ with
    | some (.ok true ρ1) => evS C np a ρ1
    | some (.ok false ρ1) => evS C np b ρ1
    | some (.ex c ρ1) => some (.ex c ρ1)
    | none => none
  | .for_ g it b, ρ => match evI C it ρ with
    | some (.ok kw ρ1) => match escs ρ1 kw.2 with
      | some (ds, ρ2) => match wkD kw.1 ds with
        | some xs => forL (fun x ρ => match asT np g x ρ with
          | some ρ => evS C np b ρ
          | none => none) xs ρ2
        | none => none
      | none => none
    | some (.ex c ρ1) => some (.ex c ρ1)
    | none => none
  | .whl t b, ρ => whlL (evT C t) (evS C np b) C.turns ρ
  | .ret e, ρ => match evE C e ρ with
    | some (.ok (.s i) ρ1) => if np ≤ i then (match ρ1[i]? with
        | some (.c (.p d)) => some (.rt (.d d) ρ1)
        | some (.c c) => some (.rt (.m (.c c)) (ρ1.set i .x))
        | some (.o k fs) => some (.rt (.m (.o k fs)) (ρ1.set i .x))
        | _ => none)
      else (match esc ρ1 (.s i) with
        | some (d, ρ2) => some (.rt (.d d) ρ2)
        | none => none)
    | some (.ok w ρ1) => some (.rt w ρ1)
    | some (.ex c ρ1) => some (.ex c ρ1)
    | none => none
  | .rais c, ρ => some (.ex c ρ)
  | .setF _ _ _ _, _ => none
  | .fldS _ _ _ _, _ => none

/-! ### functions -/
structure Fn where
  np : Nat
  ns : Nat
  body : S
def runFn (C : Ctx) (f : Fn) (ss : List Slot) : Option (Except Nat W × List Slot) :=
  if ss.length = f.np then
    match evS C f.np f.body (ss ++ List.replicate (f.ns - f.np) .x) with
    | some (.nx ρ) => some (.ok (.d .non), ρ.take f.np)
    | some (.rt w ρ) => some (.ok w, ρ.take f.np)
    | some (.ex c ρ) => some (.error c, ρ.take f.np)
    | _ => none
  else none
structure Pg where
  fns : List Fn
  turns : Nat
def calN (P : Pg) : Nat → Cal
  | 0 => fun _ _ => none
  | k + 1 => fun f ss => match P.fns[f]? with
    | some fn => runFn { cal := calN P k, turns := P.turns } fn ss
    | none => none
end Mi
set_option Elab.async false
set_option linter.all false
set_option maxRecDepth 100000
set_option maxHeartbeats 2000000
/-! MiB: how data stand in the abstract heap; the state of a def's names. -/
namespace Mi
open PySem PySem.Spec PyProof.Rows L2
abbrev St := L2.St

/-! ### data in the abstract heap -/
mutual
/-- the key that a tuple is -/
def D.nkey : D → NestedKey
  | .int i => .num i
  | .bl b => .num (if b = true then 1 else 0)
  | .str x => .text x
  | .tup xs => .tup (D.nkeys xs)
  | _ => .none
def D.nkeys : List D → List NestedKey
  | [] => []
  | x :: xs => D.nkey x :: D.nkeys xs
end
/-- a dict's object with these entries -/
def DcO (a : Addr) (es : List DictEntry) (ep : Nat) : HO := .ext fun h => ∃ o, h.get? a = some o ∧ o.ExactDict ∧ o.data = .dict es.toArray ep
/-- a list that never changes again -/
def FzL (H : Hp) (a : Addr) (xs : List V) : Prop := ∃ o, H a = some (.frz o (.lst xs))
section
variable (P : Program) (w : World) (K : PySem.W.Frag) (H : Hp)
mutual
/-- the value stands for the data, for ever -/
inductive Rp : V → D → Prop
  | non : Rp .non .non
  | bl (b) : Rp (.bl b) (.bl b)
  | int (i) : Rp (.int i) (.int i)
  | str (x) : Rp (.str x) (.str x)
  | tup {a vs ds} : SqT K H a vs → Rps vs ds → Rp (.ref a) (.tup ds)
  | lst {a vs ds} : FzL H a vs → Rps vs ds → Rp (.ref a) (.lst ds)
  | dct {a o es ep kvs} : (a == sysModules) = false → H a = some (.frz o (DcO a es ep)) → RpD es kvs → Rp (.ref a) (.dct kvs)
inductive Rps : List V → List D → Prop
  | nil : Rps [] []
  | cons {v d vs ds} : Rp v d → Rps vs ds → Rps (v :: vs) (d :: ds)
/-- a dict's entries -/
inductive RpD : List DictEntry → List (D × D) → Prop
  | tup {es : List DictEntry} {kvs : List (D × D)} {xs : List (NestedKey × Addr × Value)} : es = xs.map (entryOfKey (nestedKind P w)) → (xs.map (·.1)).Nodup → RpT xs kvs → RpD es kvs
  | str {es : List DictEntry} {kvs : List (D × D)} : RpS es kvs → (kvs.map fun p => D.nkey p.1).Nodup → RpD es kvs
inductive RpT : List (NestedKey × Addr × Value) → List (D × D) → Prop
  | nil : RpT [] []
  | cons {k a u v kd vd xs kvs} : Rp (.ref a) kd → k = kd.nkey → kd.isTup = true → kd.hard 6 = true → RelV v u → Rp v vd → RpT xs kvs → RpT ((k, a, u) :: xs) ((kd, vd) :: kvs)
inductive RpS : List DictEntry → List (D × D) → Prop
  | nil : RpS [] []
  | cons {x t u v vd es kvs} : RelV v u → Rp v vd → RpS es kvs → RpS (⟨hashStr w x, .str x t, u⟩ :: es) ((.str x, vd) :: kvs)
end
end

/-- what can never be written is kept -/
def Kd (H H' : Hp) : Prop := ∀ a o, H a = some o → ¬ Mut (some o) → (∀ ps, o ≠ .tbl ps) → H' a = some o
theorem Kd.refl (H : Hp) : Kd H H := fun _ _ h _ _ => h
theorem Kd.trans {H H1 H2 : Hp} (a : Kd H H1) (b : Kd H1 H2) : Kd H H2 := fun x o h m t => b x o (a x o h m t) m t
theorem Kd.rd {H H' : Hp} {a : Addr} {u : HO} (k : Kd H H') (m : ¬ Mut (some u)) (t : ∀ ps, u ≠ .tbl ps) (h : Rd H a u) : Rd H' a u := by
  rcases h with h | ⟨o, h⟩
  · exact .inl (k a u h m t)
  · exact .inr ⟨o, k a _ h (fun z => z) (fun _ z => nomatch z)⟩
section
variable {P : Program} {w : World} {K : PySem.W.Frag} {H H' : Hp}
theorem Kd.sqT (k : Kd H H') {a : Addr} {vs : List V} (h : SqT K H a vs) : SqT K H' a vs := by
  rcases h with h | h
  · exact .inl (k.rd (fun z => z) (fun _ z => nomatch z) h)
  · exact .inr h
theorem Kd.fzL (k : Kd H H') {a : Addr} {vs : List V} (h : FzL H a vs) : FzL H' a vs := by
  obtain ⟨o, h⟩ := h
  exact ⟨o, k a _ h (fun z => z) (fun _ z => nomatch z)⟩
mutual
theorem Rp.kd (k : Kd H H') : ∀ {v d}, Rp P w K H v d → Rp P w K H' v d
  | _, _, .non => .non
  | _, _, .bl b => .bl b
  | _, _, .int i => .int i
  | _, _, .str x => .str x
  | _, _, .tup h r => .tup (k.sqT h) (Rps.kd k r)
  | _, _, .lst h r => .lst (k.fzL h) (Rps.kd k r)
  | _, _, .dct s h r => .dct s (k _ _ h (fun z => z) (fun _ z => nomatch z)) (RpD.kd k r)
theorem Rps.kd (k : Kd H H') : ∀ {vs ds}, Rps P w K H vs ds → Rps P w K H' vs ds
  | _, _, .nil => .nil
  | _, _, .cons r t => .cons (Rp.kd k r) (Rps.kd k t)
theorem RpD.kd (k : Kd H H') : ∀ {es kvs}, RpD P w K H es kvs → RpD P w K H' es kvs
  | _, _, .tup e n r => .tup e n (RpT.kd k r)
  | _, _, .str r n => .str (RpS.kd k r) n
theorem RpT.kd (k : Kd H H') : ∀ {xs kvs}, RpT P w K H xs kvs → RpT P w K H' xs kvs
  | _, _, .nil => .nil
  | _, _, .cons a b c d e f g => .cons (Rp.kd k a) b c d e (Rp.kd k f) (RpT.kd k g)
theorem RpS.kd (k : Kd H H') : ∀ {es kvs}, RpS P w K H es kvs → RpS P w K H' es kvs
  | _, _, .nil => .nil
  | _, _, .cons a b c => .cons a (Rp.kd k b) (RpS.kd k c)
end
theorem Rps.length : ∀ {vs ds}, Rps P w K H vs ds → vs.length = ds.length
  | _, _, .nil => rfl
  | _, _, .cons _ t => by simp [Rps.length t]
theorem Rps.get : ∀ {vs ds} {i : Nat} {d : D}, Rps P w K H vs ds → ds[i]? = some d → ∃ v, vs[i]? = some v ∧ Rp P w K H v d
  | _, _, _, _, .nil, e => by simp at e
  | _, _, 0, _, .cons r _, e => by simp at e; subst e; exact ⟨_, rfl, r⟩
  | _, _, i + 1, d, .cons _ t, e => by
    obtain ⟨v, h1, h2⟩ := Rps.get (i := i) t (by simpa using e)
    exact ⟨v, by simpa using h1, h2⟩
theorem Rps.append : ∀ {vs ds us es}, Rps P w K H vs ds → Rps P w K H us es → Rps P w K H (vs ++ us) (ds ++ es)
  | _, _, _, _, .nil, s => s
  | _, _, _, _, .cons r t, s => .cons r (Rps.append t s)
theorem Rps.take : ∀ {vs ds} (n : Nat), Rps P w K H vs ds → Rps P w K H (vs.take n) (ds.take n)
  | _, _, 0, _ => .nil
  | _, _, _ + 1, .nil => .nil
  | _, _, n + 1, .cons r t => .cons r (Rps.take n t)
theorem Rps.drop : ∀ {vs ds} (n : Nat), Rps P w K H vs ds → Rps P w K H (vs.drop n) (ds.drop n)
  | _, _, 0, r => r
  | _, _, _ + 1, .nil => .nil
  | _, _, n + 1, .cons _ t => Rps.drop n t
theorem Rps.set {v d} (r : Rp P w K H v d) : ∀ {vs ds} (i : Nat), Rps P w K H vs ds → Rps P w K H (vs.set i v) (ds.set i d)
  | _, _, _, .nil => .nil
  | _, _, 0, .cons _ t => .cons r t
  | _, _, i + 1, .cons q t => .cons q (Rps.set r i t)
theorem Rps.eraseIdx : ∀ {vs ds} (i : Nat), Rps P w K H vs ds → Rps P w K H (vs.eraseIdx i) (ds.eraseIdx i)
  | _, _, _, .nil => .nil
  | _, _, 0, .cons _ t => t
  | _, _, i + 1, .cons r t => .cons r (Rps.eraseIdx i t)
theorem Rps.reverse : ∀ {vs ds}, Rps P w K H vs ds → Rps P w K H vs.reverse ds.reverse
  | _, _, .nil => .nil
  | _, _, .cons r t => by simp only [List.reverse_cons]; exact (Rps.reverse t).append (.cons r .nil)
theorem Rps.dropLast : ∀ {vs ds}, Rps P w K H vs ds → Rps P w K H vs.dropLast ds.dropLast
  | _, _, .nil => .nil
  | _, _, .cons _ .nil => .nil
  | _, _, .cons r (.cons r2 t) => .cons r (Rps.dropLast (.cons r2 t))
theorem Rps.rep : ∀ {vs ds} (n : Nat), Rps P w K H vs ds → Rps P w K H (Mi.rep vs n) (Mi.rep ds n)
  | _, _, 0, _ => .nil
  | _, _, n + 1, r => r.append (Rps.rep n r)
end

/-! ### the state of the names -/
/-- what the top has laid: tables of code objects, the errors' classes, the program's classes and their fields -/
structure Wd where
  T : List (Addr × Str)
  exA : Nat → Addr
  cls : Nat → Addr
  fld : Nat → List Str
  gh : Nat → V → Prop
section
variable (M : Wd) (X : Cx) (H : Hp)
abbrev RpX (v : V) (d : D) : Prop := Rp X.prog X.w X.K H v d
abbrev RpsX (vs : List V) (ds : List D) : Prop := Rps X.prog X.w X.K H vs ds
/-- content; fp: the addresses that it alone has -/
def RC (v : V) (c : Cn) (fp : List Addr) : Prop := match c with
  | .p d => fp = [] ∧ RpX X H v d
  | .l ds => ∃ a vs, v = .ref a ∧ fp = [a] ∧ H a = some (.lst vs) ∧ RpsX X H vs ds
  | .d kvs => ∃ a es ep, v = .ref a ∧ fp = [a] ∧ (a == sysModules) = false ∧ H a = some (DcO a es ep) ∧ RpD X.prog X.w X.K H es kvs
inductive RFs : List (Str × V) → List Cn → List Str → List (List Addr) → Prop
  | nil {ns} : RFs [] [] ns []
  | cons {n v c fp fs cs ns fps} : RC X H v c fp → RFs fs cs ns fps → RFs ((n, v) :: fs) (c :: cs) (n :: ns) (fp :: fps)
def RS (ov : Option V) (s : Slot) (fp : List Addr) : Prop := match s with
  | .x => fp = []
  | .c c => ∃ v, ov = some v ∧ RC X H v c fp
  | .o k cs => (∃ a dx vfs fps, ov = some (.ref a) ∧ H a = some (.ins (M.cls k) dx vfs) ∧ RFs X H vfs cs (M.fld k) fps ∧ fp = a :: fps.flatten) ∨ (fp = [] ∧ cs = [.p (.exc 0)] ∧ ∃ v, ov = some v ∧ M.gh k v)
/-- slot by slot -/
def SR (σ : St) (ρ : Env) (fs : List (List Addr)) : Prop :=
  σ.length = ρ.length ∧ fs.length = ρ.length ∧ (∀ i s, ρ[i]? = some s → RS M X H (σ.getD i none) s (fs.getD i [])) ∧ fs.flatten.Nodup
end
/-- from H on, only these may have changed, beside what is new -/
structure Fr (Wr : List Addr) (H H' : Hp) : Prop where
  kd : Kd H H'
  kp : ∀ a o, H a = some o → a ∉ Wr → (∀ ps, o ≠ .tbl ps) → H' a = some o
  nn : ∀ a o, H a = some o → ∃ o', H' a = some o'
theorem Fr.refl {Wr : List Addr} {H : Hp} : Fr Wr H H := ⟨Kd.refl H, fun _ _ h _ _ => h, fun _ o h => ⟨o, h⟩⟩
theorem Fr.trans {W0 W1 : List Addr} {H H1 H2 : Hp} (a : Fr W0 H H1) (b : Fr W1 H1 H2) (g : ∀ x ∈ W1, x ∈ W0 ∨ H x = none) : Fr W0 H H2 :=
  ⟨a.kd.trans b.kd, fun x o h n t => b.kp x o (a.kp x o h n t) (fun m => (g x m).elim n fun z => by rw [z] at h; cases h) t, fun x o h => by
    obtain ⟨q, e⟩ := a.nn x o h
    exact b.nn x q e⟩
theorem Fr.new {Wr : List Addr} {H : Hp} {p : Addr} {o : HO} (n : H p = none) : Fr Wr H (upd H p o) :=
  ⟨fun a u h _ _ => by rw [upd_ne (ne_of_none h n)]; exact h, fun a u h _ _ => by rw [upd_ne (ne_of_none h n)]; exact h, fun a u h => ⟨u, by rw [upd_ne (ne_of_none h n)]; exact h⟩⟩
theorem Fr.write {Wr : List Addr} {H : Hp} {p : Addr} {o u : HO} (h : H p = some o) (m : Mut (some o)) (hp : p ∈ Wr) : Fr Wr H (upd H p u) :=
  ⟨fun a v e nm _ => by
    rw [upd_ne (fun z => by subst z; rw [h] at e; cases e; exact nm m)]; exact e,
   fun a v e na _ => by rw [upd_ne (fun z : a = p => na (by rw [z]; exact hp))]; exact e,
   fun a v e => by
    by_cases z : a = p
    · exact ⟨u, by rw [z, upd_same]⟩
    · exact ⟨v, by rw [upd_ne z]; exact e⟩⟩
theorem Fr.mono {W0 W1 : List Addr} {H H' : Hp} (a : Fr W0 H H') (h : ∀ x ∈ W0, x ∈ W1) : Fr W1 H H' := ⟨a.kd, fun x o e n t => a.kp x o e (fun m => n (h x m)) t, a.nn⟩
/-- what isn't there wasn't -/
theorem Fr.none_back {Wr : List Addr} {H H' : Hp} (f : Fr Wr H H') {a : Addr} (h : H' a = none) : H a = none := by
  cases e : H a with
  | none => rfl
  | some o =>
    obtain ⟨q, z⟩ := f.nn a o e
    rw [h] at z; cases z

section
variable {M : Wd} {X : Cx} {H H' : Hp} {σ : St} {ρ : Env} {fs : List (List Addr)}
/-- what is alone is there, and may be written -/
def Thr (H : Hp) (l : List Addr) : Prop := ∀ a ∈ l, ∃ o, H a = some o ∧ Mut (some o) ∧ ∀ ps, o ≠ .tbl ps
theorem RC.thr {v : V} {c : Cn} {fp : List Addr} (r : RC X H v c fp) : Thr H fp := by
  intro b hb
  cases c with
  | p d => rw [r.1] at hb; cases hb
  | l xs =>
    obtain ⟨a, vs, _, e, h, _⟩ := r
    rw [e] at hb
    have : b = a := by simpa using hb
    subst this
    exact ⟨_, h, trivial, fun _ z => nomatch z⟩
  | d kvs =>
    obtain ⟨a, es, ep, _, e, _, h, _⟩ := r
    rw [e] at hb
    have : b = a := by simpa using hb
    subst this
    exact ⟨_, h, trivial, fun _ z => nomatch z⟩
theorem RC.kp {v : V} {c : Cn} {fp Wr : List Addr} (r : RC X H v c fp) (f : Fr Wr H H') (d : ∀ a ∈ fp, a ∉ Wr) : RC X H' v c fp := by
  cases c with
  | p x => exact ⟨r.1, r.2.kd f.kd⟩
  | l xs =>
    obtain ⟨a, vs, e0, e, h, q⟩ := r
    exact ⟨a, vs, e0, e, f.kp a _ h (d a (by rw [e]; simp)) (fun _ z => nomatch z), q.kd f.kd⟩
  | d kvs =>
    obtain ⟨a, es, ep, e0, e, s, h, q⟩ := r
    exact ⟨a, es, ep, e0, e, s, f.kp a _ h (d a (by rw [e]; simp)) (fun _ z => nomatch z), q.kd f.kd⟩
theorem RFs.thr : ∀ {vfs cs ns fps}, RFs X H vfs cs ns fps → Thr H fps.flatten
  | _, _, _, _, .nil => fun b hb => by simp at hb
  | _, _, _, _, .cons r t => fun b hb => by
    rw [List.flatten_cons] at hb
    rcases List.mem_append.mp hb with z | z
    · exact r.thr b z
    · exact RFs.thr t b z
theorem RFs.kp {Wr : List Addr} (f : Fr Wr H H') : ∀ {vfs cs ns fps}, RFs X H vfs cs ns fps → (∀ a ∈ fps.flatten, a ∉ Wr) → RFs X H' vfs cs ns fps
  | _, _, _, _, .nil, _ => .nil
  | _, _, _, _, .cons r t, d => .cons (r.kp f fun a ha => d a (by rw [List.flatten_cons]; exact List.mem_append_left _ ha)) (RFs.kp f t fun a ha => d a (by rw [List.flatten_cons]; exact List.mem_append_right _ ha))
theorem RS.thr {ov : Option V} {s : Slot} {fp : List Addr} (r : RS M X H ov s fp) : Thr H fp := by
  cases s with
  | x =>
    intro b hb
    have r : fp = [] := r
    rw [r] at hb; cases hb
  | c c => obtain ⟨v, _, q⟩ := r; exact q.thr
  | o k cs =>
    intro b hb
    rcases r with ⟨a, dx, vfs, fps, _, h, q, e⟩ | ⟨e, _⟩
    case inr => rw [e] at hb; cases hb
    rw [e] at hb
    rcases List.mem_cons.mp hb with z | z
    · subst z; exact ⟨_, h, trivial, fun _ z => nomatch z⟩
    · exact q.thr b z
theorem RS.kp {ov : Option V} {s : Slot} {fp Wr : List Addr} (r : RS M X H ov s fp) (f : Fr Wr H H') (d : ∀ a ∈ fp, a ∉ Wr) : RS M X H' ov s fp := by
  cases s with
  | x => exact r
  | c c => obtain ⟨v, e, q⟩ := r; exact ⟨v, e, q.kp f d⟩
  | o k cs =>
    rcases r with ⟨a, dx, vfs, fps, e0, h, q, e⟩ | r
    · exact .inl ⟨a, dx, vfs, fps, e0, f.kp a _ h (d a (by rw [e]; simp)) (fun _ z => nomatch z), q.kp f fun b hb => d b (by rw [e]; exact List.mem_cons_of_mem _ hb), e⟩
    · exact .inr r
theorem mem_flat {fs : List (List Addr)} {a : Addr} : a ∈ fs.flatten ↔ ∃ i, a ∈ fs.getD i [] := by
  constructor
  · intro h
    obtain ⟨l, hl, ha⟩ := List.mem_flatten.mp h
    obtain ⟨i, hi, e⟩ := List.mem_iff_getElem.mp hl
    exact ⟨i, by rw [List.getD_eq_getElem?_getD, List.getElem?_eq_getElem hi]; simpa [e] using ha⟩
  · rintro ⟨i, h⟩
    by_cases hi : i < fs.length
    · rw [List.getD_eq_getElem?_getD, List.getElem?_eq_getElem hi] at h
      exact List.mem_flatten.mpr ⟨fs[i], List.getElem_mem hi, by simpa using h⟩
    · rw [List.getD_eq_getElem?_getD, List.getElem?_eq_none (by omega)] at h
      simp at h
theorem SR.thr (r : SR M X H σ ρ fs) : Thr H fs.flatten := fun a ha => by
  obtain ⟨i, h⟩ := mem_flat.mp ha
  by_cases hi : i < ρ.length
  · exact (r.2.2.1 i ρ[i] (List.getElem?_eq_getElem hi)).thr a h
  · rw [List.getD_eq_getElem?_getD, List.getElem?_eq_none (by rw [r.2.1]; omega)] at h
    simp at h
/-- .. so it isn't new -/
theorem Thr.not_new {l : List Addr} (t : Thr H l) {a : Addr} (ha : a ∈ l) : H a ≠ none := fun z => by
  obtain ⟨o, e, _⟩ := t a ha
  rw [z] at e; cases e
end
end Mi
set_option Elab.async false
set_option linter.all false
set_option maxRecDepth 100000
set_option maxHeartbeats 2000000
/-! MiC: what an expression promises; one behind another. -/
namespace Mi
open PySem PySem.Spec PyProof.Rows L2 LamX
universe uu
section
variable {γ : Type} {M : Wd} {X : Cx} {H H' H0 : Hp} {σ : St} {ρ ρ' : Env} {fs fs' fs0 : List (List Addr)} {pins : List (Addr × Obj)} {s s' : Shared}
theorem SR.keep {Wr : List Addr} (r : SR M X H σ ρ fs) (f : Fr Wr H H') (d : ∀ a ∈ fs.flatten, a ∉ Wr) : SR M X H' σ ρ fs :=
  ⟨r.1, r.2.1, fun i sl e => (r.2.2.1 i sl e).kp f fun a ha => d a (mem_flat.mpr ⟨i, ha⟩), r.2.2.2⟩

theorem tabs_upd {T : List (Addr × Str)} {a : Addr} {o u : HO} (t : Tabs T H) (h : H a = some o) (h1 : ∀ ps, o ≠ .tbl ps) (h2 : ∀ q, o ≠ CodeO a q) : Tabs T (upd H a u) := fun p hp => by
  obtain ⟨ps, e1, e2, e3⟩ := t p hp
  refine ⟨ps, ?_, e2, fun pos cv hc => ?_⟩
  · rw [upd_ne (fun z => by rw [z, h] at e1; exact h1 ps (Option.some.inj e1))]; exact e1
  · obtain ⟨c, x1, x2⟩ := e3 pos cv hc
    exact ⟨c, x1, by rw [upd_ne (fun z => by rw [z] at x2; rw [h] at x2; exact h2 p.2 (Option.some.inj x2))]; exact x2⟩
theorem tabs_new {T : List (Addr × Str)} {a : Addr} {u : HO} (t : Tabs T H) (h : H a = none) : Tabs T (upd H a u) := t.ext fun b o e => by rw [upd_ne (ne_of_none e h)]; exact e
theorem dc_ne_code (I : Inv X pins σ H s) {a : Addr} {es : List DictEntry} {ep : Nat} (h : H a = some (DcO a es ep)) (q : Str) : DcO a es ep ≠ CodeO a q := fun e => by
  have x := I.hok a _ h
  have y := I.hok a (CodeO a q) (by rw [← e]; exact h)
  obtain ⟨⟨o, e1, _, d1⟩, _, _⟩ := x
  obtain ⟨⟨o', vs, t, e2, d2, _⟩, _, _⟩ := y
  rw [e1] at e2; cases e2
  rw [d1] at d2; cases d2
/-- a thing of one's own is no table, no code -/
theorem rs_ne_code (I : Inv X pins σ H s) {ov : Option V} {sl : Slot} {fp : List Addr} (r : RS M X H ov sl fp) {a : Addr} (ha : a ∈ fp) {o : HO} (h : H a = some o) : (∀ ps, o ≠ .tbl ps) ∧ ∀ q, o ≠ CodeO a q := by
  have one : ∀ {v c fp}, RC X H v c fp → a ∈ fp → (∀ ps, o ≠ .tbl ps) ∧ ∀ q, o ≠ CodeO a q := fun {v c fp} r ha => by
    cases c with
    | p d => rw [r.1] at ha; cases ha
    | l xs =>
      obtain ⟨b, vs, _, e, e2, _⟩ := r
      rw [e] at ha
      have : a = b := by simpa using ha
      subst this
      rw [h] at e2; cases e2
      exact ⟨(fun _ z => nomatch z), (fun _ z => nomatch z)⟩
    | d kvs =>
      obtain ⟨b, es, ep, _, e, _, e2, _⟩ := r
      rw [e] at ha
      have : a = b := by simpa using ha
      subst this
      have q := dc_ne_code I e2
      rw [h] at e2; cases e2
      exact ⟨(fun _ z => nomatch z), q⟩
  have many : ∀ {vfs cs ns fps}, RFs X H vfs cs ns fps → a ∈ fps.flatten → (∀ ps, o ≠ .tbl ps) ∧ ∀ q, o ≠ CodeO a q := fun {vfs cs ns fps} r => by
    induction r with
    | nil => intro ha; simp at ha
    | cons r t ih =>
      intro ha
      rw [List.flatten_cons] at ha
      rcases List.mem_append.mp ha with z | z
      · exact one r z
      · exact ih z
  cases sl with
  | x =>
    have r : fp = [] := r
    rw [r] at ha; cases ha
  | c c => obtain ⟨v, _, q⟩ := r; exact one q ha
  | o k cs =>
    rcases r with ⟨b, dx, vfs, fps, _, e2, q, e⟩ | ⟨e, _⟩
    case inr => rw [e] at ha; cases ha
    rw [e] at ha
    rcases List.mem_cons.mp ha with z | z
    · subst z
      rw [h] at e2; cases e2
      exact ⟨(fun _ z => nomatch z), (fun _ z => nomatch z)⟩
    · exact many q z

/-- a state come to from (H0, fs0) -/
structure Nw (M : Wd) (X : Cx) (pins : List (Addr × Obj)) (σ : St) (ρ : Env) (H0 : Hp) (fs0 : List (List Addr)) (H : Hp) (fs : List (List Addr)) (s : Shared) : Prop where
  inv : Inv X pins σ H s
  sr : SR M X H σ ρ fs
  fr : Fr fs0.flatten H0 H
  gw : ∀ a ∈ fs.flatten, a ∈ fs0.flatten ∨ H0 a = none
  tb : Tabs M.T H
theorem Nw.start (I : Inv X pins σ H s) (r : SR M X H σ ρ fs) (t : Tabs M.T H) : Nw M X pins σ ρ H fs H fs s := ⟨I, r, Fr.refl, fun a ha => .inl ha, t⟩
/-- a value in hand -/
def RW (M : Wd) (X : Cx) (H : Hp) (σ : St) (v : V) (w : W) (fp : List Addr) : Prop := match w with
  | .d x => fp = [] ∧ RpX X H v x
  | .m sl => RS M X H (some v) sl fp ∧ sl ≠ .x
  | .s i => fp = [] ∧ σ[i]? = some (some v)
theorem RW.thr {v : V} {w : W} {fp : List Addr} (r : RW M X H σ v w fp) : Thr H fp := by
  cases w with
  | d x => intro b hb; rw [r.1] at hb; cases hb
  | m sl => exact r.1.thr
  | s i => intro b hb; rw [r.1] at hb; cases hb
theorem RW.kp {v : V} {w : W} {fp Wr : List Addr} (r : RW M X H σ v w fp) (f : Fr Wr H H') (d : ∀ a ∈ fp, a ∉ Wr) : RW M X H' σ v w fp := by
  cases w with
  | d x => exact ⟨r.1, r.2.kd f.kd⟩
  | m sl => exact ⟨r.1.kp f d, r.2⟩
  | s i => exact r
/-- .. an operand: as data, or a name -/
def RV (X : Cx) (H : Hp) (σ : St) (v : V) (w : W) : Prop := match w with
  | .d x => RpX X H v x
  | .m _ => True
  | .s i => σ[i]? = some (some v)
theorem RV.kd {v : V} {w : W} (r : RV X H σ v w) (k : Kd H H') : RV X H' σ v w := by
  cases w with
  | d x => exact Rp.kd k r
  | m sl => trivial
  | s i => exact r

/-- behind an expression -/
def PO (M : Wd) (X : Cx) (pins : List (Addr × Obj)) (σ : St) (H0 : Hp) (fs0 : List (List Addr)) (r : Rs W) (u : Value) (s' : Shared) : Prop :=
  ∃ w ρ' H' fs' v fp, r = .ok w ρ' ∧ Nw M X pins σ ρ' H0 fs0 H' fs' s' ∧ RelV v u ∧ RW M X H' σ v w fp ∧ (fs'.flatten ++ fp).Nodup ∧ ∀ a ∈ fp, a ∈ fs0.flatten ∨ H0 a = none
/-- an error's way: its class, the names as they stand -/
def WEx (M : Wd) (X : Cx) (σ : St) (H0 : Hp) (fs0 : List (List Addr)) (c : Nat) (ρ' : Env) : WX := fun cls d σ' H' =>
  cls = .ref (M.exA c) ∧ d = none ∧ σ' = σ ∧ ∃ fs', SR M X H' σ ρ' fs' ∧ Fr fs0.flatten H0 H' ∧ (∀ a ∈ fs'.flatten, a ∈ fs0.flatten ∨ H0 a = none) ∧ Tabs M.T H'
def PX {α : Type} (M : Wd) (X : Cx) (σ : St) (H0 : Hp) (fs0 : List (List Addr)) (r : Rs α) (u : Value) (s' : Shared) : Prop :=
  ∃ c ρ', r = .ex c ρ' ∧ L2N.XE X (WEx M X σ H0 fs0 c ρ') u s'
def JE (M : Wd) (X : Cx) (m : Env → R W) (e : Expr) : Prop := ∀ (pins : List (Addr × Obj)) (s : Shared) (σ : St) (H : Hp) (ρ : Env) (fs : List (List Addr)) (r : Rs W), m ρ = some r → Inv X pins σ H s → SR M X H σ ρ fs → Tabs M.T H →
  wpAny (model X.prog X.w) X.A (eval e X.env) (PO M X pins σ H fs r) (PX M X σ H fs r) s
theorem xe_mono {W W' : WX} {u : Value} (x : L2N.XE X W u s') (h : ∀ c d σ H, W c d σ H → W' c d σ H) : L2N.XE X W' u s' := by
  obtain ⟨a, B, sI, pins, σ, H, cls, d, e, I, nb, up, sky, na, os, ag, w⟩ := x
  exact ⟨a, B, sI, pins, σ, H, cls, d, e, I, nb, up, sky, na, os, ag, h _ _ _ _ w⟩
/-- growth, one behind another -/
theorem gw_trans {fs1 fs2 : List (List Addr)} {H1 : Hp} (f : Fr fs0.flatten H0 H1) (g1 : ∀ a ∈ fs1.flatten, a ∈ fs0.flatten ∨ H0 a = none) (g2 : ∀ a ∈ fs2.flatten, a ∈ fs1.flatten ∨ H1 a = none) :
    ∀ a ∈ fs2.flatten, a ∈ fs0.flatten ∨ H0 a = none := fun a ha => by
  rcases g2 a ha with z | z
  · exact g1 a z
  · exact .inr (f.none_back z)
theorem Nw.trans {σ1 : St} {ρ1 : Env} {fs1 : List (List Addr)} {H1 : Hp} {s1 : Shared} {pins1 : List (Addr × Obj)} (a : Nw M X pins1 σ1 ρ1 H0 fs0 H1 fs1 s1) (b : Nw M X pins σ ρ H1 fs1 H fs s) : Nw M X pins σ ρ H0 fs0 H fs s :=
  ⟨b.inv, b.sr, a.fr.trans b.fr a.gw, gw_trans a.fr a.gw b.gw, b.tb⟩
theorem Nw.back (n : Nw M X pins σ ρ H0 fs0 H fs s) {a : Addr} (h : a ∈ fs.flatten ∨ H a = none) : a ∈ fs0.flatten ∨ H0 a = none := h.elim (n.gw a) fun z => .inr (n.fr.none_back z)
theorem PO.trans {σ1 : St} {ρ1 : Env} {fs1 : List (List Addr)} {H1 : Hp} {s1 : Shared} {pins1 : List (Addr × Obj)} {r : Rs W} {u : Value} (a : Nw M X pins1 σ1 ρ1 H0 fs0 H1 fs1 s1) (p : PO M X pins σ H1 fs1 r u s') : PO M X pins σ H0 fs0 r u s' := by
  obtain ⟨w, ρ', H', fs', v, fp, e, n, rv, rw', nd, fr⟩ := p
  exact ⟨w, ρ', H', fs', v, fp, e, a.trans n, rv, rw', nd, fun x hx => a.back (fr x hx)⟩
theorem PX.trans {α : Type} {ρ1 : Env} {fs1 : List (List Addr)} {H1 : Hp} {s1 : Shared} {pins1 : List (Addr × Obj)} {σ1 : St} {r : Rs α} {u : Value} (a : Nw M X pins1 σ1 ρ1 H0 fs0 H1 fs1 s1) (p : PX M X σ H1 fs1 r u s') : PX M X σ H0 fs0 r u s' := by
  obtain ⟨c, ρ', e, x⟩ := p
  exact ⟨c, ρ', e, xe_mono x fun cls d σ' H' ⟨e1, e2, e3, fs', sr, fr, gw, tb⟩ => ⟨e1, e2, e3, fs', sr, a.fr.trans fr a.gw, gw_trans a.fr a.gw gw, tb⟩⟩
theorem PX.as {α β : Type} {r : Rs α} {r' : Rs β} {u : Value} (p : PX M X σ H0 fs0 r u s') (h : ∀ c ρ', r = .ex c ρ' → r' = .ex c ρ') : PX M X σ H0 fs0 r' u s' := by
  obtain ⟨c, ρ', e, x⟩ := p
  exact ⟨c, ρ', h c ρ' e, x⟩

/-- what a bind came to -/
theorem bind_cases {α β : Type} {m : R α} {f : α → Env → R β} {r : Rs β} (h : R.bind m f = some r) : (∃ a ρ', m = some (.ok a ρ') ∧ f a ρ' = some r) ∨ ∃ c ρ', m = some (.ex c ρ') ∧ r = .ex c ρ' := by
  match m, h with
  | some (.ok a ρ'), h => exact .inl ⟨a, ρ', rfl, h⟩
  | some (.ex c ρ'), h => exact .inr ⟨c, ρ', rfl, by simpa [R.bind] using h.symm⟩
  | none, h => simp [R.bind] at h

/-- one expression, then what follows -/
theorem bindE {β : Type} {m : Env → R W} {e : Expr} {f : W → Env → R β} {r : Rs β} {K : Value → Shared → Prop} {H1 : Hp} {fs1 : List (List Addr)} (h : JE M X m e) (hr : R.bind (m ρ) f = some r) (n : Nw M X pins σ ρ H0 fs0 H1 fs1 s)
    (k : ∀ w ρ2 H2 fs2 v fp u s2, f w ρ2 = some r → Nw M X pins σ ρ2 H0 fs0 H2 fs2 s2 → Fr fs1.flatten H1 H2 → (∀ a ∈ fs2.flatten, a ∈ fs1.flatten ∨ H1 a = none) → RelV v u → RW M X H2 σ v w fp → (fs2.flatten ++ fp).Nodup → (∀ a ∈ fp, a ∈ fs1.flatten ∨ H1 a = none) → K u s2) :
    wpAny (model X.prog X.w) X.A (eval e X.env) K (PX M X σ H0 fs0 r) s := by
  rcases bind_cases hr with ⟨a, ρ', e1, e2⟩ | ⟨c, ρ', e1, e2⟩
  · refine wpAny_mono (h pins s σ H1 ρ fs1 _ e1 n.inv n.sr n.tb) (fun u s2 p => ?_) fun u s2 p => ?_
    · obtain ⟨w, ρ2, H2, fs2, v, fp, e3, n2, rv, rw', nd, fr⟩ := p
      cases e3
      exact k _ _ _ _ v fp u s2 e2 (n.trans n2) n2.fr n2.gw rv rw' nd fr
    · obtain ⟨c, ρ', e3, _⟩ := p
      cases e3
  · refine wpAny_mono (h pins s σ H1 ρ fs1 _ e1 n.inv n.sr n.tb) (fun u s2 p => ?_) fun u s2 p => ?_
    · obtain ⟨w, ρ2, H2, fs2, v, fp, e3, _⟩ := p
      cases e3
    · exact PX.trans n (p.as fun c' ρ'' z => by cases z; exact e2)

/-- nothing that is alone here is met there -/
theorem nd_apart {l m : List Addr} (h : (l ++ m).Nodup) : ∀ a ∈ l, a ∉ m := fun a ha hm => (List.nodup_append.mp h).2.2 a ha a hm rfl
theorem nd_apart' {l m : List Addr} (h : (l ++ m).Nodup) : ∀ a ∈ m, a ∉ l := fun a hm ha => (List.nodup_append.mp h).2.2 a ha a hm rfl
/-- a new thing is locked: from now on it is data -/
theorem freeze {v : V} {w : W} {fp : List Addr} (n : Nw M X pins σ ρ H0 fs0 H fs s) (r : RW M X H σ v w fp) (nd : (fs.flatten ++ fp).Nodup) (fr : ∀ a ∈ fp, a ∈ fs0.flatten ∨ H0 a = none) :
    ∃ H', Nw M X pins σ ρ H0 fs0 H' fs s ∧ Fr fp H H' ∧ RV X H' σ v w.fz := by
  have lock : ∀ {a : Addr} {o : HO}, H a = some o → Mut (some o) → (∀ ps, o ≠ .tbl ps) → (∀ q, o ≠ CodeO a q) → fp = [a] → ∃ od, Nw M X pins σ ρ H0 fs0 (upd H a (.frz od o)) fs s ∧ Fr fp H (upd H a (.frz od o)) := fun {a o} h mu nt nc e => by
    obtain ⟨od, I'⟩ := n.inv.lock h mu
    have f : Fr fp H (upd H a (.frz od o)) := Fr.write h mu (by rw [e]; simp)
    refine ⟨od, ⟨I', n.sr.keep f (nd_apart nd), n.fr.trans f fun x hx => fr x hx, n.gw, tabs_upd n.tb h nt nc⟩, f⟩
  cases w with
  | d x => exact ⟨H, n, Fr.refl, r.2⟩
  | s i => exact ⟨H, n, Fr.refl, r.2⟩
  | m sl =>
    cases sl with
    | x => exact absurd rfl r.2
    | o k cs => exact ⟨H, n, Fr.refl, trivial⟩
    | c c =>
      obtain ⟨⟨v', e0, q⟩, _⟩ := r
      cases e0
      cases c with
      | p d => exact ⟨H, n, Fr.refl, q.2⟩
      | l xs =>
        obtain ⟨a, vs, rfl, e, h, q⟩ := q
        obtain ⟨od, n', f⟩ := lock h trivial (fun _ z => nomatch z) (fun _ z => nomatch z) e
        exact ⟨_, n', f, .lst ⟨od, upd_same⟩ (q.kd f.kd)⟩
      | d kvs =>
        obtain ⟨a, es, ep, rfl, e, sm, h, q⟩ := q
        obtain ⟨od, n', f⟩ := lock h trivial (fun _ z => nomatch z) (dc_ne_code n.inv h) e
        exact ⟨_, n', f, .dct sm upd_same (q.kd f.kd)⟩
/-- one operand, then what follows -/
theorem bindO {β : Type} {m : Env → R W} {e : Expr} {f : W → Env → R β} {r : Rs β} {K : Value → Shared → Prop} {H1 : Hp} {fs1 : List (List Addr)} (h : JE M X m e) (hr : R.bind (m ρ) f = some r) (n : Nw M X pins σ ρ H0 fs0 H1 fs1 s)
    (k : ∀ w ρ2 H2 fs2 v u s2, f w ρ2 = some r → Nw M X pins σ ρ2 H0 fs0 H2 fs2 s2 → Kd H1 H2 → RelV v u → RV X H2 σ v w.fz → K u s2) :
    wpAny (model X.prog X.w) X.A (eval e X.env) K (PX M X σ H0 fs0 r) s := by
  refine bindE h hr n fun w ρ2 H2 fs2 v fp u s2 hf n2 f12 g12 rv rw' nd fr => ?_
  obtain ⟨H3, n3, f3, rv3⟩ := freeze n2 rw' nd (fun a ha => n.back (fr a ha))
  exact k w ρ2 H3 fs2 v u s2 hf n3 (f12.kd.trans f3.kd) rv rv3

/-! ### what can be read of an operand -/
/-- data, or a thing of one's own as it stands -/
def Rr (X : Cx) (H : Hp) (v : V) (d : D) : Prop := RpX X H v d ∨ (∃ a vs ds, v = .ref a ∧ d = .lst ds ∧ H a = some (.lst vs) ∧ RpsX X H vs ds) ∨
  ∃ a es ep kvs, v = .ref a ∧ d = .dct kvs ∧ (a == sysModules) = false ∧ H a = some (DcO a es ep) ∧ RpD X.prog X.w X.K H es kvs
theorem RC.read {v : V} {c : Cn} {fp : List Addr} (r : RC X H v c fp) : Rr X H v c.dat := by
  cases c with
  | p d => exact .inl r.2
  | l xs => obtain ⟨a, vs, e, _, h, q⟩ := r; exact .inr (.inl ⟨a, vs, xs, e, rfl, h, q⟩)
  | d kvs => obtain ⟨a, es, ep, e, _, sm, h, q⟩ := r; exact .inr (.inr ⟨a, es, ep, kvs, e, rfl, sm, h, q⟩)
theorem SR.slot (r : SR M X H σ ρ fs) {i : Nat} {sl : Slot} (e : ρ[i]? = some sl) : RS M X H (σ.getD i none) sl (fs.getD i []) := r.2.2.1 i sl e
theorem getD_some {α : Type} {l : List (Option α)} {i : Nat} {v : α} (h : l[i]? = some (some v)) : l.getD i none = some v := by
  rw [List.getD_eq_getElem?_getD, h]; rfl
theorem read (r : SR M X H σ ρ fs) {v : V} {w : W} {d : D} (rv : RV X H σ v w.fz) (h : look ρ w = some d) : Rr X H v d := by
  cases w with
  | d x => cases h; exact .inl rv
  | m sl =>
    cases sl with
    | x => cases h
    | o k cs => cases h
    | c c => cases h; exact .inl rv
  | s i =>
    have h : (ρ[i]?).bind Slot.dat? = some d := h
    cases e : ρ[i]? with
    | none => rw [e] at h; cases h
    | some sl =>
      rw [e] at h
      cases sl with
      | x => cases h
      | o k cs => cases h
      | c c =>
        cases h
        obtain ⟨v', e2, q⟩ := r.slot e
        have rv : σ[i]? = some (some v) := rv
        rw [getD_some rv] at e2
        cases e2
        exact q.read
theorem looks_two {ρ : Env} {a b : W} {d e : D} (h : looks ρ [a, b] = some [d, e]) : look ρ a = some d ∧ look ρ b = some e := by
  simp only [looks] at h
  split at h
  · rename_i x hx
    split at h
    · rename_i y hy
      split at hy
      · rename_i z hz
        cases hy; cases h
        exact ⟨hx, hz⟩
      · cases hy
    · cases h
  · cases h
theorem look_fz (ρ : Env) (w : W) : look ρ w.fz = look ρ w := by
  cases w with
  | m sl => cases sl <;> rfl
  | d x => rfl
  | s i => rfl
section
variable {v : V}
theorem Rr.int {i : Int} (r : Rr X H v (.int i)) : v = .int i := by
  rcases r with r | ⟨_, _, _, _, e, _⟩ | ⟨_, _, _, _, _, e, _⟩
  · cases r; rfl
  · cases e
  · cases e
theorem Rr.bl {i : Bool} (r : Rr X H v (.bl i)) : v = .bl i := by
  rcases r with r | ⟨_, _, _, _, e, _⟩ | ⟨_, _, _, _, _, e, _⟩
  · cases r; rfl
  · cases e
  · cases e
theorem Rr.str {i : Str} (r : Rr X H v (.str i)) : v = .str i := by
  rcases r with r | ⟨_, _, _, _, e, _⟩ | ⟨_, _, _, _, _, e, _⟩
  · cases r; rfl
  · cases e
  · cases e
theorem Rr.non (r : Rr X H v .non) : v = .non := by
  rcases r with r | ⟨_, _, _, _, e, _⟩ | ⟨_, _, _, _, _, e, _⟩
  · cases r; rfl
  · cases e
  · cases e
theorem Rr.tup {ds : List D} (r : Rr X H v (.tup ds)) : ∃ a vs, v = .ref a ∧ SqT X.K H a vs ∧ RpsX X H vs ds := by
  rcases r with r | ⟨_, _, _, _, e, _⟩ | ⟨_, _, _, _, _, e, _⟩
  · cases r with | tup h q => exact ⟨_, _, rfl, h, q⟩
  · cases e
  · cases e
theorem FzL.rd {a : Addr} {vs : List V} (h : FzL H a vs) : Rd H a (.lst vs) := .inr h
theorem Rr.lst {ds : List D} (r : Rr X H v (.lst ds)) : ∃ a vs, v = .ref a ∧ Rd H a (.lst vs) ∧ RpsX X H vs ds := by
  rcases r with r | ⟨a, vs, ds', e, e2, h, q⟩ | ⟨_, _, _, _, _, e, _⟩
  · cases r with | lst h q => exact ⟨_, _, rfl, h.rd, q⟩
  · cases e2; exact ⟨a, vs, e, .inl h, q⟩
  · cases e
theorem Rr.of (r : RpX X H v d) : Rr X H v d := .inl r
end
end
end Mi
set_option Elab.async false
set_option linter.all false
set_option maxRecDepth 100000
set_option maxHeartbeats 2000000
/-! MiD: the operators' rules. -/
namespace Mi
open PySem PySem.Spec PyProof.Rows L2 LamX
section
variable {γ : Type} {M : Wd} {X : Cx} {H H' H0 : Hp} {σ : St} {ρ ρ' : Env} {fs fs' fs0 : List (List Addr)} {pins : List (Addr × Obj)} {s s' : Shared}
theorem Nw.step (n : Nw M X pins σ ρ H0 fs0 H fs s) (I : Inv X pins σ H' s') (f : Fr [] H H') (t : Tabs M.T H') : Nw M X pins σ ρ H0 fs0 H' fs s' :=
  ⟨I, n.sr.keep f (fun _ _ z => nomatch z), n.fr.trans f (fun _ z => nomatch z), n.gw, t⟩
theorem Nw.same (n : Nw M X pins σ ρ H0 fs0 H fs s) (I : Inv X pins σ H s') : Nw M X pins σ ρ H0 fs0 H fs s' := ⟨I, n.sr, n.fr, n.gw, n.tb⟩
theorem Nw.new {p : Addr} {o : HO} (n : Nw M X pins σ ρ H0 fs0 H fs s) (I : Inv X pins σ (upd H p o) s') (e : H p = none) : Nw M X pins σ ρ H0 fs0 (upd H p o) fs s' :=
  n.step I (Fr.new e) (tabs_new n.tb e)
/-- an answer that is data -/
theorem po_d {v : V} {u : Value} {d : D} (n : Nw M X pins σ ρ H0 fs0 H fs s) (rv : RelV v u) (r : RpX X H v d) : PO M X pins σ H0 fs0 (.ok (.d d) ρ) u s :=
  ⟨_, _, H, fs, v, [], rfl, n, rv, ⟨rfl, r⟩, by rw [List.append_nil]; exact n.sr.2.2.2, fun _ z => nomatch z⟩
/-- a new list of one's own -/
theorem po_l {p : Addr} {vs : List V} {ds : List D} (n : Nw M X pins σ ρ H0 fs0 H fs s) (I : Inv X pins σ (upd H p (.lst vs)) s') (e : H p = none) (r : RpsX X H vs ds) :
    PO M X pins σ H0 fs0 (.ok (.m (.c (.l ds))) ρ) (.ref p) s' := by
  have n' := n.new I e
  refine ⟨_, _, _, fs, .ref p, [p], rfl, n', rfl, ⟨⟨_, rfl, p, vs, rfl, rfl, upd_same, r.kd (Fr.new (Wr := []) e).kd⟩, Slot.noConfusion⟩, ?_, fun a ha => ?_⟩
  · refine List.nodup_append.mpr ⟨n.sr.2.2.2, by simp, fun a ha b hb => ?_⟩
    have : b = p := by simpa using hb
    subst this
    rintro rfl
    exact n.sr.thr.not_new ha e
  · have : a = p := by simpa using ha
    subst this
    exact .inr (n.fr.none_back e)
/-- a rule by values, whatever is wanted of errors -/
theorem op_use {f : Value → Value → Sem Value} {r : R2} (ho : ∀ E, OpR (X.wish E) f r) {x y : V} {v u : Value} {Q : VK} {E : Value → Shared → Prop} (I : Inv X pins σ H s) (rx : RelV x v) (ry : RelV y u) (h : r x y H Q) :
    wpAny (model X.prog X.w) X.A (f v u) (EP X pins σ Q) E s :=
  wpAny_mono (ho E pins s σ H x y v u Q (I.wish E) rx ry h) (fun _ _ ⟨v, H', I', r, q⟩ => ⟨v, H', I'.unwish, r, q⟩) fun _ _ z => z
theorem call_use {f : Value} {r : List V → Hp → VK → Prop} (ho : ∀ E, CallR (X.wish E) f r) {xs : List V} {us : List Value} {Q : VK} {E : Value → Shared → Prop} (I : Inv X pins σ H s) (rx : Vals xs us) (h : r xs H Q) :
    wpAny (model X.prog X.w) X.A (call f us) (EP X pins σ Q) E s :=
  wpAny_mono (ho E pins s σ H xs us Q (I.wish E) rx h) (fun _ _ ⟨v, H', I', r, q⟩ => ⟨v, H', I'.unwish, r, q⟩) fun _ _ z => z

theorem sz_big {n : Nat} (h : n ≤ big) : n ≤ sizeLine := Nat.le_trans h (by rw [sizeLine_eq]; decide)
/-- a list that can be read: its items -/
theorem rd_list (I : Inv X pins σ H s) {a : Addr} {xs : List V} (h : Rd H a (.lst xs)) : xs.length ≤ sizeLine ∧ ∃ (its : List Value) (n : Nat), Vals xs its ∧ s.heap.get? a = some { cls := .type "list", data := .seq its.toArray n } := by
  obtain ⟨z, its, n, r, e⟩ := h.ok I.hok
  exact ⟨z, its, n, r, e⟩
/-- xs + ys, of lists that can be read -/
def rAddL : R2 := fun x y H Q => ∃ a b xs zs, x = .ref a ∧ y = .ref b ∧ Rd H a (.lst xs) ∧ Rd H b (.lst zs) ∧ xs.length + zs.length ≤ sizeLine ∧ ∀ p, H p = none → Q (.ref p) (upd H p (.lst (xs ++ zs)))
theorem op_addL : OpR X (binaryOp .Add) rAddL := by
  rintro pins s σ H x y v u Q I rx ry ⟨a, b, xs, zs, rfl, rfl, ha, hb, hz, q⟩
  cases rx; cases ry
  obtain ⟨_, its, n, r, e⟩ := rd_list I ha
  obtain ⟨_, jts, m, r', e'⟩ := rd_list I hb
  have l1 := r.length
  have l2 := r'.length
  refine PySem.P.add_list e e' ?_ (by simp only [List.size_toArray]; omega)
  rw [List.append_toArray]
  exact ⟨.ref _, _, I.lnew (its := its ++ jts) (t' := s.toks) (r.append r') (by rw [List.length_append]; exact hz), rfl, q _ I.fresh⟩
theorem rep_eq {α : Type} (xs : List α) : ∀ n, Mi.rep xs n = (List.replicate n xs).flatten
  | 0 => rfl
  | n + 1 => by rw [Mi.rep, rep_eq xs n, List.replicate_succ, List.flatten_cons]
theorem rep_len {α : Type} (xs : List α) : ∀ n, (Mi.rep xs n).length = n * xs.length
  | 0 => by simp [Mi.rep]
  | n + 1 => by rw [Mi.rep, List.length_append, rep_len xs n, Nat.succ_mul, Nat.add_comm]
/-- xs * k -/
def rMulL : R2 := fun x y H Q => ∃ a k xs, x = .ref a ∧ y = .int k ∧ Rd H a (.lst xs) ∧ 0 ≤ k ∧ k ≤ 1000 ∧ xs.length ≤ 1000 ∧ ∀ p, H p = none → Q (.ref p) (upd H p (.lst (Mi.rep xs k.toNat)))
theorem op_mulL : OpR X (binaryOp .Mult) rMulL := by
  rintro pins s σ H x y v u Q I rx ry ⟨a, k, xs, rfl, rfl, ha, h0, h1, hz, q⟩
  -- unlocked for the while
  cases rx
  obtain ⟨t, rfl⟩ := ry
  obtain ⟨_, its, n, r, e⟩ := rd_list I ha
  have hl : its.length = xs.length := r.length.symm
  have hm : k.toNat * xs.length ≤ 1000 * 1000 := Nat.mul_le_mul (by omega) hz
  have c1 : (!Builtin.List.listFitsIndex k) ≠ true := by
    rw [fitsIndex_both (by omega) (by omega)]; decide
  have c2 : ¬ its.toArray.size * k.toNat > (2 ^ 63 - 1) / 8 := by
    rw [List.size_toArray, hl, Nat.mul_comm]; omega
  have c3 : ¬ Builtin.List.listTooLong (its.toArray.size * k.toNat) = true := by
    rw [List.size_toArray, hl, Nat.mul_comm, notLongL (by rw [sizeLine_eq]; omega)]; decide
  have c4 : List.foldl (fun x1 x2 => x1 ++ x2) #[] (List.replicate (if its.toArray.isEmpty = true then 0 else k.toNat) its.toArray) = (Mi.rep its k.toNat).toArray := by
    have z : ∀ m : Nat, List.foldl (fun x1 x2 => x1 ++ x2) #[] (List.replicate m its.toArray) = (Mi.rep its m).toArray := fun m => by
      rw [rep_eq]
      have := foldl_rep its m []
      simpa using this
    rw [z]
    cases its with
    | nil =>
      have w : ∀ m, Mi.rep ([] : List Value) m = [] := fun m => by
        induction m with
        | zero => rfl
        | succ m ih => rw [Mi.rep, ih]; rfl
      rw [w, w]
    | cons i j => simp
  refine wpAny_binaryOp_repeat_ref (T := "list") (U := "int") (by decide) ⟨_, e, rfl⟩ (fun s' => typeIs_int s' k t) noFill_list_mul F.fills_int_mul F.slot_int_rmul repeat_list F.slot_int_index.lookup
    (call_meets F.slot_int_rmul (typeIs_int s k t) F.entry_int_rmul (F.args_int_rmul_2 _ _) (int___rmul___int_list k t a its.toArray n)
      ⟨e, rfl, ⟨_, e, rfl⟩, call_meets F.slot_list_mul ⟨_, e, rfl⟩ F.entry_list_mul (F.args_list_mul_2 _ _) (AutoListH.list___mul___list_int_3 a its.toArray n k t c1 c2 c3) ⟨e, ?_⟩⟩)
  rw [c4]
  refine ⟨.ref _, _, I.lnew (its := Mi.rep its k.toNat) (ys := Mi.rep xs k.toNat) (t' := s.toks) ?_ ?_, rfl, q _ I.fresh⟩
  · rw [rep_eq, rep_eq]; exact r.rep k.toNat
  · rw [rep_len, sizeLine_eq]; omega

theorem log_small {a : Int} {n : Nat} (h : a.natAbs < 2 ^ (n + 1)) : a.natAbs.log2 ≤ n := by
  by_cases z : a.natAbs = 0
  · rw [z]; simp [Nat.log2_zero]
  · have := (Nat.log2_lt z).mpr h
    omega
theorem mul_ok {i j z : Int} (h : intMul i j = some z) : IntMulOk i j ∧ z = i * j := by
  unfold intMul at h
  split at h
  · rename_i hb
    refine ⟨?_, (Option.some.inj h).symm⟩
    have b : ∀ x : Int, Builtin.Int.intBits x ≤ x.natAbs.log2 + 1 := fun x => by
      unfold Builtin.Int.intBits
      split <;> omega
    have h1 := b i
    have h2 := b j
    unfold IntMulOk
    intro w
    rw [Bool.and_eq_true] at w
    have w2 := w.2
    unfold Builtin.Int.intTooBig at w2
    have w3 := of_decide_eq_true w2
    have e : bitsLine = 134217728 := by decide
    rw [e] at w3
    omega
  · cases h
def opN : Op2 → Operator
  | .add => .Add | .sub => .Sub | .mul => .Mult | .fdiv => .FloorDiv | .mod => .Mod | .pow => .Pow
def rMulI : R2 := rI IntMulOk fun i j => .int (i * j)
theorem op_mulI : OpR X (binaryOp .Mult) rMulI := opI fun _ _ _ _ _ _ _ hc q => mul_int q hc
theorem newT_some {ds : List D} {w : W} (h : newT ds = some w) : w = .d (.tup ds) ∧ ds.length ≤ big := by
  unfold newT at h
  split at h
  · rename_i hb; exact ⟨(Option.some.inj h).symm, hb⟩
  · cases h
theorem newL_some {ds : List D} {w : W} (h : newL ds = some w) : w = .m (.c (.l ds)) ∧ ds.length ≤ big := by
  unfold newL at h
  split at h
  · rename_i hb; exact ⟨(Option.some.inj h).symm, hb⟩
  · cases h
theorem ep_po {Q : VK} {u : Value} {r : Rs W} (h : EP X pins σ Q u s') (k : ∀ v H', Inv X pins σ H' s' → RelV v u → Q v H' → PO M X pins σ H0 fs0 r u s') : PO M X pins σ H0 fs0 r u s' := by
  obtain ⟨v, H', I, rv, q⟩ := h
  exact k v H' I rv q
/-- a new tuple that is data -/
theorem po_t {p : Addr} {vs : List V} {ds : List D} (n : Nw M X pins σ ρ H0 fs0 H fs s) (I : Inv X pins σ (upd H p (.tup vs)) s') (e : H p = none) (r : RpsX X H vs ds) : PO M X pins σ H0 fs0 (.ok (.d (.tup ds)) ρ) (.ref p) s' :=
  po_d (v := .ref p) (n.new I e) rfl (.tup (.inl (.inl upd_same)) (r.kd (Fr.new (Wr := []) e).kd))

theorem bin_ok {o : Op2} {x y : V} {u v : Value} {d e : D} {w : W} {E : Value → Shared → Prop} (n : Nw M X pins σ ρ H0 fs0 H fs s) (rx : RelV x u) (ry : RelV y v) (hx : Rr X H x d) (hy : Rr X H y e) (h : bin o d e = some w) :
    wpAny (model X.prog X.w) X.A (binaryOp (opN o) u v) (PO M X pins σ H0 fs0 (.ok w ρ)) E s := by
  have int : ∀ {f : Value → Value → Sem Value} {C : Int → Int → Prop} {g : Int → Int → V} {i j z : Int}, (∀ E, OpR (X.wish E) f (rI C g)) → C i j → g i j = .int z → x = .int i → y = .int j → w = .d (.int z) →
      wpAny (model X.prog X.w) X.A (f u v) (PO M X pins σ H0 fs0 (.ok w ρ)) E s := fun {f C g i j z} ho hc hg ex ey ew => by
    subst ew
    refine thn (op_use (Q := fun v H' => v = .int z ∧ H' = H) ho n.inv rx ry ⟨i, j, ex, ey, hc, hg, rfl⟩) fun u' s' p => ep_po p fun v' H' I rv q => ?_
    obtain ⟨rfl, rfl⟩ := q
    exact po_d (n.same I) rv (.int _)
  have int0 : ∀ {f : Value → Value → Sem Value} {g : Int → Int → V} {i j z : Int}, (∀ E, OpR (X.wish E) f (rI0 g)) → g i j = .int z → x = .int i → y = .int j → w = .d (.int z) →
      wpAny (model X.prog X.w) X.A (f u v) (PO M X pins σ H0 fs0 (.ok w ρ)) E s := fun {f g i j z} ho hg ex ey ew => by
    subst ew
    refine thn (op_use (Q := fun v H' => v = .int z ∧ H' = H) ho n.inv rx ry ⟨i, j, ex, ey, hg, rfl⟩) fun u' s' p => ep_po p fun v' H' I rv q => ?_
    obtain ⟨rfl, rfl⟩ := q
    exact po_d (n.same I) rv (.int _)
  have str : ∀ {f : Value → Value → Sem Value} {z : Str}, wpAny (model X.prog X.w) X.A (f u v) (EP X pins σ (fun v H' => v = .str z ∧ H' = H)) E s → w = .d (.str z) → wpAny (model X.prog X.w) X.A (f u v) (PO M X pins σ H0 fs0 (.ok w ρ)) E s := fun {f z} hw ew => by
    subst ew
    refine thn hw fun u' s' p => ep_po p fun v' H' I rv q => ?_
    obtain ⟨rfl, rfl⟩ := q
    exact po_d (n.same I) rv (.str _)
  unfold bin at h
  split at h
  · cases h; exact int0 (fun _ => op_add) rfl hx.int hy.int rfl
  · rename_i a b
    split at h
    · rename_i hb
      cases h
      exact str (op_use (fun _ => op_add_str) n.inv rx ry ⟨_, _, hx.str, hy.str, sz_big hb, rfl, rfl⟩) rfl
    · cases h
  · rename_i xs ys
    obtain ⟨rfl, hb⟩ := newL_some h
    obtain ⟨a, vs, ex, ha, ra⟩ := hx.lst
    obtain ⟨b, us, ey, hb', rb⟩ := hy.lst
    refine thn (op_use (Q := fun v H' => ∃ p, v = .ref p ∧ H p = none ∧ H' = upd H p (.lst (vs ++ us))) (fun _ => op_addL) n.inv rx ry ⟨a, b, vs, us, ex, ey, ha, hb', ?_, fun p hp => ⟨p, rfl, hp, rfl⟩⟩) fun u' s' p => ep_po p fun v' H' I rv q => ?_
    · rw [ra.length, rb.length, ← List.length_append]; exact sz_big hb
    · obtain ⟨p, rfl, hp, rfl⟩ := q
      cases rv
      exact po_l n I hp (ra.append rb)
  · rename_i xs ys
    obtain ⟨rfl, hb⟩ := newT_some h
    obtain ⟨a, vs, ex, ha, ra⟩ := hx.tup
    obtain ⟨b, us, ey, hb', rb⟩ := hy.tup
    refine thn (op_use (Q := fun v H' => (v = .ref b ∧ H' = H ∧ vs = []) ∨ (v = .ref a ∧ H' = H ∧ us = []) ∨ ∃ p, v = .ref p ∧ H p = none ∧ H' = upd H p (.tup (vs ++ us))) (r := rCatA X.K) (fun _ => op_catA) n.inv rx ry
      ⟨a, b, vs, us, ex, ey, ha, hb', ?_, fun z => .inl ⟨rfl, rfl, z⟩, fun _ z => .inr (.inl ⟨rfl, rfl, z⟩), fun _ _ p hp => .inr (.inr ⟨p, rfl, hp, rfl⟩)⟩) fun u' s' p => ep_po p fun v' H' I rv q => ?_
    · rw [ra.length, rb.length, ← List.length_append]; exact sz_big hb
    · rcases q with ⟨rfl, rfl, z⟩ | ⟨rfl, rfl, z⟩ | ⟨p, rfl, hp, rfl⟩
      · subst z
        cases ra
        exact po_d (n.same I) rv (.tup hb' rb)
      · subst z
        cases rb
        rw [List.append_nil]
        exact po_d (n.same I) rv (.tup ha ra)
      · cases rv
        exact po_t n I hp (ra.append rb)
  · cases h; exact int0 (fun _ => op_sub) rfl hx.int hy.int rfl
  · rename_i i j
    cases hm : intMul i j with
    | none => rw [hm] at h; cases h
    | some z =>
      rw [hm] at h; cases h
      obtain ⟨h1, h2⟩ := mul_ok hm
      exact int (fun _ => op_mulI) h1 (by rw [h2]) hx.int hy.int rfl
  · rename_i xs j
    split at h
    · rename_i hb
      obtain ⟨rfl, hb'⟩ := newL_some h
      obtain ⟨a, vs, ex, ha, ra⟩ := hx.lst
      refine thn (op_use (Q := fun v H' => ∃ p, v = .ref p ∧ H p = none ∧ H' = upd H p (.lst (Mi.rep vs j.toNat))) (fun _ => op_mulL) n.inv rx ry ⟨a, j, vs, ex, hy.int, ha, hb.1, hb.2.1, by rw [ra.length]; exact hb.2.2, fun p hp => ⟨p, rfl, hp, rfl⟩⟩) fun u' s' p => ep_po p fun v' H' I rv q => ?_
      obtain ⟨p, rfl, hp, rfl⟩ := q
      cases rv
      exact po_l n I hp (ra.rep j.toNat)
    · cases h
  · rename_i xs j
    split at h
    · rename_i hb
      obtain ⟨rfl, hb'⟩ := newT_some h
      obtain ⟨a, vs, ex, ha, ra⟩ := hx.tup
      have hne : vs ≠ [] := fun z => by
        subst z
        cases ra
        exact hb.2.2.2 rfl
      refine thn (op_use (r := rRepT X.K) (Q := fun v H' => ∃ p, v = .ref p ∧ H p = none ∧ H' = upd H p (.tup (List.replicate j.toNat vs).flatten)) (fun _ => op_repT) n.inv rx ry ⟨a, j, vs, ex, hy.int, ha, hne, hb.1, hb.2.1, by rw [ra.length]; exact hb.2.2.1, fun p hp => ⟨p, rfl, hp, rfl⟩⟩) fun u' s' p => ep_po p fun v' H' I rv q => ?_
      obtain ⟨p, rfl, hp, rfl⟩ := q
      cases rv
      rw [← rep_eq] at I
      exact po_t n I hp (ra.rep j.toNat)
    · cases h
  · rename_i i j
    split at h
    · rename_i hb
      cases h
      have hlt : j.natAbs < 2 ^ 80 := by omega
      exact int (fun _ => op_fdivW) (wide_div hb.1 hlt (by decide) (by decide)) rfl hx.int hy.int rfl
    · cases h
  · rename_i i j
    split at h
    · rename_i hb
      cases h
      exact int (fun _ => op_mod) hb rfl hx.int hy.int rfl
    · cases h
  · rename_i i j
    split at h
    · rename_i hb
      cases h
      exact int (fun _ => op_pow) ⟨hb.1, by omega, by omega⟩ rfl hx.int hy.int rfl
    · cases h
  · cases h
end
end Mi
set_option Elab.async false
set_option linter.all false
set_option maxRecDepth 100000
set_option maxHeartbeats 2000000
/-! MiE: data as the library has them; comparisons. -/
namespace Mi
open PySem PySem.Spec PyProof.Rows L2 LamX
mutual
def D.py : D → PyData
  | .non => .none
  | .bl b => .bool b
  | .int i => .int i
  | .str x => .str x
  | .tup xs => .tuple (D.pys xs)
  | .lst xs => .list (D.pys xs)
  | .dct _ => .none
  | .set _ => .none
  | .exc _ => .none
def D.pys : List D → List PyData
  | [] => []
  | x :: xs => D.py x :: D.pys xs
end
theorem pys_map : ∀ xs : List D, D.pys xs = xs.map D.py
  | [] => by rw [D.pys]; rfl
  | x :: xs => by rw [D.pys, pys_map xs]; rfl
mutual
theorem plain_lay : ∀ (d : D) (n : Nat), d.plain n = true → d.py.canLay0 = true ∧ d.py.depth ≤ n
  | .non, n, _ => by simp [D.py, PyData.canLay0, PyData.depth]
  | .bl b, n, _ => by simp [D.py, PyData.canLay0, PyData.depth]
  | .int i, n, _ => by simp [D.py, PyData.canLay0, PyData.depth]
  | .str x, n, h => by
    have h : (x.cps.toList.all fun c => decide (c < 1114112)) = true := by cases n <;> simpa [D.plain] using h
    refine ⟨?_, by simp [D.py, PyData.depth]⟩
    simp only [D.py, PyData.canLay0, PyData.strOk]
    rw [← Array.all_toList]
    exact h
  | .tup xs, 0, h => by simp [D.plain] at h
  | .tup xs, n + 1, h => by
    have h : D.plains n xs = true := by simpa [D.plain] using h
    obtain ⟨h1, h2⟩ := plains_lay xs n h
    simp only [D.py, PyData.canLay0, PyData.depth]
    exact ⟨h1, by omega⟩
  | .lst xs, 0, h => by simp [D.plain] at h
  | .lst xs, n + 1, h => by
    have h : D.plains n xs = true := by simpa [D.plain] using h
    obtain ⟨h1, h2⟩ := plains_lay xs n h
    simp only [D.py, PyData.canLay0, PyData.depth]
    exact ⟨h1, by omega⟩
  | .dct _, n, h => by cases n <;> simp [D.plain] at h
  | .set _, n, h => by cases n <;> simp [D.plain] at h
  | .exc _, n, h => by cases n <;> simp [D.plain] at h
theorem plains_lay : ∀ (xs : List D) (n : Nat), D.plains n xs = true → PyData.canLayAll0 (D.pys xs) = true ∧ PyData.depthAll (D.pys xs) ≤ n
  | [], n, _ => by simp [D.pys, PyData.canLayAll0, PyData.depthAll]
  | x :: xs, n, h => by
    have h : D.plain n x = true ∧ D.plains n xs = true := by cases n <;> simpa [D.plains] using h
    obtain ⟨a1, a2⟩ := plain_lay x n h.1
    obtain ⟨b1, b2⟩ := plains_lay xs n h.2
    simp only [D.pys, PyData.canLayAll0, PyData.depthAll, a1, b1]
    exact ⟨rfl, by omega⟩
end
theorem shaped_of {d : D} (h : d.plain lvl = true) : SeqAt.shaped d.py = true := by
  obtain ⟨h1, h2⟩ := plain_lay d _ h
  unfold SeqAt.shaped
  rw [h1, Bool.true_and]
  exact decide_eq_true (by unfold lvl at h2; omega)
theorem shaped_list {xs : List D} (h : D.plains lvl xs = true) : SeqAt.shaped (.list (D.pys xs)) = true := by
  obtain ⟨h1, h2⟩ := plains_lay xs _ h
  unfold SeqAt.shaped
  simp only [PyData.canLay0, PyData.depth, h1, Bool.true_and]
  exact decide_eq_true (by unfold lvl at h2; omega)
theorem shaped_tup {xs : List D} (h : D.plains lvl xs = true) : SeqAt.shaped (.tuple (D.pys xs)) = true := by
  obtain ⟨h1, h2⟩ := plains_lay xs _ h
  unfold SeqAt.shaped
  simp only [PyData.canLay0, PyData.depth, h1, Bool.true_and]
  exact decide_eq_true (by unfold lvl at h2; omega)
mutual
theorem eqv_py : ∀ (a b : D) (n m : Nat), a.plain n = true → b.plain m = true → PyData.eqv a.py b.py = D.eqv a b
  | .tup xs, .tup ys, n, m, h, k => by
    have h1 : ∃ n', D.plains n' xs = true := by cases n with | zero => simp [D.plain] at h | succ n => exact ⟨n, by simpa [D.plain] using h⟩
    have k1 : ∃ n', D.plains n' ys = true := by cases m with | zero => simp [D.plain] at k | succ m => exact ⟨m, by simpa [D.plain] using k⟩
    obtain ⟨n', h1⟩ := h1
    obtain ⟨m', k1⟩ := k1
    simp only [D.py, PyData.eqv, D.eqv]
    exact eqvs_py xs ys n' m' h1 k1
  | .lst xs, .lst ys, n, m, h, k => by
    have h1 : ∃ n', D.plains n' xs = true := by cases n with | zero => simp [D.plain] at h | succ n => exact ⟨n, by simpa [D.plain] using h⟩
    have k1 : ∃ n', D.plains n' ys = true := by cases m with | zero => simp [D.plain] at k | succ m => exact ⟨m, by simpa [D.plain] using k⟩
    obtain ⟨n', h1⟩ := h1
    obtain ⟨m', k1⟩ := k1
    simp only [D.py, PyData.eqv, D.eqv]
    exact eqvs_py xs ys n' m' h1 k1
  | .dct _, _, n, m, h, k => by cases n <;> simp [D.plain] at h
  | .set _, _, n, m, h, k => by cases n <;> simp [D.plain] at h
  | .exc _, _, n, m, h, k => by cases n <;> simp [D.plain] at h
  | _, .dct _, n, m, h, k => by cases m <;> simp [D.plain] at k
  | _, .set _, n, m, h, k => by cases m <;> simp [D.plain] at k
  | _, .exc _, n, m, h, k => by cases m <;> simp [D.plain] at k
  | .non, .non, _, _, _, _ => by simp [D.py, PyData.eqv, D.eqv]
  | .non, .bl _, _, _, _, _ => by simp [D.py, PyData.eqv, D.eqv]
  | .non, .int _, _, _, _, _ => by simp [D.py, PyData.eqv, D.eqv]
  | .non, .str _, _, _, _, _ => by simp [D.py, PyData.eqv, D.eqv]
  | .non, .tup _, _, _, _, _ => by simp [D.py, PyData.eqv, D.eqv]
  | .non, .lst _, _, _, _, _ => by simp [D.py, PyData.eqv, D.eqv]
  | .bl _, .non, _, _, _, _ => by simp [D.py, PyData.eqv, D.eqv]
  | .bl _, .bl _, _, _, _, _ => by simp [D.py, PyData.eqv, D.eqv]
  | .bl _, .int _, _, _, _, _ => by simp [D.py, PyData.eqv, D.eqv]
  | .bl _, .str _, _, _, _, _ => by simp [D.py, PyData.eqv, D.eqv]
  | .bl _, .tup _, _, _, _, _ => by simp [D.py, PyData.eqv, D.eqv]
  | .bl _, .lst _, _, _, _, _ => by simp [D.py, PyData.eqv, D.eqv]
  | .int _, .non, _, _, _, _ => by simp [D.py, PyData.eqv, D.eqv]
  | .int _, .bl _, _, _, _, _ => by simp [D.py, PyData.eqv, D.eqv]
  | .int _, .int _, _, _, _, _ => by simp [D.py, PyData.eqv, D.eqv]
  | .int _, .str _, _, _, _, _ => by simp [D.py, PyData.eqv, D.eqv]
  | .int _, .tup _, _, _, _, _ => by simp [D.py, PyData.eqv, D.eqv]
  | .int _, .lst _, _, _, _, _ => by simp [D.py, PyData.eqv, D.eqv]
  | .str _, .non, _, _, _, _ => by simp [D.py, PyData.eqv, D.eqv]
  | .str _, .bl _, _, _, _, _ => by simp [D.py, PyData.eqv, D.eqv]
  | .str _, .int _, _, _, _, _ => by simp [D.py, PyData.eqv, D.eqv]
  | .str _, .str _, _, _, _, _ => by simp [D.py, PyData.eqv, D.eqv]
  | .str _, .tup _, _, _, _, _ => by simp [D.py, PyData.eqv, D.eqv]
  | .str _, .lst _, _, _, _, _ => by simp [D.py, PyData.eqv, D.eqv]
  | .tup _, .non, _, _, _, _ => by simp [D.py, PyData.eqv, D.eqv]
  | .tup _, .bl _, _, _, _, _ => by simp [D.py, PyData.eqv, D.eqv]
  | .tup _, .int _, _, _, _, _ => by simp [D.py, PyData.eqv, D.eqv]
  | .tup _, .str _, _, _, _, _ => by simp [D.py, PyData.eqv, D.eqv]
  | .tup _, .lst _, _, _, _, _ => by simp [D.py, PyData.eqv, D.eqv]
  | .lst _, .non, _, _, _, _ => by simp [D.py, PyData.eqv, D.eqv]
  | .lst _, .bl _, _, _, _, _ => by simp [D.py, PyData.eqv, D.eqv]
  | .lst _, .int _, _, _, _, _ => by simp [D.py, PyData.eqv, D.eqv]
  | .lst _, .str _, _, _, _, _ => by simp [D.py, PyData.eqv, D.eqv]
  | .lst _, .tup _, _, _, _, _ => by simp [D.py, PyData.eqv, D.eqv]
theorem eqvs_py : ∀ (xs ys : List D) (n m : Nat), D.plains n xs = true → D.plains m ys = true → PyData.eqvAll (D.pys xs) (D.pys ys) = D.eqvs xs ys
  | [], [], _, _, _, _ => by simp [D.pys, PyData.eqvAll, D.eqvs]
  | x :: xs, y :: ys, n, m, h, k => by
    have h : D.plain n x = true ∧ D.plains n xs = true := by cases n <;> simpa [D.plains] using h
    have k : D.plain m y = true ∧ D.plains m ys = true := by cases m <;> simpa [D.plains] using k
    simp only [D.pys, PyData.eqvAll, D.eqvs, eqv_py x y n m h.1 k.1, eqvs_py xs ys n m h.2 k.2]
  | [], _ :: _, _, _, _, _ => by simp [D.pys, PyData.eqvAll, D.eqvs]
  | _ :: _, [], _, _, _, _ => by simp [D.pys, PyData.eqvAll, D.eqvs]
end

mutual
theorem alike_py : ∀ (a b : D) (n m : Nat), a.plain n = true → b.plain m = true → D.alike a b = true → PySem.W.alike a.py b.py = true
  | .tup xs, .tup ys, n, m, h, k, e => by
    cases n with
    | zero => simp [D.plain] at h
    | succ n =>
      cases m with
      | zero => simp [D.plain] at k
      | succ m =>
        simp only [D.py, PySem.W.alike]
        exact alikes_py xs ys n m (by simpa [D.plain] using h) (by simpa [D.plain] using k) (by simpa [D.alike] using e)
  | .lst xs, .lst ys, n, m, h, k, e => by
    cases n with
    | zero => simp [D.plain] at h
    | succ n =>
      cases m with
      | zero => simp [D.plain] at k
      | succ m =>
        simp only [D.py, PySem.W.alike]
        exact alikes_py xs ys n m (by simpa [D.plain] using h) (by simpa [D.plain] using k) (by simpa [D.alike] using e)
  | .non, .non, _, _, _, _, _ => by simp [D.py, PySem.W.alike]
  | .bl _, .bl _, _, _, _, _, _ => by simp [D.py, PySem.W.alike]
  | .int _, .int _, _, _, _, _, _ => by simp [D.py, PySem.W.alike]
  | .str _, .str _, _, _, _, _, _ => by simp [D.py, PySem.W.alike]
  | .dct _, _, n, _, h, _, _ => by cases n <;> simp [D.plain] at h
  | .set _, _, n, _, h, _, _ => by cases n <;> simp [D.plain] at h
  | .exc _, _, n, _, h, _, _ => by cases n <;> simp [D.plain] at h
theorem alikes_py : ∀ (xs ys : List D) (n m : Nat), D.plains n xs = true → D.plains m ys = true → D.alikes xs ys = true → PySem.W.alikeAll (D.pys xs) (D.pys ys) = true
  | [], _, _, _, _, _, _ => by simp [D.pys, PySem.W.alikeAll]
  | _ :: _, [], _, _, _, _, _ => by simp [D.pys, PySem.W.alikeAll]
  | x :: xs, y :: ys, n, m, h, k, e => by
    have h : D.plain n x = true ∧ D.plains n xs = true := by cases n <;> simpa [D.plains] using h
    have k : D.plain m y = true ∧ D.plains m ys = true := by cases m <;> simpa [D.plains] using k
    have e : D.alike x y = true ∧ D.alikes xs ys = true := by simpa [D.alikes] using e
    simp only [D.pys, PySem.W.alikeAll, alike_py x y n m h.1 k.1 e.1, alikes_py xs ys n m h.2 k.2 e.2, Bool.and_self]
end
mutual
theorem lt_py : ∀ (a b : D) (n m : Nat), a.plain n = true → b.plain m = true → D.alike a b = true → PySem.W.dataLt a.py b.py = D.lt a b
  | .tup xs, .tup ys, n, m, h, k, e => by
    cases n with
    | zero => simp [D.plain] at h
    | succ n =>
      cases m with
      | zero => simp [D.plain] at k
      | succ m =>
        simp only [D.py, D.lt]
        rw [PySem.W.dataLt_tuple]
        exact lts_py xs ys n m (by simpa [D.plain] using h) (by simpa [D.plain] using k) (by simpa [D.alike] using e)
  | .lst xs, .lst ys, n, m, h, k, e => by
    cases n with
    | zero => simp [D.plain] at h
    | succ n =>
      cases m with
      | zero => simp [D.plain] at k
      | succ m =>
        simp only [D.py, D.lt]
        rw [PySem.W.dataLt_list]
        exact lts_py xs ys n m (by simpa [D.plain] using h) (by simpa [D.plain] using k) (by simpa [D.alike] using e)
  | .non, .non, _, _, _, _, _ => by simp only [D.py, D.lt]; rfl
  | .bl a, .bl b, _, _, _, _, _ => by
    simp only [D.py, D.lt]
    rw [PySem.W.dataLt_bool]
    cases a <;> cases b <;> rfl
  | .int _, .int _, _, _, _, _, _ => by simp only [D.py, D.lt]; rw [PySem.W.dataLt_int]
  | .str _, .str _, _, _, _, _, _ => by simp only [D.py, D.lt]; rw [PySem.W.dataLt_str]
  | .dct _, _, n, _, h, _, _ => by cases n <;> simp [D.plain] at h
  | .set _, _, n, _, h, _, _ => by cases n <;> simp [D.plain] at h
  | .exc _, _, n, _, h, _, _ => by cases n <;> simp [D.plain] at h
theorem lts_py : ∀ (xs ys : List D) (n m : Nat), D.plains n xs = true → D.plains m ys = true → D.alikes xs ys = true →
    PyProof.Rows.lexLt PyProof.Rows.itemOrd (PySem.W.keyToksAll (D.pys xs)) (PySem.W.keyToksAll (D.pys ys)) = D.lts xs ys
  | [], [], _, _, _, _, _ => by simp only [D.pys, D.lts]; rfl
  | [], y :: ys, _, _, _, _, _ => by
    simp only [D.pys, D.lts, PySem.W.keyToksAll]
    first | rfl | (rw [PySem.W.lex_atom (by decide)]; rfl)
  | x :: xs, [], _, _, _, _, _ => by
    simp only [D.pys, D.lts, PySem.W.keyToksAll]
    first | rfl | (rw [PySem.W.lex_atom (by decide)]; rfl)
  | x :: xs, y :: ys, n, m, h, k, e => by
    have h : D.plain n x = true ∧ D.plains n xs = true := by cases n <;> simpa [D.plains] using h
    have k : D.plain m y = true ∧ D.plains m ys = true := by cases m <;> simpa [D.plains] using k
    have e : D.alike x y = true ∧ D.alikes xs ys = true := by simpa [D.alikes] using e
    have ha := alike_py x y n m h.1 k.1 e.1
    have he := eqv_py x y n m h.1 k.1
    simp only [D.pys, D.lts]
    cases q : D.eqv x y with
    | true =>
      rw [q] at he
      rw [PySem.W.dataLt_all_yes ha he, lts_py xs ys n m h.2 k.2 e.2, if_pos rfl]
    | false =>
      rw [q] at he
      rw [PySem.W.dataLt_all_no ha he, lt_py x y n m h.1 k.1 e.1, if_neg (by decide)]
end

section
variable {γ : Type} {M : Wd} {X : Cx} {H H' H0 : Hp} {σ : St} {ρ ρ' : Env} {fs fs' fs0 : List (List Addr)} {pins : List (Addr × Obj)} {s s' : Shared}
mutual
theorem dp_of {P : Program} {w : World} {K : PySem.W.Frag} : ∀ (d : D) (n : Nat) (v : V), d.plain n = true → Rp P w K H v d → Dp K H v d.py
  | .non, _, _, _, r => by cases r; exact .non
  | .bl _, _, _, _, r => by cases r; exact .bl _
  | .int _, _, _, _, r => by cases r; exact .int _
  | .str _, _, _, _, r => by cases r; exact .str _
  | .tup xs, n, _, h, r => by
    cases n with
    | zero => simp [D.plain] at h
    | succ n => cases r with | tup hs q => simp only [D.py]; exact .tup hs (dps_of xs n _ (by simpa [D.plain] using h) q)
  | .lst xs, n, _, h, r => by
    cases n with
    | zero => simp [D.plain] at h
    | succ n => cases r with | lst hs q => simp only [D.py]; exact .lst (.inl hs.rd) (dps_of xs n _ (by simpa [D.plain] using h) q)
  | .dct _, n, _, h, _ => by cases n <;> simp [D.plain] at h
  | .set _, n, _, h, _ => by cases n <;> simp [D.plain] at h
  | .exc _, n, _, h, _ => by cases n <;> simp [D.plain] at h
theorem dps_of {P : Program} {w : World} {K : PySem.W.Frag} : ∀ (ds : List D) (n : Nat) (vs : List V), D.plains n ds = true → Rps P w K H vs ds → DpAll K H vs (D.pys ds)
  | [], _, _, _, r => by cases r; simp only [D.pys]; exact .nil
  | d :: ds, n, _, h, r => by
    have h : D.plain n d = true ∧ D.plains n ds = true := by cases n <;> simpa [D.plains] using h
    cases r with | cons r t => simp only [D.pys]; exact .cons (dp_of d n _ h.1 r) (dps_of ds n _ h.2 t)
end
theorem Rr.dp {v : V} {d : D} {n : Nat} (r : Rr X H v d) (h : d.plain n = true) : Dp X.K H v d.py := by
  rcases r with r | ⟨a, vs, ds, rfl, rfl, ha, q⟩ | ⟨_, _, _, _, _, rfl, _⟩
  · exact dp_of d n v h r
  · cases n with
    | zero => simp [D.plain] at h
    | succ n => simp only [D.py]; exact .lst (SqL.of ha) (dps_of ds n _ (by simpa [D.plain] using h) q)
  · cases n <;> simp [D.plain] at h
theorem Rr.reads {v : V} {u : Value} {d : D} {n : Nat} (r : Rr X H v d) (h : d.plain n = true) (I : Inv X pins σ H s) (rv : RelV v u) : ∃ as, Reads s.heap u d.py as := Dp.reads I d.py v u (r.dp h) rv

/-- room on the stack -/
def Units (X : Cx) : Prop := X.A.units + 150 < cLine
def cmN : Cm → CmpOp
  | .eq => .Eq | .ne => .NotEq | .lt => .Lt | .le => .LtE | .gt => .Gt | .ge => .GtE | .isin => .In | .notin => .NotIn | .is_ => .Is | .isnot => .IsNot
theorem op_bl {f : Value → Value → Sem Value} {r : R2} {x y : V} {u v : Value} {b : Bool} {E : Value → Shared → Prop} (n : Nw M X pins σ ρ H0 fs0 H fs s) (ho : ∀ E, OpR (X.wish E) f r) (rx : RelV x u) (ry : RelV y v) (h : ∀ Q : VK, Q (.bl b) H → r x y H Q) :
    wpAny (model X.prog X.w) X.A (f u v) (PO M X pins σ H0 fs0 (.ok (.d (.bl b)) ρ)) E s := by
  refine thn (op_use (Q := fun v H' => v = .bl b ∧ H' = H) ho n.inv rx ry (h _ ⟨rfl, rfl⟩)) fun u' s' p => ep_po p fun v' H' I rv q => ?_
  obtain ⟨rfl, rfl⟩ := q
  exact po_d (n.same I) rv (.bl _)
theorem any_py (xs : List D) (x : D) (h : D.plains lvl xs = true) (k : x.plain lvl = true) : ((D.pys xs).any fun z => PyData.eqv z x.py) = mem x xs := by
  unfold mem
  induction xs with
  | nil => rfl
  | cons y ys ih =>
    have h : D.plain lvl y = true ∧ D.plains lvl ys = true := by simpa [D.plains] using h
    simp only [D.pys, List.any_cons, eqv_py y x _ _ h.1 k, ih h.2]
end
end Mi
set_option Elab.async false
set_option linter.all false
set_option maxRecDepth 100000
set_option maxHeartbeats 2000000
/-! MiF: comparisons, places, cuts. -/
namespace Mi
open PySem PySem.Spec PyProof.Rows L2 LamX
section
variable {γ : Type} {M : Wd} {X : Cx} {H H' H0 : Hp} {σ : St} {ρ ρ' : Env} {fs fs' fs0 : List (List Addr)} {pins : List (Addr × Obj)} {s s' : Shared}
theorem po_now {b : Bool} (n : Nw M X pins σ ρ H0 fs0 H fs s) : PO M X pins σ H0 fs0 (.ok (.d (.bl b)) ρ) (.bool b) s := po_d (v := .bl b) n rfl (.bl b)
theorem plains_of_plain_lst {xs : List D} {n : Nat} (h : D.plain (n + 1) (.lst xs) = true) : D.plains n xs = true := by simpa [D.plain] using h
theorem rr_list_reads {v : V} {u : Value} {xs : List D} (r : Rr X H v (.lst xs)) (h : D.plains lvl xs = true) (I : Inv X pins σ H s) (rv : RelV v u) : ∃ as, Reads s.heap u (.list (D.pys xs)) as := by
  obtain ⟨a, vs, rfl, ha, q⟩ := r.lst
  exact Dp.reads I (.list (D.pys xs)) _ u (.lst (.inl ha) (dps_of xs _ _ h q)) rv
theorem rr_tup_reads {v : V} {u : Value} {xs : List D} (r : Rr X H v (.tup xs)) (h : D.plains lvl xs = true) (I : Inv X pins σ H s) (rv : RelV v u) : ∃ as, Reads s.heap u (.tuple (D.pys xs)) as := by
  obtain ⟨a, vs, rfl, ha, q⟩ := r.tup
  exact Dp.reads I (.tuple (D.pys xs)) _ u (.tup ha (dps_of xs _ _ h q)) rv
theorem isNon_of {v : V} {d : D} (r : Rr X H v d) : decide (v = .non) = (match d with | .non => true | _ => false) := by
  rcases r with r | ⟨_, _, _, rfl, rfl, _⟩ | ⟨_, _, _, _, rfl, rfl, _⟩
  · cases r <;> first | rfl | simp
  · simp
  · simp
theorem cmp_ok {c : Cm} {x y : V} {u v : Value} {d e : D} {b : Bool} {E : Value → Shared → Prop} (hu : Units X) (n : Nw M X pins σ ρ H0 fs0 H fs s) (rx : RelV x u) (ry : RelV y v) (hx : Rr X H x d) (hy : Rr X H y e) (h : cmpD c d e = some b) :
    wpAny (model X.prog X.w) X.A (compareOp (cmN c) u v) (PO M X pins σ H0 fs0 (.ok (.d (.bl b)) ρ)) E s := by
  have hu0 : X.A.units + 150 < cLine := hu
  have dep : ∀ {d : D}, d.plain lvl = true → d.py.depth ≤ 12 := fun {d} h => (plain_lay d _ h).2
  have deps : ∀ {ds : List D}, D.plains lvl ds = true → PyData.depthAll (D.pys ds) ≤ 12 := fun {ds} h => (plains_lay ds _ h).2
  cases c with
  | eq =>
    dsimp only [cmpD] at h
    split at h
    · rename_i hp
      rw [Bool.and_eq_true] at hp
      cases h
      refine op_bl (r := rEqD X.K) n (fun _ => op_eqD (by show X.A.units + 64 < cLine; omega)) rx ry fun Q q => ⟨d.py, e.py, hx.dp hp.1, hy.dp hp.2, shaped_of hp.1, shaped_of hp.2, ?_⟩
      rw [eqv_py d e _ _ hp.1 hp.2]; exact q
    · cases h
  | ne =>
    dsimp only [cmpD] at h
    split at h
    · rename_i hp
      rw [Bool.and_eq_true] at hp
      cases h
      refine op_bl (r := rNeD X.K) n (fun _ => op_neD (by show X.A.units + 64 < cLine; omega)) rx ry fun Q q => ⟨d.py, e.py, hx.dp hp.1, hy.dp hp.2, shaped_of hp.1, shaped_of hp.2, ?_⟩
      rw [eqv_py d e _ _ hp.1 hp.2]; exact q
    · cases h
  | lt =>
    dsimp only [cmpD] at h
    split at h
    · rename_i hp
      rw [Bool.and_eq_true, Bool.and_eq_true] at hp
      obtain ⟨⟨h1, h2⟩, h3⟩ := hp
      obtain ⟨as, ra⟩ := hx.reads h1 n.inv rx
      obtain ⟨bs, rb⟩ := hy.reads h2 n.inv ry
      have d1 := dep h1
      have key : d.py ≠ .none → b = D.lt d e → wpAny (model X.prog X.w) X.A (compareOp .Lt u v) (PO M X pins σ H0 fs0 (.ok (.d (.bl b)) ρ)) E s := fun hn hb => by
        refine PySem.W.lt_data ra rb (alike_py d e _ _ h1 h2 h3) hn (by omega) ?_
        rw [lt_py d e _ _ h1 h2 h3, ← hb]
        exact po_now n
      split at h
      · cases h; exact key (by simp [D.py]) (by simp [D.lt])
      · cases h; exact key (by simp [D.py]) rfl
      · cases h; exact key (by simp [D.py]) rfl
      · cases h
    · cases h
  | le =>
    dsimp only [cmpD] at h
    split at h
    · cases h
      exact op_bl n (fun _ => op_le) rx ry fun Q q => ⟨_, _, hx.int, hy.int, q⟩
    · cases h
      exact op_bl n (fun _ => op_le_str) rx ry fun Q q => ⟨_, _, hx.str, hy.str, q⟩
    · cases h
  | gt =>
    dsimp only [cmpD] at h
    split at h
    · cases h
      exact op_bl n (fun _ => op_gt) rx ry fun Q q => ⟨_, _, hx.int, hy.int, q⟩
    · cases h
  | ge =>
    dsimp only [cmpD] at h
    split at h
    · cases h
      exact op_bl n (fun _ => op_ge) rx ry fun Q q => ⟨_, _, hx.int, hy.int, q⟩
    · cases h
  | isin =>
    dsimp only [cmpD] at h
    split at h
    · rename_i z y'
      split at h
      · rename_i hz
        cases h
        have hl : z.cps.toList.length = 1 := by simpa [Str.length] using hz.1
        obtain ⟨c, hc⟩ := List.length_eq_one_iff.mp hl
        have ez : z = ⟨#[c]⟩ := by
          cases z with | mk cps => simp only [Str.mk.injEq]; exact Array.toList_inj.mp (by simpa using hc)
        refine op_bl n (fun _ => op_in_sign) rx ry fun Q q => ⟨c, y', by rw [hx.str, ez], hy.str, ?_⟩
        have e1 : decide (c ∈ y'.cps.toList) = occIn z y' := by
          unfold occIn
          rw [hc]
          simp
        rw [e1]; exact q
      · cases h
    · split at h
      · rename_i hp
        rw [Bool.and_eq_true] at hp
        cases h
        obtain ⟨as, ra⟩ := hx.reads hp.1 n.inv rx
        obtain ⟨bs, rb⟩ := rr_list_reads hy hp.2 n.inv ry
        have d1 := dep hp.1
        refine SeqAt.in_list_reads rb ra (plains_lay _ _ hp.2).1 (plain_lay _ _ hp.1).1 (by omega) ?_
        rw [any_py _ _ hp.2 hp.1]
        exact po_now n
      · cases h
    · split at h
      · rename_i hp
        rw [Bool.and_eq_true] at hp
        cases h
        obtain ⟨as, ra⟩ := hx.reads hp.1 n.inv rx
        obtain ⟨bs, rb⟩ := rr_tup_reads hy hp.2 n.inv ry
        have d1 := dep hp.1
        refine SeqAt.in_tuple_reads rb ra (plains_lay _ _ hp.2).1 (plain_lay _ _ hp.1).1 (by omega) ?_
        rw [any_py _ _ hp.2 hp.1]
        exact po_now n
      · cases h
    · cases h
  | notin =>
    dsimp only [cmpD] at h
    split at h
    · split at h
      · rename_i hp
        rw [Bool.and_eq_true] at hp
        cases h
        obtain ⟨as, ra⟩ := hx.reads hp.1 n.inv rx
        obtain ⟨bs, rb⟩ := rr_list_reads hy hp.2 n.inv ry
        have d1 := dep hp.1
        refine SeqAt.notIn_list_reads rb ra (plains_lay _ _ hp.2).1 (plain_lay _ _ hp.1).1 (by omega) ?_
        rw [any_py _ _ hp.2 hp.1]
        exact po_now n
      · cases h
    · split at h
      · rename_i hp
        rw [Bool.and_eq_true] at hp
        cases h
        obtain ⟨as, ra⟩ := hx.reads hp.1 n.inv rx
        obtain ⟨bs, rb⟩ := rr_tup_reads hy hp.2 n.inv ry
        have d1 := dep hp.1
        refine SeqAt.notIn_tuple_reads rb ra (plains_lay _ _ hp.2).1 (plain_lay _ _ hp.1).1 (by omega) ?_
        rw [any_py _ _ hp.2 hp.1]
        exact po_now n
      · cases h
    · cases h
  | is_ =>
    dsimp only [cmpD] at h
    have hn := isNon_of hx
    split at h
    · cases h
      exact op_bl n (fun _ => op_isN) rx ry fun Q q => ⟨hy.non, by rw [hn]; exact q⟩
    · cases h
      refine op_bl n (fun _ => op_isN) rx ry fun Q q => ⟨hy.non, ?_⟩
      rw [hn]
      rename_i hne
      cases d <;> first | exact q | exact (hne rfl).elim
    · cases h
      refine op_bl n (fun _ => op_isBl) rx ry fun Q q => ⟨_, _, hx.bl, hy.bl, ?_⟩
      rename_i p q'
      have e1 : decide (p = q') = (p == q') := by cases p <;> cases q' <;> rfl
      rw [e1]; exact q
    · cases h
  | isnot =>
    dsimp only [cmpD] at h
    have hn := isNon_of hx
    split at h
    · cases h
      exact op_bl n (fun _ => op_notN) rx ry fun Q q => ⟨hy.non, by rw [hn]; exact q⟩
    · cases h
      refine op_bl n (fun _ => op_notN) rx ry fun Q q => ⟨hy.non, ?_⟩
      rw [hn]
      rename_i hne
      cases d <;> first | exact q | exact (hne rfl).elim
    · cases h
      refine op_bl n (fun _ => op_notBl) rx ry fun Q q => ⟨_, _, hx.bl, hy.bl, ?_⟩
      rename_i p q'
      have e1 : decide (p = q') = (p == q') := by cases p <;> cases q' <;> rfl
      rw [e1]; exact q
    · cases h
end
end Mi
set_option Elab.async false
set_option linter.all false
set_option maxRecDepth 100000
set_option maxHeartbeats 2000000
/-! MiG: slots set, things handed away, lists of values. -/
namespace Mi
open PySem PySem.Spec PyProof.Rows L2 LamX
/-! ### lists of addresses -/
theorem mem_set_flat {a : Addr} {fp : List Addr} : ∀ {fs : List (List Addr)} {i : Nat}, a ∈ (fs.set i fp).flatten → a ∈ fp ∨ a ∈ (fs.set i []).flatten
  | [], _, h => by simp at h
  | l :: fs, 0, h => by
    simp only [List.set_cons_zero, List.flatten_cons, List.mem_append] at h ⊢
    rcases h with h | h
    · exact .inl h
    · exact .inr (.inr h)
  | l :: fs, i + 1, h => by
    simp only [List.set_cons_succ, List.flatten_cons, List.mem_append] at h ⊢
    rcases h with h | h
    · exact .inr (.inl h)
    · rcases mem_set_flat h with z | z
      · exact .inl z
      · exact .inr (.inr z)
theorem set_sub : ∀ (fs : List (List Addr)) (i : Nat), (fs.set i []).flatten.Sublist fs.flatten
  | [], _ => by simp
  | l :: fs, 0 => by
    simp only [List.set_cons_zero, List.flatten_cons, List.nil_append]
    exact List.sublist_append_right _ _
  | l :: fs, i + 1 => by
    simp only [List.set_cons_succ, List.flatten_cons]
    exact List.Sublist.append (List.Sublist.refl _) (set_sub fs i)
theorem nodup_set {fp : List Addr} (nf : fp.Nodup) : ∀ (fs : List (List Addr)) (i : Nat), fs.flatten.Nodup → (∀ a ∈ fp, a ∉ (fs.set i []).flatten) → (fs.set i fp).flatten.Nodup
  | [], _, _, _ => by simp
  | l :: fs, 0, n, d => by
    simp only [List.set_cons_zero, List.flatten_cons, List.nil_append] at n d ⊢
    have n2 := List.nodup_append.mp n
    exact List.nodup_append.mpr ⟨nf, n2.2.1, fun a ha b hb e => d a ha (e ▸ hb)⟩
  | l :: fs, i + 1, n, d => by
    simp only [List.set_cons_succ, List.flatten_cons] at n d ⊢
    have n2 := List.nodup_append.mp n
    refine List.nodup_append.mpr ⟨n2.1, nodup_set nf fs i n2.2.1 fun a ha hb => d a ha (List.mem_append_right _ hb), fun a ha b hb e => ?_⟩
    subst e
    rcases mem_set_flat hb with z | z
    · exact d a z (List.mem_append_left _ ha)
    · exact n2.2.2 a ha a ((set_sub fs i).subset z) rfl
theorem set_none_mem {a : Addr} : ∀ {fs : List (List Addr)} {i : Nat}, fs.flatten.Nodup → a ∈ fs.getD i [] → a ∉ (fs.set i []).flatten
  | [], _, _, h => by simp at h
  | l :: fs, 0, n, h => by
    simp only [List.set_cons_zero, List.flatten_cons, List.nil_append] at n ⊢
    exact fun z => (List.nodup_append.mp n).2.2 a (by simpa using h) a z rfl
  | l :: fs, i + 1, n, h => by
    simp only [List.set_cons_succ, List.flatten_cons, List.mem_append] at n ⊢
    have n2 := List.nodup_append.mp n
    have h : a ∈ fs.getD i [] := by simpa using h
    rintro (z | z)
    · exact n2.2.2 a z a (mem_flat.mpr ⟨i, h⟩) rfl
    · exact set_none_mem n2.2.1 h z
theorem getD_set_self {α : Type} {l : List α} {i : Nat} {x d : α} (h : i < l.length) : (l.set i x).getD i d = x := by
  rw [List.getD_eq_getElem?_getD, List.getElem?_set_self h]; rfl
theorem getD_set_ne {α : Type} {l : List α} {i j : Nat} {x d : α} (h : i ≠ j) : (l.set i x).getD j d = l.getD j d := by
  rw [List.getD_eq_getElem?_getD, List.getElem?_set_ne h, ← List.getD_eq_getElem?_getD]
section
variable {γ : Type} {M : Wd} {X : Cx} {H H' H0 : Hp} {σ σ' : St} {ρ ρ' : Env} {fs fs' fs0 : List (List Addr)} {pins : List (Addr × Obj)} {s s' : Shared}
/-- one slot is set -/
theorem SR.put {i : Nat} {sl : Slot} {fp : List Addr} (r : SR M X H σ ρ fs) (hl : σ'.length = σ.length) (ho : ∀ j, j ≠ i → σ'.getD j none = σ.getD j none) (q : RS M X H (σ'.getD i none) sl fp) (nf : fp.Nodup) (nd : ∀ a ∈ fp, a ∉ (fs.set i []).flatten) :
    SR M X H σ' (ρ.set i sl) (fs.set i fp) := by
  refine ⟨by rw [hl, List.length_set]; exact r.1, by rw [List.length_set, List.length_set]; exact r.2.1, fun j sj e => ?_, nodup_set nf fs i r.2.2.2 nd⟩
  by_cases z : i = j
  · subst z
    have hi : i < ρ.length := by
      by_cases h : i < ρ.length
      · exact h
      · rw [List.getElem?_eq_none (by simpa using h)] at e; cases e
    rw [List.getElem?_set_self hi] at e
    cases e
    rw [getD_set_self (by rw [r.2.1]; exact hi)]
    exact q
  · rw [List.getElem?_set_ne z] at e
    rw [getD_set_ne z, ho j (Ne.symm z)]
    exact r.2.2.1 j sj e
theorem RC.nodup {v : V} {c : Cn} {fp : List Addr} (r : RC X H v c fp) : fp.Nodup := by
  cases c with
  | p d => rw [r.1]; exact List.nodup_nil
  | l xs => obtain ⟨a, vs, _, e, _⟩ := r; rw [e]; simp
  | d kvs => obtain ⟨a, es, ep, _, e, _⟩ := r; rw [e]; simp

/-- a thing's object is locked -/
theorem lock_one {a : Addr} {o : HO} {s : Shared} (I : Inv X pins σ H s) (t : Tabs M.T H) (h : H a = some o) (mu : Mut (some o)) (nt : ∀ ps, o ≠ .tbl ps) (nc : ∀ q, o ≠ CodeO a q) :
    ∃ od, Inv X pins σ (upd H a (.frz od o)) s ∧ Tabs M.T (upd H a (.frz od o)) ∧ Fr [a] H (upd H a (.frz od o)) := by
  obtain ⟨od, I'⟩ := I.lock h mu
  exact ⟨od, I', tabs_upd t h nt nc, Fr.write h mu (by simp)⟩
/-- content is kept for good -/
theorem lock_rc {v : V} {c : Cn} {fp : List Addr} {s : Shared} (I : Inv X pins σ H s) (t : Tabs M.T H) (r : RC X H v c fp) : ∃ H', Inv X pins σ H' s ∧ Tabs M.T H' ∧ Fr fp H H' ∧ RpX X H' v c.dat := by
  cases c with
  | p d => exact ⟨H, I, t, Fr.refl, r.2⟩
  | l xs =>
    obtain ⟨a, vs, rfl, e, h, q⟩ := r
    obtain ⟨od, I', t', f⟩ := lock_one I t h trivial (fun _ z => nomatch z) (fun _ z => nomatch z)
    rw [e]
    exact ⟨_, I', t', f, .lst ⟨od, upd_same⟩ (q.kd f.kd)⟩
  | d kvs =>
    obtain ⟨a, es, ep, rfl, e, sm, h, q⟩ := r
    obtain ⟨od, I', t', f⟩ := lock_one I t h trivial (fun _ z => nomatch z) (dc_ne_code I h)
    rw [e]
    exact ⟨_, I', t', f, .dct sm upd_same (q.kd f.kd)⟩
/-- handed away -/
theorem escape {v : V} {w : W} {d : D} {fp : List Addr} (n : Nw M X pins σ ρ H0 fs0 H fs s) (r : RW M X H σ v w fp) (nd : (fs.flatten ++ fp).Nodup) (fr : ∀ a ∈ fp, a ∈ fs0.flatten ∨ H0 a = none) (h : esc ρ w = some (d, ρ')) :
    ∃ H' fs', Nw M X pins σ ρ' H0 fs0 H' fs' s ∧ RpX X H' v d ∧ Fr (fs.flatten ++ fp) H H' ∧ fs'.flatten.Sublist fs.flatten := by
  cases w with
  | d x => cases h; exact ⟨H, fs, n, r.2, Fr.refl, List.Sublist.refl _⟩
  | m sl =>
    cases sl with
    | x => cases h
    | o k cs => cases h
    | c c =>
      cases h
      obtain ⟨⟨v', e0, q⟩, _⟩ := r
      cases e0
      obtain ⟨H', I, t, f, q'⟩ := lock_rc n.inv n.tb q
      exact ⟨H', fs, ⟨I, n.sr.keep f (nd_apart nd), n.fr.trans f fun x hx => fr x hx, n.gw, t⟩, q', f.mono fun x hx => List.mem_append_right _ hx, List.Sublist.refl _⟩
  | s i =>
    have h : (match ρ[i]? with
      | some (.c (.p d)) => some (d, ρ)
      | some (.c c) => some (c.dat, ρ.set i (.p c.dat))
      | _ => none) = some (d, ρ') := h
    have e1 : σ[i]? = some (some v) := r.2
    split at h
    · rename_i d' e
      cases h
      obtain ⟨v', e2, q⟩ := n.sr.slot e
      rw [getD_some e1] at e2; cases e2
      exact ⟨H, fs, n, q.2, Fr.refl, List.Sublist.refl _⟩
    · rename_i c _ e
      cases h
      obtain ⟨v', e2, q⟩ := n.sr.slot e
      rw [getD_some e1] at e2; cases e2
      obtain ⟨H', I, t, f, q'⟩ := lock_rc n.inv n.tb q
      have hmem : ∀ a ∈ fs.getD i [], a ∈ fs.flatten := fun a ha => mem_flat.mpr ⟨i, ha⟩
      refine ⟨H', fs.set i [], ⟨I, ?_, n.fr.trans f fun x hx => n.gw x (hmem x hx), fun a ha => n.gw a ((set_sub fs i).subset ha), t⟩, q', f.mono fun x hx => List.mem_append_left _ (hmem x hx), set_sub fs i⟩
      -- the others stay; the slot now holds data
      refine ⟨by rw [List.length_set]; exact n.sr.1, by rw [List.length_set, List.length_set]; exact n.sr.2.1, fun j sj ej => ?_, (set_sub fs i).nodup n.sr.2.2.2⟩
      by_cases z : i = j
      · subst z
        have hi : i < ρ.length := by
          by_cases hh : i < ρ.length
          · exact hh
          · rw [List.getElem?_eq_none (by simpa using hh)] at e; cases e
        rw [List.getElem?_set_self hi] at ej
        cases ej
        rw [getD_set_self (by rw [n.sr.2.1]; exact hi)]
        exact ⟨v, getD_some e1, rfl, q'⟩
      · rw [List.getElem?_set_ne z] at ej
        rw [getD_set_ne z]
        refine (n.sr.2.2.1 j sj ej).kp f fun a ha hb => ?_
        have : a ∉ (fs.set i []).flatten := set_none_mem n.sr.2.2.2 hb
        refine this (mem_flat.mpr ⟨j, ?_⟩)
        rw [getD_set_ne z]; exact ha
    · cases h

/-! ### lists of values in hand -/
inductive RWs (M : Wd) (X : Cx) (H : Hp) (σ : St) : List V → List W → List (List Addr) → Prop
  | nil : RWs M X H σ [] [] []
  | cons {v w fp vs ws fps} : RW M X H σ v w fp → RWs M X H σ vs ws fps → RWs M X H σ (v :: vs) (w :: ws) (fp :: fps)
theorem RWs.thr : ∀ {vs ws fps}, RWs M X H σ vs ws fps → Thr H fps.flatten
  | _, _, _, .nil => fun b hb => by simp at hb
  | _, _, _, .cons r t => fun b hb => by
    rw [List.flatten_cons] at hb
    rcases List.mem_append.mp hb with z | z
    · exact r.thr b z
    · exact RWs.thr t b z
theorem RWs.kp {Wr : List Addr} (f : Fr Wr H H') : ∀ {vs ws fps}, RWs M X H σ vs ws fps → (∀ a ∈ fps.flatten, a ∉ Wr) → RWs M X H' σ vs ws fps
  | _, _, _, .nil, _ => .nil
  | _, _, _, .cons r t, d => .cons (r.kp f fun a ha => d a (by rw [List.flatten_cons]; exact List.mem_append_left _ ha)) (RWs.kp f t fun a ha => d a (by rw [List.flatten_cons]; exact List.mem_append_right _ ha))
inductive RVs (X : Cx) (H : Hp) (σ : St) : List V → List W → Prop
  | nil : RVs X H σ [] []
  | cons {v w vs ws} : RV X H σ v w → RVs X H σ vs ws → RVs X H σ (v :: vs) (w :: ws)
theorem RVs.kd (k : Kd H H') : ∀ {vs ws}, RVs X H σ vs ws → RVs X H' σ vs ws
  | _, _, .nil => .nil
  | _, _, .cons r t => .cons (r.kd k) (RVs.kd k t)
theorem nd_assoc {l m n : List Addr} (h : (l ++ (m ++ n)).Nodup) : (l ++ m).Nodup ∧ (l ++ n).Nodup ∧ (m ++ n).Nodup ∧ ∀ a ∈ n, a ∉ l ++ m := by
  obtain ⟨h1, h2, h3⟩ := List.nodup_append.mp h
  obtain ⟨h4, h5, h6⟩ := List.nodup_append.mp h2
  refine ⟨List.nodup_append.mpr ⟨h1, h4, fun a ha b hb => h3 a ha b (List.mem_append_left _ hb)⟩, List.nodup_append.mpr ⟨h1, h5, fun a ha b hb => h3 a ha b (List.mem_append_right _ hb)⟩, h2, fun a ha hb => ?_⟩
  rcases List.mem_append.mp hb with z | z
  · exact h3 a z a (List.mem_append_right _ ha) rfl
  · exact h6 a z a ha rfl
theorem nd_sub {l l' m : List Addr} (h : (l ++ m).Nodup) (q : l'.Sublist l) : (l' ++ m).Nodup := (List.Sublist.append q (List.Sublist.refl m)).nodup h
/-- all are handed away -/
theorem escapes : ∀ {vs : List V} {ws : List W} {fps : List (List Addr)} {ds : List D} {H : Hp} {fs : List (List Addr)} {ρ : Env}, Nw M X pins σ ρ H0 fs0 H fs s → RWs M X H σ vs ws fps → (fs.flatten ++ fps.flatten).Nodup → (∀ a ∈ fps.flatten, a ∈ fs0.flatten ∨ H0 a = none) → escs ρ ws = some (ds, ρ') →
    ∃ H' fs', Nw M X pins σ ρ' H0 fs0 H' fs' s ∧ RpsX X H' vs ds ∧ fs'.flatten.Sublist fs.flatten ∧ Kd H H'
  | _, _, _, _, H, fs, _, n, .nil, _, _, h => by cases h; exact ⟨H, fs, n, .nil, List.Sublist.refl _, Kd.refl _⟩
  | v :: vs, w :: ws, fp :: fps, ds, H, fs, ρ, n, .cons r t, nd, fr, h => by
    rw [List.flatten_cons] at nd fr
    obtain ⟨n1, n2, n3, n4⟩ := nd_assoc nd
    simp only [escs] at h
    split at h
    · rename_i d ρ1 e1
      split at h
      · rename_i ds' ρ2 e2
        cases h
        obtain ⟨H1, fs1, m1, q1, f1, s1⟩ := escape n r n1 (fun a ha => fr a (List.mem_append_left _ ha)) e1
        obtain ⟨H2, fs2, m2, q2, s2, k2⟩ := escapes m1 (t.kp f1 fun a ha => n4 a ha) (nd_sub n2 s1) (fun a ha => fr a (List.mem_append_right _ ha)) e2
        exact ⟨H2, fs2, m2, .cons (q1.kd k2) q2, s2.trans s1, f1.kd.trans k2⟩
      · cases h
    · cases h
/-- all new things are locked -/
theorem freezes : ∀ {vs : List V} {ws : List W} {fps : List (List Addr)} {H : Hp}, Nw M X pins σ ρ H0 fs0 H fs s → RWs M X H σ vs ws fps → (fs.flatten ++ fps.flatten).Nodup → (∀ a ∈ fps.flatten, a ∈ fs0.flatten ∨ H0 a = none) →
    ∃ H', Nw M X pins σ ρ H0 fs0 H' fs s ∧ Kd H H' ∧ RVs X H' σ vs (ws.map W.fz)
  | _, _, _, H, n, .nil, _, _ => ⟨H, n, Kd.refl _, .nil⟩
  | v :: vs, w :: ws, fp :: fps, H, n, .cons r t, nd, fr => by
    rw [List.flatten_cons] at nd fr
    obtain ⟨n1, n2, n3, n4⟩ := nd_assoc nd
    obtain ⟨H1, m1, f1, q1⟩ := freeze n r n1 (fun a ha => fr a (List.mem_append_left _ ha))
    obtain ⟨H2, m2, k2, q2⟩ := freezes m1 (t.kp f1 fun a ha hb => n4 a ha (List.mem_append_right _ hb)) n2 (fun a ha => fr a (List.mem_append_right _ ha))
    exact ⟨H2, m2, f1.kd.trans k2, .cons (q1.kd k2) q2⟩
/-- .. and what is in hand stays in hand -/
theorem freezesW : ∀ {vs : List V} {ws : List W} {fps : List (List Addr)} {H : Hp}, Nw M X pins σ ρ H0 fs0 H fs s → RWs M X H σ vs ws fps → (fs.flatten ++ fps.flatten).Nodup → (∀ a ∈ fps.flatten, a ∈ fs0.flatten ∨ H0 a = none) →
    ∃ H' fps', Nw M X pins σ ρ H0 fs0 H' fs s ∧ Fr fps.flatten H H' ∧ RWs M X H' σ vs (ws.map W.fz) fps' ∧ (fs.flatten ++ fps'.flatten).Nodup ∧ ∀ a ∈ fps'.flatten, a ∈ fps.flatten
  | _, _, _, H, n, .nil, nd, _ => ⟨H, [], n, Fr.refl, .nil, nd, fun _ z => z⟩
  | v :: vs, w :: ws, fp :: fps, H, n, .cons r t, nd, fr => by
    rw [List.flatten_cons] at nd fr
    obtain ⟨n1, n2, n3, n4⟩ := nd_assoc nd
    have tl : ∀ {H1 : Hp} {w' : W}, Nw M X pins σ ρ H0 fs0 H1 fs s → Fr fp H H1 → RW M X H1 σ v w' [] → ∃ H' fps', Nw M X pins σ ρ H0 fs0 H' fs s ∧ Fr (fp ++ fps.flatten) H H' ∧ RWs M X H' σ (v :: vs) (w' :: ws.map W.fz) fps' ∧ (fs.flatten ++ fps'.flatten).Nodup ∧ ∀ a ∈ fps'.flatten, a ∈ fp ++ fps.flatten := fun {H1 w'} m1 f1 q1 => by
      obtain ⟨H2, fps2, m2, f2, t2, nd2, sub2⟩ := freezesW m1 (t.kp f1 fun a ha hb => n4 a ha (List.mem_append_right _ hb)) n2 (fun a ha => fr a (List.mem_append_right _ ha))
      refine ⟨H2, [] :: fps2, m2, (f1.mono fun a ha => List.mem_append_left _ ha).trans f2 fun a ha => .inl (List.mem_append_right _ ha), .cons (q1.kp f2 fun a z => nomatch z) t2, by rw [List.flatten_cons]; exact nd2, fun a ha => ?_⟩
      rw [List.flatten_cons] at ha
      exact List.mem_append_right _ (sub2 a ha)
    rw [List.flatten_cons]
    cases w with
    | d x =>
      obtain ⟨rfl, q⟩ := r
      exact tl (w' := .d x) n Fr.refl ⟨rfl, q⟩
    | s i =>
      obtain ⟨rfl, q⟩ := r
      exact tl (w' := .s i) n Fr.refl ⟨rfl, q⟩
    | m sl =>
      cases sl with
      | x => exact absurd rfl r.2
      | c c =>
        obtain ⟨H1, m1, f1, q1⟩ := freeze n r n1 (fun a ha => fr a (List.mem_append_left _ ha))
        exact tl (w' := .d c.dat) m1 f1 ⟨rfl, q1⟩
      | o k cs =>
        obtain ⟨H2, fps2, m2, f2, t2, nd2, sub2⟩ := freezesW n t n2 (fun a ha => fr a (List.mem_append_right _ ha))
        have ap : ∀ a ∈ fp, a ∉ fps.flatten := fun a ha hb => n4 a hb (List.mem_append_right _ ha)
        refine ⟨H2, fp :: fps2, m2, f2.mono fun a ha => List.mem_append_right _ ha, .cons (r.kp f2 ap) t2, ?_, fun a ha => ?_⟩
        · rw [List.flatten_cons]
          have z1 := List.nodup_append.mp nd2
          have z2 := List.nodup_append.mp n1
          refine List.nodup_append.mpr ⟨z1.1, List.nodup_append.mpr ⟨z2.2.1, z1.2.1, fun a ha b hb e => ap a ha (e ▸ sub2 b hb)⟩, fun a ha b hb e => ?_⟩
          rcases List.mem_append.mp hb with y | y
          · exact z2.2.2 a ha b y e
          · exact z1.2.2 a ha b y e
        · rw [List.flatten_cons] at ha
          exact (List.mem_append.mp ha).elim (fun y => List.mem_append_left _ y) fun y => List.mem_append_right _ (sub2 a y)
inductive Rrs (X : Cx) (H : Hp) : List V → List D → Prop
  | nil : Rrs X H [] []
  | cons {v d vs ds} : Rr X H v d → Rrs X H vs ds → Rrs X H (v :: vs) (d :: ds)
theorem reads (r : SR M X H σ ρ fs) : ∀ {vs : List V} {ws : List W} {ds : List D}, RVs X H σ vs (ws.map W.fz) → looks ρ (ws.map W.fz) = some ds → Rrs X H vs ds
  | [], [], ds, .nil, h => by cases h; exact .nil
  | v :: vs, w :: ws, ds, .cons a t, h => by
    simp only [List.map_cons, looks] at h
    split at h
    · rename_i d e
      split at h
      · rename_i ds' e'
        cases h
        exact .cons (read r a (by rw [look_fz] at e; exact e)) (reads r t e')
      · cases h
    · cases h

/-- behind an argument list -/
def POs (M : Wd) (X : Cx) (pins : List (Addr × Obj)) (σ : St) (H0 : Hp) (fs0 : List (List Addr)) (r : Rs (List W)) (us : List Value) (s' : Shared) : Prop :=
  ∃ ws ρ' H' fs' vs fps, r = .ok ws ρ' ∧ Nw M X pins σ ρ' H0 fs0 H' fs' s' ∧ Vals vs us ∧ RWs M X H' σ vs ws fps ∧ (fs'.flatten ++ fps.flatten).Nodup ∧ ∀ a ∈ fps.flatten, a ∈ fs0.flatten ∨ H0 a = none
def JA (M : Wd) (X : Cx) (m : Env → R (List W)) (es : List Expr) : Prop := ∀ (pos : Pos) (pins : List (Addr × Obj)) (s : Shared) (σ : St) (H : Hp) (ρ : Env) (fs : List (List Addr)) (r : Rs (List W)), m ρ = some r → Inv X pins σ H s → SR M X H σ ρ fs → Tabs M.T H →
  wpAny (model X.prog X.w) X.A (spliced (backTo pos (starEach es X.env))) (POs M X pins σ H fs r) (PX M X σ H fs r) s
theorem ja_nil {C : Ctx} : JA M X (evEs C .nil) [] := fun pos pins s σ H ρ fs r h I sr tb => by
  cases h
  exact Calls.spliced_nil ⟨[], ρ, H, fs, [], [], rfl, Nw.start I sr tb, .nil, .nil, by simpa using sr.2.2.2, fun a ha => by simp at ha⟩
theorem ja_cons {C : Ctx} {a : E} {l : Es} {e : Expr} {es : List Expr} (ha : JE M X (evE C a) e) (hl : JA M X (evEs C l) es) (hs : starEach (e :: es) X.env = (false, eval e X.env) :: starEach es X.env) : JA M X (evEs C (.cons a l)) (e :: es) := by
  intro pos pins s σ H ρ fs r h I sr tb
  rw [hs]
  show wpAny _ _ (spliced ((false, eval e X.env) :: backTo pos (starEach es X.env))) _ _ s
  have h : R.bind (evE C a ρ) (fun w ρ1 => R.bind (evEs C l ρ1) fun ws ρ2 => some (.ok (w :: ws) ρ2)) = some r := by rw [← h]; simp only [evEs]
  refine Calls.spliced_cons (bindE ha h (Nw.start I sr tb) fun w ρ1 H1 fs1 v fp u s1 h1 n1 f1 g1 rv1 rw1 nd1 fr1 => ?_)
  rcases bind_cases h1 with ⟨ws, ρ2, e1, e2⟩ | ⟨c, ρ2, e1, e2⟩
  · cases e2
    refine wpAny_mono (hl pos pins s1 σ H1 ρ1 fs1 _ e1 n1.inv n1.sr n1.tb) (fun us s2 p => ?_) fun u s2 p => ?_
    · obtain ⟨ws', ρ', H', fs', vs, fps, e, n2, rvs, rws, nd2, fr2⟩ := p
      cases e
      have kept := rw1.kp n2.fr (nd_apart' nd1)
      refine ⟨_, _, H', fs', v :: vs, fp :: fps, rfl, n1.trans n2, .cons rv1 rvs, .cons kept rws, ?_, ?_⟩
      · rw [List.flatten_cons]
        have a1 := List.nodup_append.mp nd2
        have a2 := List.nodup_append.mp nd1
        have old : ∀ a ∈ fp, H1 a ≠ none := fun a ha => rw1.thr.not_new ha
        have apart : ∀ a ∈ fp, ∀ b ∈ fps.flatten, a ≠ b := fun a ha b hb e => by
          subst e
          rcases fr2 a hb with y | y
          · exact a2.2.2 a y a ha rfl
          · exact old a ha y
        refine List.nodup_append.mpr ⟨a1.1, List.nodup_append.mpr ⟨a2.2.1, a1.2.1, apart⟩, fun a ha b hb e => ?_⟩
        subst e
        rcases List.mem_append.mp hb with z | z
        · rcases n2.gw a ha with y | y
          · exact a2.2.2 a y a z rfl
          · exact old a z y
        · exact a1.2.2 a ha a z rfl
      · rw [List.flatten_cons]
        intro a ha
        rcases List.mem_append.mp ha with z | z
        · exact fr1 a z
        · exact (fr2 a z).elim (g1 a) fun y => .inr (f1.none_back y)
    · obtain ⟨_, _, e, _⟩ := p
      cases e
  · refine wpAny_mono (hl pos pins s1 σ H1 ρ1 fs1 _ e1 n1.inv n1.sr n1.tb) (fun us s2 p => ?_) fun u s2 p => ?_
    · obtain ⟨_, _, _, _, _, _, e, _⟩ := p
      cases e
    · exact PX.trans n1 (p.as fun c' ρ'' z => by cases z; exact e2)
/-- an argument list, then what follows -/
theorem bindA {β : Type} {m : Env → R (List W)} {es : List Expr} {f : List W → Env → R β} {r : Rs β} {K : List Value → Shared → Prop} {H1 : Hp} {fs1 : List (List Addr)} {pos : Pos} (h : JA M X m es) (hr : R.bind (m ρ) f = some r) (n : Nw M X pins σ ρ H0 fs0 H1 fs1 s)
    (k : ∀ ws ρ2 H2 fs2 vs fps us s2, f ws ρ2 = some r → Nw M X pins σ ρ2 H0 fs0 H2 fs2 s2 → Fr fs1.flatten H1 H2 → (∀ a ∈ fs2.flatten, a ∈ fs1.flatten ∨ H1 a = none) → Vals vs us → RWs M X H2 σ vs ws fps → (fs2.flatten ++ fps.flatten).Nodup → (∀ a ∈ fps.flatten, a ∈ fs1.flatten ∨ H1 a = none) → K us s2) :
    wpAny (model X.prog X.w) X.A (spliced (backTo pos (starEach es X.env))) K (PX M X σ H0 fs0 r) s := by
  rcases bind_cases hr with ⟨a, ρ', e1, e2⟩ | ⟨c, ρ', e1, e2⟩
  · refine wpAny_mono (h pos pins s σ H1 ρ fs1 _ e1 n.inv n.sr n.tb) (fun u s2 p => ?_) fun u s2 p => ?_
    · obtain ⟨w, ρ2, H2, fs2, v, fp, e3, n2, rv, rw', nd, fr⟩ := p
      cases e3
      exact k _ _ _ _ v fp u s2 e2 (n.trans n2) n2.fr n2.gw rv rw' nd fr
    · obtain ⟨c, ρ', e3, _⟩ := p
      cases e3
  · refine wpAny_mono (h pos pins s σ H1 ρ fs1 _ e1 n.inv n.sr n.tb) (fun u s2 p => ?_) fun u s2 p => ?_
    · obtain ⟨w, ρ2, H2, fs2, v, fp, e3, _⟩ := p
      cases e3
    · exact PX.trans n (p.as fun c' ρ'' z => by cases z; exact e2)
end
end Mi
set_option Elab.async false
set_option linter.all false
set_option maxRecDepth 100000
set_option maxHeartbeats 2000000
/-! MiH: expressions. -/
namespace Mi
open PySem PySem.Spec PyProof.Rows L2 LamX
section
variable {γ : Type} {M : Wd} {X : Cx} {H H' H0 : Hp} {σ σ' : St} {ρ ρ' : Env} {fs fs' fs0 : List (List Addr)} {pins : List (Addr × Obj)} {s s' : Shared} {C : Ctx} {pos : Pos}
/-! ### constants and names -/
theorem je_val {m : Env → R W} {e : Expr} {v : V} {d : D} (hm : ∀ ρ, m ρ = some (.ok (.d d) ρ)) (hp : ∀ E, PE (X.wish E) e (tC v)) (hr : ∀ H, RpX X H v d) : JE M X m e := by
  intro pins s σ H ρ fs r h I sr tb
  rw [hm] at h; cases h
  refine wpAny_mono ((hp (PX M X σ H fs (.ok (W.d d) ρ))).run pins s σ H (fun v' H' => v' = v ∧ H' = H) (I.wish _) ⟨rfl, rfl⟩) (fun u s2 p => ?_) fun _ _ z => z
  obtain ⟨v', H', I', rv, rfl, rfl⟩ := p
  exact po_d (Nw.start I'.unwish sr tb) rv (hr _)
theorem je_non {j} : JE M X (evE C .non) (.Constant .none j pos) := je_val (fun ρ => by rw [evE]) (fun _ => pe_non) fun _ => .non
theorem je_bl {b j} : JE M X (evE C (.bl b)) (.Constant (.bool b) j pos) := je_val (fun ρ => by rw [evE]) (fun _ => pe_bl) fun _ => .bl b
theorem je_int {i j} : JE M X (evE C (.int i)) (.Constant (.int i) j pos) := je_val (fun ρ => by rw [evE]) (fun _ => pe_int) fun _ => .int i
theorem je_str {x j} : JE M X (evE C (.str x)) (.Constant (.str x) j pos) := je_val (fun ρ => by rw [evE]) (fun _ => pe_str) fun _ => .str x
theorem je_gi {i : Int} {x : Str} {u : Value} (hg : Gl X x) (hm : X.mg x = some u) (hr : RelV (.int i) u) (hd : (x == ("__debug__" : Str)) = false) : JE M X (evE C (.gi i)) (.Name x pos) :=
  je_val (fun ρ => by rw [evE]) (fun E => pe_glob (X := X.wish E) hg hm hr hd) fun _ => .int i
theorem je_gs {i : Str} {x : Str} {u : Value} (hg : Gl X x) (hm : X.mg x = some u) (hr : RelV (.str i) u) (hd : (x == ("__debug__" : Str)) = false) : JE M X (evE C (.gs i)) (.Name x pos) :=
  je_val (fun ρ => by rw [evE]) (fun E => pe_glob (X := X.wish E) hg hm hr hd) fun _ => .str i
theorem lt_of_get {α : Type} {l : List α} {i : Nat} {a : α} (h : l[i]? = some a) : i < l.length := by
  by_cases hi : i < l.length
  · exact hi
  · rw [List.getElem?_eq_none (by omega)] at h; cases h
/-- what stands in a slot that isn't empty -/
theorem SR.val (r : SR M X H σ ρ fs) {i : Nat} {sl : Slot} (e : ρ[i]? = some sl) (hx : sl ≠ .x) : ∃ v, σ[i]? = some (some v) := by
  have q := r.slot e
  have hi : i < σ.length := by rw [r.1]; exact lt_of_get e
  have : ∃ v, σ.getD i none = some v := by
    cases sl with
    | x => exact absurd rfl hx
    | c c => obtain ⟨v, e, _⟩ := q; exact ⟨v, e⟩
    | o k cs =>
      rcases q with ⟨a, _, _, _, e, _⟩ | ⟨_, _, v, e, _⟩
      · exact ⟨_, e⟩
      · exact ⟨_, e⟩
  obtain ⟨v, e⟩ := this
  refine ⟨v, ?_⟩
  rw [List.getD_eq_getElem?_getD, List.getElem?_eq_getElem hi] at e
  rw [List.getElem?_eq_getElem hi]
  simpa using e
theorem je_var {i : Nat} {x : Str} (hN : X.N[i]? = some x) (hv : Vis X.env.scope x) (hd : (x == ("__debug__" : Str)) = false) (hcd : (x == ("__classdict__" : Str)) = false) : JE M X (evE C (.var i)) (.Name x pos) := by
  intro pins s σ H ρ fs r h I sr tb
  rw [evE] at h
  have key : ∀ sl, ρ[i]? = some sl → sl ≠ .x → r = .ok (.s i) ρ → wpAny (model X.prog X.w) X.A (eval (.Name x pos) X.env) (PO M X pins σ H fs r) (PX M X σ H fs r) s := fun sl e hx er => by
    obtain ⟨v, ev⟩ := sr.val e hx
    subst er
    refine wpAny_mono ((pe_var (X := X.wish (PX M X σ H fs (.ok (W.s i) ρ))) hN hv hd hcd).run pins s σ H (fun v' H' => v' = v ∧ H' = H) (I.wish _) ⟨v, ev, rfl, rfl⟩) (fun u s2 p => ?_) fun _ _ z => z
    obtain ⟨v', H', I', rv, rfl, rfl⟩ := p
    exact ⟨_, _, _, fs, _, [], rfl, Nw.start I'.unwish sr tb, rv, ⟨rfl, ev⟩, by rw [List.append_nil]; exact sr.2.2.2, fun _ z => nomatch z⟩
  split at h
  · cases h
  · rename_i sl e hx
    cases h
    rename_i hx
    exact key _ hx (fun z => e z) rfl
  · cases h

/-! ### operators -/
theorem looks_two' {ρ : Env} {a b : W} {d e : D} (h : looks ρ [a.fz, b.fz] = some [d, e]) : look ρ a = some d ∧ look ρ b = some e := by
  have := looks_two h
  rw [look_fz, look_fz] at this
  exact this
theorem map_some {α β : Type} {o : Option α} {f : α → β} {b : β} (h : o.map f = some b) : ∃ a, o = some a ∧ f a = b := by
  cases o with
  | none => cases h
  | some a => exact ⟨a, rfl, Option.some.inj h⟩
theorem je_bin {o : Op2} {a b : E} {ea eb : Expr} (ha : JE M X (evE C a) ea) (hb : JE M X (evE C b) eb) : JE M X (evE C (.bin o a b)) (.BinOp ea (opN o) eb pos) := by
  intro pins s σ H ρ fs r h I sr tb
  rw [evE] at h
  refine wpAny_BinOp (bindO ha h (Nw.start I sr tb) fun w ρ1 H1 fs1 v u s1 h1 n1 k1 rv1 q1 => ?_)
  refine bindO hb h1 n1 fun w2 ρ2 H2 fs2 v2 u2 s2 h2 n2 k2 rv2 q2 => ?_
  split at h2
  · rename_i d e hl
    obtain ⟨w3, hw, er⟩ := map_some h2
    subst er
    obtain ⟨l1, l2⟩ := looks_two' hl
    exact bin_ok n2 rv1 rv2 (read n2.sr (q1.kd k2) l1) (read n2.sr q2 l2) hw
  · cases h2
theorem je_neg {a : E} {ea : Expr} (ha : JE M X (evE C a) ea) : JE M X (evE C (.neg a)) (.UnaryOp .USub ea pos) := by
  intro pins s σ H ρ fs r h I sr tb
  rw [evE] at h
  refine UnaryOp_ (bindO ha h (Nw.start I sr tb) fun w ρ1 H1 fs1 v u s1 h1 n1 k1 rv1 q1 => ?_)
  split at h1
  · rename_i i hl
    cases h1
    have e := (read n1.sr q1 hl).int
    refine wpAny_mono ((un_neg (X := X.wish (PX M X σ H fs (.ok (W.d (.int (-i))) ρ1)))) pins s1 σ H1 v u (fun v' H' => v' = .int (-i) ∧ H' = H1) (n1.inv.wish _) rv1 ⟨i, e, rfl, rfl⟩) (fun u2 s2 p => ?_) fun _ _ z => z
    obtain ⟨v', H', I', rv, rfl, rfl⟩ := p
    exact po_d (n1.same I'.unwish) rv (.int _)
  · cases h1

/-! ### tests -/
def POt (M : Wd) (X : Cx) (pins : List (Addr × Obj)) (σ : St) (H0 : Hp) (fs0 : List (List Addr)) (r : Rs Bool) (b : Bool) (s' : Shared) : Prop :=
  ∃ ρ' H' fs', r = .ok b ρ' ∧ Nw M X pins σ ρ' H0 fs0 H' fs' s'
def JT (M : Wd) (X : Cx) (m : Env → R Bool) (e : Expr) : Prop := ∀ (pins : List (Addr × Obj)) (s : Shared) (σ : St) (H : Hp) (ρ : Env) (fs : List (List Addr)) (r : Rs Bool), m ρ = some r → Inv X pins σ H s → SR M X H σ ρ fs → Tabs M.T H →
  wpAny (model X.prog X.w) X.A (isTrue e X.env (eval e X.env)) (POt M X pins σ H fs r) (PX M X σ H fs r) s
/-- .. whatever the whole is -/
def JW (M : Wd) (X : Cx) (m : Env → R Bool) (e : Expr) : Prop := ∀ (whole : Sem Value) (pins : List (Addr × Obj)) (s : Shared) (σ : St) (H : Hp) (ρ : Env) (fs : List (List Addr)) (r : Rs Bool), m ρ = some r → Inv X pins σ H s → SR M X H σ ρ fs → Tabs M.T H →
  wpAny (model X.prog X.w) X.A (isTrue e X.env whole) (POt M X pins σ H fs r) (PX M X σ H fs r) s
theorem JW.jt {m : Env → R Bool} {e : Expr} (h : JW M X m e) : JT M X m e := h _
theorem POt.trans {σ1 : St} {ρ1 : Env} {fs1 : List (List Addr)} {H1 : Hp} {s1 : Shared} {pins1 : List (Addr × Obj)} {r : Rs Bool} {b : Bool} (a : Nw M X pins1 σ1 ρ1 H0 fs0 H1 fs1 s1) (p : POt M X pins σ H1 fs1 r b s') : POt M X pins σ H0 fs0 r b s' := by
  obtain ⟨ρ', H', fs', e, n⟩ := p
  exact ⟨ρ', H', fs', e, a.trans n⟩
/-- one test, then what follows -/
theorem bindT {β : Type} {m : Env → R Bool} {e : Expr} {f : Bool → Env → R β} {r : Rs β} {K : Bool → Shared → Prop} {H1 : Hp} {fs1 : List (List Addr)} (h : JT M X m e) (hr : R.bind (m ρ) f = some r) (n : Nw M X pins σ ρ H0 fs0 H1 fs1 s)
    (k : ∀ b ρ2 H2 fs2 s2, f b ρ2 = some r → Nw M X pins σ ρ2 H0 fs0 H2 fs2 s2 → K b s2) :
    wpAny (model X.prog X.w) X.A (isTrue e X.env (eval e X.env)) K (PX M X σ H0 fs0 r) s := by
  rcases bind_cases hr with ⟨a, ρ', e1, e2⟩ | ⟨c, ρ', e1, e2⟩
  · refine wpAny_mono (h pins s σ H1 ρ fs1 _ e1 n.inv n.sr n.tb) (fun u s2 p => ?_) fun u s2 p => ?_
    · obtain ⟨ρ2, H2, fs2, e3, n2⟩ := p
      cases e3
      exact k _ _ _ _ s2 e2 (n.trans n2)
    · obtain ⟨c, ρ', e3, _⟩ := p
      cases e3
  · refine wpAny_mono (h pins s σ H1 ρ fs1 _ e1 n.inv n.sr n.tb) (fun u s2 p => ?_) fun u s2 p => ?_
    · obtain ⟨ρ2, H2, fs2, e3, n2⟩ := p
      cases e3
    · exact PX.trans n (p.as fun c' ρ'' z => by cases z; exact e2)
theorem truth_of {v : V} {u : Value} {b : Bool} (rv : RelV v u) (e : v = .bl b) : u = .bool b := by
  subst e; exact rv
theorem jt_plain {t : E} {e : Expr} (h : JE M X (evE C t) e) (he : isTrue e X.env (eval e X.env) = (do let v ← eval e X.env; standAt e.pos; holding [v] (truthy v))) : JT M X (evT C t) e := by
  intro pins s σ H ρ fs r hr I sr tb
  unfold evT at hr
  refine isTrue_plain (bindO h hr (Nw.start I sr tb) fun w ρ1 H1 fs1 v u s1 h1 n1 k1 rv1 q1 => ?_) he
  split at h1
  · rename_i b hl
    cases h1
    obtain rfl := truth_of rv1 (read n1.sr q1 hl).bl
    exact wpAny_truthy_bool ⟨_, _, _, rfl, n1⟩
  · cases h1
theorem evT_not (a : E) (ρ : Env) : evT C (.not_ a) ρ = R.bind (evT C a ρ) fun b ρ1 => some (.ok (!b) ρ1) := by
  unfold evT
  rw [evE]
  cases h : evE C a ρ with
  | none => rfl
  | some r =>
    cases r with
    | ex c ρ1 => rfl
    | ok w ρ1 =>
      rw [R.bind_ok, R.bind_ok]

      cases hl : look ρ1 w with
      | none => rfl
      | some d =>
        cases d with
        | bl c => cases c <;> simp [look]
        | _ => rfl
theorem jt_not {a : E} {e : Expr} (h : JT M X (evT C a) e) : JT M X (evT C (.not_ a)) (.UnaryOp .Not e pos) := by
  intro pins s σ H ρ fs r hr I sr tb
  rw [evT_not] at hr
  refine isTrue_not (bindT h hr (Nw.start I sr tb) fun b ρ1 H1 fs1 s1 h1 n1 => ?_)
  cases h1
  exact ⟨_, _, _, rfl, n1⟩
theorem evT_and (a b : E) (ρ : Env) : evT C (.and_ a b) ρ = R.bind (evT C a ρ) fun c ρ1 => if c = true then evT C b ρ1 else some (.ok false ρ1) := by
  unfold evT
  rw [evE]
  cases h : evE C a ρ with
  | none => rfl
  | some r =>
    cases r with
    | ex c ρ1 => rfl
    | ok w ρ1 =>
      rw [R.bind_ok, R.bind_ok]

      cases hl : look ρ1 w with
      | none => rfl
      | some d =>
        cases d with
        | bl c => cases c <;> simp [look]
        | _ => rfl
theorem evT_or (a b : E) (ρ : Env) : evT C (.or_ a b) ρ = R.bind (evT C a ρ) fun c ρ1 => if c = true then some (.ok true ρ1) else evT C b ρ1 := by
  unfold evT
  rw [evE]
  cases h : evE C a ρ with
  | none => rfl
  | some r =>
    cases r with
    | ex c ρ1 => rfl
    | ok w ρ1 =>
      rw [R.bind_ok, R.bind_ok]

      cases hl : look ρ1 w with
      | none => rfl
      | some d =>
        cases d with
        | bl c => cases c <;> simp [look]
        | _ => rfl
theorem jw_and1 {a : E} {e : Expr} (h : JT M X (evT C a) e) : JW M X (evT C a) (.BoolOp .And [e] pos) := by
  intro wh pins s σ H ρ fs r hr I sr tb
  refine isTrue_and (wpAny_mono (h pins s σ H ρ fs r hr I sr tb) (fun b s1 p => ?_) fun _ _ z => z)
  cases b with
  | true => exact isTrue_and_nil p
  | false => exact p
theorem jw_or1 {a : E} {e : Expr} (h : JT M X (evT C a) e) : JW M X (evT C a) (.BoolOp .Or [e] pos) := by
  intro wh pins s σ H ρ fs r hr I sr tb
  refine isTrue_or (wpAny_mono (h pins s σ H ρ fs r hr I sr tb) (fun b s1 p => ?_) fun _ _ z => z)
  cases b with
  | false => exact isTrue_or_nil p
  | true => exact p
theorem jw_and {a b : E} {e e2 : Expr} {es : List Expr} (h : JT M X (evT C a) e) (h2 : JW M X (evT C b) (.BoolOp .And (e2 :: es) pos)) : JW M X (evT C (.and_ a b)) (.BoolOp .And (e :: e2 :: es) pos) := by
  intro wh pins s σ H ρ fs r hr I sr tb
  rw [evT_and] at hr
  refine isTrue_and (bindT h hr (Nw.start I sr tb) fun c ρ1 H1 fs1 s1 h1 n1 => ?_)
  cases c with
  | true => exact wpAny_mono (h2 wh pins s1 σ H1 ρ1 fs1 r h1 n1.inv n1.sr n1.tb) (fun _ _ p => p.trans n1) fun _ _ p => p.trans n1
  | false => cases h1; exact ⟨_, _, _, rfl, n1⟩
theorem jw_or {a b : E} {e e2 : Expr} {es : List Expr} (h : JT M X (evT C a) e) (h2 : JW M X (evT C b) (.BoolOp .Or (e2 :: es) pos)) : JW M X (evT C (.or_ a b)) (.BoolOp .Or (e :: e2 :: es) pos) := by
  intro wh pins s σ H ρ fs r hr I sr tb
  rw [evT_or] at hr
  refine isTrue_or (bindT h hr (Nw.start I sr tb) fun c ρ1 H1 fs1 s1 h1 n1 => ?_)
  cases c with
  | false => exact wpAny_mono (h2 wh pins s1 σ H1 ρ1 fs1 r h1 n1.inv n1.sr n1.tb) (fun _ _ p => p.trans n1) fun _ _ p => p.trans n1
  | true => cases h1; exact ⟨_, _, _, rfl, n1⟩
/-! .. as values -/
theorem je_not {a : E} {ea : Expr} (ha : JE M X (evE C a) ea) : JE M X (evE C (.not_ a)) (.UnaryOp .Not ea pos) := by
  intro pins s σ H ρ fs r h I sr tb
  rw [evE] at h
  refine UnaryOp_ (bindO ha h (Nw.start I sr tb) fun w ρ1 H1 fs1 v u s1 h1 n1 k1 rv1 q1 => ?_)
  split at h1
  · rename_i i hl
    cases h1
    obtain rfl := truth_of rv1 (read n1.sr q1 hl).bl
    exact not_of (wpAny_truthy_bool (po_d (v := .bl (!i)) n1 rfl (.bl _)))
  · cases h1
theorem je_one {m : Env → R W} {op : BoolOp} {e : Expr} (h : JE M X m e) : JE M X m (.BoolOp op [e] pos) := fun pins s σ H ρ fs r hr I sr tb => BoolOp_one (h pins s σ H ρ fs r hr I sr tb)
theorem je_and {a b : E} {e e2 : Expr} {es : List Expr} (ha : JE M X (evE C a) e) (hb : JE M X (evE C b) (.BoolOp .And (e2 :: es) pos)) : JE M X (evE C (.and_ a b)) (.BoolOp .And (e :: e2 :: es) pos) := by
  intro pins s σ H ρ fs r h I sr tb
  rw [evE] at h
  refine BoolOp_and (bindO ha h (Nw.start I sr tb) fun w ρ1 H1 fs1 v u s1 h1 n1 k1 rv1 q1 => ?_)
  split at h1
  · rename_i hl
    obtain rfl := truth_of rv1 (read n1.sr q1 hl).bl
    exact wpAny_truthy_bool (wpAny_mono (hb pins s1 σ H1 ρ1 fs1 r h1 n1.inv n1.sr n1.tb) (fun _ _ p => p.trans n1) fun _ _ p => p.trans n1)
  · rename_i hl
    cases h1
    obtain rfl := truth_of rv1 (read n1.sr q1 hl).bl
    exact wpAny_truthy_bool (po_now n1)
  · cases h1
theorem je_or {a b : E} {e e2 : Expr} {es : List Expr} (ha : JE M X (evE C a) e) (hb : JE M X (evE C b) (.BoolOp .Or (e2 :: es) pos)) : JE M X (evE C (.or_ a b)) (.BoolOp .Or (e :: e2 :: es) pos) := by
  intro pins s σ H ρ fs r h I sr tb
  rw [evE] at h
  refine BoolOp_or (bindO ha h (Nw.start I sr tb) fun w ρ1 H1 fs1 v u s1 h1 n1 k1 rv1 q1 => ?_)
  split at h1
  · rename_i hl
    obtain rfl := truth_of rv1 (read n1.sr q1 hl).bl
    exact wpAny_truthy_bool (wpAny_mono (hb pins s1 σ H1 ρ1 fs1 r h1 n1.inv n1.sr n1.tb) (fun _ _ p => p.trans n1) fun _ _ p => p.trans n1)
  · rename_i hl
    cases h1
    obtain rfl := truth_of rv1 (read n1.sr q1 hl).bl
    exact wpAny_truthy_bool (po_now n1)
  · cases h1
theorem je_ife {t a b : E} {et ea eb : Expr} (ht : JT M X (evT C t) et) (ha : JE M X (evE C a) ea) (hb : JE M X (evE C b) eb) : JE M X (evE C (.ife t a b)) (.IfExp et ea eb pos) := by
  intro pins s σ H ρ fs r h I sr tb
  have h : R.bind (evT C t ρ) (fun c ρ1 => if c = true then evE C a ρ1 else evE C b ρ1) = some r := by
    rw [← h, evE]
    unfold evT
    cases evE C t ρ with
    | none => rfl
    | some q =>
      cases q with
      | ex c ρ1 => rfl
      | ok w ρ1 =>
        rw [R.bind_ok, R.bind_ok]

        cases hl : look ρ1 w with
        | none => rfl
        | some d =>
          cases d with
          | bl c => cases c <;> simp
          | _ => rfl
  refine wpAny_IfExp (bindT ht h (Nw.start I sr tb) fun c ρ1 H1 fs1 s1 h1 n1 => ?_)
  cases c with
  | true => exact wpAny_mono (ha pins s1 σ H1 ρ1 fs1 r h1 n1.inv n1.sr n1.tb) (fun _ _ p => p.trans n1) fun _ _ p => p.trans n1
  | false => exact wpAny_mono (hb pins s1 σ H1 ρ1 fs1 r h1 n1.inv n1.sr n1.tb) (fun _ _ p => p.trans n1) fun _ _ p => p.trans n1

/-! ### comparisons -/
theorem cmp_core {c : Cm} {a b : E} {ea eb : Expr} {r : Rs W} (hu : Units X) (ha : JE M X (evE C a) ea) (hb : JE M X (evE C b) eb) (h : evE C (.cmp c a b) ρ = some r) (I : Inv X pins σ H s) (sr : SR M X H σ ρ fs) (tb : Tabs M.T H) :
    wpAny (model X.prog X.w) X.A (eval ea X.env) (fun v s1 => wpAny (model X.prog X.w) X.A (eval eb X.env) (fun u s2 => wpAny (model X.prog X.w) X.A (compareOp (cmN c) v u) (PO M X pins σ H fs r) (PX M X σ H fs r) s2) (PX M X σ H fs r) s1) (PX M X σ H fs r) s := by
  rw [evE] at h
  refine bindO ha h (Nw.start I sr tb) fun w ρ1 H1 fs1 v u s1 h1 n1 k1 rv1 q1 => ?_
  refine bindO hb h1 n1 fun w2 ρ2 H2 fs2 v2 u2 s2 h2 n2 k2 rv2 q2 => ?_
  split at h2
  · rename_i d e hl
    obtain ⟨w3, hw, er⟩ := map_some h2
    subst er
    obtain ⟨l1, l2⟩ := looks_two' hl
    exact cmp_ok hu n2 rv1 rv2 (read n2.sr (q1.kd k2) l1) (read n2.sr q2 l2) hw
  · cases h2
theorem je_cmp {c : Cm} {a b : E} {ea eb : Expr} (hu : Units X) (ha : JE M X (evE C a) ea) (hb : JE M X (evE C b) eb) (hm : behindInMarks (cmN c) eb = false) : JE M X (evE C (.cmp c a b)) (.Compare ea [cmN c] [eb] pos) :=
  fun pins s σ H ρ fs r h I sr tb => wpAny_Compare1 (cmp_core hu ha hb h I sr tb) hm
/-- a comparison's answer is a bool -/
theorem cmp_bool {c : Cm} {a b : E} {r : Rs Bool} (h : evT C (.cmp c a b) ρ = some r) : (∃ k ρ1, evE C (.cmp c a b) ρ = some (.ok (.d (.bl k)) ρ1) ∧ r = .ok k ρ1) ∨ ∃ x ρ1, evE C (.cmp c a b) ρ = some (.ex x ρ1) ∧ r = .ex x ρ1 := by
  unfold evT at h
  rcases bind_cases h with ⟨w, ρ1, e1, e2⟩ | ⟨x, ρ1, e1, e2⟩
  · refine .inl ?_
    have e0 := e1
    rw [evE] at e1
    rcases bind_cases e1 with ⟨_, _, _, e3⟩ | ⟨_, _, _, e3⟩
    · rcases bind_cases e3 with ⟨_, _, _, e4⟩ | ⟨_, _, _, e4⟩
      · split at e4
        · obtain ⟨k, _, e5⟩ := map_some e4
          cases e5
          cases e2
          exact ⟨k, ρ1, e0, rfl⟩
        · cases e4
      · cases e4
    · cases e3
  · exact .inr ⟨x, ρ1, e1, e2⟩
theorem jt_cmp {c : Cm} {a b : E} {ea eb : Expr} (hu : Units X) (ha : JE M X (evE C a) ea) (hb : JE M X (evE C b) eb) (hm : behindInMarks (cmN c) eb = false) : JT M X (evT C (.cmp c a b)) (.Compare ea [cmN c] [eb] pos) := by
  intro pins s σ H ρ fs r h I sr tb
  obtain ⟨r0, h0, ok, exx⟩ : ∃ r0, evE C (.cmp c a b) ρ = some r0 ∧ (∀ w ρ', r0 = .ok w ρ' → ∃ k, w = .d (.bl k) ∧ r = .ok k ρ') ∧ ∀ x ρ', r0 = .ex x ρ' → r = .ex x ρ' := by
    rcases cmp_bool h with ⟨k, ρ1, e1, e2⟩ | ⟨x, ρ1, e1, e2⟩
    · exact ⟨_, e1, fun w ρ' z => by cases z; exact ⟨k, rfl, e2⟩, fun _ _ z => nomatch z⟩
    · exact ⟨_, e1, (fun _ _ z => nomatch z), fun _ _ z => by cases z; exact e2⟩
  have E : ∀ u s', PX M X σ H fs r0 u s' → PX M X σ H fs r u s' := fun u s' p => p.as exx
  refine wpAny_isTrue_Compare1 (wpAny_mono (cmp_core hu ha hb h0 I sr tb) (fun v s1 p1 => wpAny_mono p1 (fun u s2 p2 => wpAny_mono p2 (fun d s3 p3 => ?_) E) E) E) hm
  obtain ⟨w, ρ', H', fs', v', fp, e, n, rv, rw', nd, fr⟩ := p3
  obtain ⟨k, rfl, er⟩ := ok _ _ e
  have rk : RpX X H' v' (.bl k) := rw'.2
  cases rk
  cases rv
  exact wpAny_truthy_bool ⟨_, _, _, er, n⟩
end
end Mi
set_option Elab.async false
set_option linter.all false
set_option maxRecDepth 100000
set_option maxHeartbeats 2000000
/-! MiI: chains, displays, places, cuts, isinstance. -/
namespace Mi
open PySem PySem.Spec PyProof.Rows L2 LamX
section
variable {γ : Type} {M : Wd} {X : Cx} {H H' H0 : Hp} {σ σ' : St} {ρ ρ' : Env} {fs fs' fs0 : List (List Addr)} {pins : List (Addr × Obj)} {s s' : Shared} {C : Ctx} {pos : Pos}
/-- a comparison's answer, by itself -/
theorem cmp_b {c : Cm} {x y : V} {u v : Value} {d e : D} {b : Bool} {E : Value → Shared → Prop} (hu : Units X) (n : Nw M X pins σ ρ H0 fs0 H fs s) (rx : RelV x u) (ry : RelV y v) (hx : Rr X H x d) (hy : Rr X H y e) (h : cmpD c d e = some b) :
    wpAny (model X.prog X.w) X.A (compareOp (cmN c) u v) (fun r s' => r = .bool b ∧ ∃ H' fs', Nw M X pins σ ρ H0 fs0 H' fs' s' ∧ Kd H H') E s := by
  refine thn (cmp_ok hu (Nw.start n.inv n.sr n.tb) rx ry hx hy h) fun r s' p => ?_
  obtain ⟨w, ρ', H', fs', v', fp, e, n', rv, rw', nd, fr⟩ := p
  cases e
  have rk : RpX X H' v' (.bl b) := rw'.2
  cases rk
  cases rv
  exact ⟨rfl, H', fs', n.trans n', n'.fr.kd⟩
theorem je_chn {c c' : Cm} {a b d : E} {ea eb ed : Expr} (hu : Units X) (ha : JE M X (evE C a) ea) (hb : JE M X (evE C b) eb) (hd : JE M X (evE C d) ed) (hm : lastMarks [cmN c, cmN c'] [eb, ed] = false) :
    JE M X (evE C (.chn c c' a b d)) (.Compare ea [cmN c, cmN c'] [eb, ed] pos) := by
  intro pins s σ H ρ fs r h I sr tb
  rw [evE] at h
  refine Compare_chain (bindO ha h (Nw.start I sr tb) fun w ρ1 H1 fs1 v u s1 h1 n1 k1 rv1 q1 => chain_link (bindO hb h1 n1 fun w2 ρ2 H2 fs2 v2 u2 s2 h2 n2 k2 rv2 q2 => ?_)) hm
  split at h2
  · rename_i d1 d2 hl
    obtain ⟨l1, l2⟩ := looks_two' hl
    split at h2
    · rename_i hc
      refine thn (cmp_b hu n2 rv1 rv2 (read n2.sr (q1.kd k2) l1) (read n2.sr q2 l2) hc) fun r3 s3 ⟨e3, H3, fs3, n3, k3⟩ => ?_
      subst e3
      refine wpAny_truthy_bool (chain_last (bindO hd h2 n3 fun w4 ρ4 H4 fs4 v4 u4 s4 h4 n4 k4 rv4 q4 => ?_))
      split at h4
      · rename_i d3 d4 hl4
        obtain ⟨l3, l4⟩ := looks_two' hl4
        obtain ⟨b, hb, eb⟩ := map_some h4
        subst eb
        exact cmp_ok hu n4 rv2 rv4 (read n4.sr (q2.kd (k3.trans k4)) l3) (read n4.sr q4 l4) hb
      · cases h4
    · rename_i hc
      cases h2
      refine thn (cmp_b hu n2 rv1 rv2 (read n2.sr (q1.kd k2) l1) (read n2.sr q2 l2) hc) fun r3 s3 ⟨e3, H3, fs3, n3, k3⟩ => ?_
      subst e3
      exact wpAny_truthy_bool (po_now n3)
    · cases h2
  · cases h2
/-- a chain's answer is a bool -/
theorem chn_is {c c' : Cm} {a b d : E} {w : W} (h : evE C (.chn c c' a b d) ρ = some (.ok w ρ')) : ∃ k, w = .d (.bl k) := by
  rw [evE] at h
  rcases bind_cases h with ⟨_, _, _, h⟩ | ⟨_, _, _, h⟩
  · rcases bind_cases h with ⟨_, _, _, h⟩ | ⟨_, _, _, h⟩
    · split at h
      · split at h
        · rcases bind_cases h with ⟨_, _, _, h⟩ | ⟨_, _, _, h⟩
          · split at h
            · obtain ⟨k, _, e⟩ := map_some h
              cases e
              exact ⟨k, rfl⟩
            · cases h
          · cases h
        · cases h; exact ⟨false, rfl⟩
        · cases h
      · cases h
    · cases h
  · cases h
theorem bool_of {e : E} {r : Rs Bool} (hb : ∀ w ρ', evE C e ρ = some (.ok w ρ') → ∃ k, w = .d (.bl k)) (h : evT C e ρ = some r) :
    ∃ r0, evE C e ρ = some r0 ∧ (∀ k ρ', r0 = .ok (.d (.bl k)) ρ' → r = .ok k ρ') ∧ ∀ x ρ', r0 = .ex x ρ' → r = .ex x ρ' := by
  unfold evT at h
  rcases bind_cases h with ⟨w, ρ1, e1, e2⟩ | ⟨x, ρ1, e1, e2⟩
  · obtain ⟨k, rfl⟩ := hb _ _ e1
    have e2 : some (Rs.ok k ρ1) = some r := e2
    exact ⟨_, e1, (fun k ρ' z => by cases z; exact (Option.some.inj e2).symm), fun _ _ z => nomatch z⟩
  · exact ⟨_, e1, (fun _ _ z => nomatch z), fun _ _ z => by cases z; exact e2⟩
theorem chn_bool {c c' : Cm} {a b d : E} {r : Rs Bool} (h : evT C (.chn c c' a b d) ρ = some r) :
    ∃ r0, evE C (.chn c c' a b d) ρ = some r0 ∧ (∀ k ρ', r0 = .ok (.d (.bl k)) ρ' → r = .ok k ρ') ∧ ∀ x ρ', r0 = .ex x ρ' → r = .ex x ρ' := bool_of (fun _ _ => chn_is) h
theorem jt_chn {c c' : Cm} {a b d : E} {ea eb ed : Expr} (hu : Units X) (ha : JE M X (evE C a) ea) (hb : JE M X (evE C b) eb) (hd : JE M X (evE C d) ed) (hm : lastMarks [cmN c, cmN c'] [eb, ed] = false) :
    JT M X (evT C (.chn c c' a b d)) (.Compare ea [cmN c, cmN c'] [eb, ed] pos) := by
  intro pins s σ H ρ fs r h I sr tb
  obtain ⟨r0, h, ok, exx⟩ := chn_bool h
  have E : ∀ u s', PX M X σ H fs r0 u s' → PX M X σ H fs r u s' := fun u s' p => p.as exx
  refine wpAny_mono (Q := POt M X pins σ H fs r) (E := PX M X σ H fs r0) ?_ (fun _ _ p => p) E
  rw [evE] at h
  refine isTrue_chain (bindO ha h (Nw.start I sr tb) fun w ρ1 H1 fs1 v u s1 h1 n1 k1 rv1 q1 => test_link (bindO hb h1 n1 fun w2 ρ2 H2 fs2 v2 u2 s2 h2 n2 k2 rv2 q2 => ?_)) hm
  split at h2
  · rename_i d1 d2 hl
    obtain ⟨l1, l2⟩ := looks_two' hl
    split at h2
    · rename_i hc
      refine thn (cmp_b hu n2 rv1 rv2 (read n2.sr (q1.kd k2) l1) (read n2.sr q2 l2) hc) fun r3 s3 ⟨e3, H3, fs3, n3, k3⟩ => ?_
      subst e3
      refine wpAny_truthy_bool (test_last (bindO hd h2 n3 fun w4 ρ4 H4 fs4 v4 u4 s4 h4 n4 k4 rv4 q4 => ?_))
      split at h4
      · rename_i d3 d4 hl4
        obtain ⟨l3, l4⟩ := looks_two' hl4
        obtain ⟨b, hb, eb⟩ := map_some h4
        have er := ok _ _ eb.symm
        refine thn (cmp_b hu n4 rv2 rv4 (read n4.sr (q2.kd (k3.trans k4)) l3) (read n4.sr q4 l4) hb) fun r5 s5 ⟨e5, H5, fs5, n5, k5⟩ => ?_
        subst e5
        exact wpAny_truthy_bool ⟨_, _, _, er, n5⟩
      · cases h4
    · rename_i hc
      have er := ok _ _ (Option.some.inj h2).symm
      refine thn (cmp_b hu n2 rv1 rv2 (read n2.sr (q1.kd k2) l1) (read n2.sr q2 l2) hc) fun r3 s3 ⟨e3, H3, fs3, n3, k3⟩ => ?_
      subst e3
      exact wpAny_truthy_bool ⟨_, _, _, er, n3⟩
    · cases h2
  · cases h2

/-! ### displays -/
theorem rps_rel {vs : List V} {ds : List D} {us : List Value} (r : RpsX X H vs ds) (rv : Vals vs us) : us.length = ds.length := by rw [← r.length, ← rv.length]
theorem je_tup {l : Es} {es : List Expr} {x1} (hl : JA M X (evEs C l) es) : JE M X (evE C (.tup l)) (.Tuple es x1 pos) := by
  intro pins s σ H ρ fs r h I sr tb
  rw [evE] at h
  refine wpAny_Tuple_spliced (bindA hl h (Nw.start I sr tb) fun ws ρ1 H1 fs1 vs fps us s1 h1 n1 f1 g1 rvs rws nd fr => ?_)
  split at h1
  · rename_i ds ρ2 he
    obtain ⟨w, hw, er⟩ := map_some h1
    subst er
    obtain ⟨rfl, hb⟩ := newT_some hw
    obtain ⟨H2, fs2, n2, q, _, _⟩ := escapes n1 rws nd fr he
    refine ⟨by rw [rps_rel q rvs]; exact sz_big hb, ?_⟩
    have hf : H2 s1.heap.objs.size = none := n2.inv.hok.fresh (Nat.le_refl _)
    have I' : Inv X pins σ (upd H2 s1.heap.objs.size (.tup vs)) { s1 with heap := s1.heap.push { cls := .type "tuple", data := .seq us.toArray 0 } } :=
      n2.inv.laid (t' := s1.toks) (fun b u e => Heap.get?_push_of_some _ e) (Nat.le_refl _) ⟨by rw [q.length]; exact sz_big hb, us, rvs, ⟨_, Heap.get?_push_size _ rfl, rfl, _, rfl⟩⟩
    exact po_t n2 I' hf q
  · cases h1
theorem je_lst {l : Es} {es : List Expr} (hl : JA M X (evEs C l) es) : JE M X (evE C (.lst l)) (.List es pos) := by
  intro pins s σ H ρ fs r h I sr tb
  rw [evE] at h
  refine wpAny_List_spliced (bindA hl h (Nw.start I sr tb) fun ws ρ1 H1 fs1 vs fps us s1 h1 n1 f1 g1 rvs rws nd fr => ?_)
  split at h1
  · rename_i ds ρ2 he
    obtain ⟨w, hw, er⟩ := map_some h1
    subst er
    obtain ⟨rfl, hb⟩ := newL_some hw
    obtain ⟨H2, fs2, n2, q, _, _⟩ := escapes n1 rws nd fr he
    refine ⟨by rw [rps_rel q rvs]; exact sz_big hb, ?_⟩
    have hf : H2 s1.heap.objs.size = none := n2.inv.hok.fresh (Nat.le_refl _)
    exact po_l n2 (n2.inv.lnew (t' := s1.toks) rvs (by rw [q.length]; exact sz_big hb)) hf q
  · cases h1

/-! ### places -/
theorem ix_eq (n : Nat) (i : Int) : ixOf n i = ixN n i := rfl
theorem at_eq {α : Type} (xs : List α) (i : Int) : at? xs i = atI xs i := rfl
theorem rps_at {vs : List V} {ds : List D} {i : Int} {d : D} (r : RpsX X H vs ds) (h : at? ds i = some d) : ∃ v, atI vs i = some v ∧ RpX X H v d := by
  unfold at? at h
  cases e : ixOf ds.length i with
  | none => rw [e] at h; cases h
  | some j =>
    rw [e] at h
    obtain ⟨v, h1, h2⟩ := r.get (i := j) h
    refine ⟨v, ?_, h2⟩
    unfold atI
    rw [r.length, ← ix_eq, e]
    exact h1
/-- what may stand as an index -/
def plainIx : Expr → Bool
  | .Slice _ _ _ _ => false
  | _ => true
theorem PlainIx.of {b : Expr} (h : plainIx b = true) : PlainIx b := fun o i => by
  cases b <;> first | rfl | cases h
theorem ix_use {r : R2} (hr : ∀ E, IxR (X.wish E) r) {a b : Expr} {x y : V} {v u : Value} {Q : VK} {E : Value → Shared → Prop} (I : Inv X pins σ H s) (rx : RelV x v) (ry : RelV y u) (h : r x y H Q) (hs : PlainIx b) :
    wpAny (model X.prog X.w) X.A (subscriptTail a b v u) (EP X pins σ Q) E s :=
  wpAny_mono (hr E a b pins s σ H x y v u Q (I.wish E) rx ry h (hs _ _)) (fun _ _ ⟨v, H', I', r, q⟩ => ⟨v, H', I'.unwish, r, q⟩) fun _ _ z => z
theorem sub_ok {a b : Expr} {x y : V} {v u : Value} {d e z : D} {E : Value → Shared → Prop} (n : Nw M X pins σ ρ H0 fs0 H fs s) (rx : RelV x v) (ry : RelV y u) (hx : Rr X H x d) (hy : Rr X H y e) (hs : PlainIx b) (h : subD d e = some z) :
    wpAny (model X.prog X.w) X.A (subscriptTail a b v u) (PO M X pins σ H0 fs0 (.ok (.d z) ρ)) E s := by
  unfold subD at h
  split at h
  · rename_i xs i
    obtain ⟨p, vs, ex, hp, q⟩ := hx.lst
    obtain ⟨w, h1, h2⟩ := rps_at q h
    refine thn (ix_use (r := rIxL X.K) (Q := fun v' H' => v' = w ∧ H' = H) (fun _ => ix_list) n.inv rx ry ⟨p, vs, i, w, ex, hy.int, .inl hp, h1, rfl, rfl⟩ hs) fun u' s' p' => ep_po p' fun v' H' I' rv q' => ?_
    obtain ⟨rfl, rfl⟩ := q'
    exact po_d (n.same I') rv h2
  · rename_i xs i
    obtain ⟨p, vs, ex, hp, q⟩ := hx.tup
    obtain ⟨w, h1, h2⟩ := rps_at q h
    refine thn (ix_use (r := rIxT X.K) (Q := fun v' H' => v' = w ∧ H' = H) (fun _ => ix_tup) n.inv rx ry ⟨p, vs, i, w, ex, hy.int, hp, h1, rfl, rfl⟩ hs) fun u' s' p' => ep_po p' fun v' H' I' rv q' => ?_
    obtain ⟨rfl, rfl⟩ := q'
    exact po_d (n.same I') rv h2
  · cases h
theorem je_sub {a i : E} {ea ei : Expr} (ha : JE M X (evE C a) ea) (hi : JE M X (evE C i) ei) (hs : plainIx ei = true) : JE M X (evE C (.sub a i)) (.Subscript ea ei pos) := by
  intro pins s σ H ρ fs r h I sr tb
  rw [evE] at h
  refine Subscript_ (bindO ha h (Nw.start I sr tb) fun w ρ1 H1 fs1 v u s1 h1 n1 k1 rv1 q1 => ?_)
  refine bindO hi h1 n1 fun w2 ρ2 H2 fs2 v2 u2 s2 h2 n2 k2 rv2 q2 => ?_
  split at h2
  · rename_i d e hl
    obtain ⟨w3, hw, er⟩ := map_some h2
    subst er
    obtain ⟨l1, l2⟩ := looks_two' hl
    exact sub_ok n2 rv1 rv2 (read n2.sr (q1.kd k2) l1) (read n2.sr q2 l2) (PlainIx.of hs) hw
  · cases h2

/-! ### cuts -/
theorem cut_eq (n : Nat) (i : Int) (dflt : Nat) : HT.sIx n dflt (some i) = cutAt n i := by
  unfold cutAt
  show (if i < 0 then (i + (n : Int)).toNat else min i.toNat n) = _
  by_cases h : 0 ≤ i
  · rw [if_pos h, if_neg (by omega)]
  · rw [if_neg h, if_pos (by omega)]
def pyCut {α : Type} (fr : Bool) (xs : List α) (i : Int) : List α := if fr then xs.drop (cutAt xs.length i) else xs.take (cutAt xs.length i)
theorem cutAt_le (n : Nat) (i : Int) (h : i < 0 → True) : 0 ≤ i → cutAt n i ≤ n := fun h => by
  unfold cutAt; rw [if_pos h]; exact Nat.min_le_right _ _
theorem cutAt_le' (n : Nat) (i : Int) : cutAt n i ≤ n := by
  unfold cutAt
  split
  · exact Nat.min_le_right _ _
  · omega
theorem cut_list {α : Type} (xs : List α) (fr : Bool) (i : Int) :
    (xs.drop (HT.sIx xs.length 0 (if fr then some i else none))).take (HT.sIx xs.length xs.length (if fr then none else some i) - HT.sIx xs.length 0 (if fr then some i else none)) = pyCut fr xs i := by
  unfold pyCut
  cases fr with
  | true =>
    rw [if_pos rfl, if_pos rfl, if_pos rfl, HT.sIx_none, cut_eq]
    rw [List.take_of_length_le (by rw [List.length_drop]; omega)]
  | false =>
    rw [if_neg (by decide), if_neg (by decide), if_neg (by decide), HT.sIx_none, cut_eq]
    simp
theorem cutV_cut (xs : List V) (fr : Bool) (i : Int) : cutV xs (if fr then some i else none) (if fr then none else some i) = pyCut fr xs i := cut_list xs fr i
theorem rps_cut {vs : List V} {ds : List D} (r : RpsX X H vs ds) (fr : Bool) (i : Int) : RpsX X H (pyCut fr vs i) (pyCut fr ds i) := by
  unfold pyCut
  rw [r.length]
  cases fr
  · exact r.take _
  · exact r.drop _
theorem cut_whole {α : Type} {xs : List α} {fr : Bool} {i : Int} (h : HT.sIx xs.length 0 (if fr then some i else none) = 0 ∧ HT.sIx xs.length xs.length (if fr then none else some i) = xs.length) : pyCut fr xs i = xs := by
  rw [← cut_list, h.1, h.2]
  simp
theorem sl_use {r : V → Option Int → Option Int → Hp → VK → Prop} (hr : ∀ E, SlR (X.wish E) r) {x : V} {v vl vu : Value} {lo hi : Option Int} {sl : Addr} {Q : VK} (E : Value → Shared → Prop) (I : Inv X pins σ H s) (rx : RelV x v) (hs : s.heap.IsSliceOf sl vl vu .none) (pl : IsPart vl lo) (pu : IsPart vu hi) (h : r x lo hi H Q) :
    ∃ T id, typeLookup (.type T) "__getitem__" = pure (some (.builtin id)) ∧ s.TypeIs v T ∧ wpAny (model X.prog X.w) X.A (getItem v (.ref sl)) (EP X pins σ Q) E s := by
  obtain ⟨T, id, h1, h2, h3⟩ := hr E pins s σ H x v vl vu lo hi sl Q (I.wish E) rx hs pl pu h
  exact ⟨T, id, h1, h2, wpAny_mono h3 (fun _ _ ⟨v, H', I', r, q⟩ => ⟨v, H', I'.unwish, r, q⟩) fun _ _ z => z⟩
theorem sl_ok {a : Expr} {fr : Bool} {lo hi : Option Expr} {p2 : Pos} {x y : V} {v vl vu : Value} {d : D} {i : Int} {w : W} {sl : Addr} {E : Value → Shared → Prop} (n : Nw M X pins σ ρ H0 fs0 H fs s) (rx : RelV x v) (hx : Rr X H x d)
    (hs : s.heap.IsSliceOf sl vl vu .none) (pl : IsPart vl (if fr then some i else none)) (pu : IsPart vu (if fr then none else some i)) (h : slD fr d (.int i) = some w) :
    wpAny (model X.prog X.w) X.A (subscriptTail a (.Slice lo hi none p2) v (.ref sl)) (PO M X pins σ H0 fs0 (.ok w ρ)) E s := by
  have go : ∀ {Q : VK}, (∃ T id, typeLookup (.type T) "__getitem__" = pure (some (.builtin id)) ∧ s.TypeIs v T ∧ wpAny (model X.prog X.w) X.A (getItem v (.ref sl)) (EP X pins σ Q) E s) →
      (∀ v' H' u' s', Inv X pins σ H' s' → RelV v' u' → Q v' H' → PO M X pins σ H0 fs0 (.ok w ρ) u' s') → wpAny (model X.prog X.w) X.A (subscriptTail a (.Slice lo hi none p2) v (.ref sl)) (PO M X pins σ H0 fs0 (.ok w ρ)) E s := fun {Q} g k => by
    obtain ⟨T, id, hT, ht, hg⟩ := g
    exact thn (tail_any (ops := [.ref sl, v]) ht hT hg (by with_unfolding_all rfl)) fun u' s' p => ep_po p fun v' H' I' rv q => k v' H' u' s' I' rv q
  unfold slD at h
  split at h
  · rename_i xs i' e
    cases e
    obtain ⟨rfl, hb⟩ := newL_some h
    obtain ⟨p, vs, ex, hp, q⟩ := hx.lst
    refine go (Q := fun v' H' => ∃ p, v' = .ref p ∧ H p = none ∧ H' = upd H p (.lst (pyCut fr vs i))) (sl_use (r := rSlL X.K) (fun _ => sl_list) E n.inv rx hs pl pu ⟨p, vs, ex, .inl hp, fun p hp => ⟨p, rfl, hp, by rw [cutV_cut]⟩⟩) fun v' H' u' s' I' rv q' => ?_
    obtain ⟨p', rfl, hp', rfl⟩ := q'
    cases rv
    exact po_l n I' hp' (rps_cut q fr i)
  · rename_i xs i' e
    cases e
    obtain ⟨rfl, hb⟩ := newT_some h
    obtain ⟨p, vs, ex, hp, q⟩ := hx.tup
    refine go (Q := fun v' H' => (v' = x ∧ H' = H ∧ pyCut fr vs i = vs) ∨ ∃ p, v' = .ref p ∧ H p = none ∧ H' = upd H p (.tup (pyCut fr vs i))) (sl_use (r := rSlA X.K) (fun _ => sl_tupA) E n.inv rx hs pl pu ⟨p, vs, ex, hp, fun hw => .inl ⟨ex.symm, rfl, cut_whole hw⟩, fun _ p hp => .inr ⟨p, rfl, hp, by rw [cutV_cut]⟩⟩) fun v' H' u' s' I' rv q' => ?_
    have q2 := rps_cut q fr i
    rcases q' with ⟨rfl, rfl, hw⟩ | ⟨p', rfl, hp', rfl⟩
    · rw [hw] at q2
      refine po_d (n.same I') rv ?_
      rw [ex]
      exact .tup hp q2
    · cases rv
      exact po_t n I' hp' q2
  · rename_i z i' e
    cases e
    split at h
    · rename_i hb
      cases h
      refine go (Q := fun v' H' => v' = .str (cutS z (if fr then some i else none) (if fr then none else some i)) ∧ H' = H) (sl_use (r := rSlS) (fun _ => sl_str) E n.inv rx hs pl pu ⟨z, hx.str, sz_big hb, rfl, rfl⟩) fun v' H' u' s' I' rv q' => ?_
      obtain ⟨rfl, rfl⟩ := q'
      have hl : z.cps.toList.length = z.length := by simp [Str.length]
      have e1 := cut_list z.cps.toList fr i
      rw [hl] at e1
      have e2 : cutS z (if fr then some i else none) (if fr then none else some i) = ⟨(if fr then z.cps.toList.drop (cutAt z.length i) else z.cps.toList.take (cutAt z.length i)).toArray⟩ := by
        unfold cutS
        rw [e1]
        unfold pyCut
        rw [hl]
      rw [← e2]
      exact po_d (n.same I') rv (.str _)
    · cases h
  · cases h
theorem je_slf {a i : E} {ea ei : Expr} {p2 : Pos} (ha : JE M X (evE C a) ea) (hi : JE M X (evE C i) ei) : JE M X (evE C (.slf a i)) (.Subscript ea (.Slice (some ei) none none p2) pos) := by
  intro pins s σ H ρ fs r h I sr tb
  rw [evE] at h
  refine Subscript_ (bindO ha h (Nw.start I sr tb) fun w ρ1 H1 fs1 v u s1 h1 n1 k1 rv1 q1 => ?_)
  refine wpAny_Slice (bindO hi h1 n1 fun w2 ρ2 H2 fs2 v2 u2 s2 h2 n2 k2 rv2 q2 => ?_)
  rw [evalPart_none]
  refine wpAny_pure ?_
  refine wpAny_pure ?_
  split at h2
  · rename_i d e hl
    obtain ⟨w3, hw, er⟩ := map_some h2
    subst er
    obtain ⟨l1, l2⟩ := looks_two' hl
    have hi : ∃ i, e = .int i := by
      unfold slD at hw
      split at hw <;> first | exact ⟨_, rfl⟩ | cases hw
    obtain ⟨i, rfl⟩ := hi
    have ei := (read n2.sr q2 l2).int
    subst ei
    obtain ⟨t, rfl⟩ := rv2
    have I3 : Inv X pins σ H2 { s2 with heap := s2.heap.push { cls := .type "slice", data := .fields #[.int i t, .none, .none] } } := n2.inv.kept (t' := s2.toks) fun b ob q => Heap.get?_push_of_some _ q
    exact sl_ok (fr := true) (y := .non) (n2.same I3) rv1 (read n2.sr (q1.kd k2) l1) (Heap.IsSliceOf.new ..) (IsPart.int i t) IsPart.none hw
  · cases h2
theorem je_slt {a i : E} {ea ei : Expr} {p2 : Pos} (ha : JE M X (evE C a) ea) (hi : JE M X (evE C i) ei) : JE M X (evE C (.slt a i)) (.Subscript ea (.Slice none (some ei) none p2) pos) := by
  intro pins s σ H ρ fs r h I sr tb
  rw [evE] at h
  refine Subscript_ (bindO ha h (Nw.start I sr tb) fun w ρ1 H1 fs1 v u s1 h1 n1 k1 rv1 q1 => ?_)
  refine wpAny_Slice ?_
  rw [evalPart_none]
  refine wpAny_pure (bindO hi h1 n1 fun w2 ρ2 H2 fs2 v2 u2 s2 h2 n2 k2 rv2 q2 => ?_)
  refine wpAny_pure ?_
  split at h2
  · rename_i d e hl
    obtain ⟨w3, hw, er⟩ := map_some h2
    subst er
    obtain ⟨l1, l2⟩ := looks_two' hl
    have hi : ∃ i, e = .int i := by
      unfold slD at hw
      split at hw <;> first | exact ⟨_, rfl⟩ | cases hw
    obtain ⟨i, rfl⟩ := hi
    have ei := (read n2.sr q2 l2).int
    subst ei
    obtain ⟨t, rfl⟩ := rv2
    have I3 : Inv X pins σ H2 { s2 with heap := s2.heap.push { cls := .type "slice", data := .fields #[.none, .int i t, .none] } } := n2.inv.kept (t' := s2.toks) fun b ob q => Heap.get?_push_of_some _ q
    exact sl_ok (fr := false) (y := .non) (n2.same I3) rv1 (read n2.sr (q1.kd k2) l1) (Heap.IsSliceOf.new ..) IsPart.none (IsPart.int i t) hw
  · cases h2
end
end Mi
set_option Elab.async false
set_option linter.all false
set_option maxRecDepth 100000
set_option maxHeartbeats 2000000
/-! MiJ: built-in functions. -/
namespace Mi
open PySem PySem.Spec PyProof.Rows L2 LamX
def biS : Bi → Str
  | .len => "len" | .all => "all" | .any => "any" | .tuple => "tuple" | .list => "list" | .sorted => "sorted" | .set => "set" | .sum => "sum" | .min => "min" | .max => "max" | .int => "int" | .str => "str" | .dict => "dict" | .min2 => "min" | .max2 => "max"
def biV : Bi → Value
  | .len => .builtin "len" | .all => .builtin "all" | .any => .builtin "any" | .tuple => .type "tuple" | .list => .type "list" | .sorted => .builtin "sorted" | .set => .type "set" | .sum => .builtin "sum" | .min => .builtin "min" | .max => .builtin "max" | .int => .type "int" | .str => .type "str" | .dict => .type "dict" | .min2 => .builtin "min" | .max2 => .builtin "max"
theorem biV_boot (f : Bi) : bootBuiltins (biS f) = some (biV f) := by cases f <;> decide +kernel
section
variable {γ : Type} {M : Wd} {X : Cx} {H H' H0 : Hp} {σ σ' : St} {ρ ρ' : Env} {fs fs' fs0 : List (List Addr)} {pins : List (Addr × Obj)} {s s' : Shared} {C : Ctx} {pos : Pos}
theorem rrs1 {vs : List V} {d : D} (r : Rrs X H vs [d]) : ∃ v, vs = [v] ∧ Rr X H v d := by
  cases r with
  | cons a t => cases t; exact ⟨_, rfl, a⟩
theorem rrs2 {vs : List V} {d e : D} (r : Rrs X H vs [d, e]) : ∃ v w, vs = [v, w] ∧ Rr X H v d ∧ Rr X H w e := by
  cases r with
  | cons a t => cases t with
    | cons b t => cases t; exact ⟨_, _, rfl, a, b⟩
theorem bools_rp : ∀ {xs : List D} {bs : List Bool} {vs : List V}, boolsOf xs = some bs → RpsX X H vs xs → vs = bs.map V.bl
  | [], bs, vs, h, r => by cases h; cases r; rfl
  | d :: xs, bs, vs, h, r => by
    cases d <;> simp only [boolsOf] at h <;> try cases h
    obtain ⟨bs', h1, rfl⟩ := map_some h
    cases r with
    | cons a t => cases a; rw [bools_rp h1 t]; rfl
theorem ints_rp : ∀ {xs : List D} {bs : List Int} {vs : List V}, intsOf xs = some bs → RpsX X H vs xs → vs = bs.map V.int
  | [], bs, vs, h, r => by cases h; cases r; rfl
  | d :: xs, bs, vs, h, r => by
    cases d <;> simp only [intsOf] at h <;> try cases h
    obtain ⟨bs', h1, rfl⟩ := map_some h
    cases r with
    | cons a t => cases a; rw [ints_rp h1 t]; rfl
/-- items, as the sorting laws want them -/
theorem each_of {f : V → Value → Prop} : ∀ {vs : List V} {ds : List D} {us : List Value}, RpsX X H vs ds → Vals vs us → PySem.W.EachIs (fun u d => ∃ v, RelV v u ∧ RpX X H v d) us ds
  | _, _, _, .nil, .nil => .nil
  | _, _, _, .cons r t, .cons a b => .cons ⟨_, a, r⟩ (each_of (f := f) t b)
theorem of_each : ∀ {us : List Value} {ds : List D}, PySem.W.EachIs (fun u d => ∃ v, RelV v u ∧ RpX X H v d) us ds → ∃ vs, Vals vs us ∧ RpsX X H vs ds
  | _, _, .nil => ⟨[], .nil, .nil⟩
  | _, _, .cons ⟨v, a, r⟩ t => by
    obtain ⟨vs, b, q⟩ := of_each t
    exact ⟨v :: vs, .cons a b, .cons r q⟩
theorem each_imp {α β : Type} {R R' : α → β → Prop} : ∀ {l : List α} {m : List β}, (∀ a b, b ∈ m → R a b → R' a b) → PySem.W.EachIs R l m → PySem.W.EachIs R' l m
  | _, _, _, .nil => .nil
  | _, _, h, .cons a t => .cons (h _ _ List.mem_cons_self a) (each_imp (fun a b hb => h a b (List.mem_cons_of_mem _ hb)) t)
theorem mergeSort_congr {α : Type} {r s : α → α → Bool} {l : List α} (h : ∀ a ∈ l, ∀ b ∈ l, r a b = s a b) : l.mergeSort r = l.mergeSort s := by
  have := List.map_mergeSort (r := r) (s := s) (f := id) (l := l) h
  simpa using this
def rLen (K : PySem.W.Frag) : List V → Hp → VK → Prop := fun xs H Q => ∃ x n, xs = [x] ∧ LenV K x H n ∧ Q (.int (n : Nat)) H
def rTupOf (K : PySem.W.Frag) : List V → Hp → VK → Prop := fun xs H Q => ∃ p ys, xs = [.ref p] ∧ ((SqL K H p ys ∧ ∀ l, H l = none → Q (.ref l) (upd H l (.tup ys))) ∨ (SqT K H p ys ∧ Q (.ref p) H))
def rLstOf (K : PySem.W.Frag) : List V → Hp → VK → Prop := fun xs H Q => ∃ p ys, xs = [.ref p] ∧ (SqL K H p ys ∨ SqT K H p ys) ∧ ∀ l, H l = none → Q (.ref l) (upd H l (.lst ys))
def rMin2 : List V → Hp → VK → Prop := fun xs H Q => ∃ i j, xs = [.int i, .int j] ∧ Q (.int (if j < i then j else i)) H
def rMax2 : List V → Hp → VK → Prop := fun xs H Q => ∃ i j, xs = [.int i, .int j] ∧ Q (.int (if j > i then j else i)) H
def rInt1 : List V → Hp → VK → Prop := fun xs H Q => (∃ i, xs = [.int i] ∧ Q (.int i) H) ∨ ∃ k, xs = [.bl k] ∧ Q (.int (if k then 1 else 0)) H
theorem bi_ok {f : Bi} {vs : List V} {us : List Value} {ds : List D} {w : W} {E : Value → Shared → Prop} (hu : Units X) (hc : X.calm = true) (n : Nw M X pins σ ρ H0 fs0 H fs s) (rv : Vals vs us) (rr : Rrs X H vs ds) (h : biD f ds = some w) :
    wpAny (model X.prog X.w) X.A (call (biV f) us) (PO M X pins σ H0 fs0 (.ok w ρ)) E s := by
  have hu0 : X.A.units + 150 < cLine := hu
  have call : ∀ {fv : Value} {r : List V → Hp → VK → Prop} {Q : VK}, (∀ E, CallR (X.wish E) fv r) → r vs H Q → (∀ v H' u s', Inv X pins σ H' s' → RelV v u → Q v H' → PO M X pins σ H0 fs0 (.ok w ρ) u s') →
      wpAny (model X.prog X.w) X.A (call fv us) (PO M X pins σ H0 fs0 (.ok w ρ)) E s := fun {fv r Q} ho hr k =>
    thn (call_use (Q := Q) ho n.inv rv hr) fun u s' p => ep_po p fun v H' I r q => k v H' u s' I r q
  have same : ∀ {fv : Value} {r : List V → Hp → VK → Prop} {v0 : V} {d : D}, (∀ E, CallR (X.wish E) fv r) → r vs H (fun v H' => v = v0 ∧ H' = H) → RpX X H v0 d → w = .d d → wpAny (model X.prog X.w) X.A (PySem.call fv us) (PO M X pins σ H0 fs0 (.ok w ρ)) E s := fun {fv r v0 d} ho hr hd ew => by
    subst ew
    exact call ho hr fun v H' u s' I r q => by obtain ⟨rfl, rfl⟩ := q; exact po_d (n.same I) r hd
  cases f with
  | len =>
    dsimp only [biD] at h
    unfold biLen at h
    split at h
    · rename_i x
      split at h
      · rename_i hb
        cases h
        obtain ⟨v, rfl, r1⟩ := rrs1 rr
        obtain rfl := r1.str
        show wpAny _ _ (PySem.call (.builtin "len") us) _ _ _
        exact same (r := rLen X.K) (fun _ => call_len) ⟨_, _, rfl, ⟨sz_big hb, rfl⟩, rfl, rfl⟩ (.int _) rfl
      · cases h
    · cases h
      obtain ⟨v, rfl, r1⟩ := rrs1 rr
      obtain ⟨a, xs, rfl, ha, q⟩ := r1.lst
      show wpAny _ _ (PySem.call (.builtin "len") us) _ _ _
      exact same (r := rLen X.K) (fun _ => call_len) ⟨_, _, rfl, .inl ⟨xs, .inl ha, rfl⟩, rfl, rfl⟩ (.int _) (by rw [q.length])
    · cases h
      obtain ⟨v, rfl, r1⟩ := rrs1 rr
      obtain ⟨a, xs, rfl, ha, q⟩ := r1.tup
      show wpAny _ _ (PySem.call (.builtin "len") us) _ _ _
      exact same (r := rLen X.K) (fun _ => call_len) ⟨_, _, rfl, .inr ⟨xs, ha, rfl⟩, rfl, rfl⟩ (.int _) (by rw [q.length])
    · cases h
  | all =>
    dsimp only [biD] at h
    unfold biAll at h
    split at h
    · obtain ⟨bs, hb, rfl⟩ := map_some h
      obtain ⟨v, rfl, r1⟩ := rrs1 rr
      obtain ⟨a, xs, rfl, ha, q⟩ := r1.lst
      have e := bools_rp hb q
      subst e
      show wpAny _ _ (PySem.call (.builtin "all") us) _ _ _
      exact same (r := rAll X.K) (fun E => cr_all (X := X.wish E) hc) ⟨a, bs, rfl, .inl ha, rfl, rfl⟩ (.bl _) rfl
    · cases h
  | any =>
    dsimp only [biD] at h
    unfold biAny at h
    split at h
    · obtain ⟨bs, hb, rfl⟩ := map_some h
      obtain ⟨v, rfl, r1⟩ := rrs1 rr
      obtain ⟨a, xs, rfl, ha, q⟩ := r1.lst
      have e := bools_rp hb q
      subst e
      show wpAny _ _ (PySem.call (.builtin "any") us) _ _ _
      exact same (r := rAny X.K) (fun E => cr_any (X := X.wish E) hc) ⟨a, bs, rfl, .inl ha, rfl, rfl⟩ (.bl _) rfl
    · cases h
  | tuple =>
    dsimp only [biD] at h
    unfold biTuple at h
    split at h
    · cases h
      obtain ⟨v, rfl, r1⟩ := rrs1 rr
      obtain ⟨a, xs, rfl, ha, q⟩ := r1.tup
      show wpAny _ _ (PySem.call (.type "tuple") us) _ _ _
      exact same (r := rTupOf X.K) (fun _ => call_tuple_of) ⟨a, xs, rfl, .inr ⟨ha, rfl, rfl⟩⟩ (.tup ha q) rfl
    · obtain ⟨rfl, hb⟩ := newT_some h
      obtain ⟨v, rfl, r1⟩ := rrs1 rr
      obtain ⟨a, xs, rfl, ha, q⟩ := r1.lst
      show wpAny _ _ (PySem.call (.type "tuple") us) _ _ _
      refine call (r := rTupOf X.K) (Q := fun v H' => ∃ l, v = .ref l ∧ H l = none ∧ H' = upd H l (.tup xs)) (fun _ => call_tuple_of) ⟨a, xs, rfl, .inl ⟨.inl ha, fun l hl => ⟨l, rfl, hl, rfl⟩⟩⟩ fun v H' u s' I r q' => ?_
      obtain ⟨l, rfl, hl, rfl⟩ := q'
      cases r
      exact po_t n I hl q
    · cases h
  | list =>
    dsimp only [biD] at h
    unfold biList at h
    split at h
    · obtain ⟨rfl, hb⟩ := newL_some h
      obtain ⟨v, rfl, r1⟩ := rrs1 rr
      obtain ⟨a, xs, rfl, ha, q⟩ := r1.lst
      show wpAny _ _ (PySem.call (.type "list") us) _ _ _
      refine call (r := rLstOf X.K) (Q := fun v H' => ∃ l, v = .ref l ∧ H l = none ∧ H' = upd H l (.lst xs)) (fun _ => call_list_of) ⟨a, xs, rfl, .inl (.inl ha), fun l hl => ⟨l, rfl, hl, rfl⟩⟩ fun v H' u s' I r q' => ?_
      obtain ⟨l, rfl, hl, rfl⟩ := q'
      cases r
      exact po_l n I hl q
    · obtain ⟨rfl, hb⟩ := newL_some h
      obtain ⟨v, rfl, r1⟩ := rrs1 rr
      obtain ⟨a, xs, rfl, ha, q⟩ := r1.tup
      show wpAny _ _ (PySem.call (.type "list") us) _ _ _
      refine call (r := rLstOf X.K) (Q := fun v H' => ∃ l, v = .ref l ∧ H l = none ∧ H' = upd H l (.lst xs)) (fun _ => call_list_of) ⟨a, xs, rfl, .inr ha, fun l hl => ⟨l, rfl, hl, rfl⟩⟩ fun v H' u s' I r q' => ?_
      obtain ⟨l, rfl, hl, rfl⟩ := q'
      cases r
      exact po_l n I hl q
    · cases h
  | sorted =>
    dsimp only [biD] at h
    unfold biSorted at h
    split at h
    · rename_i ds'
      split at h
      · rename_i hs
        obtain ⟨rfl, hb⟩ := newL_some h
        obtain ⟨v, rfl, r1⟩ := rrs1 rr
        obtain ⟨a, xs, rfl, ha, q⟩ := r1.lst
        obtain ⟨u, rfl, ru⟩ := vals1 rv
        cases ru
        unfold sortOk at hs
        rw [Bool.and_eq_true] at hs
        obtain ⟨hs1, hs2⟩ := hs
        have hal : ∀ d ∈ ds', d.plain lvl = true ∧ ∀ d' ∈ ds', D.alike d d' = true := fun d hd => by
          have := List.all_eq_true.mp hs1 d hd
          rw [Bool.and_eq_true] at this
          exact ⟨this.1, fun d' hd' => List.all_eq_true.mp this.2 d' hd'⟩
        obtain ⟨its, rv2, hl, hz⟩ := n.inv.list (.inl ha)
        have e1 : PySem.W.EachIs (fun u d => ∃ v, RelV v u ∧ RpX X H v d) its ds' := each_of (f := fun _ _ => True) q rv2
        have hlen : ds'.length ≤ big := by rw [List.length_mergeSort] at hb; exact hb
        show wpAny _ _ (PySem.call (.builtin "sorted") [.ref a]) _ _ _
        refine PySem.W.sorted_data (enc := D.py) (bs := ds') hl.isList e1 (each_imp (fun u d hd ⟨v, r1, r2⟩ => (Rr.of r2).reads (hal d hd).1 n.inv r1) e1) ?_ ?_ (sz_big hlen) (fun d hd => ?_) fun out ho eo => ?_
        · intro x hx y hy
          obtain ⟨d, hd, rfl⟩ := List.mem_map.mp hx
          obtain ⟨d', hd', rfl⟩ := List.mem_map.mp hy
          exact alike_py d d' _ _ (hal d hd).1 (hal d' hd').1 ((hal d hd).2 d' hd')
        · rw [Bool.or_eq_true] at hs2
          rcases hs2 with z | z
          · refine .inl fun x hx => ?_
            obtain ⟨d, hd, rfl⟩ := List.mem_map.mp hx
            have := List.all_eq_true.mp z d hd
            cases d with
            | tup l => cases l with
              | nil => cases this
              | cons y r => exact ⟨_, _, rfl⟩
            | _ => cases this
          · refine .inr fun x hx => ?_
            obtain ⟨d, hd, rfl⟩ := List.mem_map.mp hx
            have := List.all_eq_true.mp z d hd
            have pl := (hal d hd).1
            cases d <;> first | (cases this; done) | (simp [D.plain] at pl; done) | (clear this; exact ⟨by simp [D.py], by simp [D.py]⟩)
        · have := (plain_lay d _ (hal d hd).1).2
          have : d.py.depth ≤ 12 := this
          omega
        · obtain ⟨c, hc⟩ := sortedAll_at s.heap its out.toArray
          have em : ds'.mergeSort (PySem.W.dataLe false D.py) = ds'.mergeSort D.leB := mergeSort_congr fun a ha b hb => by
            show (!PySem.W.dataLt b.py a.py) = _
            unfold D.leB
            rw [← lt_py b a _ _ (hal b hb).1 (hal a ha).1 ((hal b hb).2 a ha)]
          rw [em] at eo
          obtain ⟨ys, ry, qy⟩ := of_each eo
          have hf : H (s.heap.objs.size + 1) = none := n.inv.hok.fresh (Nat.le_succ _)
          refine po_l n (n.inv.laid (t' := s.toks) (o := .lst ys) (fun b o e => sortedAll_old e) (Nat.le_succ _) ⟨?_, out, c, ry, hc⟩) hf qy
          rw [qy.length]; exact sz_big hb
      · cases h
    · cases h
  | sum =>
    dsimp only [biD] at h
    unfold biSum at h
    split at h
    · obtain ⟨bs, hb, rfl⟩ := map_some h
      obtain ⟨v, rfl, r1⟩ := rrs1 rr
      obtain ⟨a, xs, rfl, ha, q⟩ := r1.lst
      have e := ints_rp hb q
      subst e
      show wpAny _ _ (PySem.call (.builtin "sum") us) _ _ _
      exact same (r := rSum X.K) (fun E => cr_sum (X := X.wish E) hc) ⟨a, bs, rfl, .inl ha, rfl, rfl⟩ (.int _) rfl
    · cases h
  | min2 =>
    dsimp only [biD] at h
    unfold biMin2 at h
    split at h
    · cases h
      obtain ⟨v, w', rfl, r1, r2⟩ := rrs2 rr
      obtain rfl := r1.int
      obtain rfl := r2.int
      show wpAny _ _ (PySem.call (.builtin "min") us) _ _ _
      exact same (r := rMin2) (fun E => call_min2 (X := X.wish E) hc) ⟨_, _, rfl, rfl, rfl⟩ (.int _) rfl
    · cases h
  | max2 =>
    dsimp only [biD] at h
    unfold biMax2 at h
    split at h
    · cases h
      obtain ⟨v, w', rfl, r1, r2⟩ := rrs2 rr
      obtain rfl := r1.int
      obtain rfl := r2.int
      show wpAny _ _ (PySem.call (.builtin "max") us) _ _ _
      exact same (r := rMax2) (fun E => call_max2 (X := X.wish E) hc) ⟨_, _, rfl, rfl, rfl⟩ (.int _) rfl
    · cases h
  | int =>
    dsimp only [biD] at h
    unfold biInt at h
    split at h
    · cases h
      obtain ⟨v, rfl, r1⟩ := rrs1 rr
      obtain rfl := r1.bl
      show wpAny _ _ (PySem.call (.type "int") us) _ _ _
      exact same (r := rInt1) (fun _ => call_int1) (.inr ⟨_, rfl, rfl, rfl⟩) (.int _) rfl
    · cases h
  | _ => cases h
theorem je_bi {f : Bi} {l : Es} {e : Expr} {es : List Expr} {p : Pos} (hu : Units X) (hc : X.calm = true) (hg : Gl X (biS f)) (hm : X.mg (biS f) = none) (hl : JA M X (evEs C l) (e :: es)) (he : starEach (e :: es) X.env = (false, eval e X.env) :: starEach es X.env)
    (hpl : (backTo pos (starEach es X.env)).any (·.1) = false) : JE M X (evE C (.bi f l)) (.Call (.Name (biS f) p) (e :: es) [] pos) := by
  intro pins s σ H ρ fs r h I sr tb
  rw [evE] at h
  refine wpAny_Call_Name_kw (ld_blt I hg hm (biV_boot f) ?_ (by cases f <;> decide) (by cases f <;> decide))
  have key : wpAny (model X.prog X.w) X.A (spliced (backTo pos (starEach (e :: es) X.env))) (fun vs s₁ => wpAny (model X.prog X.w) X.A (call (biV f) vs) (PO M X pins σ H fs r) (PX M X σ H fs r) s₁) (PX M X σ H fs r) s := by
    refine bindA hl h (Nw.start I sr tb) fun ws ρ1 H1 fs1 vs fps us s1 h1 n1 f1 g1 rvs rws nd fr => ?_
    obtain ⟨H2, n2, k2, q2⟩ := freezes n1 rws nd fr
    split at h1
    · rename_i ds hds
      obtain ⟨w, hw, er⟩ := map_some h1
      subst er
      exact bi_ok hu hc n2 rvs (reads n2.sr q2 hds) hw
    · cases h1
  cases f with
  | tuple => exact PyProof.Rows.callWith_type1 key he hpl
  | list => exact PyProof.Rows.callWith_type1 key he hpl
  | set => exact PyProof.Rows.callWith_type1 key he hpl
  | int => exact PyProof.Rows.callWith_type1 key he hpl
  | str => exact PyProof.Rows.callWith_type1 key he hpl
  | dict => exact PyProof.Rows.callWith_type1 key he hpl
  | _ => exact PyProof.Rows.callWith_builtin1 key he hpl
end
end Mi
set_option Elab.async false
set_option linter.all false
set_option maxRecDepth 100000
set_option maxHeartbeats 2000000
/-! MiK: isinstance, methods. -/
namespace Mi
open PySem PySem.Spec PyProof.Rows L2 LamX
/-! ### arguments without a star -/
def noStar : List Expr → Bool
  | [] => true
  | .Starred _ _ :: _ => false
  | _ :: r => noStar r
theorem star_cons {e : Expr} {es : List Expr} {env : PySem.Env} (h : noStar (e :: es) = true) : starEach (e :: es) env = (false, eval e env) :: starEach es env := by
  cases e <;> first | rfl | cases h
theorem noStar_tail {e : Expr} {es : List Expr} (h : noStar (e :: es) = true) : noStar es = true := by
  cases e <;> first | exact h | cases h
theorem star_any : ∀ {es : List Expr} {env : PySem.Env} {pos : Pos}, noStar es = true → (backTo pos (starEach es env)).any (·.1) = false
  | [], _, _, _ => rfl
  | e :: es, env, pos, h => by
    rw [star_cons h]
    show (false || (backTo pos (starEach es env)).any (·.1)) = false
    rw [star_any (noStar_tail h)]; rfl
theorem star_all : ∀ {es : List Expr} {env : PySem.Env} {pos : Pos}, noStar es = true → (backTo pos (starEach es env)).all (fun x => !x.1) = true
  | [], _, _, _ => rfl
  | e :: es, env, pos, h => by
    rw [star_cons h]
    show (!false && (backTo pos (starEach es env)).all (fun x => !x.1)) = true
    rw [star_all (noStar_tail h)]; rfl
section
variable {γ : Type} {M : Wd} {X : Cx} {H H' H0 : Hp} {σ σ' : St} {ρ ρ' : Env} {fs fs' fs0 : List (List Addr)} {pins : List (Addr × Obj)} {s s' : Shared} {C : Ctx} {pos : Pos}
/-! ### isinstance -/
def tyN : Ty → String
  | .int => "int" | .bool => "bool" | .str => "str" | .tuple => "tuple" | .list => "list" | _ => "?"
def tyS : Ty → Str
  | .int => "int" | .bool => "bool" | .str => "str" | .tuple => "tuple" | .list => "list" | _ => "?"
def dN : D → String
  | .non => "NoneType" | .bl _ => "bool" | .int _ => "int" | .str _ => "str" | .tup _ => "tuple" | .lst _ => "list" | _ => "?"
def tyOk : Ty → Bool
  | .int => true | .bool => true | .str => true | .tuple => true | .list => true | _ => false
theorem ty_boot (t : Ty) (h : tyOk t = true) : bootBuiltins (tyS t) = some (.type (tyN t)) := by
  cases t <;> first | (cases h; done) | decide +kernel
theorem isi_boot : bootBuiltins "isinstance" = some (.builtin "isinstance") := by decide +kernel
theorem kit_isi {d : D} {t : Ty} {b : Bool} (h : isiD d t = some b) : kitB (dN d) (tyN t) = some b := by
  cases d with
  | dct kvs => cases h
  | set xs => cases h
  | exc c => cases h
  | non => cases t <;> first | (cases h; done) | (cases h; show kitB "NoneType" _ = _; decide +kernel)
  | bl x => cases t <;> first | (cases h; done) | (cases h; show kitB "bool" _ = _; decide +kernel)
  | int x => cases t <;> first | (cases h; done) | (cases h; show kitB "int" _ = _; decide +kernel)
  | str x => cases t <;> first | (cases h; done) | (cases h; show kitB "str" _ = _; decide +kernel)
  | tup x => cases t <;> first | (cases h; done) | (cases h; show kitB "tuple" _ = _; decide +kernel)
  | lst x => cases t <;> first | (cases h; done) | (cases h; show kitB "list" _ = _; decide +kernel)
theorem tyX_of {v : V} {d : D} {t : Ty} {b : Bool} (r : Rr X H v d) (h : isiD d t = some b) : TyX X.K H v (.type (dN d)) := by
  cases d with
  | dct kvs => cases h
  | set xs => cases h
  | exc c => cases h
  | non => rw [r.non]; exact .base .non
  | bl x => rw [r.bl]; exact .base (.bl _)
  | int x => rw [r.int]; exact .base (.int _)
  | str x => rw [r.str]; exact .base (.str _)
  | tup x =>
    obtain ⟨a, vs, rfl, ha, _⟩ := r.tup
    rcases ha with ha | ⟨o, its, n, h1, h2, _⟩
    · rcases ha with ha | ⟨o, ha⟩
      · exact .base (.tup ha)
      · exact .fTuple ha
    · exact .kTuple h1 h2
  | lst x =>
    obtain ⟨a, vs, rfl, ha, _⟩ := r.lst
    rcases ha with ha | ⟨o, ha⟩
    · exact .base (.lst ha)
    · exact .base (.frz ha)
theorem je_isi {a : E} {t : Ty} {ea : Expr} {p p2 : Pos} (hg : Gl X "isinstance") (hm : X.mg "isinstance" = none) (ht : tyOk t = true) (hgt : Gl X (tyS t)) (hmt : X.mg (tyS t) = none) (hs : noStar [ea] = true) (ha : JE M X (evE C a) ea) :
    JE M X (evE C (.isi a t)) (.Call (.Name "isinstance" p) [ea, .Name (tyS t) p2] [] pos) := by
  intro pins s σ H ρ fs r h I sr tb
  rw [evE] at h
  refine wpAny_Call_Name_kw (ld_blt I hg hm isi_boot ?_)
  have st : noStar [ea, .Name (tyS t) p2] = true := by
    cases ea <;> first | rfl | cases hs
  refine PyProof.Rows.callWith_builtin1 ?_ (star_cons st) (star_any (noStar_tail st))
  rw [star_cons st]
  refine Calls.spliced_cons (bindO ha h (Nw.start I sr tb) fun w ρ1 H1 fs1 v u s1 h1 n1 k1 rv1 q1 => ?_)
  split at h1
  · obtain ⟨b, hb, er⟩ := map_some h1
    cases t <;> first | (cases hb; done) | (cases ht; done)
  · split at h1
    · rename_i d hl
      obtain ⟨b, hb, er⟩ := map_some h1
      subst er
      have rr := read n1.sr q1 hl
      refine Calls.spliced_cons (ld_blt n1.inv hgt hmt (ty_boot t ht) ?_ (by cases t <;> first | (cases ht; done) | decide) (by cases t <;> first | (cases ht; done) | decide))
      refine Calls.spliced_nil ?_
      refine thn (call_use (r := rIsi X.K) (Q := fun v H' => v = .bl b ∧ H' = H1) (xs := [v, .ty (tyN t)]) (fun _ => call_isi) n1.inv (.cons rv1 (.cons rfl .nil)) ⟨v, .ty (tyN t), _, _, b, rfl, .ty _, tyX_of rr hb, kit_ty (kit_isi hb), rfl, rfl⟩) fun u s' p => ep_po p fun v' H' I' rv q => ?_
      obtain ⟨rfl, rfl⟩ := q
      exact po_d (n1.same I') rv (.bl b)
    · cases h1

/-! ### methods -/
/-- a list of one's own is written -/
theorem Nw.write {i : Nat} {a : Addr} {vs vs' : List V} {ds ds' : List D} (n : Nw M X pins σ ρ H0 fs0 H fs s) (e : ρ[i]? = some (.c (.l ds))) (ev : σ[i]? = some (some (.ref a))) (ha : H a = some (.lst vs)) (hf : fs.getD i [] = [a])
    (I : Inv X pins σ (upd H a (.lst vs')) s') (q : RpsX X H vs' ds') : Nw M X pins σ (ρ.set i (.c (.l ds'))) H0 fs0 (upd H a (.lst vs')) fs s' := by
  have f : Fr [a] H (upd H a (.lst vs')) := Fr.write ha trivial (by simp)
  have am : a ∈ fs.flatten := mem_flat.mpr ⟨i, by rw [hf]; simp⟩
  refine ⟨I, ⟨by rw [List.length_set]; exact n.sr.1, by rw [List.length_set]; exact n.sr.2.1, fun j sj ej => ?_, n.sr.2.2.2⟩, n.fr.trans f fun x hx => ?_, n.gw, tabs_upd n.tb ha (fun _ z => nomatch z) (fun _ z => nomatch z)⟩
  · by_cases z : i = j
    · subst z
      rw [List.getElem?_set_self (lt_of_get e)] at ej
      cases ej
      exact ⟨.ref a, getD_some ev, a, vs', rfl, hf, upd_same, q.kd f.kd⟩
    · rw [List.getElem?_set_ne z] at ej
      refine (n.sr.2.2.1 j sj ej).kp f fun b hb hb2 => ?_
      have : b = a := by simpa using hb2
      subst this
      have : b ∉ (fs.set i []).flatten := set_none_mem n.sr.2.2.2 (by rw [hf]; simp)
      refine this (mem_flat.mpr ⟨j, ?_⟩)
      rw [getD_set_ne z]; exact hb
  · have : x = a := by simpa using hx
    subst this
    exact n.gw _ am
def mtS : Mt → Str
  | .append => "append" | .pop => "pop" | .popAt => "pop" | .remove => "remove" | .index => "index" | .get => "get" | .join => "join" | .split => "split" | .count => "count" | .partition => "partition" | .replace => "replace"
def mtI : Mt → String
  | .append => "list.append" | .pop => "list.pop" | .popAt => "list.pop" | .remove => "list.remove" | .index => "list.index" | .get => "dict.get" | .join => "str.join" | .split => "str.split" | .count => "str.count" | .partition => "str.partition" | .replace => "str.replace"
/-- the receivers that are served: no call of super -/
def plainBase : Expr → Bool
  | .Call _ _ _ _ => false
  | _ => true
theorem base_of {o : Expr} {env : PySem.Env} {name : Str} (h : plainBase o = true) : attributeBase o name env (eval o env) = eval o env := by
  cases o <;> first | rfl | cases h
theorem rps_last : ∀ {vs : List V} {ds : List D} {d : D}, RpsX X H vs ds → ds.getLast? = some d → ∃ v, vs[vs.length - 1]? = some v ∧ RpX X H v d := fun {vs ds d} r h => by
  rw [List.getLast?_eq_getElem?] at h
  obtain ⟨v, h1, h2⟩ := r.get h
  exact ⟨v, by rw [r.length]; exact h1, h2⟩
theorem mt_use {id : String} {r : V → List V → Hp → VK → Prop} (hr : ∀ E, MtR (X.wish E) id r) {x : V} {xs : List V} {v : Value} {us : List Value} {Q : VK} {E : Value → Shared → Prop} (I : Inv X pins σ H s) (rx : RelV x v) (rs : Vals xs us) (h : r x xs H Q) :
    wpAny (model X.prog X.w) X.A (call (.builtin id) (v :: us)) (EP X pins σ Q) E s :=
  wpAny_mono (hr E pins s σ H x xs v us Q (I.wish E) rx rs h) (fun _ _ ⟨v, H', I', r, q⟩ => ⟨v, H', I'.unwish, r, q⟩) fun _ _ z => z
theorem rps1 {vs : List V} {d : D} (r : RpsX X H vs [d]) : ∃ v, vs = [v] ∧ RpX X H v d := by
  cases r with
  | cons a t => cases t; exact ⟨_, rfl, a⟩
/-- a list method that writes -/
theorem mtL_ok {m : Mt} {i : Nat} {a : Addr} {vs us' : List V} {us : List Value} {xs ds : List D} {p : D × List D} {E : Value → Shared → Prop} (n : Nw M X pins σ ρ H0 fs0 H fs s) (e : ρ[i]? = some (.c (.l xs))) (ev : σ[i]? = some (some (.ref a))) (ha : H a = some (.lst vs)) (hf : fs.getD i [] = [a])
    (q : RpsX X H vs xs) (qs : RpsX X H us' ds) (rv : Vals us' us) (h : mtL m xs ds = some p) :
    wpAny (model X.prog X.w) X.A (call (.builtin (mtI m)) (.ref a :: us)) (PO M X pins σ H0 fs0 (.ok (.d p.1) (ρ.set i (.c (.l p.2))))) E s := by
  have fin : ∀ {id : String} {r : V → List V → Hp → VK → Prop} {y : V} {vs' : List V}, (∀ E, MtR (X.wish E) id r) → r (.ref a) us' H (fun v H' => v = y ∧ H' = upd H a (.lst vs')) → RpX X H y p.1 → RpsX X H vs' p.2 →
      wpAny (model X.prog X.w) X.A (call (.builtin id) (.ref a :: us)) (PO M X pins σ H0 fs0 (.ok (.d p.1) (ρ.set i (.c (.l p.2))))) E s := fun {id r y vs'} hr h2 ry rq => by
    refine thn (mt_use (x := .ref a) (v := .ref a) hr n.inv rfl rv h2) fun u s' z => ep_po z fun v' H' I' rv' q' => ?_
    obtain ⟨rfl, rfl⟩ := q'
    have f : Fr [a] H (upd H a (.lst vs')) := Fr.write ha trivial (by simp)
    exact po_d (n.write e ev ha hf I' rq) rv' (ry.kd f.kd)
  cases m with
  | append =>
    replace h : mtAppend xs ds = some p := h
    unfold mtAppend at h
    split at h
    · split at h
      · rename_i hb
        cases h
        obtain ⟨v, rfl, r1⟩ := rps1 qs
        have hz : vs.length < sizeLine := by
          have : big < sizeLine := by rw [sizeLine_eq]; decide
          rw [q.length]; omega
        exact fin (id := "list.append") (r := rAppend) (y := .non) (fun _ => mt_append) ⟨a, vs, v, rfl, rfl, ha, hz, rfl, rfl⟩ .non (q.append (.cons r1 .nil))
      · cases h
    · cases h
  | pop =>
    replace h : mtPop xs ds = some p := h
    unfold mtPop at h
    split at h
    · split at h
      · rename_i x hx
        cases h
        cases qs
        obtain ⟨v, h1, h2⟩ := rps_last q hx
        exact fin (id := "list.pop") (r := rPop) (y := v) (fun _ => mt_pop) ⟨a, vs, v, rfl, rfl, ha, h1, rfl, rfl⟩ h2 q.dropLast
      · cases h
    · cases h
  | popAt =>
    replace h : mtPopAt xs ds = some p := h
    unfold mtPopAt at h
    split at h
    · rename_i k0
      split at h
      · rename_i k hk
        split at h
        · rename_i x hx
          split at h
          · rename_i hb
            cases h
            obtain ⟨v, rfl, r1⟩ := rps1 qs
            cases r1
            obtain ⟨y, h1, h2⟩ := q.get hx
            rw [ix_eq] at hk
            obtain ⟨z1, z2, z3, z4⟩ := ixN_seq hk
            have hb2 : xs.length ≤ 16000000 := hb
            exact fin (id := "list.pop") (r := rPopAt) (y := y) (fun _ => mt_popAt) ⟨a, vs, k0, k, y, rfl, rfl, ha, by omega, by omega, by rw [q.length]; exact z1, h1, rfl, rfl⟩ h2 (q.eraseIdx k)
          · cases h
        · cases h
      · cases h
    · cases h
  | _ => cases h
theorem mt_facts (m : Mt) (h : m.writes = true) (hr : m ≠ .remove) : PlainAttrs "list" ∧ PySem.Slot "list" (mtS m) (mtI m) ∧ typeOf (.builtin (mtI m)) = pure (.type "method_descriptor") := by
  cases m with
  | append => exact ⟨F.plainAttrs_list, F.slot_list_append, rfl⟩
  | pop => exact ⟨F.plainAttrs_list, F.slot_list_pop, rfl⟩
  | popAt => exact ⟨F.plainAttrs_list, F.slot_list_pop, rfl⟩
  | remove => exact absurd rfl hr
  | _ => cases h
/-- o.m(..), a list's method that writes -/
theorem je_mtw {m : Mt} {a : E} {l : Es} {o e : Expr} {es : List Expr} {apos : Pos} (hw : m.writes = true) (hr : m ≠ .remove) (hb : plainBase o = true) (hs : noStar (e :: es) = true) (hlen : decide ((e :: es).length < 30) = true) (hline : (apos.endLine == pos.line) = true) (ha : JE M X (evE C a) o) (hl : JA M X (evEs C l) (e :: es)) :
    JE M X (evE C (.mth m a l)) (.Call (.Attribute o (mtS m) apos) (e :: es) [] pos) := by
  intro pins s σ H ρ fs r h I sr tb
  rw [evE] at h
  obtain ⟨pa, sl, hty⟩ := mt_facts m hw hr
  refine wpAny_Call_method_late (base_of hb) ?_ hline rfl (bindE ha h (Nw.start I sr tb) fun w ρ1 H1 fs1 v fp u s1 h1 n1 f1 g1 rv1 rw1 nd1 fr1 => ?_)
  · rw [star_all hs]
    show (true && true && decide ((e :: es).length + 0 + 0 < 30)) = true
    rw [Bool.and_self, Bool.true_and]
    exact hlen
  · rw [hw] at h1
    dsimp only at h1
    split at h1
    · rename_i i
      split at h1
      · rename_i xs0 e0
        have ev : σ[i]? = some (some v) := rw1.2
        obtain ⟨v', e2, a', vs, ea', hf, ha', q⟩ := n1.sr.slot e0
        rw [getD_some ev] at e2; cases e2
        subst ea'
        cases rv1
        obtain ⟨t1, t2⟩ := tyV_is (T := "list") (x := .ref a') (v := .ref a') n1.inv rfl (.inl ⟨rfl, vs, SqL.of ha'⟩)
        refine ⟨"list", mtI m, pa, sl, hty, t1, t2, ?_⟩
        have key := bindA (pos := pos) (K := fun us s2 => wpAny (model X.prog X.w) X.A (call (.builtin (mtI m)) (.ref a' :: us)) (PO M X pins σ H fs r) (PX M X σ H fs r) s2) hl h1 n1 fun ws ρ2 H2 fs2 us' fps us s2 h2 n2 f2 g2 rvs rws nd fr => by
          split at h2
          · rename_i ds ρ3 he
            split at h2
            · rename_i xs e3
              obtain ⟨p, hp, er⟩ := map_some h2
              subst er
              obtain ⟨H3, fs3, n3, qs, _, _⟩ := escapes n2 rws nd (fun a ha => n1.back (fr a ha)) he
              obtain ⟨v3, e4, a3, vs3, ea3, hf3, ha3, q3⟩ := n3.sr.slot e3
              rw [getD_some ev] at e4; cases e4
              cases ea3
              exact mtL_ok n3 e3 ev ha3 hf3 q3 qs rvs hp
            · cases h2
          · cases h2
        have hpl : (backTo pos (starEach es X.env)).any (·.1) = false := star_any (noStar_tail hs)
        rw [star_cons hs] at key ⊢
        exact Calls.callWith_builtin (by show (false || (backTo pos (starEach es X.env)).any (·.1)) = false; rw [hpl]; rfl) (Calls.evalArgs_plain key)
      · cases h1
    · cases h1
/-- .. without arguments -/
theorem je_mtw0 {m : Mt} {a : E} {o : Expr} {apos : Pos} (hw : m.writes = true) (hr : m ≠ .remove) (hb : plainBase o = true) (hline : (apos.endLine == pos.line) = true) (ha : JE M X (evE C a) o) :
    JE M X (evE C (.mth m a .nil)) (.Call (.Attribute o (mtS m) apos) [] [] pos) := by
  intro pins s σ H ρ fs r h I sr tb
  rw [evE] at h
  obtain ⟨pa, sl, hty⟩ := mt_facts m hw hr
  refine wpAny_Call_method0_late (base_of hb) hline (bindE ha h (Nw.start I sr tb) fun w ρ1 H1 fs1 v fp u s1 h1 n1 f1 g1 rv1 rw1 nd1 fr1 => ?_)
  rw [hw] at h1
  dsimp only at h1
  split at h1
  · rename_i i
    split at h1
    · rename_i xs0 e0
      have ev : σ[i]? = some (some v) := rw1.2
      obtain ⟨v', e2, a', vs, ea', hf, ha', q⟩ := n1.sr.slot e0
      rw [getD_some ev] at e2; cases e2
      subst ea'
      cases rv1
      obtain ⟨t1, t2⟩ := tyV_is (T := "list") (x := .ref a') (v := .ref a') n1.inv rfl (.inl ⟨rfl, vs, SqL.of ha'⟩)
      refine ⟨"list", mtI m, pa, sl, hty, t1, t2, Calls.callWith_builtin rfl (PySem.evalArgs_none ?_)⟩
      rw [evEs, R.bind_ok, escs] at h1
      dsimp only at h1
      rw [e0] at h1
      obtain ⟨p, hp, er⟩ := map_some h1
      subst er
      exact mtL_ok n1 e0 ev ha' hf q .nil .nil hp
    · cases h1
  · cases h1
end
end Mi
set_option Elab.async false
set_option linter.all false
set_option maxRecDepth 100000
set_option maxHeartbeats 2000000
/-! MiL: what a def promises; calls. -/
namespace Mi
open PySem PySem.Spec PyProof.Rows L2 LamX
section
variable {M : Wd} {X Y : Cx} {H H' H0 : Hp} {σ σ' : St} {ρ ρ' : Env} {fs fs' fs0 : List (List Addr)} {pins : List (Addr × Obj)} {s s' : Shared} {C : Ctx} {pos : Pos}
/-! ### from one context to another -/
structure SameW (X Y : Cx) : Prop where
  p : X.prog = Y.prog
  w : X.w = Y.w
  k : X.K = Y.K
theorem SameW.symm (e : SameW X Y) : SameW Y X := ⟨e.p.symm, e.w.symm, e.k.symm⟩
theorem SameW.rp (e : SameW X Y) {v : V} {d : D} (r : RpX X H v d) : RpX Y H v d := by
  unfold RpX at *
  rw [← e.p, ← e.w, ← e.k]; exact r
theorem SameW.rps (e : SameW X Y) {v : List V} {d : List D} (r : RpsX X H v d) : RpsX Y H v d := by
  unfold RpsX at *
  rw [← e.p, ← e.w, ← e.k]; exact r
theorem SameW.rc (e : SameW X Y) {v : V} {c : Cn} {fp : List Addr} (r : RC X H v c fp) : RC Y H v c fp := by
  cases c with
  | p d => exact ⟨r.1, e.rp r.2⟩
  | l xs => obtain ⟨a, vs, h1, h2, h3, h4⟩ := r; exact ⟨a, vs, h1, h2, h3, e.rps h4⟩
  | d kvs =>
    obtain ⟨a, es, ep, h1, h2, h3, h4, h5⟩ := r
    refine ⟨a, es, ep, h1, h2, h3, h4, ?_⟩
    rw [← e.p, ← e.w, ← e.k]; exact h5
theorem SameW.rfs (e : SameW X Y) : ∀ {vfs cs ns fps}, RFs X H vfs cs ns fps → RFs Y H vfs cs ns fps
  | _, _, _, _, .nil => .nil
  | _, _, _, _, .cons r t => .cons (e.rc r) (SameW.rfs e t)
theorem SameW.rs (e : SameW X Y) {ov : Option V} {s : Slot} {fp : List Addr} (r : RS M X H ov s fp) : RS M Y H ov s fp := by
  cases s with
  | x => exact r
  | c c => obtain ⟨v, h, q⟩ := r; exact ⟨v, h, e.rc q⟩
  | o k cs =>
    rcases r with ⟨a, dx, vfs, fps, h1, h2, h3, h4⟩ | r
    · exact .inl ⟨a, dx, vfs, fps, h1, h2, e.rfs h3, h4⟩
    · exact .inr r
theorem SameW.rw' (e : SameW X Y) {v : V} {w : W} {fp : List Addr} (r : RW M X H σ v w fp) : RW M Y H σ v w fp := by
  cases w with
  | d x => exact ⟨r.1, e.rp r.2⟩
  | m sl => exact ⟨e.rs r.1, r.2⟩
  | s i => exact r

/-! ### arguments -/
inductive Ars (M : Wd) (X : Cx) (H : Hp) : List V → List Slot → List (List Addr) → Prop
  | nil : Ars M X H [] [] []
  | cons {v sl fp vs ss fps} : RS M X H (some v) sl fp → Ars M X H vs ss fps → Ars M X H (v :: vs) (sl :: ss) (fp :: fps)
theorem SameW.ars (e : SameW X Y) : ∀ {vs ss fps}, Ars M X H vs ss fps → Ars M Y H vs ss fps
  | _, _, _, .nil => .nil
  | _, _, _, .cons r t => .cons (e.rs r) (SameW.ars e t)
theorem Ars.len : ∀ {vs ss fps}, Ars M X H vs ss fps → vs.length = ss.length ∧ fps.length = ss.length
  | _, _, _, .nil => ⟨rfl, rfl⟩
  | _, _, _, .cons _ t => ⟨by simp [(Ars.len t).1], by simp [(Ars.len t).2]⟩
theorem Ars.thr : ∀ {vs ss fps}, Ars M X H vs ss fps → Thr H fps.flatten
  | _, _, _, .nil => fun b hb => by simp at hb
  | _, _, _, .cons r t => fun b hb => by
    rw [List.flatten_cons] at hb
    rcases List.mem_append.mp hb with z | z
    · exact r.thr b z
    · exact Ars.thr t b z
/-- a slot's things taken out -/
theorem SR.kill (r : SR M X H σ ρ fs) (i : Nat) : SR M X H σ (ρ.set i .x) (fs.set i []) :=
  r.put rfl (fun _ _ => rfl) rfl List.nodup_nil (fun _ z => nomatch z)
theorem set_getD_mem {a : Addr} : ∀ {fs : List (List Addr)} {i : Nat}, a ∈ fs.flatten → a ∈ (fs.set i []).flatten ∨ a ∈ fs.getD i []
  | [], _, h => by simp at h
  | l :: fs, 0, h => by
    simp only [List.set_cons_zero, List.flatten_cons, List.mem_append, List.nil_append] at h ⊢
    rcases h with h | h
    · exact .inr (by simpa using h)
    · exact .inl h
  | l :: fs, i + 1, h => by
    simp only [List.set_cons_succ, List.flatten_cons, List.mem_append] at h ⊢
    rcases h with h | h
    · exact .inl (.inl h)
    · rcases set_getD_mem (i := i) h with z | z
      · exact .inl (.inr z)
      · exact .inr (by simpa using z)
theorem RS.nodup_of_flat {fs : List (List Addr)} {i : Nat} (n : fs.flatten.Nodup) : (fs.getD i []).Nodup := by
  by_cases h : i < fs.length
  · rw [List.getD_eq_getElem?_getD, List.getElem?_eq_getElem h]
    exact (List.pairwise_flatten.mp n).1 _ (List.getElem_mem h)
  · rw [List.getD_eq_getElem?_getD, List.getElem?_eq_none (by omega)]
    exact List.nodup_nil
theorem lend_ok : ∀ {vs : List V} {ws : List W} {fps : List (List Addr)} {ρ : Env} {fs : List (List Addr)} {ss : List Slot} {ρ' : Env}, SR M X H σ ρ fs → RWs M X H σ vs ws fps → (fs.flatten ++ fps.flatten).Nodup → lend ρ ws = some (ss, ρ') →
    ∃ fs' fpa, SR M X H σ ρ' fs' ∧ Ars M X H vs ss fpa ∧ (fs'.flatten ++ fpa.flatten).Nodup ∧ ∀ a ∈ fs'.flatten ++ fpa.flatten, a ∈ fs.flatten ++ fps.flatten
  | _, _, _, ρ, fs, ss, ρ', sr, .nil, nd, h => by
    cases h
    exact ⟨fs, [], sr, .nil, by simpa using nd, fun a ha => by simpa using ha⟩
  | v :: vs, w :: ws, fp :: fps, ρ, fs, ss, ρ', sr, .cons r t, nd, h => by
    rw [List.flatten_cons] at nd
    obtain ⟨n1, n2, n3, n4⟩ := nd_assoc nd
    -- the head's things are fp0, out of what is left fs0
    have fin : ∀ {sl : Slot} {fp0 : List Addr} {ρ0 : Env} {fs0 : List (List Addr)} {p : List Slot × Env}, SR M X H σ ρ0 fs0 → (fs0.flatten ++ fps.flatten).Nodup → RS M X H (some v) sl fp0 → sl ≠ .x → fp0.Nodup → (∀ a ∈ fp0, a ∉ fs0.flatten ++ fps.flatten) → (∀ a ∈ fs0.flatten, a ∈ fs.flatten) → (∀ a ∈ fp0, a ∈ fs.flatten ++ fp) →
        lend ρ0 ws = some p → (ss, ρ') = (sl :: p.1, p.2) → ∃ fs' fpa, SR M X H σ ρ' fs' ∧ Ars M X H (v :: vs) ss fpa ∧ (fs'.flatten ++ fpa.flatten).Nodup ∧ ∀ a ∈ fs'.flatten ++ fpa.flatten, a ∈ fs.flatten ++ (fp :: fps).flatten := fun {sl fp0 ρ0 fs0 p} sr0 nd0 rs0 nx nf df sub sub2 hl e => by
      obtain ⟨p1, p2⟩ := p
      cases e
      obtain ⟨fs', fpa, q1, q2, q3, q4⟩ := lend_ok sr0 t nd0 hl
      refine ⟨fs', fp0 :: fpa, q1, .cons rs0 q2, ?_, fun a ha => ?_⟩
      · rw [List.flatten_cons]
        have m1 := List.nodup_append.mp q3
        have ap : ∀ a ∈ fp0, a ∉ fs'.flatten ++ fpa.flatten := fun a ha hb => df a ha (q4 a hb)
        exact List.nodup_append.mpr ⟨m1.1, List.nodup_append.mpr ⟨nf, m1.2.1, fun a ha b hb e => ap a ha (List.mem_append_right _ (e ▸ hb))⟩, fun a ha b hb e => by
          subst e
          rcases List.mem_append.mp hb with z | z
          · exact ap a z (List.mem_append_left _ ha)
          · exact m1.2.2 a ha a z rfl⟩
      · rw [List.flatten_cons] at ha ⊢
        rcases List.mem_append.mp ha with z | z
        · rcases List.mem_append.mp (q4 a (List.mem_append_left _ z)) with y | y
          · exact List.mem_append_left _ (sub a y)
          · exact List.mem_append_right _ (List.mem_append_right _ y)
        · rcases List.mem_append.mp z with z | z
          · rcases List.mem_append.mp (sub2 a z) with y | y
            · exact List.mem_append_left _ y
            · exact List.mem_append_right _ (List.mem_append_left _ y)
          · rcases List.mem_append.mp (q4 a (List.mem_append_right _ z)) with y | y
            · exact List.mem_append_left _ (sub a y)
            · exact List.mem_append_right _ (List.mem_append_right _ y)
    cases w with
    | d x =>
      rw [lend] at h
      obtain ⟨p, hl, e⟩ := map_some h
      exact fin (sl := .p x) (fp0 := []) sr n2 ⟨v, rfl, rfl, r.2⟩ Slot.noConfusion List.nodup_nil (fun _ z => nomatch z) (fun _ z => z) (fun _ z => nomatch z) hl e.symm
    | m sl =>
      rw [lend] at h
      obtain ⟨p, hl, e⟩ := map_some h
      refine fin (sl := sl) (fp0 := fp) sr n2 r.1 r.2 (List.nodup_append.mp n1).2.1 (fun a ha hb => ?_) (fun _ z => z) (fun a ha => List.mem_append_right _ ha) hl e.symm
      rcases List.mem_append.mp hb with z | z
      · exact nd_apart n1 a z ha
      · exact n4 a z (List.mem_append_right _ ha)
    | s i =>
      have ev : σ[i]? = some (some v) := r.2
      have hslot : ∀ sl, ρ[i]? = some sl → RS M X H (some v) sl (fs.getD i []) := fun sl e => by
        have := sr.slot e
        rw [getD_some ev] at this
        exact this
      have lent : ∀ sl p, ρ[i]? = some sl → sl ≠ .x → lend (ρ.set i .x) ws = some p → (ss, ρ') = (sl :: p.1, p.2) → ∃ fs' fpa, SR M X H σ ρ' fs' ∧ Ars M X H (v :: vs) ss fpa ∧ (fs'.flatten ++ fpa.flatten).Nodup ∧ ∀ a ∈ fs'.flatten ++ fpa.flatten, a ∈ fs.flatten ++ (fp :: fps).flatten := fun sl p e hx hl e2 => by
        refine fin (sr.kill i) (nd_sub n2 (set_sub fs i)) (hslot sl e) hx (RS.nodup_of_flat sr.2.2.2) (fun a ha hb => ?_) (fun a ha => (set_sub fs i).subset ha) (fun a ha => List.mem_append_left _ (mem_flat.mpr ⟨i, ha⟩)) hl e2
        rcases List.mem_append.mp hb with z | z
        · exact set_none_mem sr.2.2.2 ha z
        · exact nd_apart n2 a (mem_flat.mpr ⟨i, ha⟩) z
      rw [lend] at h
      split at h
      · rename_i d e
        obtain ⟨p, hl, e2⟩ := map_some h
        obtain ⟨v', e3, q⟩ := hslot _ e
        cases e3
        exact fin (sl := .p d) (fp0 := []) sr n2 ⟨v, rfl, rfl, q.2⟩ Slot.noConfusion List.nodup_nil (fun _ z => nomatch z) (fun _ z => z) (fun _ z => nomatch z) hl e2.symm
      · cases h
      · rename_i sl hx1 hx2 e
        obtain ⟨p, hl, e2⟩ := map_some h
        exact lent sl p e (fun z => hx2 z) hl e2.symm
      · cases h
theorem giveBack_ok {ρ0 : Env} : ∀ {vs : List V} {ws : List W} {ss : List Slot} {fps : List (List Addr)} {ρ : Env} {fs : List (List Addr)} {ρ2 : Env} {ex : List Addr}, SR M X H σ ρ fs → Ars M X H vs ss fps → (∀ (j i : Nat) (v : V), ws[j]? = some (W.s i) → vs[j]? = some v → σ[i]? = some (some v)) → (fs.flatten ++ (fps.flatten ++ ex)).Nodup → giveBack ρ0 ρ ws ss = some ρ2 →
    ∃ fs2, SR M X H σ ρ2 fs2 ∧ (fs2.flatten ++ ex).Nodup ∧ ∀ a ∈ fs2.flatten, a ∈ fs.flatten ++ fps.flatten
  | [], ws, [], [], ρ, fs, ρ2, ex, sr, .nil, hv, nd, h => by
    cases ws with
    | nil =>
      cases h
      exact ⟨fs, sr, by simpa using nd, fun a ha => List.mem_append_left _ ha⟩
    | cons w ws => cases w <;> cases h
  | v :: vs, ws, sl :: ss, fp :: fps, ρ, fs, ρ2, ex, sr, .cons r t, hv, nd, h => by
    rw [List.flatten_cons, List.append_assoc] at nd
    obtain ⟨n1, n2, n3, n4⟩ := nd_assoc nd
    have drop : ∀ w ws', ws = w :: ws' → giveBack ρ0 ρ ws' ss = some ρ2 → ∃ fs2, SR M X H σ ρ2 fs2 ∧ (fs2.flatten ++ ex).Nodup ∧ ∀ a ∈ fs2.flatten, a ∈ fs.flatten ++ (fp :: fps).flatten := fun w ws' ew hg => by
      subst ew
      obtain ⟨fs2, q1, q2, q3⟩ := giveBack_ok sr t (fun j i v h1 h2 => hv (j + 1) i v (by simpa using h1) (by simpa using h2)) n2 hg
      refine ⟨fs2, q1, q2, fun a ha => ?_⟩
      rw [List.flatten_cons]
      rcases List.mem_append.mp (q3 a ha) with z | z
      · exact List.mem_append_left _ z
      · exact List.mem_append_right _ (List.mem_append_right _ z)
    cases ws with
    | nil => cases h
    | cons w ws =>
      cases w with
      | d x => exact drop _ ws rfl h
      | m sl' => exact drop _ ws rfl h
      | s i =>
        rw [giveBack] at h
        split at h
        · split at h
          · have ev : σ[i]? = some (some v) := hv 0 i v rfl rfl
            have nf : fp.Nodup := (List.nodup_append.mp n1).2.1
            have sr2 : SR M X H σ (ρ.set i sl) (fs.set i fp) := sr.put rfl (fun _ _ => rfl) (by rw [getD_some ev]; exact r) nf (fun a ha hb => nd_apart n1 a ((set_sub fs i).subset hb) ha)
            have sub : ∀ a ∈ (fs.set i fp).flatten, a ∈ fs.flatten ++ fp := fun a ha => by
              rcases mem_set_flat ha with z | z
              · exact List.mem_append_right _ z
              · exact List.mem_append_left _ ((set_sub fs i).subset z)
            have nd2 : ((fs.set i fp).flatten ++ (fps.flatten ++ ex)).Nodup := List.nodup_append.mpr ⟨sr2.2.2.2, (List.nodup_append.mp n3).2.1, fun a ha b hb e => n4 b hb (by rw [← e]; exact sub a ha)⟩
            obtain ⟨fs2, q1, q2, q3⟩ := giveBack_ok sr2 t (fun j i v h1 h2 => hv (j + 1) i v (by simpa using h1) (by simpa using h2)) nd2 h
            refine ⟨fs2, q1, q2, fun a ha => ?_⟩
            rw [List.flatten_cons]
            rcases List.mem_append.mp (q3 a ha) with z | z
            · rcases List.mem_append.mp (sub a z) with y | y
              · exact List.mem_append_left _ y
              · exact List.mem_append_right _ (List.mem_append_left _ y)
            · exact List.mem_append_right _ (List.mem_append_right _ z)
          · exact drop _ ws rfl h
        · cases h
theorem RWs.at : ∀ {vs ws fps}, RWs M X H σ vs ws fps → ∀ (j i : Nat) (v : V), ws[j]? = some (.s i) → vs[j]? = some v → σ[i]? = some (some v)
  | _, _, _, .nil, j, i, v, h, _ => by simp at h
  | _, _, _, .cons r t, 0, i, v, h1, h2 => by
    simp at h1 h2; subst h1; subst h2; exact r.2
  | _, _, _, .cons r t, j + 1, i, v, h1, h2 => RWs.at t j i v (by simpa using h1) (by simpa using h2)

/-! ### what a def promises -/
def SpF (M : Wd) (P : Program) (w : World) (K : PySem.W.Frag) (cal : Cal) (np ix : Nat) : Sp := fun vs H Q E => ∃ (X : Cx) (ss : List Slot) (fps : List (List Addr)) (r : Except Nat W) (ss' : List Slot),
  X.prog = P ∧ X.w = w ∧ X.K = K ∧ ss.length = np ∧ Ars M X H vs ss fps ∧ fps.flatten.Nodup ∧ Tabs M.T H ∧ cal ix ss = some (r, ss') ∧
  (∀ w' v H' fps' fp, r = .ok w' → Ars M X H' vs ss' fps' → RW M X H' [] v w' fp → (fps'.flatten ++ fp).Nodup → Fr fps.flatten H H' → (∀ a ∈ fps'.flatten ++ fp, a ∈ fps.flatten ∨ H a = none) → Tabs M.T H' → Q v H') ∧
  (∀ c H' fps', r = .error c → Ars M X H' vs ss' fps' → fps'.flatten.Nodup → Fr fps.flatten H H' → (∀ a ∈ fps'.flatten, a ∈ fps.flatten ∨ H a = none) → Tabs M.T H' → E (.ref (M.exA c)) none H')
/-- the callee runs -/
theorem run_d {k : Nat} {f : Addr} {fd : FuncData} {ps : List Str} {sp : Sp} {us : List Value} {vs : List V} {Q : VK} {E : XK} {Ev : Value → Shared → Prop} (F : FnOk X.prog X.w X.K X.mg X.base (L2N.CX X.prog X.w) k f fd ps sp) (hr : Room k X.A) (hb : Binds X.K fd ps [])
    (I : Inv X pins σ H s) (r : Vals vs us) (h : sp vs H Q E) (hx : ∀ e s', L2N.XE X (fun cls d σ' H' => σ' = σ ∧ E cls d H') e s' → Ev e s') : wpAny (model X.prog X.w) X.A (call (.ref f) us) (EP X pins σ Q) Ev s := by
  have hl : us.length = ps.length := by rw [← r.length]; exact F.len _ _ _ _ h
  have hb' := hb s us I.kIn (by rw [List.append_nil]; exact hl)
  rw [List.append_nil] at hb'
  refine wpAny_call (codeAny_mono (F.run X.A X.stack s H ⟨us, []⟩ us vs Q E hr I.env0 hb' r h) fun r s' hq => ?_)
  cases r with
  | error e => exact hx e s' (L2N.XE.of_call I (fun cls d H' h => ⟨rfl, h⟩) hq)
  | ok fl =>
    cases fl with
    | ret u => exact I.after hq
    | next => exact False.elim hq
    | brk => exact False.elim hq
    | cont => exact False.elim hq
theorem je_call {ix k : Nat} {fa : Addr} {fd : FuncData} {ps : List Str} {l : Es} {x : Str} {e : Expr} {es : List Expr} {p : Pos} (F : FnOk X.prog X.w X.K X.mg X.base (L2N.CX X.prog X.w) k fa fd ps (SpF M X.prog X.w X.K C.cal ps.length ix)) (hr : Room k X.A) (hg : Gl X x) (hm : X.mg x = some (.ref fa)) (hk : PySem.W.keepIn X.K (.ref fa) = true)
    (hb : Binds X.K fd ps []) (hd : (x == ("__debug__" : Str)) = false) (hs : noStar (e :: es) = true) (hlen : ∀ ss r, C.cal ix ss = some r → ss.length = ps.length) (hl : JA M X (evEs C l) (e :: es)) : JE M X (evE C (.call ix l)) (.Call (.Name x p) (e :: es) [] pos) := by
  intro pins s σ H ρ fs r h I sr tb
  rw [evE] at h
  refine wpAny_Call_Name_kw (ld_glob I hg hm ?_ hd)
  refine PySem.W.callWith_K (h₀ := X.base) I.ok.mod.kin hk (bindA hl h (Nw.start I sr tb) fun ws0 ρ1 H10 fs1 vs fps0 us s1 h1 n10 f10 g10 rvs rws0 nd0 fr0 => ?_) (star_cons hs) (star_any (noStar_tail hs))
  obtain ⟨H1, fps, n1, _, rws, nd, sub0⟩ := freezesW n10 rws0 nd0 fr0
  have fr : ∀ a ∈ fps.flatten, a ∈ fs.flatten ∨ H a = none := fun a ha => fr0 a (sub0 a ha)
  clear fr0 sub0 nd0 rws0 n10 f10 g10
  generalize ws0.map W.fz = ws at h1 rws
  refine ⟨n1.inv.kIn, ?_⟩
  split at h1
  · rename_i ss ρk hl2
    obtain ⟨fsk, fpa, srk, ars, ndk, subk⟩ := lend_ok n1.sr rws nd hl2
    have back : ∀ a ∈ fs1.flatten ++ fps.flatten, a ∈ fs.flatten ∨ H a = none := fun a ha => (List.mem_append.mp ha).elim (n1.gw a) (fr a)
    have go : ∀ (r0 : Except Nat W) (ss' : List Slot) (ρ2 : Env), C.cal ix ss = some (r0, ss') → giveBack ρ1 ρk ws ss' = some ρ2 → ss.length = ps.length → (∀ w', r0 = .ok w' → r = .ok w' ρ2) → (∀ c, r0 = .error c → r = .ex c ρ2) →
        wpAny (model X.prog X.w) X.A (call (.ref fa) us) (PO M X pins σ H fs r) (PX M X σ H fs r) s1 := fun r0 ss' ρ2 hc hg2 hlen hok hex => by
      -- what the caller has behind the call
      have after : ∀ {H' : Hp} {fps' : List (List Addr)} {ex : List Addr}, Ars M X H' vs ss' fps' → (fps'.flatten ++ ex).Nodup → Fr fpa.flatten H1 H' → (∀ a ∈ fps'.flatten ++ ex, a ∈ fpa.flatten ∨ H1 a = none) →
          ∃ fs2, SR M X H' σ ρ2 fs2 ∧ (fs2.flatten ++ ex).Nodup ∧ (∀ a ∈ fs2.flatten ++ ex, a ∈ fs.flatten ∨ H a = none) ∧ Fr fs.flatten H H' := fun {H' fps' ex} ar' nd' f' g' => by
        have srk' : SR M X H' σ ρk fsk := srk.keep f' (nd_apart ndk)
        have nd3 : (fsk.flatten ++ (fps'.flatten ++ ex)).Nodup := List.nodup_append.mpr ⟨srk.2.2.2, nd', fun a ha b hb e => by
          subst e
          rcases g' a hb with z | z
          · exact nd_apart ndk a ha z
          · exact srk.thr.not_new ha z⟩
        obtain ⟨fs2, q1, q2, q3⟩ := giveBack_ok srk' ar' (fun j i v h1 h2 => rws.at j i v h1 h2) nd3 hg2
        have lim : ∀ a ∈ fpa.flatten, a ∈ fs.flatten ∨ H a = none := fun a ha => back a (subk a (List.mem_append_right _ ha))
        have lim2 : ∀ a, (a ∈ fpa.flatten ∨ H1 a = none) → a ∈ fs.flatten ∨ H a = none := fun a ha => ha.elim (lim a) fun z => .inr (n1.fr.none_back z)
        refine ⟨fs2, q1, q2, fun a ha => ?_, n1.fr.trans f' lim⟩
        rcases List.mem_append.mp ha with z | z
        · rcases List.mem_append.mp (q3 a z) with y | y
          · exact back a (subk a (List.mem_append_left _ y))
          · exact lim2 a (g' a (List.mem_append_left _ y))
        · exact lim2 a (g' a (List.mem_append_right _ z))
      have ndp : fpa.flatten.Nodup := (List.nodup_append.mp ndk).2.1
      refine wpAny_mono (run_d (us := us) (vs := vs)
        (Q := fun v H' => ∃ w' fs2 fp, r = .ok w' ρ2 ∧ SR M X H' σ ρ2 fs2 ∧ RW M X H' σ v w' fp ∧ (fs2.flatten ++ fp).Nodup ∧ (∀ a ∈ fs2.flatten ++ fp, a ∈ fs.flatten ∨ H a = none) ∧ Fr fs.flatten H H' ∧ Tabs M.T H')
        (E := fun cls d H' => ∃ c, r = .ex c ρ2 ∧ cls = .ref (M.exA c) ∧ d = none ∧ ∃ fs2, SR M X H' σ ρ2 fs2 ∧ Fr fs.flatten H H' ∧ (∀ a ∈ fs2.flatten, a ∈ fs.flatten ∨ H a = none) ∧ Tabs M.T H')
        (Ev := PX M X σ H fs r) F hr hb n1.inv rvs ?_ ?_) (fun u s2 p => ?_) fun _ _ z => z
      · refine ⟨X, ss, fpa, r0, ss', rfl, rfl, rfl, hlen, ars, ndp, n1.tb, hc, ?_, ?_⟩
        · intro w' v H' fps' fp e1 ar' rw' nd' f' g' t'
          obtain ⟨fs2, q1, q2, q3, q4⟩ := after ar' nd' f' g'
          refine ⟨w', fs2, fp, hok w' e1, q1, ?_, q2, q3, q4, t'⟩
          cases w' with
          | d x => exact rw'
          | m sl => exact rw'
          | s i => exact absurd rw'.2 (by simp)
        · intro c H' fps' e1 ar' nd' f' g' t'
          obtain ⟨fs2, q1, q2, q3, q4⟩ := after (ex := []) ar' (by rw [List.append_nil]; exact nd') f' (by rw [List.append_nil]; exact g')
          exact ⟨c, hex c e1, rfl, rfl, fs2, q1, q4, fun a ha => q3 a (List.mem_append_left _ ha), t'⟩
      · rintro e s' ⟨a, B, sI, pins', σ', H', cls, d, eu, I', nb, up, sky, na, os, ag, es', c, er, ec, ed, fs2, sr2, f2, g2, t2⟩
        exact ⟨c, ρ2, er, a, B, sI, pins', σ', H', cls, d, eu, I', nb, up, sky, na, os, ag, ec, ed, es', fs2, sr2, f2, g2, t2⟩
      · obtain ⟨v, H', I', rv, w', fs2, fp, er, sr2, rw2, nd2, g2, f2, t2⟩ := p
        exact ⟨w', ρ2, H', fs2, v, fp, er, ⟨I', sr2, f2, fun a ha => g2 a (List.mem_append_left _ ha), t2⟩, rv, rw2, nd2, fun a ha => g2 a (List.mem_append_right _ ha)⟩
    split at h1
    · rename_i w ss' hc
      obtain ⟨ρ2, hg2, er⟩ := map_some h1
      exact go _ ss' ρ2 hc hg2 (hlen _ _ hc) (fun w' e => by cases e; exact er.symm) (fun c e => by cases e)
    · rename_i c ss' hc
      obtain ⟨ρ2, hg2, er⟩ := map_some h1
      exact go _ ss' ρ2 hc hg2 (hlen _ _ hc) (fun w' e => by cases e) (fun c e => by cases e; exact er.symm)
    · cases h1
  · cases h1
end
end Mi
set_option Elab.async false
set_option linter.all false
set_option maxRecDepth 100000
set_option maxHeartbeats 2000000
/-! MiM: readings; statements. -/
namespace Mi
open PySem PySem.Spec PyProof.Rows L2 LamX
section
variable (M : Wd) (X : Cx)
def tE (m : Env → R W) : TE := fun σ H Q => ∃ ρ fs r, m ρ = some r ∧ SR M X H σ ρ fs ∧ Tabs M.T H ∧
  (∀ w ρ' v H' fs' fp, r = .ok w ρ' → SR M X H' σ ρ' fs' → RW M X H' σ v w fp → (fs'.flatten ++ fp).Nodup → Fr fs.flatten H H' → (∀ a ∈ fs'.flatten ++ fp, a ∈ fs.flatten ∨ H a = none) → Tabs M.T H' → Q v H') ∧
  ∀ c ρ', r = .ex c ρ' → L2N.Takes X (WEx M X σ H fs c ρ')
def tT (m : Env → R Bool) : TT := fun σ H Q => ∃ ρ fs r, m ρ = some r ∧ SR M X H σ ρ fs ∧ Tabs M.T H ∧
  (∀ b ρ' H' fs', r = .ok b ρ' → SR M X H' σ ρ' fs' → Fr fs.flatten H H' → (∀ a ∈ fs'.flatten, a ∈ fs.flatten ∨ H a = none) → Tabs M.T H' → Q b H') ∧
  ∀ c ρ', r = .ex c ρ' → L2N.Takes X (WEx M X σ H fs c ρ')
def tA (m : Env → R (List W)) : TA := fun σ H Q => ∃ ρ fs r, m ρ = some r ∧ SR M X H σ ρ fs ∧ Tabs M.T H ∧
  (∀ ws ρ' vs H' fs' fps, r = .ok ws ρ' → SR M X H' σ ρ' fs' → RWs M X H' σ vs ws fps → (fs'.flatten ++ fps.flatten).Nodup → Fr fs.flatten H H' → (∀ a ∈ fs'.flatten ++ fps.flatten, a ∈ fs.flatten ∨ H a = none) → Tabs M.T H' → Q vs H') ∧
  ∀ c ρ', r = .ex c ρ' → L2N.Takes X (WEx M X σ H fs c ρ')
/-- a state that a statement comes to -/
structure Stt (np : Nat) (σ : St) (H : Hp) (fs : List (List Addr)) (σ' : St) (ρ' : Env) (H' : Hp) (fs' : List (List Addr)) : Prop where
  sr : SR M X H' σ' ρ' fs'
  fr : Fr fs.flatten H H'
  gw : ∀ a ∈ fs'.flatten, a ∈ fs.flatten ∨ H a = none
  tb : Tabs M.T H'
  kp : ∀ i, i < np → σ'[i]? = σ[i]?
  ln : σ'.length = σ.length
/-- an error's way out of a statement -/
def WS (np : Nat) (σ : St) (H : Hp) (fs : List (List Addr)) (c : Nat) (ρ' : Env) : WX := fun cls d σ' H' => cls = .ref (M.exA c) ∧ d = none ∧ ∃ fs', Stt M X np σ H fs σ' ρ' H' fs'
structure EndsOk (np : Nat) (σ : St) (H : Hp) (fs : List (List Addr)) (o : Out) (D : Ends) : Prop where
  nx : ∀ ρ' σ' H' fs', o = .nx ρ' → Stt M X np σ H fs σ' ρ' H' fs' → D.nx σ' H'
  bk : ∀ ρ' σ' H' fs', o = .bk ρ' → Stt M X np σ H fs σ' ρ' H' fs' → D.bk σ' H'
  rt : ∀ w ρ' v σ' H' fs' fp, o = .rt w ρ' → Stt M X np σ H fs σ' ρ' H' fs' → RW M X H' [] v w fp → (fs'.flatten ++ fp).Nodup → (∀ a ∈ fp, a ∈ fs.flatten ∨ H a = none) → D.rt v H'
  ex : ∀ c ρ', o = .ex c ρ' → L2N.Takes X (WS M X np σ H fs c ρ')
def tS (np : Nat) (m : Env → Option Out) : TS := fun D σ H => ∃ ρ fs o, m ρ = some o ∧ SR M X H σ ρ fs ∧ Tabs M.T H ∧ EndsOk M X np σ H fs o D
end
section
variable {M : Wd} {X Y : Cx} {H H' H0 : Hp} {σ σ' : St} {ρ ρ' : Env} {fs fs' fs0 : List (List Addr)} {pins : List (Addr × Obj)} {s s' : Shared} {C : Ctx} {pos : Pos} {np : Nat}
theorem JE.pe {m : Env → R W} {e : Expr} (h : JE M X m e) : PE X e (tE M X m) := by
  refine ⟨fun pins s σ H Q I hq => ?_⟩
  obtain ⟨ρ, fs, r, hm, sr, tb, hok, hex⟩ := hq
  refine wpAny_mono (h pins s σ H ρ fs r hm I sr tb) (fun u s2 p => ?_) fun u s2 p => ?_
  · obtain ⟨w, ρ', H', fs', v, fp, e1, n, rv, rw', nd, fr⟩ := p
    exact ⟨v, H', n.inv, rv, hok w ρ' v H' fs' fp e1 n.sr rw' nd n.fr (fun a ha => (List.mem_append.mp ha).elim (n.gw a) (fr a)) n.tb⟩
  · obtain ⟨c, ρ', e1, x⟩ := p
    exact hex c ρ' e1 u s2 x
theorem JT.pt {m : Env → R Bool} {e : Expr} (h : JT M X m e) : PT X e (tT M X m) := by
  refine ⟨fun pins s σ H Q I hq => ?_⟩
  obtain ⟨ρ, fs, r, hm, sr, tb, hok, hex⟩ := hq
  refine wpAny_mono (h pins s σ H ρ fs r hm I sr tb) (fun u s2 p => ?_) fun u s2 p => ?_
  · obtain ⟨ρ', H', fs', e1, n⟩ := p
    exact ⟨H', n.inv, hok u ρ' H' fs' e1 n.sr n.fr n.gw n.tb⟩
  · obtain ⟨c, ρ', e1, x⟩ := p
    exact hex c ρ' e1 u s2 x
theorem JA.pa {m : Env → R (List W)} {es : List Expr} (h : JA M X m es) : PA X es (tA M X m) := by
  refine ⟨fun pos pins s σ H Q I hq => ?_⟩
  obtain ⟨ρ, fs, r, hm, sr, tb, hok, hex⟩ := hq
  refine wpAny_mono (h pos pins s σ H ρ fs r hm I sr tb) (fun u s2 p => ?_) fun u s2 p => ?_
  · obtain ⟨ws, ρ', H', fs', vs, fps, e1, n, rv, rw', nd, fr⟩ := p
    exact ⟨vs, H', n.inv, rv, hok ws ρ' vs H' fs' fps e1 n.sr rw' nd n.fr (fun a ha => (List.mem_append.mp ha).elim (n.gw a) (fr a)) n.tb⟩
  · obtain ⟨c, ρ', e1, x⟩ := p
    exact hex c ρ' e1 u s2 x
theorem PS.imp {st : Stmt} {t t' : TS} (h : PS X st t) (i : ∀ D σ H, t' D σ H → t D σ H) : PS X st t' := ⟨fun pins s σ H D I q => h.run pins s σ H D I (i D σ H q)⟩
theorem PSs.imp {st : List Stmt} {t t' : TS} (h : PSs X st t) (i : ∀ D σ H, t' D σ H → t D σ H) : PSs X st t' := ⟨fun pins s σ H D I q => h.run pins s σ H D I (i D σ H q)⟩
/-! ### states -/
theorem Stt.refl (sr : SR M X H σ ρ fs) (tb : Tabs M.T H) : Stt M X np σ H fs σ ρ H fs := ⟨sr, Fr.refl, fun a ha => .inl ha, tb, fun _ _ => rfl, rfl⟩
theorem Stt.trans {σ1 : St} {ρ1 : Env} {H1 : Hp} {fs1 : List (List Addr)} (a : Stt M X np σ H fs σ1 ρ1 H1 fs1) (b : Stt M X np σ1 H1 fs1 σ' ρ' H' fs') : Stt M X np σ H fs σ' ρ' H' fs' :=
  ⟨b.sr, a.fr.trans b.fr a.gw, gw_trans a.fr a.gw b.gw, b.tb, fun i hi => (b.kp i hi).trans (a.kp i hi), b.ln.trans a.ln⟩
theorem Stt.ofE {H1 : Hp} {ρ1 : Env} {fs1 : List (List Addr)} (sr : SR M X H1 σ ρ1 fs1) (f : Fr fs.flatten H H1) (g : ∀ a ∈ fs1.flatten, a ∈ fs.flatten ∨ H a = none) (t : Tabs M.T H1) : Stt M X np σ H fs σ ρ1 H1 fs1 := ⟨sr, f, g, t, fun _ _ => rfl, rfl⟩
/-- an expression's error leaves the statement -/
theorem takes_E {c : Nat} (h : L2N.Takes X (WS M X np σ H fs c ρ')) : L2N.Takes X (WEx M X σ H fs c ρ') := h.imp fun cls d σ' H' ⟨e1, e2, e3, fs', sr, fr, gw, tb⟩ => by
  subst e3
  exact ⟨e1, e2, fs', sr, fr, gw, tb, fun _ _ => rfl, rfl⟩
theorem takes_S {c : Nat} {σ1 : St} {ρ1 : Env} {H1 : Hp} {fs1 : List (List Addr)} (a : Stt M X np σ H fs σ1 ρ1 H1 fs1) (h : L2N.Takes X (WS M X np σ H fs c ρ')) : L2N.Takes X (WS M X np σ1 H1 fs1 c ρ') :=
  h.imp fun cls d σ' H' ⟨e1, e2, fs', q⟩ => ⟨e1, e2, fs', a.trans q⟩
theorem EndsOk.later {o : Out} {D : Ends} {σ1 : St} {ρ1 : Env} {H1 : Hp} {fs1 : List (List Addr)} (a : Stt M X np σ H fs σ1 ρ1 H1 fs1) (h : EndsOk M X np σ H fs o D) : EndsOk M X np σ1 H1 fs1 o D :=
  ⟨fun ρ' σ' H' fs' e q => h.nx ρ' σ' H' fs' e (a.trans q), fun ρ' σ' H' fs' e q => h.bk ρ' σ' H' fs' e (a.trans q), fun w ρ' v σ' H' fs' fp e q rw' nd g => h.rt w ρ' v σ' H' fs' fp e (a.trans q) rw' nd fun x hx => (g x hx).elim (a.gw x) fun z => .inr (a.fr.none_back z), fun c ρ' e => takes_S a (h.ex c ρ' e)⟩

/-! ### statements -/
theorem js_pass : PS X (.Pass pos) (tS M X np (evS C np .pass)) := PS.imp ps_pass fun D σ H ⟨ρ, fs, o, hm, sr, tb, k⟩ => by
  rw [evS] at hm; cases hm
  exact k.nx ρ σ H fs rfl (Stt.refl sr tb)
theorem js_nil : PSs X [] (tS M X np (evS C np .pass)) := PSs.imp pss_nil fun D σ H ⟨ρ, fs, o, hm, sr, tb, k⟩ => by
  rw [evS] at hm; cases hm
  exact k.nx ρ σ H fs rfl (Stt.refl sr tb)
theorem js_brk : PS X (.Break pos) (tS M X np (evS C np .brk)) := PS.imp ps_break fun D σ H ⟨ρ, fs, o, hm, sr, tb, k⟩ => by
  rw [evS] at hm; cases hm
  exact k.bk ρ σ H fs rfl (Stt.refl sr tb)
theorem js_seq {a b : S} {st : Stmt} {rest : List Stmt} (ha : PS X st (tS M X np (evS C np a))) (hb : PSs X rest (tS M X np (evS C np b))) : PSs X (st :: rest) (tS M X np (evS C np (.seq a b))) :=
  PSs.imp (pss_cons ha hb) fun D σ H ⟨ρ, fs, o, hm, sr, tb, k⟩ => by
    rw [evS] at hm
    cases ha : evS C np a ρ with
    | none => rw [ha] at hm; cases hm
    | some o1 =>
      rw [ha] at hm
      have other : o1 = o → (∀ ρ1, o1 ≠ .nx ρ1) → tSeq (tS M X np (evS C np a)) (tS M X np (evS C np b)) D σ H := fun e nn => by
        subst e
        exact ⟨ρ, fs, o1, ha, sr, tb, fun ρ' σ' H' fs' e _ => absurd e (nn ρ'), k.bk, k.rt, k.ex⟩
      cases o1 with
      | nx ρ1 =>
        refine ⟨ρ, fs, .nx ρ1, ha, sr, tb, fun ρ' σ' H' fs' e q => ?_, (fun _ _ _ _ e => nomatch e), (fun _ _ _ _ _ _ _ e => nomatch e), (fun _ _ e => nomatch e)⟩
        cases e
        exact ⟨ρ1, fs', o, hm, q.sr, q.tb, k.later q⟩
      | rt w ρ1 => exact other (Option.some.inj hm) (fun _ e => nomatch e)
      | bk ρ1 => exact other (Option.some.inj hm) (fun _ e => nomatch e)
      | ex c ρ1 => exact other (Option.some.inj hm) (fun _ e => nomatch e)
theorem js_one {st : Stmt} {t : TS} (h : PS X st t) : PSs X [st] t := pss_one h
theorem js_ifs {t : E} {a b : S} {et : Expr} {ea eb : List Stmt} (ht : JT M X (evT C t) et) (ha : PSs X ea (tS M X np (evS C np a))) (hb : PSs X eb (tS M X np (evS C np b))) : PS X (.If et ea eb pos) (tS M X np (evS C np (.ifs t a b))) :=
  PS.imp (ps_if ht.pt ha hb) fun D σ H ⟨ρ, fs, o, hm, sr, tb, k⟩ => by
    rw [evS] at hm
    cases hT : evT C t ρ with
    | none => rw [hT] at hm; cases hm
    | some r =>
      rw [hT] at hm
      refine ⟨ρ, fs, r, hT, sr, tb, fun c ρ1 H1 fs1 e sr1 f1 g1 t1 => ?_, fun c ρ1 e => ?_⟩
      · subst e
        have q : Stt M X np σ H fs σ ρ1 H1 fs1 := Stt.ofE sr1 f1 g1 t1
        cases c with
        | true => exact ⟨ρ1, fs1, o, hm, sr1, t1, k.later q⟩
        | false => exact ⟨ρ1, fs1, o, hm, sr1, t1, k.later q⟩
      · subst e
        cases hm
        exact takes_E (k.ex c ρ1 rfl)
theorem js_ex {e : E} {ee : Expr} (he : JE M X (evE C e) ee) (hs : swapsWith ee none pos.line X.env = pure false) : PS X (.Expr ee pos) (tS M X np (evS C np (.ex e))) :=
  PS.imp (ps_expr he.pe hs) fun D σ H ⟨ρ, fs, o, hm, sr, tb, k⟩ => by
    rw [evS] at hm
    cases hT : evE C e ρ with
    | none => rw [hT] at hm; cases hm
    | some r =>
      rw [hT] at hm
      refine ⟨ρ, fs, r, hT, sr, tb, fun w ρ1 v H1 fs1 fp e1 sr1 rw1 nd1 f1 g1 t1 => ?_, fun c ρ1 e1 => ?_⟩
      · subst e1
        cases hm
        exact k.nx ρ1 σ H1 fs1 rfl (Stt.ofE sr1 f1 (fun a ha => g1 a (List.mem_append_left _ ha)) t1)
      · subst e1
        cases hm
        exact takes_E (k.ex c ρ1 rfl)
theorem sig_get {σ : St} {i j : Nat} {v : Option V} (h : i ≠ j) : (σ.set i v)[j]? = σ[j]? := List.getElem?_set_ne h
/-- a name is set: what it holds, the names' state -/
theorem Stt.put {i : Nat} {v : V} {sl : Slot} {fp : List Addr} (a : Stt M X np σ H fs σ' ρ' H' fs') (hi : np ≤ i ∧ i < ρ'.length) (r : RS M X H' (some v) sl fp) (nf : fp.Nodup) (nd : ∀ x ∈ fp, x ∉ fs'.flatten) (g : ∀ x ∈ fp, x ∈ fs.flatten ∨ H x = none) :
    Stt M X np σ H fs (σ'.set i (some v)) (ρ'.set i sl) H' (fs'.set i fp) := by
  refine ⟨a.sr.put (by rw [List.length_set]) (fun j hj => getD_set_ne (Ne.symm hj)) ?_ nf (fun x hx hm => nd x hx ((set_sub _ _).subset hm)), a.fr, fun x hx => ?_, a.tb, fun j hj => ?_, by rw [List.length_set]; exact a.ln⟩
  · rw [getD_set_self (by rw [a.sr.1]; exact hi.2)]; exact r
  · rcases mem_set_flat hx with z | z
    · exact g x z
    · exact a.gw x ((set_sub _ _).subset z)
  · rw [sig_get (by omega)]; exact a.kp j hj
/-- what is stored of a value -/
theorem Stt.stored {fz : Bool} {w : W} {v : V} {sl : Slot} {fp : List Addr} {ρ2 : Env} {s : Shared} {pins : List (Addr × Obj)} (a : Stt M X np σ H fs σ' ρ' H' fs') (r : RW M X H' σ' v w fp) (nd : (fs'.flatten ++ fp).Nodup) (g : ∀ x ∈ fp, x ∈ fs.flatten ∨ H x = none) (I : Inv X pins σ' H' s) (h : stored fz ρ' w = some (sl, ρ2)) :
    ∃ H2 fs2 fp2, Inv X pins σ' H2 s ∧ Stt M X np σ H fs σ' ρ2 H2 fs2 ∧ RS M X H2 (some v) sl fp2 ∧ fp2.Nodup ∧ (∀ x ∈ fp2, x ∉ fs2.flatten) ∧ (∀ x ∈ fp2, x ∈ fs.flatten ∨ H x = none) ∧ ρ2.length = ρ'.length := by
  have viaEsc : (esc ρ' w).map (fun p => (Slot.p p.1, p.2)) = some (sl, ρ2) → ∃ H2 fs2 fp2, Inv X pins σ' H2 s ∧ Stt M X np σ H fs σ' ρ2 H2 fs2 ∧ RS M X H2 (some v) sl fp2 ∧ fp2.Nodup ∧ (∀ x ∈ fp2, x ∉ fs2.flatten) ∧ (∀ x ∈ fp2, x ∈ fs.flatten ∨ H x = none) ∧ ρ2.length = ρ'.length := fun h => by
    obtain ⟨p, hp, e⟩ := map_some h
    obtain ⟨d, ρ3⟩ := p
    cases e
    have n : Nw M X pins σ' ρ' H fs H' fs' s := ⟨I, a.sr, a.fr, a.gw, a.tb⟩
    obtain ⟨H2, fs2, n2, q, _, _⟩ := escape n r nd g hp
    exact ⟨H2, fs2, [], n2.inv, ⟨n2.sr, n2.fr, n2.gw, n2.tb, a.kp, a.ln⟩, ⟨v, rfl, rfl, q⟩, List.nodup_nil, (fun _ z => nomatch z), (fun _ z => nomatch z), by rw [← n2.sr.1, ← a.sr.1]⟩
  unfold Mi.stored at h
  cases fz with
  | true => exact viaEsc h
  | false =>
    cases w with
    | m s0 =>
      cases h
      exact ⟨H', fs', fp, I, a, r.1, (List.nodup_append.mp nd).2.1, nd_apart' nd, g, rfl⟩
    | d x => exact viaEsc h
    | s i => exact viaEsc h
end
end Mi
set_option Elab.async false
set_option linter.all false
set_option maxRecDepth 100000
set_option maxHeartbeats 2000000
/-! MiN: assignments, returns, raises, while. -/
namespace Mi
open PySem PySem.Spec PyProof.Rows L2 LamX
section
variable {M : Wd} {X Y : Cx} {H H' H0 : Hp} {σ σ' : St} {ρ ρ' : Env} {fs fs' fs0 : List (List Addr)} {pins : List (Addr × Obj)} {s s' : Shared} {C : Ctx} {pos : Pos} {np : Nat}
theorem JE.run {m : Env → R W} {e : Expr} {r : Rs W} {K : Value → Shared → Prop} (h : JE M X m e) (hm : m ρ = some r) (I : Inv X pins σ H s) (sr : SR M X H σ ρ fs) (tb : Tabs M.T H) (hex : ∀ c ρ', r = .ex c ρ' → L2N.Takes X (WEx M X σ H fs c ρ'))
    (k : ∀ w ρ' v H' fs' fp u s', r = .ok w ρ' → Nw M X pins σ ρ' H fs H' fs' s' → RelV v u → RW M X H' σ v w fp → (fs'.flatten ++ fp).Nodup → (∀ a ∈ fp, a ∈ fs.flatten ∨ H a = none) → K u s') : wpAny (model X.prog X.w) X.A (eval e X.env) K X.xe s := by
  refine wpAny_mono (h pins s σ H ρ fs r hm I sr tb) (fun u s2 p => ?_) fun u s2 p => ?_
  · obtain ⟨w, ρ', H', fs', v, fp, e1, n, rv, rw', nd, fr⟩ := p
    exact k w ρ' v H' fs' fp u s2 e1 n rv rw' nd fr
  · obtain ⟨c, ρ', e1, x⟩ := p
    exact hex c ρ' e1 u s2 x
theorem Nw.stt {s : Shared} (n : Nw M X pins σ ρ H0 fs0 H fs s) : Stt M X np σ H0 fs0 σ ρ H fs := Stt.ofE n.sr n.fr n.gw n.tb
/-- name = value -/
theorem js_asg {fz : Bool} {i : Nat} {e : E} {x : Str} {ee : Expr} {px : Pos} (hN : X.N.Nodup) (hi : X.N[i]? = some x) (hx : Loc X.env.scope x) (hf : X.fn x = true ∨ X.env.scope.names.lookup x = some .local) (he : JE M X (evE C e) ee) (hs : swapsWith ee (some (.Name x px)) pos.line X.env = pure false) :
    PS X (.Assign [.Name x px] ee pos) (tS M X np (evS C np (.asg fz i e))) := by
  refine ⟨fun pins s σ H D I ⟨ρ, fs, o, hm, sr, tb, k⟩ => ?_⟩
  rw [evS] at hm
  cases hT : evE C e ρ with
  | none => rw [hT] at hm; cases hm
  | some r =>
    rw [hT] at hm
    refine wpAny_Assign_Name (he.run hT I sr tb (fun c ρ1 e1 => ?_) fun w ρ1 v H1 fs1 fp u s1 e1 n rv rw' nd fr => ?_) hs
    · subst e1; cases hm; exact takes_E (k.ex c ρ1 rfl)
    · subst e1
      dsimp only at hm
      split at hm
      · rename_i sl ρ2 hst
        obtain ⟨ρ3, hp, eo⟩ := map_some hm
        obtain ⟨H2, fs2, fp2, I2, q2, rs2, nf2, nd2, g2, l2⟩ := (n.stt (np := np)).stored rw' nd fr n.inv hst
        unfold put at hp
        split at hp
        · rename_i hb
          cases hp
          refine store_ok I2 hN hi hx rv (fun s3 I3 => ⟨_, H2, I3, ?_⟩) hf
          exact k.nx _ _ H2 _ eo.symm (q2.put hb rs2 nf2 nd2 g2)
        · cases hp
      · cases hm
/-- return value -/
theorem js_ret {e : E} {ee : Expr} (he : JE M X (evE C e) ee) : PS X (.Return (some ee) pos) (tS M X np (evS C np (.ret e))) := by
  refine ⟨fun pins s σ H D I ⟨ρ, fs, o, hm, sr, tb, k⟩ => ?_⟩
  rw [evS] at hm
  cases hT : evE C e ρ with
  | none => rw [hT] at hm; cases hm
  | some r =>
    rw [hT] at hm
    refine wpAny_Return_some (he.run hT I sr tb (fun c ρ1 e1 => ?_) fun w ρ1 v H1 fs1 fp u s1 e1 n rv rw' nd fr => ?_)
    · subst e1; cases hm; exact takes_E (k.ex c ρ1 rfl)
    · subst e1
      have q1 : Stt M X np σ H fs σ ρ1 H1 fs1 := n.stt
      have plain : ∀ d, RpX X H1 v d → o = .rt (.d d) ρ1 → SP X pins D (.ret u) s1 := fun d r e => by
        refine ⟨v, σ, H1, n.inv, rv, k.rt _ _ v σ H1 fs1 [] e q1 ⟨rfl, r⟩ (by rw [List.append_nil]; exact n.sr.2.2.2) (fun _ z => nomatch z)⟩
      -- a thing of a name's own goes with it
      have gone : ∀ i sl, σ[i]? = some (some v) → ρ1[i]? = some sl → sl ≠ .x → o = .rt (.m sl) (ρ1.set i .x) → SP X pins D (.ret u) s1 := fun i sl ev e1 hx e => by
        have rs := n.sr.slot e1
        rw [getD_some ev] at rs
        have nf := RS.nodup_of_flat (i := i) n.sr.2.2.2
        refine ⟨v, σ, H1, n.inv, rv, k.rt _ _ v σ H1 (fs1.set i []) (fs1.getD i []) e ⟨n.sr.kill i, n.fr, fun a ha => n.gw a ((set_sub _ _).subset ha), n.tb, fun _ _ => rfl, rfl⟩ ⟨rs, hx⟩ ?_ fun a ha => n.gw a (mem_flat.mpr ⟨i, ha⟩)⟩
        exact List.nodup_append.mpr ⟨(n.sr.kill i).2.2.2, nf, fun a ha b hb e => by subst e; exact set_none_mem n.sr.2.2.2 hb ha⟩
      cases w with
      | d x => cases hm; exact plain x rw'.2 rfl
      | m sl =>
        cases hm
        refine ⟨v, σ, H1, n.inv, rv, k.rt _ _ v σ H1 fs1 fp rfl q1 ⟨rw'.1, rw'.2⟩ nd fr⟩
      | s i =>
        have ev : σ[i]? = some (some v) := rw'.2
        dsimp only at hm
        split at hm
        · rename_i hnp
          split at hm
          · rename_i d e1
            cases hm
            have rs := n.sr.slot e1
            obtain ⟨v', e2, q⟩ := rs
            rw [getD_some ev] at e2; cases e2
            exact plain d q.2 rfl
          · rename_i c _ e1
            cases hm
            exact gone i _ ev e1 Slot.noConfusion rfl
          · rename_i kk cs e1
            cases hm
            exact gone i _ ev e1 Slot.noConfusion rfl
          · cases hm
        · split at hm
          · rename_i d ρ2 hesc
            cases hm
            obtain ⟨H2, fs2, n2, q, _, _⟩ := escape n rw' nd fr hesc
            exact ⟨v, σ, H2, n2.inv, rv, k.rt _ _ v σ H2 fs2 [] rfl n2.stt ⟨rfl, q⟩ (by rw [List.append_nil]; exact n2.sr.2.2.2) (fun _ z => nomatch z)⟩
          · cases hm
/-- while -/
theorem js_whl {t : E} {b : S} {et : Expr} {eb : List Stmt} (hp : PassesOwn (model X.prog X.w) X.A X.env X.xe) (ht : JT M X (evT C t) et) (hb : PSs X eb (tS M X np (evS C np b))) : PS X (.While et eb [] pos) (tS M X np (evS C np (.whl t b))) :=
  PS.imp (ps_while hp ht.pt hb) fun D σ H ⟨ρ, fs, o, hm, sr, tb, k⟩ => by
    rw [evS] at hm
    refine ⟨fun m σ1 H1 => ∃ ρ1 fs1, whlL (evT C t) (evS C np b) m ρ1 = some o ∧ Stt M X np σ H fs σ1 ρ1 H1 fs1, ⟨C.turns, ρ, fs, hm, Stt.refl sr tb⟩, ?_⟩
    rintro m σ1 H1 ⟨ρ1, fs1, hw, q1⟩
    cases m with
    | zero => cases hw
    | succ m =>
      rw [whlL] at hw
      cases hT : evT C t ρ1 with
      | none => rw [hT] at hw; cases hw
      | some r =>
        rw [hT] at hw
        refine ⟨ρ1, fs1, r, hT, q1.sr, q1.tb, fun c ρ2 H2 fs2 e2 sr2 f2 g2 t2 => ?_, fun c ρ2 e2 => ?_⟩
        · subst e2
          have q2 : Stt M X np σ H fs σ1 ρ2 H2 fs2 := q1.trans (Stt.ofE sr2 f2 g2 t2)
          cases c with
          | false =>
            cases hw
            exact k.nx _ _ _ _ rfl q2
          | true =>
            rw [if_pos rfl]
            dsimp only at hw
            refine ⟨fun σ3 H3 => ∃ ρ3 fs3, whlL (evT C t) (evS C np b) m ρ3 = some o ∧ Stt M X np σ H fs σ3 ρ3 H3 fs3, fun σ3 H3 h3 => ⟨m, Nat.lt_succ_self m, h3⟩, ?_⟩
            cases hB : evS C np b ρ2 with
            | none => rw [hB] at hw; cases hw
            | some o2 =>
              rw [hB] at hw
              refine ⟨ρ2, fs2, o2, hB, q2.sr, q2.tb, ⟨fun ρ3 σ3 H3 fs3 e3 q3 => ?_, fun ρ3 σ3 H3 fs3 e3 q3 => ?_, fun w ρ3 v σ3 H3 fs3 fp e3 q3 r3 nd3 g3 => ?_, fun c ρ3 e3 => ?_⟩⟩
              · subst e3
                exact ⟨ρ3, fs3, hw, q2.trans q3⟩
              · subst e3
                cases hw
                exact k.nx _ _ _ _ rfl (q2.trans q3)
              · subst e3
                cases hw
                exact k.rt _ _ _ _ _ _ _ rfl (q2.trans q3) r3 nd3 fun x hx => (g3 x hx).elim (q2.gw x) fun z => .inr (q2.fr.none_back z)
              · subst e3
                cases hw
                exact takes_S q2 (k.ex c ρ3 rfl)
        · subst e2
          cases hw
          exact takes_E (takes_S q1 (k.ex c ρ2 rfl))
/-- raise X("..") -/
theorem js_rais {c j : Nat} {x m : Str} {p p2 p3 : Pos} {bmB : List Value} {B newId initId : String} (hc : X.calm = true) (F : ExcBaseFacts B newId initId bmB) (q : PySem.W.excIn X.K (M.exA c) bmB newId = true) (gC : X.mg x = some (.ref (M.exA c))) (kC : PySem.W.keepIn X.K (.ref (M.exA c)) = true) (r : Raises X (.ref (M.exA c))) (hg : Gl X x)
    (hdb : (x == ("__debug__" : Str)) = false) : PS X (.Raise (some (.Call (.Name x p) [.Constant (.str m) j p2] [] p3)) none pos) (tS M X np (evS C np (.rais c))) := by
  refine ⟨fun pins s σ H D I ⟨ρ, fs, o, hm, sr, tb, k⟩ => ?_⟩
  rw [evS] at hm; cases hm
  exact (L2N.ps_raise hc (k.ex c ρ rfl) (L2N.pmk_own F q gC kC r hg hdb)).run pins s σ H D I ⟨rfl, rfl, fs, Stt.refl sr tb⟩

/-! ### targets -/
theorem wipe_set {σ : St} {i : Nat} {v : Option V} : ∀ {vs : List Nat}, i ∈ vs → wipe (σ.set i v) vs = wipe σ vs
  | j :: vs, h => by
    unfold wipe
    by_cases e : i ∈ vs
    · rw [wipe_set e]
    · have : i = j := by
        rcases List.mem_cons.mp h with z | z
        · exact z
        · exact absurd z e
      subst this
      have c : ∀ {σ : St} {vs : List Nat}, i ∉ vs → wipe (σ.set i v) vs = (wipe σ vs).set i v := fun {σ vs} => by
        induction vs with
        | nil => intro _; rfl
        | cons j vs ih =>
          intro h
          unfold wipe
          rw [ih (fun z => h (List.mem_cons_of_mem _ z)), List.set_comm _ _ (fun z => h (by rw [z]; simp))]
      rw [c e, List.set_set]
def gD (M : Wd) (X : Cx) (m : D → Env → Option Env) (np : Nat) (sb : List Nat → Bool) : TG := fun v σ H Q => ∃ d ρ fs ρ', RpX X H v d ∧ SR M X H σ ρ fs ∧ m d ρ = some ρ' ∧
  ∀ σ' fs', SR M X H σ' ρ' fs' → fs'.flatten.Sublist fs.flatten → (∀ i, i < np → σ'[i]? = σ[i]?) → σ'.length = σ.length → (∀ vs, sb vs = true → wipe σ' vs = wipe σ vs) → Q σ' H
def gDs (M : Wd) (X : Cx) (m : List D → Env → Option Env) (np : Nat) (sb : List Nat → Bool) : TGs := fun vs σ H Q => ∃ ds ρ fs ρ', RpsX X H vs ds ∧ SR M X H σ ρ fs ∧ m ds ρ = some ρ' ∧
  ∀ σ' fs', SR M X H σ' ρ' fs' → fs'.flatten.Sublist fs.flatten → (∀ i, i < np → σ'[i]? = σ[i]?) → σ'.length = σ.length → (∀ vs, sb vs = true → wipe σ' vs = wipe σ vs) → Q σ' H
theorem PG.imp {e : Expr} {t t' : TG} (h : PG X e t) (i : ∀ v σ H Q, t' v σ H Q → t v σ H Q) : PG X e t' := ⟨fun pins s σ H v u Q I r q => h.run pins s σ H v u Q I r (i v σ H Q q)⟩
theorem PGs.imp {e : List Expr} {t t' : TGs} (h : PGs X e t) (i : ∀ v σ H Q, t' v σ H Q → t v σ H Q) : PGs X e t' := ⟨fun pins s σ H v u Q I r q => h.run pins s σ H v u Q I r (i v σ H Q q)⟩
theorem jg_n {i : Nat} {x : Str} (hN : X.N.Nodup) (hi : X.N[i]? = some x) (hx : Loc X.env.scope x) (hf : X.fn x = true ∨ X.env.scope.names.lookup x = some .local) : PG X (.Name x pos) (gD M X (asT np (.n i)) np (Tg.sub (.n i))) :=
  PG.imp (pg_name hN hi hx hf) fun v σ H Q ⟨d, ρ, fs, ρ', r, sr, hm, k⟩ => by
    rw [asT] at hm
    split at hm
    · rename_i hb
      cases hm
      refine k _ (fs.set i []) (sr.put (by rw [List.length_set]) (fun j hj => getD_set_ne (Ne.symm hj)) ?_ List.nodup_nil (fun _ z => nomatch z)) (set_sub _ _) (fun j hj => sig_get (by omega)) (by rw [List.length_set]) (fun vs hv => wipe_set (by simpa [Tg.sub] using hv))
      rw [getD_set_self (by rw [sr.1]; exact hb.2)]
      exact ⟨v, rfl, rfl, r⟩
    · cases hm
theorem jg_nil : PGs X [] (gDs M X (asTs np .nil) np (Tgs.sub .nil)) := PGs.imp pgs_nil fun vs σ H Q ⟨ds, ρ, fs, ρ', r, sr, hm, k⟩ => by
  cases ds with
  | nil =>
    rw [asTs] at hm; cases hm
    cases r
    exact ⟨rfl, k σ fs sr (List.Sublist.refl _) (fun _ _ => rfl) rfl (fun _ _ => rfl)⟩
  | cons d ds => rw [asTs] at hm <;> first | cases hm | (intros; simp_all)
theorem jg_cons {a : Tg} {l : Tgs} {e : Expr} {es : List Expr} (ha : PG X e (gD M X (asT np a) np a.sub)) (hl : PGs X es (gDs M X (asTs np l) np l.sub)) (hs : (assignEach (e :: es) X.env).map (·.2) = assign e X.env :: (assignEach es X.env).map (·.2)) : PGs X (e :: es) (gDs M X (asTs np (.cons a l)) np (Tgs.sub (.cons a l))) :=
  PGs.imp (pgs_cons ha hl hs) fun vs σ H Q ⟨ds, ρ, fs, ρ', r, sr, hm, k⟩ => by
    cases r with
    | nil => rw [asTs] at hm <;> first | cases hm | (intros; simp_all)
    | cons r t =>
      rw [asTs] at hm
      split at hm
      · rename_i ρ1 h1
        refine ⟨_, _, rfl, _, ρ, fs, ρ1, r, sr, h1, fun σ1 fs1 sr1 s1 k1 l1 w1 => ⟨_, ρ1, fs1, ρ', t, sr1, hm, fun σ2 fs2 sr2 s2 k2 l2 w2 => k σ2 fs2 sr2 (s2.trans s1) (fun i hi => (k2 i hi).trans (k1 i hi)) (l2.trans l1) fun vs hv => by
          have hv : (a.sub vs && l.sub vs) = true := hv
          rw [Bool.and_eq_true] at hv
          exact (w2 vs hv.2).trans (w1 vs hv.1)⟩⟩
      · cases hm
theorem asTs_len : ∀ {l : Tgs} {ds : List D} {ρ ρ' : Env} {n : Nat}, asTs np l ds ρ = some ρ' → l.len = n → ds.length = n
  | .nil, [], _, _, n, _, e => by rw [← e]; rfl
  | .nil, d :: ds, _, _, n, h, _ => by simp [asTs] at h
  | .cons a l, [], _, _, n, h, _ => by simp [asTs] at h
  | .cons a l, d :: ds, ρ, ρ', n, h, e => by
    rw [asTs] at h
    split at h
    · rw [List.length_cons, asTs_len h rfl, ← e]; rfl
    · cases h
theorem jg_t {l : Tgs} {es : List Expr} {k0 : Nat} (hc : X.calm = true) (hl : PGs X es (gDs M X (asTs np l) np l.sub)) (hn : (assignEach es X.env).length = l.len) (hst : (assignEach es X.env).findIdx? (·.1) = none) : PG X (.Tuple es k0 pos) (gD M X (asT np (.t l)) np (Tg.sub (.t l))) :=
  PG.imp (pg_tup hc hl hn hst) fun v σ H Q ⟨d, ρ, fs, ρ', r, sr, hm, k⟩ => by
    cases d with
    | tup ds =>
      rw [asT] at hm
      obtain ⟨a, vs, rfl, ha, q⟩ := (Rr.of r).tup
      exact ⟨a, vs, rfl, ha, by rw [q.length]; exact asTs_len hm rfl, ds, ρ, fs, ρ', q, sr, hm, k⟩
    | _ => rw [asT] at hm <;> first | cases hm | (intros; simp_all)
/-- a, b = value -/
theorem js_asgT {g : Tg} {e : E} {tg ee : Expr} (hg : PG X tg (gD M X (asT np g) np g.sub)) (he : JE M X (evE C e) ee) (hs : swapsWithSole [tg] ee pos.line X.env = pure false) (hw : swappedStores [tg] ee X.env = pure none)
    (h1 : (assignEach [tg] X.env).map (·.2) = [assign tg X.env]) : PS X (.Assign [tg] ee pos) (tS M X np (evS C np (.asgT g e))) := by
  refine ⟨fun pins s σ H D I ⟨ρ, fs, o, hm, sr, tb, k⟩ => ?_⟩
  rw [evS] at hm
  cases hT : evE C e ρ with
  | none => rw [hT] at hm; cases hm
  | some r =>
    rw [hT] at hm
    refine wpAny_Assign_stores (he.run hT I sr tb (fun c ρ1 e1 => ?_) fun w ρ1 v H1 fs1 fp u s1 e1 n rv rw' nd fr => ?_) hs hw
    · subst e1; cases hm; exact takes_E (k.ex c ρ1 rfl)
    · subst e1
      dsimp only at hm
      split at hm
      · rename_i d ρ2 hesc
        obtain ⟨ρ3, hp, eo⟩ := map_some hm
        obtain ⟨H2, fs2, n2, q, _, _⟩ := escape n rw' nd fr hesc
        rw [h1]
        refine thn (hg.run pins s1 σ H2 v u (fun σ' H' => D.nx σ' H') n2.inv rv ⟨d, ρ2, fs2, ρ3, q, n2.sr, hp, fun σ' fs' sr' sb kp ln _ => ?_⟩) fun _ s2 q => q
        exact k.nx _ _ H2 fs' eo.symm ⟨sr', n2.fr, fun a ha => n2.gw a (sb.subset ha), n2.tb, kp, ln⟩
      · cases hm
end
end Mi
set_option Elab.async false
set_option linter.all false
set_option maxRecDepth 100000
set_option maxHeartbeats 2000000
/-! MiO: what is walked. -/
namespace Mi
open PySem PySem.Spec PyProof.Rows L2 LamX
/-- a walk over data: J gives the items ds in turn, while G holds; am: the addresses that G rests on -/
structure DW (M : Wd) (X : Cx) (J : L2.It) (ds : List D) (G : Hp → Prop) (am : List Addr) : Prop where
  goes : ∀ i H, i < ds.length → G H → J.go i H
  stops : ∀ H, G H → J.stop ds.length H
  yields : ∀ i H x H', i < ds.length → G H → J.yld i H x H' → Fr [] H H' ∧ (Tabs M.T H → Tabs M.T H') ∧ ∃ d, ds[i]? = some d ∧ RpX X H' x d
  keep : ∀ {Wr : List Addr} {H H' : Hp}, Fr Wr H H' → (∀ a ∈ am, a ∉ Wr) → G H → G H'
section
variable {M : Wd} {X Y : Cx} {H H' H0 : Hp} {σ σ' : St} {ρ ρ' : Env} {fs fs' fs0 : List (List Addr)} {pins : List (Addr × Obj)} {s s' : Shared} {C : Ctx} {pos : Pos} {np : Nat}
theorem rps_get' {vs : List V} {ds : List D} {i : Nat} {v : V} (r : RpsX X H vs ds) (h : vs[i]? = some v) : ∃ d, ds[i]? = some d ∧ RpX X H v d := by
  have hi : i < ds.length := by rw [← r.length]; exact lt_of_get h
  obtain ⟨v', h1, h2⟩ := r.get (List.getElem?_eq_getElem hi)
  rw [h] at h1; cases h1
  exact ⟨_, List.getElem?_eq_getElem hi, h2⟩
theorem Fr.rd {Wr : List Addr} {a : Addr} {vs : List V} (f : Fr Wr H H') (n : a ∉ Wr) (h : Rd H a (.lst vs)) : Rd H' a (.lst vs) := by
  rcases h with h | ⟨o, h⟩
  · exact .inl (f.kp a _ h n (fun _ z => nomatch z))
  · exact .inr ⟨o, f.kd a _ h (fun z => z) (fun _ z => nomatch z)⟩
theorem sql_inj (I : Inv X pins σ H s) {a : Addr} {xs ys : List V} (h : SqL X.K H a xs) (h' : SqL X.K H a ys) : xs = ys := I.list_inj h h'
theorem dw_list {a : Addr} {vs : List V} {ds : List D} {H1 : Hp} (q : RpsX X H1 vs ds) : DW M X (Itl X.K a) ds (fun H => Rd H a (.lst vs) ∧ Kd H1 H) [a] where
  goes i H hi g := walk_list.goes i H (by rw [q.length]; exact hi) (.inl g.1)
  stops H g := by rw [← q.length]; exact walk_list.stops H (.inl g.1)
  yields i H x H' hi g y := by
    obtain ⟨rfl, e⟩ := walk_list.yields i H x H' (by rw [q.length]; exact hi) (.inl g.1) y
    obtain ⟨d, h1, h2⟩ := rps_get' q e
    exact ⟨Fr.refl, fun t => t, d, h1, h2.kd g.2⟩
  keep f n g := ⟨f.rd (n a (by simp)) g.1, g.2.trans f.kd⟩
theorem dw_frz {a : Addr} {vs : List V} {ds : List D} {H1 : Hp} (q : RpsX X H1 vs ds) : DW M X (Itl X.K a) ds (fun H => FzL H a vs ∧ Kd H1 H) [] where
  goes i H hi g := walk_list.goes i H (by rw [q.length]; exact hi) (.inl g.1.rd)
  stops H g := by rw [← q.length]; exact walk_list.stops H (.inl g.1.rd)
  yields i H x H' hi g y := by
    obtain ⟨rfl, e⟩ := walk_list.yields i H x H' (by rw [q.length]; exact hi) (.inl g.1.rd) y
    obtain ⟨d, h1, h2⟩ := rps_get' q e
    exact ⟨Fr.refl, fun t => t, d, h1, h2.kd g.2⟩
  keep f n g := ⟨f.kd.fzL g.1, g.2.trans f.kd⟩
theorem dw_tup {a : Addr} {vs : List V} {ds : List D} {H1 : Hp} (q : RpsX X H1 vs ds) : DW M X (Itt X.K a) ds (fun H => SqT X.K H a vs ∧ Kd H1 H) [] where
  goes i H hi g := walk_tup.goes i H (by rw [q.length]; exact hi) g.1
  stops H g := by rw [← q.length]; exact walk_tup.stops H g.1
  yields i H x H' hi g y := by
    obtain ⟨rfl, e⟩ := walk_tup.yields i H x H' (by rw [q.length]; exact hi) g.1 y
    obtain ⟨d, h1, h2⟩ := rps_get' q e
    exact ⟨Fr.refl, fun t => t, d, h1, h2.kd g.2⟩
  keep f n g := ⟨f.kd.sqT g.1, g.2.trans f.kd⟩
theorem dw_str {z : Str} : DW M X (Its z) (chars z) (fun _ => True) [] where
  goes i H hi g := by
    have : i < z.cps.size := by simpa [chars] using hi
    exact this
  stops H g := by
    show z.cps.size ≤ (chars z).length
    simp [chars]
  yields i H x H' hi g y := by
    obtain ⟨rfl, c, h1, rfl⟩ := y
    refine ⟨Fr.refl, fun t => t, .str ⟨#[c]⟩, ?_, .str _⟩
    simp [chars, h1]
  keep _ _ _ := trivial
theorem rngL_len (lo c : Int) : ∀ n, (rngL lo c n).length = n
  | 0 => rfl
  | n + 1 => by rw [rngL, List.length_cons, rngL_len]
theorem rngL_get (c : Int) : ∀ (lo : Int) (n i : Nat), i < n → (rngL lo c n)[i]? = some (.int (lo + (i : Nat) * c))
  | lo, 0, i, h => by omega
  | lo, n + 1, 0, _ => by simp [rngL]
  | lo, n + 1, i + 1, h => by
    rw [rngL, List.getElem?_cons_succ, rngL_get c (lo + c) n i (by omega)]
    congr 2
    rw [Int.natCast_add, Int.add_mul]
    simp only [Int.natCast_one, Int.one_mul]
    omega
theorem dw_range {n : Nat} : DW M X (Itr 0 n) (rngL 0 1 n) (fun _ => True) [] where
  goes i H hi g := by rw [rngL_len] at hi; exact hi
  stops H g := by rw [rngL_len]; exact Nat.le_refl _
  yields i H x H' hi g y := by
    rw [rngL_len] at hi
    obtain ⟨rfl, rfl⟩ := y
    refine ⟨Fr.refl, fun t => t, _, rngL_get 1 0 n i hi, ?_⟩
    rw [Int.mul_one]; exact .int _
  keep _ _ _ := trivial
theorem dw_rangeC {lo c : Int} {n : Nat} : DW M X (Itc lo c n) (rngL lo c n) (fun _ => True) [] where
  goes i H hi g := by rw [rngL_len] at hi; exact hi
  stops H g := by rw [rngL_len]; exact Nat.le_refl _
  yields i H x H' hi g y := by
    rw [rngL_len] at hi
    obtain ⟨rfl, rfl⟩ := y
    exact ⟨Fr.refl, fun t => t, _, rngL_get c lo n i hi, .int _⟩
  keep _ _ _ := trivial
theorem pair_yield {xs ys : Nat → Option V} {d e : D} {i : Nat} {x : V} (h : YPair xs ys i H x H') (hx : ∀ v, xs i = some v → RpX X H v d) (hy : ∀ v, ys i = some v → RpX X H v e) : Fr [] H H' ∧ (Tabs M.T H → Tabs M.T H') ∧ RpX X H' x (.tup [d, e]) := by
  obtain ⟨T, v, w, rfl, hn, rfl, e1, e2⟩ := h
  refine ⟨Fr.new hn, fun t => tabs_new t hn, .tup (.inl (.inl upd_same)) (.cons ((hx v e1).kd (Fr.new (Wr := []) hn).kd) (.cons ((hy w e2).kd (Fr.new (Wr := []) hn).kd) .nil))⟩
theorem zipL_len : ∀ (xs ys : List D), (zipL xs ys).length = min xs.length ys.length
  | [], ys => by simp [zipL]
  | x :: xs, [] => by simp [zipL]
  | x :: xs, y :: ys => by simp only [zipL, List.length_cons, zipL_len xs ys]; omega
theorem zipL_get : ∀ (xs ys : List D) (i : Nat) (d e : D), xs[i]? = some d → ys[i]? = some e → (zipL xs ys)[i]? = some (.tup [d, e])
  | [], _, i, _, _, h, _ => by simp at h
  | x :: xs, [], i, _, _, _, h => by simp at h
  | x :: xs, y :: ys, 0, d, e, h1, h2 => by
    simp at h1 h2; subst h1; subst h2; rfl
  | x :: xs, y :: ys, i + 1, d, e, h1, h2 => by
    rw [zipL, List.getElem?_cons_succ]
    exact zipL_get xs ys i d e (by simpa using h1) (by simpa using h2)
theorem enumL_len : ∀ (xs : List D) (k : Int), (enumL k xs).length = xs.length
  | [], _ => rfl
  | x :: xs, k => by simp only [enumL, List.length_cons, enumL_len xs]
theorem enumL_get : ∀ (xs : List D) (k : Int) (i : Nat) (d : D), xs[i]? = some d → (enumL k xs)[i]? = some (.tup [.int (k + (i : Nat)), d])
  | [], _, i, _, h => by simp at h
  | x :: xs, k, 0, d, h => by simp at h; subst h; simp [enumL]
  | x :: xs, k, i + 1, d, h => by
    rw [enumL, List.getElem?_cons_succ, enumL_get xs (k + 1) i d (by simpa using h)]
    congr 4
    omega
/-- lists: own ones or not -/
theorem dw_zipL {a b : Addr} {vs us : List V} {ds es : List D} {H1 : Hp} (q : RpsX X H1 vs ds) (q2 : RpsX X H1 us es) : DW M X (Itz X.K a b) (zipL ds es) (fun H => (Rd H a (.lst vs) ∧ Rd H b (.lst us)) ∧ Kd H1 H) [a, b] where
  goes i H hi g := (walk_zip (xs := vs) (ys := us) rfl).goes i H (by rw [zipL_len] at hi; rw [q.length, q2.length]; exact hi) ⟨.inl g.1.1, .inl g.1.2⟩
  stops H g := by
    rw [zipL_len, ← q.length, ← q2.length]
    exact (walk_zip (xs := vs) (ys := us) rfl).stops H ⟨.inl g.1.1, .inl g.1.2⟩
  yields i H x H' hi g y := by
    rw [zipL_len] at hi
    have w := (walk_zip (xs := vs) (ys := us) rfl).yields i H x H' (by rw [q.length, q2.length]; exact hi) ⟨.inl g.1.1, .inl g.1.2⟩ y
    have h1 : i < ds.length := by omega
    have h2 : i < es.length := by omega
    obtain ⟨v1, a1, a2⟩ := q.get (List.getElem?_eq_getElem h1)
    obtain ⟨v2, b1, b2⟩ := q2.get (List.getElem?_eq_getElem h2)
    obtain ⟨f, t, r⟩ := pair_yield (M := M) (X := X) (d := ds[i]) (e := es[i]) w (fun v e => by rw [a1] at e; cases e; exact a2.kd g.2) (fun v e => by rw [b1] at e; cases e; exact b2.kd g.2)
    exact ⟨f, t, _, zipL_get ds es i _ _ (List.getElem?_eq_getElem h1) (List.getElem?_eq_getElem h2), r⟩
  keep f n g := ⟨⟨f.rd (n a (by simp)) g.1.1, f.rd (n b (by simp)) g.1.2⟩, g.2.trans f.kd⟩
theorem dw_zipZ {a b : Addr} {vs us : List V} {ds es : List D} {H1 : Hp} (q : RpsX X H1 vs ds) (q2 : RpsX X H1 us es) : DW M X (Itz X.K a b) (zipL ds es) (fun H => (FzL H a vs ∧ FzL H b us) ∧ Kd H1 H) [] where
  goes i H hi g := (dw_zipL (M := M) q q2).goes i H hi ⟨⟨g.1.1.rd, g.1.2.rd⟩, g.2⟩
  stops H g := (dw_zipL (M := M) q q2).stops H ⟨⟨g.1.1.rd, g.1.2.rd⟩, g.2⟩
  yields i H x H' hi g y := (dw_zipL (M := M) q q2).yields i H x H' hi ⟨⟨g.1.1.rd, g.1.2.rd⟩, g.2⟩ y
  keep f n g := ⟨⟨f.kd.fzL g.1.1, f.kd.fzL g.1.2⟩, g.2.trans f.kd⟩
theorem dw_zipT {a b : Addr} {vs us : List V} {ds es : List D} {H1 : Hp} (q : RpsX X H1 vs ds) (q2 : RpsX X H1 us es) : DW M X (RZ.ItzT X.K a b) (zipL ds es) (fun H => (SqT X.K H a vs ∧ SqT X.K H b us) ∧ Kd H1 H) [] where
  goes i H hi g := by
    rw [zipL_len] at hi
    have h1 : i < vs.length := by rw [q.length]; omega
    have h2 : i < us.length := by rw [q2.length]; omega
    exact ⟨vs, us, vs[i], us[i], g.1.1, g.1.2, by simp [h1], by simp [h2]⟩
  stops H g := ⟨vs, us, g.1.1, g.1.2, by rw [zipL_len, q.length, q2.length]; omega⟩
  yields i H x H' hi g y := by
    rw [zipL_len] at hi
    obtain ⟨T, x', z, h1, h2, h3, h4, h5⟩ := y
    have w : YPair (fun i => vs[i]?) (fun i => us[i]?) i H x H' := ⟨T, x', z, h1, h2, h3, h4 vs g.1.1, h5 us g.1.2⟩
    have h1 : i < ds.length := by omega
    have h2 : i < es.length := by omega
    obtain ⟨v1, a1, a2⟩ := q.get (List.getElem?_eq_getElem h1)
    obtain ⟨v2, b1, b2⟩ := q2.get (List.getElem?_eq_getElem h2)
    obtain ⟨f, t, r⟩ := pair_yield (M := M) (X := X) (d := ds[i]) (e := es[i]) w (fun v e => by rw [a1] at e; cases e; exact a2.kd g.2) (fun v e => by rw [b1] at e; cases e; exact b2.kd g.2)
    exact ⟨f, t, _, zipL_get ds es i _ _ (List.getElem?_eq_getElem h1) (List.getElem?_eq_getElem h2), r⟩
  keep f n g := ⟨⟨f.kd.sqT g.1.1, f.kd.sqT g.1.2⟩, g.2.trans f.kd⟩
theorem dw_enum {a : Addr} {vs : List V} {ds : List D} {H1 : Hp} (q : RpsX X H1 vs ds) : DW M X (Ite X.K a) (enumL 0 ds) (fun H => Rd H a (.lst vs) ∧ Kd H1 H) [a] where
  goes i H hi g := walk_enum.goes i H (by rw [enumL_len] at hi; rw [q.length]; exact hi) (.inl g.1)
  stops H g := by rw [enumL_len, ← q.length]; exact walk_enum.stops H (.inl g.1)
  yields i H x H' hi g y := by
    rw [enumL_len] at hi
    have w := walk_enum.yields i H x H' (by rw [q.length]; exact hi) (.inl g.1) y
    obtain ⟨v1, a1, a2⟩ := q.get (List.getElem?_eq_getElem hi)
    obtain ⟨f, t, r⟩ := pair_yield (M := M) (X := X) (d := .int (i : Nat)) (e := ds[i]) w (fun v e => by cases e; exact .int _) (fun v e => by rw [a1] at e; cases e; exact a2.kd g.2)
    refine ⟨f, t, _, enumL_get ds 0 i _ (List.getElem?_eq_getElem hi), ?_⟩
    rw [Int.zero_add]; exact r
  keep f n g := ⟨f.rd (n a (by simp)) g.1, g.2.trans f.kd⟩
theorem dw_enumZ {a : Addr} {vs : List V} {ds : List D} {H1 : Hp} (q : RpsX X H1 vs ds) : DW M X (Ite X.K a) (enumL 0 ds) (fun H => FzL H a vs ∧ Kd H1 H) [] where
  goes i H hi g := (dw_enum (M := M) q).goes i H hi ⟨g.1.rd, g.2⟩
  stops H g := (dw_enum (M := M) q).stops H ⟨g.1.rd, g.2⟩
  yields i H x H' hi g y := (dw_enum (M := M) q).yields i H x H' hi ⟨g.1.rd, g.2⟩ y
  keep f n g := ⟨f.kd.fzL g.1, g.2.trans f.kd⟩
end
end Mi
set_option Elab.async false
set_option linter.all false
set_option maxRecDepth 100000
set_option maxHeartbeats 2000000
/-! MiP: iterables, for. -/
namespace Mi
open PySem PySem.Spec PyProof.Rows L2 LamX
section
variable (M : Wd) (X : Cx)
/-- an operand / operands: new things kept as data -/
def tEo (m : Env → R W) : TE := fun σ H Q => ∃ ρ fs r, m ρ = some r ∧ SR M X H σ ρ fs ∧ Tabs M.T H ∧
  (∀ w ρ' v H' fs', r = .ok w ρ' → SR M X H' σ ρ' fs' → RV X H' σ v w.fz → Fr fs.flatten H H' → (∀ a ∈ fs'.flatten, a ∈ fs.flatten ∨ H a = none) → Tabs M.T H' → Q v H') ∧
  ∀ c ρ', r = .ex c ρ' → L2N.Takes X (WEx M X σ H fs c ρ')
def tAo (m : Env → R (List W)) : TA := fun σ H Q => ∃ ρ fs r, m ρ = some r ∧ SR M X H σ ρ fs ∧ Tabs M.T H ∧
  (∀ ws ρ' vs H' fs', r = .ok ws ρ' → SR M X H' σ ρ' fs' → RVs X H' σ vs (ws.map W.fz) → Fr fs.flatten H H' → (∀ a ∈ fs'.flatten, a ∈ fs.flatten ∨ H a = none) → Tabs M.T H' → Q vs H') ∧
  ∀ c ρ', r = .ex c ρ' → L2N.Takes X (WEx M X σ H fs c ρ')
/-- .. handed away -/
def tEz (m : Env → R W) : TE := fun σ H Q => ∃ ρ fs r, m ρ = some r ∧ SR M X H σ ρ fs ∧ Tabs M.T H ∧
  (∀ w ρ', r = .ok w ρ' → ∃ d ρ2, esc ρ' w = some (d, ρ2) ∧ ∀ v H' fs', SR M X H' σ ρ2 fs' → RpX X H' v d → Fr fs.flatten H H' → (∀ a ∈ fs'.flatten, a ∈ fs.flatten ∨ H a = none) → Tabs M.T H' → Q v H') ∧
  ∀ c ρ', r = .ex c ρ' → L2N.Takes X (WEx M X σ H fs c ρ')
def tAz (m : Env → R (List W)) : TA := fun σ H Q => ∃ ρ fs r, m ρ = some r ∧ SR M X H σ ρ fs ∧ Tabs M.T H ∧
  (∀ ws ρ', r = .ok ws ρ' → ∃ ds ρ2, escs ρ' ws = some (ds, ρ2) ∧ ∀ vs H' fs', SR M X H' σ ρ2 fs' → RpsX X H' vs ds → Fr fs.flatten H H' → (∀ a ∈ fs'.flatten, a ∈ fs.flatten ∨ H a = none) → Tabs M.T H' → Q vs H') ∧
  ∀ c ρ', r = .ex c ρ' → L2N.Takes X (WEx M X σ H fs c ρ')
/-- a walk, its own lists not to be had -/
def wiW (m : Env → R (Nat × List W)) : TI := fun σ H R => ∃ ρ fs r, m ρ = some r ∧ SR M X H σ ρ fs ∧ Tabs M.T H ∧
  (∀ k ws ρ', r = .ok (k, ws) ρ' → ∃ ds, walked ρ' k (ws.map W.fz) = some ds ∧ ∀ J G am H' fs', DW M X J ds G am → G H' → SR M X H' σ ρ' fs' → Fr fs.flatten H H' → (∀ a ∈ fs'.flatten, a ∈ fs.flatten ∨ H a = none) → Tabs M.T H' → (∀ a ∈ am, ∃ i ∈ freeIx ρ' ws, a ∈ fs'.getD i []) → R J H') ∧
  ∀ c ρ', r = .ex c ρ' → L2N.Takes X (WEx M X σ H fs c ρ')
/-- a walk over what never changes -/
def wiF (m : Env → R (Nat × List W)) : TI := fun σ H R => ∃ ρ fs r, m ρ = some r ∧ SR M X H σ ρ fs ∧ Tabs M.T H ∧
  (∀ k ws ρ', r = .ok (k, ws) ρ' → ∃ ds0 ρ2 ds, escs ρ' ws = some (ds0, ρ2) ∧ wkD k ds0 = some ds ∧ ∀ J G H' fs', DW M X J ds G [] → G H' → SR M X H' σ ρ2 fs' → Fr fs.flatten H H' → (∀ a ∈ fs'.flatten, a ∈ fs.flatten ∨ H a = none) → Tabs M.T H' → R J H') ∧
  ∀ c ρ', r = .ex c ρ' → L2N.Takes X (WEx M X σ H fs c ρ')
end
section
variable {M : Wd} {X Y : Cx} {H H' H0 : Hp} {σ σ' : St} {ρ ρ' : Env} {fs fs' fs0 : List (List Addr)} {pins : List (Addr × Obj)} {s s' : Shared} {C : Ctx} {pos : Pos} {np : Nat}
theorem JE.peo {m : Env → R W} {e : Expr} (h : JE M X m e) : PE X e (tEo M X m) := by
  refine ⟨fun pins s σ H Q I hq => ?_⟩
  obtain ⟨ρ, fs, r, hm, sr, tb, hok, hex⟩ := hq
  refine h.run hm I sr tb hex fun w ρ' v H' fs' fp u s' e1 n rv rw' nd fr => ?_
  obtain ⟨H2, n2, f2, rv2⟩ := freeze n rw' nd fr
  exact ⟨v, H2, n2.inv, rv, hok w ρ' v H2 fs' e1 n2.sr rv2 n2.fr n2.gw n2.tb⟩
theorem JE.pez {m : Env → R W} {e : Expr} (h : JE M X m e) : PE X e (tEz M X m) := by
  refine ⟨fun pins s σ H Q I hq => ?_⟩
  obtain ⟨ρ, fs, r, hm, sr, tb, hok, hex⟩ := hq
  refine h.run hm I sr tb hex fun w ρ' v H' fs' fp u s' e1 n rv rw' nd fr => ?_
  obtain ⟨d, ρ2, he, k⟩ := hok w ρ' e1
  obtain ⟨H2, fs2, n2, q, _, _⟩ := escape n rw' nd fr he
  exact ⟨v, H2, n2.inv, rv, k v H2 fs2 n2.sr q n2.fr n2.gw n2.tb⟩
theorem JA.run {m : Env → R (List W)} {es : List Expr} {r : Rs (List W)} {K : List Value → Shared → Prop} (h : JA M X m es) (hm : m ρ = some r) (I : Inv X pins σ H s) (sr : SR M X H σ ρ fs) (tb : Tabs M.T H) (hex : ∀ c ρ', r = .ex c ρ' → L2N.Takes X (WEx M X σ H fs c ρ'))
    (k : ∀ ws ρ' vs H' fs' fps us s', r = .ok ws ρ' → Nw M X pins σ ρ' H fs H' fs' s' → Vals vs us → RWs M X H' σ vs ws fps → (fs'.flatten ++ fps.flatten).Nodup → (∀ a ∈ fps.flatten, a ∈ fs.flatten ∨ H a = none) → K us s') : wpAny (model X.prog X.w) X.A (spliced (backTo pos (starEach es X.env))) K X.xe s := by
  refine wpAny_mono (h pos pins s σ H ρ fs r hm I sr tb) (fun u s2 p => ?_) fun u s2 p => ?_
  · obtain ⟨w, ρ', H', fs', v, fp, e1, n, rv, rw', nd, fr⟩ := p
    exact k w ρ' v H' fs' fp u s2 e1 n rv rw' nd fr
  · obtain ⟨c, ρ', e1, x⟩ := p
    exact hex c ρ' e1 u s2 x
theorem JA.pao {m : Env → R (List W)} {es : List Expr} (h : JA M X m es) : PA X es (tAo M X m) := by
  refine ⟨fun pos pins s σ H Q I hq => ?_⟩
  obtain ⟨ρ, fs, r, hm, sr, tb, hok, hex⟩ := hq
  refine h.run hm I sr tb hex fun ws ρ' vs H' fs' fps us s' e1 n rv rw' nd fr => ?_
  obtain ⟨H2, n2, f2, rv2⟩ := freezes n rw' nd fr
  exact ⟨vs, H2, n2.inv, rv, hok ws ρ' vs H2 fs' e1 n2.sr rv2 n2.fr n2.gw n2.tb⟩
theorem JA.paz {m : Env → R (List W)} {es : List Expr} (h : JA M X m es) : PA X es (tAz M X m) := by
  refine ⟨fun pos pins s σ H Q I hq => ?_⟩
  obtain ⟨ρ, fs, r, hm, sr, tb, hok, hex⟩ := hq
  refine h.run hm I sr tb hex fun ws ρ' vs H' fs' fps us s' e1 n rv rw' nd fr => ?_
  obtain ⟨ds, ρ2, he, k⟩ := hok ws ρ' e1
  obtain ⟨H2, fs2, n2, q, _, _⟩ := escapes n rw' nd fr he
  exact ⟨vs, H2, n2.inv, rv, k vs H2 fs2 n2.sr q n2.fr n2.gw n2.tb⟩
theorem PI.imp {tg e : Expr} {t t' : TI} (h : PI X tg e t) (i : ∀ σ H R, t' σ H R → t σ H R) : PI X tg e t' := ⟨fun pins s σ H R I q => h.run pins s σ H R I (i σ H R q)⟩
/-- by cases of the state -/
theorem PI.cases {tg e : Expr} {t : TI} (h : ∀ σ H R, t σ H R → ∃ t', PI X tg e t' ∧ t' σ H R) : PI X tg e t := ⟨fun pins s σ H R I q => by
  obtain ⟨t', h1, h2⟩ := h σ H R q
  exact h1.run pins s σ H R I h2⟩
/-- a list that is read: locked, or a name's own -/
theorem readL (r : SR M X H σ ρ fs) {v : V} {w : W} {xs : List D} (rv : RV X H σ v w.fz) (h : look ρ w.fz = some (.lst xs)) : ∃ a vs, v = .ref a ∧ RpsX X H vs xs ∧ (FzL H a vs ∨ (H a = some (.lst vs) ∧ ∃ i, w = .s i ∧ fs.getD i [] = [a] ∧ ∃ sl, ρ[i]? = some sl ∧ sl.free = true)) := by
  have data : RpX X H v (.lst xs) → ∃ a vs, v = .ref a ∧ RpsX X H vs xs ∧ (FzL H a vs ∨ (H a = some (.lst vs) ∧ ∃ i, w = .s i ∧ fs.getD i [] = [a] ∧ ∃ sl, ρ[i]? = some sl ∧ sl.free = true)) := fun q => by
    cases q with
    | lst hf q => exact ⟨_, _, rfl, q, .inl hf⟩
  cases w with
  | d x => cases h; exact data rv
  | m sl =>
    cases sl with
    | x => cases h
    | o k cs => cases h
    | c c =>
      have e : c.dat = .lst xs := Option.some.inj h
      have rv : RpX X H v c.dat := rv
      rw [e] at rv
      exact data rv
  | s i =>
    have h : (ρ[i]?).bind Slot.dat? = some (.lst xs) := h
    have rv : σ[i]? = some (some v) := rv
    cases e : ρ[i]? with
    | none => rw [e] at h; cases h
    | some sl =>
      rw [e] at h
      cases sl with
      | x => cases h
      | o k cs => cases h
      | c c =>
        have h : some c.dat = some (.lst xs) := h
        obtain ⟨v', e2, q⟩ := r.slot e
        rw [getD_some rv] at e2
        cases e2
        cases c with
        | p d => cases h; exact data q.2
        | l ys =>
          cases h
          obtain ⟨a, vs, e3, e4, e5, q⟩ := q
          exact ⟨a, vs, e3, q, .inr ⟨e5, i, rfl, e4, .c (.l xs), e, rfl⟩⟩
        | d kvs => cases h
theorem freeIx_mem {i : Nat} {sl : Slot} : ∀ {ws : List W}, W.s i ∈ ws → ρ[i]? = some sl → sl.free = true → i ∈ freeIx ρ ws
  | w :: ws, h, e, f => by
    rcases List.mem_cons.mp h with z | z
    · subst z
      rw [freeIx, e]
      simp [f]
    · have ih := freeIx_mem z e f
      cases w with
      | d x => exact ih
      | m s => exact ih
      | s j =>
        rw [freeIx]
        split
        · split
          · exact List.mem_cons_of_mem _ ih
          · exact ih
        · exact ih
theorem looks1 {w : W} {ds : List D} (h : looks ρ [w] = some ds) : ∃ d, ds = [d] ∧ look ρ w = some d := by
  simp only [looks] at h
  split at h
  · rename_i d e
    cases h; exact ⟨d, rfl, e⟩
  · cases h
theorem rvs1 {vs : List V} {w : W} (r : RVs X H σ vs [w]) : ∃ v, vs = [v] ∧ RV X H σ v w := by
  cases r with
  | cons a t => cases t; exact ⟨_, rfl, a⟩
theorem rvs2 {vs : List V} {w w' : W} (r : RVs X H σ vs [w, w']) : ∃ v v', vs = [v, v'] ∧ RV X H σ v w ∧ RV X H σ v' w' := by
  cases r with
  | cons a t => cases t with
    | cons b t => cases t; exact ⟨_, _, rfl, a, b⟩
theorem escs1 {w : W} {ds : List D} {ρ2 : Env} (h : escs ρ [w] = some (ds, ρ2)) : ∃ d, ds = [d] ∧ esc ρ w = some (d, ρ2) := by
  simp only [escs] at h
  split at h
  · rename_i d ρ1 e
    cases h; exact ⟨d, rfl, e⟩
  · cases h
theorem evI_seq (a : E) : evI C (.seq a) ρ = R.bind (evE C a ρ) fun w ρ1 => some (.ok (0, [w]) ρ1) := by rw [evI]
theorem pi_seqW {a : E} {ea tg : Expr} (ha : JE M X (evE C a) ea) : PI X tg ea (wiW M X (evI C (.seq a))) := by
  refine PI.cases fun σ H R ⟨ρ, fs, r, hm, sr, tb, hok, hex⟩ => ?_
  rw [evI_seq] at hm
  rcases bind_cases hm with ⟨w, ρ1, e1, e2⟩ | ⟨c, ρ1, e1, e2⟩
  · cases e2
    obtain ⟨ds, hw, k⟩ := hok 0 [w] ρ1 rfl
    unfold walked at hw
    split at hw
    · rename_i ds0 hl
      obtain ⟨d, ed, hl2⟩ := looks1 hl
      subst ed
      replace hw : itemsI d = some ds := hw
      have hl3 := hl2
      rw [look_fz] at hl3
      cases d with
      | lst xs =>
        cases hw
        refine ⟨_, pi_list ha.peo, ρ, fs, _, e1, sr, tb, fun w' ρ' v H' fs' e sr' rv f g t => ?_, fun _ _ z => nomatch z⟩
        cases e
        obtain ⟨b, vs, ev, q, o⟩ := readL sr' rv hl2
        rcases o with o | ⟨o, i, ew, ef, sl, e3, e4⟩
        · exact ⟨b, ev, ⟨vs, .inl o.rd⟩, k _ _ [] H' fs' (dw_frz q) ⟨o, Kd.refl _⟩ sr' f g t (fun _ z => nomatch z)⟩
        · refine ⟨b, ev, ⟨vs, .inl (.inl o)⟩, k _ _ [b] H' fs' (dw_list q) ⟨.inl o, Kd.refl _⟩ sr' f g t fun x hx => ?_⟩
          have : x = b := by simpa using hx
          subst this
          exact ⟨i, freeIx_mem (by rw [ew]; simp) e3 e4, by rw [ef]; simp⟩
      | tup xs =>
        cases hw
        refine ⟨_, pi_tup ha.peo, ρ, fs, _, e1, sr, tb, fun w' ρ' v H' fs' e sr' rv f g t => ?_, fun _ _ z => nomatch z⟩
        cases e
        obtain ⟨b, vs, ev, hq, q⟩ := (read sr' rv hl3).tup
        exact ⟨b, ev, ⟨vs, hq⟩, k _ _ [] H' fs' (dw_tup q) ⟨hq, Kd.refl _⟩ sr' f g t (fun _ z => nomatch z)⟩
      | str z =>
        cases hw
        refine ⟨_, pi_str ha.peo, ρ, fs, _, e1, sr, tb, fun w' ρ' v H' fs' e sr' rv f g t => ?_, fun _ _ z => nomatch z⟩
        cases e
        have ev := (read sr' rv hl3).str
        exact ⟨z, ev, k _ _ [] H' fs' dw_str trivial sr' f g t (fun _ z => nomatch z)⟩
      | _ => cases hw
    · cases hw
  · subst e2
    exact ⟨_, pi_list ha.peo, ρ, fs, _, e1, sr, tb, (fun _ _ _ _ _ z => nomatch z), fun c' ρ' z => by cases z; exact hex _ _ rfl⟩
theorem pi_seqF {a : E} {ea tg : Expr} (ha : JE M X (evE C a) ea) : PI X tg ea (wiF M X (evI C (.seq a))) := by
  refine PI.cases fun σ H R ⟨ρ, fs, r, hm, sr, tb, hok, hex⟩ => ?_
  rw [evI_seq] at hm
  rcases bind_cases hm with ⟨w, ρ1, e1, e2⟩ | ⟨c, ρ1, e1, e2⟩
  · cases e2
    obtain ⟨ds0, ρ2, ds, he, hw, k⟩ := hok 0 [w] ρ1 rfl
    obtain ⟨d, ed, he2⟩ := escs1 he
    subst ed
    replace hw : itemsI d = some ds := hw
    cases d with
    | lst xs =>
      cases hw
      refine ⟨_, pi_list ha.pez, ρ, fs, _, e1, sr, tb, fun w' ρ' e => ?_, fun _ _ z => nomatch z⟩
      cases e
      refine ⟨_, _, he2, fun v H' fs' sr' q f g t => ?_⟩
      cases q with
      | lst hf q => exact ⟨_, rfl, ⟨_, .inl hf.rd⟩, k _ _ H' fs' (dw_frz q) ⟨hf, Kd.refl _⟩ sr' f g t⟩
    | tup xs =>
      cases hw
      refine ⟨_, pi_tup ha.pez, ρ, fs, _, e1, sr, tb, fun w' ρ' e => ?_, fun _ _ z => nomatch z⟩
      cases e
      refine ⟨_, _, he2, fun v H' fs' sr' q f g t => ?_⟩
      cases q with
      | tup hf q => exact ⟨_, rfl, ⟨_, hf⟩, k _ _ H' fs' (dw_tup q) ⟨hf, Kd.refl _⟩ sr' f g t⟩
    | str z =>
      cases hw
      refine ⟨_, pi_str ha.pez, ρ, fs, _, e1, sr, tb, fun w' ρ' e => ?_, fun _ _ z => nomatch z⟩
      cases e
      refine ⟨_, _, he2, fun v H' fs' sr' q f g t => ?_⟩
      cases q
      exact ⟨z, rfl, k _ _ H' fs' dw_str trivial sr' f g t⟩
    | _ => cases hw
  · subst e2
    exact ⟨_, pi_list ha.pez, ρ, fs, _, e1, sr, tb, (fun _ _ z => nomatch z), fun c' ρ' z => by cases z; exact hex _ _ rfl⟩
/-! ### calls that walk: evI by evEs -/
theorem evI_rng1 (a : E) : evI C (.rng1 a) ρ = R.bind (evEs C (.cons a .nil) ρ) fun ws ρ1 => some (.ok (1, ws) ρ1) := by
  rw [evI, evEs]
  cases evE C a ρ with
  | none => rfl
  | some r => cases r <;> rfl
theorem evI_enum (a : E) : evI C (.enum a) ρ = R.bind (evEs C (.cons a .nil) ρ) fun ws ρ1 => some (.ok (4, ws) ρ1) := by
  rw [evI, evEs]
  cases evE C a ρ with
  | none => rfl
  | some r => cases r <;> rfl
theorem evI_zip (a b : E) : evI C (.zip a b) ρ = R.bind (evEs C (.cons a (.cons b .nil)) ρ) fun ws ρ1 => some (.ok (5, ws) ρ1) := by
  rw [evI, evEs]
  cases evE C a ρ with
  | none => rfl
  | some r =>
    cases r with
    | ex c ρ1 => rfl
    | ok w ρ1 =>
      rw [R.bind_ok, R.bind_ok, evEs]
      cases evE C b ρ1 with
      | none => rfl
      | some r => cases r <;> rfl
theorem walked_of {k : Nat} {ws : List W} {ds : List D} (h : walked ρ k (ws.map W.fz) = some ds) : ∃ d0, looks ρ (ws.map W.fz) = some d0 ∧ wkD k d0 = some ds := by
  unfold walked at h
  split at h
  · rename_i d0 e; exact ⟨d0, e, h⟩
  · cases h
theorem small62 {n : Int} (h : smallI n = true) : -(2 ^ 62) ≤ n ∧ n < 2 ^ 62 := by
  have := of_decide_eq_true h
  omega
theorem pi_rng1 {a : E} {ea tg : Expr} {p : Pos} {wi : (Env → R (Nat × List W)) → TI} (hg : Gl X "range") (hm0 : X.mg "range" = none) (hs : noStar [ea] = true) (ha : JA M X (evEs C (.cons a .nil)) [ea])
    (hwi : ∀ m, wi m = wiW M X m ∨ wi m = wiF M X m) : PI X tg (.Call (.Name "range" p) [ea] [] pos) (wi (evI C (.rng1 a))) := by
  have st : starEach [ea] X.env = [(false, eval ea X.env)] := star_cons hs
  rcases hwi (evI C (.rng1 a)) with e | e
  · rw [e]
    refine PI.imp (pi_range1 hg hm0 ha.pao st) fun σ H R ⟨ρ, fs, r, hm, sr, tb, hok, hex⟩ => ?_
    rw [evI_rng1] at hm
    rcases bind_cases hm with ⟨ws, ρ1, e1, e2⟩ | ⟨c, ρ1, e1, e2⟩
    · cases e2
      obtain ⟨ds, hw, k⟩ := hok 1 ws ρ1 rfl
      obtain ⟨d0, hl, hw⟩ := walked_of hw
      refine ⟨ρ, fs, _, e1, sr, tb, fun ws' ρ' vs H' fs' e sr' rv f g t => ?_, fun _ _ z => nomatch z⟩
      cases e
      have rr := reads sr' rv hl
      replace hw : wk1 d0 = some ds := hw
      unfold wk1 at hw
      split at hw
      · split at hw
        · rename_i n hb
          cases hw
          obtain ⟨v, rfl, r1⟩ := rrs1 rr
          obtain ⟨b1, b2⟩ := small62 hb
          exact ⟨n, by rw [r1.int], b1, b2, k _ _ [] H' fs' dw_range trivial sr' f g t (fun _ z => nomatch z)⟩
        · cases hw
      · cases hw
    · subst e2
      exact ⟨ρ, fs, _, e1, sr, tb, (fun _ _ _ _ _ z => nomatch z), fun c' ρ' z => by cases z; exact hex _ _ rfl⟩
  · rw [e]
    refine PI.imp (pi_range1 hg hm0 ha.paz st) fun σ H R ⟨ρ, fs, r, hm, sr, tb, hok, hex⟩ => ?_
    rw [evI_rng1] at hm
    rcases bind_cases hm with ⟨ws, ρ1, e1, e2⟩ | ⟨c, ρ1, e1, e2⟩
    · cases e2
      obtain ⟨d0, ρ2, ds, he, hw, k⟩ := hok 1 ws ρ1 rfl
      refine ⟨ρ, fs, _, e1, sr, tb, fun ws' ρ' e => ?_, fun _ _ z => nomatch z⟩
      cases e
      refine ⟨_, _, he, fun vs H' fs' sr' q f g t => ?_⟩
      replace hw : wk1 d0 = some ds := hw
      unfold wk1 at hw
      split at hw
      · split at hw
        · rename_i n hb
          cases hw
          obtain ⟨v, rfl, r1⟩ := rps1 q
          cases r1
          obtain ⟨b1, b2⟩ := small62 hb
          exact ⟨n, rfl, b1, b2, k _ _ H' fs' dw_range trivial sr' f g t⟩
        · cases hw
      · cases hw
    · subst e2
      exact ⟨ρ, fs, _, e1, sr, tb, (fun _ _ z => nomatch z), fun c' ρ' z => by cases z; exact hex _ _ rfl⟩
theorem rps2 {vs : List V} {d e : D} (r : RpsX X H vs [d, e]) : ∃ v w, vs = [v, w] ∧ RpX X H v d ∧ RpX X H w e := by
  cases r with
  | cons a t => cases t with
    | cons b t => cases t; exact ⟨_, _, rfl, a, b⟩
theorem looks2L {w w' : W} {d e : D} (h : looks ρ ([w, w'].map W.fz) = some [d, e]) : look ρ w.fz = some d ∧ look ρ w'.fz = some e := looks_two h
theorem evEs_len : ∀ {l : Es} {ρ ρ' : Env} {ws : List W}, evEs C l ρ = some (.ok ws ρ') → ∀ {n : Nat}, l.len = n → ws.length = n
  | .nil, _, _, _, h, n, e => by rw [evEs] at h; cases h; rw [← e]; rfl
  | .cons a l, _, _, _, h, n, e => by
    rw [evEs] at h
    rcases bind_cases h with ⟨w, ρ1, e1, e2⟩ | ⟨c, ρ1, e1, e2⟩
    · rcases bind_cases e2 with ⟨ws, ρ2, e3, e4⟩ | ⟨c, ρ2, e3, e4⟩
      · cases e4
        rw [List.length_cons, evEs_len e3 rfl, ← e]; rfl
      · cases e4
    · cases e2
theorem zipW_imp {a b : E} {σ : L2.St} {H : Hp} {R : L2.It → Hp → Prop} (h : wiW M X (evI C (.zip a b)) σ H R) : RZ.iZipA X.K (tAo M X (evEs C (.cons a (.cons b .nil)))) σ H R := by
  obtain ⟨ρ, fs, r, hm, sr, tb, hok, hex⟩ := h
  rw [evI_zip] at hm
  rcases bind_cases hm with ⟨ws, ρ1, e1, e2⟩ | ⟨c, ρ1, e1, e2⟩
  · cases e2
    obtain ⟨ds, hw, k⟩ := hok 5 ws ρ1 rfl
    obtain ⟨d0, hl, hw5⟩ := walked_of hw
    clear hw
    refine ⟨ρ, fs, _, e1, sr, tb, fun ws' ρ' vs H' fs' e sr' rv f g t => ?_, fun _ _ z => nomatch z⟩
    cases e
    have rr := reads sr' rv hl
    replace hw5 : wk5 d0 = some ds := hw5
    have h2 : ws.length = 2 := evEs_len e1 rfl
    match ws, h2 with
    | [w1, w2], _ =>
    unfold wk5 at hw5
    split at hw5
    · rename_i xs ys
      cases hw5
      obtain ⟨l1, l2⟩ := looks2L hl
      obtain ⟨v1, v2, rfl, q1, q2⟩ := rvs2 rv
      obtain ⟨a1, vs1, rfl, r1, o1⟩ := readL sr' q1 l1
      obtain ⟨a2, vs2, rfl, r2, o2⟩ := readL sr' q2 l2
      have s1 : Rd H' a1 (.lst vs1) := o1.elim (fun o => o.rd) fun o => .inl o.1
      have s2 : Rd H' a2 (.lst vs2) := o2.elim (fun o => o.rd) fun o => .inl o.1
      have own : ∀ {w : W} {a : Addr} {vs : List V}, w ∈ [w1, w2] → (FzL H' a vs ∨ (H' a = some (.lst vs) ∧ ∃ i, w = .s i ∧ fs'.getD i [] = [a] ∧ ∃ sl, ρ1[i]? = some sl ∧ sl.free = true)) → FzL H' a vs ∨ ∃ i ∈ freeIx ρ1 [w1, w2], a ∈ fs'.getD i [] := fun {w a vs} hw o => by
        rcases o with o | ⟨_, i, ew, ef, sl, e3, e4⟩
        · exact .inl o
        · exact .inr ⟨i, freeIx_mem (by rw [← ew]; exact hw) e3 e4, by rw [ef]; simp⟩
      refine ⟨a1, a2, vs1, vs2, rfl, .inl ⟨.inl s1, .inl s2, ?_⟩⟩
      rcases own (w := w1) (by simp) o1 with z1 | z1
      · rcases own (w := w2) (by simp) o2 with z2 | z2
        · exact k _ _ [] H' fs' (dw_zipZ r1 r2) ⟨⟨z1, z2⟩, Kd.refl _⟩ sr' f g t (fun _ z => nomatch z)
        · refine k (Itz X.K a1 a2) (fun H => (FzL H a1 vs1 ∧ Rd H a2 (.lst vs2)) ∧ Kd H' H) [a2] H' fs' ?_ ⟨⟨z1, s2⟩, Kd.refl _⟩ sr' f g t fun x hx => ?_
          · have w := dw_zipL (M := M) (a := a1) (b := a2) r1 r2
            exact ⟨fun i H hi g => w.goes i H hi ⟨⟨g.1.1.rd, g.1.2⟩, g.2⟩, fun H g => w.stops H ⟨⟨g.1.1.rd, g.1.2⟩, g.2⟩, fun i H x H' hi g y => w.yields i H x H' hi ⟨⟨g.1.1.rd, g.1.2⟩, g.2⟩ y, fun f n g => ⟨⟨f.kd.fzL g.1.1, f.rd (n a2 (by simp)) g.1.2⟩, g.2.trans f.kd⟩⟩
          · have : x = a2 := by simpa using hx
            subst this; exact z2
      · rcases own (w := w2) (by simp) o2 with z2 | z2
        · refine k (Itz X.K a1 a2) (fun H => (Rd H a1 (.lst vs1) ∧ FzL H a2 vs2) ∧ Kd H' H) [a1] H' fs' ?_ ⟨⟨s1, z2⟩, Kd.refl _⟩ sr' f g t fun x hx => ?_
          · have w := dw_zipL (M := M) (a := a1) (b := a2) r1 r2
            exact ⟨fun i H hi g => w.goes i H hi ⟨⟨g.1.1, g.1.2.rd⟩, g.2⟩, fun H g => w.stops H ⟨⟨g.1.1, g.1.2.rd⟩, g.2⟩, fun i H x H' hi g y => w.yields i H x H' hi ⟨⟨g.1.1, g.1.2.rd⟩, g.2⟩ y, fun f n g => ⟨⟨f.rd (n a1 (by simp)) g.1.1, f.kd.fzL g.1.2⟩, g.2.trans f.kd⟩⟩
          · have : x = a1 := by simpa using hx
            subst this; exact z1
        · refine k _ _ [a1, a2] H' fs' (dw_zipL r1 r2) ⟨⟨s1, s2⟩, Kd.refl _⟩ sr' f g t fun x hx => ?_
          have : x = a1 ∨ x = a2 := by simpa using hx
          rcases this with rfl | rfl
          · exact z1
          · exact z2
    · rename_i xs ys
      cases hw5
      obtain ⟨v1, v2, rfl, r1, r2⟩ := rrs2 rr
      obtain ⟨a1, vs1, rfl, s1, q1⟩ := r1.tup
      obtain ⟨a2, vs2, rfl, s2, q2⟩ := r2.tup
      exact ⟨a1, a2, vs1, vs2, rfl, .inr ⟨s1, s2, k _ _ [] H' fs' (dw_zipT q1 q2) ⟨⟨s1, s2⟩, Kd.refl _⟩ sr' f g t (fun _ z => nomatch z)⟩⟩
    · cases hw5
  · subst e2
    exact ⟨ρ, fs, _, e1, sr, tb, (fun _ _ _ _ _ z => nomatch z), fun c' ρ' z => by cases z; exact hex _ _ rfl⟩
theorem pi_zipW {a b : E} {ea eb : Expr} {elts : List Expr} {kk : Nat} {p tpos : Pos} (hg : Gl X "zip") (hm0 : X.mg "zip" = none) (hs : noStar [ea, eb] = true) (ha : JA M X (evEs C (.cons a (.cons b .nil))) [ea, eb]) :
    PI X (.Tuple elts kk tpos) (.Call (.Name "zip" p) [ea, eb] [] pos) (wiW M X (evI C (.zip a b))) :=
  PI.imp (RZ.pi_zipA hg hm0 ha.pao (star_cons hs) (star_any (noStar_tail hs))) fun σ H R h => zipW_imp h
/-! ### for -/
theorem js_for {g : Tg} {it : It} {b : S} {tg ie : Expr} {eb : List Stmt} (hp : PassesOwn (model X.prog X.w) X.A X.env X.xe) (hc : X.calm = true) (hi : PI X tg ie (wiF M X (evI C it))) (hg : PG X tg (gD M X (asT np g) np g.sub)) (hb : PSs X eb (tS M X np (evS C np b)))
    (hs : ∀ x, foldedSetIterable ie X.env x = pure x) : PS X (.For tg ie eb [] pos) (tS M X np (evS C np (.for_ g it b))) :=
  PS.imp (ps_for hp hc hi hg hb hs) fun D σ H ⟨ρ, fs, o, hm, sr, tb, k⟩ => by
    rw [evS] at hm
    cases hI : evI C it ρ with
    | none => rw [hI] at hm; cases hm
    | some r =>
      rw [hI] at hm
      refine ⟨ρ, fs, r, hI, sr, tb, fun kk ws ρ1 er => ?_, fun c ρ1 er => ?_⟩
      · subst er
        dsimp only at hm
        split at hm
        · rename_i ds0 ρ2 he
          split at hm
          · rename_i xs hw
            refine ⟨ds0, ρ2, xs, he, hw, fun J G H1 fs1 dw g1 sr1 f1 gw1 t1 => ?_⟩
            have q1 : Stt M X np σ H fs σ ρ2 H1 fs1 := Stt.ofE sr1 f1 gw1 t1
            have W : Walk J xs.length G (fun i H x H' => Fr [] H H' ∧ (Tabs M.T H → Tabs M.T H') ∧ ∃ d, xs[i]? = some d ∧ RpX X H' x d) := ⟨dw.goes, dw.stops, dw.yields⟩
            refine for_it W (fun i σ1 H1 => ∃ ρ1 fs1, forL (fun x ρ => match asT np g x ρ with
              | some ρ => evS C np b ρ
              | none => none) (xs.drop i) ρ1 = some o ∧ Stt M X np σ H fs σ1 ρ1 H1 fs1 ∧ G H1) ⟨ρ2, fs1, hm, q1, g1⟩ (fun i σ1 H1 _ h => by obtain ⟨_, _, _, _, h⟩ := h; exact h) ?_ ?_
            · rintro i x σ1 H2 H3 hlt ⟨ρ3, fs3, hf, q3, g3⟩ ⟨fr3, tb3, d, hd, rd⟩
              have ed : xs.drop i = d :: xs.drop (i + 1) := by
                have h' : xs[i]'hlt = d := by
                  rw [List.getElem?_eq_getElem hlt] at hd
                  exact Option.some.inj hd
                rw [List.drop_eq_getElem_cons hlt, h']
              rw [ed, forL] at hf
              -- the heap has grown
              have q4 : Stt M X np σ H fs σ1 ρ3 H3 fs3 := ⟨q3.sr.keep fr3 (fun _ _ z => nomatch z), q3.fr.trans fr3 (fun _ z => nomatch z), q3.gw, tb3 q3.tb, q3.kp, q3.ln⟩
              have g4 : G H3 := dw.keep fr3 (fun _ _ z => nomatch z) g3
              cases hT : asT np g d ρ3 with
              | none => rw [hT] at hf; cases hf
              | some ρ4 =>
                rw [hT] at hf
                dsimp only at hf
                refine ⟨d, ρ3, fs3, ρ4, rd, q4.sr, hT, fun σ4 fs4 sr4 sb4 kp4 ln4 _ => ?_⟩
                have q5 : Stt M X np σ H fs σ4 ρ4 H3 fs4 := ⟨sr4, q4.fr, fun a ha => q4.gw a (sb4.subset ha), q4.tb, fun j hj => (kp4 j hj).trans (q4.kp j hj), ln4.trans q4.ln⟩
                cases hB : evS C np b ρ4 with
                | none => rw [hB] at hf; cases hf
                | some o2 =>
                  rw [hB] at hf
                  refine ⟨ρ4, fs4, o2, hB, sr4, q4.tb, ⟨fun ρ5 σ5 H5 fs5 e5 z5 => ?_, fun ρ5 σ5 H5 fs5 e5 z5 => ?_, fun w ρ5 v σ5 H5 fs5 fp e5 z5 r5 nd5 gg5 => ?_, fun c ρ5 e5 => ?_⟩⟩
                  · subst e5
                    exact ⟨ρ5, fs5, hf, q5.trans z5, dw.keep z5.fr (fun _ z => nomatch z) g4⟩
                  · subst e5
                    cases hf
                    exact k.nx _ _ _ _ rfl (q5.trans z5)
                  · subst e5
                    cases hf
                    exact k.rt _ _ _ _ _ _ _ rfl (q5.trans z5) r5 nd5 fun x hx => (gg5 x hx).elim (q5.gw x) fun z => .inr (q5.fr.none_back z)
                  · subst e5
                    cases hf
                    exact takes_S q5 (k.ex c ρ5 rfl)
            · rintro σ1 H2 ⟨ρ3, fs3, hf, q3, _⟩
              rw [List.drop_length, forL] at hf
              cases hf
              exact k.nx _ _ _ _ rfl q3
          · cases hm
        · cases hm
      · subst er
        cases hm
        exact takes_E (k.ex c ρ1 rfl)
end
end Mi
set_option Elab.async false
set_option linter.all false
set_option maxRecDepth 100000
set_option maxHeartbeats 2000000
/-! MiQ: comprehensions. -/
namespace Mi
open PySem PySem.Spec PyProof.Rows L2 LamX
/-! ### slots by their places -/
theorem nodup_at {fs : List (List Addr)} (h1 : ∀ i, (fs.getD i []).Nodup) (h2 : ∀ i j a, i ≠ j → a ∈ fs.getD i [] → a ∉ fs.getD j []) : fs.flatten.Nodup := by
  induction fs with
  | nil => simp
  | cons l fs ih =>
    rw [List.flatten_cons]
    refine List.nodup_append.mpr ⟨by simpa using h1 0, ih (fun i => by simpa using h1 (i + 1)) (fun i j a hij ha => by simpa using h2 (i + 1) (j + 1) a (by omega) (by simpa using ha)), fun a ha b hb e => ?_⟩
    subst e
    obtain ⟨i, hi⟩ := mem_flat.mp hb
    exact h2 0 (i + 1) a (by omega) (by simpa using ha) (by simpa using hi)
theorem at_apart {fs : List (List Addr)} (n : fs.flatten.Nodup) {i j : Nat} {a : Addr} (h : i ≠ j) (ha : a ∈ fs.getD i []) : a ∉ fs.getD j [] := fun hb => set_none_mem n ha (mem_flat.mpr ⟨j, by rw [getD_set_ne h]; exact hb⟩)
theorem killAll_len (ρ : Env) : ∀ L : List Nat, (killAll ρ L).length = ρ.length
  | [] => rfl
  | i :: L => by rw [killAll, List.length_set, killAll_len ρ L]
theorem killAll_at (ρ : Env) (j : Nat) : ∀ L : List Nat, (killAll ρ L)[j]? = if j ∈ L ∧ j < ρ.length then some .x else ρ[j]?
  | [] => by simp [killAll]
  | i :: L => by
    rw [killAll]
    by_cases e : i = j
    · subst e
      by_cases hl : i < ρ.length
      · rw [List.getElem?_set_self (by rw [killAll_len]; exact hl), if_pos ⟨by simp, hl⟩]
      · rw [List.getElem?_eq_none (by rw [List.length_set, killAll_len]; omega), if_neg (fun z => hl z.2), List.getElem?_eq_none (by omega)]
    · rw [List.getElem?_set_ne e, killAll_at ρ j L]
      have : (j ∈ i :: L ∧ j < ρ.length) ↔ (j ∈ L ∧ j < ρ.length) := by
        simp only [List.mem_cons]
        constructor
        · rintro ⟨z | z, h⟩
          · exact absurd z.symm e
          · exact ⟨z, h⟩
        · rintro ⟨z, h⟩; exact ⟨.inr z, h⟩
      by_cases c : j ∈ L ∧ j < ρ.length
      · rw [if_pos c, if_pos (this.mpr c)]
      · rw [if_neg c, if_neg (fun z => c (this.mp z))]
theorem backAll_len (ρ ρ0 : Env) : ∀ L : List Nat, (backAll ρ ρ0 L).length = ρ.length
  | [] => rfl
  | i :: L => by rw [backAll, List.length_set, backAll_len ρ ρ0 L]
theorem backAll_at (ρ ρ0 : Env) (j : Nat) : ∀ L : List Nat, (backAll ρ ρ0 L)[j]? = if j ∈ L ∧ j < ρ.length then some (ρ0.getD j .x) else ρ[j]?
  | [] => by simp [backAll]
  | i :: L => by
    rw [backAll]
    by_cases e : i = j
    · subst e
      by_cases hl : i < ρ.length
      · rw [List.getElem?_set_self (by rw [backAll_len]; exact hl), if_pos ⟨by simp, hl⟩]
      · rw [List.getElem?_eq_none (by rw [List.length_set, backAll_len]; omega), if_neg (fun z => hl z.2), List.getElem?_eq_none (by omega)]
    · rw [List.getElem?_set_ne e, backAll_at ρ ρ0 j L]
      have : (j ∈ i :: L ∧ j < ρ.length) ↔ (j ∈ L ∧ j < ρ.length) := by
        simp only [List.mem_cons]
        constructor
        · rintro ⟨z | z, h⟩
          · exact absurd z.symm e
          · exact ⟨z, h⟩
        · rintro ⟨z, h⟩; exact ⟨.inr z, h⟩
      by_cases c : j ∈ L ∧ j < ρ.length
      · rw [if_pos c, if_pos (this.mpr c)]
      · rw [if_neg c, if_neg (fun z => c (this.mp z))]
theorem wipe_at (σ : St) (j : Nat) : ∀ vs : List Nat, (wipe σ vs).getD j none = if j ∈ vs then none else σ.getD j none
  | [] => by simp [wipe]
  | i :: vs => by
    unfold wipe
    by_cases e : i = j
    · subst e
      rw [if_pos (by simp)]
      by_cases hl : i < (wipe σ vs).length
      · rw [getD_set_self hl]
      · rw [List.getD_eq_getElem?_getD, List.getElem?_eq_none (by rw [List.length_set]; omega)]; rfl
    · rw [getD_set_ne e, wipe_at σ j vs]
      by_cases c : j ∈ vs
      · rw [if_pos c, if_pos (by simp [c])]
      · rw [if_neg c, if_neg (by simp [c]; exact fun z => e z.symm)]
/-- footprints, those in L from elsewhere -/
def mixF (fs fs0 : List (List Addr)) (L : List Nat) : List (List Addr) := (List.range fs.length).map fun j => if j ∈ L then fs0.getD j [] else fs.getD j []
theorem mixF_len (fs fs0 : List (List Addr)) (L : List Nat) : (mixF fs fs0 L).length = fs.length := by simp [mixF]
theorem mixF_at (fs fs0 : List (List Addr)) (L : List Nat) (j : Nat) (h : j < fs.length) : (mixF fs fs0 L).getD j [] = if j ∈ L then fs0.getD j [] else fs.getD j [] := by
  unfold mixF
  rw [List.getD_eq_getElem?_getD, List.getElem?_map, List.getElem?_range h]
  rfl
theorem mixF_out (fs fs0 : List (List Addr)) (L : List Nat) (j : Nat) (h : ¬ j < fs.length) : (mixF fs fs0 L).getD j [] = [] := by
  rw [List.getD_eq_getElem?_getD, List.getElem?_eq_none (by rw [mixF_len]; omega)]; rfl
section
variable {M : Wd} {X Y : Cx} {H H' H0 : Hp} {σ σ' : St} {ρ ρ' : Env} {fs fs' fs0 : List (List Addr)} {pins : List (Addr × Obj)} {s s' : Shared} {C : Ctx} {pos : Pos} {np : Nat}
/-- slots killed -/
theorem SR.killAll (r : SR M X H σ ρ fs) (L : List Nat) : SR M X H σ (killAll ρ L) (mixF fs [] L) := by
  refine ⟨by rw [killAll_len]; exact r.1, by rw [mixF_len, killAll_len]; exact r.2.1, fun i sl e => ?_, ?_⟩
  · have hi : i < ρ.length := by rw [← killAll_len ρ L]; exact lt_of_get e
    rw [mixF_at _ _ _ _ (by rw [r.2.1]; exact hi)]
    rw [killAll_at] at e
    by_cases c : i ∈ L
    · rw [if_pos ⟨c, hi⟩] at e; cases e
      rw [if_pos c]; rfl
    · rw [if_neg (fun z => c z.1)] at e
      rw [if_neg c]
      exact r.slot e
  · refine nodup_at (fun i => ?_) fun i j a hij ha => ?_
    · by_cases hi : i < fs.length
      · rw [mixF_at _ _ _ _ hi]
        split
        · exact List.nodup_nil
        · exact RS.nodup_of_flat r.2.2.2
      · rw [mixF_out _ _ _ _ hi]; exact List.nodup_nil
    · by_cases hi : i < fs.length
      · rw [mixF_at _ _ _ _ hi] at ha
        by_cases hj : j < fs.length
        · rw [mixF_at _ _ _ _ hj]
          split at ha
          · cases ha
          · split
            · exact fun z => nomatch z
            · exact at_apart r.2.2.2 hij ha
        · rw [mixF_out _ _ _ _ hj]; exact fun z => nomatch z
      · rw [mixF_out _ _ _ _ hi] at ha; cases ha
theorem mixF_nil_sub {L : List Nat} {a : Addr} (h : a ∈ (mixF fs [] L).flatten) : a ∈ fs.flatten ∧ ∀ i ∈ L, fs.flatten.Nodup → a ∉ fs.getD i [] := by
  obtain ⟨j, hj⟩ := mem_flat.mp h
  by_cases c : j < fs.length
  · rw [mixF_at _ _ _ _ c] at hj
    split at hj
    · cases hj
    · rename_i nm
      exact ⟨mem_flat.mpr ⟨j, hj⟩, fun i hi n => at_apart n (fun z : j = i => nm (by rw [z]; exact hi)) hj⟩
  · rw [mixF_out _ _ _ _ c] at hj; cases hj
/-- names forgotten that hold nothing -/
theorem SR.wiped (r : SR M X H σ ρ fs) {vs : List Nat} (h : ∀ i ∈ vs, ∀ sl, ρ[i]? = some sl → sl = .x) (hl : σ'.length = σ.length) (he : ∀ j, j ∉ vs → σ'.getD j none = σ.getD j none) : SR M X H σ' ρ fs := by
  refine ⟨by rw [hl]; exact r.1, r.2.1, fun i sl e => ?_, r.2.2.2⟩
  by_cases c : i ∈ vs
  · have := h i c sl e
    subst this
    have q := r.slot e
    exact q
  · rw [he i c]; exact r.slot e
/-- behind the walk: the killed ones are as they were -/
theorem SR.back {H1 : Hp} {ρ1 : Env} {fs1 : List (List Addr)} {L : List Nat} (r : SR M X H σ ρ fs) (r1 : SR M X H1 σ ρ1 fs1) (f : Fr (mixF fs1 [] L).flatten H1 H) (hl : ρ.length = ρ1.length) (g : ∀ a ∈ fs.flatten, a ∈ (mixF fs1 [] L).flatten ∨ H1 a = none) : SR M X H σ (backAll ρ ρ1 L) (mixF fs fs1 L) := by
  have lf : fs.length = fs1.length := by rw [r.2.1, r1.2.1, hl]
  have ap : ∀ i ∈ L, ∀ a ∈ fs1.getD i [], a ∉ fs.flatten := fun i hi a ha hb => by
    rcases g a hb with z | z
    · exact (mixF_nil_sub z).2 i hi r1.2.2.2 ha
    · exact r1.thr.not_new (mem_flat.mpr ⟨i, ha⟩) z
  refine ⟨by rw [backAll_len]; exact r.1, by rw [mixF_len, backAll_len]; exact r.2.1, fun i sl e => ?_, ?_⟩
  · have hi : i < ρ.length := by rw [← backAll_len ρ ρ1 L]; exact lt_of_get e
    rw [mixF_at _ _ _ _ (by rw [r.2.1]; exact hi)]
    rw [backAll_at] at e
    by_cases c : i ∈ L
    · rw [if_pos ⟨c, hi⟩] at e; cases e
      rw [if_pos c]
      have hi1 : i < ρ1.length := by omega
      have e1 : ρ1[i]? = some (ρ1.getD i .x) := by rw [List.getD_eq_getElem?_getD, List.getElem?_eq_getElem hi1]; rfl
      exact (r1.slot e1).kp f fun a ha hb => (mixF_nil_sub hb).2 i c r1.2.2.2 ha
    · rw [if_neg (fun z => c z.1)] at e
      rw [if_neg c]
      exact r.slot e
  · refine nodup_at (fun i => ?_) fun i j a hij ha => ?_
    · by_cases hi : i < fs.length
      · rw [mixF_at _ _ _ _ hi]
        split
        · exact RS.nodup_of_flat r1.2.2.2
        · exact RS.nodup_of_flat r.2.2.2
      · rw [mixF_out _ _ _ _ hi]; exact List.nodup_nil
    · by_cases hi : i < fs.length
      · rw [mixF_at _ _ _ _ hi] at ha
        by_cases hj : j < fs.length
        · rw [mixF_at _ _ _ _ hj]
          by_cases ci : i ∈ L
          · rw [if_pos ci] at ha
            by_cases cj : j ∈ L
            · rw [if_pos cj]; exact at_apart r1.2.2.2 hij ha
            · rw [if_neg cj]; exact fun hb => ap i ci a ha (mem_flat.mpr ⟨j, hb⟩)
          · rw [if_neg ci] at ha
            by_cases cj : j ∈ L
            · rw [if_pos cj]; exact fun hb => ap j cj a hb (mem_flat.mpr ⟨i, ha⟩)
            · rw [if_neg cj]; exact at_apart r.2.2.2 hij ha
        · rw [mixF_out _ _ _ _ hj]; exact fun z => nomatch z
      · rw [mixF_out _ _ _ _ hi] at ha; cases ha
theorem mixF_sub {fs1 : List (List Addr)} {L : List Nat} {a : Addr} (h : a ∈ (mixF fs fs1 L).flatten) : a ∈ fs.flatten ∨ a ∈ fs1.flatten := by
  obtain ⟨j, hj⟩ := mem_flat.mp h
  by_cases c : j < fs.length
  · rw [mixF_at _ _ _ _ c] at hj
    split at hj
    · exact .inr (mem_flat.mpr ⟨j, hj⟩)
    · exact .inl (mem_flat.mpr ⟨j, hj⟩)
  · rw [mixF_out _ _ _ _ c] at hj; cases hj
theorem SameW.sr (e : SameW X Y) (r : SR M X H σ ρ fs) : SR M Y H σ ρ fs := ⟨r.1, r.2.1, fun i sl h => e.rs (r.2.2.1 i sl h), r.2.2.2⟩
/-! ### the block's readings -/
def bT (M : Wd) (X : Cx) (m : Env → R Bool) : TT := fun σ H Q => ∃ ρ fs b ρ', m ρ = some (.ok b ρ') ∧ SR M X H σ ρ fs ∧ Tabs M.T H ∧
  ∀ H' fs', SR M X H' σ ρ' fs' → Fr fs.flatten H H' → (∀ a ∈ fs'.flatten, a ∈ fs.flatten ∨ H a = none) → Tabs M.T H' → Q b H'
def bZ (M : Wd) (X : Cx) (m : Env → R W) : TE := fun σ H Q => ∃ ρ fs w ρ' d ρ2, m ρ = some (.ok w ρ') ∧ esc ρ' w = some (d, ρ2) ∧ SR M X H σ ρ fs ∧ Tabs M.T H ∧
  ∀ v H' fs', SR M X H' σ ρ2 fs' → RpX X H' v d → Fr fs.flatten H H' → (∀ a ∈ fs'.flatten, a ∈ fs.flatten ∨ H a = none) → Tabs M.T H' → Q v H'
theorem JT.bt {m : Env → R Bool} {e : Expr} (h : JT M Y m e) (w : SameW X Y) : PT Y e (bT M X m) := by
  refine ⟨fun pins s σ H Q I hq => ?_⟩
  obtain ⟨ρ, fs, b, ρ', hm, sr, tb, k⟩ := hq
  refine wpAny_mono (h pins s σ H ρ fs _ hm I (w.sr sr) tb) (fun u s2 p => ?_) fun u s2 p => ?_
  · obtain ⟨ρ2, H', fs', e1, n⟩ := p
    cases e1
    exact ⟨H', n.inv, k H' fs' (w.symm.sr n.sr) n.fr n.gw n.tb⟩
  · obtain ⟨c, ρ2, e1, _⟩ := p
    cases e1
theorem JE.bz {m : Env → R W} {e : Expr} (h : JE M Y m e) (w : SameW X Y) : PE Y e (bZ M X m) := by
  refine ⟨fun pins s σ H Q I hq => ?_⟩
  obtain ⟨ρ, fs, w0, ρ', d, ρ2, hm, he, sr, tb, k⟩ := hq
  refine wpAny_mono (h pins s σ H ρ fs _ hm I (w.sr sr) tb) (fun u s2 p => ?_) fun u s2 p => ?_
  · obtain ⟨w1, ρ3, H', fs', v, fp, e1, n, rv, rw', nd, fr⟩ := p
    cases e1
    obtain ⟨H2, fs2, n2, q, _, _⟩ := escape n rw' nd fr he
    exact ⟨v, H2, n2.inv, rv, k v H2 fs2 (w.symm.sr n2.sr) (w.symm.rp q) n2.fr n2.gw n2.tb⟩
  · obtain ⟨c, ρ3, e1, _⟩ := p
    cases e1
/-- an error's taker, for another wish -/
theorem xe_unwish {E : Value → Shared → Prop} {W : WX} {u : Value} (x : L2N.XE (X.wish E) W u s') : L2N.XE X W u s' := by
  obtain ⟨a, B, sI, pins, σ, H, cls, d, e, I, nb, up, sky, na, os, ag, w⟩ := x
  exact ⟨a, B, sI, pins, σ, H, cls, d, e, I.unwish, nb, up, sky, na, os, ag, w⟩
theorem same_wish {E : Value → Shared → Prop} : SameW X (X.wish E) := ⟨rfl, rfl, rfl⟩
theorem takes_px {α : Type} {r : Rs α} {c : Nat} (e : r = .ex c ρ') : L2N.Takes (X.wish (PX M X σ H fs r)) (WEx M (X.wish (PX M X σ H fs r)) σ H fs c ρ') := fun u s' x => by
  refine ⟨c, ρ', e, xe_mono (xe_unwish x) fun cls d σ' H' ⟨e1, e2, e3, fs', sr, fr, gw, tb⟩ => ⟨e1, e2, e3, fs', same_wish.symm.sr sr, fr, gw, tb⟩⟩
theorem walkF_len {f : D → Env → R (Option D)} : ∀ {xs acc ys : List D} {ρ ρ' : Env}, walkF f acc xs ρ = some (.ok ys ρ') → acc.length ≤ ys.length
  | [], acc, ys, ρ, ρ', h => by rw [walkF] at h; cases h; exact Nat.le_refl _
  | x :: xs, acc, ys, ρ, ρ', h => by
    rw [walkF] at h
    rcases bind_cases h with ⟨o, ρ1, e1, e2⟩ | ⟨c, ρ1, e1, e2⟩
    · cases o with
      | none => exact walkF_len e2
      | some d =>
        have := walkF_len e2
        rw [List.length_append] at this
        simp at this
        omega
    · cases e2
/-- the turn of a comprehension -/
def stepC (C : Ctx) (el : E) (g : Tg) (c : E) (own : List Nat) (x : D) (ρ : Env) : R (Option D) := match asT 0 g x (killAll ρ own) with
  | some ρ => R.bind (evE C c ρ) fun t ρ => match look ρ t with
    | some (.bl true) => R.bind (evE C el ρ) fun w ρ => match esc ρ w with
      | some (d, ρ) => some (.ok (some d) ρ)
      | none => none
    | some (.bl false) => some (.ok none ρ)
    | _ => none
  | none => none
theorem stepC_ok {el c : E} {g : Tg} {own : List Nat} {x : D} {o : Option D} (h : stepC C el g c own x ρ = some (.ok o ρ')) :
    ∃ ρ1 b ρ2, asT 0 g x (killAll ρ own) = some ρ1 ∧ evT C c ρ1 = some (.ok b ρ2) ∧ ((b = true ∧ ∃ w ρ3 d, evE C el ρ2 = some (.ok w ρ3) ∧ esc ρ3 w = some (d, ρ') ∧ o = some d) ∨ (b = false ∧ o = none ∧ ρ' = ρ2)) := by
  unfold stepC at h
  split at h
  · rename_i ρ1 e1
    rcases bind_cases h with ⟨t, ρ2, e2, h⟩ | ⟨_, _, _, h⟩
    · have eT : ∀ b, look ρ2 t = some (.bl b) → evT C c ρ1 = some (.ok b ρ2) := fun b hl => by
        unfold evT
        rw [e2, R.bind_ok, hl]
      split at h
      · rename_i hl
        rcases bind_cases h with ⟨w, ρ3, e3, h⟩ | ⟨_, _, _, h⟩
        · split at h
          · rename_i d ρ4 he
            cases h
            exact ⟨ρ1, true, ρ2, e1, eT true hl, .inl ⟨rfl, w, ρ3, d, e3, he, rfl⟩⟩
          · cases h
        · cases h
      · rename_i hl
        cases h
        exact ⟨ρ1, false, _, e1, eT false hl, .inr ⟨rfl, rfl, rfl⟩⟩
      · cases h
    · cases h
  · cases h
theorem evE_cmp1 {hf : Bool} {el c : E} {g : Tg} {it : It} {own : List Nat} : evE C (.cmp1 hf el g it c own) ρ = R.bind (evI C it ρ) fun kw ρ1 => match walked ρ1 kw.1 (kw.2.map W.fz) with
    | some xs => (match walkF (stepC C el g c own) [] xs (killAll ρ1 (freeIx ρ1 kw.2)) with
      | some (.ok ys ρ2) => (newL ys).map fun w => .ok w (backAll (killAll ρ2 own) ρ1 (own ++ freeIx ρ1 kw.2))
      | _ => none)
    | none => none := by
  rw [evE]
  rfl
/-- the tests of a comprehension -/
def ifsOk (M : Wd) (X : Cx) (C : Ctx) (c : E) (ifs : List Expr) : Prop := (ifs = [] ∧ c = .bl true) ∨ ∃ ec, ifs = [ec] ∧ JT M X (evT C c) ec
theorem pts_of {c : E} {ifs : List Expr} (h : ifsOk M Y C c ifs) (w : SameW X Y) : PTs Y ifs (bT M X (evT C c)) := by
  rcases h with ⟨rfl, rfl⟩ | ⟨ec, rfl, h⟩
  · refine ⟨fun pins s σ H Q I hq => ?_⟩
    obtain ⟨ρ, fs, b, ρ', hm, sr, tb, k⟩ := hq
    have : evT C (.bl true) ρ = some (.ok true ρ) := by unfold evT; rw [evE]; rfl
    rw [this] at hm
    cases hm
    exact pts_nil.run pins s σ H Q I (k H fs sr Fr.refl (fun a ha => .inl ha) tb)
  · exact pts_one (h.bt w)
theorem getD_ext {α : Type} : ∀ {l m : List (Option α)}, l.length = m.length → (∀ j, l.getD j none = m.getD j none) → l = m
  | [], [], _, _ => rfl
  | [], y :: m, h, _ => by simp at h
  | x :: l, [], h, _ => by simp at h
  | x :: l, y :: m, h, k => by
    have h0 : x = y := by simpa using k 0
    have h1 : l = m := getD_ext (by simpa using h) fun j => by simpa using k (j + 1)
    rw [h0, h1]
theorem wipe_wipe (σ : St) (vs : List Nat) : wipe (wipe σ vs) vs = wipe σ vs := by
  refine getD_ext (by rw [wipe_length]) fun j => ?_
  rw [wipe_at, wipe_at]
  split <;> rfl
theorem mixF_mem {L : List Nat} {a : Addr} : a ∈ (mixF fs [] L).flatten ↔ ∃ j, j ∉ L ∧ a ∈ fs.getD j [] := by
  constructor
  · intro h
    obtain ⟨j, hj⟩ := mem_flat.mp h
    by_cases c : j < fs.length
    · rw [mixF_at _ _ _ _ c] at hj
      split at hj
      · cases hj
      · rename_i nm; exact ⟨j, nm, hj⟩
    · rw [mixF_out _ _ _ _ c] at hj; cases hj
  · rintro ⟨j, nm, hj⟩
    refine mem_flat.mpr ⟨j, ?_⟩
    by_cases c : j < fs.length
    · rw [mixF_at _ _ _ _ c, if_neg nm]; exact hj
    · rw [List.getD_eq_getElem?_getD, List.getElem?_eq_none (by omega)] at hj; cases hj
theorem mixF_two {L L' : List Nat} {a : Addr} (h : a ∈ (mixF (mixF fs [] L) [] L').flatten) : a ∈ (mixF fs [] (L' ++ L)).flatten := by
  obtain ⟨j, n1, h1⟩ := mixF_mem.mp h
  by_cases c : j < fs.length
  · rw [mixF_at _ _ _ _ c] at h1
    split at h1
    · cases h1
    · rename_i n2
      exact mixF_mem.mpr ⟨j, by simp only [List.mem_append, not_or]; exact ⟨n1, n2⟩, h1⟩
  · rw [mixF_out _ _ _ _ c] at h1; cases h1
/-- what a comprehension's block reads -/
theorem cmp1_read {X' : Cx} {hf : Bool} {el c : E} {g : Tg} {it : It} {own : List (Str × Nat)} {r : Rs W} {Q : VK} (same : SameW X X') (hsub : g.sub (own.map (·.2)) = true) (h : evE C (.cmp1 hf el g it c (own.map (·.2))) ρ = some r) (sr : SR M X H σ ρ fs) (tb : Tabs M.T H)
    (hex : ∀ c ρ', r = .ex c ρ' → L2N.Takes X' (WEx M X' σ H fs c ρ'))
    (hQ : ∀ ds ρ' fs' H' D0 vs, r = .ok (.m (.c (.l ds))) ρ' → SR M X H' σ ρ' fs' → Fr fs.flatten H H' → (∀ a ∈ fs'.flatten, a ∈ fs.flatten ∨ H a = none) → Tabs M.T H' → H' D0 = some (.lst vs) → RpsX X H' vs ds → D0 ∉ fs'.flatten → H D0 = none → Q (.ref D0) H') :
    tLc (wiW M X' (evI C it)) (gD M X (asT 0 g) 0 g.sub) (bT M X (evT C c)) (bZ M X (evE C el)) (own.map (·.2)) σ H Q := by
  rw [evE_cmp1] at h
  cases hI : evI C it ρ with
  | none => rw [hI] at h; cases h
  | some r1 =>
    rw [hI] at h
    refine ⟨ρ, fs, r1, hI, same.sr sr, tb, fun kk ws ρ1 e1 => ?_, fun c' ρ' e1 => ?_⟩
    · subst e1
      rw [R.bind_ok] at h
      split at h
      · rename_i xs hw
        refine ⟨xs, hw, fun J G am H1 fs1 dw g1 sr1 f1 gw1 t1 ham D0 hD0 => ?_⟩
        split at h
        · rename_i ys ρ2 hwalk
          obtain ⟨w0, hnew, er⟩ := map_some h
          obtain ⟨rfl, hbig⟩ := newL_some hnew
          have sr1 : SR M X H1 σ ρ1 fs1 := same.symm.sr sr1
          have W : Walk J xs.length G (fun i H x H' => Fr [] H H' ∧ (Tabs M.T H → Tabs M.T H') ∧ ∃ d, xs[i]? = some d ∧ RpX X H' x d) := ⟨dw.goes, dw.stops, fun i H x H' hi hg hy => by
            obtain ⟨a1, a2, d, a3, a4⟩ := dw.yields i H x H' hi hg hy
            exact ⟨a1, a2, d, a3, same.symm.rp a4⟩⟩
          -- what the walk may write
          generalize hwr : (mixF fs1 [] (own.map (·.2) ++ freeIx ρ1 ws)).flatten = wr
          have amw : ∀ a ∈ am, a ∉ wr := fun a ha hb => by
            rw [← hwr] at hb
            obtain ⟨i, hi, hai⟩ := ham a ha
            exact (mixF_nil_sub hb).2 i (List.mem_append_right _ hi) sr1.2.2.2 hai
          have hlen : ∀ {ρi : Env} {fsi : List (List Addr)} {σ' : St} {H' : Hp}, SR M X H' σ' ρi fsi → σ'.length = σ.length → ρi.length = ρ1.length := fun q l => by rw [← q.1, l, sr1.1]
          refine lc_it W (fun i H' => ∃ ρi fsi acc ads, walkF (stepC C el g c (own.map (·.2))) ads (xs.drop i) ρi = some (.ok ys ρ2) ∧ SR M X H' (wipe σ (own.map (·.2))) (killAll ρi (own.map (·.2))) fsi ∧ Fr wr H1 H' ∧ (∀ a ∈ fsi.flatten, a ∈ wr ∨ H1 a = none) ∧ D0 ∉ fsi.flatten ∧ Tabs M.T H' ∧ G H' ∧ H' D0 = some (.lst acc) ∧ RpsX X H' acc ads) ?_ (fun i H' _ hh => by obtain ⟨_, _, _, _, _, _, _, _, _, _, hh, _⟩ := hh; exact hh) ?_ ?_
          · have fu : Fr [] H1 (upd H1 D0 (.lst [])) := Fr.new hD0
            have k1 := sr1.killAll (freeIx ρ1 ws)
            have k2 := (k1.killAll (own.map (·.2))).keep fu (fun _ _ z => nomatch z)
            have sub : ∀ a ∈ (mixF (mixF fs1 [] (freeIx ρ1 ws)) [] (own.map (·.2))).flatten, a ∈ wr := fun a ha => by rw [← hwr]; exact mixF_two ha
            refine ⟨_, _, [], [], hwalk, k2.wiped (vs := own.map (·.2)) (fun i hi sl e => ?_) (wipe_length _ _) (fun j hj => by rw [wipe_at, if_neg hj]), fu.mono (fun _ z => nomatch z), fun a ha => .inl (sub a ha), fun hm => ?_, tabs_new t1 hD0, dw.keep fu (fun _ _ z => nomatch z) g1, upd_same, .nil⟩
            · have hl := lt_of_get e
              rw [killAll_len] at hl
              rw [killAll_at, if_pos ⟨hi, hl⟩] at e
              exact (Option.some.inj e).symm
            · exact sr1.thr.not_new ((mixF_nil_sub (by rw [hwr]; exact sub D0 hm)).1) hD0
          · rintro i x H2 H3 hlt ⟨ρi, fsi, acc, ads, hf, q, fr, gw, nD, tt, gg, hacc, racc⟩ ⟨fr3, tb3, d, hd, rd⟩
            have ed : xs.drop i = d :: xs.drop (i + 1) := by
              have h' : xs[i]'hlt = d := by
                rw [List.getElem?_eq_getElem hlt] at hd
                exact Option.some.inj hd
              rw [List.drop_eq_getElem_cons hlt, h']
            rw [ed, walkF] at hf
            rcases bind_cases hf with ⟨o, ρ', e1, e2⟩ | ⟨c', ρ', e1, e2⟩
            · obtain ⟨ρa, b, ρb, hT, hE, hres⟩ := stepC_ok e1
              have q3 := q.keep fr3 (fun _ _ z => nomatch z)
              have amS : ∀ {S : List Addr}, (∀ x ∈ S, x ∈ wr ∨ H1 x = none) → ∀ a ∈ am, a ∉ S := fun {S} hS a ha hb => by
                rcases hS a hb with z | z
                · exact amw a ha z
                · obtain ⟨i, _, hai⟩ := ham a ha
                  exact sr1.thr.not_new (mem_flat.mpr ⟨i, hai⟩) z
              have fr2 : Fr wr H1 H3 := fr.trans fr3 (fun _ z => nomatch z)
              have g3 : G H3 := dw.keep fr3 (fun _ _ z => nomatch z) gg
              have hD3 : H3 D0 = some (.lst acc) := fr3.kp D0 _ hacc (fun z => nomatch z) (fun _ z => nomatch z)
              refine ⟨d, _, fsi, ρa, rd, q3, hT, fun σ2 fs2 sr2 sb2 _ ln2 wp2 => ⟨(wp2 _ hsub).trans (wipe_wipe _ _), ρa, fs2, b, ρb, hE, sr2, tb3 tt, fun H4 fs4 sr4 f4 gw4 t4 => ?_⟩⟩
              have wp3 : wipe σ2 (own.map (·.2)) = wipe σ (own.map (·.2)) := (wp2 _ hsub).trans (wipe_wipe _ _)
              have ln3 : σ2.length = σ.length := by rw [ln2, wipe_length]
              have in2 : ∀ a ∈ fs2.flatten, a ∈ wr ∨ H1 a = none := fun a ha => gw a (sb2.subset ha)
              have in4 : ∀ a ∈ fs4.flatten, a ∈ wr ∨ H1 a = none := fun a ha => (gw4 a ha).elim (in2 a) fun z => .inr (fr2.none_back z)
              have n2 : D0 ∉ fs2.flatten := fun z => nD (sb2.subset z)
              have n4 : D0 ∉ fs4.flatten := fun z => (gw4 D0 z).elim n2 fun y => by rw [hD3] at y; cases y
              have fr4 : Fr wr H1 H4 := fr2.trans f4 in2
              have g4 : G H4 := dw.keep f4 (amS in2) g3
              have hD4 : H4 D0 = some (.lst acc) := f4.kp D0 _ hD3 n2 (fun _ z => nomatch z)
              have ln4 : (wipe σ (own.map (·.2))).length = σ2.length := by rw [ln2]
              -- the names at the turn's end
              have names : ∀ {H' : Hp} {ρ9 : Env} {fs9 : List (List Addr)}, SR M X H' σ2 ρ9 fs9 → SR M X H' (wipe σ (own.map (·.2))) (killAll ρ9 (own.map (·.2))) (mixF fs9 [] (own.map (·.2))) := fun {H' ρ9 fs9} q9 => by
                refine (q9.killAll (own.map (·.2))).wiped (vs := own.map (·.2)) (fun i hi sl e => ?_) (ln4 ) fun j hj => ?_
                · have hl := lt_of_get e
                  rw [killAll_len] at hl
                  rw [killAll_at, if_pos ⟨hi, hl⟩] at e
                  exact (Option.some.inj e).symm
                · have z := wipe_at σ2 j (own.map (·.2))
                  rw [← wp3, z, if_neg hj]
              rcases hres with ⟨rfl, w, ρ3, d', hEl, hesc, rfl⟩ | ⟨rfl, rfl, rfl⟩
              · dsimp only
                rw [if_pos rfl]
                refine ⟨ρb, fs4, w, ρ3, d', ρ', hEl, hesc, sr4, t4, fun v H5 fs5 sr5 r5 f5 gw5 t5 => ?_⟩
                have in5 : ∀ a ∈ fs5.flatten, a ∈ wr ∨ H1 a = none := fun a ha => (gw5 a ha).elim (in4 a) fun z => .inr (fr4.none_back z)
                have n5 : D0 ∉ fs5.flatten := fun z => (gw5 D0 z).elim n4 fun y => by rw [hD4] at y; cases y
                have fr5 : Fr wr H1 H5 := fr4.trans f5 in4
                have g5 : G H5 := dw.keep f5 (amS in4) g4
                have hD5 : H5 D0 = some (.lst acc) := f5.kp D0 _ hD4 n4 (fun _ z => nomatch z)
                have fw : Fr [D0] H5 (upd H5 D0 (.lst (acc ++ [v]))) := Fr.write hD5 trivial (by simp)
                have e2 : walkF (stepC C el g c (own.map (·.2))) (ads ++ [d']) (xs.drop (i + 1)) ρ' = some (.ok ys ρ2) := e2
                have hlen5 := walkF_len e2
                have racc5 : RpsX X H5 acc ads := racc.kd ((fr3.kd.trans f4.kd).trans f5.kd)
                have nm : D0 ∉ (mixF fs5 [] (own.map (·.2))).flatten := fun z => n5 (mixF_nil_sub z).1
                have one : ∀ a ∈ [D0], a = D0 := fun a ha => by simpa using ha
                refine ⟨acc, hD5, ?_, ρ', mixF fs5 [] (own.map (·.2)), acc ++ [v], ads ++ [d'], e2, (names sr5).keep fw (fun a ha hb => nm (one a hb ▸ ha)), fr5.trans fw (fun x hx => .inr (by rw [one x hx]; exact hD0)), fun a ha => in5 a (mixF_nil_sub ha).1, nm, tabs_upd t5 hD5 (fun _ z => nomatch z) (fun _ z => nomatch z), ?_, upd_same, (racc5.kd fw.kd).append (.cons (r5.kd fw.kd) .nil)⟩
                · rw [List.length_append] at hlen5
                  have hb3 : big < sizeLine := by rw [sizeLine_eq]; decide
                  rw [racc.length]
                  simp at hlen5
                  omega
                · exact dw.keep fw (fun a ha hb => by
                    have : a = D0 := by simpa using hb
                    subst this
                    obtain ⟨i, _, hai⟩ := ham _ ha
                    exact sr1.thr.not_new (mem_flat.mpr ⟨i, hai⟩) hD0) g5
              · dsimp only
                rw [if_neg Bool.false_ne_true]
                exact ⟨_, mixF fs4 [] (own.map (·.2)), acc, ads, e2, names sr4, fr4, fun a ha => in4 a (mixF_nil_sub ha).1, fun z => n4 (mixF_nil_sub z).1, t4, g4, hD4, racc.kd (fr3.kd.trans f4.kd)⟩
            · cases e2
          · rintro H2 ⟨ρi, fsi, acc, ads, hf, q, fr, gw, nD, tt, gg, hacc, racc⟩
            rw [List.drop_length, walkF] at hf
            cases hf
            have q1 : SR M X H2 σ (killAll ρ2 (own.map (·.2))) fsi := q.wiped (vs := own.map (·.2)) (fun i hi sl e => by
              have hl := lt_of_get e
              rw [killAll_len] at hl
              rw [killAll_at, if_pos ⟨hi, hl⟩] at e
              exact (Option.some.inj e).symm) (by rw [wipe_length]) fun j hj => by rw [wipe_at, if_neg hj]
            have bk := q1.back (L := own.map (·.2) ++ freeIx ρ1 ws) sr1 (by rw [hwr]; exact fr) (by rw [← q1.1, ← sr1.1]) (by rw [hwr]; exact gw)
            have wr1 : ∀ a ∈ wr, a ∈ fs1.flatten := fun a ha => by rw [← hwr] at ha; exact (mixF_nil_sub ha).1
            have lim : ∀ a, (a ∈ wr ∨ H1 a = none) → a ∈ fs.flatten ∨ H a = none := fun a ha => ha.elim (fun z => gw1 a (wr1 a z)) fun z => .inr (f1.none_back z)
            refine hQ ys _ _ _ D0 acc er.symm bk (f1.trans fr (fun x hx => lim x (.inl hx))) (fun a ha => ?_) tt hacc racc (fun z => ?_) (f1.none_back hD0)
            · rcases mixF_sub ha with z | z
              · exact lim a (gw a z)
              · exact gw1 a z
            · rcases mixF_sub z with y | y
              · exact nD y
              · exact sr1.thr.not_new y hD0
        · cases h
      · cases h
    · subst e1
      rw [R.bind_ex] at h
      cases h
      exact hex _ _ rfl
/-- [el for g in it if c] -/
theorem je_cmp1 {hf : Bool} {el c : E} {g : Tg} {it : It} {own : List (Str × Nat)} {elt tg ie : Expr} {ifs : List Expr} {scope : Scope} (hc : X.calm = true) (hN : X.N.Nodup) (hi : ∀ E, PI (X.wish E) tg ie (wiW M (X.wish E) (evI C it))) (ok : BlkOk X.N X.env.scope scope own) (hsub : g.sub (own.map (·.2)) = true)
    (hg : ∀ (s : Shared) (H : Hp) (c : Addr) (cl : List (Str × Addr)) (fp : List Addr), PG (X.blk s H scope (compEnvC scope cl c X.env) fp) tg (gD M X (asT 0 g) 0 g.sub))
    (ht : ∀ (s : Shared) (H : Hp) (c' : Addr) (cl : List (Str × Addr)) (fp : List Addr), ifsOk M (X.blk s H scope (compEnvC scope cl c' X.env) fp) C c ifs)
    (he : ∀ (s : Shared) (H : Hp) (c : Addr) (cl : List (Str × Addr)) (fp : List Addr), JE M (X.blk s H scope (compEnvC scope cl c X.env) fp) (evE C el) elt) (hs : ∀ x, foldedSetIterable ie X.env x = pure x) :
    JE M X (evE C (.cmp1 hf el g it c (own.map (·.2)))) (.ListComp elt [⟨tg, ie, ifs, 0⟩] scope pos) := by
  intro pins s σ H ρ fs r h I sr tb
  have blk : ∀ s H c cl fp, SameW X (X.blk s H scope (compEnvC scope cl c X.env) fp) := fun _ _ _ _ _ => ⟨rfl, rfl, rfl⟩
  have rule := (pe_lc (pos := pos) (X := X.wish (PX M X σ H fs r)) hc hN (hi _) ok hg (fun s H c cl fp => pts_of (ht s H c cl fp) (blk s H c cl fp)) (fun s H c cl fp => (he s H c cl fp).bz (blk s H c cl fp)) hs).run pins s σ H
    (fun v H' => ∃ ds ρ' fs', r = .ok (.m (.c (.l ds))) ρ' ∧ SR M X H' σ ρ' fs' ∧ Fr fs.flatten H H' ∧ (∀ a ∈ fs'.flatten, a ∈ fs.flatten ∨ H a = none) ∧ Tabs M.T H' ∧ ∃ D0 vs, v = .ref D0 ∧ H' D0 = some (.lst vs) ∧ RpsX X H' vs ds ∧ D0 ∉ fs'.flatten ∧ H D0 = none) (I.wish _) ?_
  · refine wpAny_mono rule (fun u s2 p => ?_) fun _ _ z => z
    obtain ⟨v, H', I', rv, ds, ρ', fs', er, sr', f', g', t', D0, vs, ev, hD, q, nD, hn⟩ := p
    subst ev
    refine ⟨_, ρ', H', fs', .ref D0, [D0], er, ⟨I'.unwish, sr', f', g', t'⟩, rv, ⟨⟨_, rfl, D0, vs, rfl, rfl, hD, q⟩, Slot.noConfusion⟩, ?_, fun a ha => ?_⟩
    · refine List.nodup_append.mpr ⟨sr'.2.2.2, by simp, fun a ha b hb e => ?_⟩
      have : b = D0 := by simpa using hb
      subst this; subst e
      exact nD ha
    · have : a = D0 := by simpa using ha
      subst this
      exact .inr hn
  refine cmp1_read (X' := X.wish (PX M X σ H fs r)) same_wish hsub h sr tb (fun c ρ' e => takes_px e) fun ds ρ' fs' H' D0 vs er sr' f' g' t' hD q nD hn => ⟨ds, ρ', fs', er, sr', f', g', t', D0, vs, rfl, hD, q, nD, hn⟩
/-- x = [el for g in it if c], on one line, x a local that the block has not -/
theorem js_asgLc {fz hf : Bool} {i : Nat} {el c : E} {g : Tg} {it : It} {own : List (Str × Nat)} {y : Str} {py spos : Pos} {elt tg ie : Expr} {ifs : List Expr} {scope : Scope} (hc : X.calm = true) (hN : X.N.Nodup) (hy : X.N[i]? = some y) (hyl : X.env.scope.names.lookup y = some .local)
    (hsw : swapsWith (.ListComp elt [⟨tg, ie, ifs, 0⟩] scope pos) (some (.Name y py)) spos.line X.env = pure true) (hi : PI X tg ie (wiW M X (evI C it))) (ok : BlkOk X.N X.env.scope scope own) (hsub : g.sub (own.map (·.2)) = true)
    (hg : ∀ (s : Shared) (H : Hp) (c : Addr) (cl : List (Str × Addr)) (fp : List Addr), PG (X.blk s H scope (compEnvC scope cl c X.env) fp) tg (gD M X (asT 0 g) 0 g.sub))
    (ht : ∀ (s : Shared) (H : Hp) (c' : Addr) (cl : List (Str × Addr)) (fp : List Addr), ifsOk M (X.blk s H scope (compEnvC scope cl c' X.env) fp) C c ifs)
    (he : ∀ (s : Shared) (H : Hp) (c : Addr) (cl : List (Str × Addr)) (fp : List Addr), JE M (X.blk s H scope (compEnvC scope cl c X.env) fp) (evE C el) elt) (hs : ∀ x, foldedSetIterable ie X.env x = pure x) :
    PS X (.Assign [.Name y py] (.ListComp elt [⟨tg, ie, ifs, 0⟩] scope pos) spos) (tS M X np (evS C np (.asg fz i (.cmp1 hf el g it c (own.map (·.2)))))) := by
  refine ⟨fun pins s σ H D I ⟨ρ, fs, o, hm, sr, tb, k⟩ => ?_⟩
  have blk : ∀ s H c cl fp, SameW X (X.blk s H scope (compEnvC scope cl c X.env) fp) := fun _ _ _ _ _ => ⟨rfl, rfl, rfl⟩
  rw [evS] at hm
  cases hT : evE C (.cmp1 hf el g it c (own.map (·.2))) ρ with
  | none => rw [hT] at hm; cases hm
  | some r =>
    rw [hT] at hm
    rw [exec_Assign_Name_used _ _ _ _ hsw]
    refine wpAny_bind (wpAny_standAt (wpAny_bind ?_))
    show wpAny _ X.A (do let _ ← comprehension (.ListComp elt [⟨tg, ie, ifs, 0⟩] scope pos) scope X.env (firstIterPos [⟨tg, ie, ifs, 0⟩] pos) (newList []) false (eval ie X.env) (some (assign (.Name y py) X.env))) _ _ s
    have rd := cmp1_read (X := X) (X' := X) (Q := fun v H' => ∃ ds ρ' fs' D0 vs, v = .ref D0 ∧ r = .ok (.m (.c (.l ds))) ρ' ∧ SR M X H' σ ρ' fs' ∧ Fr fs.flatten H H' ∧ (∀ a ∈ fs'.flatten, a ∈ fs.flatten ∨ H a = none) ∧ Tabs M.T H' ∧ H' D0 = some (.lst vs) ∧ RpsX X H' vs ds ∧ D0 ∉ fs'.flatten ∧ H D0 = none)
      ⟨rfl, rfl, rfl⟩ hsub hT sr tb (fun c ρ' e => by subst e; cases hm; exact takes_E (k.ex c ρ' rfl)) fun ds ρ' fs' H' D0 vs er sr' f' g' t' hD q nD hn => ⟨ds, ρ', fs', D0, vs, rfl, er, sr', f', g', t', hD, q, nD, hn⟩
    refine wpAny_bind (thn (lc_core (Qf := fun _ s' => SP X pins D .next s') hc hN I hi ok hg (fun s H c cl fp => pts_of (ht s H c cl fp) (blk s H c cl fp)) (fun s H c cl fp => (he s H c cl fp).bz (blk s H c cl fp)) hs rd fun L C' s' m H' I' q hn f => ?_) fun _ s' hq => wpAny_pure (wpAny_pure hq))
    obtain ⟨ds, ρ', fs', D0, vs, ev, er, sr', f', g', t', hD, qr, nD, hnone⟩ := q
    cases ev
    subst er
    dsimp only at hm
    -- what is stored
    have nw : Nw M X pins σ ρ' H fs H' fs' s' := ⟨I', sr', f', g', t'⟩
    have nd0 : (fs'.flatten ++ [L]).Nodup := List.nodup_append.mpr ⟨sr'.2.2.2, by simp, fun a ha b hb e => by
      have : b = L := by simpa using hb
      subst this; subst e; exact nD ha⟩
    have fr0 : ∀ x ∈ [L], x ∈ fs.flatten ∨ H x = none := fun x hx => by
      have : x = L := by simpa using hx
      subst this; exact .inr hnone
    have rw0 : RW M X H' σ (.ref L) (.m (.c (.l ds))) [L] := ⟨⟨_, rfl, L, vs, rfl, rfl, hD, qr⟩, Slot.noConfusion⟩
    split at hm
    · rename_i sl ρ2 hst
      obtain ⟨ρ3, hp, eo⟩ := map_some hm
      have two : ∃ H2 fs2 fp2, Inv X pins σ H2 s' ∧ Stt M X np σ H fs σ ρ2 H2 fs2 ∧ RS M X H2 (some (.ref L)) sl fp2 ∧ fp2.Nodup ∧ (∀ x ∈ fp2, x ∉ fs2.flatten) ∧ (∀ x ∈ fp2, x ∈ fs.flatten ∨ H x = none) ∧ ∀ b, H' b = none → H2 b = none := by
        cases fz with
        | false =>
          cases hst
          exact ⟨H', fs', [L], I', nw.stt, rw0.1, by simp, nd_apart' nd0, fr0, fun _ z => z⟩
        | true =>
          have e : some (Slot.p (.lst ds), ρ') = some (sl, ρ2) := hst
          cases e
          obtain ⟨od, I2, t2, f2⟩ := lock_one I' t' hD trivial (fun _ z => nomatch z) (fun _ z => nomatch z)
          exact ⟨_, fs', [], I2, Stt.ofE (sr'.keep f2 (nd_apart nd0)) (f'.trans f2 fr0) g' t2, ⟨_, rfl, rfl, .lst ⟨od, upd_same⟩ (qr.kd f2.kd)⟩, List.nodup_nil, (fun _ z => nomatch z), (fun _ z => nomatch z), fun b hb => by rw [upd_ne (fun z => by rw [z, hD] at hb; cases hb)]; exact hb⟩
      obtain ⟨H2, fs2, fp2, I2, q2, rs2, nf2, nd2, g2, back⟩ := two
      unfold put at hp
      split at hp
      · rename_i hb
        cases hp
        obtain ⟨f0, f1, f2, f3, f4, f5⟩ := f
        show wpAny _ _ (assign (.Name y py) X.env (.ref L)) _ _ _
        refine wpAny_assign_Name (store_ok2 (v := V.ref L) I2 hN hy (.inl hyl) rfl (fun s2 I3 ⟨a, sb, ha⟩ => ?_) (.inr hyl))
        have haC : C' ≠ a := by
          rcases ha with z | z
          · rw [z]; exact f1
          · exact fun e => f4 y a z e.symm
        have f0' : H2 C' = none := back _ f0
        refine ⟨m, hn.sameBut sb haC, fun h3 sb3 => ?_⟩
        exact ⟨_, H2, I3.turned (t' := s2.toks) (fun b o hb e => (sb3.2 b hb).trans e) f0' f1 f3 f4 f5, k.nx _ _ _ _ eo.symm (q2.put hb rs2 nf2 nd2 g2)⟩
      · cases hp
    · cases hm
end
end Mi
set_option Elab.async false
set_option linter.all false
set_option maxRecDepth 100000
set_option maxHeartbeats 2000000
/-! MiR: a, b = x, y; x[i] = v; x = [..]. -/
namespace Mi
open PySem PySem.Spec PyProof.Rows L2 LamX
section
variable {M : Wd} {X Y : Cx} {H H' H0 : Hp} {σ σ' : St} {ρ ρ' : Env} {fs fs' fs0 : List (List Addr)} {pins : List (Addr × Obj)} {s s' : Shared} {C : Ctx} {pos : Pos} {np : Nat}
theorem put_some {i : Nat} {sl : Slot} {ρ2 : Env} (h : put np ρ i sl = some ρ2) : (np ≤ i ∧ i < ρ.length) ∧ ρ2 = ρ.set i sl := by
  unfold put at h
  split at h
  · rename_i hb; exact ⟨hb, (Option.some.inj h).symm⟩
  · cases h
theorem stored_fr {fz : Bool} {w : W} {v : V} {sl : Slot} {fp : List Addr} {ρ2 : Env} {s : Shared} {pins : List (Addr × Obj)} (a : Stt M X np σ H fs σ' ρ' H' fs') (r : RW M X H' σ' v w fp) (nd : (fs'.flatten ++ fp).Nodup) (g : ∀ x ∈ fp, x ∈ fs.flatten ∨ H x = none) (I : Inv X pins σ' H' s) (h : stored fz ρ' w = some (sl, ρ2)) :
    ∃ H2 fs2 q, Inv X pins σ' H2 s ∧ Stt M X np σ H fs σ' ρ2 H2 fs2 ∧ RS M X H2 (some v) sl q ∧ q.Nodup ∧ Fr (fs'.flatten ++ fp) H' H2 ∧ fs2.flatten.Sublist fs'.flatten ∧ (∀ x ∈ q, x ∈ fp) ∧ ρ2.length = ρ'.length := by
  have viaEsc : (esc ρ' w).map (fun p => (Slot.p p.1, p.2)) = some (sl, ρ2) → ∃ H2 fs2 q, Inv X pins σ' H2 s ∧ Stt M X np σ H fs σ' ρ2 H2 fs2 ∧ RS M X H2 (some v) sl q ∧ q.Nodup ∧ Fr (fs'.flatten ++ fp) H' H2 ∧ fs2.flatten.Sublist fs'.flatten ∧ (∀ x ∈ q, x ∈ fp) ∧ ρ2.length = ρ'.length := fun h => by
    obtain ⟨p, hp, e⟩ := map_some h
    obtain ⟨d, ρ3⟩ := p
    cases e
    have n : Nw M X pins σ' ρ' H fs H' fs' s := ⟨I, a.sr, a.fr, a.gw, a.tb⟩
    obtain ⟨H2, fs2, n2, q, f2, s2⟩ := escape n r nd g hp
    exact ⟨H2, fs2, [], n2.inv, ⟨n2.sr, n2.fr, n2.gw, n2.tb, a.kp, a.ln⟩, ⟨v, rfl, rfl, q⟩, List.nodup_nil, f2, s2, (fun _ z => nomatch z), by rw [← n2.sr.1, ← a.sr.1]⟩
  unfold Mi.stored at h
  cases fz with
  | true => exact viaEsc h
  | false =>
    cases w with
    | m s0 =>
      cases h
      exact ⟨H', fs', fp, I, a, r.1, (List.nodup_append.mp nd).2.1, Fr.refl, List.Sublist.refl _, fun _ z => z, rfl⟩
    | d x => exact viaEsc h
    | s i => exact viaEsc h
/-- what is stored of two values, one after the other -/
theorem stored_two {fa fb : Bool} {w1 w2 : W} {v1 v2 : V} {fp1 fp2 : List Addr} {sl1 sl2 : Slot} {ρ2 ρ3 : Env} {s : Shared} {pins : List (Addr × Obj)} (a : Stt M X np σ H fs σ' ρ' H' fs') (r1 : RW M X H' σ' v1 w1 fp1) (r2 : RW M X H' σ' v2 w2 fp2) (nd : (fs'.flatten ++ (fp1 ++ fp2)).Nodup)
    (g : ∀ x ∈ fp1 ++ fp2, x ∈ fs.flatten ∨ H x = none) (I : Inv X pins σ' H' s) (h1 : stored fa ρ' w1 = some (sl1, ρ2)) (h2 : stored fb ρ2 w2 = some (sl2, ρ3)) :
    ∃ H2 fs2 q1 q2, Inv X pins σ' H2 s ∧ Stt M X np σ H fs σ' ρ3 H2 fs2 ∧ RS M X H2 (some v1) sl1 q1 ∧ RS M X H2 (some v2) sl2 q2 ∧ q1.Nodup ∧ q2.Nodup ∧ (∀ x ∈ q1, x ∉ fs2.flatten) ∧ (∀ x ∈ q2, x ∉ fs2.flatten) ∧ (∀ x ∈ q2, x ∉ q1) ∧ (∀ x ∈ q1, x ∈ fs.flatten ∨ H x = none) ∧ (∀ x ∈ q2, x ∈ fs.flatten ∨ H x = none) ∧ ρ3.length = ρ'.length := by
  obtain ⟨n1, n2, n3, n4⟩ := nd_assoc nd
  obtain ⟨H2, fs2, q1, I2, S2, R1, d1, F2, b2, i1, l2⟩ := stored_fr a r1 n1 (fun x hx => g x (List.mem_append_left _ hx)) I h1
  have r2' := r2.kp F2 (fun x hx => n4 x hx)
  obtain ⟨H3, fs3, q2, I3, S3, R2, d2, F3, b3, i2, l3⟩ := stored_fr S2 r2' (nd_sub n2 b2) (fun x hx => g x (List.mem_append_right _ hx)) I2 h2
  have o1 : ∀ x ∈ q1, x ∉ fs2.flatten ++ fp2 := fun x hx hm => by
    rcases List.mem_append.mp hm with z | z
    · exact nd_apart n1 x (b2.subset z) (i1 x hx)
    · exact n4 x z (List.mem_append_right _ (i1 x hx))
  exact ⟨H3, fs3, q1, q2, I3, S3, R1.kp F3 o1, R2, d1, d2, fun x hx hm => o1 x hx (List.mem_append_left _ (b3.subset hm)), fun x hx hm => nd_apart' n2 x (i2 x hx) (b2.subset (b3.subset hm)), fun x hx hm => o1 x hm (List.mem_append_right _ (i2 x hx)),
    fun x hx => g x (List.mem_append_left _ (i1 x hx)), fun x hx => g x (List.mem_append_right _ (i2 x hx)), l3.trans l2⟩
/-- a, b = x, y: plain local names -/
theorem js_par {lc fa fb : Bool} {i j : Nat} {a b : E} {x y : Str} {ea eb : Expr} {px py pt : Pos} {kt k2 : Nat} {pt2 : Pos} (hc : X.calm = true) (hN : X.N.Nodup) (hi : X.N[i]? = some x) (hj : X.N[j]? = some y) (hij : i ≠ j)
    (hx : X.env.scope.names.lookup x = some .local) (hy : X.env.scope.names.lookup y = some .local) (ha : JA M X (evEs C (.cons a (.cons b .nil))) [ea, eb])
    (hw : swappedStores [.Tuple [.Name x px, .Name y py] kt pt] (.Tuple [ea, eb] k2 pt2) X.env = pure (some [x, y]))
    (hs : swapsWithSole [.Tuple [.Name x px, .Name y py] kt pt] (.Tuple [ea, eb] k2 pt2) pos.line X.env = pure false) :
    PS X (.Assign [.Tuple [.Name x px, .Name y py] kt pt] (.Tuple [ea, eb] k2 pt2) pos) (tS M X np (evS C np (.par lc fa fb i j a b))) := by
  refine ⟨fun pins s σ H D I ⟨ρ, fs, o, hm, sr, tb, k⟩ => ?_⟩
  rw [evS] at hm
  rw [exec_Assign_arm]
  refine wpAny_bind (wpAny_standAt ?_)
  rw [hs]
  refine wpAny_bind (wpAny_pure ?_)
  rw [if_neg (by decide)]
  cases hT : evEs C (.cons a (.cons b .nil)) ρ with
  | none => rw [hT] at hm; cases hm
  | some r =>
    rw [hT] at hm
    refine wpAny_bind (Tuple_ (ha.run hT I sr tb (fun c ρ1 e1 => ?_) fun ws ρ1 vs H1 fs1 fps us s1 e1 n rvs rws nd fr => ?_))
    · subst e1; cases hm; exact takes_E (k.ex c ρ1 rfl)
    · subst e1
      have h2 : ws.length = 2 := evEs_len hT rfl
      match ws, h2 with
      | [w1, w2], _ =>
      cases rws with
      | cons r1 t1 =>
        cases t1 with
        | cons r2 t2 =>
          cases t2
          rename_i v1 fp1 v2 fp2
          dsimp only at hm
          split at hm
          · rename_i sl1 ρ2 hs1
            split at hm
            · rename_i sl2 ρ3 hs2
              obtain ⟨ρ4, hp1, hm⟩ : ∃ ρ4, put np ρ3 i sl1 = some ρ4 ∧ (put np ρ4 j sl2).map Out.nx = some o := by
                cases hp : put np ρ3 i sl1 with
                | none => rw [hp] at hm; cases hm
                | some ρ4 => rw [hp] at hm; exact ⟨ρ4, rfl, hm⟩
              obtain ⟨ρ5, hp2, eo⟩ := map_some hm
              obtain ⟨b1, e4⟩ := put_some hp1
              subst e4
              obtain ⟨b2, e5⟩ := put_some hp2
              subst e5
              have nd' : (fs1.flatten ++ (fp1 ++ fp2)).Nodup := by simpa using nd
              have fr' : ∀ x ∈ fp1 ++ fp2, x ∈ fs.flatten ∨ H x = none := fun x hx => fr x (by simpa using hx)
              obtain ⟨H2, fs2, q1, q2, I2, S2, R1, R2, d1, d2, o1, o2, o12, g1, g2, l3⟩ := stored_two (n.stt (np := np)) r1 r2 nd' fr' n.inv hs1 hs2
              have p1 := S2.put b1 R1 d1 o1 g1
              have p2 := p1.put b2 R2 d2 (fun z hz hm => by
                rcases mem_set_flat hm with y | y
                · exact o12 z hz y
                · exact o2 z hz ((set_sub _ _).subset y)) g2
              obtain ⟨u1, u2, rfl, rv, rw'⟩ := vals2 rvs
              refine wpAny_newObj_type ?_ (by show 2 ≤ sizeLine; decide)
              have I3 : Inv X pins σ H2 { s1 with heap := s1.heap.push { cls := .type "tuple", data := .seq [u1, u2].toArray } } := I2.kept (t' := s1.toks) fun b o e => Heap.get?_push_of_some _ e
              rw [hw]
              refine wpAny_bind (wpAny_pure ?_)
              show wpAny (model X.prog X.w) X.A (do rule "assign.swapped-stores"; let items ← unpackItems (.ref s1.heap.objs.size) 2 none; assignInOrder [fun v => bindName X.env y v, fun v => bindName X.env x v] items.reverse; pure Flow.next) _ _ _
              refine wpAny_bind (wpAny_rule (wpAny_bind (unpackItems_tuple (items := #[u1, u2]) (I.ok.hd hc) (IsTup.new s1.heap _) fun h' hx' => ?_)))
              have I4 := I3.kept (h' := h') (t' := s1.toks) fun b o e => hx' b o (Nat.ne_of_lt (Heap.lt_size e)) e
              show wpAny _ _ (assignInOrder [fun v => bindName X.env y v, fun v => bindName X.env x v] [u2, u1] >>= fun _ => pure Flow.next) _ _ _
              refine wpAny_bind (assignInOrder_cons (wpAny_bindName (store_ok I4 hN hj (.inl hy) rw' (fun s2 I5 => ?_) (.inr hy))))
              refine assignInOrder_cons (wpAny_bindName (store_ok I5 hN hi (.inl hx) rv (fun s3 I6 => assignInOrder_nil (wpAny_pure ?_)) (.inr hx)))
              rw [List.set_comm _ _ (Ne.symm hij)] at I6
              exact ⟨_, H2, I6, k.nx _ _ H2 _ eo.symm p2⟩
            · cases hm
          · cases hm
/-- x[i] = v, x a name's own list -/
theorem js_setI {i : Nat} {ke ve : E} {x : Str} {ek ev : Expr} {px p1 : Pos} (hN : X.N[i]? = some x) (hv : Vis X.env.scope x) (hd : (x == ("__debug__" : Str)) = false) (hcd : (x == ("__classdict__" : Str)) = false) (hk : JE M X (evE C ke) ek) (hve : JE M X (evE C ve) ev)
    (hs : swapsWithSole [.Subscript (.Name x px) ek p1] ev pos.line X.env = pure false) (hw : swappedStores [.Subscript (.Name x px) ek p1] ev X.env = pure none) (h1 : (assignEach [.Subscript (.Name x px) ek p1] X.env).map (·.2) = [assign (.Subscript (.Name x px) ek p1) X.env])
    (hasg : ∀ v, assign (.Subscript (.Name x px) ek p1) X.env v = (do
      let ov ← holding [v] (eval (.Name x px) X.env)
      let iv ← holding [v, ov] (eval ek X.env)
      standAt p1
      holding [v, ov, iv] (setItem ov iv v)
      release [v, ov, iv] [])) : PS X (.Assign [.Subscript (.Name x px) ek p1] ev pos) (tS M X np (evS C np (.setI i ke ve))) := by
  refine ⟨fun pins s σ H D I ⟨ρ, fs, o, hm, sr, tb, k⟩ => ?_⟩
  rw [evS] at hm
  cases hT : evE C ve ρ with
  | none => rw [hT] at hm; cases hm
  | some r =>
    rw [hT] at hm
    refine wpAny_Assign_stores (hve.run hT I sr tb (fun c ρ1 e1 => ?_) fun w ρ1 v H1 fs1 fp u s1 e1 n rv rw1 nd fr => ?_) hs hw
    · subst e1; cases hm; exact takes_E (k.ex c ρ1 rfl)
    · subst e1
      dsimp only at hm
      split at hm
      · rename_i xs0 e0
        obtain ⟨v0, ev0⟩ := n.sr.val e0 Slot.noConfusion
        rw [h1]
        have goal : wpAny (model X.prog X.w) X.A (assign (.Subscript (.Name x px) ek p1) X.env u) (fun _ s' => ∃ σ' H', Inv X pins σ' H' s' ∧ D.nx σ' H') X.xe s1 := by
          rw [hasg]
          refine wpAny_bind (wpAny_holding (thn ((pe_var hN hv hd hcd).run pins s1 σ H1 (fun z H2 => z = v0 ∧ H2 = H1) n.inv ⟨v0, ev0, rfl, rfl⟩) fun ov s2 ⟨z, H2, I2, rz, ez, eH⟩ => ?_))
          subst ez eH
          have q1 : Stt M X np σ H fs σ ρ1 H2 fs1 := n.stt
          cases hK : evE C ke ρ1 with
          | none => rw [hK] at hm; cases hm
          | some r2 =>
            rw [hK] at hm
            refine wpAny_bind (wpAny_holding (hk.run hK I2 n.sr n.tb (fun c ρ2 e2 => ?_) fun w2 ρ2 v2 H3 fs2 fp2 u2 s3 e2 n2 rv2 rw2 nd2 fr2 => ?_))
            · subst e2; cases hm; exact takes_E (takes_S q1 (k.ex c ρ2 rfl))
            · subst e2
              dsimp only at hm
              split at hm
              · rename_i vd zz ρ3 he
                split at hm
                · rename_i xs e3
                  split at hm
                  · rename_i jj hj
                    cases hm
                    -- both are data now
                    have rw1' := rw1.kp n2.fr (nd_apart' nd)
                    have n3 : Nw M X pins σ ρ2 H fs H3 fs2 s3 := (show Nw M X pins σ ρ1 H fs H2 fs1 s2 from ⟨I2, n.sr, n.fr, n.gw, n.tb⟩).trans n2
                    have ndd : (fs2.flatten ++ [fp, fp2].flatten).Nodup := by
                      have b1 := List.nodup_append.mp nd
                      have b2 := List.nodup_append.mp nd2
                      have old : ∀ a ∈ fp, H2 a ≠ none := fun a ha => rw1.thr.not_new ha
                      have e : [fp, fp2].flatten = fp ++ fp2 := by simp
                      rw [e]
                      refine List.nodup_append.mpr ⟨b2.1, List.nodup_append.mpr ⟨b1.2.1, b2.2.1, fun a ha b hb e => ?_⟩, fun a ha b hb e => ?_⟩
                      · subst e
                        rcases fr2 a hb with y | y
                        · exact b1.2.2 a y a ha rfl
                        · exact old a ha y
                      · subst e
                        rcases List.mem_append.mp hb with y | y
                        · rcases n2.gw a ha with w | w
                          · exact b1.2.2 a w a y rfl
                          · exact old a y w
                        · exact b2.2.2 a ha a y rfl
                    have frr : ∀ a ∈ [fp, fp2].flatten, a ∈ fs.flatten ∨ H a = none := fun a ha => by
                      have ha : a ∈ fp ++ fp2 := by simpa using ha
                      rcases List.mem_append.mp ha with y | y
                      · exact fr a y
                      · exact (show Nw M X pins σ ρ1 H fs H2 fs1 s2 from ⟨I2, n.sr, n.fr, n.gw, n.tb⟩).back (fr2 a y)
                    obtain ⟨H4, fs4, n4, qq, _, _⟩ := escapes n3 (.cons rw1' (.cons rw2 .nil)) ndd frr he
                    cases qq with
                    | cons qv qt =>
                      cases qt with
                      | cons qz qt =>
                        cases qt
                        cases qz
                        obtain ⟨v5, e5, a5, vs5, ea5, hf5, ha5, q5⟩ := n4.sr.slot e3
                        rw [getD_some ev0] at e5; cases e5
                        subst ea5
                        refine wpAny_bind (wpAny_standAt (wpAny_bind (wpAny_holding (thn (set_list pins s3 σ H4 (.ref a5) (.int zz) v ov u2 u (fun H' => H' = upd H4 a5 (.lst (vs5.set jj v))) n4.inv rz rv2 rv ⟨a5, vs5, zz, jj, rfl, rfl, ha5, by rw [q5.length, ← ix_eq]; exact hj, rfl⟩) fun _ s4 ⟨H5, I5, e6⟩ => ?_))))
                        subst e6
                        have nf := n4.write e3 ev0 ha5 hf5 I5 (q5.set qv jj)
                        exact wpAny_release ⟨σ, _, I5, k.nx _ _ _ _ rfl nf.stt⟩
                  · cases hm
                · cases hm
              · cases hm
        refine thn ?_ fun _ s2 q => q
        exact goal
      · cases hm
end
end Mi
set_option Elab.async false
set_option linter.all false
set_option maxRecDepth 100000
set_option maxHeartbeats 2000000
/-! MjA: zip to one name. -/
namespace Mi
open PySem PySem.Spec PyProof.Rows L2 LamX
/-- the zip's record: the pair that it handed out, whether that was held -/
abbrev ZipR (h : Heap) (z TI TO : Addr) (f0 : Value) (b : Bool) : Prop :=
  h.get? z = some { cls := .type "zip", dict := none, data := .fields #[f0, .bool b, .bool false, .ref TI, .ref TO], slots := #[] }
def Handed (f0 : Value) : Prop := f0 = .none ∨ ∃ T : Nat, f0 = rawInt (T : Int)
section
variable {prog : Program} {w : World} {A : Around} {E : Value → Shared → Prop} {s : Shared}
/-- one of the two that are zipped: its iterator, what it stands over -/
structure Dr (prog : Program) (w : World) (it l : Addr) (itm : Array Value) (pl : Heap → Nat → Prop) (ov : Heap → Prop) : Prop where
  item : ∀ {A : Around} {E Q : Value → Shared → Prop} {s : Shared} {k : Nat} {x : Value}, pl s.heap k → ov s.heap → itm[k]? = some x → (∀ h', pl h' (k + 1) → Heap.SameBut it s.heap h' → Q x { s with heap := h' }) → wpAny (model prog w) A (Builtin.SmallTypes.nextOf (.ref it)) Q E s
  done : ∀ {A : Around} {E Q : Value → Shared → Prop} {s : Shared} {k : Nat}, A.handled = none → pl s.heap k → ov s.heap → itm[k]? = none → (∀ h' e, Heap.ExtBut it s.heap h' → (∃ o, h'.get? e = some o ∧ o.cls = .type "StopIteration") → E (.ref e) { s with heap := h' }) → wpAny (model prog w) A (Builtin.SmallTypes.nextOf (.ref it)) Q E s
  pk : ∀ {h h' : Heap} {k : Nat}, pl h k → (∀ o, h.get? it = some o → h'.get? it = some o) → pl h' k
  ok : ∀ {h h' : Heap}, ov h → (∀ o, h.get? l = some o → h'.get? l = some o) → ov h'
  there : ∀ {h : Heap} {k : Nat}, pl h k → ∃ o, h.get? it = some o ∧ ∀ v, o.data ≠ .cell v
theorem dr_list {it l : Addr} {itm : Array Value} : Dr prog w it l itm (fun h k => h.IsListIter it l k) (fun h => h.IsList l itm) where
  item := fun a b c d => wpAny_nextOf_list_item a b c d
  done := fun h a b c d => wpAny_nextOf_list_end h a b c d
  pk := fun a k => a.at fun o e => k o e
  ok := fun ⟨o, e, r⟩ k => ⟨o, k o e, r⟩
  there := fun ⟨o, e, _, d⟩ => ⟨o, e, fun v q => by rw [d] at q; cases q⟩
theorem dr_tup {it l : Addr} {itm : Array Value} : Dr prog w it l itm (fun h k => h.IsTupleIter it l k) (fun h => h.IsTuple l itm) where
  item := fun a b c d => RZ.nextOf_tuple_item a b c d
  done := fun h a b c d => RZ.nextOf_tuple_end h a b c d
  pk := fun a k => a.at fun o e => k o e
  ok := fun ⟨o, e, r⟩ k => ⟨o, k o e, r⟩
  there := fun ⟨o, e, _, d⟩ => ⟨o, e, fun v q => by rw [d] at q; cases q⟩
theorem alive_any {a : Addr} {Q : Option Obj → Shared → Prop} (q : Q (s.heap.get? a) s) : wpAny (model prog w) A (loadIfAlive a) Q E s := by
  intro Γ p hΓ
  unfold loadIfAlive
  rw [Sem.wp_loadIfAlive]
  exact wpAny_pure q Γ p hΓ
/-- whether the pair may be used again -/
theorem free_any {z TI TO : Addr} {f0 : Value} {b : Bool} {Q : Bool → Shared → Prop} (hz : ZipR s.heap z TI TO f0 b) (hf : Handed f0) (q1 : Q true s) (q2 : ∀ h', ZipR h' z TI TO f0 true → Heap.SameBut z s.heap h' → Q false { s with heap := h' }) :
    wpAny (model prog w) A (Builtin.SmallTypes.ownedTupleIsFree (.ref z)) Q E s := by
  unfold Builtin.SmallTypes.ownedTupleIsFree
  rcases hf with rfl | ⟨T, rfl⟩
  · exact wpAny_bind (wpAny_field hz rfl (x := .none) rfl (wpAny_pure q1))
  · refine wpAny_bind (wpAny_field hz rfl (x := rawInt (T : Int)) rfl ?_)
    show wpAny _ _ (loadIfAlive ((T : Int).toNat) >>= _) _ _ _
    refine wpAny_bind (alive_any ?_)
    cases e : s.heap.get? ((T : Int).toNat) with
    | none =>
      simp only [Option.isNone_none, if_true]
      exact wpAny_pure q1
    | some o =>
      simp only [Option.isNone_some, Bool.false_eq_true, if_false]
      refine wpAny_bind (wpAny_field hz rfl (x := .bool b) rfl ?_)
      cases b with
      | true =>
        rw [if_neg (show ¬ ((Value.bool true != Value.bool true) = true) from Bool.false_ne_true)]
        exact wpAny_pure (q2 _ hz (Heap.SameBut.refl _ _))
      | false =>
        rw [if_pos (show (Value.bool false != Value.bool true) = true from rfl)]
        refine wpAny_bind (wpAny_setField_rec hz (by simp) fun h3 z3 s3 => ?_)
        exact wpAny_pure (q2 h3 z3 s3)
variable {z TI TO i1 i2 l1 l2 : Addr} {k : Nat} {xs ys : Array Value} {p1 p2 : Heap → Nat → Prop} {o1 o2 : Heap → Prop} {f0 : Value} {b : Bool}
theorem zipR_item {x y : Value} {Q : Value → Shared → Prop} (D : ZipApart z TI TO i1 i2 l1 l2) (d1 : Dr prog w i1 l1 xs p1 o1) (d2 : Dr prog w i2 l2 ys p2 o2)
    (hz : ZipR s.heap z TI TO f0 b) (hf : Handed f0) (hI : IsPair s.heap TI (.ref i1) (.ref i2)) (hO : ∃ a c, IsPair s.heap TO a c) (h1 : p1 s.heap k) (h2 : p2 s.heap k) (g1 : o1 s.heap) (g2 : o2 s.heap) (hx : xs[k]? = some x) (hy : ys[k]? = some y)
    (hQ : ∀ h' f0' b', ZipR h' z TI TO f0' b' → Handed f0' → (∃ a c, IsPair h' TO a c) → p1 h' (k + 1) → p2 h' (k + 1) → IsPair h' s.heap.objs.size x y → h'.objs.size = s.heap.objs.size + 1 →
      (∀ c o, c ≠ z → c ≠ TO → c ≠ i1 → c ≠ i2 → s.heap.get? c = some o → h'.get? c = some o) → Q (.ref s.heap.objs.size) { s with heap := h' }) :
    wpAny (model prog w) A (Builtin.«zip.__next__» ⟨[.ref z], []⟩) (fun fin s' => ∃ v, fin = .done (.ret v) ∧ Q v s') E s := by
  obtain ⟨a0, c0, hO⟩ := hO
  show wpAny _ _ (field (.ref z) 2 >>= _) _ _ _
  refine wpAny_bind (wpAny_field hz rfl (x := .bool false) rfl ?_)
  show wpAny _ _ (field (.ref z) 3 >>= _) _ _ _
  refine wpAny_bind (wpAny_field hz rfl (x := .ref TI) rfl ?_)
  refine wpAny_bind (wpAny_seqItems hI rfl ?_)
  show wpAny _ _ (Builtin.SmallTypes.ownedTupleIsFree (.ref z) >>= _) _ _ _
  refine wpAny_bind (free_any hz hf ?_ fun hA zA sA => ?_)
  · -- the pair is used again
    simp only [if_true]
    refine wpAny_bind (wpAny_rule ?_)
    refine wpAny_bind (wpAny_field hz rfl (x := .ref TO) rfl ?_)
    refine wpAny_bind (wpAny_setField_rec hz (by simp) fun ha za sa => ?_)
    replace za : ZipR ha z TI TO .ellipsis b := za
    refine wpAny_bind ?_
    simp only [List.zipIdx_cons, List.zipIdx_nil, List.forIn_cons, List.forIn_nil]
    refine wpAny_bind (wpAny_bind (wpAny_onRaise ?_))
    show wpAny _ _ (Builtin.SmallTypes.nextOf (.ref i1) >>= _) _ _ _
    refine wpAny_bind (d1.item (d1.pk h1 fun o e => sa.extBut _ _ D.i1z e) (d1.ok g1 fun o e => sa.extBut _ _ D.l1z e) hx fun hb pb sb => wpAny_pure ?_)
    have Ob : IsPair hb TO a0 c0 := sb.extBut _ _ D.TOi1 (sa.extBut _ _ D.TOz hO)
    refine wpAny_bind (wpAny_seqItems Ob rfl ?_)
    refine wpAny_bind (wpAny_updateSeq_pair Ob fun hc Oc sc => ?_)
    replace Oc : IsPair hc TO x c0 := Oc
    refine wpAny_bind (wpAny_letGo (wpAny_pure ?_))
    refine wpAny_bind (wpAny_bind (wpAny_onRaise ?_))
    show wpAny _ _ (Builtin.SmallTypes.nextOf (.ref i2) >>= _) _ _ _
    refine wpAny_bind (d2.item (d2.pk (d2.pk (d2.pk h2 fun o e => sa.extBut _ _ D.i2z e) fun o e => sb.extBut _ _ D.i12.symm e) fun o e => sc.extBut _ _ D.TOi2.symm e)
      (d2.ok (d2.ok (d2.ok g2 fun o e => sa.extBut _ _ D.l2z e) fun o e => sb.extBut _ _ D.l2i1 e) fun o e => sc.extBut _ _ D.l2TO e) hy fun hd pd sd => wpAny_pure ?_)
    have Od : IsPair hd TO x c0 := sd.extBut _ _ D.TOi2 Oc
    refine wpAny_bind (wpAny_seqItems Od rfl ?_)
    refine wpAny_bind (wpAny_updateSeq_pair Od fun he Oe se => ?_)
    replace Oe : IsPair he TO x y := Oe
    refine wpAny_bind (wpAny_letGo (wpAny_pure (wpAny_pure ?_)))
    refine wpAny_bind (wpAny_seqItems Oe rfl ?_)
    refine wpAny_bind (wpAny_newTuple ?_)
    have hsz : he.objs.size = s.heap.objs.size := by rw [se.1, sd.1, sc.1, sb.1, sa.1]
    have ze : ZipR he z TI TO .ellipsis b := se.extBut _ _ D.TOz.symm (sd.extBut _ _ D.i2z.symm (sc.extBut _ _ D.TOz.symm (sb.extBut _ _ D.i1z.symm za)))
    have ke : ∀ c o, c ≠ z → c ≠ TO → c ≠ i1 → c ≠ i2 → s.heap.get? c = some o → he.get? c = some o := fun c o n1 n2 n3 n4 e =>
      se.extBut _ _ n2 (sd.extBut _ _ n4 (sc.extBut _ _ n2 (sb.extBut _ _ n3 (sa.extBut _ _ n1 e))))
    have pe1 : p1 he (k + 1) := d1.pk (d1.pk (d1.pk pb fun o e => sc.extBut _ _ D.TOi1.symm e) fun o e => sd.extBut _ _ D.i12 e) fun o e => se.extBut _ _ D.TOi1.symm e
    have pe2 : p2 he (k + 1) := d2.pk pd fun o e => se.extBut _ _ D.TOi2.symm e
    have hzlt : z < he.objs.size := Heap.lt_size ze
    show wpAny _ _ (Builtin.SmallTypes.ownedTupleHandOut (.ref z) (.ref he.objs.size) >>= _) _ _ _
    refine wpAny_bind ?_
    unfold Builtin.SmallTypes.ownedTupleHandOut
    have zf : ZipR (he.push { cls := .type "tuple", data := .seq #[x, y] }) z TI TO .ellipsis b := Heap.get?_push_of_some _ ze
    refine wpAny_bind (wpAny_setField_rec zf (by simp) fun hg zg sg => ?_)
    replace zg : ZipR hg z TI TO (rawInt he.objs.size) b := zg
    refine wpAny_setField_rec zg (by simp) fun hh zh sh => ?_
    replace zh : ZipR hh z TI TO (rawInt he.objs.size) false := zh
    have up : ∀ c o, c ≠ z → he.get? c = some o → hh.get? c = some o := fun c o n1 e => sh.extBut _ _ n1 (sg.extBut _ _ n1 (Heap.get?_push_of_some _ e))
    have T8 : IsPair hh he.objs.size x y := sh.extBut _ _ (Nat.ne_of_gt hzlt) (sg.extBut _ _ (Nat.ne_of_gt hzlt) (Heap.get?_push_size _ rfl))
    have e8 : hh.objs.size = he.objs.size + 1 := by rw [sh.1, sg.1, Heap.size_push]
    rw [hsz] at zh T8 e8
    refine wpAny_pure ⟨_, rfl, ?_⟩
    show Q (.ref he.objs.size) _
    rw [hsz]
    exact hQ hh _ _ zh (.inr ⟨_, rfl⟩) ⟨_, _, up _ _ D.TOz Oe⟩ (d1.pk pe1 fun o e => up _ o D.i1z e) (d2.pk pe2 fun o e => up _ o D.i2z e) T8 e8 fun c o n1 n2 n3 n4 e => up c o n1 (ke c o n1 n2 n3 n4 e)
  · -- a new one
    simp only [Bool.false_eq_true, if_false]
    refine wpAny_bind ?_
    rw [← Array.forIn_toList]
    simp only [List.forIn_cons, List.forIn_nil]
    refine wpAny_bind (wpAny_bind (wpAny_holding ?_))
    show wpAny _ _ (Builtin.SmallTypes.nextOf (.ref i1) >>= _) _ _ _
    refine wpAny_bind (d1.item (d1.pk h1 fun o e => sA.extBut _ _ D.i1z e) (d1.ok g1 fun o e => sA.extBut _ _ D.l1z e) hx fun hb pb sb => wpAny_pure ?_)
    refine wpAny_pure (wpAny_bind (wpAny_bind (wpAny_holding ?_)))
    show wpAny _ _ (Builtin.SmallTypes.nextOf (.ref i2) >>= _) _ _ _
    refine wpAny_bind (d2.item (d2.pk (d2.pk h2 fun o e => sA.extBut _ _ D.i2z e) fun o e => sb.extBut _ _ D.i12.symm e) (d2.ok (d2.ok g2 fun o e => sA.extBut _ _ D.l2z e) fun o e => sb.extBut _ _ D.l2i1 e) hy fun hc pc sc => wpAny_pure ?_)
    refine wpAny_pure (wpAny_pure ?_)
    show wpAny _ _ (newTuple [x, y] >>= _) _ _ _
    refine wpAny_bind (wpAny_newTuple ?_)
    have hsz : hc.objs.size = s.heap.objs.size := by rw [sc.1, sb.1, sA.1]
    have up : ∀ c o, c ≠ z → c ≠ i1 → c ≠ i2 → s.heap.get? c = some o → (hc.push { cls := .type "tuple", data := .seq #[x, y] }).get? c = some o := fun c o n1 n2 n3 e => Heap.get?_push_of_some _ (sc.extBut _ _ n3 (sb.extBut _ _ n2 (sA.extBut _ _ n1 e)))
    have zc : ZipR (hc.push { cls := .type "tuple", data := .seq #[x, y] }) z TI TO f0 true := Heap.get?_push_of_some _ (sc.extBut _ _ D.i2z.symm (sb.extBut _ _ D.i1z.symm zA))
    have T8 : IsPair (hc.push { cls := .type "tuple", data := .seq #[x, y] }) hc.objs.size x y := Heap.get?_push_size _ rfl
    have e8 : (hc.push { cls := .type "tuple", data := .seq #[x, y] }).objs.size = hc.objs.size + 1 := Heap.size_push ..
    rw [hsz] at T8 e8
    refine wpAny_pure ⟨_, rfl, ?_⟩
    show Q (.ref hc.objs.size) _
    rw [hsz]
    exact hQ _ _ _ zc hf ⟨_, _, up _ _ D.TOz D.TOi1 D.TOi2 hO⟩ (d1.pk (d1.pk pb fun o e => sc.extBut _ _ D.i12 e) fun o e => Heap.get?_push_of_some _ e) (d2.pk pc fun o e => Heap.get?_push_of_some _ e) T8 e8 fun c o n1 n2 n3 n4 e => up c o n1 n3 n4 e
theorem zipR_end {Q : Fin → Shared → Prop} (hh : A.handled = none) (D : ZipApart z TI TO i1 i2 l1 l2) (d1 : Dr prog w i1 l1 xs p1 o1) (d2 : Dr prog w i2 l2 ys p2 o2)
    (hz : ZipR s.heap z TI TO f0 b) (hf : Handed f0) (hI : IsPair s.heap TI (.ref i1) (.ref i2)) (hO : ∃ a c, IsPair s.heap TO a c) (h1 : p1 s.heap k) (h2 : p2 s.heap k) (g1 : o1 s.heap) (g2 : o2 s.heap) (hend : xs[k]? = none ∨ ys[k]? = none)
    (hE : ∀ h' e, (∀ c o, c ≠ z → c ≠ TO → c ≠ i1 → c ≠ i2 → s.heap.get? c = some o → h'.get? c = some o) → (∃ o, h'.get? e = some o ∧ o.cls = .type "StopIteration") → E (.ref e) { s with heap := h' }) :
    wpAny (model prog w) A (Builtin.«zip.__next__» ⟨[.ref z], []⟩) Q E s := by
  obtain ⟨a0, c0, hO⟩ := hO
  show wpAny _ _ (field (.ref z) 2 >>= _) _ _ _
  refine wpAny_bind (wpAny_field hz rfl (x := .bool false) rfl ?_)
  show wpAny _ _ (field (.ref z) 3 >>= _) _ _ _
  refine wpAny_bind (wpAny_field hz rfl (x := .ref TI) rfl ?_)
  refine wpAny_bind (wpAny_seqItems hI rfl ?_)
  show wpAny _ _ (Builtin.SmallTypes.ownedTupleIsFree (.ref z) >>= _) _ _ _
  refine wpAny_bind (free_any hz hf ?_ fun hA zA sA => ?_)
  · simp only [if_true]
    refine wpAny_bind (wpAny_rule ?_)
    refine wpAny_bind (wpAny_field hz rfl (x := .ref TO) rfl ?_)
    refine wpAny_bind (wpAny_setField_rec hz (by simp) fun ha za sa => ?_)
    replace za : ZipR ha z TI TO .ellipsis b := za
    refine wpAny_bind ?_
    simp only [List.zipIdx_cons, List.zipIdx_nil, List.forIn_cons, List.forIn_nil]
    refine wpAny_bind (wpAny_bind (wpAny_onRaise ?_))
    show wpAny _ _ (Builtin.SmallTypes.nextOf (.ref i1) >>= _) _ _ _
    have q1 : p1 ha k := d1.pk h1 fun o e => sa.extBut _ _ D.i1z e
    have r1 : o1 ha := d1.ok g1 fun o e => sa.extBut _ _ D.l1z e
    cases hx : xs[k]? with
    | none =>
      refine wpAny_bind (d1.done hh q1 r1 hx fun hb e sb he => ?_)
      obtain ⟨oe, ho, hc⟩ := he
      have zb : ZipR hb z TI TO .ellipsis b := sb _ _ D.i1z.symm za
      have ne : e ≠ z := fun q => by subst q; rw [zb] at ho; cases ho; simp at hc
      exact wpAny_setField_rec zb (by simp) fun hc' _ sc => hE hc' e (fun c o n1 _ n3 _ q => sc.extBut _ _ n1 (sb _ _ n3 (sa.extBut _ _ n1 q))) ⟨oe, sc.extBut _ _ ne ho, hc⟩
    | some x =>
      have hy : ys[k]? = none := by rcases hend with q | q; rw [hx] at q; cases q; exact q
      refine wpAny_bind (d1.item q1 r1 hx fun hb pb sb => wpAny_pure ?_)
      have Ob : IsPair hb TO a0 c0 := sb.extBut _ _ D.TOi1 (sa.extBut _ _ D.TOz hO)
      refine wpAny_bind (wpAny_seqItems Ob rfl ?_)
      refine wpAny_bind (wpAny_updateSeq_pair Ob fun hc Oc sc => ?_)
      refine wpAny_bind (wpAny_letGo (wpAny_pure ?_))
      refine wpAny_bind (wpAny_bind (wpAny_onRaise ?_))
      show wpAny _ _ (Builtin.SmallTypes.nextOf (.ref i2) >>= _) _ _ _
      refine wpAny_bind (d2.done hh (d2.pk (d2.pk (d2.pk h2 fun o e => sa.extBut _ _ D.i2z e) fun o e => sb.extBut _ _ D.i12.symm e) fun o e => sc.extBut _ _ D.TOi2.symm e)
        (d2.ok (d2.ok (d2.ok g2 fun o e => sa.extBut _ _ D.l2z e) fun o e => sb.extBut _ _ D.l2i1 e) fun o e => sc.extBut _ _ D.l2TO e) hy fun hd e sd he => ?_)
      obtain ⟨oe, ho, hc3⟩ := he
      have zd : ZipR hd z TI TO .ellipsis b := sd _ _ D.i2z.symm (sc.extBut _ _ D.TOz.symm (sb.extBut _ _ D.i1z.symm za))
      have ne : e ≠ z := fun q => by subst q; rw [zd] at ho; cases ho; simp at hc3
      exact wpAny_setField_rec zd (by simp) fun he' _ se => hE he' e (fun c o n1 n2 n3 n4 q => se.extBut _ _ n1 (sd _ _ n4 (sc.extBut _ _ n2 (sb.extBut _ _ n3 (sa.extBut _ _ n1 q))))) ⟨oe, se.extBut _ _ ne ho, hc3⟩
  · simp only [Bool.false_eq_true, if_false]
    refine wpAny_bind ?_
    rw [← Array.forIn_toList]
    simp only [List.forIn_cons, List.forIn_nil]
    refine wpAny_bind (wpAny_bind (wpAny_holding ?_))
    show wpAny _ _ (Builtin.SmallTypes.nextOf (.ref i1) >>= _) _ _ _
    have q1 : p1 hA k := d1.pk h1 fun o e => sA.extBut _ _ D.i1z e
    have r1 : o1 hA := d1.ok g1 fun o e => sA.extBut _ _ D.l1z e
    cases hx : xs[k]? with
    | none =>
      exact wpAny_bind (d1.done hh q1 r1 hx fun hb e sb he => hE hb e (fun c o n1 _ n3 _ q => sb _ _ n3 (sA.extBut _ _ n1 q)) he)
    | some x =>
      have hy : ys[k]? = none := by rcases hend with q | q; rw [hx] at q; cases q; exact q
      refine wpAny_bind (d1.item q1 r1 hx fun hb pb sb => wpAny_pure ?_)
      refine wpAny_pure (wpAny_bind (wpAny_bind (wpAny_holding ?_)))
      show wpAny _ _ (Builtin.SmallTypes.nextOf (.ref i2) >>= _) _ _ _
      exact wpAny_bind (d2.done hh (d2.pk (d2.pk h2 fun o e => sA.extBut _ _ D.i2z e) fun o e => sb.extBut _ _ D.i12.symm e) (d2.ok (d2.ok g2 fun o e => sA.extBut _ _ D.l2z e) fun o e => sb.extBut _ _ D.l2i1 e) hy fun hc e sc he =>
        hE hc e (fun c o n1 _ n3 n4 q => sc _ _ n4 (sb.extBut _ _ n3 (sA.extBut _ _ n1 q))) he)
end
/-- zip to one name -/
structure ZSt (h : Heap) (z TI TO i1 i2 : Addr) (p1 p2 : Heap → Nat → Prop) (k : Nat) : Prop where
  z : ∃ f0 b, ZipR h z TI TO f0 b ∧ Handed f0
  I : IsPair h TI (.ref i1) (.ref i2)
  O : ∃ a c, IsPair h TO a c
  a : p1 h k
  b : p2 h k
/-- what is zipped, as the abstract heap has it -/
structure Ov (X : Cx) (q : Hp → List V → Prop) (l : Addr) (ov : Array Value → Heap → Prop) : Prop where
  get : ∀ {pins : List (Addr × Obj)} {σ : L2.St} {H : Hp} {s : Shared} {vs : List V}, Inv X pins σ H s → q H vs → ∃ its : List Value, Vals vs its ∧ ov its.toArray s.heap
  inj : ∀ {pins : List (Addr × Obj)} {σ : L2.St} {H : Hp} {s : Shared} {vs us : List V}, Inv X pins σ H s → q H vs → q H us → vs = us
def ItZ (q1 q2 : Hp → List V → Prop) : L2.It :=
  ⟨fun i H => ∃ (xs ys : List V) (x y : V), q1 H xs ∧ q2 H ys ∧ xs[i]? = some x ∧ ys[i]? = some y,
    fun i H v H' => ∃ T x y, v = .ref T ∧ H T = none ∧ H' = upd H T (.tup [x, y]) ∧ (∀ xs, q1 H xs → xs[i]? = some x) ∧ ∀ ys, q2 H ys → ys[i]? = some y,
    fun i H => ∃ xs ys : List V, q1 H xs ∧ q2 H ys ∧ (xs.length ≤ i ∨ ys.length ≤ i)⟩
theorem turn_zip1 {P : Program} {w : World} {K : PySem.W.Frag} {x : Str} {px : Pos} {z TI TO i1 i2 l1 l2 : Addr} {q1 q2 : Hp → List V → Prop} {p1 p2 : Heap → Nat → Prop} {v1 v2 : Array Value → Heap → Prop} (D : ZipApart z TI TO i1 i2 l1 l2)
    (d1 : ∀ itm, Dr P w i1 l1 itm p1 (v1 itm)) (d2 : ∀ itm, Dr P w i2 l2 itm p2 (v2 itm)) (o1 : ∀ X : Cx, X.prog = P → X.w = w → X.K = K → Ov X q1 l1 v1) (o2 : ∀ X : Cx, X.prog = P → X.w = w → X.K = K → Ov X q2 l2 v2) :
    Turn P w K (.Name x px) (ItZ q1 q2) [z, TI, TO, i1, i2] z (fun i h => ZSt h z TI TO i1 i2 p1 p2 i) where
  mem := by simp
  obj := fun i h st c hc => by
    have e' : c = z ∨ c = TI ∨ c = TO ∨ c = i1 ∨ c = i2 := by simpa using hc
    rcases e' with q | q | q | q | q
    · obtain ⟨f0, b, hz, _⟩ := st.z
      rw [q]; exact ⟨_, hz, fun v q => nomatch q⟩
    · rw [q]; exact ⟨_, st.I, fun v q => nomatch q⟩
    · obtain ⟨a, c, ho⟩ := st.O
      rw [q]; exact ⟨_, ho, fun v q => nomatch q⟩
    · rw [q]; exact (d1 #[]).there st.a
    · rw [q]; exact (d2 #[]).there st.b
  keep := fun i h h' st k => by
    obtain ⟨f0, b, hz, hf⟩ := st.z
    obtain ⟨a, c, ho⟩ := st.O
    exact ⟨⟨f0, b, k z (by simp) _ hz, hf⟩, k TI (by simp) _ st.I, ⟨a, c, k TO (by simp) _ ho⟩, (d1 #[]).pk st.a fun o q => k i1 (by simp) o q, (d2 #[]).pk st.b fun o q => k i2 (by simp) o q⟩
  item := by
    intro X hP hw hK hc i pins s σ H E I hf st hg
    have O1 := o1 X hP hw hK
    have O2 := o2 X hP hw hK
    subst hP hw hK
    obtain ⟨f0, b, hz, hfd⟩ := st.z
    obtain ⟨xs, ys, x, y, hqx, hqy, hx, hy⟩ := hg
    obtain ⟨its, rv, g1⟩ := O1.get I hqx
    obtain ⟨its2, rv2, g2⟩ := O2.get I hqy
    obtain ⟨u, hu, ru⟩ := rv.get hx
    obtain ⟨u2, hu2, ru2⟩ := rv2.get hy
    have hzl : z < s.heap.objs.size := Heap.lt_size hz
    have hT : s.TypeIs (.ref z) "zip" := ⟨_, hz, rfl⟩
    unfold pyNext
    refine wpAny_bind (wpAny_attempt (wpAny_callSpecial?_slot (name := Str.ofString "__next__") hT F.slot_zip_next
      (wpAny_call_entry F.slot_zip_next hT F.entry_zip_next (zipR_item D (d1 _) (d2 _) hz hfd st.I st.O st.a st.b g1 g2 (by simpa using hu) (by simpa using hu2) fun h' f0' b' z' hf' O' a' b2' hp hsz hk => wpAny_pure ?_) (F.args_zip_next_1 _))))
    refine ⟨_, rfl, wpAny_pure ?_⟩
    have new : ObjOk X.prog X.w (upd H s.heap.objs.size (.tup [x, y])) h' s.heap.objs.size (.tup [x, y]) := ⟨by show 2 ≤ sizeLine; decide, [u, u2], .cons ru (.cons ru2 .nil), ⟨_, hp, rfl, _, rfl⟩⟩
    have I1 : Inv X pins σ (upd H s.heap.objs.size (.tup [x, y])) { s with heap := h' } :=
      I.turnedNew (t' := s.toks) (ch := [z, TI, TO, i1, i2]) (fun c o hb q => hk c o (fun q' => hb (by simp [q'])) (fun q' => hb (by simp [q'])) (fun q' => hb (by simp [q'])) (fun q' => hb (by simp [q'])) q) hf (Nat.le_refl _) new
    refine ⟨.ref s.heap.objs.size, _, I1, rfl, ⟨_, x, y, rfl, I.hok.fresh (Nat.le_refl _), rfl, fun l hl => by rw [O1.inj I hl hqx]; exact hx, fun l hl => by rw [O2.inj I hl hqy]; exact hy⟩, ⟨⟨f0', b', z', hf'⟩, hk _ _ D.TIz D.TITO D.TIi1 D.TIi2 st.I, O', a', b2'⟩, fun c hcm => ?_⟩
    have hlt : c < s.heap.objs.size := by
      have e' : c = z ∨ c = TI ∨ c = TO ∨ c = i1 ∨ c = i2 := by simpa using hcm
      rcases e' with q | q | q | q | q
      · rw [q]; exact hzl
      · rw [q]; exact Heap.lt_size st.I
      · obtain ⟨_, _, ho⟩ := st.O
        rw [q]; exact Heap.lt_size ho
      · obtain ⟨_, e1, _⟩ := (d1 #[]).there st.a
        rw [q]; exact Heap.lt_size e1
      · obtain ⟨_, e2, _⟩ := (d2 #[]).there st.b
        rw [q]; exact Heap.lt_size e2
    rw [upd_ne (Nat.ne_of_lt hlt)]
    exact (hf c hcm).1
  done := by
    intro X hP hw hK hc i pins s σ H E I hf st hg
    have O1 := o1 X hP hw hK
    have O2 := o2 X hP hw hK
    subst hP hw hK
    obtain ⟨f0, b, hz, hfd⟩ := st.z
    obtain ⟨xs, ys, hqx, hqy, hend⟩ := hg
    obtain ⟨its, rv, g1⟩ := O1.get I hqx
    obtain ⟨its2, rv2, g2⟩ := O2.get I hqy
    have l1 := rv.length
    have l2 := rv2.length
    have he : its.toArray[i]? = none ∨ its2.toArray[i]? = none := by
      rcases hend with q | q
      · exact .inl (by simp; omega)
      · exact .inr (by simp; omega)
    have hT : s.TypeIs (.ref z) "zip" := ⟨_, hz, rfl⟩
    unfold pyNext
    refine wpAny_bind (wpAny_attempt (wpAny_callSpecial?_slot (name := Str.ofString "__next__") hT F.slot_zip_next
      (wpAny_call_entry F.slot_zip_next hT F.entry_zip_next (zipR_end (I.ok.hd hc) D (d1 _) (d2 _) hz hfd st.I st.O st.a st.b g1 g2 he fun h' e hk hex => ?_) (F.args_zip_next_1 _))))
    obtain ⟨o, ho, hcl⟩ := hex
    refine wpAny_bind (wpAny_isInstance (T := "StopIteration") (b := true) ⟨o, ho, hcl⟩ isSubtype_stop ?_)
    exact wpAny_pure ⟨rfl, I.turnedL (t' := s.toks) (ch := [z, TI, TO, i1, i2]) (fun c o hb q =>
      hk c o (fun q' => hb (by simp [q'])) (fun q' => hb (by simp [q'])) (fun q' => hb (by simp [q'])) (fun q' => hb (by simp [q'])) q) hf⟩
  self := fun A i s Q E st h => by
    obtain ⟨f0, b, hz, _⟩ := st.z
    have hT : s.TypeIs (.ref z) "zip" := ⟨_, hz, rfl⟩
    refine wpAny_pyIter_slot hT F.slot_zip_iter (wpAny_call_entry F.slot_zip_iter hT F.entry_zip_iter ?_ (F.args_zip_iter_1 _))
    show wpAny _ _ (ret (.ref z)) _ _ s
    exact wpAny_pure ⟨_, rfl, "zip", _, hT, F.slot_zip_next.lookup, h⟩
theorem ov_list (X : Cx) (a : Addr) : Ov X (fun H vs => SqL X.K H a vs) a (fun itm h => h.IsList a itm) :=
  ⟨fun I h => by
    obtain ⟨its, rv, p, _⟩ := I.list h
    exact ⟨its, rv, p.isList⟩, fun I h h' => I.list_inj h h'⟩
theorem ov_tup (X : Cx) (a : Addr) : Ov X (fun H vs => SqT X.K H a vs) a (fun itm h => h.IsTuple a itm) :=
  ⟨fun I h => by
    obtain ⟨its, rv, p, _⟩ := I.tuple h
    exact ⟨its, rv, p⟩, fun I h h' => I.tuple_inj h h'⟩
/-- over lists, over tuples -/
def iZip1 (K : PySem.W.Frag) (ta : TA) : TI := fun σ H R => ta σ H fun vs H1 => ∃ a b xs ys, vs = [.ref a, .ref b] ∧ ((SqL K H1 a xs ∧ SqL K H1 b ys ∧ R (ItZ (fun H vs => SqL K H a vs) (fun H vs => SqL K H b vs)) H1) ∨ (SqT K H1 a xs ∧ SqT K H1 b ys ∧ R (ItZ (fun H vs => SqT K H a vs) (fun H vs => SqT K H b vs)) H1))
theorem pi_zip1 {X : Cx} {e e2 : Expr} {ta : TA} {x : Str} {px p pos : Pos} (hg : Gl X "zip") (hm : X.mg "zip" = none) (ha : PA X [e, e2] ta)
    (hs : starEach [e, e2] X.env = (false, eval e X.env) :: starEach [e2] X.env) (hpl : (backTo pos (starEach [e2] X.env)).any (·.1) = false) :
    PI X (.Name x px) (.Call (.Name "zip" p) [e, e2] [] pos) (iZip1 X.K ta) := by
  refine ⟨fun pins s σ H R I h => ?_⟩
  refine Call_ (ld_blt I hg hm PyProof.Rows.boot_zip (PyProof.Rows.callWith_type1 (thn (ha.run pos pins s σ H _ I h) fun us s1 ⟨vs, H1, I1, r1, q1⟩ => ?_) hs hpl))
  obtain ⟨a, b, xs, ys, ex, q1⟩ := q1
  subst ex
  cases r1 with
  | cons r rr =>
    cases rr with
    | cons r' rr =>
      cases rr
      cases r
      cases r'
      have fresh5 : ∀ c, c ∈ [s1.heap.objs.size + 4, s1.heap.objs.size + 2, s1.heap.objs.size + 3, s1.heap.objs.size, s1.heap.objs.size + 1] → FpOk X pins H1 c := fun c hcm => by
        have hle : s1.heap.objs.size ≤ c := by
          have e' : c = s1.heap.objs.size + 4 ∨ c = s1.heap.objs.size + 2 ∨ c = s1.heap.objs.size + 3 ∨ c = s1.heap.objs.size ∨ c = s1.heap.objs.size + 1 := by simpa using hcm
          rcases e' with z | z | z | z | z <;> rw [z] <;> first | exact Nat.le_add_right _ _ | exact Nat.le_refl _
        exact I1.fpOk hle (I1.hok.fresh hle)
      rcases q1 with ⟨hqx, hqy, q⟩ | ⟨hqx, hqy, q⟩
      · obtain ⟨its, rv, p1, _⟩ := I1.list hqx
        obtain ⟨its2, rv2, p2, _⟩ := I1.list hqy
        refine call_zip_2 p1.isList p2.isList fun h' hz hTI hTO h1 h2 hsz hk => wpAny_pyIter_zip hz ?_
        have I2 : Inv X pins σ H1 { s1 with heap := h' } := I1.kept (t' := s1.toks) hk
        exact ⟨s1.heap.objs.size + 4, _, _, _, H1, rfl, I2, turn_zip1 (PySem.W.ktu_apart s1.heap.objs.size a b p1.lt p2.lt) (fun _ => dr_list) (fun _ => dr_list) (fun Y e1 e2 e3 => by rw [← e3]; exact ov_list Y a) (fun Y e1 e2 e3 => by rw [← e3]; exact ov_list Y b), ⟨⟨_, _, hz, .inl rfl⟩, hTI, ⟨_, _, hTO⟩, h1, h2⟩, fresh5, q⟩
      · obtain ⟨its, rv, p1, _⟩ := I1.tuple hqx
        obtain ⟨its2, rv2, p2, _⟩ := I1.tuple hqy
        obtain ⟨w1, ho1, _⟩ := id p1
        obtain ⟨w2, ho2, _⟩ := id p2
        refine RZ.call_zipT (show s1.heap.IsTuple a its.toArray from p1) (show s1.heap.IsTuple b its2.toArray from p2) fun h' hz hTI hTO h1 h2 hsz hk => wpAny_pyIter_zip hz ?_
        have I2 : Inv X pins σ H1 { s1 with heap := h' } := I1.kept (t' := s1.toks) hk
        exact ⟨s1.heap.objs.size + 4, _, _, _, H1, rfl, I2, turn_zip1 (PySem.W.ktu_apart s1.heap.objs.size a b (Heap.lt_size ho1) (Heap.lt_size ho2)) (fun _ => dr_tup) (fun _ => dr_tup) (fun Y e1 e2 e3 => by rw [← e3]; exact ov_tup Y a) (fun Y e1 e2 e3 => by rw [← e3]; exact ov_tup Y b), ⟨⟨_, _, hz, .inl rfl⟩, hTI, ⟨_, _, hTO⟩, h1, h2⟩, fresh5, q⟩
section
variable {M : Wd} {X : Cx} {C : Ctx} {pos : Pos}
theorem pi_zip1W {a b : E} {ea eb : Expr} {x : Str} {px p : Pos} (hg : Gl X "zip") (hm0 : X.mg "zip" = none) (hs : noStar [ea, eb] = true) (ha : JA M X (evEs C (.cons a (.cons b .nil))) [ea, eb]) :
    PI X (.Name x px) (.Call (.Name "zip" p) [ea, eb] [] pos) (wiW M X (evI C (.zip a b))) :=
  PI.imp (pi_zip1 hg hm0 ha.pao (star_cons hs) (star_any (noStar_tail hs))) fun σ H R h => zipW_imp h
end
end Mi
set_option Elab.async false
set_option linter.all false
set_option maxRecDepth 100000
set_option maxHeartbeats 2000000
/-! MjB: walks over a list while an exception is handled; how many of a list's truths. -/
namespace Mi
open PySem PySem.Spec PyProof.Rows L2 LamX
section
variable {prog : Program} {w : World} {A : Around} {E : Value → Shared → Prop} {sh : Shared}
/-- an object of the handled exception is no iterator of a list -/
theorem hot_ne {x1 I l : Addr} {i : Nat} (hot : HotX.HotAt A x1 sh.heap) (g1 : sh.heap.IsListIter I l i) : x1 ≠ I := fun z => by
  obtain ⟨_, o, vs, e1, e2, e3⟩ := hot
  obtain ⟨o2, f1, _, f2⟩ := g1
  rw [z, f1] at e1; cases e1
  rw [f2] at e2; cases e2
  cases e3
theorem next_end_hot {x1 I l : Addr} {i : Nat} {its : Array Value} {Q : Option Value → Shared → Prop} (hot : HotX.HotAt A x1 sh.heap) (g1 : sh.heap.IsListIter I l i) (g2 : sh.heap.IsList l its) (g3 : its[i]? = none)
    (k : ∀ h', Heap.ExtBut I sh.heap h' → Q none { sh with heap := h' }) : wpAny (model prog w) A (pyNext (.ref I)) Q E sh := by
  have ne := hot_ne hot g1
  obtain ⟨ob, b1, b2, b3⟩ := id g1
  obtain ⟨ol, c1, _, nn, c2⟩ := g2
  obtain ⟨hh, ox, vx, x2, x3, x4⟩ := hot
  have sameK : (sh.heap.update I (Obj.mapFields (·.setIfInBounds 0 Value.none))).get? x1 = some ox := (Heap.get?_update_other _ _ (Ne.symm ne)).trans x2
  unfold pyNext
  have sl := PySem.slot_listiter_next
  refine wpAny_bind (wpAny_attempt (wpAny_callSpecial?_slot (name := Str.ofString "__next__") g1.typeIs sl (wpAny_call_entry sl g1.typeIs PySem.entry_listiter_next ?_ (PySem.args_listiter_next _))))
  show wpAny _ _ (field (.ref I) 0 >>= _) _ _ sh
  refine wpAny_bind (wpAny_field b1 b3 (x := .ref l) rfl ?_)
  show wpAny _ _ (if (Value.ref l == Value.none) = true then _ else _) _ _ sh
  rw [if_neg (show ¬ ((Value.ref l == Value.none) = true) from fun z => Bool.noConfusion z)]
  show wpAny _ _ (field (.ref I) 1 >>= _) _ _ sh
  refine wpAny_bind (wpAny_field b1 b3 (x := .int i 0) rfl ?_)
  show wpAny _ _ (seqItems? (.ref l) >>= _) _ _ sh
  refine wpAny_bind (wpAny_seqItems c1 c2 ?_)
  simp only [Int.toNat_natCast, g3]
  refine wpAny_bind (wpAny_rule (wpAny_bind (wpAny_setField b1 b3 (by simp) ?_)))
  refine wpAny_bind (m := newExc (.type "StopIteration") []) ?_
  simp only [newExc, newTuple]
  refine wpAny_bind (wpAny_newObj_type ?_ (by size_fits))
  refine wpAny_bind (m := firstArgMember _ _) (wpAny_of_eq (a := Value.none) (by first | rfl | (simp only [firstArgMember]; rfl)) ?_)
  refine wpAny_newObj_type ?_ (by size_fits)
  have up := Heap.get?_push_of_some { cls := .type "tuple", data := .seq #[] 0 } sameK
  refine HotX.raiseNew_hot ⟨hh, ox, vx, Heap.get?_push_of_some _ up, x3, x4⟩ (Nat.ne_of_lt (Heap.lt_size up)) (Heap.get?_push_size _ rfl) rfl (by first | (simp; done) | (simp; omega) | (simp only [Array.size_append]; simp; omega)) ?_
  refine wpAny_bind (wpAny_isInstance (T := "StopIteration") (b := true) ⟨_, Heap.get?_update_self _ (Heap.get?_push_size _ rfl) rfl, rfl⟩ isSubtype_stop ?_)
  refine wpAny_pure (k _ fun b o nb e => ?_)
  have e0 : (sh.heap.update I (Obj.mapFields (·.setIfInBounds 0 Value.none))).get? b = some o := (Heap.get?_update_other _ _ (Ne.symm nb)).trans e
  have e1 := Heap.get?_push_of_some { cls := .type "tuple", data := .seq #[] 0 } e0
  rw [Heap.get?_update_other _ _ (Nat.ne_of_gt (Heap.lt_size e1))]
  exact Heap.get?_push_of_some _ e1
/-- a list walked, the handled exception kept -/
theorem walks_hot {x1 : Addr} (I ax : Addr) (ne : ax ≠ I) (its : Array Value) : Walks prog w A I [I, ax, x1] [I] its.size (fun i v => its[i]? = some v) (fun i h => h.IsListIter I ax i ∧ h.IsList ax its ∧ HotX.HotAt A x1 h) where
  sub := fun b hb => by
    have : b = I := by simpa using hb
    subst this; simp
  frame := fun _ _ _ st hk => ⟨st.1.at fun o e => hk I (by simp) o e, st.2.1.at fun o e => hk ax (by simp) o e, st.2.2.1, by
    obtain ⟨_, o, vs, e1, e2, e3⟩ := st.2.2
    exact ⟨o, vs, hk x1 (by simp) o e1, e2, e3⟩⟩
  item := fun i s Q E hi st hQ => by
    have nx := hot_ne st.2.2 st.1
    refine wpAny_pyNext_list_item st.1 st.2.1 (x := its[i]) (by simp [hi]) fun h' g1 g2 => ?_
    refine hQ _ h' s.toks (by simp [hi]) ⟨g1, st.2.1.extBut g2.extBut ne, st.2.2.1, ?_⟩ fun b o hb e => g2.extBut b o (fun z => hb (by simp [z])) e
    obtain ⟨_, o, vs, e1, e2, e3⟩ := st.2.2
    exact ⟨o, vs, g2.extBut x1 o nx e1, e2, e3⟩
  done := fun s Q E st hQ => next_end_hot st.2.2 st.1 st.2.1 (by simp) fun h' g => hQ h' s.toks fun b o hb e => g b o (fun z => hb (by simp [z])) e
  self := fun _ _ _ _ st hQ => wpAny_pyIter_listiter st.1 hQ
theorem sum_hot {x1 l : Addr} {its : List Value} {ns : List Int} {Q : Value → Shared → Prop} (hot : HotX.HotAt A x1 sh.heap) (hl : sh.heap.IsList l its.toArray) (hi : IntsAre its ns)
    (k : ∀ h' tk t', (∀ b o, sh.heap.get? b = some o → h'.get? b = some o) → Q (.int ns.sum t') { sh with heap := h', toks := tk }) : wpAny (model prog w) A (call (.builtin "sum") [.ref l]) Q E sh := by
  obtain ⟨xs, e⟩ := hi.allInts.items
  have hn : numsOf (intItems xs).toList = ns := by rw [← e]; exact hi.numsOf
  rw [nums_intItems] at hn
  rw [e] at hl
  refine PySem.call_sum_walkG (iter_intList hl fun s₂ e2 st hfp hlI => ?_)
  subst e2
  have hot2 : HotX.HotAt A.in1 x1 (sh.heap.push { cls := .type "list_iterator", data := .fields #[.ref l, .int 0 0] }) := by
    obtain ⟨hh, o, vs, e1, e2, e3⟩ := hot
    exact ⟨hh, o, vs, Heap.get?_push_of_some _ e1, e2, e3⟩
  have hx : x1 < (sh.heap.push { cls := .type "list_iterator", data := .fields #[.ref l, .int 0 0] }).objs.size := by
    obtain ⟨_, o, vs, e1, _⟩ := hot2
    exact Heap.lt_size e1
  refine ⟨_, _, _, _, _, _, numAt xs, rfl, walks_hot (A := A.in1) (x1 := x1) _ l hlI (intItems xs), ⟨st.1, st.2, hot2⟩, fun b hb => ?_, (fun _ _ => intItems_at), fun h' tk t' hk => ?_⟩
  · rcases List.mem_cons.mp hb with z | hb
    · exact hfp b (by rw [z]; simp)
    · rcases List.mem_cons.mp hb with z | hb
      · exact hfp b (by rw [z]; simp)
      · have : b = x1 := by simpa using hb
        subst this; exact hx
  · have := k h' tk t' (old_kept hk)
    rw [← hn] at this
    have e3 := preSum_eq xs xs.size
    rw [List.take_of_length_le (by simp)] at e3
    have e4 : (intItems xs).size = xs.size := by simp [intItems]
    rw [e4, e3]
    exact this
end
/-! ### a comprehension over truths -/
/-- int of a name's truth -/
def tI (j : Nat) : TE := fun σ H Q => ∃ b : Bool, σ[j]? = some (some (.bl b)) ∧ Q (.int (if b then 1 else 0)) H
def oneI (b : Bool) : V := .int (if b then 1 else 0)
section
variable {X : Cx} {pins : List (Addr × Obj)} {σ : St} {H : Hp} {s : Shared}
theorem pe_intOf {y : Str} {j : Nat} {p1 p2 p3 : Pos} (hg : Gl X "int") (hm : X.mg "int" = none) (hN : X.N[j]? = some y) (hv : Vis X.env.scope y) (hd : (y == ("__debug__" : Str)) = false) (hcd : (y == ("__classdict__" : Str)) = false) :
    PE X (.Call (.Name "int" p1) [.Name y p2] [] p3) (tI j) := by
  refine ⟨fun pins s σ H Q I h => ?_⟩
  obtain ⟨b, e, q⟩ := h
  refine wpAny_Call_Name_kw (ld_blt I hg hm (u := .type "int") (by decide +kernel) ?_)
  refine PyProof.Rows.callWith_type1 ?_ (by rfl) (by rfl)
  show wpAny _ _ (spliced ((false, eval (.Name y p2) X.env) :: backTo p3 (starEach [] X.env))) _ _ s
  refine Calls.spliced_cons (thn ((pe_var (pos := p2) hN hv hd hcd).run pins s σ H (fun v H1 => v = .bl b ∧ H1 = H) I ⟨_, e, rfl, rfl⟩) fun u s1 ⟨v, H1, I1, r1, q1⟩ => ?_)
  obtain ⟨rfl, rfl⟩ := q1
  exact Calls.spliced_nil (call_use (r := rInt1) (Q := Q) (xs := [.bl b]) (fun _ => call_int1) I1 (.cons r1 .nil) (.inr ⟨b, rfl, q⟩))
/-- [elt for y in xs], an exception being handled -/
theorem lc_hot {Q E : Value → Shared → Prop} {elt iter : Expr} {scope : Scope} {own : List (Str × Nat)} {pos : Pos} {y : Str} {py : Pos} {j : Nat} {a : Addr} {bs : List Bool} (hc : L2H.HotC X) (hN : X.N.Nodup) (I : Inv X pins σ H s) (ha : H a = some (.lst (bs.map V.bl)))
    (hi : ∀ K : Value → Shared → Prop, (∀ s', Inv X pins σ H s' → K (.ref a) s') → wpAny (model X.prog X.w) X.A (eval iter X.env) K E s) (hs : ∀ x, foldedSetIterable iter X.env x = pure x) (ok : BlkOk X.N X.env.scope scope own) (hown : own = [(y, j)]) (hj : j < X.N.length)
    (hg : ∀ (s : Shared) (H : Hp) (C : Addr) (cl : List (Str × Addr)) (fp : List Addr), PG (X.blk s H scope (compEnvC scope cl C X.env) fp) (.Name y py) (gName j))
    (he : ∀ (s : Shared) (H : Hp) (C : Addr) (cl : List (Str × Addr)) (fp : List Addr), PE (X.blk s H scope (compEnvC scope cl C X.env) fp) elt (tI j))
    (k : ∀ D s', H D = none → Inv X pins σ (upd H D (.lst (bs.map oneI))) s' → Q (.ref D) s') :
    wpAny (model X.prog X.w) X.A (eval (.ListComp elt [⟨.Name y py, iter, [], 0⟩] scope pos) X.env) Q E s := by
  have capt : ∀ z ∈ scope.names, z.2 = .free → ∃ c, X.env.cells.lookup z.1 = some c := fun z hz e => (ok.free z hz e).elim (fun q => I.ok.has _ (.inl q)) fun q => I.ok.has _ (.inr q)
  obtain ⟨p, hot1, hp⟩ := hc
  rw [eval_ListComp]
  refine wpAny_comprehension_free (use := none) rfl hs (closure_ok capt) ok.kind (fun z hz e => by rw [ok.uniq z hz, e]) (hi _ fun sa Ia => ?_)
  obtain ⟨_, its, n0, rv, e0⟩ := Ia.hok a _ ha
  have isl : sa.heap.IsList a its.toArray := ⟨_, e0, rfl, _, rfl⟩
  refine wpAny_pyIter_list isl ?_
  generalize hI : sa.heap.objs.size = I0
  have nI : H I0 = none := Ia.hok.fresh (Nat.le_of_eq hI)
  generalize hs2 : ({ sa with heap := sa.heap.push { cls := .type "list_iterator", data := .fields #[.ref a, .int 0 0] } } : Shared) = s2
  have h2 : s2.heap = sa.heap.push { cls := .type "list_iterator", data := .fields #[.ref a, .int 0 0] } := by rw [← hs2]
  have I2 : Inv X pins σ H s2 := by rw [← hs2]; exact Ia.kept (t' := sa.toks) fun b o e => Heap.get?_push_of_some _ e
  have fI : FpOk X pins H I0 := Ia.fpOk (Nat.le_of_eq hI) nI
  have tI0 : s2.heap.IsListIter I0 a 0 := by rw [h2, ← hI]; exact ⟨_, Heap.get?_push_size _ rfl, rfl, rfl⟩
  have ltI : I0 < s2.heap.objs.size := by rw [h2, Heap.size_push, ← hI]; exact Nat.lt_succ_self _
  refine wpAny_newObj_type (newEnv_comp ?_) (Nat.zero_le _)
  generalize hD : s2.heap.objs.size = D
  have nD : H D = none := I2.hok.fresh (Nat.le_of_eq hD)
  generalize hs3 : ({ s2 with heap := s2.heap.push { cls := .type "list", data := .seq ([] : List Value).toArray } } : Shared) = s3
  have h3 : s3.heap = s2.heap.push { cls := .type "list", data := .seq ([] : List Value).toArray } := by rw [← hs3]
  have I3 : Inv X pins σ (upd H D (.lst [])) s3 := by
    rw [← hs3]
    exact I2.laid (t' := s2.toks) (fun b o e => Heap.get?_push_of_some _ e) (Nat.le_of_eq hD) ⟨Nat.zero_le _, [], 0, .nil, by rw [← hD]; exact Heap.get?_push_size _ rfl⟩
  have aD : a ≠ D := fun z => by rw [z, nD] at ha; cases ha
  have ID : I0 ≠ D := by rw [← hD]; exact Nat.ne_of_lt ltI
  have f3 : FpOk X pins (upd H D (.lst [])) I0 := ⟨by rw [upd_ne ID]; exact nI, fI.2⟩
  have lt3 : I0 < s3.heap.objs.size := by rw [h3, Heap.size_push]; exact Nat.lt_succ_of_lt ltI
  have t3 : s3.heap.IsListIter I0 a 0 := tI0.at fun o e => by rw [h3]; exact Heap.get?_push_of_some _ e
  have f3' : ∀ b ∈ [I0], FpOk X pins (upd H D (.lst [])) b ∧ b < s3.heap.objs.size := fun b hb => by
    have : b = I0 := by simpa using hb
    subst this; exact ⟨f3, lt3⟩
  have I4 := block_start I3 ok hN f3'
  have P3 := I3.pin p (List.mem_append_left _ hp)
  have pg := hg s3 (upd H D (.lst [])) s3.heap.objs.size (cellsFrom (s3.heap.objs.size + 1) scope.names (cloFrom X.env.cells scope.names [])) [I0]
  have pe := he s3 (upd H D (.lst [])) s3.heap.objs.size (cellsFrom (s3.heap.objs.size + 1) scope.names (cloFrom X.env.cells scope.names [])) [I0]
  show codeAny _ _ (.compStart (.ListComp elt [⟨.Name y py, iter, [], 0⟩] scope pos) 0 (.ref I0) (.ref D) (compEnvC scope (cellsFrom (s3.heap.objs.size + 1) scope.names (cloFrom X.env.cells scope.names [])) s3.heap.objs.size X.env)) (compPost (model X.prog X.w) X.A E none Q (.ref D) s3.heap.objs.size) { s3 with heap := pushCells (s3.heap.push { cls := .type "dict", data := .dict #[] }) scope.names }
  generalize hce : compEnvC scope (cellsFrom (s3.heap.objs.size + 1) scope.names (cloFrom X.env.cells scope.names [])) s3.heap.objs.size X.env = ce at I4 pg pe ⊢
  have cL : ce.locals = s3.heap.objs.size := by subst hce; rfl
  generalize hs4 : ({ s3 with heap := pushCells (s3.heap.push { cls := .type "dict", data := .dict #[] }) scope.names } : Shared) = s4 at I4 ⊢
  have keep4 : ∀ b o, s3.heap.get? b = some o → s4.heap.get? b = some o := fun b o e => by rw [← hs4]; exact pushCells_keeps _ _ _ _ (Heap.get?_push_of_some _ e)
  have p3 : p.1 ∉ X.fs := P3.2.2.2.1
  have pL3 : p.1 < s3.heap.objs.size := Heap.lt_size P3.1
  have pI : p.1 ≠ I0 := fun z => f3.2.2.2.2.2 p (List.mem_append_left _ hp) z
  -- the handled exception is pinned in the block, too
  have I4p : Inv (X.blk s3 (upd H D (.lst [])) scope ce [I0]) [p] (wipe σ (own.map (·.2))) (upd H D (.lst [])) s4 := by
    refine I4.pins_of fun q hq => ?_
    have : q = p := by simpa using hq
    subst this
    exact ⟨keep4 _ _ P3.1, P3.2.1, by show q.1 ≠ ce.locals; rw [cL]; exact Nat.ne_of_lt pL3, fun z => (List.mem_cons.mp (I3.stkSub _ z)).elim P3.2.2.1 P3.2.2.2.1, P3.2.2.2.2⟩
  have hotB : ∀ {σ' : L2.St} {H' : Hp} {s' : Shared}, Inv (X.blk s3 (upd H D (.lst [])) scope ce [I0]) [p] σ' H' s' → HotX.HotAt X.A p.1 s'.heap := fun {σ' H' s'} I' => by
    obtain ⟨hh, vs, e1, e2⟩ := hot1
    exact ⟨hh, p.2, vs, (I'.pin p (by simp)).1, e1, e2⟩
  have fB : ∀ {σ' : L2.St} {H' : Hp} {s' : Shared}, Inv (X.blk s3 (upd H D (.lst [])) scope ce [I0]) [p] σ' H' s' → H' I0 = none → FpOk (X.blk s3 (upd H D (.lst [])) scope ce [I0]) [p] H' I0 := fun {σ' H' s'} I' hn =>
    ⟨hn, (I'.ok.exf I0 (by simp)).1, I'.ok.exfs I0 (by simp), .inl (by simp), fun x c e => (I'.ok.exf I0 (by simp)).2 x c e, fun q hq => by
      have : q = p := by simpa using hq
      subst this; exact pI⟩
  have hjw : j < (wipe σ (own.map (·.2))).length := by rw [wipe_length, I.len]; exact hj
  have wj : ∀ v : Option V, wipe ((wipe σ (own.map (·.2))).set j v) (own.map (·.2)) = wipe σ (own.map (·.2)) := fun v => by
    subst hown
    show ((wipe σ [j]).set j v).set j none = (σ.set j none)
    show ((σ.set j none).set j v).set j none = (σ.set j none)
    simp [List.set_set]
  have loop : codeAny (model X.prog X.w) X.A (.compLoop (.ListComp elt [⟨.Name y py, iter, [], 0⟩] scope pos) 0 (.ref I0) (.ref D) ce) (compPost (model X.prog X.w) X.A E none Q (.ref D) s3.heap.objs.size) s4 := by
    refine compLoop_any (fun n s' => ∃ i, n + i = bs.length ∧ Inv (X.blk s3 (upd H D (.lst [])) scope ce [I0]) [p] (wipe σ (own.map (·.2))) (upd H D (.lst ((bs.take i).map oneI))) s' ∧ s'.heap.IsListIter I0 a i) ?_ bs.length ⟨0, rfl, I4p, t3.at fun o e => keep4 _ _ e⟩
    rintro n s5 ⟨i, hn, I5, t5⟩
    have HaD : (upd H D (.lst ((bs.take i).map oneI))) a = some (.lst (bs.map V.bl)) := by rw [upd_ne aD]; exact ha
    have H5n : (upd H D (.lst ((bs.take i).map oneI))) I0 = none := by rw [upd_ne ID]; exact nI
    obtain ⟨_, us, n5, r5, e5⟩ := I5.hok a _ HaD
    have l5 : s5.heap.IsList a us.toArray := ⟨_, e5, rfl, _, rfl⟩
    have lu : us.length = bs.length := by have := r5.length; rw [List.length_map] at this; exact this.symm
    obtain ⟨F0, F1, F2, F3, F4, F5⟩ := fB I5 H5n
    by_cases hlt : i < bs.length
    · have hb : bs[i]? = some bs[i] := List.getElem?_eq_getElem hlt
      obtain ⟨u, hu, ru⟩ := r5.get (i := i) (x := .bl bs[i]) (by rw [List.getElem?_map, hb]; rfl)
      refine wpAny_pyNext_list_item t5 l5 (x := u) (by simpa using hu) fun h' t6 sb => ?_
      have I6 : Inv (X.blk s3 (upd H D (.lst [])) scope ce [I0]) [p] (wipe σ (own.map (·.2))) (upd H D (.lst ((bs.take i).map oneI))) { s5 with heap := h' } := I5.turned (t' := s5.toks) (fun b o nb e => (sb.2 b nb).trans e) F0 F1 F3 F4 F5
      obtain ⟨ob, b1, b2, b3⟩ := id t6
      refine go_of (s := { s5 with heap := h' }) b1 b2 b3 (by decide) ?_
      have I6' := I6.pinned (fp := [I0]) (fun b hb => by
        have : b = I0 := by simpa using hb
        subst this; exact fB I6 H5n) (fun b hb => by
        have : b = I0 := by simpa using hb
        subst this; exact ⟨ob, b1, fun v z => by rw [b3] at z; cases z⟩)
      refine thnF (pg.run _ _ _ _ (.bl bs[i]) u (fun σ' H' => σ' = (wipe σ (own.map (·.2))).set j (some (.bl bs[i])) ∧ H' = upd H D (.lst ((bs.take i).map oneI))) I6' ru ⟨rfl, rfl⟩) fun _ s7 ⟨σ7, H7, I7, q7⟩ => ?_
      obtain ⟨rfl, rfl⟩ := q7
      refine wpAny_tests_nil ?_
      rw [if_pos rfl]
      refine thnF (pe.run _ s7 _ _ (fun v H' => v = oneI bs[i] ∧ H' = upd H D (.lst ((bs.take i).map oneI))) I7 ⟨bs[i], List.getElem?_set_self hjw, rfl, rfl⟩) fun z s8 ⟨v8, H8, I8, r8, q8⟩ => ?_
      obtain ⟨rfl, rfl⟩ := q8
      have lt8 : ((bs.take i).map oneI).length < sizeLine := by
        have h0 := I.hok a _ ha
        have h1 : (bs.map V.bl).length ≤ sizeLine := h0.1
        rw [List.length_map] at h1 ⊢
        rw [List.length_take]; omega
      refine app_ok (X := X.blk s3 (upd H D (.lst [])) scope ce [I0]) I8 upd_same lt8 r8 fun s9 I9 => ?_
      have eH : upd (upd H D (.lst ((bs.take i).map oneI))) D (.lst ((bs.take i).map oneI ++ [oneI bs[i]])) = upd H D (.lst ((bs.take (i + 1)).map oneI)) := by
        rw [List.take_add_one, hb]
        simp only [Option.toList, List.map_append, List.map_cons, List.map_nil]
        funext b
        by_cases z : b = D
        · subst z; rw [upd_same, upd_same]
        · rw [upd_ne z, upd_ne z, upd_ne z]
      rw [eH] at I9
      refine ⟨n - 1, by omega, i + 1, by omega, ?_, ?_⟩
      · refine (I9.unpinned (pins := [p])).weak (by rw [List.length_set]) fun q v e => ?_
        by_cases z : j = q
        · subst z
          subst hown
          have e : ((wipe σ [j]))[j]? = some (some v) := e
          have : (wipe σ [j])[j]? = some none := List.getElem?_set_self (by rw [wipe_length]; rw [wipe_length] at hjw; exact hjw)
          rw [this] at e; cases e
        · rw [List.getElem?_set_ne z]; exact e
      · have q9 := I9.pin (I0, ob) (List.mem_append_right _ (List.mem_append_right _ (mem_pinsAt (by simp) b1)))
        exact ⟨ob, q9.1, b2, b3⟩
    · have hiz : i = bs.length := by omega
      refine next_end_hot (hotB I5) t5 l5 (by simp; omega) fun h' eb => ?_
      have I6 : Inv (X.blk s3 (upd H D (.lst [])) scope ce [I0]) [p] (wipe σ (own.map (·.2))) (upd H D (.lst ((bs.take i).map oneI))) { s5 with heap := h' } := I5.turned (t' := s5.toks) (fun b o nb e => eb b o nb e) F0 F1 F3 F4 F5
      have I7 : Inv X pins σ (upd H D (.lst ((bs.take i).map oneI))) { s5 with heap := h' } := I3.call' (ch := [I0]) I6.os I6.base I6.hok I6.bare fun b hb => by
        have : b = I0 := by simpa using hb
        subst this
        exact ⟨f3.2.2.2.1, f3.2.1, f3.2.2.2.2.1, f3.2.2.2.2.2⟩
      obtain ⟨m, hm, _⟩ := I6.loc
      have hm : h'.Ns ce.locals m := hm
      rw [cL] at hm
      have nC : (upd H D (.lst ((bs.take i).map oneI))) s3.heap.objs.size = none := by
        have z : (upd H D (.lst ((bs.take i).map oneI))) ce.locals = none := I6.free
        rw [cL] at z; exact z
      obtain ⟨g0, g1, g2, g3, g4, g5⟩ := I3.fpOk (Nat.le_refl _) nC
      refine ⟨m, hm, fun h'' sb => ?_⟩
      have I8 := I7.turned (t' := s5.toks) (fun b o nb e => (sb.2 b nb).trans e) g0 g1 g3 g4 g5
      rw [hiz, List.take_length] at I8
      exact k D _ nD I8
  exact codeAny_compStart_list loop (wpAny_pyIter_listiter (t3.at fun o e => keep4 _ _ e) loop)
end
end Mi
set_option Elab.async false
set_option linter.all false
set_option maxRecDepth 100000
set_option maxHeartbeats 2000000
/-! MjC: index; how many truths; the kind of the handled exception. -/
namespace Mi
open PySem PySem.Spec PyProof.Rows L2 LamX
section
variable {M : Wd} {X : Cx} {H H' H0 : Hp} {σ σ' : L2.St} {ρ ρ' : Env} {fs fs' fs0 : List (List Addr)} {pins : List (Addr × Obj)} {s s' : Shared} {C : Ctx} {pos : Pos}
theorem plains_at : ∀ {xs : List D} {n i : Nat} {d : D}, D.plains n xs = true → xs[i]? = some d → d.plain n = true
  | [], _, _, _, _, e => by simp at e
  | x :: xs, n, 0, d, h, e => by
    have h : D.plain n x = true ∧ D.plains n xs = true := by cases n <;> simpa [D.plains] using h
    simp at e; subst e; exact h.1
  | x :: xs, n, i + 1, d, h, e => by
    have h : D.plain n x = true ∧ D.plains n xs = true := by cases n <;> simpa [D.plains] using h
    exact plains_at h.2 (by simpa using e)
theorem pys_get {xs : List D} {i : Nat} {d : D} (e : xs[i]? = some d) : (D.pys xs)[i]? = some d.py := by rw [pys_map, List.getElem?_map, e]; rfl
/-- xs.index(y) -/
theorem je_index {a : E} {l : Es} {o e : Expr} {apos : Pos} (hu : Units X) (hb : plainBase o = true) (hs : noStar [e] = true) (hline : (apos.endLine == pos.line) = true) (ha : JE M X (evE C a) o) (hl : JA M X (evEs C l) [e]) :
    JE M X (evE C (.mth .index a l)) (.Call (.Attribute o "index" apos) [e] [] pos) := by
  intro pins s σ H ρ fs r h I sr tb
  rw [evE] at h
  have hu0 : X.A.units + 150 < cLine := hu
  refine wpAny_Call_method_late (base_of hb) ?_ hline rfl (bindO ha h (Nw.start I sr tb) fun w ρ1 H1 fs1 v u s1 h1 n1 k1 rv1 q1 => ?_)
  · rw [star_all hs]; rfl
  · replace h1 : (match look ρ1 w with
      | some d0 => if Mt.fits .index d0 then R.bind (evEs C l ρ1) fun ws ρ2 => match looks ρ2 (w.fz :: ws.map W.fz) with
        | some (d :: ds) => (mtD .index d ds).map fun w => .ok w ρ2
        | _ => none else none
      | none => none) = some r := h1
    split at h1
    · rename_i d0 hl0
      split at h1
      · rename_i hf
        have : ∃ xs, d0 = .lst xs := by cases d0 <;> first | (cases hf; done) | exact ⟨_, rfl⟩
        obtain ⟨xs0, rfl⟩ := this
        obtain ⟨a', vs, rfl, ha', _⟩ := (read n1.sr q1 hl0).lst
        cases rv1
        obtain ⟨t1, t2⟩ := tyV_is (T := "list") (x := .ref a') (v := .ref a') n1.inv rfl (.inl ⟨rfl, vs, .inl ha'⟩)
        refine ⟨"list", "list.index", F.plainAttrs_list, F.slot_list_index, rfl, t1, t2, ?_⟩
        have key := bindA (pos := pos) (K := fun us s2 => wpAny (model X.prog X.w) X.A (call (.builtin "list.index") (.ref a' :: us)) (PO M X pins σ H fs r) (PX M X σ H fs r) s2) hl h1 n1 fun ws ρ2 H2 fs2 us' fps us s2 h2 n2 f2 g2 rvs rws nd fr => by
          obtain ⟨H3, n3, k3, q3⟩ := freezes n2 rws nd (fun a ha => n1.back (fr a ha))
          have q1' := q1.kd (f2.kd.trans k3)
          split at h2
          · rename_i d ds hds
            have hd : look ρ2 w = some d ∧ looks ρ2 (ws.map W.fz) = some ds := by
              simp only [looks] at hds
              split at hds
              · rename_i x hx
                split at hds
                · rename_i y hy
                  cases hds
                  rw [look_fz] at hx
                  exact ⟨hx, hy⟩
                · cases hds
              · cases hds
            obtain ⟨w3, hw, er⟩ := map_some h2
            subst er
            replace hw : mtIndex d ds = some w3 := hw
            unfold mtIndex at hw
            split at hw
            · rename_i x
              split at hw
              · rename_i xs
                split at hw
                · rename_i hp
                  rw [Bool.and_eq_true] at hp
                  obtain ⟨j, hj, ew⟩ := map_some hw
                  subst ew
                  have r1 := read n3.sr q1' hd.1
                  obtain ⟨y, rfl, r2⟩ := rrs1 (reads n3.sr q3 hd.2)
                  obtain ⟨a2, vs2, e2, ha2, qs2⟩ := r1.lst
                  cases e2
                  obtain ⟨hjl, hje, hjn⟩ := List.findIdx?_eq_some_iff_getElem.mp hj
                  have hjz : xs[j]? = some xs[j] := List.getElem?_eq_getElem hjl
                  have hpj := plains_at hp.2 hjz
                  refine thn (mt_use (id := "list.index") (r := rIndexD X.K) (x := .ref a') (v := .ref a') (Q := fun v H' => v = .int (j : Nat) ∧ H' = H3) (fun E => mt_indexD (X := X.wish E) (by show X.A.units + 65 < cLine; omega)) n3.inv rfl rvs
                    ⟨a', y, x.py, D.pys xs, j, (xs[j]).py, rfl, rfl, .lst (.inl ha2) (dps_of xs _ _ hp.2 qs2), r2.dp hp.1, shaped_list hp.2, shaped_of hp.1, pys_get hjz, by rw [eqv_py _ _ _ _ hpj hp.1]; exact hje, fun m z' hm hz => ?_, rfl, rfl⟩) fun u s' z => ep_po z fun v' H' I' rv' q' => ?_
                  · have hml : m < xs.length := by omega
                    rw [pys_get (List.getElem?_eq_getElem hml)] at hz
                    cases hz
                    rw [eqv_py _ _ _ _ (plains_at hp.2 (List.getElem?_eq_getElem hml)) hp.1]
                    have := hjn m hm
                    simpa using this
                  · obtain ⟨rfl, rfl⟩ := q'
                    exact po_d (n3.same I') rv' (.int _)
                · cases hw
              · cases hw
            · cases hw
          · cases h2
        have hpl : (backTo pos (starEach [] X.env)).any (·.1) = false := rfl
        rw [star_cons hs] at key ⊢
        exact Calls.callWith_builtin (by show (false || (backTo pos (starEach [] X.env)).any (·.1)) = false; rw [hpl]; rfl) (Calls.evalArgs_plain key)
      · cases h1
    · cases h1
/-! ### how many truths a list has -/
theorem bls_are {bs : List Bool} : bs.map oneI = (bs.map fun b => if b then (1 : Int) else 0).map V.int := by
  rw [List.map_map]; rfl
/-- sum([int(y) for y in xs]), an exception being handled -/
theorem je_cnt {i j : Nat} {xn y : Str} {p p1 p2 p3 p4 p5 pl : Pos} {scope : Scope} (hc : L2H.HotC X) (hN : X.N.Nodup) (hg : Gl X "sum") (hm : X.mg "sum" = none) (hgi : (relS scope X.env.scope).names.lookup ("int" : Str) = some .globalImplicit) (hmi : X.mg "int" = none)
    (hi : X.N[i]? = some xn) (hv : Vis X.env.scope xn) (hd : (xn == ("__debug__" : Str)) = false) (hcd : (xn == ("__classdict__" : Str)) = false)
    (hj : X.N[j]? = some y) (hyd : (y == ("__debug__" : Str)) = false) (hycd : (y == ("__classdict__" : Str)) = false) (ok : BlkOk X.N X.env.scope scope [(y, j)]) (hvy : Vis (relS scope X.env.scope) y) (hly : Loc (relS scope X.env.scope) y)
    (hfy : (scope.names.lookup y == some .cell) = true ∨ (relS scope X.env.scope).names.lookup y = some .local) :
    JE M X (evE C (.cnt i)) (.Call (.Name "sum" p) [.ListComp (.Call (.Name "int" p1) [.Name y p2] [] p3) [⟨.Name y p4, .Name xn p5, [], 0⟩] scope pl] [] pos) := by
  intro pins s σ H ρ fs r h I sr tb
  rw [evE] at h
  split at h
  · rename_i xs e
    obtain ⟨bs, hb, er⟩ := map_some h
    subst er
    obtain ⟨v, ev, a, vs, rfl, hf, ha, q⟩ := sr.slot e
    obtain rfl := bools_rp hb q
    have ev1 : σ[i]? = some (some (.ref a)) := by
      obtain ⟨v', e'⟩ := sr.val e Slot.noConfusion
      rw [getD_some e'] at ev; cases ev
      exact e'
    refine wpAny_Call_Name_kw (ld_blt I hg hm (u := .builtin "sum") (by decide +kernel) ?_)
    refine PyProof.Rows.callWith_builtin1 ?_ (by rfl) (by rfl)
    show wpAny _ _ (spliced ((false, eval (.ListComp _ _ scope pl) X.env) :: backTo pos (starEach [] X.env))) _ _ s
    refine Calls.spliced_cons (lc_hot (py := p4) hc hN I ha (fun K hK => ?_) (fun _ => rfl) ok rfl (lt_of_get hj) (fun s H C cl fp => ?_) (fun s H C cl fp => ?_) fun D s' nD I' => ?_)
    · refine wpAny_mono ((pe_var (X := X.wish (PX M X σ H fs (.ok (W.d (D.int (bs.map fun b => if b then (1 : Int) else 0).sum)) ρ))) hi hv hd hcd).run pins s σ H (fun v' H' => v' = .ref a ∧ H' = H) (I.wish _) ⟨_, ev1, rfl, rfl⟩) (fun u s2 pp => ?_) fun _ _ z => z
      obtain ⟨v', H', I', rv, rfl, rfl⟩ := pp
      cases rv
      exact hK s2 I'.unwish
    · exact pg_name hN hj hly hfy
    · exact pe_intOf hgi hmi hj hvy hyd hycd
    · refine Calls.spliced_nil ?_
      obtain ⟨x1, hot⟩ := hc.at I'
      rw [bls_are] at I'
      obtain ⟨_, its, n0, rv, e0⟩ := I'.hok D _ upd_same
      refine sum_hot hot ⟨_, e0, rfl, _, rfl⟩ rv.ints fun h' tk t' hk => ?_
      have I2 : Inv X pins σ (upd H D (.lst ((bs.map fun b => if b then (1 : Int) else 0).map V.int))) { s' with heap := h', toks := tk } := I'.kept hk
      have f : Fr fs.flatten H (upd H D (.lst ((bs.map fun b => if b then (1 : Int) else 0).map V.int))) := Fr.new nD
      have n2 : Nw M X pins σ ρ H fs (upd H D (.lst ((bs.map fun b => if b then (1 : Int) else 0).map V.int))) fs { s' with heap := h', toks := tk } :=
        ⟨I2, sr.keep (Fr.new (Wr := []) nD) (fun _ _ z => nomatch z), f, fun a ha => .inl ha, tabs_new tb nD⟩
      exact po_d (v := .int _) n2 ⟨_, rfl⟩ (.int _)
  · cases h
/-! ### the kind of the exception -/
/-- what is known of the exception at hand: the kind c, its object -/
structure GhX (M : Wd) (X : Cx) (c : Nat) (p : Addr × Obj) : Prop where
  gh : ∀ k v, M.gh k v → k = c ∧ v = .ref p.1
  pin : p ∈ X.pn
  z : Zc (.ref (M.exA c)) none p.2
  fl : ∃ vs, p.2.data = .fields vs
  ec : ExcC X.K (M.exA c)
theorem ghost_no {vfs : List (Str × V)} {ns : List Str} {fps : List (List Addr)} {cs : List Cn} (q : RFs X H vfs cs ns fps) (e : cs = [.p (.exc 0)] := by rfl) : False := by
  cases q with
  | nil => cases e
  | cons rc _ =>
    cases e
    exact nomatch rc.2
theorem je_isx {i x c : Nat} {xn y : Str} {cv : Value} {p q1 q2 : Pos} {pp : Addr × Obj} (hX : GhX M X c pp) (hg : Gl X "isinstance") (hm : X.mg "isinstance" = none) (hi : X.N[i]? = some xn) (hv : Vis X.env.scope xn) (hd : (xn == ("__debug__" : Str)) = false) (hcd : (xn == ("__classdict__" : Str)) = false)
    (hy : ∀ (E : Value → Shared → Prop) (s : Shared) (H : Hp) (Q : Value → Shared → Prop), Inv X pins σ H s → Q cv s → wpAny (model X.prog X.w) X.A (eval (.Name y q2) X.env) Q E s) (hk : PySem.W.kitOne X.K (.ref (M.exA c)) cv = some (x == c || x == 10)) {r : Rs W} (h : evE C (.isi (.var i) (.cls x)) ρ = some r) (I : Inv X pins σ H s) (sr : SR M X H σ ρ fs) (tb : Tabs M.T H) :
    wpAny (model X.prog X.w) X.A (eval (.Call (.Name "isinstance" p) [.Name xn q1, .Name y q2] [] pos) X.env) (PO M X pins σ H fs r) (PX M X σ H fs r) s := by
  rw [evE] at h
  refine wpAny_Call_Name_kw (ld_blt I hg hm isi_boot ?_)
  have st : noStar [Expr.Name xn q1, .Name y q2] = true := rfl
  refine PyProof.Rows.callWith_builtin1 ?_ (star_cons st) (star_any (noStar_tail st))
  rw [star_cons st]
  refine Calls.spliced_cons (bindE (je_var hi hv hd hcd) h (Nw.start I sr tb) fun w ρ1 H1 fs1 v fp u s1 h1 n1 f1 g1 rv1 rw1 nd1 fr1 => ?_)
  split at h1
  · rename_i k hx
    obtain ⟨b, hb, er⟩ := map_some h1
    subst er
    unfold exOf at hx
    split at hx
    · rename_i i0
      split at hx
      · rename_i k' e0
        cases hx
        have ev : σ[i0]? = some (some v) := rw1.2
        have gg : M.gh k v := by
          rcases n1.sr.slot e0 with ⟨a, _, _, _, _, _, q, _⟩ | ⟨_, _, v', e1, g⟩
          · exact (ghost_no q).elim
          · rw [getD_some ev] at e1; cases e1; exact g
        obtain ⟨rfl, rfl⟩ := hX.gh _ _ gg
        cases rv1
        have hb : (x == k || x == 10) = b := Option.some.inj hb
        subst hb
        refine Calls.spliced_cons (hy _ _ _ _ n1.inv ?_)
        refine Calls.spliced_nil ?_
        obtain ⟨hget, _⟩ := n1.inv.pin pp (List.mem_append_left _ hX.pin)
        obtain ⟨vs, hvs⟩ := hX.fl
        have J : PySem.W.InstAt s1.heap pp.1 pp.2 (M.exA k) none := by
          have z := hX.z
          obtain ⟨pa, oc, od, oda, osl⟩ := pp
          obtain ⟨z1, z2⟩ := z
          dsimp only at z1 z2 hvs hget
          subst z1 z2 hvs
          exact ⟨hget, rfl, rfl, trivial⟩
        have C := hX.ec
        exact PySem.W.kia_one (PySem.W.handS_kitx_exc C.hg C.hk C.hs C.hd C.ha C.hn C.ht C.hm) n1.inv.kIn J hk (fun z => nomatch z) fun tk => po_d (v := .bl _) (n1.same (n1.inv.kept (t' := tk) fun _ _ z => z)) rfl (.bl _)
      · cases hx
    · cases hx
  · split at h1
    · rename_i d hl
      obtain ⟨b, hb, er⟩ := map_some h1
      cases d <;> cases hb
    · cases h1
end
end Mi
set_option Elab.async false
set_option linter.all false
set_option maxRecDepth 100000
set_option maxHeartbeats 2000000
/-! MjD: a lambda handed to the def that tells. -/
namespace Mi
open PySem PySem.Spec PyProof.Rows L2 LamX
section
variable {M : Wd} {X : Cx} {H H' H0 : Hp} {σ σ' : L2.St} {ρ ρ' : Env} {fs fs' fs0 : List (List Addr)} {pins : List (Addr × Obj)} {s s' : Shared} {C : Ctx} {pos : Pos}
/-- the lambda is made; what stood there stands there still -/
theorem lam_new {T : List (Addr × Str)} {c P : Addr} {prm : Arguments} {body : Expr} {scope : Scope} {E Q : Value → Shared → Prop} (I : Inv X pins σ H s) (tb : TabB X.base X.mg c P) (hc : X.env.code = .ref c) (hm : (P, X.env.qual ++ "<lambda>") ∈ T) (hu : ∀ p ∈ T, p.1 = P → p.2 = X.env.qual ++ "<lambda>")
    (hT : Tabs T H) (hd : defaultsOf prm X.env = ([], [])) (hf : ∀ y ∈ scope.names, y.2 = .free → ∃ c, X.env.cells.lookup y.1 = some c)
    (k : ∀ (f cN : Addr) (pm ctv : Value) (H1 : Hp) (s1 : Shared), Inv X pins σ H1 s1 → Fr [] H H1 → Tabs T H1 →
      s1.heap.get? f = some (PySem.W.kla_obj "<lambda>" (X.env.qual ++ "<lambda>") prm body scope (cloFrom X.env.cells scope.names []) pm cN ctv) → H1 f = none → f ∉ frs X.stack → H1 cN = some (CodeO cN (X.env.qual ++ "<lambda>")) → Q (.ref f) s1) :
    wpAny (model X.prog X.w) X.A (eval (.Lambda prm body scope pos) X.env) Q E s := by
  obtain ⟨ps, tab, trip, names⟩ := hT _ hm
  have bltP : s.heap.BuiltinsAt X.mg P := tb.bm.keeps I.bk
  have glb : s.heap.Ns mainGlobals X.mg := I.mod.glob.keeps I.bk
  have obj := I.hok P _ tab
  have young : ∀ f, s.heap.objs.size ≤ f → f ∉ frs X.stack := fun f hle z => (List.mem_cons.mp (I.stkSub f z)).elim (fun e => by
    have := I.lt
    rw [← e] at this; exact absurd this (Nat.not_lt.mpr hle)) (I.nofs hle)
  have obj : s.heap.get? P = some { cls := .none, data := .fields ps } := obj
  refine PySem.W.kla_eval hd ?_
  cases look : codeAmong pos ps.toList with
  | some cv =>
    obtain ⟨cN, e, known⟩ := names pos cv look
    subst e
    refine PySem.W.kla_makeFunctionHit (c := c) (P := P) (mg := X.mg) (ps := ps) (closure_ok hf) I.ok.glob glb hc (tb.code.keeps I.bk) obj trip look bltP fun ctv hN tk grow size => ?_
    refine k hN.objs.size cN _ ctv H _ (I.kept (t' := tk) fun b o e => Heap.get?_push_of_some _ (grow b o e)) Fr.refl hT (Heap.get?_push_size _ rfl) (I.hok.fresh size) (young _ size) known
  | none =>
    refine PySem.W.kla_makeFunction (c := c) (P := P) (mg := X.mg) (ps := ps) (closure_ok hf) I.ok.glob glb hc (tb.code.keeps I.bk) obj trip look tb.gP bltP fun cN ctv hN tk grow low high rec tabN => ?_
    obtain ⟨cN', oc, vs, t, eN, o1, o2, o3⟩ := rec
    cases eN
    have size : s.heap.objs.size ≤ hN.objs.size := Nat.le_trans low (Nat.le_of_lt high)
    have fresh : H cN = none := I.hok.fresh low
    generalize more : (#[rawInt pos.line, rawInt pos.col, .ref cN] : Array Value) = mo at tabN
    have J := inv_table (t' := tk) (more := mo) (h' := hN.push (PySem.W.kla_obj "<lambda>" (X.env.qual ++ "<lambda>") prm body scope (cloFrom X.env.cells scope.names []) ((X.mg "__name__").getD .none) cN ctv)) I tab (fun b o nb e => Heap.get?_push_of_some _ (grow b o nb e)) (Heap.get?_push_of_some _ tabN) low ⟨oc, vs, t, Heap.get?_push_of_some _ o1, o2, o3⟩
    generalize eH : upd (upd H P (.tbl (ps ++ mo))) cN (CodeO cN (X.env.qual ++ "<lambda>")) = H1 at J
    have atN : H1 cN = some (CodeO cN (X.env.qual ++ "<lambda>")) := by rw [← eH, upd_same]
    have atP : H1 P = some (.tbl (ps ++ mo)) := by rw [← eH, upd_ne (ne_of_none tab fresh), upd_same]
    have else_ : ∀ b o, H b = some o → b ≠ P → H1 b = some o := fun b o e nb => by rw [← eH, upd_ne (ne_of_none e fresh), upd_ne nb]; exact e
    have notP : ∀ b o, H b = some o → (∀ q, o ≠ .tbl q) → b ≠ P := fun b o e nt z => by subst z; rw [tab] at e; exact nt ps (Option.some.inj e).symm
    have fr : Fr [] H H1 := ⟨fun b o e _ nt => else_ b o e (notP b o e nt), fun b o e _ nt => else_ b o e (notP b o e nt), fun b o e => by
      by_cases z : b = P
      · subst z; exact ⟨_, atP⟩
      · exact ⟨o, else_ b o e z⟩⟩
    refine k hN.objs.size cN _ ctv H1 _ J fr (fun q hq => ?_) (Heap.get?_push_size _ rfl) ?_ (young _ size) atN
    · by_cases z : q.1 = P
      · refine ⟨ps ++ mo, by rw [z]; exact atP, ?_, fun p' cv hcv => ?_⟩
        · rw [← more]
          have := PySem.TriplesOk_snoc pos.line pos.col (.ref cN) ps.toList trip
          simpa using this
        · have hcv : codeAmong p' (ps.toList ++ [rawInt pos.line, rawInt pos.col, .ref cN]) = some cv := by rw [← more] at hcv; simpa using hcv
          rw [hu q hq z]
          rcases among_app _ trip hcv with y | y
          · obtain ⟨c0, e1, e2⟩ := names p' cv y
            exact ⟨c0, e1, else_ c0 _ e2 (notP c0 _ e2 fun q => codeO_ne q)⟩
          · exact ⟨cN, y, atN⟩
      · obtain ⟨ps2, a1, a2, a3⟩ := hT q hq
        refine ⟨ps2, else_ q.1 _ a1 z, a2, fun p' cv hcv => ?_⟩
        obtain ⟨c0, e1, e2⟩ := a3 p' cv hcv
        exact ⟨c0, e1, else_ c0 _ e2 (notP c0 _ e2 fun q => codeO_ne q)⟩
    · rw [← eH, upd_ne (Nat.ne_of_gt high), upd_ne (Nat.ne_of_gt (Nat.lt_of_lt_of_le (Heap.lt_size obj) size))]
      exact I.hok.fresh size
/-! ### the lambda called -/
/-- the lambda's block, entered at s from the frames outer -/
abbrev lamN (X : Cx) (A : Around) (outer : List PySem.Env) (s : Shared) (H : Hp) (E : XK) (scope : Scope) (f cN : Addr) : Cx :=
  (lamCx X A outer s H E scope f cN).wish fun e s' => wpAny (model X.prog X.w) (A.deeper (lamEnv X scope s.heap.objs.size f cN)) (leaving (lamEnv X scope s.heap.objs.size f cN) e) (fun _ s2 => L2N.CX X.prog X.w outer H s E e s2) (fun e2 s2 => L2N.CX X.prog X.w outer H s E e2 s2) s'
theorem lamN_takes {A : Around} {outer : List PySem.Env} {E : XK} {scope : Scope} {f cN : Addr} : L2N.Takes (lamN X A outer s H E scope f cN) (fun cls d _ H' => E cls d H') := L2N.takes_of rfl rfl rfl rfl
/-- a(), in the def that got the lambda: Z is that def's context -/
theorem act_ok {Z : Cx} {f cN : Addr} {pm ctv : Value} {prm : Arguments} {body : Expr} {scope : Scope} {k i : Nat} {a : Str} {W : WX} {E : XK} {tl : TE} {p1 p2 : Pos} (I : Inv X pins σ H s) (L : LamS X.env.scope scope)
    (hf : s.heap.get? f = some (PySem.W.kla_obj "<lambda>" (X.env.qual ++ "<lambda>") prm body scope (cloFrom X.env.cells scope.names []) pm cN ctv)) (nf : H f = none) (ny : f ∉ frs X.stack) (hb : bindArgs (PySem.W.kla_fn "<lambda>" (X.env.qual ++ "<lambda>") prm body scope (cloFrom X.env.cells scope.names []) pm (.ref cN) ctv) ⟨[], []⟩ = pure [])
    (zp : Z.prog = X.prog) (zw : Z.w = X.w) (zk : Z.K = X.K) (zm : Z.mg = X.mg) (zb : Z.base = X.base) (z0 : Z.s_0 = s) (zH : Z.H_0 = H) (zo : Z.outer = X.stack) (zx : Z.ex = []) (zc : Z.calm = true)
    (tk : L2N.Takes Z W) (hW : ∀ cls d σ' H', E cls d H' → W cls d σ' H') (hr : Room (k + 1) Z.A) (hbody : ∀ (A : Around) (outer : List PySem.Env) (s : Shared) (H : Hp), Room k (A.deeper (lamEnv X scope s.heap.objs.size f cN)) → PE (lamN X A outer s H E scope f cN) body tl)
    (hN : Z.N[i]? = some a) (hv : Vis Z.env.scope a) (hd : (a == ("__debug__" : Str)) = false) (hcd : (a == ("__classdict__" : Str)) = false) :
    PE Z (.Call (.Name a p1) [] [] p2) (fun τ G Q => τ[i]? = some (some (.ref f)) ∧ G cN = some (CodeO cN (X.env.qual ++ "<lambda>")) ∧ tl σ G Q) := by
  refine ⟨fun qs s2 τ G Q J ⟨hs, hc, ht⟩ => ?_⟩
  refine wpAny_Call_Name_kw (thn ((pe_var (pos := p1) (i := i) hN hv hd hcd).run qs s2 τ G (fun v G1 => v = .ref f ∧ G1 = G) J ⟨.ref f, hs, rfl, rfl⟩) fun u s3 ⟨v, G1, J1, rv, e1, e2⟩ => ?_)
  subst e1 e2
  cases rv
  have there : s3.heap.get? f = some (PySem.W.kla_obj "<lambda>" (X.env.qual ++ "<lambda>") prm body scope (cloFrom X.env.cells scope.names []) pm cN ctv) := J1.base.keep f _ (by rw [z0]; exact hf) (by rw [zH]; exact nf) (by rw [show Z.fs = frs X.stack from by unfold Cx.fs; rw [zo]]; exact ny) (by rw [zx]; exact fun z => nomatch z)
  refine PySem.W.callWith_F0 ⟨_, _, _, _, there⟩ ?_
  obtain ⟨⟨oc, vs, t, o1, o2, o3⟩, _, _⟩ := J1.hok cN _ hc
  have body_ : codeAny (model Z.prog Z.w) Z.A (.call (.ref f) ⟨[], []⟩) (CR (L2N.CX Z.prog Z.w) Z.stack Z.prog Z.w G1 s3 Q E) s3 := by
    refine PySem.W.kla_callFunE hr.depth there rfl L.co L.gen rfl ⟨cN, oc, vs, t, rfl, o1, o2, o3⟩ ?_
    rw [hb]
    refine wpAny_pure (wpAny_newFunctionEnv (fun y hy => (L.own y hy).2) (fun y hy => absurd hy (by simp)) (fun h₁ hns hsb => ⟨J1.nolimit.fresh _ hsb, ?_⟩) L.kind)
    show codeAny _ _ (.expr body (lamEnv X scope s3.heap.objs.size f cN)) _ _
    have kp : ∀ b o, s3.heap.get? b = some o → h₁.get? b = some o := fun b o e => hsb.extBut b o (Nat.ne_of_lt (Heap.lt_size e)) (Heap.get?_push_of_some _ e)
    have e0 := J1.env0
    have un := J1.base
    rw [zx] at un
    rw [show Z.fs = frs X.stack from by unfold Cx.fs; rw [zo], z0, zH] at un
    rw [zp, zw, zk, zm, zb] at e0
    have J2 := lam_start2 (f := f) (c' := cN) (tk := s3.toks + ([] : List (Str × Value)).length) (E := E) I L e0 (J1.ok.hd zc) un hns kp
    rw [zp, zw]
    exact PySem.W.kla_codeExpr (wpAny_mono ((hbody _ _ s3 G1 (hr.deeper _)).run [] _ _ G1 Q (J2.wish _) ht) (fun v s' ⟨w, G2, J3, rv, q⟩ => ⟨w, G2, J3.os, J3.bare, J3.base, J3.hok, rv, q⟩) fun e s' hq => hq)
  refine wpAny_call (codeAny_mono body_ fun r s4 hq => ?_)
  cases r with
  | error e => exact L2N.passes_call tk hW qs τ G1 s3 e s4 J1 hq
  | ok fl =>
    cases fl with
    | ret u => exact J1.after hq
    | next => exact False.elim hq
    | brk => exact False.elim hq
    | cont => exact False.elim hq
/-! ### what the def that tells promises -/
/-- the reading of the lambda's body, from the place where it was made -/
def tLam0 (M : Wd) (X : Cx) (σ : L2.St) (m : Env → R W) : XK → Hp → VK → Prop := fun E G Q => ∃ ρ fs r0, m ρ = some r0 ∧ SR M X G σ ρ fs ∧ Tabs M.T G ∧
  (∀ w ρ', r0 = .ok w ρ' → ∃ d ρ2, esc ρ' w = some (d, ρ2) ∧ ∀ v G' fs', SR M X G' σ ρ2 fs' → RpX X G' v d → Fr fs.flatten G G' → (∀ a ∈ fs'.flatten, a ∈ fs.flatten ∨ G a = none) → Tabs M.T G' → Q v G') ∧
  ∀ c ρ', r0 = .ex c ρ' → ∀ G' fs', SR M X G' σ ρ' fs' → Fr fs.flatten G G' → (∀ a ∈ fs'.flatten, a ∈ fs.flatten ∨ G a = none) → Tabs M.T G' → E (.ref (M.exA c)) none G'
theorem same_lam {A : Around} {outer : List PySem.Env} {E : XK} {scope : Scope} {f cN : Addr} : SameW (lamN X A outer s H E scope f cN) X := ⟨rfl, rfl, rfl⟩
theorem JE.lam {m : Env → R W} {body : Expr} {A : Around} {outer : List PySem.Env} {E : XK} {scope : Scope} {f cN : Addr} (h : JE M (lamN X A outer s H E scope f cN) m body) : PE (lamN X A outer s H E scope f cN) body (fun τ G Q => tLam0 M X τ m E G Q) := by
  refine ⟨fun qs s1 τ G Q I ⟨ρ, fs, r0, hm, sr, tb, hok, hex⟩ => ?_⟩
  have sw := same_lam (X := X) (A := A) (outer := outer) (s := s) (H := H) (E := E) (scope := scope) (f := f) (cN := cN)
  refine wpAny_mono (h qs s1 τ G ρ fs r0 hm I (sw.symm.sr sr) tb) (fun u s2 p => ?_) fun u s2 p => ?_
  · obtain ⟨w, ρ', G', fs', v, fp, e1, n, rv, rw', nd, fr⟩ := p
    obtain ⟨d, ρ2, he, k⟩ := hok w ρ' e1
    obtain ⟨G2, fs2, n2, q, _, _⟩ := escape n rw' nd fr he
    exact ⟨v, G2, n2.inv, rv, k v G2 fs2 (sw.sr n2.sr) (sw.rp q) n2.fr n2.gw n2.tb⟩
  · obtain ⟨c, ρ', e1, x⟩ := p
    exact lamN_takes u s2 (xe_mono x fun cls d τ' G' ⟨e2, e3, e4, fs', sr', fr', gw', tb'⟩ => by
      subst e2 e3 e4
      exact hex c ρ' e1 G' fs' (sw.sr sr') fr' gw' tb')
/-- try: return a() / except the base of all as e: return what it is -/
def TellB (M : Wd) (P : Program) (w : World) (K : PySem.W.Frag) (mg : Str → Option Value) (base : Heap) (k : Nat) (Ng : List Str) (x : Str) (sg : Scope) (g : Addr) (cdv : Value) (bg : List Stmt) (a : Str) : Prop :=
  ∀ (A : Around) (outer : List PySem.Env) (s : Shared) (H : Hp) (f cN : Addr) (q : Str) (Q : VK) (tl : XK → Hp → VK → Prop), Room (k + 1) (A.deeper (envOfC x sg s.heap.objs.size g cdv)) →
    (∀ (pn : List (Addr × Obj)) (xe : Value → Shared → Prop) (W : WX) (E : XK) (p1 p2 : Pos), L2N.Takes ((cxOf (L2N.CX P w) P w K mg base Ng x sg g cdv A outer s H fun _ _ _ => False).tr pn xe) W → (∀ cls d σ' H', E cls d H' → W cls d σ' H') →
      PE ((cxOf (L2N.CX P w) P w K mg base Ng x sg g cdv A outer s H fun _ _ _ => False).tr pn xe) (.Call (.Name a p1) [] [] p2) (fun τ G Q => τ[0]? = some (some (.ref f)) ∧ G cN = some (CodeO cN q) ∧ tl E G Q)) →
    H cN = some (CodeO cN q) →
    tl (fun cls d H' => ∃ c y, kinds[c]? = some y ∧ cls = .ref (M.exA c) ∧ d = none ∧ Tabs M.T H' ∧ ∀ v H2, Rp P w K H2 v (.tup [.str sRefused, .str y]) → Fr [] H' H2 → Tabs M.T H2 → Q v H2) H Q →
    ∃ t, PSs (cxOf (L2N.CX P w) P w K mg base Ng x sg g cdv A outer s H fun _ _ _ => False) bg t ∧ t { nx := fun _ H' => Q .non H', rt := Q } (L2.start Ng [.ref f]) H
def TellP (M : Wd) (P : Program) (w : World) (K : PySem.W.Frag) (mg : Str → Option Value) (base : Heap) (k : Nat) (x : Str) (g : Addr) : Prop :=
  ∃ (pg : Arguments) (bg : List Stmt) (sg : Scope) (dV kV doc pm cdv ct oc : Value) (an od : Option Addr) (osl : Array (Option Value)) (Ng : List Str) (a : Str),
    K.lookup g = some ⟨oc, od, .func (PySem.W.fnOf x x pg bg sg dV kV doc pm an cdv ct), osl⟩ ∧ PySem.W.codeIn K cdv x = true ∧ L2.Binds K (PySem.W.fnOf x x pg bg sg dV kV doc pm an cdv ct) [a] [] ∧ FnScope Ng [a] sg ∧ Ng[0]? = some a ∧ Vis sg a ∧
    (a == ("__debug__" : Str)) = false ∧ (a == ("__classdict__" : Str)) = false ∧ TellB M P w K mg base k Ng x sg g cdv bg a
/-- the tables of code objects, as the making of a lambda wants them -/
def LamOk (M : Wd) (X : Cx) : Prop := ∃ c P, X.env.code = .ref c ∧ TabB X.base X.mg c P ∧ (P, X.env.qual ++ "<lambda>") ∈ M.T ∧ ∀ p ∈ M.T, p.1 = P → p.2 = X.env.qual ++ "<lambda>"
def tRes (M : Wd) (X : Cx) (σ : L2.St) (r : Rs W) (fs : List (List Addr)) (H1 : Hp) : VK := fun v H' => ∃ d ρ' fs', r = .ok (.d d) ρ' ∧ SR M X H' σ ρ' fs' ∧ RpX X H' v d ∧ Fr fs.flatten H1 H' ∧ (∀ a ∈ fs'.flatten, a ∈ fs.flatten ∨ H1 a = none) ∧ Tabs M.T H'
/-- x(lambda: body) -/
theorem je_told {k : Nat} {x : Str} {g : Addr} {a : E} {prm : Arguments} {body : Expr} {scope : Scope} {p lpos : Pos} (hg : Gl X x) (hm : X.mg x = some (.ref g)) (hk : PySem.W.keepIn X.K (.ref g) = true) (hT : TellP M X.prog X.w X.K X.mg X.base k x g) (hL : LamOk M X) (hr : Room (k + 2) X.A) (L : LamS X.env.scope scope)
    (hdef : defaultsOf prm X.env = ([], [])) (hbind : ∀ (q : Str) (cl : List (Str × Addr)) (pm cv ctv : Value), bindArgs (PySem.W.kla_fn "<lambda>" q prm body scope cl pm cv ctv) ⟨[], []⟩ = pure []) (hdb : (x == ("__debug__" : Str)) = false)
    (hbody : ∀ (A : Around) (outer : List PySem.Env) (s : Shared) (H : Hp) (E : XK) (f cN : Addr), Room k (A.deeper (lamEnv X scope s.heap.objs.size f cN)) → JE M (lamN X A outer s H E scope f cN) (evE C a) body) :
    JE M X (evE C (.told 0 a)) (.Call (.Name x p) [.Lambda prm body scope lpos] [] pos) := by
  intro pins s σ H ρ fs r h I sr tb
  obtain ⟨pg, bg, sg, dV, kV, doc, pm, cdv, ct, oc, an, od, osl, Ng, av, lk, hcd, hb, Sg, hN0, hva, hd1, hd2, hB⟩ := hT
  obtain ⟨c, P, hc, TB, hmT, hu⟩ := hL
  rw [evE] at h
  refine wpAny_Call_Name_kw (ld_glob I hg hm ?_ hdb)
  refine PySem.W.callWith_K (h₀ := X.base) I.ok.mod.kin hk ?_ (by rfl) (by rfl)
  show wpAny _ _ (spliced ((false, eval (.Lambda prm body scope lpos) X.env) :: backTo pos (starEach [] X.env))) _ _ s
  refine Calls.spliced_cons (lam_new I TB hc hmT hu tb hdef (L.has I.ok) fun f cN pm' ctv H1 s1 I1 f1 t1 hf nf ny hco => ?_)
  refine Calls.spliced_nil ⟨I1.kIn, ?_⟩
  have sr1 : SR M X H1 σ ρ fs := sr.keep f1 fun _ _ z => nomatch z
  have rc : codeAny (model X.prog X.w) X.A (.call (.ref g) ⟨[.ref f], []⟩) (CR (L2N.CX X.prog X.w) X.stack X.prog X.w H1 s1 (tRes M X σ r fs H1) fun _ _ _ => False) s1 := by
    refine run_ofS (N := Ng) (ps := [av]) (us := [.ref f]) (vs := [.ref f]) lk hcd Sg hr I1.env0 (hb s1 [.ref f] I1.kIn rfl) (.cons rfl .nil) rfl fun hr' => ?_
    refine hB X.A X.stack s1 H1 f cN (X.env.qual ++ "<lambda>") (tRes M X σ r fs H1) (fun E G Q => tLam0 M X σ (evE C a) E G Q) hr' (fun pn xe W E p1 p2 tk hW => ?_) hco ?_
    · exact act_ok (tl := fun τ G Q => tLam0 M X τ (evE C a) E G Q) I1 L hf nf ny (hbind _ _ _ _ _) rfl rfl rfl rfl rfl rfl rfl rfl rfl rfl tk hW hr' (fun A outer s H hr2 => (hbody A outer s H E f cN hr2).lam) hN0 hva hd1 hd2
    · cases ha : evE C a ρ with
      | none => rw [ha] at h; cases h
      | some r0 =>
        rw [ha] at h
        refine ⟨ρ, fs, r0, ha, sr1, t1, fun w ρ' e => ?_, fun c0 ρ' e G' fs' sr' fr' gw' tb' => ?_⟩
        · subst e
          replace h : (match esc ρ' w with
            | some (d, ρ2) => some (.ok (.d d) ρ2)
            | none => none) = some r := h
          split at h
          · rename_i d ρ2 he
            cases h
            exact ⟨d, ρ2, he, fun v G' fs' sr' rp' fr' gw' tb' => ⟨d, ρ2, fs', rfl, sr', rp', fr', gw', tb'⟩⟩
          · cases h
        · subst e
          replace h : (toldE 0 c0).map (fun d => Rs.ok (W.d d) ρ') = some r := h
          obtain ⟨d, hd, er⟩ := map_some h
          unfold toldE at hd
          split at hd
          · rename_i y hy
            cases hd
            refine ⟨c0, y, hy, rfl, rfl, tb', fun v H2 rp fr2 tb2 => ⟨_, ρ', fs', er.symm, sr'.keep fr2 (fun _ _ z => nomatch z), rp, fr'.trans fr2 (fun _ z => nomatch z), gw', tb2⟩⟩
          · cases hd
  refine wpAny_call (codeAny_mono rc fun r2 s2 hq => ?_)
  cases r2 with
  | error e =>
    obtain ⟨_, _, _, _, _, _, _, _, _, _, _, _, z⟩ := (show L2N.CX X.prog X.w X.stack H1 s1 (fun _ _ _ => False) e s2 from hq)
    exact z.elim
  | ok fl =>
    cases fl with
    | ret u =>
      obtain ⟨v, H', I', rv, d, ρ', fs', er, sr', rp', fr', gw', tb'⟩ := I1.after hq
      subst er
      exact po_d (v := v) ⟨I', sr', f1.mono (fun _ z => nomatch z) |>.trans fr' (fun x hx => .inl hx), fun x hx => (gw' x hx).elim .inl fun z => .inr (f1.none_back z), tb'⟩ rv rp'
    | next => exact False.elim hq
    | brk => exact False.elim hq
    | cont => exact False.elim hq
end
end Mi
set_option Elab.async false
set_option linter.all false
set_option maxRecDepth 100000
set_option maxHeartbeats 2000000
/-! MjE: the def that tells, from what the def that names the kind promises. -/
namespace Mi
open PySem PySem.Spec PyProof.Rows L2 LamX
/-- called while an exception of the kind c is handled: it names the kind -/
def TermP (M : Wd) (P : Program) (w : World) (K : PySem.W.Frag) (mg : Str → Option Value) (base : Heap) (k : Nat) (f : Addr) (fd : FuncData) (ps : List Str) : Prop :=
  ∀ (A : Around) (outer : List PySem.Env) (s : Shared) (H : Hp) (args : Args) (p : Addr × Obj) (c : Nat) (y : Str) (Q : VK) (E : XK), L2H.RoomH k A → L2H.Hot1 A p → L2H.PinOk outer H s p → kinds[c]? = some y → Zc (.ref (M.exA c)) none p.2 →
    Env0 P w K mg base A outer s H → BindsTo s fd args (ps.zip [.ref p.1]) → Tabs M.T H → (∀ v H2, Rp P w K H2 v (.tup [.str sRefused, .str y]) → Fr [] H H2 → Tabs M.T H2 → Q v H2) →
    codeAny (model P w) A (.call (.ref f) args) (CR (L2N.CX P w) outer P w H s Q E) s
section
variable {M : Wd} {X : Cx} {H H' H0 : Hp} {σ σ' : L2.St} {pins : List (Addr × Obj)} {s s' : Shared}
theorem takes_no {X : Cx} : L2N.Takes X (fun _ _ _ _ => False) := fun _ _ x => by
  obtain ⟨_, _, _, _, _, _, _, _, _, _, _, _, _, _, _, _, z⟩ := x
  exact z.elim
/-- the suite's reading -/
def tSu (M : Wd) (P : Program) (w : World) (K : PySem.W.Frag) (a : Addr) (cls : Value) (d : Option Addr) : TS := fun D σ H => (1 < σ.length → σ[1]? = some (some (.ref a))) ∧ ∃ c y, kinds[c]? = some y ∧ cls = .ref (M.exA c) ∧ d = none ∧ Tabs M.T H ∧
  ∀ v H2, Rp P w K H2 v (.tup [.str sRefused, .str y]) → Fr [] H H2 → Tabs M.T H2 → D.rt v H2
theorem ps_suite {ft : Addr} {fdt : FuncData} {pst : List Str} {tn en : Str} {p1 p2 p3 p4 : Pos} {a : Addr} {oe : Obj} {cls : Value} {d : Option Addr} {pn : List (Addr × Obj)} (hT : TermP M X.prog X.w X.K X.mg X.base 1 ft fdt pst) (hp1 : pst.length = 1) (hr : Room 1 X.A)
    (hN : X.N[1]? = some en) (hv : Vis X.env.scope en) (hd : (en == ("__debug__" : Str)) = false) (hcd : (en == ("__classdict__" : Str)) = false) (hg : Gl X tn) (hm : X.mg tn = some (.ref ft)) (hk : PySem.W.keepIn X.K (.ref ft) = true) (hdt : (tn == ("__debug__" : Str)) = false) (hb : L2.Binds X.K fdt pst [])
    (z : L2N.Zn cls d oe) (fl : ∃ vs, oe.data = .fields vs) : PS (X.suite a ((a, oe) :: pn)) (.Return (some (.Call (.Name tn p1) [.Name en p2] [] p3)) p4) (tSu M X.prog X.w X.K a cls d) := by
  refine ⟨fun qs s1 τ G D I ⟨h1, c, y, hy, e1, e2, tb, k⟩ => ?_⟩
  subst e1 e2
  have hl : 1 < τ.length := by
    rw [I.len]
    by_cases q : 1 < X.N.length
    · exact q
    · rw [List.getElem?_eq_none (by omega)] at hN; cases hN
  have h1 := h1 hl
  have pin := I.pin (a, oe) (List.mem_append_left _ List.mem_cons_self)
  have hot : L2H.Hot1 (X.A.mark (some (.ref a))) (a, oe) := by
    obtain ⟨vs, e⟩ := fl
    exact ⟨rfl, vs, e, z.2.2 vs e⟩
  have hpin : L2H.PinOk X.stack G s1 (a, oe) := ⟨pin.1, pin.2.1, fun hm => (List.mem_cons.mp (I.stkSub a hm)).elim pin.2.2.1 pin.2.2.2.1, pin.2.2.2.2⟩
  refine wpAny_Return_some (wpAny_Call_Name_kw (ld_glob I hg hm ?_ hdt))
  refine PySem.W.callWith_K (h₀ := X.base) I.ok.mod.kin hk ?_ (by rfl) (by rfl)
  show wpAny _ _ (spliced ((false, eval (.Name en p2) X.env) :: backTo p3 (starEach [] X.env))) _ _ s1
  refine Calls.spliced_cons (thn ((pe_var (X := X.suite a ((a, oe) :: pn)) (pos := p2) (i := 1) hN hv hd hcd).run qs s1 τ G (fun v G1 => v = .ref a ∧ G1 = G) I ⟨.ref a, h1, rfl, rfl⟩) fun u s2 ⟨v, G1, J, rv, f1, f2⟩ => ?_)
  subst f1 f2
  cases rv
  refine Calls.spliced_nil ⟨J.kIn, ?_⟩
  have pin := J.pin (a, oe) (List.mem_append_left _ List.mem_cons_self)
  have hpin : L2H.PinOk X.stack G1 s2 (a, oe) := ⟨pin.1, pin.2.1, fun hm => (List.mem_cons.mp (J.stkSub a hm)).elim pin.2.2.1 pin.2.2.2.1, pin.2.2.2.2⟩
  have hb1 := hb s2 [.ref a] J.kIn (by rw [hp1]; rfl)
  rw [List.append_nil] at hb1
  refine wpAny_call (codeAny_mono (hT (X.A.mark (some (.ref a))) X.stack s2 G1 ⟨[.ref a], []⟩ (a, oe) c y D.rt (fun _ _ _ => False) ⟨hr.dp, hr.un⟩ hot hpin hy z.zc J.env0 hb1 tb k) fun r s3 hq => ?_)
  cases r with
  | error e =>
    obtain ⟨_, _, _, _, _, _, _, _, _, _, _, _, zz⟩ := (show L2N.CX X.prog X.w X.stack G1 s2 (fun _ _ _ => False) e s3 from hq)
    exact zz.elim
  | ok fl =>
    cases fl with
    | ret u =>
      obtain ⟨v, H', I', rv, q⟩ := J.after hq
      exact ⟨v, τ, H', I', rv, q⟩
    | next => exact False.elim hq
    | brk => exact False.elim hq
    | cont => exact False.elim hq
/-- the def that tells -/
theorem tell_ok {P : Program} {w : World} {K : PySem.W.Frag} {mg : Str → Option Value} {base : Heap} {k : Nat} {Ng : List Str} {x a sn en tn : Str} {sg : Scope} {g CS ft : Addr} {cdv : Value} {fdt : FuncData} {pst : List Str} {p1 p2 p3 p4 p5 p6 p7 p8 p9 p10 : Pos}
    (hN : Ng.Nodup) (h1 : Ng[1]? = some en) (hen : sg.names.lookup en = some .local) (he1 : (en == ("__debug__" : Str)) = false) (he2 : (en == ("__classdict__" : Str)) = false) (hsn : sg.names.lookup sn = some .globalImplicit) (hsd : (sn == ("__debug__" : Str)) = false) (hms : mg sn = some (.ref CS))
    (hex : ∀ c y, kinds[c]? = some y → PySem.W.exmOne K (.ref (M.exA c)) (.ref CS) = some true) (htn : sg.names.lookup tn = some .globalImplicit) (htd : (tn == ("__debug__" : Str)) = false) (hmt : mg tn = some (.ref ft)) (hkt : PySem.W.keepIn K (.ref ft) = true) (hbt : L2.Binds K fdt pst []) (hp1 : pst.length = 1)
    (hT : TermP M P w K mg base 1 ft fdt pst) :
    TellB M P w K mg base k Ng x sg g cdv [.Try [.Return (some (.Call (.Name a p1) [] [] p2)) p3] [.ExceptHandler (some (.Name sn p4)) (some en) [.Return (some (.Call (.Name tn p5) [.Name en p6] [] p7)) p8] p9] [] [] p10] a := by
  intro A outer s H f cN q Q tl hr act hc ht
  refine ⟨_, pss_one (L2N.ps_try_as (X := cxOf (L2N.CX P w) P w K mg base Ng x sg g cdv A outer s H fun _ _ _ => False) (i := 1) (c := .ref CS) (Wout := fun _ _ _ _ => False)
      (tb := fun W D σ H => ∃ Ech : XK, (∀ cls d σ' H', Ech cls d H' → W cls d σ' H') ∧ σ[0]? = some (some (.ref f)) ∧ H cN = some (CodeO cN q) ∧ tl Ech H D.rt) (ts := tSu M P w K)
      rfl rfl hN h1 hen ⟨hsn, hsd, .inl hms⟩ takes_no (fun W pn xe tk _ => ?_) (fun a2 oe cls d pn z fl => pss_one (ps_suite (X := cxOf (L2N.CX P w) P w K mg base Ng x sg g cdv A outer s H fun _ _ _ => False) hT hp1 (hr.mono (by omega)) h1 (.inl hen) he1 he2 htn hmt hkt htd hbt z fl))), ?_⟩
  · refine ⟨fun qs s2 τ G D I ⟨Ech, hW, g1, g2, g3⟩ => ?_⟩
    exact (pss_one (ps_ret (act pn xe W Ech p1 p2 tk hW))).run qs s2 τ G D I ⟨g1, g2, g3⟩
  · refine ⟨_, fun cls d σ' H' h => ?_, ?_, hc, ht⟩
    · obtain ⟨c, y, hy, e1, e2, tb, kq⟩ := h
      refine ⟨true, by rw [e1]; exact hex c y hy, fun _ a2 _ => ⟨fun hl => List.getElem?_set_self (by rw [List.length_set] at hl; exact hl), c, y, hy, e1, e2, tb, kq⟩, fun z => nomatch z⟩
    · unfold L2.start; rfl
end
end Mi
set_option Elab.async false
set_option linter.all false
set_option maxRecDepth 100000
set_option maxHeartbeats 2000000
/-! MjH: what a set asks of its elements, for keys of any depth. -/
namespace Mi
open PySem PySem.Spec PyProof.Rows L2
/-- a question asked of a value n levels down: the answer is one of those in ok, the state stays -/
def Asked (prog : Program) (w : World) (f : Nat → Value → Sem Bool) (ok : Bool → Prop) (n : Nat) (s : Shared) (v : Value) : Prop :=
  ∀ (A : Around) (E : Value → Shared → Prop) (Q : Bool → Shared → Prop), (∀ b, ok b → Q b s) → wpAny (model prog w) A (f n v) Q E s
section
variable {prog : Program} {w : World} {s : Shared}
theorem cls_flat {n : Nat} {v : Value} (h : carriedByValue v = true) : Asked prog w ofAClassStatement (· = false) n s v := fun A E Q hq => by
  cases v <;> first | (cases n <;> exact wpAny_pure (hq _ rfl)) | cases h
theorem cls_deep {n : Nat} {a : Addr} {o : Obj} {vs : Array Value} {m : Nat} (ho : s.heap.get? a = some o) (hc : o.cls = .type "tuple") (hd : o.data = .seq vs m)
    (hq : ∀ v ∈ vs.toList, Asked prog w ofAClassStatement (· = false) n s v) : Asked prog w ofAClassStatement (· = false) (n + 1) s (.ref a) := fun A E Q h => by
  have hT : s.TypeIs (.ref a) "tuple" := ⟨o, ho, hc⟩
  unfold ofAClassStatement
  refine wpAny_bind (wpAny_typeOf hT ?_)
  simp only [show (("tuple" : String) == "tuple") = true from by decide, if_true]
  refine wpAny_bind (wpAny_pure ?_)
  simp only [Bool.not_true, Bool.false_eq_true, if_false]
  refine wpAny_bind (wpAny_seqItems ho hd ?_)
  refine wpAny_bind ?_
  show wpAny _ _ (forIn vs _ _) _ _ s
  rw [← Array.forIn_toList]
  refine wpAny_forIn_list _ (fun us r t => (∀ v ∈ us, v ∈ vs.toList) ∧ t = s ∧ r.1 = none) _ ?_ ?_ _ _ ⟨fun _ z => z, rfl, rfl⟩
  · rintro v us r _ ⟨hs, rfl, hr⟩
    refine wpAny_bind (hq v (hs v List.mem_cons_self) _ _ _ fun b hb => ?_)
    subst hb
    simp only [Bool.false_eq_true, if_false]
    exact wpAny_pure ⟨fun u hu => hs u (List.mem_cons_of_mem _ hu), rfl, rfl⟩
  · rintro ⟨_, _⟩ _ ⟨_, rfl, rfl⟩
    exact wpAny_pure (h _ rfl)
theorem val_flat {n : Nat} {v : Value} (h : ∀ a, v ≠ .ref a) : Asked prog w hashByValue (fun _ => True) n s v := fun A E Q hq => by
  cases v <;> first | exact absurd rfl (h _) | (cases n <;> exact wpAny_pure (hq _ trivial))
theorem val_deep {n : Nat} {a : Addr} {o : Obj} {vs : Array Value} {m : Nat} (ho : s.heap.get? a = some o) (hc : o.cls = .type "tuple") (hd : o.data = .seq vs m)
    (hq : ∀ v ∈ vs.toList, Asked prog w hashByValue (fun _ => True) n s v) : Asked prog w hashByValue (fun _ => True) (n + 1) s (.ref a) := fun A E Q h => by
  have hT : s.TypeIs (.ref a) "tuple" := ⟨o, ho, hc⟩
  unfold hashByValue
  refine wpAny_bind (wpAny_specialOf hT F.slot_tuple_hash.lookup ?_)
  refine wpAny_bind (wpAny_seqItems ho hd ?_)
  refine wpAny_bind ?_
  show wpAny _ _ (forIn vs _ _) _ _ s
  rw [← Array.forIn_toList]
  refine wpAny_forIn_list _ (fun us r t => (∀ v ∈ us, v ∈ vs.toList) ∧ t = s ∧ r.1 = none) _ ?_ ?_ _ _ ⟨fun _ z => z, rfl, rfl⟩
  · rintro v us r _ ⟨hs, rfl, hr⟩
    refine wpAny_bind (hq v (hs v List.mem_cons_self) _ _ _ fun b _ => ?_)
    cases b
    · simp only [Bool.not_false, if_true]
      refine wpAny_pure ?_
      exact wpAny_pure (h _ trivial)
    · simp only [Bool.not_true, Bool.false_eq_true, if_false]
      exact wpAny_pure ⟨fun u hu => hs u (List.mem_cons_of_mem _ hu), rfl, rfl⟩
  · rintro ⟨_, _⟩ _ ⟨_, rfl, rfl⟩
    exact wpAny_pure (h _ trivial)
mutual
theorem cls_nested : ∀ (k : NestedKey) (v : Value) (n : Nat), NestedIs s.heap k v → k.depth ≤ n → Asked prog w ofAClassStatement (· = false) n s v
  | _, _, _, .none, _ => cls_flat rfl
  | _, _, _, .bool _, _ => cls_flat rfl
  | _, _, _, .int _ _, _ => cls_flat rfl
  | _, _, _, .text _ _, _ => cls_flat rfl
  | .tup ks, _, 0, _, hn => by simp only [NestedKey.depth] at hn; omega
  | .tup ks, _, n + 1, .tup hg hc hd hk, hn => cls_deep hg hc hd (cls_nesteds ks _ n hk (by simp only [NestedKey.depth] at hn; omega))
theorem cls_nesteds : ∀ (ks : List NestedKey) (vs : List Value) (n : Nat), NestedAll s.heap ks vs → NestedKey.depthAll ks ≤ n → ∀ v ∈ vs, Asked prog w ofAClassStatement (· = false) n s v
  | [], _, _, .nil, _, _, hv => by cases hv
  | k :: ks, _, n, .cons h1 h2, hn, v, hv => by
    simp only [NestedKey.depthAll] at hn
    rcases List.mem_cons.mp hv with rfl | hv
    · exact cls_nested k _ n h1 (by omega)
    · exact cls_nesteds ks _ n h2 (by omega) v hv
end
mutual
theorem val_nested : ∀ (k : NestedKey) (v : Value) (n : Nat), NestedIs s.heap k v → k.depth ≤ n → Asked prog w hashByValue (fun _ => True) n s v
  | _, _, _, .none, _ => val_flat fun _ z => nomatch z
  | _, _, _, .bool _, _ => val_flat fun _ z => nomatch z
  | _, _, _, .int _ _, _ => val_flat fun _ z => nomatch z
  | _, _, _, .text _ _, _ => val_flat fun _ z => nomatch z
  | .tup ks, _, 0, _, hn => by simp only [NestedKey.depth] at hn; omega
  | .tup ks, _, n + 1, .tup hg hc hd hk, hn => val_deep hg hc hd (val_nesteds ks _ n hk (by simp only [NestedKey.depth] at hn; omega))
theorem val_nesteds : ∀ (ks : List NestedKey) (vs : List Value) (n : Nat), NestedAll s.heap ks vs → NestedKey.depthAll ks ≤ n → ∀ v ∈ vs, Asked prog w hashByValue (fun _ => True) n s v
  | [], _, _, .nil, _, _, hv => by cases hv
  | k :: ks, _, n, .cons h1 h2, hn, v, hv => by
    simp only [NestedKey.depthAll] at hn
    rcases List.mem_cons.mp hv with rfl | hv
    · exact val_nested k _ n h1 (by omega)
    · exact val_nesteds ks _ n h2 (by omega) v hv
end
end
/-- what a kind of keys must tell of itself besides, that sets of its keys may be made -/
structure Mild {prog : Program} {w : World} {K : Type} [DecidableEq K] (knd : HeapKind prog w K) : Prop where
  st : knd.Stays
  wide : ∀ {A : Around}, A.units + 8 < cLine → knd.room A
  cls : ∀ {s : Shared} {k : K} {a : Addr}, knd.is s.heap k a → Asked prog w ofAClassStatement (· = false) 8 s (.ref a)
  val : ∀ {s : Shared} {k : K} {a : Addr}, knd.is s.heap k a → Asked prog w hashByValue (fun _ => True) 8 s (.ref a)
theorem mild_nested {prog : Program} {w : World} : Mild (nestedKind prog w) where
  st := nestedKind_stays
  wide := fun h => h
  cls := fun x => cls_nested _ _ 8 x.1 x.2
  val := fun x => val_nested _ _ 8 x.1 x.2
end Mi
set_option Elab.async false
set_option linter.all false
set_option maxRecDepth 100000
set_option maxHeartbeats 2000000
/-! MjI: a set of keys of any kind: looking for one. -/
namespace Mi
open PySem PySem.Spec PyProof.Rows L2
/-- where a look for a hash stands behind c steps -/
def Pb (t : SetTable) (g : Int) (c : Nat) : SetTable.Probe := nth t.mask (runAt t.mask (SetTable.bits g % (t.mask + 1)) (SetTable.bits g)) c
theorem pb_on (t : SetTable) (g : Int) (c q : Nat) : nth t.mask (Pb t g c) q = Pb t g (c + q) := (nth_add t.mask c _ q).symm
theorem pb_clean (t : SetTable) (g : Int) : ∀ c, (Pb t g c).dummy = none
  | 0 => rfl
  | c + 1 => by
    show (nth t.mask (runAt t.mask (SetTable.bits g % (t.mask + 1)) (SetTable.bits g)) (c + 1)).dummy = none
    rw [nth_succ]
    have ih := pb_clean t g c
    unfold Pb at ih
    unfold adv
    split <;> exact ih
/-- one probe from the c-th step on, where the first free slot is the K-th -/
theorem probe_from {t : SetTable} {hs : List Int} (T : TabOk t hs) (hf : Nat → Int) (g : Int) {K c : Nat} (hc : c ≤ K) (hK : K < 10 * SetTable.turns t.mask)
    (free : way t.mask g K ∉ t.place.toList) (full : ∀ d, d < K → way t.mask g d ∈ t.place.toList) :
    (∃ d i, c ≤ d ∧ d < K ∧ t.place.toList[i]? = some (way t.mask g d) ∧ (∀ d' i', c ≤ d' → d' < d → t.place.toList[i']? = some (way t.mask g d') → hf i' ≠ g) ∧
      t.probe hf g (Pb t g c) = some (.candidate (way t.mask g d) i (Pb t g (d + 1)))) ∨
    ((∀ d' i', c ≤ d' → d' < K → t.place.toList[i']? = some (way t.mask g d') → hf i' ≠ g) ∧ t.probe hf g (Pb t g c) = some (.empty (way t.mask g K) none)) := by
  have j : ∀ q, (nth t.mask (Pb t g c) q).j = way t.mask g (c + q) := fun q => by rw [pb_on]; rfl
  have hi : ∀ d, c ≤ d → way t.mask g d = (nth t.mask (Pb t g c) (d - c)).j := fun d hd => by rw [j, Nat.add_sub_cancel' hd]
  rcases go_spec t T.ris T.dm hf g (10 * SetTable.turns t.mask) (K - c) (Pb t g c) (pb_clean t g c) (by omega) (fun q hq => by rw [j]; exact full _ (by omega))
    (by rw [← hi K hc]; exact free) with ⟨q, i, hq, h1, _, h3, h4⟩ | ⟨h3, h4⟩
  · refine .inl ⟨c + q, i, by omega, by omega, by rw [← j]; exact h1, fun d' i' z1 z2 z3 => h3 (d' - c) i' (by omega) (by rw [← hi d' z1]; exact z3), ?_⟩
    rw [show c + q + 1 = c + (q + 1) from rfl, ← pb_on, ← j]
    exact h4
  · refine .inr ⟨fun d' i' z1 z2 z3 => h3 (d' - c) i' (by omega) (by rw [← hi d' z1]; exact z3), ?_⟩
    rw [hi K hc]
    exact h4
section
variable {prog : Program} {w : World} {K : Type} [DecidableEq K]
/-- the rows of a set's table, of the keys and where they lie -/
def rowsK (knd : HeapKind prog w K) (L : List (K × Addr)) : List (Int × Value) := L.map fun e => (knd.hash e.1, Value.ref e.2)
/-- at a lies a set of the keys L, in the order of their places -/
structure Lies (knd : HeapKind prog w K) (h : Heap) (a : Addr) (L : List (K × Addr)) (es : Array (Int × Value)) (t : SetTable) : Prop where
  obj : ∃ o ep, h.get? a = some o ∧ o.ExactSet ∧ o.data = .set es ep t
  row : es.toList = rowsK knd L
  tab : TabOk t (L.map fun e => knd.hash e.1)
  one : (L.map Prod.fst).Nodup
  key : ∀ e ∈ L, knd.is h e.1 e.2
  led : w.params.followText "set-order" = true ∨ t.led = true
  gap : 5 * L.length < 3 * t.mask
  cap : L.length < 64
variable {knd : HeapKind prog w K} {A : Around} {E : Value → Shared → Prop} {s : Shared} {a : Addr} {L : List (K × Addr)} {es : Array (Int × Value)} {t : SetTable}
theorem rows_len {L : List (K × Addr)} {es : Array (Int × Value)} (h : es.toList = rowsK knd L) : es.size = L.length := by
  rw [← Array.length_toList, h, rowsK, List.length_map]
theorem rows_at {L : List (K × Addr)} {es : Array (Int × Value)} (h : es.toList = rowsK knd L) {i : Nat} {e : K × Addr} (he : L[i]? = some e) : es[i]? = some (knd.hash e.1, Value.ref e.2) := by
  rw [← Array.getElem?_toList, h, rowsK, List.getElem?_map, he]
  rfl
theorem Lies.fit (R : Lies knd s.heap a L es t) : t.fits es.size = true := by
  have h1 := R.tab.sz
  have h2 := rows_len R.row
  have h3 := R.gap
  simp only [List.length_map] at h1
  simp only [SetTable.fits, SetTable.fill, R.tab.dm, Bool.and_eq_true, beq_iff_eq, decide_eq_true_eq]
  exact ⟨h1.trans h2.symm, by show t.place.size + 0 ≤ _; omega⟩
theorem Lies.odd (R : Lies knd s.heap a L es t) : ¬ t.gaveWay = true := by
  rcases R.tab.mok with e | e | e <;> simp [SetTable.gaveWay, e]
/-- a look among keys of such a kind shows nothing -/
theorem unseen (M : Mild knd) {k : K} {x : Addr} (hx : knd.is s.heap k x) {ys : List Value} (hy : ∀ y ∈ ys, ∃ k' b, y = Value.ref b ∧ knd.is s.heap k' b) {Q : Bool → Shared → Prop} (h : Q false s) :
    wpAny (model prog w) A (searchCouldBeSeen (.ref x) ys) Q E s := by
  unfold searchCouldBeSeen
  refine wpAny_bind (wpAny_forIn_list _ (fun us r t => (∀ u ∈ us, u ∈ ys) ∧ t = s ∧ r.1 = none) _ ?_ ?_ _ _ ⟨fun _ z => z, rfl, rfl⟩)
  · rintro v us r _ ⟨hs, rfl, hr⟩
    have on : (∀ u ∈ us, u ∈ ys) := fun u hu => hs u (List.mem_cons_of_mem _ hu)
    obtain ⟨k', b, rfl, hb⟩ := hy v (hs v List.mem_cons_self)
    dsimp only
    split
    · exact wpAny_pure ⟨on, rfl, rfl⟩
    · refine wpAny_bind (knd.quiet hx ?_)
      refine wp_if_neg (by decide) (wpAny_bind (knd.quiet hb ?_))
      refine wp_if_neg (by decide) (wpAny_bind (M.cls hx _ _ _ fun _ e => ?_))
      subst e
      refine wp_if_neg (by decide) (wpAny_bind (M.cls hb _ _ _ fun _ e => ?_))
      subst e
      exact wp_if_neg (by decide) (wpAny_pure ⟨on, rfl, rfl⟩)
  · rintro ⟨_, _⟩ _ ⟨_, rfl, rfl⟩
    exact wpAny_pure h
/-- behind a candidate that is not the key: the look goes on -/
theorem seek_on (R : Lies knd s.heap a L es t) (hu : knd.room A) {k : K} {x : Addr} (hx : knd.is s.heap k x) {f j i : Nat} {next : SetTable.Probe} {e : K × Addr} (he : L[i]? = some e)
    (hj : t.place.toList[i]? = some j) {Q : SetFound → Shared → Prop} (yes : e.1 = k → Q (.there none) s)
    (no : e.1 ≠ k → wpAny (model prog w) A (setSearchFrom a (.ref x) (knd.hash k) true f (some next)) Q E s) :
    wpAny (model prog w) A (searchRest a (.ref x) (knd.hash k) true f es t j i next) Q E s := by
  obtain ⟨o, ep, ho, _, hd⟩ := R.obj
  have row := rows_at R.row he
  unfold searchRest
  simp only [row]
  refine wpAny_bind (wpAny_holding (knd.eqBool hu (R.key e (List.mem_of_getElem? he)) hx (wpAny_bind (wpAny_setState_of ho hd R.fit ?_))))
  simp only [sameMem, if_true, slot_live R.tab.ris hj, row, Bool.true_and]
  by_cases q : e.1 = k
  · exact wp_if_pos (decide_eq_true q) (wpAny_pure (yes q))
  · refine wp_if_neg (by rw [decide_eq_false q]; decide) (wpAny_bind (wpAny_isSame_ref_self (wpAny_bind (wpAny_pure ?_))))
    simp only [if_true]
    exact wp_if_neg (by rw [decide_eq_false q]; decide) (no q)
/-- THE LOOK, from the c-th step on; what has the key lies ahead -/
theorem seek_from (M : Mild knd) (R : Lies knd s.heap a L es t) (hu : knd.room A) {k : K} {x : Addr} (hx : knd.is s.heap k x) {N : Nat} (hN : N < 10 * SetTable.turns t.mask)
    (free : way t.mask (knd.hash k) N ∉ t.place.toList) (full : ∀ d, d < N → way t.mask (knd.hash k) d ∈ t.place.toList) {Q : SetFound → Shared → Prop}
    (yes : k ∈ L.map Prod.fst → Q (.there none) s) (no : k ∉ L.map Prod.fst → Q (.free (way t.mask (knd.hash k) N) false) s) :
    ∀ (f c : Nat) (st : Option SetTable.Probe), st.getD (t.probeStart (knd.hash k)) = Pb t (knd.hash k) c → c ≤ N → N < c + f →
      (∀ (i : Nat) (e : K × Addr), L[i]? = some e → e.1 = k → ∃ d, c ≤ d ∧ d < N ∧ t.place.toList[i]? = some (way t.mask (knd.hash k) d)) →
      wpAny (model prog w) A (setSearchFrom a (.ref x) (knd.hash k) true f st) Q E s
  | 0, c, _, _, h1, h2, _ => by omega
  | f + 1, c, st, hst, h1, h2, ahead => by
    obtain ⟨o, ep, ho, _, hd⟩ := R.obj
    have hashed : ∀ {i : Nat} {e : K × Addr}, L[i]? = some e → (es[i]?.map (·.1)).getD 0 = knd.hash e.1 := fun z => by rw [rows_at R.row z]; rfl
    rw [setSearchFrom_succ]
    refine wpAny_bind (wpAny_setState_of ho hd R.fit ?_)
    dsimp only
    refine wp_if_neg R.odd ?_
    rw [hst]
    rcases probe_from R.tab (fun i => (es[i]?.map (·.1)).getD 0) (knd.hash k) h1 hN free full with ⟨d, i, c1, c2, hj, none_before, pr⟩ | ⟨none_at_all, pr⟩
    · rw [pr]
      dsimp only
      have hil : i < L.length := by
        have z1 := (List.getElem?_eq_some_iff.mp hj).1
        have z2 := R.tab.sz
        simp only [List.length_map] at z2
        simpa [z2] using z1
      obtain ⟨e, he⟩ : ∃ e, L[i]? = some e := ⟨_, List.getElem?_eq_getElem hil⟩
      have rest : wpAny (model prog w) A (searchRest a (.ref x) (knd.hash k) true f es t (way t.mask (knd.hash k) d) i (Pb t (knd.hash k) (d + 1))) Q E s :=
        seek_on R hu hx he hj (fun q => yes (List.mem_map.mpr ⟨e, List.mem_of_getElem? he, q⟩)) fun q =>
          seek_from M R hu hx hN free full yes no f (d + 1) _ rfl (by omega) (by omega) fun i' e' he' q' => by
            obtain ⟨d', z1, z2, z3⟩ := ahead i' e' he' q'
            refine ⟨d', ?_, z2, z3⟩
            rcases Nat.lt_trichotomy d' d with y | y | y
            · exact absurd ((hashed he').trans (congrArg knd.hash q')) (none_before d' i' z1 y z3)
            · subst y
              have same := (slot_live R.tab.ris z3).symm.trans (slot_live R.tab.ris hj)
              injection same with same
              subst same
              rw [he] at he'
              exact absurd (Option.some.inj he' ▸ q') q
            · exact y
      cases hl : t.led
      · refine wp_if_pos rfl (wpAny_bind (unseen M hx (fun y hy => ?_) (wp_if_neg (by decide) rest)))
        obtain ⟨r, hr, rfl⟩ := List.mem_map.mp hy
        have hr2 : r ∈ rowsK knd L := R.row ▸ (by simpa using (Array.mem_filter.mp (Array.mem_toList_iff.mp hr)).1)
        obtain ⟨e2, z1, z2⟩ := List.mem_map.mp hr2
        exact ⟨e2.1, e2.2, by rw [← z2], R.key e2 z1⟩
      · exact wp_if_neg (by decide) rest
    · rw [pr]
      dsimp only
      refine wpAny_pure (no fun z => ?_)
      obtain ⟨e, z1, z2⟩ := List.mem_map.mp z
      obtain ⟨i, z3⟩ := List.getElem?_of_mem z1
      obtain ⟨d, z4, z5, z6⟩ := ahead i e z3 z2
      exact none_at_all d i z4 z5 z6 ((hashed z3).trans (congrArg knd.hash z2))
/-- the look that adding makes -/
theorem seek (M : Mild knd) (R : Lies knd s.heap a L es t) (hu : knd.room A) {k : K} {x : Addr} (hx : knd.is s.heap k x) {Q : SetFound → Shared → Prop}
    (yes : k ∈ L.map Prod.fst → Q (.there none) s)
    (no : ∀ N, k ∉ L.map Prod.fst → way t.mask (knd.hash k) N ∉ t.place.toList → (∀ d, d < N → way t.mask (knd.hash k) d ∈ t.place.toList) → Q (.free (way t.mask (knd.hash k) N) false) s) :
    wpAny (model prog w) A (setSearch a (.ref x) (knd.hash k) true) Q E s := by
  have g := R.gap
  obtain ⟨N, hN, free, full⟩ := R.tab.first (by rw [List.length_map]; omega) (knd.hash k)
  have few : N < 100000 := by
    refine Nat.lt_trans hN ?_
    rcases R.tab.mok with e | e | e <;> rw [e] <;> decide
  refine seek_from M R hu hx hN free full yes (fun z => no N z free full) 100000 0 none rfl (Nat.zero_le _) (by omega) fun i e he q => ?_
  have hh : (L.map fun e => knd.hash e.1)[i]? = some (knd.hash k) := by rw [List.getElem?_map, he, ← q]; rfl
  have hl : i < t.place.toList.length := by
    have z := R.tab.sz
    have z2 := (List.getElem?_eq_some_iff.mp hh).1
    rw [Array.length_toList, z]
    exact z2
  obtain ⟨d, z1, z2⟩ := R.tab.before free hh (List.getElem?_eq_getElem hl)
  exact ⟨d, Nat.zero_le _, z1, by rw [List.getElem?_eq_getElem hl, z2]⟩
end
end Mi
set_option Elab.async false
set_option linter.all false
set_option maxRecDepth 100000
set_option maxHeartbeats 2000000
/-! MjJ: a set of keys of any kind: laying anew, putting one in. -/
namespace Mi
open PySem PySem.Spec PyProof.Rows L2
theorem fm_congr {α β : Type} {f g : α → Option β} : ∀ {l : List α}, (∀ x ∈ l, f x = g x) → l.filterMap f = l.filterMap g
  | [], _ => rfl
  | x :: l, h => by rw [List.filterMap_cons, List.filterMap_cons, h x List.mem_cons_self, fm_congr fun y hy => h y (List.mem_cons_of_mem _ hy)]
theorem picks_all {α : Type} : ∀ L : List α, (List.range L.length).filterMap (fun i => L[i]?) = L
  | [] => rfl
  | x :: L => by
    rw [List.length_cons, List.range_succ_eq_map, List.filterMap_cons, List.filterMap_map]
    exact congrArg (x :: ·) (picks_all L)
section
variable {prog : Program} {w : World} {K : Type} [DecidableEq K] {knd : HeapKind prog w K} {A : Around} {E : Value → Shared → Prop} {s : Shared} {a : Addr} {L : List (K × Addr)} {es : Array (Int × Value)} {t : SetTable}
/-- the rows in a new order -/
theorem rows_turned (hr : es.toList = rowsK knd L) {ord : Array Nat} (hp : ord.toList.Perm (List.range L.length)) :
    ∃ L', L'.Perm L ∧ (ord.filterMap (es[·]?)).toList = rowsK knd L' ∧ (L'.map fun e => knd.hash e.1) = ord.toList.map fun i => (es.map (·.1)).getD i 0 := by
  refine ⟨ord.toList.filterMap (fun i => L[i]?), ?_, ?_, ?_⟩
  · have z := hp.filterMap (fun i => L[i]?)
    rwa [picks_all] at z
  · rw [Array.toList_filterMap, rowsK, List.map_filterMap]
    refine fm_congr fun i _ => ?_
    rw [← Array.getElem?_toList, hr, rowsK, List.getElem?_map]
  · rw [List.map_filterMap, ← List.filterMap_eq_map]
    refine fm_congr fun i hi => ?_
    have hil : i < L.length := List.mem_range.mp (hp.mem_iff.mp hi)
    have row := rows_at hr (List.getElem?_eq_getElem hil)
    rw [List.getElem?_eq_getElem hil]
    simp [Array.getD_eq_getD_getElem?, Array.getElem?_map, row]
/-- a key is not the set that changes -/
theorem is_beside (M : Mild knd) {h h' : Heap} {k : K} {x : Addr} {o : Obj} {ep : Nat} (hk : knd.is h k x) (ho : h.get? a = some o) (hd : o.data = .set es ep t) (b : Heap.SameBut a h h') : knd.is h' k x :=
  M.st.stays (fun c oc vs n z1 z2 => (b.2 c fun z => by rw [z, ho] at z1; cases z1; rw [hd] at z2; cases z2).trans z1) hk
/-- THE TABLE LAID ANEW -/
theorem relay (M : Mild knd) {o : Obj} {ep : Nat} (ho : s.heap.get? a = some o) (hx : o.ExactSet) (hd : o.data = .set es ep t) (row : es.toList = rowsK knd L)
    (tab : TabOk t (L.map fun e => knd.hash e.1)) (le : L.length ≤ t.mask) (one : (L.map Prod.fst).Nodup) (key : ∀ e ∈ L, knd.is s.heap e.1 e.2)
    (led : w.params.followText "set-order" = true ∨ t.led = true) (cap : L.length < 64) {n m : Nat} (hm : SetTable.sizeAbove n = m + 1) (ok : MaskOk m) (gap : 5 * L.length < 3 * m) {Q : Unit → Shared → Prop}
    (hQ : ∀ h' L' es' t', Heap.SameBut a s.heap h' → Lies knd h' a L' es' t' → L'.Perm L → Q () { s with heap := h' }) : wpAny (model prog w) A (setRelay a n) Q E s := by
  have len := rows_len row
  have sz : t.place.size = es.size := by
    have z := tab.sz
    rw [List.length_map] at z
    omega
  have fit : t.fits es.size = true := by
    simp only [SetTable.fits, SetTable.fill, tab.dm, Bool.and_eq_true, beq_iff_eq, decide_eq_true_eq]
    exact ⟨sz, by show t.place.size + 0 ≤ _; omega⟩
  have m127 : m ≤ 127 := by rcases ok with e | e | e <;> omega
  obtain ⟨t2, ord, z1, z2, z3, z4, z5, _, _⟩ := relaid_ok t (hs := es.map (·.1)) (wanted := n) (M := m) (by omega) ok (by rw [Array.size_map]; omega)
  rw [Array.size_map, len] at z2
  obtain ⟨L', p, r, hh⟩ := rows_turned row z2
  rw [← hh] at z3
  have len2 : (ord.filterMap (es[·]?)).size = es.size := by rw [rows_len r, p.length_eq, len]
  rw [setRelay_eq]
  refine wpAny_bind (wpAny_setState_of ho hd fit ?_)
  dsimp only
  refine wp_if_neg (by rw [sizeLine_eq]; omega) ?_
  rw [z1]
  refine wpAny_bind (wp_if_neg (by rw [len2]; simp) (wpAny_pure ?_))
  refine wpAny_storeSet_of ho hd ?_ (by rw [len2, len, sizeLine_eq]; omega)
  refine hQ _ L' _ t2 (Heap.SameBut.update ..) ⟨⟨_, _, store_at ho hd, ⟨hx.1, hx.2.1, hx.2.2⟩, rfl⟩, r, z3, (p.map _).nodup_iff.mpr one, fun e he => ?_, ?_, ?_, ?_⟩ p
  · exact is_beside M (key e (p.mem_iff.mp he)) ho hd (Heap.SameBut.update ..)
  · rw [z5]; exact led
  · rw [p.length_eq, z4]; exact gap
  · rw [p.length_eq]; exact cap
/-- PUTTING ONE IN -/
theorem put_in (M : Mild knd) (R : Lies knd s.heap a L es t) (hu : knd.room A) {k : K} {x : Addr} (hx : knd.is s.heap k x) (cap : L.length + 1 < 64) {Q : Bool → Shared → Prop}
    (hQ : ∀ b h' L' es' t', Heap.SameBut a s.heap h' → Lies knd h' a L' es' t' → (k ∈ L.map Prod.fst → L' = L) → (k ∉ L.map Prod.fst → L'.Perm ((k, x) :: L)) → Q b { s with heap := h' }) :
    wpAny (model prog w) A (setAddHashed a (.ref x) (knd.hash k)) Q E s := by
  obtain ⟨o, ep, ho, hex, hd⟩ := R.obj
  have len := rows_len R.row
  have gap := R.gap
  unfold setAddHashed
  rw [show (100000 : Nat) = 99999 + 1 from rfl, setAddHashedIn_succ]
  refine wpAny_holding (wpAny_bind (wpAny_setState_of ho hd R.fit ?_))
  dsimp only
  refine wp_if_neg (by simp [byScan, Value.scannable]) (wpAny_bind (seek M R hu hx (fun inside => ?_) fun N out free full => ?_))
  · exact wpAny_pure (hQ false _ L es t (Heap.SameBut.refl ..) R (fun _ => rfl) fun z => absurd inside z)
  · dsimp only
    refine wpAny_bind (wpAny_setState_of ho hd R.fit ?_)
    dsimp only
    obtain ⟨q1, q2, q3, q4, q5, q6, q7, q8, q9⟩ := R.tab.put free full
    generalize hp : SetTable.below t.place (way t.mask (knd.hash k) N) = p at q1 q2 q3
    generalize ht : t.put (way t.mask (knd.hash k) N) = tp at q1 q3 q4 q5 q6 q7 q8 q9 ⊢
    obtain ⟨t1, p1⟩ := tp
    dsimp only at q1 q3 q4 q5 q6 q7 q8 q9 ⊢
    subst q1
    have perm : (L.take p1 ++ (k, x) :: L.drop p1).Perm ((k, x) :: L) := put_perm L p1 (k, x)
    have row1 : (SetTable.insertAt es p1 (knd.hash k, Value.ref x)).toList = rowsK knd (L.take p1 ++ (k, x) :: L.drop p1) := by
      rw [SetTable.toList_insertAt, R.row]
      simp [rowsK, List.map_take, List.map_drop]
    have hash1 : ((L.take p1 ++ (k, x) :: L.drop p1).map fun e => knd.hash e.1) = (L.map fun e => knd.hash e.1).take p1 ++ knd.hash k :: (L.map fun e => knd.hash e.1).drop p1 := by
      simp [List.map_take, List.map_drop]
    rw [← hash1] at q3
    rw [List.length_map] at q9
    generalize SetTable.insertAt es p1 (knd.hash k, Value.ref x) = es1 at row1 ⊢
    generalize L.take p1 ++ (k, x) :: L.drop p1 = L1 at perm row1 q3
    have len1 : L1.length = L.length + 1 := perm.length_eq
    have one1 : (L1.map Prod.fst).Nodup := (perm.map Prod.fst).nodup_iff.mpr (List.nodup_cons.mpr ⟨out, R.one⟩)
    -- whatever the table then holds its elements for
    have tail : ∀ t3 : SetTable, TabOk t3 (L1.map fun e => knd.hash e.1) → t3.mask = t.mask → t3.led = t.led → t3.fill = L.length + 1 →
        wpAny (model prog w) A (storeSet a es1 t3 >>= fun _ => if (!false && t3.tooFull) = true then setRelay a (SetTable.grown (es.size + 1)) >>= fun _ => pure true else pure true) Q E s := fun t3 T e1 e2 e3 => by
      refine wpAny_bind (wpAny_storeSet_of ho hd ?_ (by rw [rows_len row1, len1, sizeLine_eq]; omega))
      have sb : Heap.SameBut a s.heap (s.heap.update a (Obj.putSet es1 t3)) := Heap.SameBut.update ..
      have ho1 := store_at (es' := es1) (t' := t3) ho hd
      have key1 : ∀ e ∈ L1, knd.is (s.heap.update a (Obj.putSet es1 t3)) e.1 e.2 := fun e he => by
        rcases List.mem_cons.mp (perm.mem_iff.mp he) with rfl | z
        · exact is_beside M hx ho hd sb
        · exact is_beside M (R.key e z) ho hd sb
      generalize s.heap.update a (Obj.putSet es1 t3) = h1 at sb ho1 key1 ⊢
      have led1 : w.params.followText "set-order" = true ∨ t3.led = true := by rw [e2]; exact R.led
      have full3 : t3.tooFull = decide ((L.length + 1) * 5 ≥ t.mask * 3) := by rw [SetTable.tooFull, e3, e1]
      by_cases full : (L.length + 1) * 5 ≥ t.mask * 3
      · refine wp_if_pos (by rw [full3, decide_eq_true full]; rfl) (wpAny_bind ?_)
        have on : ∀ m, SetTable.sizeAbove (SetTable.grown (es.size + 1)) = m + 1 → MaskOk m → 5 * L1.length < 3 * m →
            wpAny (model prog w) A (setRelay a (SetTable.grown (es.size + 1))) (fun _ s' => wpAny (model prog w) A (pure true) Q E s') E { s with heap := h1 } := fun m z1 z2 z3 =>
          relay M (s := { s with heap := h1 }) ho1 ⟨hex.1, hex.2.1, hex.2.2⟩ rfl row1 T (by rw [e1]; omega) one1 key1 led1 (by omega) z1 z2 z3 fun h2 L2 es2 t2 sb2 R2 p2 =>
            wpAny_pure (hQ true h2 L2 es2 t2 (sb.trans sb2) R2 (fun z => absurd z out) fun _ => p2.trans perm)
        rcases R.tab.mok with e | e | e
        · exact on 31 (by rw [len, show L.length + 1 = 5 by omega]; exact size_20) (.inr (.inl rfl)) (by omega)
        · exact on 127 (by rw [len, show L.length + 1 = 19 by omega]; exact size_76) (.inr (.inr rfl)) (by omega)
        · omega
      · refine wp_if_neg (by rw [full3, decide_eq_false full]; decide) (wpAny_pure (hQ true h1 L1 es1 t3 sb ⟨⟨_, _, ho1, ⟨hex.1, hex.2.1, hex.2.2⟩, rfl⟩, row1, T, one1, key1, led1, ?_, by omega⟩ (fun z => absurd z out) fun _ => perm))
        rw [len1, e1]
        omega
    have dull : TabOk { t1 with plain := false } (L1.map fun e => knd.hash e.1) := ⟨q3.ris, q3.dm, q3.sz, q3.mok, q3.bd, q3.reach⟩
    have both : ∀ b : Bool, wpAny (model prog w) A (storeSet a es1 (if b = true then t1 else { t1 with plain := false }) >>= fun _ => if (!false && (if b = true then t1 else { t1 with plain := false }).tooFull) = true then setRelay a (SetTable.grown (es.size + 1)) >>= fun _ => pure true else pure true) Q E s := fun b => by
      cases b
      · exact tail _ dull q4 q5 q9
      · exact tail _ q3 q4 q5 q9
    cases hpl : t1.plain
    · exact wpAny_bind (wpAny_pure (both true))
    · exact wpAny_bind (M.val hx _ _ _ fun b _ => both b)
end
end Mi
set_option Elab.async false
set_option linter.all false
set_option maxRecDepth 100000
set_option maxHeartbeats 3200000
/-! MjK: set(xs) of keys of any kind. -/
namespace Mi
open PySem PySem.Spec PyProof.Rows L2
section
variable {prog : Program} {w : World} {K : Type} [DecidableEq K]
/-- L holds just what stood in pre, each key once -/
structure Cov (pre L : List (K × Addr)) : Prop where
  from_ : ∀ e ∈ L, e ∈ pre
  each : ∀ e ∈ pre, e.1 ∈ L.map Prod.fst
  few : L.length ≤ pre.length
theorem Cov.snoc {pre L L' : List (K × Addr)} (c : Cov pre L) (e : K × Addr) (h1 : e.1 ∈ L.map Prod.fst → L' = L) (h2 : e.1 ∉ L.map Prod.fst → L'.Perm (e :: L)) : Cov (pre ++ [e]) L' := by
  by_cases q : e.1 ∈ L.map Prod.fst
  · rw [h1 q]
    refine ⟨fun x hx => List.mem_append.mpr (.inl (c.from_ x hx)), fun x hx => ?_, by rw [List.length_append]; exact Nat.le_trans c.few (Nat.le_add_right _ _)⟩
    rcases List.mem_append.mp hx with z | z
    · exact c.each x z
    · obtain rfl := List.mem_singleton.mp z; exact q
  · have p := h2 q
    refine ⟨fun x hx => ?_, fun x hx => (p.map Prod.fst).mem_iff.mpr ?_, by rw [p.length_eq, List.length_append]; exact Nat.succ_le_succ c.few⟩
    · rcases List.mem_cons.mp (p.mem_iff.mp hx) with rfl | z
      · simp
      · exact List.mem_append.mpr (.inl (c.from_ x z))
    · rcases List.mem_append.mp hx with z | z
      · exact List.mem_cons_of_mem _ (c.each x z)
      · obtain rfl := List.mem_singleton.mp z; exact List.mem_cons_self
variable {knd : HeapKind prog w K} {A : Around} {E : Value → Shared → Prop} {s : Shared}
theorem Lies.on {h h' : Heap} {a : Addr} {L : List (K × Addr)} {es : Array (Int × Value)} {t : SetTable} (M : Mild knd) (R : Lies knd h a L es t)
    (k : ∀ b o, h.get? b = some o → h'.get? b = some o) : Lies knd h' a L es t := by
  obtain ⟨⟨o, ep, ho, r⟩, r1, r2, r3, r4, r5, r6, r7⟩ := R
  exact ⟨⟨o, ep, k _ _ ho, r⟩, r1, r2, r3, fun e he => M.st.stays (fun b q _ _ z _ => k b q z) (r4 e he), r5, r6, r7⟩
/-- a set's object, as it is made -/
abbrev newSetObj (w : World) : Obj := { cls := .type "set", dict := none, data := .set #[] 0 (.fresh 0 0 (!w.params.followText "set-order")) }
theorem lies_new {h : Heap} {a : Addr} (ho : h.get? a = some (newSetObj w)) : Lies knd h a [] #[] (.fresh 0 0 (!w.params.followText "set-order")) where
  obj := ⟨_, 0, ho, ⟨rfl, rfl, rfl⟩, rfl⟩
  row := rfl
  tab := ⟨.nil, rfl, rfl, .inl rfl, fun _ z => (by cases z), fun i _ _ z => (by simp at z)⟩
  one := .nil
  key := fun _ z => (by cases z)
  led := by cases q : w.params.followText "set-order" <;> simp [SetTable.fresh]
  gap := (show 5 * 0 < 3 * 7 by decide)
  cap := (show 0 < 64 by decide)
/-- the walk that fills a set S: what stood in h0 stays as it was -/
theorem fill_loop (M : Mild knd) {I S : Addr} {fp wr : List Addr} {G : Array GenState → Array GenState → Prop} {n : Nat} {Pv : Nat → Value → Prop} {St : Nat → Shared → Prop} {R : Result → Shared → Prop}
    (W : WalksS prog w A.in1 I fp wr G n Pv St) (hS : S ∉ fp) (ks : List (K × Addr)) (cap : ks.length < 64) (hn : n = ks.length) (hv : ∀ i v, Pv i v → ∃ e, ks[i]? = some e ∧ v = .ref e.2)
    {h0 : Heap} (hk : ∀ e ∈ ks, knd.is h0 e.1 e.2) (newS : h0.get? S = none) (newW : ∀ b ∈ wr, h0.get? b = none) (hu : A.in1.units + 8 < cLine) :
    ∀ (post pre : List (K × Addr)) (s : Shared) (L : List (K × Addr)) es t, ks = pre ++ post → St pre.length s → (∀ b o, h0.get? b = some o → s.heap.get? b = some o) → Lies knd s.heap S L es t → Cov pre L →
      (∀ s' L' es' t', Moved (S :: wr) G s s' → Lies knd s'.heap S L' es' t' → Cov ks L' → (∀ b o, h0.get? b = some o → s'.heap.get? b = some o) → R (.ok (.ret .none)) s') →
      codeAny (model prog w) A (.builtin "set.update.loop" ⟨[.ref S, .ref I], []⟩) R s := by
  have sub : ∀ b ∈ wr, b ∈ S :: wr := fun _ z => List.mem_cons_of_mem _ z
  have apart : S ∉ wr := fun z => hS (W.sub _ z)
  have kept : ∀ {s s' : Shared}, Moved wr G s s' → (∀ b o, h0.get? b = some o → s.heap.get? b = some o) → ∀ b o, h0.get? b = some o → s'.heap.get? b = some o := fun m k b o e =>
    m.heap b o (fun z => by rw [newW b z] at e; cases e) (k b o e)
  have moved : ∀ {s s' : Shared} {L es t}, Moved wr G s s' → (∀ b o, h0.get? b = some o → s.heap.get? b = some o) → Lies knd s.heap S L es t → (∀ e ∈ L, e ∈ ks) → Lies knd s'.heap S L es t := fun {s s' L es t} m k R hL => by
    obtain ⟨⟨o, ep, ho, r⟩, r1, r2, r3, r4, r5, r6, r7⟩ := R
    exact ⟨⟨o, ep, m.heap S o apart ho, r⟩, r1, r2, r3, fun e he => M.st.stays (fun b q _ _ z _ => kept m k b q z) (hk e (hL e he)), r5, r6, r7⟩
  intro post
  induction post with
  | nil =>
    intro pre s L es t hks st k lies cov fin
    rw [List.append_nil] at hks
    subst hks
    refine codeAny_builtin F.entry_set_update_loop ?_
    rw [Around.under_plainId F.plain_set_update_loop _]
    show wpAny _ _ (pyNext (.ref I) >>= _) _ _ _
    refine wpAny_bind (W.done s _ _ (hn ▸ st) fun s' m => ?_)
    exact wpAny_pure (fin s' L es t (m.mono sub) (moved m k lies cov.from_) cov (kept m k))
  | cons e post ih =>
    intro pre s L es t hks st k lies cov fin
    have hi : ks[pre.length]? = some e := by rw [hks]; simp
    have lt : pre.length < n := by rw [hn]; exact (List.getElem?_eq_some_iff.mp hi).1
    have inks : ∀ x ∈ L, x ∈ ks := fun x hx => by rw [hks]; exact List.mem_append.mpr (.inl (cov.from_ x hx))
    refine codeAny_builtin F.entry_set_update_loop ?_
    rw [Around.under_plainId F.plain_set_update_loop _]
    show wpAny _ _ (pyNext (.ref I) >>= _) _ _ _
    refine wpAny_bind (W.item pre.length s _ _ lt st fun v s' hP st' m => ?_)
    obtain ⟨e', he', rfl⟩ := hv _ _ hP
    obtain rfl : e = e' := Option.some.inj (hi.symm.trans he')
    have k' := kept m k
    have hx : knd.is s'.heap e.1 e.2 := M.st.stays (fun b q _ _ z _ => k' b q z) (hk e (List.mem_of_getElem? hi))
    show wpAny _ _ (holding [Value.ref e.2] (setAdd S (.ref e.2)) >>= _) _ _ _
    refine wpAny_bind (wpAny_holding ?_)
    unfold setAdd
    refine wpAny_holding (wpAny_bind (knd.pyHash (M.wide hu) hx ?_))
    have len : L.length + 1 < 64 := by
      have z1 := cov.few
      have z2 := congrArg List.length hks
      simp only [List.length_append, List.length_cons] at z2
      omega
    have R0 : Lies knd s'.heap S L es t := moved m k lies inks
    refine put_in (s := { s' with toks := s'.toks + knd.draws e.1 }) M R0 (M.wide hu) hx len fun b h' L' es' t' sb R' c1 c2 => ?_
    have k2 : ∀ b o, h0.get? b = some o → h'.get? b = some o := fun b o z => (sb.2 b fun y => by rw [y, newS] at z; cases z).trans (k' b o z)
    refine wpAny_pure ⟨plainId_quiet F.plain_set_update_loop _, ih (pre ++ [e]) _ L' es' t' (by rw [hks, List.append_assoc]; rfl) ?_ k2 R' (cov.snoc e c1 c2) fun s2 L2 es2 t2 m2 => fin s2 L2 es2 t2 ?_⟩
    · rw [List.length_append]
      exact W.frame _ s' _ _ st' (Nat.le_add_right _ _) fun b hb o z => (sb.2 b fun y => hS (y ▸ hb)).trans z
    · exact Moved.trans W.gtrans ((m.mono sub).then_heap (Nat.le_add_right _ _) fun b o hb z => (sb.2 b fun y => hb (y ▸ List.mem_cons_self)).trans z) m2
end
end Mi
set_option Elab.async false
set_option linter.all false
set_option maxRecDepth 100000
set_option maxHeartbeats 3200000
/-! MjL: the call set(xs), xs a list or a tuple. -/
namespace Mi
open PySem PySem.Spec PyProof.Rows L2
section
variable {prog : Program} {w : World} {K : Type} [DecidableEq K] {knd : HeapKind prog w K} {A : Around} {E : Value → Shared → Prop} {s : Shared}
theorem absent {h : Heap} {b : Addr} (z : h.objs.size ≤ b) : h.get? b = none := by
  cases q : h.get? b with
  | none => rfl
  | some o => exact absurd (Heap.lt_size q) (Nat.not_lt.mpr z)
/-- what set() is to be made of: where it lies, its type, its items, its iterator's walk -/
structure Src (prog : Program) (w : World) (h : Heap) (l : Addr) (T : String) (its : Array Value) : Prop where
  obj : ∃ o, h.get? l = some o ∧ o.cls = .type T
  noSet : isSubtype (.type T) (.type "set") = pure false
  noFro : isSubtype (.type T) (.type "frozenset") = pure false
  noDct : (Value.type T == Value.type "dict") = false
  goes : ∃ io : Obj, io.isFreed = false ∧ (∀ (A : Around) (E Q : Value → Shared → Prop) (s : Shared), (∀ b o, h.get? b = some o → s.heap.get? b = some o) → Q (.ref s.heap.objs.size) { s with heap := s.heap.push io } → wpAny (model prog w) A (pyIter (.ref l)) Q E s) ∧
    ∀ (A : Around) (I : Addr), A.handled = none → l ≠ I → ∃ St, Walks prog w A I [I, l] [I] its.size (fun i v => its[i]? = some v) St ∧ ∀ h' : Heap, (∀ b o, h.get? b = some o → h'.get? b = some o) → h'.get? I = some io → St 0 h'
theorem src_list {h : Heap} {l : Addr} {its : Array Value} (x : h.IsList l its) : Src prog w h l "list" its where
  obj := let ⟨o, ho, hc, _⟩ := x; ⟨o, ho, hc⟩
  noSet := F.sub_list_set
  noFro := F.sub_list_frozenset
  noDct := by decide
  goes := ⟨{ cls := .type "list_iterator", data := .fields #[.ref l, .int 0 0] }, rfl, fun A E Q s k hQ => wpAny_pyIter_list (let ⟨o, ho, r⟩ := x; ⟨o, k _ _ ho, r⟩) hQ,
    fun A I hh ne => ⟨_, Walks.list hh I l ne its, fun h' k hI => ⟨⟨_, hI, rfl, rfl⟩, let ⟨o, ho, r⟩ := x; ⟨o, k _ _ ho, r⟩⟩⟩⟩
theorem src_tuple {h : Heap} {l : Addr} {its : Array Value} (x : h.IsTuple l its) : Src prog w h l "tuple" its where
  obj := let ⟨o, ho, hc, _⟩ := x; ⟨o, ho, hc⟩
  noSet := F.sub_tuple_set
  noFro := F.sub_tuple_frozenset
  noDct := by decide
  goes := ⟨{ cls := .type "tuple_iterator", data := .fields #[.ref l, .int 0 0] }, rfl, fun A E Q s k hQ => wpAny_pyIter_tuple (let ⟨o, ho, r⟩ := x; ⟨o, k _ _ ho, r⟩) hQ,
    fun A I hh ne => ⟨_, Walks.tuple hh I l ne its, fun h' k hI => ⟨⟨_, hI, rfl, rfl⟩, let ⟨o, ho, r⟩ := x; ⟨o, k _ _ ho, r⟩⟩⟩⟩
/-- set.__init__ on a new set, what stood in h0 below it -/
theorem init_fill (M : Mild knd) {h0 : Heap} {l S : Addr} {T : String} {its : Array Value} (src : Src prog w h0 l T its) (ks : List (K × Addr)) (hit : its.toList = ks.map fun e => Value.ref e.2)
    (hk : ∀ e ∈ ks, knd.is h0 e.1 e.2) (cap : ks.length < 64) (k0 : ∀ b o, h0.get? b = some o → s.heap.get? b = some o) (hS : s.heap.get? S = some (newSetObj w)) (below : h0.objs.size ≤ S) (hh : A.handled = none) (hu : A.units + 10 < cLine)
    {Q : PySem.Fin → Shared → Prop} (fin : ∀ h' tk L es t, Lies knd h' S L es t → Cov ks L → (∀ b o, h0.get? b = some o → h'.get? b = some o) → Q (.done (.ret .none)) { s with heap := h', toks := tk }) :
    wpAny (model prog w) A (Builtin.«set.__init__» ⟨[.ref S, .ref l], []⟩) Q E s := by
  have size : its.size = ks.length := by rw [← Array.length_toList, hit, List.length_map]
  have hT : s.TypeIs (.ref S) "set" := ⟨_, hS, rfl⟩
  obtain ⟨o, ho, hc⟩ := src.obj
  have hTl : s.TypeIs (.ref l) T := ⟨o, k0 _ _ ho, hc⟩
  have n1 := src.noSet
  have n2 := src.noFro
  have n3 := src.noDct
  obtain ⟨io, live, iter, walk⟩ := src.goes
  have hl : l < h0.objs.size := Heap.lt_size ho
  unfold Builtin.«set.__init__» noKeywords Builtin.Frozenset.updateFrom
  generalize hp : pyIter = PI
  wp_walk
  subst hp
  refine iter _ _ _ _ k0 (wpAny_bind (wpAny_runValue ?_))
  have bigS : S < s.heap.objs.size := Heap.lt_size hS
  have hls : l < s.heap.objs.size := Nat.lt_of_lt_of_le hl (Nat.le_trans below (Nat.le_of_lt bigS))
  obtain ⟨St, W, st0⟩ := walk A.in1 s.heap.objs.size (by simp [hh]) (Nat.ne_of_lt hls)
  have k1 : ∀ b o, h0.get? b = some o → (s.heap.push io).get? b = some o := fun b o z => Heap.get?_push_of_some _ (k0 b o z)
  have val : ∀ (i : Nat) (v : Value), its[i]? = some v → ∃ e, ks[i]? = some e ∧ v = .ref e.2 := fun i v z => by
    rw [← Array.getElem?_toList, hit, List.getElem?_map] at z
    obtain ⟨e, h1, h2⟩ := Option.map_eq_some_iff.mp z
    exact ⟨e, h1, h2.symm⟩
  refine fill_loop M W.toS (S := S) (by simp only [List.mem_cons, List.not_mem_nil, or_false, not_or]; exact ⟨Nat.ne_of_lt bigS, Nat.ne_of_gt (Nat.lt_of_lt_of_le hl below)⟩) ks cap size val hk (absent below)
    (fun b hb => absent (by rw [List.mem_singleton.mp hb]; exact Nat.le_trans below (Nat.le_of_lt bigS))) (show A.units + 1 + 8 < cLine by omega) ks [] { s with heap := s.heap.push io } [] _ _ rfl
    (st0 _ k1 (Heap.get?_push_size _ live)) k1 (lies_new (show (s.heap.push io).get? S = _ from Heap.get?_push_of_some _ hS)) ⟨fun _ z => (by cases z), fun _ z => (by cases z), Nat.le_refl _⟩ fun s' L es t m R c k => ?_
  obtain ⟨h', g, d, tk, os⟩ := s'
  obtain rfl : g = s.gens := m.gens
  obtain rfl : d = s.drawn := m.drawn
  obtain rfl : os = s.os := m.os
  exact wpAny_pure (wpAny_pure (fin h' tk L es t R c k))
/-- set(xs) -/
theorem make_set (M : Mild knd) {l : Addr} {T : String} {its : Array Value} (src : Src prog w s.heap l T its) (ks : List (K × Addr)) (hit : its.toList = ks.map fun e => Value.ref e.2)
    (hk : ∀ e ∈ ks, knd.is s.heap e.1 e.2) (cap : ks.length < 64) (hh : A.handled = none) (hu : A.units + 15 < cLine) {Q : Value → Shared → Prop}
    (fin : ∀ h' tk L es t, Lies knd h' s.heap.objs.size L es t → Cov ks L → (∀ b o, s.heap.get? b = some o → h'.get? b = some o) → Q (.ref s.heap.objs.size) { s with heap := h', toks := tk }) :
    wpAny (model prog w) A (call (.type "set") [.ref l]) Q E s := by
  have c0 := F.called_set
  obtain ⟨_, _, c1⟩ := c0.mro
  have c2 := c0.made
  have c3 := c0.sub
  have c4 := c0.notType
  have c5 := c0.canCreate
  have c6 := F.typeCall_set_1 (.ref l)
  refine wpAny_call (codeAny_of_tree ?_)
  show wpAny _ _ (callAny (.type "set") _) _ _ _
  refine wpAny_pure ⟨Code.quiet_builtin _ (by decide +kernel), codeAny_builtin F.entry_type_call ?_⟩
  rw [Around.under_plain (weight_type_call_type "set" [.ref l] []) rfl]
  repeat any_goals first | assumption | wp_step
  have born : (s.heap.push (newSetObj w)).get? s.heap.objs.size = some (newSetObj w) := Heap.get?_push_size _ rfl
  refine codeAny_mono (code_set_led1 (.ref l) (E := E) (Q₁ := fun v t => v = .ref s.heap.objs.size ∧ t = { s with heap := s.heap.push (newSetObj w) }) ⟨rfl, rfl⟩) fun r t hr => ?_
  match r, hr with
  | .error _, hr => exact hr
  | .ok (.ret _), ⟨e1, e2⟩ =>
    subst e1 e2
    have c7 := c0.init.lookup
    have c8 := c0.init.bind (.ref s.heap.objs.size)
    repeat any_goals first | assumption | wp_step
    refine codeAny_mono (codeAny_call_builtin (R := wants (fun r u => r = .none ∧ ∃ h' tk L es t, u = { s with heap := h', toks := tk } ∧ Lies knd h' s.heap.objs.size L es t ∧ Cov ks L ∧ ∀ b o, s.heap.get? b = some o → h'.get? b = some o) E)
      c0.init.plain F.entry_set_init (check_set_init_1 ⟨_, born, rfl⟩ (init_fill M src ks hit hk cap (fun _ _ z => Heap.get?_push_of_some _ z) born (Nat.le_refl _) (by simp [hh]) (by show A.units + 1 + 1 + 10 < _; omega)
        fun h' tk L es t R c k => ⟨rfl, h', tk, L, es, t, rfl, R, c, k⟩))) fun r u hr => ?_
    match r, hr with
    | .error _, hr => exact hr
    | .ok (.ret _), ⟨e3, h', tk, L, es, t, e4, R, c, k⟩ =>
      subst e3 e4
      repeat any_goals first | assumption | wp_step
      exact fin _ _ _ _ _ R c k
end
end Mi
set_option Elab.async false
set_option linter.all false
set_option maxRecDepth 100000
set_option maxHeartbeats 3200000
/-! MjM: data as keys; THE sorted list of a set. -/
namespace Mi
open PySem PySem.Spec PyProof.Rows L2 LamX
theorem firms_cons {n : Nat} {x : D} {xs : List D} : D.firms n (x :: xs) = (D.firm n x && D.firms n xs) := by cases n <;> rw [D.firms]
mutual
def unkey : NestedKey → D
  | .none => .non
  | .num i => .int i
  | .text x => .str x
  | .tup ks => .tup (unkeys ks)
def unkeys : List NestedKey → List D
  | [] => []
  | k :: ks => unkey k :: unkeys ks
end
mutual
theorem unkey_nkey : ∀ (d : D) (n : Nat), d.firm n = true → unkey d.nkey = d
  | .non, _, _ => by simp only [D.nkey, unkey]
  | .int _, _, _ => by simp only [D.nkey, unkey]
  | .str _, _, _ => by simp only [D.nkey, unkey]
  | .tup xs, 0, h => by simp [D.firm] at h
  | .tup xs, n + 1, h => by
    simp only [D.nkey, unkey]
    rw [unkeys_nkeys xs n (by simpa [D.firm] using h)]
  | .bl _, n, h => by cases n <;> simp [D.firm] at h
  | .lst _, n, h => by cases n <;> simp [D.firm] at h
  | .dct _, n, h => by cases n <;> simp [D.firm] at h
  | .set _, n, h => by cases n <;> simp [D.firm] at h
  | .exc _, n, h => by cases n <;> simp [D.firm] at h
theorem unkeys_nkeys : ∀ (ds : List D) (n : Nat), D.firms n ds = true → unkeys (D.nkeys ds) = ds
  | [], _, _ => by simp only [D.nkeys, unkeys]
  | d :: ds, n, h => by
    rw [firms_cons, Bool.and_eq_true] at h
    simp only [D.nkeys, unkeys]
    rw [unkey_nkey d n h.1, unkeys_nkeys ds n h.2]
end
mutual
theorem depth_nkey : ∀ (d : D) (n : Nat), d.firm n = true → d.nkey.depth ≤ n
  | .non, _, _ => by simp [D.nkey, NestedKey.depth]
  | .int _, _, _ => by simp [D.nkey, NestedKey.depth]
  | .str _, _, _ => by simp [D.nkey, NestedKey.depth]
  | .tup xs, 0, h => by simp [D.firm] at h
  | .tup xs, n + 1, h => by
    have := depth_nkeys xs n (by simpa [D.firm] using h)
    simp only [D.nkey, NestedKey.depth]
    omega
  | .bl _, n, h => by cases n <;> simp [D.firm] at h
  | .lst _, n, h => by cases n <;> simp [D.firm] at h
  | .dct _, n, h => by cases n <;> simp [D.firm] at h
  | .set _, n, h => by cases n <;> simp [D.firm] at h
  | .exc _, n, h => by cases n <;> simp [D.firm] at h
theorem depth_nkeys : ∀ (ds : List D) (n : Nat), D.firms n ds = true → NestedKey.depthAll (D.nkeys ds) ≤ n
  | [], _, _ => by simp [D.nkeys, NestedKey.depthAll]
  | d :: ds, n, h => by
    rw [firms_cons, Bool.and_eq_true] at h
    have h1 := depth_nkey d n h.1
    have h2 := depth_nkeys ds n h.2
    simp only [D.nkeys, NestedKey.depthAll]
    omega
end
mutual
theorem firm_eqv : ∀ (a b : D) (n m : Nat), a.firm n = true → b.firm m = true → (D.eqv a b = true ↔ a = b)
  | .non, b, _, m, _, h => by cases b <;> simp [D.eqv]
  | .int _, b, _, m, _, h => by
    cases b <;> simp [D.eqv]
    cases m <;> simp [D.firm] at h
  | .str _, b, _, m, _, h => by cases b <;> simp [D.eqv]
  | .tup xs, .tup ys, 0, _, h, _ => by simp [D.firm] at h
  | .tup xs, .tup ys, _, 0, _, h => by simp [D.firm] at h
  | .tup xs, .tup ys, n + 1, m + 1, h, k => by
    simp only [D.eqv, D.tup.injEq]
    exact firms_eqv xs ys n m (by simpa [D.firm] using h) (by simpa [D.firm] using k)
  | .tup xs, .non, _, _, _, _ => by simp [D.eqv]
  | .tup xs, .bl _, _, _, _, _ => by simp [D.eqv]
  | .tup xs, .int _, _, _, _, _ => by simp [D.eqv]
  | .tup xs, .str _, _, _, _, _ => by simp [D.eqv]
  | .tup xs, .lst _, _, _, _, _ => by simp [D.eqv]
  | .tup xs, .dct _, _, _, _, _ => by simp [D.eqv]
  | .tup xs, .set _, _, _, _, _ => by simp [D.eqv]
  | .tup xs, .exc _, _, _, _, _ => by simp [D.eqv]
  | .bl _, _, n, _, h, _ => by cases n <;> simp [D.firm] at h
  | .lst _, _, n, _, h, _ => by cases n <;> simp [D.firm] at h
  | .dct _, _, n, _, h, _ => by cases n <;> simp [D.firm] at h
  | .set _, _, n, _, h, _ => by cases n <;> simp [D.firm] at h
  | .exc _, _, n, _, h, _ => by cases n <;> simp [D.firm] at h
theorem firms_eqv : ∀ (xs ys : List D) (n m : Nat), D.firms n xs = true → D.firms m ys = true → (D.eqvs xs ys = true ↔ xs = ys)
  | [], [], _, _, _, _ => by simp [D.eqvs]
  | [], _ :: _, _, _, _, _ => by simp [D.eqvs]
  | _ :: _, [], _, _, _, _ => by simp [D.eqvs]
  | x :: xs, y :: ys, n, m, h, k => by
    rw [firms_cons, Bool.and_eq_true] at h k
    simp only [D.eqvs, Bool.and_eq_true, List.cons.injEq]
    rw [firm_eqv x y n m h.1 k.1, firms_eqv xs ys n m h.2 k.2]
end
theorem perm_map {α β : Type} {f : α → β} {l m : List β} (p : l.Perm m) : ∀ {L : List α}, m = L.map f → ∃ L' : List α, L'.Perm L ∧ l = L'.map f := by
  induction p with
  | nil => intro L e; cases L with | nil => exact ⟨[], .nil, rfl⟩ | cons x r => simp at e
  | cons x p ih =>
    intro L e
    cases L with
    | nil => simp at e
    | cons y r =>
      simp only [List.map_cons, List.cons.injEq] at e
      obtain ⟨L', h1, h2⟩ := ih e.2
      exact ⟨y :: L', h1.cons y, by rw [List.map_cons, ← e.1, h2]⟩
  | swap x y l =>
    intro L e
    match L, e with
    | a :: b :: r, e =>
      simp only [List.map_cons, List.cons.injEq] at e
      exact ⟨b :: a :: r, .swap _ _ _, by rw [List.map_cons, List.map_cons, ← e.1, ← e.2.1, e.2.2]⟩
  | trans p q ih1 ih2 =>
    intro L e
    obtain ⟨L1, h1, h2⟩ := ih2 e
    obtain ⟨L2, h3, h4⟩ := ih1 h2
    exact ⟨L2, h3.trans h1, h4⟩
theorem rises_at : ∀ {ys : List D}, risesB ys = true → ∀ (i j : Nat) (a b : D), ys[i]? = some a → ys[j]? = some b → D.leB a b = decide (i ≤ j)
  | [], _, i, _, _, _, h, _ => by simp at h
  | x :: r, h, i, j, a, b, ha, hb => by
    simp only [risesB, Bool.and_eq_true, Bool.not_eq_true', List.all_eq_true] at h
    obtain ⟨h1, h2, h3⟩ := h
    cases i with
    | zero =>
      cases j with
      | zero =>
        simp only [List.getElem?_cons_zero, Option.some.injEq] at ha hb
        subst ha hb
        simp [D.leB, h1]
      | succ j =>
        simp only [List.getElem?_cons_zero, List.getElem?_cons_succ, Option.some.injEq] at ha hb
        subst ha
        have := (h2 b (List.mem_of_getElem? hb)).2
        simp [D.leB, this]
    | succ i =>
      cases j with
      | zero =>
        simp only [List.getElem?_cons_zero, List.getElem?_cons_succ, Option.some.injEq] at ha hb
        subst hb
        have := (h2 a (List.mem_of_getElem? ha)).1
        simp [D.leB, this]
      | succ j =>
        simp only [List.getElem?_cons_succ] at ha hb
        rw [rises_at h3 i j a b ha hb]
        simp
/-- whatever the order they come in, the list sorted is THE list -/
theorem sort_one {l ys : List D} (h : risesB ys = true) (p : l.Perm ys) : l.mergeSort D.leB = ys := by
  have ey : ys = (List.range ys.length).map (fun i => ys.getD i .non) := by
    refine List.ext_getElem (by simp) fun i h1 h2 => ?_
    simp [List.getD_eq_getElem?_getD, h1]
  obtain ⟨ix, h1, h2⟩ := perm_map p ey
  have key : ∀ i ∈ ix, ∀ j ∈ ix, decide (i ≤ j) = D.leB (ys.getD i .non) (ys.getD j .non) := fun i hi j hj => by
    have li : i < ys.length := List.mem_range.mp (h1.mem_iff.mp hi)
    have lj : j < ys.length := List.mem_range.mp (h1.mem_iff.mp hj)
    refine (rises_at h i j _ _ ?_ ?_).symm <;> simp [List.getD_eq_getElem?_getD, li, lj]
  rw [h2, ← List.map_mergeSort (r := fun i j => decide (i ≤ j)) key]
  have : ix.mergeSort (fun i j => decide (i ≤ j)) = List.range ys.length := by
    refine List.Perm.eq_of_pairwise (le := fun i j => i ≤ j) (fun a b _ _ h1 h2 => Nat.le_antisymm h1 h2) ?_ (List.pairwise_lt_range.imp fun h => Nat.le_of_lt h) ((List.mergeSort_perm _ _).trans h1)
    refine (List.pairwise_mergeSort (le := fun i j => decide (i ≤ j)) (fun a b c h1 h2 => ?_) (fun a b => ?_) ix).imp fun h => ?_
    · simp only [decide_eq_true_eq] at h1 h2 ⊢; omega
    · simp only [Bool.or_eq_true, decide_eq_true_eq]; omega
    · simpa using h
  rw [this, ← ey]
theorem perm_mergeSort_of {l m ys : List D} (h : risesB ys = true) (e : m.mergeSort D.leB = ys) (p : l.Perm m) : l.mergeSort D.leB = ys :=
  sort_one h (p.trans (e ▸ (List.mergeSort_perm m D.leB).symm))
section
variable {X : Cx} {H : Hp} {σ : St} {pins : List (Addr × Obj)} {s : Shared}
mutual
theorem rp_nested (I : Inv X pins σ H s) : ∀ (d : D) (n : Nat) (v : V) (u : Value), d.firm n = true → RpX X H v d → RelV v u → NestedIs s.heap d.nkey u
  | .non, _, _, _, _, r, rv => by cases r; cases rv; simp only [D.nkey]; exact .none
  | .int i, _, _, _, _, r, rv => by cases r; obtain ⟨t, rfl⟩ := rv; simp only [D.nkey]; exact .int _ _
  | .str _, _, _, _, _, r, rv => by cases r; obtain ⟨t, rfl⟩ := rv; simp only [D.nkey]; exact .text _ _
  | .tup xs, 0, _, _, h, _, _ => by simp [D.firm] at h
  | .tup xs, n + 1, _, _, h, r, rv => by
    cases r with
    | tup hs q =>
      cases rv
      obtain ⟨its, rv2, ⟨o, ho, hc, m, hd⟩, _⟩ := I.tuple hs
      simp only [D.nkey]
      exact .tup ho hc hd (by simpa using rps_nested I xs n _ its (by simpa [D.firm] using h) q rv2)
  | .bl _, n, _, _, h, _, _ => by cases n <;> simp [D.firm] at h
  | .lst _, n, _, _, h, _, _ => by cases n <;> simp [D.firm] at h
  | .dct _, n, _, _, h, _, _ => by cases n <;> simp [D.firm] at h
  | .set _, n, _, _, h, _, _ => by cases n <;> simp [D.firm] at h
  | .exc _, n, _, _, h, _, _ => by cases n <;> simp [D.firm] at h
theorem rps_nested (I : Inv X pins σ H s) : ∀ (ds : List D) (n : Nat) (vs : List V) (us : List Value), D.firms n ds = true → RpsX X H vs ds → Vals vs us → NestedAll s.heap (D.nkeys ds) us
  | [], _, _, _, _, r, rv => by cases r; cases rv; simp only [D.nkeys]; exact .nil
  | d :: ds, n, _, _, h, r, rv => by
    rw [firms_cons, Bool.and_eq_true] at h
    cases r with
    | cons r1 r2 =>
      cases rv with
      | cons a b =>
        simp only [D.nkeys]
        exact .cons (rp_nested I d n _ _ h.1 r1 a) (rps_nested I ds n _ _ h.2 r2 b)
end
/-- the items of what the set is made of, as keys -/
theorem keys_of (I : Inv X pins σ H s) : ∀ {ds : List D} {vs : List V} {us : List Value}, (∀ d ∈ ds, d.isTup = true ∧ d.firm 8 = true) → RpsX X H vs ds → Vals vs us →
    ∃ ks : List (NestedKey × Addr), us = ks.map (fun e => Value.ref e.2) ∧ ks.map Prod.fst = ds.map D.nkey ∧ ∀ e ∈ ks, (nestedKind X.prog X.w).is s.heap e.1 e.2 ∧ unkey e.1 ∈ ds ∧ (unkey e.1).nkey = e.1 ∧ ∃ v, RelV v (.ref e.2) ∧ RpX X H v (unkey e.1)
  | [], _, _, _, r, rv => by cases r; cases rv; exact ⟨[], rfl, rfl, fun _ z => (by cases z)⟩
  | d :: ds, _, _, h, .cons r1 r2, .cons a b => by
    obtain ⟨ks, e1, e2, e3⟩ := keys_of I (fun x hx => h x (List.mem_cons_of_mem _ hx)) r2 b
    obtain ⟨h1, h2⟩ := h d List.mem_cons_self
    have ni := rp_nested I d 8 _ _ h2 r1 a
    have uk := unkey_nkey d 8 h2
    cases d with
    | tup xs =>
      cases r1 with
      | tup hs q =>
        cases a
        rename_i ad _
        refine ⟨((D.tup xs).nkey, ad) :: ks, by rw [List.map_cons, e1], by rw [List.map_cons, List.map_cons, e2], fun e he => ?_⟩
        rcases List.mem_cons.mp he with rfl | he
        · exact ⟨⟨ni, depth_nkey _ 8 h2⟩, by rw [uk]; exact List.mem_cons_self, by rw [uk], V.ref ad, rfl, by rw [uk]; exact .tup hs q⟩
        · obtain ⟨z1, z2, z3⟩ := e3 e he
          exact ⟨z1, List.mem_cons_of_mem _ z2, z3⟩
    | _ => cases h1
end
end Mi
set_option Elab.async false
set_option linter.all false
set_option maxRecDepth 100000
set_option maxHeartbeats 3200000
/-! MjN: sorted(set(xs)). -/
namespace Mi
open PySem PySem.Spec PyProof.Rows L2 LamX
section
variable {prog : Program} {w : World} {A : Around} {E : Value → Shared → Prop} {s : Shared}
theorem each_list {α β : Type} {Rl : Value → β → Prop} {f : α → Value} {g : α → β} : ∀ {l : List α}, (∀ a ∈ l, Rl (f a) (g a)) → PySem.W.EachIs Rl (l.map f) (l.map g)
  | [], _ => .nil
  | a :: l, h => .cons (h a List.mem_cons_self) (each_list fun b hb => h b (List.mem_cons_of_mem _ hb))
/-- sorted() of a set -/
theorem sort_set {S : Addr} {L : List (NestedKey × Addr)} {es : Array (Int × Value)} {t : SetTable} (R : Lies (nestedKind prog w) s.heap S L es t) (hh : A.handled = none)
    (rd : ∀ e ∈ L, ∃ as, Reads s.heap (.ref e.2) (unkey e.1).py as) (al : PySem.W.AllAlike (L.map fun e => (unkey e.1).py)) (so : PySem.W.Sortable (L.map fun e => (unkey e.1).py)) (hu : ∀ e ∈ L, A.units + 3 + (unkey e.1).py.depth < cLine) {Q : Value → Shared → Prop}
    (fin : ∀ s' p c (L1 : List (NestedKey × Addr)) (out : List Value), L1.Perm L → (∀ b o, s.heap.get? b = some o → s'.heap.get? b = some o) → s'.gens = s.gens → s'.os = s.os → s.heap.objs.size ≤ p →
      s'.heap.get? p = some (seqObj "list" out.toArray c) → PySem.W.EachIs (fun v d => ∃ e ∈ L, v = Value.ref e.2 ∧ unkey e.1 = d) out ((L1.map fun e => unkey e.1).mergeSort (PySem.W.dataLe false D.py)) → Q (.ref p) s') :
    wpAny (model prog w) A (call (.builtin "sorted") [.ref S]) Q E s := by
  obtain ⟨o, ep, ho, hex, hd⟩ := id R.obj
  have len := rows_len R.row
  have cap := R.cap
  refine Calls.call_function_entry kind_sorted plain_sorted entry_sorted (args_sorted1 _) ?_
  unfold Builtin.«sorted»
  refine wpAny_bind (m := checkCount "sorted" 1 1 _) (wpAny_pure (wpAny_bind ?_))
  refine collect_set (A := A.in1) hh ⟨o, ho, hex.1, hd⟩ R.fit (by unfold scanBound; omega) R.tab.ris R.led fun s1 vs k1 z1 g1 o1 pm => ?_
  rw [R.row, rowsK, List.map_map] at pm
  obtain ⟨L1, p1, rfl⟩ := perm_map pm rfl
  have len1 : L1.length = L.length := p1.length_eq
  have small : (L1.map ((fun x : Int × Value => x.2) ∘ fun e : NestedKey × Addr => ((nestedKind prog w).hash e.1, Value.ref e.2))).length ≤ sizeLine := by rw [List.length_map, sizeLine_eq]; omega
  refine wpAny_bind (wpAny_newList ?_ small)
  have new : (s1.heap.push (seqObj "list" (L1.map ((fun x : Int × Value => x.2) ∘ fun e : NestedKey × Addr => ((nestedKind prog w).hash e.1, Value.ref e.2))).toArray 0)).get? s1.heap.objs.size = some (seqObj "list" (L1.map ((fun x : Int × Value => x.2) ∘ fun e : NestedKey × Addr => ((nestedKind prog w).hash e.1, Value.ref e.2))).toArray 0) := Heap.get?_push_size _ rfl
  generalize hvs : L1.map ((fun x : Int × Value => x.2) ∘ fun e : NestedKey × Addr => ((nestedKind prog w).hash e.1, Value.ref e.2)) = vs at small new ⊢
  have evs : vs = L1.map fun e => Value.ref e.2 := hvs.symm
  have k2 : ∀ b u, s.heap.get? b = some u → (PySem.W.sortingHeap (s1.heap.push (seqObj "list" vs.toArray 0)) s1.heap.objs.size vs).get? b = some u := fun b u e =>
    PySem.W.sortingHeap_old (Nat.ne_of_lt (Heap.lt_size (k1 b u e))) (Heap.get?_push_of_some _ (k1 b u e))
  have al1 : PySem.W.AllAlike ((L1.map fun e => unkey e.1).map D.py) := by
    rw [List.map_map]
    exact fun x hx y hy => al x ((p1.map _).mem_iff.mp hx) y ((p1.map _).mem_iff.mp hy)
  have so1 : PySem.W.Sortable ((L1.map fun e => unkey e.1).map D.py) := by
    rw [List.map_map]
    exact so.imp (fun h x hx => h x ((p1.map _).mem_iff.mp hx)) fun h x hx => h x ((p1.map _).mem_iff.mp hx)
  have rdG : ∀ G : Heap, (∀ b u, s.heap.get? b = some u → G.get? b = some u) → PySem.W.EachIs (fun v d => ∃ as, Reads G v (D.py d) as) (L1.map fun e => Value.ref e.2) (L1.map fun e => unkey e.1) := fun G k => each_list fun e he => by
    obtain ⟨as, r⟩ := rd e (p1.mem_iff.mp he)
    exact ⟨as, PyProof.Rows.Reads.keeps k r⟩
  have rd1 := rdG _ k2
  rw [← evs] at rd1
  have is1 : PySem.W.EachIs (fun v d => ∃ e ∈ L, v = Value.ref e.2 ∧ unkey e.1 = d) vs (L1.map fun e => unkey e.1) := by
    rw [evs]
    exact each_list fun e he => ⟨e, p1.mem_iff.mp he, rfl, rfl⟩
  refine wpAny_bind (wpAny_holding (wpAny_call_entry slot_list_sort ⟨_, new, rfl⟩ entry_list_sort (PySem.W.list_sort_vals (κ := PySem.W.dataKind (PySem.W.sortingHeap (s1.heap.push (seqObj "list" vs.toArray 0)) s1.heap.objs.size vs) ((L1.map fun e => unkey e.1).map D.py)) new
    (PySem.W.SortsAt.data (s := { s1 with heap := PySem.W.sortingHeap (s1.heap.push (seqObj "list" vs.toArray 0)) s1.heap.objs.size vs }) (PySem.W.each_map (R := fun v d => ∃ as, Reads (PySem.W.sortingHeap (s1.heap.push (seqObj "list" vs.toArray 0)) s1.heap.objs.size vs) v d as) D.py rd1) al1 so1 (PySem.W.bound_map fun d hd => ?_)) small ⟨.none, rfl, ?_⟩) (args_list_sort _)))
  · obtain ⟨e, he, rfl⟩ := List.mem_map.mp hd
    have := hu e (p1.mem_iff.mp he)
    show A.units + 1 + 1 + _ < _
    omega
  · have out1 := PySem.W.sortVals_data false is1 rd1 al1
    obtain ⟨c, hc⟩ := sortedHeap_at (vs := vs) (out := (PySem.W.sortVals (PySem.W.dataKind (PySem.W.sortingHeap (s1.heap.push (seqObj "list" vs.toArray 0)) s1.heap.objs.size vs) ((L1.map fun e => unkey e.1).map D.py)) false vs vs).toArray) new
    refine wpAny_pure ⟨_, rfl, fin _ s1.heap.objs.size c L1 _ p1 (fun b u e => ?_) g1 o1 z1 hc out1⟩
    have lt := Heap.lt_size (k1 b u e)
    show (sortedHeap _ _ _ _).get? b = some u
    rw [sortedHeap_old (Nat.ne_of_lt lt) (by rw [size_push']; exact Nat.lt_succ_of_lt lt)]
    exact Heap.get?_push_of_some _ (k1 b u e)
end
end Mi
set_option Elab.async false
set_option linter.all false
set_option maxRecDepth 100000
set_option maxHeartbeats 3200000
/-! MjO: sorted(set(xs)) as an expression. -/
namespace Mi
open PySem PySem.Spec PyProof.Rows L2 LamX
theorem mem_iff {x : D} (hx : x.firm 8 = true) : ∀ {xs : List D}, (∀ y ∈ xs, y.firm 8 = true) → (mem x xs = true ↔ x ∈ xs)
  | [], _ => by simp [mem]
  | y :: r, h => by
    have ih := mem_iff hx (xs := r) fun z hz => h z (List.mem_cons_of_mem _ hz)
    unfold mem at ih ⊢
    rw [List.any_cons, Bool.or_eq_true, ih, firm_eqv y x 8 8 (h y List.mem_cons_self) hx, List.mem_cons, eq_comm]
theorem dedup_mem : ∀ {xs : List D}, (∀ y ∈ xs, y.firm 8 = true) → ∀ x, x ∈ dedup xs ↔ x ∈ xs
  | [], _, x => by simp [dedup]
  | y :: r, h, x => by
    have hr : ∀ z ∈ r, z.firm 8 = true := fun z hz => h z (List.mem_cons_of_mem _ hz)
    have ih := dedup_mem hr x
    have hy := mem_iff (h y List.mem_cons_self) hr
    rw [dedup]
    split
    · rename_i q
      rw [ih, List.mem_cons]
      refine ⟨.inr, fun z => z.elim (fun e => e ▸ hy.mp q) id⟩
    · rw [List.mem_cons, List.mem_cons, ih]
theorem dedup_nodup : ∀ {xs : List D}, (∀ y ∈ xs, y.firm 8 = true) → (dedup xs).Nodup
  | [], _ => by simp [dedup]
  | y :: r, h => by
    have hr : ∀ z ∈ r, z.firm 8 = true := fun z hz => h z (List.mem_cons_of_mem _ hz)
    rw [dedup]
    split
    · exact dedup_nodup hr
    · rename_i q
      exact List.nodup_cons.mpr ⟨fun z => q ((mem_iff (h y List.mem_cons_self) hr).mpr ((dedup_mem hr y).mp z)), dedup_nodup hr⟩
/-- what the check tells -/
theorem setOk_of {xs : List D} (h : setOk xs = true) : xs.length < 64 ∧ (∀ d ∈ xs, d.plain lvl = true ∧ ∀ d' ∈ xs, D.alike d d' = true) ∧ (∀ d ∈ xs, d.isTup = true ∧ d.firm 8 = true) ∧ risesB ((dedup xs).mergeSort D.leB) = true ∧
    ((∀ d ∈ xs, ∃ x r, d = .tup (x :: r)) ∨ xs = []) := by
  unfold setOk sortOk allAlike at h
  simp only [Bool.and_eq_true, decide_eq_true_eq, List.all_eq_true, Bool.or_eq_true] at h
  obtain ⟨h1, ⟨h2, h3⟩, h4, h5⟩ := h
  refine ⟨h1, h2, h4, h5, ?_⟩
  rcases h3 with h3 | h3
  · refine .inl fun d hd => ?_
    have := h3 d hd
    match d, this with
    | .tup (x :: r), _ => exact ⟨x, r, rfl⟩
  · cases xs with
    | nil => exact .inr rfl
    | cons y r =>
      have z1 := h3 y List.mem_cons_self
      have z2 := (h4 y List.mem_cons_self).1
      cases y <;> first | (cases z2; done) | cases z1
section
variable {γ : Type} {M : Wd} {X : Cx} {H H' H0 : Hp} {σ σ' : St} {ρ ρ' : Env} {fs fs' fs0 : List (List Addr)} {pins : List (Addr × Obj)} {s s' : Shared} {C : Ctx} {pos : Pos}
theorem sset_core {l : Addr} {T : String} {its : List Value} {vs : List V} {ds : List D} {E : Value → Shared → Prop} (hu : Units X) (hc : X.calm = true) (n : Nw M X pins σ ρ H0 fs0 H fs s) (src : Src X.prog X.w s.heap l T its.toArray)
    (rv : Vals vs its) (rr : RpsX X H vs ds) (ok : setOk ds = true) :
    wpAny (model X.prog X.w) X.A (call (.type "set") [.ref l]) (fun v s' => ∀ E', wpAny (model X.prog X.w) X.A (call (.builtin "sorted") [v]) (PO M X pins σ H0 fs0 (.ok (.m (.c (.l ((dedup ds).mergeSort D.leB)))) ρ)) E' s') E s := by
  have hu0 : X.A.units + 150 < cLine := hu
  obtain ⟨cap, hal, hft, rises, hso⟩ := setOk_of ok
  obtain ⟨ks, e1, e2, e3⟩ := keys_of n.inv hft rr rv
  have len : ks.length = ds.length := by simpa using congrArg List.length e2
  refine make_set mild_nested src ks (by simpa using e1) (fun e he => (e3 e he).1) (by omega) (n.inv.ok.hd hc) (by omega) fun h' tk L es t R c k E' => ?_
  have I1 := n.inv.kept (t' := tk) k
  have inL : ∀ e ∈ L, e ∈ ks := c.from_
  have pl : ∀ e ∈ L, (unkey e.1).plain lvl = true := fun e he => (hal _ (e3 e (inL e he)).2.1).1
  have alk : ∀ e ∈ L, ∀ e' ∈ L, D.alike (unkey e.1) (unkey e'.1) = true := fun e he e' he' => (hal _ (e3 e (inL e he)).2.1).2 _ (e3 e' (inL e' he')).2.1
  refine sort_set (s := { s with heap := h', toks := tk }) R (n.inv.ok.hd hc) (fun e he => ?_) ?_ ?_ (fun e he => ?_) fun s' p c' L1 out p1 k1 g1 o1 z1 hp ei => ?_
  · obtain ⟨_, _, _, v, r1, r2⟩ := e3 e (inL e he)
    exact (Rr.of r2).reads (pl e he) I1 r1
  · intro x hx y hy
    obtain ⟨a, ha, rfl⟩ := List.mem_map.mp hx
    obtain ⟨b, hb, rfl⟩ := List.mem_map.mp hy
    exact alike_py _ _ _ _ (pl a ha) (pl b hb) (alk a ha b hb)
  · refine .inl fun x hx => ?_
    obtain ⟨a, ha, rfl⟩ := List.mem_map.mp hx
    have hm := (e3 a (inL a ha)).2.1
    rcases hso with z | z
    · obtain ⟨y, r, e⟩ := z _ hm
      rw [e]
      exact ⟨_, _, by simp only [D.py, D.pys]; rfl⟩
    · rw [z] at hm; cases hm
  · have := (plain_lay _ _ (pl e he)).2
    have : (unkey e.1).py.depth ≤ 12 := this
    omega
  · have mem1 : ∀ d ∈ L1.map (fun e => unkey e.1), ∃ e ∈ L, d = unkey e.1 := fun d hd => by
      obtain ⟨a, ha, rfl⟩ := List.mem_map.mp hd
      exact ⟨a, p1.mem_iff.mp ha, rfl⟩
    have perm : (L1.map fun e => unkey e.1).Perm (dedup ds) := by
      refine (p1.map _).trans ((List.perm_ext_iff_of_nodup ?_ (dedup_nodup fun d hd => (hft d hd).2)).mpr fun d => ?_)
      · have nd := R.one
        refine List.pairwise_map.mpr ((List.pairwise_map.mp nd).imp_of_mem fun {a b} ha hb ne e => ne ?_)
        rw [← (e3 a (inL a ha)).2.2.1, ← (e3 b (inL b hb)).2.2.1, e]
      · rw [dedup_mem (fun d hd => (hft d hd).2) d]
        refine ⟨fun z => ?_, fun z => ?_⟩
        · obtain ⟨a, ha, rfl⟩ := List.mem_map.mp z
          exact (e3 a (inL a ha)).2.1
        · have : d.nkey ∈ ks.map Prod.fst := by rw [e2]; exact List.mem_map.mpr ⟨d, z, rfl⟩
          obtain ⟨e, he, q⟩ := List.mem_map.mp this
          obtain ⟨e', he', q'⟩ := List.mem_map.mp (c.each e he)
          exact List.mem_map.mpr ⟨e', he', by rw [q', q]; exact unkey_nkey d 8 (hft d z).2⟩
    have em : (L1.map fun e => unkey e.1).mergeSort (PySem.W.dataLe false D.py) = (dedup ds).mergeSort D.leB := by
      rw [← perm_mergeSort_of rises rfl perm]
      refine mergeSort_congr fun a ha b hb => ?_
      obtain ⟨x, hx, rfl⟩ := mem1 a ha
      obtain ⟨y, hy, rfl⟩ := mem1 b hb
      show (!PySem.W.dataLt _ _) = _
      unfold D.leB
      rw [← lt_py _ _ _ _ (pl y hy) (pl x hx) (alk y hy x hx)]
    rw [em] at ei
    have ei2 : PySem.W.EachIs (fun u d => ∃ v, RelV v u ∧ RpX X H v d) out ((dedup ds).mergeSort D.leB) := ei.mono fun u d ⟨e, he, q1, q2⟩ => by
      obtain ⟨_, _, _, v, r1, r2⟩ := e3 e (inL e he)
      exact ⟨v, by rw [q1]; exact r1, by rw [← q2]; exact r2⟩
    obtain ⟨ys, ry, qy⟩ := of_each ei2
    have kk : ∀ b u, s.heap.get? b = some u → s'.heap.get? b = some u := fun b u e => k1 b u (k b u e)
    have hn : H p = none := I1.hok.fresh z1
    have small : ((dedup ds).mergeSort D.leB).length ≤ sizeLine := by
      rw [List.length_mergeSort, ← perm.length_eq, List.length_map, p1.length_eq, sizeLine_eq]
      have := R.cap
      omega
    have J : Inv X pins σ (upd H p (.lst ys)) { s with heap := s'.heap, gens := s'.gens, drawn := s'.drawn, toks := s'.toks } :=
      Inv.call (s := { s with heap := h', toks := tk }) (ch := []) I1 (Un.laid k1 z1 hn) (I1.hok.laid k1 z1 ⟨by rw [qy.length]; exact small, out, c', ry, hp⟩) (by rw [g1]; exact I1.bare) fun _ z => nomatch z
    have es : s' = { s with heap := s'.heap, gens := s'.gens, drawn := s'.drawn, toks := s'.toks } := by
      cases s'
      cases s
      cases o1
      rfl
    rw [es]
    exact po_l n J hn qy
theorem sset_ok {vs : List V} {us : List Value} {ds : List D} {w : W} {E : Value → Shared → Prop} (hu : Units X) (hc : X.calm = true) (n : Nw M X pins σ ρ H0 fs0 H fs s) (rv : Vals vs us) (rr : Rrs X H vs ds) (h : ssetD ds = some w) :
    wpAny (model X.prog X.w) X.A (call (.type "set") us) (fun v s' => ∀ E', wpAny (model X.prog X.w) X.A (call (.builtin "sorted") [v]) (PO M X pins σ H0 fs0 (.ok w ρ)) E' s') E s := by
  unfold ssetD at h
  split at h
  · rename_i xs
    split at h
    · rename_i ok
      obtain ⟨rfl, hb⟩ := newL_some h
      obtain ⟨v, rfl, r1⟩ := rrs1 rr
      obtain ⟨a, vs', rfl, ha, q⟩ := r1.lst
      obtain ⟨u, rfl, ru⟩ := vals1 rv
      cases ru
      obtain ⟨its, rv2, hl, hz⟩ := n.inv.list (.inl ha)
      exact sset_core hu hc n (src_list hl.isList) rv2 q ok
    · cases h
  · rename_i xs
    split at h
    · rename_i ok
      obtain ⟨rfl, hb⟩ := newL_some h
      obtain ⟨v, rfl, r1⟩ := rrs1 rr
      obtain ⟨a, vs', rfl, ha, q⟩ := r1.tup
      obtain ⟨u, rfl, ru⟩ := vals1 rv
      cases ru
      obtain ⟨its, rv2, ⟨o, ho, ho2, m, ho3⟩, hz⟩ := n.inv.tuple ha
      exact sset_core hu hc n (src_tuple ⟨o, ho, ho2, m, ho3⟩) rv2 q ok
    · cases h
  · cases h
theorem je_sset {l : Es} {e : Expr} {es : List Expr} {p p2 pos2 : Pos} (hu : Units X) (hc : X.calm = true) (hg : Gl X "sorted") (hm : X.mg "sorted" = none) (hg2 : Gl X "set") (hm2 : X.mg "set" = none) (hl : JA M X (evEs C l) (e :: es))
    (he : starEach (e :: es) X.env = (false, eval e X.env) :: starEach es X.env) (he2 : starEach [Expr.Call (.Name "set" p2) (e :: es) [] pos2] X.env = (false, eval (Expr.Call (.Name "set" p2) (e :: es) [] pos2) X.env) :: starEach [] X.env)
    (hpl : (backTo pos2 (starEach es X.env)).any (·.1) = false) : JE M X (evE C (.sset l)) (.Call (.Name "sorted" p) [.Call (.Name "set" p2) (e :: es) [] pos2] [] pos) := by
  intro pins s σ H ρ fs r h I sr tb
  rw [evE] at h
  refine wpAny_Call_Name_kw (ld_blt I hg hm (biV_boot .sorted) ?_ (by decide) (by decide))
  refine PyProof.Rows.callWith_builtin1 ?_ he2 rfl
  rw [he2]
  refine Calls.spliced_cons ?_
  refine wpAny_Call_Name_kw (ld_blt I hg2 hm2 (biV_boot .set) ?_ (by decide) (by decide))
  refine PyProof.Rows.callWith_type1 ?_ he hpl
  refine bindA hl h (Nw.start I sr tb) fun ws ρ1 H1 fs1 vs fps us s1 h1 n1 f1 g1 rvs rws nd fr => ?_
  obtain ⟨H2, n2, k2, q2⟩ := freezes n1 rws nd fr
  split at h1
  · rename_i ds hds
    obtain ⟨w, hw, er⟩ := map_some h1
    subst er
    refine wpAny_mono (sset_ok hu hc n2 rvs (reads n2.sr q2 hds) hw) (fun v s' h => ?_) fun _ _ z => z
    exact Calls.spliced_nil (h _)
  · cases h1
end
end Mi
set_option Elab.async false
set_option linter.all false
set_option maxRecDepth 100000
set_option maxHeartbeats 2000000
/-! MjP: t[::-1] of a tuple. -/
namespace Mi
open PySem PySem.Spec PyProof.Rows L2 LamX
section
variable {prog : Program} {w : World} {A : Around} {E : Value → Shared → Prop} {s : Shared}
theorem back_adjust (n : Nat) : Builtin.Slice.sliceAdjust none none (-1) (n : Int) = ((n : Int) - 1, -1) := by
  simp [Builtin.Slice.sliceAdjust]
theorem back_places (n : Nat) : Builtin.Slice.slicePlaces ((n : Int) - 1) (-1) (-1) = n := by
  unfold Builtin.Slice.slicePlaces
  rw [if_neg (by decide)]
  by_cases h : n = 0
  · subst h; rfl
  · rw [if_pos (by omega), show (-(-1) : Int) = 1 from rfl, Int.ediv_one]
    omega
theorem back_pick (xs : Array Value) : ((List.range xs.size).filterMap fun (k : Nat) => xs[((xs.size : Int) - 1 + (k : Int) * (-1)).toNat]?).toArray = xs.toList.reverse.toArray := by
  refine congrArg List.toArray ?_
  have e : ∀ k ∈ List.range xs.size, xs[((xs.size : Int) - 1 + (k : Int) * (-1)).toNat]? = some (xs.toList.reverse.getD k .none) := fun k hk => by
    have := List.mem_range.mp hk
    rw [show ((xs.size : Int) - 1 + (k : Int) * (-1)).toNat = xs.size - 1 - k by omega]
    simp [List.getD_eq_getElem?_getD, List.getElem?_reverse, this, Array.getElem?_eq_getElem, show xs.size - 1 - k < xs.size by omega]
  have all : ∀ l : List Nat, (∀ k ∈ l, k ∈ List.range xs.size) → l.filterMap (fun (k : Nat) => xs[((xs.size : Int) - 1 + (k : Int) * (-1)).toNat]?) = l.map fun k => xs.toList.reverse.getD k .none := by
    intro l
    induction l with
    | nil => intro _; rfl
    | cons k r ih =>
      intro h
      rw [List.filterMap_cons, e k (h k List.mem_cons_self), List.map_cons]
      exact congrArg _ (ih fun j hj => h j (List.mem_cons_of_mem _ hj))
  rw [all _ fun _ z => z]
  refine List.ext_getElem (by simp) fun i h1 h2 => ?_
  have : i < xs.size := by simpa using h1
  simp [List.getD_eq_getElem?_getD, this]
theorem getItem_back {t sl : Addr} {items : Array Value} {u : Tok} {Q : Value → Shared → Prop} (ht : IsTup s.heap t items) (hs : s.heap.IsSliceOf sl .none .none (.int (-1) u)) (hsz : items.size ≤ sizeLine)
    (h : Q (.ref s.heap.objs.size) { s with heap := s.heap.push { cls := .type "tuple", data := .seq items.toList.reverse.toArray } }) : wpAny (model prog w) A (getItem (.ref t) (.ref sl)) Q E s := by
  have size : sizeOk (.seq items.toList.reverse.toArray) := by
    show items.toList.reverse.toArray.size ≤ sizeLine
    simpa using hsz
  obtain ⟨os, hos, hcs, hds⟩ := id hs
  have hTs : s.TypeIs (.ref sl) "slice" := ⟨os, hos, hcs⟩
  unfold getItem
  refine wpAny_holding ?_
  refine wpAny_bind (wpAny_sequenceKey ht.typeIs (by decide) ?_)
  refine wpAny_bind (wpAny_callSpecial?_slot (name := Str.ofString "__getitem__") ht.typeIs PyProof.Rows.slot_tuple_getitem (wpAny_call_entry PyProof.Rows.slot_tuple_getitem ht.typeIs entry_tuple_getitem ?_ (args_tuple_getitem _ _)))
  show wpAny _ _ (Builtin.Tuple.tupleItemsOf (.ref t) >>= _) _ _ s
  refine wpAny_bind (tupleItemsOf_ ht (wpAny_bind (wpAny_typeOf hTs ?_)))
  rw [if_pos (by decide)]
  refine wpAny_bind ?_
  unfold Builtin.Slice.sliceApplied Builtin.Slice.sliceFields
  refine wpAny_bind (wpAny_bind (wpAny_field hos hds (x := .none) rfl (wpAny_bind (wpAny_field hos hds (x := .none) rfl (wpAny_bind (wpAny_field hos hds (x := .int (-1) u) rfl (wpAny_pure ?_)))))))
  refine wpAny_bind (HT.slicePart_ (.int (-1) u) ?_)
  show wpAny _ _ (if ((-1 : Int) == 0) = true then _ else _) _ _ s
  rw [if_neg (by decide)]
  refine wpAny_bind (HT.slicePart_ .none (wpAny_bind (HT.slicePart_ .none (wpAny_bind (wpAny_pure ?_)))))
  show wpAny _ _ (match Builtin.Slice.sliceAdjust none none (-1) (items.size : Int) with | (lo, hi) => pure (lo, (-1 : Int), Builtin.Slice.slicePlaces lo hi (-1))) _ _ s
  rw [back_adjust]
  show wpAny _ _ (pure ((items.size : Int) - 1, (-1 : Int), Builtin.Slice.slicePlaces ((items.size : Int) - 1) (-1) (-1))) _ _ s
  rw [back_places]
  refine wpAny_pure ?_
  dsimp only
  rw [if_neg (by simp), back_pick]
  exact wpAny_bind (m := Builtin.Tuple.tupleExact _) (wpAny_newObj_type (wpAny_pure ⟨_, rfl, wpAny_pure h⟩) size)
end
section
variable {γ : Type} {M : Wd} {X : Cx} {H H' H0 : Hp} {σ σ' : St} {ρ ρ' : Env} {fs fs' fs0 : List (List Addr)} {pins : List (Addr × Obj)} {s s' : Shared} {C : Ctx} {pos : Pos}
theorem vals_rev : ∀ {vs : List V} {us : List Value}, Vals vs us → Vals vs.reverse us.reverse
  | _, _, .nil => .nil
  | _, _, .cons a b => by
    rw [List.reverse_cons, List.reverse_cons]
    exact (vals_rev b).append (.cons a .nil)
theorem rps_rev : ∀ {vs : List V} {ds : List D}, RpsX X H vs ds → RpsX X H vs.reverse ds.reverse
  | _, _, .nil => .nil
  | _, _, .cons a b => by
    rw [List.reverse_cons, List.reverse_cons]
    exact (rps_rev b).append (.cons a .nil)
theorem je_rev {a : E} {ea ei : Expr} {p2 : Pos} (ha : JE M X (evE C a) ea) (hi : JE M X (evE C (.neg (.int 1))) ei) : JE M X (evE C (.rev a)) (.Subscript ea (.Slice none none (some ei) p2) pos) := by
  intro pins s σ H ρ fs r h I sr tb
  rw [evE] at h
  refine Subscript_ (bindO ha h (Nw.start I sr tb) fun w ρ1 H1 fs1 v u s1 h1 n1 k1 rv1 q1 => ?_)
  refine wpAny_Slice ?_
  rw [evalPart_none]
  refine wpAny_pure (wpAny_pure ?_)
  split at h1
  · rename_i d hl
    obtain ⟨w3, hw, er⟩ := map_some h1
    subst er
    have step : R.bind (evE C (.neg (.int 1)) ρ1) (fun w2 ρ2 => match w2 with | .d (.int i) => if i = -1 then some (.ok w3 ρ2) else none | _ => none) = some (.ok w3 ρ1) := by
      simp [evE, R.bind, look]
    refine bindO hi step n1 fun w2 ρ2 H2 fs2 v2 u2 s2 h2 n2 k2 rv2 q2 => ?_
    split at h2
    · split at h2
      · rename_i i ei
        subst ei
        cases h2
        have q2 : RpX X H2 v2 (.int (-1)) := q2
        cases q2
        obtain ⟨t, rfl⟩ := rv2
        have I3 : Inv X pins σ H2 { s2 with heap := s2.heap.push { cls := .type "slice", data := .fields #[.none, .none, .int (-1) t] } } := n2.inv.kept (t' := s2.toks) fun b ob q => Heap.get?_push_of_some _ q
        have rx := read n2.sr (q1.kd k2) hl
        unfold revD at hw
        split at hw
        · rename_i xs
          obtain ⟨rfl, hb⟩ := newL_some hw
          obtain ⟨p, vs, rfl, hp, q⟩ := rx.lst
          cases rv1
          obtain ⟨its, rv3, hl, hz⟩ := I3.list (.inl hp)
          have sz : its.toArray.size ≤ sizeLine := by rw [List.size_toArray, ← rv3.length]; exact hz
          refine tail_any (ops := [.ref p, .ref s2.heap.objs.size]) hl.isList.typeIs list_getitem_lookup (wpAny_getItem_list_slice hl.isList (Heap.IsSliceOf.new ..) .none .none (.int (-1) t) (by decide) ?_ sz) (by with_unfolding_all rfl)
          rw [PySem.W.krv_pick]
          have hn := I3.hok.fresh (Nat.le_refl _)
          refine po_l (n2.same I3) (I3.laid (t' := s2.toks) (fun b ob q => Heap.get?_push_of_some _ q) (Nat.le_refl _) ⟨by rw [List.length_reverse]; exact hz, its.reverse, 0, vals_rev rv3, Heap.get?_push_size _ rfl⟩) hn (rps_rev q)
        · rename_i xs
          obtain ⟨rfl, hb⟩ := newT_some hw
          obtain ⟨p, vs, rfl, hp, q⟩ := rx.tup
          cases rv1
          obtain ⟨its, rv3, ht, hz⟩ := I3.tuple hp
          have sz : its.toArray.size ≤ sizeLine := by rw [List.size_toArray, ← rv3.length]; exact hz
          refine tail_any (ops := [.ref p, .ref s2.heap.objs.size]) ht.typeIs PyProof.Rows.slot_tuple_getitem.lookup (getItem_back ht (Heap.IsSliceOf.new ..) sz ?_) (by with_unfolding_all rfl)
          have hn := I3.hok.fresh (Nat.le_refl _)
          refine po_t (n2.same I3) (I3.laid (t' := s2.toks) (fun b ob q => Heap.get?_push_of_some _ q) (Nat.le_refl _) ⟨by rw [List.length_reverse]; exact hz, its.reverse, vals_rev rv3, ⟨_, Heap.get?_push_size _ rfl, rfl, _, rfl⟩⟩) hn (rps_rev q)
        · cases hw
      · cases h2
    · cases h2
  · cases h1
end
end Mi
set_option Elab.async false
set_option linter.all false
set_option maxRecDepth 100000
set_option maxHeartbeats 2000000
/-! MiS: the checker of expressions: the program's syntax against the small language. -/
namespace Mi
open PySem PySem.Spec PyProof.Rows L2 LamX
/-- the text's tables: the defs by number (name, parameters), the constants -/
structure Tbl where
  fns : List (Str × Nat)
  gi : List (Str × Int)
  gs : List (Str × Str)
  ex : List Nat
  tl : Option Str
  lq : List Str
/-- a block: the names by slot, the scope, the names whose cells it made -/
structure Ck where
  N : List Str
  sc : Scope
  fn : Str → Bool
  top : Bool
def Ck.gl (ck : Ck) (x : Str) : Bool := ck.sc.names.lookup x == some .globalImplicit
def Ck.vis (ck : Ck) (x : Str) : Bool := ck.sc.names.lookup x == some .local || ck.sc.names.lookup x == some .cell || ck.sc.names.lookup x == some .free
def Ck.loc (ck : Ck) (x : Str) : Bool := ck.sc.names.lookup x == some .local || (ck.sc.names.lookup x == some .cell && ck.fn x)
/-- the built-in names that are used -/
def blts : List Str := ["len", "all", "any", "tuple", "list", "sorted", "set", "sum", "min", "max", "int", "str", "dict", "isinstance", "bool", "range", "zip", "enumerate"]
def sDbg : Str := "__debug__"
def sCld : Str := "__classdict__"
def sIsi : Str := "isinstance"
def sSrt : Str := "sorted"
def sSet : Str := "set"
/-- [::-1] -/
def asBack : Expr → Option Expr | .Slice none none (some i) _ => some i | _ => none
theorem asBack_of {e x : Expr} (h : asBack e = some x) : ∃ p, e = .Slice none none (some x) p := by
  unfold asBack at h
  split at h
  · cases h; exact ⟨_, rfl⟩
  · cases h
def sRng : Str := "range"
def sZip : Str := "zip"
def ckBlk (ck : Ck) (scope : Scope) : Ck := ⟨ck.N, relS scope ck.sc, fun x => scope.names.lookup x == some .cell, false⟩
/-- a lambda's body -/
def ckLam (ck : Ck) (scope : Scope) : Ck := ⟨ck.N, scope, fun _ => false, false⟩
def isNoArgs : Arguments → Bool | ⟨[], [], none, [], [], none, []⟩ => true | _ => false
def asTold : Expr → Option (Str × Arguments × Expr × Scope) | .Call (.Name x _) [.Lambda prm body scope _] [] _ => some (x, prm, body, scope) | _ => none
theorem asTold_of {e : Expr} {q : Str × Arguments × Expr × Scope} (h : asTold e = some q) : ∃ p1 p2 p3, e = .Call (.Name q.1 p1) [.Lambda q.2.1 q.2.2.1 q.2.2.2 p2] [] p3 := by
  unfold asTold at h
  split at h
  · cases h; exact ⟨_, _, _, rfl⟩
  · cases h
theorem noArgs_of {a : Arguments} (h : isNoArgs a = true) : a = ⟨[], [], none, [], [], none, []⟩ := by
  unfold isNoArgs at h
  split at h
  · rfl
  · cases h
/-- the table of a lambda's body -/
def Tbl.noTl (T : Tbl) : Tbl := { T with tl := none }
def ownP (N : List Str) (own : List Nat) : List (Str × Nat) := own.map fun i => (N.getD i Str.empty, i)
theorem ownP_ix (N : List Str) (own : List Nat) : (ownP N own).map (·.2) = own := by
  unfold ownP
  rw [List.map_map]
  induction own with
  | nil => rfl
  | cons i l ih => rw [List.map_cons, ih]; rfl
/-! ### taken apart -/
def asName : Expr → Option Str | .Name x _ => some x | _ => none
def asCst : Expr → Option Const | .Constant c _ _ => some c | _ => none
def asTup : Expr → Option (List Expr) | .Tuple es _ _ => some es | _ => none
def asLst : Expr → Option (List Expr) | .List es _ => some es | _ => none
def asBin : Expr → Option (Expr × Operator × Expr) | .BinOp a o b _ => some (a, o, b) | _ => none
def asUn : Expr → Option (UnaryOp × Expr) | .UnaryOp o a _ => some (o, a) | _ => none
def asBool : Expr → Option (BoolOp × List Expr × Pos) | .BoolOp o es p => some (o, es, p) | _ => none
def asCmp : Expr → Option (Expr × List CmpOp × List Expr) | .Compare a os es _ => some (a, os, es) | _ => none
def asIf : Expr → Option (Expr × Expr × Expr) | .IfExp t a b _ => some (t, a, b) | _ => none
def asSub : Expr → Option (Expr × Expr) | .Subscript a i _ => some (a, i) | _ => none
def asSlf : Expr → Option Expr | .Slice (some i) none none _ => some i | _ => none
def asSlt : Expr → Option Expr | .Slice none (some i) none _ => some i | _ => none
def asCall : Expr → Option (Str × List Expr) | .Call (.Name x _) es [] _ => some (x, es) | _ => none
def asMeth : Expr → Option (Expr × Str × Bool × List Expr) | .Call (.Attribute o x ap) es [] pos => some (o, x, ap.endLine == pos.line, es) | _ => none
def asLc : Expr → Option (Expr × Expr × Expr × List Expr × Scope) | .ListComp elt [⟨tg, ie, ifs, 0⟩] sc _ => some (elt, tg, ie, ifs, sc) | _ => none
section
variable {e : Expr}
theorem asName_of {x : Str} (h : asName e = some x) : ∃ p, e = .Name x p := by cases e <;> first | (cases h; done) | (cases h; exact ⟨_, rfl⟩)
theorem asCst_of {x : Const} (h : asCst e = some x) : ∃ k p, e = .Constant x k p := by cases e <;> first | (cases h; done) | (cases h; exact ⟨_, _, rfl⟩)
theorem asTup_of {x : List Expr} (h : asTup e = some x) : ∃ k p, e = .Tuple x k p := by cases e <;> first | (cases h; done) | (cases h; exact ⟨_, _, rfl⟩)
theorem asLst_of {x : List Expr} (h : asLst e = some x) : ∃ p, e = .List x p := by cases e <;> first | (cases h; done) | (cases h; exact ⟨_, rfl⟩)
theorem asBin_of {x : Expr × Operator × Expr} (h : asBin e = some x) : ∃ p, e = .BinOp x.1 x.2.1 x.2.2 p := by cases e <;> first | (cases h; done) | (cases h; exact ⟨_, rfl⟩)
theorem asUn_of {x : UnaryOp × Expr} (h : asUn e = some x) : ∃ p, e = .UnaryOp x.1 x.2 p := by cases e <;> first | (cases h; done) | (cases h; exact ⟨_, rfl⟩)
theorem asBool_of {x : BoolOp × List Expr × Pos} (h : asBool e = some x) : e = .BoolOp x.1 x.2.1 x.2.2 := by cases e <;> first | (cases h; done) | (cases h; exact rfl)
theorem asCmp_of {x : Expr × List CmpOp × List Expr} (h : asCmp e = some x) : ∃ p, e = .Compare x.1 x.2.1 x.2.2 p := by cases e <;> first | (cases h; done) | (cases h; exact ⟨_, rfl⟩)
theorem asIf_of {x : Expr × Expr × Expr} (h : asIf e = some x) : ∃ p, e = .IfExp x.1 x.2.1 x.2.2 p := by cases e <;> first | (cases h; done) | (cases h; exact ⟨_, rfl⟩)
theorem asSub_of {x : Expr × Expr} (h : asSub e = some x) : ∃ p, e = .Subscript x.1 x.2 p := by cases e <;> first | (cases h; done) | (cases h; exact ⟨_, rfl⟩)
theorem asSlf_of {x : Expr} (h : asSlf e = some x) : ∃ p, e = .Slice (some x) none none p := by
  unfold asSlf at h
  split at h
  · cases h; exact ⟨_, rfl⟩
  · cases h
theorem asSlt_of {x : Expr} (h : asSlt e = some x) : ∃ p, e = .Slice none (some x) none p := by
  unfold asSlt at h
  split at h
  · cases h; exact ⟨_, rfl⟩
  · cases h
theorem asCall_of {x : Str × List Expr} (h : asCall e = some x) : ∃ p q, e = .Call (.Name x.1 p) x.2 [] q := by
  unfold asCall at h
  split at h
  · cases h; exact ⟨_, _, rfl⟩
  · cases h
theorem asMeth_of {x : Expr × Str × Bool × List Expr} (h : asMeth e = some x) : ∃ (ap q : Pos), e = .Call (.Attribute x.1 x.2.1 ap) x.2.2.2 [] q ∧ (ap.endLine == q.line) = x.2.2.1 := by
  unfold asMeth at h
  split at h
  · cases h; exact ⟨_, _, rfl, rfl⟩
  · cases h
theorem asLc_of {x : Expr × Expr × Expr × List Expr × Scope} (h : asLc e = some x) : ∃ p, e = .ListComp x.1 [⟨x.2.1, x.2.2.1, x.2.2.2.1, 0⟩] x.2.2.2.2 p := by
  unfold asLc at h
  split at h
  · cases h; exact ⟨_, rfl⟩
  · cases h
theorem any_of {α : Type} {o : Option α} {p : α → Bool} (h : o.any p = true) : ∃ a, o = some a ∧ p a = true := by
  cases o with
  | none => cases h
  | some a => exact ⟨a, rfl, h⟩
end
mutual
def chkG (ck : Ck) : Tg → Expr → Bool
  | .n i, e => (asName e).any fun x => ck.N[i]? == some x && ck.loc x
  | .t l, e => (asTup e).any fun es => chkGs ck l es
def chkGs (ck : Ck) : Tgs → List Expr → Bool
  | .nil, es => es.isEmpty
  | .cons a l, es => es.head?.any (fun e => chkG ck a e) && chkGs ck l es.tail
end
/-- what may be tested as it stands -/
def tOk : Expr → Bool
  | .Name _ _ => true
  | .Constant _ _ _ => true
  | .Call _ _ _ _ => true
  | .Subscript _ _ _ => true
  | .Compare _ _ _ _ => true
  | .UnaryOp .Not e _ => tOk e
  | .BoolOp _ es _ => tOks es
  | _ => false
where tOks : List Expr → Bool
  | [] => true
  | e :: es => tOk e && tOks es
def isT : E → Bool
  | .bl b => b
  | _ => false
def isSet : Expr → Bool
  | .Set _ _ _ => true
  | _ => false
mutual
def chkE (T : Tbl) : Nat → Ck → Expr → E → Bool
  | 0, _, _, _ => false
  | n + 1, ck, e, m => ((asBool e).any fun q => q.2.1.length == 1 && q.2.1.head?.any fun e1 => chkE T n ck e1 m) || chkM T n ck e m
def chkM (T : Tbl) : Nat → Ck → Expr → E → Bool
  | 0, _, _, _ => false
  | n + 1, ck, e, m => match m with
    | .var i => (asName e).any fun x => ck.N[i]? == some x && (ck.vis x && (!(x == sDbg) && !(x == sCld)))
    | .stuck => true
    | .non => (asCst e).any fun c => c == .none
    | .bl b => (asCst e).any fun c => c == .bool b
    | .int i => (asCst e).any fun c => c == .int i
    | .str x => (asCst e).any fun c => c == .str x
    | .gi i => (asName e).any fun x => ck.gl x && (T.gi.contains (x, i) && !(x == sDbg))
    | .gs i => (asName e).any fun x => ck.gl x && (T.gs.contains (x, i) && !(x == sDbg))
    | .tup l => (asTup e).any fun es => noStar es && chkEs T n ck es l
    | .lst l => (asLst e).any fun es => noStar es && chkEs T n ck es l
    | .bin o a b => (asBin e).any fun q => q.2.1 == opN o && (chkE T n ck q.1 a && chkE T n ck q.2.2 b)
    | .neg a => (asUn e).any fun q => q.1 == .USub && chkE T n ck q.2 a
    | .not_ a => (asUn e).any fun q => q.1 == .Not && chkE T n ck q.2 a
    | .and_ a b => (asBool e).any fun q => q.1 == .And && (decide (2 ≤ q.2.1.length) && (q.2.1.head?.any (fun e1 => chkE T n ck e1 a) && chkE T n ck (.BoolOp .And q.2.1.tail q.2.2) b))
    | .or_ a b => (asBool e).any fun q => q.1 == .Or && (decide (2 ≤ q.2.1.length) && (q.2.1.head?.any (fun e1 => chkE T n ck e1 a) && chkE T n ck (.BoolOp .Or q.2.1.tail q.2.2) b))
    | .cmp c a b => (asCmp e).any fun q => q.2.1 == [cmN c] && (q.2.2.length == 1 && q.2.2.head?.any fun eb => !behindInMarks (cmN c) eb && (chkE T n ck q.1 a && chkE T n ck eb b))
    | .chn c c' a b d => (asCmp e).any fun q => q.2.1 == [cmN c, cmN c'] && (q.2.2.length == 2 && (q.2.2[0]?).any fun eb => (q.2.2[1]?).any fun ed => !lastMarks [cmN c, cmN c'] [eb, ed] && (chkE T n ck q.1 a && (chkE T n ck eb b && chkE T n ck ed d)))
    | .ife t a b => (asIf e).any fun q => tOk q.1 && (chkE T n ck q.1 t && (chkE T n ck q.2.1 a && chkE T n ck q.2.2 b))
    | .sub a i => (asSub e).any fun q => plainIx q.2 && (chkE T n ck q.1 a && chkE T n ck q.2 i)
    | .slf a i => (asSub e).any fun q => (asSlf q.2).any fun ei => chkE T n ck q.1 a && chkE T n ck ei i
    | .slt a i => (asSub e).any fun q => (asSlt q.2).any fun ei => chkE T n ck q.1 a && chkE T n ck ei i
    | .call f l => (asCall e).any fun q => (T.fns[f]?).any (fun p => p.1 == q.1) && (ck.gl q.1 && (!(q.1 == sDbg) && (!q.2.isEmpty && (noStar q.2 && chkEs T n ck q.2 l))))
    | .bi f l => (asCall e).any fun q => q.1 == biS f && (ck.gl q.1 && (!q.2.isEmpty && (noStar q.2 && chkEs T n ck q.2 l)))
    | .sset l => (asCall e).any fun q => q.1 == sSrt && (ck.gl q.1 && (q.2.length == 1 && q.2.head?.any fun e2 => (asCall e2).any fun q2 => q2.1 == sSet && (ck.gl q2.1 && (!q2.2.isEmpty && (noStar q2.2 && chkEs T n ck q2.2 l)))))
    | .rev a => (asSub e).any fun q => (asBack q.2).any fun ei => chkE T n ck q.1 a && chkE T n ck ei (.neg (.int 1))
    | .isi a t => (asCall e).any fun q => q.1 == sIsi && (q.2.length == 2 && ((q.2[0]?).any fun ea => (q.2[1]?).any fun et => (asName et).any fun y => y == tyS t && (tyOk t && (ck.gl q.1 && (ck.gl y && (noStar [ea] && chkE T n ck ea a))))))
    | .mth m a l => (asMeth e).any fun q => m.writes && (!(m == .remove) && (q.2.1 == mtS m && (plainBase q.1 && (q.2.2.1 && (chkE T n ck q.1 a && ((q.2.2.2.isEmpty && l.len == 0) || (!q.2.2.2.isEmpty && (noStar q.2.2.2 && (decide (q.2.2.2.length < 30) && chkEs T n ck q.2.2.2 l)))))))))
    | .cmp1 hf el g it c own => (asLc e).any fun q => blkC ck.N ck.sc q.2.2.2.2 (ownP ck.N own) && (g.sub own && (chkG (ckBlk ck q.2.2.2.2) g q.2.1 && (chkE T n (ckBlk ck q.2.2.2.2) q.1 el && (chkI T n ck q.2.1 q.2.2.1 it &&
        ((q.2.2.2.1.isEmpty && isT c) || (q.2.2.2.1.length == 1 && q.2.2.2.1.head?.any fun ec => tOk ec && chkE T n (ckBlk ck q.2.2.2.2) ec c))))))
    | .told k a => (k == 0 && ck.top) && (asTold e).any fun q => T.tl == some q.1 && (ck.gl q.1 && (!(q.1 == sDbg) && (isNoArgs q.2.1 && (lamSB ck.sc q.2.2.2 && chkE T.noTl n (ckLam ck q.2.2.2) q.2.2.1 a))))
    | _ => false
def chkEs (T : Tbl) : Nat → Ck → List Expr → Es → Bool
  | 0, _, _, _ => false
  | n + 1, ck, es, l => match l with
    | .nil => es.isEmpty
    | .cons a l => es.head?.any (fun e => chkE T n ck e a) && chkEs T n ck es.tail l
def chkI (T : Tbl) : Nat → Ck → Expr → Expr → It → Bool
  | 0, _, _, _, _ => false
  | n + 1, ck, tg, ie, it => match it with
    | .seq a => !isSet ie && chkE T n ck ie a
    | .rng1 a => (asCall ie).any fun q => q.1 == sRng && (ck.gl q.1 && (q.2.length == 1 && (noStar q.2 && chkEs T n ck q.2 (.cons a .nil))))
    | .zip a b => ((asTup tg).isSome || (asName tg).isSome) && (asCall ie).any fun q => q.1 == sZip && (ck.gl q.1 && (q.2.length == 2 && (noStar q.2 && chkEs T n ck q.2 (.cons a (.cons b .nil)))))
    | _ => false
end
/-- what the run has of a text -/
structure Gd (M : Wd) (T : Tbl) (P : Program) (w : World) (K : PySem.W.Frag) (mg : Str → Option Value) (base : Heap) (A : Around) (C : Ctx) (k : Nat) : Prop where
  room : Room k A
  blt : ∀ x ∈ blts, mg x = none
  gi : ∀ p ∈ T.gi, ∃ u, mg p.1 = some u ∧ RelV (.int p.2) u
  gs : ∀ p ∈ T.gs, ∃ u, mg p.1 = some u ∧ RelV (.str p.2) u
  fns : ∀ (ix : Nat) (p : Str × Nat), T.fns[ix]? = some p → ∃ (fa : Addr) (fd : FuncData) (ps : List Str), mg p.1 = some (.ref fa) ∧ PySem.W.keepIn K (.ref fa) = true ∧ Binds K fd ps [] ∧ ps.length = p.2 ∧ FnOk P w K mg base (L2N.CX P w) k fa fd ps (SpF M P w K C.cal p.2 ix)
  cal : ∀ (ix : Nat) (p : Str × Nat) (ss : List Slot) (r : Except Nat W × List Slot), T.fns[ix]? = some p → C.cal ix ss = some r → ss.length = p.2
  gh : ∀ k v, ¬ M.gh k v
  told : ∀ x, T.tl = some x → ∃ g, mg x = some (.ref g) ∧ PySem.W.keepIn K (.ref g) = true ∧ Room (k + 2) A ∧ TellP M P w K mg base k x g
structure ScX (M : Wd) (ck : Ck) (X : Cx) : Prop where
  n : X.N = ck.N
  sc : X.env.scope = ck.sc
  fn : ∀ x, ck.fn x = true → X.fn x = true
  nd : X.N.Nodup
  calm : X.calm = true
  lam : ck.top = true → LamOk M X
end Mi
set_option Elab.async false
set_option linter.all false
set_option maxRecDepth 100000
set_option maxHeartbeats 4000000
/-! MiT: the checker of expressions is sound. -/
namespace Mi
open PySem PySem.Spec PyProof.Rows L2 LamX
section
variable {M : Wd} {X Y : Cx} {H H' H0 : Hp} {σ σ' : St} {ρ ρ' : Env} {fs fs' fs0 : List (List Addr)} {pins : List (Addr × Obj)} {s s' : Shared} {C : Ctx} {pos : Pos} {np k : Nat} {T : Tbl} {ck : Ck}
theorem ba2 {a b : Bool} (h : (a && b) = true) : a = true ∧ b = true := Bool.and_eq_true _ _ ▸ h
theorem vis_of (sx : ScX M ck X) {x : Str} (h : ck.vis x = true) : Vis X.env.scope x := by
  unfold Ck.vis at h
  unfold Vis
  rw [sx.sc]
  rw [Bool.or_eq_true, Bool.or_eq_true, beq_iff_eq, beq_iff_eq, beq_iff_eq] at h
  rcases h with (h | h) | h
  · exact .inl h
  · exact .inr (.inl h)
  · exact .inr (.inr h)
theorem gl_of (sx : ScX M ck X) {x : Str} (h : ck.gl x = true) : Gl X x := by
  unfold Gl Env.kindOf
  rw [sx.sc]
  exact beq_iff_eq.mp h
theorem loc_of (sx : ScX M ck X) {x : Str} (h : ck.loc x = true) : L2.Loc X.env.scope x ∧ (X.fn x = true ∨ X.env.scope.names.lookup x = some .local) := by
  unfold Ck.loc at h
  unfold L2.Loc
  rw [sx.sc]
  rw [Bool.or_eq_true, Bool.and_eq_true, beq_iff_eq, beq_iff_eq] at h
  rcases h with h | h
  · exact ⟨.inl h, .inr h⟩
  · exact ⟨.inr h.1, .inl (sx.fn x h.2)⟩
theorem slot_of (sx : ScX M ck X) {x : Str} {i : Nat} (h : (ck.N[i]? == some x) = true) : X.N[i]? = some x := by
  rw [sx.n]; exact beq_iff_eq.mp h
theorem not_of' {b : Bool} (h : (!b) = true) : b = false := by cases b <;> first | rfl | cases h
theorem ScX.wish {E : Value → Shared → Prop} (sx : ScX M ck X) : ScX M ck (X.wish E) := ⟨sx.n, sx.sc, sx.fn, sx.nd, sx.calm, sx.lam⟩
theorem ScX.blk {scope : Scope} (sx : ScX M ck X) (s : Shared) (H : Hp) (c : Addr) (cl : List (Str × Addr)) (fp : List Addr) : ScX M (ckBlk ck scope) (X.blk s H scope (compEnvC scope cl c X.env) fp) := by
  refine ⟨sx.n, ?_, fun x h => h, sx.nd, sx.calm, (fun z => nomatch z)⟩
  show relabel scope X.env = relS scope ck.sc
  rw [← sx.sc]; rfl
/-! ### targets -/
theorem nameOrTup {g : Tg} {e : Expr} (h : chkG ck g e = true) : (∃ x p, e = .Name x p) ∨ ∃ es k0 p, e = .Tuple es k0 p := by
  cases g with
  | n i =>
    rw [chkG] at h
    obtain ⟨x, hx, _⟩ := any_of h
    obtain ⟨p, rfl⟩ := asName_of hx
    exact .inl ⟨_, _, rfl⟩
  | t l =>
    rw [chkG] at h
    obtain ⟨x, hx, _⟩ := any_of h
    obtain ⟨k0, p, rfl⟩ := asTup_of hx
    exact .inr ⟨_, _, _, rfl⟩
theorem each_cons {g : Tg} {e : Expr} {es : List Expr} {env : PySem.Env} (h : chkG ck g e = true) : assignEach (e :: es) env = (false, assign e env) :: assignEach es env := by
  rcases nameOrTup h with ⟨x, p, rfl⟩ | ⟨l, k0, p, rfl⟩ <;> rfl
theorem chkGs_cons {a : Tg} {l : Tgs} {es : List Expr} (h : chkGs ck (.cons a l) es = true) : ∃ e es', es = e :: es' ∧ chkG ck a e = true ∧ chkGs ck l es' = true := by
  rw [chkGs] at h
  obtain ⟨h1, h2⟩ := ba2 h
  obtain ⟨e, he, h1⟩ := any_of h1
  cases es with
  | nil => cases he
  | cons e' es' => cases he; exact ⟨e, es', rfl, h1, h2⟩
theorem chkGs_nil {es : List Expr} (h : chkGs ck .nil es = true) : es = [] := by
  rw [chkGs] at h
  cases es with
  | nil => rfl
  | cons e es => cases h
theorem each_facts : ∀ {l : Tgs} {es : List Expr} {env : PySem.Env}, chkGs ck l es = true → (assignEach es env).length = l.len ∧ (assignEach es env).findIdx? (·.1) = none
  | .nil, es, env, h => by
    have := chkGs_nil h
    subst this
    exact ⟨rfl, rfl⟩
  | .cons a l, es, env, h => by
    obtain ⟨e, es', rfl, h1, h2⟩ := chkGs_cons h
    obtain ⟨a1, a2⟩ := each_facts (env := env) h2
    rw [each_cons h1]
    refine ⟨by rw [List.length_cons, a1]; rfl, ?_⟩
    rw [List.findIdx?_cons, a2]
    rfl
mutual
theorem chkG_ok (np : Nat) (sx : ScX M ck X) : ∀ (g : Tg) (e : Expr), chkG ck g e = true → PG X e (gD M X (asT np g) np g.sub)
  | .n i, e, h => by
    rw [chkG] at h
    obtain ⟨x, hx, h⟩ := any_of h
    obtain ⟨p, rfl⟩ := asName_of hx
    obtain ⟨h1, h2⟩ := ba2 h
    obtain ⟨l1, l2⟩ := loc_of sx h2
    exact jg_n sx.nd (slot_of sx h1) l1 l2
  | .t l, e, h => by
    rw [chkG] at h
    obtain ⟨x, hx, h⟩ := any_of h
    obtain ⟨k0, p, rfl⟩ := asTup_of hx
    obtain ⟨a1, a2⟩ := each_facts (env := X.env) h
    exact jg_t sx.calm (chkGs_ok np sx l _ h) a1 a2
theorem chkGs_ok (np : Nat) (sx : ScX M ck X) : ∀ (l : Tgs) (es : List Expr), chkGs ck l es = true → PGs X es (gDs M X (asTs np l) np l.sub)
  | .nil, es, h => by
    have := chkGs_nil h
    subst this
    exact jg_nil
  | .cons a l, es, h => by
    obtain ⟨e, es', rfl, h1, h2⟩ := chkGs_cons h
    exact jg_cons (chkG_ok np sx a e h1) (chkGs_ok np sx l es' h2) (by rw [each_cons h1]; rfl)
end
abbrev GdX (M : Wd) (T : Tbl) (C : Ctx) (k : Nat) (X : Cx) : Prop := Gd M T X.prog X.w X.K X.mg X.base X.A C k
theorem Gd.units (g : GdX M T C k X) : Units X := by
  have := g.room.un
  unfold Units
  omega
theorem blt_mem {f : Bi} : biS f ∈ blts := by cases f <;> decide
theorem ty_mem {t : Ty} (h : tyOk t = true) : tyS t ∈ blts := by cases t <;> first | (cases h; done) | decide
/-- what is proved of an expression -/
structure Jx (M : Wd) (X : Cx) (C : Ctx) (e : Expr) (m : E) : Prop where
  je : JE M X (evE C m) e
  jt : tOk e = true → JT M X (evT C m) e
  jw : ∀ op es pos, e = .BoolOp op es pos → tOk e = true → JW M X (evT C m) e
theorem Jx.plain {e : Expr} {m : E} (h : JE M X (evE C m) e) (nb : ∀ op es pos, e ≠ .BoolOp op es pos) (he : tOk e = true → isTrue e X.env (eval e X.env) = (do let v ← eval e X.env; standAt e.pos; holding [v] (truthy v))) : Jx M X C e m :=
  ⟨h, fun t => jt_plain h (he t), fun op es pos z => absurd z (nb op es pos)⟩
theorem head_of {α : Type} {l : List α} {p : α → Bool} (h : l.head?.any p = true) : ∃ a r, l = a :: r ∧ p a = true := by
  obtain ⟨a, ha, h⟩ := any_of h
  cases l with
  | nil => cases ha
  | cons x r => cases ha; exact ⟨a, r, rfl, h⟩
theorem one_of {α : Type} {l : List α} {p : α → Bool} (h : (l.length == 1 && l.head?.any p) = true) : ∃ a, l = [a] ∧ p a = true := by
  obtain ⟨h1, h2⟩ := ba2 h
  obtain ⟨a, r, rfl, h3⟩ := head_of h2
  have h1 := beq_iff_eq.mp h1
  cases r with
  | nil => exact ⟨a, rfl, h3⟩
  | cons b r => simp at h1
theorem two_of {α : Type} {l : List α} (h : (l.length == 2) = true) : ∃ a b, l = [a, b] := by
  have h := beq_iff_eq.mp h
  match l, h with
  | [a, b], _ => exact ⟨a, b, rfl⟩
theorem ne_of' {α : Type} {l : List α} (h : (!l.isEmpty) = true) : ∃ a r, l = a :: r := by
  cases l with
  | nil => cases h
  | cons a r => exact ⟨a, r, rfl⟩
/-- what is shown at each fuel -/
structure Snd (M : Wd) (T : Tbl) (C : Ctx) (k n : Nat) : Prop where
  e : ∀ (ck : Ck) (X : Cx) (e : Expr) (m : E), ScX M ck X → GdX M T C k X → chkE T n ck e m = true → Jx M X C e m
  m : ∀ (ck : Ck) (X : Cx) (e : Expr) (m : E), ScX M ck X → GdX M T C k X → chkM T n ck e m = true → Jx M X C e m
  a : ∀ (ck : Ck) (X : Cx) (es : List Expr) (l : Es), ScX M ck X → GdX M T C k X → noStar es = true → chkEs T n ck es l = true → JA M X (evEs C l) es
  i : ∀ (ck : Ck) (X : Cx) (tg ie : Expr) (it : It), ScX M ck X → GdX M T C k X → chkI T n ck tg ie it = true → (PI X tg ie (wiW M X (evI C it)) ∧ ∀ x, foldedSetIterable ie X.env x = pure x)
variable {n : Nat}
theorem snd_e (ih : Snd M T C k n) (ck : Ck) (X : Cx) (e : Expr) (m : E) (sx : ScX M ck X) (g : GdX M T C k X) (h : chkE T (n + 1) ck e m = true) : Jx M X C e m := by
  rw [chkE, Bool.or_eq_true] at h
  rcases h with h | h
  · obtain ⟨q, hq, h⟩ := any_of h
    obtain ⟨op, es, p⟩ := q
    have he := asBool_of hq
    subst he
    obtain ⟨e1, e0, h⟩ := one_of h
    have e0 : es = [e1] := e0
    subst e0
    have q := ih.e ck X e1 m sx g h
    have w : tOk (.BoolOp op [e1] p) = true → JW M X (evT C m) (.BoolOp op [e1] p) := fun t => by
      have t : (tOk e1 && true) = true := t
      have t1 := (ba2 t).1
      cases op with
      | And => exact jw_and1 (q.jt t1)
      | Or => exact jw_or1 (q.jt t1)
    exact ⟨je_one q.je, fun t => (w t).jt, fun _ _ _ _ t => w t⟩
  · exact ih.m ck X e m sx g h
theorem snd_a (ih : Snd M T C k n) (ck : Ck) (X : Cx) (es : List Expr) (l : Es) (sx : ScX M ck X) (g : GdX M T C k X) (hs : noStar es = true) (h : chkEs T (n + 1) ck es l = true) : JA M X (evEs C l) es := by
  cases l with
  | nil =>
    rw [chkEs] at h
    cases es with
    | nil => exact ja_nil
    | cons e es => cases h
  | cons a l =>
    rw [chkEs] at h
    obtain ⟨h1, h2⟩ := ba2 h
    obtain ⟨e, r, rfl, h1⟩ := head_of h1
    exact ja_cons (ih.e ck X e a sx g h1).je (ih.a ck X r l sx g (noStar_tail hs) h2) (star_cons hs)
theorem folded_plain {ie : Expr} {env : PySem.Env} (h : isSet ie = false) (x : Value) : foldedSetIterable ie env x = pure x := by
  cases ie <;> first | rfl | cases h
theorem snd_i (ih : Snd M T C k n) (ck : Ck) (X : Cx) (tg ie : Expr) (it : It) (sx : ScX M ck X) (g : GdX M T C k X) (h : chkI T (n + 1) ck tg ie it = true) : PI X tg ie (wiW M X (evI C it)) ∧ ∀ x, foldedSetIterable ie X.env x = pure x := by
  cases it with
  | seq a =>
    rw [chkI] at h
    obtain ⟨h1, h2⟩ := ba2 h
    exact ⟨pi_seqW (ih.e ck X ie a sx g h2).je, folded_plain (not_of' h1)⟩
  | rng1 a =>
    rw [chkI] at h
    obtain ⟨q, hq, h⟩ := any_of h
    obtain ⟨x, es⟩ := q
    obtain ⟨p, pos, rfl⟩ := asCall_of hq
    obtain ⟨h1, h⟩ := ba2 h
    obtain ⟨h2, h⟩ := ba2 h
    obtain ⟨h3, h⟩ := ba2 h
    obtain ⟨h4, h⟩ := ba2 h
    have hx : x = sRng := beq_iff_eq.mp h1
    subst hx
    have h3 : es.length = 1 := beq_iff_eq.mp h3
    match es, h3 with
    | [ea], _ =>
    exact ⟨pi_rng1 (wi := wiW M X) (gl_of sx h2) (g.blt _ (by decide)) h4 (ih.a ck X [ea] _ sx g h4 h) (fun m => .inl rfl), fun _ => rfl⟩
  | zip a b =>
    rw [chkI] at h
    obtain ⟨h0, h9⟩ := ba2 h
    clear h
    obtain ⟨q, hq, h⟩ := any_of h9
    obtain ⟨x, es⟩ := q
    obtain ⟨p, pos, rfl⟩ := asCall_of hq
    obtain ⟨h1, h⟩ := ba2 h
    obtain ⟨h2, h⟩ := ba2 h
    obtain ⟨h3, h⟩ := ba2 h
    obtain ⟨h4, h⟩ := ba2 h
    have hx : x = sZip := beq_iff_eq.mp h1
    subst hx
    obtain ⟨ea, eb, e0⟩ := two_of h3
    have e0 : es = [ea, eb] := e0
    subst e0
    rw [Bool.or_eq_true] at h0
    rcases h0 with h0 | h0
    · obtain ⟨ts, ht⟩ := Option.isSome_iff_exists.mp h0
      obtain ⟨kk, tp, rfl⟩ := asTup_of ht
      exact ⟨pi_zipW (gl_of sx h2) (g.blt _ (by decide)) h4 (ih.a ck X [ea, eb] _ sx g h4 h), fun _ => rfl⟩
    · obtain ⟨y, hy⟩ := Option.isSome_iff_exists.mp h0
      obtain ⟨py, rfl⟩ := asName_of hy
      exact ⟨pi_zip1W (gl_of sx h2) (g.blt _ (by decide)) h4 (ih.a ck X [ea, eb] _ sx g h4 h), fun _ => rfl⟩
  | _ => rw [chkI] at h <;> first | cases h | (intros; contradiction)
theorem gD_same {m : D → Env → Option Env} {np : Nat} {sb : List Nat → Bool} {v : V} {Q : L2.St → Hp → Prop} (w : SameW X Y) (h : gD M X m np sb v σ H Q) : gD M Y m np sb v σ H Q := by
  obtain ⟨d, ρ, fs, ρ', r, sr, hm, k⟩ := h
  exact ⟨d, ρ, fs, ρ', w.rp r, w.sr sr, hm, fun σ' fs' sr' => k σ' fs' (w.symm.sr sr')⟩
theorem ScX.lamN {scope : Scope} (sx : ScX M ck X) (A : Around) (outer : List PySem.Env) (s : Shared) (H : Hp) (E : XK) (f cN : Addr) : ScX M (ckLam ck scope) (Mi.lamN X A outer s H E scope f cN) :=
  ⟨sx.n, rfl, (fun _ z => nomatch z), sx.nd, rfl, (fun z => nomatch z)⟩
theorem Gd.noTl {P : Program} {w : World} {K : PySem.W.Frag} {mg : Str → Option Value} {base : Heap} {A A' : Around} (g : Gd M T P w K mg base A C k) (hr : Room k A') : Gd M T.noTl P w K mg base A' C k :=
  ⟨hr, g.blt, g.gi, g.gs, g.fns, g.cal, g.gh, fun _ z => nomatch z⟩
theorem snd_m (ih : Snd M T C k n) (ih0 : Snd M T.noTl C k n) (ck : Ck) (X : Cx) (e : Expr) (m : E) (sx : ScX M ck X) (g : GdX M T C k X) (h : chkM T (n + 1) ck e m = true) : Jx M X C e m := by
  have hu : Units X := g.units
  cases m with
  | stuck =>
    have je : JE M X (evE C .stuck) e := fun pins s σ H ρ fs r h => by rw [evE] at h; cases h
    have jt : ∀ wh, ∀ (pins : List (Addr × Obj)) (s : Shared) (σ : L2.St) (H : Hp) (ρ : Env) (fs : List (List Addr)) (r : Rs Bool), evT C .stuck ρ = some r → Inv X pins σ H s → SR M X H σ ρ fs → Tabs M.T H → wpAny (model X.prog X.w) X.A (isTrue e X.env wh) (POt M X pins σ H fs r) (PX M X σ H fs r) s := fun wh pins s σ H ρ fs r h => by
      unfold evT at h; rw [evE] at h; cases h
    exact ⟨je, fun _ => jt _, fun _ _ _ _ _ => jt⟩
  | var i =>
    rw [chkM] at h
    obtain ⟨x, hx, h⟩ := any_of h
    obtain ⟨p, rfl⟩ := asName_of hx
    obtain ⟨h1, h⟩ := ba2 h
    obtain ⟨h2, h⟩ := ba2 h
    obtain ⟨h3, h4⟩ := ba2 h
    exact Jx.plain (je_var (slot_of sx h1) (vis_of sx h2) (not_of' h3) (not_of' h4)) (fun _ _ _ z => nomatch z) fun _ => rfl
  | non =>
    rw [chkM] at h
    obtain ⟨x, hx, h⟩ := any_of h
    obtain ⟨k0, p, rfl⟩ := asCst_of hx
    have e := beq_iff_eq.mp h
    subst e
    exact Jx.plain je_non (fun _ _ _ z => nomatch z) fun _ => rfl
  | bl b =>
    rw [chkM] at h
    obtain ⟨x, hx, h⟩ := any_of h
    obtain ⟨k0, p, rfl⟩ := asCst_of hx
    have e := beq_iff_eq.mp h
    subst e
    exact Jx.plain je_bl (fun _ _ _ z => nomatch z) fun _ => rfl
  | int i =>
    rw [chkM] at h
    obtain ⟨x, hx, h⟩ := any_of h
    obtain ⟨k0, p, rfl⟩ := asCst_of hx
    have e := beq_iff_eq.mp h
    subst e
    exact Jx.plain je_int (fun _ _ _ z => nomatch z) fun _ => rfl
  | str z =>
    rw [chkM] at h
    obtain ⟨x, hx, h⟩ := any_of h
    obtain ⟨k0, p, rfl⟩ := asCst_of hx
    have e := beq_iff_eq.mp h
    subst e
    exact Jx.plain je_str (fun _ _ _ z => nomatch z) fun _ => rfl
  | gi i =>
    rw [chkM] at h
    obtain ⟨x, hx, h⟩ := any_of h
    obtain ⟨p, rfl⟩ := asName_of hx
    obtain ⟨h1, h⟩ := ba2 h
    obtain ⟨h2, h3⟩ := ba2 h
    obtain ⟨u, hm, hr⟩ := g.gi (x, i) (by simpa using h2)
    exact Jx.plain (je_gi (gl_of sx h1) hm hr (not_of' h3)) (fun _ _ _ z => nomatch z) fun _ => rfl
  | gs i =>
    rw [chkM] at h
    obtain ⟨x, hx, h⟩ := any_of h
    obtain ⟨p, rfl⟩ := asName_of hx
    obtain ⟨h1, h⟩ := ba2 h
    obtain ⟨h2, h3⟩ := ba2 h
    obtain ⟨u, hm, hr⟩ := g.gs (x, i) (by simpa using h2)
    exact Jx.plain (je_gs (gl_of sx h1) hm hr (not_of' h3)) (fun _ _ _ z => nomatch z) fun _ => rfl
  | tup l =>
    rw [chkM] at h
    obtain ⟨x, hx, h⟩ := any_of h
    obtain ⟨k0, p, rfl⟩ := asTup_of hx
    obtain ⟨h1, h2⟩ := ba2 h
    exact Jx.plain (je_tup (ih.a ck X x l sx g h1 h2)) (fun _ _ _ z => nomatch z) fun z => nomatch z
  | lst l =>
    rw [chkM] at h
    obtain ⟨x, hx, h⟩ := any_of h
    obtain ⟨p, rfl⟩ := asLst_of hx
    obtain ⟨h1, h2⟩ := ba2 h
    exact Jx.plain (je_lst (ih.a ck X x l sx g h1 h2)) (fun _ _ _ z => nomatch z) fun z => nomatch z
  | bin o a b =>
    rw [chkM] at h
    obtain ⟨q, hq, h⟩ := any_of h
    obtain ⟨ea, op, eb⟩ := q
    obtain ⟨p, rfl⟩ := asBin_of hq
    obtain ⟨h1, h⟩ := ba2 h
    obtain ⟨h2, h3⟩ := ba2 h
    have e : op = opN o := beq_iff_eq.mp h1
    subst e
    exact Jx.plain (je_bin (ih.e ck X ea a sx g h2).je (ih.e ck X eb b sx g h3).je) (fun _ _ _ z => nomatch z) fun z => nomatch z
  | neg a =>
    rw [chkM] at h
    obtain ⟨q, hq, h⟩ := any_of h
    obtain ⟨op, ea⟩ := q
    obtain ⟨p, rfl⟩ := asUn_of hq
    obtain ⟨h1, h2⟩ := ba2 h
    have e : op = .USub := beq_iff_eq.mp h1
    subst e
    exact Jx.plain (je_neg (ih.e ck X ea a sx g h2).je) (fun _ _ _ z => nomatch z) fun z => nomatch z
  | not_ a =>
    rw [chkM] at h
    obtain ⟨q, hq, h⟩ := any_of h
    obtain ⟨op, ea⟩ := q
    obtain ⟨p, rfl⟩ := asUn_of hq
    obtain ⟨h1, h2⟩ := ba2 h
    have e : op = .Not := beq_iff_eq.mp h1
    subst e
    have q := ih.e ck X ea a sx g h2
    exact ⟨je_not q.je, fun t => jt_not (q.jt t), fun _ _ _ z => nomatch z⟩
  | and_ a b =>
    rw [chkM] at h
    obtain ⟨q, hq, h⟩ := any_of h
    obtain ⟨op, es, p⟩ := q
    have he := asBool_of hq
    subst he
    obtain ⟨h1, h⟩ := ba2 h
    obtain ⟨h2, h⟩ := ba2 h
    obtain ⟨h3, h4⟩ := ba2 h
    have e : op = .And := beq_iff_eq.mp h1
    subst e
    obtain ⟨e1, r, e0, h3⟩ := head_of h3
    have e0 : es = e1 :: r := e0
    subst e0
    have h2 : 2 ≤ (e1 :: r).length := of_decide_eq_true h2
    match r, h2, h4 with
    | e2 :: r, _, h4 =>
    have q1 := ih.e ck X e1 a sx g h3
    have q2 := ih.e ck X (.BoolOp .And (e2 :: r) p) b sx g h4
    have w : tOk (.BoolOp .And (e1 :: e2 :: r) p) = true → JW M X (evT C (.and_ a b)) (.BoolOp .And (e1 :: e2 :: r) p) := fun t => by
      have t : (tOk e1 && tOk.tOks (e2 :: r)) = true := t
      obtain ⟨t1, t2⟩ := ba2 t
      exact jw_and (q1.jt t1) (q2.jw _ _ _ rfl t2)
    exact ⟨je_and q1.je q2.je, fun t => (w t).jt, fun _ _ _ _ t => w t⟩
  | or_ a b =>
    rw [chkM] at h
    obtain ⟨q, hq, h⟩ := any_of h
    obtain ⟨op, es, p⟩ := q
    have he := asBool_of hq
    subst he
    obtain ⟨h1, h⟩ := ba2 h
    obtain ⟨h2, h⟩ := ba2 h
    obtain ⟨h3, h4⟩ := ba2 h
    have e : op = .Or := beq_iff_eq.mp h1
    subst e
    obtain ⟨e1, r, e0, h3⟩ := head_of h3
    have e0 : es = e1 :: r := e0
    subst e0
    have h2 : 2 ≤ (e1 :: r).length := of_decide_eq_true h2
    match r, h2, h4 with
    | e2 :: r, _, h4 =>
    have q1 := ih.e ck X e1 a sx g h3
    have q2 := ih.e ck X (.BoolOp .Or (e2 :: r) p) b sx g h4
    have w : tOk (.BoolOp .Or (e1 :: e2 :: r) p) = true → JW M X (evT C (.or_ a b)) (.BoolOp .Or (e1 :: e2 :: r) p) := fun t => by
      have t : (tOk e1 && tOk.tOks (e2 :: r)) = true := t
      obtain ⟨t1, t2⟩ := ba2 t
      exact jw_or (q1.jt t1) (q2.jw _ _ _ rfl t2)
    exact ⟨je_or q1.je q2.je, fun t => (w t).jt, fun _ _ _ _ t => w t⟩
  | cmp c a b =>
    rw [chkM] at h
    obtain ⟨q, hq, h⟩ := any_of h
    obtain ⟨ea, ops, es⟩ := q
    obtain ⟨p, rfl⟩ := asCmp_of hq
    obtain ⟨h1, h⟩ := ba2 h
    obtain ⟨eb, e0, h⟩ := one_of h
    obtain ⟨h2, h⟩ := ba2 h
    obtain ⟨h3, h4⟩ := ba2 h
    have e : ops = [cmN c] := beq_iff_eq.mp h1
    subst e
    have e0 : es = [eb] := e0
    subst e0
    exact ⟨je_cmp hu (ih.e ck X ea a sx g h3).je (ih.e ck X eb b sx g h4).je (not_of' h2), fun _ => jt_cmp hu (ih.e ck X ea a sx g h3).je (ih.e ck X eb b sx g h4).je (not_of' h2), fun _ _ _ z => nomatch z⟩
  | chn c c' a b d =>
    rw [chkM] at h
    obtain ⟨q, hq, h⟩ := any_of h
    obtain ⟨ea, ops, es⟩ := q
    obtain ⟨p, rfl⟩ := asCmp_of hq
    obtain ⟨h1, h⟩ := ba2 h
    obtain ⟨h2, h⟩ := ba2 h
    obtain ⟨x1, x2, e0⟩ := two_of h2
    have e0 : es = [x1, x2] := e0
    subst e0
    obtain ⟨eb, e1, h⟩ := any_of h
    obtain ⟨ed, e2, h⟩ := any_of h
    have e1 : some x1 = some eb := e1
    have e2 : some x2 = some ed := e2
    cases e1
    cases e2
    obtain ⟨h3, h⟩ := ba2 h
    obtain ⟨h4, h⟩ := ba2 h
    obtain ⟨h5, h6⟩ := ba2 h
    have e : ops = [cmN c, cmN c'] := beq_iff_eq.mp h1
    subst e
    exact ⟨je_chn hu (ih.e ck X ea a sx g h4).je (ih.e ck X x1 b sx g h5).je (ih.e ck X x2 d sx g h6).je (not_of' h3), fun _ => jt_chn hu (ih.e ck X ea a sx g h4).je (ih.e ck X x1 b sx g h5).je (ih.e ck X x2 d sx g h6).je (not_of' h3), fun _ _ _ z => nomatch z⟩
  | ife t a b =>
    rw [chkM] at h
    obtain ⟨q, hq, h⟩ := any_of h
    obtain ⟨et, ea, eb⟩ := q
    obtain ⟨p, rfl⟩ := asIf_of hq
    obtain ⟨h1, h⟩ := ba2 h
    obtain ⟨h2, h⟩ := ba2 h
    obtain ⟨h3, h4⟩ := ba2 h
    exact Jx.plain (je_ife ((ih.e ck X et t sx g h2).jt h1) (ih.e ck X ea a sx g h3).je (ih.e ck X eb b sx g h4).je) (fun _ _ _ z => nomatch z) fun z => nomatch z
  | sub a i =>
    rw [chkM] at h
    obtain ⟨q, hq, h⟩ := any_of h
    obtain ⟨ea, ei⟩ := q
    obtain ⟨p, rfl⟩ := asSub_of hq
    obtain ⟨h1, h⟩ := ba2 h
    obtain ⟨h2, h3⟩ := ba2 h
    exact Jx.plain (je_sub (ih.e ck X ea a sx g h2).je (ih.e ck X ei i sx g h3).je h1) (fun _ _ _ z => nomatch z) fun _ => rfl
  | slf a i =>
    rw [chkM] at h
    replace h := any_of h
    obtain ⟨q, hq, h⟩ := h
    obtain ⟨ea, es⟩ := q
    obtain ⟨p, rfl⟩ := asSub_of hq
    obtain ⟨ei, he, h⟩ := any_of h
    obtain ⟨p2, e0⟩ := asSlf_of he
    have e0 : es = .Slice (some ei) none none p2 := e0
    subst e0
    obtain ⟨h2, h3⟩ := ba2 h
    exact Jx.plain (je_slf (ih.e ck X ea a sx g h2).je (ih.e ck X ei i sx g h3).je) (fun _ _ _ z => nomatch z) fun _ => rfl
  | slt a i =>
    rw [chkM] at h
    replace h := any_of h
    obtain ⟨q, hq, h⟩ := h
    obtain ⟨ea, es⟩ := q
    obtain ⟨p, rfl⟩ := asSub_of hq
    obtain ⟨ei, he, h⟩ := any_of h
    obtain ⟨p2, e0⟩ := asSlt_of he
    have e0 : es = .Slice none (some ei) none p2 := e0
    subst e0
    obtain ⟨h2, h3⟩ := ba2 h
    exact Jx.plain (je_slt (ih.e ck X ea a sx g h2).je (ih.e ck X ei i sx g h3).je) (fun _ _ _ z => nomatch z) fun _ => rfl
  | call f l =>
    rw [chkM] at h
    obtain ⟨q, hq, h⟩ := any_of h
    obtain ⟨x, es⟩ := q
    obtain ⟨p, pos, rfl⟩ := asCall_of hq
    obtain ⟨h1, h⟩ := ba2 h
    obtain ⟨h2, h⟩ := ba2 h
    obtain ⟨h3, h⟩ := ba2 h
    obtain ⟨h4, h⟩ := ba2 h
    obtain ⟨h5, h6⟩ := ba2 h
    obtain ⟨pr, hp, h1⟩ := any_of h1
    have ex : pr.1 = x := beq_iff_eq.mp h1
    obtain ⟨e1, r, e0⟩ := ne_of' h4
    have e0 : es = e1 :: r := e0
    subst e0
    obtain ⟨fa, fd, ps, g1, g2, g3, g4, g5⟩ := g.fns f pr hp
    rw [ex] at g1
    rw [← g4] at g5
    exact Jx.plain (je_call g5 g.room (gl_of sx h2) g1 g2 g3 (not_of' h3) h5 (fun ss r0 hc => by rw [g4]; exact g.cal f pr ss r0 hp hc) (ih.a ck X (e1 :: r) l sx g h5 h6)) (fun _ _ _ z => nomatch z) fun _ => rfl
  | bi f l =>
    rw [chkM] at h
    obtain ⟨q, hq, h⟩ := any_of h
    obtain ⟨x, es⟩ := q
    obtain ⟨p, pos, rfl⟩ := asCall_of hq
    obtain ⟨h1, h⟩ := ba2 h
    obtain ⟨h2, h⟩ := ba2 h
    obtain ⟨h4, h⟩ := ba2 h
    obtain ⟨h5, h6⟩ := ba2 h
    have ex : x = biS f := beq_iff_eq.mp h1
    subst ex
    obtain ⟨e1, r, e0⟩ := ne_of' h4
    have e0 : es = e1 :: r := e0
    subst e0
    exact Jx.plain (je_bi hu sx.calm (gl_of sx h2) (g.blt _ blt_mem) (ih.a ck X (e1 :: r) l sx g h5 h6) (star_cons h5) (star_any (noStar_tail h5))) (fun _ _ _ z => nomatch z) fun _ => rfl
  | sset l =>
    rw [chkM] at h
    obtain ⟨q, hq, g1⟩ := any_of h
    clear h
    obtain ⟨x, es⟩ := q
    obtain ⟨p, pos, rfl⟩ := asCall_of hq
    obtain ⟨h1, g2⟩ := ba2 g1
    clear g1
    obtain ⟨h2, g3⟩ := ba2 g2
    clear g2
    obtain ⟨e2, e0, g4⟩ := one_of g3
    clear g3
    have e0 : es = [e2] := e0
    subst e0
    obtain ⟨q2, hq2, g5⟩ := any_of g4
    clear g4
    obtain ⟨x2, es2⟩ := q2
    obtain ⟨p2, pos2, rfl⟩ := asCall_of hq2
    obtain ⟨h3, g6⟩ := ba2 g5
    obtain ⟨h4, g7⟩ := ba2 g6
    obtain ⟨h5, g8⟩ := ba2 g7
    obtain ⟨h6, h7⟩ := ba2 g8
    have ex : x = sSrt := beq_iff_eq.mp h1
    subst ex
    have ex2 : x2 = sSet := beq_iff_eq.mp h3
    subst ex2
    obtain ⟨e1, r, e9⟩ := ne_of' h5
    have e9 : es2 = e1 :: r := e9
    subst e9
    exact Jx.plain (je_sset hu sx.calm (gl_of sx h2) (g.blt _ (by decide)) (gl_of sx h4) (g.blt _ (by decide)) (ih.a ck X (e1 :: r) l sx g h6 h7) (star_cons h6) (star_cons rfl) (star_any (noStar_tail h6))) (fun _ _ _ z => nomatch z) fun _ => rfl
  | rev a =>
    rw [chkM] at h
    obtain ⟨q, hq, g1⟩ := any_of h
    clear h
    obtain ⟨ea, es⟩ := q
    obtain ⟨p, rfl⟩ := asSub_of hq
    obtain ⟨ei, hei, g2⟩ := any_of g1
    clear g1
    obtain ⟨p2, e0⟩ := asBack_of hei
    have e0 : es = .Slice none none (some ei) p2 := e0
    subst e0
    obtain ⟨h1, h2⟩ := ba2 g2
    exact Jx.plain (je_rev (ih.e ck X ea a sx g h1).je (ih.e ck X ei (.neg (.int 1)) sx g h2).je) (fun _ _ _ z => nomatch z) fun _ => rfl
  | isi a t =>
    rw [chkM] at h
    obtain ⟨q, hq, h⟩ := any_of h
    obtain ⟨x, es⟩ := q
    obtain ⟨p, pos, rfl⟩ := asCall_of hq
    obtain ⟨h1, h⟩ := ba2 h
    obtain ⟨h2, h⟩ := ba2 h
    obtain ⟨x1, x2, e0⟩ := two_of h2
    have e0 : es = [x1, x2] := e0
    subst e0
    obtain ⟨ea, e1, h⟩ := any_of h
    obtain ⟨et, e2, h⟩ := any_of h
    have e1 : some x1 = some ea := e1
    have e2 : some x2 = some et := e2
    cases e1
    cases e2
    obtain ⟨y, hy, h⟩ := any_of h
    obtain ⟨py, rfl⟩ := asName_of hy
    obtain ⟨h3, h⟩ := ba2 h
    obtain ⟨h4, h⟩ := ba2 h
    obtain ⟨h5, h⟩ := ba2 h
    obtain ⟨h6, h⟩ := ba2 h
    obtain ⟨h7, h8⟩ := ba2 h
    have ex : x = sIsi := beq_iff_eq.mp h1
    subst ex
    have ey : y = tyS t := beq_iff_eq.mp h3
    subst ey
    exact Jx.plain (je_isi (gl_of sx h5) (g.blt _ (by decide)) h4 (gl_of sx h6) (g.blt _ (ty_mem h4)) h7 (ih.e ck X x1 a sx g h8).je) (fun _ _ _ z => nomatch z) fun _ => rfl
  | mth mm a l =>
    rw [chkM] at h
    obtain ⟨q, hq, h⟩ := any_of h
    obtain ⟨o, x, ln, es⟩ := q
    obtain ⟨ap, pos, rfl, hln⟩ := asMeth_of hq
    obtain ⟨h1, h⟩ := ba2 h
    obtain ⟨h2, h⟩ := ba2 h
    obtain ⟨h3, h⟩ := ba2 h
    obtain ⟨h4, h⟩ := ba2 h
    obtain ⟨h5, h⟩ := ba2 h
    obtain ⟨h6, h⟩ := ba2 h
    have ex : x = mtS mm := beq_iff_eq.mp h3
    subst ex
    have hr : mm ≠ .remove := fun z => by subst z; cases h2
    have hline : (ap.endLine == pos.line) = true := by first | exact h5 | exact hln.trans h5
    rw [Bool.or_eq_true] at h
    rcases h with h | h
    · obtain ⟨h7, h8⟩ := ba2 h
      have h7 : es.isEmpty = true := h7
      cases es with
      | cons e es => cases h7
      | nil =>
        have h8 : l.len = 0 := beq_iff_eq.mp h8
        cases l with
        | nil => exact Jx.plain (je_mtw0 h1 hr h4 hline (ih.e ck X o a sx g h6).je) (fun _ _ _ z => nomatch z) fun _ => rfl
        | cons b l => simp [Es.len] at h8
    · obtain ⟨h7, h⟩ := ba2 h
      obtain ⟨h8, h⟩ := ba2 h
      obtain ⟨h9, h10⟩ := ba2 h
      obtain ⟨e1, r, e0⟩ := ne_of' h7
      have e0 : es = e1 :: r := e0
      subst e0
      exact Jx.plain (je_mtw h1 hr h4 h8 h9 hline (ih.e ck X o a sx g h6).je (ih.a ck X (e1 :: r) l sx g h8 h10)) (fun _ _ _ z => nomatch z) fun _ => rfl
  | told kk a =>
    rw [chkM] at h
    obtain ⟨h0, ha⟩ := ba2 h
    obtain ⟨hk0, htop⟩ := ba2 h0
    obtain ⟨q, hq, hb⟩ := any_of ha
    obtain ⟨x, prm, body, scope⟩ := q
    obtain ⟨p1, p2, p3, rfl⟩ := asTold_of hq
    obtain ⟨h1, hc⟩ := ba2 hb
    obtain ⟨h2, hd⟩ := ba2 hc
    obtain ⟨h3, he⟩ := ba2 hd
    obtain ⟨h4, hf⟩ := ba2 he
    obtain ⟨h5, h6⟩ := ba2 hf
    obtain rfl : kk = 0 := beq_iff_eq.mp hk0
    obtain rfl := noArgs_of h4
    obtain ⟨gg, g1, g2, g3, g4⟩ := g.told x (beq_iff_eq.mp h1)
    have L : LamS X.env.scope scope := by rw [sx.sc]; exact lamS_by h5
    exact Jx.plain (je_told (gl_of sx h2) g1 g2 g4 (sx.lam htop) g3 L rfl (fun _ _ _ _ _ => rfl) (not_of' h3) fun A outer s H E f cN hr => (ih0.e (ckLam ck scope) (lamN X A outer s H E scope f cN) body a (sx.lamN A outer s H E f cN) (g.noTl hr) h6).je) (fun _ _ _ z => nomatch z) fun _ => rfl
  | cmp1 hf el tg it c own =>
    rw [chkM] at h
    obtain ⟨q, hq, h⟩ := any_of h
    obtain ⟨elt, tge, ie, ifs, scope⟩ := q
    obtain ⟨p, rfl⟩ := asLc_of hq
    obtain ⟨h1, h⟩ := ba2 h
    obtain ⟨h2, h⟩ := ba2 h
    obtain ⟨h3, h⟩ := ba2 h
    obtain ⟨h4, h⟩ := ba2 h
    obtain ⟨h5, h⟩ := ba2 h
    have bok : BlkOk X.N X.env.scope scope (ownP ck.N own) := by rw [sx.n, sx.sc]; exact blkOk_by h1
    have cond : ∀ (Y : Cx), ScX M (ckBlk ck scope) Y → GdX M T C k Y → ifsOk M Y C c ifs := fun Y sy gy => by
      rw [Bool.or_eq_true] at h
      rcases h with h | h
      · obtain ⟨a1, a2⟩ := ba2 h
        refine .inl ⟨?_, ?_⟩
        · cases ifs with
          | nil => rfl
          | cons x y => cases a1
        · cases c with
          | bl b => cases b with
            | true => rfl
            | false => cases a2
          | _ => cases a2
      · obtain ⟨ec, e0, h⟩ := one_of h
        obtain ⟨a1, a2⟩ := ba2 h
        exact .inr ⟨ec, e0, (ih.e _ Y ec c sy gy a2).jt a1⟩
    have q := je_cmp1 (M := M) (C := C) (hf := hf) (el := el) (c := c) (g := tg) (it := it) (pos := p) (own := ownP ck.N own) sx.calm sx.nd (fun E => (ih.i ck (X.wish E) tge ie it sx.wish g h5).1) bok (by rw [ownP_ix]; exact h2) (fun s H c cl fp => PG.imp (chkG_ok 0 (sx.blk s H c cl fp) tg tge h3) fun v σ H2 Q z => gD_same (M := M) (X := X) (Y := X.blk s H scope (compEnvC scope cl c X.env) fp) ⟨rfl, rfl, rfl⟩ z)
      (fun s H c cl fp => cond _ (sx.blk s H c cl fp) g) (fun s H c cl fp => (ih.e _ _ elt el (sx.blk s H c cl fp) g h4).je) (ih.i ck X tge ie it sx g h5).2
    rw [ownP_ix] at q
    exact Jx.plain q (fun _ _ _ z => nomatch z) fun z => nomatch z
  | _ => rw [chkM] at h <;> first | cases h | (intros; contradiction)
theorem sndAll (M : Wd) (C : Ctx) (k : Nat) : ∀ n T, Snd M T C k n
  | 0, T => ⟨fun _ _ _ _ _ _ h => by simp [chkE] at h, fun _ _ _ _ _ _ h => by simp [chkM] at h, fun _ _ _ _ _ _ _ h => by simp [chkEs] at h, fun _ _ _ _ _ _ _ h => by simp [chkI] at h⟩
  | n + 1, T => ⟨snd_e (sndAll M C k n T), snd_m (sndAll M C k n T) (sndAll M C k n T.noTl), snd_a (sndAll M C k n T), snd_i (sndAll M C k n T)⟩
theorem snd (M : Wd) (T : Tbl) (C : Ctx) (k : Nat) (n : Nat) : Snd M T C k n := sndAll M C k n T
end
end Mi
set_option Elab.async false
set_option linter.all false
set_option maxRecDepth 100000
set_option maxHeartbeats 4000000
/-! MiU: the checker of statements. -/
namespace Mi
open PySem PySem.Spec PyProof.Rows L2 LamX
/-! ### taken apart -/
def sAsg : Stmt → Option (Expr × Expr × Pos) | .Assign [t] v p => some (t, v, p) | _ => none
def sExp : Stmt → Option (Expr × Pos) | .Expr e p => some (e, p) | _ => none
def sIf : Stmt → Option (Expr × List Stmt × List Stmt) | .If t a b _ => some (t, a, b) | _ => none
def sFor : Stmt → Option (Expr × Expr × List Stmt) | .For t i b [] _ => some (t, i, b) | _ => none
def sWhl : Stmt → Option (Expr × List Stmt) | .While t b [] _ => some (t, b) | _ => none
def sRet : Stmt → Option Expr | .Return (some e) _ => some e | _ => none
def sRai : Stmt → Option Str | .Raise (some (.Call (.Name x _) [.Constant (.str _) _ _] [] _)) none _ => some x | _ => none
def sPas : Stmt → Bool | .Pass _ => true | _ => false
def sBrk : Stmt → Bool | .Break _ => true | _ => false
def sDoc : Stmt → Bool | .Expr (.Constant (.str _) _ _) _ => true | _ => false
/-- no comprehension, no tuple: nothing is swapped -/
def plainV : Expr → Bool
  | .ListComp _ _ _ _ => false | .SetComp _ _ _ _ => false | .DictComp _ _ _ _ _ => false | .Tuple _ _ _ => false | _ => true
/-- .. no comprehension -/
def plainC : Expr → Bool
  | .ListComp _ _ _ _ => false | .SetComp _ _ _ _ => false | .DictComp _ _ _ _ _ => false | _ => true
section
variable {st : Stmt} {e : Expr}
theorem sAsg_of {x : Expr × Expr × Pos} (h : sAsg st = some x) : st = .Assign [x.1] x.2.1 x.2.2 := by
  unfold sAsg at h
  split at h
  · cases h; rfl
  · cases h
theorem sExp_of {x : Expr × Pos} (h : sExp st = some x) : st = .Expr x.1 x.2 := by
  unfold sExp at h
  split at h
  · cases h; rfl
  · cases h
theorem sIf_of {x : Expr × List Stmt × List Stmt} (h : sIf st = some x) : ∃ p, st = .If x.1 x.2.1 x.2.2 p := by
  unfold sIf at h
  split at h
  · cases h; exact ⟨_, rfl⟩
  · cases h
theorem sFor_of {x : Expr × Expr × List Stmt} (h : sFor st = some x) : ∃ p, st = .For x.1 x.2.1 x.2.2 [] p := by
  unfold sFor at h
  split at h
  · cases h; exact ⟨_, rfl⟩
  · cases h
theorem sWhl_of {x : Expr × List Stmt} (h : sWhl st = some x) : ∃ p, st = .While x.1 x.2 [] p := by
  unfold sWhl at h
  split at h
  · cases h; exact ⟨_, rfl⟩
  · cases h
theorem sRet_of {x : Expr} (h : sRet st = some x) : ∃ p, st = .Return (some x) p := by
  unfold sRet at h
  split at h
  · cases h; exact ⟨_, rfl⟩
  · cases h
theorem sRai_of {x : Str} (h : sRai st = some x) : ∃ p m j p2 p3 p4, st = .Raise (some (.Call (.Name x p) [.Constant (.str m) j p2] [] p3)) none p4 := by
  unfold sRai at h
  split at h
  · cases h; exact ⟨_, _, _, _, _, _, rfl⟩
  · cases h
theorem sPas_of (h : sPas st = true) : ∃ p, st = .Pass p := by cases st <;> first | (cases h; done) | exact ⟨_, rfl⟩
theorem sBrk_of (h : sBrk st = true) : ∃ p, st = .Break p := by cases st <;> first | (cases h; done) | exact ⟨_, rfl⟩
theorem sDoc_of (h : sDoc st = true) : ∃ x j p q, st = .Expr (.Constant (.str x) j p) q := by
  unfold sDoc at h
  split at h
  · exact ⟨_, _, _, _, rfl⟩
  · cases h
theorem swaps_plain {t : Option Expr} {l : Nat} {env : PySem.Env} (h : plainC e = true) : swapsWith e t l env = pure false := by
  cases e <;> first | rfl | cases h
theorem plainV_C (h : plainV e = true) : plainC e = true := by cases e <;> first | rfl | cases h
theorem stores_plain {t : Expr} {env : PySem.Env} (h : plainV e = true) : swappedStores [t] e env = pure none := by
  cases e <;> first | (cases h; done) | (cases t <;> rfl)
theorem sole_plain {t : Expr} {l : Nat} {env : PySem.Env} (h : plainC e = true) : swapsWithSole [t] e l env = pure false := swaps_plain h
end
def nameLine : Expr → Nat | .Name _ p => p.line | _ => 0
def lcLine : Expr → Nat | .ListComp _ _ _ p => p.line | _ => 0
def parOk (ck : Ck) (ts vs : List Expr) (i j : Nat) : Bool := ts.length == 2 && ((ts[0]?).any fun t0 => (ts[1]?).any fun t1 => (asName t0).any fun x => (asName t1).any fun y =>
  ck.N[i]? == some x && (ck.N[j]? == some y && (!(i == j) && (ck.sc.names.lookup x == some .local && (ck.sc.names.lookup y == some .local && (nameLine t0 == nameLine t1 && (!(x == y) && (noStar vs && (vs.length == 2 && (!(vs.all (foldedForSure 8)) && (!(vs.all (constantsAlone 8)) && decide (ck.sc.kind = .function))))))))))))
def isStuck : S → Bool
  | .stuck => true
  | _ => false
def asFin : S → Option S
  | .fin b _ => some b
  | _ => none
def isPass : S → Bool
  | .pass => true
  | _ => false
def asC1 : E → Option (Bool × E × Tg × It × E × List Nat) | .cmp1 hf el g it c own => some (hf, el, g, it, c, own) | _ => none
theorem asC1_of {e : E} {x : Bool × E × Tg × It × E × List Nat} (h : asC1 e = some x) : e = .cmp1 x.1 x.2.1 x.2.2.1 x.2.2.2.1 x.2.2.2.2.1 x.2.2.2.2.2 := by
  cases e <;> first | (cases h; done) | (cases h; rfl)
/-- a comprehension's parts -/
def chkLc (T : Tbl) (n : Nat) (ck : Ck) (lc : Expr) (el : E) (g : Tg) (it : It) (c : E) (own : List Nat) : Bool := (asLc lc).any fun q => blkC ck.N ck.sc q.2.2.2.2 (ownP ck.N own) && (g.sub own && (chkG (ckBlk ck q.2.2.2.2) g q.2.1 && (chkE T n (ckBlk ck q.2.2.2.2) q.1 el && (chkI T n ck q.2.1 q.2.2.1 it &&
        ((q.2.2.2.1.isEmpty && isT c) || (q.2.2.2.1.length == 1 && q.2.2.2.1.head?.any fun ec => tOk ec && chkE T n (ckBlk ck q.2.2.2.2) ec c))))))
/-- whether the store is the comprehension's own -/
def swB (ck : Ck) (x : Str) (l : Nat) (lc : Expr) : Bool := (asLc lc).any fun q => decide (ck.sc.kind = .function) && (ck.sc.names.lookup x == some .local && (l == lcLine lc && !(q.2.2.2.2.names.any fun (n, k) => n == x && (k == .local || k == .cell))))
mutual
def chkS (T : Tbl) : Nat → Ck → Stmt → S → Bool
  | 0, _, _, _ => false
  | n + 1, ck, st, m => match m with
    | .pass => sPas st
    | .stuck => true
    | .brk => sBrk st
    | .asg fz i e => (sAsg st).any fun q => (asName q.1).any fun x => ck.N[i]? == some x && (ck.loc x && ((plainC q.2.1 && chkE T n ck q.2.1 e) || (swB ck x (nameLine q.1) q.2.1 && (asC1 e).any fun z => chkLc T n ck q.2.1 z.2.1 z.2.2.1 z.2.2.2.1 z.2.2.2.2.1 z.2.2.2.2.2)))
    | .asgT g e => (sAsg st).any fun q => (asTup q.1).isSome && (chkG ck g q.1 && (plainV q.2.1 && chkE T n ck q.2.1 e))
    | .par lc fa fb i j a b => (sAsg st).any fun q => (asTup q.1).any fun ts => (asTup q.2.1).any fun vs => parOk ck ts vs i j && chkEs T n ck vs (.cons a (.cons b .nil))
    | .setI i k v => (sAsg st).any fun q => (asSub q.1).any fun z => (asName z.1).any fun x => ck.N[i]? == some x && (ck.vis x && (!(x == sDbg) && (!(x == sCld) && (plainV q.2.1 && (plainIx z.2 && (chkE T n ck z.2 k && chkE T n ck q.2.1 v))))))
    | .ex e => (sExp st).any fun q => plainC q.1 && chkE T n ck q.1 e
    | .ifs t a b => (sIf st).any fun q => tOk q.1 && (chkE T n ck q.1 t && (chkSs T n ck q.2.1 a && chkSs T n ck q.2.2 b))
    | .for_ g it b => (sFor st).any fun q => chkG ck g q.1 && (chkF T n ck q.2.1 it && chkSs T n ck q.2.2 b)
    | .whl t b => (sWhl st).any fun q => tOk q.1 && (chkE T n ck q.1 t && chkSs T n ck q.2 b)
    | .ret e => (sRet st).any fun q => chkE T n ck q e
    | .rais c => T.ex.contains c && (sRai st).any fun x => kinds[c]? == some x && (ck.gl x && !(x == sDbg))
    | _ => false
def chkSs (T : Tbl) : Nat → Ck → List Stmt → S → Bool
  | 0, _, _, _ => false
  | n + 1, ck, sts, m => isStuck m || (match m with
    | .fin b _ => chkSs T n ck sts b
    | _ => false) || (sts.isEmpty && isPass m) || ((sts.length == 1 && sts.head?.any fun st => chkS T n ck st m) || (match m with
    | .seq a b => sts.head?.any (fun st => chkS T n ck st a) && chkSs T n ck sts.tail b
    | _ => false))
def chkF (T : Tbl) : Nat → Ck → Expr → It → Bool
  | 0, _, _, _ => false
  | n + 1, ck, ie, it => match it with
    | .seq a => !isSet ie && chkE T n ck ie a
    | .rng1 a => (asCall ie).any fun q => q.1 == sRng && (ck.gl q.1 && (q.2.length == 1 && (noStar q.2 && chkEs T n ck q.2 (.cons a .nil))))
    | _ => false
end
/-- what a def's body wants beside -/
structure Gs (M : Wd) (T : Tbl) (X : Cx) : Prop where
  pass : PassesOwn (model X.prog X.w) X.A X.env X.xe
  ex : ∀ c x, c ∈ T.ex → kinds[c]? = some x → X.mg x = some (.ref (M.exA c)) ∧ PySem.W.keepIn X.K (.ref (M.exA c)) = true ∧ PySem.W.excIn X.K (M.exA c) [.type "ValueError", .type "Exception", .type "BaseException", .type "object"] "ValueError.__new__" = true ∧ Raises X (.ref (M.exA c))
section
variable {M : Wd} {X Y : Cx} {C : Ctx} {np k n : Nat} {T : Tbl} {ck : Ck}
structure SndS (M : Wd) (T : Tbl) (C : Ctx) (k np n : Nat) : Prop where
  s : ∀ (ck : Ck) (X : Cx) (st : Stmt) (m : S), ScX M ck X → GdX M T C k X → Gs M T X → chkS T n ck st m = true → PS X st (tS M X np (evS C np m))
  ss : ∀ (ck : Ck) (X : Cx) (st : List Stmt) (m : S), ScX M ck X → GdX M T C k X → Gs M T X → chkSs T n ck st m = true → PSs X st (tS M X np (evS C np m))
  f : ∀ (ck : Ck) (X : Cx) (tg ie : Expr) (it : It), ScX M ck X → GdX M T C k X → chkF T n ck ie it = true → (PI X tg ie (wiF M X (evI C it)) ∧ ∀ x, foldedSetIterable ie X.env x = pure x)
theorem snds_f (ck : Ck) (X : Cx) (tg ie : Expr) (it : It) (sx : ScX M ck X) (g : GdX M T C k X) (h : chkF T (n + 1) ck ie it = true) : PI X tg ie (wiF M X (evI C it)) ∧ ∀ x, foldedSetIterable ie X.env x = pure x := by
  cases it with
  | seq a =>
    rw [chkF] at h
    obtain ⟨h1, h2⟩ := ba2 h
    exact ⟨pi_seqF ((snd M T C k n).e ck X ie a sx g h2).je, folded_plain (not_of' h1)⟩
  | rng1 a =>
    rw [chkF] at h
    replace h := any_of h
    obtain ⟨q, hq, h⟩ := h
    obtain ⟨x, es⟩ := q
    obtain ⟨p, pos, rfl⟩ := asCall_of hq
    obtain ⟨h1, h⟩ := ba2 h
    obtain ⟨h2, h⟩ := ba2 h
    obtain ⟨h3, h⟩ := ba2 h
    obtain ⟨h4, h⟩ := ba2 h
    have hx : x = sRng := beq_iff_eq.mp h1
    subst hx
    have h3 : es.length = 1 := beq_iff_eq.mp h3
    match es, h3 with
    | [ea], _ =>
    exact ⟨pi_rng1 (wi := wiF M X) (gl_of sx h2) (g.blt _ (by decide)) h4 ((snd M T C k n).a ck X [ea] _ sx g h4 h) (fun m => .inr rfl), fun _ => rfl⟩
  | _ => rw [chkF] at h <;> first | cases h | (intros; contradiction)
theorem js_stuck {st : Stmt} : PS X st (tS M X np (evS C np .stuck)) := ⟨fun pins s σ H D I ⟨ρ, fs, o, hm, _⟩ => by rw [evS] at hm; cases hm⟩
theorem jss_stuck {st : List Stmt} : PSs X st (tS M X np (evS C np .stuck)) := ⟨fun pins s σ H D I ⟨ρ, fs, o, hm, _⟩ => by rw [evS] at hm; cases hm⟩
theorem Stt.kills {σ σ' : L2.St} {H H' : Hp} {ρ' : Env} {fs fs' : List (List Addr)} (a : Stt M X np σ H fs σ' ρ' H' fs') : ∀ kl : List Nat, ∃ fs2, Stt M X np σ H fs σ' (killAll ρ' kl) H' fs2 ∧ fs2.flatten.Sublist fs'.flatten
  | [] => ⟨fs', a, List.Sublist.refl _⟩
  | i :: kl => by
    obtain ⟨fs2, q, sb⟩ := Stt.kills a kl
    exact ⟨fs2.set i [], ⟨q.sr.kill i, q.fr, fun x hx => q.gw x ((set_sub _ _).subset hx), q.tb, q.kp, q.ln⟩, (set_sub _ _).trans sb⟩
/-- some names are forgotten behind a block -/
theorem js_fin {st : List Stmt} {b : S} {kl : List Nat} (h : PSs X st (tS M X np (evS C np b))) : PSs X st (tS M X np (evS C np (.fin b kl))) :=
  PSs.imp h fun D σ H ⟨ρ, fs, o, hm, sr, tb, k⟩ => by
    rw [evS] at hm
    cases hb : evS C np b ρ with
    | none => rw [hb] at hm; cases hm
    | some o1 =>
      rw [hb] at hm
      refine ⟨ρ, fs, o1, hb, sr, tb, ⟨fun ρ' σ' H' fs' e q => ?_, fun ρ' σ' H' fs' e q => ?_, fun w ρ' v σ' H' fs' fp e q => ?_, fun c ρ' e => ?_⟩⟩
      · subst e
        cases hm
        obtain ⟨fs2, q2, _⟩ := q.kills kl
        exact k.nx _ _ _ _ rfl q2
      · subst e
        cases hm
        obtain ⟨fs2, q2, _⟩ := q.kills kl
        exact k.bk _ _ _ _ rfl q2
      · subst e
        cases hm
        exact k.rt w ρ' v σ' H' fs' fp rfl q
      · subst e
        cases hm
        exact k.ex c ρ' rfl
theorem snds_ss (ih : SndS M T C k np n) (ck : Ck) (X : Cx) (sts : List Stmt) (m : S) (sx : ScX M ck X) (g : GdX M T C k X) (gs : Gs M T X) (h : chkSs T (n + 1) ck sts m = true) : PSs X sts (tS M X np (evS C np m)) := by
  rw [chkSs.eq_def] at h
  dsimp only at h
  rw [Bool.or_eq_true, Bool.or_eq_true, Bool.or_eq_true, Bool.or_eq_true] at h
  rcases h with ((h | h) | h) | h | h
  · cases m <;> first | (cases h; done) | exact jss_stuck
  · cases m with
    | fin b kl => exact js_fin (ih.ss ck X sts b sx g gs h)
    | _ => cases h
  · obtain ⟨h1, h2⟩ := ba2 h
    cases sts with
    | cons a r => cases h1
    | nil =>
      cases m <;> first | (cases h2; done) | exact js_nil
  · obtain ⟨st, e0, h⟩ := one_of h
    subst e0
    exact js_one (ih.s ck X st m sx g gs h)
  · cases m with
    | seq a b =>
      obtain ⟨h1, h2⟩ := ba2 h
      obtain ⟨st, r, e0, h1⟩ := head_of h1
      subst e0
      exact js_seq (ih.s ck X st a sx g gs h1) (ih.ss ck X r b sx g gs h2)
    | _ => cases h
theorem star_no {ea eb : Expr} (h : noStar [ea, eb] = true) : ([ea, eb].any fun | .Starred .. => true | _ => false) = false := by
  cases ea <;> first | (cases h; done) | (cases eb <;> first | (cases h; done) | rfl)
theorem swapped_par {x y : Str} {px py pt pt2 : Pos} {kt k2 : Nat} {ea eb : Expr} {env : PySem.Env} (hb : env.blockKind = .function) (hx : env.kindOf x = some .local) (hy : env.kindOf y = some .local) (hl : px.line = py.line) (hne : x ≠ y) (hs : noStar [ea, eb] = true)
    (hf : ([ea, eb].all (foldedForSure 8)) = false) (hc : ([ea, eb].all (constantsAlone 8)) = false) : swappedStores [.Tuple [.Name x px, .Name y py] kt pt] (.Tuple [ea, eb] k2 pt2) env = pure (some [x, y]) := by
  have e1 := star_no hs
  have e2 : (y == x) = false := beq_eq_false_iff_ne.mpr (Ne.symm hne)
  have e3 : (x == y) = false := beq_eq_false_iff_ne.mpr hne
  unfold swappedStores
  simp only [hb, e1, hf, hc, List.length_cons, List.length_nil, List.head?_cons, Option.map_some, Option.getD_some, List.filterMap_cons, List.filterMap_nil, hx, hy]
  simp [Expr.pos, hl, List.eraseDups_cons, e2, e3]
  rintro (z | z)
  · cases ea <;> first | (cases z; done) | (cases hs; done)
  · cases ea <;> first | (cases hs; done) | (cases eb <;> first | (cases z; done) | (cases hs; done))
theorem assign_sub {x : Str} {px p1 : Pos} {zi : Expr} {env : PySem.Env} (h : plainIx zi = true) (v : Value) : assign (.Subscript (.Name x px) zi p1) env v = (do
      let ov ← holding [v] (eval (.Name x px) env)
      let iv ← holding [v, ov] (eval zi env)
      standAt p1
      holding [v, ov, iv] (setItem ov iv v)
      release [v, ov, iv] []) := by
  cases zi <;> first | rfl | cases h
theorem snds_s (ih : SndS M T C k np n) (ck : Ck) (X : Cx) (st : Stmt) (m : S) (sx : ScX M ck X) (g : GdX M T C k X) (gs : Gs M T X) (h : chkS T (n + 1) ck st m = true) : PS X st (tS M X np (evS C np m)) := by
  have sd := snd M T C k n
  cases m with
  | stuck => exact js_stuck
  | pass =>
    rw [chkS] at h
    obtain ⟨p, rfl⟩ := sPas_of h
    exact js_pass
  | brk =>
    rw [chkS] at h
    obtain ⟨p, rfl⟩ := sBrk_of h
    exact js_brk
  | asg fz i e =>
    rw [chkS] at h
    replace h := any_of h
    obtain ⟨q, hq, h⟩ := h
    obtain ⟨tg, ee, p⟩ := q
    have e0 := sAsg_of hq
    subst e0
    replace h := any_of h
    obtain ⟨x, hx, h⟩ := h
    obtain ⟨px, e1⟩ := asName_of hx
    have e1 : tg = .Name x px := e1
    subst e1
    obtain ⟨h1, h⟩ := ba2 h
    obtain ⟨h2, h⟩ := ba2 h
    obtain ⟨l1, l2⟩ := loc_of sx h2
    rw [Bool.or_eq_true] at h
    rcases h with h | h
    · obtain ⟨h3, h4⟩ := ba2 h
      exact js_asg sx.nd (slot_of sx h1) l1 l2 (sd.e ck X ee e sx g h4).je (swaps_plain h3)
    · obtain ⟨h3, h⟩ := ba2 h
      obtain ⟨z, hz, h⟩ := any_of h
      obtain ⟨hf, el, tg, it, c, own⟩ := z
      have ez := asC1_of hz
      subst ez
      unfold swB at h3
      obtain ⟨q2, hq2, h3⟩ := any_of h3
      obtain ⟨elt, tge, ie, ifs, scope⟩ := q2
      obtain ⟨pl, e3⟩ := asLc_of hq2
      have e3 : ee = .ListComp elt [⟨tge, ie, ifs, 0⟩] scope pl := e3
      subst e3
      obtain ⟨s1, h3⟩ := ba2 h3
      obtain ⟨s2, h3⟩ := ba2 h3
      obtain ⟨s3, s4⟩ := ba2 h3
      unfold chkLc at h
      obtain ⟨q3, hq3, h⟩ := any_of h
      cases hq3
      obtain ⟨b1, h⟩ := ba2 h
      obtain ⟨b2, h⟩ := ba2 h
      obtain ⟨b3, h⟩ := ba2 h
      obtain ⟨b4, h⟩ := ba2 h
      obtain ⟨b5, h⟩ := ba2 h
      have bok : BlkOk X.N X.env.scope scope (ownP ck.N own) := by rw [sx.n, sx.sc]; exact blkOk_by b1
      have cond : ∀ (Y : Cx), ScX M (ckBlk ck scope) Y → GdX M T C k Y → ifsOk M Y C c ifs := fun Y sy gy => by
        rw [Bool.or_eq_true] at h
        rcases h with h | h
        · obtain ⟨a1, a2⟩ := ba2 h
          refine .inl ⟨?_, ?_⟩
          · cases ifs with
            | nil => rfl
            | cons x y => cases a1
          · cases c with
            | bl b => cases b with
              | true => rfl
              | false => cases a2
            | _ => cases a2
        · obtain ⟨ec, e0, h⟩ := one_of h
          obtain ⟨a1, a2⟩ := ba2 h
          exact .inr ⟨ec, e0, (sd.e _ Y ec c sy gy a2).jt a1⟩
      have hkl : X.env.scope.names.lookup x = some .local := by rw [sx.sc]; exact beq_iff_eq.mp s2
      have hsw := sw_true (elt := elt) (gs := [⟨tge, ie, ifs, 0⟩]) (pos := pl) (py := px) (l := p.line) (env := X.env) (by rw [sx.sc]; exact of_decide_eq_true s1) hkl s3 (not_of' s4)
      have qq := js_asgLc (M := M) (C := C) (np := np) (fz := fz) (hf := hf) (i := i) (el := el) (c := c) (g := tg) (it := it) (own := ownP ck.N own) (py := px) (spos := p) sx.calm sx.nd (slot_of sx h1) hkl hsw (sd.i ck X tge ie it sx g b5).1 bok (by rw [ownP_ix]; exact b2)
        (fun s H c cl fp => PG.imp (chkG_ok 0 (sx.blk s H c cl fp) tg tge b3) fun v σ H2 Q z => gD_same (M := M) (X := X) (Y := X.blk s H scope (compEnvC scope cl c X.env) fp) ⟨rfl, rfl, rfl⟩ z)
        (fun s H c cl fp => cond _ (sx.blk s H c cl fp) g) (fun s H c cl fp => (sd.e _ _ elt el (sx.blk s H c cl fp) g b4).je) (sd.i ck X tge ie it sx g b5).2
      rw [ownP_ix] at qq
      exact qq
  | asgT gg e =>
    rw [chkS] at h
    replace h := any_of h
    obtain ⟨q, hq, h⟩ := h
    obtain ⟨tg, ee, p⟩ := q
    have e0 := sAsg_of hq
    subst e0
    obtain ⟨h1, h⟩ := ba2 h
    obtain ⟨h2, h⟩ := ba2 h
    obtain ⟨h3, h4⟩ := ba2 h
    exact js_asgT (chkG_ok np sx gg tg h2) (sd.e ck X ee e sx g h4).je (sole_plain (plainV_C h3)) (stores_plain h3) (by rw [each_cons h2]; rfl)
  | setI i kk v =>
    rw [chkS] at h
    replace h := any_of h
    obtain ⟨q, hq, h⟩ := h
    obtain ⟨tg, ee, p⟩ := q
    have e0 := sAsg_of hq
    subst e0
    replace h := any_of h
    obtain ⟨z, hz, h⟩ := h
    obtain ⟨zo, zi⟩ := z
    obtain ⟨p1, e1⟩ := asSub_of hz
    have e1 : tg = .Subscript zo zi p1 := e1
    subst e1
    replace h := any_of h
    obtain ⟨x, hx, h⟩ := h
    obtain ⟨px, e2⟩ := asName_of hx
    have e2 : zo = .Name x px := e2
    subst e2
    obtain ⟨h1, h⟩ := ba2 h
    obtain ⟨h2, h⟩ := ba2 h
    obtain ⟨h3, h⟩ := ba2 h
    obtain ⟨h4, h⟩ := ba2 h
    obtain ⟨h5, h⟩ := ba2 h
    obtain ⟨h8, h⟩ := ba2 h
    obtain ⟨h6, h7⟩ := ba2 h
    exact js_setI (slot_of sx h1) (vis_of sx h2) (not_of' h3) (not_of' h4) (sd.e ck X zi kk sx g h6).je (sd.e ck X ee v sx g h7).je (sole_plain (plainV_C h5)) (stores_plain h5) rfl (assign_sub h8)
  | par lc fa fb i j a b =>
    rw [chkS] at h
    replace h := any_of h
    obtain ⟨q, hq, h⟩ := h
    obtain ⟨tg, ee, p⟩ := q
    have e0 := sAsg_of hq
    subst e0
    replace h := any_of h
    obtain ⟨ts, ht, h⟩ := h
    replace h := any_of h
    obtain ⟨vs, hv, h⟩ := h
    obtain ⟨kt, pt, e1⟩ := asTup_of ht
    have e1 : tg = .Tuple ts kt pt := e1
    subst e1
    obtain ⟨k2, pt2, e2⟩ := asTup_of hv
    have e2 : ee = .Tuple vs k2 pt2 := e2
    subst e2
    obtain ⟨h1, hl⟩ := ba2 h
    unfold parOk at h1
    obtain ⟨c1, h1⟩ := ba2 h1
    obtain ⟨t0, t1, e3⟩ := two_of c1
    subst e3
    obtain ⟨t0', e4, h1⟩ := any_of h1
    obtain ⟨t1', e5, h1⟩ := any_of h1
    have e4 : some t0 = some t0' := e4
    have e5 : some t1 = some t1' := e5
    cases e4
    cases e5
    obtain ⟨x, hx, h1⟩ := any_of h1
    obtain ⟨y, hy, h1⟩ := any_of h1
    obtain ⟨px, e6⟩ := asName_of hx
    obtain ⟨py, e7⟩ := asName_of hy
    subst e6
    subst e7
    obtain ⟨a1, h1⟩ := ba2 h1
    obtain ⟨a2, h1⟩ := ba2 h1
    obtain ⟨a3, h1⟩ := ba2 h1
    obtain ⟨a4, h1⟩ := ba2 h1
    obtain ⟨a5, h1⟩ := ba2 h1
    obtain ⟨a6, h1⟩ := ba2 h1
    obtain ⟨a7, h1⟩ := ba2 h1
    obtain ⟨a8, h1⟩ := ba2 h1
    obtain ⟨a9, h1⟩ := ba2 h1
    obtain ⟨a10, h1⟩ := ba2 h1
    obtain ⟨a11, a12⟩ := ba2 h1
    obtain ⟨ea, eb, e8⟩ := two_of a9
    subst e8
    have hkx : X.env.kindOf x = some .local := by unfold Env.kindOf; rw [sx.sc]; exact beq_iff_eq.mp a4
    have hky : X.env.kindOf y = some .local := by unfold Env.kindOf; rw [sx.sc]; exact beq_iff_eq.mp a5
    have hbk : X.env.blockKind = .function := by
      have : X.env.scope.kind = .function := by rw [sx.sc]; exact of_decide_eq_true a12
      unfold Env.blockKind; rw [this]; rfl
    exact js_par sx.calm sx.nd (slot_of sx a1) (slot_of sx a2) (beq_eq_false_iff_ne.mp (not_of' a3)) hkx hky (sd.a ck X [ea, eb] _ sx g a8 hl) (swapped_par hbk hkx hky (beq_iff_eq.mp a6) (beq_eq_false_iff_ne.mp (not_of' a7)) a8 (not_of' a10) (not_of' a11)) rfl
  | ex e =>
    rw [chkS] at h
    replace h := any_of h
    obtain ⟨q, hq, h⟩ := h
    obtain ⟨ee, p⟩ := q
    have e0 := sExp_of hq
    subst e0
    obtain ⟨h1, h2⟩ := ba2 h
    exact js_ex (sd.e ck X ee e sx g h2).je (swaps_plain h1)
  | ifs t a b =>
    rw [chkS] at h
    replace h := any_of h
    obtain ⟨q, hq, h⟩ := h
    obtain ⟨et, ea, eb⟩ := q
    obtain ⟨p, e0⟩ := sIf_of hq
    subst e0
    obtain ⟨h1, h⟩ := ba2 h
    obtain ⟨h2, h⟩ := ba2 h
    obtain ⟨h3, h4⟩ := ba2 h
    exact js_ifs ((sd.e ck X et t sx g h2).jt h1) (ih.ss ck X ea a sx g gs h3) (ih.ss ck X eb b sx g gs h4)
  | for_ gg it b =>
    rw [chkS] at h
    replace h := any_of h
    obtain ⟨q, hq, h⟩ := h
    obtain ⟨tg, ie, eb⟩ := q
    obtain ⟨p, e0⟩ := sFor_of hq
    subst e0
    obtain ⟨h1, h⟩ := ba2 h
    obtain ⟨h2, h3⟩ := ba2 h
    have q := ih.f ck X tg ie it sx g h2
    exact js_for gs.pass sx.calm q.1 (chkG_ok np sx gg tg h1) (ih.ss ck X eb b sx g gs h3) q.2
  | whl t b =>
    rw [chkS] at h
    replace h := any_of h
    obtain ⟨q, hq, h⟩ := h
    obtain ⟨et, eb⟩ := q
    obtain ⟨p, e0⟩ := sWhl_of hq
    subst e0
    obtain ⟨h1, h⟩ := ba2 h
    obtain ⟨h2, h3⟩ := ba2 h
    exact js_whl gs.pass ((sd.e ck X et t sx g h2).jt h1) (ih.ss ck X eb b sx g gs h3)
  | ret e =>
    rw [chkS] at h
    replace h := any_of h
    obtain ⟨q, hq, h⟩ := h
    obtain ⟨p, e0⟩ := sRet_of hq
    subst e0
    exact js_ret (sd.e ck X q e sx g h).je
  | rais c =>
    rw [chkS] at h
    have h0 := (ba2 h).1
    replace h := any_of (ba2 h).2
    obtain ⟨x, hx, h⟩ := h
    obtain ⟨p, mm, j, p2, p3, p4, e0⟩ := sRai_of hx
    subst e0
    obtain ⟨h1, h⟩ := ba2 h
    obtain ⟨h2, h3⟩ := ba2 h
    obtain ⟨g1, g2, g3, g4⟩ := gs.ex c x (by simpa using h0) (beq_iff_eq.mp h1)
    exact js_rais sx.calm F.excBase_ValueError g3 g1 g2 g4 (gl_of sx h2) (not_of' h3)
  | _ => rw [chkS] at h <;> first | cases h | (intros; contradiction)
theorem snds (M : Wd) (T : Tbl) (C : Ctx) (k np : Nat) : ∀ n, SndS M T C k np n
  | 0 => ⟨fun _ _ _ _ _ _ _ h => by simp [chkS] at h, fun _ _ _ _ _ _ _ h => by simp [chkSs] at h, fun _ _ _ _ _ _ _ h => by simp [chkF] at h⟩
  | n + 1 => ⟨snds_s (snds M T C k np n), snds_ss (snds M T C k np n), snds_f⟩
end
end Mi
set_option Elab.async false
set_option linter.all false
set_option maxRecDepth 100000
set_option maxHeartbeats 2000000
/-! MiV: a def keeps its promise. -/
namespace Mi
open PySem PySem.Spec PyProof.Rows L2 LamX
section
variable {M : Wd} {X Y : Cx} {H H' H0 : Hp} {σ σ' : L2.St} {ρ ρ' : Env} {fs fs' fs0 : List (List Addr)}
/-- the parameters' part of the names -/
theorem ars_of : ∀ {vs : List V} {ρ : Env} {fs : List (List Addr)}, ρ.length = vs.length → fs.length = vs.length → (∀ (i : Nat) (v : V) (sl : Slot), vs[i]? = some v → ρ[i]? = some sl → RS M X H (some v) sl (fs.getD i [])) → Ars M X H vs ρ fs
  | [], [], [], _, _, _ => .nil
  | v :: vs, sl :: ρ, fp :: fs, h1, h2, h => .cons (by simpa using h 0 v sl rfl rfl) (ars_of (by simpa using h1) (by simpa using h2) fun i v sl e1 e2 => by simpa using h (i + 1) v sl (by simpa using e1) (by simpa using e2))
  | [], _ :: _, _, h, _, _ => by simp at h
  | [], [], _ :: _, _, h, _ => by simp at h
  | _ :: _, [], _, h, _, _ => by simp at h
  | _ :: _, _ :: _, [], _, h, _ => by simp at h
theorem Ars.at : ∀ {vs ss fps}, Ars M X H vs ss fps → ∀ (i : Nat) (sl : Slot), ss[i]? = some sl → RS M X H (vs[i]?) sl (fps.getD i [])
  | _, _, _, .nil, i, sl, h => by simp at h
  | _, _, _, .cons r t, 0, sl, h => by simp at h; subst h; simpa using r
  | _, _, _, .cons r t, i + 1, sl, h => by simpa using Ars.at t i sl (by simpa using h)
theorem start_at {N : List Str} {vs : List V} {i : Nat} : (L2.start N vs).getD i none = vs[i]? := by
  unfold L2.start
  rw [List.getD_eq_getElem?_getD]
  by_cases h : i < vs.length
  · rw [List.getElem?_append_left (by simpa using h), List.getElem?_map, List.getElem?_eq_getElem h]; rfl
  · rw [List.getElem?_append_right (by simpa using h), List.getElem?_replicate, List.getElem?_eq_none (l := vs) (by omega)]
    split <;> rfl
theorem flat_app (fps : List (List Addr)) : ∀ n, (fps ++ List.replicate n []).flatten = fps.flatten
  | n => by
    rw [List.flatten_append]
    have : (List.replicate n ([] : List Addr)).flatten = [] := by
      induction n with
      | zero => rfl
      | succ n ih => rw [List.replicate_succ, List.flatten_cons, ih]; rfl
    rw [this, List.append_nil]
/-- the names at a def's entry -/
theorem sr_start {N : List Str} {vs : List V} {ss : List Slot} {fps : List (List Addr)} (a : Ars M X H vs ss fps) (nd : fps.flatten.Nodup) (hl : vs.length ≤ N.length) : SR M X H (L2.start N vs) (ss ++ List.replicate (N.length - ss.length) .x) (fps ++ List.replicate (N.length - ss.length) []) := by
  obtain ⟨l1, l2⟩ := a.len
  refine ⟨?_, ?_, fun i sl e => ?_, by rw [flat_app]; exact nd⟩
  · unfold L2.start
    simp only [List.length_append, List.length_map, List.length_replicate]; omega
  · simp only [List.length_append, List.length_replicate]; omega
  · rw [start_at]
    by_cases h : i < ss.length
    · rw [List.getElem?_append_left h] at e
      have := a.at i sl e
      rw [List.getD_eq_getElem?_getD, List.getElem?_append_left (by omega), ← List.getD_eq_getElem?_getD]
      exact this
    · rw [List.getElem?_append_right (by omega), List.getElem?_replicate] at e
      split at e
      · cases e
        show _ = []
        rw [List.getD_eq_getElem?_getD, List.getElem?_append_right (by omega), List.getElem?_replicate]
        split <;> rfl
      · cases e
theorem take_flat {l : List (List Addr)} {n : Nat} {a : Addr} (h : a ∈ (l.take n).flatten) : a ∈ l.flatten := by
  obtain ⟨x, hx, ha⟩ := List.mem_flatten.mp h
  exact List.mem_flatten.mpr ⟨x, List.mem_of_mem_take hx, ha⟩
theorem take_nodup {l : List (List Addr)} {n : Nat} {fp : List Addr} (h : (l.flatten ++ fp).Nodup) : ((l.take n).flatten ++ fp).Nodup := by
  have : l.flatten = (l.take n).flatten ++ (l.drop n).flatten := by rw [← List.flatten_append, List.take_append_drop]
  rw [this] at h
  exact (List.Sublist.append (List.sublist_append_left _ _) (List.Sublist.refl _)).nodup h
/-- a body without its docstring -/
def noDoc : List Stmt → List Stmt
  | st :: r => if sDoc st then r else st :: r
  | [] => []
theorem pss_doc {body : List Stmt} {t : TS} (h : PSs X (noDoc body) t) : PSs X body t := by
  cases body with
  | nil => exact h
  | cons st r =>
    have h : PSs X (if sDoc st then r else st :: r) t := h
    split at h
    · rename_i hd
      obtain ⟨x, j, p, q, rfl⟩ := sDoc_of hd
      exact PSs.imp (pss_cons ps_doc h) fun D σ H z => z
    · exact h
/-- THE RULE: a def of the text keeps its promise, a level deeper -/
theorem fn_ok {P : Program} {w : World} {K : PySem.W.Frag} {mg : Str → Option Value} {base : Heap} {k j n d ix : Nat} {T : Tbl} {top : Bool} {Pg : Mi.Pg} {fn : Fn} {f : Addr} {name qual : Str} {params : Arguments} {body : List Stmt} {scope : Scope} {dV kV doc pm cdv ct oc : Value} {an od : Option Addr} {osl : Array (Option Value)} {N ps : List Str}
    (lk : K.lookup f = some ⟨oc, od, .func (PySem.W.fnOf name qual params body scope dV kV doc pm an cdv ct), osl⟩) (hcd : PySem.W.codeIn K cdv qual = true) (S : FnScope N ps scope) (hfn : Pg.fns[ix]? = some fn) (hnp : fn.np = ps.length) (hns : fn.ns = N.length)
    (hchk : chkSs T n ⟨N, scope, fun _ => true, top⟩ (noDoc body) fn.body = true)
    (hgd : ∀ A, Room j A → Gd M T P w K mg base A { cal := calN Pg d, turns := Pg.turns } k) (hlam : top = true → ∀ X : Cx, X.env.code = cdv → X.env.qual = qual ++ ".<locals>." → X.base = base → X.mg = mg → LamOk M X)
    (hex : ∀ c x, c ∈ T.ex → kinds[c]? = some x → mg x = some (.ref (M.exA c)) ∧ PySem.W.keepIn K (.ref (M.exA c)) = true ∧ PySem.W.excIn K (M.exA c) [.type "ValueError", .type "Exception", .type "BaseException", .type "object"] "ValueError.__new__" = true ∧ PySem.W.subIn K (.ref (M.exA c)) (.type "BaseException") = some true ∧ PySem.W.typeIn K (.ref (M.exA c)) = some (.type "type")) :
    FnOk P w K mg base (L2N.CX P w) (j + 1) f (PySem.W.fnOf name qual params body scope dV kV doc pm an cdv ct) ps (SpF M P w K (calN Pg (d + 1)) ps.length ix) := by
  refine fn_of lk hcd S (fun vs H Q E h => ?_) fun A outer s H vs Q E hr h => ?_
  · obtain ⟨X0, ss, fps, r, ss', _, _, _, hl, ars, _⟩ := h
    rw [ars.len.1, hl]
  · obtain ⟨X0, ss, fps, r, ss', e1, e2, e3, hl, ars, nd, tb, hcal, hok, herr⟩ := h
    generalize hX : cxOf (L2N.CX P w) P w K mg base N qual scope f cdv A outer s H E = X
    have same : SameW X0 X := by subst hX; exact ⟨e1, e2, e3⟩
    have sx : ScX M ⟨N, scope, fun _ => true, top⟩ X := by
      subst hX
      exact ⟨rfl, rfl, fun _ _ => rfl, S.nd, rfl, fun z => hlam z _ rfl rfl rfl rfl⟩
    have gx : GdX M T { cal := calN Pg d, turns := Pg.turns } k X := by
      subst hX
      exact hgd _ hr
    have gs : Gs M T X := by
      subst hX
      refine ⟨passes_of rfl, fun c x h0 hc => ?_⟩
      obtain ⟨g1, g2, g3, g4, g5⟩ := hex c x h0 hc
      exact ⟨g1, g2, g3, raises_own g4 g5⟩
    have tk : L2N.Takes X (fun cls d _ H => E cls d H) := by
      subst hX
      exact L2N.takes_of rfl rfl rfl rfl
    have hps : PSs X body (tS M X ps.length (evS { cal := calN Pg d, turns := Pg.turns } ps.length fn.body)) := pss_doc ((snds M T _ k ps.length n).ss _ X _ fn.body sx gx gs hchk)
    refine ⟨_, hps, ?_⟩
    have hpl : ps.length ≤ N.length := by
      have := congrArg List.length S.pre
      rw [List.length_take] at this; omega
    have vl : vs.length = ps.length := by rw [ars.len.1, hl]
    -- what the evaluator did
    have hrun : runFn { cal := calN Pg d, turns := Pg.turns } fn ss = some (r, ss') := by
      rw [calN] at hcal
      dsimp only at hcal
      rw [hfn] at hcal
      exact hcal
    unfold runFn at hrun
    rw [if_pos (by rw [hl, hnp]), hnp, hns, ← hl] at hrun
    have ars' : Ars M X H vs ss fps := same.ars ars
    have sr := sr_start (N := N) ars' nd (by omega)
    -- from the names to the parameters
    have back : ∀ {σ' : L2.St} {ρ' : Env} {H' : Hp} {fs' : List (List Addr)}, Stt M X ps.length (L2.start N vs) H (fps ++ List.replicate (N.length - ss.length) []) σ' ρ' H' fs' → Ars M X0 H' vs (ρ'.take ps.length) (fs'.take ps.length) ∧ Fr fps.flatten H H' ∧ ∀ a ∈ fs'.flatten, a ∈ fps.flatten ∨ H a = none := fun {σ' ρ' H' fs'} q => by
      have l1 : ρ'.length = N.length := by
        rw [← q.sr.1, q.ln]
        unfold L2.start
        simp only [List.length_append, List.length_map, List.length_replicate]; omega
      have l2 : fs'.length = N.length := by rw [q.sr.2.1, l1]
      refine ⟨same.symm.ars (ars_of (by rw [List.length_take]; omega) (by rw [List.length_take]; omega) fun i v sl ev es => ?_), by have := q.fr; rw [flat_app] at this; exact this, by have := q.gw; rw [flat_app] at this; exact this⟩
      have hi : i < ps.length := by rw [← vl]; exact lt_of_get ev
      rw [List.getElem?_take_of_lt hi] at es
      have z := q.sr.slot es
      have e5 : σ'.getD i none = some v := by
        rw [List.getD_eq_getElem?_getD, q.kp i hi, ← List.getD_eq_getElem?_getD, start_at, ev]
      rw [e5] at z
      rw [List.getD_eq_getElem?_getD, List.getElem?_take_of_lt hi, ← List.getD_eq_getElem?_getD]
      exact z
    cases ho : evS { cal := calN Pg d, turns := Pg.turns } ss.length fn.body (ss ++ List.replicate (N.length - ss.length) .x) with
    | none => rw [ho] at hrun; cases hrun
    | some o =>
      rw [ho] at hrun
      rw [hl] at ho hrun
      refine ⟨_, _, o, by rw [← hl] at ho ⊢; exact ho, sr, tb, ⟨fun ρ' σ' H' fs' e q => ?_, fun ρ' σ' H' fs' e q => ?_, fun w0 ρ' v σ' H' fs' fp e q rv nd2 gg => ?_, fun c ρ' e => ?_⟩⟩
      · subst e
        cases hrun
        obtain ⟨b1, b2, b3⟩ := back q
        refine hok (.d .non) .non H' _ [] rfl b1 ⟨rfl, .non⟩ (take_nodup (by rw [List.append_nil]; exact q.sr.2.2.2)) b2 (fun a ha => ?_) q.tb
        rw [List.append_nil] at ha
        exact b3 a (take_flat ha)
      · subst e
        cases hrun
      · subst e
        cases hrun
        obtain ⟨b1, b2, b3⟩ := back q
        refine hok w0 v H' _ fp rfl b1 (same.symm.rw' rv) (take_nodup nd2) b2 (fun a ha => ?_) q.tb
        rcases List.mem_append.mp ha with z | z
        · exact b3 a (take_flat z)
        · have := gg a z
          rw [flat_app] at this
          exact this
      · subst e
        cases hrun
        refine tk.imp fun cls dd σ' H' hw => ?_
        obtain ⟨h1, h2, fs', q⟩ := hw
        subst h1
        subst h2
        obtain ⟨b1, b2, b3⟩ := back q
        exact herr c H' _ rfl b1 (by have := take_nodup (n := ps.length) (fp := []) (by rw [List.append_nil]; exact q.sr.2.2.2); rw [List.append_nil] at this; exact this) b2 (fun a ha => b3 a (take_flat ha)) q.tb
end
end Mi
set_option Elab.async false
set_option linter.all false
set_option maxRecDepth 100000
set_option maxHeartbeats 2000000
/-! MiW: all defs of a text, by depth. -/
namespace Mi
open PySem PySem.Spec PyProof.Rows L2 LamX
/-- a def of the text: its name, its names by slot, its parameters, its row -/
structure Df where
  x : Str
  N : List Str
  ps : List Str
  params : Arguments
  body : List Stmt
  scope : Scope
/-- what is looked at of a def, by kernel -/
def Df.okB (d : Df) : Bool := decide (d.scope.kind = .function) && (!d.scope.isCoroutine && (!d.scope.isGenerator && (decide d.N.Nodup && (d.N.take d.ps.length == d.ps && (d.ps.all (fun x => d.scope.names.lookup x == some .local || d.scope.names.lookup x == some .cell) && d.scope.names.all fun y => !(y.2 == .free))))))
theorem Df.scope_ok {d : Df} (h : d.okB = true) : FnScope d.N d.ps d.scope := by
  unfold Df.okB at h
  obtain ⟨h1, h⟩ := ba2 h
  obtain ⟨h2, h⟩ := ba2 h
  obtain ⟨h3, h⟩ := ba2 h
  obtain ⟨h4, h⟩ := ba2 h
  obtain ⟨h5, h⟩ := ba2 h
  obtain ⟨h6, h7⟩ := ba2 h
  refine ⟨of_decide_eq_true h1, not_of' h2, not_of' h3, of_decide_eq_true h4, beq_iff_eq.mp h5, fun x hx => ?_, fun y hy e => ?_⟩
  · have := List.all_eq_true.mp h6 x hx
    rw [Bool.or_eq_true, beq_iff_eq, beq_iff_eq] at this
    exact this
  · have := List.all_eq_true.mp h7 y hy
    rw [e] at this
    cases this
/-- a text: its defs, beside the small language's -/
def tblOf (ds : List Df) (gi : List (Str × Int)) (gs : List (Str × Str)) (ex : List Nat) (tl : Option Str) (lq : List Str) : Tbl := ⟨ds.map fun d => (d.x, d.ps.length), gi, gs, ex, tl, lq⟩
def chkAll (T : Tbl) (n : Nat) : List Df → List Fn → Bool
  | [], [] => true
  | d :: ds, f :: fs => d.okB && (f.np == d.ps.length && (f.ns == d.N.length && (chkSs T n ⟨d.N, d.scope, fun _ => true, T.lq.contains d.x⟩ (noDoc d.body) f.body && chkAll T n ds fs)))
  | _, _ => false
theorem chkAll_at {T : Tbl} {n : Nat} : ∀ {ds : List Df} {fs : List Fn}, chkAll T n ds fs = true → ∀ (i : Nat) (d : Df), ds[i]? = some d → ∃ f, fs[i]? = some f ∧ d.okB = true ∧ f.np = d.ps.length ∧ f.ns = d.N.length ∧ chkSs T n ⟨d.N, d.scope, fun _ => true, T.lq.contains d.x⟩ (noDoc d.body) f.body = true
  | [], [], _, i, d, e => by simp at e
  | d0 :: ds, f :: fs, h, 0, d, e => by
    simp at e; subst e
    rw [chkAll] at h
    obtain ⟨h1, h⟩ := ba2 h
    obtain ⟨h2, h⟩ := ba2 h
    obtain ⟨h3, h⟩ := ba2 h
    obtain ⟨h4, _⟩ := ba2 h
    exact ⟨f, rfl, h1, beq_iff_eq.mp h2, beq_iff_eq.mp h3, h4⟩
  | d0 :: ds, f :: fs, h, i + 1, d, e => by
    rw [chkAll] at h
    obtain ⟨h1, h⟩ := ba2 h
    obtain ⟨h2, h⟩ := ba2 h
    obtain ⟨h3, h⟩ := ba2 h
    obtain ⟨_, h5⟩ := ba2 h
    obtain ⟨f', e', q⟩ := chkAll_at h5 i d (by simpa using e)
    exact ⟨f', by simpa using e', q⟩
  | [], _ :: _, h, _, _, _ => by simp [chkAll] at h
  | _ :: _, [], h, _, _, _ => by simp [chkAll] at h
/-- what the head gives -/
structure Txt (M : Wd) (ds : List Df) (gi : List (Str × Int)) (gs : List (Str × Str)) (exs : List Nat) (tl : Option Str) (lq : List Str) (P : Program) (w : World) (K : PySem.W.Frag) (mg : Str → Option Value) (base : Heap) : Prop where
  blt : ∀ x ∈ blts, mg x = none
  gh : ∀ k v, ¬ M.gh k v
  gi : ∀ p ∈ gi, ∃ u, mg p.1 = some u ∧ RelV (.int p.2) u
  gs : ∀ p ∈ gs, ∃ u, mg p.1 = some u ∧ RelV (.str p.2) u
  fn : ∀ d ∈ ds, ∃ (fa : Addr) (fd : FuncData), mg d.x = some (.ref fa) ∧ FunD K d.x d.x d.params d.body d.scope [] [] fa fd ∧ Binds K fd d.ps []
  ex : ∀ c x, c ∈ exs → kinds[c]? = some x → mg x = some (.ref (M.exA c)) ∧ PySem.W.keepIn K (.ref (M.exA c)) = true ∧ PySem.W.excIn K (M.exA c) [.type "ValueError", .type "Exception", .type "BaseException", .type "object"] "ValueError.__new__" = true ∧ PySem.W.subIn K (.ref (M.exA c)) (.type "BaseException") = some true ∧ PySem.W.typeIn K (.ref (M.exA c)) = some (.type "type")
  tell : ∀ x, tl = some x → ∃ g, mg x = some (.ref g) ∧ PySem.W.keepIn K (.ref g) = true ∧ ∀ k, TellP M P w K mg base k x g
  lam : ∀ d ∈ ds, lq.contains d.x = true → ∀ (fa : Addr) (oc : Value) (od : Option Addr) (dV kV doc pm : Value) (an : Option Addr) (cdv ct : Value) (osl : Array (Option Value)), mg d.x = some (.ref fa) → K.lookup fa = some ⟨oc, od, .func (PySem.W.fnOf d.x d.x d.params d.body d.scope dV kV doc pm an cdv ct), osl⟩ →
    ∃ c P', cdv = .ref c ∧ TabB base mg c P' ∧ (P', d.x ++ ".<locals>." ++ "<lambda>") ∈ M.T ∧ ∀ p ∈ M.T, p.1 = P' → p.2 = d.x ++ ".<locals>." ++ "<lambda>"
theorem Txt.lamOk {M : Wd} {ds : List Df} {gi : List (Str × Int)} {gs : List (Str × Str)} {exs : List Nat} {tl : Option Str} {lq : List Str} {P : Program} {w : World} {K : PySem.W.Frag} {mg : Str → Option Value} {base : Heap} (t : Txt M ds gi gs exs tl lq P w K mg base) {d : Df} (hd : d ∈ ds) {fa : Addr} {oc : Value} {od : Option Addr} {dV kV doc pm : Value} {an : Option Addr} {cdv ct : Value} {osl : Array (Option Value)} (hm : mg d.x = some (.ref fa))
    (lk : K.lookup fa = some ⟨oc, od, .func (PySem.W.fnOf d.x d.x d.params d.body d.scope dV kV doc pm an cdv ct), osl⟩) (h : lq.contains d.x = true) : ∀ X : Cx, X.env.code = cdv → X.env.qual = d.x ++ ".<locals>." → X.base = base → X.mg = mg → LamOk M X := fun X h1 h2 h3 h4 => by
  obtain ⟨c, P', e, tb, hm', hu⟩ := t.lam d hd h fa oc od dV kV doc pm an cdv ct osl hm lk
  exact ⟨c, P', h1.trans e, by rw [h3, h4]; exact tb, by rw [h2]; exact hm', by rw [h2]; exact hu⟩
section
variable {M : Wd} {P : Program} {w : World} {K : PySem.W.Frag} {mg : Str → Option Value} {base : Heap} {ds : List Df} {gi : List (Str × Int)} {gs : List (Str × Str)} {exs : List Nat} {tl : Option Str} {lq : List Str} {Pg : Mi.Pg} {n : Nat}
theorem calN_len (d ix : Nat) {np : Nat} {fn : Fn} {ss : List Slot} {r : Except Nat W × List Slot} (hf : Pg.fns[ix]? = some fn) (hn : fn.np = np) (h : calN Pg d ix ss = some r) : ss.length = np := by
  cases d with
  | zero => rw [calN] at h; cases h
  | succ d =>
    rw [calN] at h
    dsimp only at h
    rw [hf] at h
    have h : runFn { cal := calN Pg d, turns := Pg.turns } fn ss = some r := h
    unfold runFn at h
    split at h
    · rename_i e; rw [e, hn]
    · cases h
/-- all defs, to any depth; each level has three rooms more than it wants -/
theorem all_ok (t : Txt M ds gi gs exs tl lq P w K mg base) (hc : chkAll (tblOf ds gi gs exs tl lq) n ds Pg.fns = true) : ∀ (d : Nat) (ix : Nat) (df : Df), ds[ix]? = some df → ∀ fa fd, mg df.x = some (.ref fa) → FunD K df.x df.x df.params df.body df.scope [] [] fa fd →
    FnOk P w K mg base (L2N.CX P w) (4 * d) fa fd df.ps (SpF M P w K (calN Pg d) df.ps.length ix)
  | 0, ix, df, e, fa, fd, _, _ => by
    have no : ∀ vs H Q E, ¬ SpF M P w K (calN Pg 0) df.ps.length ix vs H Q E := fun vs H Q E h => by
      obtain ⟨_, _, _, _, _, _, _, _, _, _, _, _, hcal, _⟩ := h
      have hcal : (none : Option (Except Nat W × List Slot)) = some _ := hcal
      cases hcal
    exact ⟨fun vs H Q E h => absurd h (no vs H Q E), fun A outer s H args us vs Q E _ _ _ _ h => absurd h (no vs H Q E)⟩
  | d + 1, ix, df, e, fa, fd, hm, F => by
    obtain ⟨fn, hfn, ok, hnp, hns, hck⟩ := chkAll_at hc ix df e
    obtain ⟨oc, od, dV, kV, doc, pm, an, cdv, ct, osl, rfl, lk, hcd, _, _⟩ := F.ex
    have q := fn_ok (M := M) (P := P) (w := w) (mg := mg) (base := base) (k := 4 * d) (j := 4 * d + 3) (d := d) (Pg := Pg) lk hcd (Df.scope_ok ok) hfn hnp hns hck (fun A hr => ?_) (t.lamOk (List.mem_of_getElem? e) hm lk) t.ex
    · exact q
    · refine ⟨hr.mono (by omega), t.blt, t.gi, t.gs, fun jx p hp => ?_, fun jx p ss r hp hcal => ?_, t.gh, fun x hx => ?_⟩
      · have hp : (ds.map fun d => (d.x, d.ps.length))[jx]? = some p := hp
        rw [List.getElem?_map] at hp
        obtain ⟨df2, h2, rfl⟩ := map_some hp
        obtain ⟨fa2, fd2, g1, g2, g3⟩ := t.fn df2 (List.mem_of_getElem? h2)
        exact ⟨fa2, fd2, df2.ps, g1, g2.kp, g3, rfl, all_ok t hc d jx df2 h2 fa2 fd2 g1 g2⟩
      · have hp : (ds.map fun d => (d.x, d.ps.length))[jx]? = some p := hp
        rw [List.getElem?_map] at hp
        obtain ⟨df2, h2, rfl⟩ := map_some hp
        obtain ⟨fn2, hfn2, _, hnp2, _, _⟩ := chkAll_at hc jx df2 h2
        exact calN_len d jx hfn2 hnp2 hcal
      · obtain ⟨g, g1, g2, g3⟩ := t.tell x hx
        exact ⟨g, g1, g2, hr.mono (by omega), g3 _⟩
/-- .. as a body wants it -/
theorem gd_of (t : Txt M ds gi gs exs tl lq P w K mg base) (hc : chkAll (tblOf ds gi gs exs tl lq) n ds Pg.fns = true) (d : Nat) {A : Around} (hr : Room (4 * d + 3) A) : Gd M (tblOf ds gi gs exs tl lq) P w K mg base A { cal := calN Pg d, turns := Pg.turns } (4 * d) := by
  refine ⟨hr.mono (by omega), t.blt, t.gi, t.gs, fun jx p hp => ?_, fun jx p ss r hp hcal => ?_, t.gh, fun x hx => ?_⟩
  · have hp : (ds.map fun d => (d.x, d.ps.length))[jx]? = some p := hp
    rw [List.getElem?_map] at hp
    obtain ⟨df2, h2, rfl⟩ := map_some hp
    obtain ⟨fa2, fd2, g1, g2, g3⟩ := t.fn df2 (List.mem_of_getElem? h2)
    exact ⟨fa2, fd2, df2.ps, g1, g2.kp, g3, rfl, all_ok t hc d jx df2 h2 fa2 fd2 g1 g2⟩
  · have hp : (ds.map fun d => (d.x, d.ps.length))[jx]? = some p := hp
    rw [List.getElem?_map] at hp
    obtain ⟨df2, h2, rfl⟩ := map_some hp
    obtain ⟨fn2, hfn2, _, hnp2, _, _⟩ := chkAll_at hc jx df2 h2
    exact calN_len d jx hfn2 hnp2 hcal
  · obtain ⟨g, g1, g2, g3⟩ := t.tell x hx
    exact ⟨g, g1, g2, hr.mono (by omega), g3 _⟩
end
end Mi
set_option Elab.async false
set_option linter.all false
set_option maxRecDepth 100000
set_option maxHeartbeats 2000000
/-! MiX: the law's own loop over its rounds. -/
namespace Mi
open PySem PySem.Spec PyProof.Rows L2 LamX
section
variable {M : Wd} {X Y : Cx} {H H' H0 : Hp} {σ σ' : L2.St} {ρ ρ' : Env} {fs fs' fs0 : List (List Addr)} {pins : List (Addr × Obj)} {s s' : Shared} {C : Ctx} {pos : Pos} {np k : Nat}
/-- an element that is a new list of one's own -/
def tN (M : Wd) (X : Cx) (m : Env → R W) : TE := fun σ H Q => ∃ ρ fs ds, m ρ = some (.ok (.m (.c (.l ds))) ρ) ∧ SR M X H σ ρ fs ∧ fs.flatten = [] ∧ Tabs M.T H ∧
  ∀ a vs H' fs', SR M X H' σ ρ fs' → fs'.flatten = [] → H' a = some (.lst vs) → RpsX X H' vs ds → H a = none → Fr [] H H' → Tabs M.T H' → Q (.ref a) H'
theorem JE.tn {m : Env → R W} {e : Expr} (hgh : ∀ k v, ¬ M.gh k v) (h : JE M Y m e) (w : SameW X Y) : PE Y e (tN M X m) := by
  refine ⟨fun pins s σ H Q I hq => ?_⟩
  obtain ⟨ρ, fs, ds, hm, sr, hfs, tb, k⟩ := hq
  refine wpAny_mono (h pins s σ H ρ fs _ hm I (w.sr sr) tb) (fun u s2 p => ?_) fun u s2 p => ?_
  · obtain ⟨w1, ρ3, H', fs', v, fp, e1, n, rv, rw', nd, fr⟩ := p
    cases e1
    obtain ⟨⟨v', e2, a, vs, e3, e4, e5, e6⟩, _⟩ := rw'
    cases e2
    subst e3
    have hn : ∀ x ∈ fs'.flatten ++ fp, H x = none := fun x hx => by
      have z : x ∈ fs.flatten ∨ H x = none := (List.mem_append.mp hx).elim (n.gw x) (fr x)
      rw [hfs] at z
      exact z.elim (fun y => nomatch y) id
    have hfs' : fs'.flatten = [] := by
      cases hl : fs'.flatten with
      | nil => rfl
      | cons x l =>
        -- the names' things are data alone: nothing is theirs
        have hx : x ∈ fs'.flatten := by rw [hl]; simp
        obtain ⟨i, hi⟩ := mem_flat.mp hx
        exfalso
        have hlt : i < ρ.length := by
          by_cases c : i < fs'.length
          · rw [← n.sr.2.1]; exact c
          · rw [List.getD_eq_getElem?_getD, List.getElem?_eq_none (by omega)] at hi; cases hi
        have q1 := sr.slot (List.getElem?_eq_getElem hlt)
        have q2 := n.sr.slot (List.getElem?_eq_getElem hlt)
        have z1 : fs.getD i [] = [] := by
          cases c : fs.getD i [] with
          | nil => rfl
          | cons y r => exact absurd (mem_flat.mpr ⟨i, by rw [c]; exact List.mem_cons_self⟩) (by rw [hfs]; exact fun z => nomatch z)
        rw [z1] at q1
        cases hs : ρ[i] with
        | x => rw [hs] at q2; have q2 : fs'.getD i [] = [] := q2; rw [q2] at hi; cases hi
        | c cc =>
          rw [hs] at q1 q2
          obtain ⟨_, _, q1⟩ := q1
          obtain ⟨_, _, q2⟩ := q2
          cases cc with
          | p d => rw [q2.1] at hi; cases hi
          | l xs => obtain ⟨_, _, _, z, _⟩ := q1; cases z
          | d kvs => obtain ⟨_, _, _, _, z, _⟩ := q1; cases z
        | o kk cs =>
          rw [hs] at q1 q2
          rcases q1 with ⟨_, _, _, _, _, _, _, z⟩ | ⟨_, _, v1, e1, g1⟩
          · cases z
          · rcases q2 with ⟨a2, _, _, _, e2, h2, _, z2⟩ | ⟨z2, _⟩
            · exact hgh _ _ g1
            · rw [z2] at hi; cases hi
    have hf : Fr [] H H' := by have := n.fr; rw [hfs] at this; exact this
    exact ⟨.ref a, H', n.inv, rv, k a vs H' fs' (w.symm.sr n.sr) hfs' e5 (w.symm.rps e6) (hn a (by rw [e4]; simp)) hf n.tb⟩
  · obtain ⟨c, ρ3, e1, _⟩ := p
    cases e1
/-- nothing of one's own among the names -/
theorem sr_nil (hl : σ.length = ρ.length) (h : ∀ i sl, ρ[i]? = some sl → RS M X H (σ.getD i none) sl []) : SR M X H σ ρ (List.replicate ρ.length []) := by
  refine ⟨hl, by simp, fun i sl e => ?_, ?_⟩
  · have : (List.replicate ρ.length ([] : List Addr)).getD i [] = [] := by
      rw [List.getD_eq_getElem?_getD, List.getElem?_replicate]; split <;> rfl
    rw [this]; exact h i sl e
  · have : (List.replicate ρ.length ([] : List Addr)).flatten = [] := by
      rw [List.flatten_eq_nil_iff]
      intro l hl
      exact (List.mem_replicate.mp hl).2
    rw [this]; exact List.nodup_nil
theorem flat_nil (n : Nat) : (List.replicate n ([] : List Addr)).flatten = [] := by
  rw [List.flatten_eq_nil_iff]
  intro l hl
  exact (List.mem_replicate.mp hl).2
end
end Mi
namespace Mi
open PySem PySem.Spec PyProof.Rows L2 LamX
/-- what the rounds' comprehension comes to, on plain data -/
structure RdOk (C : Ctx) (arg el : E) (own : Nat) (ρ : Env) (n : Nat) (cell : Nat → Int) : Prop where
  arg : evE C arg ρ = some (.ok (.d (.int n)) ρ)
  small : (n : Int) < 1000
  ix : own < ρ.length
  x : ρ[own]? = some .x
  el : ∀ i, i < n → evE C el (ρ.set own (.p (.int i))) = some (.ok (.m (.c (.l [.int (cell i), .int 0]))) (ρ.set own (.p (.int i))))
section
variable {M : Wd} {X Y : Cx} {H H' H0 : Hp} {σ σ' : L2.St} {ρ ρ' : Env} {fs fs' fs0 : List (List Addr)} {pins : List (Addr × Obj)} {s s' : Shared} {C : Ctx} {pos : Pos} {np k n : Nat} {T : Tbl} {ck : Ck}
/-- new lists, each of a cell and a count -/
structure Rds (H H' : Hp) (p : Addr) (qs : List Addr) (n : Nat) (cell : Nat → Int) : Prop where
  len : qs.length = n
  at_ : H' p = some (.lst (qs.map V.ref))
  it : ∀ (i : Nat) (q : Addr), qs[i]? = some q → H q = none ∧ H' q = some (.lst [.int (cell i), .int 0])
  nd : (p :: qs).Nodup
  new : H p = none
  fr : Fr [] H H'
theorem rp_ints {c : Int} {vs : List V} (r : RpsX X H vs [.int c, .int 0]) : vs = [.int c, .int 0] := by
  cases r with
  | cons a t =>
    cases t with
    | cons b t =>
      cases t
      cases a
      cases b
      rfl
def spRd (M : Wd) (P : Program) (w : World) (K : PySem.W.Frag) (C : Ctx) (arg el : E) : Sp := fun vs H Q _ => ∃ (X : Cx) (ds : List D) (n : Nat) (cell : Nat → Int), X.prog = P ∧ X.w = w ∧ X.K = K ∧ RpsX X H vs ds ∧ ds.length = 2 ∧ Tabs M.T H ∧
  RdOk C arg el 2 (ds.map Slot.p ++ [.x]) n cell ∧ ∀ p qs H', Rds H H' p qs n cell → Tabs M.T H' → Q (.ref p) H'
def asRng : Expr → Option (Str × Expr) | .Call (.Name x _) [e] [] _ => some (x, e) | _ => none
theorem asRng_of {e : Expr} {x : Str × Expr} (h : asRng e = some x) : ∃ p q, e = .Call (.Name x.1 p) [x.2] [] q := by
  unfold asRng at h
  split at h
  · cases h; exact ⟨_, _, rfl⟩
  · cases h
/-- the rounds' def: its body -/
def chkRd (T : Tbl) (n : Nat) (ck : Ck) (body : List Stmt) (arg el : E) : Bool := body.length == 1 && body.head?.any fun st => (sRet st).any fun e => (asLc e).any fun q => blkC ck.N ck.sc q.2.2.2.2 (ownP ck.N [2]) && (chkG (ckBlk ck q.2.2.2.2) (.n 2) q.2.1 && (chkE T n (ckBlk ck q.2.2.2.2) q.1 el &&
  (q.2.2.2.1.isEmpty && (asRng q.2.2.1).any fun z => z.1 == sRng && (ck.gl sRng && (noStar [z.2] && chkE T n ck z.2 arg)))))
theorem mem_flat_nil {l : List (List Addr)} (h : l.flatten = []) (i : Nat) : l.getD i [] = [] := by
  cases c : l.getD i [] with
  | nil => rfl
  | cons y r => exact absurd (mem_flat.mpr ⟨i, by rw [c]; exact List.mem_cons_self⟩) (by rw [h]; exact fun z => nomatch z)
theorem rounds_ok {P : Program} {w : World} {K : PySem.W.Frag} {mg : Str → Option Value} {base : Heap} {k j n : Nat} {T : Tbl} {C : Ctx} {arg el : E} {f : Addr} {name qual : Str} {params : Arguments} {body : List Stmt} {scope : Scope} {dV kV doc pm cdv ct oc : Value} {an od : Option Addr} {osl : Array (Option Value)} {N ps : List Str}
    (lk : K.lookup f = some ⟨oc, od, .func (PySem.W.fnOf name qual params body scope dV kV doc pm an cdv ct), osl⟩) (hcd : PySem.W.codeIn K cdv qual = true) (S : FnScope N ps scope) (hN : N.length = 3) (hps : ps.length = 2)
    (hchk : chkRd T n ⟨N, scope, fun _ => true, false⟩ body arg el = true) (hgd : ∀ A, Room j A → Gd M T P w K mg base A C k) :
    FnOk P w K mg base (L2N.CX P w) (j + 1) f (PySem.W.fnOf name qual params body scope dV kV doc pm an cdv ct) ps (spRd M P w K C arg el) := by
  refine fn_of lk hcd S (fun vs H Q E h => ?_) fun A outer s H vs Q E hr h => ?_
  · obtain ⟨X0, ds, m, cell, _, _, _, r, hl, _⟩ := h
    rw [r.length, hl, hps]
  · obtain ⟨X0, ds, m, cell, e1, e2, e3, r, hl, tb, ev, k0⟩ := h
    generalize hX : cxOf (L2N.CX P w) P w K mg base N qual scope f cdv A outer s H E = X
    have same : SameW X0 X := by subst hX; exact ⟨e1, e2, e3⟩
    have sx : ScX M ⟨N, scope, fun _ => true, false⟩ X := by
      subst hX
      exact ⟨rfl, rfl, fun _ _ => rfl, S.nd, rfl, (fun z => nomatch z)⟩
    have gx : GdX M T C k X := by
      subst hX
      exact hgd _ hr
    unfold chkRd at hchk
    obtain ⟨st, e0, g1⟩ := one_of hchk
    obtain ⟨ee, hee, g2⟩ := any_of g1
    obtain ⟨p1, e1'⟩ := sRet_of hee
    obtain ⟨q, hq, g3⟩ := any_of g2
    obtain ⟨elt, tge, ie, ifs, sc2⟩ := q
    obtain ⟨p2, e2'⟩ := asLc_of hq
    obtain ⟨b1, g4⟩ := ba2 g3
    obtain ⟨b2, g5⟩ := ba2 g4
    obtain ⟨b3, g6⟩ := ba2 g5
    obtain ⟨b4, g7⟩ := ba2 g6
    obtain ⟨z, hz, g8⟩ := any_of g7
    obtain ⟨x, ea⟩ := z
    obtain ⟨p3, p4, e3'⟩ := asRng_of hz
    obtain ⟨c1, g9⟩ := ba2 g8
    obtain ⟨c2, g10⟩ := ba2 g9
    obtain ⟨c3, c4⟩ := ba2 g10
    clear g1 g2 g3 g4 g5 g6 g7 g8 g9 g10 hchk hq hee hz
    have ex : x = sRng := beq_iff_eq.mp c1
    have b4 : ifs.isEmpty = true := b4
    have hifs : ifs = [] := by
      cases ifs with
      | nil => rfl
      | cons _ _ => cases b4
    have e3'' : ie = .Call (.Name x p3) [ea] [] p4 := e3'
    have e2'' : ee = .ListComp elt [⟨tge, ie, ifs, 0⟩] sc2 p2 := e2'
    clear e3' e2'
    subst e0
    subst e1'
    subst e2''
    subst e3''
    subst ex
    subst hifs
    have bok : BlkOk X.N X.env.scope sc2 (ownP N [2]) := by rw [sx.n, sx.sc]; exact blkOk_by b1
    have blk : ∀ s H c cl fp, SameW X (X.blk s H sc2 (compEnvC sc2 cl c X.env) fp) := fun _ _ _ _ _ => ⟨rfl, rfl, rfl⟩
    have sd := snd M T C k n
    have pArg := (sd.e ⟨N, scope, fun _ => true, false⟩ X ea arg sx gx c4).je.pe
    have hmr : X.mg sRng = none := gx.blt _ (by decide)
    have pIt : PI X tge (.Call (.Name sRng p3) [ea] [] p4) (iRng1 (tCons (tE M X (evE C arg)) tNil)) := pi_range1 (gl_of sx c2) hmr (pa_cons pArg pa_nil (star_cons c3)) (by rw [star_cons c3]; rfl)
    refine ⟨_, pss_one (ps_ret (pe_lc (own := ownP N [2]) (g := gD M X (asT 0 (.n 2)) 0 (Tg.sub (.n 2))) (tt := tYes) (te := tN M X (evE C el)) sx.calm sx.nd pIt bok
      (fun s H c cl fp => PG.imp (chkG_ok 0 (sx.blk s H c cl fp) (.n 2) tge b2) fun v σ H2 Q z => gD_same (M := M) (X := X) (Y := X.blk s H sc2 (compEnvC sc2 cl c X.env) fp) ⟨rfl, rfl, rfl⟩ z)
      (fun _ _ _ _ _ => pts_nil) (fun s H c cl fp => JE.tn gx.gh (sd.e _ _ elt el (sx.blk s H c cl fp) gx b3).je (blk s H c cl fp)) (fun _ => rfl))), ?_⟩
    have hlN : (L2.start N vs).length = 3 := by
      have : vs.length = 2 := by rw [r.length, hl]
      unfold L2.start
      simp only [List.length_append, List.length_map, List.length_replicate]; omega
    have r' := same.rps r
    -- the names at the entry
    have hrho : (ds.map Slot.p ++ [Slot.x]).length = 3 := by simp [hl]
    have sr0 : ∀ {σ2 : L2.St} {H2 : Hp}, Kd H H2 → σ2.length = 3 → (∀ i, i < 2 → σ2.getD i none = (L2.start N vs).getD i none) → SR M X H2 σ2 (ds.map Slot.p ++ [Slot.x]) (List.replicate 3 []) := fun {σ2 H2} kd h3 h4 => by
      have z := sr_nil (M := M) (X := X) (H := H2) (σ := σ2) (ρ := ds.map Slot.p ++ [Slot.x]) (by rw [h3, hrho]) fun i sl e => by
        by_cases hi : i < 2
        · rw [List.getElem?_append_left (by simpa [hl] using hi), List.getElem?_map] at e
          obtain ⟨dd, e5, e6⟩ := map_some e
          subst e6
          obtain ⟨v, e7, e8⟩ := r'.get e5
          rw [h4 i hi, start_at, e7]
          exact ⟨v, rfl, rfl, e8.kd kd⟩
        · have : i = 2 ∨ 3 ≤ i := by omega
          rcases this with rfl | hi
          · rw [List.getElem?_append_right (by simp [hl])] at e
            simp [hl] at e
            subst e
            rfl
          · rw [List.getElem?_eq_none (by rw [hrho]; exact hi)] at e; cases e
      rw [hrho] at z
      exact z
    have two : (ownP N [2]).map (·.2) = [2] := ownP_ix N [2]
    rw [two]
    have w2 : ∀ {σ2 : L2.St} {i : Nat}, i < 2 → (wipe σ2 [2]).getD i none = σ2.getD i none := fun {σ2 i} hi => by rw [wipe_at, if_neg (by simp; omega)]
    have fl : (List.replicate 3 ([] : List Addr)).flatten = [] := flat_nil 3
    refine ⟨_, _, _, ev.arg, sr0 (Kd.refl H) hlN (fun _ _ => rfl), tb, fun w0 ρ1 v1 H1 fs1 fp1 e5 s1 rv1 nd1 f1 g1 t1 => ?_, fun c ρ1 e5 => ?_⟩
    rotate_left
    · cases e5
    cases e5
    rw [fl] at f1
    have ev1 : v1 = .int m := by
      have z := rv1.2
      cases z
      rfl
    subst ev1
    refine ⟨m, rfl, by omega, by have := ev.small; omega, ?_⟩
    intro D0 hD0
    have hm : ((m : Int)).toNat = m := by omega
    rw [hm]
    refine lc_range (lo := 0) (n := m) (Qd := fun H' => Q (.ref D0) H') (fun i Hc => ∃ qs, Rds H Hc D0 qs i cell ∧ Tabs M.T Hc) ⟨[], ⟨rfl, upd_same, fun i q e => by simp at e, by simp, f1.none_back hD0, f1.trans (Fr.new (Wr := []) hD0) (fun _ z => nomatch z)⟩, tabs_new t1 hD0⟩ (fun i Hc hi hp => ?_) fun Hc hp => ?_
    · obtain ⟨qs, rd, tc⟩ := hp
      refine ⟨.int (0 + i), ds.map Slot.p ++ [Slot.x], List.replicate 3 [], (ds.map Slot.p ++ [Slot.x]).set 2 (.p (.int (0 + i))), .int _, sr0 rd.fr.kd (by rw [wipe_length]; exact hlN) (fun i hi => w2 hi), by rw [asT, if_pos ⟨Nat.zero_le _, ev.ix⟩], fun σ2 fs2 sr2 sb2 _ ln2 wp2 => ⟨?_, ?_⟩⟩
      · have := wp2 [2] (by decide)
        rw [this, wipe_wipe]
      · unfold tYes
        dsimp only
        rw [if_pos rfl]
        have hf2 : fs2.flatten = [] := List.sublist_nil.mp (by rw [← fl]; exact sb2)
        have eel := ev.el i hi
        rw [show ((0 : Int) + (i : Int)) = (i : Int) by omega] at sr2
        refine ⟨_, fs2, [.int (cell i), .int 0], eel, sr2, hf2, tc, ?_⟩
        intro a vs4 H4 fs4 sr4 hf4 ha rv4 hn4 f4 t4
        have hD4 : H4 D0 = some (.lst (qs.map V.ref)) := f4.kp D0 _ rd.at_ (fun z => nomatch z) (fun _ z => nomatch z)
        have hvs := rp_ints rv4
        subst hvs
        have ne1 : a ≠ D0 := fun z => by rw [z, rd.at_] at hn4; cases hn4
        have na : a ∉ D0 :: qs := fun z => by
          rcases List.mem_cons.mp z with y | y
          · exact ne1 y
          · obtain ⟨i2, hi2, e6⟩ := List.mem_iff_getElem.mp y
            have := (rd.it i2 a (by rw [List.getElem?_eq_getElem hi2, e6])).2
            rw [this] at hn4; cases hn4
        have lq : qs.length < 1000 := by rw [rd.len]; have := ev.small; omega
        refine ⟨qs.map V.ref, hD4, by rw [List.length_map, sizeLine_eq]; omega, qs ++ [a], ⟨by rw [List.length_append, rd.len]; rfl, by rw [upd_same, List.map_append]; rfl, fun i2 q e6 => ?_, ?_, rd.new, ?_⟩, tabs_upd t4 hD4 (fun _ z => nomatch z) (fun _ z => nomatch z)⟩
        · have nq : q ≠ D0 := fun z => by
            rw [z] at e6
            have : D0 ∈ qs ++ [a] := List.mem_of_getElem? e6
            rcases List.mem_append.mp this with y | y
            · exact (List.nodup_cons.mp rd.nd).1 y
            · exact ne1 (List.mem_singleton.mp y).symm
          rw [upd_ne nq]
          by_cases c : i2 < qs.length
          · rw [List.getElem?_append_left c] at e6
            obtain ⟨a1, a2⟩ := rd.it i2 q e6
            exact ⟨a1, f4.kp q _ a2 (fun z => nomatch z) (fun _ z => nomatch z)⟩
          · rw [List.getElem?_append_right (by omega)] at e6
            have e7 : i2 = qs.length := by
              have := lt_of_get e6
              simp at this; omega
            subst e7
            simp at e6
            subst e6
            rw [rd.len]
            exact ⟨rd.fr.none_back hn4, ha⟩
        · rw [show D0 :: (qs ++ [a]) = (D0 :: qs) ++ [a] from rfl]
          exact List.nodup_append.mpr ⟨rd.nd, by simp, fun x hx y hy e => by
            have : y = a := by simpa using hy
            subst this; subst e
            exact na hx⟩
        · exact (rd.fr.trans f4 (fun _ z => nomatch z)).trans (Fr.write (Wr := [D0]) hD4 trivial (by simp)) (fun x hx => .inr (by
            have : x = D0 := by simpa using hx
            rw [this]; exact rd.new))
    · obtain ⟨qs, rd, tc⟩ := hp
      exact k0 D0 qs Hc rd tc
end
end Mi
set_option Elab.async false
set_option linter.all false
set_option maxRecDepth 100000
set_option maxHeartbeats 2000000
/-! MiY: the law itself. -/
namespace Mi
open PySem PySem.Spec PyProof.Rows L2 LamX
section
variable {M : Wd} {X Y : Cx} {H H' H0 : Hp} {σ σ' : L2.St} {ρ ρ' : Env} {fs fs' fs0 : List (List Addr)} {pins : List (Addr × Obj)} {s s' : Shared} {C : Ctx} {pos : Pos} {np k n : Nat} {T : Tbl} {ck : Ck}
/-- a list is locked ahead of a block -/
theorem pss_lock {body : List Stmt} {t : TS} {a : Addr} {vs : List V} (h : PSs X body t) : PSs X body (fun D σ H => H a = some (.lst vs) ∧ ∀ od, t D σ (upd H a (.frz od (.lst vs)))) := by
  refine ⟨fun pins s σ H D I ⟨h1, h2⟩ => ?_⟩
  obtain ⟨od, I'⟩ := I.lock h1 trivial
  exact h.run pins s σ _ D I' (h2 od)
/-- the names at a turn: the dice alone -/
def turnEnv (N : Nat) (c : Int) : Env := (List.replicate N Slot.x).set 1 (.c (.l [.int c, .int 0]))
/-- the law's promise -/
def spLaw (M : Wd) (ok : List Int → Prop) : Sp := fun vs H Q _ => ∃ (a : Addr) (ns : List Int), vs = [.ref a] ∧ ok ns ∧ (H a = some (.lst (ns.map V.int)) ∨ ∃ o, H a = some (.frz o (.lst (ns.map V.int)))) ∧ Tabs M.T H ∧ ∀ H', Q (.bl true) H'
def sTrue : Stmt → Bool | .Return (some (.Constant (.bool true) _ _)) _ => true | _ => false
theorem sTrue_of {st : Stmt} (h : sTrue st = true) : ∃ k p q, st = .Return (some (.Constant (.bool true) k p)) q := by
  unfold sTrue at h
  split at h
  · exact ⟨_, _, _, rfl⟩
  · cases h
/-- the law's def: its loop, the end -/
def chkLaw (T : Tbl) (n : Nat) (ck : Ck) (body : List Stmt) (rd : Str) (high : Int) (turn : S) : Bool := body.length == 2 && (body[0]?).any fun st => (body[1]?).any fun st2 => sTrue st2 && (sFor st).any fun q => (asName q.1).any fun x => ck.N[1]? == some x && (ck.loc x && (chkSs T n ck q.2.2 turn && (asCall q.2.1).any fun z => z.1 == rd && (ck.gl z.1 && (!(z.1 == sDbg) && (!z.2.isEmpty && (noStar z.2 && chkEs T n ck z.2 (.cons (.var 0) (.cons (.int high) .nil))))))))
theorem rps_ints (X : Cx) (H : Hp) : ∀ ns : List Int, RpsX X H (ns.map V.int) (ns.map D.int)
  | [] => .nil
  | n :: ns => .cons (.int n) (rps_ints X H ns)
theorem law_ok {P : Program} {w : World} {K : PySem.W.Frag} {mg : Str → Option Value} {base : Heap} {k j n : Nat} {T : Tbl} {top : Bool} {C : Ctx} {arg el : E} {ok : List Int → Prop} {rd : Str} {high : Int} {turn : S} {f : Addr} {name qual : Str} {params : Arguments} {body : List Stmt} {scope : Scope} {dV kV doc pm cdv ct oc : Value} {an od : Option Addr} {osl : Array (Option Value)} {N ps : List Str} {fr : Addr} {fdr : FuncData} {psr : List Str}
    (lk : K.lookup f = some ⟨oc, od, .func (PySem.W.fnOf name qual params body scope dV kV doc pm an cdv ct), osl⟩) (hcd : PySem.W.codeIn K cdv qual = true) (S : FnScope N ps scope) (hN : 2 ≤ N.length) (hps : ps.length = 1)
    (hchk : chkLaw T n ⟨N, scope, fun _ => true, top⟩ body rd high turn = true) (hgd : ∀ A, Room j A → Gd M T P w K mg base A C k) (hlam : top = true → ∀ X : Cx, X.env.code = cdv → X.env.qual = qual ++ ".<locals>." → X.base = base → X.mg = mg → LamOk M X)
    (hex : ∀ c x, c ∈ T.ex → kinds[c]? = some x → mg x = some (.ref (M.exA c)) ∧ PySem.W.keepIn K (.ref (M.exA c)) = true ∧ PySem.W.excIn K (M.exA c) [.type "ValueError", .type "Exception", .type "BaseException", .type "object"] "ValueError.__new__" = true ∧ PySem.W.subIn K (.ref (M.exA c)) (.type "BaseException") = some true ∧ PySem.W.typeIn K (.ref (M.exA c)) = some (.type "type"))
    (hmr : mg rd = some (.ref fr)) (hkr : PySem.W.keepIn K (.ref fr) = true) (hbr : Binds K fdr psr []) (hfr : FnOk P w K mg base (L2N.CX P w) j fr fdr psr (spRd M P w K C arg el))
    (hrd : ∀ ns, ok ns → ∃ m cell, RdOk C arg el 2 [.p (.lst (ns.map D.int)), .p (.int high), .x] m cell ∧ ∀ i, i < m → ∃ ρ', evS C 1 turn (turnEnv N.length (cell i)) = some (.nx ρ')) :
    FnOk P w K mg base (L2N.CX P w) (j + 1) f (PySem.W.fnOf name qual params body scope dV kV doc pm an cdv ct) ps (spLaw M ok) := by
  refine fn_of lk hcd S (fun vs H Q E h => ?_) fun A outer s H vs Q E hr h => ?_
  · obtain ⟨a, ns, e, _⟩ := h
    rw [e, hps]; rfl
  · obtain ⟨a, ns, e, hok, hH, tb, hq⟩ := h
    subst e
    generalize hX : cxOf (L2N.CX P w) P w K mg base N qual scope f cdv A outer s H E = X
    have eP : X.prog = P := by subst hX; rfl
    have eW : X.w = w := by subst hX; rfl
    have eK : X.K = K := by subst hX; rfl
    have sx : ScX M ⟨N, scope, fun _ => true, top⟩ X := by
      subst hX
      exact ⟨rfl, rfl, fun _ _ => rfl, S.nd, rfl, fun z => hlam z _ rfl rfl rfl rfl⟩
    have gx : GdX M T C k X := by
      subst hX
      exact hgd _ hr
    have gs : Gs M T X := by
      subst hX
      refine ⟨passes_of rfl, fun c x h0 hc => ?_⟩
      obtain ⟨g1, g2, g3, g4, g5⟩ := hex c x h0 hc
      exact ⟨g1, g2, g3, raises_own g4 g5⟩
    have tk : L2N.Takes X (fun cls d _ H => E cls d H) := by
      subst hX
      exact L2N.takes_of rfl rfl rfl rfl
    have hF : FnOk X.prog X.w X.K X.mg X.base (L2N.CX X.prog X.w) j fr fdr psr (spRd M X.prog X.w X.K C arg el) := by subst hX; exact hfr
    have hroom : Room j X.A := by subst hX; exact hr
    have hm2 : X.mg rd = some (.ref fr) := by subst hX; exact hmr
    have hk2 : PySem.W.keepIn X.K (.ref fr) = true := by subst hX; exact hkr
    have hb2 : Binds X.K fdr psr [] := by subst hX; exact hbr
    unfold chkLaw at hchk
    obtain ⟨l1, g1⟩ := ba2 hchk
    obtain ⟨st, st2, e0⟩ := two_of l1
    obtain ⟨y1, z1, g2⟩ := any_of g1
    obtain ⟨y2, z2, g3⟩ := any_of g2
    have e1 : y1 = st := by rw [e0] at z1; exact (Option.some.inj z1).symm
    have e2 : y2 = st2 := by rw [e0] at z2; exact (Option.some.inj z2).symm
    obtain ⟨hT, g4⟩ := ba2 g3
    obtain ⟨q, hqf, g5⟩ := any_of g4
    obtain ⟨tg, ie, eb⟩ := q
    obtain ⟨pf, e3⟩ := sFor_of hqf
    obtain ⟨x, hx, g6⟩ := any_of g5
    obtain ⟨px, e4⟩ := asName_of hx
    obtain ⟨c1, g7⟩ := ba2 g6
    obtain ⟨c2, g8⟩ := ba2 g7
    obtain ⟨c3, g9⟩ := ba2 g8
    obtain ⟨z, hz, g10⟩ := any_of g9
    obtain ⟨rd', es⟩ := z
    obtain ⟨pc, pc2, e5⟩ := asCall_of hz
    obtain ⟨d1, g11⟩ := ba2 g10
    obtain ⟨d2, g12⟩ := ba2 g11
    obtain ⟨d3, g13⟩ := ba2 g12
    obtain ⟨d4, g14⟩ := ba2 g13
    obtain ⟨d5, d6⟩ := ba2 g14
    obtain ⟨kc, p7, q7, e6⟩ := sTrue_of hT
    have e7 : rd' = rd := beq_iff_eq.mp d1
    have c3 : chkSs T n ⟨N, scope, fun _ => true, top⟩ eb turn = true := c3
    clear g1 g2 g3 g4 g5 g6 g7 g8 g9 g10 g11 g12 g13 g14 hchk hqf hx hz hT l1 z1 z2
    obtain ⟨ea, er, e8⟩ := ne_of' d4
    have e3 : y1 = .For tg ie eb [] pf := e3
    have e4 : tg = .Name x px := e4
    have e5 : ie = .Call (.Name rd' pc) es [] pc2 := e5
    have e8 : es = ea :: er := e8
    subst e8
    subst e7
    subst e5
    subst e4
    subst e3
    subst e6
    subst e1
    subst e2
    subst e0
    obtain ⟨v1, v2⟩ := loc_of sx c2
    have sd := snd M T C k n
    have pA := (sd.a ⟨N, scope, fun _ => true, top⟩ X (ea :: er) _ sx gx d5 d6).pa
    have pC := pe_call (p := pc) (pos := pc2) (CX := L2N.CX X.prog X.w) (E := fun _ _ _ => False) (dvs := []) (ds := []) hF hroom (gl_of sx d2) hm2 hk2 hb2 .nil (L2N.passes_call tk fun _ _ _ _ z => z.elim) pA (not_of' d3) (star_cons d5) (star_any (noStar_tail d5))
    have pF := ps_for (pos := pf) gs.pass sx.calm (pi_list (tg := .Name x px) pC) (pg_name (pos := px) sx.nd (slot_of sx c1) v1 v2) (((snds M T C k 1 n).ss _ X eb turn sx gx gs c3)) (fun _ => rfl)
    have pAll := pss_cons pF (pss_one (ps_ret (pos := q7) (pe_bl (b := true) (j := kc) (pos := p7))))
    -- from a locked script on
    have main : ∀ {H1 : Hp}, (∃ o, H1 a = some (.frz o (.lst (ns.map V.int)))) → Tabs M.T H1 → tSeq (tFor (iList X.K (tCall (spRd M X.prog X.w X.K C arg el) [] (fun _ _ _ => False) (tA M X (evEs C (.cons (.var 0) (.cons (.int high) .nil)))))) (gName 1) (tS M X 1 (evS C 1 turn))) (tRet (tC (.bl true))) { nx := fun _ H' => Q .non H', rt := Q } (L2.start N [.ref a]) H1 := by
      rintro H1 ⟨oa, ha⟩ tb1
      obtain ⟨m, cell, ev, hturn⟩ := hrd ns hok
      have hlN : (L2.start N [V.ref a]).length = N.length := by
        unfold L2.start
        simp only [List.length_append, List.length_map, List.length_replicate, List.length_cons, List.length_nil]; omega
      have fl : ∀ k, (List.replicate k ([] : List Addr)).flatten = [] := flat_nil
      -- the names at first: the script, as data
      have hs0 : (L2.start N [V.ref a]).getD 0 none = some (.ref a) := by rw [start_at]; rfl
      have sr0 : SR M X H1 (L2.start N [.ref a]) ((List.replicate N.length Slot.x).set 0 (.p (.lst (ns.map D.int)))) (List.replicate N.length []) := by
        have z := sr_nil (M := M) (X := X) (H := H1) (σ := L2.start N [.ref a]) (ρ := (List.replicate N.length Slot.x).set 0 (.p (.lst (ns.map D.int)))) (by rw [List.length_set, List.length_replicate]; exact hlN) fun i sl e => by
          by_cases hi : i = 0
          · subst hi
            rw [List.getElem?_set_self (by simp; omega)] at e
            cases e
            rw [hs0]
            exact ⟨_, rfl, rfl, .lst ⟨oa, ha⟩ (rps_ints X H1 ns)⟩
          · rw [List.getElem?_set_ne (Ne.symm hi), List.getElem?_replicate] at e
            split at e
            · cases e; rfl
            · cases e
        rw [List.length_set, List.length_replicate] at z
        exact z
      have he0 : evEs C (.cons (.var 0) (.cons (.int high) .nil)) ((List.replicate N.length Slot.x).set 0 (.p (.lst (ns.map D.int)))) = some (.ok [.s 0, .d (.int high)] ((List.replicate N.length Slot.x).set 0 (.p (.lst (ns.map D.int))))) := by
        have e0 : ((List.replicate N.length Slot.x).set 0 (.p (.lst (ns.map D.int))))[0]? = some (.p (.lst (ns.map D.int))) := by
          rw [List.getElem?_set_self (by simp; omega)]
        simp only [evEs, evE, e0, R.bind]
      refine ⟨_, _, _, he0, sr0, tb1, fun ws ρ1 vs1 H2 fs1 fps e5 s1 rvs nd1 f1 g1 t1 => ?_, fun c ρ1 e5 => ?_⟩
      rotate_left
      · cases e5
      cases e5
      rw [fl] at f1
      rw [List.append_nil]
      -- what was handed in
      have hvs : vs1 = [.ref a, .int high] := by
        cases rvs with
        | cons r1 t =>
          cases t with
          | cons r2 t =>
            cases t
            have z1 := r1.2
            have z2 : L2.start N [V.ref a] = L2.start N [V.ref a] := rfl
            have z3 := getD_some z1
            rw [hs0] at z3
            cases z3
            have z4 := r2.2
            cases z4
            rfl
      subst hvs
      have ha2 : H2 a = some (.frz oa (.lst (ns.map V.int))) := f1.kp a _ ha (fun z => nomatch z) (fun _ z => nomatch z)
      refine ⟨X, [.lst (ns.map D.int), .int high], m, cell, rfl, rfl, rfl, .cons (.lst ⟨oa, ha2⟩ (rps_ints X H2 ns)) (.cons (.int high) .nil), rfl, t1, ev, fun p qs H3 rds t3 => ?_⟩
      refine ⟨p, rfl, ⟨_, SqL.of rds.at_⟩, ?_⟩
      refine for_list (xs := qs.map V.ref) (fun i σi Hi => σi.length = N.length ∧ Hi p = some (.lst (qs.map V.ref)) ∧ (∀ j q, i ≤ j → qs[j]? = some q → Hi q = some (.lst [.int (cell j), .int 0])) ∧ Tabs M.T Hi) ⟨hlN, rds.at_, fun j q _ e => (rds.it j q e).2, t3⟩ (fun i σi Hi _ h => SqL.of h.2.1) (fun i x σi Hi hx h => ?_) fun σi Hi h => ?_
      · obtain ⟨h1, h2, h3, h4⟩ := h
        rw [List.getElem?_map] at hx
        obtain ⟨q, hq1, rfl⟩ := map_some hx
        have him : i < m := by rw [← rds.len]; exact lt_of_get hq1
        obtain ⟨ρ', hev⟩ := hturn i him
        have hq2 := h3 i q (Nat.le_refl _) hq1
        have nq := List.nodup_cons.mp rds.nd
        have l2 : (σi.set 1 (some (V.ref q))).length = N.length := by rw [List.length_set]; exact h1
        have srx : SR M X Hi (σi.set 1 (some (.ref q))) (List.replicate N.length .x) (List.replicate N.length []) := by
          have z := sr_nil (M := M) (X := X) (H := Hi) (σ := σi.set 1 (some (.ref q))) (ρ := List.replicate N.length Slot.x) (by rw [List.length_replicate]; exact l2) fun i sl e => by
            rw [List.getElem?_replicate] at e
            split at e
            · cases e; rfl
            · cases e
          rw [List.length_replicate] at z
          exact z
        have srt : SR M X Hi (σi.set 1 (some (.ref q))) (turnEnv N.length (cell i)) ((List.replicate N.length []).set 1 [q]) := by
          refine srx.put rfl (fun _ _ => rfl) ?_ (by simp) (fun x hx hm => ?_)
          · rw [getD_set_self (by rw [h1]; omega)]
            exact ⟨_, rfl, q, _, rfl, rfl, hq2, .cons (.int _) (.cons (.int _) .nil)⟩
          · have := (set_sub _ _).subset hm
            rw [fl] at this
            cases this
        have flq : ((List.replicate N.length ([] : List Addr)).set 1 [q]).flatten = [q] := by
          have aux : ∀ k, ((List.replicate (k + 2) ([] : List Addr)).set 1 [q]).flatten = [q] := fun k => by
            show (([] : List Addr) :: [q] :: List.replicate k []).flatten = [q]
            rw [List.flatten_cons, List.flatten_cons, fl]; rfl
          obtain ⟨k, ek⟩ : ∃ k, N.length = k + 2 := ⟨N.length - 2, by omega⟩
          rw [ek]; exact aux k
        refine ⟨_, _, _, hev, srt, h4, ⟨fun ρ2 σ2 H4 fs4 e st => ?_, fun ρ2 σ2 H4 fs4 e st => ?_, fun w ρ2 v σ2 H4 fs4 fp e => ?_, fun c ρ2 e => ?_⟩⟩
        · have f4 := st.fr
          rw [flq] at f4
          refine ⟨st.ln.trans l2, f4.kp p _ h2 (fun z => nq.1 (by
            have : p = q := by simpa using z
            rw [this]; exact List.mem_of_getElem? hq1)) (fun _ z => nomatch z), fun j q' hj e' => f4.kp q' _ (h3 j q' (by omega) e') (fun z => ?_) (fun _ z => nomatch z), st.tb⟩
          have eq : q' = q := by simpa using z
          subst eq
          have := (List.getElem?_inj (lt_of_get e') nq.2).mp (e'.trans hq1.symm)
          omega
        · cases e
        · cases e
        · cases e
      · exact hq Hi
    rcases hH with hH | hH
    · exact ⟨_, pss_lock (a := a) (vs := ns.map V.int) pAll, hH, fun od => main ⟨od, upd_same⟩ (tabs_upd tb hH (fun _ z => nomatch z) (fun _ z => nomatch z))⟩
    · exact ⟨_, pAll, main hH tb⟩
end
end Mi
set_option Elab.async false
set_option linter.all false
set_option maxRecDepth 100000
set_option maxHeartbeats 2000000
/-! MjF: the def that names the kind of the exception at hand. -/
namespace Mi
open PySem PySem.Spec PyProof.Rows L2 LamX
def sVal : Str := "ValueError"
def sSum : Str := "sum"
def sInt : Str := "int"
def sIdx : Str := "index"
def clsS (x : Nat) : Str := match kinds[x]? with
  | some y => y
  | none => sVal
def okN (ck : Ck) (i : Nat) (x : Str) : Bool := ck.N[i]? == some x && (ck.vis x && (!(x == sDbg) && !(x == sCld)))
def eVar : E → Option Nat | .var i => some i | _ => none
def tCls : Ty → Option Nat | .cls x => some x | _ => none
theorem eVar_of {e : E} {i : Nat} (h : eVar e = some i) : e = .var i := by cases e <;> first | (cases h; done) | (cases h; rfl)
theorem tCls_of {e : Ty} {i : Nat} (h : tCls e = some i) : e = .cls i := by cases e <;> first | (cases h; done) | (cases h; rfl)
mutual
def chkH (ck : Ck) : Nat → Expr → E → Bool
  | 0, _, _ => false
  | n + 1, e, m => match m with
    | .var i => (asName e).any fun x => okN ck i x
    | .bl b => (asCst e).any fun c => c == .bool b
    | .int i => (asCst e).any fun c => c == .int i
    | .str x => (asCst e).any fun c => c == .str x
    | .tup l => (asTup e).any fun es => noStar es && chkHs ck n es l
    | .lst l => (asLst e).any fun es => noStar es && chkHs ck n es l
    | .bin o a b => (asBin e).any fun q => q.2.1 == opN o && (chkH ck n q.1 a && chkH ck n q.2.2 b)
    | .sub a i => (asSub e).any fun q => plainIx q.2 && (chkH ck n q.1 a && chkH ck n q.2 i)
    | .isi a t => (eVar a).any fun i => (tCls t).any fun x => decide (x ≤ 10) && (asCall e).any fun q => q.1 == sIsi && (q.2.length == 2 && ((q.2[0]?).any fun ea => (q.2[1]?).any fun et => (asName ea).any fun xn => (asName et).any fun y => y == clsS x && (okN ck i xn && (ck.gl q.1 && (ck.gl y && !(y == sDbg))))))
    | .cnt i => (asCall e).any fun q => q.1 == sSum && (ck.gl q.1 && (q.2.length == 1 && q.2.head?.any fun lc => (asLc lc).any fun z => z.2.2.2.1.isEmpty && ((asName z.2.1).any fun y => (asName z.2.2.1).any fun xn => (asCall z.1).any fun w => w.1 == sInt && (w.2.length == 1 && w.2.head?.any fun e1 => (asName e1).any fun y2 =>
        y2 == y && (okN ck i xn && (blkC ck.N ck.sc z.2.2.2.2 [(y, ck.N.idxOf y)] && (okN (ckBlk ck z.2.2.2.2) (ck.N.idxOf y) y && ((ckBlk ck z.2.2.2.2).loc y && (ckBlk ck z.2.2.2.2).gl w.1))))))))
    | .mth mt a l => decide (mt = .index) && (asMeth e).any fun q => q.2.1 == sIdx && (plainBase q.1 && (q.2.2.1 && (chkH ck n q.1 a && (q.2.2.2.length == 1 && (noStar q.2.2.2 && chkHs ck n q.2.2.2 l)))))
    | _ => false
def chkHs (ck : Ck) : Nat → List Expr → Es → Bool
  | 0, _, _ => false
  | n + 1, es, l => match l with
    | .nil => es.isEmpty
    | .cons a l => es.head?.any (fun e => chkH ck n e a) && chkHs ck n es.tail l
end
/-- what is known where an exception is handled -/
structure HotX (M : Wd) (X : Cx) (ck : Ck) (c : Nat) (p : Addr × Obj) : Prop where
  n : X.N = ck.N
  sc : X.env.scope = ck.sc
  nd : X.N.Nodup
  hot : L2H.HotC X
  un : Units X
  blt : ∀ x ∈ blts, X.mg x = none
  ve : X.mg sVal = none
  gx : GhX M X c p
  ex : ∀ x y, kinds[x]? = some y → X.mg y = some (.ref (M.exA x))
  kit : ∀ x y, kinds[x]? = some y → PySem.W.kitOne X.K (.ref (M.exA c)) (.ref (M.exA x)) = some (x == c)
  kitv : PySem.W.kitOne X.K (.ref (M.exA c)) (.type "ValueError") = some true
section
variable {M : Wd} {X : Cx} {C : Ctx} {ck : Ck} {c : Nat} {p : Addr × Obj}
theorem HotX.vis (hx : HotX M X ck c p) {x : Str} (h : ck.vis x = true) : Vis X.env.scope x := by
  unfold Ck.vis at h
  unfold Vis
  rw [hx.sc]
  rw [Bool.or_eq_true, Bool.or_eq_true, beq_iff_eq, beq_iff_eq, beq_iff_eq] at h
  rcases h with (h | h) | h
  · exact .inl h
  · exact .inr (.inl h)
  · exact .inr (.inr h)
theorem HotX.gl (hx : HotX M X ck c p) {x : Str} (h : ck.gl x = true) : Gl X x := by
  unfold Gl Env.kindOf
  rw [hx.sc]
  exact beq_iff_eq.mp h
theorem okN_of {i : Nat} {x : Str} (h : okN ck i x = true) : ck.N[i]? = some x ∧ ck.vis x = true ∧ (x == ("__debug__" : Str)) = false ∧ (x == ("__classdict__" : Str)) = false := by
  unfold okN at h
  obtain ⟨h1, h⟩ := ba2 h
  obtain ⟨h2, h⟩ := ba2 h
  obtain ⟨h3, h4⟩ := ba2 h
  exact ⟨beq_iff_eq.mp h1, h2, not_of' h3, not_of' h4⟩
theorem val_boot : bootBuiltins sVal = some (.type "ValueError") := by decide +kernel
mutual
theorem sndH (hx : HotX M X ck c p) : ∀ (n : Nat) (e : Expr) (m : E), chkH ck n e m = true → JE M X (evE C m) e
  | 0, _, _, h => by simp [chkH] at h
  | n + 1, e, m, h => by
    cases m with
    | var i =>
      rw [chkH] at h
      obtain ⟨x, hn, h⟩ := any_of h
      obtain ⟨pp, rfl⟩ := asName_of hn
      obtain ⟨h1, h2, h3, h4⟩ := okN_of h
      exact je_var (by rw [hx.n]; exact h1) (hx.vis h2) h3 h4
    | bl b =>
      rw [chkH] at h
      obtain ⟨x, hn, h⟩ := any_of h
      obtain ⟨k0, pp, rfl⟩ := asCst_of hn
      obtain rfl := beq_iff_eq.mp h
      exact je_bl
    | int b =>
      rw [chkH] at h
      obtain ⟨x, hn, h⟩ := any_of h
      obtain ⟨k0, pp, rfl⟩ := asCst_of hn
      obtain rfl := beq_iff_eq.mp h
      exact je_int
    | str b =>
      rw [chkH] at h
      obtain ⟨x, hn, h⟩ := any_of h
      obtain ⟨k0, pp, rfl⟩ := asCst_of hn
      obtain rfl := beq_iff_eq.mp h
      exact je_str
    | tup l =>
      rw [chkH] at h
      obtain ⟨x, hn, h⟩ := any_of h
      obtain ⟨k0, pp, rfl⟩ := asTup_of hn
      obtain ⟨h1, h2⟩ := ba2 h
      exact je_tup (sndHs hx n x l h1 h2)
    | lst l =>
      rw [chkH] at h
      obtain ⟨x, hn, h⟩ := any_of h
      obtain ⟨pp, rfl⟩ := asLst_of hn
      obtain ⟨h1, h2⟩ := ba2 h
      exact je_lst (sndHs hx n x l h1 h2)
    | bin o a b =>
      rw [chkH] at h
      obtain ⟨q, hn, h⟩ := any_of h
      obtain ⟨ea, op, eb⟩ := q
      obtain ⟨pp, rfl⟩ := asBin_of hn
      obtain ⟨h1, h⟩ := ba2 h
      obtain ⟨h2, h3⟩ := ba2 h
      obtain rfl : op = opN o := beq_iff_eq.mp h1
      exact je_bin (sndH hx n ea a h2) (sndH hx n eb b h3)
    | sub a i =>
      rw [chkH] at h
      obtain ⟨q, hn, h⟩ := any_of h
      obtain ⟨ea, ei⟩ := q
      obtain ⟨pp, rfl⟩ := asSub_of hn
      obtain ⟨h1, h⟩ := ba2 h
      obtain ⟨h2, h3⟩ := ba2 h
      exact je_sub (sndH hx n ea a h2) (sndH hx n ei i h3) h1
    | isi a t =>
      rw [chkH] at h
      obtain ⟨i, hi, hA⟩ := any_of h
      obtain ⟨x, hxx, hB⟩ := any_of hA
      obtain ⟨hle, hC⟩ := ba2 hB
      have hle := of_decide_eq_true hle
      obtain rfl := eVar_of hi
      obtain rfl := tCls_of hxx
      clear h hA hB
      · obtain ⟨q, hq, h⟩ := any_of hC
        obtain ⟨f, es⟩ := q
        obtain ⟨p1, pos, rfl⟩ := asCall_of hq
        obtain ⟨h1, h⟩ := ba2 h
        obtain ⟨h2, h⟩ := ba2 h
        obtain ⟨x1, x2, e0⟩ := two_of h2
        have e0 : es = [x1, x2] := e0
        subst e0
        obtain ⟨ea, e1, h⟩ := any_of h
        obtain ⟨et, e2, h⟩ := any_of h
        have e1 : some x1 = some ea := e1
        have e2 : some x2 = some et := e2
        cases e1
        cases e2
        obtain ⟨xn, hxn, h⟩ := any_of h
        obtain ⟨y, hy, h⟩ := any_of h
        obtain ⟨q1, rfl⟩ := asName_of hxn
        obtain ⟨q2, rfl⟩ := asName_of hy
        obtain ⟨h3, h⟩ := ba2 h
        obtain ⟨h4, h⟩ := ba2 h
        obtain ⟨h5, h⟩ := ba2 h
        obtain ⟨h6, h7⟩ := ba2 h
        obtain rfl : f = sIsi := beq_iff_eq.mp h1
        obtain rfl : y = clsS x := beq_iff_eq.mp h3
        obtain ⟨g1, g2, g3, g4⟩ := okN_of h4
        have g1 : X.N[i]? = some xn := by rw [hx.n]; exact g1
        intro pins s σ H ρ fs r hr I sr tb
        cases hk : kinds[x]? with
        | some y =>
          have ec : clsS x = y := by unfold clsS; rw [hk]
          rw [ec] at h6 h7 ⊢
          have ne : (x == 10) = false := by
            have hl : x < kinds.length := by
              by_cases z : x < kinds.length
              · exact z
              · rw [List.getElem?_eq_none (by omega)] at hk; cases hk
            have : kinds.length = 10 := rfl
            rw [beq_eq_false_iff_ne]; omega
          exact je_isx hx.gx (hx.gl h5) (hx.blt _ (by decide)) g1 (hx.vis g2) g3 g4 (fun E s H Q I q => ld_glob I (hx.gl h6) (hx.ex x y hk) q (not_of' h7)) (by rw [ne, Bool.or_false]; exact hx.kit x y hk) hr I sr tb
        | none =>
          have ec : clsS x = sVal := by unfold clsS; rw [hk]
          rw [ec] at h6 h7 ⊢
          have z : x = 10 := by
            have hl : ¬ x < kinds.length := fun z => by rw [List.getElem?_eq_getElem z] at hk; cases hk
            have : kinds.length = 10 := rfl
            omega
          · subst z
            exact je_isx hx.gx (hx.gl h5) (hx.blt _ (by decide)) g1 (hx.vis g2) g3 g4 (fun E s H Q I q => ld_blt I (hx.gl h6) hx.ve val_boot q (by decide) (not_of' h7)) (by rw [show ((10 : Nat) == c || (10 : Nat) == 10) = true from by simp]; exact hx.kitv) hr I sr tb
    | cnt i =>
      rw [chkH] at h
      obtain ⟨q, hq, h⟩ := any_of h
      obtain ⟨f, es⟩ := q
      obtain ⟨p1, pos, rfl⟩ := asCall_of hq
      obtain ⟨h1, h⟩ := ba2 h
      obtain ⟨h2, h⟩ := ba2 h
      obtain ⟨lc, e0, ha⟩ := one_of h
      have e0 : es = [lc] := e0
      subst e0
      obtain ⟨z, hz, hb⟩ := any_of ha
      obtain ⟨elt, tg, ie, ifs, scope⟩ := z
      obtain ⟨pl, rfl⟩ := asLc_of hz
      obtain ⟨h3, hc⟩ := ba2 hb
      obtain ⟨y, hy, hd⟩ := any_of hc
      obtain ⟨xn, hxn, he⟩ := any_of hd
      obtain ⟨w, hw, hf⟩ := any_of he
      obtain ⟨fi, es2⟩ := w
      obtain ⟨p4, rfl⟩ := asName_of hy
      obtain ⟨p5, rfl⟩ := asName_of hxn
      obtain ⟨p6, p7, rfl⟩ := asCall_of hw
      obtain ⟨h4, hg⟩ := ba2 hf
      obtain ⟨e1, e2, hh⟩ := one_of hg
      have e2 : es2 = [e1] := e2
      subst e2
      obtain ⟨y2, hy2, hi⟩ := any_of hh
      obtain ⟨p8, rfl⟩ := asName_of hy2
      obtain ⟨h5, hj⟩ := ba2 hi
      obtain ⟨h6, hk⟩ := ba2 hj
      obtain ⟨h7, hl⟩ := ba2 hk
      obtain ⟨h8, hm⟩ := ba2 hl
      obtain ⟨h9, h10⟩ := ba2 hm
      obtain rfl : f = sSum := beq_iff_eq.mp h1
      obtain rfl : fi = sInt := beq_iff_eq.mp h4
      obtain rfl : y2 = y := beq_iff_eq.mp h5
      have h3 : ifs = [] := by
        have h3 : ifs.isEmpty = true := h3
        cases ifs with
        | nil => rfl
        | cons _ _ => cases h3
      subst h3
      obtain ⟨g1, g2, g3, g4⟩ := okN_of h6
      obtain ⟨k1, k2, k3, k4⟩ := okN_of h8
      have esc : (ckBlk ck scope).sc = relS scope X.env.scope := by show relS scope ck.sc = _; rw [hx.sc]
      have vis2 : Vis (relS scope X.env.scope) y2 := by
        rw [← esc]
        unfold Ck.vis at k2
        rw [Bool.or_eq_true, Bool.or_eq_true, beq_iff_eq, beq_iff_eq, beq_iff_eq] at k2
        rcases k2 with (z | z) | z
        · exact .inl z
        · exact .inr (.inl z)
        · exact .inr (.inr z)
      have loc2 : L2.Loc (relS scope X.env.scope) y2 ∧ ((scope.names.lookup y2 == some .cell) = true ∨ (relS scope X.env.scope).names.lookup y2 = some .local) := by
        rw [← esc]
        unfold Ck.loc at h9
        rw [Bool.or_eq_true, Bool.and_eq_true, beq_iff_eq, beq_iff_eq] at h9
        rcases h9 with z | z
        · exact ⟨.inl z, .inr z⟩
        · exact ⟨.inr z.1, .inl z.2⟩
      exact je_cnt (j := ck.N.idxOf y2) hx.hot hx.nd (hx.gl h2) (hx.blt _ (by decide)) (by rw [← esc]; exact beq_iff_eq.mp h10) (hx.blt _ (by decide)) (by rw [hx.n]; exact g1) (hx.vis g2) g3 g4 (by rw [hx.n]; exact k1) k3 k4 (by rw [hx.n, hx.sc]; exact blkOk_by h7) vis2 loc2.1 loc2.2
    | mth mt a l =>
      rw [chkH] at h
      obtain ⟨hmt, hA⟩ := ba2 h
      obtain rfl := of_decide_eq_true hmt
      clear h
      · obtain ⟨q, hq, h⟩ := any_of hA
        obtain ⟨o, x, ln, es⟩ := q
        obtain ⟨ap, pos, rfl, hln⟩ := asMeth_of hq
        obtain ⟨h1, h⟩ := ba2 h
        obtain ⟨h2, h⟩ := ba2 h
        obtain ⟨h3, h⟩ := ba2 h
        obtain ⟨h4, h⟩ := ba2 h
        obtain ⟨h5, h⟩ := ba2 h
        obtain ⟨h6, h7⟩ := ba2 h
        obtain rfl : x = sIdx := beq_iff_eq.mp h1
        have h5 : es.length = 1 := beq_iff_eq.mp h5
        match es, h5, h6, h7 with
        | [e1], _, h6, h7 =>
        exact je_index hx.un h2 h6 (by first | exact h3 | exact hln.trans h3) (sndH hx n o a h4) (sndHs hx n [e1] l h6 h7)
    | _ => rw [chkH] at h <;> first | cases h | (intros; contradiction)
theorem sndHs (hx : HotX M X ck c p) : ∀ (n : Nat) (es : List Expr) (l : Es), noStar es = true → chkHs ck n es l = true → JA M X (evEs C l) es
  | 0, _, _, _, h => by simp [chkHs] at h
  | n + 1, es, l, hs, h => by
    cases l with
    | nil =>
      rw [chkHs] at h
      cases es with
      | nil => exact ja_nil
      | cons e es => cases h
    | cons a l =>
      rw [chkHs] at h
      obtain ⟨h1, h2⟩ := ba2 h
      obtain ⟨e, r, rfl, h1⟩ := head_of h1
      exact ja_cons (sndH hx n e a h1) (sndHs hx n r l (noStar_tail hs) h2) (star_cons hs)
end
end
end Mi
set_option Elab.async false
set_option linter.all false
set_option maxRecDepth 100000
set_option maxHeartbeats 2000000
/-! MjG: the def that names the kind keeps its promise. -/
namespace Mi
open PySem PySem.Spec PyProof.Rows L2 LamX
def esOf : List E → Es
  | [] => .nil
  | a :: l => .cons a (esOf l)
def isK (x : Nat) : E := .isi (.var 0) (.cls x)
def kS (x : Nat) : E := .str (kinds.getD x Str.empty)
def sOther : Str := ⟨#[111, 116, 104, 101, 114]⟩
def tE1 : E := .lst (esOf ([0, 1, 2, 3].map isK))
def tE2 : E := .bin .add (.var 1) (.lst (esOf ([4, 5, 6].map isK)))
def tE3 : E := .bin .add (.var 1) (.lst (esOf ([7, 8, 9].map isK)))
def tE4 : E := .lst (esOf ([0, 1, 2, 3, 4, 5, 6].map kS))
def tE5 : E := .bin .add (.var 2) (.lst (esOf ([7, 8, 9].map kS)))
def tQ1 : E := .cmp .ne (.cnt 1) (.int 1)
def tQ2 : E := isK 10
def tR1 : E := .tup (esOf [.str sRefused, .str sOther])
def tR2 : E := .tup (esOf [.str sRefused, .sub (.var 2) (.mth .index (.var 1) (esOf [.bl true]))])
def termS : S := .seq (.asg false 1 tE1) (.seq (.asg false 1 tE2) (.seq (.asg false 1 tE3) (.seq (.asg false 2 tE4) (.seq (.asg false 2 tE5) (.seq (.ifs (.or_ tQ1 (.not_ tQ2)) (.ret tR1) .pass) (.ret tR2))))))
theorem term_ev {C : Ctx} {c : Nat} {y : Str} (h : kinds[c]? = some y) : ∃ ρ', evS C 1 termS [.o c [.p (.exc 0)], .x, .x, .x] = some (.rt (.d (.tup [.str sRefused, .str y])) ρ') := by
  have hl : c < 10 := by
    by_cases z : c < kinds.length
    · exact z
    · rw [List.getElem?_eq_none (by omega)] at h; cases h
  have key : ∀ c, c < 10 → ∃ ρ', evS C 1 termS [.o c [.p (.exc 0)], .x, .x, .x] = some (.rt (.d (.tup [.str sRefused, .str (kinds.getD c Str.empty)])) ρ') := by
    intro c hc
    match c, hc with
    | 0, _ => exact ⟨_, rfl⟩
    | 1, _ => exact ⟨_, rfl⟩
    | 2, _ => exact ⟨_, rfl⟩
    | 3, _ => exact ⟨_, rfl⟩
    | 4, _ => exact ⟨_, rfl⟩
    | 5, _ => exact ⟨_, rfl⟩
    | 6, _ => exact ⟨_, rfl⟩
    | 7, _ => exact ⟨_, rfl⟩
    | 8, _ => exact ⟨_, rfl⟩
    | 9, _ => exact ⟨_, rfl⟩
  obtain ⟨ρ', e⟩ := key c hl
  refine ⟨ρ', ?_⟩
  rw [e, List.getD_eq_getElem?_getD, h]
  rfl
/-! ### its text -/
def asgH (ck : Ck) (st : Stmt) (i : Nat) (e : E) : Bool := (sAsg st).any fun q => (asName q.1).any fun x => ck.N[i]? == some x && (ck.loc x && (plainC q.2.1 && chkH ck 60 q.2.1 e))
def retH (ck : Ck) (st : Stmt) (e : E) : Bool := (sRet st).any fun q => chkH ck 60 q e
def tstH (ck : Ck) (e : Expr) : Bool := (asBool e).any fun q => q.1 == .Or && (q.2.1.length == 2 && ((q.2.1[0]?).any fun e1 => (q.2.1[1]?).any fun e2 => ((asCmp e1).any fun z => z.2.1 == [cmN .ne] && (z.2.2.length == 1 && z.2.2.head?.any fun eb => !behindInMarks (cmN .ne) eb && (chkH ck 60 z.1 (.cnt 1) && chkH ck 60 eb (.int 1)))) &&
  ((asUn e2).any fun u => u.1 == .Not && ((asCall u.2).isSome && chkH ck 60 u.2 tQ2))))
def ifH (ck : Ck) (st : Stmt) : Bool := (sIf st).any fun q => tstH ck q.1 && (q.2.2.isEmpty && (q.2.1.length == 1 && q.2.1.head?.any fun s1 => retH ck s1 tR1))
def chkTerm (ck : Ck) (body : List Stmt) : Bool := match body with
  | [s1, s2, s3, s4, s5, s6, s7] => asgH ck s1 1 tE1 && (asgH ck s2 1 tE2 && (asgH ck s3 1 tE3 && (asgH ck s4 2 tE4 && (asgH ck s5 2 tE5 && (ifH ck s6 && retH ck s7 tR2)))))
  | _ => false
section
variable {M : Wd} {X : Cx} {C : Ctx} {ck : Ck} {c : Nat} {p : Addr × Obj}
theorem asgH_ok (hx : HotX M X ck c p) (hfn : ∀ x, X.fn x = true) {st : Stmt} {i : Nat} {e : E} (h : asgH ck st i e = true) : PS X st (tS M X 1 (evS C 1 (.asg false i e))) := by
  obtain ⟨q, hq, h0⟩ := any_of h
  obtain ⟨tg, v, pos⟩ := q
  obtain rfl := sAsg_of hq
  obtain ⟨x, hxn, ha⟩ := any_of h0
  obtain ⟨px, e1⟩ := asName_of hxn
  have e1 : tg = .Name x px := e1
  subst e1
  obtain ⟨h1, hb⟩ := ba2 ha
  obtain ⟨h2, hc⟩ := ba2 hb
  obtain ⟨h3, h4⟩ := ba2 hc
  have loc : L2.Loc X.env.scope x := by
    unfold Ck.loc at h2
    unfold L2.Loc
    rw [hx.sc]
    rw [Bool.or_eq_true, Bool.and_eq_true, beq_iff_eq, beq_iff_eq] at h2
    exact h2.elim .inl fun z => .inr z.1
  exact js_asg hx.nd (by rw [hx.n]; exact beq_iff_eq.mp h1) loc (.inl (hfn x)) (sndH hx 60 v e h4) (swaps_plain h3)
theorem retH_ok (hx : HotX M X ck c p) {st : Stmt} {e : E} (h : retH ck st e = true) : PS X st (tS M X 1 (evS C 1 (.ret e))) := by
  obtain ⟨q, hq, h0⟩ := any_of h
  obtain ⟨pos, rfl⟩ := sRet_of hq
  exact js_ret (sndH hx 60 q e h0)
theorem tstH_ok (hx : HotX M X ck c p) {e : Expr} (h : tstH ck e = true) : JT M X (evT C (.or_ tQ1 (.not_ tQ2))) e := by
  obtain ⟨q, hq, h0⟩ := any_of h
  obtain ⟨op, es, pos⟩ := q
  obtain rfl := asBool_of hq
  obtain ⟨h1, h2⟩ := ba2 h0
  obtain ⟨h3, h4⟩ := ba2 h2
  obtain ⟨x1, x2, e0⟩ := two_of h3
  have e0 : es = [x1, x2] := e0
  subst e0
  obtain ⟨y1, f1, h5⟩ := any_of h4
  obtain ⟨y2, f2, h6⟩ := any_of h5
  have f1 : some x1 = some y1 := f1
  have f2 : some x2 = some y2 := f2
  cases f1
  cases f2
  obtain ⟨h7, h8⟩ := ba2 h6
  obtain ⟨z, hz, h9⟩ := any_of h7
  obtain ⟨ea, ops, eb⟩ := z
  obtain ⟨p1, rfl⟩ := asCmp_of hz
  obtain ⟨h10, h11⟩ := ba2 h9
  obtain ⟨eb1, g0, h12⟩ := one_of h11
  have g0 : eb = [eb1] := g0
  subst g0
  obtain ⟨h13, h14⟩ := ba2 h12
  obtain ⟨h15, h16⟩ := ba2 h14
  obtain ⟨u, hu, h17⟩ := any_of h8
  obtain ⟨uo, ue⟩ := u
  obtain ⟨p2, rfl⟩ := asUn_of hu
  obtain ⟨h18, h19⟩ := ba2 h17
  obtain ⟨h20, h21⟩ := ba2 h19
  obtain ⟨cl, hcl⟩ := Option.isSome_iff_exists.mp h20
  obtain ⟨p3, p4, e3⟩ := asCall_of hcl
  have e4 : ue = .Call (.Name cl.1 p3) cl.2 [] p4 := e3
  obtain rfl : op = .Or := beq_iff_eq.mp h1
  obtain rfl : ops = [cmN .ne] := beq_iff_eq.mp h10
  obtain rfl : uo = .Not := beq_iff_eq.mp h18
  have t1 : JT M X (evT C tQ1) (.Compare ea [cmN .ne] [eb1] p1) := jt_cmp hx.un (sndH hx 60 ea _ h15) (sndH hx 60 eb1 _ h16) (not_of' h13)
  have t2 : JT M X (evT C tQ2) ue := jt_plain (sndH hx 60 ue _ h21) (by rw [e4]; rfl)
  exact (jw_or t1 (jw_or1 (jt_not t2))).jt
theorem term_pss (hx : HotX M X ck c p) (hfn : ∀ x, X.fn x = true) {body : List Stmt} (h : chkTerm ck body = true) : PSs X body (tS M X 1 (evS C 1 termS)) := by
  unfold chkTerm at h
  split at h
  · rename_i s1 s2 s3 s4 s5 s6 s7
    obtain ⟨a1, h⟩ := ba2 h
    obtain ⟨a2, h⟩ := ba2 h
    obtain ⟨a3, h⟩ := ba2 h
    obtain ⟨a4, h⟩ := ba2 h
    obtain ⟨a5, h⟩ := ba2 h
    obtain ⟨a6, a7⟩ := ba2 h
    have b6 : PS X s6 (tS M X 1 (evS C 1 (.ifs (.or_ tQ1 (.not_ tQ2)) (.ret tR1) .pass))) := by
      obtain ⟨q, hq, h0⟩ := any_of a6
      obtain ⟨et, ea, eb⟩ := q
      obtain ⟨pos, rfl⟩ := sIf_of hq
      obtain ⟨g1, g2⟩ := ba2 h0
      obtain ⟨g3, g4⟩ := ba2 g2
      obtain ⟨st, e0, g5⟩ := one_of g4
      have e0 : ea = [st] := e0
      subst e0
      have g3 : eb = [] := by
        have g3 : eb.isEmpty = true := g3
        cases eb with
        | nil => rfl
        | cons _ _ => cases g3
      subst g3
      exact js_ifs (tstH_ok hx g1) (js_one (retH_ok hx g5)) js_nil
    exact js_seq (asgH_ok hx hfn a1) (js_seq (asgH_ok hx hfn a2) (js_seq (asgH_ok hx hfn a3) (js_seq (asgH_ok hx hfn a4) (js_seq (asgH_ok hx hfn a5) (js_seq b6 (js_one (retH_ok hx a7)))))))
  · cases h
end
/-! ### its promise -/
section
variable {M : Wd} {P : Program} {w : World} {K : PySem.W.Frag} {mg : Str → Option Value} {base : Heap}
/-- what the head tells of the kinds -/
structure KindX (M : Wd) (K : PySem.W.Frag) (mg : Str → Option Value) : Prop where
  ve : mg sVal = none
  ex : ∀ x y, kinds[x]? = some y → mg y = some (.ref (M.exA x))
  ec : ∀ c y, kinds[c]? = some y → ExcC K (M.exA c)
  kit : ∀ c z x y, kinds[c]? = some z → kinds[x]? = some y → PySem.W.kitOne K (.ref (M.exA c)) (.ref (M.exA x)) = some (x == c)
  kitv : ∀ c z, kinds[c]? = some z → PySem.W.kitOne K (.ref (M.exA c)) (.type "ValueError") = some true
theorem term_ok {f : Addr} {name qual : Str} {prm : Arguments} {body : List Stmt} {scope : Scope} {dV kV doc pm cdv ct oc : Value} {an od : Option Addr} {osl : Array (Option Value)} {N ps : List Str} (kx : KindX M K mg) (blt : ∀ x ∈ blts, mg x = none)
    (lk : K.lookup f = some ⟨oc, od, .func (PySem.W.fnOf name qual prm body scope dV kV doc pm an cdv ct), osl⟩) (hcd : PySem.W.codeIn K cdv qual = true) (S : FnScope N ps scope) (hp : ps.length = 1) (hl : N.length = 4) (h : chkTerm ⟨N, scope, fun _ => true, false⟩ body = true) :
    TermP M P w K mg base 1 f (PySem.W.fnOf name qual prm body scope dV kV doc pm an cdv ct) ps := by
  intro A outer s H args p c y Q E hr hot hpin hy hz e0 hb tb k
  obtain ⟨vs0, fl0, ctx0⟩ := hot.2
  have inK : K.In s.heap := e0.mod.kin.keeps fun b o e => (e0.bs b o e).1
  have noL : s.heap.NoLimit := e0.mod.nolimit.keeps fun b o e => (e0.bs b o e).1
  have rel : Vals [V.ref p.1] [Value.ref p.1] := .cons rfl .nil
  have parK : ∀ y ∈ ps.zip [Value.ref p.1], scope.names.lookup y.1 = some .local ∨ (scope.names.lookup y.1 = some .cell ∧ ((cellsFrom (s.heap.objs.size + 1) scope.names []).lookup y.1).isSome = true) := fun ⟨n, v⟩ hy =>
    (S.par n (List.of_mem_zip hy).1).elim .inl fun q => .inr ⟨q, PySem.W.cellsFrom_some _ _ _ (.inl q)⟩
  refine codeAny_call_function hr.depth (inK _ _ lk) rfl S.co S.gen rfl (PySem.W.codeRec_of inK hcd) (hb _ _ _ _ ?_)
  refine wpAny_newFunctionEnv_cells S.kind parK fun env ee t1 x1 => ?_
  subst ee
  refine ⟨noL.keeps x1.toInCall.keep, codeAny_func ?_⟩
  generalize hX : L2H.cxH (L2N.CX P w) P w K mg base N qual scope f cdv A outer s H E p = Z
  have I : Inv Z [] (L2.start N [V.ref p.1]) H t1 := by rw [← hX]; exact L2H.inv_startH S hpin e0 (by rw [hp]; rfl) rel x1
  have room := hr.deeper (envOfC qual scope s.heap.objs.size f cdv)
  generalize hM : ({ M with gh := fun k v => k = c ∧ v = .ref p.1 } : Wd) = M2
  have eT : M2.T = M.T := by rw [← hM]
  have eE : M2.exA = M.exA := by rw [← hM]
  have hx : HotX M2 Z ⟨N, scope, fun _ => true, false⟩ c p := by
    subst hX hM
    exact ⟨rfl, rfl, S.nd, ⟨p, ⟨hot.1, vs0, fl0, ctx0⟩, List.mem_singleton.mpr rfl⟩, by have := room.un; show (A.deeper (envOfC qual scope s.heap.objs.size f cdv)).units + 150 < cLine; omega, blt, kx.ve, ⟨fun _ _ z => z, List.mem_singleton.mpr rfl, hz, ⟨vs0, fl0⟩, kx.ec c y hy⟩, kx.ex,
      fun x z hzx => kx.kit c y x z hy hzx, kx.kitv c y hy⟩
  have hs := term_pss (C := ⟨fun _ _ => none, 0⟩) hx (fun x => by subst hX; rfl) h
  obtain ⟨ρ', ev⟩ := term_ev (C := ⟨fun _ _ => none, 0⟩) hy
  have hN : L2.start N [V.ref p.1] = [some (V.ref p.1), none, none, none] := by
    match N, hl with
    | [a, b, c, d], _ => rfl
  have sr : SR M2 Z H (L2.start N [V.ref p.1]) [.o c [.p (.exc 0)], .x, .x, .x] [[], [], [], []] := by
    rw [hN]
    refine ⟨rfl, rfl, fun i sl e => ?_, by simp⟩
    match i, e with
    | 0, e =>
      cases e
      exact .inr ⟨rfl, rfl, _, rfl, by rw [← hM]; exact ⟨rfl, rfl⟩⟩
    | 1, e => cases e; rfl
    | 2, e => cases e; rfl
    | 3, e => cases e; rfl
  have same : Z.prog = P ∧ Z.w = w ∧ Z.K = K ∧ Z.base = base ∧ Z.A = A.deeper (envOfC qual scope s.heap.objs.size f cdv) := by subst hX; exact ⟨rfl, rfl, rfl, rfl, rfl⟩
  have run := hs.run [] t1 (L2.start N [V.ref p.1]) H { nx := fun _ _ => False, rt := Q } I ⟨_, [[], [], [], []], _, ev, sr, by rw [eT]; exact tb, (fun _ _ _ _ e => nomatch e), (fun _ _ _ _ e => nomatch e), fun w' ρ2 v σ' H' fs' fp e st rw' nd g => by
    cases e
    obtain ⟨_, rp⟩ := rw'
    have rp : RpX Z H' v (.tup [.str sRefused, .str y]) := rp
    refine k v H' (by have := rp; unfold RpX at this; rw [same.1, same.2.1, same.2.2.1] at this; exact this) (by simpa using st.fr) (by have := st.tb; rw [eT] at this; exact this), fun _ _ e => nomatch e⟩
  subst hX
  refine wpAny_mono run (fun fl s' hs => ?_) fun e s' hs => hs
  cases fl with
  | ret u =>
    obtain ⟨v, σ', H', J, rv, q⟩ := hs
    exact ⟨v, H', J.os, J.bare, J.base, J.hok, rv, q⟩
  | next => obtain ⟨_, _, _, q⟩ := hs; exact q.elim
  | brk => obtain ⟨_, _, _, q⟩ := hs; exact q.elim
  | cont => obtain ⟨_, _, _, q⟩ := hs; exact q.elim
end
end Mi
set_option Elab.async false
set_option linter.all false
set_option maxRecDepth 100000
set_option maxHeartbeats 2000000
/-! MiZ: from the head's facts to the law's promise. -/
namespace Mi
open PySem PySem.Spec PyProof.Rows L2 LamX
/-- the defs of a top, by their names -/
def findDef (x : Str) : List Stmt → Option (Arguments × List Stmt × Scope)
  | [] => none
  | .FunctionDef n a b _ _ _ sc _ _ _ :: r => if n == x then some (a, b, sc) else findDef x r
  | _ :: r => findDef x r
def noArgs : Arguments := ⟨[], [], none, [], [], none, []⟩
def noScope : Scope := ⟨.function, [], false, false, []⟩
/-- a def by its name: its names by slot, how many of them are parameters -/
def mkDf (body : List Stmt) (x : Str) (N : List Str) (np : Nat) : Df := match findDef x body with
  | some (a, b, sc) => ⟨x, N, N.take np, a, b, sc⟩
  | none => ⟨x, N, N.take np, noArgs, [], noScope⟩
def Df.dd (d : Df) : He.DefD := ⟨(d.x, none), d.x, d.x, d.params, d.body, d.scope, [], []⟩
def kindAt (c : Nat) : Str := kinds.getD c Str.empty
def sSnow : Str := "SnowError"
/-- what is asked of the head -/
def faOf (ds : List Df) (gi : List (Str × Int)) (gs : List (Str × Str)) (exs : List Nat) (tl : Option Str) : List He.Fa :=
  blts.map .free ++ (ds.map (fun d => .glo d.x) ++ (gi.map (fun p => .int p.1 p.2) ++ (gs.map (fun p => .str p.1 p.2) ++ (exs.map (fun c => .glo (kindAt c)) ++ (exs.map (fun c => .exc (kindAt c)) ++ (if tl.isNone then [] else [.free sVal, .glo sSnow]))))))
def exAof (K : PySem.W.Frag) (c : Nat) : Addr := He.ga K (kindAt c)
/-- no list among what the head leaves -/
def noLists (K : PySem.W.Frag) : Bool := K.all fun q => !(q.2.cls == .type "list")
theorem noLists_ok {K : PySem.W.Frag} (h : noLists K = true) {a : Addr} {o : Obj} (e : K.lookup a = some o) : o.cls ≠ .type "list" := fun z => by
  have := List.all_eq_true.mp h _ (He.lookup_mem e)
  rw [show o.cls = .type "list" from z] at this
  simp at this
/-! ### what more is looked at -/
def tfOf (lq : List Str) : List He.Defn := lq.map fun x => (x, none)
def lamQ (x : Str) : Str := x ++ ".<locals>." ++ "<lambda>"
def tabT (K : PySem.W.Frag) (lq : List Str) : List (Addr × Str) := lq.map fun x => ((He.cT K (x, none)).2, lamQ x)
def excB (K : PySem.W.Frag) (D : Addr) : Bool := decide (PySem.W.findIn K (.ref D) "__getattribute__" = some (some (.builtin "BaseException.__getattribute__"))) && (decide (PySem.W.findIn K (.ref D) "__getattr__" = some none) && (decide (PySem.W.subIn K (.ref D) (.type "BaseException") = some true) && (PySem.W.hasDictIn K D &&
  (decide (PySem.W.findIn K (.ref D) "__class__" = some (some (.builtin "object.__class__"))) && (decide (PySem.W.specialIn K (.builtin "object.__class__") "__get__" = some (some (.builtin "getset_descriptor.__get__"))) && (decide (PySem.W.takesIn K (.builtin "object.__class__") = some true) && decide (PySem.W.mroIn K D (.type "object") = some true)))))))
theorem excB_ok {K : PySem.W.Frag} {D : Addr} (h : excB K D = true) : ExcC K D := by
  unfold excB at h
  obtain ⟨h1, h⟩ := ba2 h
  obtain ⟨h2, h⟩ := ba2 h
  obtain ⟨h3, h⟩ := ba2 h
  obtain ⟨h4, h⟩ := ba2 h
  obtain ⟨h5, h⟩ := ba2 h
  obtain ⟨h6, h⟩ := ba2 h
  obtain ⟨h7, h8⟩ := ba2 h
  exact ⟨of_decide_eq_true h1, of_decide_eq_true h2, of_decide_eq_true h3, h4, of_decide_eq_true h5, of_decide_eq_true h6, of_decide_eq_true h7, of_decide_eq_true h8⟩
def kindsB (K : PySem.W.Frag) : Bool := (List.range kinds.length).all fun c => excB K (exAof K c) && (decide (PySem.W.kitOne K (.ref (exAof K c)) (.type "ValueError") = some true) && (decide (PySem.W.exmOne K (.ref (exAof K c)) (.ref (He.ga K sSnow)) = some true) &&
  ((List.range kinds.length).all fun x => decide (PySem.W.kitOne K (.ref (exAof K c)) (.ref (exAof K x)) = some (x == c)))))
def moreB (tl : Option Str) (lq : List Str) (K : PySem.W.Frag) : Bool := noLists K && (decide ((lq.map fun x => (He.cT K (x, none)).2).Nodup) && (tl.isNone || kindsB K))
theorem moreB_of {tl : Option Str} {lq : List Str} {K : PySem.W.Frag} (h : moreB tl lq K = true) : noLists K = true ∧ (lq.map fun x => (He.cT K (x, none)).2).Nodup ∧ (tl = none ∨ kindsB K = true) := by
  unfold moreB at h
  obtain ⟨h1, h⟩ := ba2 h
  obtain ⟨h2, h3⟩ := ba2 h
  refine ⟨h1, of_decide_eq_true h2, ?_⟩
  rw [Bool.or_eq_true] at h3
  exact h3.imp (fun z => Option.isNone_iff_eq_none.mp z) id
theorem lt_kinds {c : Nat} {y : Str} (h : kinds[c]? = some y) : c ∈ List.range kinds.length := List.mem_range.mpr (lt_of_get h)
/-- the texts of the two that tell -/
def chkTold (d dt : Df) : Bool := match d.body with
  | [.Try [.Return (some (.Call (.Name a _) [] [] _)) _] [.ExceptHandler (some (.Name sn _)) (some en) [.Return (some (.Call (.Name tn _) [.Name en2 _] [] _)) _] _] [] [] _] =>
    d.ps == [a] && (sn == sSnow && (en2 == en && (tn == dt.x && (d.N[1]? == some en && (d.scope.names.lookup en == some .local && (d.scope.names.lookup sn == some .globalImplicit && (d.scope.names.lookup tn == some .globalImplicit && (d.N[0]? == some a && (d.scope.names.lookup a == some .local &&
      (!(en == sDbg) && (!(en == sCld) && (!(sn == sDbg) && (!(tn == sDbg) && (!(a == sDbg) && !(a == sCld)))))))))))))))
  | _ => false
/-- the def that tells, the def that names the kind -/
structure ToldChk (ds : List Df) (exs : List Nat) (x : Str) : Prop where
  exs : ∀ c, c < kinds.length → c ∈ exs
  at_ : ∃ d dt, d ∈ ds ∧ dt ∈ ds ∧ d.x = x ∧ d.okB = true ∧ dt.okB = true ∧ chkTold d dt = true ∧ dt.ps.length = 1 ∧ dt.N.length = 4 ∧ chkTerm ⟨dt.N, dt.scope, fun _ => true, false⟩ dt.body = true
/-- each def is handed as many values as it has parameters -/
def BindOk (d : Df) : Prop := ∀ (kV doc pm : Value) (an : Option Addr) (cdv ct : Value) (us : List Value), us.length = d.ps.length → bindArgs (PySem.W.fnOf d.x d.x d.params d.body d.scope .none kV doc pm an cdv ct) ⟨us, []⟩ = pure (d.ps.zip us)
inductive BindsAll : List Df → Prop
  | nil : BindsAll []
  | cons {d ds} : BindOk d → BindsAll ds → BindsAll (d :: ds)
theorem BindsAll.mem : ∀ {ds : List Df}, BindsAll ds → ∀ d ∈ ds, BindOk d
  | _, .nil, d, h => nomatch h
  | _, .cons a t, d, h => by
    rcases List.mem_cons.mp h with rfl | h
    · exact a
    · exact BindsAll.mem t d h
section
variable {ds : List Df} {gi : List (Str × Int)} {gs : List (Str × Str)} {exs : List Nat} {tl : Option Str} {lq : List Str} {P : Program} {w : World} {base : Heap} {K : PySem.W.Frag} {h : Heap} {mg : Str → Option Value} {M : Wd}
theorem nodup_map {α β : Type} {f : α → β} : ∀ {l : List α}, (l.map f).Nodup → ∀ {a b : α}, a ∈ l → b ∈ l → f a = f b → a = b
  | x :: l, h, a, b, ha, hb, e => by
    rw [List.map_cons, List.nodup_cons] at h
    rcases List.mem_cons.mp ha with a1 | a1
    · rcases List.mem_cons.mp hb with b1 | b1
      · rw [a1, b1]
      · rw [← a1] at h
        exact absurd (List.mem_map.mpr ⟨b, b1, e.symm⟩) h.1
    · rcases List.mem_cons.mp hb with b1 | b1
      · rw [← b1] at h
        exact absurd (List.mem_map.mpr ⟨a, a1, e⟩) h.1
      · exact nodup_map h.2 a1 b1 e
/-- the def that tells, out of the head's facts -/
theorem tell_of {x : Str} (tk : ToldChk ds exs x) (kx : KindX M K mg) (blt : ∀ x ∈ blts, mg x = none) (snow : mg sSnow = some (.ref (He.ga K sSnow))) (hex : ∀ c y, kinds[c]? = some y → PySem.W.exmOne K (.ref (M.exA c)) (.ref (He.ga K sSnow)) = some true)
    (fn : ∀ d ∈ ds, ∃ (fa : Addr) (fd : FuncData), mg d.x = some (.ref fa) ∧ FunD K d.x d.x d.params d.body d.scope [] [] fa fd ∧ Binds K fd d.ps []) : ∃ g, mg x = some (.ref g) ∧ PySem.W.keepIn K (.ref g) = true ∧ ∀ k, TellP M P w K mg base k x g := by
  obtain ⟨d, dt, hd, hdt, ex, ok, okt, hc, h1, h4, hT⟩ := tk.at_
  obtain ⟨g, fd, mG, FG, bG⟩ := fn d hd
  obtain ⟨gt, fdt, mT, FT, bT⟩ := fn dt hdt
  have kG := FG.kp
  have kT := FT.kp
  obtain ⟨oc, od, dV, kV, doc, pm, an, cdv, ct, osl, rfl, lk, hcd, _, _⟩ := FG.ex
  obtain ⟨oc2, od2, dV2, kV2, doc2, pm2, an2, cdv2, ct2, osl2, rfl, lk2, hcd2, _, _⟩ := FT.ex
  subst ex
  refine ⟨g, mG, kG, fun k => ?_⟩
  unfold chkTold at hc
  split at hc
  · rename_i a p1 p2 p3 sn p4 en tn p5 en2 p6 p7 p8 p9 p10 hbody
    obtain ⟨a1, hc⟩ := ba2 hc
    obtain ⟨a2, hc⟩ := ba2 hc
    obtain ⟨a3, hc⟩ := ba2 hc
    obtain ⟨a4, hc⟩ := ba2 hc
    obtain ⟨a5, hc⟩ := ba2 hc
    obtain ⟨a6, hc⟩ := ba2 hc
    obtain ⟨a7, hc⟩ := ba2 hc
    obtain ⟨a8, hc⟩ := ba2 hc
    obtain ⟨a9, hc⟩ := ba2 hc
    obtain ⟨a10, hc⟩ := ba2 hc
    obtain ⟨a11, hc⟩ := ba2 hc
    obtain ⟨a12, hc⟩ := ba2 hc
    obtain ⟨a13, hc⟩ := ba2 hc
    obtain ⟨a14, hc⟩ := ba2 hc
    obtain ⟨a15, a16⟩ := ba2 hc
    have hps : d.ps = [a] := beq_iff_eq.mp a1
    obtain rfl : sn = sSnow := beq_iff_eq.mp a2
    obtain rfl : en2 = en := beq_iff_eq.mp a3
    obtain rfl : tn = dt.x := beq_iff_eq.mp a4
    have sc := Df.scope_ok ok
    rw [hps] at sc bG
    refine ⟨d.params, d.body, d.scope, dV, kV, doc, pm, cdv, ct, oc, an, od, osl, d.N, a, lk, hcd, bG, sc, beq_iff_eq.mp a9, .inl (beq_iff_eq.mp a10), not_of' a15, not_of' a16, ?_⟩
    rw [hbody]
    exact tell_ok sc.nd (beq_iff_eq.mp a5) (beq_iff_eq.mp a6) (not_of' a11) (not_of' a12) (beq_iff_eq.mp a7) (not_of' a13) snow hex (beq_iff_eq.mp a8) (not_of' a14) mT kT bT h1 (term_ok kx blt lk2 hcd2 (Df.scope_ok okt) h1 h4 hT)
  · cases hc
theorem txt_of (c : He.SaysD (faOf ds gi gs exs tl) (ds.map Df.dd) K) (X : K.In h) (G : h.Ns mainGlobals mg) (hB : BindsAll ds) (hM : M.exA = exAof K) (hMT : M.T = tabT K lq) (hgh : ∀ k v, ¬ M.gh k v) (more : moreB tl lq K = true) (tells : ∀ x, tl = some x → ToldChk ds exs x) (tab : ∀ x ∈ lq, TabB base mg (He.cT K (x, none)).1 (He.cT K (x, none)).2) :
    Txt M ds gi gs exs tl lq P w K mg base := by
  have fa : ∀ {f}, f ∈ faOf ds gi gs exs tl → f.ok K = true := fun {f} hf => c.facts hf
  unfold faOf at fa
  have fBlt : ∀ x ∈ blts, mg x = none := fun x hx => He.free_ok X G (fa (List.mem_append_left _ (List.mem_map.mpr ⟨x, hx, rfl⟩)))
  have fFn : ∀ d ∈ ds, ∃ (fa : Addr) (fd : FuncData), mg d.x = some (.ref fa) ∧ FunD K d.x d.x d.params d.body d.scope [] [] fa fd ∧ Binds K fd d.ps [] := fun d hd => by
    have g := He.glo_ok X G (fa (f := .glo d.x) (List.mem_append_right _ (List.mem_append_left _ (List.mem_map.mpr ⟨d, hd, rfl⟩))))
    obtain ⟨fd, F⟩ := c.defs (d := d.dd) (List.mem_map.mpr ⟨d, hd, rfl⟩)
    have F : FunD K d.x d.x d.params d.body d.scope [] [] (He.ga K d.x) fd := F
    exact ⟨_, fd, g, F, F.bindsN (hB.mem d hd)⟩
  have fEx : ∀ cc x, cc ∈ exs → kinds[cc]? = some x → mg x = some (.ref (M.exA cc)) ∧ PySem.W.keepIn K (.ref (M.exA cc)) = true ∧ PySem.W.excIn K (M.exA cc) [.type "ValueError", .type "Exception", .type "BaseException", .type "object"] "ValueError.__new__" = true ∧ PySem.W.subIn K (.ref (M.exA cc)) (.type "BaseException") = some true ∧ PySem.W.typeIn K (.ref (M.exA cc)) = some (.type "type") := fun cc x h0 hc => by
    have g := He.glo_ok X G (fa (f := .glo (kindAt cc)) (List.mem_append_right _ (List.mem_append_right _ (List.mem_append_right _ (List.mem_append_right _ (List.mem_append_left _ (List.mem_map.mpr ⟨cc, h0, rfl⟩)))))))
    obtain ⟨e1, e2, e3, e4⟩ := He.exc_ok (fa (f := .exc (kindAt cc)) (List.mem_append_right _ (List.mem_append_right _ (List.mem_append_right _ (List.mem_append_right _ (List.mem_append_right _ (List.mem_append_left _ (List.mem_map.mpr ⟨cc, h0, rfl⟩))))))))
    have ek : kindAt cc = x := by
      unfold kindAt
      rw [List.getD_eq_getElem?_getD, hc]; rfl
    rw [hM]
    unfold exAof
    rw [ek] at g e1 e2 e3 e4 ⊢
    exact ⟨g, e2, e1, e3, e4⟩
  obtain ⟨_, nd, kb⟩ := moreB_of more
  refine ⟨fBlt, hgh, fun p hp => ?_, fun p hp => ?_, fFn, fEx, fun x hx => ?_, fun d hd hl fa oc od dV kV doc pm an cdv ct osl hm lk => ?_⟩
  · obtain ⟨t, e⟩ := He.int_ok X G (fa (f := .int p.1 p.2) (List.mem_append_right _ (List.mem_append_right _ (List.mem_append_left _ (List.mem_map.mpr ⟨p, hp, rfl⟩)))))
    exact ⟨_, e, t, rfl⟩
  · obtain ⟨t, e⟩ := He.str_ok X G (fa (f := .str p.1 p.2) (List.mem_append_right _ (List.mem_append_right _ (List.mem_append_right _ (List.mem_append_left _ (List.mem_map.mpr ⟨p, hp, rfl⟩))))))
    exact ⟨_, e, t, rfl⟩
  · have kb : kindsB K = true := kb.resolve_left (by rw [hx]; exact fun z => nomatch z)
    have two : ∀ {f}, f ∈ [He.Fa.free sVal, He.Fa.glo sSnow] → f.ok K = true := fun {f} hf => fa (List.mem_append_right _ (List.mem_append_right _ (List.mem_append_right _ (List.mem_append_right _ (List.mem_append_right _ (List.mem_append_right _ (by rw [hx]; exact hf)))))))
    have each : ∀ c y, kinds[c]? = some y → excB K (exAof K c) = true ∧ PySem.W.kitOne K (.ref (exAof K c)) (.type "ValueError") = some true ∧ PySem.W.exmOne K (.ref (exAof K c)) (.ref (He.ga K sSnow)) = some true ∧ ∀ x z, kinds[x]? = some z → PySem.W.kitOne K (.ref (exAof K c)) (.ref (exAof K x)) = some (x == c) := fun c y hy => by
      have h1 := List.all_eq_true.mp kb c (lt_kinds hy)
      obtain ⟨h1, h2⟩ := ba2 h1
      obtain ⟨h2, h3⟩ := ba2 h2
      obtain ⟨h3, h4⟩ := ba2 h3
      exact ⟨h1, of_decide_eq_true h2, of_decide_eq_true h3, fun x z hz => of_decide_eq_true (List.all_eq_true.mp h4 x (lt_kinds hz))⟩
    have tkx := tells x hx
    have kx : KindX M K mg := ⟨He.free_ok X G (two (List.mem_cons_self)), fun cc y hy => (fEx cc y (tkx.exs cc (lt_of_get hy)) hy).1, fun cc y hy => by rw [hM]; exact excB_ok (each cc y hy).1, fun cc z x y hc hy => by rw [hM]; exact (each cc z hc).2.2.2 x y hy, fun cc z hc => by rw [hM]; exact (each cc z hc).2.1⟩
    exact tell_of tkx kx fBlt (He.glo_ok X G (two (List.mem_cons_of_mem _ List.mem_cons_self))) (fun cc y hy => by rw [hM]; exact (each cc y hy).2.2.1) fFn
  · have hl : d.x ∈ lq := by simpa using hl
    have g := He.glo_ok X G (c.facts (f := .glo d.x) (by unfold faOf; exact List.mem_append_right _ (List.mem_append_left _ (List.mem_map.mpr ⟨d, hd, rfl⟩))))
    obtain rfl : fa = He.ga K d.x := by
      have := hm.symm.trans g
      cases this; rfl
    have hcode : PySem.W.codeIn K cdv d.x = true := by
      obtain ⟨fd, F⟩ := c.defs (d := d.dd) (List.mem_map.mpr ⟨d, hd, rfl⟩)
      have F : FunD K d.x d.x d.params d.body d.scope [] [] (He.ga K d.x) fd := F
      obtain ⟨oc2, od2, dV2, kV2, doc2, pm2, an2, cdv2, ct2, osl2, rfl, lk2, hcd2, _, _⟩ := F.ex
      have e5 := Option.some.inj (lk.symm.trans lk2)
      have e6 : Obj.data _ = Obj.data _ := congrArg Obj.data e5
      have e7 : PySem.W.fnOf d.x d.x d.params d.body d.scope dV kV doc pm an cdv ct = PySem.W.fnOf d.x d.x d.params d.body d.scope dV2 kV2 doc2 pm2 an2 cdv2 ct2 := Data.func.inj e6
      have e8 : cdv = cdv2 := congrArg FuncData.code e7
      rw [e8]
      exact hcd2
    obtain ⟨cc, e⟩ := He.codeIn_ref hcode
    have ec : (He.cT K (d.x, none)).1 = cc := He.codeOf_eq (p := (d.x, none)) lk e
    refine ⟨cc, (He.cT K (d.x, none)).2, e, by rw [← ec]; exact tab d.x hl, by rw [hMT]; exact List.mem_map.mpr ⟨d.x, hl, rfl⟩, fun p hp hpe => ?_⟩
    rw [hMT] at hp
    obtain ⟨y, hy, rfl⟩ := List.mem_map.mp hp
    have : y = d.x := nodup_map nd hy hl hpe
    rw [this]; rfl
end
/-- a script, as small as told -/
def okScript (ns : List Int) : Prop := ns.length ≤ 63 ∧ ∀ z ∈ ns, Builtin.Int.intBits z ≤ 1048576
/-- all that a law's text is looked at for, by kernel -/
structure LawChk (ds : List Df) (gi : List (Str × Int)) (gs : List (Str × Str)) (exs : List Nat) (tl : Option Str) (lq : List Str) (fns : List Fn) (n : Nat) (iR iL : Nat) (dR dL : Df) (arg el : E) (high : Int) (turn : S) : Prop where
  all : chkAll (tblOf ds gi gs exs tl lq) n ds fns = true
  atR : ds[iR]? = some dR
  atL : ds[iL]? = some dL
  rd : chkRd (tblOf ds gi gs exs tl lq) n ⟨dR.N, dR.scope, fun _ => true, false⟩ dR.body arg el = true
  law : chkLaw (tblOf ds gi gs exs tl lq) n ⟨dL.N, dL.scope, fun _ => true, lq.contains dL.x⟩ dL.body dR.x high turn = true
  nR : dR.N.length = 3 ∧ dR.ps.length = 2
  nL : 2 ≤ dL.N.length
  tells : ∀ x, tl = some x → ToldChk ds exs x
section
variable {ds : List Df} {gi : List (Str × Int)} {gs : List (Str × Str)} {exs : List Nat} {tl : Option Str} {lq : List Str} {fns : List Fn} {n iR iL : Nat} {dR dL : Df} {arg el : E} {high : Int} {turn : S}
/-- what is to be shown of the law, on plain data -/
def LawEv (fns : List Fn) (turns d : Nat) (arg el : E) (high : Int) (N : Nat) (turn : S) : Prop := ∀ ns, okScript ns → ∃ m cell, RdOk { cal := calN ⟨fns, turns⟩ d, turns := turns } arg el 2 [.p (.lst (ns.map D.int)), .p (.int high), .x] m cell ∧
  ∀ i, i < m → ∃ ρ', evS { cal := calN ⟨fns, turns⟩ d, turns := turns } 1 turn (turnEnv N (cell i)) = some (.nx ρ')
/-- the law's function keeps its promise -/
theorem law_fn {P : Program} {w : World} {K : PySem.W.Frag} {mg : Str → Option Value} {base h : Heap} {M : Wd} {turns d : Nat} {x : Str} (L : LawChk ds gi gs exs tl lq fns n iR iL dR dL arg el high turn) (c : He.SaysD (faOf ds gi gs exs tl) (ds.map Df.dd) K) (X : K.In h) (G : h.Ns mainGlobals mg) (hB : BindsAll ds) (hM : M.exA = exAof K) (hMT : M.T = tabT K lq) (hgh : ∀ k v, ¬ M.gh k v) (more : moreB tl lq K = true) (tab : ∀ x ∈ lq, TabB base mg (He.cT K (x, none)).1 (He.cT K (x, none)).2)
    (ev : LawEv fns turns d arg el high dL.N.length turn) {fa : Addr} {fd : FuncData} (hm : mg dL.x = some (.ref fa)) (F : FunD K dL.x dL.x dL.params dL.body dL.scope [] [] fa fd) (hps : dL.ps = [x]) :
    FnOk P w K mg base (L2N.CX P w) (4 * d + 5) fa fd [x] (spLaw M okScript) := by
  have t := txt_of (P := P) (w := w) (base := base) (M := M) c X G hB hM hMT hgh more L.tells tab
  have gd : ∀ (j : Nat) (A : Around), 4 * d + 3 ≤ j → Room j A → Gd M (tblOf ds gi gs exs tl lq) P w K mg base A { cal := calN ⟨fns, turns⟩ d, turns := turns } (4 * d) := fun j A hj hr => gd_of (Pg := ⟨fns, turns⟩) t L.all d (hr.mono hj)
  obtain ⟨_, _, okR, _⟩ := chkAll_at L.all iR dR L.atR
  obtain ⟨_, _, okL, _⟩ := chkAll_at L.all iL dL L.atL
  obtain ⟨fr, fdr, mR, FR, bR⟩ := t.fn dR (List.mem_of_getElem? L.atR)
  obtain ⟨oc, od, dV, kV, doc, pm, an, cdv, ct, osl, rfl, lk, hcd, _, _⟩ := FR.ex
  have hR := rounds_ok (M := M) (P := P) (w := w) (mg := mg) (base := base) (k := 4 * d) (j := 4 * d + 3) (T := tblOf ds gi gs exs tl lq) (C := { cal := calN ⟨fns, turns⟩ d, turns := turns }) (n := n) (arg := arg) (el := el) lk hcd (Df.scope_ok okR) L.nR.1 L.nR.2 L.rd (fun A hr => gd _ A (by omega) hr)
  obtain ⟨oc', od', dV', kV', doc', pm', an', cdv', ct', osl', rfl, lk', hcd', _, _⟩ := F.ex
  have hlam := t.lamOk (List.mem_of_getElem? L.atL) hm lk'
  have sc := Df.scope_ok okL
  rw [hps] at sc
  exact law_ok (M := M) (P := P) (w := w) (mg := mg) (base := base) (k := 4 * d) (j := 4 * d + 4) (T := tblOf ds gi gs exs tl lq) (C := { cal := calN ⟨fns, turns⟩ d, turns := turns }) (n := n) (arg := arg) (el := el) (ok := okScript) (rd := dR.x) (high := high) (turn := turn) lk' hcd' sc L.nL rfl L.law (fun A hr => gd _ A (by omega) hr) hlam t.ex mR FR.kp bR hR ev
end
end Mi
namespace Mi
open PySem PySem.Spec PyProof.Rows L2 LamX
/-- the law as the end of the proof asks it -/
theorem lawAt_of {l : PySem.W.OpenLaw} {ds : List Df} {gi : List (Str × Int)} {gs : List (Str × Str)} {exs : List Nat} {tl : Option Str} {lq : List Str} {fns : List Fn} {n iR iL : Nat} {dR dL : Df} {arg el : E} {high : Int} {turn : S} {turns d m : Nat} {x : Str} {w : World} {mg : Str → Option Value} {fa : Addr} {h : Heap}
    (L : LawChk ds gi gs exs tl lq fns n iR iL dR dL arg el high turn) (hB : BindsAll ds) (ev : LawEv fns turns d arg el high dL.N.length turn) (hx : dL.ps = [x]) (hn : dL.x = ("law" : Str)) (hm63 : m = 63) (_ : True = True) (_ : True = True)
    (Y : (He.hookX 4 (faOf ds gi gs exs tl) (ds.map Df.dd) [] (tfOf lq) (moreB tl lq)).says w h) (G : h.Ns mainGlobals mg) (hm : mg ("law" : Str) = some (.ref fa)) :
    ∃ K : PySem.W.Frag, K.In h ∧ LawAtS l w K (L2N.CX l.prog w) (4 * d + 5) m x mg fa h := by
  obtain ⟨K, KX, c⟩ := Y
  refine ⟨K, KX, ?_⟩
  have cd := c.t.d
  obtain ⟨fd, F⟩ := cd.defs (d := dL.dd) (List.mem_map.mpr ⟨dL, List.mem_of_getElem? L.atL, rfl⟩)
  have F : FunD K dL.x dL.x dL.params dL.body dL.scope [] [] (He.ga K dL.x) fd := F
  have hg := He.glo_ok KX G (cd.facts (f := .glo dL.x) (by unfold faOf; exact List.mem_append_right _ (List.mem_append_left _ (List.mem_map.mpr ⟨dL, List.mem_of_getElem? L.atL, rfl⟩))))
  have hfa : fa = He.ga K dL.x := by
    rw [hn] at hg
    have := hm.symm.trans hg
    rw [hn]
    cases this; rfl
  subst hfa
  have hb := FunD.bindsA (ps := dL.ps) F (hB.mem dL (List.mem_of_getElem? L.atL))
  have inTf : ∀ {p : Addr × Addr}, p ∈ (tfOf lq).map (He.cT K) → ∃ q ∈ tfOf lq, He.cT K q = p := fun {p} hp => List.mem_map.mp hp
  refine ⟨fd, (tfOf lq).map (He.cT K), spLaw ⟨tabT K lq, exAof K, fun _ => 0, fun _ => [], fun _ _ => False⟩ okScript, fun p hp => ?_, fun p hp => ?_, fun p hp => ?_, fun s u => ?_, fun H a ns h1 h2 h3 h4 => ?_, fun base X2 G2 TB => ?_⟩
  · obtain ⟨q, hq, rfl⟩ := inTf hp
    exact c.empty q hq
  · obtain ⟨q, hq, rfl⟩ := inTf hp
    exact c.out q hq
  · obtain ⟨q, hq, rfl⟩ := inTf hp
    exact PySem.W.codeHd_of_K KX (c.hd q hq)
  · have := hb s [u] (by rw [hx]; rfl)
    rw [hx] at this
    exact this
  · refine ⟨a, ns, rfl, ⟨by omega, h2⟩, ?_, fun p hp => ?_, fun _ => rfl⟩
    · rcases h4 with h4 | ⟨o, its, k, e1, e2, _⟩
      · rcases h4 with h4 | h4
        · exact .inl h4
        · exact .inr h4
      · exact absurd e2 (noLists_ok (moreB_of c.more).1 e1)
    · obtain ⟨y, hy, rfl⟩ := List.mem_map.mp hp
      exact TabS.nil (h3 _ (List.mem_map.mpr ⟨(y, none), List.mem_map.mpr ⟨y, hy, rfl⟩, rfl⟩))
  · exact law_fn (h := base) L cd X2 G2 hB rfl rfl (fun _ _ z => z) c.more (fun x hx => TB _ (List.mem_map.mpr ⟨(x, none), List.mem_map.mpr ⟨x, hx, rfl⟩, rfl⟩)) ev (by rw [hn]; rw [hn] at hm; exact hm) F hx
end Mi
set_option Elab.async false
set_option linter.all false
set_option maxRecDepth 100000
set_option maxHeartbeats 2000000
/-! MkA: the evaluator's steps, its walks by what stays true. -/
namespace Mi
open PySem
abbrev Cx0 (P : Pg) (k : Nat) : Ctx := { cal := calN P k, turns := P.turns }
/-- the function ix, at any depth from k on -/
def Does (P : Pg) (k ix : Nat) (a : List Slot) (r : Except Nat W) (a' : List Slot) : Prop := ∀ j, k ≤ j → calN P j ix a = some (r, a')
theorem Does.mono {P : Pg} {k k' ix : Nat} {a a' : List Slot} {r : Except Nat W} (h : Does P k ix a r a') (hk : k ≤ k') : Does P k' ix a r a' := fun j hj => h j (Nat.le_trans hk hj)
theorem does_of {P : Pg} {k ix : Nat} {fn : Fn} {a a' : List Slot} {r : Except Nat W} (hf : P.fns[ix]? = some fn) (h : ∀ j, k ≤ j → runFn (Cx0 P j) fn a = some (r, a')) : Does P (k + 1) ix a r a' := fun j hj => by
  match j, hj with
  | j + 1, hj =>
    rw [calN]
    dsimp only
    rw [hf]
    exact h j (by omega)
section
variable {C : Ctx} {ρ ρ1 ρ' : Env} {np : Nat}
/-! ### one step -/
theorem ev_var {i : Nat} : evE C (.var i) ρ = match ρ[i]? with | some .x => none | some _ => some (.ok (.s i) ρ) | none => none := by rw [evE] <;> rfl
theorem ev_non : evE C .non ρ = some (.ok (.d .non) ρ) := by rw [evE] <;> rfl
theorem ev_bl {b} : evE C (.bl b) ρ = some (.ok (.d (.bl b)) ρ) := by rw [evE] <;> rfl
theorem ev_int {i} : evE C (.int i) ρ = some (.ok (.d (.int i)) ρ) := by rw [evE] <;> rfl
theorem ev_str {x} : evE C (.str x) ρ = some (.ok (.d (.str x)) ρ) := by rw [evE] <;> rfl
theorem ev_gi {i} : evE C (.gi i) ρ = some (.ok (.d (.int i)) ρ) := by rw [evE] <;> rfl
theorem ev_gs {x} : evE C (.gs x) ρ = some (.ok (.d (.str x)) ρ) := by rw [evE] <;> rfl
theorem ev_tup {l : Es} : evE C (.tup l) ρ = R.bind (evEs C l ρ) fun ws ρ1 => match escs ρ1 ws with | some (ds, ρ2) => (newT ds).map fun w => .ok w ρ2 | none => none := by rw [evE] <;> rfl
theorem ev_lst {l : Es} : evE C (.lst l) ρ = R.bind (evEs C l ρ) fun ws ρ1 => match escs ρ1 ws with | some (ds, ρ2) => (newL ds).map fun w => .ok w ρ2 | none => none := by rw [evE] <;> rfl
theorem ev_bin {o : Op2} {a b : E} : evE C (.bin o a b) ρ = R.bind (evE C a ρ) fun x ρ1 => R.bind (evE C b ρ1) fun y ρ2 => match looks ρ2 [x.fz, y.fz] with | some [d, e] => (bin o d e).map fun w => .ok w ρ2 | _ => none := by rw [evE] <;> rfl
theorem ev_not {a : E} : evE C (.not_ a) ρ = R.bind (evE C a ρ) fun x ρ1 => match look ρ1 x with | some (.bl b) => some (.ok (.d (.bl (!b))) ρ1) | _ => none := by rw [evE] <;> rfl
theorem ev_and {a b : E} : evE C (.and_ a b) ρ = R.bind (evE C a ρ) fun x ρ1 => match look ρ1 x with | some (.bl true) => evE C b ρ1 | some (.bl false) => some (.ok (.d (.bl false)) ρ1) | _ => none := by rw [evE] <;> rfl
theorem ev_or {a b : E} : evE C (.or_ a b) ρ = R.bind (evE C a ρ) fun x ρ1 => match look ρ1 x with | some (.bl false) => evE C b ρ1 | some (.bl true) => some (.ok (.d (.bl true)) ρ1) | _ => none := by rw [evE] <;> rfl
theorem ev_cmp {c : Cm} {a b : E} : evE C (.cmp c a b) ρ = R.bind (evE C a ρ) fun x ρ1 => R.bind (evE C b ρ1) fun y ρ2 => match looks ρ2 [x.fz, y.fz] with | some [d, e] => (cmpD c d e).map fun b => .ok (.d (.bl b)) ρ2 | _ => none := by rw [evE] <;> rfl
theorem ev_chn {c c' : Cm} {a b e : E} : evE C (.chn c c' a b e) ρ = R.bind (evE C a ρ) fun x ρ1 => R.bind (evE C b ρ1) fun y ρ2 => match looks ρ2 [x.fz, y.fz] with
    | some [d1, d2] => match cmpD c d1 d2 with
      | some true => R.bind (evE C e ρ2) fun z ρ3 => match looks ρ3 [y.fz, z.fz] with | some [d2', d3] => (cmpD c' d2' d3).map fun b => .ok (.d (.bl b)) ρ3 | _ => none
      | some false => some (.ok (.d (.bl false)) ρ2)
      | none => none
    | _ => none := by rw [evE] <;> rfl
theorem ev_ife {t a b : E} : evE C (.ife t a b) ρ = R.bind (evE C t ρ) fun x ρ1 => match look ρ1 x with | some (.bl true) => evE C a ρ1 | some (.bl false) => evE C b ρ1 | _ => none := by rw [evE] <;> rfl
theorem ev_sub {a i : E} : evE C (.sub a i) ρ = R.bind (evE C a ρ) fun x ρ1 => R.bind (evE C i ρ1) fun y ρ2 => match looks ρ2 [x.fz, y.fz] with | some [d, e] => (subD d e).map fun d => .ok (.d d) ρ2 | _ => none := by rw [evE] <;> rfl
theorem ev_slf {a i : E} : evE C (.slf a i) ρ = R.bind (evE C a ρ) fun x ρ1 => R.bind (evE C i ρ1) fun y ρ2 => match looks ρ2 [x.fz, y.fz] with | some [d, e] => (slD true d e).map fun w => .ok w ρ2 | _ => none := by rw [evE] <;> rfl
theorem ev_slt {a i : E} : evE C (.slt a i) ρ = R.bind (evE C a ρ) fun x ρ1 => R.bind (evE C i ρ1) fun y ρ2 => match looks ρ2 [x.fz, y.fz] with | some [d, e] => (slD false d e).map fun w => .ok w ρ2 | _ => none := by rw [evE] <;> rfl
theorem ev_call {f : Nat} {l : Es} : evE C (.call f l) ρ = R.bind (evEs C l ρ) fun ws ρ1 => match lend ρ1 (ws.map W.fz) with
    | some (ss, ρk) => (match C.cal f ss with
      | some (.ok w, ss') => (giveBack ρ1 ρk (ws.map W.fz) ss').map fun ρ2 => .ok w ρ2
      | some (.error c, ss') => (giveBack ρ1 ρk (ws.map W.fz) ss').map fun ρ2 => .ex c ρ2
      | none => none)
    | none => none := by rw [evE] <;> rfl
theorem ev_bi {f : Bi} {l : Es} : evE C (.bi f l) ρ = R.bind (evEs C l ρ) fun ws ρ1 => match looks ρ1 (ws.map W.fz) with | some ds => (biD f ds).map fun w => .ok w ρ1 | none => none := by rw [evE] <;> rfl
theorem ev_sset {l : Es} : evE C (.sset l) ρ = R.bind (evEs C l ρ) fun ws ρ1 => match looks ρ1 (ws.map W.fz) with | some ds => (ssetD ds).map fun w => .ok w ρ1 | none => none := by rw [evE] <;> rfl
theorem ev_rev {a : E} : evE C (.rev a) ρ = R.bind (evE C a ρ) fun x ρ1 => match look ρ1 x with | some d => (revD d).map fun w => .ok w ρ1 | _ => none := by rw [evE] <;> rfl
theorem ev_neg {a : E} : evE C (.neg a) ρ = R.bind (evE C a ρ) fun x ρ1 => match look ρ1 x with | some (.int i) => some (.ok (.d (.int (-i))) ρ1) | _ => none := by rw [evE] <;> rfl
theorem ev_mtw {m : Mt} {a : E} {l : Es} (h : m.writes = true) : evE C (.mth m a l) ρ = R.bind (evE C a ρ) fun x ρ1 => match x with
      | .s i => (match ρ1[i]? with
        | some (.c (.l _)) => R.bind (evEs C l ρ1) fun ws ρ2 => match escs ρ2 ws with
          | some (ds, ρ3) => (match ρ3[i]? with
            | some (.c (.l xs)) => (mtL m xs ds).map fun p => .ok (.d p.1) (ρ3.set i (.c (.l p.2)))
            | _ => none)
          | none => none
        | _ => none)
      | _ => none := by rw [evE, h] <;> rfl
theorem ev_isi {a : E} {t : Ty} : evE C (.isi a t) ρ = R.bind (evE C a ρ) fun x ρ1 => match exOf ρ1 x with
    | some c => (isiX c t).map fun b => .ok (.d (.bl b)) ρ1
    | none => match look ρ1 x with | some d => (isiD d t).map fun b => .ok (.d (.bl b)) ρ1 | _ => none := by rw [evE] <;> rfl
theorem ev_told {k : Nat} {a : E} : evE C (.told k a) ρ = match evE C a ρ with
    | some (.ok w ρ1) => if k = 0 then (match esc ρ1 w with | some (d, ρ2) => some (.ok (.d d) ρ2) | none => none) else some (.ok (.d .non) ρ1)
    | some (.ex c ρ1) => (toldE k c).map fun d => .ok (.d d) ρ1
    | none => none := by rw [evE] <;> rfl
theorem ev_nil : evEs C .nil ρ = some (.ok [] ρ) := by rw [evEs] <;> rfl
theorem ev_cons {a : E} {l : Es} : evEs C (.cons a l) ρ = R.bind (evE C a ρ) fun w ρ1 => R.bind (evEs C l ρ1) fun ws ρ2 => some (.ok (w :: ws) ρ2) := by rw [evEs] <;> rfl
theorem ev_seq {a : E} : evI C (.seq a) ρ = R.bind (evE C a ρ) fun w ρ1 => some (.ok (0, [w]) ρ1) := by rw [evI] <;> rfl
theorem ev_rng1 {a : E} : evI C (.rng1 a) ρ = R.bind (evE C a ρ) fun w ρ1 => some (.ok (1, [w]) ρ1) := by rw [evI] <;> rfl
theorem ev_zip {a b : E} : evI C (.zip a b) ρ = R.bind (evE C a ρ) fun w ρ1 => R.bind (evE C b ρ1) fun w2 ρ2 => some (.ok (5, [w, w2]) ρ2) := by rw [evI] <;> rfl
/-! ### comprehensions -/
def step0 (C : Ctx) (el : E) (g : Tg) (c : E) (x : D) (ρ : Env) : R (Option D) := match asT 0 g x ρ with
  | some ρ => R.bind (evE C c ρ) fun t ρ => match look ρ t with
    | some (.bl true) => R.bind (evE C el ρ) fun w ρ => match esc ρ w with
      | some (d, ρ) => some (.ok (some d) ρ)
      | none => none
    | some (.bl false) => some (.ok none ρ)
    | _ => none
  | none => none
theorem stepC_0 {el c : E} {g : Tg} {own : List Nat} {x : D} : stepC C el g c own x ρ = step0 C el g c x (killAll ρ own) := rfl
theorem walkF_rel {cs : Ctx → Prop} {f : Ctx → D → Env → R (Option D)} (I : List D → List D → Env → Prop) : ∀ {xs done acc : List D} {ρ : Env}, I done acc ρ →
    (∀ d x r a ρ, done ++ xs = d ++ x :: r → I d a ρ → ∃ o ρ', (∀ C, cs C → f C x ρ = some (.ok o ρ')) ∧ I (d ++ [x]) (a ++ o.toList) ρ') → ∃ ys ρ', (∀ C, cs C → walkF (f C) acc xs ρ = some (.ok ys ρ')) ∧ I (done ++ xs) ys ρ' ∧ ys.length ≤ acc.length + xs.length
  | [], done, acc, ρ, h, _ => ⟨acc, ρ, fun C _ => by rw [walkF], by rw [List.append_nil]; exact h, by simp⟩
  | x :: xs, done, acc, ρ, h, st => by
    obtain ⟨o, ρ1, e, h1⟩ := st done x xs acc ρ rfl h
    have again : ∀ acc1, acc ++ o.toList = acc1 → acc1.length ≤ acc.length + 1 → (∀ C, cs C → walkF (f C) acc (x :: xs) ρ = walkF (f C) acc1 xs ρ1) → ∃ ys ρ', (∀ C, cs C → walkF (f C) acc (x :: xs) ρ = some (.ok ys ρ')) ∧ I (done ++ x :: xs) ys ρ' ∧ ys.length ≤ acc.length + (x :: xs).length := fun acc1 ea hl ew => by
      rw [ea] at h1
      obtain ⟨ys, ρ', e2, h2, h3⟩ := walkF_rel (cs := cs) (f := f) I (xs := xs) h1 fun d y r a ρ eq => st d y r a ρ (by rw [← eq]; simp)
      exact ⟨ys, ρ', fun C hC => (ew C hC).trans (e2 C hC), by simpa using h2, by simp; omega⟩
    cases o with
    | none => exact again acc (by simp) (by omega) (fun C hC => by rw [walkF, e C hC] <;> rfl)
    | some d => exact again (acc ++ [d]) rfl (by simp) (fun C hC => by rw [walkF, e C hC] <;> rfl)
/-- what a comprehension comes to, its state told by I -/
theorem cmp1_rel {cs : Ctx → Prop} {hf : Bool} {el c : E} {g : Tg} {it : It} {own : List Nat} {kw : Nat × List W} {xs : List D} (I : List D → List D → Env → Prop) (h1 : ∀ C, cs C → evI C it ρ = some (.ok kw ρ1)) (h2 : walked ρ1 kw.1 (kw.2.map W.fz) = some xs) (hb : xs.length ≤ big)
    (h0 : I [] [] (killAll (killAll ρ1 (freeIx ρ1 kw.2)) own)) (hs : ∀ d x r a ρ, xs = d ++ x :: r → I d a ρ → ∃ o ρ', (∀ C, cs C → step0 C el g c x ρ = some (.ok o ρ')) ∧ I (d ++ [x]) (a ++ o.toList) (killAll ρ' own)) :
    ∃ ys ρ2, I xs ys ρ2 ∧ ∀ C, cs C → evE C (.cmp1 hf el g it c own) ρ = some (.ok (.m (.c (.l ys))) (backAll ρ2 ρ1 (own ++ freeIx ρ1 kw.2))) := by
  obtain ⟨ys, ρ2, e, h, hl⟩ := walkF_rel (cs := cs) (f := fun C => stepC C el g c own) (fun d a ρ => I d a (killAll ρ own)) (xs := xs) (done := []) (acc := []) (ρ := killAll ρ1 (freeIx ρ1 kw.2)) h0 (fun d x r a ρ eq hI => by
    obtain ⟨o, ρ', e1, e2⟩ := hs d x r a _ eq hI
    exact ⟨o, ρ', fun C hC => by rw [stepC_0]; exact e1 C hC, e2⟩)
  refine ⟨ys, killAll ρ2 own, h, fun C hC => ?_⟩
  rw [evE_cmp1, h1 C hC]
  dsimp only [R.bind]
  rw [h2]
  dsimp only
  rw [e C hC]
  dsimp only
  have : newL ys = some (.m (.c (.l ys))) := if_pos (by simp at hl; omega)
  rw [this]; rfl
/-- .. that changes nothing -/
theorem cmp1_pure {hf : Bool} {el c : E} {g : Tg} {it : It} {own : List Nat} {kw : Nat × List W} {xs : List D} {f : D → Option D} {ρ0 : Env} (h1 : evI C it ρ = some (.ok kw ρ1)) (h2 : walked ρ1 kw.1 (kw.2.map W.fz) = some xs) (hb : xs.length ≤ big)
    (h0 : killAll (killAll ρ1 (freeIx ρ1 kw.2)) own = ρ0) (hs : ∀ x ∈ xs, ∃ ρ', step0 C el g c x ρ0 = some (.ok (f x) ρ') ∧ killAll ρ' own = ρ0) :
    evE C (.cmp1 hf el g it c own) ρ = some (.ok (.m (.c (.l (xs.filterMap f)))) (backAll ρ0 ρ1 (own ++ freeIx ρ1 kw.2))) := by
  obtain ⟨ys, ρ2, ⟨e1, e2⟩, e⟩ := cmp1_rel (cs := fun C' => C' = C) (hf := hf) (el := el) (c := c) (g := g) (own := own) (fun d a ρ => a = d.filterMap f ∧ ρ = ρ0) (fun C' e => by rw [e]; exact h1) h2 hb ⟨rfl, h0⟩ (fun d x r a ρ eq ⟨ha, hr⟩ => by
    obtain ⟨ρ', s1, s2⟩ := hs x (by rw [eq]; simp)
    subst hr
    refine ⟨f x, ρ', fun C' e => by rw [e]; exact s1, ?_, s2⟩
    rw [ha, List.filterMap_append, List.filterMap_cons]
    cases f x <;> simp)
  rw [e C rfl, e1, e2]
/-! ### loops -/
theorem ev_for {g : Tg} {it : It} {b : S} : evS C np (.for_ g it b) ρ = match evI C it ρ with
    | some (.ok kw ρ1) => match escs ρ1 kw.2 with
      | some (ds, ρ2) => match wkD kw.1 ds with
        | some xs => forL (fun x ρ => match asT np g x ρ with | some ρ => evS C np b ρ | none => none) xs ρ2
        | none => none
      | none => none
    | some (.ex c ρ1) => some (.ex c ρ1)
    | none => none := by rw [evS] <;> rfl
theorem forL_rel {cs : Ctx → Prop} {f : Ctx → D → Env → Option Out} (I : List D → Env → Prop) : ∀ {xs done : List D} {ρ : Env}, I done ρ → (∀ d x r ρ, done ++ xs = d ++ x :: r → I d ρ → ∃ ρ', (∀ C, cs C → f C x ρ = some (.nx ρ')) ∧ I (d ++ [x]) ρ') → ∃ ρ', (∀ C, cs C → forL (f C) xs ρ = some (.nx ρ')) ∧ I (done ++ xs) ρ'
  | [], done, ρ, h, _ => ⟨ρ, fun C _ => by rw [forL], by rw [List.append_nil]; exact h⟩
  | x :: xs, done, ρ, h, st => by
    obtain ⟨ρ1, e, h1⟩ := st done x xs ρ rfl h
    obtain ⟨ρ2, e2, h2⟩ := forL_rel (cs := cs) (f := f) I (xs := xs) h1 fun d y r ρ eq => st d y r ρ (by rw [← eq]; simp)
    exact ⟨ρ2, fun C hC => by rw [forL, e C hC]; exact e2 C hC, by simpa using h2⟩
theorem whlL_rel {cs : Ctx → Prop} {t : Ctx → Env → R Bool} {f : Ctx → Env → Option Out} (I : Nat → Env → Prop) (Dn : Env → Prop) (st : ∀ m ρ, I m ρ → (∃ ρ', (∀ C, cs C → t C ρ = some (.ok false ρ')) ∧ Dn ρ') ∨ ∃ m' ρ1 ρ2, m' < m ∧ (∀ C, cs C → t C ρ = some (.ok true ρ1) ∧ f C ρ1 = some (.nx ρ2)) ∧ I m' ρ2) : ∀ {m n : Nat} {ρ : Env}, m < n → I m ρ →
    ∃ ρ', (∀ C, cs C → whlL (t C) (f C) n ρ = some (.nx ρ')) ∧ Dn ρ'
  | m, n + 1, ρ, hmn, h => by
    rcases st m ρ h with ⟨ρ', e, h'⟩ | ⟨m', ρ1, ρ2, em, e1, h2⟩
    · exact ⟨ρ', fun C hC => by rw [whlL, e C hC], h'⟩
    · obtain ⟨ρ', e3, h3⟩ := whlL_rel (cs := cs) (t := t) (f := f) I Dn st (m := m') (n := n) (by omega) h2
      exact ⟨ρ', fun C hC => by rw [whlL, (e1 C hC).1]; dsimp only; rw [(e1 C hC).2]; exact e3 C hC, h3⟩
/-- the contexts of a text, from a depth on -/
def Cs (P : Pg) (k : Nat) : Ctx → Prop := fun C => ∃ j, k ≤ j ∧ C = Cx0 P j
theorem Cs.cal {P : Pg} {k k' ix : Nat} {a a' : List Slot} {r : Except Nat W} (h : Does P k' ix a r a') (hk : k' ≤ k) {C : Ctx} (hC : Cs P k C) : C.cal ix a = some (r, a') := by
  obtain ⟨j, hj, rfl⟩ := hC
  exact h j (Nat.le_trans hk hj)
theorem does_cs {P : Pg} {k ix : Nat} {fn : Fn} {a a' : List Slot} {r : Except Nat W} (hf : P.fns[ix]? = some fn) (h : ∀ C, Cs P k C → runFn C fn a = some (r, a')) : Does P (k + 1) ix a r a' := does_of hf fun j hj => h _ ⟨j, hj, rfl⟩
end
end Mi
set_option Elab.async false
set_option linter.all false
set_option maxRecDepth 100000
set_option maxHeartbeats 4000000
/-! MkB: the yards, as plain data: what the program's looks say of them. -/
namespace Mi
open PySem
section
variable {C : Ctx} {ρ ρ1 ρ' : Env} {np : Nat}
theorem es_pass : evS C np .pass ρ = some (.nx ρ) := by rw [evS]
theorem es_seq {a b : S} : evS C np (.seq a b) ρ = match evS C np a ρ with | some (.nx ρ1) => evS C np b ρ1 | o => o := by rw [evS] <;> rfl
theorem es_fin {b : S} {kl : List Nat} : evS C np (.fin b kl) ρ = match evS C np b ρ with | some (.nx ρ1) => some (.nx (killAll ρ1 kl)) | some (.bk ρ1) => some (.bk (killAll ρ1 kl)) | o => o := by rw [evS] <;> rfl
theorem es_asg {fz : Bool} {i : Nat} {e : E} : evS C np (.asg fz i e) ρ = match evE C e ρ with
    | some (.ok w ρ1) => match stored fz ρ1 w with | some (s, ρ2) => (put np ρ2 i s).map Out.nx | none => none
    | some (.ex c ρ1) => some (.ex c ρ1)
    | none => none := by rw [evS] <;> rfl
theorem es_asgT {g : Tg} {e : E} : evS C np (.asgT g e) ρ = match evE C e ρ with
    | some (.ok w ρ1) => match esc ρ1 w with | some (d, ρ2) => (asT np g d ρ2).map Out.nx | none => none
    | some (.ex c ρ1) => some (.ex c ρ1)
    | none => none := by rw [evS] <;> rfl
theorem es_ex {e : E} : evS C np (.ex e) ρ = match evE C e ρ with | some (.ok _ ρ1) => some (.nx ρ1) | some (.ex c ρ1) => some (.ex c ρ1) | none => none := by rw [evS] <;> rfl
theorem es_ifs {t : E} {a b : S} : evS C np (.ifs t a b) ρ = match evT C t ρ with | some (.ok true ρ1) => evS C np a ρ1 | some (.ok false ρ1) => evS C np b ρ1 | some (.ex c ρ1) => some (.ex c ρ1) | none => none := by rw [evS] <;> rfl
theorem es_rais {c : Nat} : evS C np (.rais c) ρ = some (.ex c ρ) := by rw [evS]
theorem es_ret {e : E} : evS C np (.ret e) ρ = match evE C e ρ with
    | some (.ok (.s i) ρ1) => if np ≤ i then (match ρ1[i]? with
        | some (.c (.p d)) => some (.rt (.d d) ρ1)
        | some (.c c) => some (.rt (.m (.c c)) (ρ1.set i .x))
        | some (.o k fs) => some (.rt (.m (.o k fs)) (ρ1.set i .x))
        | _ => none)
      else (match esc ρ1 (.s i) with | some (d, ρ2) => some (.rt (.d d) ρ2) | none => none)
    | some (.ok w ρ1) => some (.rt w ρ1)
    | some (.ex c ρ1) => some (.ex c ρ1)
    | none => none := by rw [evS] <;> rfl
theorem es_par {lc fa fb : Bool} {i j : Nat} {a b : E} : evS C np (.par lc fa fb i j a b) ρ = match evEs C (.cons a (.cons b .nil)) ρ with
    | some (.ok [w1, w2] ρ1) => match stored fa ρ1 w1 with
      | some (s1, ρ2) => match stored fb ρ2 w2 with
        | some (s2, ρ3) => (put np ρ3 i s1).bind fun ρ4 => (put np ρ4 j s2).map Out.nx
        | none => none
      | none => none
    | some (.ex c ρ1) => some (.ex c ρ1)
    | _ => none := by rw [evS] <;> rfl
theorem es_setI {i : Nat} {k v : E} : evS C np (.setI i k v) ρ = match evE C v ρ with
    | some (.ok vw ρ1) => (match ρ1[i]? with
      | some (.c (.l _)) => (match evE C k ρ1 with
        | some (.ok kw ρ2) => (match escs ρ2 [vw, kw] with
          | some ([vd, .int z], ρ3) => (match ρ3[i]? with
            | some (.c (.l xs)) => (match ixOf xs.length z with
              | some j => some (.nx (ρ3.set i (.c (.l (xs.set j vd)))))
              | none => none)
            | _ => none)
          | _ => none)
        | some (.ex c ρ2) => some (.ex c ρ2)
        | none => none)
      | _ => none)
    | some (.ex c ρ1) => some (.ex c ρ1)
    | none => none := by rw [evS] <;> rfl
theorem es_whl {t : E} {b : S} : evS C np (.whl t b) ρ = whlL (evT C t) (evS C np b) C.turns ρ := by rw [evS]
theorem et {t : E} : evT C t ρ = R.bind (evE C t ρ) fun w ρ1 => match look ρ1 w with | some (.bl b) => some (.ok b ρ1) | _ => none := rfl
end
/-! ### the program's defs -/
/-- is_word: thing sign -/
def F_is_word : Fn := ⟨1, 2,
  (.ret (.and_ (.isi (.var 0) .str) (.and_ (.chn .le .le (.int 1) (.bi .len (.cons (.var 0) .nil)) (.int 8)) (.bi .all (.cons (.cmp1 false (.cmp .isin (.var 1) (.gs ⟨#[97, 98, 99, 100, 101, 102, 103, 104, 105, 106, 107, 108, 109, 110, 111, 112, 113, 114, 115, 116, 117, 118, 119, 120, 121, 122]⟩)) (.n 1) (.seq (.var 0)) (.bl true) [1]) .nil)))))⟩
/-- rise: rows one other -/
def F_rise : Fn := ⟨1, 3,
  (.ret (.bi .all (.cons (.cmp1 false (.cmp .lt (.var 1) (.var 2)) (.t (.cons (.n 1) (.cons (.n 2) .nil))) (.zip (.var 0) (.slf (.var 0) (.int 1))) (.bl true) [1, 2]) .nil)))⟩
/-- is_spot: spots thing -/
def F_is_spot : Fn := ⟨2, 2,
  (.ret (.and_ (.isi (.var 1) .str) (.cmp .isin (.var 1) (.var 0))))⟩
/-- is_lane_of: spots thing one -/
def F_is_lane_of (i_is_spot : Nat) : Fn := ⟨2, 3,
  (.seq (.ifs (.or_ (.not_ (.isi (.var 1) .tuple)) (.or_ (.cmp .ne (.bi .len (.cons (.var 1) .nil)) (.int 2)) (.not_ (.bi .all (.cons (.cmp1 false (.call i_is_spot (.cons (.var 0) (.cons (.var 2) .nil))) (.n 2) (.seq (.var 1)) (.bl true) [2]) .nil)))))
  (.ret (.bl false))
  .pass)
  (.ret (.cmp .ne (.sub (.var 1) (.int 0)) (.sub (.var 1) (.int 1)))))⟩
/-- is_yard: thing spots lanes one -/
def F_is_yard (i_is_word : Nat) (i_rise : Nat) (i_is_lane_of : Nat) : Fn := ⟨1, 4,
  (.seq (.ifs (.or_ (.not_ (.isi (.var 0) .tuple)) (.cmp .ne (.bi .len (.cons (.var 0) .nil)) (.int 2)))
  (.ret (.bl false))
  .pass)
  (.seq (.asgT (.t (.cons (.n 1) (.cons (.n 2) .nil))) (.var 0))
  (.seq (.ifs (.or_ (.not_ (.isi (.var 1) .tuple)) (.or_ (.not_ (.chn .le .le (.int 2) (.bi .len (.cons (.var 1) .nil)) (.int 5))) (.not_ (.bi .all (.cons (.cmp1 false (.call i_is_word (.cons (.var 3) .nil)) (.n 3) (.seq (.var 1)) (.bl true) [3]) .nil)))))
  (.ret (.bl false))
  .pass)
  (.seq (.ifs (.or_ (.not_ (.call i_rise (.cons (.var 1) .nil))) (.or_ (.not_ (.isi (.var 2) .tuple)) (.not_ (.chn .le .le (.int 1) (.bi .len (.cons (.var 2) .nil)) (.int 8)))))
  (.ret (.bl false))
  .pass)
  (.ret (.and_ (.bi .all (.cons (.cmp1 false (.call i_is_lane_of (.cons (.var 1) (.cons (.var 3) .nil))) (.n 3) (.seq (.var 2)) (.bl true) [3]) .nil)) (.call i_rise (.cons (.var 2) .nil))))))))⟩
/-- need_yard: thing -/
def F_need_yard (i_is_yard : Nat) : Fn := ⟨1, 1,
  (.ifs (.not_ (.call i_is_yard (.cons (.var 0) .nil)))
  (.rais 0)
  .pass)⟩
/-- is_lane: yard thing -/
def F_is_lane (i_is_lane_of : Nat) : Fn := ⟨2, 2,
  (.ret (.and_ (.call i_is_lane_of (.cons (.sub (.var 0) (.int 0)) (.cons (.var 1) .nil))) (.cmp .isin (.var 1) (.sub (.var 0) (.int 1)))))⟩
/-- are_good_prints: yard thing one -/
def F_are_good_prints (i_is_lane : Nat) (i_rise : Nat) : Fn := ⟨2, 3,
  (.ret (.and_ (.isi (.var 1) .tuple) (.and_ (.bi .all (.cons (.cmp1 false (.call i_is_lane (.cons (.var 0) (.cons (.var 2) .nil))) (.n 2) (.seq (.var 1)) (.bl true) [2]) .nil)) (.call i_rise (.cons (.var 1) .nil)))))⟩
/-- need_prints: yard prints -/
def F_need_prints (i_need_yard : Nat) (i_are_good_prints : Nat) : Fn := ⟨2, 2,
  (.seq (.ex (.call i_need_yard (.cons (.var 0) .nil)))
  (.ifs (.not_ (.call i_are_good_prints (.cons (.var 0) (.cons (.var 1) .nil))))
  (.rais 2)
  .pass))⟩
/-- reached: prints spot found work here one other -/
def F_reached : Fn := ⟨2, 7,
  (.seq (.par true false false 2 3 (.lst (.cons (.var 1) .nil)) (.lst (.cons (.var 1) .nil)))
  (.seq (.whl (.cmp .ne (.var 3) (.lst .nil))
  (.fin (.seq (.asg true 4 (.mth .pop (.var 3) .nil))
  (.for_ (.t (.cons (.n 5) (.cons (.n 6) .nil))) (.seq (.var 0))
  (.fin (.ifs (.and_ (.cmp .eq (.var 5) (.var 4)) (.cmp .notin (.var 6) (.var 2)))
  (.seq (.ex (.mth .append (.var 2) (.cons (.var 6) .nil)))
  (.ex (.mth .append (.var 3) (.cons (.var 6) .nil))))
  .pass) [5, 6]))) [4, 5, 6]))
  (.ret (.var 2))))⟩
/-- leads_to: prints lane other -/
def F_leads_to (i_reached : Nat) : Fn := ⟨3, 3,
  (.ret (.or_ (.cmp .eq (.var 1) (.var 2)) (.cmp .isin (.sub (.var 2) (.int 0)) (.call i_reached (.cons (.var 0) (.cons (.sub (.var 1) (.int 1)) .nil))))))⟩
/-- comes_to: yard prints lane other one -/
def F_comes_to (i_need_prints : Nat) (i_is_lane : Nat) (i_leads_to : Nat) : Fn := ⟨4, 5,
  (.seq (.ex (.call i_need_prints (.cons (.var 0) (.cons (.var 1) .nil))))
  (.seq (.for_ (.n 4) (.seq (.tup (.cons (.var 2) (.cons (.var 3) .nil))))
  (.fin (.ifs (.or_ (.not_ (.call i_is_lane (.cons (.var 0) (.cons (.var 4) .nil)))) (.cmp .notin (.var 4) (.var 1)))
  (.rais 3)
  .pass) [4]))
  (.ret (.call i_leads_to (.cons (.var 1) (.cons (.var 2) (.cons (.var 3) .nil)))))))⟩
/-- _law_cell: _law_script _law_k -/
def F__law_cell : Fn := ⟨2, 2,
  (.seq (.ifs (.cmp .eq (.var 0) (.lst .nil))
  (.ret (.bin .mul (.var 1) (.int 7919)))
  .pass)
  (.ret (.bin .add (.sub (.var 0) (.bin .mod (.var 1) (.bi .len (.cons (.var 0) .nil)))) (.bin .mul (.bin .fdiv (.var 1) (.bi .len (.cons (.var 0) .nil))) (.int 104729)))))⟩
/-- _law_drawn: _law_cell_here _law_k _law_more -/
def F__law_drawn : Fn := ⟨2, 3,
  (.seq (.asg true 2 (.bin .mod (.bin .add (.bin .mul (.var 0) (.int 6364136223846793005)) (.bin .mul (.bin .add (.var 1) (.int 1)) (.int 1442695040888963407))) (.int 340282366920938463463374607431768211507)))
  (.seq (.asg true 2 (.bin .mod (.bin .mul (.var 2) (.var 2)) (.int 340282366920938463463374607431768211297)))
  (.seq (.asg true 2 (.bin .mul (.bin .mul (.bin .add (.bin .mod (.var 2) (.int 18446744073709551557)) (.int 1)) (.bin .add (.bin .fdiv (.var 2) (.int 18446744073709551557)) (.int 1))) (.var 2)))
  (.ret (.bin .mod (.var 2) (.int 340282366920938463463374607431768211507))))))⟩
/-- _law_roll: _law_dice _law_many _law_told_here -/
def F__law_roll (i__law_drawn : Nat) : Fn := ⟨2, 3,
  (.seq (.ifs (.cmp .ge (.sub (.var 0) (.int 0)) (.bin .pow (.int 10) (.int 18)))
  (.seq (.asg true 2 (.bin .mod (.sub (.var 0) (.int 0)) (.var 1)))
  (.seq (.setI 0 (.int 0) (.bin .fdiv (.sub (.var 0) (.int 0)) (.var 1)))
  (.ret (.var 2))))
  .pass)
  (.seq (.setI 0 (.int 1) (.bin .add (.sub (.var 0) (.int 1)) (.int 1)))
  (.ret (.bin .mod (.bin .fdiv (.call i__law_drawn (.cons (.sub (.var 0) (.int 0)) (.cons (.sub (.var 0) (.int 1)) .nil))) (.int 8)) (.var 1)))))⟩
/-- _law_any_yard: _law_dice _law_size _law_many _law_spots _law_some _law_one _law_lanes _law_turn _law_other -/
def F__law_any_yard (i__law_roll : Nat) : Fn := ⟨3, 9,
  (.seq (.asg true 3 (.slt (.tup (.cons (.str ⟨#[98, 97, 114, 110]⟩) (.cons (.str ⟨#[103, 97, 116, 101]⟩) (.cons (.str ⟨#[112, 111, 110, 100]⟩) (.cons (.str ⟨#[115, 104, 101, 100]⟩) (.cons (.str ⟨#[119, 101, 108, 108]⟩) .nil)))))) (.bin .add (.int 2) (.call i__law_roll (.cons (.var 0) (.cons (.bin .sub (.var 1) (.int 1)) .nil))))))
  (.seq (.asg false 4 (.lst .nil))
  (.seq (.for_ (.n 5) (.seq (.var 3))
  (.fin (.asg false 4 (.bin .add (.var 4) (.cmp1 true (.tup (.cons (.var 5) (.cons (.var 8) .nil))) (.n 8) (.seq (.var 3)) (.cmp .ne (.var 8) (.var 5)) [8]))) [5]))
  (.seq (.asg false 6 (.lst .nil))
  (.seq (.for_ (.n 7) (.rng1 (.bin .add (.int 1) (.call i__law_roll (.cons (.var 0) (.cons (.var 2) .nil)))))
  (.fin (.ifs (.cmp .ne (.var 4) (.lst .nil))
  (.ex (.mth .append (.var 6) (.cons (.mth .popAt (.var 4) (.cons (.call i__law_roll (.cons (.var 0) (.cons (.bi .len (.cons (.var 4) .nil)) .nil))) .nil)) .nil)))
  .pass) [7]))
  (.ret (.tup (.cons (.var 3) (.cons (.bi .tuple (.cons (.bi .sorted (.cons (.var 6) .nil)) .nil)) .nil)))))))))⟩
/-- _law_any_prints: _law_dice _law_yard _law_lane -/
def F__law_any_prints (i__law_roll : Nat) : Fn := ⟨2, 3,
  (.ret (.bi .tuple (.cons (.cmp1 true (.var 2) (.n 2) (.seq (.sub (.var 1) (.int 1))) (.cmp .gt (.call i__law_roll (.cons (.var 0) (.cons (.int 3) .nil))) (.int 0)) [2]) .nil)))⟩
end Mi
set_option Elab.async false
set_option linter.all false
set_option maxRecDepth 100000
set_option maxHeartbeats 4000000
/-! MkC: spots, lanes, yards. -/
namespace Mi
open PySem
abbrev Ln := Str × Str
def ln (p : Ln) : D := .tup [.str p.1, .str p.2]
def okS (x : Str) : Bool := x.cps.toList.all fun c => decide (c < 1114112)
theorem plain_str {n : Nat} {x : Str} (h : okS x = true) : (D.str x).plain n = true := by
  cases n <;> simpa [D.plain, okS] using h
theorem plain_ln {n : Nat} {p : Ln} (h1 : okS p.1 = true) (h2 : okS p.2 = true) : (ln p).plain (n + 1) = true := by
  have := plain_str (n := n) h1
  have := plain_str (n := n) h2
  simp only [ln, D.plain, D.plains, Bool.and_true, Bool.and_eq_true]
  exact ⟨by assumption, by assumption⟩
theorem plains_of {n : Nat} : ∀ {xs : List D}, (∀ x ∈ xs, x.plain n = true) → D.plains n xs = true
  | [], _ => by cases n <;> simp [D.plains]
  | x :: xs, h => by
    have h1 := h x (by simp)
    have h2 := plains_of (xs := xs) fun y hy => h y (by simp [hy])
    cases n <;> simp [D.plains, h1, h2]
theorem plain_tup {n : Nat} {xs : List D} (h : ∀ x ∈ xs, x.plain n = true) : (D.tup xs).plain (n + 1) = true := by
  simp [D.plain, plains_of h]
theorem plains_iff {n : Nat} {xs : List D} : D.plains n xs = true ↔ ∀ x ∈ xs, x.plain n = true := by
  refine ⟨fun h => ?_, plains_of⟩
  induction xs with
  | nil => simp
  | cons y ys ih =>
    have h : D.plain n y = true ∧ D.plains n ys = true := by cases n <;> simpa [D.plains] using h
    intro x hx
    rcases List.mem_cons.mp hx with rfl | hx
    · exact h.1
    · exact ih h.2 x hx
mutual
theorem plain_mono : ∀ {d : D} {n : Nat}, d.plain n = true → d.plain (n + 1) = true
  | .non, n, _ => by cases n <;> simp [D.plain]
  | .bl _, n, _ => by cases n <;> simp [D.plain]
  | .int _, n, _ => by cases n <;> simp [D.plain]
  | .str x, n, h => by cases n <;> simpa [D.plain] using h
  | .lst xs, 0, h => by simp [D.plain] at h
  | .lst xs, n + 1, h => by
    have h : D.plains n xs = true := by simpa [D.plain] using h
    have := plains_mono h
    simpa [D.plain] using this
  | .tup xs, 0, h => by simp [D.plain] at h
  | .tup xs, n + 1, h => by
    have h : D.plains n xs = true := by simpa [D.plain] using h
    have := plains_mono h
    simpa [D.plain] using this
  | .dct _, n, h => by cases n <;> simp [D.plain] at h
  | .set _, n, h => by cases n <;> simp [D.plain] at h
  | .exc _, n, h => by cases n <;> simp [D.plain] at h
theorem plains_mono : ∀ {ds : List D} {n : Nat}, D.plains n ds = true → D.plains (n + 1) ds = true
  | [], n, _ => by simp [D.plains]
  | x :: xs, n, h => by
    have h : D.plain n x = true ∧ D.plains n xs = true := by cases n <;> simpa [D.plains] using h
    have h1 := plain_mono h.1
    have h2 := plains_mono h.2
    simp [D.plains, h1, h2]
end
theorem eqv_str {x y : Str} : D.eqv (.str x) (.str y) = (x == y) := by simp [D.eqv]
theorem eqv_ln {p q : Ln} : D.eqv (ln p) (ln q) = (p == q) := by
  obtain ⟨a, b⟩ := p
  obtain ⟨c, d⟩ := q
  simp [ln, D.eqv, D.eqvs]
  rfl
theorem mem_str {x : Str} {xs : List Str} : mem (.str x) (xs.map D.str) = decide (x ∈ xs) := by
  unfold mem
  rw [List.any_map, Bool.eq_iff_iff]
  simp only [List.any_eq_true, Function.comp, eqv_str, beq_iff_eq, decide_eq_true_eq]
  exact ⟨fun ⟨y, hy, e⟩ => e ▸ hy, fun h => ⟨x, h, rfl⟩⟩
theorem mem_ln {x : Ln} {xs : List Ln} : mem (ln x) (xs.map ln) = decide (x ∈ xs) := by
  unfold mem
  rw [List.any_map, Bool.eq_iff_iff]
  simp only [List.any_eq_true, Function.comp, eqv_ln, beq_iff_eq, decide_eq_true_eq]
  exact ⟨fun ⟨y, hy, e⟩ => e ▸ hy, fun h => ⟨x, h, rfl⟩⟩
theorem biAll_map {xs : List Bool} : biAll [.lst (xs.map D.bl)] = some (.d (.bl (xs.all id))) := by
  have : boolsOf (xs.map D.bl) = some xs := by
    induction xs with
    | nil => rfl
    | cons b xs ih => simp [boolsOf, ih]
  simp [biAll, this]
theorem biAll_fun {g : D → Bool} {xs : List D} : biAll [.lst (xs.map fun x => .bl (g x))] = some (.d (.bl (xs.all g))) := by
  have e : xs.map (fun x => D.bl (g x)) = (xs.map g).map D.bl := by rw [List.map_map]; rfl
  rw [e, biAll_map, List.all_map]
  rfl
/-! ### looks -/
def mSpot (sp : List D) (t : D) : Bool := match t with | .str _ => mem t sp | _ => false
section
variable {P : Pg} {k ix i1 i2 i3 : Nat}
theorem is_spot_ok {sp : List D} {t : D} (hf : P.fns[ix]? = some F_is_spot) (h1 : D.plains lvl sp = true) (h2 : t.plain lvl = true) : Does P 1 ix [.p (.tup sp), .p t] (.ok (.d (.bl (mSpot sp t)))) [.p (.tup sp), .p t] := by
  refine does_of hf fun j _ => ?_
  cases t <;> first | (simp [D.plain] at h2; done) | simp [F_is_spot, runFn, es_pass, es_seq, es_fin, es_asg, es_asgT, es_ex, es_ifs, es_rais, es_ret, es_par, es_setI, et, ev_var, ev_non, ev_bl, ev_int, ev_str, ev_gi, ev_gs, ev_tup, ev_lst, ev_bin, ev_not, ev_and, ev_or, ev_cmp, ev_chn, ev_ife, ev_sub, ev_slf, ev_slt, ev_call, ev_bi, ev_sset, ev_rev, ev_neg, ev_isi, ev_nil, ev_cons, ev_seq, ev_rng1, ev_zip, R.bind, look, looks, Slot.dat?, Cn.dat, exOf, W.fz, esc, escs, stored, put, lend, giveBack, Slot.free, isiD, cmpD, h1, h2, mSpot]
def mLaneOf (sp : List D) (t : D) : Bool := match t with | .tup [a, b] => mSpot sp a && mSpot sp b && !D.eqv a b | _ => false
theorem is_lane_of_ok {sp : List D} {t : D} (hf : P.fns[ix]? = some (F_is_lane_of i1)) (hg : P.fns[i1]? = some F_is_spot) (h1 : D.plains lvl sp = true) (h2 : t.plain lvl = true) : Does P 2 ix [.p (.tup sp), .p t] (.ok (.d (.bl (mLaneOf sp t)))) [.p (.tup sp), .p t] := by
  refine does_of hf fun j hj => ?_
  have spot : ∀ t : D, t.plain lvl = true → calN P j i1 [.p (.tup sp), .p t] = some (.ok (.d (.bl (mSpot sp t))), [.p (.tup sp), .p t]) := fun t ht => is_spot_ok hg h1 ht j hj
  cases t with
  | tup ds =>
    have hp : ∀ x ∈ ds, x.plain lvl = true := fun x hx => plain_mono (plains_iff.mp (by simpa [D.plain] using h2) x hx)
    by_cases hl : ds.length = 2
    · match ds, hl, hp with
      | [a, b], _, hp =>
      have pa := hp a (by simp)
      have pb := hp b (by simp)
      have hc : evE (Cx0 P j) (.cmp1 false (.call i1 (.cons (.var 0) (.cons (.var 2) .nil))) (.n 2) (.seq (.var 1)) (.bl true) [2]) [.p (.tup sp), .p (.tup [a, b]), .x] = some (.ok (.m (.c (.l [.bl (mSpot sp a), .bl (mSpot sp b)]))) [.p (.tup sp), .p (.tup [a, b]), .x]) := by
        have := cmp1_pure (C := Cx0 P j) (hf := false) (el := .call i1 (.cons (.var 0) (.cons (.var 2) .nil))) (c := .bl true) (g := .n 2) (it := .seq (.var 1)) (own := [2]) (ρ := [.p (.tup sp), .p (.tup [a, b]), .x]) (ρ1 := [.p (.tup sp), .p (.tup [a, b]), .x]) (kw := (0, [.s 1])) (xs := [a, b]) (f := fun x => some (.bl (mSpot sp x))) (ρ0 := [.p (.tup sp), .p (.tup [a, b]), .x])
          (by simp [runFn, es_pass, es_seq, es_fin, es_asg, es_asgT, es_ex, es_ifs, es_rais, es_ret, es_par, es_setI, et, ev_var, ev_non, ev_bl, ev_int, ev_str, ev_gi, ev_gs, ev_tup, ev_lst, ev_bin, ev_not, ev_and, ev_or, ev_cmp, ev_chn, ev_ife, ev_sub, ev_slf, ev_slt, ev_call, ev_bi, ev_sset, ev_rev, ev_neg, ev_isi, ev_nil, ev_cons, ev_seq, ev_rng1, ev_zip, R.bind, look, looks, Slot.dat?, Cn.dat, exOf, W.fz, esc, escs, stored, put, lend, giveBack, Slot.free]) (by simp [walked, runFn, es_pass, es_seq, es_fin, es_asg, es_asgT, es_ex, es_ifs, es_rais, es_ret, es_par, es_setI, et, ev_var, ev_non, ev_bl, ev_int, ev_str, ev_gi, ev_gs, ev_tup, ev_lst, ev_bin, ev_not, ev_and, ev_or, ev_cmp, ev_chn, ev_ife, ev_sub, ev_slf, ev_slt, ev_call, ev_bi, ev_sset, ev_rev, ev_neg, ev_isi, ev_nil, ev_cons, ev_seq, ev_rng1, ev_zip, R.bind, look, looks, Slot.dat?, Cn.dat, exOf, W.fz, esc, escs, stored, put, lend, giveBack, Slot.free, wkD, wk0, itemsI]) (by simp [big]) (by simp [killAll, freeIx, Slot.free]) (fun x hx => by
            have px : x.plain lvl = true := hp x hx
            exact ⟨[.p (.tup sp), .p (.tup [a, b]), .p x], by simp [step0, asT, runFn, es_pass, es_seq, es_fin, es_asg, es_asgT, es_ex, es_ifs, es_rais, es_ret, es_par, es_setI, et, ev_var, ev_non, ev_bl, ev_int, ev_str, ev_gi, ev_gs, ev_tup, ev_lst, ev_bin, ev_not, ev_and, ev_or, ev_cmp, ev_chn, ev_ife, ev_sub, ev_slf, ev_slt, ev_call, ev_bi, ev_sset, ev_rev, ev_neg, ev_isi, ev_nil, ev_cons, ev_seq, ev_rng1, ev_zip, R.bind, look, looks, Slot.dat?, Cn.dat, exOf, W.fz, esc, escs, stored, put, lend, giveBack, Slot.free, spot x px], by simp [killAll]⟩)
        simpa [backAll, freeIx, Slot.free] using this
      have e2 : biAll [.lst [.bl (mSpot sp a), .bl (mSpot sp b)]] = some (.d (.bl (mSpot sp a && mSpot sp b))) := by
        have := biAll_map (xs := [mSpot sp a, mSpot sp b])
        simpa using this
      cases hs : (mSpot sp a && mSpot sp b) with
      | true =>
        rw [hs] at e2
        simp [F_is_lane_of, runFn, es_pass, es_seq, es_fin, es_asg, es_asgT, es_ex, es_ifs, es_rais, es_ret, es_par, es_setI, et, ev_var, ev_non, ev_bl, ev_int, ev_str, ev_gi, ev_gs, ev_tup, ev_lst, ev_bin, ev_not, ev_and, ev_or, ev_cmp, ev_chn, ev_ife, ev_sub, ev_slf, ev_slt, ev_call, ev_bi, ev_sset, ev_rev, ev_neg, ev_isi, ev_nil, ev_cons, ev_seq, ev_rng1, ev_zip, R.bind, look, looks, Slot.dat?, Cn.dat, exOf, W.fz, esc, escs, stored, put, lend, giveBack, Slot.free, isiD, cmpD, biD, biLen, D.plain, D.eqv, hc, e2, subD, at?, ixOf, pa, pb, mLaneOf, hs]
      | false =>
        rw [hs] at e2
        simp [F_is_lane_of, runFn, es_pass, es_seq, es_fin, es_asg, es_asgT, es_ex, es_ifs, es_rais, es_ret, es_par, es_setI, et, ev_var, ev_non, ev_bl, ev_int, ev_str, ev_gi, ev_gs, ev_tup, ev_lst, ev_bin, ev_not, ev_and, ev_or, ev_cmp, ev_chn, ev_ife, ev_sub, ev_slf, ev_slt, ev_call, ev_bi, ev_sset, ev_rev, ev_neg, ev_isi, ev_nil, ev_cons, ev_seq, ev_rng1, ev_zip, R.bind, look, looks, Slot.dat?, Cn.dat, exOf, W.fz, esc, escs, stored, put, lend, giveBack, Slot.free, isiD, cmpD, biD, biLen, D.plain, D.eqv, hc, e2, subD, at?, ixOf, pa, pb, mLaneOf, hs]
    · have e1 : mLaneOf sp (.tup ds) = false := by
        unfold mLaneOf
        split
        · rename_i a b e; cases e; simp at hl
        · rfl
      have e2 : ((ds.length : Int) == 2) = false := by rw [beq_eq_false_iff_ne]; omega
      simp [F_is_lane_of, runFn, es_pass, es_seq, es_fin, es_asg, es_asgT, es_ex, es_ifs, es_rais, es_ret, es_par, es_setI, et, ev_var, ev_non, ev_bl, ev_int, ev_str, ev_gi, ev_gs, ev_tup, ev_lst, ev_bin, ev_not, ev_and, ev_or, ev_cmp, ev_chn, ev_ife, ev_sub, ev_slf, ev_slt, ev_call, ev_bi, ev_sset, ev_rev, ev_neg, ev_isi, ev_nil, ev_cons, ev_seq, ev_rng1, ev_zip, R.bind, look, looks, Slot.dat?, Cn.dat, exOf, W.fz, esc, escs, stored, put, lend, giveBack, Slot.free, isiD, cmpD, biD, biLen, D.plain, D.eqv, e1, e2]
  | dct _ => simp [D.plain] at h2
  | set _ => simp [D.plain] at h2
  | exc _ => simp [D.plain] at h2
  | _ => simp [F_is_lane_of, runFn, es_pass, es_seq, es_fin, es_asg, es_asgT, es_ex, es_ifs, es_rais, es_ret, es_par, es_setI, et, ev_var, ev_non, ev_bl, ev_int, ev_str, ev_gi, ev_gs, ev_tup, ev_lst, ev_bin, ev_not, ev_and, ev_or, ev_cmp, ev_chn, ev_ife, ev_sub, ev_slf, ev_slt, ev_call, ev_bi, ev_sset, ev_rev, ev_neg, ev_isi, ev_nil, ev_cons, ev_seq, ev_rng1, ev_zip, R.bind, look, looks, Slot.dat?, Cn.dat, exOf, W.fz, esc, escs, stored, put, lend, giveBack, Slot.free, isiD, mLaneOf]
/-- all([.. for o in ..]), the state kept -/
theorem all_pure {C : Ctx} {ρ : Env} {hf : Bool} {el : E} {it : It} {o : Nat} {kw : Nat × List W} {xs : List D} {g : D → Bool} (h1 : evI C it ρ = some (.ok kw ρ)) (h2 : walked ρ kw.1 (kw.2.map W.fz) = some xs) (hfr : freeIx ρ kw.2 = []) (hx : ρ[o]? = some .x) (hb : xs.length ≤ big)
    (hs : ∀ x ∈ xs, evE C el (ρ.set o (.p x)) = some (.ok (.d (.bl (g x))) (ρ.set o (.p x)))) : evE C (.bi .all (.cons (.cmp1 hf el (.n o) it (.bl true) [o]) .nil)) ρ = some (.ok (.d (.bl (xs.all g))) ρ) := by
  have hl : o < ρ.length := by
    by_cases z : o < ρ.length
    · exact z
    · rw [List.getElem?_eq_none (by omega)] at hx; cases hx
  have same : ρ.set o .x = ρ := by
    apply List.ext_getElem?
    intro i
    rw [List.getElem?_set]
    split
    · rename_i e; subst e; rw [hx]
    · rfl
  have gx : ρ.getD o .x = .x := by rw [List.getD_eq_getElem?_getD, hx]; rfl
  have hc := cmp1_pure (C := C) (hf := hf) (el := el) (c := .bl true) (g := .n o) (it := it) (own := [o]) (ρ := ρ) (ρ1 := ρ) (kw := kw) (xs := xs) (f := fun x => some (.bl (g x))) (ρ0 := ρ) h1 h2 hb (by rw [hfr]; simp [killAll, same]) (fun x hx' => by
    refine ⟨ρ.set o (.p x), ?_, by simp [killAll, List.set_set, same]⟩
    simp [step0, asT, hl, ev_bl, R.bind, look, hs x hx', esc])
  rw [hfr] at hc
  simp only [List.append_nil, backAll, gx, same, List.filterMap_eq_map'] at hc
  have e2 : biAll [.lst (xs.map fun x => .bl (g x))] = some (.d (.bl (xs.all g))) := biAll_fun
  simp only [ev_bi, ev_cons, ev_nil, hc, R.bind]
  simp [looks, look, Slot.dat?, Cn.dat, W.fz, biD, e2]
/-! ### rows that rise -/
def ltT (t : D) : Bool := match t with | .tup [x, y] => D.lt x y | _ => false
def riseB (rows : List D) : Bool := (zipL rows (rows.drop 1)).all ltT
theorem zipL_mem : ∀ {xs ys : List D} {t : D}, t ∈ zipL xs ys → ∃ x y, t = .tup [x, y] ∧ x ∈ xs ∧ y ∈ ys
  | [], _, t, h => by simp [zipL] at h
  | x :: xs, [], t, h => by simp [zipL] at h
  | x :: xs, y :: ys, t, h => by
    rw [zipL] at h
    rcases List.mem_cons.mp h with rfl | h
    · exact ⟨x, y, rfl, by simp, by simp⟩
    · obtain ⟨a, b, e, h1, h2⟩ := zipL_mem h
      exact ⟨a, b, e, by simp [h1], by simp [h2]⟩
theorem rise_ok {rows : List D} (hf : P.fns[ix]? = some F_rise) (hp : ∀ x ∈ rows, x.plain lvl = true) (hb : rows.length ≤ big) (hk : ∀ x ∈ rows, ∀ y ∈ rows, cmpD .lt x y = some (D.lt x y)) : Does P 1 ix [.p (.tup rows)] (.ok (.d (.bl (riseB rows)))) [.p (.tup rows)] := by
  refine does_of hf fun j hj => ?_
  have ecut : rows.drop (cutAt rows.length 1) = rows.drop 1 := by
    unfold cutAt
    rw [if_pos (by decide)]
    cases rows with
    | nil => rfl
    | cons x r => simp [Nat.min_eq_left]
  have hsl : slD true (.tup rows) (.int 1) = some (.d (.tup (rows.drop 1))) := by
    unfold slD
    dsimp only
    rw [if_pos rfl, ecut]
    exact if_pos (by rw [List.length_drop]; omega)
  have hc := cmp1_pure (C := Cx0 P j) (hf := false) (el := .cmp .lt (.var 1) (.var 2)) (c := .bl true) (g := .t (.cons (.n 1) (.cons (.n 2) .nil))) (it := .zip (.var 0) (.slf (.var 0) (.int 1))) (own := [1, 2]) (ρ := [.p (.tup rows), .x, .x]) (ρ1 := [.p (.tup rows), .x, .x]) (kw := (5, [.s 0, .d (.tup (rows.drop 1))])) (xs := zipL rows (rows.drop 1)) (f := fun t => some (.bl (ltT t))) (ρ0 := [.p (.tup rows), .x, .x])
    (by simp [runFn, es_pass, es_seq, es_fin, es_asg, es_asgT, es_ex, es_ifs, es_rais, es_ret, es_par, es_setI, et, ev_var, ev_non, ev_bl, ev_int, ev_str, ev_gi, ev_gs, ev_tup, ev_lst, ev_bin, ev_not, ev_and, ev_or, ev_cmp, ev_chn, ev_ife, ev_sub, ev_slf, ev_slt, ev_call, ev_bi, ev_sset, ev_rev, ev_neg, ev_isi, ev_nil, ev_cons, ev_seq, ev_rng1, ev_zip, R.bind, look, looks, Slot.dat?, Cn.dat, exOf, W.fz, esc, escs, stored, put, lend, giveBack, Slot.free, hsl]) (by simp [walked, runFn, es_pass, es_seq, es_fin, es_asg, es_asgT, es_ex, es_ifs, es_rais, es_ret, es_par, es_setI, et, ev_var, ev_non, ev_bl, ev_int, ev_str, ev_gi, ev_gs, ev_tup, ev_lst, ev_bin, ev_not, ev_and, ev_or, ev_cmp, ev_chn, ev_ife, ev_sub, ev_slf, ev_slt, ev_call, ev_bi, ev_sset, ev_rev, ev_neg, ev_isi, ev_nil, ev_cons, ev_seq, ev_rng1, ev_zip, R.bind, look, looks, Slot.dat?, Cn.dat, exOf, W.fz, esc, escs, stored, put, lend, giveBack, Slot.free, wkD, wk5]) (by rw [zipL_len]; exact Nat.le_trans (Nat.min_le_left _ _) hb) (by simp [killAll, freeIx, Slot.free]) (fun t ht => by
      obtain ⟨x, y, rfl, h1, h2⟩ := zipL_mem ht
      have h2 := List.mem_of_mem_drop h2
      exact ⟨[.p (.tup rows), .p x, .p y], by simp [step0, asT, asTs, runFn, es_pass, es_seq, es_fin, es_asg, es_asgT, es_ex, es_ifs, es_rais, es_ret, es_par, es_setI, et, ev_var, ev_non, ev_bl, ev_int, ev_str, ev_gi, ev_gs, ev_tup, ev_lst, ev_bin, ev_not, ev_and, ev_or, ev_cmp, ev_chn, ev_ife, ev_sub, ev_slf, ev_slt, ev_call, ev_bi, ev_sset, ev_rev, ev_neg, ev_isi, ev_nil, ev_cons, ev_seq, ev_rng1, ev_zip, R.bind, look, looks, Slot.dat?, Cn.dat, exOf, W.fz, esc, escs, stored, put, lend, giveBack, Slot.free, hk x h1 y h2, ltT], by simp [killAll]⟩)
  simp only [freeIx, Slot.free, backAll] at hc
  have e2 : biAll [.lst ((zipL rows (rows.drop 1)).map fun x => .bl (ltT x))] = some (.d (.bl (riseB rows))) := biAll_fun
  simp only [List.filterMap_eq_map'] at hc
  simp only [List.drop_one] at hc e2
  simp [F_rise, runFn, es_pass, es_seq, es_fin, es_asg, es_asgT, es_ex, es_ifs, es_rais, es_ret, es_par, es_setI, et, ev_var, ev_non, ev_bl, ev_int, ev_str, ev_gi, ev_gs, ev_tup, ev_lst, ev_bin, ev_not, ev_and, ev_or, ev_cmp, ev_chn, ev_ife, ev_sub, ev_slf, ev_slt, ev_call, ev_bi, ev_sset, ev_rev, ev_neg, ev_isi, ev_nil, ev_cons, ev_seq, ev_rng1, ev_zip, R.bind, look, looks, Slot.dat?, Cn.dat, exOf, W.fz, esc, escs, stored, put, lend, giveBack, Slot.free, hc, biD, freeIx, Slot.free, backAll, e2]
theorem riseB_of : ∀ {rows : List D}, rows.Pairwise (fun x y => D.lt x y = true) → riseB rows = true
  | [], _ => rfl
  | [x], _ => by simp [riseB, zipL]
  | x :: y :: r, h => by
    have h1 := (List.pairwise_cons.mp h).1 y (by simp)
    have h2 := riseB_of (List.pairwise_cons.mp h).2
    simp only [riseB, List.drop_succ_cons, List.drop_zero, zipL, List.all_cons, ltT, h1, Bool.true_and] at h2 ⊢
    exact h2
end
end Mi
set_option Elab.async false
set_option linter.all false
set_option maxRecDepth 100000
set_option maxHeartbeats 4000000
/-! MkD: yards and prints that are good. -/
namespace Mi
open PySem
def sBarn : Str := ⟨#[98, 97, 114, 110]⟩
def sGate : Str := ⟨#[103, 97, 116, 101]⟩
def sPond : Str := ⟨#[112, 111, 110, 100]⟩
def sShed : Str := ⟨#[115, 104, 101, 100]⟩
def sWell : Str := ⟨#[119, 101, 108, 108]⟩
def five : List Str := [sBarn, sGate, sPond, sShed, sWell]
theorem five_cases {x : Str} (h : x ∈ five) : x = sBarn ∨ x = sGate ∨ x = sPond ∨ x = sShed ∨ x = sWell := by simpa [five] using h
theorem okS_five {x : Str} (h : x ∈ five) : okS x = true := by
  rcases five_cases h with rfl | rfl | rfl | rfl | rfl <;> rfl
section
variable {P : Pg} {k ix i1 i2 i3 i4 i5 i6 i7 : Nat}
theorem is_word_ok {x : Str} (hf : P.fns[ix]? = some F_is_word) (h : x ∈ five) : Does P 1 ix [.p (.str x)] (.ok (.d (.bl true))) [.p (.str x)] := by
  refine does_of hf fun j hj => ?_
  rcases five_cases h with rfl | rfl | rfl | rfl | rfl <;> rfl
/-- a yard: the first spots of the five; lanes between them, rising -/
structure Yd (sp : List Str) (ls : List Ln) : Prop where
  pre : ∃ n, 2 ≤ n ∧ n ≤ 5 ∧ sp = five.take n
  ends : ∀ p ∈ ls, p.1 ∈ sp ∧ p.2 ∈ sp ∧ p.1 ≠ p.2
  rise : ls.Pairwise fun p q => D.lt (ln p) (ln q) = true
  len : 1 ≤ ls.length ∧ ls.length ≤ 8
def yd (sp : List Str) (ls : List Ln) : D := .tup [.tup (sp.map D.str), .tup (ls.map ln)]
variable {sp : List Str} {ls ps : List Ln}
theorem Yd.five (y : Yd sp ls) : ∀ x ∈ sp, x ∈ Mi.five := by
  obtain ⟨n, _, _, rfl⟩ := y.pre
  exact fun x hx => List.mem_of_mem_take hx
theorem Yd.okS (y : Yd sp ls) : ∀ x ∈ sp, okS x = true := fun x hx => okS_five (y.five x hx)
theorem Yd.spl (y : Yd sp ls) : 2 ≤ sp.length ∧ sp.length ≤ 5 := by
  obtain ⟨n, h1, h2, rfl⟩ := y.pre
  rw [List.length_take]
  have : Mi.five.length = 5 := rfl
  omega
theorem Yd.lnp (y : Yd sp ls) {n : Nat} : ∀ p ∈ ls, (ln p).plain (n + 1) = true := fun p hp => plain_ln (y.okS _ (y.ends p hp).1) (y.okS _ (y.ends p hp).2.1)
theorem plain_sps (y : Yd sp ls) {n : Nat} : D.plains n (sp.map D.str) = true := plains_of fun x hx => by
  obtain ⟨z, hz, rfl⟩ := List.mem_map.mp hx
  exact plain_str (y.okS z hz)
theorem plain_lns (y : Yd sp ls) {n : Nat} : D.plains (n + 1) (ls.map ln) = true := plains_of fun x hx => by
  obtain ⟨z, hz, rfl⟩ := List.mem_map.mp hx
  exact y.lnp z hz
theorem plain_yd (y : Yd sp ls) {n : Nat} : (yd sp ls).plain (n + 3) = true := by
  have h1 := plain_sps y (n := n + 1)
  have h2 := plain_lns y (n := n)
  simp [yd, D.plain, D.plains, h1, h2]
theorem lt_strs {x y : Str} (hx : okS x = true) (hy : okS y = true) : cmpD .lt (.str x) (.str y) = some (D.lt (.str x) (.str y)) := by
  unfold cmpD
  dsimp only
  rw [plain_str hx, plain_str hy]
  rfl
theorem lt_lns {p q : Ln} (h1 : okS p.1 = true) (h2 : okS p.2 = true) (h3 : okS q.1 = true) (h4 : okS q.2 = true) : cmpD .lt (ln p) (ln q) = some (D.lt (ln p) (ln q)) := by
  have e : D.alike (ln p) (ln q) = true := rfl
  unfold cmpD
  dsimp only
  rw [plain_ln (n := 11) h1 h2, plain_ln (n := 11) h3 h4, e]
  rfl
theorem mSpot_str {x : Str} : mSpot (sp.map D.str) (.str x) = decide (x ∈ sp) := by
  unfold mSpot
  exact mem_str
theorem mLaneOf_ln {p : Ln} : mLaneOf (sp.map D.str) (ln p) = (decide (p.1 ∈ sp) && decide (p.2 ∈ sp) && !(p.1 == p.2)) := by
  unfold mLaneOf ln
  dsimp only
  rw [mSpot_str, mSpot_str, eqv_str]
theorem rise_sps (y : Yd sp ls) : riseB (sp.map D.str) = true := by
  obtain ⟨n, h1, h2, rfl⟩ := y.pre
  have : ∀ n, n ≤ 5 → riseB ((Mi.five.take n).map D.str) = true := by
    intro n hn
    match n, hn with
    | 0, _ => rfl
    | 1, _ => rfl
    | 2, _ => rfl
    | 3, _ => rfl
    | 4, _ => rfl
    | 5, _ => rfl
  exact this n h2
theorem all_true {α : Type} {xs : List α} : (xs.all fun _ => true) = true := List.all_eq_true.mpr fun _ _ => rfl
/-- is_yard of a yard -/
theorem is_yard_ok (hf : P.fns[ix]? = some (F_is_yard i1 i2 i3)) (hw : P.fns[i1]? = some F_is_word) (hr : P.fns[i2]? = some F_rise) (hl : P.fns[i3]? = some (F_is_lane_of i4)) (hs : P.fns[i4]? = some F_is_spot) (y : Yd sp ls) :
    Does P 3 ix [.p (yd sp ls)] (.ok (.d (.bl true))) [.p (yd sp ls)] := by
  refine does_of hf fun j hj => ?_
  have l1 : ((sp.map D.str).length : Int) = sp.length := by simp
  have l2 : ((ls.map ln).length : Int) = ls.length := by simp
  obtain ⟨a1, a2⟩ := y.spl
  obtain ⟨b1, b2⟩ := y.len
  have word : ∀ x ∈ sp, calN P j i1 [.p (.str x)] = some (.ok (.d (.bl true)), [.p (.str x)]) := fun x hx => is_word_ok hw (y.five x hx) j (by omega)
  have lane : ∀ p ∈ ls, calN P j i3 [.p (.tup (sp.map D.str)), .p (ln p)] = some (.ok (.d (.bl true)), [.p (.tup (sp.map D.str)), .p (ln p)]) := fun p hp => by
    have := is_lane_of_ok hl hs (plain_sps y) (y.lnp p hp (n := 11)) j (by omega)
    rw [mLaneOf_ln] at this
    obtain ⟨e1, e2, e3⟩ := y.ends p hp
    have e4 : (p.1 == p.2) = false := beq_eq_false_iff_ne.mpr e3
    simpa [e1, e2, e4] using this
  have r1 : calN P j i2 [.p (.tup (sp.map D.str))] = some (.ok (.d (.bl true)), [.p (.tup (sp.map D.str))]) := by
    have := rise_ok (rows := sp.map D.str) hr (plains_iff.mp (plain_sps y)) (by simp [big]; omega) (fun x hx z hz => by
      obtain ⟨x', hx', rfl⟩ := List.mem_map.mp hx
      obtain ⟨z', hz', rfl⟩ := List.mem_map.mp hz
      exact lt_strs (y.okS _ hx') (y.okS _ hz')) j (by omega)
    rw [rise_sps y] at this
    exact this
  have r2 : calN P j i2 [.p (.tup (ls.map ln))] = some (.ok (.d (.bl true)), [.p (.tup (ls.map ln))]) := by
    have := rise_ok (rows := ls.map ln) hr (plains_iff.mp (plain_lns y (n := 11))) (by simp [big]; omega) (fun x hx z hz => by
      obtain ⟨x', hx', rfl⟩ := List.mem_map.mp hx
      obtain ⟨z', hz', rfl⟩ := List.mem_map.mp hz
      exact lt_lns (y.okS _ (y.ends _ hx').1) (y.okS _ (y.ends _ hx').2.1) (y.okS _ (y.ends _ hz').1) (y.okS _ (y.ends _ hz').2.1)) j (by omega)
    rw [riseB_of (List.pairwise_map.mpr y.rise)] at this
    exact this
  have c1 : evE (Cx0 P j) (.bi .all (.cons (.cmp1 false (.call i1 (.cons (.var 3) .nil)) (.n 3) (.seq (.var 1)) (.bl true) [3]) .nil)) [.p (yd sp ls), .p (.tup (sp.map D.str)), .p (.tup (ls.map ln)), .x] = some (.ok (.d (.bl true)) [.p (yd sp ls), .p (.tup (sp.map D.str)), .p (.tup (ls.map ln)), .x]) := by
    have := all_pure (C := Cx0 P j) (ρ := [.p (yd sp ls), .p (.tup (sp.map D.str)), .p (.tup (ls.map ln)), .x]) (hf := false) (el := .call i1 (.cons (.var 3) .nil)) (it := .seq (.var 1)) (o := 3) (kw := (0, [.s 1])) (xs := sp.map D.str) (g := fun _ => true) (by simp [runFn, es_pass, es_seq, es_fin, es_asg, es_asgT, es_ex, es_ifs, es_rais, es_ret, es_par, es_setI, et, ev_var, ev_non, ev_bl, ev_int, ev_str, ev_gi, ev_gs, ev_tup, ev_lst, ev_bin, ev_not, ev_and, ev_or, ev_cmp, ev_chn, ev_ife, ev_sub, ev_slf, ev_slt, ev_call, ev_bi, ev_sset, ev_rev, ev_neg, ev_isi, ev_nil, ev_cons, ev_seq, ev_rng1, ev_zip, R.bind, look, looks, Slot.dat?, Cn.dat, exOf, W.fz, esc, escs, stored, put, lend, giveBack, Slot.free]) (by simp [walked, runFn, es_pass, es_seq, es_fin, es_asg, es_asgT, es_ex, es_ifs, es_rais, es_ret, es_par, es_setI, et, ev_var, ev_non, ev_bl, ev_int, ev_str, ev_gi, ev_gs, ev_tup, ev_lst, ev_bin, ev_not, ev_and, ev_or, ev_cmp, ev_chn, ev_ife, ev_sub, ev_slf, ev_slt, ev_call, ev_bi, ev_sset, ev_rev, ev_neg, ev_isi, ev_nil, ev_cons, ev_seq, ev_rng1, ev_zip, R.bind, look, looks, Slot.dat?, Cn.dat, exOf, W.fz, esc, escs, stored, put, lend, giveBack, Slot.free, wkD, wk0, itemsI]) (by simp [freeIx, Slot.free]) rfl (by simp [big]; omega) (fun x hx => by
      obtain ⟨z, hz, rfl⟩ := List.mem_map.mp hx
      simp [runFn, es_pass, es_seq, es_fin, es_asg, es_asgT, es_ex, es_ifs, es_rais, es_ret, es_par, es_setI, et, ev_var, ev_non, ev_bl, ev_int, ev_str, ev_gi, ev_gs, ev_tup, ev_lst, ev_bin, ev_not, ev_and, ev_or, ev_cmp, ev_chn, ev_ife, ev_sub, ev_slf, ev_slt, ev_call, ev_bi, ev_sset, ev_rev, ev_neg, ev_isi, ev_nil, ev_cons, ev_seq, ev_rng1, ev_zip, R.bind, look, looks, Slot.dat?, Cn.dat, exOf, W.fz, esc, escs, stored, put, lend, giveBack, Slot.free, word z hz])
    rw [all_true] at this
    exact this
  have c2 : evE (Cx0 P j) (.bi .all (.cons (.cmp1 false (.call i3 (.cons (.var 1) (.cons (.var 3) .nil))) (.n 3) (.seq (.var 2)) (.bl true) [3]) .nil)) [.p (yd sp ls), .p (.tup (sp.map D.str)), .p (.tup (ls.map ln)), .x] = some (.ok (.d (.bl true)) [.p (yd sp ls), .p (.tup (sp.map D.str)), .p (.tup (ls.map ln)), .x]) := by
    have := all_pure (C := Cx0 P j) (ρ := [.p (yd sp ls), .p (.tup (sp.map D.str)), .p (.tup (ls.map ln)), .x]) (hf := false) (el := .call i3 (.cons (.var 1) (.cons (.var 3) .nil))) (it := .seq (.var 2)) (o := 3) (kw := (0, [.s 2])) (xs := ls.map ln) (g := fun _ => true) (by simp [runFn, es_pass, es_seq, es_fin, es_asg, es_asgT, es_ex, es_ifs, es_rais, es_ret, es_par, es_setI, et, ev_var, ev_non, ev_bl, ev_int, ev_str, ev_gi, ev_gs, ev_tup, ev_lst, ev_bin, ev_not, ev_and, ev_or, ev_cmp, ev_chn, ev_ife, ev_sub, ev_slf, ev_slt, ev_call, ev_bi, ev_sset, ev_rev, ev_neg, ev_isi, ev_nil, ev_cons, ev_seq, ev_rng1, ev_zip, R.bind, look, looks, Slot.dat?, Cn.dat, exOf, W.fz, esc, escs, stored, put, lend, giveBack, Slot.free]) (by simp [walked, runFn, es_pass, es_seq, es_fin, es_asg, es_asgT, es_ex, es_ifs, es_rais, es_ret, es_par, es_setI, et, ev_var, ev_non, ev_bl, ev_int, ev_str, ev_gi, ev_gs, ev_tup, ev_lst, ev_bin, ev_not, ev_and, ev_or, ev_cmp, ev_chn, ev_ife, ev_sub, ev_slf, ev_slt, ev_call, ev_bi, ev_sset, ev_rev, ev_neg, ev_isi, ev_nil, ev_cons, ev_seq, ev_rng1, ev_zip, R.bind, look, looks, Slot.dat?, Cn.dat, exOf, W.fz, esc, escs, stored, put, lend, giveBack, Slot.free, wkD, wk0, itemsI]) (by simp [freeIx, Slot.free]) rfl (by simp [big]; omega) (fun x hx => by
      obtain ⟨z, hz, rfl⟩ := List.mem_map.mp hx
      simp [runFn, es_pass, es_seq, es_fin, es_asg, es_asgT, es_ex, es_ifs, es_rais, es_ret, es_par, es_setI, et, ev_var, ev_non, ev_bl, ev_int, ev_str, ev_gi, ev_gs, ev_tup, ev_lst, ev_bin, ev_not, ev_and, ev_or, ev_cmp, ev_chn, ev_ife, ev_sub, ev_slf, ev_slt, ev_call, ev_bi, ev_sset, ev_rev, ev_neg, ev_isi, ev_nil, ev_cons, ev_seq, ev_rng1, ev_zip, R.bind, look, looks, Slot.dat?, Cn.dat, exOf, W.fz, esc, escs, stored, put, lend, giveBack, Slot.free, lane z hz])
    rw [all_true] at this
    exact this
  have n1 : ((2 : Int) == 2) = true := rfl
  have d1 : decide ((2 : Int) ≤ (sp.length : Int)) = true := by simp; omega
  have d2 : decide ((sp.length : Int) ≤ 5) = true := by simp; omega
  have d3 : decide ((1 : Int) ≤ (ls.length : Int)) = true := by simp; omega
  have d4 : decide ((ls.length : Int) ≤ 8) = true := by simp; omega
  unfold yd at c1 c2 ⊢
  simp [F_is_yard, runFn, es_pass, es_seq, es_fin, es_asg, es_asgT, es_ex, es_ifs, es_rais, es_ret, es_par, es_setI, et, ev_var, ev_non, ev_bl, ev_int, ev_str, ev_gi, ev_gs, ev_tup, ev_lst, ev_bin, ev_not, ev_and, ev_or, ev_cmp, ev_chn, ev_ife, ev_sub, ev_slf, ev_slt, ev_call, ev_bi, ev_sset, ev_rev, ev_neg, ev_isi, ev_nil, ev_cons, ev_seq, ev_rng1, ev_zip, R.bind, look, looks, Slot.dat?, Cn.dat, exOf, W.fz, esc, escs, stored, put, lend, giveBack, Slot.free, isiD, cmpD, biD, biLen, D.plain, D.eqv, asT, asTs, c1, c2, r1, r2, d1, d2, d3, d4]
theorem need_yard_ok (hf : P.fns[ix]? = some (F_need_yard i5)) (h5 : P.fns[i5]? = some (F_is_yard i1 i2 i3)) (hw : P.fns[i1]? = some F_is_word) (hr : P.fns[i2]? = some F_rise) (hl : P.fns[i3]? = some (F_is_lane_of i4)) (hs : P.fns[i4]? = some F_is_spot) (y : Yd sp ls) :
    Does P 4 ix [.p (yd sp ls)] (.ok (.d .non)) [.p (yd sp ls)] := by
  refine does_of hf fun j hj => ?_
  have := is_yard_ok h5 hw hr hl hs y j hj
  simp [F_need_yard, runFn, es_pass, es_seq, es_fin, es_asg, es_asgT, es_ex, es_ifs, es_rais, es_ret, es_par, es_setI, et, ev_var, ev_non, ev_bl, ev_int, ev_str, ev_gi, ev_gs, ev_tup, ev_lst, ev_bin, ev_not, ev_and, ev_or, ev_cmp, ev_chn, ev_ife, ev_sub, ev_slf, ev_slt, ev_call, ev_bi, ev_sset, ev_rev, ev_neg, ev_isi, ev_nil, ev_cons, ev_seq, ev_rng1, ev_zip, R.bind, look, looks, Slot.dat?, Cn.dat, exOf, W.fz, esc, escs, stored, put, lend, giveBack, Slot.free, this]
/-- is_lane, of anything -/
def mLane (sp : List Str) (ls : List Ln) (t : D) : Bool := mLaneOf (sp.map D.str) t && mem t (ls.map ln)
theorem is_lane_ok {t : D} (hf : P.fns[ix]? = some (F_is_lane i3)) (hl : P.fns[i3]? = some (F_is_lane_of i4)) (hs : P.fns[i4]? = some F_is_spot) (y : Yd sp ls) (ht : t.plain lvl = true) : Does P 3 ix [.p (yd sp ls), .p t] (.ok (.d (.bl (mLane sp ls t)))) [.p (yd sp ls), .p t] := by
  refine does_of hf fun j hj => ?_
  have h1 := is_lane_of_ok hl hs (plain_sps y) ht j hj
  have h2 := plain_lns y (n := 11)
  unfold mLane yd
  cases e : mLaneOf (sp.map D.str) t with
  | false =>
    rw [e] at h1
    simp [F_is_lane, runFn, es_pass, es_seq, es_fin, es_asg, es_asgT, es_ex, es_ifs, es_rais, es_ret, es_par, es_setI, et, ev_var, ev_non, ev_bl, ev_int, ev_str, ev_gi, ev_gs, ev_tup, ev_lst, ev_bin, ev_not, ev_and, ev_or, ev_cmp, ev_chn, ev_ife, ev_sub, ev_slf, ev_slt, ev_call, ev_bi, ev_sset, ev_rev, ev_neg, ev_isi, ev_nil, ev_cons, ev_seq, ev_rng1, ev_zip, R.bind, look, looks, Slot.dat?, Cn.dat, exOf, W.fz, esc, escs, stored, put, lend, giveBack, Slot.free, subD, at?, ixOf, h1]
  | true =>
    rw [e] at h1
    cases t with
    | tup ds => simp [F_is_lane, runFn, es_pass, es_seq, es_fin, es_asg, es_asgT, es_ex, es_ifs, es_rais, es_ret, es_par, es_setI, et, ev_var, ev_non, ev_bl, ev_int, ev_str, ev_gi, ev_gs, ev_tup, ev_lst, ev_bin, ev_not, ev_and, ev_or, ev_cmp, ev_chn, ev_ife, ev_sub, ev_slf, ev_slt, ev_call, ev_bi, ev_sset, ev_rev, ev_neg, ev_isi, ev_nil, ev_cons, ev_seq, ev_rng1, ev_zip, R.bind, look, looks, Slot.dat?, Cn.dat, exOf, W.fz, esc, escs, stored, put, lend, giveBack, Slot.free, subD, at?, ixOf, h1, cmpD, ht, h2]
    | _ => simp [mLaneOf] at e
/-- prints that are good: some of the yard's lanes, rising -/
structure Pr (ls ps : List Ln) : Prop where
  sub : ∀ p ∈ ps, p ∈ ls
  rise : ps.Pairwise fun p q => D.lt (ln p) (ln q) = true
  len : ps.length ≤ 8
def pr (ps : List Ln) : D := .tup (ps.map ln)
theorem mLane_ln (y : Yd sp ls) {p : Ln} (h : p ∈ ls) : mLane sp ls (ln p) = true := by
  unfold mLane
  rw [mLaneOf_ln, mem_ln]
  obtain ⟨e1, e2, e3⟩ := y.ends p h
  have e4 : (p.1 == p.2) = false := beq_eq_false_iff_ne.mpr e3
  simp [e1, e2, e4, h]
theorem Pr.plains (y : Yd sp ls) (q : Pr ls ps) {n : Nat} : D.plains (n + 1) (ps.map ln) = true := plains_of fun x hx => by
  obtain ⟨z, hz, rfl⟩ := List.mem_map.mp hx
  exact y.lnp z (q.sub z hz)
theorem good_prints_ok (hf : P.fns[ix]? = some (F_are_good_prints i6 i2)) (h6 : P.fns[i6]? = some (F_is_lane i3)) (hr : P.fns[i2]? = some F_rise) (hl : P.fns[i3]? = some (F_is_lane_of i4)) (hs : P.fns[i4]? = some F_is_spot) (y : Yd sp ls) (q : Pr ls ps) :
    Does P 4 ix [.p (yd sp ls), .p (pr ps)] (.ok (.d (.bl true))) [.p (yd sp ls), .p (pr ps)] := by
  refine does_of hf fun j hj => ?_
  have b := q.len
  have lane : ∀ p ∈ ps, calN P j i6 [.p (yd sp ls), .p (ln p)] = some (.ok (.d (.bl true)), [.p (yd sp ls), .p (ln p)]) := fun p hp => by
    have := is_lane_ok h6 hl hs y (y.lnp p (q.sub p hp) (n := 11)) j (by omega)
    rw [mLane_ln y (q.sub p hp)] at this
    exact this
  have r2 : calN P j i2 [.p (.tup (ps.map ln))] = some (.ok (.d (.bl true)), [.p (.tup (ps.map ln))]) := by
    have := rise_ok (rows := ps.map ln) hr (plains_iff.mp (q.plains y (n := 11))) (by simp [big]; omega) (fun x hx z hz => by
      obtain ⟨x', hx', rfl⟩ := List.mem_map.mp hx
      obtain ⟨z', hz', rfl⟩ := List.mem_map.mp hz
      have a1 := y.ends _ (q.sub _ hx')
      have a2 := y.ends _ (q.sub _ hz')
      exact lt_lns (y.okS _ a1.1) (y.okS _ a1.2.1) (y.okS _ a2.1) (y.okS _ a2.2.1)) j (by omega)
    rw [riseB_of (List.pairwise_map.mpr q.rise)] at this
    exact this
  have c1 : evE (Cx0 P j) (.bi .all (.cons (.cmp1 false (.call i6 (.cons (.var 0) (.cons (.var 2) .nil))) (.n 2) (.seq (.var 1)) (.bl true) [2]) .nil)) [.p (yd sp ls), .p (pr ps), .x] = some (.ok (.d (.bl true)) [.p (yd sp ls), .p (pr ps), .x]) := by
    have := all_pure (C := Cx0 P j) (ρ := [.p (yd sp ls), .p (pr ps), .x]) (hf := false) (el := .call i6 (.cons (.var 0) (.cons (.var 2) .nil))) (it := .seq (.var 1)) (o := 2) (kw := (0, [.s 1])) (xs := ps.map ln) (g := fun _ => true) (by simp [runFn, es_pass, es_seq, es_fin, es_asg, es_asgT, es_ex, es_ifs, es_rais, es_ret, es_par, es_setI, et, ev_var, ev_non, ev_bl, ev_int, ev_str, ev_gi, ev_gs, ev_tup, ev_lst, ev_bin, ev_not, ev_and, ev_or, ev_cmp, ev_chn, ev_ife, ev_sub, ev_slf, ev_slt, ev_call, ev_bi, ev_sset, ev_rev, ev_neg, ev_isi, ev_nil, ev_cons, ev_seq, ev_rng1, ev_zip, R.bind, look, looks, Slot.dat?, Cn.dat, exOf, W.fz, esc, escs, stored, put, lend, giveBack, Slot.free]) (by simp [walked, runFn, es_pass, es_seq, es_fin, es_asg, es_asgT, es_ex, es_ifs, es_rais, es_ret, es_par, es_setI, et, ev_var, ev_non, ev_bl, ev_int, ev_str, ev_gi, ev_gs, ev_tup, ev_lst, ev_bin, ev_not, ev_and, ev_or, ev_cmp, ev_chn, ev_ife, ev_sub, ev_slf, ev_slt, ev_call, ev_bi, ev_sset, ev_rev, ev_neg, ev_isi, ev_nil, ev_cons, ev_seq, ev_rng1, ev_zip, R.bind, look, looks, Slot.dat?, Cn.dat, exOf, W.fz, esc, escs, stored, put, lend, giveBack, Slot.free, wkD, wk0, itemsI, pr]) (by simp [freeIx, Slot.free]) rfl (by simp [big]; omega) (fun x hx => by
      obtain ⟨z, hz, rfl⟩ := List.mem_map.mp hx
      simp [runFn, es_pass, es_seq, es_fin, es_asg, es_asgT, es_ex, es_ifs, es_rais, es_ret, es_par, es_setI, et, ev_var, ev_non, ev_bl, ev_int, ev_str, ev_gi, ev_gs, ev_tup, ev_lst, ev_bin, ev_not, ev_and, ev_or, ev_cmp, ev_chn, ev_ife, ev_sub, ev_slf, ev_slt, ev_call, ev_bi, ev_sset, ev_rev, ev_neg, ev_isi, ev_nil, ev_cons, ev_seq, ev_rng1, ev_zip, R.bind, look, looks, Slot.dat?, Cn.dat, exOf, W.fz, esc, escs, stored, put, lend, giveBack, Slot.free, lane z hz])
    rw [all_true] at this
    exact this
  unfold pr at c1 ⊢
  simp [F_are_good_prints, runFn, es_pass, es_seq, es_fin, es_asg, es_asgT, es_ex, es_ifs, es_rais, es_ret, es_par, es_setI, et, ev_var, ev_non, ev_bl, ev_int, ev_str, ev_gi, ev_gs, ev_tup, ev_lst, ev_bin, ev_not, ev_and, ev_or, ev_cmp, ev_chn, ev_ife, ev_sub, ev_slf, ev_slt, ev_call, ev_bi, ev_sset, ev_rev, ev_neg, ev_isi, ev_nil, ev_cons, ev_seq, ev_rng1, ev_zip, R.bind, look, looks, Slot.dat?, Cn.dat, exOf, W.fz, esc, escs, stored, put, lend, giveBack, Slot.free, isiD, c1, r2]
theorem need_prints_ok (hf : P.fns[ix]? = some (F_need_prints i7 k)) (h7 : P.fns[i7]? = some (F_need_yard i5)) (h5 : P.fns[i5]? = some (F_is_yard i1 i2 i3)) (hw : P.fns[i1]? = some F_is_word) (hk : P.fns[k]? = some (F_are_good_prints i6 i2)) (h6 : P.fns[i6]? = some (F_is_lane i3)) (hr : P.fns[i2]? = some F_rise) (hl : P.fns[i3]? = some (F_is_lane_of i4)) (hs : P.fns[i4]? = some F_is_spot) (y : Yd sp ls) (q : Pr ls ps) :
    Does P 5 ix [.p (yd sp ls), .p (pr ps)] (.ok (.d .non)) [.p (yd sp ls), .p (pr ps)] := by
  refine does_of hf fun j hj => ?_
  have e1 := need_yard_ok h7 h5 hw hr hl hs y j hj
  have e2 := good_prints_ok hk h6 hr hl hs y q j hj
  simp [F_need_prints, runFn, es_pass, es_seq, es_fin, es_asg, es_asgT, es_ex, es_ifs, es_rais, es_ret, es_par, es_setI, et, ev_var, ev_non, ev_bl, ev_int, ev_str, ev_gi, ev_gs, ev_tup, ev_lst, ev_bin, ev_not, ev_and, ev_or, ev_cmp, ev_chn, ev_ife, ev_sub, ev_slf, ev_slt, ev_call, ev_bi, ev_sset, ev_rev, ev_neg, ev_isi, ev_nil, ev_cons, ev_seq, ev_rng1, ev_zip, R.bind, look, looks, Slot.dat?, Cn.dat, exOf, W.fz, esc, escs, stored, put, lend, giveBack, Slot.free, e1, e2]
/-- what is no tuple is none -/
theorem need_prints_no {t : D} (ht : ∀ ds, t ≠ .tup ds) (hp : t.plain lvl = true) (hf : P.fns[ix]? = some (F_need_prints i7 k)) (h7 : P.fns[i7]? = some (F_need_yard i5)) (h5 : P.fns[i5]? = some (F_is_yard i1 i2 i3)) (hw : P.fns[i1]? = some F_is_word) (hk : P.fns[k]? = some (F_are_good_prints i6 i2)) (hr : P.fns[i2]? = some F_rise) (hl : P.fns[i3]? = some (F_is_lane_of i4)) (hs : P.fns[i4]? = some F_is_spot) (y : Yd sp ls) :
    Does P 5 ix [.p (yd sp ls), .p t] (.error 2) [.p (yd sp ls), .p t] := by
  refine does_of hf fun j hj => ?_
  have e1 := need_yard_ok h7 h5 hw hr hl hs y j hj
  have e2 : calN P j k [.p (yd sp ls), .p t] = some (.ok (.d (.bl false)), [.p (yd sp ls), .p t]) := by
    refine does_of (k := 0) hk (fun j _ => ?_) j (by omega)
    cases t with
    | tup ds => exact absurd rfl (ht ds)
    | dct _ => simp [D.plain] at hp
    | set _ => simp [D.plain] at hp
    | exc _ => simp [D.plain] at hp
    | _ => simp [F_are_good_prints, runFn, es_pass, es_seq, es_fin, es_asg, es_asgT, es_ex, es_ifs, es_rais, es_ret, es_par, es_setI, et, ev_var, ev_non, ev_bl, ev_int, ev_str, ev_gi, ev_gs, ev_tup, ev_lst, ev_bin, ev_not, ev_and, ev_or, ev_cmp, ev_chn, ev_ife, ev_sub, ev_slf, ev_slt, ev_call, ev_bi, ev_sset, ev_rev, ev_neg, ev_isi, ev_nil, ev_cons, ev_seq, ev_rng1, ev_zip, R.bind, look, looks, Slot.dat?, Cn.dat, exOf, W.fz, esc, escs, stored, put, lend, giveBack, Slot.free, isiD]
  simp [F_need_prints, runFn, es_pass, es_seq, es_fin, es_asg, es_asgT, es_ex, es_ifs, es_rais, es_ret, es_par, es_setI, et, ev_var, ev_non, ev_bl, ev_int, ev_str, ev_gi, ev_gs, ev_tup, ev_lst, ev_bin, ev_not, ev_and, ev_or, ev_cmp, ev_chn, ev_ife, ev_sub, ev_slf, ev_slt, ev_call, ev_bi, ev_sset, ev_rev, ev_neg, ev_isi, ev_nil, ev_cons, ev_seq, ev_rng1, ev_zip, R.bind, look, looks, Slot.dat?, Cn.dat, exOf, W.fz, esc, escs, stored, put, lend, giveBack, Slot.free, e1, e2]
end
end Mi
set_option Elab.async false
set_option linter.all false
set_option maxRecDepth 100000
set_option maxHeartbeats 4000000
/-! MkE: the dice. -/
namespace Mi
open PySem
def topE : Nat := 1048700
/-- a pair of dice that is good for m more rolls -/
def Dk (m : Nat) (a b : Int) : Prop := a.natAbs < 2 ^ topE ∧ 0 ≤ b ∧ b + m ≤ 1000000000
theorem Dk.le {m m' : Nat} {a b : Int} (h : Dk m a b) (hm : m' ≤ m) : Dk m' a b := ⟨h.1, h.2.1, by have := h.2.2; omega⟩
theorem log_lt {x e : Nat} (h : x < 2 ^ e) : x.log2 ≤ e := by
  by_cases z : x = 0
  · subst z; simp
  · exact Nat.le_of_lt ((Nat.log2_lt z).mpr h)
theorem log_of {x : Int} {e : Nat} (h0 : 0 ≤ x) (h : x < 2 ^ e) : x.natAbs.log2 ≤ e := log_lt (by
  have : ((x.natAbs : Nat) : Int) < ((2 ^ e : Nat) : Int) := by rw [Int.natAbs_of_nonneg h0, Int.natCast_pow]; exact h
  exact Int.ofNat_lt.mp this)
theorem bmul {i j : Int} {e f : Nat} (h1 : i.natAbs.log2 ≤ e) (h2 : j.natAbs.log2 ≤ f) (h : e + f < 100000000) : bin .mul (.int i) (.int j) = some (.d (.int (i * j))) := by
  unfold bin intMul
  dsimp only
  rw [if_pos (by omega)]
  rfl
theorem bmod {i j : Int} (h : 0 < j) : bin .mod (.int i) (.int j) = some (.d (.int (i % j))) := if_pos h
theorem bdiv {i j : Int} (h : 0 < j) (h2 : j < 2 ^ 80) : bin .fdiv (.int i) (.int j) = some (.d (.int (i / j))) := if_pos ⟨h, h2⟩
theorem badd {i j : Int} : bin .add (.int i) (.int j) = some (.d (.int (i + j))) := rfl
theorem bsub {i j : Int} : bin .sub (.int i) (.int j) = some (.d (.int (i - j))) := rfl
section
variable {P : Pg} {k ix i1 i2 i3 i4 i5 i6 i7 : Nat}
theorem drawn_ok {a b : Int} (hf : P.fns[ix]? = some F__law_drawn) (ha : a.natAbs < 2 ^ topE) (hb : 0 ≤ b) (hb2 : b ≤ 1000000000) : ∃ t : Int, 0 ≤ t ∧ Does P 1 ix [.p (.int a), .p (.int b)] (.ok (.d (.int t))) [.p (.int a), .p (.int b)] := by
  have hT : topE = 1048700 := rfl
  have m1 := bmul (i := a) (j := 6364136223846793005) (e := topE) (f := 63) (log_lt ha) (log_of (by decide) (by decide)) (by omega)
  have m2 := bmul (i := b + 1) (j := 1442695040888963407) (e := 31) (f := 61) (log_of (by omega) (by omega)) (log_of (by decide) (by decide)) (by omega)
  generalize e1 : (a * 6364136223846793005 + (b + 1) * 1442695040888963407) % 340282366920938463463374607431768211507 = x1
  have x1a : 0 ≤ x1 := by rw [← e1]; exact Int.emod_nonneg _ (by decide)
  have x1b : x1 < 340282366920938463463374607431768211507 := by rw [← e1]; exact Int.emod_lt_of_pos _ (by decide)
  have m3 := bmul (i := x1) (j := x1) (e := 129) (f := 129) (log_of x1a (by omega)) (log_of x1a (by omega)) (by omega)
  generalize e2 : x1 * x1 % 340282366920938463463374607431768211297 = x2
  have x2a : 0 ≤ x2 := by rw [← e2]; exact Int.emod_nonneg _ (by decide)
  have x2b : x2 < 340282366920938463463374607431768211297 := by rw [← e2]; exact Int.emod_lt_of_pos _ (by decide)
  have y1a : 0 ≤ x2 % 18446744073709551557 := Int.emod_nonneg _ (by decide)
  have y1b : x2 % 18446744073709551557 < 18446744073709551557 := Int.emod_lt_of_pos _ (by decide)
  have y2a : 0 ≤ x2 / 18446744073709551557 := Int.ediv_nonneg x2a (by decide)
  have y2b : x2 / 18446744073709551557 ≤ x2 := Int.ediv_le_self _ x2a
  have m4 := bmul (i := x2 % 18446744073709551557 + 1) (j := x2 / 18446744073709551557 + 1) (e := 65) (f := 130) (log_of (by omega) (by omega)) (log_of (by omega) (by omega)) (by omega)
  have z1 : 0 ≤ (x2 % 18446744073709551557 + 1) * (x2 / 18446744073709551557 + 1) := Int.mul_nonneg (by omega) (by omega)
  have z2 : (x2 % 18446744073709551557 + 1) * (x2 / 18446744073709551557 + 1) < 2 ^ 200 := by
    have h1 : (x2 % 18446744073709551557 + 1) * (x2 / 18446744073709551557 + 1) ≤ 18446744073709551557 * (x2 / 18446744073709551557 + 1) := Int.mul_le_mul_of_nonneg_right (by omega) (by omega)
    omega
  have m5 := bmul (i := (x2 % 18446744073709551557 + 1) * (x2 / 18446744073709551557 + 1)) (j := x2) (e := 200) (f := 129) (log_of z1 z2) (log_of x2a (by omega)) (by omega)
  have d1 := bdiv (i := x2) (j := 18446744073709551557) (by decide) (by decide)
  refine ⟨(x2 % 18446744073709551557 + 1) * (x2 / 18446744073709551557 + 1) * x2 % 340282366920938463463374607431768211507, Int.emod_nonneg _ (by decide), does_of hf fun j hj => ?_⟩
  simp [F__law_drawn, runFn, es_pass, es_seq, es_fin, es_asg, es_asgT, es_ex, es_ifs, es_rais, es_ret, es_par, es_setI, et, ev_var, ev_non, ev_bl, ev_int, ev_str, ev_gi, ev_gs, ev_tup, ev_lst, ev_bin, ev_not, ev_and, ev_or, ev_cmp, ev_chn, ev_ife, ev_sub, ev_slf, ev_slt, ev_call, ev_bi, ev_sset, ev_rev, ev_neg, ev_isi, ev_nil, ev_cons, ev_seq, ev_rng1, ev_zip, R.bind, look, looks, Slot.dat?, Cn.dat, exOf, W.fz, esc, escs, stored, put, lend, giveBack, Slot.free, m1, m2, m3, m4, m5, d1, badd, bmod (show (0 : Int) < 340282366920938463463374607431768211507 by decide), bmod (show (0 : Int) < 340282366920938463463374607431768211297 by decide), bmod (show (0 : Int) < 18446744073709551557 by decide), e1, e2]
/-- a roll: less than so many, the dice are good for one roll less -/
theorem roll_ok {m : Nat} {a b : Int} {many : Int} (hf : P.fns[ix]? = some (F__law_roll i1)) (hd : P.fns[i1]? = some F__law_drawn) (h : Dk (m + 1) a b) (h1 : 1 ≤ many) (h2 : many ≤ 1000000) :
    ∃ (t a' b' : Int), 0 ≤ t ∧ t < many ∧ Dk m a' b' ∧ Does P 2 ix [.c (.l [.int a, .int b]), .p (.int many)] (.ok (.d (.int t))) [.c (.l [.int a', .int b']), .p (.int many)] := by
  obtain ⟨ha, hb, hm⟩ := h
  by_cases c : (1000000000000000000 : Int) ≤ a
  · refine ⟨a % many, a / many, b, Int.emod_nonneg _ (by omega), Int.emod_lt_of_pos _ (by omega), ⟨?_, hb, by omega⟩, does_of hf fun j hj => ?_⟩
    · have h3 : a / many ≤ a := Int.ediv_le_self _ (by omega)
      have h4 : 0 ≤ a / many := Int.ediv_nonneg (by omega) (by omega)
      have : (a / many).natAbs ≤ a.natAbs := by omega
      exact Nat.lt_of_le_of_lt this ha
    · have d1 := bdiv (i := a) (j := many) (by omega) (by omega)
      have d2 := bmod (i := a) (j := many) (by omega)
      have d3 : bin .pow (.int 10) (.int 18) = some (.d (.int 1000000000000000000)) := rfl
      have d4 : decide ((1000000000000000000 : Int) ≤ a) = true := by simpa using c
      simp [F__law_roll, runFn, es_pass, es_seq, es_fin, es_asg, es_asgT, es_ex, es_ifs, es_rais, es_ret, es_par, es_setI, et, ev_var, ev_non, ev_bl, ev_int, ev_str, ev_gi, ev_gs, ev_tup, ev_lst, ev_bin, ev_not, ev_and, ev_or, ev_cmp, ev_chn, ev_ife, ev_sub, ev_slf, ev_slt, ev_call, ev_bi, ev_sset, ev_rev, ev_neg, ev_isi, ev_nil, ev_cons, ev_seq, ev_rng1, ev_zip, R.bind, look, looks, Slot.dat?, Cn.dat, exOf, W.fz, esc, escs, stored, put, lend, giveBack, Slot.free, subD, at?, ixOf, cmpD, d1, d2, d3, d4, c]
  · obtain ⟨t, ht, hc⟩ := drawn_ok (ix := i1) (a := a) (b := b + 1) hd ha (by omega) (by omega)
    refine ⟨t / 8 % many, a, b + 1, Int.emod_nonneg _ (by omega), Int.emod_lt_of_pos _ (by omega), ⟨ha, by omega, by omega⟩, does_of hf fun j hj => ?_⟩
    have e1 := hc j hj
    have d1 := bdiv (i := t) (j := 8) (by decide) (by decide)
    have d2 := bmod (i := t / 8) (j := many) (by omega)
    have d3 : bin .pow (.int 10) (.int 18) = some (.d (.int 1000000000000000000)) := rfl
    have d4 : decide ((1000000000000000000 : Int) ≤ a) = false := by simpa using c
    simp [F__law_roll, runFn, es_pass, es_seq, es_fin, es_asg, es_asgT, es_ex, es_ifs, es_rais, es_ret, es_par, es_setI, et, ev_var, ev_non, ev_bl, ev_int, ev_str, ev_gi, ev_gs, ev_tup, ev_lst, ev_bin, ev_not, ev_and, ev_or, ev_cmp, ev_chn, ev_ife, ev_sub, ev_slf, ev_slt, ev_call, ev_bi, ev_sset, ev_rev, ev_neg, ev_isi, ev_nil, ev_cons, ev_seq, ev_rng1, ev_zip, R.bind, look, looks, Slot.dat?, Cn.dat, exOf, W.fz, esc, escs, stored, put, lend, giveBack, Slot.free, subD, at?, ixOf, cmpD, d1, d2, d3, d4, c, badd, e1]
/-! ### the cells -/
theorem plain_ints {n : Nat} {ns : List Int} : D.plains n (ns.map D.int) = true := plains_of fun x hx => by
  obtain ⟨z, _, rfl⟩ := List.mem_map.mp hx
  cases n <;> simp [D.plain]
/-- the cell k of a script -/
def cellOf (ns : List Int) (k : Nat) : Int := if ns = [] then (k : Int) * 7919 else ns.getD (k % ns.length) 0 + ((k / ns.length : Nat) : Int) * 104729
theorem cell_ok {ns : List Int} {n : Nat} (hf : P.fns[ix]? = some F__law_cell) (hn : n ≤ 1000) (hl63 : ns.length ≤ 63) : Does P 1 ix [.p (.lst (ns.map D.int)), .p (.int n)] (.ok (.d (.int (cellOf ns n)))) [.p (.lst (ns.map D.int)), .p (.int n)] := by
  refine does_of hf fun j hj => ?_
  have hp : D.plains 11 (ns.map D.int) = true := plain_ints
  cases ns with
  | nil =>
    have m1 := bmul (i := (n : Int)) (j := 7919) (e := 12) (f := 13) (log_of (by omega) (by omega)) (log_of (by decide) (by decide)) (by omega)
    simp [F__law_cell, runFn, es_pass, es_seq, es_fin, es_asg, es_asgT, es_ex, es_ifs, es_rais, es_ret, es_par, es_setI, et, ev_var, ev_non, ev_bl, ev_int, ev_str, ev_gi, ev_gs, ev_tup, ev_lst, ev_bin, ev_not, ev_and, ev_or, ev_cmp, ev_chn, ev_ife, ev_sub, ev_slf, ev_slt, ev_call, ev_bi, ev_sset, ev_rev, ev_neg, ev_isi, ev_nil, ev_cons, ev_seq, ev_rng1, ev_zip, R.bind, look, looks, Slot.dat?, Cn.dat, exOf, W.fz, esc, escs, stored, put, lend, giveBack, Slot.free, cmpD, D.plain, D.plains, D.eqv, D.eqvs, newL, big, m1, cellOf]
  | cons z r =>
    have hl : (((z :: r).map D.int).length : Int) = (r.length : Int) + 1 := by simp
    have m1 := bmod (i := (n : Int)) (j := (r.length : Int) + 1) (by omega)
    have hlt : n % (r.length + 1) < r.length + 1 := Nat.mod_lt _ (by omega)
    have e1 : ((n : Int) % ((r.length : Int) + 1)) = ((n % (r.length + 1) : Nat) : Int) := by simp
    have e2 : ((n : Int) / ((r.length : Int) + 1)) = ((n / (r.length + 1) : Nat) : Int) := by simp
    have e3 : at? ((z :: r).map D.int) ((n : Int) % ((r.length : Int) + 1)) = some (.int ((z :: r).getD (n % (r.length + 1)) 0)) := by
      rw [e1]
      unfold at? ixOf
      rw [if_pos (by omega), if_pos (by simp; omega)]
      simp only [Option.bind_some, Int.toNat_natCast, List.getElem?_map]
      rw [List.getD_eq_getElem?_getD, List.getElem?_eq_getElem (by simp; omega)]
      rfl
    by_cases c : (r.length : Int) + 1 < 2 ^ 80
    · have d1 := bdiv (i := (n : Int)) (j := (r.length : Int) + 1) (by omega) c
      have q0 : 0 ≤ (n : Int) / ((r.length : Int) + 1) := Int.ediv_nonneg (by omega) (by omega)
      have q1 : (n : Int) / ((r.length : Int) + 1) ≤ n := Int.ediv_le_self _ (by omega)
      have hr : D.plains 11 (r.map D.int) = true := plain_ints
      have m2 := bmul (i := (n : Int) / ((r.length : Int) + 1)) (j := 104729) (e := 12) (f := 18) (log_of q0 (by omega)) (log_of (by decide) (by decide)) (by omega)
      have hp' : D.plains 11 (D.int z :: r.map D.int) = true := hp
      have e3' : at? (D.int z :: r.map D.int) ((n : Int) % ((r.length : Int) + 1)) = some (.int ((z :: r).getD (n % (r.length + 1)) 0)) := e3
      have e4 : cellOf (z :: r) n = (z :: r).getD (n % (r.length + 1)) 0 + (n : Int) / ((r.length : Int) + 1) * 104729 := by
        unfold cellOf
        rw [if_neg (by simp), e2]
        rfl
      rw [e4]
      simp only [List.map_cons] at *
      simp [F__law_cell, runFn, es_pass, es_seq, es_fin, es_asg, es_asgT, es_ex, es_ifs, es_rais, es_ret, es_par, es_setI, et, ev_var, ev_non, ev_bl, ev_int, ev_str, ev_gi, ev_gs, ev_tup, ev_lst, ev_bin, ev_not, ev_and, ev_or, ev_cmp, ev_chn, ev_ife, ev_sub, ev_slf, ev_slt, ev_call, ev_bi, ev_sset, ev_rev, ev_neg, ev_isi, ev_nil, ev_cons, ev_seq, ev_rng1, ev_zip, R.bind, look, looks, Slot.dat?, Cn.dat, exOf, W.fz, esc, escs, stored, put, lend, giveBack, Slot.free, cmpD, D.plain, D.plains, D.eqv, D.eqvs, newL, big, hr, biD, biLen, m1, subD, e3', d1, m2, badd]
    · simp at hl63; omega
end
end Mi
set_option Elab.async false
set_option linter.all false
set_option maxRecDepth 100000
set_option maxHeartbeats 4000000
/-! MkF: lanes in order; a yard that is drawn, prints that are drawn. -/
namespace Mi
open PySem
def key (p : Ln) : Nat := 5 * five.idxOf p.1 + five.idxOf p.2
theorem lt_key_all : ∀ a ∈ five, ∀ b ∈ five, ∀ c ∈ five, ∀ d ∈ five, D.lt (ln (a, b)) (ln (c, d)) = decide (key (a, b) < key (c, d)) := by decide +kernel
def Fv (p : Ln) : Prop := p.1 ∈ five ∧ p.2 ∈ five
theorem lt_key {p q : Ln} (hp : Fv p) (hq : Fv q) : D.lt (ln p) (ln q) = decide (key p < key q) := lt_key_all p.1 hp.1 p.2 hp.2 q.1 hq.1 q.2 hq.2
theorem key_inj_all : ∀ a ∈ five, ∀ b ∈ five, ∀ c ∈ five, ∀ d ∈ five, key (a, b) = key (c, d) → a = c ∧ b = d := by decide +kernel
theorem key_inj {p q : Ln} (hp : Fv p) (hq : Fv q) (h : key p = key q) : p = q := by
  obtain ⟨e1, e2⟩ := key_inj_all p.1 hp.1 p.2 hp.2 q.1 hq.1 q.2 hq.2 h
  exact Prod.ext e1 e2
def keyLe (p q : Ln) : Bool := decide (key p ≤ key q)
theorem plain_fv {p : Ln} {n : Nat} (h : Fv p) : (ln p).plain (n + 1) = true := plain_ln (okS_five h.1) (okS_five h.2)
/-- sorted lanes -/
theorem sort_lns {ls : List Ln} (hf : ∀ p ∈ ls, Fv p) (hb : ls.length ≤ big) : biSorted [.lst (ls.map ln)] = some (.m (.c (.l ((ls.mergeSort keyLe).map ln)))) := by
  have e1 : (ls.map ln).mergeSort D.leB = (ls.mergeSort keyLe).map ln := by
    refine (List.map_mergeSort (fun p hp q hq => ?_)).symm
    unfold keyLe D.leB
    rw [lt_key (hf q hq) (hf p hp)]
    by_cases c : key q < key p
    · rw [decide_eq_true c, decide_eq_false (by omega)]; rfl
    · rw [decide_eq_false c, decide_eq_true (by omega)]; rfl
  have e2 : sortOk (ls.map ln) = true := by
    unfold sortOk allAlike
    have a1 : ((ls.map ln).all fun x => x.plain lvl && (ls.map ln).all fun y => x.alike y) = true := by
      rw [List.all_eq_true]
      intro x hx
      obtain ⟨p, hp, rfl⟩ := List.mem_map.mp hx
      rw [plain_fv (n := 11) (hf p hp), Bool.true_and, List.all_eq_true]
      intro y hy
      obtain ⟨q, hq, rfl⟩ := List.mem_map.mp hy
      rfl
    rw [a1, Bool.true_and, Bool.or_eq_true]
    refine .inl (List.all_eq_true.mpr fun x hx => ?_)
    obtain ⟨p, hp, rfl⟩ := List.mem_map.mp hx
    rfl
  unfold biSorted
  dsimp only
  rw [if_pos e2, e1]
  exact if_pos (by rw [List.length_map, List.length_mergeSort]; exact hb)
theorem sorted_key {ls : List Ln} : (ls.mergeSort keyLe).Pairwise fun p q => key p ≤ key q := by
  have := List.pairwise_mergeSort (le := keyLe) (fun a b c h1 h2 => by
    unfold keyLe at *
    simp only [decide_eq_true_eq] at *
    omega) (fun a b => by
    unfold keyLe
    rw [Bool.or_eq_true, decide_eq_true_eq, decide_eq_true_eq]
    omega) ls
  exact this.imp fun h => by simpa [keyLe] using h
theorem sorted_lt {ls : List Ln} (hf : ∀ p ∈ ls, Fv p) (nd : ls.Nodup) : (ls.mergeSort keyLe).Pairwise fun p q => D.lt (ln p) (ln q) = true := by
  have h1 := sorted_key (ls := ls)
  have h2 : (ls.mergeSort keyLe).Nodup := (List.mergeSort_perm ls keyLe).nodup_iff.mpr nd
  have hm : ∀ p ∈ ls.mergeSort keyLe, Fv p := fun p hp => hf p ((List.mergeSort_perm ls keyLe).mem_iff.mp hp)
  refine (List.pairwise_iff_forall_sublist.mpr fun {p q} hs => ?_)
  have hp := hm p (hs.subset (by simp))
  have hq := hm q (hs.subset (by simp))
  have a1 := List.pairwise_iff_forall_sublist.mp h1 hs
  have a2 := List.pairwise_iff_forall_sublist.mp h2 hs
  rw [lt_key hp hq, decide_eq_true_eq]
  have : key p ≠ key q := fun e => a2 (key_inj hp hq e)
  omega
/-- all lanes between the first spots, as they are laid -/
def pairs (n : Nat) : List Ln := (five.take n).flatMap fun a => ((five.take n).filter fun b => b != a).map fun b => (a, b)
theorem pairs_ok : ∀ n, 2 ≤ n → n ≤ 5 → (pairs n).Nodup ∧ pairs n ≠ [] ∧ ∀ p ∈ pairs n, p.1 ∈ five.take n ∧ p.2 ∈ five.take n ∧ p.1 ≠ p.2 := by
  intro n h1 h2
  match n, h1, h2 with
  | 2, _, _ => decide +kernel
  | 3, _, _ => decide +kernel
  | 4, _, _ => decide +kernel
  | 5, _, _ => decide +kernel
section
variable {P : Pg} {k ix i1 i2 i3 i4 i5 i6 i7 : Nat}
/-- the loop that lays all lanes -/
theorem laid_ok {C : Ctx} {d0 d1 d2 : Slot} : ∀ n, 2 ≤ n → n ≤ 5 → evS C 3 (.for_ (.n 5) (.seq (.var 3)) (.fin (.asg false 4 (.bin .add (.var 4) (.cmp1 true (.tup (.cons (.var 5) (.cons (.var 8) .nil))) (.n 8) (.seq (.var 3)) (.cmp .ne (.var 8) (.var 5)) [8]))) [5])) [d0, d1, d2, .p (.tup ((five.take n).map D.str)), .c (.l []), .x, .x, .x, .x] =
    some (.nx [d0, d1, d2, .p (.tup ((five.take n).map D.str)), .c (.l ((pairs n).map ln)), .x, .x, .x, .x]) := by
  intro n h1 h2
  match n, h1, h2 with
  | 2, _, _ => kernel_rfl
  | 3, _, _ => kernel_rfl
  | 4, _, _ => kernel_rfl
  | 5, _, _ => kernel_rfl
theorem five_take {n : Nat} (h1 : 2 ≤ n) (h2 : n ≤ 5) : slD false (.tup (five.map D.str)) (.int n) = some (.d (.tup ((five.take n).map D.str))) := by
  match n, h1, h2 with
  | 2, _, _ => kernel_rfl
  | 3, _, _ => kernel_rfl
  | 4, _, _ => kernel_rfl
  | 5, _, _ => kernel_rfl
theorem getElem_map {α β : Type} {f : α → β} {l : List α} {i : Nat} (h : i < l.length) : (l.map f)[i]? = some (f l[i]) := by rw [List.getElem?_map, List.getElem?_eq_getElem h]; rfl
/-- a lane is drawn out of what is left -/
def turnS (i1 : Nat) : S := (.fin (.ifs (.cmp .ne (.var 4) (.lst .nil)) (.ex (.mth .append (.var 6) (.cons (.mth .popAt (.var 4) (.cons (.call i1 (.cons (.var 0) (.cons (.bi .len (.cons (.var 4) .nil)) .nil))) .nil)) .nil))) .pass) [7])
theorem erase_map {α β : Type} {f : α → β} : ∀ {l : List α} {i : Nat}, (l.map f).eraseIdx i = (l.eraseIdx i).map f
  | [], _ => rfl
  | _ :: _, 0 => rfl
  | x :: l, i + 1 => by simp [erase_map]
theorem erase_perm {α : Type} : ∀ (l : List α) (t : Nat) (h : t < l.length), (l[t] :: l.eraseIdx t).Perm l
  | x :: l, 0, _ => by simp
  | x :: l, t + 1, h => by
    have := erase_perm l t (by simpa using h)
    simp only [List.getElem_cons_succ, List.eraseIdx_cons_succ]
    exact (List.Perm.swap _ _ _).trans (this.cons x)
theorem turn_ok {m : Nat} {a b : Int} {rem ls : List Ln} {s1 s2 s3 s7 : Slot} (hr : P.fns[i1]? = some (F__law_roll i2)) (hd : P.fns[i2]? = some F__law_drawn) (h : Dk (m + 1) a b) (hf : ∀ p ∈ rem, Fv p) (hb : rem.length ≤ 100) (hl : ls.length ≤ 100) :
    (rem = [] ∧ ∀ C, Cs P 2 C → evS C 3 (turnS i1) [.c (.l [.int a, .int b]), s1, s2, s3, .c (.l (rem.map ln)), .x, .c (.l (ls.map ln)), s7, .x] =
      some (.nx [.c (.l [.int a, .int b]), s1, s2, s3, .c (.l (rem.map ln)), .x, .c (.l (ls.map ln)), .x, .x])) ∨
    ∃ a' b' t, Dk m a' b' ∧ ∃ ht : t < rem.length, ∀ C, Cs P 2 C → evS C 3 (turnS i1) [.c (.l [.int a, .int b]), s1, s2, s3, .c (.l (rem.map ln)), .x, .c (.l (ls.map ln)), s7, .x] =
      some (.nx [.c (.l [.int a', .int b']), s1, s2, s3, .c (.l ((rem.eraseIdx t).map ln)), .x, .c (.l ((ls ++ [rem[t]]).map ln)), .x, .x]) := by
  cases rem with
  | nil =>
    refine .inl ⟨rfl, fun C hC => ?_⟩
    simp [turnS, runFn, es_pass, es_seq, es_fin, es_asg, es_asgT, es_ex, es_ifs, es_rais, es_ret, es_par, es_setI, et, ev_var, ev_non, ev_bl, ev_int, ev_str, ev_gi, ev_gs, ev_tup, ev_lst, ev_bin, ev_not, ev_and, ev_or, ev_cmp, ev_chn, ev_ife, ev_sub, ev_slf, ev_slt, ev_call, ev_bi, ev_sset, ev_rev, ev_neg, ev_isi, ev_nil, ev_cons, ev_seq, ev_rng1, ev_zip, R.bind, look, looks, Slot.dat?, Cn.dat, exOf, W.fz, esc, escs, stored, put, lend, giveBack, Slot.free, cmpD, D.plain, D.plains, D.eqv, D.eqvs, newL, killAll]
  | cons p r =>
    obtain ⟨t, a', b', t0, t1, hk, hc⟩ := roll_ok (ix := i1) (many := (((p :: r).length : Nat) : Int)) hr hd h (by simp; omega) (by simp at hb ⊢; omega)
    obtain ⟨tn, rfl⟩ := Int.eq_ofNat_of_zero_le t0
    have ht : tn < (p :: r).length := by omega
    have hp : D.plains 11 ((p :: r).map ln) = true := plains_of fun x hx => by
      obtain ⟨q, hq, rfl⟩ := List.mem_map.mp hx
      exact plain_fv (n := 10) (hf q hq)
    have e2 : mtL .popAt ((p :: r).map ln) [.int (tn : Int)] = some (ln (p :: r)[tn], ((p :: r).eraseIdx tn).map ln) := by
      have i1 : ixOf ((p :: r).map ln).length (tn : Int) = some tn := by
        unfold ixOf
        rw [if_pos (by omega), if_pos (by rw [List.length_map]; omega)]
        rfl
      unfold mtL mtPopAt
      dsimp only
      rw [i1]
      dsimp only
      rw [getElem_map ht]
      dsimp only
      rw [if_pos (by simp [big]; simp at hb; omega), erase_map]
    have e3 : mtL .append (ls.map ln) [ln (p :: r)[tn]] = some (.non, (ls ++ [(p :: r)[tn]]).map ln) := by
      unfold mtL mtAppend
      dsimp only
      rw [if_pos (by simp [big]; omega)]
      simp
    have e4 : cmpD .ne (.lst ((p :: r).map ln)) (.lst []) = some true := by
      unfold cmpD
      dsimp only
      have : (D.lst ((p :: r).map ln)).plain lvl = true := by simpa [D.plain] using hp
      rw [this]
      rfl
    have e5 : biLen [.lst ((p :: r).map ln)] = some (.d (.int (((p :: r).length : Nat) : Int))) := by
      unfold biLen; simp
    refine .inr ⟨a', b', tn, hk, ht, fun C hC => ?_⟩
    have e1 := Cs.cal hc (Nat.le_refl _) hC
    generalize (p :: r) = rem at *
    simp [turnS, runFn, es_pass, es_seq, es_fin, es_asg, es_asgT, es_ex, es_ifs, es_rais, es_ret, es_par, es_setI, et, ev_var, ev_non, ev_bl, ev_int, ev_str, ev_gi, ev_gs, ev_tup, ev_lst, ev_bin, ev_not, ev_and, ev_or, ev_cmp, ev_chn, ev_ife, ev_sub, ev_slf, ev_slt, ev_call, ev_bi, ev_sset, ev_rev, ev_neg, ev_isi, ev_nil, ev_cons, ev_seq, ev_rng1, ev_zip, R.bind, look, looks, Slot.dat?, Cn.dat, exOf, W.fz, esc, escs, stored, put, lend, giveBack, Slot.free, ev_mtw (m := .append) rfl, ev_mtw (m := .popAt) rfl, newL, e4, biD, e5, e1, e2, e3, killAll]
/-- a yard is drawn -/
theorem any_yard_ok {m : Nat} {a b : Int} (hf : P.fns[ix]? = some (F__law_any_yard i1)) (hr : P.fns[i1]? = some (F__law_roll i2)) (hd : P.fns[i2]? = some F__law_drawn) (h : Dk (m + 20) a b) :
    ∃ sp ls a' b', Yd sp ls ∧ Dk m a' b' ∧ Does P 3 ix [.c (.l [.int a, .int b]), .p (.int 5), .p (.int 8)] (.ok (.d (yd sp ls))) [.c (.l [.int a', .int b']), .p (.int 5), .p (.int 8)] := by
  obtain ⟨t1, a1, b1, t1a, t1b, hk1, hc1⟩ := roll_ok (ix := i1) (m := m + 19) (many := 4) hr hd h (by omega) (by omega)
  obtain ⟨n1, rfl⟩ := Int.eq_ofNat_of_zero_le t1a
  obtain ⟨t2, a2, b2, t2a, t2b, hk2, hc2⟩ := roll_ok (ix := i1) (m := m + 18) (many := 8) hr hd hk1 (by omega) (by omega)
  obtain ⟨n2, rfl⟩ := Int.eq_ofNat_of_zero_le t2a
  have hn1 : 2 ≤ 2 + n1 := by omega
  have hn2 : 2 + n1 ≤ 5 := by omega
  obtain ⟨pnd, pne, pin⟩ := pairs_ok (2 + n1) hn1 hn2
  have fvp : ∀ p ∈ pairs (2 + n1), Fv p := fun p hp => ⟨List.mem_of_mem_take (pin p hp).1, List.mem_of_mem_take (pin p hp).2.1⟩
  have plen : (pairs (2 + n1)).length ≤ 20 := by
    have : ∀ n, n ≤ 5 → (pairs n).length ≤ 20 := by decide +kernel
    exact this _ hn2
  -- the draws
  obtain ⟨ρ', hloop, rem, ls, a3, b3, hρ, hk3, hperm, hlen, hne⟩ := forL_rel (cs := Cs P 2) (f := fun C x ρ => match asT 3 (.n 7) x ρ with | some ρ => evS C 3 (turnS i1) ρ | none => none) (xs := rngL 0 1 (1 + n2)) (done := [])
    (ρ := [.c (.l [.int a2, .int b2]), .p (.int 5), .p (.int 8), .p (.tup ((five.take (2 + n1)).map D.str)), .c (.l ((pairs (2 + n1)).map ln)), .x, .c (.l []), .x, .x])
    (fun d ρ => ∃ (rem ls : List Ln) (a b : Int), ρ = [.c (.l [.int a, .int b]), .p (.int 5), .p (.int 8), .p (.tup ((five.take (2 + n1)).map D.str)), .c (.l (rem.map ln)), .x, .c (.l (ls.map ln)), .x, .x] ∧ Dk (m + (18 - d.length)) a b ∧ (ls ++ rem).Perm (pairs (2 + n1)) ∧ ls.length ≤ d.length ∧ (d ≠ [] → ls ≠ []))
    ⟨pairs (2 + n1), [], a2, b2, rfl, hk2, by simp, by simp, fun z => absurd rfl z⟩ (fun d x r ρ eq ⟨rem, ls, a, b, hρ, hk, hperm, hlen, hne⟩ => by
      subst hρ
      have hd1 : d.length + 1 ≤ 1 + n2 := by
        have := congrArg List.length eq
        have hl : ∀ n lo, (rngL lo 1 n).length = n := by intro n; induction n with
          | zero => intro lo; rfl
          | succ n ih => intro lo; simp [rngL, ih]
        rw [List.nil_append, hl] at this
        simp at this
        omega
      have mem : ∀ p ∈ rem, Fv p := fun p hp => fvp p (hperm.mem_iff.mp (by simp [hp]))
      have hl2 := hperm.length_eq
      rw [List.length_append] at hl2
      have hk' : Dk ((m + (18 - (d.length + 1))) + 1) a b := hk.le (by omega)
      rcases turn_ok (s1 := .p (.int 5)) (s2 := .p (.int 8)) (s3 := .p (.tup ((five.take (2 + n1)).map D.str))) (ls := ls) hr hd hk' mem (by omega) (by omega) with ⟨e0, hev⟩ | ⟨a', b', t, hk2', ht, hev⟩
      · refine ⟨_, fun C hC => by simp only [asT]; exact hev C hC, rem, ls, a, b, rfl, hk.le (by simp; omega), hperm, by simp; omega, fun _ => ?_⟩
        subst e0
        intro z
        subst z
        have := hperm.length_eq
        simp at this
        exact pne (List.length_eq_zero_iff.mp this.symm)
      · refine ⟨_, fun C hC => by simp only [asT]; exact hev C hC, rem.eraseIdx t, ls ++ [rem[t]], a', b', rfl, by simpa using hk2', ?_, by simp; omega, fun _ z => by simp at z⟩
        have p1 : (rem[t] :: rem.eraseIdx t).Perm rem := by
          exact erase_perm rem t ht
        have : ((ls ++ [rem[t]]) ++ rem.eraseIdx t).Perm (ls ++ rem) := by
          rw [List.append_assoc]
          exact List.Perm.append_left ls p1
        exact this.trans hperm)
  have hlr : (rngL 0 1 (1 + n2)).length = 1 + n2 := by
    have hl : ∀ n lo, (rngL lo 1 n).length = n := by intro n; induction n with
      | zero => intro lo; rfl
      | succ n ih => intro lo; simp [rngL, ih]
    exact hl _ _
  rw [List.nil_append] at hk3 hlen hne
  rw [hlr] at hk3 hlen
  have lne : ls ≠ [] := hne fun z => by rw [z] at hlr; simp at hlr; omega
  have lfv : ∀ p ∈ ls, p ∈ pairs (2 + n1) := fun p hp => hperm.mem_iff.mp (by simp [hp])
  have lnd : ls.Nodup := (List.nodup_append.mp (hperm.nodup_iff.mpr pnd)).1
  have sfv : ∀ p ∈ ls, Fv p := fun p hp => fvp p (lfv p hp)
  have sp := List.mergeSort_perm ls keyLe
  have slen : (ls.mergeSort keyLe).length = ls.length := List.length_mergeSort _
  have l1 : 1 ≤ ls.length := Nat.pos_of_ne_zero fun z => lne (List.length_eq_zero_iff.mp z)
  refine ⟨five.take (2 + n1), ls.mergeSort keyLe, a3, b3, ⟨⟨2 + n1, hn1, hn2, rfl⟩, fun p hp => pin p (lfv p (sp.mem_iff.mp hp)), sorted_lt sfv lnd, by omega⟩, hk3.le (by omega), does_cs hf fun C hC => ?_⟩
  have e1 := Cs.cal hc1 (Nat.le_refl _) hC
  have e2 := Cs.cal hc2 (Nat.le_refl _) hC
  have hsl := five_take hn1 hn2
  have hsl : slD false (.tup [.str ⟨#[98, 97, 114, 110]⟩, .str ⟨#[103, 97, 116, 101]⟩, .str ⟨#[112, 111, 110, 100]⟩, .str ⟨#[115, 104, 101, 100]⟩, .str ⟨#[119, 101, 108, 108]⟩]) (.int (2 + (n1 : Int))) = some (.d (.tup ((five.take (2 + n1)).map D.str))) := by
    have z : ((2 + n1 : Nat) : Int) = 2 + (n1 : Int) := by omega
    rw [z] at hsl
    exact hsl
  have s1 : evS C 3 (.asg true 3 (.slt (.tup (.cons (.str ⟨#[98, 97, 114, 110]⟩) (.cons (.str ⟨#[103, 97, 116, 101]⟩) (.cons (.str ⟨#[112, 111, 110, 100]⟩) (.cons (.str ⟨#[115, 104, 101, 100]⟩) (.cons (.str ⟨#[119, 101, 108, 108]⟩) .nil)))))) (.bin .add (.int 2) (.call i1 (.cons (.var 0) (.cons (.bin .sub (.var 1) (.int 1)) .nil))))))
      [.c (.l [.int a, .int b]), .p (.int 5), .p (.int 8), .x, .x, .x, .x, .x, .x] = some (.nx [.c (.l [.int a1, .int b1]), .p (.int 5), .p (.int 8), .p (.tup ((five.take (2 + n1)).map D.str)), .x, .x, .x, .x, .x]) := by
    simp [runFn, es_pass, es_seq, es_fin, es_asg, es_asgT, es_ex, es_ifs, es_rais, es_ret, es_par, es_setI, et, ev_var, ev_non, ev_bl, ev_int, ev_str, ev_gi, ev_gs, ev_tup, ev_lst, ev_bin, ev_not, ev_and, ev_or, ev_cmp, ev_chn, ev_ife, ev_sub, ev_slf, ev_slt, ev_call, ev_bi, ev_sset, ev_rev, ev_neg, ev_isi, ev_nil, ev_cons, ev_seq, ev_rng1, ev_zip, R.bind, look, looks, Slot.dat?, Cn.dat, exOf, W.fz, esc, escs, stored, put, lend, giveBack, Slot.free, newT, big, bsub, badd, e1, hsl]
  have s2 := laid_ok (C := C) (d0 := .c (.l [.int a1, .int b1])) (d1 := .p (.int 5)) (d2 := .p (.int 8)) (2 + n1) hn1 hn2
  have s3 : evS C 3 (.for_ (.n 7) (.rng1 (.bin .add (.int 1) (.call i1 (.cons (.var 0) (.cons (.var 2) .nil))))) (turnS i1))
      [.c (.l [.int a1, .int b1]), .p (.int 5), .p (.int 8), .p (.tup ((five.take (2 + n1)).map D.str)), .c (.l ((pairs (2 + n1)).map ln)), .x, .c (.l []), .x, .x] = some (.nx ρ') := by
    have hI : evI C (.rng1 (.bin .add (.int 1) (.call i1 (.cons (.var 0) (.cons (.var 2) .nil))))) [.c (.l [.int a1, .int b1]), .p (.int 5), .p (.int 8), .p (.tup ((five.take (2 + n1)).map D.str)), .c (.l ((pairs (2 + n1)).map ln)), .x, .c (.l []), .x, .x] =
        some (.ok (1, [.d (.int (1 + (n2 : Int)))]) [.c (.l [.int a2, .int b2]), .p (.int 5), .p (.int 8), .p (.tup ((five.take (2 + n1)).map D.str)), .c (.l ((pairs (2 + n1)).map ln)), .x, .c (.l []), .x, .x]) := by
      simp [runFn, es_pass, es_seq, es_fin, es_asg, es_asgT, es_ex, es_ifs, es_rais, es_ret, es_par, es_setI, et, ev_var, ev_non, ev_bl, ev_int, ev_str, ev_gi, ev_gs, ev_tup, ev_lst, ev_bin, ev_not, ev_and, ev_or, ev_cmp, ev_chn, ev_ife, ev_sub, ev_slf, ev_slt, ev_call, ev_bi, ev_sset, ev_rev, ev_neg, ev_isi, ev_nil, ev_cons, ev_seq, ev_rng1, ev_zip, R.bind, look, looks, Slot.dat?, Cn.dat, exOf, W.fz, esc, escs, stored, put, lend, giveBack, Slot.free, badd, e2]
    have hw : wkD 1 [.int (1 + (n2 : Int))] = some (rngL 0 1 (1 + n2)) := by
      have h1 : smallI (1 + (n2 : Int)) = true := by
        unfold smallI
        exact decide_eq_true (by omega)
      have h2 : (1 + (n2 : Int)).toNat = 1 + n2 := by omega
      show wk1 [.int (1 + (n2 : Int))] = _
      unfold wk1
      dsimp only
      rw [if_pos h1, h2]
    rw [ev_for, hI]
    dsimp only [escs, esc]
    rw [hw]
    exact hloop C hC
  subst hρ
  have s4 := sort_lns sfv (by simp [big]; omega)
  have hT : newT ((ls.mergeSort keyLe).map ln) = some (.d (.tup ((ls.mergeSort keyLe).map ln))) := if_pos (by rw [List.length_map, slen]; simp [big]; omega)
  unfold turnS at s3
  unfold yd
  generalize (five.take (2 + n1)).map D.str = spD at s1 s2 s3 ⊢
  generalize (ls.mergeSort keyLe).map ln = lsD at s4 hT ⊢
  have hT2 : newT [.tup spD, .tup lsD] = some (.d (.tup [.tup spD, .tup lsD])) := if_pos (by simp [big])
  simp [F__law_any_yard, runFn, es_seq, s1, es_asg, ev_lst, ev_nil, R.bind, escs, newL, stored, put, s2, s3, es_ret, ev_tup, ev_cons, ev_var, ev_bi, looks, look, Slot.dat?, Cn.dat, W.fz, biD, s4, biTuple, hT, hT2, esc]
/-- prints are drawn -/
theorem any_prints_ok {m : Nat} {a b : Int} {sp : List Str} {ls : List Ln} (hf : P.fns[ix]? = some (F__law_any_prints i1)) (hr : P.fns[i1]? = some (F__law_roll i2)) (hd : P.fns[i2]? = some F__law_drawn) (y : Yd sp ls) (h : Dk (m + 8) a b) :
    ∃ ps a' b', Pr ls ps ∧ Dk m a' b' ∧ Does P 3 ix [.c (.l [.int a, .int b]), .p (yd sp ls)] (.ok (.d (pr ps))) [.c (.l [.int a', .int b']), .p (yd sp ls)] := by
  have l8 := y.len.2
  obtain ⟨ys, ρ2, ⟨ps, a', b', e1, e2, e3, hk⟩, hev⟩ := cmp1_rel (cs := Cs P 2) (hf := true) (el := .var 2) (c := .cmp .gt (.call i1 (.cons (.var 0) (.cons (.int 3) .nil))) (.int 0)) (g := .n 2) (it := .seq (.sub (.var 1) (.int 1))) (own := [2]) (ρ := [.c (.l [.int a, .int b]), .p (yd sp ls), .x]) (ρ1 := [.c (.l [.int a, .int b]), .p (yd sp ls), .x]) (kw := (0, [.d (.tup (ls.map ln))])) (xs := ls.map ln)
    (fun d acc ρ => ∃ (ps : List Ln) (a b : Int), acc = ps.map ln ∧ ps.Sublist (ls.take d.length) ∧ ρ = [.c (.l [.int a, .int b]), .p (yd sp ls), .x] ∧ Dk (m + (8 - d.length)) a b)
    (fun C hC => by simp [runFn, es_pass, es_seq, es_fin, es_asg, es_asgT, es_ex, es_ifs, es_rais, es_ret, es_par, es_setI, et, ev_var, ev_non, ev_bl, ev_int, ev_str, ev_gi, ev_gs, ev_tup, ev_lst, ev_bin, ev_not, ev_and, ev_or, ev_cmp, ev_chn, ev_ife, ev_sub, ev_slf, ev_slt, ev_call, ev_bi, ev_sset, ev_rev, ev_neg, ev_isi, ev_nil, ev_cons, ev_seq, ev_rng1, ev_zip, R.bind, look, looks, Slot.dat?, Cn.dat, exOf, W.fz, esc, escs, stored, put, lend, giveBack, Slot.free, yd, subD, at?, ixOf]) (by simp [walked, runFn, es_pass, es_seq, es_fin, es_asg, es_asgT, es_ex, es_ifs, es_rais, es_ret, es_par, es_setI, et, ev_var, ev_non, ev_bl, ev_int, ev_str, ev_gi, ev_gs, ev_tup, ev_lst, ev_bin, ev_not, ev_and, ev_or, ev_cmp, ev_chn, ev_ife, ev_sub, ev_slf, ev_slt, ev_call, ev_bi, ev_sset, ev_rev, ev_neg, ev_isi, ev_nil, ev_cons, ev_seq, ev_rng1, ev_zip, R.bind, look, looks, Slot.dat?, Cn.dat, exOf, W.fz, esc, escs, stored, put, lend, giveBack, Slot.free, wkD, wk0, itemsI]) (by simp [big]; omega) ⟨[], a, b, rfl, by simp, by simp [killAll, freeIx], h⟩ (fun d x r acc ρ eq ⟨ps, a, b, e1, e2, e3, hk⟩ => by
      subst e1 e3
      have hl := congrArg List.length eq
      simp only [List.length_map, List.length_append, List.length_cons] at hl
      have hx : ∃ q, ls[d.length]? = some q ∧ x = ln q := by
        have : (ls.map ln)[d.length]? = some x := by rw [eq]; simp
        rw [List.getElem?_map] at this
        obtain ⟨q, hq, e⟩ := map_some this
        exact ⟨q, hq, e.symm⟩
      obtain ⟨q, hq, rfl⟩ := hx
      obtain ⟨t, a2, b2, t0, t3, hk2, hc⟩ := roll_ok (ix := i1) (m := m + (8 - (d.length + 1))) (many := 3) hr hd (hk.le (by omega)) (by omega) (by omega)
      have grow : ls.take (d.length + 1) = ls.take d.length ++ [q] := by rw [List.take_add_one, hq]; rfl
      by_cases c : 0 < t
      · have hd : decide ((0 : Int) < t) = true := by simpa using c
        refine ⟨some (ln q), [.c (.l [.int a2, .int b2]), .p (yd sp ls), .p (ln q)], fun C hC => ?_, ps ++ [q], a2, b2, by simp, ?_, by simp [killAll], by simpa using hk2⟩
        · have e := Cs.cal hc (Nat.le_refl _) hC
          simp [step0, asT, runFn, es_pass, es_seq, es_fin, es_asg, es_asgT, es_ex, es_ifs, es_rais, es_ret, es_par, es_setI, et, ev_var, ev_non, ev_bl, ev_int, ev_str, ev_gi, ev_gs, ev_tup, ev_lst, ev_bin, ev_not, ev_and, ev_or, ev_cmp, ev_chn, ev_ife, ev_sub, ev_slf, ev_slt, ev_call, ev_bi, ev_sset, ev_rev, ev_neg, ev_isi, ev_nil, ev_cons, ev_seq, ev_rng1, ev_zip, R.bind, look, looks, Slot.dat?, Cn.dat, exOf, W.fz, esc, escs, stored, put, lend, giveBack, Slot.free, e, cmpD, hd, c]
        · rw [List.length_append, List.length_singleton, grow]
          exact e2.append (List.Sublist.refl _)
      · have hd : decide ((0 : Int) < t) = false := by simpa using c
        refine ⟨none, [.c (.l [.int a2, .int b2]), .p (yd sp ls), .p (ln q)], fun C hC => ?_, ps, a2, b2, by simp, ?_, by simp [killAll], by simpa using hk2⟩
        · have e := Cs.cal hc (Nat.le_refl _) hC
          simp [step0, asT, runFn, es_pass, es_seq, es_fin, es_asg, es_asgT, es_ex, es_ifs, es_rais, es_ret, es_par, es_setI, et, ev_var, ev_non, ev_bl, ev_int, ev_str, ev_gi, ev_gs, ev_tup, ev_lst, ev_bin, ev_not, ev_and, ev_or, ev_cmp, ev_chn, ev_ife, ev_sub, ev_slf, ev_slt, ev_call, ev_bi, ev_sset, ev_rev, ev_neg, ev_isi, ev_nil, ev_cons, ev_seq, ev_rng1, ev_zip, R.bind, look, looks, Slot.dat?, Cn.dat, exOf, W.fz, esc, escs, stored, put, lend, giveBack, Slot.free, e, cmpD, hd, c]
        · rw [List.length_append, List.length_singleton, grow]
          exact e2.trans (List.sublist_append_left _ _))
  rw [List.length_map, List.take_length] at e2
  have pl : ps.length ≤ 8 := Nat.le_trans e2.length_le l8
  refine ⟨ps, a', b', ⟨fun p hp => e2.subset hp, y.rise.sublist e2, pl⟩, hk.le (by omega), does_cs hf fun C hC => ?_⟩
  have hev := hev C hC
  subst e1 e3
  have hT : newT (ps.map ln) = some (.d (.tup (ps.map ln))) := if_pos (by simp [big]; omega)
  simp [freeIx, backAll] at hev
  simp [F__law_any_prints, runFn, es_pass, es_seq, es_fin, es_asg, es_asgT, es_ex, es_ifs, es_rais, es_ret, es_par, es_setI, et, ev_var, ev_non, ev_bl, ev_int, ev_str, ev_gi, ev_gs, ev_tup, ev_lst, ev_bin, ev_not, ev_and, ev_or, ev_cmp, ev_chn, ev_ife, ev_sub, ev_slf, ev_slt, ev_call, ev_bi, ev_sset, ev_rev, ev_neg, ev_isi, ev_nil, ev_cons, ev_seq, ev_rng1, ev_zip, R.bind, look, looks, Slot.dat?, Cn.dat, exOf, W.fz, esc, escs, stored, put, lend, giveBack, Slot.free, hev, biD, biTuple, hT, pr]
end
end Mi
set_option Elab.async false
set_option linter.all false
set_option maxRecDepth 100000
set_option maxHeartbeats 4000000
/-! MkG: what is come to along prints. -/
namespace Mi
open PySem
inductive Reach (ps : List Ln) (s : Str) : Str → Prop
  | refl : Reach ps s s
  | step {x : Str} {p : Ln} : Reach ps s x → p ∈ ps → p.1 = x → Reach ps s p.2
theorem Reach.trans {ps : List Ln} {s x y : Str} (h : Reach ps s x) (h2 : Reach ps x y) : Reach ps s y := by
  induction h2 with
  | refl => exact h
  | step _ hp e ih => exact .step ih hp e
/-- one print looked at -/
def rstep (h : Str) (st : List Str × List Str) (p : Ln) : List Str × List Str := if p.1 = h ∧ p.2 ∉ st.1 then (st.1 ++ [p.2], st.2 ++ [p.2]) else st
structure RInv (ps : List Ln) (s : Str) (F Wk : List Str) (pend : Str → Ln → Prop) : Prop where
  start : s ∈ F
  nd : F.Nodup
  sub : ∀ x ∈ F, x = s ∨ ∃ p ∈ ps, p.2 = x
  wk : ∀ x ∈ Wk, x ∈ F
  snd : ∀ x ∈ F, Reach ps s x
  clo : ∀ x ∈ F, x ∉ Wk → ∀ p ∈ ps, p.1 = x → ¬ pend x p → p.2 ∈ F
theorem nodup_len {α : Type} [DecidableEq α] : ∀ {l m : List α}, l.Nodup → (∀ x ∈ l, x ∈ m) → l.length ≤ m.length
  | [], _, _, _ => by simp
  | x :: l, m, nd, h => by
    have hx : x ∈ m := h x (by simp)
    have nd' := List.nodup_cons.mp nd
    have := nodup_len (l := l) (m := m.erase x) nd'.2 fun y hy => (List.mem_erase_of_ne (fun z => nd'.1 (by rw [← z]; exact hy))).mpr (h y (by simp [hy]))
    have e := List.length_erase_of_mem hx
    have hp : 0 < m.length := List.length_pos_of_mem hx
    rw [List.length_cons]
    omega
theorem RInv.len {ps : List Ln} {s : Str} {F Wk : List Str} {pend : Str → Ln → Prop} (r : RInv ps s F Wk pend) : F.length ≤ ps.length + 1 := by
  have h : F ⊆ s :: ps.map (·.2) := fun x hx => by
    rcases r.sub x hx with rfl | ⟨p, hp, rfl⟩
    · simp
    · exact List.mem_cons_of_mem _ (List.mem_map.mpr ⟨p, hp, rfl⟩)
  have := nodup_len r.nd fun x hx => h hx
  simpa using this
theorem RInv.step {ps : List Ln} {s h : Str} {d r : List Ln} {p : Ln} {F Wk : List Str} (e : ps = d ++ p :: r) (i : RInv ps s F Wk fun x q => x = h ∧ q ∉ d) (hh : Reach ps s h) :
    RInv ps s (rstep h (F, Wk) p).1 (rstep h (F, Wk) p).2 fun x q => x = h ∧ q ∉ d ++ [p] := by
  have hp : p ∈ ps := by rw [e]; simp
  unfold rstep
  split
  · rename_i c
    obtain ⟨c1, c2⟩ := c
    have c2 : p.2 ∉ F := c2
    refine ⟨by simp [i.start], ?_, fun x hx => ?_, fun x hx => ?_, fun x hx => ?_, fun x hx hw q hq hqx hpe => ?_⟩
    · exact List.nodup_append.mpr ⟨i.nd, by simp, fun a ha b hb z => by
        have : b = p.2 := by simpa using hb
        subst this; subst z; exact c2 ha⟩
    · rcases List.mem_append.mp hx with z | z
      · exact i.sub x z
      · have : x = p.2 := by simpa using z
        exact .inr ⟨p, hp, this.symm⟩
    · rcases List.mem_append.mp hx with z | z
      · exact List.mem_append_left _ (i.wk x z)
      · exact List.mem_append_right _ z
    · rcases List.mem_append.mp hx with z | z
      · exact i.snd x z
      · have : x = p.2 := by simpa using z
        subst this
        exact .step hh hp c1
    · have hw : x ∉ Wk ++ [p.2] := hw
      rcases List.mem_append.mp hx with z | z
      · by_cases y : x = h ∧ q ∉ d
        · have : q = p := by
            by_cases z2 : q = p
            · exact z2
            · exact absurd ⟨y.1, by simp [y.2, z2]⟩ hpe
          subst this
          exact List.mem_append_right _ (by simp)
        · exact List.mem_append_left _ (i.clo x z (fun w => hw (List.mem_append_left _ w)) q hq hqx y)
      · exact absurd (List.mem_append_right Wk z) hw
  · rename_i c
    refine ⟨i.start, i.nd, i.sub, i.wk, i.snd, fun x hx hw q hq hqx hpe => ?_⟩
    by_cases y : x = h ∧ q ∉ d
    · have : q = p := by
        by_cases z2 : q = p
        · exact z2
        · exact absurd ⟨y.1, by simp [y.2, z2]⟩ hpe
      subst this
      by_cases z : q.2 ∈ F
      · exact z
      · exact absurd ⟨hqx.trans y.1, z⟩ c
    · exact i.clo x hx hw q hq hqx y
/-- so much the stack and the found ones grow alike -/
theorem rstep_grow {h : Str} {F Wk : List Str} {p : Ln} : ∃ n, (rstep h (F, Wk) p).1.length = F.length + n ∧ (rstep h (F, Wk) p).2.length = Wk.length + n := by
  unfold rstep
  split
  · exact ⟨1, by simp, by simp⟩
  · exact ⟨0, rfl, rfl⟩
section
variable {P : Pg} {k ix i1 i2 i3 i4 i5 i6 i7 : Nat} {sp : List Str} {ls ps : List Ln}
def wBody : S := .fin (.seq (.asg true 4 (.mth .pop (.var 3) .nil)) (.for_ (.t (.cons (.n 5) (.cons (.n 6) .nil))) (.seq (.var 0)) (.fin (.ifs (.and_ (.cmp .eq (.var 5) (.var 4)) (.cmp .notin (.var 6) (.var 2))) (.seq (.ex (.mth .append (.var 2) (.cons (.var 6) .nil))) (.ex (.mth .append (.var 3) (.cons (.var 6) .nil)))) .pass) [5, 6]))) [4, 5, 6]
theorem look_one {C : Ctx} {F Wk : List Str} {h : Str} {p : Ln} {s0 s1 s5 s6 : Slot} (hF : ∀ x ∈ F, okS x = true) (hh : okS h = true) (hp1 : okS p.1 = true) (hp2 : okS p.2 = true) (lF : F.length < 1000) (lW : Wk.length < 1000) :
    (match asT 2 (.t (.cons (.n 5) (.cons (.n 6) .nil))) (ln p) [s0, s1, .c (.l (F.map D.str)), .c (.l (Wk.map D.str)), .p (.str h), s5, s6] with
      | some ρ => evS C 2 (.fin (.ifs (.and_ (.cmp .eq (.var 5) (.var 4)) (.cmp .notin (.var 6) (.var 2))) (.seq (.ex (.mth .append (.var 2) (.cons (.var 6) .nil))) (.ex (.mth .append (.var 3) (.cons (.var 6) .nil)))) .pass) [5, 6]) ρ
      | none => none) = some (.nx [s0, s1, .c (.l ((rstep h (F, Wk) p).1.map D.str)), .c (.l ((rstep h (F, Wk) p).2.map D.str)), .p (.str h), .x, .x]) := by
  have c1 : cmpD .eq (.str p.1) (.str h) = some (p.1 == h) := by
    unfold cmpD; dsimp only; rw [plain_str hp1, plain_str hh, eqv_str]; rfl
  have c2 : cmpD .notin (.str p.2) (.lst (F.map D.str)) = some (!decide (p.2 ∈ F)) := by
    unfold cmpD; dsimp only
    rw [plain_str hp2, plains_of (n := lvl) (xs := F.map D.str) (fun x hx => by
      obtain ⟨z, hz, rfl⟩ := List.mem_map.mp hx
      exact plain_str (hF z hz)), mem_str]; rfl
  have a1 : mtL .append (F.map D.str) [.str p.2] = some (.non, (F ++ [p.2]).map D.str) := by
    unfold mtL mtAppend; dsimp only
    rw [if_pos (by simp [big]; omega)]; simp
  have a2 : mtL .append (Wk.map D.str) [.str p.2] = some (.non, (Wk ++ [p.2]).map D.str) := by
    unfold mtL mtAppend; dsimp only
    rw [if_pos (by simp [big]; omega)]; simp
  unfold rstep
  by_cases e1 : p.1 = h
  · have e1' : (p.1 == h) = true := beq_iff_eq.mpr e1
    by_cases e2 : p.2 ∈ F
    · have e2' : decide (p.2 ∈ F) = true := decide_eq_true e2
      rw [if_neg (fun z => z.2 e2)]
      simp [ln, asT, asTs, runFn, es_pass, es_seq, es_fin, es_asg, es_asgT, es_ex, es_ifs, es_rais, es_ret, es_par, es_setI, et, ev_var, ev_non, ev_bl, ev_int, ev_str, ev_gi, ev_gs, ev_tup, ev_lst, ev_bin, ev_not, ev_and, ev_or, ev_cmp, ev_chn, ev_ife, ev_sub, ev_slf, ev_slt, ev_call, ev_bi, ev_sset, ev_rev, ev_neg, ev_isi, ev_nil, ev_cons, ev_seq, ev_rng1, ev_zip, R.bind, look, looks, Slot.dat?, Cn.dat, exOf, W.fz, esc, escs, stored, put, lend, giveBack, Slot.free, c1, c2, e1', e2, killAll]
    · have e2' : decide (p.2 ∈ F) = false := decide_eq_false e2
      rw [if_pos ⟨e1, e2⟩]
      simp [ln, asT, asTs, runFn, es_pass, es_seq, es_fin, es_asg, es_asgT, es_ex, es_ifs, es_rais, es_ret, es_par, es_setI, et, ev_var, ev_non, ev_bl, ev_int, ev_str, ev_gi, ev_gs, ev_tup, ev_lst, ev_bin, ev_not, ev_and, ev_or, ev_cmp, ev_chn, ev_ife, ev_sub, ev_slf, ev_slt, ev_call, ev_bi, ev_sset, ev_rev, ev_neg, ev_isi, ev_nil, ev_cons, ev_seq, ev_rng1, ev_zip, R.bind, look, looks, Slot.dat?, Cn.dat, exOf, W.fz, esc, escs, stored, put, lend, giveBack, Slot.free, c1, c2, e1', e2, ev_mtw (m := .append) rfl, a1, a2, killAll]
  · have e1' : (p.1 == h) = false := beq_eq_false_iff_ne.mpr e1
    rw [if_neg (fun z => e1 z.1)]
    simp [ln, asT, asTs, runFn, es_pass, es_seq, es_fin, es_asg, es_asgT, es_ex, es_ifs, es_rais, es_ret, es_par, es_setI, et, ev_var, ev_non, ev_bl, ev_int, ev_str, ev_gi, ev_gs, ev_tup, ev_lst, ev_bin, ev_not, ev_and, ev_or, ev_cmp, ev_chn, ev_ife, ev_sub, ev_slf, ev_slt, ev_call, ev_bi, ev_sset, ev_rev, ev_neg, ev_isi, ev_nil, ev_cons, ev_seq, ev_rng1, ev_zip, R.bind, look, looks, Slot.dat?, Cn.dat, exOf, W.fz, esc, escs, stored, put, lend, giveBack, Slot.free, c1, c2, e1', killAll]
theorem take_split {α : Type} {l : List α} {n : Nat} {x : α} (h : l[n]? = some x) : l = l.take n ++ x :: l.drop (n + 1) := by
  have hl := lt_of_get h
  have e := List.getElem?_eq_getElem hl
  rw [e] at h
  cases h
  rw [List.getElem_cons_drop, List.take_append_drop]
theorem at_map {α β : Type} {f : α → β} {l : List α} {d r : List β} {x : β} (eq : l.map f = d ++ x :: r) : ∃ q, l[d.length]? = some q ∧ x = f q := by
  have : (l.map f)[d.length]? = some x := by rw [eq]; simp
  rw [List.getElem?_map] at this
  obtain ⟨q, hq, e⟩ := map_some this
  exact ⟨q, hq, e.symm⟩
theorem wBody_ok {s h : Str} {F W0 : List Str} {cs : Ctx → Prop} (hs : okS s = true) (hps : ∀ p ∈ ps, okS p.1 = true ∧ okS p.2 = true) (lp : ps.length ≤ 8) (i : RInv ps s F (W0 ++ [h]) fun _ _ => False) (lW : W0.length ≤ 100) :
    ∃ F' W', RInv ps s F' W' (fun _ _ => False) ∧ (∃ n, F'.length = F.length + n ∧ W'.length = W0.length + n) ∧ ∀ C, cs C → evS C 2 wBody [.p (pr ps), .p (.str s), .c (.l (F.map D.str)), .c (.l ((W0 ++ [h]).map D.str)), .x, .x, .x] = some (.nx [.p (pr ps), .p (.str s), .c (.l (F'.map D.str)), .c (.l (W'.map D.str)), .x, .x, .x]) := by
  have okF : ∀ {F' : List Str} {W' : List Str} {pd : Str → Ln → Prop}, RInv ps s F' W' pd → ∀ x ∈ F', okS x = true := fun {F' W' pd} i x hx => by
    rcases i.sub x hx with rfl | ⟨p, hp, rfl⟩
    · exact hs
    · exact (hps p hp).2
  have hF : h ∈ F := i.wk h (by simp)
  have hh : okS h = true := okF i h hF
  have rh : Reach ps s h := i.snd h hF
  have i0 : RInv ps s F W0 fun x q => x = h ∧ q ∉ ([] : List Ln) := ⟨i.start, i.nd, i.sub, fun x hx => i.wk x (by simp [hx]), i.snd, fun x hx hw q hq hqx hpe => i.clo x hx (fun z => by
    rcases List.mem_append.mp z with z | z
    · exact hw z
    · exact hpe ⟨by simpa using z, by simp⟩) q hq hqx (fun z => z)⟩
  obtain ⟨ρ', hl, F', W', e1, i1, n, n1, n2⟩ := forL_rel (cs := cs) (f := fun C x ρ => match asT 2 (.t (.cons (.n 5) (.cons (.n 6) .nil))) x ρ with | some ρ => evS C 2 (.fin (.ifs (.and_ (.cmp .eq (.var 5) (.var 4)) (.cmp .notin (.var 6) (.var 2))) (.seq (.ex (.mth .append (.var 2) (.cons (.var 6) .nil))) (.ex (.mth .append (.var 3) (.cons (.var 6) .nil)))) .pass) [5, 6]) ρ | none => none)
    (xs := ps.map ln) (done := []) (ρ := [.p (pr ps), .p (.str s), .c (.l (F.map D.str)), .c (.l (W0.map D.str)), .p (.str h), .x, .x])
    (fun d ρ => ∃ F' W', ρ = [.p (pr ps), .p (.str s), .c (.l (F'.map D.str)), .c (.l (W'.map D.str)), .p (.str h), .x, .x] ∧ (RInv ps s F' W' fun x q => x = h ∧ q ∉ ps.take d.length) ∧ ∃ n, F'.length = F.length + n ∧ W'.length = W0.length + n)
    ⟨F, W0, rfl, by simpa using i0, 0, rfl, rfl⟩ (fun d x r ρ eq ⟨F', W', e, i1, n, n1, n2⟩ => by
      subst e
      rw [List.nil_append] at eq
      obtain ⟨p, hp, rfl⟩ := at_map eq
      have hpm : p ∈ ps := List.mem_of_getElem? hp
      have q := hps p hpm
      have ln1 := i1.len
      refine ⟨_, fun C _ => look_one (okF i1) hh q.1 q.2 (by omega) (by omega), _, _, rfl, ?_, ?_⟩
      · have := i1.step (p := p) (take_split hp) rh
        rw [List.length_append, List.length_singleton, List.take_add_one, hp]
        exact this
      · obtain ⟨n3, g1, g2⟩ := rstep_grow (h := h) (F := F') (Wk := W') (p := p)
        exact ⟨n + n3, by omega, by omega⟩)
  rw [List.nil_append, List.length_map, List.take_length] at i1
  refine ⟨F', W', ⟨i1.start, i1.nd, i1.sub, i1.wk, i1.snd, fun x hx hw q hq hqx _ => i1.clo x hx hw q hq hqx (fun z => z.2 hq)⟩, ⟨n, n1, n2⟩, fun C hC => ?_⟩
  have hl := hl C hC
  have pop : mtL .pop ((W0 ++ [h]).map D.str) [] = some (.str h, W0.map D.str) := by
    unfold mtL mtPop
    simp
  have f1 : evS C 2 (.for_ (.t (.cons (.n 5) (.cons (.n 6) .nil))) (.seq (.var 0)) (.fin (.ifs (.and_ (.cmp .eq (.var 5) (.var 4)) (.cmp .notin (.var 6) (.var 2))) (.seq (.ex (.mth .append (.var 2) (.cons (.var 6) .nil))) (.ex (.mth .append (.var 3) (.cons (.var 6) .nil)))) .pass) [5, 6]))
      [.p (pr ps), .p (.str s), .c (.l (F.map D.str)), .c (.l (W0.map D.str)), .p (.str h), .x, .x] = some (.nx ρ') := by
    rw [ev_for, ev_seq, ev_var]
    exact hl
  subst e1
  have s4 : evS C 2 (.asg true 4 (.mth .pop (.var 3) .nil)) [.p (pr ps), .p (.str s), .c (.l (F.map D.str)), .c (.l ((W0 ++ [h]).map D.str)), .x, .x, .x] = some (.nx [.p (pr ps), .p (.str s), .c (.l (F.map D.str)), .c (.l (W0.map D.str)), .p (.str h), .x, .x]) := by
    generalize (W0 ++ [h]).map D.str = x1 at pop ⊢
    generalize W0.map D.str = x2 at pop ⊢
    simp [runFn, es_pass, es_seq, es_fin, es_asg, es_asgT, es_ex, es_ifs, es_rais, es_ret, es_par, es_setI, et, ev_var, ev_non, ev_bl, ev_int, ev_str, ev_gi, ev_gs, ev_tup, ev_lst, ev_bin, ev_not, ev_and, ev_or, ev_cmp, ev_chn, ev_ife, ev_sub, ev_slf, ev_slt, ev_call, ev_bi, ev_sset, ev_rev, ev_neg, ev_isi, ev_nil, ev_cons, ev_seq, ev_rng1, ev_zip, R.bind, look, looks, Slot.dat?, Cn.dat, exOf, W.fz, esc, escs, stored, put, lend, giveBack, Slot.free, ev_mtw (m := .pop) rfl, pop]
  unfold wBody
  rw [es_fin, es_seq, s4]
  dsimp only
  rw [f1]
  rfl
/-- all spots that are come to -/
theorem reached_ok {s : Str} (hf : P.fns[ix]? = some F_reached) (hT : 1000 ≤ P.turns) (hs : okS s = true) (hps : ∀ p ∈ ps, okS p.1 = true ∧ okS p.2 = true) (lp : ps.length ≤ 8) :
    ∃ F : List Str, (∀ x, x ∈ F ↔ Reach ps s x) ∧ F.length ≤ 9 ∧ Does P 1 ix [.p (pr ps), .p (.str s)] (.ok (.m (.c (.l (F.map D.str))))) [.p (pr ps), .p (.str s)] := by
  obtain ⟨ρ', hw, F, e, i⟩ := whlL_rel (cs := Cs P 0) (t := fun C => evT C (.cmp .ne (.var 3) (.lst .nil))) (f := fun C => evS C 2 wBody)
    (fun m ρ => ∃ F Wk, ρ = [.p (pr ps), .p (.str s), .c (.l (F.map D.str)), .c (.l (Wk.map D.str)), .x, .x, .x] ∧ (RInv ps s F Wk fun _ _ => False) ∧ Wk.length ≤ F.length ∧ m = 2 * (ps.length + 1 - F.length) + Wk.length)
    (fun ρ => ∃ F, ρ = [.p (pr ps), .p (.str s), .c (.l (F.map D.str)), .c (.l []), .x, .x, .x] ∧ RInv ps s F [] fun _ _ => False)
    (fun m ρ ⟨F, Wk, e, i, l1, l2⟩ => by
      subst e
      have lF := i.len
      have okF : ∀ x ∈ F, okS x = true := fun x hx => by
        rcases i.sub x hx with rfl | ⟨p, hp, rfl⟩
        · exact hs
        · exact (hps p hp).2
      rcases List.eq_nil_or_concat Wk with rfl | ⟨W0, h, rfl⟩
      · refine .inl ⟨_, fun C _ => ?_, F, rfl, i⟩
        simp [runFn, es_pass, es_seq, es_fin, es_asg, es_asgT, es_ex, es_ifs, es_rais, es_ret, es_par, es_setI, et, ev_var, ev_non, ev_bl, ev_int, ev_str, ev_gi, ev_gs, ev_tup, ev_lst, ev_bin, ev_not, ev_and, ev_or, ev_cmp, ev_chn, ev_ife, ev_sub, ev_slf, ev_slt, ev_call, ev_bi, ev_sset, ev_rev, ev_neg, ev_isi, ev_nil, ev_cons, ev_seq, ev_rng1, ev_zip, R.bind, look, looks, Slot.dat?, Cn.dat, exOf, W.fz, esc, escs, stored, put, lend, giveBack, Slot.free, cmpD, D.plain, D.plains, D.eqv, D.eqvs, newL]
      · rw [List.concat_eq_append] at *
        obtain ⟨F', W', i1, ⟨n, n1, n2⟩, hb⟩ := wBody_ok (cs := Cs P 0) hs hps lp i (by simp at l1; omega)
        refine .inr ⟨2 * (ps.length + 1 - F'.length) + W'.length, _, _, ?_, fun C hC => ⟨?_, hb C hC⟩, F', W', rfl, i1, ?_, rfl⟩
        · have := i1.len
          simp at l2
          omega
        · have c1 : cmpD .ne (.lst ((W0 ++ [h]).map D.str)) (.lst []) = some true := by
            have hp : (D.lst ((W0 ++ [h]).map D.str)).plain lvl = true := by
              have := plains_of (n := 11) (xs := (W0 ++ [h]).map D.str) (fun x hx => by
                obtain ⟨z, hz, rfl⟩ := List.mem_map.mp hx
                exact plain_str (okF z (i.wk z hz)))
              simpa [D.plain] using this
            unfold cmpD
            dsimp only
            rw [hp]
            cases W0 <;> rfl
          generalize (W0 ++ [h]).map D.str = x1 at c1 ⊢
          simp [runFn, es_pass, es_seq, es_fin, es_asg, es_asgT, es_ex, es_ifs, es_rais, es_ret, es_par, es_setI, et, ev_var, ev_non, ev_bl, ev_int, ev_str, ev_gi, ev_gs, ev_tup, ev_lst, ev_bin, ev_not, ev_and, ev_or, ev_cmp, ev_chn, ev_ife, ev_sub, ev_slf, ev_slt, ev_call, ev_bi, ev_sset, ev_rev, ev_neg, ev_isi, ev_nil, ev_cons, ev_seq, ev_rng1, ev_zip, R.bind, look, looks, Slot.dat?, Cn.dat, exOf, W.fz, esc, escs, stored, put, lend, giveBack, Slot.free, newL, c1]
        · simp at l1; omega) (m := 2 * ps.length + 1) (n := P.turns) (ρ := [.p (pr ps), .p (.str s), .c (.l [.str s]), .c (.l [.str s]), .x, .x, .x]) (by omega)
    ⟨[s], [s], rfl, ⟨by simp, by simp, by simp, by simp, fun x hx => by
      have : x = s := by simpa using hx
      subst this; exact .refl, fun x hx hw => absurd hx hw⟩, by simp, by simp⟩
  subst e
  refine ⟨F, fun x => ⟨i.snd x, fun h => ?_⟩, by have := i.len; omega, does_cs hf fun C hC => ?_⟩
  · induction h with
    | refl => exact i.start
    | step _ hp e ih => exact i.clo _ ih (by simp) _ hp e (fun z => z)
  · have hw := hw C hC
    have ht : C.turns = P.turns := by obtain ⟨j, _, rfl⟩ := hC; rfl
    rw [← ht] at hw
    have hw2 : evS C 2 (.whl (.cmp .ne (.var 3) (.lst .nil)) wBody) [.p (pr ps), .p (.str s), .c (.l [.str s]), .c (.l [.str s]), .x, .x, .x] = some (.nx [.p (pr ps), .p (.str s), .c (.l (F.map D.str)), .c (.l []), .x, .x, .x]) := by
      rw [es_whl]; exact hw
    unfold wBody at hw2
    simp [F_reached, runFn, es_pass, es_seq, es_fin, es_asg, es_asgT, es_ex, es_ifs, es_rais, es_ret, es_par, es_setI, et, ev_var, ev_non, ev_bl, ev_int, ev_str, ev_gi, ev_gs, ev_tup, ev_lst, ev_bin, ev_not, ev_and, ev_or, ev_cmp, ev_chn, ev_ife, ev_sub, ev_slf, ev_slt, ev_call, ev_bi, ev_sset, ev_rev, ev_neg, ev_isi, ev_nil, ev_cons, ev_seq, ev_rng1, ev_zip, R.bind, look, looks, Slot.dat?, Cn.dat, exOf, W.fz, esc, escs, stored, put, lend, giveBack, Slot.free, newL, big, hw2]
def Comes (ps : List Ln) (p q : Ln) : Prop := p = q ∨ Reach ps p.2 q.1
/-- what is looked at of prints: their signs -/
theorem Pr.okS (y : Yd sp ls) (q : Pr ls ps) : ∀ p ∈ ps, Mi.okS p.1 = true ∧ Mi.okS p.2 = true := fun p hp => ⟨y.okS _ (y.ends p (q.sub p hp)).1, y.okS _ (y.ends p (q.sub p hp)).2.1⟩
theorem or_look {a b : D} {xs : List D} {v w : Bool} (h1 : cmpD .eq a b = some v) : True := trivial
theorem leads_to_ok {p q : Ln} (hf : P.fns[ix]? = some (F_leads_to i1)) (hr : P.fns[i1]? = some F_reached) (hT : 1000 ≤ P.turns) (hps : ∀ p ∈ ps, okS p.1 = true ∧ okS p.2 = true) (lp : ps.length ≤ 8) (hp : okS p.1 = true ∧ okS p.2 = true) (hq : okS q.1 = true ∧ okS q.2 = true) :
    ∃ v : Bool, (v = true ↔ Comes ps p q) ∧ Does P 2 ix [.p (pr ps), .p (ln p), .p (ln q)] (.ok (.d (.bl v))) [.p (pr ps), .p (ln p), .p (ln q)] := by
  obtain ⟨F, hF, lF, hc⟩ := reached_ok (ps := ps) (s := p.2) hr hT hp.2 hps lp
  refine ⟨p == q || decide (q.1 ∈ F), ?_, does_cs hf fun C hC => ?_⟩
  · rw [Bool.or_eq_true, beq_iff_eq, decide_eq_true_eq, hF]
    exact Iff.rfl
  · have e := Cs.cal hc (Nat.le_refl _) hC
    have okF : ∀ x ∈ F, okS x = true := fun x hx => by
      have := (hF x).mp hx
      cases this with
      | refl => exact hp.2
      | step _ hr _ => exact (hps _ hr).2
    have c1 : cmpD .eq (ln p) (ln q) = some (p == q) := by
      unfold cmpD; dsimp only
      rw [plain_ln (n := 11) hp.1 hp.2, plain_ln (n := 11) hq.1 hq.2, eqv_ln]; rfl
    have c2 : cmpD .isin (.str q.1) (.lst (F.map D.str)) = some (decide (q.1 ∈ F)) := by
      unfold cmpD; dsimp only
      rw [plain_str hq.1, plains_of (n := lvl) (xs := F.map D.str) (fun x hx => by
        obtain ⟨z, hz, rfl⟩ := List.mem_map.mp hx
        exact plain_str (okF z hz)), mem_str]; rfl
    have g1 : subD (ln p) (.int 1) = some (.str p.2) := rfl
    have g2 : subD (ln q) (.int 0) = some (.str q.1) := rfl
    generalize F.map D.str = FD at e c2
    cases hv : (p == q) with
    | true =>
      rw [hv] at c1
      generalize ln p = dp at *
      generalize ln q = dq at *
      simp [F_leads_to, runFn, es_pass, es_seq, es_fin, es_asg, es_asgT, es_ex, es_ifs, es_rais, es_ret, es_par, es_setI, et, ev_var, ev_non, ev_bl, ev_int, ev_str, ev_gi, ev_gs, ev_tup, ev_lst, ev_bin, ev_not, ev_and, ev_or, ev_cmp, ev_chn, ev_ife, ev_sub, ev_slf, ev_slt, ev_call, ev_bi, ev_sset, ev_rev, ev_neg, ev_isi, ev_nil, ev_cons, ev_seq, ev_rng1, ev_zip, R.bind, look, looks, Slot.dat?, Cn.dat, exOf, W.fz, esc, escs, stored, put, lend, giveBack, Slot.free, c1]
    | false =>
      rw [hv] at c1
      generalize ln p = dp at *
      generalize ln q = dq at *
      simp [F_leads_to, runFn, es_pass, es_seq, es_fin, es_asg, es_asgT, es_ex, es_ifs, es_rais, es_ret, es_par, es_setI, et, ev_var, ev_non, ev_bl, ev_int, ev_str, ev_gi, ev_gs, ev_tup, ev_lst, ev_bin, ev_not, ev_and, ev_or, ev_cmp, ev_chn, ev_ife, ev_sub, ev_slf, ev_slt, ev_call, ev_bi, ev_sset, ev_rev, ev_neg, ev_isi, ev_nil, ev_cons, ev_seq, ev_rng1, ev_zip, R.bind, look, looks, Slot.dat?, Cn.dat, exOf, W.fz, esc, escs, stored, put, lend, giveBack, Slot.free, c1, g1, g2, e, c2]
/-- the parts of comes_to -/
structure CtAt (P : Pg) (ix iN iL iT i1 i2 i3 i4 i5 i6 i7 iG iR : Nat) : Prop where
  f : P.fns[ix]? = some (F_comes_to iN iL iT)
  n : P.fns[iN]? = some (F_need_prints i7 iG)
  t : P.fns[iT]? = some (F_leads_to iR)
  r : P.fns[iR]? = some F_reached
  h7 : P.fns[i7]? = some (F_need_yard i5)
  h5 : P.fns[i5]? = some (F_is_yard i1 i2 i3)
  w : P.fns[i1]? = some F_is_word
  g : P.fns[iG]? = some (F_are_good_prints iL i2)
  l : P.fns[iL]? = some (F_is_lane i3)
  rs : P.fns[i2]? = some F_rise
  lo : P.fns[i3]? = some (F_is_lane_of i4)
  s : P.fns[i4]? = some F_is_spot
  turns : 1000 ≤ P.turns
variable {iN iL iT iG iR : Nat}
theorem comes_ok (c : CtAt P ix iN iL iT i1 i2 i3 i4 i5 i6 i7 iG iR) (y : Yd sp ls) (q : Pr ls ps) {p1 p2 : Ln} (h1 : p1 ∈ ps) (h2 : p2 ∈ ps) :
    ∃ v : Bool, (v = true ↔ Comes ps p1 p2) ∧ Does P 6 ix [.p (yd sp ls), .p (pr ps), .p (ln p1), .p (ln p2)] (.ok (.d (.bl v))) [.p (yd sp ls), .p (pr ps), .p (ln p1), .p (ln p2)] := by
  have ok := q.okS y
  obtain ⟨v, hv, hl⟩ := leads_to_ok (p := p1) (q := p2) c.t c.r c.turns ok q.len (ok p1 h1) (ok p2 h2)
  refine ⟨v, hv, does_cs c.f fun C hC => ?_⟩
  have e1 := Cs.cal (need_prints_ok c.n c.h7 c.h5 c.w c.g c.l c.rs c.lo c.s y q) (Nat.le_refl _) hC
  have lane : ∀ p ∈ ps, C.cal iL [.p (yd sp ls), .p (ln p)] = some (.ok (.d (.bl true)), [.p (yd sp ls), .p (ln p)]) := fun p hp => by
    have := is_lane_ok c.l c.lo c.s y (y.lnp p (q.sub p hp) (n := 11))
    rw [mLane_ln y (q.sub p hp)] at this
    exact Cs.cal this (by omega) hC
  have inP : ∀ p ∈ ps, cmpD .notin (ln p) (pr ps) = some false := fun p hp => by
    have hpl := q.plains y (n := 11)
    have e : mem (ln p) (ps.map ln) = true := by rw [mem_ln]; simpa using hp
    unfold cmpD pr
    dsimp only
    rw [plain_ln (n := 11) (ok p hp).1 (ok p hp).2, hpl, e]
    rfl
  have e2 := Cs.cal hl (by omega) hC
  have a1 := lane p1 h1
  have a2 := lane p2 h2
  have b1 := inP p1 h1
  have b2 := inP p2 h2
  generalize ln p1 = d1 at *
  generalize ln p2 = d2 at *
  generalize yd sp ls = Y at *
  generalize pr ps = Q at *
  simp [F_comes_to, runFn, es_pass, es_seq, es_fin, es_asg, es_asgT, es_ex, es_ifs, es_rais, es_ret, es_par, es_setI, et, ev_var, ev_non, ev_bl, ev_int, ev_str, ev_gi, ev_gs, ev_tup, ev_lst, ev_bin, ev_not, ev_and, ev_or, ev_cmp, ev_chn, ev_ife, ev_sub, ev_slf, ev_slt, ev_call, ev_bi, ev_sset, ev_rev, ev_neg, ev_isi, ev_nil, ev_cons, ev_seq, ev_rng1, ev_zip, R.bind, look, looks, Slot.dat?, Cn.dat, exOf, W.fz, esc, escs, stored, put, lend, giveBack, Slot.free, e1, ev_for, newT, big, wkD, wk0, itemsI, forL, asT, a1, a2, b1, b2, e2, killAll]
/-- not a lane, or none of the prints: the first of the two -/
def badL (sp : List Str) (ls ps : List Ln) (t : D) : Prop := t.plain lvl = true ∧ (mLane sp ls t = false ∨ (mLane sp ls t = true ∧ mem t (ps.map ln) = false))
theorem bad_step (c : CtAt P ix iN iL iT i1 i2 i3 i4 i5 i6 i7 iG iR) (y : Yd sp ls) (q : Pr ls ps) {t : D} (h : badL sp ls ps t) {C : Ctx} (hC : Cs P 5 C) {a b : D} {s4 : Slot} :
    evS C 4 (.fin (.ifs (.or_ (.not_ (.call iL (.cons (.var 0) (.cons (.var 4) .nil)))) (.cmp .notin (.var 4) (.var 1))) (.rais 3) .pass) [4]) [.p (yd sp ls), .p (pr ps), .p a, .p b, .p t] = some (.ex 3 [.p (yd sp ls), .p (pr ps), .p a, .p b, .p t]) := by
  obtain ⟨hp, h⟩ := h
  have e := Cs.cal (is_lane_ok c.l c.lo c.s y hp) (by omega) hC
  rcases h with h | ⟨h, h2⟩
  · rw [h] at e
    generalize yd sp ls = Y at *
    generalize pr ps = Q at *
    simp [runFn, es_pass, es_seq, es_fin, es_asg, es_asgT, es_ex, es_ifs, es_rais, es_ret, es_par, es_setI, et, ev_var, ev_non, ev_bl, ev_int, ev_str, ev_gi, ev_gs, ev_tup, ev_lst, ev_bin, ev_not, ev_and, ev_or, ev_cmp, ev_chn, ev_ife, ev_sub, ev_slf, ev_slt, ev_call, ev_bi, ev_sset, ev_rev, ev_neg, ev_isi, ev_nil, ev_cons, ev_seq, ev_rng1, ev_zip, R.bind, look, looks, Slot.dat?, Cn.dat, exOf, W.fz, esc, escs, stored, put, lend, giveBack, Slot.free, e]
  · rw [h] at e
    have c2 : cmpD .notin t (pr ps) = some true := by
      have hpl := q.plains y (n := 11)
      unfold cmpD pr
      dsimp only
      rw [hp, hpl, h2]
      rfl
    generalize yd sp ls = Y at *
    generalize pr ps = Q at *
    simp [runFn, es_pass, es_seq, es_fin, es_asg, es_asgT, es_ex, es_ifs, es_rais, es_ret, es_par, es_setI, et, ev_var, ev_non, ev_bl, ev_int, ev_str, ev_gi, ev_gs, ev_tup, ev_lst, ev_bin, ev_not, ev_and, ev_or, ev_cmp, ev_chn, ev_ife, ev_sub, ev_slf, ev_slt, ev_call, ev_bi, ev_sset, ev_rev, ev_neg, ev_isi, ev_nil, ev_cons, ev_seq, ev_rng1, ev_zip, R.bind, look, looks, Slot.dat?, Cn.dat, exOf, W.fz, esc, escs, stored, put, lend, giveBack, Slot.free, e, c2]
theorem comes_bad1 (c : CtAt P ix iN iL iT i1 i2 i3 i4 i5 i6 i7 iG iR) (y : Yd sp ls) (q : Pr ls ps) {t u : D} (h : badL sp ls ps t) : Does P 6 ix [.p (yd sp ls), .p (pr ps), .p t, .p u] (.error 3) [.p (yd sp ls), .p (pr ps), .p t, .p u] := by
  refine does_cs c.f fun C hC => ?_
  have e1 := Cs.cal (need_prints_ok c.n c.h7 c.h5 c.w c.g c.l c.rs c.lo c.s y q) (Nat.le_refl _) hC
  have e2 := bad_step c y q h hC (a := t) (b := u) (s4 := .x)
  generalize yd sp ls = Y at *
  generalize pr ps = Q at *
  simp [F_comes_to, runFn, es_seq, es_ex, ev_call, W.fz, ev_cons, ev_nil, ev_var, R.bind, lend, giveBack, Slot.free, e1, ev_for, ev_seq, ev_tup, escs, esc, newT, big, wkD, wk0, itemsI, forL, asT, e2]
theorem comes_bad2 (c : CtAt P ix iN iL iT i1 i2 i3 i4 i5 i6 i7 iG iR) (y : Yd sp ls) (q : Pr ls ps) {p1 : Ln} (h1 : p1 ∈ ps) {u : D} (h : badL sp ls ps u) : Does P 6 ix [.p (yd sp ls), .p (pr ps), .p (ln p1), .p u] (.error 3) [.p (yd sp ls), .p (pr ps), .p (ln p1), .p u] := by
  have ok := q.okS y
  refine does_cs c.f fun C hC => ?_
  have e1 := Cs.cal (need_prints_ok c.n c.h7 c.h5 c.w c.g c.l c.rs c.lo c.s y q) (Nat.le_refl _) hC
  have a1 : C.cal iL [.p (yd sp ls), .p (ln p1)] = some (.ok (.d (.bl true)), [.p (yd sp ls), .p (ln p1)]) := by
    have := is_lane_ok c.l c.lo c.s y (y.lnp p1 (q.sub p1 h1) (n := 11))
    rw [mLane_ln y (q.sub p1 h1)] at this
    exact Cs.cal this (by omega) hC
  have b1 : cmpD .notin (ln p1) (pr ps) = some false := by
    have hpl := q.plains y (n := 11)
    have e : mem (ln p1) (ps.map ln) = true := by rw [mem_ln]; simpa using h1
    unfold cmpD pr
    dsimp only
    rw [plain_ln (n := 11) (ok p1 h1).1 (ok p1 h1).2, hpl, e]
    rfl
  have e2 := bad_step c y q h hC (a := ln p1) (b := u) (s4 := .x)
  have e0 : evS C 4 (.fin (.ifs (.or_ (.not_ (.call iL (.cons (.var 0) (.cons (.var 4) .nil)))) (.cmp .notin (.var 4) (.var 1))) (.rais 3) .pass) [4]) [.p (yd sp ls), .p (pr ps), .p (ln p1), .p u, .p (ln p1)] = some (.nx [.p (yd sp ls), .p (pr ps), .p (ln p1), .p u, .x]) := by
    generalize ln p1 = d1 at *
    generalize yd sp ls = Y at *
    generalize pr ps = Q at *
    simp [runFn, es_pass, es_seq, es_fin, es_asg, es_asgT, es_ex, es_ifs, es_rais, es_ret, es_par, es_setI, et, ev_var, ev_non, ev_bl, ev_int, ev_str, ev_gi, ev_gs, ev_tup, ev_lst, ev_bin, ev_not, ev_and, ev_or, ev_cmp, ev_chn, ev_ife, ev_sub, ev_slf, ev_slt, ev_call, ev_bi, ev_sset, ev_rev, ev_neg, ev_isi, ev_nil, ev_cons, ev_seq, ev_rng1, ev_zip, R.bind, look, looks, Slot.dat?, Cn.dat, exOf, W.fz, esc, escs, stored, put, lend, giveBack, Slot.free, a1, b1, killAll]
  generalize ln p1 = d1 at *
  generalize yd sp ls = Y at *
  generalize pr ps = Q at *
  simp [F_comes_to, runFn, es_seq, es_ex, ev_call, W.fz, ev_cons, ev_nil, ev_var, R.bind, lend, giveBack, Slot.free, e1, ev_for, ev_seq, ev_tup, escs, esc, newT, big, wkD, wk0, itemsI, forL, asT, e0, e2]
/-- prints that are no tuple -/
theorem comes_none (c : CtAt P ix iN iL iT i1 i2 i3 i4 i5 i6 i7 iG iR) (y : Yd sp ls) {t u v : D} (ht : ∀ ds, t ≠ .tup ds) (hp : t.plain lvl = true) : Does P 6 ix [.p (yd sp ls), .p t, .p u, .p v] (.error 2) [.p (yd sp ls), .p t, .p u, .p v] := by
  refine does_cs c.f fun C hC => ?_
  have e1 := Cs.cal (need_prints_no ht hp c.n c.h7 c.h5 c.w c.g c.rs c.lo c.s y) (Nat.le_refl _) hC
  generalize yd sp ls = Y at *
  simp [F_comes_to, runFn, es_seq, es_ex, ev_call, W.fz, ev_cons, ev_nil, ev_var, R.bind, lend, giveBack, Slot.free, e1]
end
end Mi
set_option Elab.async false
set_option linter.all false
set_option maxRecDepth 100000
set_option maxHeartbeats 4000000
/-! MkH: the law's own look at what is come to. -/
namespace Mi
open PySem
/-- _law_from: _law_prints _law_spot _law_found _law_turn _law_one _law_other -/
def F__law_from : Fn := ⟨2, 6,
  (.seq (.asg true 2 (.lst (.cons (.var 1) .nil)))
  (.seq (.for_ (.n 3) (.seq (.var 0))
  (.fin (.asg true 2 (.bin .add (.var 2) (.cmp1 true (.var 5) (.t (.cons (.n 4) (.cons (.n 5) .nil))) (.seq (.var 0)) (.and_ (.cmp .isin (.var 4) (.var 2)) (.cmp .notin (.var 5) (.var 2))) [4, 5]))) [3]))
  (.ret (.var 2))))⟩
/-- _law_comes: _law_prints _law_lane _law_other -/
def F__law_comes (i__law_from : Nat) : Fn := ⟨3, 3,
  (.ret (.or_ (.cmp .eq (.var 1) (.var 2)) (.cmp .isin (.sub (.var 2) (.int 0)) (.call i__law_from (.cons (.var 0) (.cons (.sub (.var 1) (.int 1)) .nil))))))⟩
def nextF (ps : List Ln) (F : List Str) : List Str := F ++ (ps.filter fun p => decide (p.1 ∈ F) && !decide (p.2 ∈ F)).map (·.2)
def itF (ps : List Ln) (s : Str) : Nat → List Str
  | 0 => [s]
  | n + 1 => nextF ps (itF ps s n)
def closedF (ps : List Ln) (F : List Str) : Prop := ∀ p ∈ ps, p.1 ∈ F → p.2 ∈ F
theorem filter_lt {α : Type} {P Q : α → Bool} : ∀ {l : List α}, (∀ x ∈ l, P x = true → Q x = true) → (∃ x ∈ l, Q x = true ∧ P x = false) → (l.filter P).length < (l.filter Q).length
  | [], _, ⟨x, hx, _⟩ => nomatch hx
  | y :: l, h, ⟨x, hx, h1, h2⟩ => by
    have le : ∀ {l : List α}, (∀ x ∈ l, P x = true → Q x = true) → (l.filter P).length ≤ (l.filter Q).length := fun {l} h => by
      induction l with
      | nil => simp
      | cons z l ih =>
        have h0 := h z (by simp)
        have := ih fun x hx => h x (by simp [hx])
        rw [List.filter_cons, List.filter_cons]
        by_cases p : P z = true
        · rw [if_pos p, if_pos (h0 p)]; simpa using this
        · rw [if_neg p]
          split
          · simp; omega
          · exact this
    have hl : ∀ x ∈ l, P x = true → Q x = true := fun x hx => h x (by simp [hx])
    rw [List.filter_cons, List.filter_cons]
    rcases List.mem_cons.mp hx with rfl | hx
    · rw [if_pos h1, if_neg (by rw [h2]; simp)]
      have := le hl
      simp; omega
    · have := filter_lt hl ⟨x, hx, h1, h2⟩
      by_cases p : P y = true
      · rw [if_pos p, if_pos (h y (by simp) p)]; simp; omega
      · rw [if_neg p]
        split
        · simp; omega
        · exact this
def cntF (ps : List Ln) (F : List Str) : Nat := (ps.filter fun p => !decide (p.2 ∈ F)).length
theorem closed_same {ps : List Ln} {F : List Str} (h : closedF ps F) : nextF ps F = F := by
  have : (ps.filter fun p => decide (p.1 ∈ F) && !decide (p.2 ∈ F)) = [] := by
    rw [List.filter_eq_nil_iff]
    intro p hp
    by_cases c : p.1 ∈ F
    · simp [c, h p hp c]
    · simp [c]
  unfold nextF
  rw [this]; simp
theorem it_closed (ps : List Ln) (s : Str) : ∀ n, closedF ps (itF ps s n) ∨ cntF ps (itF ps s n) + n ≤ ps.length
  | 0 => .inr (by unfold cntF; simpa using List.length_filter_le _ ps)
  | n + 1 => by
    rcases it_closed ps s n with h | h
    · refine .inl ?_
      have : itF ps s (n + 1) = itF ps s n := closed_same h
      rw [this]; exact h
    · by_cases c : closedF ps (itF ps s n)
      · refine .inl ?_
        have : itF ps s (n + 1) = itF ps s n := closed_same c
        rw [this]; exact c
      · refine .inr ?_
        unfold closedF at c
        have c : ∃ p ∈ ps, p.1 ∈ itF ps s n ∧ p.2 ∉ itF ps s n := by
          apply Classical.byContradiction
          intro z
          exact c fun p hp h1 => Classical.byContradiction fun h2 => z ⟨p, hp, h1, h2⟩
        obtain ⟨p, hp, h1, h2⟩ := c
        have hin : p.2 ∈ itF ps s (n + 1) := by
          show p.2 ∈ nextF ps (itF ps s n)
          unfold nextF
          refine List.mem_append_right _ (List.mem_map.mpr ⟨p, List.mem_filter.mpr ⟨hp, by simp [h1, h2]⟩, rfl⟩)
        have : cntF ps (itF ps s (n + 1)) < cntF ps (itF ps s n) := by
          unfold cntF
          refine filter_lt (fun q hq hq1 => ?_) ⟨p, hp, by simpa using h2, by simpa using hin⟩
          have hq1 : q.2 ∉ itF ps s (n + 1) := by simpa using hq1
          have : q.2 ∉ itF ps s n := fun z => hq1 (List.mem_append_left _ z)
          simpa using this
        omega
theorem it_iff {ps : List Ln} {s x : Str} : x ∈ itF ps s ps.length ↔ Reach ps s x := by
  have snd : ∀ n x, x ∈ itF ps s n → Reach ps s x := fun n => by
    induction n with
    | zero => intro x hx; have : x = s := by simpa [itF] using hx
              subst this; exact .refl
    | succ n ih =>
      intro x hx
      have hx : x ∈ nextF ps (itF ps s n) := hx
      unfold nextF at hx
      rcases List.mem_append.mp hx with z | z
      · exact ih x z
      · obtain ⟨p, hp, rfl⟩ := List.mem_map.mp z
        obtain ⟨h1, h2⟩ := List.mem_filter.mp hp
        have : p.1 ∈ itF ps s n := by
          rw [Bool.and_eq_true, decide_eq_true_eq] at h2
          exact h2.1
        exact .step (ih _ this) h1 rfl
  have s0 : ∀ n, s ∈ itF ps s n := fun n => by
    induction n with
    | zero => simp [itF]
    | succ n ih => exact List.mem_append_left _ ih
  refine ⟨snd _ x, fun h => ?_⟩
  have cl : closedF ps (itF ps s ps.length) := by
    rcases it_closed ps s ps.length with h | h
    · exact h
    · intro p hp _
      apply Classical.byContradiction
      intro z
      have hz : cntF ps (itF ps s ps.length) = 0 := by omega
      unfold cntF at hz
      have := List.length_eq_zero_iff.mp hz
      rw [List.filter_eq_nil_iff] at this
      exact this p hp (by simpa using z)
  induction h with
  | refl => exact s0 _
  | step _ hp e ih => exact cl _ hp (by rw [e]; exact ih)
theorem it_len {ps : List Ln} {s : Str} (lp : ps.length ≤ 8) : ∀ n, (itF ps s n).length ≤ 1 + 8 * n
  | 0 => by simp [itF]
  | n + 1 => by
    have := it_len (s := s) lp n
    have h2 := List.length_filter_le (fun p : Ln => decide (p.1 ∈ itF ps s n) && !decide (p.2 ∈ itF ps s n)) ps
    show (nextF ps (itF ps s n)).length ≤ _
    unfold nextF
    rw [List.length_append, List.length_map]
    omega
section
variable {P : Pg} {k ix i1 i2 : Nat} {ps : List Ln}
def lnF (F : List Str) (t : D) : Option D := match t with
  | .tup [.str a, .str b] => if decide (a ∈ F) && !decide (b ∈ F) then some (.str b) else none
  | _ => none
theorem lnF_map {F : List Str} : ∀ ps : List Ln, (ps.map ln).filterMap (lnF F) = ((ps.filter fun p => decide (p.1 ∈ F) && !decide (p.2 ∈ F)).map (·.2)).map D.str
  | [] => rfl
  | p :: ps => by
    rw [List.map_cons, List.filterMap_cons, List.filter_cons]
    have : lnF F (ln p) = if decide (p.1 ∈ F) && !decide (p.2 ∈ F) then some (.str p.2) else none := rfl
    rw [this]
    cases hv : (decide (p.1 ∈ F) && !decide (p.2 ∈ F)) with
    | true => simp [lnF_map ps]
    | false => simp [lnF_map ps]
theorem from_step {C : Ctx} {s : Str} {F : List Str} (hps : ∀ p ∈ ps, okS p.1 = true ∧ okS p.2 = true) (hF : ∀ x ∈ F, okS x = true) (lp : ps.length ≤ 8) (lF : F.length ≤ 1000) {s3 : Slot} :
    evS C 2 (.fin (.asg true 2 (.bin .add (.var 2) (.cmp1 true (.var 5) (.t (.cons (.n 4) (.cons (.n 5) .nil))) (.seq (.var 0)) (.and_ (.cmp .isin (.var 4) (.var 2)) (.cmp .notin (.var 5) (.var 2))) [4, 5]))) [3]) [.p (pr ps), .p (.str s), .p (.lst (F.map D.str)), s3, .x, .x] =
      some (.nx [.p (pr ps), .p (.str s), .p (.lst ((nextF ps F).map D.str)), .x, .x, .x]) := by
  have hc := cmp1_pure (C := C) (hf := true) (el := .var 5) (c := .and_ (.cmp .isin (.var 4) (.var 2)) (.cmp .notin (.var 5) (.var 2))) (g := .t (.cons (.n 4) (.cons (.n 5) .nil))) (it := .seq (.var 0)) (own := [4, 5]) (ρ := [.p (pr ps), .p (.str s), .p (.lst (F.map D.str)), s3, .x, .x]) (ρ1 := [.p (pr ps), .p (.str s), .p (.lst (F.map D.str)), s3, .x, .x]) (kw := (0, [.s 0])) (xs := ps.map ln) (f := lnF F) (ρ0 := [.p (pr ps), .p (.str s), .p (.lst (F.map D.str)), s3, .x, .x])
    (by simp [runFn, es_pass, es_seq, es_fin, es_asg, es_asgT, es_ex, es_ifs, es_rais, es_ret, es_par, es_setI, et, ev_var, ev_non, ev_bl, ev_int, ev_str, ev_gi, ev_gs, ev_tup, ev_lst, ev_bin, ev_not, ev_and, ev_or, ev_cmp, ev_chn, ev_ife, ev_sub, ev_slf, ev_slt, ev_call, ev_bi, ev_sset, ev_rev, ev_neg, ev_isi, ev_nil, ev_cons, ev_seq, ev_rng1, ev_zip, R.bind, look, looks, Slot.dat?, Cn.dat, exOf, W.fz, esc, escs, stored, put, lend, giveBack, Slot.free]) (by simp [walked, runFn, es_pass, es_seq, es_fin, es_asg, es_asgT, es_ex, es_ifs, es_rais, es_ret, es_par, es_setI, et, ev_var, ev_non, ev_bl, ev_int, ev_str, ev_gi, ev_gs, ev_tup, ev_lst, ev_bin, ev_not, ev_and, ev_or, ev_cmp, ev_chn, ev_ife, ev_sub, ev_slf, ev_slt, ev_call, ev_bi, ev_sset, ev_rev, ev_neg, ev_isi, ev_nil, ev_cons, ev_seq, ev_rng1, ev_zip, R.bind, look, looks, Slot.dat?, Cn.dat, exOf, W.fz, esc, escs, stored, put, lend, giveBack, Slot.free, wkD, wk0, itemsI, pr]) (by simp [big]; omega) (by simp [killAll, freeIx, Slot.free]) (fun x hx => by
      obtain ⟨p, hp, rfl⟩ := List.mem_map.mp hx
      obtain ⟨o1, o2⟩ := hps p hp
      have hpl : D.plains lvl (F.map D.str) = true := plains_of fun x hx => by
        obtain ⟨z, hz, rfl⟩ := List.mem_map.mp hx
        exact plain_str (hF z hz)
      have c1 : cmpD .isin (.str p.1) (.lst (F.map D.str)) = some (decide (p.1 ∈ F)) := by
        unfold cmpD; dsimp only
        rw [plain_str o1, hpl, mem_str]; rfl
      have c2 : cmpD .notin (.str p.2) (.lst (F.map D.str)) = some (!decide (p.2 ∈ F)) := by
        unfold cmpD; dsimp only
        rw [plain_str o2, hpl, mem_str]; rfl
      have e : lnF F (ln p) = if decide (p.1 ∈ F) && !decide (p.2 ∈ F) then some (.str p.2) else none := rfl
      generalize F.map D.str = FD at c1 c2 ⊢
      generalize pr ps = Q
      refine ⟨[.p Q, .p (.str s), .p (.lst FD), s3, .p (.str p.1), .p (.str p.2)], ?_, by simp [killAll]⟩
      rw [e]
      cases h1 : decide (p.1 ∈ F) with
      | false =>
        rw [h1] at c1
        simp [step0, ln, asT, asTs, runFn, es_pass, es_seq, es_fin, es_asg, es_asgT, es_ex, es_ifs, es_rais, es_ret, es_par, es_setI, et, ev_var, ev_non, ev_bl, ev_int, ev_str, ev_gi, ev_gs, ev_tup, ev_lst, ev_bin, ev_not, ev_and, ev_or, ev_cmp, ev_chn, ev_ife, ev_sub, ev_slf, ev_slt, ev_call, ev_bi, ev_sset, ev_rev, ev_neg, ev_isi, ev_nil, ev_cons, ev_seq, ev_rng1, ev_zip, R.bind, look, looks, Slot.dat?, Cn.dat, exOf, W.fz, esc, escs, stored, put, lend, giveBack, Slot.free, c1]
      | true =>
        rw [h1] at c1
        cases h2 : decide (p.2 ∈ F) with
        | true =>
          rw [h2] at c2
          simp [step0, ln, asT, asTs, runFn, es_pass, es_seq, es_fin, es_asg, es_asgT, es_ex, es_ifs, es_rais, es_ret, es_par, es_setI, et, ev_var, ev_non, ev_bl, ev_int, ev_str, ev_gi, ev_gs, ev_tup, ev_lst, ev_bin, ev_not, ev_and, ev_or, ev_cmp, ev_chn, ev_ife, ev_sub, ev_slf, ev_slt, ev_call, ev_bi, ev_sset, ev_rev, ev_neg, ev_isi, ev_nil, ev_cons, ev_seq, ev_rng1, ev_zip, R.bind, look, looks, Slot.dat?, Cn.dat, exOf, W.fz, esc, escs, stored, put, lend, giveBack, Slot.free, c1, c2]
        | false =>
          rw [h2] at c2
          simp [step0, ln, asT, asTs, runFn, es_pass, es_seq, es_fin, es_asg, es_asgT, es_ex, es_ifs, es_rais, es_ret, es_par, es_setI, et, ev_var, ev_non, ev_bl, ev_int, ev_str, ev_gi, ev_gs, ev_tup, ev_lst, ev_bin, ev_not, ev_and, ev_or, ev_cmp, ev_chn, ev_ife, ev_sub, ev_slf, ev_slt, ev_call, ev_bi, ev_sset, ev_rev, ev_neg, ev_isi, ev_nil, ev_cons, ev_seq, ev_rng1, ev_zip, R.bind, look, looks, Slot.dat?, Cn.dat, exOf, W.fz, esc, escs, stored, put, lend, giveBack, Slot.free, c1, c2])
  rw [lnF_map] at hc
  have hl : (nextF ps F).length ≤ big := by
    have h2 := List.length_filter_le (fun p : Ln => decide (p.1 ∈ F) && !decide (p.2 ∈ F)) ps
    unfold nextF
    rw [List.length_append, List.length_map]
    simp [big]; omega
  have ha : bin .add (.lst (F.map D.str)) (.lst (((ps.filter fun p => decide (p.1 ∈ F) && !decide (p.2 ∈ F)).map (·.2)).map D.str)) = some (.m (.c (.l ((nextF ps F).map D.str)))) := by
    unfold bin nextF
    dsimp only
    rw [← List.map_append]
    exact if_pos (by rw [List.length_map]; exact hl)
  simp only [freeIx, Slot.free, List.append_nil, backAll, List.getElem?_cons_zero] at hc
  generalize ((ps.filter fun p => decide (p.1 ∈ F) && !decide (p.2 ∈ F)).map (·.2)).map D.str = X1 at hc ha
  generalize (nextF ps F).map D.str = X2 at ha ⊢
  generalize F.map D.str = X3 at hc ha ⊢
  simp [backAll] at hc
  simp [runFn, es_pass, es_seq, es_fin, es_asg, es_asgT, es_ex, es_ifs, es_rais, es_ret, es_par, es_setI, et, ev_var, ev_non, ev_bl, ev_int, ev_str, ev_gi, ev_gs, ev_tup, ev_lst, ev_bin, ev_not, ev_and, ev_or, ev_cmp, ev_chn, ev_ife, ev_sub, ev_slf, ev_slt, ev_call, ev_bi, ev_sset, ev_rev, ev_neg, ev_isi, ev_nil, ev_cons, ev_seq, ev_rng1, ev_zip, R.bind, look, looks, Slot.dat?, Cn.dat, exOf, W.fz, esc, escs, stored, put, lend, giveBack, Slot.free, hc, ha, killAll]
theorem from_ok {s : Str} (hf : P.fns[ix]? = some F__law_from) (hs : okS s = true) (hps : ∀ p ∈ ps, okS p.1 = true ∧ okS p.2 = true) (lp : ps.length ≤ 8) : Does P 1 ix [.p (pr ps), .p (.str s)] (.ok (.d (.lst ((itF ps s ps.length).map D.str)))) [.p (pr ps), .p (.str s)] := by
  have okI : ∀ n, ∀ x ∈ itF ps s n, okS x = true := fun n => by
    induction n with
    | zero => intro x hx; have : x = s := by simpa [itF] using hx
              subst this; exact hs
    | succ n ih =>
      intro x hx
      have hx : x ∈ nextF ps (itF ps s n) := hx
      rcases List.mem_append.mp hx with z | z
      · exact ih x z
      · obtain ⟨p, hp, rfl⟩ := List.mem_map.mp z
        exact (hps p (List.mem_filter.mp hp).1).2
  refine does_cs hf fun C hC => ?_
  obtain ⟨ρ', hl, e⟩ := forL_rel (cs := fun C' => C' = C) (f := fun C x ρ => match asT 2 (.n 3) x ρ with | some ρ => evS C 2 (.fin (.asg true 2 (.bin .add (.var 2) (.cmp1 true (.var 5) (.t (.cons (.n 4) (.cons (.n 5) .nil))) (.seq (.var 0)) (.and_ (.cmp .isin (.var 4) (.var 2)) (.cmp .notin (.var 5) (.var 2))) [4, 5]))) [3]) ρ | none => none)
    (xs := ps.map ln) (done := []) (ρ := [.p (pr ps), .p (.str s), .p (.lst [.str s]), .x, .x, .x]) (fun d ρ => ρ = [.p (pr ps), .p (.str s), .p (.lst ((itF ps s d.length).map D.str)), .x, .x, .x]) rfl (fun d x r ρ eq e => by
      subst e
      rw [List.nil_append] at eq
      have hd := congrArg List.length eq
      simp only [List.length_map, List.length_append, List.length_cons] at hd
      have := it_len (s := s) lp d.length
      refine ⟨_, fun C' _ => ?_, rfl⟩
      simp only [asT]
      rw [if_pos ⟨by decide, by simp⟩]
      rw [List.length_append, List.length_singleton]
      exact from_step hps (okI d.length) lp (by omega))
  have hl := hl C rfl
  rw [List.nil_append, List.length_map] at e
  subst e
  have f1 : evS C 2 (.for_ (.n 3) (.seq (.var 0)) (.fin (.asg true 2 (.bin .add (.var 2) (.cmp1 true (.var 5) (.t (.cons (.n 4) (.cons (.n 5) .nil))) (.seq (.var 0)) (.and_ (.cmp .isin (.var 4) (.var 2)) (.cmp .notin (.var 5) (.var 2))) [4, 5]))) [3]))
      [.p (pr ps), .p (.str s), .p (.lst [.str s]), .x, .x, .x] = some (.nx [.p (pr ps), .p (.str s), .p (.lst ((itF ps s ps.length).map D.str)), .x, .x, .x]) := by
    rw [ev_for, ev_seq, ev_var]
    exact hl
  generalize (itF ps s ps.length).map D.str = FD at f1 ⊢
  simp [F__law_from, runFn, es_pass, es_seq, es_fin, es_asg, es_asgT, es_ex, es_ifs, es_rais, es_ret, es_par, es_setI, et, ev_var, ev_non, ev_bl, ev_int, ev_str, ev_gi, ev_gs, ev_tup, ev_lst, ev_bin, ev_not, ev_and, ev_or, ev_cmp, ev_chn, ev_ife, ev_sub, ev_slf, ev_slt, ev_call, ev_bi, ev_sset, ev_rev, ev_neg, ev_isi, ev_nil, ev_cons, ev_seq, ev_rng1, ev_zip, R.bind, look, looks, Slot.dat?, Cn.dat, exOf, W.fz, esc, escs, stored, put, lend, giveBack, Slot.free, newL, big, f1]
theorem law_comes_ok {p q : Ln} (hf : P.fns[ix]? = some (F__law_comes i1)) (hr : P.fns[i1]? = some F__law_from) (hps : ∀ p ∈ ps, okS p.1 = true ∧ okS p.2 = true) (lp : ps.length ≤ 8) (hp : okS p.1 = true ∧ okS p.2 = true) (hq : okS q.1 = true ∧ okS q.2 = true) :
    ∃ v : Bool, (v = true ↔ Comes ps p q) ∧ Does P 2 ix [.p (pr ps), .p (ln p), .p (ln q)] (.ok (.d (.bl v))) [.p (pr ps), .p (ln p), .p (ln q)] := by
  have hc := from_ok (ps := ps) (s := p.2) hr hp.2 hps lp
  have hF : ∀ x, x ∈ itF ps p.2 ps.length ↔ Reach ps p.2 x := fun x => it_iff
  generalize itF ps p.2 ps.length = F at hc hF
  refine ⟨p == q || decide (q.1 ∈ F), ?_, does_cs hf fun C hC => ?_⟩
  · rw [Bool.or_eq_true, beq_iff_eq, decide_eq_true_eq, hF]
    exact Iff.rfl
  · have e := Cs.cal hc (Nat.le_refl _) hC
    have okF : ∀ x ∈ F, okS x = true := fun x hx => by
      have := (hF x).mp hx
      cases this with
      | refl => exact hp.2
      | step _ hr _ => exact (hps _ hr).2
    have c1 : cmpD .eq (ln p) (ln q) = some (p == q) := by
      unfold cmpD; dsimp only
      rw [plain_ln (n := 11) hp.1 hp.2, plain_ln (n := 11) hq.1 hq.2, eqv_ln]; rfl
    have c2 : cmpD .isin (.str q.1) (.lst (F.map D.str)) = some (decide (q.1 ∈ F)) := by
      unfold cmpD; dsimp only
      rw [plain_str hq.1, plains_of (n := lvl) (xs := F.map D.str) (fun x hx => by
        obtain ⟨z, hz, rfl⟩ := List.mem_map.mp hx
        exact plain_str (okF z hz)), mem_str]; rfl
    have g1 : subD (ln p) (.int 1) = some (.str p.2) := rfl
    have g2 : subD (ln q) (.int 0) = some (.str q.1) := rfl
    generalize F.map D.str = FD at e c2
    cases hv : (p == q) with
    | true =>
      rw [hv] at c1
      generalize ln p = dp at *
      generalize ln q = dq at *
      simp [F__law_comes, runFn, es_pass, es_seq, es_fin, es_asg, es_asgT, es_ex, es_ifs, es_rais, es_ret, es_par, es_setI, et, ev_var, ev_non, ev_bl, ev_int, ev_str, ev_gi, ev_gs, ev_tup, ev_lst, ev_bin, ev_not, ev_and, ev_or, ev_cmp, ev_chn, ev_ife, ev_sub, ev_slf, ev_slt, ev_call, ev_bi, ev_sset, ev_rev, ev_neg, ev_isi, ev_nil, ev_cons, ev_seq, ev_rng1, ev_zip, R.bind, look, looks, Slot.dat?, Cn.dat, exOf, W.fz, esc, escs, stored, put, lend, giveBack, Slot.free, c1]
    | false =>
      rw [hv] at c1
      generalize ln p = dp at *
      generalize ln q = dq at *
      simp [F__law_comes, runFn, es_pass, es_seq, es_fin, es_asg, es_asgT, es_ex, es_ifs, es_rais, es_ret, es_par, es_setI, et, ev_var, ev_non, ev_bl, ev_int, ev_str, ev_gi, ev_gs, ev_tup, ev_lst, ev_bin, ev_not, ev_and, ev_or, ev_cmp, ev_chn, ev_ife, ev_sub, ev_slf, ev_slt, ev_call, ev_bi, ev_sset, ev_rev, ev_neg, ev_isi, ev_nil, ev_cons, ev_seq, ev_rng1, ev_zip, R.bind, look, looks, Slot.dat?, Cn.dat, exOf, W.fz, esc, escs, stored, put, lend, giveBack, Slot.free, c1, g1, g2, e, c2]
end
end Mi
set_option Elab.async false
set_option linter.all false
set_option maxRecDepth 100000
set_option maxHeartbeats 4000000
/-! MkI: the rounds. -/
namespace Mi
open PySem
def bitE : Nat := 1048577
theorem bits_lt {z : Int} (h : Builtin.Int.intBits z ≤ 1048576) : z.natAbs < 2 ^ bitE := by
  unfold Builtin.Int.intBits at h
  split at h
  · rename_i e
    have : z = 0 := by simpa using e
    subst this
    exact Nat.two_pow_pos _
  · rename_i e
    have hz : z.natAbs ≠ 0 := fun w => e (by simpa using Int.natAbs_eq_zero.mp w)
    exact (Nat.log2_lt hz).mp (by unfold bitE; omega)
theorem cell_lt {ns : List Int} {i : Nat} (hi : i ≤ 1000) (h : okScript ns) : (cellOf ns i).natAbs < 2 ^ topE := by
  have hb : ∀ z ∈ ns, z.natAbs < 2 ^ bitE := fun z hz => bits_lt (h.2 z hz)
  have e : topE = bitE + 123 := rfl
  rw [e, Nat.pow_add]
  generalize bitE = N at *
  have p1 : 1 ≤ 2 ^ N := Nat.one_le_two_pow
  generalize 2 ^ N = B at *
  unfold cellOf
  split
  · omega
  · rename_i hn
    have hq : i / ns.length ≤ i := Nat.div_le_self _ _
    have hz : (ns.getD (i % ns.length) 0).natAbs < B := by
      have hl : 0 < ns.length := List.length_pos_iff.mpr hn
      have hm := Nat.mod_lt i hl
      rw [List.getD_eq_getElem?_getD, List.getElem?_eq_getElem hm]
      exact hb _ (List.getElem_mem hm)
    generalize ns.getD (i % ns.length) 0 = z at *
    generalize i / ns.length = q at *
    omega
section
variable {P : Pg} {d ixC : Nat}
theorem rd_ok {ns : List Int} {high : Nat} (hf : P.fns[ixC]? = some F__law_cell) (hd : 1 ≤ d) (hh : high ≤ 900) (h : okScript ns) :
    RdOk (Cx0 P d) (.bi .max2 (.cons (.int 1) (.cons (.bi .min2 (.cons (.var 1) (.cons (.bi .len (.cons (.var 0) .nil)) .nil))) .nil))) (.lst (.cons (.call ixC (.cons (.var 0) (.cons (.var 2) .nil))) (.cons (.int 0) .nil))) 2
      [.p (.lst (ns.map D.int)), .p (.int high), .x] (max 1 (min high ns.length)) (cellOf ns) := by
  refine ⟨?_, by omega, by simp, rfl, fun i hi => ?_⟩
  · have e1 : biMin2 [.int (high : Int), .int (ns.length : Int)] = some (.d (.int ((min high ns.length : Nat) : Int))) := by
      unfold biMin2
      dsimp only
      congr 2
      split <;> simp <;> omega
    have e2 : biMax2 [.int 1, .int ((min high ns.length : Nat) : Int)] = some (.d (.int ((max 1 (min high ns.length) : Nat) : Int))) := by
      unfold biMax2
      dsimp only
      congr 2
      split <;> simp <;> omega
    have e3 : biLen [.lst (ns.map D.int)] = some (.d (.int (ns.length : Int))) := by simp [biLen]
    generalize ns.map D.int = X at e3 ⊢
    generalize ((max 1 (min high ns.length) : Nat) : Int) = M at e2 ⊢
    generalize ((min high ns.length : Nat) : Int) = m at e1 e2
    simp [runFn, es_pass, es_seq, es_fin, es_asg, es_asgT, es_ex, es_ifs, es_rais, es_ret, es_par, es_setI, et, ev_var, ev_non, ev_bl, ev_int, ev_str, ev_gi, ev_gs, ev_tup, ev_lst, ev_bin, ev_not, ev_and, ev_or, ev_cmp, ev_chn, ev_ife, ev_sub, ev_slf, ev_slt, ev_call, ev_bi, ev_sset, ev_rev, ev_neg, ev_isi, ev_nil, ev_cons, ev_seq, ev_rng1, ev_zip, R.bind, look, looks, Slot.dat?, Cn.dat, exOf, W.fz, esc, escs, stored, put, lend, giveBack, Slot.free, biD, e1, e2, e3]
  · have hi : i ≤ 1000 := by omega
    have e := cell_ok (P := P) (ix := ixC) (ns := ns) (n := i) hf hi h.1 d hd
    generalize ns.map D.int = X at e ⊢
    simp [runFn, es_pass, es_seq, es_fin, es_asg, es_asgT, es_ex, es_ifs, es_rais, es_ret, es_par, es_setI, et, ev_var, ev_non, ev_bl, ev_int, ev_str, ev_gi, ev_gs, ev_tup, ev_lst, ev_bin, ev_not, ev_and, ev_or, ev_cmp, ev_chn, ev_ife, ev_sub, ev_slf, ev_slt, ev_call, ev_bi, ev_sset, ev_rev, ev_neg, ev_isi, ev_nil, ev_cons, ev_seq, ev_rng1, ev_zip, R.bind, look, looks, Slot.dat?, Cn.dat, exOf, W.fz, esc, escs, stored, put, lend, giveBack, Slot.free, e, newL, big]
end
end Mi
set_option Elab.async false
set_option linter.all false
set_option maxRecDepth 100000
set_option maxHeartbeats 4000000
/-! MkJ: walks: what the program's looks say of them. -/
namespace Mi
open PySem
/-- is_good_walk: yard thing pair one -/
def F_is_good_walk (i_is_spot : Nat) : Fn := ⟨2, 4,
  (.seq (.ifs (.or_ (.not_ (.isi (.var 1) .list)) (.not_ (.chn .le .le (.int 1) (.bi .len (.cons (.var 1) .nil)) (.gi 41))))
  (.ret (.bl false))
  .pass)
  (.seq (.ifs (.not_ (.bi .all (.cons (.cmp1 false (.call i_is_spot (.cons (.sub (.var 0) (.int 0)) (.cons (.var 3) .nil))) (.n 3) (.seq (.var 1)) (.bl true) [3]) .nil)))
  (.ret (.bl false))
  .pass)
  (.ret (.bi .all (.cons (.cmp1 false (.or_ (.cmp .eq (.sub (.var 2) (.int 0)) (.sub (.var 2) (.int 1))) (.cmp .isin (.var 2) (.sub (.var 0) (.int 1)))) (.n 2) (.zip (.var 1) (.slf (.var 1) (.int 1))) (.bl true) [2]) .nil)))))⟩
/-- is_walk: yard thing -/
def F_is_walk (i_need_yard : Nat) (i_is_good_walk : Nat) : Fn := ⟨2, 2,
  (.seq (.ex (.call i_need_yard (.cons (.var 0) .nil)))
  (.ret (.call i_is_good_walk (.cons (.var 0) (.cons (.var 1) .nil)))))⟩
/-- need_walk: yard walk -/
def F_need_walk (i_is_good_walk : Nat) : Fn := ⟨2, 2,
  (.ifs (.not_ (.call i_is_good_walk (.cons (.var 0) (.cons (.var 1) .nil))))
  (.rais 4)
  .pass)⟩
/-- are_prints: yard thing -/
def F_are_prints (i_need_yard : Nat) (i_are_good_prints : Nat) : Fn := ⟨2, 2,
  (.seq (.ex (.call i_need_yard (.cons (.var 0) .nil)))
  (.ret (.call i_are_good_prints (.cons (.var 0) (.cons (.var 1) .nil)))))⟩
/-- a step of a walk: none, or by a lane -/
def okStep (ls : List D) (t : D) : Bool := match t with | .tup [x, y] => D.eqv x y || mem t ls | _ => false
def mWalk (sp : List Str) (ls : List Ln) (t : D) : Bool := match t with
  | .lst xs => decide (1 ≤ xs.length ∧ xs.length ≤ 41) && (xs.all (mSpot (sp.map D.str)) && (zipL xs (xs.drop 1)).all (okStep (ls.map ln)))
  | _ => false
theorem mWalk_lst {sp : List Str} {ls : List Ln} {xs : List D} : mWalk sp ls (.lst xs) = (decide (1 ≤ xs.length ∧ xs.length ≤ 41) && (xs.all (mSpot (sp.map D.str)) && (zipL xs (xs.drop 1)).all (okStep (ls.map ln)))) := rfl
theorem cut_one {α : Type} (l : List α) : l.drop (cutAt l.length 1) = l.drop 1 := by
  unfold cutAt
  rw [if_pos (by decide)]
  cases l with
  | nil => rfl
  | cons x r => simp [Nat.min_eq_left]
theorem zip_small {xs : List D} {n : Nat} (h : xs.length ≤ n) : (zipL xs (xs.drop 1)).length ≤ n := by
  rw [zipL_len]; exact Nat.le_trans (Nat.min_le_left _ _) h
section
variable {P : Pg} {k ix i1 i2 i3 i4 i5 i6 i7 : Nat} {sp : List Str} {ls ps : List Ln}
theorem is_good_walk_ok {t : D} (hf : P.fns[ix]? = some (F_is_good_walk i4)) (hs : P.fns[i4]? = some F_is_spot) (y : Yd sp ls) (ht : t.plain lvl = true) : Does P 2 ix [.p (yd sp ls), .p t] (.ok (.d (.bl (mWalk sp ls t)))) [.p (yd sp ls), .p t] := by
  refine does_of hf fun j hj => ?_
  cases t with
  | lst xs =>
    have hp : ∀ x ∈ xs, x.plain 11 = true := fun x hx => plains_iff.mp (by simpa [D.plain] using ht) x hx
    by_cases hl : 1 ≤ xs.length ∧ xs.length ≤ 41
    · obtain ⟨l1, l2⟩ := hl
      have d1 : decide ((1 : Int) ≤ (xs.length : Int)) = true := by simp; omega
      have d2 : decide ((xs.length : Int) ≤ 41) = true := by simp; omega
      have d3 : decide (1 ≤ xs.length ∧ xs.length ≤ 41) = true := decide_eq_true ⟨l1, l2⟩
      have spot : ∀ x ∈ xs, calN P j i4 [.p (.tup (sp.map D.str)), .p x] = some (.ok (.d (.bl (mSpot (sp.map D.str) x))), [.p (.tup (sp.map D.str)), .p x]) := fun x hx => is_spot_ok hs (plain_sps y) (plain_mono (hp x hx)) j (by omega)
      have g0 : subD (yd sp ls) (.int 0) = some (.tup (sp.map D.str)) := rfl
      have g1 : subD (yd sp ls) (.int 1) = some (.tup (ls.map ln)) := rfl
      have c1 := all_pure (C := Cx0 P j) (ρ := [.p (yd sp ls), .p (.lst xs), .x, .x]) (hf := false) (el := .call i4 (.cons (.sub (.var 0) (.int 0)) (.cons (.var 3) .nil))) (it := .seq (.var 1)) (o := 3) (kw := (0, [.s 1])) (xs := xs) (g := mSpot (sp.map D.str)) (by simp [runFn, es_pass, es_seq, es_fin, es_asg, es_asgT, es_ex, es_ifs, es_rais, es_ret, es_par, es_setI, et, ev_var, ev_non, ev_bl, ev_int, ev_str, ev_gi, ev_gs, ev_tup, ev_lst, ev_bin, ev_not, ev_and, ev_or, ev_cmp, ev_chn, ev_ife, ev_sub, ev_slf, ev_slt, ev_call, ev_bi, ev_sset, ev_rev, ev_neg, ev_isi, ev_nil, ev_cons, ev_seq, ev_rng1, ev_zip, R.bind, look, looks, Slot.dat?, Cn.dat, exOf, W.fz, esc, escs, stored, put, lend, giveBack, Slot.free]) (by simp [walked, runFn, es_pass, es_seq, es_fin, es_asg, es_asgT, es_ex, es_ifs, es_rais, es_ret, es_par, es_setI, et, ev_var, ev_non, ev_bl, ev_int, ev_str, ev_gi, ev_gs, ev_tup, ev_lst, ev_bin, ev_not, ev_and, ev_or, ev_cmp, ev_chn, ev_ife, ev_sub, ev_slf, ev_slt, ev_call, ev_bi, ev_sset, ev_rev, ev_neg, ev_isi, ev_nil, ev_cons, ev_seq, ev_rng1, ev_zip, R.bind, look, looks, Slot.dat?, Cn.dat, exOf, W.fz, esc, escs, stored, put, lend, giveBack, Slot.free, wkD, wk0, itemsI]) (by simp [freeIx, Slot.free]) rfl (by simp [big]; omega) (fun x hx => by
        have := spot x hx
        generalize yd sp ls = Y at *
        generalize D.tup (sp.map D.str) = S at *
        simp [runFn, es_pass, es_seq, es_fin, es_asg, es_asgT, es_ex, es_ifs, es_rais, es_ret, es_par, es_setI, et, ev_var, ev_non, ev_bl, ev_int, ev_str, ev_gi, ev_gs, ev_tup, ev_lst, ev_bin, ev_not, ev_and, ev_or, ev_cmp, ev_chn, ev_ife, ev_sub, ev_slf, ev_slt, ev_call, ev_bi, ev_sset, ev_rev, ev_neg, ev_isi, ev_nil, ev_cons, ev_seq, ev_rng1, ev_zip, R.bind, look, looks, Slot.dat?, Cn.dat, exOf, W.fz, esc, escs, stored, put, lend, giveBack, Slot.free, g0, this])
      have hsl : slD true (.lst xs) (.int 1) = some (.m (.c (.l (xs.drop 1)))) := by
        unfold slD
        dsimp only
        rw [if_pos rfl, cut_one]
        exact if_pos (by simp [big]; omega)
      have c2 := all_pure (C := Cx0 P j) (ρ := [.p (yd sp ls), .p (.lst xs), .x, .x]) (hf := false) (el := .or_ (.cmp .eq (.sub (.var 2) (.int 0)) (.sub (.var 2) (.int 1))) (.cmp .isin (.var 2) (.sub (.var 0) (.int 1)))) (it := .zip (.var 1) (.slf (.var 1) (.int 1))) (o := 2) (kw := (5, [.s 1, .m (.c (.l (xs.drop 1)))])) (xs := zipL xs (xs.drop 1)) (g := okStep (ls.map ln)) (by simp [runFn, es_pass, es_seq, es_fin, es_asg, es_asgT, es_ex, es_ifs, es_rais, es_ret, es_par, es_setI, et, ev_var, ev_non, ev_bl, ev_int, ev_str, ev_gi, ev_gs, ev_tup, ev_lst, ev_bin, ev_not, ev_and, ev_or, ev_cmp, ev_chn, ev_ife, ev_sub, ev_slf, ev_slt, ev_call, ev_bi, ev_sset, ev_rev, ev_neg, ev_isi, ev_nil, ev_cons, ev_seq, ev_rng1, ev_zip, R.bind, look, looks, Slot.dat?, Cn.dat, exOf, W.fz, esc, escs, stored, put, lend, giveBack, Slot.free, hsl]) (by simp [walked, runFn, es_pass, es_seq, es_fin, es_asg, es_asgT, es_ex, es_ifs, es_rais, es_ret, es_par, es_setI, et, ev_var, ev_non, ev_bl, ev_int, ev_str, ev_gi, ev_gs, ev_tup, ev_lst, ev_bin, ev_not, ev_and, ev_or, ev_cmp, ev_chn, ev_ife, ev_sub, ev_slf, ev_slt, ev_call, ev_bi, ev_sset, ev_rev, ev_neg, ev_isi, ev_nil, ev_cons, ev_seq, ev_rng1, ev_zip, R.bind, look, looks, Slot.dat?, Cn.dat, exOf, W.fz, esc, escs, stored, put, lend, giveBack, Slot.free, wkD, wk5]) (by simp [freeIx, Slot.free]) rfl (Nat.le_trans (zip_small l2) (by simp [big])) (fun t ht => by
        obtain ⟨a, b, rfl, h1, h2⟩ := zipL_mem ht
        have h2 := List.mem_of_mem_drop h2
        have pa := plain_mono (hp a h1)
        have pb := plain_mono (hp b h2)
        have q1 : cmpD .eq a b = some (D.eqv a b) := by unfold cmpD; dsimp only; rw [pa, pb]; rfl
        have q2 : cmpD .isin (.tup [a, b]) (.tup (ls.map ln)) = some (mem (.tup [a, b]) (ls.map ln)) := by
          have p1 : (D.tup [a, b]).plain lvl = true := plain_tup (n := 11) fun x hx => by
            rcases List.mem_cons.mp hx with rfl | hx
            · exact hp _ h1
            · rw [List.mem_singleton.mp hx]; exact hp _ h2
          unfold cmpD; dsimp only
          rw [p1, plain_lns y (n := 11)]; rfl
        have s0 : subD (.tup [a, b]) (.int 0) = some a := rfl
        have s1 : subD (.tup [a, b]) (.int 1) = some b := rfl
        have eo : okStep (ls.map ln) (.tup [a, b]) = (D.eqv a b || mem (.tup [a, b]) (ls.map ln)) := rfl
        rw [eo]
        generalize D.tup [a, b] = T at *
        generalize yd sp ls = Y at *
        generalize D.tup (ls.map ln) = S at *
        cases hv : D.eqv a b with
        | true =>
          rw [hv] at q1
          simp [runFn, es_pass, es_seq, es_fin, es_asg, es_asgT, es_ex, es_ifs, es_rais, es_ret, es_par, es_setI, et, ev_var, ev_non, ev_bl, ev_int, ev_str, ev_gi, ev_gs, ev_tup, ev_lst, ev_bin, ev_not, ev_and, ev_or, ev_cmp, ev_chn, ev_ife, ev_sub, ev_slf, ev_slt, ev_call, ev_bi, ev_sset, ev_rev, ev_neg, ev_isi, ev_nil, ev_cons, ev_seq, ev_rng1, ev_zip, R.bind, look, looks, Slot.dat?, Cn.dat, exOf, W.fz, esc, escs, stored, put, lend, giveBack, Slot.free, s0, s1, q1]
        | false =>
          rw [hv] at q1
          simp [runFn, es_pass, es_seq, es_fin, es_asg, es_asgT, es_ex, es_ifs, es_rais, es_ret, es_par, es_setI, et, ev_var, ev_non, ev_bl, ev_int, ev_str, ev_gi, ev_gs, ev_tup, ev_lst, ev_bin, ev_not, ev_and, ev_or, ev_cmp, ev_chn, ev_ife, ev_sub, ev_slf, ev_slt, ev_call, ev_bi, ev_sset, ev_rev, ev_neg, ev_isi, ev_nil, ev_cons, ev_seq, ev_rng1, ev_zip, R.bind, look, looks, Slot.dat?, Cn.dat, exOf, W.fz, esc, escs, stored, put, lend, giveBack, Slot.free, s0, s1, q1, g1, q2])
      rw [mWalk_lst, d3, Bool.true_and]
      generalize (zipL xs (xs.drop 1)).all (okStep (ls.map ln)) = B2 at c2 ⊢
      generalize xs.all (mSpot (sp.map D.str)) = B1 at c1 ⊢
      generalize yd sp ls = Y at *
      cases B1 <;> simp [F_is_good_walk, runFn, es_pass, es_seq, es_fin, es_asg, es_asgT, es_ex, es_ifs, es_rais, es_ret, es_par, es_setI, et, ev_var, ev_non, ev_bl, ev_int, ev_str, ev_gi, ev_gs, ev_tup, ev_lst, ev_bin, ev_not, ev_and, ev_or, ev_cmp, ev_chn, ev_ife, ev_sub, ev_slf, ev_slt, ev_call, ev_bi, ev_sset, ev_rev, ev_neg, ev_isi, ev_nil, ev_cons, ev_seq, ev_rng1, ev_zip, R.bind, look, looks, Slot.dat?, Cn.dat, exOf, W.fz, esc, escs, stored, put, lend, giveBack, Slot.free, isiD, cmpD, biD, biLen, c1, c2, d1, d2]
    · have d3 : decide (1 ≤ xs.length ∧ xs.length ≤ 41) = false := decide_eq_false hl
      rw [mWalk_lst, d3, Bool.false_and]
      generalize yd sp ls = Y at *
      by_cases l1 : 1 ≤ xs.length
      · have d1 : decide ((1 : Int) ≤ (xs.length : Int)) = true := by simp; omega
        have d2 : decide ((xs.length : Int) ≤ 41) = false := by simp; omega
        simp [F_is_good_walk, runFn, es_pass, es_seq, es_fin, es_asg, es_asgT, es_ex, es_ifs, es_rais, es_ret, es_par, es_setI, et, ev_var, ev_non, ev_bl, ev_int, ev_str, ev_gi, ev_gs, ev_tup, ev_lst, ev_bin, ev_not, ev_and, ev_or, ev_cmp, ev_chn, ev_ife, ev_sub, ev_slf, ev_slt, ev_call, ev_bi, ev_sset, ev_rev, ev_neg, ev_isi, ev_nil, ev_cons, ev_seq, ev_rng1, ev_zip, R.bind, look, looks, Slot.dat?, Cn.dat, exOf, W.fz, esc, escs, stored, put, lend, giveBack, Slot.free, isiD, cmpD, biD, biLen, d1, d2]
      · have d1 : decide ((1 : Int) ≤ (xs.length : Int)) = false := by simp; omega
        simp [F_is_good_walk, runFn, es_pass, es_seq, es_fin, es_asg, es_asgT, es_ex, es_ifs, es_rais, es_ret, es_par, es_setI, et, ev_var, ev_non, ev_bl, ev_int, ev_str, ev_gi, ev_gs, ev_tup, ev_lst, ev_bin, ev_not, ev_and, ev_or, ev_cmp, ev_chn, ev_ife, ev_sub, ev_slf, ev_slt, ev_call, ev_bi, ev_sset, ev_rev, ev_neg, ev_isi, ev_nil, ev_cons, ev_seq, ev_rng1, ev_zip, R.bind, look, looks, Slot.dat?, Cn.dat, exOf, W.fz, esc, escs, stored, put, lend, giveBack, Slot.free, isiD, cmpD, biD, biLen, d1]
  | dct _ => simp [D.plain] at ht
  | set _ => simp [D.plain] at ht
  | exc _ => simp [D.plain] at ht
  | _ => simp [F_is_good_walk, runFn, es_pass, es_seq, es_fin, es_asg, es_asgT, es_ex, es_ifs, es_rais, es_ret, es_par, es_setI, et, ev_var, ev_non, ev_bl, ev_int, ev_str, ev_gi, ev_gs, ev_tup, ev_lst, ev_bin, ev_not, ev_and, ev_or, ev_cmp, ev_chn, ev_ife, ev_sub, ev_slf, ev_slt, ev_call, ev_bi, ev_sset, ev_rev, ev_neg, ev_isi, ev_nil, ev_cons, ev_seq, ev_rng1, ev_zip, R.bind, look, looks, Slot.dat?, Cn.dat, exOf, W.fz, esc, escs, stored, put, lend, giveBack, Slot.free, isiD, mWalk]
theorem need_walk_ok {t : D} (hf : P.fns[ix]? = some (F_need_walk i5)) (h5 : P.fns[i5]? = some (F_is_good_walk i4)) (hs : P.fns[i4]? = some F_is_spot) (y : Yd sp ls) (ht : t.plain lvl = true) :
    Does P 3 ix [.p (yd sp ls), .p t] (if mWalk sp ls t = true then .ok (.d .non) else .error 4) [.p (yd sp ls), .p t] := by
  refine does_of hf fun j hj => ?_
  have e1 := is_good_walk_ok h5 hs y ht j hj
  generalize yd sp ls = Y at *
  cases hm : mWalk sp ls t <;> (rw [hm] at e1; simp [F_need_walk, runFn, es_pass, es_seq, es_fin, es_asg, es_asgT, es_ex, es_ifs, es_rais, es_ret, es_par, es_setI, et, ev_var, ev_non, ev_bl, ev_int, ev_str, ev_gi, ev_gs, ev_tup, ev_lst, ev_bin, ev_not, ev_and, ev_or, ev_cmp, ev_chn, ev_ife, ev_sub, ev_slf, ev_slt, ev_call, ev_bi, ev_sset, ev_rev, ev_neg, ev_isi, ev_nil, ev_cons, ev_seq, ev_rng1, ev_zip, R.bind, look, looks, Slot.dat?, Cn.dat, exOf, W.fz, esc, escs, stored, put, lend, giveBack, Slot.free, e1])
end
end Mi
set_option Elab.async false
set_option linter.all false
set_option maxRecDepth 100000
set_option maxHeartbeats 4000000
/-! MkK: the prints that a walk leaves. -/
namespace Mi
open PySem
/-- left_by_walk: walk pair -/
def F_left_by_walk : Fn := ⟨1, 2,
  (.ret (.bi .tuple (.cons (.sset (.cons (.cmp1 true (.var 1) (.n 1) (.zip (.var 0) (.slf (.var 0) (.int 1))) (.cmp .ne (.sub (.var 1) (.int 0)) (.sub (.var 1) (.int 1))) [1]) .nil)) .nil)))⟩
/-- prints_of: yard walk -/
def F_prints_of (i_need_yard : Nat) (i_need_walk : Nat) (i_left_by_walk : Nat) : Fn := ⟨2, 2,
  (.seq (.ex (.call i_need_yard (.cons (.var 0) .nil)))
  (.seq (.ex (.call i_need_walk (.cons (.var 0) (.cons (.var 1) .nil))))
  (.ret (.call i_left_by_walk (.cons (.var 1) .nil)))))⟩
/-- _law_left: _law_walk _law_one _law_other -/
def F__law_left : Fn := ⟨1, 3,
  (.ret (.bi .tuple (.cons (.sset (.cons (.cmp1 true (.tup (.cons (.var 1) (.cons (.var 2) .nil))) (.t (.cons (.n 1) (.cons (.n 2) .nil))) (.zip (.var 0) (.slf (.var 0) (.int 1))) (.cmp .ne (.var 1) (.var 2)) [1, 2]) .nil)) .nil)))⟩
/-- _law_both: _law_one _law_other -/
def F__law_both : Fn := ⟨2, 2,
  (.ret (.bi .tuple (.cons (.sset (.cons (.bin .add (.var 0) (.var 1)) .nil)) .nil)))⟩
def dedL : List Ln → List Ln
  | [] => []
  | p :: r => if p ∈ r then dedL r else p :: dedL r
theorem dedL_map : ∀ ps : List Ln, dedup (ps.map ln) = (dedL ps).map ln
  | [] => rfl
  | p :: r => by
    rw [List.map_cons, dedup, mem_ln, dedL, dedL_map r]
    by_cases h : p ∈ r <;> simp [h]
theorem dedL_mem : ∀ {ps : List Ln} {p : Ln}, p ∈ dedL ps ↔ p ∈ ps
  | [], p => by simp [dedL]
  | q :: r, p => by
    rw [dedL]
    split
    · rename_i h
      rw [dedL_mem, List.mem_cons]
      exact ⟨.inr, fun z => z.elim (fun e => e ▸ h) id⟩
    · rw [List.mem_cons, List.mem_cons, dedL_mem]
theorem dedL_nodup : ∀ {ps : List Ln}, (dedL ps).Nodup
  | [] => by simp [dedL]
  | q :: r => by
    rw [dedL]
    split
    · exact dedL_nodup
    · rename_i h
      exact List.nodup_cons.mpr ⟨fun z => h (dedL_mem.mp z), dedL_nodup⟩
/-- sorted, each once -/
def srt (ps : List Ln) : List Ln := (dedL ps).mergeSort keyLe
theorem srt_mem {ps : List Ln} {p : Ln} : p ∈ srt ps ↔ p ∈ ps := by
  unfold srt
  rw [(List.mergeSort_perm _ _).mem_iff, dedL_mem]
theorem srt_nodup {ps : List Ln} : (srt ps).Nodup := (List.mergeSort_perm _ _).nodup_iff.mpr dedL_nodup
theorem srt_rise {ps : List Ln} (hf : ∀ p ∈ ps, Fv p) : (srt ps).Pairwise fun p q => D.lt (ln p) (ln q) = true := sorted_lt (fun p hp => hf p (dedL_mem.mp hp)) dedL_nodup
theorem srt_one {a b : List Ln} (hf : ∀ p ∈ a, Fv p) (h : ∀ p, p ∈ a ↔ p ∈ b) : srt a = srt b := by
  refine List.Perm.eq_of_pairwise (le := fun p q => key p ≤ key q) (fun p q hp hq h1 h2 => ?_) sorted_key sorted_key ((List.perm_ext_iff_of_nodup srt_nodup srt_nodup).mpr fun p => by rw [srt_mem, srt_mem, h])
  have hp := srt_mem.mp hp
  have hq := (h q).mpr (srt_mem.mp hq)
  exact key_inj (hf p hp) (hf q hq) (Nat.le_antisymm h1 h2)
theorem leB_ln {ps : List Ln} (hf : ∀ p ∈ ps, Fv p) : (ps.map ln).mergeSort D.leB = (ps.mergeSort keyLe).map ln := by
  refine (List.map_mergeSort (fun p hp q hq => ?_)).symm
  unfold keyLe D.leB
  rw [lt_key (hf q hq) (hf p hp)]
  by_cases c : key q < key p
  · rw [decide_eq_true c, decide_eq_false (by omega)]; rfl
  · rw [decide_eq_false c, decide_eq_true (by omega)]; rfl
theorem sortOk_ln {ps : List Ln} (hf : ∀ p ∈ ps, Fv p) : sortOk (ps.map ln) = true := by
  unfold sortOk allAlike
  simp only [Bool.and_eq_true, List.all_eq_true, Bool.or_eq_true]
  refine ⟨fun x hx => ?_, .inl fun x hx => ?_⟩
  · obtain ⟨p, hp, rfl⟩ := List.mem_map.mp hx
    refine ⟨plain_fv (n := 11) (hf p hp), fun y hy => ?_⟩
    obtain ⟨q, hq, rfl⟩ := List.mem_map.mp hy
    rfl
  · obtain ⟨p, hp, rfl⟩ := List.mem_map.mp hx
    rfl
theorem rises_ln : ∀ {ps : List Ln}, (∀ p ∈ ps, Fv p) → ps.Pairwise (fun p q => key p < key q) → risesB (ps.map ln) = true
  | [], _, _ => rfl
  | p :: r, hf, h => by
    obtain ⟨h1, h2⟩ := List.pairwise_cons.mp h
    have hp := hf p (by simp)
    rw [List.map_cons, risesB, lt_key hp hp, rises_ln (fun q hq => hf q (by simp [hq])) h2]
    have : ((r.map ln).all fun y => D.lt (ln p) y && !D.lt y (ln p)) = true := by
      rw [List.all_eq_true]
      intro y hy
      obtain ⟨q, hq, rfl⟩ := List.mem_map.mp hy
      have hq' := hf q (by simp [hq])
      have := h1 q hq
      rw [lt_key hp hq', lt_key hq' hp, decide_eq_true this, decide_eq_false (by omega)]
      rfl
    rw [this]
    simp
theorem sset_ln {ps : List Ln} (hf : ∀ p ∈ ps, Fv p) (hb : ps.length < 64) : ssetD [.lst (ps.map ln)] = some (.m (.c (.l ((srt ps).map ln)))) ∧ ssetD [.tup (ps.map ln)] = some (.m (.c (.l ((srt ps).map ln)))) := by
  have hd : ∀ p ∈ dedL ps, Fv p := fun p hp => hf p (dedL_mem.mp hp)
  have e1 : (dedup (ps.map ln)).mergeSort D.leB = (srt ps).map ln := by rw [dedL_map, leB_ln hd]; rfl
  have e2 : (srt ps).length ≤ ps.length := nodup_len srt_nodup fun p hp => srt_mem.mp hp
  have ok : setOk (ps.map ln) = true := by
    unfold setOk
    rw [e1, sortOk_ln hf, List.length_map, decide_eq_true hb]
    have a1 : ((ps.map ln).all fun x => x.isTup && x.firm 8) = true := by
      rw [List.all_eq_true]
      intro x hx
      obtain ⟨p, _, rfl⟩ := List.mem_map.mp hx
      simp [ln, D.isTup, D.firm, D.firms]
    have a2 : risesB ((srt ps).map ln) = true := by
      refine rises_ln (fun p hp => hf p (srt_mem.mp hp)) (List.pairwise_iff_forall_sublist.mpr fun {p q} hs => ?_)
      have b1 := List.pairwise_iff_forall_sublist.mp (sorted_key (ls := dedL ps)) hs
      have b2 := List.pairwise_iff_forall_sublist.mp (srt_nodup (ps := ps)) hs
      have := srt_mem.mp (hs.subset (a := p) (by simp))
      have := srt_mem.mp (hs.subset (a := q) (by simp))
      have : key p ≠ key q := fun e => b2 (key_inj (hf p (by assumption)) (hf q (by assumption)) e)
      omega
    rw [a1, a2]
    rfl
  have len : ((srt ps).map ln).length ≤ big := by rw [List.length_map]; simp [big]; omega
  constructor <;> (unfold ssetD; dsimp only; rw [if_pos ok, e1]; exact if_pos len)
/-- the steps of a walk, the stays left out -/
def steps (Z : List Str) : List Ln := (Z.zip (Z.drop 1)).filter fun p => !(p.1 == p.2)
theorem zipL_str : ∀ Z V : List Str, zipL (Z.map D.str) (V.map D.str) = (Z.zip V).map ln
  | [], _ => by simp [zipL]
  | x :: Z, [] => by simp [zipL]
  | x :: Z, y :: V => by
    simp only [List.map_cons, zipL, List.zip_cons_cons]
    rw [zipL_str Z V]
    rfl
def stepD (t : D) : Option D := match t with | .tup [a, b] => if D.eqv a b then none else some t | _ => none
theorem stepD_map : ∀ ps : List Ln, (ps.map ln).filterMap stepD = (ps.filter fun p => !(p.1 == p.2)).map ln
  | [] => rfl
  | p :: r => by
    have e : stepD (ln p) = if p.1 == p.2 then none else some (ln p) := by
      show (if D.eqv (.str p.1) (.str p.2) = true then none else some (ln p)) = _
      rw [eqv_str]
    rw [List.map_cons, List.filterMap_cons, e, stepD_map r, List.filter_cons]
    cases h : p.1 == p.2 <;> simp
section
variable {P : Pg} {k ix i1 i2 i3 i4 i5 i6 i7 : Nat} {sp : List Str} {ls ps : List Ln} {Z : List Str}
theorem steps_fv (h : ∀ x ∈ Z, x ∈ five) : ∀ p ∈ steps Z, Fv p := fun p hp => by
  obtain ⟨h1, _⟩ := List.mem_filter.mp hp
  exact ⟨h _ (List.of_mem_zip h1).1, h _ (List.mem_of_mem_drop (List.of_mem_zip h1).2)⟩
theorem steps_len : (steps Z).length ≤ Z.length := Nat.le_trans (List.length_filter_le _ _) (by rw [List.length_zip]; exact Nat.min_le_left _ _)
theorem zip_all {C : Ctx} (h : ∀ x ∈ Z, x ∈ five) (l : Z.length ≤ 50) {el c : E} {g : Tg} {own : List Nat} {ρ : Env} (hρ : ρ[0]? = some (.p (.lst (Z.map D.str)))) (h0 : killAll ρ own = ρ)
    (hs : ∀ p : Ln, Fv p → ∃ ρ', step0 C el g c (ln p) ρ = some (.ok (stepD (ln p)) ρ') ∧ killAll ρ' own = ρ) (hbk : backAll ρ ρ own = ρ) :
    evE C (.sset (.cons (.cmp1 true el g (.zip (.var 0) (.slf (.var 0) (.int 1))) c own) .nil)) ρ = some (.ok (.m (.c (.l ((srt (steps Z)).map ln)))) ρ) := by
  have hv : evE C (.var 0) ρ = some (.ok (.s 0) ρ) := by rw [ev_var, hρ]
  have hsl : slD true (.lst (Z.map D.str)) (.int 1) = some (.m (.c (.l ((Z.drop 1).map D.str)))) := by
    unfold slD
    dsimp only
    rw [if_pos rfl, cut_one, List.map_drop]
    exact if_pos (by simp [big]; omega)
  have hz : zipL (Z.map D.str) (Z.map D.str).tail = (Z.zip Z.tail).map ln := by simpa using zipL_str Z (Z.drop 1)
  have lk : look ρ (.s 0) = some (.lst (Z.map D.str)) := by simp [look, hρ, Slot.dat?, Cn.dat]
  have hI : evI C (.zip (.var 0) (.slf (.var 0) (.int 1))) ρ = some (.ok (5, [.s 0, .m (.c (.l ((Z.drop 1).map D.str)))]) ρ) := by
    have e1 : looks ρ [(W.s 0).fz, (W.d (.int 1)).fz] = some [.lst (Z.map D.str), .int 1] := by simp only [W.fz, looks, lk]; rfl
    rw [ev_zip, hv]
    simp only [R.bind, ev_slf, hv, ev_int]
    rw [e1]
    simp only [hsl, Option.map_some]
  have hc := cmp1_pure (C := C) (hf := true) (el := el) (c := c) (g := g) (own := own) (ρ := ρ) (ρ1 := ρ) (kw := (5, [.s 0, .m (.c (.l ((Z.drop 1).map D.str)))])) (xs := (Z.zip (Z.drop 1)).map ln) (f := stepD) (ρ0 := ρ) hI
    (by simp [walked, W.fz, looks, hρ, Slot.dat?, look, wkD, wk5, hz, Cn.dat]) (by simp [big]; omega) (by simp [freeIx, hρ, Slot.free]; rw [show killAll ρ [] = ρ from rfl, h0]) (fun x hx => by
      obtain ⟨p, hp, rfl⟩ := List.mem_map.mp hx
      exact hs p ⟨h _ (List.of_mem_zip hp).1, h _ (List.mem_of_mem_drop (List.of_mem_zip hp).2)⟩)
  rw [stepD_map] at hc
  have e3 := (sset_ln (steps_fv h) (by have := steps_len (Z := Z); omega)).1
  have fr : freeIx ρ [.s 0, .m (.c (.l ((Z.drop 1).map D.str)))] = [] := by simp [freeIx, hρ, Slot.free]
  simp only [fr, List.append_nil, hbk] at hc
  rw [ev_sset, ev_cons, hc]
  simp only [R.bind, ev_nil]
  have : looks ρ ([W.m (.c (.l ((steps Z).map ln)))].map W.fz) = some [.lst ((steps Z).map ln)] := by simp [looks, look, W.fz, Cn.dat]
  show (match looks ρ ([W.m (.c (.l ((steps Z).map ln)))].map W.fz) with | some ds => (ssetD ds).map fun w => Rs.ok w ρ | none => none) = _
  rw [this]
  simp only [e3, Option.map_some]
theorem tup_big (hb : ps.length ≤ 1000) : newT (ps.map ln) = some (.d (pr ps)) := by
  unfold newT pr
  exact if_pos (by rw [List.length_map]; simp [big]; omega)
theorem srt_len : (srt ps).length ≤ ps.length := nodup_len srt_nodup fun p hp => srt_mem.mp hp
theorem left_ok (hf : P.fns[ix]? = some F_left_by_walk) (h : ∀ x ∈ Z, x ∈ five) (l : Z.length ≤ 50) : Does P 1 ix [.p (.lst (Z.map D.str))] (.ok (.d (pr (srt (steps Z))))) [.p (.lst (Z.map D.str))] := by
  refine does_cs hf fun C hC => ?_
  have e := zip_all (C := C) h l (el := .var 1) (c := .cmp .ne (.sub (.var 1) (.int 0)) (.sub (.var 1) (.int 1))) (g := .n 1) (own := [1]) (ρ := [.p (.lst (Z.map D.str)), .x]) rfl (by simp [killAll]) (fun p hp => by
    refine ⟨[.p (.lst (Z.map D.str)), .p (ln p)], ?_, by simp [killAll]⟩
    have s0 : subD (ln p) (.int 0) = some (.str p.1) := rfl
    have s1 : subD (ln p) (.int 1) = some (.str p.2) := rfl
    have c1 : cmpD .ne (.str p.1) (.str p.2) = some (!(p.1 == p.2)) := by
      unfold cmpD; dsimp only
      rw [plain_str (okS_five hp.1), plain_str (okS_five hp.2), eqv_str]; rfl
    have e1 : stepD (ln p) = if p.1 == p.2 then none else some (ln p) := by
      show (if D.eqv (.str p.1) (.str p.2) = true then none else some (ln p)) = _
      rw [eqv_str]
    rw [e1]
    generalize ln p = T at *
    generalize D.lst (Z.map D.str) = Y
    cases hv : p.1 == p.2 <;> (rw [hv] at c1; simp [step0, asT, runFn, es_pass, es_seq, es_fin, es_asg, es_asgT, es_ex, es_ifs, es_rais, es_ret, es_par, es_setI, et, ev_var, ev_non, ev_bl, ev_int, ev_str, ev_gi, ev_gs, ev_tup, ev_lst, ev_bin, ev_not, ev_and, ev_or, ev_cmp, ev_chn, ev_ife, ev_sub, ev_slf, ev_slt, ev_call, ev_bi, ev_sset, ev_rev, ev_neg, ev_isi, ev_nil, ev_cons, ev_seq, ev_rng1, ev_zip, R.bind, look, looks, Slot.dat?, Cn.dat, exOf, W.fz, esc, escs, stored, put, lend, giveBack, Slot.free, s0, s1, c1])) rfl
  have l2 := steps_len (Z := Z)
  have l3 := srt_len (ps := steps Z)
  have e2 := tup_big (ps := srt (steps Z)) (by omega)
  generalize (srt (steps Z)).map ln = X at e e2
  generalize pr (srt (steps Z)) = Q at e2 ⊢
  generalize D.lst (Z.map D.str) = Y at e ⊢
  simp [F_left_by_walk, runFn, es_pass, es_seq, es_fin, es_asg, es_asgT, es_ex, es_ifs, es_rais, es_ret, es_par, es_setI, et, ev_var, ev_non, ev_bl, ev_int, ev_str, ev_gi, ev_gs, ev_tup, ev_lst, ev_bin, ev_not, ev_and, ev_or, ev_cmp, ev_chn, ev_ife, ev_sub, ev_slf, ev_slt, ev_call, ev_bi, ev_sset, ev_rev, ev_neg, ev_isi, ev_nil, ev_cons, ev_seq, ev_rng1, ev_zip, R.bind, look, looks, Slot.dat?, Cn.dat, exOf, W.fz, esc, escs, stored, put, lend, giveBack, Slot.free, e, biD, biTuple, e2]
theorem law_left_ok (hf : P.fns[ix]? = some F__law_left) (h : ∀ x ∈ Z, x ∈ five) (l : Z.length ≤ 50) : Does P 1 ix [.p (.lst (Z.map D.str))] (.ok (.d (pr (srt (steps Z))))) [.p (.lst (Z.map D.str))] := by
  refine does_cs hf fun C hC => ?_
  have e := zip_all (C := C) h l (el := .tup (.cons (.var 1) (.cons (.var 2) .nil))) (c := .cmp .ne (.var 1) (.var 2)) (g := .t (.cons (.n 1) (.cons (.n 2) .nil))) (own := [1, 2]) (ρ := [.p (.lst (Z.map D.str)), .x, .x]) rfl (by simp [killAll]) (fun p hp => by
    refine ⟨[.p (.lst (Z.map D.str)), .p (.str p.1), .p (.str p.2)], ?_, by simp [killAll]⟩
    have c1 : cmpD .ne (.str p.1) (.str p.2) = some (!(p.1 == p.2)) := by
      unfold cmpD; dsimp only
      rw [plain_str (okS_five hp.1), plain_str (okS_five hp.2), eqv_str]; rfl
    have e1 : stepD (ln p) = if p.1 == p.2 then none else some (ln p) := by
      show (if D.eqv (.str p.1) (.str p.2) = true then none else some (ln p)) = _
      rw [eqv_str]
    rw [e1]
    generalize D.lst (Z.map D.str) = Y
    cases hv : p.1 == p.2 <;> (rw [hv] at c1; simp [step0, asT, asTs, ln, runFn, es_pass, es_seq, es_fin, es_asg, es_asgT, es_ex, es_ifs, es_rais, es_ret, es_par, es_setI, et, ev_var, ev_non, ev_bl, ev_int, ev_str, ev_gi, ev_gs, ev_tup, ev_lst, ev_bin, ev_not, ev_and, ev_or, ev_cmp, ev_chn, ev_ife, ev_sub, ev_slf, ev_slt, ev_call, ev_bi, ev_sset, ev_rev, ev_neg, ev_isi, ev_nil, ev_cons, ev_seq, ev_rng1, ev_zip, R.bind, look, looks, Slot.dat?, Cn.dat, exOf, W.fz, esc, escs, stored, put, lend, giveBack, Slot.free, c1, newT, big])) rfl
  have l2 := steps_len (Z := Z)
  have l3 := srt_len (ps := steps Z)
  have e2 := tup_big (ps := srt (steps Z)) (by omega)
  generalize (srt (steps Z)).map ln = X at e e2
  generalize pr (srt (steps Z)) = Q at e2 ⊢
  generalize D.lst (Z.map D.str) = Y at e ⊢
  simp [F__law_left, runFn, es_pass, es_seq, es_fin, es_asg, es_asgT, es_ex, es_ifs, es_rais, es_ret, es_par, es_setI, et, ev_var, ev_non, ev_bl, ev_int, ev_str, ev_gi, ev_gs, ev_tup, ev_lst, ev_bin, ev_not, ev_and, ev_or, ev_cmp, ev_chn, ev_ife, ev_sub, ev_slf, ev_slt, ev_call, ev_bi, ev_sset, ev_rev, ev_neg, ev_isi, ev_nil, ev_cons, ev_seq, ev_rng1, ev_zip, R.bind, look, looks, Slot.dat?, Cn.dat, exOf, W.fz, esc, escs, stored, put, lend, giveBack, Slot.free, e, biD, biTuple, e2]
theorem law_both_ok {p1 p2 : List Ln} (hf : P.fns[ix]? = some F__law_both) (h1 : ∀ p ∈ p1, Fv p) (h2 : ∀ p ∈ p2, Fv p) (l : p1.length + p2.length ≤ 60) : Does P 1 ix [.p (pr p1), .p (pr p2)] (.ok (.d (pr (srt (p1 ++ p2))))) [.p (pr p1), .p (pr p2)] := by
  refine does_cs hf fun C hC => ?_
  have l3 := srt_len (ps := p1 ++ p2)
  rw [List.length_append] at l3
  have e2 := tup_big (ps := srt (p1 ++ p2)) (by omega)
  have e3 := (sset_ln (ps := p1 ++ p2) (fun p hp => (List.mem_append.mp hp).elim (h1 p) (h2 p)) (by rw [List.length_append]; omega)).2
  have e4 : bin .add (pr p1) (pr p2) = some (.d (.tup ((p1 ++ p2).map ln))) := by
    unfold bin pr
    dsimp only
    rw [← List.map_append]
    exact if_pos (by rw [List.length_map, List.length_append]; simp [big]; omega)
  generalize (srt (p1 ++ p2)).map ln = X at e2 e3
  generalize D.tup ((p1 ++ p2).map ln) = X2 at e3 e4
  generalize pr (srt (p1 ++ p2)) = Q at e2 ⊢
  generalize pr p1 = Q1 at *
  generalize pr p2 = Q2 at *
  simp [F__law_both, runFn, es_pass, es_seq, es_fin, es_asg, es_asgT, es_ex, es_ifs, es_rais, es_ret, es_par, es_setI, et, ev_var, ev_non, ev_bl, ev_int, ev_str, ev_gi, ev_gs, ev_tup, ev_lst, ev_bin, ev_not, ev_and, ev_or, ev_cmp, ev_chn, ev_ife, ev_sub, ev_slf, ev_slt, ev_call, ev_bi, ev_sset, ev_rev, ev_neg, ev_isi, ev_nil, ev_cons, ev_seq, ev_rng1, ev_zip, R.bind, look, looks, Slot.dat?, Cn.dat, exOf, W.fz, esc, escs, stored, put, lend, giveBack, Slot.free, e4, e3, biD, biTuple, e2]
end
end Mi
set_option Elab.async false
set_option linter.all false
set_option maxRecDepth 100000
set_option maxHeartbeats 4000000
/-! MkL: walks of a yard; one is drawn. -/
namespace Mi
open PySem
/-- _law_any_walk: _law_dice _law_yard _law_high _law_walk _law_turn _law_some _law_one _law_other -/
def F__law_any_walk (i__law_roll : Nat) : Fn := ⟨3, 8,
  (.seq (.asg false 3 (.lst (.cons (.sub (.sub (.var 1) (.int 0)) (.call i__law_roll (.cons (.var 0) (.cons (.bi .len (.cons (.sub (.var 1) (.int 0)) .nil)) .nil)))) .nil)))
  (.seq (.for_ (.n 4) (.rng1 (.call i__law_roll (.cons (.var 0) (.cons (.bin .add (.var 2) (.int 1)) .nil))))
  (.fin (.seq (.asg true 5 (.bin .add (.lst (.cons (.sub (.var 3) (.neg (.int 1))) .nil)) (.cmp1 true (.var 7) (.t (.cons (.n 6) (.cons (.n 7) .nil))) (.seq (.sub (.var 1) (.int 1))) (.cmp .eq (.var 6) (.sub (.var 3) (.neg (.int 1)))) [6, 7])))
  (.ex (.mth .append (.var 3) (.cons (.sub (.var 5) (.call i__law_roll (.cons (.var 0) (.cons (.bi .len (.cons (.var 5) .nil)) .nil)))) .nil)))) [4, 5]))
  (.ret (.var 3))))⟩
/-- a walk of a yard -/
structure Wlk (sp : List Str) (ls : List Ln) (Z : List Str) : Prop where
  one : Z ≠ []
  at_ : ∀ x ∈ Z, x ∈ sp
  by_ : ∀ p ∈ Z.zip (Z.drop 1), p.1 = p.2 ∨ p ∈ ls
theorem zip_snoc {s e : Str} : ∀ Y : List Str, ((Y ++ [s]) ++ [e]).zip (((Y ++ [s]) ++ [e]).drop 1) = (Y ++ [s]).zip ((Y ++ [s]).drop 1) ++ [(s, e)]
  | [] => rfl
  | [y] => rfl
  | y :: y2 :: Y => by
    have := zip_snoc (s := s) (e := e) (y2 :: Y)
    simp only [List.cons_append, List.drop_succ_cons, List.drop_zero, List.zip_cons_cons] at this ⊢
    rw [this]
theorem Wlk.snoc {sp : List Str} {ls : List Ln} {Y : List Str} {s e : Str} (w : Wlk sp ls (Y ++ [s])) (he : e ∈ sp) (h : s = e ∨ (s, e) ∈ ls) : Wlk sp ls ((Y ++ [s]) ++ [e]) := by
  refine ⟨by simp, fun x hx => ?_, fun p hp => ?_⟩
  · rcases List.mem_append.mp hx with z | z
    · exact w.at_ x z
    · rw [List.mem_singleton.mp z]; exact he
  · rw [zip_snoc] at hp
    rcases List.mem_append.mp hp with z | z
    · exact w.by_ p z
    · rw [List.mem_singleton.mp z]; exact h
theorem Wlk.judged {sp : List Str} {ls : List Ln} {Z : List Str} (w : Wlk sp ls Z) (l : Z.length ≤ 41) : mWalk sp ls (.lst (Z.map D.str)) = true := by
  have l1 : 1 ≤ Z.length := Nat.pos_of_ne_zero fun z => w.one (List.length_eq_zero_iff.mp z)
  rw [mWalk_lst, List.length_map, decide_eq_true ⟨l1, l⟩]
  simp only [Bool.true_and, Bool.and_eq_true, List.all_eq_true]
  refine ⟨fun x hx => ?_, fun x hx => ?_⟩
  · obtain ⟨z, hz, rfl⟩ := List.mem_map.mp hx
    rw [mSpot_str]
    exact decide_eq_true (w.at_ z hz)
  · rw [← List.map_drop, zipL_str] at hx
    obtain ⟨p, hp, rfl⟩ := List.mem_map.mp hx
    show (D.eqv (.str p.1) (.str p.2) || mem (ln p) (ls.map ln)) = true
    rw [eqv_str, mem_ln]
    rcases w.by_ p hp with h | h
    · rw [h]; simp
    · simp [h]
theorem Wlk.steps {sp : List Str} {ls : List Ln} {Z : List Str} (w : Wlk sp ls Z) : ∀ p ∈ Mi.steps Z, p ∈ ls := fun p hp => by
  obtain ⟨h1, h2⟩ := List.mem_filter.mp hp
  rcases w.by_ p h1 with h | h
  · rw [h] at h2; simp at h2
  · exact h
def nx (ls : List Ln) (s : Str) : List Str := (ls.filter fun p => p.1 == s).map (·.2)
def nxD (s : Str) (t : D) : Option D := match t with | .tup [.str a, b] => if a == s then some b else none | _ => none
theorem nxD_map {s : Str} : ∀ ls : List Ln, (ls.map ln).filterMap (nxD s) = (nx ls s).map D.str
  | [] => rfl
  | p :: r => by
    have e : nxD s (ln p) = if p.1 == s then some (.str p.2) else none := rfl
    have ih := nxD_map (s := s) r
    unfold nx at ih ⊢
    rw [List.map_cons, List.filterMap_cons, e, ih, List.filter_cons]
    cases h : p.1 == s <;> simp
def wTurn (i1 : Nat) : S := (.fin (.seq (.asg true 5 (.bin .add (.lst (.cons (.sub (.var 3) (.neg (.int 1))) .nil)) (.cmp1 true (.var 7) (.t (.cons (.n 6) (.cons (.n 7) .nil))) (.seq (.sub (.var 1) (.int 1))) (.cmp .eq (.var 6) (.sub (.var 3) (.neg (.int 1)))) [6, 7])))
  (.ex (.mth .append (.var 3) (.cons (.sub (.var 5) (.call i1 (.cons (.var 0) (.cons (.bi .len (.cons (.var 5) .nil)) .nil)))) .nil)))) [4, 5])
theorem sub_last {Y : List Str} {s : Str} : subD (.lst ((Y ++ [s]).map D.str)) (.int (-1)) = some (.str s) := by
  unfold subD at? ixOf
  have h1 : ¬ ((0 : Int) ≤ -1) := by omega
  have h2 : -(((Y ++ [s]).map D.str).length : Int) ≤ -1 := by simp; omega
  have h3 : ((-1 : Int) + (((Y ++ [s]).map D.str).length : Int)).toNat = Y.length := by simp; omega
  simp only [if_neg h1, if_pos h2, h3, Option.bind_some]
  simp
theorem sub_nat {c : List Str} {t : Nat} (h : t < c.length) : subD (.lst (c.map D.str)) (.int (t : Int)) = some (.str c[t]) := by
  unfold subD at? ixOf
  have h1 : (0 : Int) ≤ (t : Int) := by omega
  have h2 : (t : Int) < ((c.map D.str).length : Int) := by simp; omega
  simp only [if_pos h1, if_pos h2, Int.toNat_natCast, Option.bind_some]
  simp [h]
section
variable {P : Pg} {k ix i1 i2 i3 i4 i5 i6 i7 : Nat} {sp : List Str} {ls ps : List Ln} {Z : List Str}
theorem wTurn_ok {m : Nat} {a b : Int} {Y : List Str} {s : Str} {s2 s4 : Slot} (hr : P.fns[i1]? = some (F__law_roll i2)) (hd : P.fns[i2]? = some F__law_drawn) (h : Dk (m + 1) a b) (y : Yd sp ls) (w : Wlk sp ls (Y ++ [s])) (l : (Y ++ [s]).length ≤ 100) :
    ∃ a' b' e, Dk m a' b' ∧ Wlk sp ls ((Y ++ [s]) ++ [e]) ∧ ∀ C, Cs P 2 C → evS C 3 (wTurn i1) [.c (.l [.int a, .int b]), .p (yd sp ls), s2, .c (.l ((Y ++ [s]).map D.str)), s4, .x, .x, .x] =
      some (.nx [.c (.l [.int a', .int b']), .p (yd sp ls), s2, .c (.l (((Y ++ [s]) ++ [e]).map D.str)), .x, .x, .x, .x]) := by
  have l8 := y.len.2
  have hs : s ∈ sp := w.at_ s (by simp)
  have nl : (nx ls s).length ≤ 8 := by unfold nx; rw [List.length_map]; exact Nat.le_trans (List.length_filter_le _ _) l8
  obtain ⟨t, a', b', t0, t1, hk, hc⟩ := roll_ok (ix := i1) (many := (((s :: nx ls s).length : Nat) : Int)) hr hd h (by simp; omega) (by simp; omega)
  obtain ⟨tn, rfl⟩ := Int.eq_ofNat_of_zero_le t0
  have ht : tn < (s :: nx ls s).length := by omega
  have hin : (s :: nx ls s)[tn] = s ∨ (s, (s :: nx ls s)[tn]) ∈ ls := by
    have := List.getElem_mem ht
    rcases List.mem_cons.mp this with e | e
    · exact .inl e
    · generalize (s :: nx ls s)[tn] = z at e
      unfold nx at e
      obtain ⟨p, hp, rfl⟩ := List.mem_map.mp e
      obtain ⟨h1, h2⟩ := List.mem_filter.mp hp
      have h2 := beq_iff_eq.mp h2
      exact .inr (by rw [← h2]; exact h1)
  have hsp : (s :: nx ls s)[tn] ∈ sp := by
    rcases hin with e | e
    · rw [e]; exact hs
    · exact (y.ends _ e).2.1
  refine ⟨a', b', (s :: nx ls s)[tn], hk, w.snoc hsp (hin.imp Eq.symm id), fun C hC => ?_⟩
  have e1 := Cs.cal hc (Nat.le_refl _) hC
  have g1 : subD (yd sp ls) (.int 1) = some (.tup (ls.map ln)) := rfl
  have gl := sub_last (Y := Y) (s := s)
  have hcm := cmp1_pure (C := C) (hf := true) (el := .var 7) (c := .cmp .eq (.var 6) (.sub (.var 3) (.neg (.int 1)))) (g := .t (.cons (.n 6) (.cons (.n 7) .nil))) (it := .seq (.sub (.var 1) (.int 1))) (own := [6, 7])
    (ρ := [.c (.l [.int a, .int b]), .p (yd sp ls), s2, .c (.l ((Y ++ [s]).map D.str)), s4, .x, .x, .x]) (ρ1 := [.c (.l [.int a, .int b]), .p (yd sp ls), s2, .c (.l ((Y ++ [s]).map D.str)), s4, .x, .x, .x]) (kw := (0, [.d (.tup (ls.map ln))])) (xs := ls.map ln) (f := nxD s) (ρ0 := [.c (.l [.int a, .int b]), .p (yd sp ls), s2, .c (.l ((Y ++ [s]).map D.str)), s4, .x, .x, .x])
    (by
      generalize (Y ++ [s]).map D.str = X
      generalize (ls.map ln) = L at *
      generalize yd sp ls = Q at *
      simp [runFn, es_pass, es_seq, es_fin, es_asg, es_asgT, es_ex, es_ifs, es_rais, es_ret, es_par, es_setI, et, ev_var, ev_non, ev_bl, ev_int, ev_str, ev_gi, ev_gs, ev_tup, ev_lst, ev_bin, ev_not, ev_and, ev_or, ev_cmp, ev_chn, ev_ife, ev_sub, ev_slf, ev_slt, ev_call, ev_bi, ev_sset, ev_rev, ev_neg, ev_isi, ev_nil, ev_cons, ev_seq, ev_rng1, ev_zip, R.bind, look, looks, Slot.dat?, Cn.dat, exOf, W.fz, esc, escs, stored, put, lend, giveBack, Slot.free, g1]) (by simp [walked, runFn, es_pass, es_seq, es_fin, es_asg, es_asgT, es_ex, es_ifs, es_rais, es_ret, es_par, es_setI, et, ev_var, ev_non, ev_bl, ev_int, ev_str, ev_gi, ev_gs, ev_tup, ev_lst, ev_bin, ev_not, ev_and, ev_or, ev_cmp, ev_chn, ev_ife, ev_sub, ev_slf, ev_slt, ev_call, ev_bi, ev_sset, ev_rev, ev_neg, ev_isi, ev_nil, ev_cons, ev_seq, ev_rng1, ev_zip, R.bind, look, looks, Slot.dat?, Cn.dat, exOf, W.fz, esc, escs, stored, put, lend, giveBack, Slot.free, wkD, wk0, itemsI]) (by simp [big]; omega) (by simp [killAll, freeIx]) (fun x hx => by
      obtain ⟨p, hp, rfl⟩ := List.mem_map.mp hx
      obtain ⟨o1, o2, _⟩ := y.ends p hp
      have c1 : cmpD .eq (.str p.1) (.str s) = some (p.1 == s) := by
        unfold cmpD; dsimp only
        rw [plain_str (y.okS _ o1), plain_str (y.okS _ hs), eqv_str]; rfl
      have e : nxD s (ln p) = if p.1 == s then some (.str p.2) else none := rfl
      refine ⟨[.c (.l [.int a, .int b]), .p (yd sp ls), s2, .c (.l ((Y ++ [s]).map D.str)), s4, .x, .p (.str p.1), .p (.str p.2)], ?_, by simp [killAll]⟩
      rw [e]
      generalize (Y ++ [s]).map D.str = X at *
      generalize yd sp ls = Q at *
      cases hv : p.1 == s <;> (rw [hv] at c1; simp [step0, ln, asT, asTs, runFn, es_pass, es_seq, es_fin, es_asg, es_asgT, es_ex, es_ifs, es_rais, es_ret, es_par, es_setI, et, ev_var, ev_non, ev_bl, ev_int, ev_str, ev_gi, ev_gs, ev_tup, ev_lst, ev_bin, ev_not, ev_and, ev_or, ev_cmp, ev_chn, ev_ife, ev_sub, ev_slf, ev_slt, ev_call, ev_bi, ev_sset, ev_rev, ev_neg, ev_isi, ev_nil, ev_cons, ev_seq, ev_rng1, ev_zip, R.bind, look, looks, Slot.dat?, Cn.dat, exOf, W.fz, esc, escs, stored, put, lend, giveBack, Slot.free, gl, c1]))
  rw [nxD_map] at hcm
  simp only [freeIx, List.append_nil, backAll] at hcm
  have ad : bin .add (.lst [.str s]) (.lst ((nx ls s).map D.str)) = some (.m (.c (.l ((s :: nx ls s).map D.str)))) := by
    unfold bin newL
    dsimp only
    exact if_pos (by simp [big]; omega)
  have gt := sub_nat ht
  have ln2 : biLen [.lst ((s :: nx ls s).map D.str)] = some (.d (.int (((s :: nx ls s).length : Nat) : Int))) := by unfold biLen; simp
  have ap : mtL .append ((Y ++ [s]).map D.str) [.str (s :: nx ls s)[tn]] = some (.non, ((Y ++ [s]) ++ [(s :: nx ls s)[tn]]).map D.str) := by
    unfold mtL mtAppend
    dsimp only
    rw [if_pos (by simp [big]; simp at l; omega)]
    simp
  generalize (s :: nx ls s)[tn] = e at *
  generalize ((((s :: nx ls s).length : Nat)) : Int) = NN at *
  generalize (s :: nx ls s).map D.str = X1 at *
  generalize (nx ls s).map D.str = X2 at *
  generalize ((Y ++ [s]) ++ [e]).map D.str = X4 at *
  generalize (Y ++ [s]).map D.str = X3 at *
  generalize yd sp ls = Q at *
  simp at hcm
  simp [wTurn, runFn, es_pass, es_seq, es_fin, es_asg, es_asgT, es_ex, es_ifs, es_rais, es_ret, es_par, es_setI, et, ev_var, ev_non, ev_bl, ev_int, ev_str, ev_gi, ev_gs, ev_tup, ev_lst, ev_bin, ev_not, ev_and, ev_or, ev_cmp, ev_chn, ev_ife, ev_sub, ev_slf, ev_slt, ev_call, ev_bi, ev_sset, ev_rev, ev_neg, ev_isi, ev_nil, ev_cons, ev_seq, ev_rng1, ev_zip, R.bind, look, looks, Slot.dat?, Cn.dat, exOf, W.fz, esc, escs, stored, put, lend, giveBack, Slot.free, ev_mtw (m := .append) rfl, newL, big, gl, hcm, ad, biD, ln2, e1, gt, ap, killAll]
theorem any_walk_ok {m high : Nat} {a b : Int} (hf : P.fns[ix]? = some (F__law_any_walk i1)) (hr : P.fns[i1]? = some (F__law_roll i2)) (hd : P.fns[i2]? = some F__law_drawn) (y : Yd sp ls) (hh : high ≤ 60) (h : Dk (m + (high + 2)) a b) :
    ∃ Z a' b', Wlk sp ls Z ∧ Z.length ≤ high + 1 ∧ Dk m a' b' ∧ Does P 3 ix [.c (.l [.int a, .int b]), .p (yd sp ls), .p (.int high)] (.ok (.m (.c (.l (Z.map D.str))))) [.c (.l [.int a', .int b']), .p (yd sp ls), .p (.int high)] := by
  obtain ⟨spl1, spl2⟩ := y.spl
  obtain ⟨t1, a1, b1, t10, t11, hk1, hc1⟩ := roll_ok (ix := i1) (m := m + (high + 1)) (many := ((sp.length : Nat) : Int)) hr hd h (by omega) (by omega)
  obtain ⟨n1, rfl⟩ := Int.eq_ofNat_of_zero_le t10
  have ht1 : n1 < sp.length := by omega
  obtain ⟨t2, a2, b2, t20, t21, hk2, hc2⟩ := roll_ok (ix := i1) (m := m + high) (many := (high : Int) + 1) hr hd hk1 (by omega) (by omega)
  obtain ⟨n2, rfl⟩ := Int.eq_ofNat_of_zero_le t20
  have w0 : Wlk sp ls ([] ++ [sp[n1]]) := ⟨by simp, fun x hx => by
    have : x = sp[n1] := by simpa using hx
    rw [this]; exact List.getElem_mem ht1, fun p hp => by simp at hp⟩
  obtain ⟨ρ', hloop, Y, s, a3, b3, hρ, w3, l3, hk3⟩ := forL_rel (cs := Cs P 2) (f := fun C x ρ => match asT 3 (.n 4) x ρ with | some ρ => evS C 3 (wTurn i1) ρ | none => none) (xs := rngL 0 1 n2) (done := [])
    (ρ := [.c (.l [.int a2, .int b2]), .p (yd sp ls), .p (.int high), .c (.l (([] ++ [sp[n1]]).map D.str)), .x, .x, .x, .x])
    (fun d ρ => ∃ (Y : List Str) (s : Str) (a b : Int), ρ = [.c (.l [.int a, .int b]), .p (yd sp ls), .p (.int high), .c (.l ((Y ++ [s]).map D.str)), .x, .x, .x, .x] ∧ Wlk sp ls (Y ++ [s]) ∧ (Y ++ [s]).length = d.length + 1 ∧ Dk (m + (high - d.length)) a b)
    ⟨[], sp[n1], a2, b2, rfl, w0, rfl, hk2⟩ (fun d x r ρ eq ⟨Y, s, a, b, hρ, w, l, hk⟩ => by
      subst hρ
      have hd1 : d.length + 1 ≤ n2 := by
        have := congrArg List.length eq
        rw [List.nil_append, rngL_len] at this
        simp at this
        omega
      obtain ⟨a', b', e, hk', w', hev⟩ := wTurn_ok (m := m + (high - (d.length + 1))) (s2 := .p (.int high)) (s4 := .p x) hr hd (hk.le (by omega)) y w (by omega)
      exact ⟨_, fun C hC => by simp only [asT]; exact hev C hC, Y ++ [s], e, a', b', rfl, w', by rw [List.length_append, l, List.length_append]; rfl, by simpa using hk'⟩)
  rw [List.nil_append, rngL_len] at l3 hk3
  refine ⟨Y ++ [s], a3, b3, w3, by omega, hk3.le (by omega), does_cs hf fun C hC => ?_⟩
  have e1 := Cs.cal hc1 (Nat.le_refl _) hC
  have e2 := Cs.cal hc2 (Nat.le_refl _) hC
  have g0 : subD (yd sp ls) (.int 0) = some (.tup (sp.map D.str)) := rfl
  have g1 : subD (.tup (sp.map D.str)) (.int (n1 : Int)) = some (.str sp[n1]) := by
    have h1 : (0 : Int) ≤ (n1 : Int) := by omega
    have h2 : (n1 : Int) < ((sp.map D.str).length : Int) := by simp; omega
    unfold subD at? ixOf
    simp only [if_pos h1, if_pos h2, Int.toNat_natCast, Option.bind_some]
    simp [ht1]
  have gb : biLen [.tup (sp.map D.str)] = some (.d (.int ((sp.length : Nat) : Int))) := by unfold biLen; simp
  have s1 : evS C 3 (.asg false 3 (.lst (.cons (.sub (.sub (.var 1) (.int 0)) (.call i1 (.cons (.var 0) (.cons (.bi .len (.cons (.sub (.var 1) (.int 0)) .nil)) .nil)))) .nil))) [.c (.l [.int a, .int b]), .p (yd sp ls), .p (.int high), .x, .x, .x, .x, .x] =
      some (.nx [.c (.l [.int a1, .int b1]), .p (yd sp ls), .p (.int high), .c (.l (([] ++ [sp[n1]]).map D.str)), .x, .x, .x, .x]) := by
    have e3 : ([] ++ [sp[n1]]).map D.str = [.str sp[n1]] := rfl
    rw [e3]
    generalize sp[n1] = q at *
    generalize D.tup (sp.map D.str) = X at *
    generalize ((sp.length : Nat) : Int) = N at *
    generalize yd sp ls = Q at *
    simp [runFn, es_pass, es_seq, es_fin, es_asg, es_asgT, es_ex, es_ifs, es_rais, es_ret, es_par, es_setI, et, ev_var, ev_non, ev_bl, ev_int, ev_str, ev_gi, ev_gs, ev_tup, ev_lst, ev_bin, ev_not, ev_and, ev_or, ev_cmp, ev_chn, ev_ife, ev_sub, ev_slf, ev_slt, ev_call, ev_bi, ev_sset, ev_rev, ev_neg, ev_isi, ev_nil, ev_cons, ev_seq, ev_rng1, ev_zip, R.bind, look, looks, Slot.dat?, Cn.dat, exOf, W.fz, esc, escs, stored, put, lend, giveBack, Slot.free, g0, g1, biD, gb, e1, newL, big]
  have s2 : evS C 3 (.for_ (.n 4) (.rng1 (.call i1 (.cons (.var 0) (.cons (.bin .add (.var 2) (.int 1)) .nil)))) (wTurn i1)) [.c (.l [.int a1, .int b1]), .p (yd sp ls), .p (.int high), .c (.l (([] ++ [sp[n1]]).map D.str)), .x, .x, .x, .x] = some (.nx ρ') := by
    have hI : evI C (.rng1 (.call i1 (.cons (.var 0) (.cons (.bin .add (.var 2) (.int 1)) .nil)))) [.c (.l [.int a1, .int b1]), .p (yd sp ls), .p (.int high), .c (.l (([] ++ [sp[n1]]).map D.str)), .x, .x, .x, .x] =
        some (.ok (1, [.d (.int (n2 : Int))]) [.c (.l [.int a2, .int b2]), .p (yd sp ls), .p (.int high), .c (.l (([] ++ [sp[n1]]).map D.str)), .x, .x, .x, .x]) := by
      generalize ([] ++ [sp[n1]]).map D.str = X
      generalize yd sp ls = Q at *
      simp [runFn, es_pass, es_seq, es_fin, es_asg, es_asgT, es_ex, es_ifs, es_rais, es_ret, es_par, es_setI, et, ev_var, ev_non, ev_bl, ev_int, ev_str, ev_gi, ev_gs, ev_tup, ev_lst, ev_bin, ev_not, ev_and, ev_or, ev_cmp, ev_chn, ev_ife, ev_sub, ev_slf, ev_slt, ev_call, ev_bi, ev_sset, ev_rev, ev_neg, ev_isi, ev_nil, ev_cons, ev_seq, ev_rng1, ev_zip, R.bind, look, looks, Slot.dat?, Cn.dat, exOf, W.fz, esc, escs, stored, put, lend, giveBack, Slot.free, badd, e2]
    have hw : wkD 1 [.int (n2 : Int)] = some (rngL 0 1 n2) := by
      have h1 : smallI (n2 : Int) = true := by
        unfold smallI
        exact decide_eq_true (by omega)
      show wk1 [.int (n2 : Int)] = _
      unfold wk1
      dsimp only
      rw [if_pos h1, Int.toNat_natCast]
    rw [ev_for, hI]
    dsimp only [escs, esc]
    rw [hw]
    exact hloop C hC
  subst hρ
  unfold wTurn at s2
  generalize ([] ++ [sp[n1]]).map D.str = X0 at s1 s2
  generalize (Y ++ [s]).map D.str = X at *
  generalize yd sp ls = Q at *
  simp only [F__law_any_walk, runFn, es_seq]
  simp [s1, s2, es_ret, ev_var]
end
end Mi
set_option Elab.async false
set_option linter.all false
set_option maxRecDepth 100000
set_option maxHeartbeats 4000000
/-! MkM: what is no prints, no walk. -/
namespace Mi
open PySem
def mPrints (sp : List Str) (ls : List Ln) (t : D) : Bool := match t with | .tup xs => xs.all (mLane sp ls) && riseB xs | _ => false
theorem mPrints_tup {sp : List Str} {ls : List Ln} {xs : List D} : mPrints sp ls (.tup xs) = (xs.all (mLane sp ls) && riseB xs) := rfl
/-- what is a lane of the yard -/
theorem lane_form {sp : List Str} {ls : List Ln} {t : D} (h : mLane sp ls t = true) : ∃ p ∈ ls, t = ln p := by
  unfold mLane at h
  obtain ⟨h1, h2⟩ := Bool.and_eq_true _ _ ▸ h
  unfold mLaneOf at h1
  split at h1
  · rename_i a b
    simp only [Bool.and_eq_true] at h1
    replace h1 := h1.1
    obtain ⟨ha, hb⟩ := h1
    cases a <;> simp only [mSpot] at ha <;> try (cases ha; done)
    cases b <;> simp only [mSpot] at hb <;> try (cases hb; done)
    rename_i a b
    have h3 : mem (ln (a, b)) (ls.map ln) = true := h2
    rw [mem_ln] at h3
    exact ⟨(a, b), of_decide_eq_true h3, rfl⟩
  · cases h1
section
variable {P : Pg} {k ix i1 i2 i3 i4 i5 i6 i7 : Nat} {sp : List Str} {ls ps : List Ln} {Z : List Str}
theorem good_prints_any {t : D} (hf : P.fns[ix]? = some (F_are_good_prints i6 i2)) (h6 : P.fns[i6]? = some (F_is_lane i3)) (hr : P.fns[i2]? = some F_rise) (hl : P.fns[i3]? = some (F_is_lane_of i4)) (hs : P.fns[i4]? = some F_is_spot) (y : Yd sp ls) (ht : t.plain lvl = true) (hb : ∀ xs, t = .tup xs → xs.length ≤ 1000) :
    Does P 4 ix [.p (yd sp ls), .p t] (.ok (.d (.bl (mPrints sp ls t)))) [.p (yd sp ls), .p t] := by
  refine does_of hf fun j hj => ?_
  cases t with
  | tup xs =>
    have b := hb xs rfl
    have hp : ∀ x ∈ xs, x.plain 11 = true := fun x hx => plains_iff.mp (by simpa [D.plain] using ht) x hx
    have lane : ∀ x ∈ xs, calN P j i6 [.p (yd sp ls), .p x] = some (.ok (.d (.bl (mLane sp ls x))), [.p (yd sp ls), .p x]) := fun x hx => is_lane_ok h6 hl hs y (plain_mono (hp x hx)) j (by omega)
    have c1 := all_pure (C := Cx0 P j) (ρ := [.p (yd sp ls), .p (.tup xs), .x]) (hf := false) (el := .call i6 (.cons (.var 0) (.cons (.var 2) .nil))) (it := .seq (.var 1)) (o := 2) (kw := (0, [.s 1])) (xs := xs) (g := mLane sp ls) (by simp [runFn, es_pass, es_seq, es_fin, es_asg, es_asgT, es_ex, es_ifs, es_rais, es_ret, es_par, es_setI, et, ev_var, ev_non, ev_bl, ev_int, ev_str, ev_gi, ev_gs, ev_tup, ev_lst, ev_bin, ev_not, ev_and, ev_or, ev_cmp, ev_chn, ev_ife, ev_sub, ev_slf, ev_slt, ev_call, ev_bi, ev_sset, ev_rev, ev_neg, ev_isi, ev_nil, ev_cons, ev_seq, ev_rng1, ev_zip, R.bind, look, looks, Slot.dat?, Cn.dat, exOf, W.fz, esc, escs, stored, put, lend, giveBack, Slot.free]) (by simp [walked, runFn, es_pass, es_seq, es_fin, es_asg, es_asgT, es_ex, es_ifs, es_rais, es_ret, es_par, es_setI, et, ev_var, ev_non, ev_bl, ev_int, ev_str, ev_gi, ev_gs, ev_tup, ev_lst, ev_bin, ev_not, ev_and, ev_or, ev_cmp, ev_chn, ev_ife, ev_sub, ev_slf, ev_slt, ev_call, ev_bi, ev_sset, ev_rev, ev_neg, ev_isi, ev_nil, ev_cons, ev_seq, ev_rng1, ev_zip, R.bind, look, looks, Slot.dat?, Cn.dat, exOf, W.fz, esc, escs, stored, put, lend, giveBack, Slot.free, wkD, wk0, itemsI]) (by simp [freeIx, Slot.free]) rfl (by simp [big]; omega) (fun x hx => by
      have := lane x hx
      generalize yd sp ls = Y at *
      simp [runFn, es_pass, es_seq, es_fin, es_asg, es_asgT, es_ex, es_ifs, es_rais, es_ret, es_par, es_setI, et, ev_var, ev_non, ev_bl, ev_int, ev_str, ev_gi, ev_gs, ev_tup, ev_lst, ev_bin, ev_not, ev_and, ev_or, ev_cmp, ev_chn, ev_ife, ev_sub, ev_slf, ev_slt, ev_call, ev_bi, ev_sset, ev_rev, ev_neg, ev_isi, ev_nil, ev_cons, ev_seq, ev_rng1, ev_zip, R.bind, look, looks, Slot.dat?, Cn.dat, exOf, W.fz, esc, escs, stored, put, lend, giveBack, Slot.free, this])
    rw [mPrints_tup]
    cases ha : xs.all (mLane sp ls) with
    | false =>
      rw [ha] at c1
      generalize yd sp ls = Y at *
      simp [F_are_good_prints, runFn, es_pass, es_seq, es_fin, es_asg, es_asgT, es_ex, es_ifs, es_rais, es_ret, es_par, es_setI, et, ev_var, ev_non, ev_bl, ev_int, ev_str, ev_gi, ev_gs, ev_tup, ev_lst, ev_bin, ev_not, ev_and, ev_or, ev_cmp, ev_chn, ev_ife, ev_sub, ev_slf, ev_slt, ev_call, ev_bi, ev_sset, ev_rev, ev_neg, ev_isi, ev_nil, ev_cons, ev_seq, ev_rng1, ev_zip, R.bind, look, looks, Slot.dat?, Cn.dat, exOf, W.fz, esc, escs, stored, put, lend, giveBack, Slot.free, isiD, c1]
    | true =>
      rw [ha] at c1
      have form : ∀ x ∈ xs, ∃ p ∈ ls, x = ln p := fun x hx => lane_form (List.all_eq_true.mp ha x hx)
      have r2 := rise_ok (rows := xs) hr (fun x hx => plain_mono (hp x hx)) (by simp [big]; omega) (fun x hx z hz => by
        obtain ⟨p, hp', rfl⟩ := form x hx
        obtain ⟨q, hq', rfl⟩ := form z hz
        have a1 := y.ends _ hp'
        have a2 := y.ends _ hq'
        exact lt_lns (y.okS _ a1.1) (y.okS _ a1.2.1) (y.okS _ a2.1) (y.okS _ a2.2.1)) j (by omega)
      generalize yd sp ls = Y at *
      simp [F_are_good_prints, runFn, es_pass, es_seq, es_fin, es_asg, es_asgT, es_ex, es_ifs, es_rais, es_ret, es_par, es_setI, et, ev_var, ev_non, ev_bl, ev_int, ev_str, ev_gi, ev_gs, ev_tup, ev_lst, ev_bin, ev_not, ev_and, ev_or, ev_cmp, ev_chn, ev_ife, ev_sub, ev_slf, ev_slt, ev_call, ev_bi, ev_sset, ev_rev, ev_neg, ev_isi, ev_nil, ev_cons, ev_seq, ev_rng1, ev_zip, R.bind, look, looks, Slot.dat?, Cn.dat, exOf, W.fz, esc, escs, stored, put, lend, giveBack, Slot.free, isiD, c1, r2]
  | dct _ => simp [D.plain] at ht
  | set _ => simp [D.plain] at ht
  | exc _ => simp [D.plain] at ht
  | _ => simp [F_are_good_prints, runFn, es_pass, es_seq, es_fin, es_asg, es_asgT, es_ex, es_ifs, es_rais, es_ret, es_par, es_setI, et, ev_var, ev_non, ev_bl, ev_int, ev_str, ev_gi, ev_gs, ev_tup, ev_lst, ev_bin, ev_not, ev_and, ev_or, ev_cmp, ev_chn, ev_ife, ev_sub, ev_slf, ev_slt, ev_call, ev_bi, ev_sset, ev_rev, ev_neg, ev_isi, ev_nil, ev_cons, ev_seq, ev_rng1, ev_zip, R.bind, look, looks, Slot.dat?, Cn.dat, exOf, W.fz, esc, escs, stored, put, lend, giveBack, Slot.free, isiD, mPrints]
/-- where a text has the looks at prints -/
structure PrAt (P : Pg) (iN iG iD iS iW iR iL iP iV : Nat) : Prop where
  needP : P.fns[iN]? = some (F_need_prints iD iG)
  good : P.fns[iG]? = some (F_are_good_prints iV iR)
  needY : P.fns[iD]? = some (F_need_yard iS)
  isY : P.fns[iS]? = some (F_is_yard iW iR iL)
  word : P.fns[iW]? = some F_is_word
  rise : P.fns[iR]? = some F_rise
  laneOf : P.fns[iL]? = some (F_is_lane_of iP)
  spot : P.fns[iP]? = some F_is_spot
  lane : P.fns[iV]? = some (F_is_lane iL)
variable {iN iG iD iS iW iR iL iP iV : Nat}
theorem PrAt.yard (c : PrAt P iN iG iD iS iW iR iL iP iV) (y : Yd sp ls) : Does P 4 iD [.p (yd sp ls)] (.ok (.d .non)) [.p (yd sp ls)] := need_yard_ok c.needY c.isY c.word c.rise c.laneOf c.spot y
theorem PrAt.any (c : PrAt P iN iG iD iS iW iR iL iP iV) (y : Yd sp ls) {t : D} (ht : t.plain lvl = true) (hb : ∀ xs, t = .tup xs → xs.length ≤ 1000) : Does P 4 iG [.p (yd sp ls), .p t] (.ok (.d (.bl (mPrints sp ls t)))) [.p (yd sp ls), .p t] := good_prints_any c.good c.lane c.rise c.laneOf c.spot y ht hb
theorem PrAt.need (c : PrAt P iN iG iD iS iW iR iL iP iV) (y : Yd sp ls) {t : D} (ht : t.plain lvl = true) (hb : ∀ xs, t = .tup xs → xs.length ≤ 1000) : Does P 5 iN [.p (yd sp ls), .p t] (if mPrints sp ls t = true then .ok (.d .non) else .error 2) [.p (yd sp ls), .p t] := by
  refine does_cs c.needP fun C hC => ?_
  have e1 := Cs.cal (c.yard y) (Nat.le_refl _) hC
  have e2 := Cs.cal (c.any y ht hb) (Nat.le_refl _) hC
  generalize yd sp ls = Y at *
  cases hm : mPrints sp ls t <;> (rw [hm] at e2; simp [F_need_prints, runFn, es_pass, es_seq, es_fin, es_asg, es_asgT, es_ex, es_ifs, es_rais, es_ret, es_par, es_setI, et, ev_var, ev_non, ev_bl, ev_int, ev_str, ev_gi, ev_gs, ev_tup, ev_lst, ev_bin, ev_not, ev_and, ev_or, ev_cmp, ev_chn, ev_ife, ev_sub, ev_slf, ev_slt, ev_call, ev_bi, ev_sset, ev_rev, ev_neg, ev_isi, ev_nil, ev_cons, ev_seq, ev_rng1, ev_zip, R.bind, look, looks, Slot.dat?, Cn.dat, exOf, W.fz, esc, escs, stored, put, lend, giveBack, Slot.free, e1, e2])
theorem PrAt.are (c : PrAt P iN iG iD iS iW iR iL iP iV) (hf : P.fns[ix]? = some (F_are_prints iD iG)) (y : Yd sp ls) {t : D} (ht : t.plain lvl = true) (hb : ∀ xs, t = .tup xs → xs.length ≤ 1000) : Does P 5 ix [.p (yd sp ls), .p t] (.ok (.d (.bl (mPrints sp ls t)))) [.p (yd sp ls), .p t] := by
  refine does_cs hf fun C hC => ?_
  have e1 := Cs.cal (c.yard y) (Nat.le_refl _) hC
  have e2 := Cs.cal (c.any y ht hb) (Nat.le_refl _) hC
  generalize yd sp ls = Y at *
  simp [F_are_prints, runFn, es_pass, es_seq, es_fin, es_asg, es_asgT, es_ex, es_ifs, es_rais, es_ret, es_par, es_setI, et, ev_var, ev_non, ev_bl, ev_int, ev_str, ev_gi, ev_gs, ev_tup, ev_lst, ev_bin, ev_not, ev_and, ev_or, ev_cmp, ev_chn, ev_ife, ev_sub, ev_slf, ev_slt, ev_call, ev_bi, ev_sset, ev_rev, ev_neg, ev_isi, ev_nil, ev_cons, ev_seq, ev_rng1, ev_zip, R.bind, look, looks, Slot.dat?, Cn.dat, exOf, W.fz, esc, escs, stored, put, lend, giveBack, Slot.free, e1, e2]
theorem Pr.good (y : Yd sp ls) (q : Pr ls ps) : mPrints sp ls (pr ps) = true := by
  unfold pr
  rw [mPrints_tup, riseB_of (List.pairwise_map.mpr q.rise), Bool.and_true, List.all_eq_true]
  intro x hx
  obtain ⟨p, hp, rfl⟩ := List.mem_map.mp hx
  exact mLane_ln y (q.sub p hp)
theorem Pr.srt (y : Yd sp ls) {a : List Ln} (h : ∀ p ∈ a, p ∈ ls) : Pr ls (srt a) where
  sub := fun p hp => h p (srt_mem.mp hp)
  rise := srt_rise fun p hp => ⟨y.five _ (y.ends p (h p hp)).1, y.five _ (y.ends p (h p hp)).2.1⟩
  len := Nat.le_trans (nodup_len srt_nodup fun p hp => h p (srt_mem.mp hp)) y.len.2
/-- a function that asks for good prints first refuses what is none -/
theorem refuse2 {t : D} {rest : S} (c : PrAt P iN iG iD iS iW iR iL iP iV) (hf : P.fns[ix]? = some ⟨2, 2, .seq (.ex (.call iN (.cons (.var 0) (.cons (.var 1) .nil)))) rest⟩) (y : Yd sp ls) (ht : t.plain lvl = true) (hb : ∀ xs, t = .tup xs → xs.length ≤ 1000) (hm : mPrints sp ls t = false) :
    Does P 6 ix [.p (yd sp ls), .p t] (.error 2) [.p (yd sp ls), .p t] := by
  refine does_cs hf fun C hC => ?_
  have e1 := Cs.cal (c.need y ht hb) (Nat.le_refl _) hC
  rw [hm] at e1
  generalize yd sp ls = Y at *
  simp [runFn, es_pass, es_seq, es_fin, es_asg, es_asgT, es_ex, es_ifs, es_rais, es_ret, es_par, es_setI, et, ev_var, ev_non, ev_bl, ev_int, ev_str, ev_gi, ev_gs, ev_tup, ev_lst, ev_bin, ev_not, ev_and, ev_or, ev_cmp, ev_chn, ev_ife, ev_sub, ev_slf, ev_slt, ev_call, ev_bi, ev_sset, ev_rev, ev_neg, ev_isi, ev_nil, ev_cons, ev_seq, ev_rng1, ev_zip, R.bind, look, looks, Slot.dat?, Cn.dat, exOf, W.fz, esc, escs, stored, put, lend, giveBack, Slot.free, e1]
theorem refuse3 {t u : D} {rest : S} {n : Nat} (c : PrAt P iN iG iD iS iW iR iL iP iV) (hf : P.fns[ix]? = some ⟨3, n + 3, .seq (.ex (.call iN (.cons (.var 0) (.cons (.var 1) .nil)))) rest⟩) (y : Yd sp ls) (ht : t.plain lvl = true) (hb : ∀ xs, t = .tup xs → xs.length ≤ 1000) (hm : mPrints sp ls t = false) :
    Does P 6 ix [.p (yd sp ls), .p t, .p u] (.error 2) [.p (yd sp ls), .p t, .p u] := by
  refine does_cs hf fun C hC => ?_
  have e1 := Cs.cal (c.need y ht hb) (Nat.le_refl _) hC
  rw [hm] at e1
  generalize yd sp ls = Y at *
  simp [runFn, es_pass, es_seq, es_fin, es_asg, es_asgT, es_ex, es_ifs, es_rais, es_ret, es_par, es_setI, et, ev_var, ev_non, ev_bl, ev_int, ev_str, ev_gi, ev_gs, ev_tup, ev_lst, ev_bin, ev_not, ev_and, ev_or, ev_cmp, ev_chn, ev_ife, ev_sub, ev_slf, ev_slt, ev_call, ev_bi, ev_sset, ev_rev, ev_neg, ev_isi, ev_nil, ev_cons, ev_seq, ev_rng1, ev_zip, R.bind, look, looks, Slot.dat?, Cn.dat, exOf, W.fz, esc, escs, stored, put, lend, giveBack, Slot.free, e1]
/-! ### rows that do not rise -/
theorem zipL_snoc {s e : D} : ∀ Y : List D, .tup [s, e] ∈ zipL ((Y ++ [s]) ++ [e]) (((Y ++ [s]) ++ [e]).drop 1)
  | [] => by simp [zipL]
  | [y] => by simp [zipL]
  | y :: y2 :: Y => by
    have := zipL_snoc (s := s) (e := e) (y2 :: Y)
    simp only [List.cons_append, List.drop_succ_cons, List.drop_zero, zipL] at this ⊢
    exact List.mem_cons_of_mem _ this
theorem no_rise {p : Ln} (h : Fv p) (Y : List D) : riseB ((Y ++ [ln p]) ++ [ln p]) = false := by
  have hm := zipL_snoc (s := ln p) (e := ln p) Y
  have : ltT (.tup [ln p, ln p]) = false := by
    show D.lt (ln p) (ln p) = false
    rw [lt_key h h]; simp
  unfold riseB
  rw [Bool.eq_false_iff]
  intro z
  have := List.all_eq_true.mp z _ hm
  simp_all
end
end Mi
set_option Elab.async false
set_option linter.all false
set_option maxRecDepth 100000
set_option maxHeartbeats 4000000
/-! MkN: walks and what is none: the program's word, the law's own. -/
namespace Mi
open PySem
/-- new_prints: yard prints walk lane -/
def F_new_prints (i_need_prints : Nat) (i_need_walk : Nat) (i_left_by_walk : Nat) : Fn := ⟨3, 4,
  (.seq (.ex (.call i_need_prints (.cons (.var 0) (.cons (.var 1) .nil))))
  (.seq (.ex (.call i_need_walk (.cons (.var 0) (.cons (.var 2) .nil))))
  (.ret (.bi .tuple (.cons (.cmp1 true (.var 3) (.n 3) (.seq (.call i_left_by_walk (.cons (.var 2) .nil))) (.cmp .notin (.var 3) (.var 1)) [3]) .nil)))))⟩
/-- _law_is_own_walk: _law_yard _law_thing _law_pair _law_spot -/
def F__law_is_own_walk : Fn := ⟨2, 4,
  (.seq (.ifs (.or_ (.cmp .lt (.bi .len (.cons (.var 1) .nil)) (.int 1)) (.or_ (.cmp .gt (.bi .len (.cons (.var 1) .nil)) (.int 41)) (.cmp .ne (.cmp1 true (.var 3) (.n 3) (.seq (.var 1)) (.cmp .notin (.var 3) (.sub (.var 0) (.int 0))) [3]) (.lst .nil))))
  (.ret (.bl false))
  .pass)
  (.ret (.cmp .eq (.cmp1 true (.var 2) (.n 2) (.zip (.var 1) (.slf (.var 1) (.int 1))) (.and_ (.cmp .ne (.sub (.var 2) (.int 0)) (.sub (.var 2) (.int 1))) (.cmp .notin (.var 2) (.sub (.var 0) (.int 1)))) [2]) (.lst .nil))))⟩
theorem mem_spot {sp : List Str} {t : D} : mem t (sp.map D.str) = mSpot (sp.map D.str) t := by
  cases t with
  | str x => rfl
  | _ =>
    unfold mem mSpot
    induction sp with
    | nil => rfl
    | cons y r ih => simp [D.eqv]
theorem eqv_nil {X : List D} : D.eqv (.lst X) (.lst []) = X.isEmpty := by cases X <;> simp [D.eqv, D.eqvs]
theorem ne_nil {X : List D} (h : ∀ x ∈ X, x.plain 11 = true) : cmpD .ne (.lst X) (.lst []) = some (!X.isEmpty) := by
  have : (D.lst X).plain lvl = true := by simpa [D.plain] using plains_of h
  unfold cmpD; dsimp only
  rw [this, eqv_nil]; rfl
theorem eq_nil {X : List D} (h : ∀ x ∈ X, x.plain 11 = true) : cmpD .eq (.lst X) (.lst []) = some X.isEmpty := by
  have : (D.lst X).plain lvl = true := by simpa [D.plain] using plains_of h
  unfold cmpD; dsimp only
  rw [this, eqv_nil]; rfl
theorem fm_all {g : D → Bool} : ∀ {xs : List D}, (xs.filterMap fun t => if g t = true then none else some t).isEmpty = xs.all g
  | [] => rfl
  | x :: r => by
    rw [List.filterMap_cons, List.all_cons, ← fm_all (xs := r)]
    cases h : g x <;> simp
theorem fm_sub {g : D → Bool} {xs : List D} {t : D} (h : t ∈ xs.filterMap fun t => if g t = true then none else some t) : t ∈ xs := by
  obtain ⟨x, hx, e⟩ := List.mem_filterMap.mp h
  split at e
  · cases e
  · cases e; exact hx
section
variable {P : Pg} {k ix i1 i2 i3 i4 i5 i6 i7 : Nat} {sp : List Str} {ls ps : List Ln} {Z : List Str} {iN iG iD iS iW iR iL iP iV : Nat}
theorem own_walk_ok {xs : List D} (hf : P.fns[ix]? = some F__law_is_own_walk) (y : Yd sp ls) (hp : ∀ x ∈ xs, x.plain 10 = true) (hb : xs.length ≤ 1000) : Does P 1 ix [.p (yd sp ls), .p (.lst xs)] (.ok (.d (.bl (mWalk sp ls (.lst xs))))) [.p (yd sp ls), .p (.lst xs)] := by
  refine does_cs hf fun C hC => ?_
  have g0 : subD (yd sp ls) (.int 0) = some (.tup (sp.map D.str)) := rfl
  have g1 : subD (yd sp ls) (.int 1) = some (.tup (ls.map ln)) := rfl
  have p11 : ∀ x ∈ xs, x.plain 11 = true := fun x hx => plain_mono (hp x hx)
  have p12 : ∀ x ∈ xs, x.plain 12 = true := fun x hx => plain_mono (p11 x hx)
  have bl : biLen [.lst xs] = some (.d (.int (xs.length : Int))) := rfl
  have h1 := cmp1_pure (C := C) (hf := true) (el := .var 3) (c := .cmp .notin (.var 3) (.sub (.var 0) (.int 0))) (g := .n 3) (it := .seq (.var 1)) (own := [3]) (ρ := [.p (yd sp ls), .p (.lst xs), .x, .x]) (ρ1 := [.p (yd sp ls), .p (.lst xs), .x, .x]) (kw := (0, [.s 1])) (xs := xs) (f := fun t => if mSpot (sp.map D.str) t = true then none else some t) (ρ0 := [.p (yd sp ls), .p (.lst xs), .x, .x])
    (by simp [runFn, es_pass, es_seq, es_fin, es_asg, es_asgT, es_ex, es_ifs, es_rais, es_ret, es_par, es_setI, et, ev_var, ev_non, ev_bl, ev_int, ev_str, ev_gi, ev_gs, ev_tup, ev_lst, ev_bin, ev_not, ev_and, ev_or, ev_cmp, ev_chn, ev_ife, ev_sub, ev_slf, ev_slt, ev_call, ev_bi, ev_sset, ev_rev, ev_neg, ev_isi, ev_nil, ev_cons, ev_seq, ev_rng1, ev_zip, R.bind, look, looks, Slot.dat?, Cn.dat, exOf, W.fz, esc, escs, stored, put, lend, giveBack, Slot.free]) (by simp [walked, runFn, es_pass, es_seq, es_fin, es_asg, es_asgT, es_ex, es_ifs, es_rais, es_ret, es_par, es_setI, et, ev_var, ev_non, ev_bl, ev_int, ev_str, ev_gi, ev_gs, ev_tup, ev_lst, ev_bin, ev_not, ev_and, ev_or, ev_cmp, ev_chn, ev_ife, ev_sub, ev_slf, ev_slt, ev_call, ev_bi, ev_sset, ev_rev, ev_neg, ev_isi, ev_nil, ev_cons, ev_seq, ev_rng1, ev_zip, R.bind, look, looks, Slot.dat?, Cn.dat, exOf, W.fz, esc, escs, stored, put, lend, giveBack, Slot.free, wkD, wk0, itemsI]) (by simp [big]; omega) (by simp [killAll, freeIx, Slot.free]) (fun x hx => by
      have c1 : cmpD .notin x (.tup (sp.map D.str)) = some (!mSpot (sp.map D.str) x) := by
        have q := plain_sps y (n := lvl)
        rw [← mem_spot]
        unfold cmpD; dsimp only
        rw [p12 x hx, q]; rfl
      refine ⟨[.p (yd sp ls), .p (.lst xs), .x, .p x], ?_, by simp [killAll]⟩
      generalize D.tup (sp.map D.str) = S at *
      generalize yd sp ls = Q at *
      cases hv : mSpot (sp.map D.str) x <;> (rw [hv] at c1; simp [step0, asT, runFn, es_pass, es_seq, es_fin, es_asg, es_asgT, es_ex, es_ifs, es_rais, es_ret, es_par, es_setI, et, ev_var, ev_non, ev_bl, ev_int, ev_str, ev_gi, ev_gs, ev_tup, ev_lst, ev_bin, ev_not, ev_and, ev_or, ev_cmp, ev_chn, ev_ife, ev_sub, ev_slf, ev_slt, ev_call, ev_bi, ev_sset, ev_rev, ev_neg, ev_isi, ev_nil, ev_cons, ev_seq, ev_rng1, ev_zip, R.bind, look, looks, Slot.dat?, Cn.dat, exOf, W.fz, esc, escs, stored, put, lend, giveBack, Slot.free, g0, c1]))
  have n1 := ne_nil (X := xs.filterMap fun t => if mSpot (sp.map D.str) t = true then none else some t) fun x hx => p11 x (fm_sub hx)
  rw [fm_all] at n1
  rw [mWalk_lst]
  have fr1 : freeIx [.p (yd sp ls), .p (.lst xs), .x, .x] [.s 1] = [] := by simp [freeIx, Slot.free]
  simp only [fr1, List.append_nil, backAll] at h1
  by_cases hl : 1 ≤ xs.length ∧ xs.length ≤ 41
  · rw [decide_eq_true hl, Bool.true_and]
    have d1 : cmpD .lt (.int (xs.length : Int)) (.int 1) = some false := by simp [cmpD, D.plain, D.alike]; omega
    have d2 : cmpD .gt (.int (xs.length : Int)) (.int 41) = some false := by simp [cmpD]; omega
    have hsl : slD true (.lst xs) (.int 1) = some (.m (.c (.l (xs.drop 1)))) := by
      unfold slD
      dsimp only
      rw [if_pos rfl, cut_one]
      exact if_pos (by simp [big]; omega)
    have h2 := cmp1_pure (C := C) (hf := true) (el := .var 2) (c := .and_ (.cmp .ne (.sub (.var 2) (.int 0)) (.sub (.var 2) (.int 1))) (.cmp .notin (.var 2) (.sub (.var 0) (.int 1)))) (g := .n 2) (it := .zip (.var 1) (.slf (.var 1) (.int 1))) (own := [2]) (ρ := [.p (yd sp ls), .p (.lst xs), .x, .x]) (ρ1 := [.p (yd sp ls), .p (.lst xs), .x, .x]) (kw := (5, [.s 1, .m (.c (.l (xs.drop 1)))])) (xs := zipL xs (xs.drop 1)) (f := fun t => if okStep (ls.map ln) t = true then none else some t) (ρ0 := [.p (yd sp ls), .p (.lst xs), .x, .x])
      (by simp [runFn, es_pass, es_seq, es_fin, es_asg, es_asgT, es_ex, es_ifs, es_rais, es_ret, es_par, es_setI, et, ev_var, ev_non, ev_bl, ev_int, ev_str, ev_gi, ev_gs, ev_tup, ev_lst, ev_bin, ev_not, ev_and, ev_or, ev_cmp, ev_chn, ev_ife, ev_sub, ev_slf, ev_slt, ev_call, ev_bi, ev_sset, ev_rev, ev_neg, ev_isi, ev_nil, ev_cons, ev_seq, ev_rng1, ev_zip, R.bind, look, looks, Slot.dat?, Cn.dat, exOf, W.fz, esc, escs, stored, put, lend, giveBack, Slot.free, hsl]) (by simp [walked, runFn, es_pass, es_seq, es_fin, es_asg, es_asgT, es_ex, es_ifs, es_rais, es_ret, es_par, es_setI, et, ev_var, ev_non, ev_bl, ev_int, ev_str, ev_gi, ev_gs, ev_tup, ev_lst, ev_bin, ev_not, ev_and, ev_or, ev_cmp, ev_chn, ev_ife, ev_sub, ev_slf, ev_slt, ev_call, ev_bi, ev_sset, ev_rev, ev_neg, ev_isi, ev_nil, ev_cons, ev_seq, ev_rng1, ev_zip, R.bind, look, looks, Slot.dat?, Cn.dat, exOf, W.fz, esc, escs, stored, put, lend, giveBack, Slot.free, wkD, wk5]) (Nat.le_trans (zip_small hb) (by simp [big])) (by simp [killAll, freeIx, Slot.free]) (fun t ht => by
        obtain ⟨a, b, rfl, m1, m2⟩ := zipL_mem ht
        have m2 := List.mem_of_mem_drop m2
        have q1 : cmpD .ne a b = some (!D.eqv a b) := by unfold cmpD; dsimp only; rw [p12 a m1, p12 b m2]; rfl
        have q2 : cmpD .notin (.tup [a, b]) (.tup (ls.map ln)) = some (!mem (.tup [a, b]) (ls.map ln)) := by
          have p1 : (D.tup [a, b]).plain lvl = true := plain_tup (n := 11) fun x hx => by
            rcases List.mem_cons.mp hx with rfl | hx
            · exact p11 _ m1
            · rw [List.mem_singleton.mp hx]; exact p11 _ m2
          unfold cmpD; dsimp only
          rw [p1, plain_lns y (n := 11)]; rfl
        have s0 : subD (.tup [a, b]) (.int 0) = some a := rfl
        have s1 : subD (.tup [a, b]) (.int 1) = some b := rfl
        have eo : okStep (ls.map ln) (.tup [a, b]) = (D.eqv a b || mem (.tup [a, b]) (ls.map ln)) := rfl
        refine ⟨[.p (yd sp ls), .p (.lst xs), .p (.tup [a, b]), .x], ?_, by simp [killAll]⟩
        rw [eo]
        generalize D.tup [a, b] = T at *
        generalize yd sp ls = Y at *
        generalize D.tup (ls.map ln) = S at *
        cases hv : D.eqv a b with
        | true =>
          rw [hv] at q1
          simp [step0, asT, runFn, es_pass, es_seq, es_fin, es_asg, es_asgT, es_ex, es_ifs, es_rais, es_ret, es_par, es_setI, et, ev_var, ev_non, ev_bl, ev_int, ev_str, ev_gi, ev_gs, ev_tup, ev_lst, ev_bin, ev_not, ev_and, ev_or, ev_cmp, ev_chn, ev_ife, ev_sub, ev_slf, ev_slt, ev_call, ev_bi, ev_sset, ev_rev, ev_neg, ev_isi, ev_nil, ev_cons, ev_seq, ev_rng1, ev_zip, R.bind, look, looks, Slot.dat?, Cn.dat, exOf, W.fz, esc, escs, stored, put, lend, giveBack, Slot.free, s0, s1, q1]
        | false =>
          rw [hv] at q1
          cases hw : mem T (ls.map ln) <;> (rw [hw] at q2; simp [step0, asT, runFn, es_pass, es_seq, es_fin, es_asg, es_asgT, es_ex, es_ifs, es_rais, es_ret, es_par, es_setI, et, ev_var, ev_non, ev_bl, ev_int, ev_str, ev_gi, ev_gs, ev_tup, ev_lst, ev_bin, ev_not, ev_and, ev_or, ev_cmp, ev_chn, ev_ife, ev_sub, ev_slf, ev_slt, ev_call, ev_bi, ev_sset, ev_rev, ev_neg, ev_isi, ev_nil, ev_cons, ev_seq, ev_rng1, ev_zip, R.bind, look, looks, Slot.dat?, Cn.dat, exOf, W.fz, esc, escs, stored, put, lend, giveBack, Slot.free, s0, s1, q1, g1, q2]))
    have fr2 : freeIx [.p (yd sp ls), .p (.lst xs), .x, .x] [.s 1, .m (.c (.l (xs.drop 1)))] = [] := by simp [freeIx, Slot.free]
    simp only [fr2, List.append_nil, backAll] at h2
    have n2 := eq_nil (X := (zipL xs (xs.drop 1)).filterMap fun t => if okStep (ls.map ln) t = true then none else some t) fun x hx => by
      obtain ⟨a, b, rfl, m1, m2⟩ := zipL_mem (fm_sub hx)
      have m2 := List.mem_of_mem_drop m2
      exact plain_tup (n := 10) fun z hz => by
        rcases List.mem_cons.mp hz with rfl | hz
        · exact hp _ m1
        · rw [List.mem_singleton.mp hz]; exact hp _ m2
    rw [fm_all] at n2
    generalize (zipL xs (xs.drop 1)).all (okStep (ls.map ln)) = B2 at n2 ⊢
    generalize (zipL xs (xs.drop 1)).filterMap (fun t => if okStep (ls.map ln) t = true then none else some t) = X2 at h2 n2
    generalize xs.all (mSpot (sp.map D.str)) = B1 at n1 ⊢
    generalize xs.filterMap (fun t => if mSpot (sp.map D.str) t = true then none else some t) = X1 at h1 n1
    generalize yd sp ls = Y at *
    simp at h1 h2
    cases B1 <;> cases B2 <;> simp [F__law_is_own_walk, runFn, es_pass, es_seq, es_fin, es_asg, es_asgT, es_ex, es_ifs, es_rais, es_ret, es_par, es_setI, et, ev_var, ev_non, ev_bl, ev_int, ev_str, ev_gi, ev_gs, ev_tup, ev_lst, ev_bin, ev_not, ev_and, ev_or, ev_cmp, ev_chn, ev_ife, ev_sub, ev_slf, ev_slt, ev_call, ev_bi, ev_sset, ev_rev, ev_neg, ev_isi, ev_nil, ev_cons, ev_seq, ev_rng1, ev_zip, R.bind, look, looks, Slot.dat?, Cn.dat, exOf, W.fz, esc, escs, stored, put, lend, giveBack, Slot.free, biD, bl, d1, d2, h1, h2, n1, n2, newL, big]
  · rw [decide_eq_false hl, Bool.false_and]
    generalize yd sp ls = Y at *
    by_cases l1 : 1 ≤ xs.length
    · have d1 : cmpD .lt (.int (xs.length : Int)) (.int 1) = some false := by simp [cmpD, D.plain, D.alike]; omega
      have d2 : cmpD .gt (.int (xs.length : Int)) (.int 41) = some true := by simp [cmpD]; omega
      simp [F__law_is_own_walk, runFn, es_pass, es_seq, es_fin, es_asg, es_asgT, es_ex, es_ifs, es_rais, es_ret, es_par, es_setI, et, ev_var, ev_non, ev_bl, ev_int, ev_str, ev_gi, ev_gs, ev_tup, ev_lst, ev_bin, ev_not, ev_and, ev_or, ev_cmp, ev_chn, ev_ife, ev_sub, ev_slf, ev_slt, ev_call, ev_bi, ev_sset, ev_rev, ev_neg, ev_isi, ev_nil, ev_cons, ev_seq, ev_rng1, ev_zip, R.bind, look, looks, Slot.dat?, Cn.dat, exOf, W.fz, esc, escs, stored, put, lend, giveBack, Slot.free, biD, bl, d1, d2]
    · have d1 : cmpD .lt (.int (xs.length : Int)) (.int 1) = some true := by simp [cmpD, D.plain, D.alike]; omega
      simp [F__law_is_own_walk, runFn, es_pass, es_seq, es_fin, es_asg, es_asgT, es_ex, es_ifs, es_rais, es_ret, es_par, es_setI, et, ev_var, ev_non, ev_bl, ev_int, ev_str, ev_gi, ev_gs, ev_tup, ev_lst, ev_bin, ev_not, ev_and, ev_or, ev_cmp, ev_chn, ev_ife, ev_sub, ev_slf, ev_slt, ev_call, ev_bi, ev_sset, ev_rev, ev_neg, ev_isi, ev_nil, ev_cons, ev_seq, ev_rng1, ev_zip, R.bind, look, looks, Slot.dat?, Cn.dat, exOf, W.fz, esc, escs, stored, put, lend, giveBack, Slot.free, biD, bl, d1]
end
end Mi
set_option Elab.async false
set_option linter.all false
set_option maxRecDepth 100000
set_option maxHeartbeats 4000000
/-! MkO: is_walk, prints_of, new_prints. -/
namespace Mi
open PySem
section
variable {P : Pg} {k ix i1 i2 i3 i4 i5 i6 i7 : Nat} {sp : List Str} {ls ps : List Ln} {Z : List Str} {iN iG iD iS iW iR iL iP iV iX iQ iJ iK iB : Nat}
/-- where a text has the looks at walks -/
structure WkAt (P : Pg) (iD iP iX iQ iJ iK iB : Nat) : Prop where
  isW : P.fns[iX]? = some (F_is_walk iD iJ)
  prints : P.fns[iQ]? = some (F_prints_of iD iK iB)
  good : P.fns[iJ]? = some (F_is_good_walk iP)
  need : P.fns[iK]? = some (F_need_walk iJ)
  left : P.fns[iB]? = some F_left_by_walk
theorem WkAt.is (c : PrAt P iN iG iD iS iW iR iL iP iV) (w : WkAt P iD iP iX iQ iJ iK iB) (y : Yd sp ls) {t : D} (ht : t.plain lvl = true) : Does P 5 iX [.p (yd sp ls), .p t] (.ok (.d (.bl (mWalk sp ls t)))) [.p (yd sp ls), .p t] := by
  refine does_cs w.isW fun C hC => ?_
  have e1 := Cs.cal (c.yard y) (Nat.le_refl _) hC
  have e2 := Cs.cal (is_good_walk_ok w.good c.spot y ht) (show 2 ≤ 4 by omega) hC
  generalize yd sp ls = Y at *
  simp [F_is_walk, runFn, es_pass, es_seq, es_fin, es_asg, es_asgT, es_ex, es_ifs, es_rais, es_ret, es_par, es_setI, et, ev_var, ev_non, ev_bl, ev_int, ev_str, ev_gi, ev_gs, ev_tup, ev_lst, ev_bin, ev_not, ev_and, ev_or, ev_cmp, ev_chn, ev_ife, ev_sub, ev_slf, ev_slt, ev_call, ev_bi, ev_sset, ev_rev, ev_neg, ev_isi, ev_nil, ev_cons, ev_seq, ev_rng1, ev_zip, R.bind, look, looks, Slot.dat?, Cn.dat, exOf, W.fz, esc, escs, stored, put, lend, giveBack, Slot.free, e1, e2]
theorem plain_walk (y : Yd sp ls) (h : ∀ x ∈ Z, x ∈ sp) {n : Nat} : (D.lst (Z.map D.str)).plain (n + 1) = true := by
  have : D.plains n (Z.map D.str) = true := plains_of fun x hx => by
    obtain ⟨z, hz, rfl⟩ := List.mem_map.mp hx
    exact plain_str (y.okS z (h z hz))
  simpa [D.plain] using this
theorem WkAt.ofW (c : PrAt P iN iG iD iS iW iR iL iP iV) (w : WkAt P iD iP iX iQ iJ iK iB) (y : Yd sp ls) (q : Wlk sp ls Z) (l : Z.length ≤ 41) : Does P 5 iQ [.p (yd sp ls), .p (.lst (Z.map D.str))] (.ok (.d (pr (srt (steps Z))))) [.p (yd sp ls), .p (.lst (Z.map D.str))] := by
  refine does_cs w.prints fun C hC => ?_
  have e1 := Cs.cal (c.yard y) (Nat.le_refl _) hC
  have e2 := Cs.cal (need_walk_ok w.need w.good c.spot y (plain_walk y q.at_ (n := 11))) (show 3 ≤ 4 by omega) hC
  rw [q.judged l] at e2
  have e3 := Cs.cal (left_ok w.left (fun x hx => y.five x (q.at_ x hx)) (by omega)) (show 1 ≤ 4 by omega) hC
  generalize pr (srt (steps Z)) = RR at *
  generalize D.lst (Z.map D.str) = T at *
  generalize yd sp ls = Y at *
  simp [F_prints_of, runFn, es_pass, es_seq, es_fin, es_asg, es_asgT, es_ex, es_ifs, es_rais, es_ret, es_par, es_setI, et, ev_var, ev_non, ev_bl, ev_int, ev_str, ev_gi, ev_gs, ev_tup, ev_lst, ev_bin, ev_not, ev_and, ev_or, ev_cmp, ev_chn, ev_ife, ev_sub, ev_slf, ev_slt, ev_call, ev_bi, ev_sset, ev_rev, ev_neg, ev_isi, ev_nil, ev_cons, ev_seq, ev_rng1, ev_zip, R.bind, look, looks, Slot.dat?, Cn.dat, exOf, W.fz, esc, escs, stored, put, lend, giveBack, Slot.free, e1, e2, e3]
theorem WkAt.ofBad (c : PrAt P iN iG iD iS iW iR iL iP iV) (w : WkAt P iD iP iX iQ iJ iK iB) (y : Yd sp ls) {t : D} (ht : t.plain lvl = true) (hm : mWalk sp ls t = false) : Does P 5 iQ [.p (yd sp ls), .p t] (.error 4) [.p (yd sp ls), .p t] := by
  refine does_cs w.prints fun C hC => ?_
  have e1 := Cs.cal (c.yard y) (Nat.le_refl _) hC
  have e2 := Cs.cal (need_walk_ok w.need w.good c.spot y ht) (show 3 ≤ 4 by omega) hC
  rw [hm] at e2
  generalize yd sp ls = Y at *
  simp [F_prints_of, runFn, es_pass, es_seq, es_fin, es_asg, es_asgT, es_ex, es_ifs, es_rais, es_ret, es_par, es_setI, et, ev_var, ev_non, ev_bl, ev_int, ev_str, ev_gi, ev_gs, ev_tup, ev_lst, ev_bin, ev_not, ev_and, ev_or, ev_cmp, ev_chn, ev_ife, ev_sub, ev_slf, ev_slt, ev_call, ev_bi, ev_sset, ev_rev, ev_neg, ev_isi, ev_nil, ev_cons, ev_seq, ev_rng1, ev_zip, R.bind, look, looks, Slot.dat?, Cn.dat, exOf, W.fz, esc, escs, stored, put, lend, giveBack, Slot.free, e1, e2]
theorem WkAt.newBad (hf : P.fns[ix]? = some (F_new_prints iN iK iB)) (c : PrAt P iN iG iD iS iW iR iL iP iV) (w : WkAt P iD iP iX iQ iJ iK iB) (y : Yd sp ls) {t : D} (ht : t.plain lvl = true) (hm : mWalk sp ls t = false) :
    Does P 6 ix [.p (yd sp ls), .p (.tup []), .p t] (.error 4) [.p (yd sp ls), .p (.tup []), .p t] := by
  refine does_cs hf fun C hC => ?_
  have e1 := Cs.cal (c.need y (t := .tup []) rfl (fun xs e => by cases e; simp)) (Nat.le_refl _) hC
  have hg : mPrints sp ls (.tup []) = true := rfl
  rw [hg] at e1
  have e2 := Cs.cal (need_walk_ok w.need w.good c.spot y ht) (show 3 ≤ 5 by omega) hC
  rw [hm] at e2
  generalize yd sp ls = Y at *
  simp [F_new_prints, runFn, es_pass, es_seq, es_fin, es_asg, es_asgT, es_ex, es_ifs, es_rais, es_ret, es_par, es_setI, et, ev_var, ev_non, ev_bl, ev_int, ev_str, ev_gi, ev_gs, ev_tup, ev_lst, ev_bin, ev_not, ev_and, ev_or, ev_cmp, ev_chn, ev_ife, ev_sub, ev_slf, ev_slt, ev_call, ev_bi, ev_sset, ev_rev, ev_neg, ev_isi, ev_nil, ev_cons, ev_seq, ev_rng1, ev_zip, R.bind, look, looks, Slot.dat?, Cn.dat, exOf, W.fz, esc, escs, stored, put, lend, giveBack, Slot.free, e1, e2]
/-- cut in two, a walk leaves the same -/
theorem steps_cut {c : Nat} (h : c < Z.length) (p : Ln) : p ∈ steps (Z.take (c + 1)) ++ steps (Z.drop c) ↔ p ∈ steps Z := by
  have zip : Z.zip (Z.drop 1) = (Z.take (c + 1)).zip ((Z.take (c + 1)).drop 1) ++ (Z.drop c).zip ((Z.drop c).drop 1) := by
    induction Z generalizing c with
    | nil => simp at h
    | cons x r ih =>
      cases c with
      | zero => simp
      | succ c =>
        have h' : c < r.length := by simpa using h
        have := ih h'
        cases r with
        | nil => simp at h'
        | cons x2 r =>
          simp only [List.take_succ_cons, List.drop_succ_cons, List.drop_zero, List.zip_cons_cons, List.cons_append] at this ⊢
          rw [this]
  unfold steps
  rw [zip, List.filter_append]
theorem Wlk.take (q : Wlk sp ls Z) (c : Nat) : Wlk sp ls (Z.take (c + 1)) := by
  refine ⟨fun z => q.one ?_, fun x hx => q.at_ x (List.mem_of_mem_take hx), fun p hp => q.by_ p ?_⟩
  · cases Z with
    | nil => rfl
    | cons x r => simp at z
  · have hs : ∀ (Z : List Str) n, ∀ p ∈ (Z.take n).zip ((Z.take n).drop 1), p ∈ Z.zip (Z.drop 1) := fun Z n p hp => by
      obtain ⟨i, hi⟩ := List.getElem?_of_mem hp
      rw [List.getElem?_zip_eq_some] at hi
      refine List.mem_of_getElem? (i := i) ?_
      rw [List.getElem?_zip_eq_some]
      obtain ⟨a1, a2⟩ := hi
      refine ⟨?_, ?_⟩
      · rw [List.getElem?_take] at a1
        split at a1
        · exact a1
        · cases a1
      · rw [List.getElem?_drop, List.getElem?_take] at a2
        rw [List.getElem?_drop]
        split at a2
        · exact a2
        · cases a2
    exact hs Z _ p hp
theorem Wlk.drop (q : Wlk sp ls Z) {c : Nat} (h : c < Z.length) : Wlk sp ls (Z.drop c) := by
  refine ⟨fun z => ?_, fun x hx => q.at_ x (List.mem_of_mem_drop hx), fun p hp => q.by_ p ?_⟩
  · have := congrArg List.length z
    simp at this
    omega
  · obtain ⟨i, hi⟩ := List.getElem?_of_mem hp
    rw [List.getElem?_zip_eq_some, List.getElem?_drop, List.getElem?_drop, List.getElem?_drop] at hi
    refine List.mem_of_getElem? (i := c + i) ?_
    rw [List.getElem?_zip_eq_some, List.getElem?_drop]
    refine ⟨hi.1, ?_⟩
    rw [← hi.2]
    congr 1
    omega
theorem Wlk.stay {s : Str} (h : s ∈ sp) (n : Nat) : Wlk sp ls (List.replicate (n + 1) s) := by
  refine ⟨by simp, fun x hx => by rw [List.eq_of_mem_replicate hx]; exact h, fun p hp => .inl ?_⟩
  obtain ⟨h1, h2⟩ := List.of_mem_zip hp
  rw [List.eq_of_mem_replicate h1, List.eq_of_mem_replicate (List.mem_of_mem_drop h2)]
theorem steps_stay {s : Str} {n : Nat} : steps (List.replicate n s) = [] := by
  unfold steps
  rw [List.filter_eq_nil_iff]
  intro p hp
  obtain ⟨h1, h2⟩ := List.of_mem_zip hp
  rw [List.eq_of_mem_replicate h1, List.eq_of_mem_replicate (List.mem_of_mem_drop h2)]
  simp
end
end Mi
set_option Elab.async false
set_option linter.all false
set_option maxRecDepth 100000
set_option maxHeartbeats 0
namespace Mi.k02
open PySem PySem.Spec PyProof.Rows L2 LamX
abbrev top : List Stmt := PySem.Challenge.pw_snowsteps_k02_whole_walks.main.body
abbrev row : PySem.W.OpenLaw := PySem.Challenge.rw_snowsteps_k02_whole_walks
/-- 0 is_word: thing sign -/
def f_is_word : Fn := ⟨1, 2,
  (.ret (.and_ (.isi (.var 0) .str) (.and_ (.chn .le .le (.int 1) (.bi .len (.cons (.var 0) .nil)) (.int 8)) (.bi .all (.cons (.cmp1 false (.cmp .isin (.var 1) (.gs ⟨#[97, 98, 99, 100, 101, 102, 103, 104, 105, 106, 107, 108, 109, 110, 111, 112, 113, 114, 115, 116, 117, 118, 119, 120, 121, 122]⟩)) (.n 1) (.seq (.var 0)) (.bl true) [1]) .nil)))))⟩
/-- 1 rise: rows one other -/
def f_rise : Fn := ⟨1, 3,
  (.ret (.bi .all (.cons (.cmp1 false (.cmp .lt (.var 1) (.var 2)) (.t (.cons (.n 1) (.cons (.n 2) .nil))) (.zip (.var 0) (.slf (.var 0) (.int 1))) (.bl true) [1, 2]) .nil)))⟩
/-- 2 is_spot: spots thing -/
def f_is_spot : Fn := ⟨2, 2,
  (.ret (.and_ (.isi (.var 1) .str) (.cmp .isin (.var 1) (.var 0))))⟩
/-- 3 is_lane_of: spots thing one -/
def f_is_lane_of : Fn := ⟨2, 3,
  (.seq (.ifs (.or_ (.not_ (.isi (.var 1) .tuple)) (.or_ (.cmp .ne (.bi .len (.cons (.var 1) .nil)) (.int 2)) (.not_ (.bi .all (.cons (.cmp1 false (.call 2 (.cons (.var 0) (.cons (.var 2) .nil))) (.n 2) (.seq (.var 1)) (.bl true) [2]) .nil)))))
  (.ret (.bl false))
  .pass)
  (.ret (.cmp .ne (.sub (.var 1) (.int 0)) (.sub (.var 1) (.int 1)))))⟩
/-- 4 is_yard: thing spots lanes one -/
def f_is_yard : Fn := ⟨1, 4,
  (.seq (.ifs (.or_ (.not_ (.isi (.var 0) .tuple)) (.cmp .ne (.bi .len (.cons (.var 0) .nil)) (.int 2)))
  (.ret (.bl false))
  .pass)
  (.seq (.asgT (.t (.cons (.n 1) (.cons (.n 2) .nil))) (.var 0))
  (.seq (.ifs (.or_ (.not_ (.isi (.var 1) .tuple)) (.or_ (.not_ (.chn .le .le (.int 2) (.bi .len (.cons (.var 1) .nil)) (.int 5))) (.not_ (.bi .all (.cons (.cmp1 false (.call 0 (.cons (.var 3) .nil)) (.n 3) (.seq (.var 1)) (.bl true) [3]) .nil)))))
  (.ret (.bl false))
  .pass)
  (.seq (.ifs (.or_ (.not_ (.call 1 (.cons (.var 1) .nil))) (.or_ (.not_ (.isi (.var 2) .tuple)) (.not_ (.chn .le .le (.int 1) (.bi .len (.cons (.var 2) .nil)) (.int 8)))))
  (.ret (.bl false))
  .pass)
  (.ret (.and_ (.bi .all (.cons (.cmp1 false (.call 3 (.cons (.var 1) (.cons (.var 3) .nil))) (.n 3) (.seq (.var 2)) (.bl true) [3]) .nil)) (.call 1 (.cons (.var 2) .nil))))))))⟩
/-- 5 need_yard: thing -/
def f_need_yard : Fn := ⟨1, 1,
  (.ifs (.not_ (.call 4 (.cons (.var 0) .nil)))
  (.rais 0)
  .pass)⟩
/-- 6 is_lane: yard thing -/
def f_is_lane : Fn := ⟨2, 2,
  (.ret (.and_ (.call 3 (.cons (.sub (.var 0) (.int 0)) (.cons (.var 1) .nil))) (.cmp .isin (.var 1) (.sub (.var 0) (.int 1)))))⟩
/-- 7 are_good_prints: yard thing one -/
def f_are_good_prints : Fn := ⟨2, 3,
  (.ret (.and_ (.isi (.var 1) .tuple) (.and_ (.bi .all (.cons (.cmp1 false (.call 6 (.cons (.var 0) (.cons (.var 2) .nil))) (.n 2) (.seq (.var 1)) (.bl true) [2]) .nil)) (.call 1 (.cons (.var 1) .nil)))))⟩
/-- 8 are_prints: yard thing -/
def f_are_prints : Fn := ⟨2, 2,
  (.seq (.ex (.call 5 (.cons (.var 0) .nil)))
  (.ret (.call 7 (.cons (.var 0) (.cons (.var 1) .nil)))))⟩
/-- 9 need_prints: yard prints -/
def f_need_prints : Fn := ⟨2, 2,
  (.seq (.ex (.call 5 (.cons (.var 0) .nil)))
  (.ifs (.not_ (.call 7 (.cons (.var 0) (.cons (.var 1) .nil))))
  (.rais 2)
  .pass))⟩
/-- 10 is_good_walk: yard thing pair one -/
def f_is_good_walk : Fn := ⟨2, 4,
  (.seq (.ifs (.or_ (.not_ (.isi (.var 1) .list)) (.not_ (.chn .le .le (.int 1) (.bi .len (.cons (.var 1) .nil)) (.gi 41))))
  (.ret (.bl false))
  .pass)
  (.seq (.ifs (.not_ (.bi .all (.cons (.cmp1 false (.call 2 (.cons (.sub (.var 0) (.int 0)) (.cons (.var 3) .nil))) (.n 3) (.seq (.var 1)) (.bl true) [3]) .nil)))
  (.ret (.bl false))
  .pass)
  (.ret (.bi .all (.cons (.cmp1 false (.or_ (.cmp .eq (.sub (.var 2) (.int 0)) (.sub (.var 2) (.int 1))) (.cmp .isin (.var 2) (.sub (.var 0) (.int 1)))) (.n 2) (.zip (.var 1) (.slf (.var 1) (.int 1))) (.bl true) [2]) .nil)))))⟩
/-- 11 is_walk: yard thing -/
def f_is_walk : Fn := ⟨2, 2,
  (.seq (.ex (.call 5 (.cons (.var 0) .nil)))
  (.ret (.call 10 (.cons (.var 0) (.cons (.var 1) .nil)))))⟩
/-- 12 need_walk: yard walk -/
def f_need_walk : Fn := ⟨2, 2,
  (.ifs (.not_ (.call 10 (.cons (.var 0) (.cons (.var 1) .nil))))
  (.rais 4)
  .pass)⟩
/-- 13 left_by_walk: walk pair -/
def f_left_by_walk : Fn := ⟨1, 2,
  (.ret (.bi .tuple (.cons (.sset (.cons (.cmp1 true (.var 1) (.n 1) (.zip (.var 0) (.slf (.var 0) (.int 1))) (.cmp .ne (.sub (.var 1) (.int 0)) (.sub (.var 1) (.int 1))) [1]) .nil)) .nil)))⟩
/-- 14 prints_of: yard walk -/
def f_prints_of : Fn := ⟨2, 2,
  (.seq (.ex (.call 5 (.cons (.var 0) .nil)))
  (.seq (.ex (.call 12 (.cons (.var 0) (.cons (.var 1) .nil))))
  (.ret (.call 13 (.cons (.var 1) .nil)))))⟩
/-- 15 reached: prints spot found work here one other -/
def f_reached : Fn := ⟨2, 7,
  (.seq (.par true false false 2 3 (.lst (.cons (.var 1) .nil)) (.lst (.cons (.var 1) .nil)))
  (.seq (.whl (.cmp .ne (.var 3) (.lst .nil))
  (.fin (.seq (.asg true 4 (.mth .pop (.var 3) .nil))
  (.for_ (.t (.cons (.n 5) (.cons (.n 6) .nil))) (.seq (.var 0))
  (.fin (.ifs (.and_ (.cmp .eq (.var 5) (.var 4)) (.cmp .notin (.var 6) (.var 2)))
  (.seq (.ex (.mth .append (.var 2) (.cons (.var 6) .nil)))
  (.ex (.mth .append (.var 3) (.cons (.var 6) .nil))))
  .pass) [5, 6]))) [4, 5, 6]))
  (.ret (.var 2))))⟩
/-- 16 leads_to: prints lane other -/
def f_leads_to : Fn := ⟨3, 3,
  (.ret (.or_ (.cmp .eq (.var 1) (.var 2)) (.cmp .isin (.sub (.var 2) (.int 0)) (.call 15 (.cons (.var 0) (.cons (.sub (.var 1) (.int 1)) .nil))))))⟩
/-- 17 are_apart: prints lane other -/
def f_are_apart : Fn := ⟨3, 3,
  (.ret (.and_ (.not_ (.call 16 (.cons (.var 0) (.cons (.var 1) (.cons (.var 2) .nil))))) (.not_ (.call 16 (.cons (.var 0) (.cons (.var 2) (.cons (.var 1) .nil)))))))⟩
/-- 18 all_twos: prints found at one other -/
def f_all_twos : Fn := ⟨1, 5,
  .stuck⟩
/-- 19 first_two_apart: prints some pair -/
def f_first_two_apart : Fn := ⟨1, 3,
  (.seq (.asg true 1 (.cmp1 true (.var 2) (.n 2) (.seq (.call 18 (.cons (.var 0) .nil))) (.call 17 (.cons (.var 0) (.cons (.sub (.var 2) (.int 0)) (.cons (.sub (.var 2) (.int 1)) .nil)))) [2]))
  (.ret (.ife (.cmp .ne (.var 1) (.lst .nil)) (.sub (.var 1) (.int 0)) .non)))⟩
/-- 20 one_can: yard prints -/
def f_one_can : Fn := ⟨2, 2,
  (.seq (.ex (.call 9 (.cons (.var 0) (.cons (.var 1) .nil))))
  (.ret (.cmp .is_ (.call 19 (.cons (.var 1) .nil)) .non)))⟩
/-- 21 with_lane: some lane -/
def f_with_lane : Fn := ⟨2, 2,
  (.ret (.ife (.cmp .isin (.var 1) (.var 0)) (.var 0) (.bi .tuple (.cons (.bi .sorted (.cons (.bin .add (.var 0) (.tup (.cons (.var 1) .nil))) .nil)) .nil))))⟩
/-- 22 first_walk: prints spots spot rows known ended further walk some lane more -/
def f_first_walk : Fn := ⟨2, 11,
  .stuck⟩
/-- 23 shortest: yard prints -/
def f_shortest : Fn := ⟨2, 2,
  (.seq (.ex (.call 9 (.cons (.var 0) (.cons (.var 1) .nil))))
  (.ret (.call 22 (.cons (.var 1) (.cons (.sub (.var 0) (.int 0)) .nil)))))⟩
/-- 24 new_prints: yard prints walk lane -/
def f_new_prints : Fn := ⟨3, 4,
  (.seq (.ex (.call 9 (.cons (.var 0) (.cons (.var 1) .nil))))
  (.seq (.ex (.call 12 (.cons (.var 0) (.cons (.var 2) .nil))))
  (.ret (.bi .tuple (.cons (.cmp1 true (.var 3) (.n 3) (.seq (.call 13 (.cons (.var 2) .nil))) (.cmp .notin (.var 3) (.var 1)) [3]) .nil)))))⟩
/-- 25 parts_of: prints found one part -/
def f_parts_of : Fn := ⟨1, 4,
  (.seq (.asg true 1 (.lst (.cons (.tup .nil) .nil)))
  (.seq (.for_ (.n 2) (.seq (.var 0))
  (.fin (.asg true 1 (.bin .add (.var 1) (.cmp1 false (.bin .add (.var 3) (.tup (.cons (.var 2) .nil))) (.n 3) (.seq (.var 1)) (.bl true) [3]))) [2]))
  (.ret (.var 1))))⟩
/-- 26 widest: prints some part one other -/
def f_widest : Fn := ⟨1, 5,
  (.seq (.asg true 1 (.cmp1 true (.var 2) (.n 2) (.seq (.call 25 (.cons (.var 0) .nil))) (.bi .all (.cons (.cmp1 false (.call 17 (.cons (.var 0) (.cons (.var 3) (.cons (.var 4) .nil)))) (.t (.cons (.n 3) (.cons (.n 4) .nil))) (.seq (.call 18 (.cons (.var 2) .nil))) (.bl true) [3, 4]) .nil)) [2]))
  (.ret (.sub (.bi .min (.cons (.cmp1 false (.tup (.cons (.neg (.bi .len (.cons (.var 2) .nil))) (.cons (.var 2) .nil))) (.n 2) (.seq (.var 1)) (.bl true) [2]) .nil)) (.int 1))))⟩
/-- 27 fewest: yard prints -/
def f_fewest : Fn := ⟨2, 2,
  (.seq (.ex (.call 9 (.cons (.var 0) (.cons (.var 1) .nil))))
  (.ret (.bi .len (.cons (.call 26 (.cons (.var 1) .nil)) .nil))))⟩
/-- 28 do_leave: yard prints walks one walk lane -/
def f_do_leave : Fn := ⟨3, 6,
  (.seq (.ex (.call 9 (.cons (.var 0) (.cons (.var 1) .nil)))) .stuck)⟩
/-- 29 leavable: prints spot beats known found row turn further here some lane state -/
def f_leavable : Fn := ⟨3, 12,
  .stuck⟩
/-- 30 joined: one other -/
def f_joined : Fn := ⟨2, 2,
  (.ret (.bi .tuple (.cons (.sset (.cons (.bin .add (.var 0) (.var 1)) .nil)) .nil)))⟩
/-- 31 need_starts: yard starts one -/
def f_need_starts : Fn := ⟨2, 3,
  (.ifs (.or_ (.not_ (.isi (.var 1) .tuple)) (.or_ (.not_ (.chn .le .le (.int 1) (.bi .len (.cons (.var 1) .nil)) (.int 3))) (.not_ (.bi .all (.cons (.cmp1 false (.call 2 (.cons (.sub (.var 0) (.int 0)) (.cons (.var 2) .nil))) (.n 2) (.seq (.var 1)) (.bl true) [2]) .nil)))))
  (.rais 1)
  .pass)⟩
/-- 32 can_from: yard prints starts found spot more one other -/
def f_can_from : Fn := ⟨3, 8,
  (.seq (.ex (.call 9 (.cons (.var 0) (.cons (.var 1) .nil)))) .stuck)⟩
/-- 33 lanes_text: lanes one other -/
def f_lanes_text : Fn := ⟨1, 3,
  .stuck⟩
/-- 34 prints_text: yard prints -/
def f_prints_text : Fn := ⟨2, 2,
  (.seq (.ex (.call 9 (.cons (.var 0) (.cons (.var 1) .nil))))
  (.ret (.call 33 (.cons (.var 1) .nil))))⟩
/-- 35 _law_cell: _law_script _law_k -/
def f__law_cell : Fn := ⟨2, 2,
  (.seq (.ifs (.cmp .eq (.var 0) (.lst .nil))
  (.ret (.bin .mul (.var 1) (.int 7919)))
  .pass)
  (.ret (.bin .add (.sub (.var 0) (.bin .mod (.var 1) (.bi .len (.cons (.var 0) .nil)))) (.bin .mul (.bin .fdiv (.var 1) (.bi .len (.cons (.var 0) .nil))) (.int 104729)))))⟩
/-- 36 _law_drawn: _law_cell_here _law_k _law_more -/
def f__law_drawn : Fn := ⟨2, 3,
  (.seq (.asg true 2 (.bin .mod (.bin .add (.bin .mul (.var 0) (.int 6364136223846793005)) (.bin .mul (.bin .add (.var 1) (.int 1)) (.int 1442695040888963407))) (.int 340282366920938463463374607431768211507)))
  (.seq (.asg true 2 (.bin .mod (.bin .mul (.var 2) (.var 2)) (.int 340282366920938463463374607431768211297)))
  (.seq (.asg true 2 (.bin .mul (.bin .mul (.bin .add (.bin .mod (.var 2) (.int 18446744073709551557)) (.int 1)) (.bin .add (.bin .fdiv (.var 2) (.int 18446744073709551557)) (.int 1))) (.var 2)))
  (.ret (.bin .mod (.var 2) (.int 340282366920938463463374607431768211507))))))⟩
/-- 37 _law_roll: _law_dice _law_many _law_told_here -/
def f__law_roll : Fn := ⟨2, 3,
  (.seq (.ifs (.cmp .ge (.sub (.var 0) (.int 0)) (.bin .pow (.int 10) (.int 18)))
  (.seq (.asg true 2 (.bin .mod (.sub (.var 0) (.int 0)) (.var 1)))
  (.seq (.setI 0 (.int 0) (.bin .fdiv (.sub (.var 0) (.int 0)) (.var 1)))
  (.ret (.var 2))))
  .pass)
  (.seq (.setI 0 (.int 1) (.bin .add (.sub (.var 0) (.int 1)) (.int 1)))
  (.ret (.bin .mod (.bin .fdiv (.call 36 (.cons (.sub (.var 0) (.int 0)) (.cons (.sub (.var 0) (.int 1)) .nil))) (.int 8)) (.var 1)))))⟩
/-- 38 _law_rounds: _law_script _law_high _law_k -/
def f__law_rounds : Fn := ⟨2, 3,
  .stuck⟩
def rdArg : E := (.bi .max2 (.cons (.int 1) (.cons (.bi .min2 (.cons (.var 1) (.cons (.bi .len (.cons (.var 0) .nil)) .nil))) .nil)))
def rdEl : E := (.lst (.cons (.call 35 (.cons (.var 0) (.cons (.var 2) .nil))) (.cons (.int 0) .nil)))
def iR : Nat := 38
/-- 39 _law_term: _law_e _law_flags _law_kinds _law_flag -/
def f__law_term : Fn := ⟨1, 4,
  .stuck⟩
/-- 40 _law_told: _law_deed _law_e -/
def f__law_told : Fn := ⟨1, 2,
  .stuck⟩
/-- 41 _law_any_yard: _law_dice _law_size _law_many _law_spots _law_some _law_one _law_lanes _law_turn _law_other -/
def f__law_any_yard : Fn := ⟨3, 9,
  (.seq (.asg true 3 (.slt (.tup (.cons (.str ⟨#[98, 97, 114, 110]⟩) (.cons (.str ⟨#[103, 97, 116, 101]⟩) (.cons (.str ⟨#[112, 111, 110, 100]⟩) (.cons (.str ⟨#[115, 104, 101, 100]⟩) (.cons (.str ⟨#[119, 101, 108, 108]⟩) .nil)))))) (.bin .add (.int 2) (.call 37 (.cons (.var 0) (.cons (.bin .sub (.var 1) (.int 1)) .nil))))))
  (.seq (.asg false 4 (.lst .nil))
  (.seq (.for_ (.n 5) (.seq (.var 3))
  (.fin (.asg false 4 (.bin .add (.var 4) (.cmp1 true (.tup (.cons (.var 5) (.cons (.var 8) .nil))) (.n 8) (.seq (.var 3)) (.cmp .ne (.var 8) (.var 5)) [8]))) [5]))
  (.seq (.asg false 6 (.lst .nil))
  (.seq (.for_ (.n 7) (.rng1 (.bin .add (.int 1) (.call 37 (.cons (.var 0) (.cons (.var 2) .nil)))))
  (.fin (.ifs (.cmp .ne (.var 4) (.lst .nil))
  (.ex (.mth .append (.var 6) (.cons (.mth .popAt (.var 4) (.cons (.call 37 (.cons (.var 0) (.cons (.bi .len (.cons (.var 4) .nil)) .nil))) .nil)) .nil)))
  .pass) [7]))
  (.ret (.tup (.cons (.var 3) (.cons (.bi .tuple (.cons (.bi .sorted (.cons (.var 6) .nil)) .nil)) .nil)))))))))⟩
/-- 42 _law_left: _law_walk _law_one _law_other -/
def f__law_left : Fn := ⟨1, 3,
  (.ret (.bi .tuple (.cons (.sset (.cons (.cmp1 true (.tup (.cons (.var 1) (.cons (.var 2) .nil))) (.t (.cons (.n 1) (.cons (.n 2) .nil))) (.zip (.var 0) (.slf (.var 0) (.int 1))) (.cmp .ne (.var 1) (.var 2)) [1, 2]) .nil)) .nil)))⟩
/-- 43 _law_any_walk: _law_dice _law_yard _law_high _law_walk _law_turn _law_some _law_one _law_other -/
def f__law_any_walk : Fn := ⟨3, 8,
  (.seq (.asg false 3 (.lst (.cons (.sub (.sub (.var 1) (.int 0)) (.call 37 (.cons (.var 0) (.cons (.bi .len (.cons (.sub (.var 1) (.int 0)) .nil)) .nil)))) .nil)))
  (.seq (.for_ (.n 4) (.rng1 (.call 37 (.cons (.var 0) (.cons (.bin .add (.var 2) (.int 1)) .nil))))
  (.fin (.seq (.asg true 5 (.bin .add (.lst (.cons (.sub (.var 3) (.neg (.int 1))) .nil)) (.cmp1 true (.var 7) (.t (.cons (.n 6) (.cons (.n 7) .nil))) (.seq (.sub (.var 1) (.int 1))) (.cmp .eq (.var 6) (.sub (.var 3) (.neg (.int 1)))) [6, 7])))
  (.ex (.mth .append (.var 3) (.cons (.sub (.var 5) (.call 37 (.cons (.var 0) (.cons (.bi .len (.cons (.var 5) .nil)) .nil)))) .nil)))) [4, 5]))
  (.ret (.var 3))))⟩
/-- 44 _law_both: _law_one _law_other -/
def f__law_both : Fn := ⟨2, 2,
  (.ret (.bi .tuple (.cons (.sset (.cons (.bin .add (.var 0) (.var 1)) .nil)) .nil)))⟩
/-- 45 _law_is_own_walk: _law_yard _law_thing _law_pair _law_spot -/
def f__law_is_own_walk : Fn := ⟨2, 4,
  (.seq (.ifs (.or_ (.cmp .lt (.bi .len (.cons (.var 1) .nil)) (.int 1)) (.or_ (.cmp .gt (.bi .len (.cons (.var 1) .nil)) (.int 41)) (.cmp .ne (.cmp1 true (.var 3) (.n 3) (.seq (.var 1)) (.cmp .notin (.var 3) (.sub (.var 0) (.int 0))) [3]) (.lst .nil))))
  (.ret (.bl false))
  .pass)
  (.ret (.cmp .eq (.cmp1 true (.var 2) (.n 2) (.zip (.var 1) (.slf (.var 1) (.int 1))) (.and_ (.cmp .ne (.sub (.var 2) (.int 0)) (.sub (.var 2) (.int 1))) (.cmp .notin (.var 2) (.sub (.var 0) (.int 1)))) [2]) (.lst .nil))))⟩
/-- 46 _law_prints_refused: _law_yard _law_lane _law_cases _law_bad _law_made -/
def f__law_prints_refused : Fn := ⟨1, 5,
  (.seq (.asg true 1 (.sub (.sub (.var 0) (.int 1)) (.int 0)))
  (.seq (.asg true 2 (.lst (.cons .non (.cons (.int 5) (.cons (.lst .nil) (.cons (.lst (.cons (.var 1) .nil)) (.cons (.tup (.cons (.var 1) (.cons (.var 1) .nil))) (.cons (.tup (.cons (.str ⟨#[98, 97, 114, 110]⟩) (.cons (.str ⟨#[103, 97, 116, 101]⟩) .nil))) (.cons (.tup (.cons (.tup (.cons (.str ⟨#[98, 97, 114, 110]⟩) (.cons (.str ⟨#[122, 101, 100]⟩) .nil))) .nil)) .nil)))))))))
  (.seq (.asg true 2 (.bin .add (.var 2) (.lst (.cons (.tup (.cons .non .nil)) (.cons (.bin .add (.rev (.sub (.var 0) (.int 1))) (.tup (.cons (.var 1) .nil))) (.cons (.tup (.cons (.bi .list (.cons (.var 1) .nil)) .nil)) .nil))))))
  (.seq (.for_ (.n 3) (.seq (.var 2))
  (.fin (.seq (.asg false 4 (.lst (.cons (.told 0 (.call 20 (.cons (.var 0) (.cons (.var 3) .nil)))) .nil)))
  (.seq (.ex (.mth .append (.var 4) (.cons (.told 0 (.call 27 (.cons (.var 0) (.cons (.var 3) .nil)))) .nil)))
  (.seq (.ex (.mth .append (.var 4) (.cons (.told 0 (.call 23 (.cons (.var 0) (.cons (.var 3) .nil)))) .nil)))
  (.seq (.ex (.mth .append (.var 4) (.cons (.told 0 (.call 28 (.cons (.var 0) (.cons (.var 3) (.cons .non .nil))))) .nil)))
  (.seq (.ex (.mth .append (.var 4) (.cons (.told 0 (.call 32 (.cons (.var 0) (.cons (.var 3) (.cons .non .nil))))) .nil)))
  (.seq (.ex (.mth .append (.var 4) (.cons (.told 0 (.call 34 (.cons (.var 0) (.cons (.var 3) .nil)))) .nil)))
  (.ifs (.or_ (.cmp .isnot (.call 8 (.cons (.var 0) (.cons (.var 3) .nil))) (.bl false)) (.cmp .ne (.var 4) (.bin .mul (.lst (.cons (.tup (.cons (.str ⟨#[114, 101, 102, 117, 115, 101, 100]⟩) (.cons (.str ⟨#[66, 97, 100, 80, 114, 105, 110, 116, 115]⟩) .nil))) .nil)) (.int 6))))
  (.ret (.bl false))
  .pass))))))) [3, 4]))
  (.ret (.bl true))))))⟩
/-- 47 law: _law_script _law_dice _law_yard _law_walk _law_before_it _law_cut _law_turn _law_still _law_bad _law_at _law_part _law_thing _law_made -/
def f_law : Fn := ⟨1, 13,
  .stuck⟩
def turn : S :=
  (.seq (.asg true 2 (.call 41 (.cons (.var 1) (.cons (.int 5) (.cons (.int 8) .nil)))))
  (.seq (.asg true 3 (.call 43 (.cons (.var 1) (.cons (.var 2) (.cons (.int 14) .nil)))))
  (.seq (.asg true 4 (.bi .list (.cons (.var 3) .nil)))
  (.seq (.ifs (.or_ (.cmp .isnot (.call 11 (.cons (.var 2) (.cons (.var 3) .nil))) (.bl true)) (.cmp .ne (.call 14 (.cons (.var 2) (.cons (.var 3) .nil))) (.call 42 (.cons (.var 3) .nil))))
  (.ret (.bl false))
  .pass)
  (.seq (.ifs (.cmp .ne (.var 3) (.var 4))
  (.ret (.bl false))
  .pass)
  (.seq (.ifs (.cmp .isnot (.call 8 (.cons (.var 2) (.cons (.call 14 (.cons (.var 2) (.cons (.var 3) .nil))) .nil))) (.bl true))
  (.ret (.bl false))
  .pass)
  (.seq (.asg true 5 (.call 37 (.cons (.var 1) (.cons (.bi .len (.cons (.var 3) .nil)) .nil))))
  (.seq (.ifs (.cmp .ne (.call 44 (.cons (.call 14 (.cons (.var 2) (.cons (.slt (.var 3) (.bin .add (.var 5) (.int 1))) .nil))) (.cons (.call 14 (.cons (.var 2) (.cons (.slf (.var 3) (.var 5)) .nil))) .nil))) (.call 14 (.cons (.var 2) (.cons (.var 3) .nil))))
  (.ret (.bl false))
  .pass)
  (.seq (.for_ (.n 6) (.rng1 (.int 8))
  (.fin (.seq (.asg true 9 (.call 37 (.cons (.var 1) (.cons (.bi .len (.cons (.var 3) .nil)) .nil))))
  (.seq (.asg true 10 (.sub (.lst (.cons (.str ⟨#[98, 97, 114, 110]⟩) (.cons (.str ⟨#[103, 97, 116, 101]⟩) (.cons (.str ⟨#[112, 111, 110, 100]⟩) (.cons (.str ⟨#[122, 101, 100]⟩) (.cons (.str ⟨#[66, 97, 114, 110]⟩) (.cons .non (.cons (.int 5) .nil)))))))) (.call 37 (.cons (.var 1) (.cons (.int 7) .nil)))))
  (.seq (.asg true 11 (.sub (.lst (.cons (.bin .add (.bin .add (.slt (.var 3) (.var 9)) (.lst (.cons (.var 10) .nil))) (.slf (.var 3) (.bin .add (.var 9) (.int 1)))) (.cons (.bin .add (.slt (.var 3) (.var 9)) (.slf (.var 3) (.bin .add (.var 9) (.int 1)))) (.cons (.bin .add (.var 3) (.lst (.cons (.var 10) .nil))) .nil)))) (.call 37 (.cons (.var 1) (.cons (.int 3) .nil)))))
  (.ifs (.cmp .ne (.call 11 (.cons (.var 2) (.cons (.var 11) .nil))) (.call 45 (.cons (.var 2) (.cons (.var 11) .nil))))
  (.ret (.bl false))
  .pass)))) [6, 9, 10, 11]))
  (.seq (.asg true 7 (.bin .mul (.slt (.var 3) (.int 1)) (.int 41)))
  (.seq (.ifs (.or_ (.cmp .isnot (.call 11 (.cons (.var 2) (.cons (.var 7) .nil))) (.bl true)) (.cmp .isnot (.call 11 (.cons (.var 2) (.cons (.bin .add (.var 7) (.slt (.var 3) (.int 1))) .nil))) (.bl false)))
  (.ret (.bl false))
  .pass)
  (.seq (.ifs (.cmp .ne (.call 14 (.cons (.var 2) (.cons (.var 7) .nil))) (.tup .nil))
  (.ret (.bl false))
  .pass)
  (.seq (.for_ (.n 8) (.seq (.lst (.cons .non (.cons (.int 5) (.cons (.lst .nil) (.cons (.bi .tuple (.cons (.var 3) .nil)) (.cons (.str ⟨#[98, 97, 114, 110]⟩) (.cons (.lst (.cons .non .nil)) (.cons (.bin .mul (.var 7) (.int 2)) .nil)))))))))
  (.fin (.seq (.asg false 12 (.lst (.cons (.told 0 (.call 14 (.cons (.var 2) (.cons (.var 8) .nil)))) .nil)))
  (.seq (.ex (.mth .append (.var 12) (.cons (.told 0 (.call 24 (.cons (.var 2) (.cons (.tup .nil) (.cons (.var 8) .nil))))) .nil)))
  (.ifs (.or_ (.cmp .isnot (.call 11 (.cons (.var 2) (.cons (.var 8) .nil))) (.bl false)) (.cmp .ne (.var 12) (.bin .mul (.lst (.cons (.tup (.cons (.str ⟨#[114, 101, 102, 117, 115, 101, 100]⟩) (.cons (.str ⟨#[66, 97, 100, 87, 97, 108, 107]⟩) .nil))) .nil)) (.int 2))))
  (.ret (.bl false))
  .pass))) [8, 12]))
  (.ifs (.not_ (.call 46 (.cons (.var 2) .nil)))
  (.ret (.bl false))
  .pass))))))))))))))
def high : Int := 5
def nL : Nat := 13
def iL : Nat := 47
def fns : List Fn := [f_is_word, f_rise, f_is_spot, f_is_lane_of, f_is_yard, f_need_yard, f_is_lane, f_are_good_prints, f_are_prints, f_need_prints, f_is_good_walk, f_is_walk, f_need_walk, f_left_by_walk, f_prints_of, f_reached, f_leads_to, f_are_apart, f_all_twos, f_first_two_apart, f_one_can, f_with_lane, f_first_walk, f_shortest, f_new_prints, f_parts_of, f_widest, f_fewest, f_do_leave, f_leavable, f_joined, f_need_starts, f_can_from, f_lanes_text, f_prints_text, f__law_cell, f__law_drawn, f__law_roll, f__law_rounds, f__law_term, f__law_told, f__law_any_yard, f__law_left, f__law_any_walk, f__law_both, f__law_is_own_walk, f__law_prints_refused, f_law]
def gi : List (Str × Int) := [("LONGEST", 41)]
def gs : List (Str × Str) := [("SMALL", "abcdefghijklmnopqrstuvwxyz")]
def exs : List Nat := [0, 1, 2, 3, 4, 5, 6, 7, 8, 9]

def dfs : List Df := [
  mkDf top "is_word" ["thing", "sign"] 1,
  mkDf top "rise" ["rows", "one", "other"] 1,
  mkDf top "is_spot" ["spots", "thing"] 2,
  mkDf top "is_lane_of" ["spots", "thing", "one"] 2,
  mkDf top "is_yard" ["thing", "spots", "lanes", "one"] 1,
  mkDf top "need_yard" ["thing"] 1,
  mkDf top "is_lane" ["yard", "thing"] 2,
  mkDf top "are_good_prints" ["yard", "thing", "one"] 2,
  mkDf top "are_prints" ["yard", "thing"] 2,
  mkDf top "need_prints" ["yard", "prints"] 2,
  mkDf top "is_good_walk" ["yard", "thing", "pair", "one"] 2,
  mkDf top "is_walk" ["yard", "thing"] 2,
  mkDf top "need_walk" ["yard", "walk"] 2,
  mkDf top "left_by_walk" ["walk", "pair"] 1,
  mkDf top "prints_of" ["yard", "walk"] 2,
  mkDf top "reached" ["prints", "spot", "found", "work", "here", "one", "other"] 2,
  mkDf top "leads_to" ["prints", "lane", "other"] 3,
  mkDf top "are_apart" ["prints", "lane", "other"] 3,
  mkDf top "all_twos" ["prints", "found", "at", "one", "other"] 1,
  mkDf top "first_two_apart" ["prints", "some", "pair"] 1,
  mkDf top "one_can" ["yard", "prints"] 2,
  mkDf top "with_lane" ["some", "lane"] 2,
  mkDf top "first_walk" ["prints", "spots", "spot", "rows", "known", "ended", "further", "walk", "some", "lane", "more"] 2,
  mkDf top "shortest" ["yard", "prints"] 2,
  mkDf top "new_prints" ["yard", "prints", "walk", "lane"] 3,
  mkDf top "parts_of" ["prints", "found", "one", "part"] 1,
  mkDf top "widest" ["prints", "some", "part", "one", "other"] 1,
  mkDf top "fewest" ["yard", "prints"] 2,
  mkDf top "do_leave" ["yard", "prints", "walks", "one", "walk", "lane"] 3,
  mkDf top "leavable" ["prints", "spot", "beats", "known", "found", "row", "turn", "further", "here", "some", "lane", "state"] 3,
  mkDf top "joined" ["one", "other"] 2,
  mkDf top "need_starts" ["yard", "starts", "one"] 2,
  mkDf top "can_from" ["yard", "prints", "starts", "found", "spot", "more", "one", "other"] 3,
  mkDf top "lanes_text" ["lanes", "one", "other"] 1,
  mkDf top "prints_text" ["yard", "prints"] 2,
  mkDf top "_law_cell" ["_law_script", "_law_k"] 2,
  mkDf top "_law_drawn" ["_law_cell_here", "_law_k", "_law_more"] 2,
  mkDf top "_law_roll" ["_law_dice", "_law_many", "_law_told_here"] 2,
  mkDf top "_law_rounds" ["_law_script", "_law_high", "_law_k"] 2,
  mkDf top "_law_term" ["_law_e", "_law_flags", "_law_kinds", "_law_flag"] 1,
  mkDf top "_law_told" ["_law_deed", "_law_e"] 1,
  mkDf top "_law_any_yard" ["_law_dice", "_law_size", "_law_many", "_law_spots", "_law_some", "_law_one", "_law_lanes", "_law_turn", "_law_other"] 3,
  mkDf top "_law_left" ["_law_walk", "_law_one", "_law_other"] 1,
  mkDf top "_law_any_walk" ["_law_dice", "_law_yard", "_law_high", "_law_walk", "_law_turn", "_law_some", "_law_one", "_law_other"] 3,
  mkDf top "_law_both" ["_law_one", "_law_other"] 2,
  mkDf top "_law_is_own_walk" ["_law_yard", "_law_thing", "_law_pair", "_law_spot"] 2,
  mkDf top "_law_prints_refused" ["_law_yard", "_law_lane", "_law_cases", "_law_bad", "_law_made"] 1,
  mkDf top "law" ["_law_script", "_law_dice", "_law_yard", "_law_walk", "_law_before_it", "_law_cut", "_law_turn", "_law_still", "_law_bad", "_law_at", "_law_part", "_law_thing", "_law_made"] 1]

def tl : Option Str := some "_law_told"
def dTo : Df := dfs.getD 40 (mkDf [] "" [] 0)
def dTe : Df := dfs.getD 39 (mkDf [] "" [] 0)
def lq : List Str := ["_law_prints_refused", "law"]
def dR : Df := dfs.getD iR (mkDf [] "" [] 0)
def dL : Df := dfs.getD iL (mkDf [] "" [] 0)
theorem chk : LawChk dfs gi gs exs tl lq fns 200 iR iL dR dL rdArg rdEl high turn := ⟨by decide +kernel, rfl, rfl, by decide +kernel, by decide +kernel, by decide +kernel, by decide +kernel, fun x hx => by cases hx; exact ⟨by decide, dTo, dTe, List.mem_of_getElem? (i := 40) rfl, List.mem_of_getElem? (i := 39) rfl, rfl, by decide +kernel, by decide +kernel, by decide +kernel, by decide +kernel, by decide +kernel, by decide +kernel⟩⟩
theorem binds : BindsAll dfs := .cons (fun _ _ _ _ _ _ us hl => match us, hl with | [_], _ => rfl) (.cons (fun _ _ _ _ _ _ us hl => match us, hl with | [_], _ => rfl) (.cons (fun _ _ _ _ _ _ us hl => match us, hl with | [_, _], _ => rfl) (.cons (fun _ _ _ _ _ _ us hl => match us, hl with | [_, _], _ => rfl) (.cons (fun _ _ _ _ _ _ us hl => match us, hl with | [_], _ => rfl) (.cons (fun _ _ _ _ _ _ us hl => match us, hl with | [_], _ => rfl) (.cons (fun _ _ _ _ _ _ us hl => match us, hl with | [_, _], _ => rfl) (.cons (fun _ _ _ _ _ _ us hl => match us, hl with | [_, _], _ => rfl) (.cons (fun _ _ _ _ _ _ us hl => match us, hl with | [_, _], _ => rfl) (.cons (fun _ _ _ _ _ _ us hl => match us, hl with | [_, _], _ => rfl) (.cons (fun _ _ _ _ _ _ us hl => match us, hl with | [_, _], _ => rfl) (.cons (fun _ _ _ _ _ _ us hl => match us, hl with | [_, _], _ => rfl) (.cons (fun _ _ _ _ _ _ us hl => match us, hl with | [_, _], _ => rfl) (.cons (fun _ _ _ _ _ _ us hl => match us, hl with | [_], _ => rfl) (.cons (fun _ _ _ _ _ _ us hl => match us, hl with | [_, _], _ => rfl) (.cons (fun _ _ _ _ _ _ us hl => match us, hl with | [_, _], _ => rfl) (.cons (fun _ _ _ _ _ _ us hl => match us, hl with | [_, _, _], _ => rfl) (.cons (fun _ _ _ _ _ _ us hl => match us, hl with | [_, _, _], _ => rfl) (.cons (fun _ _ _ _ _ _ us hl => match us, hl with | [_], _ => rfl) (.cons (fun _ _ _ _ _ _ us hl => match us, hl with | [_], _ => rfl) (.cons (fun _ _ _ _ _ _ us hl => match us, hl with | [_, _], _ => rfl) (.cons (fun _ _ _ _ _ _ us hl => match us, hl with | [_, _], _ => rfl) (.cons (fun _ _ _ _ _ _ us hl => match us, hl with | [_, _], _ => rfl) (.cons (fun _ _ _ _ _ _ us hl => match us, hl with | [_, _], _ => rfl) (.cons (fun _ _ _ _ _ _ us hl => match us, hl with | [_, _, _], _ => rfl) (.cons (fun _ _ _ _ _ _ us hl => match us, hl with | [_], _ => rfl) (.cons (fun _ _ _ _ _ _ us hl => match us, hl with | [_], _ => rfl) (.cons (fun _ _ _ _ _ _ us hl => match us, hl with | [_, _], _ => rfl) (.cons (fun _ _ _ _ _ _ us hl => match us, hl with | [_, _, _], _ => rfl) (.cons (fun _ _ _ _ _ _ us hl => match us, hl with | [_, _, _], _ => rfl) (.cons (fun _ _ _ _ _ _ us hl => match us, hl with | [_, _], _ => rfl) (.cons (fun _ _ _ _ _ _ us hl => match us, hl with | [_, _], _ => rfl) (.cons (fun _ _ _ _ _ _ us hl => match us, hl with | [_, _, _], _ => rfl) (.cons (fun _ _ _ _ _ _ us hl => match us, hl with | [_], _ => rfl) (.cons (fun _ _ _ _ _ _ us hl => match us, hl with | [_, _], _ => rfl) (.cons (fun _ _ _ _ _ _ us hl => match us, hl with | [_, _], _ => rfl) (.cons (fun _ _ _ _ _ _ us hl => match us, hl with | [_, _], _ => rfl) (.cons (fun _ _ _ _ _ _ us hl => match us, hl with | [_, _], _ => rfl) (.cons (fun _ _ _ _ _ _ us hl => match us, hl with | [_, _], _ => rfl) (.cons (fun _ _ _ _ _ _ us hl => match us, hl with | [_], _ => rfl) (.cons (fun _ _ _ _ _ _ us hl => match us, hl with | [_], _ => rfl) (.cons (fun _ _ _ _ _ _ us hl => match us, hl with | [_, _, _], _ => rfl) (.cons (fun _ _ _ _ _ _ us hl => match us, hl with | [_], _ => rfl) (.cons (fun _ _ _ _ _ _ us hl => match us, hl with | [_, _, _], _ => rfl) (.cons (fun _ _ _ _ _ _ us hl => match us, hl with | [_, _], _ => rfl) (.cons (fun _ _ _ _ _ _ us hl => match us, hl with | [_, _], _ => rfl) (.cons (fun _ _ _ _ _ _ us hl => match us, hl with | [_], _ => rfl) (.cons (fun _ _ _ _ _ _ us hl => match us, hl with | [_], _ => rfl) (.nil))))))))))))))))))))))))))))))))))))))))))))))))
/-! ### the head -/
abbrev fa : List He.Fa := faOf dfs gi gs exs tl
abbrev fn : List He.DefD := dfs.map Df.dd
abbrev hk : PySem.W.Hook := He.hookX 4 fa fn [] (tfOf lq) (moreB tl lq)
def ob (s : PySem.W.SharedT) : He.AlX := He.obsX 4 fa fn [] (tfOf lq) (moreB tl lq) (HandSHeadRun.getT s)
theorem ob_eq (s : PySem.W.SharedT) : ob s = hk.obs s.abs := He.obsX_eq (HandSHeadRun.getT_eq s)
def loose1 : List Str := ["SnowError", "BadYard", "BadSpot", "BadPrints", "BadLane", "BadWalk", "BadNumber", "BadEvening", "Nothing", "Full", "BadText", "SMALL", "LONGEST", "is_word", "rise", "is_spot", "is_lane_of", "is_yard", "need_yard", "is_lane", "are_good_prints", "are_prints", "need_prints", "is_good_walk", "is_walk", "need_walk", "left_by_walk", "prints_of", "reached", "leads_to"]
def loose2 : List Str := ["are_apart", "all_twos", "first_two_apart", "one_can", "with_lane", "first_walk", "shortest", "new_prints", "parts_of", "widest", "fewest", "do_leave", "leavable", "joined", "need_starts", "can_from", "lanes_text", "prints_text", "_law_cell", "_law_drawn", "_law_roll", "_law_rounds", "_law_term", "_law_told", "_law_any_yard", "_law_left", "_law_any_walk", "_law_both", "_law_is_own_walk", "_law_prints_refused"]
def loose3 : List Str := []
def loose : List Str := loose1 ++ (loose2 ++ loose3)
theorem run (w : World) : HandSHeadRun.RunEq row.row (PySem.W.view row.row.prog [68]) hk ob 4000 loose w := by
  intro os
  kernel_rfl
def depth : Nat := 30
abbrev PP : Mi.Pg := ⟨fns, 100000⟩
theorem prAt : PrAt PP 9 7 5 4 0 1 3 2 6 := ⟨rfl, rfl, rfl, rfl, rfl, rfl, rfl, rfl, rfl⟩
theorem wkAt : WkAt PP 5 2 11 14 10 12 13 := ⟨rfl, rfl, rfl, rfl, rfl⟩
def sBadPrints : Str := ⟨#[66, 97, 100, 80, 114, 105, 110, 116, 115]⟩
def sBadWalk : Str := ⟨#[66, 97, 100, 87, 97, 108, 107]⟩
def sZed : Str := ⟨#[122, 101, 100]⟩
def tP : D := .tup [.str sRefused, .str sBadPrints]
def tW : D := .tup [.str sRefused, .str sBadWalk]
theorem isnot_bl {v w : Bool} : cmpD .isnot (.bl v) (.bl w) = some (!(v == w)) := rfl
theorem ne_bl {v w : Bool} : cmpD .ne (.bl v) (.bl w) = some (!(v == w)) := rfl
theorem forL_same {f : D → Env → Option Out} {ρ : Env} : ∀ {xs : List D}, (∀ x ∈ xs, f x ρ = some (.nx ρ)) → forL f xs ρ = some (.nx ρ)
  | [], _ => by rw [forL]
  | x :: xs, h => by
    rw [forL, h x (by simp)]
    exact forL_same fun y hy => h y (by simp [hy])
section
variable {sp : List Str} {ls ps : List Ln} {C : Ctx} {s1 : Slot}
/-! ### prints that are none -/
def bP : S := (.fin (.seq (.asg false 4 (.lst (.cons (.told 0 (.call 20 (.cons (.var 0) (.cons (.var 3) .nil)))) .nil)))
  (.seq (.ex (.mth .append (.var 4) (.cons (.told 0 (.call 27 (.cons (.var 0) (.cons (.var 3) .nil)))) .nil)))
  (.seq (.ex (.mth .append (.var 4) (.cons (.told 0 (.call 23 (.cons (.var 0) (.cons (.var 3) .nil)))) .nil)))
  (.seq (.ex (.mth .append (.var 4) (.cons (.told 0 (.call 28 (.cons (.var 0) (.cons (.var 3) (.cons .non .nil))))) .nil)))
  (.seq (.ex (.mth .append (.var 4) (.cons (.told 0 (.call 32 (.cons (.var 0) (.cons (.var 3) (.cons .non .nil))))) .nil)))
  (.seq (.ex (.mth .append (.var 4) (.cons (.told 0 (.call 34 (.cons (.var 0) (.cons (.var 3) .nil)))) .nil)))
  (.ifs (.or_ (.cmp .isnot (.call 8 (.cons (.var 0) (.cons (.var 3) .nil))) (.bl false)) (.cmp .ne (.var 4) (.bin .mul (.lst (.cons (.tup (.cons (.str ⟨#[114, 101, 102, 117, 115, 101, 100]⟩) (.cons (.str ⟨#[66, 97, 100, 80, 114, 105, 110, 116, 115]⟩) .nil))) .nil)) (.int 6))))
  (.ret (.bl false))
  .pass))))))) [3, 4])
theorem bP_ok (y : Yd sp ls) (hC : Cs PP 9 C) {x : D} {s2 : Slot} (hx : x.plain lvl = true) (hb : ∀ xs, x = .tup xs → xs.length ≤ 1000) (hm : mPrints sp ls x = false) :
    evS C 1 bP [.p (yd sp ls), s1, s2, .p x, .x] = some (.nx [.p (yd sp ls), s1, s2, .x, .x]) := by
  have e20 := Cs.cal (refuse2 (ix := 20) prAt rfl y hx hb hm) (show 6 ≤ 9 by omega) hC
  have e27 := Cs.cal (refuse2 (ix := 27) prAt rfl y hx hb hm) (show 6 ≤ 9 by omega) hC
  have e23 := Cs.cal (refuse2 (ix := 23) prAt rfl y hx hb hm) (show 6 ≤ 9 by omega) hC
  have e28 := Cs.cal (refuse3 (ix := 28) (u := .non) (n := 3) prAt rfl y hx hb hm) (show 6 ≤ 9 by omega) hC
  have e32 := Cs.cal (refuse3 (ix := 32) (u := .non) (n := 5) prAt rfl y hx hb hm) (show 6 ≤ 9 by omega) hC
  have e34 := Cs.cal (refuse2 (ix := 34) prAt rfl y hx hb hm) (show 6 ≤ 9 by omega) hC
  have e8 := Cs.cal (prAt.are (ix := 8) rfl y hx hb) (show 5 ≤ 9 by omega) hC
  rw [hm] at e8
  have hk : toldE 0 2 = some tP := rfl
  have c2 : (D.tup [.str ⟨#[114, 101, 102, 117, 115, 101, 100]⟩, .str ⟨#[66, 97, 100, 80, 114, 105, 110, 116, 115]⟩]) = tP := rfl
  have mm : bin .mul (.lst [tP]) (.int 6) = some (.m (.c (.l [tP, tP, tP, tP, tP, tP]))) := rfl
  have cm : cmpD .ne (.lst [tP, tP, tP, tP, tP, tP]) (.lst [tP, tP, tP, tP, tP, tP]) = some false := rfl
  have ap : ∀ xs : List D, xs.length ≤ 100 → mtL .append xs [tP] = some (.non, xs ++ [tP]) := fun xs h => by
    unfold mtL mtAppend
    dsimp only
    rw [if_pos (by simp [big]; omega)]
  generalize yd sp ls = Y at *
  generalize tP = T at *
  unfold bP
  simp [runFn, es_pass, es_seq, es_fin, es_asg, es_asgT, es_ex, es_ifs, es_rais, es_ret, es_par, es_setI, et, ev_var, ev_non, ev_bl, ev_int, ev_str, ev_gi, ev_gs, ev_tup, ev_lst, ev_bin, ev_not, ev_and, ev_or, ev_cmp, ev_chn, ev_ife, ev_sub, ev_slf, ev_slt, ev_call, ev_bi, ev_sset, ev_rev, ev_neg, ev_isi, ev_nil, ev_cons, ev_seq, ev_rng1, ev_zip, R.bind, look, looks, Slot.dat?, Cn.dat, exOf, W.fz, esc, escs, stored, put, lend, giveBack, Slot.free, ev_told, ev_mtw (m := .append) rfl, e20, e27, e23, e28, e32, e34, e8, hk, ap, newL, newT, big, isnot_bl, c2, mm, cm, killAll]
theorem zed_out (y : Yd sp ls) : sZed ∉ sp := fun z => by
  have := y.five _ z
  revert this
  decide
theorem mLane_str {x : Str} : mLane sp ls (.str x) = false := rfl
/-- the cases, all of them none -/
theorem cases_bad (y : Yd sp ls) {l : Ln} {r : List Ln} (e : ls = l :: r) {x : D} (h : x ∈ [D.non, .int 5, .lst [], .lst [ln l], .tup [ln l, ln l], .tup [.str sBarn, .str sGate], .tup [.tup [.str sBarn, .str sZed]], .tup [.non], .tup ((ls.map ln).reverse ++ [ln l]), .tup [.lst [.str l.1, .str l.2]]]) :
    x.plain lvl = true ∧ (∀ xs, x = .tup xs → xs.length ≤ 1000) ∧ mPrints sp ls x = false := by
  have l8 := y.len.2
  have hl : l ∈ ls := by rw [e]; simp
  have fv : Fv l := ⟨y.five _ (y.ends l hl).1, y.five _ (y.ends l hl).2.1⟩
  have pl : ∀ n, (ln l).plain (n + 1) = true := fun n => plain_fv fv
  have o1 := okS_five fv.1
  have o2 := okS_five fv.2
  simp only [List.mem_cons, List.not_mem_nil, or_false] at h
  rcases h with rfl | rfl | rfl | rfl | rfl | rfl | rfl | rfl | rfl | rfl
  · exact ⟨rfl, fun _ z => (by cases z), rfl⟩
  · exact ⟨rfl, fun _ z => (by cases z), rfl⟩
  · exact ⟨rfl, fun _ z => (by cases z), rfl⟩
  · exact ⟨by simp [D.plain, D.plains, pl 10], fun _ z => (by cases z), rfl⟩
  · refine ⟨by simp [D.plain, D.plains, pl 10], fun _ z => (by cases z; simp), ?_⟩
    rw [mPrints_tup]
    have := no_rise fv []
    simp only [List.nil_append, List.cons_append] at this
    rw [this, Bool.and_false]
  · exact ⟨rfl, fun _ z => (by cases z; simp), rfl⟩
  · refine ⟨rfl, fun _ z => (by cases z; simp), ?_⟩
    have hm : mSpot (sp.map D.str) (.str sZed) = false := by rw [mSpot_str]; exact decide_eq_false (zed_out y)
    rw [mPrints_tup]
    unfold mLane mLaneOf
    simp [hm]
  · exact ⟨rfl, fun _ z => (by cases z; simp), rfl⟩
  · refine ⟨?_, fun _ z => (by cases z; simp; omega), ?_⟩
    · refine plain_tup (n := 11) fun x hx => ?_
      rcases List.mem_append.mp hx with z | z
      · obtain ⟨p, hp, rfl⟩ := List.mem_map.mp (List.mem_reverse.mp z)
        exact y.lnp p hp
      · rw [List.mem_singleton.mp z]; exact pl 10
    · rw [mPrints_tup]
      have : (ls.map ln).reverse ++ [ln l] = ((r.map ln).reverse ++ [ln l]) ++ [ln l] := by rw [e]; simp
      rw [this, no_rise fv, Bool.and_false]
  · refine ⟨plain_tup (n := 11) fun x hx => ?_, fun _ z => (by cases z; simp), rfl⟩
    rw [List.mem_singleton.mp hx]
    show D.plains 10 [.str l.1, .str l.2] = true
    refine plains_of fun z hz => ?_
    rcases List.mem_cons.mp hz with rfl | hz
    · exact plain_str o1
    · rw [List.mem_singleton.mp hz]; exact plain_str o2
theorem refused_ok (y : Yd sp ls) : Does PP 10 46 [.p (yd sp ls)] (.ok (.d (.bl true))) [.p (yd sp ls)] := by
  refine does_cs (fn := f__law_prints_refused) rfl fun C hC => ?_
  have l8 := y.len.2
  obtain ⟨l, r, e⟩ : ∃ l r, ls = l :: r := by
    cases ls with
    | nil => have := y.len.1; simp at this
    | cons l r => exact ⟨l, r, rfl⟩
  have g1 : subD (yd sp ls) (.int 1) = some (.tup (ls.map ln)) := rfl
  have g2 : subD (.tup (ls.map ln)) (.int 0) = some (ln l) := by
    rw [e]
    unfold subD at? ixOf
    simp
  have gr : revD (.tup (ls.map ln)) = some (.d (.tup (ls.map ln).reverse)) := if_pos (by simp [big]; omega)
  have ga : bin .add (.tup (ls.map ln).reverse) (.tup [ln l]) = some (.d (.tup ((ls.map ln).reverse ++ [ln l]))) := if_pos (by simp [big]; omega)
  have gadd : ∀ A B : List D, A.length + B.length ≤ 100 → bin .add (.lst A) (.lst B) = some (.m (.c (.l (A ++ B)))) := fun A B h => if_pos (by rw [List.length_append]; simp [big]; omega)
  have gl : biList [ln l] = some (.m (.c (.l [.str l.1, .str l.2]))) := rfl
  have loop : forL (fun x ρ => match asT 1 (.n 3) x ρ with | some ρ => evS C 1 bP ρ | none => none) [D.non, .int 5, .lst [], .lst [ln l], .tup [ln l, ln l], .tup [.str sBarn, .str sGate], .tup [.tup [.str sBarn, .str sZed]], .tup [.non], .tup ((ls.map ln).reverse ++ [ln l]), .tup [.lst [.str l.1, .str l.2]]]
      [.p (yd sp ls), .p (ln l), .p (.lst [D.non, .int 5, .lst [], .lst [ln l], .tup [ln l, ln l], .tup [.str sBarn, .str sGate], .tup [.tup [.str sBarn, .str sZed]], .tup [.non], .tup ((ls.map ln).reverse ++ [ln l]), .tup [.lst [.str l.1, .str l.2]]]), .x, .x] =
      some (.nx [.p (yd sp ls), .p (ln l), .p (.lst [D.non, .int 5, .lst [], .lst [ln l], .tup [ln l, ln l], .tup [.str sBarn, .str sGate], .tup [.tup [.str sBarn, .str sZed]], .tup [.non], .tup ((ls.map ln).reverse ++ [ln l]), .tup [.lst [.str l.1, .str l.2]]]), .x, .x]) := forL_same fun x hx => by
    obtain ⟨h1, h2, h3⟩ := cases_bad y e hx
    simp only [asT]
    rw [if_pos ⟨by decide, by simp⟩]
    exact bP_ok y hC h1 h2 h3
  have b1 : (⟨#[98, 97, 114, 110]⟩ : Str) = sBarn := rfl
  have b2 : (⟨#[103, 97, 116, 101]⟩ : Str) = sGate := rfl
  have b3 : (⟨#[122, 101, 100]⟩ : Str) = sZed := rfl
  have f3 : evS C 1 (.for_ (.n 3) (.seq (.var 2)) bP) [.p (yd sp ls), .p (ln l), .p (.lst [D.non, .int 5, .lst [], .lst [ln l], .tup [ln l, ln l], .tup [.str sBarn, .str sGate], .tup [.tup [.str sBarn, .str sZed]], .tup [.non], .tup ((ls.map ln).reverse ++ [ln l]), .tup [.lst [.str l.1, .str l.2]]]), .x, .x] =
      some (.nx [.p (yd sp ls), .p (ln l), .p (.lst [D.non, .int 5, .lst [], .lst [ln l], .tup [ln l, ln l], .tup [.str sBarn, .str sGate], .tup [.tup [.str sBarn, .str sZed]], .tup [.non], .tup ((ls.map ln).reverse ++ [ln l]), .tup [.lst [.str l.1, .str l.2]]]), .x, .x]) := by
    rw [ev_for, ev_seq, ev_var]
    exact loop
  unfold bP at f3
  generalize (ls.map ln).reverse ++ [ln l] = X2 at *
  generalize (ls.map ln).reverse = X3 at *
  generalize D.tup (ls.map ln) = X1 at *
  generalize ln l = L at *
  generalize yd sp ls = Y at *
  simp [f__law_prints_refused, runFn, es_pass, es_seq, es_fin, es_asg, es_asgT, es_ex, es_ifs, es_rais, es_ret, es_par, es_setI, et, ev_var, ev_non, ev_bl, ev_int, ev_str, ev_gi, ev_gs, ev_tup, ev_lst, ev_bin, ev_not, ev_and, ev_or, ev_cmp, ev_chn, ev_ife, ev_sub, ev_slf, ev_slt, ev_call, ev_bi, ev_sset, ev_rev, ev_neg, ev_isi, ev_nil, ev_cons, ev_seq, ev_rng1, ev_zip, R.bind, look, looks, Slot.dat?, Cn.dat, exOf, W.fz, esc, escs, stored, put, lend, giveBack, Slot.free, g1, g2, gr, ga, biD, gl, b1, b2, b3, newL, newT, big, gadd, f3]
end
/-! ### bent walks -/
section
variable {sp : List Str} {ls ps : List Ln} {C : Ctx} {Z : List Str}
theorem gadd {A B : List D} (h : A.length + B.length ≤ 1000) : bin .add (.lst A) (.lst B) = some (.m (.c (.l (A ++ B)))) := if_pos (by rw [List.length_append]; simp [big]; omega)
theorem sub_at {xs : List D} {t : Nat} (h : t < xs.length) : subD (.lst xs) (.int (t : Int)) = some xs[t] := by
  have h1 : (0 : Int) ≤ (t : Int) := by omega
  have h2 : (t : Int) < (xs.length : Int) := by omega
  unfold subD at? ixOf
  simp only [if_pos h1, if_pos h2, Int.toNat_natCast, Option.bind_some]
  simp [h]
theorem cut_nat {n k : Nat} (h : k ≤ n) : cutAt n (k : Int) = k := by
  unfold cutAt
  rw [if_pos (by omega), Int.toNat_natCast]
  exact Nat.min_eq_left h
theorem slt_nat {xs : List D} {k : Nat} (h : k ≤ xs.length) (hb : xs.length ≤ 1000) : slD false (.lst xs) (.int (k : Int)) = some (.m (.c (.l (xs.take k)))) := by
  unfold slD
  dsimp only
  rw [if_neg (by decide), cut_nat h]
  exact if_pos (by simp [big]; omega)
theorem slf_nat {xs : List D} {k : Nat} (h : k ≤ xs.length) (hb : xs.length ≤ 1000) : slD true (.lst xs) (.int (k : Int)) = some (.m (.c (.l (xs.drop k)))) := by
  unfold slD
  dsimp only
  rw [if_pos rfl, cut_nat h]
  exact if_pos (by simp [big]; omega)
def parts : List D := [.str sBarn, .str sGate, .str sPond, .str sZed, .str ⟨#[66, 97, 114, 110]⟩, .non, .int 5]
def b6 : S := (.fin (.seq (.asg true 9 (.call 37 (.cons (.var 1) (.cons (.bi .len (.cons (.var 3) .nil)) .nil))))
  (.seq (.asg true 10 (.sub (.lst (.cons (.str ⟨#[98, 97, 114, 110]⟩) (.cons (.str ⟨#[103, 97, 116, 101]⟩) (.cons (.str ⟨#[112, 111, 110, 100]⟩) (.cons (.str ⟨#[122, 101, 100]⟩) (.cons (.str ⟨#[66, 97, 114, 110]⟩) (.cons .non (.cons (.int 5) .nil)))))))) (.call 37 (.cons (.var 1) (.cons (.int 7) .nil)))))
  (.seq (.asg true 11 (.sub (.lst (.cons (.bin .add (.bin .add (.slt (.var 3) (.var 9)) (.lst (.cons (.var 10) .nil))) (.slf (.var 3) (.bin .add (.var 9) (.int 1)))) (.cons (.bin .add (.slt (.var 3) (.var 9)) (.slf (.var 3) (.bin .add (.var 9) (.int 1)))) (.cons (.bin .add (.var 3) (.lst (.cons (.var 10) .nil))) .nil)))) (.call 37 (.cons (.var 1) (.cons (.int 3) .nil)))))
  (.ifs (.cmp .ne (.call 11 (.cons (.var 2) (.cons (.var 11) .nil))) (.call 45 (.cons (.var 2) (.cons (.var 11) .nil))))
  (.ret (.bl false))
  .pass)))) [6, 9, 10, 11])
theorem b6_ok {m : Nat} {a b : Int} {s4 s5 s6 : Slot} (y : Yd sp ls) (q : Wlk sp ls Z) (l : Z.length ≤ 20) (h : Dk (m + 3) a b) :
    ∃ a' b', Dk m a' b' ∧ ∀ C, Cs PP 9 C → evS C 1 b6 [.x, .c (.l [.int a, .int b]), .p (yd sp ls), .p (.lst (Z.map D.str)), s4, s5, s6, .x, .x, .x, .x, .x, .x] =
      some (.nx [.x, .c (.l [.int a', .int b']), .p (yd sp ls), .p (.lst (Z.map D.str)), s4, s5, .x, .x, .x, .x, .x, .x, .x]) := by
  have l1 : 1 ≤ Z.length := Nat.pos_of_ne_zero fun z => q.one (List.length_eq_zero_iff.mp z)
  obtain ⟨t1, a1, b1, t10, t11, hk1, hc1⟩ := roll_ok (P := PP) (ix := 37) (i1 := 36) (m := m + 2) (many := ((Z.length : Nat) : Int)) rfl rfl h (by omega) (by omega)
  obtain ⟨n1, rfl⟩ := Int.eq_ofNat_of_zero_le t10
  obtain ⟨t2, a2, b2, t20, t21, hk2, hc2⟩ := roll_ok (P := PP) (ix := 37) (i1 := 36) (m := m + 1) (many := 7) rfl rfl hk1 (by omega) (by omega)
  obtain ⟨n2, rfl⟩ := Int.eq_ofNat_of_zero_le t20
  obtain ⟨t3, a3, b3, t30, t31, hk3, hc3⟩ := roll_ok (P := PP) (ix := 37) (i1 := 36) (m := m) (many := 3) rfl rfl hk2 (by omega) (by omega)
  obtain ⟨n3, rfl⟩ := Int.eq_ofNat_of_zero_le t30
  have h1 : n1 < Z.length := by omega
  have h2 : n2 < parts.length := by show n2 < 7; omega
  refine ⟨a3, b3, hk3, fun C hC => ?_⟩
  have e1 := Cs.cal hc1 (show 2 ≤ 9 by omega) hC
  have e2 := Cs.cal hc2 (show 2 ≤ 9 by omega) hC
  have e3 := Cs.cal hc3 (show 2 ≤ 9 by omega) hC
  have pp : ∀ x ∈ parts, x.plain 10 = true := by decide
  have p0 := pp _ (List.getElem_mem h2)
  have g2 := sub_at h2
  generalize parts[n2] = part at p0 g2
  have pz : ∀ x ∈ Z.map D.str, x.plain 10 = true := fun x hx => by
    obtain ⟨z, hz, rfl⟩ := List.mem_map.mp hx
    exact plain_str (y.okS z (q.at_ z hz))
  have lz : (Z.map D.str).length = Z.length := List.length_map _
  generalize hZs : Z.map D.str = Zs at pz lz
  have hn1 : ((n1 : Nat) : Int) + 1 = ((n1 + 1 : Nat) : Int) := by omega
  have s1 := slt_nat (xs := Zs) (k := n1) (by omega) (by omega)
  have s2 := slf_nat (xs := Zs) (k := n1 + 1) (by omega) (by omega)
  rw [← hn1] at s2
  have lt1 : (Zs.take n1).length ≤ 20 := by rw [List.length_take]; omega
  have lt2 : (Zs.drop (n1 + 1)).length ≤ 20 := by rw [List.length_drop]; omega
  have d1 := gadd (A := Zs.take n1) (B := [part]) (by simp; omega)
  have d2 := gadd (A := Zs.take n1 ++ [part]) (B := Zs.drop (n1 + 1)) (by rw [List.length_append]; simp at lt1 lt2 ⊢; omega)
  have d3 := gadd (A := Zs.take n1) (B := Zs.drop (n1 + 1)) (by omega)
  have d4 := gadd (A := Zs) (B := [part]) (by simp; omega)
  have hth : ∀ t ∈ [D.lst (Zs.take n1 ++ [part] ++ Zs.drop (n1 + 1)), D.lst (Zs.take n1 ++ Zs.drop (n1 + 1)), D.lst (Zs ++ [part])], ∃ xs : List D, t = .lst xs ∧ (∀ x ∈ xs, x.plain 10 = true) ∧ xs.length ≤ 1000 := fun t ht => by
    have pt : ∀ x ∈ Zs.take n1, x.plain 10 = true := fun x hx => pz x (List.mem_of_mem_take hx)
    have pd : ∀ x ∈ Zs.drop (n1 + 1), x.plain 10 = true := fun x hx => pz x (List.mem_of_mem_drop hx)
    have po : ∀ x ∈ [part], x.plain 10 = true := fun x hx => by rw [List.mem_singleton.mp hx]; exact p0
    simp only [List.mem_cons, List.not_mem_nil, or_false] at ht
    rcases ht with rfl | rfl | rfl
    · exact ⟨_, rfl, fun x hx => (List.mem_append.mp hx).elim (fun z => (List.mem_append.mp z).elim (pt x) (po x)) (pd x), by rw [List.length_append, List.length_append]; simp at lt1 lt2 ⊢; omega⟩
    · exact ⟨_, rfl, fun x hx => (List.mem_append.mp hx).elim (pt x) (pd x), by rw [List.length_append]; omega⟩
    · exact ⟨_, rfl, fun x hx => (List.mem_append.mp hx).elim (pz x) (po x), by rw [List.length_append]; simp; omega⟩
  have h3 : n3 < [D.lst (Zs.take n1 ++ [part] ++ Zs.drop (n1 + 1)), D.lst (Zs.take n1 ++ Zs.drop (n1 + 1)), D.lst (Zs ++ [part])].length := by show n3 < 3; omega
  have g3 := sub_at h3
  obtain ⟨xs, ex, px, lx⟩ := hth _ (List.getElem_mem h3)
  rw [ex] at g3
  have e11 := Cs.cal (wkAt.is prAt y (t := .lst xs) (by
    have : D.plains 11 xs = true := plains_of fun x hx => plain_mono (px x hx)
    simpa [D.plain] using this)) (show 5 ≤ 9 by omega) hC
  have e45 := Cs.cal (own_walk_ok (P := PP) (ix := 45) rfl y px lx) (show 1 ≤ 9 by omega) hC
  have bl : biLen [.lst Zs] = some (.d (.int ((Z.length : Nat) : Int))) := by unfold biLen; rw [← lz]
  have u1 : evS C 1 (.asg true 9 (.call 37 (.cons (.var 1) (.cons (.bi .len (.cons (.var 3) .nil)) .nil)))) [.x, .c (.l [.int a, .int b]), .p (yd sp ls), .p (.lst Zs), s4, s5, s6, .x, .x, .x, .x, .x, .x] =
      some (.nx [.x, .c (.l [.int a1, .int b1]), .p (yd sp ls), .p (.lst Zs), s4, s5, s6, .x, .x, .p (.int n1), .x, .x, .x]) := by
    generalize yd sp ls = Y
    simp [runFn, es_pass, es_seq, es_fin, es_asg, es_asgT, es_ex, es_ifs, es_rais, es_ret, es_par, es_setI, et, ev_var, ev_non, ev_bl, ev_int, ev_str, ev_gi, ev_gs, ev_tup, ev_lst, ev_bin, ev_not, ev_and, ev_or, ev_cmp, ev_chn, ev_ife, ev_sub, ev_slf, ev_slt, ev_call, ev_bi, ev_sset, ev_rev, ev_neg, ev_isi, ev_nil, ev_cons, ev_seq, ev_rng1, ev_zip, R.bind, look, looks, Slot.dat?, Cn.dat, exOf, W.fz, esc, escs, stored, put, lend, giveBack, Slot.free, biD, bl, e1]
  have u2 : evS C 1 (.asg true 10 (.sub (.lst (.cons (.str ⟨#[98, 97, 114, 110]⟩) (.cons (.str ⟨#[103, 97, 116, 101]⟩) (.cons (.str ⟨#[112, 111, 110, 100]⟩) (.cons (.str ⟨#[122, 101, 100]⟩) (.cons (.str ⟨#[66, 97, 114, 110]⟩) (.cons .non (.cons (.int 5) .nil)))))))) (.call 37 (.cons (.var 1) (.cons (.int 7) .nil))))) [.x, .c (.l [.int a1, .int b1]), .p (yd sp ls), .p (.lst Zs), s4, s5, s6, .x, .x, .p (.int n1), .x, .x, .x] =
      some (.nx [.x, .c (.l [.int a2, .int b2]), .p (yd sp ls), .p (.lst Zs), s4, s5, s6, .x, .x, .p (.int n1), .p part, .x, .x]) := by
    have ep : parts = [.str ⟨#[98, 97, 114, 110]⟩, .str ⟨#[103, 97, 116, 101]⟩, .str ⟨#[112, 111, 110, 100]⟩, .str ⟨#[122, 101, 100]⟩, .str ⟨#[66, 97, 114, 110]⟩, .non, .int 5] := rfl
    rw [ep] at g2
    generalize yd sp ls = Y
    simp [runFn, es_pass, es_seq, es_fin, es_asg, es_asgT, es_ex, es_ifs, es_rais, es_ret, es_par, es_setI, et, ev_var, ev_non, ev_bl, ev_int, ev_str, ev_gi, ev_gs, ev_tup, ev_lst, ev_bin, ev_not, ev_and, ev_or, ev_cmp, ev_chn, ev_ife, ev_sub, ev_slf, ev_slt, ev_call, ev_bi, ev_sset, ev_rev, ev_neg, ev_isi, ev_nil, ev_cons, ev_seq, ev_rng1, ev_zip, R.bind, look, looks, Slot.dat?, Cn.dat, exOf, W.fz, esc, escs, stored, put, lend, giveBack, Slot.free, newL, big, e2, g2]
  have u3 : evS C 1 (.asg true 11 (.sub (.lst (.cons (.bin .add (.bin .add (.slt (.var 3) (.var 9)) (.lst (.cons (.var 10) .nil))) (.slf (.var 3) (.bin .add (.var 9) (.int 1)))) (.cons (.bin .add (.slt (.var 3) (.var 9)) (.slf (.var 3) (.bin .add (.var 9) (.int 1)))) (.cons (.bin .add (.var 3) (.lst (.cons (.var 10) .nil))) .nil)))) (.call 37 (.cons (.var 1) (.cons (.int 3) .nil))))) [.x, .c (.l [.int a2, .int b2]), .p (yd sp ls), .p (.lst Zs), s4, s5, s6, .x, .x, .p (.int n1), .p part, .x, .x] =
      some (.nx [.x, .c (.l [.int a3, .int b3]), .p (yd sp ls), .p (.lst Zs), s4, s5, s6, .x, .x, .p (.int n1), .p part, .p (.lst xs), .x]) := by
    generalize Zs.take n1 ++ [part] ++ Zs.drop (n1 + 1) = A1 at *
    generalize Zs.take n1 ++ Zs.drop (n1 + 1) = A2 at *
    generalize Zs ++ [part] = A3 at *
    generalize Zs.take n1 ++ [part] = A4 at *
    generalize Zs.take n1 = A5 at *
    generalize Zs.drop (n1 + 1) = A6 at *
    generalize yd sp ls = Y
    simp [runFn, es_pass, es_seq, es_fin, es_asg, es_asgT, es_ex, es_ifs, es_rais, es_ret, es_par, es_setI, et, ev_var, ev_non, ev_bl, ev_int, ev_str, ev_gi, ev_gs, ev_tup, ev_lst, ev_bin, ev_not, ev_and, ev_or, ev_cmp, ev_chn, ev_ife, ev_sub, ev_slf, ev_slt, ev_call, ev_bi, ev_sset, ev_rev, ev_neg, ev_isi, ev_nil, ev_cons, ev_seq, ev_rng1, ev_zip, R.bind, look, looks, Slot.dat?, Cn.dat, exOf, W.fz, esc, escs, stored, put, lend, giveBack, Slot.free, newL, big, badd, s1, s2, d1, d2, d3, d4, e3, g3]
  have u4 : evS C 1 (.ifs (.cmp .ne (.call 11 (.cons (.var 2) (.cons (.var 11) .nil))) (.call 45 (.cons (.var 2) (.cons (.var 11) .nil)))) (.ret (.bl false)) .pass) [.x, .c (.l [.int a3, .int b3]), .p (yd sp ls), .p (.lst Zs), s4, s5, s6, .x, .x, .p (.int n1), .p part, .p (.lst xs), .x] =
      some (.nx [.x, .c (.l [.int a3, .int b3]), .p (yd sp ls), .p (.lst Zs), s4, s5, s6, .x, .x, .p (.int n1), .p part, .p (.lst xs), .x]) := by
    generalize mWalk sp ls (.lst xs) = v at *
    generalize yd sp ls = Y at *
    simp [runFn, es_pass, es_seq, es_fin, es_asg, es_asgT, es_ex, es_ifs, es_rais, es_ret, es_par, es_setI, et, ev_var, ev_non, ev_bl, ev_int, ev_str, ev_gi, ev_gs, ev_tup, ev_lst, ev_bin, ev_not, ev_and, ev_or, ev_cmp, ev_chn, ev_ife, ev_sub, ev_slf, ev_slt, ev_call, ev_bi, ev_sset, ev_rev, ev_neg, ev_isi, ev_nil, ev_cons, ev_seq, ev_rng1, ev_zip, R.bind, look, looks, Slot.dat?, Cn.dat, exOf, W.fz, esc, escs, stored, put, lend, giveBack, Slot.free, e11, e45, ne_bl]
  unfold b6
  rw [es_fin]
  simp only [es_seq, u1, u2, u3, u4]
  simp [killAll]
end
/-! ### what is no walk -/
section
variable {sp : List Str} {ls ps : List Ln} {C : Ctx} {Z : List Str}
def b8 : S := (.fin (.seq (.asg false 12 (.lst (.cons (.told 0 (.call 14 (.cons (.var 2) (.cons (.var 8) .nil)))) .nil)))
  (.seq (.ex (.mth .append (.var 12) (.cons (.told 0 (.call 24 (.cons (.var 2) (.cons (.tup .nil) (.cons (.var 8) .nil))))) .nil)))
  (.ifs (.or_ (.cmp .isnot (.call 11 (.cons (.var 2) (.cons (.var 8) .nil))) (.bl false)) (.cmp .ne (.var 12) (.bin .mul (.lst (.cons (.tup (.cons (.str ⟨#[114, 101, 102, 117, 115, 101, 100]⟩) (.cons (.str ⟨#[66, 97, 100, 87, 97, 108, 107]⟩) .nil))) .nil)) (.int 2))))
  (.ret (.bl false))
  .pass))) [8, 12])
theorem b8_ok (y : Yd sp ls) (hC : Cs PP 9 C) {x : D} {d1 s3 s4 s5 s7 : Slot} (hx : x.plain lvl = true) (hm : mWalk sp ls x = false) :
    evS C 1 b8 [.x, d1, .p (yd sp ls), s3, s4, s5, .x, s7, .p x, .x, .x, .x, .x] = some (.nx [.x, d1, .p (yd sp ls), s3, s4, s5, .x, s7, .x, .x, .x, .x, .x]) := by
  have e14 := Cs.cal (wkAt.ofBad prAt y hx hm) (show 5 ≤ 9 by omega) hC
  have e24 := Cs.cal (wkAt.newBad (ix := 24) rfl prAt y hx hm) (show 6 ≤ 9 by omega) hC
  have e11 := Cs.cal (wkAt.is prAt y hx) (show 5 ≤ 9 by omega) hC
  rw [hm] at e11
  have hk : toldE 0 4 = some tW := rfl
  have c2 : (D.tup [.str ⟨#[114, 101, 102, 117, 115, 101, 100]⟩, .str ⟨#[66, 97, 100, 87, 97, 108, 107]⟩]) = tW := rfl
  have mm : bin .mul (.lst [tW]) (.int 2) = some (.m (.c (.l [tW, tW]))) := rfl
  have cm : cmpD .ne (.lst [tW, tW]) (.lst [tW, tW]) = some false := rfl
  have ap : ∀ xs : List D, xs.length ≤ 100 → mtL .append xs [tW] = some (.non, xs ++ [tW]) := fun xs h => by
    unfold mtL mtAppend
    dsimp only
    rw [if_pos (by simp [big]; omega)]
  generalize yd sp ls = Y at *
  generalize tW = T at *
  unfold b8
  simp [runFn, es_pass, es_seq, es_fin, es_asg, es_asgT, es_ex, es_ifs, es_rais, es_ret, es_par, es_setI, et, ev_var, ev_non, ev_bl, ev_int, ev_str, ev_gi, ev_gs, ev_tup, ev_lst, ev_bin, ev_not, ev_and, ev_or, ev_cmp, ev_chn, ev_ife, ev_sub, ev_slf, ev_slt, ev_call, ev_bi, ev_sset, ev_rev, ev_neg, ev_isi, ev_nil, ev_cons, ev_seq, ev_rng1, ev_zip, R.bind, look, looks, Slot.dat?, Cn.dat, exOf, W.fz, esc, escs, stored, put, lend, giveBack, Slot.free, ev_told, ev_mtw (m := .append) rfl, e14, e24, e11, hk, ap, newL, newT, big, isnot_bl, c2, mm, cm, killAll]
theorem eqvs_str : ∀ Z : List Str, D.eqvs (Z.map D.str) (Z.map D.str) = true
  | [] => by simp [D.eqvs]
  | z :: r => by simp [D.eqvs, eqv_str, eqvs_str r]
theorem eqvs_ln : ∀ ps : List Ln, D.eqvs (ps.map ln) (ps.map ln) = true
  | [] => by simp [D.eqvs]
  | p :: r => by simp [D.eqvs, eqv_ln, eqvs_ln r]
theorem ne_pr (h : ∀ p ∈ ps, Fv p) : cmpD .ne (pr ps) (pr ps) = some false := by
  have p1 : (pr ps).plain lvl = true := plain_tup (n := 11) fun x hx => by
    obtain ⟨p, hp, rfl⟩ := List.mem_map.mp hx
    exact plain_fv (h p hp)
  have e : D.eqv (pr ps) (pr ps) = true := by
    unfold pr
    simp only [D.eqv]
    exact eqvs_ln ps
  unfold cmpD; dsimp only
  rw [p1, e]; rfl
theorem ne_walk (h : ∀ x ∈ Z, okS x = true) : cmpD .ne (.lst (Z.map D.str)) (.lst (Z.map D.str)) = some false := by
  have p1 : (D.lst (Z.map D.str)).plain lvl = true := by
    have : D.plains 11 (Z.map D.str) = true := plains_of fun x hx => by
      obtain ⟨z, hz, rfl⟩ := List.mem_map.mp hx
      exact plain_str (h z hz)
    simpa [D.plain] using this
  have e : D.eqv (.lst (Z.map D.str)) (.lst (Z.map D.str)) = true := by
    simp only [D.eqv]
    exact eqvs_str Z
  unfold cmpD; dsimp only
  rw [p1, e]; rfl
theorem rep_one {α : Type} {x : α} : ∀ n, rep [x] n = List.replicate n x
  | 0 => rfl
  | n + 1 => by rw [rep, rep_one n]; rfl
end
/-! ### the turn -/
theorem turn_done {C : Ctx} (hC : Cs PP 10 C) {c : Int} (hd : Dk 200 c 0) : ∃ ρ', evS C 1 turn (turnEnv 13 c) = some (.nx ρ') := by
  have hC9 : Cs PP 9 C := by
    obtain ⟨j, hj, e⟩ := hC
    exact ⟨j, by omega, e⟩
  obtain ⟨sp, ls, a1, b1, y, hk1, h1⟩ := any_yard_ok (P := PP) (ix := 41) (i1 := 37) (i2 := 36) (m := 180) rfl rfl rfl (hd.le (by omega))
  obtain ⟨Z, a2, b2, q, lZ, hk2, h2⟩ := any_walk_ok (P := PP) (ix := 43) (i1 := 37) (i2 := 36) (m := 160) (high := 14) rfl rfl rfl y (by omega) (hk1.le (by omega))
  have l1 : 1 ≤ Z.length := Nat.pos_of_ne_zero fun z => q.one (List.length_eq_zero_iff.mp z)
  obtain ⟨t3, a3, b3, t30, t31, hk3, h3⟩ := roll_ok (P := PP) (ix := 37) (i1 := 36) (m := 150) (many := ((Z.length : Nat) : Int)) rfl rfl (hk2.le (by omega)) (by omega) (by omega)
  obtain ⟨n3, rfl⟩ := Int.eq_ofNat_of_zero_le t30
  have hn3 : n3 < Z.length := by omega
  have fz : ∀ x ∈ Z, x ∈ five := fun x hx => y.five x (q.at_ x hx)
  have fs := steps_fv fz
  -- the eight turns
  obtain ⟨ρ6, hl6, a6, b6', e6, hk6⟩ := forL_rel (cs := Cs PP 9) (f := fun C x ρ => match asT 1 (.n 6) x ρ with | some ρ => evS C 1 b6 ρ | none => none) (xs := rngL 0 1 8) (done := [])
    (ρ := [.x, .c (.l [.int a3, .int b3]), .p (yd sp ls), .p (.lst (Z.map D.str)), .p (.lst (Z.map D.str)), .p (.int n3), .x, .x, .x, .x, .x, .x, .x])
    (fun d ρ => ∃ a b : Int, ρ = [.x, .c (.l [.int a, .int b]), .p (yd sp ls), .p (.lst (Z.map D.str)), .p (.lst (Z.map D.str)), .p (.int n3), .x, .x, .x, .x, .x, .x, .x] ∧ Dk (100 + 3 * (8 - d.length)) a b)
    ⟨a3, b3, rfl, hk3.le (by simp)⟩ (fun d x r ρ eq ⟨a, b, e, hk⟩ => by
      subst e
      have hd1 : d.length + 1 ≤ 8 := by
        have := congrArg List.length eq
        rw [List.nil_append, rngL_len] at this
        simp at this
        omega
      obtain ⟨a', b', hk', hev⟩ := b6_ok (m := 100 + 3 * (8 - (d.length + 1))) (s4 := .p (.lst (Z.map D.str))) (s5 := .p (.int n3)) (s6 := .p x) y q (by omega) (hk.le (by omega))
      refine ⟨_, fun C' hC' => ?_, a', b', rfl, by simpa using hk'⟩
      simp only [asT]
      rw [if_pos ⟨by decide, by simp⟩]
      exact hev C' hC')
  have hl6 := hl6 C hC9
  subst e6
  obtain ⟨s, r, eZ⟩ : ∃ s r, Z = s :: r := by
    cases Z with
    | nil => simp at l1
    | cons s r => exact ⟨s, r, rfl⟩
  have hs : s ∈ sp := q.at_ s (by rw [eZ]; simp)
  have os := y.okS s hs
  have wS : Wlk sp ls (List.replicate 41 s) := Wlk.stay hs 40
  have eS : (List.replicate 41 s).map D.str = List.replicate 41 (D.str s) := by rw [List.map_replicate]
  -- the calls
  have c41 := Cs.cal h1 (show 3 ≤ 10 by omega) hC
  have c43 := Cs.cal h2 (show 3 ≤ 10 by omega) hC
  have c37 := Cs.cal h3 (show 2 ≤ 10 by omega) hC
  have c11 := Cs.cal (wkAt.is prAt y (plain_walk y q.at_ (n := 11))) (show 5 ≤ 10 by omega) hC
  rw [q.judged (by omega)] at c11
  have c14 := Cs.cal (wkAt.ofW prAt y q (by omega)) (show 5 ≤ 10 by omega) hC
  have c42 := Cs.cal (law_left_ok (P := PP) (ix := 42) rfl fz (by omega)) (show 1 ≤ 10 by omega) hC
  have pR := Pr.srt y q.steps
  have c8 := Cs.cal (prAt.are (ix := 8) rfl y (t := pr (srt (steps Z))) (plain_tup (n := 11) fun x hx => by
    obtain ⟨p, hp, rfl⟩ := List.mem_map.mp hx
    exact plain_fv (fs p (srt_mem.mp hp))) (fun xs e => by cases e; rw [List.length_map]; have := pR.len; omega)) (show 5 ≤ 10 by omega) hC
  rw [pR.good y] at c8
  have c14a := Cs.cal (wkAt.ofW prAt y (q.take n3) (by rw [List.length_take]; omega)) (show 5 ≤ 10 by omega) hC
  have c14b := Cs.cal (wkAt.ofW prAt y (q.drop hn3) (by rw [List.length_drop]; omega)) (show 5 ≤ 10 by omega) hC
  have fta : ∀ p ∈ srt (steps (Z.take (n3 + 1))), Fv p := fun p hp => steps_fv (fun x hx => fz x (List.mem_of_mem_take hx)) p (srt_mem.mp hp)
  have fda : ∀ p ∈ srt (steps (Z.drop n3)), Fv p := fun p hp => steps_fv (fun x hx => fz x (List.mem_of_mem_drop hx)) p (srt_mem.mp hp)
  have c44 := Cs.cal (law_both_ok (P := PP) (ix := 44) rfl fta fda (by
    have z1 := srt_len (ps := steps (Z.take (n3 + 1)))
    have z2 := srt_len (ps := steps (Z.drop n3))
    have z3 := steps_len (Z := Z.take (n3 + 1))
    have z4 := steps_len (Z := Z.drop n3)
    rw [List.length_take] at z3
    rw [List.length_drop] at z4
    omega)) (show 1 ≤ 10 by omega) hC
  have eB : srt (srt (steps (Z.take (n3 + 1))) ++ srt (steps (Z.drop n3))) = srt (steps Z) := srt_one (fun p hp => (List.mem_append.mp hp).elim (fta p) (fda p)) fun p => by
    rw [List.mem_append, srt_mem, srt_mem, ← List.mem_append, steps_cut hn3]
  rw [eB] at c44
  have c11s := Cs.cal (wkAt.is prAt y (plain_walk y wS.at_ (n := 11))) (show 5 ≤ 10 by omega) hC
  rw [wS.judged (by simp)] at c11s
  have c14s := Cs.cal (wkAt.ofW prAt y wS (by simp)) (show 5 ≤ 10 by omega) hC
  rw [steps_stay] at c14s
  have w42 : ∀ x ∈ List.replicate 41 s ++ [s], x ∈ sp := fun x hx => by
    rcases List.mem_append.mp hx with z | z
    · exact wS.at_ x z
    · rw [List.mem_singleton.mp z]; exact hs
  have m42 : mWalk sp ls (.lst ((List.replicate 41 s ++ [s]).map D.str)) = false := by
    rw [mWalk_lst, decide_eq_false (by simp), Bool.false_and]
  have c11t := Cs.cal (wkAt.is prAt y (plain_walk y w42 (n := 11))) (show 5 ≤ 10 by omega) hC
  rw [m42] at c11t
  have c46 := Cs.cal (refused_ok y) (Nat.le_refl _) hC
  have t1 : evS C 1 (.asg true 2 (.call 41 (.cons (.var 1) (.cons (.int 5) (.cons (.int 8) .nil))))) [.x, .c (.l [.int c, .int 0]), .x, .x, .x, .x, .x, .x, .x, .x, .x, .x, .x] = some (.nx [.x, .c (.l [.int a1, .int b1]), .p (yd sp ls), .x, .x, .x, .x, .x, .x, .x, .x, .x, .x]) := by
    generalize yd sp ls = Y at *
    simp [runFn, es_pass, es_seq, es_fin, es_asg, es_asgT, es_ex, es_ifs, es_rais, es_ret, es_par, es_setI, et, ev_var, ev_non, ev_bl, ev_int, ev_str, ev_gi, ev_gs, ev_tup, ev_lst, ev_bin, ev_not, ev_and, ev_or, ev_cmp, ev_chn, ev_ife, ev_sub, ev_slf, ev_slt, ev_call, ev_bi, ev_sset, ev_rev, ev_neg, ev_isi, ev_nil, ev_cons, ev_seq, ev_rng1, ev_zip, R.bind, look, looks, Slot.dat?, Cn.dat, exOf, W.fz, esc, escs, stored, put, lend, giveBack, Slot.free, c41]
  have t2 : evS C 1 (.asg true 3 (.call 43 (.cons (.var 1) (.cons (.var 2) (.cons (.int 14) .nil))))) [.x, .c (.l [.int a1, .int b1]), .p (yd sp ls), .x, .x, .x, .x, .x, .x, .x, .x, .x, .x] = some (.nx [.x, .c (.l [.int a2, .int b2]), .p (yd sp ls), .p (.lst (Z.map D.str)), .x, .x, .x, .x, .x, .x, .x, .x, .x]) := by
    rw [show ((14 : Nat) : Int) = 14 from rfl] at c43
    generalize yd sp ls = Y at *
    generalize Z.map D.str = Zs at *
    simp [runFn, es_pass, es_seq, es_fin, es_asg, es_asgT, es_ex, es_ifs, es_rais, es_ret, es_par, es_setI, et, ev_var, ev_non, ev_bl, ev_int, ev_str, ev_gi, ev_gs, ev_tup, ev_lst, ev_bin, ev_not, ev_and, ev_or, ev_cmp, ev_chn, ev_ife, ev_sub, ev_slf, ev_slt, ev_call, ev_bi, ev_sset, ev_rev, ev_neg, ev_isi, ev_nil, ev_cons, ev_seq, ev_rng1, ev_zip, R.bind, look, looks, Slot.dat?, Cn.dat, exOf, W.fz, esc, escs, stored, put, lend, giveBack, Slot.free, c43]
  have t3 : evS C 1 (.asg true 4 (.bi .list (.cons (.var 3) .nil))) [.x, .c (.l [.int a2, .int b2]), .p (yd sp ls), .p (.lst (Z.map D.str)), .x, .x, .x, .x, .x, .x, .x, .x, .x] = some (.nx [.x, .c (.l [.int a2, .int b2]), .p (yd sp ls), .p (.lst (Z.map D.str)), .p (.lst (Z.map D.str)), .x, .x, .x, .x, .x, .x, .x, .x]) := by
    have bl : biList [.lst (Z.map D.str)] = some (.m (.c (.l (Z.map D.str)))) := if_pos (by rw [List.length_map]; simp [big]; omega)
    generalize yd sp ls = Y at *
    generalize Z.map D.str = Zs at *
    simp [runFn, es_pass, es_seq, es_fin, es_asg, es_asgT, es_ex, es_ifs, es_rais, es_ret, es_par, es_setI, et, ev_var, ev_non, ev_bl, ev_int, ev_str, ev_gi, ev_gs, ev_tup, ev_lst, ev_bin, ev_not, ev_and, ev_or, ev_cmp, ev_chn, ev_ife, ev_sub, ev_slf, ev_slt, ev_call, ev_bi, ev_sset, ev_rev, ev_neg, ev_isi, ev_nil, ev_cons, ev_seq, ev_rng1, ev_zip, R.bind, look, looks, Slot.dat?, Cn.dat, exOf, W.fz, esc, escs, stored, put, lend, giveBack, Slot.free, biD, bl]
  have t4 : evS C 1 (.ifs (.or_ (.cmp .isnot (.call 11 (.cons (.var 2) (.cons (.var 3) .nil))) (.bl true)) (.cmp .ne (.call 14 (.cons (.var 2) (.cons (.var 3) .nil))) (.call 42 (.cons (.var 3) .nil)))) (.ret (.bl false)) .pass) [.x, .c (.l [.int a2, .int b2]), .p (yd sp ls), .p (.lst (Z.map D.str)), .p (.lst (Z.map D.str)), .x, .x, .x, .x, .x, .x, .x, .x] = some (.nx [.x, .c (.l [.int a2, .int b2]), .p (yd sp ls), .p (.lst (Z.map D.str)), .p (.lst (Z.map D.str)), .x, .x, .x, .x, .x, .x, .x, .x]) := by
    have np := ne_pr (ps := srt (steps Z)) fun p hp => fs p (srt_mem.mp hp)
    generalize pr (srt (steps Z)) = RR at *
    generalize yd sp ls = Y at *
    generalize Z.map D.str = Zs at *
    simp [runFn, es_pass, es_seq, es_fin, es_asg, es_asgT, es_ex, es_ifs, es_rais, es_ret, es_par, es_setI, et, ev_var, ev_non, ev_bl, ev_int, ev_str, ev_gi, ev_gs, ev_tup, ev_lst, ev_bin, ev_not, ev_and, ev_or, ev_cmp, ev_chn, ev_ife, ev_sub, ev_slf, ev_slt, ev_call, ev_bi, ev_sset, ev_rev, ev_neg, ev_isi, ev_nil, ev_cons, ev_seq, ev_rng1, ev_zip, R.bind, look, looks, Slot.dat?, Cn.dat, exOf, W.fz, esc, escs, stored, put, lend, giveBack, Slot.free, c11, c14, c42, isnot_bl, np]
  have t5 : evS C 1 (.ifs (.cmp .ne (.var 3) (.var 4)) (.ret (.bl false)) .pass) [.x, .c (.l [.int a2, .int b2]), .p (yd sp ls), .p (.lst (Z.map D.str)), .p (.lst (Z.map D.str)), .x, .x, .x, .x, .x, .x, .x, .x] = some (.nx [.x, .c (.l [.int a2, .int b2]), .p (yd sp ls), .p (.lst (Z.map D.str)), .p (.lst (Z.map D.str)), .x, .x, .x, .x, .x, .x, .x, .x]) := by
    have nw := ne_walk (Z := Z) fun x hx => y.okS x (q.at_ x hx)
    generalize yd sp ls = Y at *
    generalize Z.map D.str = Zs at *
    simp [runFn, es_pass, es_seq, es_fin, es_asg, es_asgT, es_ex, es_ifs, es_rais, es_ret, es_par, es_setI, et, ev_var, ev_non, ev_bl, ev_int, ev_str, ev_gi, ev_gs, ev_tup, ev_lst, ev_bin, ev_not, ev_and, ev_or, ev_cmp, ev_chn, ev_ife, ev_sub, ev_slf, ev_slt, ev_call, ev_bi, ev_sset, ev_rev, ev_neg, ev_isi, ev_nil, ev_cons, ev_seq, ev_rng1, ev_zip, R.bind, look, looks, Slot.dat?, Cn.dat, exOf, W.fz, esc, escs, stored, put, lend, giveBack, Slot.free, nw]
  have t6 : evS C 1 (.ifs (.cmp .isnot (.call 8 (.cons (.var 2) (.cons (.call 14 (.cons (.var 2) (.cons (.var 3) .nil))) .nil))) (.bl true)) (.ret (.bl false)) .pass) [.x, .c (.l [.int a2, .int b2]), .p (yd sp ls), .p (.lst (Z.map D.str)), .p (.lst (Z.map D.str)), .x, .x, .x, .x, .x, .x, .x, .x] = some (.nx [.x, .c (.l [.int a2, .int b2]), .p (yd sp ls), .p (.lst (Z.map D.str)), .p (.lst (Z.map D.str)), .x, .x, .x, .x, .x, .x, .x, .x]) := by
    generalize pr (srt (steps Z)) = RR at *
    generalize yd sp ls = Y at *
    generalize Z.map D.str = Zs at *
    simp [runFn, es_pass, es_seq, es_fin, es_asg, es_asgT, es_ex, es_ifs, es_rais, es_ret, es_par, es_setI, et, ev_var, ev_non, ev_bl, ev_int, ev_str, ev_gi, ev_gs, ev_tup, ev_lst, ev_bin, ev_not, ev_and, ev_or, ev_cmp, ev_chn, ev_ife, ev_sub, ev_slf, ev_slt, ev_call, ev_bi, ev_sset, ev_rev, ev_neg, ev_isi, ev_nil, ev_cons, ev_seq, ev_rng1, ev_zip, R.bind, look, looks, Slot.dat?, Cn.dat, exOf, W.fz, esc, escs, stored, put, lend, giveBack, Slot.free, c14, c8, isnot_bl]
  have t7 : evS C 1 (.asg true 5 (.call 37 (.cons (.var 1) (.cons (.bi .len (.cons (.var 3) .nil)) .nil)))) [.x, .c (.l [.int a2, .int b2]), .p (yd sp ls), .p (.lst (Z.map D.str)), .p (.lst (Z.map D.str)), .x, .x, .x, .x, .x, .x, .x, .x] = some (.nx [.x, .c (.l [.int a3, .int b3]), .p (yd sp ls), .p (.lst (Z.map D.str)), .p (.lst (Z.map D.str)), .p (.int n3), .x, .x, .x, .x, .x, .x, .x]) := by
    have bl : biLen [.lst (Z.map D.str)] = some (.d (.int ((Z.length : Nat) : Int))) := by unfold biLen; simp
    generalize yd sp ls = Y at *
    generalize Z.map D.str = Zs at *
    simp [runFn, es_pass, es_seq, es_fin, es_asg, es_asgT, es_ex, es_ifs, es_rais, es_ret, es_par, es_setI, et, ev_var, ev_non, ev_bl, ev_int, ev_str, ev_gi, ev_gs, ev_tup, ev_lst, ev_bin, ev_not, ev_and, ev_or, ev_cmp, ev_chn, ev_ife, ev_sub, ev_slf, ev_slt, ev_call, ev_bi, ev_sset, ev_rev, ev_neg, ev_isi, ev_nil, ev_cons, ev_seq, ev_rng1, ev_zip, R.bind, look, looks, Slot.dat?, Cn.dat, exOf, W.fz, esc, escs, stored, put, lend, giveBack, Slot.free, biD, bl, c37]
  have t8 : evS C 1 (.ifs (.cmp .ne (.call 44 (.cons (.call 14 (.cons (.var 2) (.cons (.slt (.var 3) (.bin .add (.var 5) (.int 1))) .nil))) (.cons (.call 14 (.cons (.var 2) (.cons (.slf (.var 3) (.var 5)) .nil))) .nil))) (.call 14 (.cons (.var 2) (.cons (.var 3) .nil)))) (.ret (.bl false)) .pass) [.x, .c (.l [.int a3, .int b3]), .p (yd sp ls), .p (.lst (Z.map D.str)), .p (.lst (Z.map D.str)), .p (.int n3), .x, .x, .x, .x, .x, .x, .x] = some (.nx [.x, .c (.l [.int a3, .int b3]), .p (yd sp ls), .p (.lst (Z.map D.str)), .p (.lst (Z.map D.str)), .p (.int n3), .x, .x, .x, .x, .x, .x, .x]) := by
    have s1 := slt_nat (xs := Z.map D.str) (k := n3 + 1) (by rw [List.length_map]; omega) (by rw [List.length_map]; omega)
    have s2 := slf_nat (xs := Z.map D.str) (k := n3) (by rw [List.length_map]; omega) (by rw [List.length_map]; omega)
    have hn : ((n3 : Nat) : Int) + 1 = ((n3 + 1 : Nat) : Int) := by omega
    rw [← hn, ← List.map_take] at s1
    rw [← List.map_drop] at s2
    have np := ne_pr (ps := srt (steps Z)) fun p hp => fs p (srt_mem.mp hp)
    generalize (Z.take (n3 + 1)).map D.str = Z1 at *
    generalize (Z.drop n3).map D.str = Z2 at *
    generalize pr (srt (steps (Z.take (n3 + 1)))) = R1 at *
    generalize pr (srt (steps (Z.drop n3))) = R2 at *
    generalize pr (srt (steps Z)) = RR at *
    generalize yd sp ls = Y at *
    generalize Z.map D.str = Zs at *
    simp [runFn, es_pass, es_seq, es_fin, es_asg, es_asgT, es_ex, es_ifs, es_rais, es_ret, es_par, es_setI, et, ev_var, ev_non, ev_bl, ev_int, ev_str, ev_gi, ev_gs, ev_tup, ev_lst, ev_bin, ev_not, ev_and, ev_or, ev_cmp, ev_chn, ev_ife, ev_sub, ev_slf, ev_slt, ev_call, ev_bi, ev_sset, ev_rev, ev_neg, ev_isi, ev_nil, ev_cons, ev_seq, ev_rng1, ev_zip, R.bind, look, looks, Slot.dat?, Cn.dat, exOf, W.fz, esc, escs, stored, put, lend, giveBack, Slot.free, badd, s1, s2, c14a, c14b, c14, c44, np]
  have t9 : evS C 1 (.for_ (.n 6) (.rng1 (.int 8)) (.fin (.seq (.asg true 9 (.call 37 (.cons (.var 1) (.cons (.bi .len (.cons (.var 3) .nil)) .nil)))) (.seq (.asg true 10 (.sub (.lst (.cons (.str ⟨#[98, 97, 114, 110]⟩) (.cons (.str ⟨#[103, 97, 116, 101]⟩) (.cons (.str ⟨#[112, 111, 110, 100]⟩) (.cons (.str ⟨#[122, 101, 100]⟩) (.cons (.str ⟨#[66, 97, 114, 110]⟩) (.cons .non (.cons (.int 5) .nil)))))))) (.call 37 (.cons (.var 1) (.cons (.int 7) .nil))))) (.seq (.asg true 11 (.sub (.lst (.cons (.bin .add (.bin .add (.slt (.var 3) (.var 9)) (.lst (.cons (.var 10) .nil))) (.slf (.var 3) (.bin .add (.var 9) (.int 1)))) (.cons (.bin .add (.slt (.var 3) (.var 9)) (.slf (.var 3) (.bin .add (.var 9) (.int 1)))) (.cons (.bin .add (.var 3) (.lst (.cons (.var 10) .nil))) .nil)))) (.call 37 (.cons (.var 1) (.cons (.int 3) .nil))))) (.ifs (.cmp .ne (.call 11 (.cons (.var 2) (.cons (.var 11) .nil))) (.call 45 (.cons (.var 2) (.cons (.var 11) .nil)))) (.ret (.bl false)) .pass)))) [6, 9, 10, 11])) [.x, .c (.l [.int a3, .int b3]), .p (yd sp ls), .p (.lst (Z.map D.str)), .p (.lst (Z.map D.str)), .p (.int n3), .x, .x, .x, .x, .x, .x, .x] = some (.nx [.x, .c (.l [.int a6, .int b6']), .p (yd sp ls), .p (.lst (Z.map D.str)), .p (.lst (Z.map D.str)), .p (.int n3), .x, .x, .x, .x, .x, .x, .x]) := by
    rw [ev_for]
    exact hl6
  have t10 : evS C 1 (.asg true 7 (.bin .mul (.slt (.var 3) (.int 1)) (.int 41))) [.x, .c (.l [.int a6, .int b6']), .p (yd sp ls), .p (.lst (Z.map D.str)), .p (.lst (Z.map D.str)), .p (.int n3), .x, .x, .x, .x, .x, .x, .x] = some (.nx [.x, .c (.l [.int a6, .int b6']), .p (yd sp ls), .p (.lst (Z.map D.str)), .p (.lst (Z.map D.str)), .p (.int n3), .x, .p (.lst ((List.replicate 41 s).map D.str)), .x, .x, .x, .x, .x]) := by
    have s1 : slD false (.lst (Z.map D.str)) (.int 1) = some (.m (.c (.l [.str s]))) := by
      have := slt_nat (xs := Z.map D.str) (k := 1) (by rw [List.length_map]; omega) (by rw [List.length_map]; omega)
      rw [eZ] at this ⊢
      exact this
    have s2 : bin .mul (.lst [.str s]) (.int 41) = some (.m (.c (.l ((List.replicate 41 s).map D.str)))) := by
      rw [eS, ← rep_one]
      rfl
    generalize (List.replicate 41 s).map D.str = St at *
    generalize yd sp ls = Y at *
    generalize Z.map D.str = Zs at *
    simp [runFn, es_pass, es_seq, es_fin, es_asg, es_asgT, es_ex, es_ifs, es_rais, es_ret, es_par, es_setI, et, ev_var, ev_non, ev_bl, ev_int, ev_str, ev_gi, ev_gs, ev_tup, ev_lst, ev_bin, ev_not, ev_and, ev_or, ev_cmp, ev_chn, ev_ife, ev_sub, ev_slf, ev_slt, ev_call, ev_bi, ev_sset, ev_rev, ev_neg, ev_isi, ev_nil, ev_cons, ev_seq, ev_rng1, ev_zip, R.bind, look, looks, Slot.dat?, Cn.dat, exOf, W.fz, esc, escs, stored, put, lend, giveBack, Slot.free, s1, s2]
  have t11 : evS C 1 (.ifs (.or_ (.cmp .isnot (.call 11 (.cons (.var 2) (.cons (.var 7) .nil))) (.bl true)) (.cmp .isnot (.call 11 (.cons (.var 2) (.cons (.bin .add (.var 7) (.slt (.var 3) (.int 1))) .nil))) (.bl false))) (.ret (.bl false)) .pass) [.x, .c (.l [.int a6, .int b6']), .p (yd sp ls), .p (.lst (Z.map D.str)), .p (.lst (Z.map D.str)), .p (.int n3), .x, .p (.lst ((List.replicate 41 s).map D.str)), .x, .x, .x, .x, .x] = some (.nx [.x, .c (.l [.int a6, .int b6']), .p (yd sp ls), .p (.lst (Z.map D.str)), .p (.lst (Z.map D.str)), .p (.int n3), .x, .p (.lst ((List.replicate 41 s).map D.str)), .x, .x, .x, .x, .x]) := by
    have s1 : slD false (.lst (Z.map D.str)) (.int 1) = some (.m (.c (.l [.str s]))) := by
      have := slt_nat (xs := Z.map D.str) (k := 1) (by rw [List.length_map]; omega) (by rw [List.length_map]; omega)
      rw [eZ] at this ⊢
      exact this
    have s2 : bin .add (.lst ((List.replicate 41 s).map D.str)) (.lst [.str s]) = some (.m (.c (.l ((List.replicate 41 s ++ [s]).map D.str)))) := by
      rw [gadd (by simp), List.map_append]
      rfl
    generalize (List.replicate 41 s ++ [s]).map D.str = Su at *
    generalize (List.replicate 41 s).map D.str = St at *
    generalize yd sp ls = Y at *
    generalize Z.map D.str = Zs at *
    simp [runFn, es_pass, es_seq, es_fin, es_asg, es_asgT, es_ex, es_ifs, es_rais, es_ret, es_par, es_setI, et, ev_var, ev_non, ev_bl, ev_int, ev_str, ev_gi, ev_gs, ev_tup, ev_lst, ev_bin, ev_not, ev_and, ev_or, ev_cmp, ev_chn, ev_ife, ev_sub, ev_slf, ev_slt, ev_call, ev_bi, ev_sset, ev_rev, ev_neg, ev_isi, ev_nil, ev_cons, ev_seq, ev_rng1, ev_zip, R.bind, look, looks, Slot.dat?, Cn.dat, exOf, W.fz, esc, escs, stored, put, lend, giveBack, Slot.free, c11s, c11t, isnot_bl, s1, s2]
  have t12 : evS C 1 (.ifs (.cmp .ne (.call 14 (.cons (.var 2) (.cons (.var 7) .nil))) (.tup .nil)) (.ret (.bl false)) .pass) [.x, .c (.l [.int a6, .int b6']), .p (yd sp ls), .p (.lst (Z.map D.str)), .p (.lst (Z.map D.str)), .p (.int n3), .x, .p (.lst ((List.replicate 41 s).map D.str)), .x, .x, .x, .x, .x] = some (.nx [.x, .c (.l [.int a6, .int b6']), .p (yd sp ls), .p (.lst (Z.map D.str)), .p (.lst (Z.map D.str)), .p (.int n3), .x, .p (.lst ((List.replicate 41 s).map D.str)), .x, .x, .x, .x, .x]) := by
    have np := ne_pr (ps := []) fun p hp => (by cases hp)
    have e0 : pr (srt []) = .tup [] := by simp [srt, dedL, pr]
    have e1 : pr [] = .tup [] := rfl
    rw [e0] at c14s
    rw [e1] at np
    generalize (List.replicate 41 s).map D.str = St at *
    generalize yd sp ls = Y at *
    generalize Z.map D.str = Zs at *
    simp [runFn, es_pass, es_seq, es_fin, es_asg, es_asgT, es_ex, es_ifs, es_rais, es_ret, es_par, es_setI, et, ev_var, ev_non, ev_bl, ev_int, ev_str, ev_gi, ev_gs, ev_tup, ev_lst, ev_bin, ev_not, ev_and, ev_or, ev_cmp, ev_chn, ev_ife, ev_sub, ev_slf, ev_slt, ev_call, ev_bi, ev_sset, ev_rev, ev_neg, ev_isi, ev_nil, ev_cons, ev_seq, ev_rng1, ev_zip, R.bind, look, looks, Slot.dat?, Cn.dat, exOf, W.fz, esc, escs, stored, put, lend, giveBack, Slot.free, newT, big, c14s, np]
  have t13 : evS C 1 (.for_ (.n 8) (.seq (.lst (.cons .non (.cons (.int 5) (.cons (.lst .nil) (.cons (.bi .tuple (.cons (.var 3) .nil)) (.cons (.str ⟨#[98, 97, 114, 110]⟩) (.cons (.lst (.cons .non .nil)) (.cons (.bin .mul (.var 7) (.int 2)) .nil))))))))) (.fin (.seq (.asg false 12 (.lst (.cons (.told 0 (.call 14 (.cons (.var 2) (.cons (.var 8) .nil)))) .nil))) (.seq (.ex (.mth .append (.var 12) (.cons (.told 0 (.call 24 (.cons (.var 2) (.cons (.tup .nil) (.cons (.var 8) .nil))))) .nil))) (.ifs (.or_ (.cmp .isnot (.call 11 (.cons (.var 2) (.cons (.var 8) .nil))) (.bl false)) (.cmp .ne (.var 12) (.bin .mul (.lst (.cons (.tup (.cons (.str ⟨#[114, 101, 102, 117, 115, 101, 100]⟩) (.cons (.str ⟨#[66, 97, 100, 87, 97, 108, 107]⟩) .nil))) .nil)) (.int 2)))) (.ret (.bl false)) .pass))) [8, 12])) [.x, .c (.l [.int a6, .int b6']), .p (yd sp ls), .p (.lst (Z.map D.str)), .p (.lst (Z.map D.str)), .p (.int n3), .x, .p (.lst ((List.replicate 41 s).map D.str)), .x, .x, .x, .x, .x] = some (.nx [.x, .c (.l [.int a6, .int b6']), .p (yd sp ls), .p (.lst (Z.map D.str)), .p (.lst (Z.map D.str)), .p (.int n3), .x, .p (.lst ((List.replicate 41 s).map D.str)), .x, .x, .x, .x, .x]) := by
    have s2 : bin .mul (.lst ((List.replicate 41 s).map D.str)) (.int 2) = some (.m (.c (.l (rep ((List.replicate 41 s).map D.str) 2)))) := by
      unfold bin newL
      dsimp only
      rw [if_pos (by simp)]
      exact if_pos (by simp [rep, big])
    have bt : biTuple [.lst (Z.map D.str)] = some (.d (.tup (Z.map D.str))) := if_pos (by rw [List.length_map]; simp [big]; omega)
    have bad : ∀ x ∈ [D.non, .int 5, .lst [], .tup (Z.map D.str), .str sBarn, .lst [.non], .lst (rep ((List.replicate 41 s).map D.str) 2)], x.plain lvl = true ∧ mWalk sp ls x = false := fun x hx => by
      simp only [List.mem_cons, List.not_mem_nil, or_false] at hx
      rcases hx with rfl | rfl | rfl | rfl | rfl | rfl | rfl
      · exact ⟨rfl, rfl⟩
      · exact ⟨rfl, rfl⟩
      · exact ⟨rfl, rfl⟩
      · refine ⟨plain_tup (n := 11) fun x hx => ?_, rfl⟩
        obtain ⟨z, hz, rfl⟩ := List.mem_map.mp hx
        exact plain_str (y.okS z (q.at_ z hz))
      · exact ⟨rfl, rfl⟩
      · exact ⟨rfl, rfl⟩
      · refine ⟨?_, ?_⟩
        · have : D.plains 11 (rep ((List.replicate 41 s).map D.str) 2) = true := plains_of fun x hx => by
            simp only [rep, List.append_nil, List.mem_append, or_self] at hx
            obtain ⟨z, hz, rfl⟩ := List.mem_map.mp hx
            exact plain_str (y.okS z (wS.at_ z hz))
          simpa [D.plain] using this
        · rw [mWalk_lst, decide_eq_false (by simp [rep]), Bool.false_and]
    have b1 : (⟨#[98, 97, 114, 110]⟩ : Str) = sBarn := rfl
    have hI : evI C (.seq (.lst (.cons .non (.cons (.int 5) (.cons (.lst .nil) (.cons (.bi .tuple (.cons (.var 3) .nil)) (.cons (.str ⟨#[98, 97, 114, 110]⟩) (.cons (.lst (.cons .non .nil)) (.cons (.bin .mul (.var 7) (.int 2)) .nil))))))))) [.x, .c (.l [.int a6, .int b6']), .p (yd sp ls), .p (.lst (Z.map D.str)), .p (.lst (Z.map D.str)), .p (.int n3), .x, .p (.lst ((List.replicate 41 s).map D.str)), .x, .x, .x, .x, .x] = some (.ok (0, [.m (.c (.l [D.non, .int 5, .lst [], .tup (Z.map D.str), .str sBarn, .lst [.non], .lst (rep ((List.replicate 41 s).map D.str) 2)]))]) [.x, .c (.l [.int a6, .int b6']), .p (yd sp ls), .p (.lst (Z.map D.str)), .p (.lst (Z.map D.str)), .p (.int n3), .x, .p (.lst ((List.replicate 41 s).map D.str)), .x, .x, .x, .x, .x]) := by
      generalize rep ((List.replicate 41 s).map D.str) 2 = S2 at *
      generalize (List.replicate 41 s).map D.str = St at *
      generalize yd sp ls = Y at *
      generalize Z.map D.str = Zs at *
      simp [runFn, es_pass, es_seq, es_fin, es_asg, es_asgT, es_ex, es_ifs, es_rais, es_ret, es_par, es_setI, et, ev_var, ev_non, ev_bl, ev_int, ev_str, ev_gi, ev_gs, ev_tup, ev_lst, ev_bin, ev_not, ev_and, ev_or, ev_cmp, ev_chn, ev_ife, ev_sub, ev_slf, ev_slt, ev_call, ev_bi, ev_sset, ev_rev, ev_neg, ev_isi, ev_nil, ev_cons, ev_seq, ev_rng1, ev_zip, R.bind, look, looks, Slot.dat?, Cn.dat, exOf, W.fz, esc, escs, stored, put, lend, giveBack, Slot.free, biD, bt, s2, b1, newL, big]
    rw [ev_for, hI]
    refine forL_same fun x hx => ?_
    obtain ⟨p1, p2⟩ := bad x hx
    simp only [asT]
    rw [if_pos ⟨by decide, by simp⟩]
    exact b8_ok y hC9 p1 p2
  have t14 : evS C 1 (.ifs (.not_ (.call 46 (.cons (.var 2) .nil))) (.ret (.bl false)) .pass) [.x, .c (.l [.int a6, .int b6']), .p (yd sp ls), .p (.lst (Z.map D.str)), .p (.lst (Z.map D.str)), .p (.int n3), .x, .p (.lst ((List.replicate 41 s).map D.str)), .x, .x, .x, .x, .x] = some (.nx [.x, .c (.l [.int a6, .int b6']), .p (yd sp ls), .p (.lst (Z.map D.str)), .p (.lst (Z.map D.str)), .p (.int n3), .x, .p (.lst ((List.replicate 41 s).map D.str)), .x, .x, .x, .x, .x]) := by
    generalize yd sp ls = Y at *
    generalize Z.map D.str = Zs at *
    simp [runFn, es_pass, es_seq, es_fin, es_asg, es_asgT, es_ex, es_ifs, es_rais, es_ret, es_par, es_setI, et, ev_var, ev_non, ev_bl, ev_int, ev_str, ev_gi, ev_gs, ev_tup, ev_lst, ev_bin, ev_not, ev_and, ev_or, ev_cmp, ev_chn, ev_ife, ev_sub, ev_slf, ev_slt, ev_call, ev_bi, ev_sset, ev_rev, ev_neg, ev_isi, ev_nil, ev_cons, ev_seq, ev_rng1, ev_zip, R.bind, look, looks, Slot.dat?, Cn.dat, exOf, W.fz, esc, escs, stored, put, lend, giveBack, Slot.free, c46]
  refine ⟨[.x, .c (.l [.int a6, .int b6']), .p (yd sp ls), .p (.lst (Z.map D.str)), .p (.lst (Z.map D.str)), .p (.int n3), .x, .p (.lst ((List.replicate 41 s).map D.str)), .x, .x, .x, .x, .x], ?_⟩
  show evS C 1 turn [.x, .c (.l [.int c, .int 0]), .x, .x, .x, .x, .x, .x, .x, .x, .x, .x, .x] = _
  unfold turn
  simp only [es_seq, t1, t2, t3, t4, t5, t6, t7, t8, t9, t10, t11, t12, t13, t14]
theorem ev : LawEv fns 100000 depth rdArg rdEl high dL.N.length turn := fun ns h => by
  refine ⟨_, _, rd_ok (P := PP) (d := depth) (ixC := 35) (high := 5) rfl (by decide) (by decide) h, fun i hi => ?_⟩
  have hi : i ≤ 1000 := by omega
  exact turn_done (C := Cx0 PP depth) ⟨30, by omega, rfl⟩ ⟨cell_lt hi h, by omega, by omega⟩

theorem lawAt (w : World) (mg : Str → Option Value) (fa' : Addr) (h : Heap) (Y : hk.says w h) (G : h.Ns mainGlobals mg) (hm : mg ("law" : Str) = some (.ref fa')) : ∃ K : PySem.W.Frag, K.In h ∧ LawAtS row w K (L2N.CX row.prog w) (4 * depth + 5) 63 "_law_script" mg fa' h :=
  lawAt_of chk binds ev rfl rfl (by decide) rfl rfl Y G hm
end Mi.k02
open PySem PySem.W PySem.Calls PyProof.Rows
set_option maxRecDepth 100000 in
set_option maxHeartbeats 0 in
theorem PySem.Challenge.cw_snowsteps_k02_whole_walks_holds : PySem.Challenge.rw_snowsteps_k02_whole_walks.Holds := by
  w_on; o_law
  refine HandSHeadRun.head_any (r := OpenLaw.row PySem.Challenge.rw_snowsteps_k02_whole_walks) (q := view (OpenLaw.row PySem.Challenge.rw_snowsteps_k02_whole_walks).prog [68]) (H := Mi.k02.hk) (ob := Mi.k02.ob) (M := 4000) (loose := Mi.k02.loose) (d := HandSHeadRun.topDef (OpenLaw.row PySem.Challenge.rw_snowsteps_k02_whole_walks).prog 68) (kwd := []) Mi.k02.ob_eq
    (by kernel_rfl) (fun s => by kernel_rfl) Mi.k02.run (by kernel_rfl) (by kernel_rfl) (by kernel_rfl) (by rfl) (by first | assumption | decide +kernel) (by decide +kernel) ⟨rfl, rfl, rfl, rfl, rfl, by decide +kernel⟩ ?hw ?hc
  case hw => w_witness2
  case hc =>
    refine LamX.walk_ofTsE (l := PySem.Challenge.rw_snowsteps_k02_whole_walks) (n := 63) (k := 4 * Mi.k02.depth + 5) (x := "_law_script") (CX := fun w => L2N.CX (PySem.Challenge.rw_snowsteps_k02_whole_walks).prog w) rfl (by decide) (by kernel_rfl) ⟨rfl, by decide, by decide⟩ ?F (fun w H s e s' z => by obtain ⟨_, _, _, _, _, _, _, _, _, _, _, _, z⟩ := z; exact z)
    intro w mg fa h Y G hmg0
    have hmg : mg ("law" : PySem.Str) = some (.ref fa) := by
      have e : (HandSHeadRun.topDef (OpenLaw.row PySem.Challenge.rw_snowsteps_k02_whole_walks).prog 68).name = ("law" : PySem.Str) := by kernel_rfl
      rw [← e]
      exact hmg0
    exact Mi.k02.lawAt w mg fa h Y G hmg
