import PyProof.Rows.All
import Wide.All
import OpenK.AllK
import Wide.FinOn
import PySem.Challenge.RW_needforge_k15_groups
import HandS.ForMost
import HandS.SetKeys
import HandS.TupAny
import HandS.IsInst
import HandS.Wide
import HandS.Flow
import HandS.Style
import HandS.Deep
import PyProof.EqAt
import PyProof.EqKinds
import PyProof.TupleCall
import HandS.Strs
import HandS.SetFor
import PyProof.Rows.SortShellAny
import PyProof.Rows.StrMeet
import HandS.More
import HandS.Rev
import HandS.Zip
import HandS.Iter
import KE.GoesEnum
import HandS.WideMore
import HandS.DictComp
import HandS.Small
import KE.KUnpackStar
import HandS.Defaults
import HandS.Codes
import HandS.HeadHook1
import HandS.HeadHook2
import HandS.HeadEnd
import HandS.EndBits
import HandS.Head0
import HandS.Head1
import HandS.Head2
import PyProof.StrLawsIn
import HandS.JoinGen
import KE.KIntText
import PyProof.Rows.StrDigits
import PyProof.Rows.StrBin
set_option Elab.async false
set_option linter.all false
set_option maxRecDepth 100000
/-! NFKeys: keys, each once. -/
namespace NF
/-- the keys that were met, each once -/
def hasK {α : Type} [DecidableEq α] (ks : List α) (k : α) : Bool := ks.any fun x => decide (x = k)
def addK {α : Type} [DecidableEq α] (ks : List α) (k : α) : List α := if hasK ks k = true then ks else ks ++ [k]
def setK {α : Type} [DecidableEq α] (xs : List α) : List α := xs.foldl addK []
end NF

/-! NFCore: a small deterministic evaluator for a part of Python: data as trees, things that change in a store. -/
namespace NF
open PySem

/-- a value: tuples (and lists that never change: cl) are trees, what may change is a place of the store -/
inductive D where
  | non | bl (b : Bool) | int (i : Int) | str (s : List Nat) | tup (xs : List D) | cl (xs : List D) | ref (n : Nat) | fn (f : Nat) | ty (t : String)

/-- what stands at a place of the store -/
inductive SO where
  | lst (xs : List D)
  | dict (kvs : List (D × D))
  | ldict (kvs : List (D × D))
  | set (ks : List D)

abbrev Store := List SO
abbrev Envr := List (Option D)
abbrev Esc := Option Nat
def emin : Esc → Esc → Esc
  | none, e => e
  | some k, none => some k
  | some k, some j => some (min k j)

inductive Res (α : Type) where
  | ok (a : α) (S : Store) (e : Esc)
  | exn (x : D) (S : Store) (e : Esc)
  | stuck

def Res.note {α : Type} : Esc → Res α → Res α
  | e, .ok a S e' => .ok a S (emin e e')
  | e, .exn x S e' => .exn x S (emin e e')
  | _, .stuck => .stuck
def Res.bind {α β : Type} : Res α → (α → Store → Res β) → Res β
  | .ok a S e, f => (f a S).note e
  | .exn x S e, _ => .exn x S e
  | .stuck, _ => .stuck

/-- how a block of statements ends -/
inductive SR where
  | nx (σ : Envr) (S : Store) (e : Esc)
  | rt (d : D) (S : Store) (e : Esc)
  | bk (σ : Envr) (S : Store) (e : Esc)
  | ct (σ : Envr) (S : Store) (e : Esc)
  | exn (x : D) (σ : Envr) (S : Store) (e : Esc)
  | stuck
def SR.note : Esc → SR → SR
  | e, .nx σ S e' => .nx σ S (emin e e')
  | e, .rt d S e' => .rt d S (emin e e')
  | e, .bk σ S e' => .bk σ S (emin e e')
  | e, .ct σ S e' => .ct σ S (emin e e')
  | e, .exn x σ S e' => .exn x σ S (emin e e')
  | _, .stuck => .stuck
/-- what follows where the block ran through -/
def SR.seq : SR → (Envr → Store → SR) → SR
  | .nx σ S e, f => (f σ S).note e
  | r, _ => r
/-- an expression ahead of what follows in a block -/
def Res.andThen {α : Type} : Res α → Envr → (α → Store → SR) → SR
  | .ok a S e, _, f => (f a S).note e
  | .exn x S e, σ, _ => .exn x σ S e
  | .stuck, _, _ => .stuck

inductive BOp where
  | add | sub | mul | fdiv | mod | pow
  deriving DecidableEq
inductive COp where
  | eq | ne | lt | le | gt | ge | isin | notin | is | isnot
  deriving DecidableEq
/-- built-in functions -/
inductive BI where
  | len | isinst | max2 | min2 | all | any | tuple | list | str | int | set | abs | sum | sorted | dict | maxl | minl | repr
  deriving DecidableEq
/-- methods -/
inductive ME where
  | append | join | upper | get2 | get1 | extend | pop0 | pop1 | insert | index | reverse | remove | update | split | startswith
  deriving DecidableEq
/-- targets -/
inductive CG where
  | name (i : Nat)
  | tup (gs : List CG)
/-- expressions -/
inductive CE where
  | var (i : Nat)
  | cst (d : D)
  | tup (es : List CE)
  | lst (es : List CE)
  | dict (es : List CE)
  | bin (op : BOp) (a b : CE)
  | neg (a : CE)
  | and (a b : CE)
  | or (a b : CE)
  | not (a : CE)
  | cmp (op : COp) (a b : CE)
  | ite (c a b : CE)
  | ix (a i : CE)
  | slice (a : CE) (lo hi : List CE)
  | rev (a : CE)
  | call (f : Nat) (es : List CE) (sel : List (Sum Nat D))
  | callv (i : Nat) (es : List CE)
  | bi (b : BI) (es : List CE)
  | me (m : ME) (a : CE) (es : List CE)
  | lc (elt : CE) (g : CG) (it : CE) (ifs : List CE) (own : List Nat)
  | dc (ke ve : CE) (g : CG) (it : CE) (ifs : List CE) (own : List Nat)
  /-- e, while the dict of the variable i stays -/
  | lock (i : Nat) (e : CE)
  /-- walked things, alone in a for or a comprehension -/
  | range (es : List CE)
  | enum (a : CE)
  | zip (a b : CE)
  | reversed (a : CE)
/-- statements -/
inductive CS where
  | asg (g : CG) (e : CE)
  | star (g r : CG) (e : CE)
  | sub (e o i : CE)
  | aug (i : Nat) (op : BOp) (e : CE)
  | augsub (o i : CE) (op : BOp) (e : CE)
  | expr (e : CE)
  | ret (e : CE)
  | ife (c : CE) (a b : List CS)
  | for (g : CG) (it : CE) (body : List CS)
  | whil (c : CE) (body : List CS)
  | lock (i : Nat) (s : CS)
  | cont
  | brk
  | pass

/-! ### values -/
mutual
/-- one more than the greatest place that is named in it; 0 without one -/
def D.mr : D → Nat
  | .ref n => n + 1
  | .tup xs => D.mrs xs
  | .cl xs => D.mrs xs
  | _ => 0
def D.mrs : List D → Nat
  | [] => 0
  | x :: xs => max x.mr (D.mrs xs)
end
mutual
def D.beq : D → D → Bool
  | .non, .non => true
  | .bl a, .bl b => a == b
  | .int a, .int b => a == b
  | .str a, .str b => a == b
  | .tup a, .tup b => D.beqs a b
  | .cl a, .cl b => D.beqs a b
  | .ref a, .ref b => a == b
  | .fn a, .fn b => a == b
  | .ty a, .ty b => a == b
  | _, _ => false
def D.beqs : List D → List D → Bool
  | [], [] => true
  | x :: xs, y :: ys => D.beq x y && D.beqs xs ys
  | _, _ => false
end
mutual
theorem D.beq_refl : ∀ d : D, D.beq d d = true
  | .non => rfl
  | .bl _ => by simp [D.beq]
  | .int _ => by simp [D.beq]
  | .str _ => by simp [D.beq]
  | .tup xs => by simp only [D.beq]; exact D.beqs_refl xs
  | .cl xs => by simp only [D.beq]; exact D.beqs_refl xs
  | .ref _ => by simp [D.beq]
  | .fn _ => by simp [D.beq]
  | .ty _ => by simp [D.beq]
theorem D.beqs_refl : ∀ d : List D, D.beqs d d = true
  | [] => rfl
  | x :: xs => by simp only [D.beqs, D.beq_refl x, D.beqs_refl xs, Bool.and_self]
end
mutual
theorem D.eq_of_beq : ∀ {a b : D}, D.beq a b = true → a = b
  | .non, b, h => by cases b <;> simp_all [D.beq]
  | .bl _, b, h => by cases b <;> simp_all [D.beq]
  | .int _, b, h => by cases b <;> simp_all [D.beq]
  | .str _, b, h => by cases b <;> simp_all [D.beq]
  | .tup xs, b, h => by
    cases b with
    | tup ys => rw [D.eq_of_beqs (a := xs) (b := ys) (by simpa [D.beq] using h)]
    | _ => simp [D.beq] at h
  | .cl xs, b, h => by
    cases b with
    | cl ys => rw [D.eq_of_beqs (a := xs) (b := ys) (by simpa [D.beq] using h)]
    | _ => simp [D.beq] at h
  | .ref _, b, h => by cases b <;> simp_all [D.beq]
  | .fn _, b, h => by cases b <;> simp_all [D.beq]
  | .ty _, b, h => by cases b <;> simp_all [D.beq]
theorem D.eq_of_beqs : ∀ {a b : List D}, D.beqs a b = true → a = b
  | [], b, h => by cases b <;> simp_all [D.beqs]
  | x :: xs, b, h => by
    cases b with
    | nil => simp [D.beqs] at h
    | cons y ys =>
      simp only [D.beqs, Bool.and_eq_true] at h
      rw [D.eq_of_beq h.1, D.eq_of_beqs h.2]
end
instance : DecidableEq D := fun a b => if h : D.beq a b = true then isTrue (D.eq_of_beq h) else isFalse fun e => h (e ▸ D.beq_refl a)

def sizeL : Nat := 2 ^ 24
/-- a written text -/
def S! (s : String) : List Nat := (Str.ofString s).cps.toList

def D.truthy (S : Store) : D → Option Bool
  | .non => some false
  | .bl b => some b
  | .int i => some (i != 0)
  | .str s => if s.length ≤ sizeL then some (!s.isEmpty) else none
  | .tup xs => some (!xs.isEmpty)
  | .cl xs => some (!xs.isEmpty)
  | .ref n => match S[n]? with
    | some (.lst xs) => some (!xs.isEmpty)
    | some (.dict kvs) => some (!kvs.isEmpty)
    | _ => none
  | .fn _ => none
  | .ty _ => none
/-- the items of a list, a tuple -/
def D.seq? (S : Store) : D → Option (List D)
  | .tup xs => some xs
  | .cl xs => some xs
  | .ref n => match S[n]? with
    | some (.lst xs) => some xs
    | _ => none
  | _ => none
def D.lst? (S : Store) : D → Option (List D)
  | .cl xs => some xs
  | .ref n => match S[n]? with
    | some (.lst xs) => some xs
    | _ => none
  | _ => none
def D.dict1? (S : Store) : D → Option (List (D × D))
  | .ref n => match S[n]? with
    | some (.dict kvs) => some kvs
    | _ => none
  | _ => none
def D.set? (S : Store) : D → Option (List D)
  | .ref n => match S[n]? with
    | some (.set ks) => some ks
    | _ => none
  | _ => none
def D.dict? (S : Store) : D → Option (List (D × D))
  | .ref n => match S[n]? with
    | some (.dict kvs) => some kvs
    | some (.ldict kvs) => some kvs
    | _ => none
  | _ => none

/-- == of data, item by item -/
def eqvL (f : D → D → Option Bool) : List D → List D → Option Bool
  | [], [] => some true
  | [], _ :: _ => some false
  | _ :: _, [] => some false
  | x :: xs, y :: ys => match f x y, eqvL f xs ys with
    | some a, some b => some (a && b)
    | _, _ => none
/-- == of data, at most n deep -/
def D.eqv (S : Store) : Nat → D → D → Option Bool
  | 0, _, _ => none
  | n + 1, x, y => match x, y with
    | .non, .non => some true
    | .non, .bl _ => some false
    | .non, .int _ => some false
    | .non, .str _ => some false
    | .non, .tup _ => some false
    | .bl _, .non => some false
    | .bl a, .bl b => some (a == b)
    | .bl a, .int j => some ((if a then 1 else 0) == j)
    | .bl _, .str _ => some false
    | .bl _, .tup _ => some false
    | .int _, .non => some false
    | .int i, .bl b => some (i == (if b then 1 else 0))
    | .int i, .int j => some (i == j)
    | .int _, .str _ => some false
    | .int _, .tup _ => some false
    | .str _, .non => some false
    | .str _, .bl _ => some false
    | .str _, .int _ => some false
    | .str x, .str y => some (x == y)
    | .str _, .tup _ => some false
    | .tup _, .non => some false
    | .tup _, .bl _ => some false
    | .tup _, .int _ => some false
    | .tup _, .str _ => some false
    | .tup xs, .tup ys => eqvL (D.eqv S n) xs ys
    | .ref a, .ref b => (match (D.ref a).lst? S, (D.ref b).lst? S with
      | some xs, some ys => if a = b then some true else if xs.length = ys.length then eqvL (D.eqv S n) xs ys else some false
      | _, _ => none)
    | .ref a, .tup _ => (match (D.ref a).lst? S with
      | some _ => some false
      | none => none)
    | .tup _, .ref b => (match (D.ref b).lst? S with
      | some _ => some false
      | none => none)
    | _, _ => none
/-- x in xs, by == -/
def elemL (f : D → D → Option Bool) (x : D) : List D → Option Bool
  | [] => some false
  | y :: ys => match f y x, elemL f x ys with
    | some a, some b => some (a || b)
    | _, _ => none

def cutL {α : Type} (xs : List α) (lo hi : Option Int) : List α := (xs.drop (HT.sIx xs.length 0 lo)).take (HT.sIx xs.length xs.length hi - HT.sIx xs.length 0 lo)

/-- keys of dicts: intsD, textsD -/
def D.isKey : D → Bool
  | .int _ => true
  | .str _ => true
  | _ => false
def dget (k : D) : List (D × D) → Option D
  | [] => none
  | (a, v) :: r => if a = k then some v else dget k r
def dput (k v : D) (kvs : List (D × D)) : List (D × D) :=
  if kvs.any (fun p => decide (p.1 = k)) then kvs.map (fun p => if p.1 = k then (p.1, v) else p) else kvs ++ [(k, v)]
def ddrop (k : D) : List (D × D) → List (D × D)
  | [] => []
  | (a, u) :: r => if a = k then r else (a, u) :: ddrop k r

def ok {α : Type} (a : α) (S : Store) : Res α := .ok a S none
/-- a new thing -/
def new (o : SO) (S : Store) : Res D := .ok (.ref S.length) (S ++ [o]) none
/-- the thing at n is put another way, by d -/
def put {α : Type} (n : Nat) (o : SO) (m : Nat) (a : α) (S : Store) : Res α := .ok a (S.set n o) (if m ≤ n then none else some n)

def ofOpt {α : Type} (o : Option α) (S : Store) : Res α := match o with
  | some a => .ok a S none
  | none => .stuck
def guardR {α : Type} (b : Bool) (r : Res α) : Res α := if b then r else .stuck

/-! ### operators -/
def bits (i : Int) : Nat := i.natAbs.log2
def mulOk (a b : Int) : Bool := decide (bits a + bits b < 2 ^ 22)
def divOk (b : Int) : Bool := decide (0 < b) && decide (bits b < 9000)
def binEv (op : BOp) (x y : D) (S : Store) : Res D := match op, x, y with
  | .add, .int i, .int j => .ok (.int (i + j)) S none
  | .add, .str s, .str t => if s.length + t.length ≤ sizeL then .ok (.str (s ++ t)) S none else .stuck
  | .add, .tup xs, .tup ys => if xs.length + ys.length ≤ sizeL then .ok (.tup (xs ++ ys)) S none else .stuck
  | .add, x, y => match x.lst? S, y.lst? S with
    | some xs, some ys => if xs.length + ys.length ≤ sizeL then .ok (.ref S.length) (S ++ [.lst (xs ++ ys)]) none else .stuck
    | _, _ => .stuck
  | .sub, .int i, .int j => .ok (.int (i - j)) S none
  | .mul, .int i, .int j => if mulOk i j then .ok (.int (i * j)) S none else .stuck
  | .fdiv, .int i, .int j => if divOk j then .ok (.int (i / j)) S none else .stuck
  | .mod, .int i, .int j => if 0 < j then .ok (.int (i % j)) S none else .stuck
  | .pow, .int i, .int j => if 0 ≤ j ∧ j ≤ 1000000 ∧ i.natAbs < 2 ^ 64 then .ok (.int (i ^ j.toNat)) S none else .stuck
  | _, _, _ => .stuck
/-- x op= y of numbers, of texts -/
def augEv (op : BOp) (x y : D) (S : Store) : Res D := match op, x, y with
  | .add, .int i, .int j => .ok (.int (i + j)) S none
  | .add, .str s, .str t => if s.length + t.length ≤ sizeL then .ok (.str (s ++ t)) S none else .stuck
  | .sub, .int i, .int j => .ok (.int (i - j)) S none
  | .fdiv, .int i, .int j => if divOk j then .ok (.int (i / j)) S none else .stuck
  | .mod, .int i, .int j => if 0 < j then .ok (.int (i % j)) S none else .stuck
  | _, _, _ => .stuck
def eqN : Nat := 1200
def resB (r : Option Bool) (neg : Bool) (S : Store) : Res D := match r with
  | some b => .ok (.bl (b != neg)) S none
  | none => .stuck
/-- sub within s -/
def hasSub (s sub : List Nat) : Bool := !(Builtin.Str.occurrences ⟨s.toArray⟩ ⟨sub.toArray⟩ 0 s.length 1).isEmpty
def inEv (neg : Bool) (x y : D) (S : Store) : Res D := match y with
  | .str t => match x with
    | .str s => .ok (.bl (hasSub t s != neg)) S none
    | _ => .stuck
  | y => match y.dict? S with
    | some kvs => if x.isKey then .ok (.bl ((dget x kvs).isSome != neg)) S none else .stuck
    | none => match y.seq? S with
      | some xs => resB (elemL (D.eqv S eqN) x xs) neg S
      | none => match y.set? S with
        | some ks => if x.isKey then .ok (.bl (hasK ks x != neg)) S none else .stuck
        | none => .stuck
def cmpEv (op : COp) (x y : D) (S : Store) : Res D := match op with
  | .eq => resB (D.eqv S eqN x y) false S
  | .ne => resB (D.eqv S eqN x y) true S
  | .isin => inEv false x y S
  | .notin => inEv true x y S
  | .is => match y with
    | .non => .ok (.bl (decide (x = .non))) S none
    | _ => .stuck
  | .isnot => match y with
    | .non => .ok (.bl (!decide (x = .non))) S none
    | _ => .stuck
  | .lt => match x, y with
    | .int i, .int j => .ok (.bl (decide (i < j))) S none
    | .str s, .str t => .ok (.bl (decide (s < t))) S none
    | _, _ => .stuck
  | .gt => match x, y with
    | .int i, .int j => .ok (.bl (decide (j < i))) S none
    | .str s, .str t => .ok (.bl (decide (t < s))) S none
    | _, _ => .stuck
  | .le => match x, y with
    | .int i, .int j => .ok (.bl (decide (i ≤ j))) S none
    | _, _ => .stuck
  | .ge => match x, y with
    | .int i, .int j => .ok (.bl (decide (j ≤ i))) S none
    | _, _ => .stuck
def ixEv (x i : D) (S : Store) : Res D := match i with
  | .int k => match x with
    | .str s => if s.length ≤ sizeL then (match L2.ixN s.length k with
      | some n => (match s[n]? with
        | some c => .ok (.str [c]) S none
        | none => .stuck)
      | none => .stuck) else .stuck
    | x => match x.dict? S with
      | some kvs => ofOpt (dget (.int k) kvs) S
      | none => match x.seq? S with
        | some xs => (match L2.ixN xs.length k with
          | some n => ofOpt xs[n]? S
          | none => .stuck)
        | none => .stuck
  | i => match x.dict? S with
    | some kvs => if i.isKey then ofOpt (dget i kvs) S else .stuck
    | none => .stuck
def augIx (x i : D) (S : Store) : Res D := match x.lst? S, i with
  | some xs, .int k => if 0 ≤ k ∧ k < 2 ^ 62 then ofOpt xs[k.toNat]? S else .stuck
  | _, _ => .stuck
def sliceEv (x : D) (lo hi : Option Int) (S : Store) : Res D := match x with
  | .str s => if s.length ≤ sizeL then .ok (.str (cutL s lo hi)) S none else .stuck
  | .tup xs => .ok (.tup (cutL xs lo hi)) S none
  | x => match x.lst? S with
    | some xs => .ok (.ref S.length) (S ++ [.lst (cutL xs lo hi)]) none
    | none => .stuck
def revEv (x : D) (S : Store) : Res D := match x with
  | .tup xs => .ok (.tup xs.reverse) S none
  | x => match x.lst? S with
    | some xs => .ok (.ref S.length) (S ++ [.lst xs.reverse]) none
    | none => .stuck

/-! ### built-ins -/
/-- the name of a value's type -/
def tyName (S : Store) : D → Option String
  | .non => some "NoneType"
  | .bl _ => some "bool"
  | .int _ => some "int"
  | .str _ => some "str"
  | .tup _ => some "tuple"
  | .cl _ => some "list"
  | .ref n => match S[n]? with
    | some (.lst _) => some "list"
    | some (.dict _) => some "dict"
    | some (.ldict _) => some "dict"
    | _ => none
  | _ => none
def instB (a b : String) : Bool := a == b || (a == "bool" && b == "int")
def isInst (S : Store) (x : D) (t : String) : Option Bool := match tyName S x with
  | some a => if ["bool", "int", "str", "tuple", "list", "dict"].contains t then some (instB a t) else none
  | none => none
def boolsD : List D → Option (List Bool)
  | [] => some []
  | .bl b :: r => (boolsD r).map (b :: ·)
  | _ :: _ => none
def textsD : List D → Option (List (List Nat))
  | [] => some []
  | .str s :: r => (textsD r).map (s :: ·)
  | _ :: _ => none
def intsD : List D → Option (List Int)
  | [] => some []
  | .int s :: r => (intsD r).map (s :: ·)
  | _ :: _ => none
/-- texts in a row -/
def leT (a b : List Nat) : Bool := !decide (b < a)
def sortT (ts : List (List Nat)) : List (List Nat) := ts.mergeSort leT
def digitsOf (i : Int) : List Nat := (Str.ofString (toString i)).cps.toList
def biEv (b : BI) (xs : List D) (S : Store) : Res D := match b, xs with
  | .len, [.str s] => if s.length ≤ sizeL then .ok (.int s.length) S none else .stuck
  | .len, [x] => match x.dict1? S with
    | some kvs => .ok (.int kvs.length) S none
    | none => (match x.seq? S with
      | some ys => .ok (.int ys.length) S none
      | none => match x.set? S with
        | some ks => .ok (.int ks.length) S none
        | none => .stuck)
  | .isinst, [x, .ty t] => (match isInst S x t with
    | some r => .ok (.bl r) S none
    | none => .stuck)
  | .max2, [.int i, .int j] => .ok (.int (if j > i then j else i)) S none
  | .min2, [.int i, .int j] => .ok (.int (if j < i then j else i)) S none
  | .abs, [.int i] => .ok (.int (if i < 0 then -i else i)) S none
  | .all, [x] => (match (x.lst? S).bind boolsD with
    | some bs => .ok (.bl (bs.all id)) S none
    | none => .stuck)
  | .any, [x] => (match (x.lst? S).bind boolsD with
    | some bs => .ok (.bl (bs.any id)) S none
    | none => .stuck)
  | .sum, [x] => (match (x.lst? S).bind intsD with
    | some ns => .ok (.int ns.sum) S none
    | none => .stuck)
  | .tuple, [x] => (match x.seq? S with
    | some ys => .ok (.tup ys) S none
    | none => .stuck)
  | .list, [x] => (match x.seq? S with
    | some ys => .ok (.ref S.length) (S ++ [.lst ys]) none
    | none => .stuck)
  | .str, [.int i] => if bits i < 1920 then .ok (.str (digitsOf i)) S none else .stuck
  | .int, [.bl k] => .ok (.int (if k then 1 else 0)) S none
  | .int, [.int k] => .ok (.int k) S none
  | .sorted, [x] => (match x.dict1? S with
    | some kvs => (match textsD (kvs.map (·.1)) with
      | some ts => if ts.length ≤ sizeL then .ok (.ref S.length) (S ++ [.lst ((sortT ts).map .str)]) none else .stuck
      | none => .stuck)
    | none => (match (x.lst? S).bind textsD with
      | some ts => if ts.length ≤ sizeL then .ok (.ref S.length) (S ++ [.lst ((sortT ts).map .str)]) none else .stuck
      | none => .stuck))
  | .dict, [x] => (match x.dict1? S with
    | some kvs => .ok (.ref S.length) (S ++ [.dict kvs]) none
    | none => .stuck)
  | .set, [x] => (match x.seq? S with
    | some ks => if ks.all D.isKey = true ∧ ks.length + 1 < 4096 then .ok (.ref S.length) (S ++ [.set (setK ks)]) none else .stuck
    | none => .stuck)
  | _, _ => .stuck

/-! ### methods -/
def joinT (sep : List Nat) : List (List Nat) → List Nat
  | [] => []
  | [s] => s
  | s :: r => s ++ sep ++ joinT sep r
def upperT (s : List Nat) : List Nat := (Txt.upper ⟨s.toArray⟩).cps.toList
/-- types with methods -/
inductive MT where
  | str | list | dict
  deriving DecidableEq
def meT (x : D) (S : Store) : Option MT := match x with
  | .str _ => some .str
  | .ref n => match S[n]? with
    | some (.lst _) => some .list
    | some (.dict _) => some .dict
    | _ => none
  | _ => none
/-- the built-in that stands behind a method -/
def meId : MT → ME → Option String
  | .list, .append => some "list.append"
  | .str, .join => some "str.join"
  | .str, .upper => some "str.upper"
  | .dict, .get2 => some "dict.get"
  | .dict, .get1 => some "dict.get"
  | .list, .extend => some "list.extend"
  | .list, .pop0 => some "list.pop"
  | .list, .pop1 => some "list.pop"
  | .list, .insert => some "list.insert"
  | .list, .reverse => some "list.reverse"
  | .dict, .update => some "dict.update"
  | .list, .remove => some "list.remove"
  | _, _ => none
def lstW (S : Store) : D → Option (Nat × List D)
  | .ref n => match S[n]? with
    | some (.lst xs) => some (n, xs)
    | _ => none
  | _ => none
def dicW (S : Store) : D → Option (Nat × List (D × D))
  | .ref n => match S[n]? with
    | some (.dict xs) => some (n, xs)
    | _ => none
  | _ => none
def mergeD (kvs more : List (D × D)) : List (D × D) := more.foldl (fun acc kv => dput kv.1 kv.2 acc) kvs
/-- where the first stands that is equal to x -/
def findEq (f : D → D → Option Bool) (x : D) : List D → Option Nat
  | [] => none
  | y :: ys => match f y x with
    | some true => some 0
    | some false => (findEq f x ys).map (· + 1)
    | none => none
def meEv (t : MT) (m : ME) (x : D) (args : List D) (S : Store) : Res D := match t, m with
  | .list, .append => (match lstW S x, args with
    | some (n, xs), [v] => if xs.length < sizeL then put n (.lst (xs ++ [v])) v.mr .non S else .stuck
    | _, _ => .stuck)
  | .str, .join => (match x, args with
    | .str sep, [l] => (match (l.seq? S).bind textsD with
      | some ts => if (ts.map List.length).sum + ts.length * sep.length ≤ 16777216 then .ok (.str (joinT sep ts)) S none else .stuck
      | none => .stuck)
    | _, _ => .stuck)
  | .str, .upper => (match x, args with
    | .str s, [] => if s.length ≤ 5592405 then .ok (.str (upperT s)) S none else .stuck
    | _, _ => .stuck)
  | .dict, .get2 => (match x.dict? S, args with
    | some kvs, [k, d] => if k.isKey then .ok ((dget k kvs).getD d) S none else .stuck
    | _, _ => .stuck)
  | .dict, .get1 => (match x.dict? S, args with
    | some kvs, [k] => if k.isKey then .ok ((dget k kvs).getD .non) S none else .stuck
    | _, _ => .stuck)
  | .list, .extend => (match lstW S x, args with
    | some (n, xs), [l] => (match lstW S l with
      | some (_, ys) => if xs.length + ys.length ≤ sizeL then put n (.lst (xs ++ ys)) (D.mrs ys) .non S else .stuck
      | none => .stuck)
    | _, _ => .stuck)
  | .list, .pop0 => (match lstW S x, args with
    | some (n, xs), [] => (match xs[xs.length - 1]? with
      | some y => put n (.lst xs.dropLast) 0 y S
      | none => .stuck)
    | _, _ => .stuck)
  | .list, .pop1 => (match lstW S x, args with
    | some (n, xs), [.int i] => if -(2 ^ 63) ≤ i ∧ i < 2 ^ 63 then (match L2.ixN xs.length i with
      | some k => (match xs[k]? with
        | some y => put n (.lst (xs.eraseIdx k)) 0 y S
        | none => .stuck)
      | none => .stuck) else .stuck
    | _, _ => .stuck)
  | .list, .insert => (match lstW S x, args with
    | some (n, xs), [.int i, v] => if 0 ≤ i ∧ i < 2 ^ 63 ∧ xs.length < sizeL then put n (.lst (xs.take i.toNat ++ [v] ++ xs.drop i.toNat)) v.mr .non S else .stuck
    | _, _ => .stuck)
  | .list, .reverse => (match lstW S x, args with
    | some (n, xs), [] => put n (.lst xs.reverse) 0 .non S
    | _, _ => .stuck)
  | .list, .remove => (match lstW S x, args with
    | some (n, xs), [y] => (match findEq (D.eqv S eqN) y xs with
      | some k => put n (.lst (xs.eraseIdx k)) 0 .non S
      | none => .stuck)
    | _, _ => .stuck)
  | .dict, .update => (match dicW S x, args with
    | some (n, kvs), [y] => (match dicW S y with
      | some (m, more) => if n ≠ m ∧ kvs.length + more.length ≤ sizeL then put n (.dict (mergeD kvs more)) (D.mrs (more.map (·.2))) .non S else .stuck
      | none => .stuck)
    | _, _ => .stuck)
  | _, _ => .stuck

/-! ### walked things: the items; the lists that must stay meanwhile -/
structure Src where
  items : List D
  keep : List (Nat × List D)
def Src.holds (S : Store) (k : List (Nat × List D)) : Bool := k.all fun p => match S[p.1]? with
  | some (.lst xs) => decide (xs = p.2)
  | _ => false
def srcOf (x : D) (S : Store) : Option Src := match x with
  | .tup xs => some ⟨xs, []⟩
  | .cl xs => some ⟨xs, []⟩
  | .str s => some ⟨s.map fun c => .str [c], []⟩
  | .ref n => match S[n]? with
    | some (.lst xs) => some ⟨xs, [(n, xs)]⟩
    | some (.ldict kvs) => some ⟨kvs.map (·.1), []⟩
    | _ => none
  | _ => none
def rangeD (lo : Int) (n : Nat) : List D := (List.range n).map fun (k : Nat) => .int (lo + (k : Int))
def enumD (i : Nat) : List D → List D
  | [] => []
  | x :: xs => .tup [.int i, x] :: enumD (i + 1) xs
def zipD : List D → List D → List D
  | x :: xs, y :: ys => .tup [x, y] :: zipD xs ys
  | _, _ => []

/-! ### the evaluator -/
structure Ctx where
  /-- a def called with the values of its parameters -/
  call : Nat → List D → Store → Res D
  /-- the turns of a while that are looked at -/
  turns : Nat

def selArgs (vs : List D) : List (Sum Nat D) → Option (List D)
  | [] => some []
  | .inl i :: r => match vs[i]?, selArgs vs r with
    | some v, some w => some (v :: w)
    | _, _ => none
  | .inr d :: r => (selArgs vs r).map (d :: ·)

mutual
def setG : CG → D → Envr → Option Envr
  | .name i, d, σ => if i < σ.length then some (σ.set i (some d)) else none
  | .tup gs, .tup ds, σ => if gs.length = ds.length then setGs gs ds σ else none
  | .tup _, _, _ => none
def setGs : List CG → List D → Envr → Option Envr
  | [], [], σ => some σ
  | g :: gs, d :: ds, σ => match setG g d σ with
    | some σ' => setGs gs ds σ'
    | none => none
  | _, _, _ => none
end
def wipeE (σ : Envr) : List Nat → Envr
  | [] => σ
  | v :: vs => (wipeE σ vs).set v none

/-- keys and values by turns -/
def pairD : List D → Option (List (D × D))
  | [] => some []
  | k :: v :: r => if k.isKey then (pairD r).map ((k, v) :: ·) else none
  | [_] => none
/-- a dict display -/
def dispEv (vs : List D) (S : Store) : Res D := match pairD vs with
  | some kvs => if kvs.length ≤ 15 then .ok (.ref S.length) (S ++ [.dict (mergeD [] kvs)]) none else .stuck
  | none => .stuck

def truthR (d : D) (S : Store) : Res Bool := ofOpt (d.truthy S) S

/-- the turns of a comprehension: f gives an item or none -/
def evTurns (f : D → Store → Res (Option D)) (keep : List (Nat × List D)) : List D → List D → Store → Res (List D)
  | [], acc, S => if Src.holds S keep then .ok acc S none else .stuck
  | x :: xs, acc, S => if Src.holds S keep then (f x S).bind fun r S1 => (match r with
      | some v => if acc.length < sizeL then evTurns f keep xs (acc ++ [v]) S1 else .stuck
      | none => evTurns f keep xs acc S1) else .stuck

/-- the turns of a dict comprehension: f gives a pair or none -/
def evTurnsD (f : D → Store → Res (Option (D × D))) (keep : List (Nat × List D)) : List D → List (D × D) → Store → Res (List (D × D))
  | [], acc, S => if Src.holds S keep then .ok acc S none else .stuck
  | x :: xs, acc, S => if Src.holds S keep then (f x S).bind fun r S1 => (match r with
      | some kv => if kv.1.isKey = true ∧ acc.length < sizeL then evTurnsD f keep xs (dput kv.1 kv.2 acc) S1 else .stuck
      | none => evTurnsD f keep xs acc S1) else .stuck

/-- the dict that is to be locked -/
def lockAt (σ : Envr) (i : Nat) (S : Store) : Option (Nat × List (D × D)) := match σ[i]? with
  | some (some (.ref n)) => match S[n]? with
    | some (.dict kvs) => some (n, kvs)
    | _ => none
  | _ => none
def unlock1 (n : Nat) (S : Store) : Option Store := match S[n]? with
  | some (.ldict kvs) => some (S.set n (.dict kvs))
  | _ => none
def unlockR (n : Nat) : Res D → Res D
  | .ok v S e => match unlock1 n S with
    | some S' => .ok v S' e
    | none => .stuck
  | _ => .stuck
def unlockS (n : Nat) : SR → SR
  | .nx σ S e => match unlock1 n S with
    | some S' => .nx σ S' e
    | none => .stuck
  | .rt d S e => match unlock1 n S with
    | some S' => .rt d S' e
    | none => .stuck
  | .bk σ S e => match unlock1 n S with
    | some S' => .bk σ S' e
    | none => .stuck
  | .ct σ S e => match unlock1 n S with
    | some S' => .ct σ S' e
    | none => .stuck
  | _ => .stuck

mutual
def evE (C : Ctx) : CE → Envr → Store → Res D
  | .var i, σ, S => match σ[i]? with
    | some (some d) => .ok d S none
    | _ => .stuck
  | .cst d, _, S => .ok d S none
  | .tup es, σ, S => (evEs C es σ S).bind fun vs S1 => if vs.length ≤ sizeL then .ok (.tup vs) S1 none else .stuck
  | .lst es, σ, S => (evEs C es σ S).bind fun vs S1 => if vs.length ≤ sizeL then new (.lst vs) S1 else .stuck
  | .dict es, σ, S => (evEs C es σ S).bind fun vs S1 => dispEv vs S1
  | .bin op a b, σ, S => (evE C a σ S).bind fun x S1 => (evE C b σ S1).bind fun y S2 => binEv op x y S2
  | .neg a, σ, S => (evE C a σ S).bind fun x S1 => match x with
    | .int i => .ok (.int (-i)) S1 none
    | _ => .stuck
  | .and a b, σ, S => (evE C a σ S).bind fun x S1 => (truthR x S1).bind fun t S2 => if t then evE C b σ S2 else .ok x S2 none
  | .or a b, σ, S => (evE C a σ S).bind fun x S1 => (truthR x S1).bind fun t S2 => if t then .ok x S2 none else evE C b σ S2
  | .not a, σ, S => (evE C a σ S).bind fun x S1 => (truthR x S1).bind fun t S2 => .ok (.bl (!t)) S2 none
  | .cmp op a b, σ, S => (evE C a σ S).bind fun x S1 => (evE C b σ S1).bind fun y S2 => cmpEv op x y S2
  | .ite c a b, σ, S => (evT C c σ S).bind fun t S1 => if t then evE C a σ S1 else evE C b σ S1
  | .ix a i, σ, S => (evE C a σ S).bind fun x S1 => (evE C i σ S1).bind fun y S2 => ixEv x y S2
  | .slice a lo hi, σ, S => (evE C a σ S).bind fun x S1 => (evO C lo σ S1).bind fun l S2 => (evO C hi σ S2).bind fun h S3 => sliceEv x l h S3
  | .rev a, σ, S => (evE C a σ S).bind fun x S1 => revEv x S1
  | .call f es sel, σ, S => (evEs C es σ S).bind fun vs S1 => match selArgs vs sel with
    | some ws => C.call f ws S1
    | none => .stuck
  | .callv i es, σ, S => match σ[i]? with
    | some (some (.fn f)) => (evEs C es σ S).bind fun vs S1 => C.call f vs S1
    | _ => .stuck
  | .bi b es, σ, S => (evEs C es σ S).bind fun vs S1 => biEv b vs S1
  | .me m a es, σ, S => (evE C a σ S).bind fun x S1 => match meT x S1 with
    | some t => if (meId t m).isSome then (evEs C es σ S1).bind fun vs S2 => meEv t m x vs S2 else .stuck
    | none => .stuck
  | .lc elt g it ifs own, σ, S => (evI C it σ S).bind fun src S1 =>
      (evTurns (fun x S2 => match setG g x (wipeE σ own) with
        | some σ' => (evIfs C ifs σ' S2).bind fun t S3 => if t then (evE C elt σ' S3).bind fun v S4 => .ok (some v) S4 none else .ok none S3 none
        | none => .stuck) src.keep src.items [] S1).bind fun vs S2 => new (.lst vs) S2
  | .dc ke ve g it ifs own, σ, S => (evI C it σ S).bind fun src S1 =>
      (evTurnsD (fun x S2 => match setG g x (wipeE σ own) with
        | some σ' => (evIfs C ifs σ' S2).bind fun t S3 => if t then (evE C ke σ' S3).bind fun a S4 => (evE C ve σ' S4).bind fun b S5 => .ok (some (a, b)) S5 none else .ok none S3 none
        | none => .stuck) src.keep src.items [] S1).bind fun vs S2 => new (.dict vs) S2
  | .lock i e, σ, S => match lockAt σ i S with
    | some (n, kvs) => unlockR n (evE C e σ (S.set n (.ldict kvs)))
    | none => evE C e σ S
  | .range _, _, _ => .stuck
  | .enum _, _, _ => .stuck
  | .zip _ _, _, _ => .stuck
  | .reversed _, _, _ => .stuck
def evEs (C : Ctx) : List CE → Envr → Store → Res (List D)
  | [], _, S => .ok [] S none
  | e :: es, σ, S => (evE C e σ S).bind fun v S1 => (evEs C es σ S1).bind fun vs S2 => .ok (v :: vs) S2 none
/-- an optional bound -/
def evO (C : Ctx) : List CE → Envr → Store → Res (Option Int)
  | [], _, S => .ok none S none
  | [e], σ, S => (evE C e σ S).bind fun v S1 => match v with
    | .int i => .ok (some i) S1 none
    | _ => .stuck
  | _ :: _ :: _, _, _ => .stuck
/-- a test -/
def evT (C : Ctx) : CE → Envr → Store → Res Bool
  | .and a b, σ, S => (evT C a σ S).bind fun t S1 => if t then evT C b σ S1 else .ok false S1 none
  | .or a b, σ, S => (evT C a σ S).bind fun t S1 => if t then .ok true S1 none else evT C b σ S1
  | .not a, σ, S => (evT C a σ S).bind fun t S1 => .ok (!t) S1 none
  | .ite c a b, σ, S => (evT C c σ S).bind fun t S1 => if t then evT C a σ S1 else evT C b σ S1
  | .cmp op a b, σ, S => (evE C a σ S).bind fun x S1 => (evE C b σ S1).bind fun y S2 => (cmpEv op x y S2).bind fun d S3 => match d with
    | .bl t => .ok t S3 none
    | _ => .stuck
  | e, σ, S => (evE C e σ S).bind fun x S1 => truthR x S1
def evIfs (C : Ctx) : List CE → Envr → Store → Res Bool
  | [], _, S => .ok true S none
  | [e], σ, S => evT C e σ S
  | _ :: _ :: _, _, _ => .stuck
/-- what is walked -/
def evI (C : Ctx) : CE → Envr → Store → Res Src
  | .range [a], σ, S => (evE C a σ S).bind fun x S1 => match x with
    | .int n => if -(2 ^ 62) ≤ n ∧ n < 2 ^ 62 then .ok ⟨rangeD 0 n.toNat, []⟩ S1 none else .stuck
    | _ => .stuck
  | .range [a, b], σ, S => (evE C a σ S).bind fun x S1 => (evE C b σ S1).bind fun y S2 => match x, y with
    | .int i, .int j => if (-(2 ^ 62) ≤ i ∧ i < 2 ^ 62) ∧ (-(2 ^ 62) ≤ j ∧ j < 2 ^ 62) then .ok ⟨rangeD i (j - i).toNat, []⟩ S2 none else .stuck
    | _, _ => .stuck
  | .range _, _, _ => .stuck
  | .enum a, σ, S => (evE C a σ S).bind fun x S1 => match x with
    | .cl xs => .ok ⟨enumD 0 xs, []⟩ S1 none
    | .tup xs => .ok ⟨enumD 0 xs, []⟩ S1 none
    | .ref n => (match (D.ref n).lst? S1 with
      | some xs => .ok ⟨enumD 0 xs, [(n, xs)]⟩ S1 none
      | none => .stuck)
    | _ => .stuck
  | .zip a b, σ, S => (evE C a σ S).bind fun x S1 => (evE C b σ S1).bind fun y S2 => match x, y with
    | .ref n, .ref m => (match (D.ref n).lst? S2, (D.ref m).lst? S2 with
      | some xs, some ys => .ok ⟨zipD xs ys, [(n, xs), (m, ys)]⟩ S2 none
      | _, _ => .stuck)
    | .tup xs, .tup ys => .ok ⟨zipD xs ys, []⟩ S2 none
    | _, _ => .stuck
  | .reversed a, σ, S => (evE C a σ S).bind fun x S1 => match x with
    | .cl xs => .ok ⟨xs.reverse, []⟩ S1 none
    | .ref n => (match (D.ref n).lst? S1 with
      | some xs => .ok ⟨xs.reverse, [(n, xs)]⟩ S1 none
      | none => .stuck)
    | .tup xs => .ok ⟨xs.reverse, []⟩ S1 none
    | _ => .stuck
  | e, σ, S => (evE C e σ S).bind fun x S1 => ofOpt (srcOf x S1) S1
end

/-- the turns of a for -/
def evFor (f : D → Envr → Store → SR) (keep : List (Nat × List D)) : List D → Envr → Store → SR
  | [], σ, S => if Src.holds S keep then .nx σ S none else .stuck
  | x :: xs, σ, S => if Src.holds S keep then (match f x σ S with
    | .nx σ1 S1 e => (evFor f keep xs σ1 S1).note e
    | .ct σ1 S1 e => (evFor f keep xs σ1 S1).note e
    | .bk σ1 S1 e => .nx σ1 S1 e
    | .rt d S1 e => .rt d S1 e
    | .exn y σ1 S1 e => .exn y σ1 S1 e
    | .stuck => .stuck) else .stuck
/-- the turns of a while -/
def evWhile (c : Envr → Store → Res Bool) (f : Envr → Store → SR) : Nat → Envr → Store → SR
  | 0, _, _ => .stuck
  | n + 1, σ, S => (c σ S).andThen σ fun t S1 => if t then (match f σ S1 with
    | .nx σ1 S2 e => (evWhile c f n σ1 S2).note e
    | .ct σ1 S2 e => (evWhile c f n σ1 S2).note e
    | .bk σ1 S2 e => .nx σ1 S2 e
    | .rt d S2 e => .rt d S2 e
    | .exn y σ1 S2 e => .exn y σ1 S2 e
    | .stuck => .stuck) else .nx σ S1 none

def setSub (x i v : D) (S : Store) : Res Unit := match x with
  | .ref n => match S[n]? with
    | some (.lst xs) => (match i with
      | .int k => (match L2.ixN xs.length k with
        | some j => put n (.lst (xs.set j v)) v.mr () S
        | none => .stuck)
      | _ => .stuck)
    | some (.dict kvs) => if i.isKey then (if kvs.length < sizeL then put n (.dict (dput i v kvs)) v.mr () S else .stuck) else .stuck
    | _ => .stuck
  | _ => .stuck

mutual
def evS (C : Ctx) : CS → Envr → Store → SR
  | .asg g e, σ, S => (evE C e σ S).andThen σ fun v S1 => match setG g v σ with
    | some σ1 => .nx σ1 S1 none
    | none => .stuck
  | .star g r e, σ, S => (evE C e σ S).andThen σ fun v S1 => match v with
    | .tup (x :: xs) => (match setG g x σ with
      | some σ1 => (match setG r (.ref S1.length) σ1 with
        | some σ2 => .nx σ2 (S1 ++ [.lst xs]) none
        | none => .stuck)
      | none => .stuck)
    | _ => .stuck
  | .sub e o i, σ, S => (evE C e σ S).andThen σ fun v S1 => (evE C o σ S1).andThen σ fun x S2 => (evE C i σ S2).andThen σ fun k S3 =>
      (setSub x k v S3).andThen σ fun _ S4 => .nx σ S4 none
  | .aug i op e, σ, S => match σ[i]? with
    | some (some x) => (evE C e σ S).andThen σ fun v S1 => (augEv op x v S1).andThen σ fun z S2 => .nx (σ.set i (some z)) S2 none
    | _ => .stuck
  | .augsub o i op e, σ, S => (evE C o σ S).andThen σ fun x S1 => (evE C i σ S1).andThen σ fun k S2 => (augIx x k S2).andThen σ fun y S3 =>
      (evE C e σ S3).andThen σ fun v S4 => (augEv op y v S4).andThen σ fun z S5 => (setSub x k z S5).andThen σ fun _ S6 => .nx σ S6 none
  | .expr e, σ, S => (evE C e σ S).andThen σ fun _ S1 => .nx σ S1 none
  | .ret e, σ, S => (evE C e σ S).andThen σ fun v S1 => .rt v S1 none
  | .ife c a b, σ, S => (evT C c σ S).andThen σ fun t S1 => if t then evSs C a σ S1 else evSs C b σ S1
  | .for g it body, σ, S => (evI C it σ S).andThen σ fun src S1 => evFor (fun x σ2 S2 => match setG g x σ2 with
      | some σ3 => evSs C body σ3 S2
      | none => .stuck) src.keep src.items σ S1
  | .whil c body, σ, S => evWhile (fun σ S => evT C c σ S) (fun σ S => evSs C body σ S) C.turns σ S
  | .lock i s, σ, S => match lockAt σ i S with
    | some (n, kvs) => unlockS n (evS C s σ (S.set n (.ldict kvs)))
    | none => evS C s σ S
  | .cont, σ, S => .ct σ S none
  | .brk, σ, S => .bk σ S none
  | .pass, σ, S => .nx σ S none
def evSs (C : Ctx) : List CS → Envr → Store → SR
  | [], σ, S => .nx σ S none
  | s :: ss, σ, S => (evS C s σ S).seq fun σ1 S1 => evSs C ss σ1 S1
end

/-! ### calls -/
structure FD where
  np : Nat
  slots : Nat
  body : List CS
def escOk (n : Nat) : Esc → Bool
  | none => true
  | some k => decide (n ≤ k)
/-- what a call leaves: things made in it and not handed back are forgotten -/
def packed (n : Nat) (d : D) (S : Store) (e : Esc) : Res D :=
  if escOk n e then
    (if d.mr ≤ n then .ok d (S.take n) none
     else match d with
      | .ref k => (match S[k]? with
        | some (.lst xs) => if D.mrs xs ≤ n then .ok (.ref n) (S.take n ++ [.lst xs]) none else .ok d S none
        | some (.dict kvs) => if D.mrs (kvs.map (·.2)) ≤ n then .ok (.ref n) (S.take n ++ [.dict kvs]) none else .ok d S none
        | _ => .ok d S none)
      | _ => .ok d S none)
  else .ok d S e
def SR.back (n : Nat) : SR → Res D
  | .nx _ S e => packed n .non S e
  | .rt d S e => packed n d S e
  | .exn x _ S e => .exn x S e
  | _ => .stuck
def start (fd : FD) (args : List D) : Envr := args.map some ++ List.replicate (fd.slots - args.length) none
def run (P : Nat → Option FD) (L : Nat) : Nat → Nat → List D → Store → Res D
  | 0, _, _, _ => .stuck
  | n + 1, f, args, S => match P f with
    | some fd => if args.length = fd.np ∧ fd.np ≤ fd.slots then (evSs ⟨run P L n, L⟩ fd.body (start fd args) S).back S.length else .stuck
    | none => .stuck
end NF

/-! NFRel: how the evaluator's values and store stand for those of the model. -/
namespace NF
open PySem PySem.Spec PyProof.Rows L2

def keyD : Key → D
  | .inl i => .int i
  | .inr x => .str x.cps.toList
def SO.mr : SO → Nat
  | .lst xs => D.mrs xs
  | .dict kvs => D.mrs (kvs.map (·.2))
  | .ldict kvs => D.mrs (kvs.map (·.2))
  | .set _ => 0

/-- a tuple that stands for ever -/
def TupAt (K : PySem.W.Frag) (H : Hp) (a : Addr) (xs : List V) : Prop :=
  H a = some (.tup xs) ∨ ∃ (o : Obj) (its : Array Value) (n : Nat), K.lookup a = some o ∧ o.cls = .type "tuple" ∧ o.data = .seq its n ∧ its.size ≤ sizeLine ∧ Vals xs its.toList
/-- a list that is never written -/
def RoAt (K : PySem.W.Frag) (H : Hp) (a : Addr) (xs : List V) : Prop :=
  (∃ o, H a = some (.frz o (.lst xs))) ∨
    ∃ (o : Obj) (its : Array Value) (n : Nat), K.lookup a = some o ∧ o.cls = .type "list" ∧ o.dict = none ∧ o.data = .seq its n ∧ its.size ≤ sizeLine ∧ Vals xs its.toList
theorem TupAt.sq {K : PySem.W.Frag} {H : Hp} {a : Addr} {xs : List V} (h : TupAt K H a xs) : SqT K H a xs := h.elim (fun h => .inl (.inl h)) .inr
theorem RoAt.sq {K : PySem.W.Frag} {H : Hp} {a : Addr} {xs : List V} (h : RoAt K H a xs) : SqL K H a xs := h.elim (fun ⟨o, h⟩ => .inl (.inr ⟨o, h⟩)) .inr

/-- the module: its written part, its names; where the defs stand -/
structure Gc where
  K : PySem.W.Frag
  FA : Nat → Addr → Prop
  prog : Program
  w : World
  mg : Str → Option Value
  base : Heap

section
variable (G : Gc) (ρ : List Addr) (H : Hp)
mutual
inductive VR : D → V → Prop
  | non : VR .non .non
  | bl (b : Bool) : VR (.bl b) (.bl b)
  | int (i : Int) : VR (.int i) (.int i)
  | str (s : List Nat) : VR (.str s) (.str ⟨s.toArray⟩)
  | tup {a : Addr} {ds : List D} {vs : List V} : TupAt G.K H a vs → VRs ds vs → VR (.tup ds) (.ref a)
  | cl {a : Addr} {ds : List D} {vs : List V} : RoAt G.K H a vs → VRs ds vs → VR (.cl ds) (.ref a)
  | ref {n : Nat} {a : Addr} : ρ[n]? = some a → VR (.ref n) (.ref a)
  | fn {f : Nat} {a : Addr} : G.FA f a → VR (.fn f) (.ref a)
  | ty (t : String) : VR (.ty t) (.ty t)
inductive VRs : List D → List V → Prop
  | nil : VRs [] []
  | cons {d : D} {v : V} {ds : List D} {vs : List V} : VR d v → VRs ds vs → VRs (d :: ds) (v :: vs)
end
inductive KRs : List (D × D) → List (Key × V) → Prop
  | nil : KRs [] []
  | cons {k : Key} {d : D} {v : V} {ds : List (D × D)} {vs : List (Key × V)} : VR G ρ H d v → KRs ds vs → KRs ((keyD k, d) :: ds) ((k, v) :: vs)
inductive OR (a : Addr) : SO → Prop
  | lst {ds : List D} {vs : List V} : H a = some (.lst vs) → VRs G ρ H ds vs → OR a (.lst ds)
  | dict {ds : List (D × D)} {vs : List (Key × V)} : H a = some (.dK vs) → KRs G ρ H ds vs → OR a (.dict ds)
  | ldict {o : Obj} {ds : List (D × D)} {vs : List (Key × V)} : H a = some (.frz o (.dK vs)) → KRs G ρ H ds vs → OR a (.ldict ds)
  | set {ks : List Key} : H a = some (SetK G.prog G.w a (hasK ks) ks.length) → OR a (.set (ks.map keyD))
end
structure RelS (G : Gc) (ρ : List Addr) (S : Store) (H : Hp) : Prop where
  len : ρ.length = S.length
  inj : ρ.Nodup
  obj : ∀ (i : Nat) (a : Addr) (o : SO), ρ[i]? = some a → S[i]? = some o → OR G ρ H a o

/-- what stays of the heap, whatever runs -/
structure Keep (H H' : Hp) : Prop where
  tup : ∀ a xs, H a = some (.tup xs) → H' a = some (.tup xs)
  ro : ∀ a o u, H a = some (.frz o u) → H' a = some (.frz o u)
theorem Keep.refl (H : Hp) : Keep H H := ⟨fun _ _ h => h, fun _ _ _ h => h⟩
theorem Keep.trans {H H1 H2 : Hp} (a : Keep H H1) (b : Keep H1 H2) : Keep H H2 := ⟨fun x y h => b.tup x y (a.tup x y h), fun x y z h => b.ro x y z (a.ro x y z h)⟩
theorem Keep.new {H : Hp} {p : Addr} {o : HO} (h : H p = none) : Keep H (upd H p o) :=
  ⟨fun a xs e => by rw [upd_ne (ne_of_none e h)]; exact e, fun a ob xs e => by rw [upd_ne (ne_of_none e h)]; exact e⟩
/-- a list, a dict is changed -/
theorem Keep.write {H : Hp} {p : Addr} {o o' : HO} (h : H p = some o) (ht : ∀ xs, o ≠ .tup xs) (hf : ∀ ob u, o ≠ .frz ob u) : Keep H (upd H p o') :=
  ⟨fun a xs e => by rw [upd_ne (ne_of e h fun z => ht xs z.symm)]; exact e, fun a ob xs e => by rw [upd_ne (ne_of e h fun z => hf ob xs z.symm)]; exact e⟩

/-- what a value is made of stays -/
structure Keep0 (H H' : Hp) : Prop where
  tup : ∀ a xs, H a = some (.tup xs) → H' a = some (.tup xs)
  ro : ∀ a o xs, H a = some (.frz o (.lst xs)) → H' a = some (.frz o (.lst xs))
section
variable {G : Gc} {ρ ρ' : List Addr} {H H' : Hp}
theorem TupAt.keep {K : PySem.W.Frag} {a : Addr} {xs : List V} (h : TupAt K H a xs) (k : Keep H H') : TupAt K H' a xs := h.elim (fun h => .inl (k.tup _ _ h)) .inr
theorem RoAt.keep {K : PySem.W.Frag} {a : Addr} {xs : List V} (h : RoAt K H a xs) (k : Keep H H') : RoAt K H' a xs := h.elim (fun ⟨o, h⟩ => .inl ⟨o, k.ro _ _ _ h⟩) .inr
theorem pre_get {n : Nat} {a : Addr} (p : ρ <+: ρ') (h : ρ[n]? = some a) : ρ'[n]? = some a := by
  obtain ⟨t, rfl⟩ := p
  rw [List.getElem?_append_left (List.getElem?_eq_some_iff.mp h).1]; exact h
mutual
theorem VR.mono (p : ρ <+: ρ') (k : Keep H H') : ∀ {d : D} {v : V}, VR G ρ H d v → VR G ρ' H' d v
  | _, _, .non => .non
  | _, _, .bl b => .bl b
  | _, _, .int i => .int i
  | _, _, .str s => .str s
  | _, _, .tup h r => .tup (h.keep k) (VRs.mono p k r)
  | _, _, .cl h r => .cl (h.keep k) (VRs.mono p k r)
  | _, _, .ref h => .ref (pre_get p h)
  | _, _, .fn h => .fn h
  | _, _, .ty t => .ty t
theorem VRs.mono (p : ρ <+: ρ') (k : Keep H H') : ∀ {d : List D} {v : List V}, VRs G ρ H d v → VRs G ρ' H' d v
  | _, _, .nil => .nil
  | _, _, .cons h r => .cons (VR.mono p k h) (VRs.mono p k r)
end
mutual
theorem VR.mono0 (p : ρ <+: ρ') (k : Keep0 H H') : ∀ {d : D} {v : V}, VR G ρ H d v → VR G ρ' H' d v
  | _, _, .non => .non
  | _, _, .bl b => .bl b
  | _, _, .int i => .int i
  | _, _, .str s => .str s
  | _, _, .tup h r => .tup (h.elim (fun h => .inl (k.tup _ _ h)) .inr) (VRs.mono0 p k r)
  | _, _, .cl h r => .cl (h.elim (fun ⟨o, h⟩ => .inl ⟨o, k.ro _ _ _ h⟩) .inr) (VRs.mono0 p k r)
  | _, _, .ref h => .ref (pre_get p h)
  | _, _, .fn h => .fn h
  | _, _, .ty t => .ty t
theorem VRs.mono0 (p : ρ <+: ρ') (k : Keep0 H H') : ∀ {d : List D} {v : List V}, VRs G ρ H d v → VRs G ρ' H' d v
  | _, _, .nil => .nil
  | _, _, .cons h r => .cons (VR.mono0 p k h) (VRs.mono0 p k r)
end
theorem KRs.mono0 (p : ρ <+: ρ') (k : Keep0 H H') : ∀ {d : List (D × D)} {v : List (Key × V)}, KRs G ρ H d v → KRs G ρ' H' d v
  | _, _, .nil => .nil
  | _, _, .cons h r => .cons (h.mono0 p k) (KRs.mono0 p k r)
theorem KRs.mono (p : ρ <+: ρ') (k : Keep H H') : ∀ {d : List (D × D)} {v : List (Key × V)}, KRs G ρ H d v → KRs G ρ' H' d v
  | _, _, .nil => .nil
  | _, _, .cons h r => .cons (h.mono p k) (KRs.mono p k r)
mutual
theorem VR.lt : ∀ {d : D} {v : V}, VR G ρ H d v → d.mr ≤ ρ.length
  | _, _, .non => Nat.zero_le _
  | _, _, .bl b => Nat.zero_le _
  | _, _, .int i => Nat.zero_le _
  | _, _, .str s => Nat.zero_le _
  | _, _, .tup h r => by unfold D.mr; exact VRs.lt r
  | _, _, .cl h r => by unfold D.mr; exact VRs.lt r
  | _, _, .ref h => (List.getElem?_eq_some_iff.mp h).1
  | _, _, .fn h => Nat.zero_le _
  | _, _, .ty t => Nat.zero_le _
theorem VRs.lt : ∀ {d : List D} {v : List V}, VRs G ρ H d v → D.mrs d ≤ ρ.length
  | _, _, .nil => Nat.zero_le _
  | _, _, .cons h r => by unfold D.mrs; exact Nat.max_le.mpr ⟨VR.lt h, VRs.lt r⟩
end
theorem KRs.lt : ∀ {d : List (D × D)} {v : List (Key × V)}, KRs G ρ H d v → D.mrs (d.map (·.2)) ≤ ρ.length
  | _, _, .nil => Nat.zero_le _
  | _, _, .cons h r => by
    simp only [List.map_cons]
    unfold D.mrs; exact Nat.max_le.mpr ⟨h.lt, KRs.lt r⟩
theorem OR.lt {a : Addr} {o : SO} (h : OR G ρ H a o) : o.mr ≤ ρ.length := by
  cases h with
  | lst _ r => exact r.lt
  | dict _ r => exact r.lt
  | ldict _ r => exact r.lt
  | set _ => exact Nat.zero_le _
/-- back to fewer places -/
theorem pre_back {n : Nat} {a : Addr} (p : ρ' <+: ρ) (l : n < ρ'.length) (h : ρ[n]? = some a) : ρ'[n]? = some a := by
  obtain ⟨t, rfl⟩ := p
  rw [List.getElem?_append_left l] at h; exact h
mutual
theorem VR.back (p : ρ' <+: ρ) : ∀ {d : D} {v : V}, VR G ρ H d v → d.mr ≤ ρ'.length → VR G ρ' H d v
  | _, _, .non, _ => .non
  | _, _, .bl b, _ => .bl b
  | _, _, .int i, _ => .int i
  | _, _, .str s, _ => .str s
  | _, _, .tup h r, l => .tup h (VRs.back p r (by unfold D.mr at l; exact l))
  | _, _, .cl h r, l => .cl h (VRs.back p r (by unfold D.mr at l; exact l))
  | _, _, .ref h, l => .ref (pre_back p l h)
  | _, _, .fn h, _ => .fn h
  | _, _, .ty t, _ => .ty t
theorem VRs.back (p : ρ' <+: ρ) : ∀ {d : List D} {v : List V}, VRs G ρ H d v → D.mrs d ≤ ρ'.length → VRs G ρ' H d v
  | _, _, .nil, _ => .nil
  | _, _, .cons h r, l => by
    unfold D.mrs at l
    exact .cons (VR.back p h (Nat.le_trans (Nat.le_max_left _ _) l)) (VRs.back p r (Nat.le_trans (Nat.le_max_right _ _) l))
end
theorem KRs.back (p : ρ' <+: ρ) : ∀ {d : List (D × D)} {v : List (Key × V)}, KRs G ρ H d v → D.mrs (d.map (·.2)) ≤ ρ'.length → KRs G ρ' H d v
  | _, _, .nil, _ => .nil
  | _, _, .cons h r, l => by
    simp only [List.map_cons] at l
    unfold D.mrs at l
    exact .cons (h.back p (Nat.le_trans (Nat.le_max_left _ _) l)) (KRs.back p r (Nat.le_trans (Nat.le_max_right _ _) l))
theorem OR.back (p : ρ' <+: ρ) {a : Addr} {o : SO} (h : OR G ρ H a o) (l : o.mr ≤ ρ'.length) : OR G ρ' H a o := by
  cases h with
  | lst e r => exact .lst e (r.back p l)
  | dict e r => exact .dict e (r.back p l)
  | ldict e r => exact .ldict e (r.back p l)
  | set e => exact .set e

/-- an object that the change at p leaves alone -/
theorem OR.at {a : Addr} {o : SO} (h : OR G ρ H a o) (p : ρ <+: ρ') (k : Keep H H') (e : ∀ u, H a = some u → H' a = some u) : OR G ρ' H' a o := by
  cases h with
  | lst q r => exact .lst (e _ q) (r.mono p k)
  | dict q r => exact .dict (e _ q) (r.mono p k)
  | ldict q r => exact .ldict (e _ q) (r.mono p k)
  | set q => exact .set (e _ q)
end

theorem OR.at0 {G : Gc} {ρ : List Addr} {H H' : Hp} {a : Addr} {o : SO} (h : OR G ρ H a o) (k : Keep0 H H') (e : ∀ u, H a = some u → H' a = some u) : OR G ρ H' a o := by
  cases h with
  | lst q r => exact .lst (e _ q) (r.mono0 (List.prefix_refl _) k)
  | dict q r => exact .dict (e _ q) (r.mono0 (List.prefix_refl _) k)
  | ldict q r => exact .ldict (e _ q) (r.mono0 (List.prefix_refl _) k)
  | set q => exact .set (e _ q)
/-- no place got a name of a younger one, but from e on -/
structure MonoS (S S' : Store) (e : Esc) : Prop where
  len : S.length ≤ S'.length
  old : ∀ (i : Nat) (o' : SO), i < S.length → S'[i]? = some o' → (∃ k, e = some k ∧ k ≤ i) ∨ ∃ o, S[i]? = some o ∧ o'.mr ≤ max o.mr i
theorem MonoS.refl (S : Store) : MonoS S S none := ⟨Nat.le_refl _, fun i o' _ h => .inr ⟨o', h, Nat.le_max_left _ _⟩⟩
theorem emin_l {e e' : Esc} {i : Nat} (h : ∃ k, e = some k ∧ k ≤ i) : ∃ k, emin e e' = some k ∧ k ≤ i := by
  obtain ⟨k, rfl, l⟩ := h
  cases e' with
  | none => exact ⟨k, rfl, l⟩
  | some j => exact ⟨min k j, rfl, Nat.le_trans (Nat.min_le_left _ _) l⟩
theorem emin_r {e e' : Esc} {i : Nat} (h : ∃ k, e' = some k ∧ k ≤ i) : ∃ k, emin e e' = some k ∧ k ≤ i := by
  obtain ⟨k, rfl, l⟩ := h
  cases e with
  | none => exact ⟨k, rfl, l⟩
  | some j => exact ⟨min j k, rfl, Nat.le_trans (Nat.min_le_right _ _) l⟩
theorem MonoS.trans {S S1 S2 : Store} {e e' : Esc} (a : MonoS S S1 e) (b : MonoS S1 S2 e') : MonoS S S2 (emin e e') := by
  refine ⟨Nat.le_trans a.len b.len, fun i o' hi h => ?_⟩
  rcases b.old i o' (Nat.lt_of_lt_of_le hi a.len) h with q | ⟨o1, h1, l1⟩
  · exact .inl (emin_r q)
  · rcases a.old i o1 hi h1 with q | ⟨o, h0, l0⟩
    · exact .inl (emin_l q)
    · exact .inr ⟨o, h0, by omega⟩
theorem MonoS.push (S : Store) (o : SO) : MonoS S (S ++ [o]) none :=
  ⟨by simp, fun i o' hi h => .inr ⟨o', by rwa [List.getElem?_append_left hi] at h, Nat.le_max_left _ _⟩⟩
theorem MonoS.set (S : Store) (n : Nat) (o : SO) (m : Nat) (ho : ∀ u, S[n]? = some u → o.mr ≤ max u.mr m) : MonoS S (S.set n o) (if m ≤ n then none else some n) := by
  refine ⟨by simp, fun i o' hi h => ?_⟩
  by_cases e : n = i
  · subst e
    rw [List.getElem?_set_self hi] at h
    cases h
    by_cases hm : m ≤ n
    · refine .inr ⟨S[n], List.getElem?_eq_getElem hi, ?_⟩
      have := ho _ (List.getElem?_eq_getElem hi)
      omega
    · rw [if_neg hm]
      exact .inl ⟨n, rfl, Nat.le_refl _⟩
  · rw [List.getElem?_set_ne e] at h
    exact .inr ⟨o', h, Nat.le_max_left _ _⟩

structure Step (ρ : List Addr) (S : Store) (H : Hp) (ρ' : List Addr) (S' : Store) (H' : Hp) (e : Esc) : Prop where
  pre : ρ <+: ρ'
  keep : Keep H H'
  mono : MonoS S S' e
  rest : ∀ a u, H a = some u → a ∉ ρ → H' a = some u ∧ a ∉ ρ'
theorem Step.refl (ρ : List Addr) (S : Store) (H : Hp) : Step ρ S H ρ S H none := ⟨List.prefix_refl _, Keep.refl _, MonoS.refl _, fun _ _ h n => ⟨h, n⟩⟩
theorem Step.trans {ρ ρ1 ρ2 : List Addr} {S S1 S2 : Store} {H H1 H2 : Hp} {e e' : Esc} (a : Step ρ S H ρ1 S1 H1 e) (b : Step ρ1 S1 H1 ρ2 S2 H2 e') : Step ρ S H ρ2 S2 H2 (emin e e') :=
  ⟨a.pre.trans b.pre, a.keep.trans b.keep, a.mono.trans b.mono, fun x u h n => let ⟨h1, n1⟩ := a.rest x u h n; b.rest x u h1 n1⟩
theorem rest_push {ρ : List Addr} {H : Hp} {p : Addr} {o : HO} (h : H p = none) : ∀ a u, H a = some u → a ∉ ρ → upd H p o a = some u ∧ a ∉ ρ ++ [p] := fun a u e n => by
  have hn : a ≠ p := ne_of_none e h
  refine ⟨by rw [upd_ne hn]; exact e, fun m => ?_⟩
  rcases List.mem_append.mp m with m | m
  · exact n m
  · exact hn (by simpa using m)
theorem rest_new {ρ : List Addr} {H : Hp} {p : Addr} {o : HO} (h : H p = none) : ∀ a u, H a = some u → a ∉ ρ → upd H p o a = some u ∧ a ∉ ρ := fun a u e n =>
  ⟨by rw [upd_ne (ne_of_none e h)]; exact e, n⟩
theorem rest_set {ρ : List Addr} {H : Hp} {p : Addr} {o : HO} {n : Nat} (h : ρ[n]? = some p) : ∀ a u, H a = some u → a ∉ ρ → upd H p o a = some u ∧ a ∉ ρ := fun a u e m =>
  ⟨by
    have hn : a ≠ p := by
      intro z
      subst z
      exact m (List.mem_of_getElem? h)
    rw [upd_ne hn]; exact e, m⟩

section
variable {G : Gc} {ρ ρ' : List Addr} {H H' : Hp} {S : Store}
/-- the heap grew by things that are no places of the store -/
theorem RelS.grow (R : RelS G ρ S H) (k : Keep H H') (e : ∀ a u, H a = some u → H' a = some u) : RelS G ρ S H' :=
  ⟨R.len, R.inj, fun i a o h1 h2 => (R.obj i a o h1 h2).at (List.prefix_refl _) k fun u => e a u⟩
theorem upd_none {p : Addr} {o : HO} (h : H p = none) : ∀ a u, H a = some u → upd H p o a = some u := fun a u e => by
  rw [upd_ne (ne_of_none e h)]; exact e
theorem RelS.free {p : Addr} (R : RelS G ρ S H) (h : H p = none) : p ∉ ρ := fun hm => by
  obtain ⟨i, hi⟩ := List.getElem?_of_mem hm
  have hlt : i < S.length := by rw [← R.len]; exact (List.getElem?_eq_some_iff.mp hi).1
  have := R.obj i p S[i] hi (List.getElem?_eq_getElem hlt)
  generalize S[i] = o at this
  cases this with
  | lst q r => rw [h] at q; cases q
  | dict q r => rw [h] at q; cases q
  | ldict q r => rw [h] at q; cases q
  | set q => rw [h] at q; cases q
/-- a new place -/
theorem RelS.push {p : Addr} {u : HO} {o : SO} (R : RelS G ρ S H) (h : H p = none) (new : OR G (ρ ++ [p]) (upd H p u) p o) : RelS G (ρ ++ [p]) (S ++ [o]) (upd H p u) := by
  have hn := R.free h
  refine ⟨by simp [R.len], ?_, fun i a ob h1 h2 => ?_⟩
  · rw [List.nodup_append]
    refine ⟨R.inj, by simp, fun a ha b hb => ?_⟩
    have : b = p := by simpa using hb
    subst this
    rintro rfl; exact hn ha
  · by_cases hi : i < S.length
    · rw [List.getElem?_append_left hi] at h2
      rw [List.getElem?_append_left (by rw [R.len]; exact hi)] at h1
      exact (R.obj i a ob h1 h2).at ⟨[p], rfl⟩ (Keep.new h) (upd_none h a)
    · have hl := R.len
      rw [List.getElem?_append_right (by omega)] at h2
      rw [List.getElem?_append_right (by omega)] at h1
      have e : i = S.length := by
        have := (List.getElem?_eq_some_iff.mp h2).1
        simp at this; omega
      subst e
      rw [hl] at h1
      simp at h1 h2
      subst h1; subst h2
      exact new
theorem nodup_get {α : Type} : ∀ {l : List α} {i j : Nat} {a : α}, l.Nodup → l[i]? = some a → l[j]? = some a → i = j
  | [], _, _, _, _, h, _ => by simp at h
  | x :: l, 0, 0, _, _, _, _ => rfl
  | x :: l, 0, j + 1, a, n, h, h' => by
    simp at h h'
    subst h
    exact absurd (List.mem_of_getElem? h') (List.nodup_cons.mp n).1
  | x :: l, i + 1, 0, a, n, h, h' => by
    simp at h h'
    subst h'
    exact absurd (List.mem_of_getElem? h) (List.nodup_cons.mp n).1
  | x :: l, i + 1, j + 1, a, n, h, h' => congrArg (· + 1) (nodup_get (l := l) (a := a) (List.nodup_cons.mp n).2 (by simpa using h) (by simpa using h'))
/-- a place is changed -/
theorem RelS.set {n : Nat} {p : Addr} {u : HO} {o : SO} (R : RelS G ρ S H) (hp : ρ[n]? = some p) (k : Keep H (upd H p u)) (new : OR G ρ (upd H p u) p o) : RelS G ρ (S.set n o) (upd H p u) := by
  refine ⟨by simp [R.len], R.inj, fun i a ob h1 h2 => ?_⟩
  by_cases e : n = i
  · subst e
    rw [hp] at h1; cases h1
    have hn : n < S.length := by rw [← R.len]; exact (List.getElem?_eq_some_iff.mp hp).1
    rw [List.getElem?_set_self hn] at h2; cases h2
    exact new
  · rw [List.getElem?_set_ne e] at h2
    have hne : a ≠ p := by
      rintro rfl
      exact e (nodup_get R.inj hp h1)
    exact (R.obj i a ob h1 h2).at (List.prefix_refl _) k fun w hw => by rw [upd_ne hne]; exact hw
/-- a locked dict is let go -/
theorem RelS.set0 {n : Nat} {p : Addr} {u : HO} {o : SO} (R : RelS G ρ S H) (hp : ρ[n]? = some p) (k : Keep0 H (upd H p u)) (new : OR G ρ (upd H p u) p o) : RelS G ρ (S.set n o) (upd H p u) := by
  refine ⟨by simp [R.len], R.inj, fun i a ob h1 h2 => ?_⟩
  by_cases e : n = i
  · subst e
    rw [hp] at h1; cases h1
    have hn : n < S.length := by rw [← R.len]; exact (List.getElem?_eq_some_iff.mp hp).1
    rw [List.getElem?_set_self hn] at h2; cases h2
    exact new
  · rw [List.getElem?_set_ne e] at h2
    have hne : a ≠ p := by
      rintro rfl
      exact e (nodup_get R.inj hp h1)
    exact (R.obj i a ob h1 h2).at0 k fun w hw => by rw [upd_ne hne]; exact hw
theorem RelS.mr_le {n : Nat} {o : SO} (R : RelS G ρ S H) (h : S[n]? = some o) : o.mr ≤ S.length := by
  have hn := (List.getElem?_eq_some_iff.mp h).1
  have e : ρ[n]? = some (ρ[n]'(by rw [R.len]; exact hn)) := List.getElem?_eq_getElem _
  have := (R.obj n _ o e h).lt
  rw [R.len] at this; exact this
theorem RelS.addr {n : Nat} {o : SO} (R : RelS G ρ S H) (h : S[n]? = some o) : ∃ a, ρ[n]? = some a ∧ OR G ρ H a o := by
  have hn := (List.getElem?_eq_some_iff.mp h).1
  have e : ρ[n]? = some (ρ[n]'(by rw [R.len]; exact hn)) := List.getElem?_eq_getElem _
  exact ⟨_, e, R.obj n _ o e h⟩
end

/-- the slots -/
structure RelE (G : Gc) (ρ : List Addr) (H : Hp) (σd : Envr) (σ : L2.St) : Prop where
  len : σd.length = σ.length
  at_ : ∀ (i : Nat) (d : D), σd[i]? = some (some d) → ∃ v, σ[i]? = some (some v) ∧ VR G ρ H d v
section
variable {G : Gc} {ρ ρ' : List Addr} {H H' : Hp} {σd : Envr} {σ : L2.St}
theorem RelE.mono0 (r : RelE G ρ H σd σ) (k : Keep0 H H') : RelE G ρ H' σd σ := ⟨r.len, fun i d h => let ⟨v, a, b⟩ := r.at_ i d h; ⟨v, a, b.mono0 (List.prefix_refl _) k⟩⟩
theorem RelE.mono (r : RelE G ρ H σd σ) (p : ρ <+: ρ') (k : Keep H H') : RelE G ρ' H' σd σ := ⟨r.len, fun i d h => let ⟨v, a, b⟩ := r.at_ i d h; ⟨v, a, b.mono p k⟩⟩
theorem RelE.set {i : Nat} {d : D} {v : V} (r : RelE G ρ H σd σ) (h : VR G ρ H d v) : RelE G ρ H (σd.set i (some d)) (σ.set i (some v)) := by
  refine ⟨by simp [r.len], fun j d' e => ?_⟩
  by_cases hj : i = j
  · subst hj
    by_cases hl : i < σd.length
    · rw [List.getElem?_set_self hl] at e
      cases e
      exact ⟨v, List.getElem?_set_self (by rw [← r.len]; exact hl), h⟩
    · rw [List.getElem?_eq_none (by simpa using hl)] at e; cases e
  · rw [List.getElem?_set_ne hj] at e
    rw [List.getElem?_set_ne hj]
    exact r.at_ j d' e
theorem RelE.unset {i : Nat} (r : RelE G ρ H σd σ) : RelE G ρ H (σd.set i none) (σ.set i none) := by
  refine ⟨by simp [r.len], fun j d' e => ?_⟩
  by_cases hj : i = j
  · subst hj
    by_cases hl : i < σd.length
    · rw [List.getElem?_set_self hl] at e; cases e
    · rw [List.getElem?_eq_none (by simpa using hl)] at e; cases e
  · rw [List.getElem?_set_ne hj] at e
    rw [List.getElem?_set_ne hj]
    exact r.at_ j d' e
theorem RelE.wipe (r : RelE G ρ H σd σ) : ∀ own : List Nat, RelE G ρ H (wipeE σd own) (wipe σ own)
  | [] => r
  | v :: vs => by unfold wipeE L2.wipe; exact (r.wipe vs).unset
end
section
variable {G : Gc} {ρ : List Addr} {H : Hp}
theorem VRs.length : ∀ {d : List D} {v : List V}, VRs G ρ H d v → d.length = v.length
  | _, _, .nil => rfl
  | _, _, .cons h r => by simp [VRs.length r]
theorem VRs.get : ∀ {ds : List D} {vs : List V} {i : Nat} {d : D}, VRs G ρ H ds vs → ds[i]? = some d → ∃ v, vs[i]? = some v ∧ VR G ρ H d v
  | _, _, _, _, .nil, e => by simp at e
  | _, _, 0, _, .cons h r, e => by simp at e; subst e; exact ⟨_, rfl, h⟩
  | _, _, i + 1, _, .cons h r, e => by
    obtain ⟨v, a, b⟩ := VRs.get (i := i) r (by simpa using e)
    exact ⟨v, by simpa using a, b⟩
theorem VRs.getV : ∀ {ds : List D} {vs : List V} {i : Nat} {v : V}, VRs G ρ H ds vs → vs[i]? = some v → ∃ d, ds[i]? = some d ∧ VR G ρ H d v
  | _, _, _, _, .nil, e => by simp at e
  | _, _, 0, _, .cons h r, e => by simp at e; subst e; exact ⟨_, rfl, h⟩
  | _, _, i + 1, _, .cons h r, e => by
    obtain ⟨v, a, b⟩ := VRs.getV (i := i) r (by simpa using e)
    exact ⟨v, by simpa using a, b⟩
theorem VRs.append : ∀ {ds es : List D} {vs ws : List V}, VRs G ρ H ds vs → VRs G ρ H es ws → VRs G ρ H (ds ++ es) (vs ++ ws)
  | _, _, _, _, .nil, s => s
  | _, _, _, _, .cons h r, s => .cons h (VRs.append r s)
theorem VRs.take : ∀ {ds : List D} {vs : List V} (n : Nat), VRs G ρ H ds vs → VRs G ρ H (ds.take n) (vs.take n)
  | _, _, 0, _ => .nil
  | _, _, _ + 1, .nil => .nil
  | _, _, n + 1, .cons r t => .cons r (VRs.take n t)
theorem VRs.drop : ∀ {ds : List D} {vs : List V} (n : Nat), VRs G ρ H ds vs → VRs G ρ H (ds.drop n) (vs.drop n)
  | _, _, 0, r => r
  | _, _, _ + 1, .nil => .nil
  | _, _, n + 1, .cons _ t => VRs.drop n t
theorem VRs.set {d : D} {v : V} (h : VR G ρ H d v) : ∀ {ds : List D} {vs : List V} (i : Nat), VRs G ρ H ds vs → VRs G ρ H (ds.set i d) (vs.set i v)
  | _, _, _, .nil => .nil
  | _, _, 0, .cons _ t => .cons h t
  | _, _, i + 1, .cons q t => .cons q (VRs.set h i t)
theorem VRs.reverse : ∀ {ds : List D} {vs : List V}, VRs G ρ H ds vs → VRs G ρ H ds.reverse vs.reverse
  | _, _, .nil => .nil
  | _, _, .cons h r => by
    rw [List.reverse_cons, List.reverse_cons]
    exact (VRs.reverse r).append (.cons h .nil)
end
end NF

/-! NFPrim: operators, comparisons, built-ins and methods of the evaluator are those of the model. -/
namespace NF
open PySem PySem.Spec PyProof.Rows L2

/-- room for n calls one in another -/
structure Rm (n : Nat) (A : Around) : Prop where
  hd : A.handled = none
  dp : A.depth + n + 3 < recursionLimit
  un : A.units + 3 * n + 1800 < cLine
structure GOk (G : Gc) : Prop where
  inj : ∀ f g a, G.FA f a → G.FA g a → f = g
  obj : ∀ f a, G.FA f a → ∃ o fd, G.K.lookup a = some o ∧ o.data = .func fd
/-- a context within the module, with room for n calls -/
structure Cb (G : Gc) (n : Nat) (X : Cx) : Prop where
  K : X.K = G.K
  prog : X.prog = G.prog
  w : X.w = G.w
  mg : X.mg = G.mg
  base : X.base = G.base
  calm : X.calm = true
  rm : Rm n X.A
  xe : X.xe = fun _ _ => False
  ok : GOk G

/-- what is wanted of what the evaluator gives -/
def Mt {α : Type} (G : Gc) (ρ : List Addr) (S : Store) (H : Hp) (r : Res α) (Φ : α → Store → List Addr → Hp → Prop) : Prop := match r with
  | .ok a S' e => ∀ ρ' H', RelS G ρ' S' H' → Step ρ S H ρ' S' H' e → Φ a S' ρ' H'
  | _ => False
def MtV (G : Gc) (ρ : List Addr) (S : Store) (H : Hp) (r : Res D) (Q : VK) : Prop := Mt G ρ S H r fun d _ ρ' H' => ∀ v, VR G ρ' H' d v → Q v H'
section
variable {G : Gc} {ρ : List Addr} {S : Store} {H : Hp} {α β : Type}
theorem Mt.bind {r : Res α} {f : α → Store → Res β} {Φ : β → Store → List Addr → Hp → Prop} (h : Mt G ρ S H (r.bind f) Φ) : Mt G ρ S H r fun a S1 ρ1 H1 => Mt G ρ1 S1 H1 (f a S1) Φ := by
  cases r with
  | ok a S1 e =>
    intro ρ1 H1 R1 st1
    have h : Mt G ρ S H ((f a S1).note e) Φ := h
    show Mt G ρ1 S1 H1 (f a S1) Φ
    generalize f a S1 = q at h ⊢
    cases q with
    | ok b S2 e2 => exact fun ρ2 H2 R2 st2 => h ρ2 H2 R2 (st1.trans st2)
    | exn x S2 e2 => exact h
    | stuck => exact h
  | exn x S1 e => exact h
  | stuck => exact h
theorem Mt.here {a : α} {Φ : α → Store → List Addr → Hp → Prop} (h : Mt G ρ S H (.ok a S none) Φ) (R : RelS G ρ S H) : Φ a S ρ H := h ρ H R (Step.refl _ _ _)
theorem Mt.mono {r : Res α} {Φ Ψ : α → Store → List Addr → Hp → Prop} (h : Mt G ρ S H r Φ) (k : ∀ a S' ρ' H', Φ a S' ρ' H' → Ψ a S' ρ' H') : Mt G ρ S H r Ψ := by
  cases r with
  | ok a S1 e => exact fun ρ1 H1 R1 st1 => k _ _ _ _ (h ρ1 H1 R1 st1)
  | exn x S1 e => exact h
  | stuck => exact h
end

/-- a step of the model on two values -/
def tOS (X : Cx) (f : Value → Value → Sem Value) (x y : V) (H : Hp) (Q : VK) : Prop :=
  ∀ (pins : List (Addr × Obj)) (s : Shared) (σ : L2.St) (v u : Value), Inv X pins σ H s → RelV x v → RelV y u → wpAny (model X.prog X.w) X.A (f v u) (EP X pins σ Q) X.xe s
theorem tOS_op (X : Cx) (f : Value → Value → Sem Value) : OpR X f (tOS X f) := fun pins s σ H x y v u Q I rx ry h => h pins s σ v u I rx ry
theorem tOS.of {X : Cx} {f : Value → Value → Sem Value} {r : R2} (o : OpR X f r) {x y : V} {H : Hp} {Q : VK} (h : r x y H Q) : tOS X f x y H Q := fun pins s σ v u I rx ry => o pins s σ H x y v u Q I rx ry h
/-- a step on values -/
def tUS (X : Cx) (f : Value → Sem Value) (x : V) (H : Hp) (Q : VK) : Prop :=
  ∀ (pins : List (Addr × Obj)) (s : Shared) (σ : L2.St) (v : Value), Inv X pins σ H s → RelV x v → wpAny (model X.prog X.w) X.A (f v) (EP X pins σ Q) X.xe s
theorem tUS.of {X : Cx} {f : Value → Sem Value} {r : V → Hp → VK → Prop} (o : UnR X f r) {x : V} {H : Hp} {Q : VK} (h : r x H Q) : tUS X f x H Q := fun pins s σ v I rx => o pins s σ H x v Q I rx h
def tCS (X : Cx) (f : Value) (xs : List V) (H : Hp) (Q : VK) : Prop :=
  ∀ (pins : List (Addr × Obj)) (s : Shared) (σ : L2.St) (us : List Value), Inv X pins σ H s → Vals xs us → wpAny (model X.prog X.w) X.A (call f us) (EP X pins σ Q) X.xe s
theorem tCS_r (X : Cx) (f : Value) : CallR X f (tCS X f) := fun pins s σ H xs us Q I r h => h pins s σ us I r
theorem tCS.of {X : Cx} {f : Value} {r : List V → Hp → VK → Prop} (o : CallR X f r) {xs : List V} {H : Hp} {Q : VK} (h : r xs H Q) : tCS X f xs H Q := fun pins s σ us I q => o pins s σ H xs us Q I q h
def tMS (X : Cx) (id : String) (x : V) (xs : List V) (H : Hp) (Q : VK) : Prop :=
  ∀ (pins : List (Addr × Obj)) (s : Shared) (σ : L2.St) (v : Value) (us : List Value), Inv X pins σ H s → RelV x v → Vals xs us → wpAny (model X.prog X.w) X.A (call (.builtin id) (v :: us)) (EP X pins σ Q) X.xe s
theorem tMS_r (X : Cx) (id : String) : MtR X id (tMS X id) := fun pins s σ H x xs v us Q I rx r h => h pins s σ v us I rx r
theorem tMS.of {X : Cx} {id : String} {r : V → List V → Hp → VK → Prop} (o : MtR X id r) {x : V} {xs : List V} {H : Hp} {Q : VK} (h : r x xs H Q) : tMS X id x xs H Q := fun pins s σ v us I rx q => o pins s σ H x xs v us Q I rx q h

section
variable {G : Gc} {n : Nat} {X : Cx} {ρ : List Addr} {S : Store} {H : Hp} {Q : VK} {x y : V} {dx dy : D}
/-- a list, to be read -/
theorem lst_of (R : RelS G ρ S H) {d : D} {v : V} {xs : List D} (hv : VR G ρ H d v) (h : d.lst? S = some xs) : ∃ a vs, v = .ref a ∧ SqL G.K H a vs ∧ VRs G ρ H xs vs := by
  cases hv with
  | ref hk =>
    unfold D.lst? at h
    simp only at h
    split at h
    · rename_i ys e
      cases h
      have o := R.obj _ _ _ hk e
      cases o with
      | lst q r => exact ⟨_, _, rfl, .of q, r⟩
    · cases h
  | cl q r => cases h; exact ⟨_, _, rfl, q.sq, r⟩
  | _ => cases h
theorem seq_of (R : RelS G ρ S H) {d : D} {v : V} {xs : List D} (hv : VR G ρ H d v) (h : d.seq? S = some xs) : ∃ a vs, v = .ref a ∧ (SqL G.K H a vs ∨ SqT G.K H a vs) ∧ VRs G ρ H xs vs := by
  cases hv with
  | ref hk =>
    obtain ⟨a, vs, e, q, r⟩ := lst_of R (.ref hk) (show (D.ref _).lst? S = some xs from h)
    exact ⟨a, vs, e, .inl q, r⟩
  | tup q r => cases h; exact ⟨_, _, rfl, .inr q.sq, r⟩
  | cl q r => cases h; exact ⟨_, _, rfl, .inl q.sq, r⟩
  | _ => cases h
theorem dict_of (R : RelS G ρ S H) {d : D} {v : V} {kvs : List (D × D)} (hv : VR G ρ H d v) (h : d.dict? S = some kvs) :
    ∃ a vs, v = .ref a ∧ (H a = some (.dK vs) ∨ ∃ o, H a = some (.frz o (.dK vs))) ∧ KRs G ρ H kvs vs := by
  cases hv with
  | ref hk =>
    unfold D.dict? at h
    simp only at h
    split at h
    · rename_i ys e
      cases h
      have o := R.obj _ _ _ hk e
      cases o with
      | dict q r => exact ⟨_, _, rfl, .inl q, r⟩
    · rename_i ys e
      cases h
      have o := R.obj _ _ _ hk e
      cases o with
      | ldict q r => exact ⟨_, _, rfl, .inr ⟨_, q⟩, r⟩
    · cases h
  | _ => cases h

/-- what is new is a list -/
theorem MtV.newL {xs : List D} {vs : List V} (h : MtV G ρ S H (.ok (.ref S.length) (S ++ [.lst xs]) none) Q) (R : RelS G ρ S H) (r : VRs G ρ H xs vs) {p : Addr} (hp : H p = none) : Q (.ref p) (upd H p (.lst vs)) := by
  have hpre : ρ <+: ρ ++ [p] := ⟨[p], rfl⟩
  refine h (ρ ++ [p]) _ (R.push hp (.lst upd_same (r.mono hpre (Keep.new hp)))) ⟨hpre, Keep.new hp, MonoS.push _ _, rest_push hp⟩ _ (.ref ?_)
  rw [List.getElem?_append_right (by rw [R.len]; exact Nat.le_refl _), R.len]
  simp
/-- what is new is a tuple -/
theorem MtV.newT {xs : List D} {vs : List V} (h : MtV G ρ S H (.ok (.tup xs) S none) Q) (R : RelS G ρ S H) (r : VRs G ρ H xs vs) {p : Addr} (hp : H p = none) : Q (.ref p) (upd H p (.tup vs)) :=
  h ρ _ (R.grow (Keep.new hp) (upd_none hp)) ⟨List.prefix_refl _, Keep.new hp, MonoS.refl _, rest_new hp⟩ _ (.tup (.inl upd_same) (r.mono (List.prefix_refl _) (Keep.new hp)))
/-- what is there -/
theorem MtV.same {d : D} {v : V} (h : MtV G ρ S H (.ok d S none) Q) (R : RelS G ρ S H) (r : VR G ρ H d v) : Q v H := Mt.here h R v r

end
end NF

namespace NF
open PySem PySem.Spec PyProof.Rows L2
section
variable {G : Gc} {n : Nat} {X : Cx} {ρ : List Addr} {S : Store} {H : Hp} {Q : VK} {x y : V} {dx dy : D}
theorem sizeL_eq : sizeL = sizeLine := rfl

theorem KRs.isEmpty {ds : List (D × D)} {vs : List (Key × V)} (r : KRs G ρ H ds vs) : vs.isEmpty = ds.isEmpty := by cases r <;> rfl
theorem VRs.isEmpty {ds : List D} {vs : List V} (r : VRs G ρ H ds vs) : vs.isEmpty = ds.isEmpty := by cases r <;> rfl
theorem tru_of (R : RelS G ρ S H) {d : D} {v : V} {b : Bool} (hv : VR G ρ H d v) (h : d.truthy S = some b) : TruV G.K v H b := by
  cases hv with
  | non => cases h; rfl
  | bl b => cases h; rfl
  | int i => cases h; rfl
  | str s =>
    simp only [D.truthy] at h
    split at h
    · rename_i hs
      cases h
      refine ⟨?_, ?_⟩
      · show (s.toArray).size ≤ _; rw [List.size_toArray]; exact hs
      · show (!s.isEmpty) = (((s.toArray).size : Int) != 0)
        rw [List.size_toArray]
        cases s with
        | nil => rfl
        | cons c r =>
          have : ((List.length (c :: r) : Nat) : Int) ≠ 0 := by simp; omega
          have h2 : (((List.length (c :: r) : Nat) : Int) != 0) = true := by simpa using this
          rw [h2]; rfl
    · cases h
  | tup q r => cases h; exact .inr (.inl ⟨_, q.sq, by rw [r.isEmpty]⟩)
  | cl q r => cases h; exact .inl ⟨_, q.sq, by rw [r.isEmpty]⟩
  | ref hk =>
    simp only [D.truthy] at h
    split at h
    · rename_i ys e
      cases h
      have o := R.obj _ _ _ hk e
      cases o with
      | lst q r => exact .inl ⟨_, .of q, by rw [r.isEmpty]⟩
    · rename_i ys e
      cases h
      have o := R.obj _ _ _ hk e
      cases o with
      | dict q r => exact .inr (.inr ⟨_, q, by rw [r.isEmpty]⟩)
    · cases h
  | fn _ => cases h
  | ty _ => cases h

/-! ### operators -/
theorem guardM {α : Type} {c : Prop} [Decidable c] {r : Res α} {Φ : α → Store → List Addr → Hp → Prop} (h : Mt G ρ S H (if c then r else .stuck) Φ) : c ∧ Mt G ρ S H r Φ := by
  by_cases hc : c
  · rw [if_pos hc] at h; exact ⟨hc, h⟩
  · rw [if_neg hc] at h; exact h.elim
theorem op_catR : OpR X (binaryOp .Add) (fun x y H Q => ∃ l b xs zs, x = .ref l ∧ y = .ref b ∧ SqL X.K H l xs ∧ SqL X.K H b zs ∧ xs.length + zs.length ≤ sizeLine ∧ ∀ p, H p = none → Q (.ref p) (upd H p (.lst (xs ++ zs)))) := by
  intro pins s σ H x y v u Q I rx ry h
  obtain ⟨l, b, xs, zs, rfl, rfl, hH, hB, hz, q⟩ := h
  cases rx
  cases ry
  obtain ⟨its, r, ⟨⟨k1, k2, k3, k4⟩, n, e, e1, e2, e3⟩, _⟩ := I.list hH
  obtain ⟨its2, r2, ⟨⟨j1, j2, j3, j4⟩, n2, f, f1, f2, f3⟩, _⟩ := I.list hB
  simp only at e1 e2 e3 f1 f2 f3
  subst e1 e2 e3 f1 f2 f3
  have hl := r.length
  have hl2 := r2.length
  refine concat_meets ⟨_, e, rfl⟩ ⟨_, f, rfl⟩ noFill_list_add seq_list_add PySem.F.slot_list_add PySem.F.entry_list_add (PySem.F.args_list_add_2 _ _)
    (list_addW l b its.toArray its2.toArray n n2 none none k4 j4 (by rw [List.size_toArray, List.size_toArray]; omega)) ⟨e, f, ?_⟩
  have ea : its.toArray ++ its2.toArray = (its ++ its2).toArray := by simp
  rw [ea]
  exact ⟨.ref _, _, I.lnew (t' := s.toks) (r.append r2) (by rw [List.length_append]; omega), rfl, q _ I.fresh⟩
theorem bits_mul {i j : Int} (h : mulOk i j = true) : IntMulOk i j := by
  have h2 : bits i + bits j < 2 ^ 22 := of_decide_eq_true h
  have b : ∀ z : Int, Builtin.Int.intBits z ≤ z.natAbs.log2 + 1 := fun z => by
    unfold Builtin.Int.intBits
    split
    · omega
    · omega
  unfold IntMulOk
  intro q
  simp only [Bool.and_eq_true, decide_eq_true_eq] at q
  obtain ⟨_, q⟩ := q
  have q3 : Builtin.Int.intBits i + Builtin.Int.intBits j > (bitsLine : Int) := of_decide_eq_true q
  have b1 := b i
  have b2 := b j
  unfold bits at h2
  have e : bitsLine = 2 ^ 27 := rfl
  omega
theorem op_mulM : OpR X (binaryOp .Mult) (fun x y H Q => ∃ i j, x = .int i ∧ y = .int j ∧ mulOk i j = true ∧ Q (.int (i * j)) H) := by
  intro pins s σ H x y v u Q I rx ry h
  obtain ⟨i, j, rfl, rfl, hz, q⟩ := h
  obtain ⟨t, rfl⟩ := rx
  obtain ⟨t', rfl⟩ := ry
  exact mul_int ⟨.int _, H, I.tok _, ⟨_, rfl⟩, q⟩ (bits_mul hz)

/-- the evaluator's operator is the model's -/
def opOf : BOp → Operator
  | .add => .Add
  | .sub => .Sub
  | .mul => .Mult
  | .fdiv => .FloorDiv
  | .mod => .Mod
  | .pow => .Pow
theorem str_app (s t : List Nat) : (⟨s.toArray⟩ : Str) ++ ⟨t.toArray⟩ = ⟨(s ++ t).toArray⟩ := by
  show (⟨s.toArray ++ t.toArray⟩ : Str) = _
  simp
theorem str_len (s : List Nat) : (⟨s.toArray⟩ : Str).length = s.length := by
  show s.toArray.size = _
  simp
theorem bin_snd (cb : Cb G n X) (R : RelS G ρ S H) (op : BOp) (hx : VR G ρ H dx x) (hy : VR G ρ H dy y) (h : MtV G ρ S H (binEv op dx dy S) Q) : tOS X (binaryOp (opOf op)) x y H Q := by
  have lists : op = .add → (∃ xs ys, dx.lst? S = some xs ∧ dy.lst? S = some ys ∧ xs.length + ys.length ≤ sizeL ∧ MtV G ρ S H (.ok (.ref S.length) (S ++ [.lst (xs ++ ys)]) none) Q) → tOS X (binaryOp (opOf op)) x y H Q := by
    rintro rfl ⟨xs, ys, e1, e2, hz, h⟩
    obtain ⟨a, vs, rfl, q1, r1⟩ := lst_of R hx e1
    obtain ⟨b, ws, rfl, q2, r2⟩ := lst_of R hy e2
    rw [← cb.K] at q1 q2
    have l1 := r1.length
    have l2 := r2.length
    exact .of op_catR ⟨a, b, vs, ws, rfl, rfl, q1, q2, by rw [← l1, ← l2]; exact hz, fun p hp => h.newL R (r1.append r2) hp⟩
  have addL : op = .add → MtV G ρ S H (match dx.lst? S, dy.lst? S with
      | some xs, some ys => if xs.length + ys.length ≤ sizeL then .ok (.ref S.length) (S ++ [.lst (xs ++ ys)]) none else .stuck
      | _, _ => .stuck) Q → tOS X (binaryOp (opOf op)) x y H Q := by
    intro e h
    split at h
    · rename_i xs ys e1 e2
      obtain ⟨hz, h⟩ := guardM h
      exact lists e ⟨xs, ys, e1, e2, hz, h⟩
    · exact h.elim
  cases op with
  | add =>
    cases hx with
    | int i =>
      cases hy with
      | int j => exact .of op_add ⟨_, _, rfl, rfl, h.same R (.int _)⟩
      | _ => exact h.elim
    | str s =>
      cases hy with
      | str t =>
        obtain ⟨hz, h⟩ := guardM h
        refine .of op_add_str ⟨_, _, rfl, rfl, by rw [str_len, str_len]; exact hz, ?_⟩
        rw [str_app]
        exact MtV.same h R (.str _)
      | _ => exact h.elim
    | tup q1 r1 =>
      cases hy with
      | tup q2 r2 =>
        obtain ⟨hz, h⟩ := guardM h
        have l1 := r1.length
        have l2 := r2.length
        refine .of op_catA ⟨_, _, _, _, rfl, rfl, (cb.K ▸ q1.sq), (cb.K ▸ q2.sq), by rw [← l1, ← l2]; exact hz, fun e => ?_, fun _ e => ?_, fun _ _ p hp => MtV.newT h R (r1.append r2) hp⟩
        · subst e; cases r1; exact MtV.same h R (.tup q2 r2)
        · subst e; cases r2
          rw [List.append_nil] at h
          exact MtV.same h R (.tup q1 r1)
      | _ => exact addL rfl h
    | ref hk => cases hy <;> exact addL rfl h
    | cl q r => cases hy <;> exact addL rfl h
    | non => cases hy <;> exact h.elim
    | bl b => cases hy <;> exact h.elim
    | fn f => cases hy <;> exact h.elim
    | ty f => cases hy <;> exact h.elim
  | sub =>
    cases hx with
    | int i =>
      cases hy with
      | int j => exact .of op_sub ⟨_, _, rfl, rfl, h.same R (.int _)⟩
      | _ => exact h.elim
    | _ => cases hy <;> exact h.elim
  | mul =>
    cases hx with
    | int i =>
      cases hy with
      | int j =>
        obtain ⟨hz, h⟩ := guardM h
        exact .of op_mulM ⟨_, _, rfl, rfl, hz, MtV.same h R (.int _)⟩
      | _ => exact h.elim
    | _ => cases hy <;> exact h.elim
  | fdiv =>
    cases hx with
    | int i =>
      cases hy with
      | int j =>
        obtain ⟨hz, h⟩ := guardM h
        unfold divOk at hz
        simp only [Bool.and_eq_true, decide_eq_true_eq] at hz
        exact .of op_fdivW ⟨_, _, rfl, rfl, hz, MtV.same h R (.int _)⟩
      | _ => exact h.elim
    | _ => cases hy <;> exact h.elim
  | mod =>
    cases hx with
    | int i =>
      cases hy with
      | int j =>
        obtain ⟨hz, h⟩ := guardM h
        exact .of op_mod ⟨_, _, rfl, rfl, hz, MtV.same h R (.int _)⟩
      | _ => exact h.elim
    | _ => cases hy <;> exact h.elim
  | pow =>
    cases hx with
    | int i =>
      cases hy with
      | int j =>
        obtain ⟨hz, h⟩ := guardM h
        exact .of op_pow ⟨_, _, rfl, rfl, hz, MtV.same h R (.int _)⟩
      | _ => exact h.elim
    | _ => cases hy <;> exact h.elim
end
end NF

namespace NF
open PySem PySem.Spec PyProof.Rows L2
section
variable {G : Gc} {n : Nat} {X : Cx} {ρ : List Addr} {S : Store} {H : Hp} {Q : VK} {x y : V} {dx dy : D} {pins : List (Addr × Obj)} {σ : L2.St} {s : Shared}

theorem k_none (cb : Cb G n X) (I : Inv X pins σ H s) {a : Addr} {o : Obj} (h : G.K.lookup a = some o) : H a = none :=
  (I.bs a o (I.mod.kin a o (cb.K ▸ h))).2
/-- what sort of thing stands at an address -/
def tag (K : PySem.W.Frag) (H : Hp) (a : Addr) : Nat := match H a with
  | some (.tup _) => 1
  | some (.lst _) => 2
  | some (.dK _) => 2
  | some (.frz _ (.lst _)) => 3
  | some (.frz _ (.dK _)) => 2
  | some (.ext _) => 2
  | some _ => 0
  | none => match K.lookup a with
    | some o => (match o.data with
      | .func _ => 4
      | .seq _ _ => if o.cls = .type "tuple" then 1 else 3
      | _ => 0)
    | none => 0
theorem tag_tup (cb : Cb G n X) (I : Inv X pins σ H s) {a : Addr} {vs : List V} (h : TupAt G.K H a vs) : tag G.K H a = 1 := by
  rcases h with h | ⟨o, its, k, h, c, d, _⟩
  · unfold tag; rw [h]
  · unfold tag; rw [k_none cb I h, h]; simp only; rw [d]; simp only; rw [if_pos c]
theorem tag_ro (cb : Cb G n X) (I : Inv X pins σ H s) {a : Addr} {vs : List V} (h : RoAt G.K H a vs) : tag G.K H a = 3 := by
  rcases h with ⟨o, h⟩ | ⟨o, its, k, h, c, _, d, _⟩
  · unfold tag; rw [h]
  · unfold tag; rw [k_none cb I h, h]; simp only; rw [d]; simp only; rw [if_neg (by rw [c]; decide)]
theorem tag_ref (R : RelS G ρ S H) {k : Nat} {a : Addr} (h : ρ[k]? = some a) : tag G.K H a = 2 := by
  have hk : k < S.length := by rw [← R.len]; exact (List.getElem?_eq_some_iff.mp h).1
  have o := R.obj k a _ h (List.getElem?_eq_getElem hk)
  generalize S[k] = u at o
  unfold tag
  cases o with
  | lst q r => rw [q]
  | dict q r => rw [q]
  | ldict q r => rw [q]
  | set q => rw [q]; rfl
theorem tag_fn (cb : Cb G n X) (I : Inv X pins σ H s) {f : Nat} {a : Addr} (h : G.FA f a) : tag G.K H a = 4 := by
  obtain ⟨o, fd, e, d⟩ := cb.ok.obj f a h
  unfold tag; rw [k_none cb I e, e]; simp only; rw [d]
theorem tup_one (cb : Cb G n X) (I : Inv X pins σ H s) {a : Addr} {vs ws : List V} (h : TupAt G.K H a vs) (h' : TupAt G.K H a ws) : vs = ws :=
  I.tuple_inj (cb.K ▸ h.sq) (cb.K ▸ h'.sq)
theorem ro_one (cb : Cb G n X) (I : Inv X pins σ H s) {a : Addr} {vs ws : List V} (h : RoAt G.K H a vs) (h' : RoAt G.K H a ws) : vs = ws :=
  I.list_inj (cb.K ▸ h.sq) (cb.K ▸ h'.sq)
mutual
theorem VR.inj (cb : Cb G n X) (I : Inv X pins σ H s) (R : RelS G ρ S H) : ∀ {d d' : D} {v : V}, VR G ρ H d v → VR G ρ H d' v → d = d'
  | _, _, _, .non, h => by cases h; rfl
  | _, _, _, .bl b, h => by cases h; rfl
  | _, _, _, .int b, h => by cases h; rfl
  | _, _, _, .str b, h => by
    generalize e : V.str ⟨b.toArray⟩ = w at h
    cases h with
    | str c =>
      injection e with e
      injection e with e
      have e2 := congrArg Array.toList e
      simp at e2
      rw [e2]
    | _ => cases e
  | _, _, _, .ty b, h => by cases h; rfl
  | _, _, _, .tup q r, h => by
    have t := tag_tup cb I q
    cases h with
    | tup q' r' => cases tup_one cb I q q'; rw [VRs.inj cb I R r r']
    | cl q' r' => rw [tag_ro cb I q'] at t; cases t
    | ref h' => rw [tag_ref R h'] at t; cases t
    | fn h' => rw [tag_fn cb I h'] at t; cases t
  | _, _, _, .cl q r, h => by
    have t := tag_ro cb I q
    cases h with
    | cl q' r' => cases ro_one cb I q q'; rw [VRs.inj cb I R r r']
    | tup q' r' => rw [tag_tup cb I q'] at t; cases t
    | ref h' => rw [tag_ref R h'] at t; cases t
    | fn h' => rw [tag_fn cb I h'] at t; cases t
  | _, _, _, .ref q, h => by
    have t := tag_ref R q
    cases h with
    | ref q' => rw [nodup_get R.inj q q']
    | tup q' r' => rw [tag_tup cb I q'] at t; cases t
    | cl q' r' => rw [tag_ro cb I q'] at t; cases t
    | fn h' => rw [tag_fn cb I h'] at t; cases t
  | _, _, _, .fn q, h => by
    have t := tag_fn cb I q
    cases h with
    | fn q' => rw [cb.ok.inj _ _ _ q q']
    | tup q' r' => rw [tag_tup cb I q'] at t; cases t
    | cl q' r' => rw [tag_ro cb I q'] at t; cases t
    | ref h' => rw [tag_ref R h'] at t; cases t
theorem VRs.inj (cb : Cb G n X) (I : Inv X pins σ H s) (R : RelS G ρ S H) : ∀ {d d' : List D} {v : List V}, VRs G ρ H d v → VRs G ρ H d' v → d = d'
  | _, _, _, .nil, h => by cases h; rfl
  | _, _, _, .cons h r, h' => by
    cases h' with
    | cons h' r' => rw [VR.inj cb I R h h', VRs.inj cb I R r r']
end

theorem eqvL_some {f : D → D → Option Bool} : ∀ {xs ys : List D} {b : Bool}, eqvL f xs ys = some b →
    ∃ e : Nat → Bool, (∀ (j : Nat) (u v : D), xs[j]? = some u → ys[j]? = some v → f u v = some (e j)) ∧ b = ((List.range (min xs.length ys.length)).all e && xs.length == ys.length)
  | [], [], b, h => by cases h; exact ⟨fun _ => true, fun j u v h => by simp at h, rfl⟩
  | [], y :: ys, b, h => by cases h; exact ⟨fun _ => true, fun j u v h => by simp at h, by simp⟩
  | x :: xs, [], b, h => by cases h; exact ⟨fun _ => true, fun j u v _ h => by simp at h, by simp⟩
  | x :: xs, y :: ys, b, h => by
    unfold eqvL at h
    split at h
    · rename_i a c e1 e2
      cases h
      obtain ⟨e, he, hb⟩ := eqvL_some e2
      refine ⟨fun j => match j with | 0 => a | j + 1 => e j, fun j u v h1 h2 => ?_, ?_⟩
      · cases j with
        | zero => simp at h1 h2; subst h1 h2; exact e1
        | succ j => exact he j u v (by simpa using h1) (by simpa using h2)
      · rw [hb]
        have m : min (x :: xs).length (y :: ys).length = min xs.length ys.length + 1 := by simp only [List.length_cons]; omega
        have l : ((x :: xs).length == (y :: ys).length) = (xs.length == ys.length) := by simp
        rw [m, l, List.range_succ_eq_map, List.all_cons, List.all_map, Bool.and_assoc]
        rfl
    · cases h
theorem eqvL_refl {f : D → D → Option Bool} (hf : ∀ d b, f d d = some b → b = true) : ∀ {xs : List D} {b : Bool}, eqvL f xs xs = some b → b = true
  | [], b, h => by cases h; rfl
  | x :: xs, b, h => by
    unfold eqvL at h
    split at h
    · rename_i a c e1 e2
      cases h
      rw [hf _ _ e1, eqvL_refl hf e2]; rfl
    · cases h
theorem eqv_refl : ∀ (k : Nat) (d : D) (b : Bool), D.eqv S k d d = some b → b = true
  | 0, _, _, h => by cases h
  | k + 1, d, b, h => by
    cases d with
    | non => cases h; rfl
    | bl a => simp [D.eqv] at h; exact h
    | int a => simp [D.eqv] at h; exact h
    | str a => simp [D.eqv] at h; exact h
    | tup xs => exact eqvL_refl (eqv_refl k) h
    | cl xs => cases h
    | fn f => cases h
    | ty f => cases h
    | ref a =>
      simp only [D.eqv] at h
      split at h
      · simp at h; exact h
      · cases h

/-- richCompare, by what the evaluator says; A any surroundings with units enough -/
theorem rel_tuple (cb : Cb G n X) (I : Inv X pins σ H s) {a : Addr} {vs : List V} (q : TupAt G.K H a vs) : ∃ its : List Value, Vals vs its ∧ s.heap.IsTuple a its.toArray := by
  obtain ⟨its, r, p, _⟩ := I.tuple (cb.K ▸ q.sq)
  exact ⟨its, r, p⟩
theorem rel_list (cb : Cb G n X) (I : Inv X pins σ H s) (R : RelS G ρ S H) {d : D} {v : V} {xs : List D} (hv : VR G ρ H d v) (h : d.lst? S = some xs) :
    ∃ (a : Addr) (vs : List V) (its : List Value), v = .ref a ∧ Vals vs its ∧ s.heap.IsList a its.toArray ∧ VRs G ρ H xs vs := by
  obtain ⟨a, vs, e, q, r⟩ := lst_of R hv h
  obtain ⟨its, rv, p, _⟩ := I.list (cb.K ▸ q)
  exact ⟨a, vs, its, e, rv, p.isList, r⟩
theorem items_rel {ds : List D} {vs : List V} {its : List Value} (r : VRs G ρ H ds vs) (rv : Vals vs its) {j : Nat} (h : j < its.toArray.size) : ∃ d v, ds[j]? = some d ∧ VR G ρ H d v ∧ RelV v its.toArray[j] := by
  have hl := rv.length
  have hj : j < vs.length := by simpa [hl] using h
  obtain ⟨d, hd, hr⟩ := r.getV (List.getElem?_eq_getElem hj)
  obtain ⟨u, hu, ru⟩ := rv.get (List.getElem?_eq_getElem hj)
  refine ⟨d, _, hd, hr, ?_⟩
  have : its.toArray[j] = u := by
    have h1 : its[j]? = some (its.toArray[j]) := by simp [List.getElem?_eq_getElem, (show j < its.length by simpa using h)]
    rw [hu] at h1; exact (Option.some.inj h1).symm
  rw [this]; exact ru

/-- the elements of two rows of values -/
theorem items_eq (cb : Cb G n X) (I : Inv X pins σ H s) (R : RelS G ρ S H) {k : Nat} {A : Around}
    (ih : ∀ {d d' : D} {b : Bool} {v v' : V} {u u' : Value}, D.eqv S k d d' = some b → VR G ρ H d v → VR G ρ H d' v' → RelV v u → RelV v' u' → SeqAt.EqAt A.in1 s u u' b)
    {xs ys : List D} {vs ws : List V} {its jts : List Value} {b : Bool} (h : eqvL (D.eqv S k) xs ys = some b) (r : VRs G ρ H xs vs) (r' : VRs G ρ H ys ws) (rv : Vals vs its) (rw' : Vals ws jts) :
    ∃ e : Nat → Bool, (∀ j (h1 : j < its.toArray.size) (h2 : j < jts.toArray.size), SeqAt.EqAt A.in1 s its.toArray[j] jts.toArray[j] (e j)) ∧
      b = ((List.range (min its.toArray.size jts.toArray.size)).all e && its.toArray.size == jts.toArray.size) := by
  obtain ⟨e, he, hb⟩ := eqvL_some h
  refine ⟨e, fun j h1 h2 => ?_, ?_⟩
  · obtain ⟨d, v, hd, hr, ru⟩ := items_rel r rv h1
    obtain ⟨d', v', hd', hr', ru'⟩ := items_rel r' rw' h2
    exact ih (he j d d' hd hd') hr hr' ru ru'
  · rw [hb]
    have l1 := r.length
    have l2 := rv.length
    have l3 := r'.length
    have l4 := rw'.length
    have e1 : its.toArray.size = xs.length := by simp; omega
    have e2 : jts.toArray.size = ys.length := by simp; omega
    rw [e1, e2]
theorem list_dec (cb : Cb G n X) (I : Inv X pins σ H s) (R : RelS G ρ S H) {k c : Nat} {A : Around}
    (ih : ∀ {d d' : D} {b : Bool} {v v' : V} {u u' : Value}, D.eqv S k d d' = some b → VR G ρ H d v → VR G ρ H d' v' → RelV v u → RelV v' u' → SeqAt.EqAt A.in1 s u u' b)
    {a a' : Nat} {b : Bool} {v v' : V} {u u' : Value} (h : D.eqv S (k + 1) (.ref a) (.ref a') = some b) (hx : VR G ρ H (.ref a) v) (hy : VR G ρ H (.ref a') v') (ru : RelV v u) (ru' : RelV v' u') (hu : A.units < cLine) :
    SeqAt.RcAt A s u u' b ∧ SeqAt.RcNeAt A s u u' (!b) := by
  simp only [D.eqv] at h
  split at h
  · rename_i xs ys e1 e2
    obtain ⟨p, vs, its, rfl, rv, l1, r1⟩ := rel_list cb I R hx e1
    obtain ⟨p', ws, jts, rfl, rw', l2, r2⟩ := rel_list cb I R hy e2
    cases ru
    cases ru'
    have n1 : its.toArray.size = xs.length := by have := r1.length; have := rv.length; simp; omega
    have n2 : jts.toArray.size = ys.length := by have := r2.length; have := rw'.length; simp; omega
    by_cases ha : a = a'
    · rw [if_pos ha] at h
      cases h
      subst ha
      rw [e1] at e2; cases e2
      have ep : p = p' := by
        cases hx with
        | ref q => cases hy with
          | ref q' => rw [q] at q'; exact Option.some.inj q'
      subst ep
      have ev : its = jts := by
        obtain ⟨o, ho, hc, m, hd⟩ := l1
        obtain ⟨o', ho', hc', m', hd'⟩ := l2
        rw [ho] at ho'; cases ho'
        rw [hd] at hd'
        injection hd' with z _
        simpa using congrArg Array.toList z
      subst ev
      have he : ∀ j (h1 : j < its.toArray.size) (h2 : j < its.toArray.size), SeqAt.EqAt A.in1 s its.toArray[j] its.toArray[j] ((fun _ => true) j) := fun j h1 h2 => SeqAt.EqAt.same _
      have hall : (List.range its.toArray.size).all (fun _ => true) = true := by simp
      refine ⟨?_, ?_⟩
      · have := SeqAt.RcAt.lists l1 l1 rfl hu he
        rw [hall] at this; exact this
      · have := SeqAt.RcNeAt.lists l1 l1 rfl hu he
        rw [hall] at this; exact this
    · rw [if_neg ha] at h
      by_cases hl : xs.length = ys.length
      · rw [if_pos hl] at h
        obtain ⟨e, he, hb⟩ := items_eq cb I R ih h r1 r2 rv rw'
        have hsz : its.toArray.size = jts.toArray.size := by omega
        rw [hsz, Nat.min_self] at hb
        simp only [beq_self_eq_true, Bool.and_true] at hb
        rw [hb, ← hsz]
        exact ⟨SeqAt.RcAt.lists l1 l2 hsz hu he, SeqAt.RcNeAt.lists l1 l2 hsz hu he⟩
      · rw [if_neg hl] at h
        cases h
        have hsz : (its.toArray.size != jts.toArray.size) = true := by simp only [bne_iff_ne]; omega
        exact ⟨SeqAt.RcAt.lists_lengths l1 l2 hsz hu, SeqAt.RcNeAt.lists_lengths l1 l2 hsz hu⟩
  · cases h
/-- == and != of data by the evaluator's word, one level given -/
theorem rc_of (cb : Cb G n X) (I : Inv X pins σ H s) (R : RelS G ρ S H) {k : Nat} {A : Around} (hu : A.units < cLine)
    (ih : ∀ {d d' : D} {b : Bool} {v v' : V} {u u' : Value}, D.eqv S k d d' = some b → VR G ρ H d v → VR G ρ H d' v' → RelV v u → RelV v' u' → SeqAt.EqAt A.in1 s u u' b)
    {d d' : D} {b : Bool} {v v' : V} {u u' : Value} (h : D.eqv S (k + 1) d d' = some b) (hx : VR G ρ H d v) (hy : VR G ρ H d' v') (ru : RelV v u) (ru' : RelV v' u') :
    SeqAt.RcAt A s u u' b ∧ SeqAt.RcNeAt A s u u' (!b) := by
  have strq : ∀ (c e : List Nat), ((⟨c.toArray⟩ : Str) == ⟨e.toArray⟩) = (c == e) := fun c e => by
    rw [Bool.eq_iff_iff]
    simp
  cases hx with
  | non =>
    cases ru
    cases hy with
    | non => cases ru'; cases h; exact ⟨SeqAt.RcAt.none_none, SeqAt.RcNeAt.none_none⟩
    | bl c => cases ru'; cases h; exact ⟨SeqAt.RcAt.none_bool c, SeqAt.RcNeAt.none_bool c⟩
    | int c => obtain ⟨t, rfl⟩ := ru'; cases h; exact ⟨SeqAt.RcAt.none_int c t, SeqAt.RcNeAt.none_int c t⟩
    | str c => obtain ⟨t, rfl⟩ := ru'; cases h; exact ⟨SeqAt.RcAt.none_str _ t, SeqAt.RcNeAt.none_str _ t⟩
    | tup q r =>
      obtain ⟨its, rv, p⟩ := rel_tuple cb I q
      cases ru'; cases h; exact ⟨SeqAt.RcAt.none_tuple p hu, SeqAt.RcNeAt.none_tuple p hu⟩
    | _ => cases h
  | bl a =>
    cases ru
    cases hy with
    | non => cases ru'; cases h; exact ⟨SeqAt.RcAt.bool_none a, SeqAt.RcNeAt.bool_none a⟩
    | bl c => cases ru'; cases h; exact ⟨SeqAt.RcAt.bool_bool a c, SeqAt.RcNeAt.bool_bool a c⟩
    | int c => obtain ⟨t, rfl⟩ := ru'; cases h; exact ⟨SeqAt.RcAt.bool_int a c t, SeqAt.RcNeAt.bool_int a c t⟩
    | str c => obtain ⟨t, rfl⟩ := ru'; cases h; exact ⟨SeqAt.RcAt.bool_str a _ t, SeqAt.RcNeAt.bool_str a _ t⟩
    | tup q r =>
      obtain ⟨its, rv, p⟩ := rel_tuple cb I q
      cases ru'; cases h; exact ⟨SeqAt.RcAt.bool_tuple a p hu, SeqAt.RcNeAt.bool_tuple a p hu⟩
    | _ => cases h
  | int a =>
    obtain ⟨t0, rfl⟩ := ru
    cases hy with
    | non => cases ru'; cases h; exact ⟨SeqAt.RcAt.int_none a t0, SeqAt.RcNeAt.int_none a t0⟩
    | bl c => cases ru'; cases h; exact ⟨SeqAt.RcAt.int_bool a t0 c, SeqAt.RcNeAt.int_bool a t0 c⟩
    | int c => obtain ⟨t, rfl⟩ := ru'; cases h; exact ⟨SeqAt.RcAt.int_int a t0 c t, SeqAt.RcNeAt.int_int a t0 c t⟩
    | str c => obtain ⟨t, rfl⟩ := ru'; cases h; exact ⟨SeqAt.RcAt.int_str a t0 _ t, SeqAt.RcNeAt.int_str a t0 _ t⟩
    | tup q r =>
      obtain ⟨its, rv, p⟩ := rel_tuple cb I q
      cases ru'; cases h; exact ⟨SeqAt.RcAt.int_tuple a t0 p hu, SeqAt.RcNeAt.int_tuple a t0 p hu⟩
    | _ => cases h
  | str a =>
    obtain ⟨t0, rfl⟩ := ru
    cases hy with
    | non => cases ru'; cases h; exact ⟨SeqAt.RcAt.str_none _ t0, SeqAt.RcNeAt.str_none _ t0⟩
    | bl c => cases ru'; cases h; exact ⟨SeqAt.RcAt.str_bool _ t0 c, SeqAt.RcNeAt.str_bool _ t0 c⟩
    | int c => obtain ⟨t, rfl⟩ := ru'; cases h; exact ⟨SeqAt.RcAt.str_int _ t0 c t, SeqAt.RcNeAt.str_int _ t0 c t⟩
    | str c =>
      obtain ⟨t, rfl⟩ := ru'; cases h
      rw [← strq]
      exact ⟨SeqAt.RcAt.str_str _ t0 _ t, SeqAt.RcNeAt.str_str _ t0 _ t⟩
    | tup q r =>
      obtain ⟨its, rv, p⟩ := rel_tuple cb I q
      cases ru'; cases h; exact ⟨SeqAt.RcAt.str_tuple _ t0 p hu, SeqAt.RcNeAt.str_tuple _ t0 p hu⟩
    | _ => cases h
  | tup q0 r0 =>
    obtain ⟨its, rv, p⟩ := rel_tuple cb I q0
    cases ru
    cases hy with
    | non => cases ru'; cases h; exact ⟨SeqAt.RcAt.tuple_none p hu, SeqAt.RcNeAt.tuple_none p hu⟩
    | bl c => cases ru'; cases h; exact ⟨SeqAt.RcAt.tuple_bool c p hu, SeqAt.RcNeAt.tuple_bool c p hu⟩
    | int c => obtain ⟨t, rfl⟩ := ru'; cases h; exact ⟨SeqAt.RcAt.tuple_int c t p hu, SeqAt.RcNeAt.tuple_int c t p hu⟩
    | str c => obtain ⟨t, rfl⟩ := ru'; cases h; exact ⟨SeqAt.RcAt.tuple_str _ t p hu, SeqAt.RcNeAt.tuple_str _ t p hu⟩
    | tup q r =>
      obtain ⟨jts, rw', p'⟩ := rel_tuple cb I q
      cases ru'
      obtain ⟨e, he, hb⟩ := items_eq cb I R ih h r0 r rv rw'
      rw [hb]
      exact ⟨SeqAt.RcAt.tuples p p' hu he, SeqAt.RcNeAt.tuples p p' hu he⟩
    | ref q =>
      simp only [D.eqv] at h
      split at h
      · rename_i xs e
        cases h
        obtain ⟨a, vs, jts, e1, rw', l, _⟩ := rel_list cb I R (.ref q) e
        cases e1
        cases ru'
        exact ⟨SeqAt.RcAt.tuple_list p l hu, SeqAt.RcNeAt.tuple_list p l hu⟩
      · cases h
    | _ => cases h
  | ref q0 =>
    cases hy with
    | ref q => exact list_dec (c := 0) cb I R ih h (.ref q0) (.ref q) ru ru' hu
    | tup q r =>
      obtain ⟨its, rv, p⟩ := rel_tuple cb I q
      cases ru'
      simp only [D.eqv] at h
      split at h
      · rename_i xs e
        cases h
        obtain ⟨a, vs, jts, e1, rw', l, _⟩ := rel_list cb I R (.ref q0) e
        cases e1
        cases ru
        exact ⟨SeqAt.RcAt.list_tuple l p hu, SeqAt.RcNeAt.list_tuple l p hu⟩
      · cases h
    | _ => cases h
  | cl q r => cases hy <;> cases h
  | fn q => cases hy <;> cases h
  | ty q => cases hy <;> cases h
theorem eq_at (cb : Cb G n X) (I : Inv X pins σ H s) (R : RelS G ρ S H) : ∀ (k : Nat) {A : Around}, A.units + k < cLine →
    ∀ {d d' : D} {b : Bool} {v v' : V} {u u' : Value}, D.eqv S k d d' = some b → VR G ρ H d v → VR G ρ H d' v' → RelV v u → RelV v' u' → SeqAt.EqAt A s u u' b
  | 0, A, _, _, _, _, _, _, _, _, h, _, _, _, _ => by cases h
  | k + 1, A, hu, d, d', b, v, v', u, u', h, hx, hy, ru, ru' => by
    have ih : ∀ {d d' : D} {b : Bool} {v v' : V} {u u' : Value}, D.eqv S k d d' = some b → VR G ρ H d v → VR G ρ H d' v' → RelV v u → RelV v' u' → SeqAt.EqAt A.in1 s u u' b :=
      fun h hx hy ru ru' => eq_at cb I R k (A := A.in1) (by show A.units + 1 + k < cLine; omega) h hx hy ru ru'
    by_cases he : u = u'
    · subst he
      have ev : v = v' := ru.inj ru'
      subst ev
      have ed := VR.inj cb I R hx hy
      subst ed
      rw [eqv_refl _ _ _ h]
      exact SeqAt.EqAt.same u
    · have rc := (rc_of cb I R (by omega) ih h hx hy ru ru').1
      intro prog w E Q hq
      unfold eqBool
      refine wpAny_holding ?_
      refine wpAny_ite_split (fun hab => absurd (eq_of_beq hab) he) fun _ => ?_
      have fin : wpAny (model prog w) A (richCompare .Eq u u' >>= truthOfDropped) Q E s := wpAny_bind (rc prog w E _ (wpAny_truthy_bool hq))
      cases hx with
      | non => cases ru; exact fin
      | bl c => cases ru; exact fin
      | int c => obtain ⟨t, rfl⟩ := ru; exact fin
      | str c => obtain ⟨t, rfl⟩ := ru; exact fin
      | tup q r => cases ru; exact fin
      | cl q r => cases ru; exact fin
      | ref q => cases ru; exact fin
      | fn q => cases ru; exact fin
      | ty q => cases ru; exact fin
end
end NF

namespace NF
open PySem PySem.Spec PyProof.Rows L2
section
variable {G : Gc} {n : Nat} {X : Cx} {ρ : List Addr} {S : Store} {H : Hp} {Q : VK} {x y : V} {dx dy : D} {pins : List (Addr × Obj)} {σ : L2.St} {s : Shared}

theorem Cb.u (cb : Cb G n X) : X.A.units + 1800 < cLine := by have := cb.rm.un; omega
theorem Cb.u1 (cb : Cb G n X) : X.A.units + 1 < cLine := by have := cb.u; omega

/-! ### keys -/
theorem keyD_inj : ∀ {k k' : Key}, keyD k = keyD k' → k = k'
  | .inl i, .inl j, h => by cases h; rfl
  | .inr i, .inr j, h => by
    injection h with h
    congr 1
    obtain ⟨a⟩ := i
    obtain ⟨b⟩ := j
    simp at h
    rw [h]
  | .inl i, .inr j, h => by cases h
  | .inr i, .inl j, h => by cases h
/-- a value that is a key -/
theorem key_of {d : D} {v : V} (hk : d.isKey = true) (hv : VR G ρ H d v) : ∃ k : Key, d = keyD k ∧ v = kV k := by
  cases hv with
  | int i => exact ⟨.inl i, rfl, rfl⟩
  | str c => exact ⟨.inr ⟨c.toArray⟩, by simp [keyD], rfl⟩
  | _ => cases hk
theorem KRs.get {k : Key} : ∀ {ds : List (D × D)} {vs : List (Key × V)}, KRs G ρ H ds vs → (∀ d, dget (keyD k) ds = some d → ∃ v, valV vs k = some v ∧ VR G ρ H d v) ∧ (dget (keyD k) ds).isSome = (valV vs k).isSome
  | _, _, .nil => ⟨fun d h => (by cases h), rfl⟩
  | _, _, @KRs.cons _ _ _ k' d' v' ds vs h r => by
    by_cases e : k' = k
    · subst e
      rw [valV_pos rfl]
      refine ⟨fun d hd => ?_, ?_⟩
      · simp only [dget, if_pos] at hd
        cases hd
        exact ⟨_, rfl, h⟩
      · simp [dget]
    · rw [valV_neg e]
      have e' : ¬ keyD k' = keyD k := fun z => e (keyD_inj z)
      simp only [dget, if_neg e']
      exact KRs.get r
theorem dict_get (R : RelS G ρ S H) {d : D} {v : V} {kvs : List (D × D)} {k : Key} (hv : VR G ρ H d v) (h : d.dict? S = some kvs) :
    ∃ a vs, v = .ref a ∧ DGet H a (kV k) (valV vs k) ∧ KRs G ρ H kvs vs := by
  obtain ⟨a, vs, e, q, r⟩ := dict_of R hv h
  refine ⟨a, vs, e, .inl ⟨vs, k, ?_, rfl, rfl⟩, r⟩
  rcases q with q | ⟨o, q⟩
  · exact .inl q
  · exact .inr ⟨o, q⟩
theorem str_cps (c : List Nat) : (⟨c.toArray⟩ : Str).cps.toList = c := by simp

theorem set_of (R : RelS G ρ S H) {d : D} {v : V} {ks : List D} (hv : VR G ρ H d v) (h : d.set? S = some ks) :
    ∃ (a : Addr) (ms : List Key), v = .ref a ∧ H a = some (SetK G.prog G.w a (hasK ms) ms.length) ∧ ks = ms.map keyD := by
  cases hv with
  | ref hk =>
    unfold D.set? at h
    simp only at h
    split at h
    · rename_i ys e
      cases h
      have o := R.obj _ _ _ hk e
      cases o with
      | set q => exact ⟨_, _, rfl, q, rfl⟩
    · cases h
  | _ => cases h
theorem hasK_map (ms : List Key) (k : Key) : hasK (ms.map keyD) (keyD k) = hasK ms k := by
  unfold hasK
  rw [List.any_map]
  congr 1
  funext z
  show decide (keyD z = keyD k) = decide (z = k)
  by_cases e : z = k
  · rw [e]; simp
  · rw [decide_eq_false e, decide_eq_false fun q => e (keyD_inj q)]
theorem setK_map : ∀ (xs ms : List Key), (xs.map keyD).foldl addK (ms.map keyD) = (xs.foldl addK ms).map keyD
  | [], _ => rfl
  | x :: xs, ms => by
    rw [List.map_cons, List.foldl_cons, List.foldl_cons]
    have e : addK (ms.map keyD) (keyD x) = (addK ms x).map keyD := by
      unfold addK
      rw [hasK_map]
      by_cases h : hasK ms x = true
      · rw [if_pos h, if_pos h]
      · rw [if_neg h, if_neg h, List.map_append]; rfl
    rw [e]
    exact setK_map xs _
/-! ### comparisons -/
theorem eq_snd (cb : Cb G n X) (R : RelS G ρ S H) (hx : VR G ρ H dx x) (hy : VR G ρ H dy y) (h : MtV G ρ S H (resB (D.eqv S eqN dx dy) false S) Q) : tOS X (compareOp .Eq) x y H Q := by
  intro pins s σ v u I rx ry
  unfold resB at h
  split at h
  · rename_i b e
    have hu : X.A.units + eqN < cLine := by have := cb.u; unfold eqN; omega
    have rc := (rc_of cb I R (A := X.A) (k := 1199) (by omega) (fun h1 h2 h3 h4 h5 => eq_at cb I R 1199 (A := X.A.in1) (by show X.A.units + 1 + 1199 < cLine; unfold eqN at hu; omega) h1 h2 h3 h4 h5) e hx hy rx ry).1
    refine rc X.prog X.w X.xe _ ⟨.bl b, H, I, rfl, ?_⟩
    have := h.same R (.bl (b != false))
    simpa using this
  · exact h.elim
theorem ne_snd (cb : Cb G n X) (R : RelS G ρ S H) (hx : VR G ρ H dx x) (hy : VR G ρ H dy y) (h : MtV G ρ S H (resB (D.eqv S eqN dx dy) true S) Q) : tOS X (compareOp .NotEq) x y H Q := by
  intro pins s σ v u I rx ry
  unfold resB at h
  split at h
  · rename_i b e
    have hu : X.A.units + eqN < cLine := by have := cb.u; unfold eqN; omega
    have rc := (rc_of cb I R (A := X.A) (k := 1199) (by omega) (fun h1 h2 h3 h4 h5 => eq_at cb I R 1199 (A := X.A.in1) (by show X.A.units + 1 + 1199 < cLine; unfold eqN at hu; omega) h1 h2 h3 h4 h5) e hx hy rx ry).2
    refine rc X.prog X.w X.xe _ ⟨.bl (!b), H, I, rfl, ?_⟩
    have := h.same R (.bl (b != true))
    have e : (b != true) = !b := by cases b <;> rfl
    rw [e] at this; exact this
  · exact h.elim

/-- what == of the value says, for each of the model's values that stands for one of ours -/
noncomputable def valEq (G : Gc) (ρ : List Addr) (S : Store) (H : Hp) (k : Nat) (x : D) (u : Value) : Bool := by
  classical exact if h : ∃ (d : D) (v : V), VR G ρ H d v ∧ RelV v u then (D.eqv S k h.choose x).getD false else false
theorem valEq_at (cb : Cb G n X) (I : Inv X pins σ H s) (R : RelS G ρ S H) {k : Nat} {d dx : D} {v : V} {u : Value} {b : Bool} (hv : VR G ρ H d v) (ru : RelV v u) (h : D.eqv S k d dx = some b) : valEq G ρ S H k dx u = b := by
  have hx : ∃ (d : D) (v : V), VR G ρ H d v ∧ RelV v u := ⟨d, v, hv, ru⟩
  unfold valEq
  rw [dif_pos hx]
  obtain ⟨v', hv', ru'⟩ := hx.choose_spec
  have e : v' = v := ru'.inj ru
  subst e
  rw [VR.inj cb I R hv' hv, h]; rfl
theorem elem_any (cb : Cb G n X) (I : Inv X pins σ H s) (R : RelS G ρ S H) {k : Nat} {dx : D} : ∀ {xs : List D} {vs : List V} {its : List Value} {b : Bool}, VRs G ρ H xs vs → Vals vs its → elemL (D.eqv S k) dx xs = some b →
    its.any (valEq G ρ S H k dx) = b ∧ ∀ u ∈ its, ∃ d v c, VR G ρ H d v ∧ RelV v u ∧ D.eqv S k d dx = some c
  | _, _, _, b, .nil, r, h => by cases r; cases h; exact ⟨rfl, fun u hu => by cases hu⟩
  | _, _, _, b, .cons hv r, rv, h => by
    cases rv with
    | cons ru rr =>
      unfold elemL at h
      split at h
      · rename_i a c e1 e2
        cases h
        obtain ⟨h1, h2⟩ := elem_any cb I R r rr e2
        refine ⟨?_, fun u hu => ?_⟩
        · rw [List.any_cons, valEq_at cb I R hv ru e1, h1]
        · rcases List.mem_cons.mp hu with rfl | hu
          · exact ⟨_, _, _, hv, ru, e1⟩
          · exact h2 u hu
      · cases h
theorem in_snd (cb : Cb G n X) (R : RelS G ρ S H) (neg : Bool) (hx : VR G ρ H dx x) (hy : VR G ρ H dy y) (h : MtV G ρ S H (inEv neg dx dy S) Q) : tOS X (compareOp (if neg then .NotIn else .In)) x y H Q := by
  have rest : MtV G ρ S H (match dy.dict? S with
    | some kvs => if dx.isKey then .ok (.bl ((dget dx kvs).isSome != neg)) S none else .stuck
    | none => match dy.seq? S with
      | some xs => resB (elemL (D.eqv S eqN) dx xs) neg S
      | none => match dy.set? S with
        | some ks => if dx.isKey then .ok (.bl (hasK ks dx != neg)) S none else .stuck
        | none => .stuck) Q → tOS X (compareOp (if neg then .NotIn else .In)) x y H Q := by
    intro h
    split at h
    · rename_i kvs e
      obtain ⟨hk, h⟩ := guardM h
      obtain ⟨k, rfl, rfl⟩ := key_of hk hx
      obtain ⟨a, vs, rfl, g, r⟩ := dict_get (k := k) R hy e
      intro pins s σ v u I rx ry
      cases ry
      have q := MtV.same h R (.bl _)
      rw [(KRs.get r).2] at q
      cases neg with
      | false => exact d_in cb.u1 I g rx fun s' I' => ⟨.bl _, H, I', rfl, by simpa using q⟩
      | true => exact d_notIn cb.u1 I g rx fun s' I' => ⟨.bl _, H, I', rfl, by
          have e2 : ((valV vs k).isSome != true) = !(valV vs k).isSome := by cases (valV vs k).isSome <;> rfl
          rw [e2] at q; exact q⟩
    · split at h
      · rename_i xs e
        unfold resB at h
        split at h
        · rename_i b eb
          intro pins s σ v u I rx ry
          obtain ⟨a, vs, rfl, q, r⟩ := seq_of R hy e
          cases ry
          have hu : X.A.in1.units + eqN < cLine := by have := cb.u; show X.A.units + 1 + eqN < cLine; unfold eqN; omega
          have fin := MtV.same h R (.bl (b != neg))
          rcases q with q | q
          · obtain ⟨its, rv, p, _⟩ := I.list (cb.K ▸ q)
            obtain ⟨ha, hm⟩ := elem_any cb I R r rv eb
            have he : ∀ z, z ∈ its.toArray → SeqAt.EqAt X.A.in1 s z v (valEq G ρ S H eqN dx z) := fun z hz => by
              obtain ⟨d, w, c, hw, rw', hc⟩ := hm z (by simpa using hz)
              rw [valEq_at cb I R hw rw' hc]
              exact eq_at cb I R eqN hu hc hw hx rw' rx
            have ea : its.toArray.any (valEq G ρ S H eqN dx) = b := by rw [← ha]; simp
            cases neg with
            | false => exact SeqAt.in_listAt _ p.isList he (by rw [ea]; exact ⟨.bl b, H, I, rfl, by simpa using fin⟩)
            | true => exact SeqAt.notIn_listAt _ p.isList he (by rw [ea]; exact ⟨.bl (!b), H, I, rfl, by
                have e2 : (b != true) = !b := by cases b <;> rfl
                rw [e2] at fin; exact fin⟩)
          · obtain ⟨its, rv, p, _⟩ := I.tuple (cb.K ▸ q)
            obtain ⟨ha, hm⟩ := elem_any cb I R r rv eb
            have he : ∀ z, z ∈ its.toArray → SeqAt.EqAt X.A.in1 s z v (valEq G ρ S H eqN dx z) := fun z hz => by
              obtain ⟨d, w, c, hw, rw', hc⟩ := hm z (by simpa using hz)
              rw [valEq_at cb I R hw rw' hc]
              exact eq_at cb I R eqN hu hc hw hx rw' rx
            have ea : its.toArray.any (valEq G ρ S H eqN dx) = b := by rw [← ha]; simp
            cases neg with
            | false => exact SeqAt.in_tupleAt _ p he (by rw [ea]; exact ⟨.bl b, H, I, rfl, by simpa using fin⟩)
            | true => exact SeqAt.notIn_tupleAt _ p he (by rw [ea]; exact ⟨.bl (!b), H, I, rfl, by
                have e2 : (b != true) = !b := by cases b <;> rfl
                rw [e2] at fin; exact fin⟩)
        · exact h.elim
      · split at h
        · rename_i ks e
          obtain ⟨hk, h⟩ := guardM h
          obtain ⟨k, rfl, rfl⟩ := key_of hk hx
          obtain ⟨a, ms, rfl, q, rfl⟩ := set_of R hy e
          rw [hasK_map] at h
          have fin := MtV.same h R (.bl _)
          rw [← cb.prog, ← cb.w] at q
          cases neg with
          | false => exact .of or_sinK ⟨k, a, _, _, rfl, rfl, q, by simpa using fin⟩
          | true => exact .of or_snotinK ⟨k, a, _, _, rfl, rfl, q, by
              have e2 : (hasK ms k != true) = !hasK ms k := by cases hasK ms k <;> rfl
              rw [e2] at fin; exact fin⟩
        · exact h.elim
  cases hy with
  | str t =>
    cases hx with
    | str c =>
      have q := MtV.same h R (.bl _)
      cases neg with
      | false => exact .of op_in_str ⟨_, _, rfl, rfl, by rw [str_len]; simpa [hasSub] using q⟩
      | true => exact .of op_notin_str ⟨_, _, rfl, rfl, by
          rw [str_len]
          have e2 : ∀ b : Bool, (b != true) = !b := fun b => by cases b <;> rfl
          rw [e2] at q; exact q⟩
    | _ => exact h.elim
  | non => exact rest h
  | bl b => exact rest h
  | int b => exact rest h
  | tup q r => exact rest h
  | cl q r => exact rest h
  | ref q => exact rest h
  | fn q => exact rest h
  | ty q => exact rest h

def copOf : COp → CmpOp
  | .eq => .Eq
  | .ne => .NotEq
  | .lt => .Lt
  | .le => .LtE
  | .gt => .Gt
  | .ge => .GtE
  | .isin => .In
  | .notin => .NotIn
  | .is => .Is
  | .isnot => .IsNot
theorem is_dec (hx : VR G ρ H dx x) : decide (x = .non) = decide (dx = .non) := by
  cases hx <;> simp
theorem cmp_snd (cb : Cb G n X) (R : RelS G ρ S H) (op : COp) (hx : VR G ρ H dx x) (hy : VR G ρ H dy y) (h : MtV G ρ S H (cmpEv op dx dy S) Q) : tOS X (compareOp (copOf op)) x y H Q := by
  cases op with
  | eq => exact eq_snd cb R hx hy h
  | ne => exact ne_snd cb R hx hy h
  | isin => exact in_snd cb R false hx hy h
  | notin => exact in_snd cb R true hx hy h
  | is =>
    cases hy with
    | non => exact .of op_isN ⟨rfl, by rw [is_dec hx]; exact MtV.same h R (.bl _)⟩
    | _ => exact h.elim
  | isnot =>
    cases hy with
    | non => exact .of op_notN ⟨rfl, by rw [is_dec hx]; exact MtV.same h R (.bl _)⟩
    | _ => exact h.elim
  | lt =>
    cases hx with
    | int i => cases hy with
      | int j => exact .of op_lt ⟨_, _, rfl, rfl, MtV.same h R (.bl _)⟩
      | _ => exact h.elim
    | str i => cases hy with
      | str j => exact .of op_lt_str ⟨_, _, rfl, rfl, by rw [str_cps, str_cps]; exact MtV.same h R (.bl _)⟩
      | _ => exact h.elim
    | _ => cases hy <;> exact h.elim
  | gt =>
    cases hx with
    | int i => cases hy with
      | int j => exact .of op_gt ⟨_, _, rfl, rfl, MtV.same h R (.bl _)⟩
      | _ => exact h.elim
    | str i => cases hy with
      | str j => exact .of op_gt_str ⟨_, _, rfl, rfl, by rw [str_cps, str_cps]; exact MtV.same h R (.bl _)⟩
      | _ => exact h.elim
    | _ => cases hy <;> exact h.elim
  | le =>
    cases hx with
    | int i => cases hy with
      | int j => exact .of op_le ⟨_, _, rfl, rfl, MtV.same h R (.bl _)⟩
      | _ => exact h.elim
    | _ => cases hy <;> exact h.elim
  | ge =>
    cases hx with
    | int i => cases hy with
      | int j => exact .of op_ge ⟨_, _, rfl, rfl, MtV.same h R (.bl _)⟩
      | _ => exact h.elim
    | _ => cases hy <;> exact h.elim
end
end NF

namespace NF
open PySem PySem.Spec PyProof.Rows L2
section
variable {G : Gc} {n : Nat} {X : Cx} {ρ : List Addr} {S : Store} {H : Hp} {Q : VK} {x y : V} {dx dy : D} {pins : List (Addr × Obj)} {σ : L2.St} {s : Shared}

def tIxS (X : Cx) (x y : V) (H : Hp) (Q : VK) : Prop :=
  ∀ (value slice : Expr) (pins : List (Addr × Obj)) (s : Shared) (σ : L2.St) (v u : Value), Inv X pins σ H s → RelV x v → RelV y u →
    subscripted slice false v u = operate [v, u] (getItem v u) → wpAny (model X.prog X.w) X.A (subscriptTail value slice v u) (EP X pins σ Q) X.xe s
theorem tIxS_r (X : Cx) : IxR X (tIxS X) := fun value slice pins s σ H x y v u Q I rx ry h hs => h value slice pins s σ v u I rx ry hs
theorem tIxS.of {r : R2} (o : IxR X r) (h : r x y H Q) : tIxS X x y H Q := fun value slice pins s σ v u I rx ry hs => o value slice pins s σ H x y v u Q I rx ry h hs
theorem ix_dict (hu : X.A.units + 1 < cLine) : IxR X (fun x y H Q => ∃ a v, x = .ref a ∧ DGet H a y (some v) ∧ Q v H) := by
  intro value slice pins s σ H x y v u Q I rx ry h hs
  obtain ⟨a, w, rfl, g, q⟩ := h
  cases rx
  exact tail_any (dict_typeIs I g) PySem.F.slot_dict_getitem.lookup (d_getItem hu I g ry fun w' s' I' rw' => ⟨w, H, I', rw', q⟩) hs
theorem atI_of {α : Type} {xs : List α} {k : Int} {j : Nat} {v : α} (h : L2.ixN xs.length k = some j) (hv : xs[j]? = some v) : atI xs k = some v := by
  unfold atI; rw [h]; exact hv
theorem ix_snd (cb : Cb G n X) (R : RelS G ρ S H) (hx : VR G ρ H dx x) (hy : VR G ρ H dy y) (h : MtV G ρ S H (ixEv dx dy S) Q) : tIxS X x y H Q := by
  have dic : ∀ kvs, dx.dict? S = some kvs → dy.isKey = true → MtV G ρ S H (ofOpt (dget dy kvs) S) Q → tIxS X x y H Q := by
    intro kvs e hk h
    obtain ⟨k, rfl, rfl⟩ := key_of hk hy
    obtain ⟨a, vs, rfl, g, r⟩ := dict_get (k := k) R hx e
    unfold ofOpt at h
    split at h
    · rename_i d ed
      obtain ⟨w, hw, rw'⟩ := (KRs.get r).1 d ed
      rw [hw] at g
      exact .of (ix_dict cb.u1) ⟨a, w, rfl, g, h.same R rw'⟩
    · exact h.elim
  have intc : ∀ k : Int, dy = .int k → MtV G ρ S H (match dx.dict? S with
      | some kvs => ofOpt (dget (.int k) kvs) S
      | none => match dx.seq? S with
        | some xs => (match L2.ixN xs.length k with
          | some n => ofOpt xs[n]? S
          | none => .stuck)
        | none => .stuck) Q → tIxS X x y H Q := by
    rintro k rfl h
    split at h
    · rename_i kvs e
      exact dic kvs e rfl h
    · split at h
      · rename_i xs e
        obtain ⟨a, vs, rfl, q, r⟩ := seq_of R hx e
        split at h
        · rename_i j ej
          unfold ofOpt at h
          split at h
          · rename_i d ed
            obtain ⟨w, hw, rw'⟩ := r.get ed
            rw [r.length] at ej
            have fin := h.same R rw'
            cases hy
            rcases q with q | q
            · exact .of ix_list ⟨a, vs, k, w, rfl, rfl, cb.K ▸ q, atI_of ej hw, fin⟩
            · exact .of ix_tup ⟨a, vs, k, w, rfl, rfl, cb.K ▸ q, atI_of ej hw, fin⟩
          · exact h.elim
        · exact h.elim
      · exact h.elim
  cases hy with
  | int k =>
    cases hx with
    | str c =>
      obtain ⟨hz, h⟩ := guardM h
      split at h
      · rename_i j ej
        split at h
        · rename_i z ez
          refine .of ix_str ⟨_, k, z, rfl, rfl, by rw [str_len]; exact hz, by rw [str_cps]; exact atI_of ej ez, ?_⟩
          exact MtV.same h R (.str [z])
        · exact h.elim
      · exact h.elim
    | non => exact intc k rfl h
    | bl b => exact intc k rfl h
    | int b => exact intc k rfl h
    | tup q r => exact intc k rfl h
    | cl q r => exact intc k rfl h
    | ref q => exact intc k rfl h
    | fn q => exact intc k rfl h
    | ty q => exact intc k rfl h
  | str c =>
    unfold ixEv at h
    simp only at h
    split at h
    · rename_i kvs e
      obtain ⟨hk, h⟩ := guardM h
      exact dic kvs e hk h
    · exact h.elim
  | _ =>
    unfold ixEv at h
    simp only at h
    split at h
    · cases (guardM h).1
    · exact h.elim

/-! ### slices -/
theorem cut_len {α : Type} (xs : List α) (lo hi : Option Int) : (cutL xs lo hi).length ≤ xs.length := by
  unfold cutL
  rw [List.length_take, List.length_drop]
  omega
theorem VRs.cut {ds : List D} {vs : List V} (r : VRs G ρ H ds vs) (lo hi : Option Int) : VRs G ρ H (cutL ds lo hi) (cutV vs lo hi) := by
  unfold cutL cutV
  rw [r.length]
  exact (r.drop _).take _
theorem cut_whole {α : Type} {xs : List α} {lo hi : Option Int} (h : HT.sIx xs.length 0 lo = 0 ∧ HT.sIx xs.length xs.length hi = xs.length) : cutL xs lo hi = xs := by
  unfold cutL
  rw [h.1, h.2]
  simp
def tSlS (X : Cx) (x : V) (lo hi : Option Int) (H : Hp) (Q : VK) : Prop :=
  ∀ (pins : List (Addr × Obj)) (s : Shared) (σ : L2.St) (v vl vu : Value) (sl : Addr), Inv X pins σ H s → RelV x v → s.heap.IsSliceOf sl vl vu .none → IsPart vl lo → IsPart vu hi →
    ∃ T id, typeLookup (.type T) "__getitem__" = pure (some (.builtin id)) ∧ s.TypeIs v T ∧ wpAny (model X.prog X.w) X.A (getItem v (.ref sl)) (EP X pins σ Q) X.xe s
theorem tSlS_r (X : Cx) : SlR X (tSlS X) := fun pins s σ H x v vl vu lo hi sl Q I rx hs pl pu h => h pins s σ v vl vu sl I rx hs pl pu
theorem tSlS.of {r : V → Option Int → Option Int → Hp → VK → Prop} (o : SlR X r) {lo hi : Option Int} (h : r x lo hi H Q) : tSlS X x lo hi H Q := fun pins s σ v vl vu sl I rx hs pl pu => o pins s σ H x v vl vu lo hi sl Q I rx hs pl pu h
theorem slice_snd (cb : Cb G n X) (R : RelS G ρ S H) {lo hi : Option Int} (hx : VR G ρ H dx x) (h : MtV G ρ S H (sliceEv dx lo hi S) Q) : tSlS X x lo hi H Q := by
  have lis : ∀ xs, dx.lst? S = some xs → MtV G ρ S H (.ok (.ref S.length) (S ++ [.lst (cutL xs lo hi)]) none) Q → tSlS X x lo hi H Q := by
    intro xs e h
    obtain ⟨a, vs, rfl, q, r⟩ := lst_of R hx e
    exact .of sl_list ⟨a, vs, rfl, cb.K ▸ q, fun p hp => h.newL R (r.cut lo hi) hp⟩
  cases hx with
  | str c =>
    obtain ⟨hz, h⟩ := guardM h
    refine .of sl_str ⟨_, rfl, by rw [str_len]; exact hz, ?_⟩
    have e : cutS ⟨c.toArray⟩ lo hi = ⟨(cutL c lo hi).toArray⟩ := by
      unfold cutS cutL
      rw [str_len, str_cps]
    rw [e]
    exact MtV.same h R (.str _)
  | tup q r =>
    refine .of sl_tupA ⟨_, _, rfl, cb.K ▸ q.sq, fun hw => ?_, fun _ p hp => MtV.newT h R (r.cut lo hi) hp⟩
    rw [← r.length] at hw
    have h : MtV G ρ S H (.ok (.tup (cutL _ lo hi)) S none) Q := h
    rw [cut_whole hw] at h
    exact MtV.same h R (.tup q r)
  | cl q r => exact lis _ rfl h
  | ref q =>
    unfold sliceEv at h
    simp only at h
    split at h
    · rename_i xs e
      exact lis xs e h
    · exact h.elim
  | _ => exact h.elim

/-! ### t[::-1] -/
theorem back_adj (k : Nat) : Builtin.Slice.sliceAdjust none none (-1) (k : Int) = ((k : Int) - 1, -1) := by
  unfold Builtin.Slice.sliceAdjust
  simp
theorem back_places (k : Nat) : Builtin.Slice.slicePlaces ((k : Int) - 1) (-1) (-1) = k := by
  unfold Builtin.Slice.slicePlaces
  simp
  omega
theorem fmap_some {α β : Type} {f : α → Option β} {g : α → β} : ∀ {l : List α}, (∀ m ∈ l, f m = some (g m)) → l.filterMap f = l.map g
  | [], _ => rfl
  | a :: l, h => by
    rw [List.filterMap_cons, h a List.mem_cons_self, List.map_cons]
    simp only
    rw [fmap_some fun m hm => h m (List.mem_cons_of_mem _ hm)]
theorem back_pick (xs : Array Value) : ((List.range xs.size).filterMap fun (m : Nat) => xs[(((xs.size : Int) - 1) + (m : Int) * (-1)).toNat]?).toArray = xs.toList.reverse.toArray := by
  congr 1
  have e : ∀ m ∈ List.range xs.size, xs[(((xs.size : Int) - 1) + (m : Int) * (-1)).toNat]? = some (xs.toList.reverse.getD m .none) := by
    intro m hm
    have hm : m < xs.size := List.mem_range.mp hm
    have h1 : (((xs.size : Int) - 1) + (m : Int) * (-1)).toNat = xs.size - 1 - m := by omega
    rw [h1, List.getD_eq_getElem?_getD, List.getElem?_reverse (by simpa using hm)]
    simp
    rw [Array.getElem?_eq_getElem (by omega)]
    simp
  rw [fmap_some e]
  apply List.ext_getElem?
  intro i
  by_cases hi : i < xs.size
  · simp [hi]
  · rw [List.getElem?_eq_none (by simpa using hi), List.getElem?_eq_none (by simpa using hi)]
end
section
variable {prog : Program} {w : World} {A : Around} {E : Value → Shared → Prop} {s : Shared}
theorem back_applied {sl : Addr} {vl vu vs : Value} {k : Nat} {Q : Int × Int × Nat → Shared → Prop} (hs : s.heap.IsSliceOf sl vl vu vs) (pl : IsPart vl none) (pu : IsPart vu none) (ps : IsPart vs (some (-1)))
    (h : Q ((k : Int) - 1, -1, k) s) : wpAny (model prog w) A (Builtin.Slice.sliceApplied (.ref sl) (pure (k : Int))) Q E s := by
  obtain ⟨ob, hob, hcl, hda⟩ := id hs
  unfold Builtin.Slice.sliceApplied Builtin.Slice.sliceFields
  refine wpAny_bind (wpAny_bind (wpAny_field hob hda (x := vl) rfl (wpAny_bind (wpAny_field hob hda (x := vu) rfl (wpAny_bind (wpAny_field hob hda (x := vs) rfl (wpAny_pure ?_)))))))
  refine wpAny_bind (HT.slicePart_ ps ?_)
  show wpAny _ _ (if ((-1 : Int) == 0) = true then _ else _) _ _ s
  rw [if_neg (by decide)]
  refine wpAny_bind (HT.slicePart_ pl (wpAny_bind (HT.slicePart_ pu (wpAny_bind (wpAny_pure ?_)))))
  show wpAny _ _ (match Builtin.Slice.sliceAdjust none none (-1) (k : Int) with | (lo, hi) => pure (lo, (-1 : Int), Builtin.Slice.slicePlaces lo hi (-1))) _ _ s
  rw [back_adj]
  show wpAny _ _ (pure (((k : Int) - 1), (-1 : Int), Builtin.Slice.slicePlaces ((k : Int) - 1) (-1) (-1))) _ _ s
  rw [back_places]
  exact wpAny_pure h
theorem getItem_tuple_back {t sl : Addr} {items : Array Value} {vl vu vs : Value} {Q : Value → Shared → Prop} (ht : IsTup s.heap t items) (hs : s.heap.IsSliceOf sl vl vu vs) (pl : IsPart vl none) (pu : IsPart vu none) (ps : IsPart vs (some (-1)))
    (h : Q (.ref s.heap.objs.size) { s with heap := s.heap.push { cls := .type "tuple", data := .seq items.toList.reverse.toArray } })
    (hsz : items.size ≤ sizeLine) : wpAny (model prog w) A (getItem (.ref t) (.ref sl)) Q E s := by
  have hrev : sizeOk (.seq items.toList.reverse.toArray) := by
    show items.toList.reverse.toArray.size ≤ sizeLine
    rw [List.size_toArray, List.length_reverse, Array.length_toList]
    exact hsz
  obtain ⟨ob, hob, hcl, hda⟩ := id hs
  have hty : s.TypeIs (.ref sl) "slice" := ⟨ob, hob, hcl⟩
  unfold getItem
  try with_reducible refine wpAny_holding ?_
  first | refine wpAny_bind (wpAny_pure ?_) | skip
  refine wpAny_bind (wpAny_sequenceKey ht.typeIs (by decide) ?_)
  refine wpAny_bind (wpAny_callSpecial?_slot (name := Str.ofString "__getitem__") ht.typeIs PyProof.Rows.slot_tuple_getitem
    (wpAny_call_entry PyProof.Rows.slot_tuple_getitem ht.typeIs PyProof.Rows.entry_tuple_getitem ?_ (PyProof.Rows.args_tuple_getitem _ _)))
  show wpAny _ _ (Builtin.Tuple.tupleItemsOf (.ref t) >>= _) _ _ s
  refine wpAny_bind (tupleItemsOf_ ht ?_)
  refine wpAny_bind (wpAny_typeOf hty ?_)
  rw [if_pos (by decide)]
  refine wpAny_bind (back_applied hs pl pu ps ?_)
  show wpAny _ _ (if ((((items.size : Nat) : Int) - 1) == 0 && (-1 : Int) == 1 && items.size == items.size) = true then _ else _) _ _ s
  rw [if_neg (by simp), back_pick]
  first
    | exact wpAny_bind (m := Builtin.Tuple.tupleExact _) (wpAny_newObj_type (wpAny_pure ⟨_, rfl, wpAny_pure h⟩) hrev)
    | exact wpAny_bind (m := Builtin.Tuple.tupleExact _) (wpAny_newObj_type (wpAny_bind (wpAny_pure (wpAny_pure ⟨_, rfl, wpAny_pure h⟩))) hrev)
    | exact wpAny_bind (wpAny_bind (m := Builtin.Tuple.tupleExact _) (wpAny_newObj_type (wpAny_pure (wpAny_pure ⟨_, rfl, wpAny_pure h⟩)) hrev))
    | exact wpAny_bind (wpAny_bind (m := Builtin.Tuple.tupleExact _) (wpAny_newObj_type (wpAny_pure ⟨_, rfl, wpAny_pure h⟩) hrev))
end
section
variable {G : Gc} {n : Nat} {X : Cx} {ρ : List Addr} {S : Store} {H : Hp} {Q : VK} {x y : V} {dx dy : D} {pins : List (Addr × Obj)} {σ : L2.St} {s : Shared}
def tBkS (X : Cx) (x : V) (H : Hp) (Q : VK) : Prop :=
  ∀ (pins : List (Addr × Obj)) (s : Shared) (σ : L2.St) (v vl vu vs : Value) (sl : Addr), Inv X pins σ H s → RelV x v → s.heap.IsSliceOf sl vl vu vs → IsPart vl none → IsPart vu none → IsPart vs (some (-1)) →
    ∃ T id, typeLookup (.type T) "__getitem__" = pure (some (.builtin id)) ∧ s.TypeIs v T ∧ wpAny (model X.prog X.w) X.A (getItem v (.ref sl)) (EP X pins σ Q) X.xe s
theorem rev_snd (cb : Cb G n X) (R : RelS G ρ S H) (hx : VR G ρ H dx x) (h : MtV G ρ S H (revEv dx S) Q) : tBkS X x H Q := by
  have lis : ∀ xs, dx.lst? S = some xs → MtV G ρ S H (.ok (.ref S.length) (S ++ [.lst xs.reverse]) none) Q → tBkS X x H Q := by
    intro xs e h
    obtain ⟨a, vs, rfl, q, r⟩ := lst_of R hx e
    intro pins s σ v vl vu vt sl I rx hs pl pu ps
    cases rx
    obtain ⟨its, rv, p, hz⟩ := I.list (cb.K ▸ q)
    have hlen := rv.length
    refine ⟨_, _, PySem.slot_list_getitem.lookup, p.isList.typeIs, ?_⟩
    refine wpAny_getItem_list_slice p.isList hs pl pu ps (by decide) ?_ (by rw [List.size_toArray]; omega)
    rw [PySem.W.krv_pick]
    exact ⟨.ref _, _, I.lnew (t' := s.toks) (by simpa using rv.reverse) (by rw [List.length_reverse]; exact hz), rfl, h.newL R r.reverse I.fresh⟩
  cases hx with
  | tup q r =>
    intro pins s σ v vl vu vt sl I rx hs pl pu ps
    cases rx
    obtain ⟨its, rv, p, hz⟩ := I.tuple (cb.K ▸ q.sq)
    have hlen := rv.length
    refine ⟨_, _, PyProof.Rows.slot_tuple_getitem.lookup, p.typeIs, ?_⟩
    refine getItem_tuple_back p hs pl pu ps ?_ (by rw [List.size_toArray]; omega)
    refine ⟨.ref s.heap.objs.size, _, I.laid (t' := s.toks) (o := .tup _) (fun b ob q => Heap.get?_push_of_some _ q) (Nat.le_refl _) ?_, rfl, MtV.newT h R r.reverse I.fresh⟩
    exact ⟨by rw [List.length_reverse]; exact hz, _, rv.reverse, IsTup.new _ _⟩
  | cl q r => exact lis _ rfl h
  | ref q =>
    unfold revEv at h
    simp only at h
    split at h
    · rename_i xs e
      exact lis xs e h
    · exact h.elim
  | _ => exact h.elim
end
end NF

/-! NFSet: set(xs) of a list or a tuple of keys. -/
namespace NF
open PySem PySem.Spec PyProof.Rows L2
theorem addK_len {α : Type} [DecidableEq α] (ks : List α) (k : α) : (addK ks k).length ≤ ks.length + 1 := by
  unfold addK
  split
  · omega
  · simp
theorem foldK_len {α : Type} [DecidableEq α] : ∀ (xs ks : List α), (xs.foldl addK ks).length ≤ ks.length + xs.length
  | [], ks => by simp
  | x :: xs, ks => by
    have h := foldK_len xs (addK ks x)
    have h2 := addK_len ks x
    simp only [List.foldl_cons, List.length_cons]
    omega
theorem take_succ_getD {α : Type} {xs : List α} {i : Nat} {d : α} (h : i < xs.length) : xs.take (i + 1) = xs.take i ++ [xs.getD i d] := by
  rw [List.take_add_one, List.getD_eq_getElem?_getD, List.getElem?_eq_getElem h]
  rfl
section
variable {prog : Program} {w : World} {A : Around} {R : Result → Shared → Prop} {I : Addr} {fp wr : List Addr} {G : Array GenState → Array GenState → Prop} {n : Nat} {P : Nat → Value → Prop} {St : Nat → Shared → Prop}
theorem set_loop (W : WalksS prog w A.in1 I fp wr G n P St) (a : Addr) (haf : a ∉ fp) (ks : List Key) (hlen : ks.length = n) (hsmall : n + 1 < scanBound)
    (hval : ∀ i v, P i v → keyIs (ks.getD i (.inl 0)) v = true ∧ v.scannable = true) :
    ∀ (k i : Nat) (s : Shared), n - i = k → i ≤ n → St i s →
      s.heap.SetOf (mixKind prog w) a (hasK (setK (ks.take i))) (setK (ks.take i)).length →
      (∀ s', Moved (a :: wr) G s s' → s'.heap.SetOf (mixKind prog w) a (hasK (setK ks)) (setK ks).length → R (.ok (.ret .none)) s') →
      codeAny (model prog w) A (.builtin "set.update.loop" ⟨[.ref a, .ref I], []⟩) R s := by
  have haw : a ∉ wr := fun h => haf (W.sub _ h)
  have wide : ∀ b ∈ wr, b ∈ a :: wr := fun b hb => List.mem_cons_of_mem _ hb
  intro k
  induction k with
  | zero =>
    intro i s hk hi hst hset hR
    have hin : i = n := by omega
    subst hin
    rw [← hlen, List.take_length] at hset
    refine codeAny_builtin PyProof.Rows.F.entry_set_update_loop ?_
    rw [Around.under_plainId PyProof.Rows.F.plain_set_update_loop _]
    show wpAny _ A.in1 (pyNext (.ref I) >>= _) _ _ s
    refine wpAny_bind (W.done s _ _ hst fun s' hm => ?_)
    show wpAny _ A.in1 (ret Value.none) _ _ s'
    refine wpAny_pure (hR s' (hm.mono wide) ?_)
    obtain ⟨o, es, ep, t, ho, more⟩ := hset
    exact ⟨o, es, ep, t, hm.heap a _ haw ho, more⟩
  | succ k ih =>
    intro i s hk hi hst hset hR
    have hlt : i < n := by omega
    refine codeAny_builtin PyProof.Rows.F.entry_set_update_loop ?_
    rw [Around.under_plainId PyProof.Rows.F.plain_set_update_loop _]
    show wpAny _ A.in1 (pyNext (.ref I) >>= _) _ _ s
    refine wpAny_bind (W.item i s _ _ hlt hst fun v s' hP hst' hm => ?_)
    obtain ⟨hkey, hscan⟩ := hval i v hP
    have hset' : s'.heap.SetOf (mixKind prog w) a (hasK (setK (ks.take i))) (setK (ks.take i)).length := by
      obtain ⟨o, es, ep, tb, ho, more⟩ := hset
      exact ⟨o, es, ep, tb, hm.heap a _ haw ho, more⟩
    show wpAny _ A.in1 (holding [v] (setAdd a v) >>= _) _ _ s'
    refine wpAny_bind (wpAny_holding ?_)
    unfold setAdd
    refine wpAny_holding ?_
    refine wpAny_bind ((mixKind prog w).pyHash (k := ks.getD i (.inl 0)) hkey ?_)
    have room : (setK (ks.take i)).length + 1 < scanBound := by
      have h1 := foldK_len (ks.take i) []
      rw [List.length_take] at h1
      unfold setK
      simp only [List.length_nil] at h1
      omega
    refine wpAny_setAddHashed_of (knd := mixKind prog w) (s := { s' with toks := s'.toks + 1 }) hkey hscan hset' room fun h' hsb new => ?_
    have hnext : h'.SetOf (mixKind prog w) a (hasK (setK (ks.take (i + 1)))) (setK (ks.take (i + 1))).length := by
      have e : setK (ks.take (i + 1)) = addK (setK (ks.take i)) (ks.getD i (.inl 0)) := by
        rw [take_succ_getD (d := Sum.inl 0) (by omega)]
        unfold setK
        rw [List.foldl_append]
        rfl
      rw [e]
      unfold addK
      by_cases hm : hasK (setK (ks.take i)) (ks.getD i (.inl 0)) = true
      · rw [if_pos hm]
        rw [if_pos hm] at new
        have e2 : (fun k' => hasK (setK (ks.take i)) k' || decide (k' = ks.getD i (.inl 0))) = hasK (setK (ks.take i)) := by
          funext z
          by_cases hz : z = ks.getD i (.inl 0)
          · rw [hz, hm]; rfl
          · rw [decide_eq_false hz, Bool.or_false]
        rw [e2] at new
        exact new
      · rw [if_neg hm]
        rw [if_neg hm] at new
        have e2 : (fun k' => hasK (setK (ks.take i)) k' || decide (k' = ks.getD i (.inl 0))) = hasK (setK (ks.take i) ++ [ks.getD i (.inl 0)]) := by
          funext z
          have sy : decide (z = ks.getD i (.inl 0)) = decide (ks.getD i (.inl 0) = z) := by
            by_cases hz : z = ks.getD i (.inl 0)
            · rw [hz]
            · rw [decide_eq_false hz, decide_eq_false fun q => hz q.symm]
          unfold hasK
          rw [List.any_append, sy]
          simp
        rw [e2] at new
        rw [List.length_append]
        exact new
    refine wpAny_pure ⟨plainId_quiet PyProof.Rows.F.plain_set_update_loop _, ih (i + 1) _ (by omega) hlt (W.frame _ s' _ _ hst' (Nat.le_succ _) fun b hb o e => ?_) hnext fun s'' hm'' hset'' => ?_⟩
    · rw [hsb.2 b (fun h : b = a => haf (by rw [← h]; exact hb))]; exact e
    · refine hR s'' (Moved.trans W.gtrans ((hm.mono wide).then_heap (Nat.le_succ _) fun b o hb e => ?_) hm'') hset''
      rw [hsb.2 b (fun h : b = a => hb (by rw [h]; exact List.mem_cons_self))]; exact e
end
abbrev emptySet (led : Bool) : Obj := { cls := .type "set", dict := none, data := .set #[] 0 (.fresh 0 0 led) }
section
variable {prog : Program} {w : World} {A : Around} {E : Value → Shared → Prop} {s : Shared}
set_option maxHeartbeats 3200000 in
theorem call_set_list {l : Addr} {items : Array Value} {ks : List Key} {Q : Value → Shared → Prop}
    (hh : A.handled = none) (hl : s.heap.IsList l items) (hlen : ks.length = items.size) (hi : ∀ (i : Nat) (v : Value), items[i]? = some v → keyIs (ks.getD i (.inl 0)) v = true ∧ v.scannable = true) (hsmall : items.size + 1 < scanBound)
    (h : ∀ (h' : Heap) (tk : Nat), h'.SetOf (mixKind prog w) s.heap.objs.size (hasK (setK ks)) (setK ks).length →
      (∀ b o, b < s.heap.objs.size → s.heap.get? b = some o → h'.get? b = some o) → Q (.ref s.heap.objs.size) { s with heap := h', toks := tk }) :
    wpAny (model prog w) A (call (.type "set") [.ref l]) Q E s := by
  obtain ⟨cl, tail, hmro⟩ := PySem.F.called_set.mro
  have made := PySem.F.called_set.made
  have subs := PySem.F.called_set.sub
  refine wpAny_call (codeAny_of_tree ?_)
  show wpAny _ _ (callAny (.type "set") _) _ _ _
  refine wpAny_pure ⟨Code.quiet_builtin _ (by decide +kernel), codeAny_builtin PySem.F.entry_type_call ?_⟩
  rw [Around.under_plain (weight_type_call_type "set" [.ref l] []) rfl]
  have n1 := PySem.F.called_set.notType
  have n2 := PySem.F.called_set.canCreate
  have n3 := PySem.F.typeCall_set_1 (.ref l)
  repeat (any_goals (first | assumption | wp_step))
  refine codeAny_mono (code_set_new_1 (.ref l) (E := E) (Q₁ := fun obj s₁ => ∃ led : Bool, obj = .ref s.heap.objs.size ∧ s₁ = { s with heap := s.heap.push (emptySet led) }) fun led => ⟨led, rfl, rfl⟩) fun r s₁ hr => ?_
  cases r with
  | error e => exact hr
  | ok fl =>
    cases fl with
    | ret obj =>
      obtain ⟨led, rfl, rfl⟩ := hr
      have here : (s.heap.push (emptySet led)).get? s.heap.objs.size = some (emptySet led) := Heap.get?_push_size _ rfl
      have isSet : Shared.TypeIs { s with heap := s.heap.push (emptySet led) } (.ref s.heap.objs.size) "set" := ⟨_, here, rfl⟩
      have m1 := PySem.F.called_set.init.lookup
      have m2 := PySem.F.called_set.init.bind (.ref s.heap.objs.size)
      repeat (any_goals (first | assumption | wp_step))
      refine codeAny_mono (codeAny_call_builtin (R := wants (fun r s₂ => r = .none ∧ ∃ h' tk, s₂ = { s with heap := h', toks := tk } ∧
          h'.SetOf (mixKind prog w) s.heap.objs.size (hasK (setK ks)) (setK ks).length ∧
          (∀ b o, b < s.heap.objs.size → s.heap.get? b = some o → h'.get? b = some o)) E) PySem.F.called_set.init.plain PySem.F.entry_set_init (check_set_init_1 isSet ?_)) fun r₂ s₂ hr₂ => ?_
      · obtain ⟨⟨oc, od, ob, osl⟩, hol, hcl, nl, hdl⟩ := hl
        simp only at hcl hdl
        subst hcl; subst hdl
        have hol' : (s.heap.push (emptySet led)).get? l = some { cls := .type "list", dict := od, data := .seq items nl, slots := osl } := Heap.get?_push_of_some _ hol
        have k1 := PySem.F.sub_list_set
        have k2 := PySem.F.sub_list_frozenset
        have k3 : (Value.type "list" == Value.type "dict") = false := by decide
        have isl : (s.heap.push (emptySet led)).IsList l items := ⟨_, hol', rfl, nl, rfl⟩
        unfold Builtin.«set.__init__» noKeywords Builtin.Frozenset.updateFrom
        generalize hPI : pyIter = PI
        wp_walk
        subst hPI
        refine wpAny_pyIter_list isl ?_
        refine wpAny_bind (wpAny_runValue ?_)
        have hlS : l < s.heap.objs.size := Heap.lt_size hol
        have hh3 : A.in1.in1.in1.handled = none := by simp [hh]
        have apart : l ≠ (s.heap.push (emptySet led)).objs.size := by
          rw [Heap.size_push]; exact Nat.ne_of_lt (Nat.lt_succ_of_lt hlS)
        have hSf : s.heap.objs.size ∉ [(s.heap.push (emptySet led)).objs.size, l] := by
          rw [Heap.size_push]; simp only [List.mem_cons, List.mem_singleton, List.not_mem_nil, or_false, not_or]
          exact ⟨Nat.ne_of_lt (Nat.lt_succ_self _), Nat.ne_of_gt hlS⟩
        refine set_loop ((Walks.list hh3 _ l apart items).toS) s.heap.objs.size hSf ks hlen hsmall (fun i v hv => hi i v hv) (items.size - 0) 0 _ (by omega) (Nat.zero_le _)
          ⟨⟨_, Heap.get?_push_size _ rfl, rfl, rfl⟩, (isl.push _)⟩ ?first ?last
        case first =>
          have got : ((s.heap.push (emptySet led)).push { cls := .type "list_iterator", data := .fields #[.ref l, .int 0 0] }).get? s.heap.objs.size = some (emptySet led) := Heap.get?_push_of_some _ here
          have e2 : hasK (setK (ks.take 0)) = fun _ => false := rfl
          rw [e2]
          exact ⟨_, #[], 0, _, got, ⟨rfl, rfl, rfl⟩, rfl, (fun e he => by simp at he), (fun k => by simp), (by decide), (by rfl), rfl⟩
        case last =>
          intro s' hm hset
          obtain ⟨h', g', d', tk', os'⟩ := s'
          have eg : g' = s.gens := hm.gens
          have ed : d' = s.drawn := hm.drawn
          have eo : os' = s.os := hm.os
          subst eg; subst ed; subst eo
          show wpAny _ _ _ _ _ _
          refine wpAny_pure ?_
          show wpAny _ _ (ret Value.none) _ _ _
          refine wpAny_pure ⟨rfl, h', tk', rfl, hset, fun b o hb e => ?_⟩
          have b1 : b ≠ s.heap.objs.size := Nat.ne_of_lt hb
          have b2 : b ≠ (s.heap.push (emptySet led)).objs.size := by
            rw [Heap.size_push]; exact Nat.ne_of_lt (Nat.lt_succ_of_lt hb)
          exact hm.heap b o (by simp only [List.mem_cons, List.mem_singleton, List.not_mem_nil, or_false, not_or]; exact ⟨b1, b2⟩) (Heap.get?_push_of_some _ (Heap.get?_push_of_some _ e))
      · cases r₂ with
        | error e => exact hr₂
        | ok fl₂ =>
          cases fl₂ with
          | ret r =>
            obtain ⟨rfl, h', tk, rfl, hset, hk'⟩ := hr₂
            repeat (any_goals (first | assumption | wp_step))
            exact h _ _ hset hk'
          | _ => exact hr₂.elim
    | _ => exact hr.elim
end
section
variable {prog : Program} {w : World} {A : Around} {E : Value → Shared → Prop} {s : Shared}
set_option maxHeartbeats 3200000 in
theorem call_set_tuple {l : Addr} {items : Array Value} {ks : List Key} {Q : Value → Shared → Prop}
    (hh : A.handled = none) (hl : s.heap.IsTuple l items) (hlen : ks.length = items.size) (hi : ∀ (i : Nat) (v : Value), items[i]? = some v → keyIs (ks.getD i (.inl 0)) v = true ∧ v.scannable = true) (hsmall : items.size + 1 < scanBound)
    (h : ∀ (h' : Heap) (tk : Nat), h'.SetOf (mixKind prog w) s.heap.objs.size (hasK (setK ks)) (setK ks).length →
      (∀ b o, b < s.heap.objs.size → s.heap.get? b = some o → h'.get? b = some o) → Q (.ref s.heap.objs.size) { s with heap := h', toks := tk }) :
    wpAny (model prog w) A (call (.type "set") [.ref l]) Q E s := by
  obtain ⟨cl, tail, hmro⟩ := PySem.F.called_set.mro
  have made := PySem.F.called_set.made
  have subs := PySem.F.called_set.sub
  refine wpAny_call (codeAny_of_tree ?_)
  show wpAny _ _ (callAny (.type "set") _) _ _ _
  refine wpAny_pure ⟨Code.quiet_builtin _ (by decide +kernel), codeAny_builtin PySem.F.entry_type_call ?_⟩
  rw [Around.under_plain (weight_type_call_type "set" [.ref l] []) rfl]
  have n1 := PySem.F.called_set.notType
  have n2 := PySem.F.called_set.canCreate
  have n3 := PySem.F.typeCall_set_1 (.ref l)
  repeat (any_goals (first | assumption | wp_step))
  refine codeAny_mono (code_set_new_1 (.ref l) (E := E) (Q₁ := fun obj s₁ => ∃ led : Bool, obj = .ref s.heap.objs.size ∧ s₁ = { s with heap := s.heap.push (emptySet led) }) fun led => ⟨led, rfl, rfl⟩) fun r s₁ hr => ?_
  cases r with
  | error e => exact hr
  | ok fl =>
    cases fl with
    | ret obj =>
      obtain ⟨led, rfl, rfl⟩ := hr
      have here : (s.heap.push (emptySet led)).get? s.heap.objs.size = some (emptySet led) := Heap.get?_push_size _ rfl
      have isSet : Shared.TypeIs { s with heap := s.heap.push (emptySet led) } (.ref s.heap.objs.size) "set" := ⟨_, here, rfl⟩
      have m1 := PySem.F.called_set.init.lookup
      have m2 := PySem.F.called_set.init.bind (.ref s.heap.objs.size)
      repeat (any_goals (first | assumption | wp_step))
      refine codeAny_mono (codeAny_call_builtin (R := wants (fun r s₂ => r = .none ∧ ∃ h' tk, s₂ = { s with heap := h', toks := tk } ∧
          h'.SetOf (mixKind prog w) s.heap.objs.size (hasK (setK ks)) (setK ks).length ∧
          (∀ b o, b < s.heap.objs.size → s.heap.get? b = some o → h'.get? b = some o)) E) PySem.F.called_set.init.plain PySem.F.entry_set_init (check_set_init_1 isSet ?_)) fun r₂ s₂ hr₂ => ?_
      · obtain ⟨⟨oc, od, ob, osl⟩, hol, hcl, nl, hdl⟩ := hl
        simp only at hcl hdl
        subst hcl; subst hdl
        have hol' : (s.heap.push (emptySet led)).get? l = some { cls := .type "tuple", dict := od, data := .seq items nl, slots := osl } := Heap.get?_push_of_some _ hol
        have k1 := PySem.F.sub_tuple_set
        have k2 := PySem.F.sub_tuple_frozenset
        have k3 : (Value.type "tuple" == Value.type "dict") = false := by decide
        have isl : (s.heap.push (emptySet led)).IsTuple l items := ⟨_, hol', rfl, nl, rfl⟩
        unfold Builtin.«set.__init__» noKeywords Builtin.Frozenset.updateFrom
        generalize hPI : pyIter = PI
        wp_walk
        subst hPI
        refine wpAny_pyIter_tuple isl ?_
        refine wpAny_bind (wpAny_runValue ?_)
        have hlS : l < s.heap.objs.size := Heap.lt_size hol
        have hh3 : A.in1.in1.in1.handled = none := by simp [hh]
        have apart : l ≠ (s.heap.push (emptySet led)).objs.size := by
          rw [Heap.size_push]; exact Nat.ne_of_lt (Nat.lt_succ_of_lt hlS)
        have hSf : s.heap.objs.size ∉ [(s.heap.push (emptySet led)).objs.size, l] := by
          rw [Heap.size_push]; simp only [List.mem_cons, List.mem_singleton, List.not_mem_nil, or_false, not_or]
          exact ⟨Nat.ne_of_lt (Nat.lt_succ_self _), Nat.ne_of_gt hlS⟩
        refine set_loop ((Walks.tuple hh3 _ l apart items).toS) s.heap.objs.size hSf ks hlen hsmall (fun i v hv => hi i v hv) (items.size - 0) 0 _ (by omega) (Nat.zero_le _)
          ⟨⟨_, Heap.get?_push_size _ rfl, rfl, rfl⟩, (isl.push _)⟩ ?first ?last
        case first =>
          have got : ((s.heap.push (emptySet led)).push { cls := .type "tuple_iterator", data := .fields #[.ref l, .int 0 0] }).get? s.heap.objs.size = some (emptySet led) := Heap.get?_push_of_some _ here
          have e2 : hasK (setK (ks.take 0)) = fun _ => false := rfl
          rw [e2]
          exact ⟨_, #[], 0, _, got, ⟨rfl, rfl, rfl⟩, rfl, (fun e he => by simp at he), (fun k => by simp), (by decide), (by rfl), rfl⟩
        case last =>
          intro s' hm hset
          obtain ⟨h', g', d', tk', os'⟩ := s'
          have eg : g' = s.gens := hm.gens
          have ed : d' = s.drawn := hm.drawn
          have eo : os' = s.os := hm.os
          subst eg; subst ed; subst eo
          show wpAny _ _ _ _ _ _
          refine wpAny_pure ?_
          show wpAny _ _ (ret Value.none) _ _ _
          refine wpAny_pure ⟨rfl, h', tk', rfl, hset, fun b o hb e => ?_⟩
          have b1 : b ≠ s.heap.objs.size := Nat.ne_of_lt hb
          have b2 : b ≠ (s.heap.push (emptySet led)).objs.size := by
            rw [Heap.size_push]; exact Nat.ne_of_lt (Nat.lt_succ_of_lt hb)
          exact hm.heap b o (by simp only [List.mem_cons, List.mem_singleton, List.not_mem_nil, or_false, not_or]; exact ⟨b1, b2⟩) (Heap.get?_push_of_some _ (Heap.get?_push_of_some _ e))
      · cases r₂ with
        | error e => exact hr₂
        | ok fl₂ =>
          cases fl₂ with
          | ret r =>
            obtain ⟨rfl, h', tk, rfl, hset, hk'⟩ := hr₂
            repeat (any_goals (first | assumption | wp_step))
            exact h _ _ hset hk'
          | _ => exact hr₂.elim
    | _ => exact hr.elim
end
end NF

set_option maxHeartbeats 1000000
/-! NFRm: xs.remove(x), whatever x is. -/
namespace NF
open PySem PySem.Spec PyProof.Rows L2
open AutoSeq1 (wpAny_loadPart')
open MeetsSeq MeetsSeq2 MeetsSeq3 SeqRoads2
theorem remove_loopAt (l : Addr) (items : Array Value) (n : Nat) (x : Value) (e : Value → Bool) (j : Nat) (hj : j < items.size) (hit : e items[j] = true) (k : Nat) (hs1 : items.size ≤ sizeLine) :
    ∀ i : Nat, j - i = k → i ≤ j → (∀ m (hm : m < items.size), i ≤ m → m < j → e items[m] = false) → Meets (Builtin.«list.remove.loop» ⟨[.ref l, x, rawInt i], []⟩)
      (fun A R s => s.heap.get? l = some { cls := .type "list", dict := none, data := .seq items n, slots := #[] } ∧ (∀ m (hm : m < items.size), m ≤ j → SeqAt.EqAt A.in1 s items[m] x (e items[m])) ∧ R (.ok (.ret .none)) { s with heap := s.heap.update l (Obj.mapSeq fun xs => xs.eraseIdxIfInBounds j) }) := by
  induction k with
  | zero =>
    intro i hk hij hno prog w A R s h
    obtain ⟨hp, g, d, tk, os⟩ := s; obtain ⟨hl, he, h⟩ := h
    have hij' : i = j := by omega
    subst hij'
    wp_walk using wpAny_loadPart' hl
    have hi : items[((i : Nat) : Int).toNat]? = some items[i] := by simp [hj]
    rw [hi]
    refine wpAny_bind (he i hj (Nat.le_refl _) prog w _ _ ?_)
    rw [hit]
    have hz' : (items.eraseIdxIfInBounds i).size ≤ sizeLine + 1 := Nat.le_trans (size_erased items _) (Nat.le_succ_of_le hs1)
    wp_walk using (wpAny_updateSeq hl rfl (hz := hs1) (_hz' := hz')), wpAny_loadPart' hl
    simpa using h
  | succ k ih =>
    intro i hk hij hno prog w A R s h
    obtain ⟨hp, g, d, tk, os⟩ := s; obtain ⟨hl, he, h⟩ := h
    have hlt : i < items.size := by omega
    wp_walk using wpAny_loadPart' hl
    have hi : items[((i : Nat) : Int).toNat]? = some items[i] := by simp [hlt]
    have hc : ((i : Int) + 1) = ((i + 1 : Nat) : Int) := by push_cast; rfl
    rw [hi]
    refine wpAny_bind (he i hlt (by omega) prog w _ _ ?_)
    rw [hno i hlt (Nat.le_refl _) (by omega)]
    wp_walk
    rw [hc]
    exact ⟨plainId_quiet plain_remove_loop _, codeAny_builtin entry_remove_loop (by
      rw [Around.under_plainId plain_remove_loop _]
      exact ih (i + 1) (by omega) (by omega) (fun m hm h1 h2 => hno m hm (by omega) h2) prog w A R _ ⟨hl, he, h⟩)⟩
theorem list_removeAt (l : Addr) (items : Array Value) (n : Nat) (x : Value) (e : Value → Bool) (j : Nat) (hj : j < items.size)
    (hit : e items[j] = true) (hno : ∀ m (hm : m < items.size), m < j → e items[m] = false) (hs1 : items.size ≤ sizeLine) :
    Meets (Builtin.«list.remove» ⟨[.ref l, x], []⟩)
      (fun A R s => s.heap.get? l = some { cls := .type "list", dict := none, data := .seq items n, slots := #[] } ∧ (∀ m (hm : m < items.size), m ≤ j → SeqAt.EqAt A.in1 s items[m] x (e items[m])) ∧ R (.ok (.ret .none)) { s with heap := s.heap.update l (Obj.mapSeq fun xs => xs.eraseIdxIfInBounds j) }) := by
  intro prog w A R s h
  obtain ⟨hp, g, d, tk, os⟩ := s; obtain ⟨hl, he, h⟩ := h
  wp_walk using wpAny_loadPart' hl
  exact ⟨plainId_quiet plain_remove_loop _, codeAny_builtin entry_remove_loop (by
    rw [Around.under_plainId plain_remove_loop _]
    exact remove_loopAt l items n x e j hj hit _ hs1 0 rfl (Nat.zero_le _) (fun m hm _ h2 => hno m hm h2) prog w A R _ ⟨hl, he, h⟩)⟩
theorem find_at {f : D → D → Option Bool} {x : D} : ∀ {xs : List D} {k : Nat}, findEq f x xs = some k → (∃ y, xs[k]? = some y ∧ f y x = some true) ∧ ∀ (m : Nat) (y : D), m < k → xs[m]? = some y → f y x = some false
  | [], k, h => by cases h
  | y :: ys, k, h => by
    unfold findEq at h
    split at h
    · rename_i e
      cases h
      exact ⟨⟨y, rfl, e⟩, fun m z hm => absurd hm (Nat.not_lt_zero _)⟩
    · rename_i e
      rw [Option.map_eq_some_iff] at h
      obtain ⟨k', hk, rfl⟩ := h
      obtain ⟨h1, h2⟩ := find_at hk
      refine ⟨by simpa using h1, fun m z hm hz => ?_⟩
      cases m with
      | zero => simp at hz; subst hz; exact e
      | succ m => exact h2 m z (by omega) (by simpa using hz)
    · cases h
end NF

/-! NFSort: texts in a row. -/
namespace NF
open PySem PySem.Spec PyProof.Rows
theorem leT_iff {a b : List Nat} : leT a b = true ↔ a ≤ b := by
  unfold leT
  rw [Bool.not_eq_true', decide_eq_false_iff_not, List.not_lt]
theorem leT_trans (a b c : List Nat) (h1 : leT a b = true) (h2 : leT b c = true) : leT a c = true := leT_iff.mpr (List.le_trans (leT_iff.mp h1) (leT_iff.mp h2))
theorem leT_total (a b : List Nat) : (leT a b || leT b a) = true := by
  rw [Bool.or_eq_true, leT_iff, leT_iff]
  exact List.le_total a b
theorem leT_anti {a b : List Nat} (h1 : leT a b = true) (h2 : leT b a = true) : a = b := List.le_antisymm (leT_iff.mp h1) (leT_iff.mp h2)
theorem sortT_pair (ts : List (List Nat)) : (sortT ts).Pairwise (fun a b => leT a b = true) := List.pairwise_mergeSort leT_trans leT_total ts
theorem sortT_perm (ts : List (List Nat)) : (sortT ts).Perm ts := List.mergeSort_perm ts leT
theorem rising_pair : ∀ (l : List Str) (p : Str), risingS p l = true → (∀ x ∈ l, leT p.cps.toList x.cps.toList = true) ∧ l.Pairwise (fun a b => leT a.cps.toList b.cps.toList = true)
  | [], p, _ => ⟨fun x hx => (by cases hx), List.Pairwise.nil⟩
  | y :: l, p, h => by
    simp only [risingS, Bool.and_eq_true] at h
    obtain ⟨h1, h2⟩ := h
    have h1 : leT p.cps.toList y.cps.toList = true := by
      unfold leT
      rw [← ltCps_eq]; exact h1
    obtain ⟨i1, i2⟩ := rising_pair l y h2
    refine ⟨fun x hx => ?_, List.pairwise_cons.mpr ⟨i1, i2⟩⟩
    rcases List.mem_cons.mp hx with rfl | hx
    · exact h1
    · exact leT_trans _ _ _ h1 (i1 x hx)
theorem sortedS_pair : ∀ (l : List Str), sortedS l = true → l.Pairwise (fun a b => leT a.cps.toList b.cps.toList = true)
  | [], _ => List.Pairwise.nil
  | y :: l, h => List.pairwise_cons.mpr (rising_pair l y h)
theorem sorted_one {ys : List Str} {ts : List (List Nat)} (hp : ys.Perm (ts.map fun t => (⟨t.toArray⟩ : Str))) (hs : sortedS ys = true) : ys = (sortT ts).map fun t => (⟨t.toArray⟩ : Str) := by
  have h1 : (ys.map fun y => y.cps.toList).Perm ts := by
    have := hp.map fun y => y.cps.toList
    simpa [List.map_map, Function.comp_def] using this
  have h2 : (ys.map fun y => y.cps.toList).Pairwise (fun a b => leT a b = true) := by
    rw [List.pairwise_map]
    exact sortedS_pair ys hs
  have h3 := List.Perm.eq_of_pairwise (le := fun a b => leT a b = true) (fun a b _ _ => leT_anti) h2 (sortT_pair ts) (h1.trans (sortT_perm ts).symm)
  rw [← h3, List.map_map]
  symm
  rw [List.map_congr_left (g := id)]
  · simp
  · intro y _; simp
end NF

/-! NFPrim5: built-in functions and methods. -/
namespace NF
open PySem PySem.Spec PyProof.Rows L2
section
variable {G : Gc} {n : Nat} {X : Cx} {ρ : List Addr} {S : Store} {H : Hp} {Q : VK} {x y : V} {dx dy : D} {pins : List (Addr × Obj)} {σ : L2.St} {s : Shared}

theorem ty_of (cb : Cb G n X) (R : RelS G ρ S H) {d : D} {v : V} {t : String} (hv : VR G ρ H d v) (h : tyName S d = some t) : TyX X.K H v (.type t) := by
  cases hv with
  | non => cases h; exact .base .non
  | bl b => cases h; exact .base (.bl b)
  | int b => cases h; exact .base (.int b)
  | str b => cases h; exact .base (.str _)
  | tup q r =>
    cases h
    rcases q with q | ⟨o, its, k, q, c, _⟩
    · exact .base (.tup q)
    · exact .kTuple (cb.K ▸ q) c
  | cl q r =>
    cases h
    rcases q with ⟨o, q⟩ | ⟨o, its, k, q, c, _⟩
    · exact .base (.frz q)
    · exact .kList (cb.K ▸ q) c
  | ref hk =>
    simp only [tyName] at h
    split at h
    · rename_i ys e
      cases h
      have o := R.obj _ _ _ hk e
      cases o with
      | lst q r => exact .base (.lst q)
    · rename_i ys e
      cases h
      have o := R.obj _ _ _ hk e
      cases o with
      | dict q r => exact .base (.dK q)
    · rename_i ys e
      cases h
      have o := R.obj _ _ _ hk e
      cases o with
      | ldict q r => exact .fDict q
    · cases h
  | fn _ => cases h
  | ty _ => cases h
theorem tyName_mem {d : D} {a : String} (h : tyName S d = some a) : a ∈ ["NoneType", "bool", "int", "str", "tuple", "list", "dict"] := by
  unfold tyName at h
  split at h
  case h_7 => split at h <;> first | (cases h; decide) | cases h
  all_goals first | (cases h; decide) | cases h
theorem inst_ty {d : D} {t : String} {b : Bool} (h : isInst S d t = some b) : ∃ a, tyName S d = some a ∧ kitB a t = some b := by
  have k : ∀ a ∈ ["NoneType", "bool", "int", "str", "tuple", "list", "dict"], ∀ b ∈ ["bool", "int", "str", "tuple", "list", "dict"], kitB a b = some (instB a b) := by
    decide +kernel
  unfold isInst at h
  split at h
  · rename_i a e
    split at h
    · rename_i ht
      cases h
      exact ⟨a, e, k a (tyName_mem e) t (by simpa using ht)⟩
    · cases h
  · cases h

/-! ### built-in functions -/
def biV : BI → Value
  | .len => .builtin "len"
  | .isinst => .builtin "isinstance"
  | .max2 => .builtin "max"
  | .min2 => .builtin "min"
  | .all => .builtin "all"
  | .any => .builtin "any"
  | .tuple => .type "tuple"
  | .list => .type "list"
  | .str => .type "str"
  | .int => .type "int"
  | .set => .type "set"
  | .abs => .builtin "abs"
  | .sum => .builtin "sum"
  | .sorted => .builtin "sorted"
  | .dict => .type "dict"
  | .maxl => .builtin "max"
  | .minl => .builtin "min"
  | .repr => .builtin "repr"
theorem bools_of {xs : List D} : ∀ {vs : List V} {bs : List Bool}, VRs G ρ H xs vs → boolsD xs = some bs → vs = bs.map V.bl := by
  induction xs with
  | nil => intro vs bs r h; cases r; cases h; rfl
  | cons x xs ih =>
    intro vs bs r h
    cases r with
    | cons hx r =>
      cases x with
      | bl b =>
        simp only [boolsD, Option.map_eq_some_iff] at h
        obtain ⟨cs, hc, rfl⟩ := h
        cases hx
        rw [ih r hc]; rfl
      | _ => cases h
theorem ints_of {xs : List D} : ∀ {vs : List V} {bs : List Int}, VRs G ρ H xs vs → intsD xs = some bs → vs = bs.map V.int := by
  induction xs with
  | nil => intro vs bs r h; cases r; cases h; rfl
  | cons x xs ih =>
    intro vs bs r h
    cases r with
    | cons hx r =>
      cases x with
      | int b =>
        simp only [intsD, Option.map_eq_some_iff] at h
        obtain ⟨cs, hc, rfl⟩ := h
        cases hx
        rw [ih r hc]; rfl
      | _ => cases h
theorem texts_of {xs : List D} : ∀ {vs : List V} {bs : List (List Nat)}, VRs G ρ H xs vs → textsD xs = some bs → vs = (bs.map fun b => (⟨b.toArray⟩ : Str)).map V.str := by
  induction xs with
  | nil => intro vs bs r h; cases r; cases h; rfl
  | cons x xs ih =>
    intro vs bs r h
    cases r with
    | cons hx r =>
      cases x with
      | str b =>
        simp only [textsD, Option.map_eq_some_iff] at h
        obtain ⟨cs, hc, rfl⟩ := h
        cases hx
        rw [ih r hc]; rfl
      | _ => cases h
theorem keys_of {xs : List D} : ∀ {vs : List V}, VRs G ρ H xs vs → xs.all D.isKey = true → ∃ ks : List Key, xs = ks.map keyD ∧ vs = ks.map kV := by
  induction xs with
  | nil => intro vs r h; cases r; exact ⟨[], rfl, rfl⟩
  | cons x xs ih =>
    intro vs r h
    cases r with
    | cons hx r =>
      rw [List.all_cons, Bool.and_eq_true] at h
      obtain ⟨k, rfl, rfl⟩ := key_of h.1 hx
      obtain ⟨ks, rfl, rfl⟩ := ih r h.2
      exact ⟨k :: ks, rfl, rfl⟩
theorem VRs.one {ds : D} {vs : List V} (r : VRs G ρ H [ds] vs) : ∃ v, vs = [v] ∧ VR G ρ H ds v := by
  cases r with
  | cons h r => cases r; exact ⟨_, rfl, h⟩
theorem VRs.two {d e : D} {vs : List V} (r : VRs G ρ H [d, e] vs) : ∃ v u, vs = [v, u] ∧ VR G ρ H d v ∧ VR G ρ H e u := by
  cases r with
  | cons h r => obtain ⟨u, rfl, h2⟩ := r.one; exact ⟨_, _, rfl, h, h2⟩
theorem kV_scan {k : Key} {u : Value} (r : RelV (kV k) u) : u.scannable = true := key_scan r
theorem set_items {ks : List Key} {its : List Value} (rv : Vals (ks.map kV) its) : ∀ (i : Nat) (v : Value), its.toArray[i]? = some v → keyIs (ks.getD i (.inl 0)) v = true ∧ v.scannable = true := by
  intro i v h
  have hi : its[i]? = some v := by simpa using h
  have hl := rv.length
  rw [List.length_map] at hl
  have hlt : i < ks.length := by rw [hl]; exact (List.getElem?_eq_some_iff.mp hi).1
  obtain ⟨u, hu, ru⟩ := rv.get (i := i) (x := kV ks[i]) (by rw [List.getElem?_map, List.getElem?_eq_getElem hlt]; rfl)
  rw [hu] at hi; cases hi
  have e : ks.getD i (.inl 0) = ks[i] := by rw [List.getD_eq_getElem?_getD, List.getElem?_eq_getElem hlt]; rfl
  rw [e]
  refine ⟨?_, key_scan ru⟩
  cases hk : ks[i] with
  | inl j => rw [hk] at ru; obtain ⟨t, rfl⟩ := ru; exact keyIs_int j t
  | inr j => rw [hk] at ru; obtain ⟨t, rfl⟩ := ru; exact keyIs_str j t
theorem set_call (cb : Cb G n X) (R : RelS G ρ S H) {a : Addr} {ks : List Key} (q : SqL G.K H a (ks.map kV) ∨ SqT G.K H a (ks.map kV)) (hs : ks.length + 1 < 4096)
    (h : MtV G ρ S H (.ok (.ref S.length) (S ++ [.set ((setK ks).map keyD)]) none) Q) : tCS X (.type "set") [.ref a] H Q := by
  intro pins s σ us I rv
  obtain ⟨u, rfl, ru⟩ := vals1 rv
  cases ru
  have fin : ∀ (h' : Heap) (tk : Nat), h'.SetOf (mixKind X.prog X.w) s.heap.objs.size (hasK (setK ks)) (setK ks).length →
      (∀ b o, b < s.heap.objs.size → s.heap.get? b = some o → h'.get? b = some o) → EP X pins σ Q (.ref s.heap.objs.size) { s with heap := h', toks := tk } := by
    intro h' tk hset keep
    have hp : H s.heap.objs.size = none := I.hok.fresh (Nat.le_refl _)
    refine ⟨.ref s.heap.objs.size, upd H s.heap.objs.size (SetK X.prog X.w s.heap.objs.size (hasK (setK ks)) (setK ks).length), I.laid (t' := tk) (fun b u e => keep b u (Heap.lt_size e) e) (Nat.le_refl _) (setK_new hset), rfl, ?_⟩
    have hpre : ρ <+: ρ ++ [s.heap.objs.size] := ⟨[s.heap.objs.size], rfl⟩
    refine h (ρ ++ [s.heap.objs.size]) _ (R.push hp ?_) ⟨hpre, Keep.new hp, MonoS.push _ _, rest_push hp⟩ _ (.ref ?_)
    · refine .set ?_
      rw [upd_same, cb.prog, cb.w]
    · rw [List.getElem?_append_right (by rw [R.len]; exact Nat.le_refl _), R.len]
      simp
  rcases q with q | q
  · obtain ⟨its, r, p, hz⟩ := I.list (cb.K ▸ q)
    have hl := r.length
    rw [List.length_map] at hl
    exact call_set_list cb.rm.hd p.isList (ks := ks) (by simpa using hl) (set_items r) (by rw [List.size_toArray]; unfold scanBound; omega) fin
  · obtain ⟨its, r, p, hz⟩ := I.tuple (cb.K ▸ q)
    have hl := r.length
    rw [List.length_map] at hl
    exact call_set_tuple cb.rm.hd p (ks := ks) (by simpa using hl) (set_items r) (by rw [List.size_toArray]; unfold scanBound; omega) fin
theorem len_set (cb : Cb G n X) {a : Addr} {ks : List Key} (q : H a = some (SetK G.prog G.w a (hasK ks) ks.length)) (h : Q (.int ks.length) H) : tCS X (.builtin "len") [.ref a] H Q := by
  intro pins s σ us I rv
  obtain ⟨u, rfl, ru⟩ := vals1 rv
  cases ru
  rw [← cb.prog, ← cb.w] at q
  obtain ⟨o, es, ep, t, ho, hex, hd, _, _, small, hf, hn⟩ := setK_get I q
  have e0 : scanBound = 4096 := rfl
  exact call_len_set ho hex hd hf (by omega) ⟨.int ks.length, H, I.tok _, ⟨_, by rw [hn]⟩, h⟩

theorem KRs.length : ∀ {ds : List (D × D)} {vs : List (Key × V)}, KRs G ρ H ds vs → ds.length = vs.length
  | _, _, .nil => rfl
  | _, _, .cons _ r => by rw [List.length_cons, List.length_cons, KRs.length r]
theorem dict1_of (R : RelS G ρ S H) {d : D} {v : V} {kvs : List (D × D)} (hv : VR G ρ H d v) (h : d.dict1? S = some kvs) :
    ∃ a vs, v = .ref a ∧ H a = some (.dK vs) ∧ KRs G ρ H kvs vs := by
  cases hv with
  | ref hk =>
    unfold D.dict1? at h
    simp only at h
    split at h
    · rename_i ys e
      cases h
      have o := R.obj _ _ _ hk e
      cases o with
      | dict q r => exact ⟨_, _, rfl, q, r⟩
    · cases h
  | _ => cases h
theorem join_glue (sep : List Nat) : ∀ (ts : List (List Nat)) (acc : List Nat), (ts.map fun b => (⟨b.toArray⟩ : Str)).foldl (fun acc p => acc ++ (⟨sep.toArray⟩ : Str).cps ++ p.cps) acc.toArray = (acc ++ (ts.map fun b => sep ++ b).flatten).toArray
  | [], acc => by simp
  | t :: ts, acc => by
    simp only [List.map_cons, List.foldl_cons]
    have e : acc.toArray ++ (⟨sep.toArray⟩ : Str).cps ++ (⟨t.toArray⟩ : Str).cps = (acc ++ (sep ++ t)).toArray := by simp
    rw [e, join_glue sep ts]
    simp
theorem joinT_eq (sep : List Nat) : ∀ (t : List Nat) (ts : List (List Nat)), joinT sep (t :: ts) = t ++ (ts.map fun b => sep ++ b).flatten
  | t, [] => by simp [joinT]
  | t, u :: ts => by
    rw [joinT, joinT_eq sep u ts]
    · simp
    · simp
theorem join_eq (sep : List Nat) : ∀ ts : List (List Nat), Txt.join ⟨sep.toArray⟩ (ts.map fun b => (⟨b.toArray⟩ : Str)) = ⟨(joinT sep ts).toArray⟩
  | [] => rfl
  | t :: ts => by
    show (⟨_⟩ : Str) = _
    congr 1
    show ((ts.map fun b => (⟨b.toArray⟩ : Str)).foldl (fun acc p => acc ++ (⟨sep.toArray⟩ : Str).cps ++ p.cps) (⟨t.toArray⟩ : Str).cps) = _
    rw [joinT_eq]
    exact join_glue sep ts t
theorem cr_sortedSA {X : Cx} : CallR X (.builtin "sorted") (fun vs H Q => ∃ (a : Addr) (xs : List Str), vs = [V.ref a] ∧ SqL X.K H a (xs.map V.str) ∧ ∀ (ys : List Str) (p : Addr), ys.Perm xs → sortedS ys = true → H p = none → Q (.ref p) (upd H p (.lst (ys.map V.str)))) := by
  intro pins s σ H vs us Q I r h
  obtain ⟨a, xs, rfl, hs, q⟩ := h
  obtain ⟨its, rv, hl, hz⟩ := I.list hs
  rw [Vals.ref1 r]
  have hlen0 := rv.length
  rw [List.length_map] at hlen0 hz
  refine PyProof.Rows.sorted_strsAny hl.isList rv.strs (by rw [← hlen0]; exact hz) fun out ys h1 h2 h3 => ?_
  obtain ⟨ep, he'⟩ := PyProof.Rows.sortedAll_at s.heap its out
  have hlen : (ys.map V.str).length ≤ sizeLine := by rw [List.length_map, h2.length_eq]; exact hz
  exact ⟨.ref _, upd H (s.heap.objs.size + 1) (.lst (ys.map V.str)), I.laid (t' := s.toks) (fun _ _ => PyProof.Rows.sortedAll_old) (Nat.le_succ _) ⟨hlen, out.toList, ep, vals_of_strs h1, he'⟩, rfl, q ys _ h2 h3 (I.hok.fresh (Nat.le_succ _))⟩
theorem call_sortedDA {X : Cx} (hcalm : X.calm = true) : CallR X (.builtin "sorted") (fun xs H Q => ∃ (a : Addr) (kvs : List (Key × V)) (ks : List Str), xs = [.ref a] ∧ Rd H a (.dK kvs) ∧ kvs.map (·.1) = ks.map Sum.inr ∧
    ∀ ys p, ys.Perm ks → sortedS ys = true → H p = none → Q (.ref p) (upd H p (.lst (ys.map V.str)))) := by
  intro pins s σ H xs us Q I r q
  obtain ⟨a, kvs, ks, ex, hd, hks, q⟩ := q
  subst ex
  obtain ⟨u, eu, rx⟩ := vals1 r
  subst eu
  cases rx
  obtain ⟨z, lo, vs, rel, dd⟩ := dk_rd I.hok hd
  obtain ⟨ep, hat⟩ := dd.dictAt
  have hkeys : vs.map (·.1) = ks.map Sum.inr := rel.keys.symm.trans hks
  have hl : vs.length = ks.length := by
    have e := congrArg List.length hkeys
    rw [List.length_map, List.length_map] at e
    exact e
  have h16 : vs.length ≤ sizeLine := by rw [← rel.length]; exact z
  have hk16 : ks.length ≤ sizeLine := by rw [← hl]; exact h16
  refine Calls.call_function_entry PyProof.Rows.kind_sorted PyProof.Rows.plain_sorted PyProof.Rows.entry_sorted (PyProof.Rows.args_sorted1 _) ?_
  unfold Builtin.«sorted»
  refine wpAny_bind (m := checkCount "sorted" 1 1 _) (wpAny_pure ?_)
  refine wpAny_bind (PySem.W.kdu_collect (A := X.A.in1) (PySem.W.kdl_dict (knd := mixKind X.prog X.w) (kvs := vs) (ep := ep) lo) (I.ok.hd hcalm) hat h16 fun h' tk acc hk hacc => ?_)
  have hal : acc.toList.length = ks.length := by rw [Array.length_toList, hacc.1, hl]
  have hS : StrsAre acc.toList ks := strs_at hal fun j v e => by
    obtain ⟨k, x, e1, e2⟩ := hacc.2 j v (by rw [← Array.getElem?_toList]; exact e)
    have e3 : (vs.map (·.1))[j]? = some k := by rw [List.getElem?_map, e1]; all_goals rfl
    rw [hkeys, List.getElem?_map] at e3
    cases e4 : ks[j]? with
    | none => rw [e4] at e3; cases e3
    | some y =>
      rw [e4] at e3
      have e5 : Sum.inr y = k := Option.some.inj e3
      subst e5
      obtain ⟨t, ev⟩ := Value.isStrOf_shape (x := y) (v := v) e2
      exact ⟨y, t, rfl, ev⟩
  have I1 : Inv X pins σ H { s with heap := h', toks := tk } := I.kept hk
  refine wpAny_bind (wpAny_newList ?_ (by rw [hal]; exact hk16))
  have hoL : (h'.push (seqObj "list" acc.toList.toArray 0)).get? h'.objs.size = some (seqObj "list" acc.toList.toArray 0) := Heap.get?_push_size _ rfl
  show wpAny _ _ _ _ _ { s with heap := h'.push (seqObj "list" acc.toList.toArray 0), toks := tk }
  refine wpAny_bind (wpAny_holding (wpAny_call_entry PyProof.Rows.slot_list_sort ⟨_, hoL, rfl⟩ PyProof.Rows.entry_list_sort
    (list_sort_treeKAny strKind_oneLt (s := { s with heap := h'.push (seqObj "list" acc.toList.toArray 0), toks := tk }) hoL hS.keysOf (fun v₁ v₂ rest e => keyKind_strs (by rw [← e]; exact hS)) (by rw [hal]; exact hk16) fun st' hp hs => ⟨_, rfl, ?_⟩)
    (PyProof.Rows.args_list_sort _)))
  obtain ⟨ys, g1, g2, g3⟩ := sorted_out_str hS hp hs
  obtain ⟨e', he'⟩ := PyProof.Rows.sortedHeap_at (vs := acc.toList) (out := (arrOf st').map (·.2)) hoL
  have hlen : (ys.map V.str).length ≤ sizeLine := by
    rw [List.length_map, g2.length_eq]
    exact hk16
  refine wpAny_pure ⟨_, rfl, .ref h'.objs.size, upd H h'.objs.size (.lst (ys.map V.str)), I1.laid (t' := tk) (fun b u e => ?_) (Nat.le_refl _)
    (show ObjOk X.prog X.w _ _ _ (.lst (ys.map V.str)) from ⟨hlen, ((arrOf st').map (·.2)).toList, e', vals_of_strs g1, by rw [Array.toArray_toList]; exact he'⟩), rfl, q ys _ g2 g3 (I1.hok.fresh (Nat.le_refl _))⟩
  have hb : b < h'.objs.size := Heap.lt_size e
  rw [PyProof.Rows.sortedHeap_old (Nat.ne_of_lt hb) (by rw [size_push']; exact Nat.lt_succ_of_lt hb)]
  exact Heap.get?_push_of_some _ e
theorem strs_rel {G : Gc} {ρ : List Addr} {H : Hp} : ∀ L : List (List Nat), VRs G ρ H (L.map D.str) ((L.map fun t => (⟨t.toArray⟩ : Str)).map V.str)
  | [] => .nil
  | t :: L => .cons (.str t) (strs_rel L)
theorem keys_texts {G : Gc} {ρ : List Addr} {H : Hp} : ∀ {ds : List (D × D)} {vs : List (Key × V)} {ts : List (List Nat)}, KRs G ρ H ds vs → textsD (ds.map (·.1)) = some ts → vs.map (·.1) = (ts.map fun t => (⟨t.toArray⟩ : Str)).map Sum.inr
  | _, _, ts, .nil, h => by cases h; rfl
  | _, _, ts, @KRs.cons _ _ _ k d v ds vs hv r, h => by
    cases k with
    | inl i => cases h
    | inr x =>
      simp only [List.map_cons, keyD, textsD, Option.map_eq_some_iff] at h
      obtain ⟨t, ht, rfl⟩ := h
      simp [keys_texts r ht]
theorem bi_snd (cb : Cb G n X) (R : RelS G ρ S H) (b : BI) {ds : List D} {vs : List V} (hx : VRs G ρ H ds vs) (h : MtV G ρ S H (biEv b ds S) Q) : tCS X (biV b) vs H Q := by
  cases b with
  | len =>
    cases hx with
    | nil => exact h.elim
    | cons h1 r =>
      cases r with
      | cons h2 r2 => cases h1 <;> exact h.elim
      | nil =>
        rename_i d v
        have gen : MtV G ρ S H (match d.dict1? S with
            | some kvs => .ok (.int kvs.length) S none
            | none => (match d.seq? S with
              | some ys => .ok (.int ys.length) S none
              | none => match d.set? S with
                | some ks => .ok (.int ks.length) S none
                | none => .stuck)) Q → tCS X (biV .len) [v] H Q := by
          intro h
          split at h
          · rename_i kvs e
            obtain ⟨a, ws, rfl, q, r⟩ := dict1_of R h1 e
            have fin := MtV.same h R (.int _)
            rw [r.length] at fin
            exact .of call_lenD ⟨a, ws, rfl, q, fin⟩
          · split at h
            · rename_i ys e
              obtain ⟨a, ws, rfl, q, r⟩ := seq_of R h1 e
              have fin := MtV.same h R (.int _)
              rw [r.length] at fin
              exact .of call_len_seq ⟨a, ws, rfl, cb.K ▸ q, fin⟩
            · split at h
              · rename_i ks e
                obtain ⟨a, ms, rfl, q, rfl⟩ := set_of R h1 e
                have fin := MtV.same h R (.int _)
                rw [List.length_map] at fin
                exact len_set cb q fin
              · exact h.elim
        cases h1 with
        | str c =>
          obtain ⟨hz, h⟩ := guardM h
          exact .of call_len_str ⟨_, rfl, by rw [str_len]; exact hz, by rw [str_len]; exact MtV.same h R (.int _)⟩
        | non => exact gen h
        | bl _ => exact gen h
        | int _ => exact gen h
        | tup _ _ => exact gen h
        | cl _ _ => exact gen h
        | ref _ => exact gen h
        | fn _ => exact gen h
        | ty _ => exact gen h
  | isinst =>
    cases hx with
    | nil => exact h.elim
    | cons h1 r =>
      cases r with
      | nil => exact h.elim
      | cons h2 r2 =>
        cases r2 with
        | cons h3 r3 => cases h2 <;> exact h.elim
        | nil =>
          cases h2 with
          | ty t =>
            have h : MtV G ρ S H (match isInst S _ t with
              | some r => .ok (.bl r) S none
              | none => .stuck) Q := h
            split at h
            · rename_i b eb
              obtain ⟨a, ea, ek⟩ := inst_ty eb
              exact .of call_isi ⟨_, _, _, _, b, rfl, .ty t, ty_of cb R h1 ea, kit_ty ek, MtV.same h R (.bl _)⟩
            · exact h.elim
          | _ => exact h.elim
  | max2 =>
    cases hx with
    | nil => exact h.elim
    | cons h1 r =>
      cases r with
      | nil => cases h1 <;> exact h.elim
      | cons h2 r2 =>
        cases r2 with
        | cons h3 r3 => cases h1 <;> cases h2 <;> exact h.elim
        | nil =>
          cases h1 with
          | int i => cases h2 with
            | int j => exact .of (call_max2 cb.calm) ⟨i, j, rfl, MtV.same h R (.int _)⟩
            | _ => exact h.elim
          | _ => cases h2 <;> exact h.elim
  | min2 =>
    cases hx with
    | nil => exact h.elim
    | cons h1 r =>
      cases r with
      | nil => cases h1 <;> exact h.elim
      | cons h2 r2 =>
        cases r2 with
        | cons h3 r3 => cases h1 <;> cases h2 <;> exact h.elim
        | nil =>
          cases h1 with
          | int i => cases h2 with
            | int j => exact .of (call_min2 cb.calm) ⟨i, j, rfl, MtV.same h R (.int _)⟩
            | _ => exact h.elim
          | _ => cases h2 <;> exact h.elim
  | abs =>
    cases hx with
    | nil => exact h.elim
    | cons h1 r =>
      cases r with
      | cons h2 r2 => cases h1 <;> exact h.elim
      | nil =>
        cases h1 with
        | int i => exact .of call_abs ⟨i, rfl, MtV.same h R (.int _)⟩
        | _ => exact h.elim
  | all =>
    cases hx with
    | nil => exact h.elim
    | cons h1 r =>
      cases r with
      | cons h2 r2 => exact h.elim
      | nil =>
        rename_i d v
        have h : MtV G ρ S H (match (d.lst? S).bind boolsD with
          | some bs => .ok (.bl (bs.all id)) S none
          | none => .stuck) Q := h
        split at h
        · rename_i bs e
          rw [Option.bind_eq_some_iff] at e
          obtain ⟨xs, e1, e2⟩ := e
          obtain ⟨a, ws, rfl, q, r⟩ := lst_of R h1 e1
          rw [bools_of r e2] at q
          exact .of (cr_all cb.calm) ⟨a, bs, rfl, cb.K ▸ q, MtV.same h R (.bl _)⟩
        · exact h.elim
  | any =>
    cases hx with
    | nil => exact h.elim
    | cons h1 r =>
      cases r with
      | cons h2 r2 => exact h.elim
      | nil =>
        rename_i d v
        have h : MtV G ρ S H (match (d.lst? S).bind boolsD with
          | some bs => .ok (.bl (bs.any id)) S none
          | none => .stuck) Q := h
        split at h
        · rename_i bs e
          rw [Option.bind_eq_some_iff] at e
          obtain ⟨xs, e1, e2⟩ := e
          obtain ⟨a, ws, rfl, q, r⟩ := lst_of R h1 e1
          rw [bools_of r e2] at q
          exact .of (cr_any cb.calm) ⟨a, bs, rfl, cb.K ▸ q, MtV.same h R (.bl _)⟩
        · exact h.elim
  | sum =>
    cases hx with
    | nil => exact h.elim
    | cons h1 r =>
      cases r with
      | cons h2 r2 => exact h.elim
      | nil =>
        rename_i d v
        have h : MtV G ρ S H (match (d.lst? S).bind intsD with
          | some bs => .ok (.int bs.sum) S none
          | none => .stuck) Q := h
        split at h
        · rename_i bs e
          rw [Option.bind_eq_some_iff] at e
          obtain ⟨xs, e1, e2⟩ := e
          obtain ⟨a, ws, rfl, q, r⟩ := lst_of R h1 e1
          rw [ints_of r e2] at q
          exact .of (cr_sum cb.calm) ⟨a, bs, rfl, cb.K ▸ q, MtV.same h R (.int _)⟩
        · exact h.elim
  | tuple =>
    cases hx with
    | nil => exact h.elim
    | cons h1 r =>
      cases r with
      | cons h2 r2 => exact h.elim
      | nil =>
        rename_i d v
        have h0 : MtV G ρ S H (match d.seq? S with
          | some ys => .ok (.tup ys) S none
          | none => .stuck) Q := h
        clear h
        cases e : d.seq? S with
        | some ys =>
          rw [e] at h0
          have h : MtV G ρ S H (.ok (.tup ys) S none) Q := h0
          cases h1 with
          | tup q r => cases e; exact .of call_tuple_of ⟨_, _, rfl, .inr ⟨cb.K ▸ q.sq, MtV.same h R (.tup q r)⟩⟩
          | ref q0 =>
            obtain ⟨a, ws, ea, q, r⟩ := lst_of R (.ref q0) (show (D.ref _).lst? S = some ys from e)
            cases ea
            exact .of call_tuple_of ⟨_, _, rfl, .inl ⟨cb.K ▸ q, fun p hp => MtV.newT h R r hp⟩⟩
          | cl q r => cases e; exact .of call_tuple_of ⟨_, _, rfl, .inl ⟨cb.K ▸ q.sq, fun p hp => MtV.newT h R r hp⟩⟩
          | _ => cases e
        | none => rw [e] at h0; exact h0.elim
  | list =>
    cases hx with
    | nil => exact h.elim
    | cons h1 r =>
      cases r with
      | cons h2 r2 => exact h.elim
      | nil =>
        rename_i d v
        have h : MtV G ρ S H (match d.seq? S with
          | some ys => .ok (.ref S.length) (S ++ [.lst ys]) none
          | none => .stuck) Q := h
        split at h
        · rename_i ys e
          obtain ⟨a, ws, rfl, q, r⟩ := seq_of R h1 e
          exact .of call_list_of ⟨_, _, rfl, cb.K ▸ q, fun p hp => MtV.newL h R r hp⟩
        · exact h.elim
  | str =>
    cases hx with
    | nil => exact h.elim
    | cons h1 r =>
      cases r with
      | cons h2 r2 => cases h1 <;> exact h.elim
      | nil =>
        cases h1 with
        | int i =>
          obtain ⟨hz, h⟩ := guardM h
          refine .of call_str_int ⟨i, rfl, hz, ?_⟩
          have e : (Str.ofString (toString i)) = ⟨(digitsOf i).toArray⟩ := by unfold digitsOf; simp
          rw [e]
          exact MtV.same h R (.str _)
        | _ => exact h.elim
  | int =>
    cases hx with
    | nil => exact h.elim
    | cons h1 r =>
      cases r with
      | cons h2 r2 => cases h1 <;> exact h.elim
      | nil =>
        cases h1 with
        | int i => exact .of call_int1 (.inl ⟨i, rfl, MtV.same h R (.int _)⟩)
        | bl k => exact .of call_int1 (.inr ⟨k, rfl, MtV.same h R (.int _)⟩)
        | _ => exact h.elim
  | set =>
    cases hx with
    | nil => exact h.elim
    | cons h1 r =>
      cases r with
      | cons h2 r2 => exact h.elim
      | nil =>
        rename_i d v
        have h : MtV G ρ S H (match d.seq? S with
          | some ks => if ks.all D.isKey = true ∧ ks.length + 1 < 4096 then .ok (.ref S.length) (S ++ [.set (setK ks)]) none else .stuck
          | none => .stuck) Q := h
        split at h
        · rename_i ys e
          obtain ⟨⟨hk, hz⟩, h⟩ := guardM h
          obtain ⟨a, ws, rfl, q, r⟩ := seq_of R h1 e
          obtain ⟨ks, rfl, rfl⟩ := keys_of r hk
          have e2 : setK (ks.map keyD) = (setK ks).map keyD := setK_map ks []
          rw [e2] at h
          exact set_call cb R q (by rw [List.length_map] at hz; exact hz) h
        · exact h.elim
  | sorted =>
    cases hx with
    | nil => exact h.elim
    | cons h1 r =>
      cases r with
      | cons h2 r2 => exact h.elim
      | nil =>
        rename_i d v
        have h : MtV G ρ S H (match d.dict1? S with
          | some kvs => (match textsD (kvs.map (·.1)) with
            | some ts => if ts.length ≤ sizeL then .ok (.ref S.length) (S ++ [.lst ((sortT ts).map .str)]) none else .stuck
            | none => .stuck)
          | none => (match (d.lst? S).bind textsD with
            | some ts => if ts.length ≤ sizeL then .ok (.ref S.length) (S ++ [.lst ((sortT ts).map .str)]) none else .stuck
            | none => .stuck)) Q := h
        split at h
        · rename_i kvs e
          split at h
          case h_2 => exact h.elim
          rename_i ts et
          obtain ⟨hz, h⟩ := guardM h
          obtain ⟨a, ws, rfl, q, r⟩ := dict1_of R h1 e
          refine .of (call_sortedDA cb.calm) ⟨a, ws, _, rfl, .inl q, keys_texts r et, fun ys p hp hs hn => ?_⟩
          rw [sorted_one hp hs]
          exact MtV.newL h R (strs_rel _) hn
        · split at h
          case h_2 => exact h.elim
          rename_i ts et
          obtain ⟨hz, h⟩ := guardM h
          rw [Option.bind_eq_some_iff] at et
          obtain ⟨xs, ex, et⟩ := et
          obtain ⟨a, ws, rfl, q, r⟩ := lst_of R h1 ex
          cases texts_of r et
          refine .of cr_sortedSA ⟨a, _, rfl, cb.K ▸ q, fun ys p hp hs hn => ?_⟩
          rw [sorted_one hp hs]
          exact MtV.newL h R (strs_rel _) hn
  | dict =>
    cases hx with
    | nil => exact h.elim
    | cons h1 r =>
      cases r with
      | cons h2 r2 => exact h.elim
      | nil =>
        rename_i d v
        have h : MtV G ρ S H (match d.dict1? S with
          | some kvs => .ok (.ref S.length) (S ++ [.dict kvs]) none
          | none => .stuck) Q := h
        split at h
        · rename_i kvs e
          obtain ⟨a, ws, rfl, q, r⟩ := dict1_of R h1 e
          refine .of call_dictD ⟨a, ws, rfl, .inl q, fun p hp => ?_⟩
          have hpre : ρ <+: ρ ++ [p] := ⟨[p], rfl⟩
          refine h (ρ ++ [p]) _ (R.push hp (.dict upd_same (r.mono hpre (Keep.new hp)))) ⟨hpre, Keep.new hp, MonoS.push _ _, rest_push hp⟩ _ (.ref ?_)
          rw [List.getElem?_append_right (by rw [R.len]; exact Nat.le_refl _), R.len]
          simp
        · exact h.elim
  | maxl => cases hx with
    | nil => exact h.elim
    | cons h1 r => cases r <;> exact h.elim
  | minl => cases hx with
    | nil => exact h.elim
    | cons h1 r => cases r <;> exact h.elim
  | repr => cases hx with
    | nil => exact h.elim
    | cons h1 r => cases r <;> exact h.elim

/-! ### methods -/
def mtS : MT → String
  | .str => "str"
  | .list => "list"
  | .dict => "dict"
def meName : ME → Str
  | .append => "append"
  | .join => "join"
  | .upper => "upper"
  | .get2 => "get"
  | .get1 => "get"
  | .extend => "extend"
  | .pop0 => "pop"
  | .pop1 => "pop"
  | .insert => "insert"
  | .index => "index"
  | .reverse => "reverse"
  | .remove => "remove"
  | .update => "update"
  | .split => "split"
  | .startswith => "startswith"
theorem me_facts {t : MT} {m : ME} {id : String} (h : meId t m = some id) : PlainAttrs (mtS t) ∧ Slot (mtS t) (meName m) id ∧ typeOf (.builtin id) = pure (.type "method_descriptor") := by
  cases t <;> cases m <;> first
    | (cases h; exact ⟨PySem.F.plainAttrs_list, PySem.F.slot_list_append, PySem.F.type_list_append⟩)
    | (cases h; exact ⟨PySem.F.plainAttrs_str, PySem.F.slot_str_join, PySem.F.type_str_join⟩)
    | (cases h; exact ⟨PySem.F.plainAttrs_str, PySem.F.slot_str_upper, PySem.F.type_str_upper⟩)
    | (cases h; exact ⟨PySem.F.plainAttrs_dict, PySem.F.slot_dict_get, PySem.F.type_dict_get⟩)
    | (cases h; exact ⟨PySem.F.plainAttrs_list, PySem.F.slot_list_remove, PySem.F.type_list_remove⟩)
    | (cases h; exact ⟨PySem.F.plainAttrs_dict, PySem.F.slot_dict_update, PySem.F.type_dict_update⟩)
    | (cases h; exact ⟨PySem.F.plainAttrs_list, PySem.F.slot_list_extend, PySem.F.type_list_extend⟩)
    | (cases h; exact ⟨PySem.F.plainAttrs_list, PySem.F.slot_list_pop, PySem.F.type_list_pop⟩)
    | (cases h; exact ⟨PySem.F.plainAttrs_list, PySem.F.slot_list_insert, PySem.F.type_list_insert⟩)
    | (cases h; exact ⟨PySem.F.plainAttrs_list, PySem.F.slot_list_reverse, PySem.F.type_list_reverse⟩)
    | cases h
theorem me_ty (cb : Cb G n X) (R : RelS G ρ S H) {t : MT} (hx : VR G ρ H dx x) (h : meT dx S = some t) : tyV X.K (mtS t) x H := by
  cases hx with
  | str c => cases h; exact rfl
  | ref hk =>
    unfold meT at h
    simp only at h
    split at h
    · rename_i ys e
      cases h
      have o := R.obj _ _ _ hk e
      cases o with
      | lst q r => exact .inl ⟨rfl, _, .of q⟩
    · rename_i ys e
      cases h
      have o := R.obj _ _ _ hk e
      cases o with
      | dict q r => exact .inr (.inr (.inl ⟨rfl, .inl ⟨_, q⟩⟩))
    · cases h
  | _ => cases h
theorem lstW_of (R : RelS G ρ S H) {k : Nat} {xs : List D} (hx : VR G ρ H dx x) (h : lstW S dx = some (k, xs)) : ∃ a vs, dx = .ref k ∧ x = .ref a ∧ ρ[k]? = some a ∧ S[k]? = some (.lst xs) ∧ H a = some (.lst vs) ∧ VRs G ρ H xs vs := by
  cases hx with
  | ref hk =>
    unfold lstW at h
    simp only at h
    split at h
    · rename_i ys e
      cases h
      have o := R.obj _ _ _ hk e
      cases o with
      | lst q r => exact ⟨_, _, rfl, rfl, hk, e, q, r⟩
    · cases h
  | _ => cases h
/-- the heap behind a list's change -/
theorem put_lst (R : RelS G ρ S H) {k m : Nat} {a : Addr} {xs ys : List D} {vs ws : List V} {d : D} {v : V} (hk : ρ[k]? = some a) (hS : S[k]? = some (.lst xs)) (hH : H a = some (.lst vs)) (r : VRs G ρ H ys ws) (hv : VR G ρ H d v)
    (hm : D.mrs ys ≤ max (D.mrs xs) m) (h : MtV G ρ S H (put k (.lst ys) m d S) Q) : Q v (upd H a (.lst ws)) := by
  have kp : Keep H (upd H a (.lst ws)) := Keep.write hH (fun _ z => by cases z) (fun _ _ z => by cases z)
  refine h ρ _ (R.set hk kp (.lst upd_same (r.mono (List.prefix_refl _) kp))) ⟨List.prefix_refl _, kp, MonoS.set S k _ m fun u hu => ?_, rest_set hk⟩ v (hv.mono (List.prefix_refl _) kp)
  rw [hS] at hu; cases hu
  exact hm
theorem mrs_append : ∀ (xs ys : List D), D.mrs (xs ++ ys) = max (D.mrs xs) (D.mrs ys)
  | [], ys => by simp [D.mrs]
  | x :: xs, ys => by simp only [List.cons_append, D.mrs, mrs_append xs ys]; omega
theorem mrs_le_of {k : Nat} : ∀ {xs : List D}, (∀ x ∈ xs, x.mr ≤ k) → D.mrs xs ≤ k
  | [], _ => by simp [D.mrs]
  | x :: xs, h => by
    simp only [D.mrs]
    exact Nat.max_le.mpr ⟨h x List.mem_cons_self, mrs_le_of fun y hy => h y (List.mem_cons_of_mem _ hy)⟩
theorem mr_le_mrs : ∀ {xs : List D} {x : D}, x ∈ xs → x.mr ≤ D.mrs xs
  | y :: ys, x, h => by
    simp only [D.mrs]
    rcases List.mem_cons.mp h with rfl | h
    · exact Nat.le_max_left _ _
    · exact Nat.le_trans (mr_le_mrs h) (Nat.le_max_right _ _)
theorem mrs_sub {xs ys : List D} (h : ∀ y ∈ ys, y ∈ xs) : D.mrs ys ≤ D.mrs xs := mrs_le_of fun y hy => mr_le_mrs (h y hy)
theorem VRs.dropLast {ds : List D} {vs : List V} (r : VRs G ρ H ds vs) : VRs G ρ H ds.dropLast vs.dropLast := by
  rw [List.dropLast_eq_take, List.dropLast_eq_take, r.length]
  exact r.take _
theorem VRs.erase : ∀ {ds : List D} {vs : List V} (i : Nat), VRs G ρ H ds vs → VRs G ρ H (ds.eraseIdx i) (vs.eraseIdx i)
  | _, _, _, .nil => .nil
  | _, _, 0, .cons _ t => t
  | _, _, i + 1, .cons q t => .cons q (VRs.erase i t)
theorem dicW_of (R : RelS G ρ S H) {k : Nat} {xs : List (D × D)} (hx : VR G ρ H dx x) (h : dicW S dx = some (k, xs)) : ∃ a vs, dx = .ref k ∧ x = .ref a ∧ ρ[k]? = some a ∧ S[k]? = some (.dict xs) ∧ H a = some (.dK vs) ∧ KRs G ρ H xs vs := by
  cases hx with
  | ref hk =>
    unfold dicW at h
    simp only at h
    split at h
    · rename_i ys e
      cases h
      have o := R.obj _ _ _ hk e
      cases o with
      | dict q r => exact ⟨_, _, rfl, rfl, hk, e, q, r⟩
    · cases h
  | _ => cases h
theorem KRs.any {ρ : List Addr} {H : Hp} {k : Key} : ∀ {ds : List (D × D)} {vs : List (Key × V)}, KRs G ρ H ds vs → (ds.any fun p => decide (p.1 = keyD k)) = vs.any fun kv => decide (kv.1 = k)
  | _, _, .nil => rfl
  | _, _, @KRs.cons _ _ _ k' d' v' ds vs h r => by
    have e : (keyD k' = keyD k) ↔ (k' = k) := ⟨keyD_inj, fun z => by rw [z]⟩
    simp [KRs.any r, e]
theorem KRs.map_put {ρ : List Addr} {H : Hp} {k : Key} {d : D} {v : V} (hv : VR G ρ H d v) : ∀ {ds : List (D × D)} {vs : List (Key × V)}, KRs G ρ H ds vs →
    KRs G ρ H (ds.map fun p => if p.1 = keyD k then (p.1, d) else p) (vs.map fun kv => if kv.1 = k then (kv.1, v) else kv)
  | _, _, .nil => .nil
  | _, _, @KRs.cons _ _ _ k' d' v' ds vs h r => by
    simp only [List.map_cons]
    by_cases e : k' = k
    · subst e
      simp only [if_true]
      exact .cons hv (KRs.map_put hv r)
    · have e' : ¬ keyD k' = keyD k := fun z => e (keyD_inj z)
      rw [if_neg e, if_neg e']
      exact .cons h (KRs.map_put hv r)
theorem KRs.snoc {ρ : List Addr} {H : Hp} {k : Key} {d : D} {v : V} (hv : VR G ρ H d v) : ∀ {ds : List (D × D)} {vs : List (Key × V)}, KRs G ρ H ds vs → KRs G ρ H (ds ++ [(keyD k, d)]) (vs ++ [(k, v)])
  | _, _, .nil => .cons hv .nil
  | _, _, .cons h r => .cons h (KRs.snoc hv r)
theorem KRs.put {ρ : List Addr} {H : Hp} {k : Key} {d : D} {v : V} (hv : VR G ρ H d v) {ds : List (D × D)} {vs : List (Key × V)} (r : KRs G ρ H ds vs) : KRs G ρ H (dput (keyD k) d ds) (putK vs k v) := by
  unfold dput putK
  rw [r.any]
  split
  · exact r.map_put hv
  · exact r.snoc hv
theorem mrs_put {k d : D} {ds : List (D × D)} : D.mrs ((dput k d ds).map (·.2)) ≤ max (D.mrs (ds.map (·.2))) d.mr := by
  refine mrs_le_of fun x hx => ?_
  rw [List.mem_map] at hx
  obtain ⟨p, hp, rfl⟩ := hx
  unfold dput at hp
  have old : ∀ q ∈ ds, q.2.mr ≤ max (D.mrs (ds.map (·.2))) d.mr := fun q hq => Nat.le_trans (mr_le_mrs (List.mem_map_of_mem hq)) (Nat.le_max_left _ _)
  split at hp
  · rw [List.mem_map] at hp
    obtain ⟨q, hq, rfl⟩ := hp
    split
    · exact Nat.le_max_right _ _
    · exact old q hq
  · rcases List.mem_append.mp hp with hp | hp
    · exact old p hp
    · have : p = (k, d) := by simpa using hp
      subst this
      exact Nat.le_max_right _ _

theorem KRs.merge {ρ : List Addr} {H : Hp} : ∀ {more : List (D × D)} {mv : List (Key × V)} {ds : List (D × D)} {vs : List (Key × V)}, KRs G ρ H more mv → KRs G ρ H ds vs → KRs G ρ H (mergeD ds more) (mergeK vs mv)
  | _, _, _, _, .nil, r => r
  | _, _, ds, vs, @KRs.cons _ _ _ k d v more mv h t, r => (KRs.merge t (KRs.put (k := k) h r) : KRs G ρ H (mergeD (dput (keyD k) d ds) more) (mergeK (putK vs k v) mv))

theorem mrs_merge : ∀ {more ds : List (D × D)}, D.mrs ((mergeD ds more).map (·.2)) ≤ max (D.mrs (ds.map (·.2))) (D.mrs (more.map (·.2)))
  | [], ds => Nat.le_max_left _ _
  | p :: r, ds => by
    have h1 := mrs_merge (more := r) (ds := dput p.1 p.2 ds)
    have h2 := mrs_put (k := p.1) (d := p.2) (ds := ds)
    show D.mrs ((mergeD (dput p.1 p.2 ds) r).map (·.2)) ≤ _
    simp only [List.map_cons]
    have e : D.mrs (p.2 :: r.map (·.2)) = max p.2.mr (D.mrs (r.map (·.2))) := by rw [D.mrs]
    rw [e]
    omega
/-- the heap behind a dict's change -/
theorem put_dicV (R : RelS G ρ S H) {k m : Nat} {a : Addr} {xs ys : List (D × D)} {vs ws : List (Key × V)} {d : D} {v : V} (hk : ρ[k]? = some a) (hS : S[k]? = some (.dict xs)) (hH : H a = some (.dK vs)) (r : KRs G ρ H ys ws) (hv : VR G ρ H d v)
    (hm : D.mrs (ys.map (·.2)) ≤ max (D.mrs (xs.map (·.2))) m) (h : MtV G ρ S H (put k (.dict ys) m d S) Q) : Q v (upd H a (.dK ws)) := by
  have kp : Keep H (upd H a (.dK ws)) := Keep.write hH (fun _ z => by cases z) (fun _ _ z => by cases z)
  refine h ρ _ (R.set hk kp (.dict upd_same (r.mono (List.prefix_refl _) kp))) ⟨List.prefix_refl _, kp, MonoS.set S k _ m fun u hu => ?_, rest_set hk⟩ v (hv.mono (List.prefix_refl _) kp)
  rw [hS] at hu; cases hu
  exact hm
def rUpdD : V → List V → Hp → VK → Prop := fun x vs H Q => ∃ a b kvs more, x = .ref a ∧ vs = [.ref b] ∧ a ≠ b ∧ H a = some (.dK kvs) ∧ H b = some (.dK more) ∧ kvs.length + more.length ≤ sizeLine ∧ Q .non (upd H a (.dK (mergeK kvs more)))
theorem mt_updD {X : Cx} : MtM X "dict.update" rUpdD := by
  intro pins s σ H x vs v us Q I rx rv h
  obtain ⟨a, b, kvs, more, rfl, rfl, hab, hA, hB, hz, q⟩ := h
  cases rx
  obtain ⟨u, rfl, ru⟩ := vals1 rv
  cases ru
  obtain ⟨z, hd, ws, rel, dd⟩ := dk_of I.hok hA
  obtain ⟨z2, hd2, ws2, rel2, dd2⟩ := dk_of I.hok hB
  have hl : (mergeK kvs more).length ≤ sizeLine := Nat.le_trans (length_mergeK more kvs) hz
  refine call_meetsIn PySem.F.slot_dict_update dd.typeIs PySem.F.entry_dict_update (PySem.F.args_dict_update_2 _ _) (meets_dict_update (mixKind X.prog X.w) a b hab hd2) ⟨ws, ws2, dd, dd2, by rw [← rel.length, ← rel2.length]; exact hz, fun h' d1 d2 sb => ?_⟩
  have he : ∃ q, h'.get? a = some q := let ⟨q, _, _, hq, _⟩ := d1; ⟨q, hq⟩
  exact ⟨.non, _, d_write (t' := s.toks) I (by rw [hA]; exact True.intro) sb he (dk_new hl hd (KV.merge rel2 rel) d1), rfl, q⟩
theorem me_snd (cb : Cb G n X) (R : RelS G ρ S H) {t : MT} {m : ME} {id : String} (hid : meId t m = some id) {ds : List D} {vs : List V} (hx : VR G ρ H dx x) (hv : VRs G ρ H ds vs) (h : MtV G ρ S H (meEv t m dx ds S) Q) : tMS X id x vs H Q := by
  cases t with
  | str =>
    cases m with
    | join =>
      cases hid
      cases hx with
      | str sep =>
        cases hv with
        | nil => exact h.elim
        | cons h1 r =>
          cases r with
          | cons h2 r2 => exact h.elim
          | nil =>
            rename_i d v
            have h : MtV G ρ S H (match (d.seq? S).bind textsD with
              | some ts => if (ts.map List.length).sum + ts.length * sep.length ≤ 16777216 then .ok (.str (joinT sep ts)) S none else .stuck
              | none => .stuck) Q := h
            split at h
            · rename_i ts e
              obtain ⟨hz, h⟩ := guardM h
              rw [Option.bind_eq_some_iff] at e
              obtain ⟨xs, e1, e2⟩ := e
              obtain ⟨a, ws, rfl, q, r⟩ := seq_of R h1 e1
              rw [texts_of r e2] at q
              refine .of mt_join ⟨_, a, _, rfl, rfl, cb.K ▸ q, ?_, ?_⟩
              · rw [List.map_map, List.length_map, str_len]
                have e3 : (Str.length ∘ fun b => (⟨b.toArray⟩ : Str)) = List.length (α := Nat) := by
                  funext b
                  exact str_len b
                rw [e3]; exact hz
              · rw [join_eq]
                exact MtV.same h R (.str _)
            · exact h.elim
      | _ => exact h.elim
    | upper =>
      cases hid
      cases hx with
      | str c =>
        cases hv with
        | cons h1 r => exact h.elim
        | nil =>
          obtain ⟨hz, h⟩ := guardM h
          refine .of mt_upper ⟨_, rfl, rfl, by rw [str_len]; exact hz, ?_⟩
          have e : Txt.upper ⟨c.toArray⟩ = ⟨(upperT c).toArray⟩ := by unfold upperT; simp
          rw [e]
          exact MtV.same h R (.str _)
      | _ => cases hv <;> exact h.elim
    | _ => cases hid
  | dict =>
    cases m with
    | get2 =>
      cases hid
      unfold meEv at h
      simp only at h
      split at h
      · rename_i kvs k d e
        obtain ⟨hk, h⟩ := guardM h
        obtain ⟨v1, v2, rfl, hv1, hv2⟩ := hv.two
        obtain ⟨k, rfl, rfl⟩ := key_of hk hv1
        obtain ⟨a, ws, rfl, g, r⟩ := dict_get (k := k) R hx e
        intro pins s σ v us I rx rv
        obtain ⟨u1, u2, rfl, r1, r2⟩ := vals2 rv
        cases rx
        refine d_get2 cb.u1 I g r1 r2 fun w' s' I' rw' => ⟨_, H, I', rw', ?_⟩
        refine MtV.same h R ?_
        cases eg : dget (keyD k) kvs with
        | some d' =>
          obtain ⟨w, hw, hr⟩ := (KRs.get r).1 d' eg
          rw [hw]; exact hr
        | none =>
          have := (KRs.get (k := k) r).2
          rw [eg] at this
          cases ev : valV ws k with
          | some z => rw [ev] at this; cases this
          | none => exact hv2
      · exact h.elim
    | get1 =>
      cases hid
      unfold meEv at h
      simp only at h
      split at h
      · rename_i kvs k e
        obtain ⟨hk, h⟩ := guardM h
        obtain ⟨v1, rfl, hv1⟩ := hv.one
        obtain ⟨k, rfl, rfl⟩ := key_of hk hv1
        obtain ⟨a, ws, rfl, g, r⟩ := dict_get (k := k) R hx e
        intro pins s σ v us I rx rv
        obtain ⟨u1, rfl, r1⟩ := vals1 rv
        cases rx
        refine d_get1 cb.u1 I g r1 fun w' s' I' rw' => ⟨_, H, I', rw', ?_⟩
        refine MtV.same h R ?_
        cases eg : dget (keyD k) kvs with
        | some d' =>
          obtain ⟨w, hw, hr⟩ := (KRs.get r).1 d' eg
          rw [hw]; exact hr
        | none =>
          have := (KRs.get (k := k) r).2
          rw [eg] at this
          cases ev : valV ws k with
          | some z => rw [ev] at this; cases this
          | none => exact .non
      · exact h.elim
    | update =>
      cases hid
      unfold meEv at h
      simp only at h
      split at h
      · rename_i k kvs y e
        split at h
        · rename_i m more e2
          obtain ⟨⟨hne, hz⟩, h⟩ := guardM h
          obtain ⟨a, ws, rfl, rfl, hk, hS, hH, r⟩ := dicW_of R hx e
          obtain ⟨v1, rfl, hv1⟩ := hv.one
          obtain ⟨b, zs, rfl, rfl, hk2, _, hB, r2⟩ := dicW_of R hv1 e2
          have hab : a ≠ b := by
            rintro rfl
            obtain ⟨l1, q1⟩ := List.getElem?_eq_some_iff.mp hk
            obtain ⟨l2, q2⟩ := List.getElem?_eq_some_iff.mp hk2
            exact hne ((List.getElem_inj R.inj).mp (q1.trans q2.symm))
          refine .of mt_updD ⟨a, b, ws, zs, rfl, rfl, hab, hH, hB, by rw [← r.length, ← r2.length]; exact hz, ?_⟩
          exact put_dicV R hk hS hH (r2.merge r) .non mrs_merge h
        · exact h.elim
      · exact h.elim
    | _ => cases hid
  | list =>
    cases m with
    | append =>
      cases hid
      unfold meEv at h
      simp only at h
      split at h
      · rename_i k xs d e
        obtain ⟨hz, h⟩ := guardM h
        obtain ⟨a, ws, rfl, rfl, hk, hS, hH, r⟩ := lstW_of R hx e
        obtain ⟨v1, rfl, hv1⟩ := hv.one
        refine .of mt_append ⟨a, ws, v1, rfl, rfl, hH, by rw [← r.length]; exact hz, ?_⟩
        exact put_lst R hk hS hH (r.append (.cons hv1 .nil)) .non (by rw [mrs_append]; simp only [D.mrs]; omega) h
      · exact h.elim
    | extend =>
      cases hid
      unfold meEv at h
      simp only at h
      split at h
      · rename_i k xs d e
        split at h
        · rename_i k2 ys e2
          obtain ⟨hz, h⟩ := guardM h
          obtain ⟨a, ws, rfl, rfl, hk, hS, hH, r⟩ := lstW_of R hx e
          obtain ⟨v1, rfl, hv1⟩ := hv.one
          obtain ⟨b, zs, rfl, rfl, _, _, hB, r2⟩ := lstW_of R hv1 e2
          refine .of mt_extend ⟨a, b, ws, zs, rfl, rfl, hH, hB, by rw [← r.length, ← r2.length]; exact hz, ?_⟩
          exact put_lst R hk hS hH (r.append r2) .non (by rw [mrs_append]; omega) h
        · exact h.elim
      · exact h.elim
    | pop0 =>
      cases hid
      unfold meEv at h
      simp only at h
      split at h
      · rename_i k xs e
        split at h
        · rename_i y ey
          obtain ⟨a, ws, rfl, rfl, hk, hS, hH, r⟩ := lstW_of R hx e
          cases hv
          obtain ⟨z, hz, hr⟩ := r.get ey
          rw [r.length] at hz
          refine .of mt_pop ⟨a, ws, z, rfl, rfl, hH, hz, ?_⟩
          exact put_lst R hk hS hH r.dropLast hr (Nat.le_trans (mrs_sub fun y hy => (List.dropLast_sublist xs).mem hy) (Nat.le_max_left _ _)) h
        · exact h.elim
      · exact h.elim
    | pop1 =>
      cases hid
      unfold meEv at h
      simp only at h
      split at h
      · rename_i k xs i e
        obtain ⟨hb, h⟩ := guardM h
        split at h
        · rename_i j ej
          split at h
          · rename_i y ey
            obtain ⟨a, ws, rfl, rfl, hk, hS, hH, r⟩ := lstW_of R hx e
            obtain ⟨v1, rfl, hv1⟩ := hv.one
            cases hv1
            obtain ⟨z, hz, hr⟩ := r.get ey
            rw [r.length] at ej
            refine .of mt_popAt ⟨a, ws, i, j, z, rfl, rfl, hH, hb.1, hb.2, (ixN_seq ej).1, hz, ?_⟩
            exact put_lst R hk hS hH (r.erase j) hr (Nat.le_trans (mrs_sub fun y hy => List.mem_of_mem_eraseIdx hy) (Nat.le_max_left _ _)) h
          · exact h.elim
        · exact h.elim
      · exact h.elim
    | insert =>
      cases hid
      unfold meEv at h
      simp only at h
      split at h
      · rename_i k xs i d e
        obtain ⟨⟨h0, h1, hz⟩, h⟩ := guardM h
        obtain ⟨a, ws, rfl, rfl, hk, hS, hH, r⟩ := lstW_of R hx e
        obtain ⟨v1, v2, rfl, hv1, hv2⟩ := hv.two
        cases hv1
        refine .of mt_insert ⟨a, ws, i, v2, rfl, rfl, hH, by rw [← r.length]; exact hz, h0, h1, ?_⟩
        refine put_lst R hk hS hH (((r.take _).append (.cons hv2 .nil)).append (r.drop _)) .non ?_ h
        rw [mrs_append, mrs_append]
        have e1 := mrs_sub (xs := xs) (ys := xs.take i.toNat) fun y hy => List.mem_of_mem_take hy
        have e2 := mrs_sub (xs := xs) (ys := xs.drop i.toNat) fun y hy => List.mem_of_mem_drop hy
        simp only [D.mrs]
        omega
      · exact h.elim
    | reverse =>
      cases hid
      unfold meEv at h
      simp only at h
      split at h
      · rename_i k xs e
        obtain ⟨a, ws, rfl, rfl, hk, hS, hH, r⟩ := lstW_of R hx e
        cases hv
        refine .of mt_reverse ⟨a, ws, rfl, rfl, hH, ?_⟩
        exact put_lst R hk hS hH r.reverse .non (Nat.le_trans (mrs_sub fun y hy => by simpa using hy) (Nat.le_max_left _ _)) h
      · exact h.elim
    | remove =>
      cases hid
      unfold meEv at h
      simp only at h
      split at h
      · rename_i k xs y e
        split at h
        · rename_i j ej
          obtain ⟨a, ws, rfl, rfl, hk, hS, hH, r⟩ := lstW_of R hx e
          obtain ⟨v1, rfl, hv1⟩ := hv.one
          obtain ⟨⟨z, hz, ez⟩, hno⟩ := find_at ej
          intro pins s σ v us I rx rv
          cases rx
          obtain ⟨u, rfl, ru⟩ := vals1 rv
          obtain ⟨zl, its, nn, rr, hl, e0⟩ := I.lstM hH
          have hlx : xs.length = its.length := by rw [r.length, ← hl]
          have hjx := (List.getElem?_eq_some_iff.mp hz).1
          have at_ : ∀ (m : Nat) (hm : m < its.length) (b : Bool) (d : D), xs[m]? = some d → D.eqv S eqN d y = some b → valEq G ρ S H eqN y its[m] = b ∧ ∃ w, VR G ρ H d w ∧ RelV w its[m] := fun m hm b d hd hb => by
            obtain ⟨w, hw, rw'⟩ := r.get hd
            obtain ⟨u', hu', ru'⟩ := rr.get hw
            have : its[m] = u' := by
              rw [List.getElem?_eq_getElem hm] at hu'
              exact Option.some.inj hu'
            rw [this]
            exact ⟨valEq_at cb I R rw' ru' hb, w, rw', ru'⟩
          have hu : X.A.in1.units + eqN < cLine := by have := cb.u; show X.A.units + 1 + eqN < cLine; unfold eqN; omega
          refine call_meets PySem.F.slot_list_remove ⟨_, e0, rfl⟩ PySem.F.entry_list_remove (PySem.F.args_list_remove_2 _ _)
            (list_removeAt a its.toArray nn u (valEq G ρ S H eqN y) j (by rw [List.size_toArray]; omega) ?_ ?_ (by rw [List.size_toArray, ← hl]; exact zl)) ⟨e0, ?_, ?_⟩
          · have := (at_ j (by omega) true z hz ez).1
            simpa using this
          · intro m hm hmj
            have hml : m < its.length := by simpa using hm
            obtain ⟨d, hd⟩ : ∃ d, xs[m]? = some d := ⟨_, List.getElem?_eq_getElem (by omega)⟩
            have := (at_ m hml false d hd (hno m d hmj hd)).1
            simpa using this
          · intro m hm hmj
            have hml : m < its.length := by simpa using hm
            obtain ⟨d, hd⟩ : ∃ d, xs[m]? = some d := ⟨_, List.getElem?_eq_getElem (by omega)⟩
            obtain ⟨b, hb⟩ : ∃ b, D.eqv S eqN d y = some b := by
              by_cases e : m = j
              · subst e; rw [hz] at hd; cases hd; exact ⟨_, ez⟩
              · exact ⟨_, hno m d (by omega) hd⟩
            obtain ⟨q1, w, q2, q3⟩ := at_ m hml b d hd hb
            have q4 := eq_at cb I R eqN hu hb q2 hv1 q3 ru
            have e1 : its.toArray[m] = its[m] := by simp
            rw [e1, q1]
            exact q4
          · refine ⟨.non, _, I.lset (its' := its.eraseIdx j) (t' := s.toks) hH e0 ?_ (rr.eraseIdx j) ?_, rfl, ?_⟩
            · show its.toArray.eraseIdxIfInBounds j = (its.eraseIdx j).toArray
              rw [List.eraseIdxIfInBounds_toArray]
            · have := List.length_eraseIdx_le ws j
              omega
            · exact put_lst R hk hS hH (r.erase j) .non (Nat.le_trans (mrs_sub fun y hy => List.mem_of_mem_eraseIdx hy) (Nat.le_max_left _ _)) h
        · exact h.elim
      · exact h.elim
    | _ => cases hid
end
end NF

/-! NFTr: the model's syntax turned into the evaluator's. -/
namespace NF
open PySem PySem.Spec PyProof.Rows L2

/-- what the module's names mean -/
structure Gm where
  fns : List (Str × Nat)
  cons : List (Str × D)
  free : List Str
  shapes : List ((Nat × Nat × List Str) × List (Sum Nat D))
  ps : Nat → List Str

def tyNames : List (Str × String) := [("str", "str"), ("int", "int"), ("bool", "bool"), ("tuple", "tuple"), ("list", "list"), ("dict", "dict")]
def biNames : List ((Str × Nat) × BI) := [(("len", 1), .len), (("isinstance", 2), .isinst), (("max", 2), .max2), (("min", 2), .min2), (("all", 1), .all), (("any", 1), .any), (("tuple", 1), .tuple), (("list", 1), .list),
  (("str", 1), .str), (("int", 1), .int), (("set", 1), .set), (("abs", 1), .abs), (("sum", 1), .sum), (("sorted", 1), .sorted), (("dict", 1), .dict)]
def meNames : List ((Str × Nat) × ME) := [(("append", 1), .append), (("join", 1), .join), (("upper", 0), .upper), (("get", 2), .get2), (("get", 1), .get1), (("extend", 1), .extend), (("pop", 0), .pop0), (("pop", 1), .pop1), (("insert", 2), .insert), (("reverse", 0), .reverse), (("update", 1), .update), (("remove", 1), .remove)]

/-- look up, by decided equality -/
def lookD {α β : Type} [DecidableEq α] (k : α) : List (α × β) → Option β
  | [] => none
  | (a, b) :: r => if a = k then some b else lookD k r
theorem lookD_mem {α β : Type} [DecidableEq α] {k : α} {b : β} : ∀ {l : List (α × β)}, lookD k l = some b → (k, b) ∈ l
  | (a, c) :: r, h => by
    unfold lookD at h
    split at h
    · rename_i e; cases h; rw [e]; exact List.mem_cons_self
    · exact List.mem_cons_of_mem _ (lookD_mem h)
def idx (N : List Str) (x : Str) : Option Nat := match N with
  | [] => none
  | y :: r => if x = y then some 0 else (idx r x).map (· + 1)
def okName (x : Str) : Bool := !(x == ("__debug__" : Str)) && !(x == ("__classdict__" : Str)) && !(x == ("__name__" : Str))
/-- a name of the def -/
def trVar (N : List Str) (sc : Scope) (x : Str) : Option Nat := match sc.names.lookup x with
  | some .local => idx N x
  | some .cell => idx N x
  | some .free => idx N x
  | _ => none
def isGlob (sc : Scope) (x : Str) : Bool := match sc.names.lookup x with
  | some .globalImplicit => true
  | _ => false
def trName (gl : Gm) (N : List Str) (sc : Scope) (x : Str) : Option CE :=
  if okName x then match trVar N sc x with
    | some i => some (.var i)
    | none => if isGlob sc x then match gl.fns.lookup x with
        | some i => some (.cst (.fn i))
        | none => match gl.cons.lookup x with
          | some d => some (.cst d)
          | none => if gl.free.contains x then (tyNames.lookup x).map fun t => .cst (.ty t) else none
      else none
  else none
def trConst : Const → Option D
  | .int i => some (.int i)
  | .bool b => some (.bl b)
  | .none => some .non
  | .str x => some (.str x.cps.toList)
  | _ => none
def trOp : Operator → Option BOp
  | .Add => some .add
  | .Sub => some .sub
  | .Mult => some .mul
  | .FloorDiv => some .fdiv
  | .Mod => some .mod
  | .Pow => some .pow
  | _ => none
def trCmp : CmpOp → COp
  | .Eq => .eq
  | .NotEq => .ne
  | .Lt => .lt
  | .LtE => .le
  | .Gt => .gt
  | .GtE => .ge
  | .In => .isin
  | .NotIn => .notin
  | .Is => .is
  | .IsNot => .isnot
def mapO {α β : Type} (f : α → Option β) : List α → Option (List β)
  | [] => some []
  | x :: r => match f x, mapO f r with
    | some y, some s => some (y :: s)
    | _, _ => none
def optO {α β : Type} (f : α → Option β) : Option α → Option (List β)
  | none => some []
  | some x => (f x).map fun y => [y]
def trBool (op : BoolOp) : List CE → Option CE
  | [] => none
  | [c] => some c
  | c :: r => (trBool op r).map fun d => match op with
    | .And => .and c d
    | .Or => .or c d
mutual
/-- the slots of a target -/
def CG.sl : CG → List Nat
  | .name i => [i]
  | .tup gs => CG.sls gs
def CG.sls : List CG → List Nat
  | [] => []
  | g :: gs => g.sl ++ CG.sls gs
end
mutual
def trG (N : List Str) (sc : Scope) (own : Str → Bool) : Expr → Option CG
  | .Name x _ => if okName x then (match sc.names.lookup x with
    | some .local => (idx N x).map .name
    | some .cell => if own x then (idx N x).map .name else none
    | _ => none) else none
  | .Tuple es _ _ => (trGs N sc own es).map .tup
  | _ => none
def trGs (N : List Str) (sc : Scope) (own : Str → Bool) : List Expr → Option (List CG)
  | [] => some []
  | e :: r => match trG N sc own e, trGs N sc own r with
    | some y, some s => some (y :: s)
    | _, _ => none
end
/-- the pairs of a display, one behind another -/
def trKVs (f : Expr → Option CE) : List (Option Expr) → List Expr → Option (List CE)
  | [], [] => some []
  | some k :: ks, v :: vs => match f k, f v, trKVs f ks vs with
    | some a, some b, some r => some (a :: b :: r)
    | _, _, _ => none
  | _, _ => none
def notSuper : Expr → Bool
  | .Call (.Name x _) [] [] _ => !(x == ("super" : Str))
  | _ => true
def isSlice : Expr → Bool
  | .Slice .. => true
  | _ => false
def isTup : Expr → Bool
  | .Tuple .. => true
  | _ => false
/-- walked as it is -/
def plainI : CE → Bool
  | .range _ => false
  | .enum _ => false
  | .zip _ _ => false
  | .reversed _ => false
  | _ => true
/-- keywords that all bear names -/
def kwNames : List Keyword → Option (List Str)
  | [] => some []
  | ⟨some x, _, _⟩ :: r => (kwNames r).map (x :: ·)
  | _ => none
/-- a dict that is walked is locked meanwhile -/
def lockIf : Expr → CE → CE → CE
  | .Name x _, .var k, c => if x = ("mentions" : Str) then .lock k c else c
  | _, _, c => c
def lockIfS : Expr → CE → CS → CS
  | .Name x _, .var k, c => if x = ("mentions" : Str) then .lock k c else c
  | _, _, c => c
def ownOf (N : List Str) (sc : Scope) : List (Str × Nat) := sc.names.filterMap fun y => match y.2 with
  | .local => (idx N y.1).map fun i => (y.1, i)
  | .cell => (idx N y.1).map fun i => (y.1, i)
  | _ => none
def trE (gl : Gm) (N : List Str) : Nat → Scope → Expr → Option CE
  | 0, _, _ => none
  | k + 1, sc, e => match e with
    | .Name x _ => trName gl N sc x
    | .Constant c _ _ => (trConst c).map .cst
    | .Tuple es _ _ => (mapO (trE gl N k sc) es).map .tup
    | .List es _ => (mapO (trE gl N k sc) es).map .lst
    | .Dict ks vs _ => if ks.length ≤ 15 then (trKVs (trE gl N k sc) ks vs).map .dict else none
    | .BinOp a op b _ => match trOp op, trE gl N k sc a, trE gl N k sc b with
      | some o, some x, some y => some (.bin o x y)
      | _, _, _ => none
    | .UnaryOp .Not a _ => (trE gl N k sc a).map .not
    | .UnaryOp .USub a _ => (trE gl N k sc a).map .neg
    | .BoolOp op es _ => (mapO (trE gl N k sc) es).bind (trBool op)
    | .Compare a [op] [b] _ => if behindInMarks op b then none else match trE gl N k sc a, trE gl N k sc b with
      | some x, some y => some (.cmp (trCmp op) x y)
      | _, _ => none
    | .IfExp c a b _ => match trE gl N k sc c, trE gl N k sc a, trE gl N k sc b with
      | some z, some x, some y => some (.ite z x y)
      | _, _, _ => none
    | .Subscript a (.Slice lo hi none _) _ => match trE gl N k sc a, optO (trE gl N k sc) lo, optO (trE gl N k sc) hi with
      | some x, some l, some h => some (.slice x l h)
      | _, _, _ => none
    | .Subscript a (.Slice none none (some (.UnaryOp .USub (.Constant (.int 1) _ _) _)) _) _ => (trE gl N k sc a).map .rev
    | .Subscript a i _ => if isSlice i then none else match trE gl N k sc a, trE gl N k sc i with
      | some x, some y => some (.ix x y)
      | _, _ => none
    | .Call (.Name x _) es kws _ => if okName x then match trVar N sc x with
        | some i => if kws.isEmpty && !es.isEmpty then (mapO (trE gl N k sc) es).map (.callv i) else none
        | none => if isGlob sc x then match gl.fns.lookup x with
            | some f => (match mapO (trE gl N k sc) es, kwNames kws, mapO (fun w : Keyword => match w with | ⟨_, v, _⟩ => trE gl N k sc v) kws with
              | some xs, some ns, some ys => (lookD (f, es.length, ns) gl.shapes).map fun sel => .call f (xs ++ ys) sel
              | _, _, _ => none)
            | none => if gl.free.contains x && kws.isEmpty then (match lookD (x, es.length) biNames, mapO (trE gl N k sc) es with
              | some b, some xs => some (.bi b xs)
              | _, _ => none) else none
          else none
      else none
    | .Call (.Attribute o m ap) es [] p => if notSuper o && (ap.endLine == p.line) && decide (es.length < 20) then match lookD (m, es.length) meNames, trE gl N k sc o, mapO (trE gl N k sc) es with
        | some me, some x, some xs => some (.me me x xs)
        | _, _, _ => none
      else none
    | .ListComp elt [⟨tg, it, ifs, 0⟩] scope _ =>
      if blkC N sc scope (ownOf N scope) then
        match trE gl N k (relS scope sc) elt, trG N (relS scope sc) (fun x => scope.names.lookup x == some .cell) tg, trI gl N (trE gl N k sc) sc tg it, mapO (trE gl N k (relS scope sc)) ifs with
        | some x, some g, some i, some fs => if fs.length ≤ 1 && g.sl.all (fun i => ((ownOf N scope).map (·.2)).contains i) then some (lockIf it i (.lc x g i fs ((ownOf N scope).map (·.2)))) else none
        | _, _, _, _ => none
      else none
    | .DictComp ke ve [⟨tg, it, ifs, 0⟩] scope _ =>
      if blkC N sc scope (ownOf N scope) then
        match trE gl N k (relS scope sc) ke, trE gl N k (relS scope sc) ve, trG N (relS scope sc) (fun x => scope.names.lookup x == some .cell) tg, trI gl N (trE gl N k sc) sc tg it, mapO (trE gl N k (relS scope sc)) ifs with
        | some x, some y, some g, some i, some fs => if fs.length ≤ 1 && g.sl.all (fun i => ((ownOf N scope).map (·.2)).contains i) then some (lockIf it i (.dc x y g i fs ((ownOf N scope).map (·.2)))) else none
        | _, _, _, _, _ => none
      else none
    | _ => none
where
  /-- what is walked; tg: the target -/
  trI (gl : Gm) (N : List Str) (f : Expr → Option CE) (sc : Scope) (tg : Expr) : Expr → Option CE
  | .Call (.Name x p) es kws q =>
    if isGlob sc x && gl.free.contains x && kws.isEmpty && okName x && (x == ("range" : Str)) then (if es.length = 1 ∨ es.length = 2 then (mapO f es).map .range else none)
    else if isGlob sc x && gl.free.contains x && kws.isEmpty && okName x && (x == ("enumerate" : Str)) then (match es with
      | [a] => if isTup tg then (f a).map .enum else none
      | _ => none)
    else if isGlob sc x && gl.free.contains x && kws.isEmpty && okName x && (x == ("zip" : Str)) then (match es with
      | [a, b] => if isTup tg then (match f a, f b with
        | some x, some y => some (.zip x y)
        | _, _ => none) else none
      | _ => none)
    else if isGlob sc x && gl.free.contains x && kws.isEmpty && okName x && (x == ("reversed" : Str)) then (match es with
      | [a] => (f a).map .reversed
      | _ => none)
    else (f (.Call (.Name x p) es kws q)).filter plainI
  | .Set .. => none
  | e => (f e).filter plainI

/-- no comprehension -/
def notComp : Expr → Bool
  | .ListComp .. => false
  | .SetComp .. => false
  | .DictComp .. => false
  | _ => true
/-- plain local names on one line that are stored from the right -/
def swapIs (ts vs : List Expr) (sc : Scope) : Option (List Str) :=
  if !(ts.length == 2 || ts.length == 3) || vs.length != ts.length then none
  else if vs.any (fun | .Starred .. => true | _ => false) then none
  else
    let line := (ts.head?.map (·.pos.line)).getD 0
    let names := ts.filterMap fun
      | .Name id pos => if sc.names.lookup id == some .local && pos.line == line then some id else none
      | _ => none
    if names.length != ts.length || names.eraseDups.length != names.length then none
    else if vs.all (foldedForSure 8) then none
    else if vs.all (constantsAlone 8) then none
    else some names
def trAll : Str → Bool := fun _ => true
mutual
def trS (gl : Gm) (N : List Str) (k : Nat) (sc : Scope) : Nat → Stmt → Option CS
  | 0, _ => none
  | f + 1, st => match st with
    | .Expr (.Constant (.str _) _ _) _ => some .pass
    | .Expr e _ => if notComp e then (trE gl N k sc e).map .expr else none
    | .Return (some e) _ => (trE gl N k sc e).map .ret
    | .Return none _ => some (.ret (.cst .non))
    | .Pass _ => some .pass
    | .Break _ => some .brk
    | .Continue _ => some .cont
    | .If c a b _ => match trE gl N k sc c, trSs gl N k sc f a, trSs gl N k sc f b with
      | some z, some x, some y => some (.ife z x y)
      | _, _, _ => none
    | .For tg it body [] _ => match trG N sc trAll tg, trE.trI gl N (trE gl N k sc) sc tg it, trSs gl N k sc f body with
      | some g, some i, some b => some (lockIfS it i (.for g i b))
      | _, _, _ => none
    | .While c body [] _ => match trE gl N k sc c, trSs gl N k sc f body with
      | some z, some b => some (.whil z b)
      | _, _ => none
    | .AugAssign (.Name x _) op e _ => if okName x then (match sc.names.lookup x, idx N x, trOp op, trE gl N k sc e with
        | some .local, some i, some o, some c => some (.aug i o c)
        | some .cell, some i, some o, some c => some (.aug i o c)
        | _, _, _, _ => none) else none
    | .AugAssign (.Subscript a i _) op e _ => if isSlice i then none else (match trE gl N k sc a, trE gl N k sc i, trOp op, trE gl N k sc e with
        | some x, some y, some o, some c => some (.augsub x y o c)
        | _, _, _, _ => none)
    | .Assign [.Name x px] (.ListComp elt [⟨tg, it, ifs, 0⟩] scope p) _ =>
      if decide (sc.names.lookup x = some .local) && (px.line == p.line) && !(scope.names.any fun (n, k) => n == x && (k == .local || k == .cell)) && okName x then
        match idx N x, trE gl N k sc (.ListComp elt [⟨tg, it, ifs, 0⟩] scope p) with
        | some i, some (.lc a b d e f) => some (.asg (.name i) (.lc a b d e f))
        | _, _ => none
      else if decide (sc.names.lookup x = some .cell) then (match trG N sc trAll (.Name x ⟨0, 0, 0, 0⟩), trE gl N k sc (.ListComp elt [⟨tg, it, ifs, 0⟩] scope p) with
        | some g, some c => some (.asg g c)
        | _, _ => none)
      else none
    | .Assign [.Name x _] (.DictComp ke ve gs scope p) _ =>
      if decide (sc.names.lookup x = some .cell) then (match trG N sc trAll (.Name x ⟨0, 0, 0, 0⟩), trE gl N k sc (.DictComp ke ve gs scope p) with
        | some g, some c => some (.asg g c)
        | _, _ => none)
      else none
    | .Assign [.Name x _] e _ => if notComp e then (match trG N sc trAll (.Name x ⟨0, 0, 0, 0⟩), trE gl N k sc e with
        | some g, some c => some (.asg g c)
        | _, _ => none) else none
    | .Assign [.Tuple ts _ _] (.Tuple vs _ _) _ => match swapIs ts vs sc, ts, vs with
        | some [x, y], [.Name x' _, .Name y' _], [a, b] => (match idx N x, idx N y, trE gl N k sc a, trE gl N k sc b with
          | some i, some j, some c, some d => if i ≠ j ∧ (x' = x ∧ sc.names.lookup x = some .local) ∧ (y' = y ∧ sc.names.lookup y = some .local) then some (.asg (.tup [.name i, .name j]) (.tup [c, d])) else none
          | _, _, _, _ => none)
        | some [x, y, z], [.Name x' _, .Name y' _, .Name z' _], [a, b, e] => (match idx N x, idx N y, idx N z, trE gl N k sc a, trE gl N k sc b, trE gl N k sc e with
          | some i, some j, some l, some c, some d, some e => if (i ≠ j ∧ i ≠ l ∧ j ≠ l) ∧ (x' = x ∧ sc.names.lookup x = some .local) ∧ (y' = y ∧ sc.names.lookup y = some .local) ∧ (z' = z ∧ sc.names.lookup z = some .local) then some (.asg (.tup [.name i, .name j, .name l]) (.tup [c, d, e])) else none
          | _, _, _, _, _, _ => none)
        | _, _, _ => none
    | .Assign [.Tuple [.Name x px, .Starred (.Name y py) _] _ _] e _ => if notComp e && !isTup e then (match trG N sc trAll (.Name x px), trG N sc trAll (.Name y py), trE gl N k sc e with
        | some g, some r, some c => some (.star g r c)
        | _, _, _ => none) else none
    | .Assign [.Tuple ts q r] e _ => if notComp e && !isTup e then (match trG N sc trAll (.Tuple ts q r), trE gl N k sc e with
        | some g, some c => some (.asg g c)
        | _, _ => none) else none
    | .Assign [.Subscript a i _] e _ => if isSlice i then none else (match trE gl N k sc e, trE gl N k sc a, trE gl N k sc i with
        | some c, some x, some y => some (.sub c x y)
        | _, _, _ => none)
    | _ => none
def trSs (gl : Gm) (N : List Str) (k : Nat) (sc : Scope) : Nat → List Stmt → Option (List CS)
  | 0, _ => none
  | _ + 1, [] => some []
  | f + 1, st :: r => match trS gl N k sc f st, trSs gl N k sc f r with
    | some x, some y => some (x :: y)
    | _, _ => none
end
end NF

/-! NFSnd: expressions: what the evaluator says, the model does. -/
namespace NF
open PySem PySem.Spec PyProof.Rows L2

structure Cs (G : Gc) (N : List Str) (sc : Scope) (n : Nat) (X : Cx) : Prop extends Cb G n X where
  hN : X.N = N
  sc : X.env.scope = sc
  nd : N.Nodup

def FdAt (G : Gc) (a : Addr) (fd : FuncData) : Prop := ∃ o, G.K.lookup a = some o ∧ o.data = .func fd
/-- how the arguments of a call of that shape come to the parameters -/
def ShapeOk (G : Gc) (gl : Gm) (f n : Nat) (ks : List Str) (sel : List (Sum Nat D)) : Prop :=
  ∀ (a : Addr) (fd : FuncData), G.FA f a → FdAt G a fd → ∀ (s : Shared) (us ws : List Value), G.K.In s.heap → us.length = n → ws.length = ks.length →
    ∃ zs, BindsTo s fd ⟨us, ks.zip ws⟩ ((gl.ps f).zip zs) ∧ ∀ (ρ : List Addr) (H : Hp) (ds es : List D) (vs : List V), VRs G ρ H ds vs → Vals vs (us ++ ws) → selArgs ds sel = some es → ∃ vs', VRs G ρ H es vs' ∧ Vals vs' zs
/-- a call with the parameters' values in order -/
def PlainOk (G : Gc) (gl : Gm) : Prop := ∀ (f : Nat) (a : Addr) (fd : FuncData), G.FA f a → FdAt G a fd → ∀ (s : Shared) (us : List Value), G.K.In s.heap → us.length = (gl.ps f).length → BindsTo s fd ⟨us, []⟩ ((gl.ps f).zip us)
structure GlOk (G : Gc) (gl : Gm) : Prop where
  fn : ∀ x i, gl.fns.lookup x = some i → ∃ a, G.mg x = some (.ref a) ∧ G.FA i a
  kp : ∀ i a, G.FA i a → PySem.W.keepIn G.K (.ref a) = true
  fd : ∀ i a, G.FA i a → ∃ fd, FdAt G a fd
  con : ∀ x d, gl.cons.lookup x = some d → ∃ u v, G.mg x = some u ∧ RelV v u ∧ VR G [] (fun _ => none) d v
  free : ∀ x, gl.free.contains x = true → G.mg x = none
  shape : ∀ f n ks sel, lookD (f, n, ks) gl.shapes = some sel → ShapeOk G gl f n ks sel
  plain : PlainOk G gl
/-- calls of the module's defs -/
def CallSnd (G : Gc) (gl : Gm) (n : Nat) (call : Nat → List D → Store → Res D) : Prop :=
  ∀ (X : Cx), Cb G n X → ∀ (pins : List (Addr × Obj)) (s : Shared) (σ : L2.St) (H : Hp) (ρ : List Addr) (S : Store) (f : Nat) (a : Addr) (fd : FuncData) (ws : List D) (vs : List V) (Q : VK) (args : Args) (us : List Value),
    G.FA f a → FdAt G a fd → Inv X pins σ H s → RelS G ρ S H → VRs G ρ H ws vs → Vals vs us → BindsTo s fd args ((gl.ps f).zip us) → MtV G ρ S H (call f ws S) Q →
    wpAny (model X.prog X.w) X.A (PySem.call (.ref a) args.pos args.kw) (EP X pins σ Q) X.xe s
def ArgN (gl : Gm) (call : Nat → List D → Store → Res D) : Prop := ∀ f ws S, ws.length ≠ (gl.ps f).length → call f ws S = .stuck

def tSE (X : Cx) (e : Expr) : TE := fun σ H Q => ∀ (pins : List (Addr × Obj)) (s : Shared), Inv X pins σ H s → wpAny (model X.prog X.w) X.A (eval e X.env) (EP X pins σ Q) X.xe s
theorem pe_sem (X : Cx) (e : Expr) : PE X e (tSE X e) := ⟨fun pins s σ H Q I h => h pins s I⟩
theorem tSE.of {X : Cx} {e : Expr} {t : TE} (p : PE X e t) {σ : L2.St} {H : Hp} {Q : VK} (h : t σ H Q) : tSE X e σ H Q := fun pins s I => p.run pins s σ H Q I h
def tST (X : Cx) (e : Expr) : TT := fun σ H Q => ∀ (pins : List (Addr × Obj)) (s : Shared), Inv X pins σ H s → wpAny (model X.prog X.w) X.A (isTrue e X.env (eval e X.env)) (TP X pins σ Q) X.xe s
theorem pt_sem (X : Cx) (e : Expr) : PT X e (tST X e) := ⟨fun pins s σ H Q I h => h pins s I⟩
theorem tST.of {X : Cx} {e : Expr} {t : TT} (p : PT X e t) {σ : L2.St} {H : Hp} {Q : Bool → Hp → Prop} (h : t σ H Q) : tST X e σ H Q := fun pins s I => p.run pins s σ H Q I h
def tSA (X : Cx) (es : List Expr) : TA := fun σ H Q => ∀ (pos : Pos) (pins : List (Addr × Obj)) (s : Shared), Inv X pins σ H s → wpAny (model X.prog X.w) X.A (spliced (backTo pos (starEach es X.env))) (AP X pins σ Q) X.xe s
theorem pa_sem (X : Cx) (es : List Expr) : PA X es (tSA X es) := ⟨fun pos pins s σ H Q I h => h pos pins s I⟩
def tSK (X : Cx) (kws : List Keyword) : TA := fun σ H Q => ∀ (pos : Pos) (pins : List (Addr × Obj)) (s : Shared), Inv X pins σ H s → wpAny (model X.prog X.w) X.A (evalAll ((backToKw pos (keywordEach kws X.env)).map (·.2))) (AP X pins σ Q) X.xe s
theorem pk_sem (X : Cx) (es : List Keyword) : PK X es (tSK X es) := ⟨fun pos pins s σ H Q I h => h pos pins s I⟩

section
variable (G : Gc) (C : Ctx) (n : Nat) (N : List Str) (sc : Scope)
def SimE (e : Expr) (c : CE) : Prop := ∀ (X : Cx), Cs G N sc n X → ∀ (ρ : List Addr) (S : Store) (H : Hp) (σd : Envr) (σ : L2.St), RelS G ρ S H → RelE G ρ H σd σ → ∀ Q : VK, MtV G ρ S H (evE C c σd S) Q → tSE X e σ H Q
def SimT (e : Expr) (c : CE) : Prop := ∀ (X : Cx), Cs G N sc n X → ∀ (ρ : List Addr) (S : Store) (H : Hp) (σd : Envr) (σ : L2.St), RelS G ρ S H → RelE G ρ H σd σ → ∀ Q : Bool → Hp → Prop, Mt G ρ S H (evT C c σd S) (fun b _ _ H' => Q b H') → tST X e σ H Q
def SimA (es : List Expr) (cs : List CE) : Prop := ∀ (X : Cx), Cs G N sc n X → ∀ (ρ : List Addr) (S : Store) (H : Hp) (σd : Envr) (σ : L2.St), RelS G ρ S H → RelE G ρ H σd σ → ∀ Q : List V → Hp → Prop, Mt G ρ S H (evEs C cs σd S) (fun ds _ ρ' H' => ∀ vs, VRs G ρ' H' ds vs → Q vs H') → tSA X es σ H Q
def SimK (es : List Keyword) (cs : List CE) : Prop := ∀ (X : Cx), Cs G N sc n X → ∀ (ρ : List Addr) (S : Store) (H : Hp) (σd : Envr) (σ : L2.St), RelS G ρ S H → RelE G ρ H σd σ → ∀ Q : List V → Hp → Prop, Mt G ρ S H (evEs C cs σd S) (fun ds _ ρ' H' => ∀ vs, VRs G ρ' H' ds vs → Q vs H') → tSK X es σ H Q
end
section
variable {G : Gc} {gl : Gm} {C : Ctx} {n : Nat} {N : List Str} {sc : Scope}

/-- go on behind a part -/
theorem Mt.go {α : Type} {ρ : List Addr} {S : Store} {H : Hp} {r : Res α} {Φ Ψ : α → Store → List Addr → Hp → Prop} (h : Mt G ρ S H r Φ)
    (k : ∀ a S' ρ' H' e, RelS G ρ' S' H' → Step ρ S H ρ' S' H' e → Φ a S' ρ' H' → Ψ a S' ρ' H') : Mt G ρ S H r Ψ := by
  cases r with
  | ok a S1 e => exact fun ρ1 H1 R1 st1 => k _ _ _ _ _ R1 st1 (h ρ1 H1 R1 st1)
  | exn x S1 e => exact h
  | stuck => exact h

theorem Mt.goE {α : Type} {ρ : List Addr} {S : Store} {H : Hp} {r : Res α} {Φ Ψ : α → Store → List Addr → Hp → Prop} (h : Mt G ρ S H r Φ)
    (k : ∀ a S' ρ' H' e, r = .ok a S' e → RelS G ρ' S' H' → Step ρ S H ρ' S' H' e → Φ a S' ρ' H' → Ψ a S' ρ' H') : Mt G ρ S H r Ψ := by
  cases r with
  | ok a S1 e => exact fun ρ1 H1 R1 st1 => k _ _ _ _ _ rfl R1 st1 (h ρ1 H1 R1 st1)
  | exn x S1 e => exact h
  | stuck => exact h
theorem bind_ok {α β : Type} {r : Res α} {f : α → Store → Res β} {b : β} {S' : Store} {e : Esc} (h : r.bind f = .ok b S' e) : ∃ a S1 e1 e2, r = .ok a S1 e1 ∧ f a S1 = .ok b S' e2 ∧ e = emin e1 e2 := by
  cases r with
  | ok a S1 e1 =>
    have h : (f a S1).note e1 = .ok b S' e := h
    generalize hq : f a S1 = q at h
    cases q with
    | ok c S2 e2 => cases h; exact ⟨a, S1, e1, e2, rfl, hq, rfl⟩
    | exn x S2 e2 => cases h
    | stuck => cases h
  | exn x S1 e1 => cases h
  | stuck => cases h
/-! ### names, constants -/
theorem idx_get : ∀ {N : List Str} {x : Str} {i : Nat}, idx N x = some i → N[i]? = some x
  | [], _, _, h => by cases h
  | y :: r, x, i, h => by
    unfold idx at h
    split at h
    · rename_i e; cases h; rw [e]; rfl
    · rw [Option.map_eq_some_iff] at h
      obtain ⟨j, hj, rfl⟩ := h
      simpa using idx_get hj
theorem okName_of {x : Str} (h : okName x = true) : (x == ("__debug__" : Str)) = false ∧ (x == ("__classdict__" : Str)) = false ∧ x ≠ "__name__" := by
  unfold okName at h
  simp only [Bool.and_eq_true, Bool.not_eq_true'] at h
  exact ⟨h.1.1, h.1.2, fun e => by rw [e] at h; simp at h⟩
theorem trVar_of {x : Str} {i : Nat} (h : trVar N sc x = some i) : N[i]? = some x ∧ Vis sc x := by
  unfold trVar at h
  split at h
  · rename_i e; exact ⟨idx_get h, .inl e⟩
  · rename_i e; exact ⟨idx_get h, .inr (.inl e)⟩
  · rename_i e; exact ⟨idx_get h, .inr (.inr e)⟩
  · cases h
theorem isGlob_of {X : Cx} (cs : Cs G N sc n X) {x : Str} (h : isGlob sc x = true) : L2.Gl X x := by
  unfold isGlob at h
  split at h
  · rename_i e
    show X.env.scope.names.lookup x = _
    rw [cs.sc]; exact e
  · cases h
theorem keep_none {H : Hp} : Keep (fun _ => none) H := ⟨fun _ _ h => (by cases h), fun _ _ _ h => (by cases h)⟩
theorem boot_ty : ∀ {x : Str} {t : String}, tyNames.lookup x = some t → bootBuiltins x = some (.type t) := by
  have h : ∀ p ∈ tyNames, bootBuiltins p.1 = some (.type p.2) := by decide +kernel
  intro x t e
  exact h (x, t) (PySem.mem_of_lookup e)
theorem s_name (ok : GlOk G gl) {x : Str} {c : CE} {pos : Pos} (h : trName gl N sc x = some c) : SimE G C n N sc (.Name x pos) c := by
  intro X cs ρ S H σd σ R RE Q hq
  unfold trName at h
  split at h
  case isFalse => cases h
  rename_i hx
  obtain ⟨d1, d2, d3⟩ := okName_of hx
  split at h
  · rename_i i hi
    cases h
    obtain ⟨hN, hv⟩ := trVar_of hi
    unfold evE at hq
    split at hq
    · rename_i d e
      obtain ⟨v, hv', hr⟩ := RE.at_ i d e
      refine .of (pe_var (by rw [cs.hN]; exact hN) (by rw [cs.sc]; exact hv) d1 d2) ⟨v, hv', ?_⟩
      exact MtV.same hq R hr
    · exact hq.elim
  · split at h
    case isFalse => cases h
    rename_i hg
    have gx := isGlob_of cs hg
    split at h
    · rename_i i hi
      cases h
      obtain ⟨a, hm, hf⟩ := ok.fn x i hi
      unfold evE at hq
      exact .of (pe_glob (v := .ref a) gx (by rw [cs.mg]; exact hm) rfl d1) (MtV.same hq R (.fn hf))
    · split at h
      · rename_i d hd
        cases h
        obtain ⟨u, v, hm, hr, hv⟩ := ok.con x d hd
        unfold evE at hq
        exact .of (pe_glob gx (by rw [cs.mg]; exact hm) hr d1) (MtV.same hq R (hv.mono (List.nil_prefix) keep_none))
      · split at h
        case isFalse => cases h
        rename_i hfree
        rw [Option.map_eq_some_iff] at h
        obtain ⟨t, ht, rfl⟩ := h
        unfold evE at hq
        exact .of (pe_bltn (v := .ty t) gx (by rw [cs.mg]; exact ok.free x hfree) (boot_ty ht) rfl d3 d1) (MtV.same hq R (.ty t))
theorem s_const {k : Const} {d : D} {j : Nat} {pos : Pos} (h : trConst k = some d) : SimE G C n N sc (.Constant k j pos) (.cst d) := by
  intro X cs ρ S H σd σ R RE Q hq
  unfold evE at hq
  cases k with
  | int i => cases h; exact .of pe_int (MtV.same hq R (.int i))
  | bool b => cases h; exact .of pe_bl (MtV.same hq R (.bl b))
  | none => cases h; exact .of pe_non (MtV.same hq R .non)
  | str x =>
    cases h
    refine .of pe_str ?_
    have t := MtV.same hq R (.str x.cps.toList)
    have e : (⟨x.cps.toList.toArray⟩ : Str) = x := by simp
    rw [e] at t
    exact t
  | _ => cases h

/-! ### rows of expressions -/
theorem star_cons {e : Expr} {es : List Expr} {env : Env} (h : ∀ x p, e ≠ .Starred x p) : starEach (e :: es) env = (false, eval e env) :: starEach es env := by
  cases e with
  | Starred x p => exact absurd rfl (h x p)
  | _ => rfl
theorem s_anil : SimA G C n N sc [] [] := by
  intro X cs ρ S H σd σ R RE Q hq pos pins s I
  unfold evEs at hq
  exact pa_nil.run pos pins s σ H Q I (Mt.here hq R _ .nil)
theorem s_acons {e : Expr} {es : List Expr} {c : CE} {cs' : List CE} (hs : ∀ x p, e ≠ .Starred x p) (he : SimE G C n N sc e c) (hes : SimA G C n N sc es cs') : SimA G C n N sc (e :: es) (c :: cs') := by
  intro X cs ρ S H σd σ R RE Q hq pos pins s I
  unfold evEs at hq
  refine (pa_cons (pe_sem X e) (pa_sem X es) (star_cons hs)).run pos pins s σ H Q I ?_
  refine he X cs ρ S H σd σ R RE _ (Mt.go (Mt.bind hq) fun d S1 ρ1 H1 e1 R1 st1 h1 v hv => ?_)
  refine hes X cs ρ1 S1 H1 σd σ R1 (RE.mono st1.pre st1.keep) _ (Mt.go (Mt.bind h1) fun ds S2 ρ2 H2 e2 R2 st2 h2 vs hvs => ?_)
  exact Mt.here h2 R2 _ (.cons (hv.mono st2.pre st2.keep) hvs)
theorem s_knil : SimK G C n N sc [] [] := by
  intro X cs ρ S H σd σ R RE Q hq pos pins s I
  unfold evEs at hq
  exact pk_nil.run pos pins s σ H Q I (Mt.here hq R _ .nil)
theorem s_kcons {nm : Option Str} {e : Expr} {kp : Pos} {es : List Keyword} {c : CE} {cs' : List CE} (he : SimE G C n N sc e c) (hes : SimK G C n N sc es cs') : SimK G C n N sc (⟨nm, e, kp⟩ :: es) (c :: cs') := by
  intro X cs ρ S H σd σ R RE Q hq pos pins s I
  unfold evEs at hq
  refine (pk_cons (pe_sem X e) (pk_sem X es)).run pos pins s σ H Q I ?_
  refine he X cs ρ S H σd σ R RE _ (Mt.go (Mt.bind hq) fun d S1 ρ1 H1 e1 R1 st1 h1 v hv => ?_)
  refine hes X cs ρ1 S1 H1 σd σ R1 (RE.mono st1.pre st1.keep) _ (Mt.go (Mt.bind h1) fun ds S2 ρ2 H2 e2 R2 st2 h2 vs hvs => ?_)
  exact Mt.here h2 R2 _ (.cons (hv.mono st2.pre st2.keep) hvs)
theorem evEs_append (cs1 cs2 : List CE) (σd : Envr) : ∀ (S : Store), evEs C (cs1 ++ cs2) σd S = (evEs C cs1 σd S).bind fun xs S1 => (evEs C cs2 σd S1).bind fun ys S2 => .ok (xs ++ ys) S2 none := by
  induction cs1 with
  | nil =>
    intro S
    simp only [List.nil_append, evEs]
    show _ = ((evEs C cs2 σd S).bind fun ys S2 => .ok ([] ++ ys) S2 none).note none
    cases evEs C cs2 σd S with
    | ok ys S2 e => cases e <;> rfl
    | exn y S2 e => rfl
    | stuck => rfl
  | cons c cs1 ih =>
    intro S
    simp only [List.cons_append, evEs]
    cases evE C c σd S with
    | ok x S1 e =>
      show (((evEs C (cs1 ++ cs2) σd S1).bind fun vs S2 => .ok (x :: vs) S2 none)).note e = _
      rw [ih S1]
      show _ = ((((evEs C cs1 σd S1).bind fun vs S2 => .ok (x :: vs) S2 none).note e).bind _)
      cases evEs C cs1 σd S1 with
      | ok xs S2 e2 =>
        simp only [Res.bind, Res.note]
        cases evEs C cs2 σd S2 with
        | ok ys S3 e3 =>
          simp only [Res.bind, Res.note]
          cases e <;> cases e2 <;> cases e3 <;> simp [emin, List.cons_append, Nat.min_assoc]
        | exn y S3 e3 =>
          simp only [Res.bind, Res.note]
          cases e <;> cases e2 <;> cases e3 <;> simp [emin, Nat.min_assoc]
        | stuck => rfl
      | exn y S2 e2 => rfl
      | stuck => rfl
    | exn y S1 e => rfl
    | stuck => rfl

/-! ### displays, operators -/
theorem s_tuple {es : List Expr} {cs' : List CE} {k : Nat} {pos : Pos} (h : SimA G C n N sc es cs') : SimE G C n N sc (.Tuple es k pos) (.tup cs') := by
  intro X cs ρ S H σd σ R RE Q hq
  unfold evE at hq
  refine .of (pe_tup (pa_sem X es)) ?_
  refine h X cs ρ S H σd σ R RE _ (Mt.go (Mt.bind hq) fun ds S1 ρ1 H1 e1 R1 st1 h1 vs hvs => ?_)
  obtain ⟨hz, h1⟩ := guardM h1
  exact ⟨by rw [← hvs.length]; exact hz, fun p hp => MtV.newT h1 R1 hvs hp⟩
theorem s_list {es : List Expr} {cs' : List CE} {pos : Pos} (h : SimA G C n N sc es cs') : SimE G C n N sc (.List es pos) (.lst cs') := by
  intro X cs ρ S H σd σ R RE Q hq
  unfold evE at hq
  refine .of (pe_lst (pa_sem X es)) ?_
  refine h X cs ρ S H σd σ R RE _ (Mt.go (Mt.bind hq) fun ds S1 ρ1 H1 e1 R1 st1 h1 vs hvs => ?_)
  obtain ⟨hz, h1⟩ := guardM h1
  exact ⟨by rw [← hvs.length]; exact hz, fun p hp => MtV.newL h1 R1 hvs hp⟩
theorem trOp_of {op : Operator} {o : BOp} (h : trOp op = some o) : op = opOf o := by
  cases op <;> first | (cases h; rfl) | cases h
theorem s_bin {op : Operator} {o : BOp} {a b : Expr} {x y : CE} {pos : Pos} (ho : trOp op = some o) (ha : SimE G C n N sc a x) (hb : SimE G C n N sc b y) : SimE G C n N sc (.BinOp a op b pos) (.bin o x y) := by
  cases trOp_of ho
  intro X cs ρ S H σd σ R RE Q hq
  unfold evE at hq
  refine .of (pe_op (tOS_op X (binaryOp (opOf o))) (pe_sem X a) (pe_sem X b)) ?_
  refine ha X cs ρ S H σd σ R RE _ (Mt.go (Mt.bind hq) fun d S1 ρ1 H1 e1 R1 st1 h1 v hv => ?_)
  refine hb X cs ρ1 S1 H1 σd σ R1 (RE.mono st1.pre st1.keep) _ (Mt.go (Mt.bind h1) fun d2 S2 ρ2 H2 e2 R2 st2 h2 v2 hv2 => ?_)
  exact bin_snd cs.toCb R2 o (hv.mono st2.pre st2.keep) hv2 h2
theorem s_neg {a : Expr} {x : CE} {pos : Pos} (ha : SimE G C n N sc a x) : SimE G C n N sc (.UnaryOp .USub a pos) (.neg x) := by
  intro X cs ρ S H σd σ R RE Q hq
  unfold evE at hq
  refine .of (pe_un un_neg (pe_sem X a)) ?_
  refine ha X cs ρ S H σd σ R RE _ (Mt.go (Mt.bind hq) fun d S1 ρ1 H1 e1 R1 st1 h1 v hv => ?_)
  cases hv with
  | int i => exact ⟨i, rfl, MtV.same h1 R1 (.int _)⟩
  | _ => exact h1.elim
theorem truthR_of {ρ : List Addr} {S : Store} {H : Hp} {d : D} {Φ : Bool → Store → List Addr → Hp → Prop} (h : Mt G ρ S H (truthR d S) Φ) (R : RelS G ρ S H) : ∃ b, d.truthy S = some b ∧ Φ b S ρ H := by
  unfold truthR ofOpt at h
  split at h
  · rename_i b e
    exact ⟨b, e, Mt.here h R⟩
  · exact h.elim
theorem s_not {a : Expr} {x : CE} {pos : Pos} (ha : SimE G C n N sc a x) : SimE G C n N sc (.UnaryOp .Not a pos) (.not x) := by
  intro X cs ρ S H σd σ R RE Q hq
  unfold evE at hq
  refine .of (pe_notT (pe_sem X a)) ?_
  refine ha X cs ρ S H σd σ R RE _ (Mt.go (Mt.bind hq) fun d S1 ρ1 H1 e1 R1 st1 h1 v hv => ?_)
  obtain ⟨b, hb, h2⟩ := truthR_of (Mt.bind h1) R1
  exact ⟨b, cs.K ▸ tru_of R1 hv hb, MtV.same h2 R1 (.bl _)⟩
theorem s_and {a b : Expr} {r : List Expr} {x y : CE} {pos : Pos} (ha : SimE G C n N sc a x) (hb : SimE G C n N sc (.BoolOp .And (b :: r) pos) y) : SimE G C n N sc (.BoolOp .And (a :: b :: r) pos) (.and x y) := by
  intro X cs ρ S H σd σ R RE Q hq
  unfold evE at hq
  refine .of (pe_andT (pe_sem X a) (pe_sem X _)) ?_
  refine ha X cs ρ S H σd σ R RE _ (Mt.go (Mt.bind hq) fun d S1 ρ1 H1 e1 R1 st1 h1 v hv => ?_)
  obtain ⟨t, ht, h2⟩ := truthR_of (Mt.bind h1) R1
  refine ⟨t, cs.K ▸ tru_of R1 hv ht, ?_⟩
  cases t with
  | true => exact hb X cs ρ1 S1 H1 σd σ R1 (RE.mono st1.pre st1.keep) Q h2
  | false => exact MtV.same h2 R1 hv
theorem s_or {a b : Expr} {r : List Expr} {x y : CE} {pos : Pos} (ha : SimE G C n N sc a x) (hb : SimE G C n N sc (.BoolOp .Or (b :: r) pos) y) : SimE G C n N sc (.BoolOp .Or (a :: b :: r) pos) (.or x y) := by
  intro X cs ρ S H σd σ R RE Q hq
  unfold evE at hq
  refine .of (pe_orT (pe_sem X a) (pe_sem X _)) ?_
  refine ha X cs ρ S H σd σ R RE _ (Mt.go (Mt.bind hq) fun d S1 ρ1 H1 e1 R1 st1 h1 v hv => ?_)
  obtain ⟨t, ht, h2⟩ := truthR_of (Mt.bind h1) R1
  refine ⟨t, cs.K ▸ tru_of R1 hv ht, ?_⟩
  cases t with
  | true => exact MtV.same h2 R1 hv
  | false => exact hb X cs ρ1 S1 H1 σd σ R1 (RE.mono st1.pre st1.keep) Q h2
theorem s_one {op : BoolOp} {a : Expr} {x : CE} {pos : Pos} (ha : SimE G C n N sc a x) : SimE G C n N sc (.BoolOp op [a] pos) x := by
  intro X cs ρ S H σd σ R RE Q hq
  exact .of (pe_one (pe_sem X a)) (ha X cs ρ S H σd σ R RE Q hq)
theorem trCmp_of (op : CmpOp) : op = copOf (trCmp op) := by cases op <;> rfl
theorem s_cmp {op : CmpOp} {a b : Expr} {x y : CE} {pos : Pos} (hm : behindInMarks op b = false) (ha : SimE G C n N sc a x) (hb : SimE G C n N sc b y) : SimE G C n N sc (.Compare a [op] [b] pos) (.cmp (trCmp op) x y) := by
  intro X cs ρ S H σd σ R RE Q hq
  unfold evE at hq
  refine .of (pe_cmpR (tOS_op X (compareOp op)) (pe_sem X a) (pe_sem X b) hm) ?_
  refine ha X cs ρ S H σd σ R RE _ (Mt.go (Mt.bind hq) fun d S1 ρ1 H1 e1 R1 st1 h1 v hv => ?_)
  refine hb X cs ρ1 S1 H1 σd σ R1 (RE.mono st1.pre st1.keep) _ (Mt.go (Mt.bind h1) fun d2 S2 ρ2 H2 e2 R2 st2 h2 v2 hv2 => ?_)
  have := cmp_snd cs.toCb R2 (trCmp op) (hv.mono st2.pre st2.keep) hv2 h2
  rw [← trCmp_of] at this
  exact this
theorem s_ite {c a b : Expr} {z x y : CE} {pos : Pos} (hc : SimT G C n N sc c z) (ha : SimE G C n N sc a x) (hb : SimE G C n N sc b y) : SimE G C n N sc (.IfExp c a b pos) (.ite z x y) := by
  intro X cs ρ S H σd σ R RE Q hq
  unfold evE at hq
  refine .of (pe_ifExp (pt_sem X c) (pe_sem X a) (pe_sem X b)) ?_
  refine hc X cs ρ S H σd σ R RE _ (Mt.go (Mt.bind hq) fun t S1 ρ1 H1 e1 R1 st1 h1 => ?_)
  cases t with
  | true => exact ha X cs ρ1 S1 H1 σd σ R1 (RE.mono st1.pre st1.keep) Q h1
  | false => exact hb X cs ρ1 S1 H1 σd σ R1 (RE.mono st1.pre st1.keep) Q h1
theorem plainIx_of {e : Expr} (h : isSlice e = false) : PlainIx e := by
  intro o i
  cases e with
  | Slice => cases h
  | _ => rfl
theorem s_ix {a i : Expr} {x y : CE} {pos : Pos} (hs : isSlice i = false) (ha : SimE G C n N sc a x) (hi : SimE G C n N sc i y) : SimE G C n N sc (.Subscript a i pos) (.ix x y) := by
  intro X cs ρ S H σd σ R RE Q hq
  unfold evE at hq
  refine .of (pe_ix (tIxS_r X) (pe_sem X a) (pe_sem X i) (plainIx_of hs)) ?_
  refine ha X cs ρ S H σd σ R RE _ (Mt.go (Mt.bind hq) fun d S1 ρ1 H1 e1 R1 st1 h1 v hv => ?_)
  refine hi X cs ρ1 S1 H1 σd σ R1 (RE.mono st1.pre st1.keep) _ (Mt.go (Mt.bind h1) fun d2 S2 ρ2 H2 e2 R2 st2 h2 v2 hv2 => ?_)
  exact ix_snd cs.toCb R2 (hv.mono st2.pre st2.keep) hv2 h2
def tSO (X : Cx) (e : Option Expr) : TO := fun σ H Q => ∀ (pins : List (Addr × Obj)) (s : Shared), Inv X pins σ H s → wpAny (model X.prog X.w) X.A (evalPart e X.env) (fun u s' => ∃ o H', Inv X pins σ H' s' ∧ IsPart u o ∧ Q o H') X.xe s
theorem po_sem (X : Cx) (e : Option Expr) : PO X e (tSO X e) := ⟨fun pins s σ H Q I h => h pins s I⟩
def SimO (G : Gc) (C : Ctx) (n : Nat) (N : List Str) (sc : Scope) (e : Option Expr) (cs : List CE) : Prop := ∀ (X : Cx), Cs G N sc n X → ∀ (ρ : List Addr) (S : Store) (H : Hp) (σd : Envr) (σ : L2.St), RelS G ρ S H → RelE G ρ H σd σ →
  ∀ Q : Option Int → Hp → Prop, Mt G ρ S H (evO C cs σd S) (fun o _ _ H' => Q o H') → tSO X e σ H Q
theorem s_onone : SimO G C n N sc none [] := by
  intro X cs ρ S H σd σ R RE Q hq pins s I
  unfold evO at hq
  exact po_none.run pins s σ H Q I (Mt.here hq R)
theorem s_osome {e : Expr} {c : CE} (h : SimE G C n N sc e c) : SimO G C n N sc (some e) [c] := by
  intro X cs ρ S H σd σ R RE Q hq pins s I
  unfold evO at hq
  refine (po_some (pe_sem X e)).run pins s σ H Q I ?_
  refine h X cs ρ S H σd σ R RE _ (Mt.go (Mt.bind hq) fun d S1 ρ1 H1 e1 R1 st1 h1 v hv => ?_)
  cases hv with
  | int i => exact ⟨i, rfl, Mt.here h1 R1⟩
  | _ => exact h1.elim
theorem s_slice {a : Expr} {lo hi : Option Expr} {x : CE} {l h : List CE} {p2 pos : Pos} (ha : SimE G C n N sc a x) (hl : SimO G C n N sc lo l) (hh : SimO G C n N sc hi h) : SimE G C n N sc (.Subscript a (.Slice lo hi none p2) pos) (.slice x l h) := by
  intro X cs ρ S H σd σ R RE Q hq
  unfold evE at hq
  refine .of (pe_slice (tSlS_r X) (pe_sem X a) (po_sem X lo) (po_sem X hi)) ?_
  refine ha X cs ρ S H σd σ R RE _ (Mt.go (Mt.bind hq) fun d S1 ρ1 H1 e1 R1 st1 h1 v hv => ?_)
  refine hl X cs ρ1 S1 H1 σd σ R1 (RE.mono st1.pre st1.keep) _ (Mt.go (Mt.bind h1) fun d2 S2 ρ2 H2 e2 R2 st2 h2 => ?_)
  refine hh X cs ρ2 S2 H2 σd σ R2 ((RE.mono st1.pre st1.keep).mono st2.pre st2.keep) _ (Mt.go (Mt.bind h2) fun d3 S3 ρ3 H3 e3 R3 st3 h3 => ?_)
  exact slice_snd cs.toCb R3 ((hv.mono st2.pre st2.keep).mono st3.pre st3.keep) h3
theorem s_rev {a : Expr} {x : CE} {k : Nat} {p1 p2 p3 pos : Pos} (ha : SimE G C n N sc a x) : SimE G C n N sc (.Subscript a (.Slice none none (some (.UnaryOp .USub (.Constant (.int 1) k p1) p2)) p3) pos) (.rev x) := by
  intro X cs ρ S H σd σ R RE Q hq pins s I
  unfold evE at hq
  refine Subscript_ (thn (ha X cs ρ S H σd σ R RE (fun v H1 => tBkS X v H1 Q) (Mt.go (Mt.bind hq) fun d S1 ρ1 H1 e1 R1 st1 h1 v hv => rev_snd cs.toCb R1 hv h1) pins s I) fun v s1 ⟨y, H1, I1, r1, q1⟩ => ?_)
  have hst : PO X (some (.UnaryOp .USub (.Constant (.int 1) k p1) p2)) (tPart (tUn (rU fun i => .int (-i)) (tC (.int 1)))) := po_some (pe_un un_neg pe_int)
  refine wpAny_Slice (thn (po_none.run pins s1 σ H1 (fun o H2 => o = none ∧ H2 = H1) I1 ⟨rfl, rfl⟩) fun vl s2 ⟨l, H2, I2, pl, el, e2⟩ => ?_)
  subst el e2
  refine thn (po_none.run pins s2 σ H2 (fun o H3 => o = none ∧ H3 = H2) I2 ⟨rfl, rfl⟩) fun vu s3 ⟨u, H3, I3, pu, eu, e3⟩ => ?_
  subst eu e3
  refine thn (hst.run pins s3 σ H3 (fun o H4 => o = some (-1) ∧ H4 = H3) I3 ⟨1, rfl, -1, rfl, rfl, rfl⟩) fun vs s4 ⟨o, H4, I4, ps, eo, e4⟩ => ?_
  subst eo e4
  have I5 : Inv X pins σ H4 { s4 with heap := s4.heap.push { cls := .type "slice", data := .fields #[vl, vu, vs] } } := I4.kept (t' := s4.toks) fun b ob q => Heap.get?_push_of_some _ q
  obtain ⟨T, id, hl, hT, hw⟩ := q1 pins _ σ v vl vu vs s4.heap.objs.size I5 r1 (Heap.IsSliceOf.new _ vl vu vs) pl pu ps
  exact tail_any (ops := [v, .ref s4.heap.objs.size]) hT hl hw (by with_unfolding_all rfl)
theorem evEs_len : ∀ {cs' : List CE} {σd : Envr} {S S' : Store} {ds : List D} {e : Esc}, evEs C cs' σd S = .ok ds S' e → ds.length = cs'.length
  | [], σd, S, S', ds, e, h => by unfold evEs at h; cases h; rfl
  | c :: cs', σd, S, S', ds, e, h => by
    unfold evEs at h
    obtain ⟨d, S1, e1, e2, h1, h2, _⟩ := bind_ok h
    obtain ⟨ds', S2, e3, e4, h3, h4, _⟩ := bind_ok h2
    cases h4
    simp [evEs_len h3]
end
end NF

/-! NFSnd2: tests, calls, targets, what is walked, comprehensions. -/
namespace NF
open PySem PySem.Spec PyProof.Rows L2
section
variable {G : Gc} {gl : Gm} {C : Ctx} {n : Nat} {N : List Str} {sc : Scope}

/-! ### tests -/
def tSW (X : Cx) (e : Expr) : TT := fun σ H Q => ∀ (whole : Sem Value) (pins : List (Addr × Obj)) (s : Shared), Inv X pins σ H s → wpAny (model X.prog X.w) X.A (isTrue e X.env whole) (TP X pins σ Q) X.xe s
theorem pw_sem (X : Cx) (e : Expr) : PW X e (tSW X e) := ⟨fun whole pins s σ H Q I h => h whole pins s I⟩
theorem tSW.of {X : Cx} {e : Expr} {t : TT} (p : PW X e t) {σ : L2.St} {H : Hp} {Q : Bool → Hp → Prop} (h : t σ H Q) : tSW X e σ H Q := fun whole pins s I => p.run whole pins s σ H Q I h
def SimW (G : Gc) (C : Ctx) (n : Nat) (N : List Str) (sc : Scope) (e : Expr) (c : CE) : Prop := ∀ (X : Cx), Cs G N sc n X → ∀ (ρ : List Addr) (S : Store) (H : Hp) (σd : Envr) (σ : L2.St), RelS G ρ S H → RelE G ρ H σd σ → ∀ Q : Bool → Hp → Prop, Mt G ρ S H (evT C c σd S) (fun b _ _ H' => Q b H') → tSW X e σ H Q
theorem SimW.t {e : Expr} {c : CE} (h : SimW G C n N sc e c) : SimT G C n N sc e c := fun X cs ρ S H σd σ R RE Q hq pins s I => h X cs ρ S H σd σ R RE Q hq _ pins s I
theorem t_not {a : Expr} {x : CE} {pos : Pos} (ha : SimT G C n N sc a x) : SimT G C n N sc (.UnaryOp .Not a pos) (.not x) := by
  intro X cs ρ S H σd σ R RE Q hq
  unfold evT at hq
  refine .of (pt_not (pt_sem X a)) ?_
  exact ha X cs ρ S H σd σ R RE _ (Mt.go (Mt.bind hq) fun t S1 ρ1 H1 e1 R1 st1 h1 => Mt.here h1 R1)
theorem t_ite {c a b : Expr} {z x y : CE} {pos : Pos} (hc : SimT G C n N sc c z) (ha : SimT G C n N sc a x) (hb : SimT G C n N sc b y) : SimT G C n N sc (.IfExp c a b pos) (.ite z x y) := by
  intro X cs ρ S H σd σ R RE Q hq pins s I
  unfold evT at hq
  refine isTrue_IfExp (thn (hc X cs ρ S H σd σ R RE (fun t H1 => if t = true then tST X a σ H1 Q else tST X b σ H1 Q) (Mt.go (Mt.bind hq) fun t S1 ρ1 H1 e1 R1 st1 h1 => ?_) pins s I) fun t s1 ⟨H1, I1, q1⟩ => ?_)
  · cases t with
    | true => exact ha X cs ρ1 S1 H1 σd σ R1 (RE.mono st1.pre st1.keep) Q h1
    | false => exact hb X cs ρ1 S1 H1 σd σ R1 (RE.mono st1.pre st1.keep) Q h1
  · cases t with
    | true => exact q1 pins s1 I1
    | false => exact q1 pins s1 I1
theorem t_cmp {op : CmpOp} {a b : Expr} {x y : CE} {pos : Pos} (hm : behindInMarks op b = false) (ha : SimE G C n N sc a x) (hb : SimE G C n N sc b y) : SimT G C n N sc (.Compare a [op] [b] pos) (.cmp (trCmp op) x y) := by
  intro X cs ρ S H σd σ R RE Q hq
  unfold evT at hq
  refine .of (pt_cmpR (tOS_op X (compareOp op)) (pe_sem X a) (pe_sem X b) hm) ?_
  refine ha X cs ρ S H σd σ R RE _ (Mt.go (Mt.bind hq) fun d S1 ρ1 H1 e1 R1 st1 h1 v hv => ?_)
  refine hb X cs ρ1 S1 H1 σd σ R1 (RE.mono st1.pre st1.keep) _ (Mt.go (Mt.bind h1) fun d2 S2 ρ2 H2 e2 R2 st2 h2 v2 hv2 => ?_)
  have := cmp_snd (Q := fun z H' => ∃ k, z = .bl k ∧ Q k H') cs.toCb R2 (trCmp op) (hv.mono st2.pre st2.keep) hv2 (Mt.go (Mt.bind h2) fun d3 S3 ρ3 H3 e3 R3 st3 h3 v3 hv3 => ?_)
  · rw [← trCmp_of] at this
    exact this
  · cases hv3 with
    | bl t => exact ⟨t, rfl, Mt.here h3 R3⟩
    | _ => exact h3.elim
theorem w_one {op : BoolOp} {a : Expr} {x : CE} {pos : Pos} (ha : SimT G C n N sc a x) : SimW G C n N sc (.BoolOp op [a] pos) x := by
  intro X cs ρ S H σd σ R RE Q hq
  cases op with
  | And => exact .of (pw_and1 (pt_sem X a)) (ha X cs ρ S H σd σ R RE Q hq)
  | Or => exact .of (pw_or1 (pt_sem X a)) (ha X cs ρ S H σd σ R RE Q hq)
theorem w_and {a b : Expr} {r : List Expr} {x y : CE} {pos : Pos} (ha : SimT G C n N sc a x) (hb : SimW G C n N sc (.BoolOp .And (b :: r) pos) y) : SimW G C n N sc (.BoolOp .And (a :: b :: r) pos) (.and x y) := by
  intro X cs ρ S H σd σ R RE Q hq
  unfold evT at hq
  refine .of (pw_and (pt_sem X a) (pw_sem X _)) ?_
  refine ha X cs ρ S H σd σ R RE _ (Mt.go (Mt.bind hq) fun t S1 ρ1 H1 e1 R1 st1 h1 => ?_)
  cases t with
  | true => exact hb X cs ρ1 S1 H1 σd σ R1 (RE.mono st1.pre st1.keep) Q h1
  | false => exact Mt.here h1 R1
theorem w_or {a b : Expr} {r : List Expr} {x y : CE} {pos : Pos} (ha : SimT G C n N sc a x) (hb : SimW G C n N sc (.BoolOp .Or (b :: r) pos) y) : SimW G C n N sc (.BoolOp .Or (a :: b :: r) pos) (.or x y) := by
  intro X cs ρ S H σd σ R RE Q hq
  unfold evT at hq
  refine .of (pw_or (pt_sem X a) (pw_sem X _)) ?_
  refine ha X cs ρ S H σd σ R RE _ (Mt.go (Mt.bind hq) fun t S1 ρ1 H1 e1 R1 st1 h1 => ?_)
  cases t with
  | true => exact Mt.here h1 R1
  | false => exact hb X cs ρ1 S1 H1 σd σ R1 (RE.mono st1.pre st1.keep) Q h1
/-- an expression whose truth is asked -/
def plainT (e : Expr) : Bool := match e with
  | .UnaryOp .Not _ _ => false
  | .BoolOp .. => false
  | .IfExp .. => false
  | .Compare .. => false
  | _ => true
def plainC (c : CE) : Bool := match c with
  | .and .. => false
  | .or .. => false
  | .not .. => false
  | .ite .. => false
  | .cmp .. => false
  | _ => true
theorem isTrue_of {e : Expr} {env : Env} (h : plainT e = true) (whole : Sem Value) : isTrue e env whole = (do let v ← whole; standAt e.pos; holding [v] (truthy v)) := by
  cases e with
  | UnaryOp op a p => cases op <;> first | rfl | cases h
  | BoolOp => cases h
  | IfExp => cases h
  | Compare => cases h
  | _ => rfl
theorem evT_of {c : CE} (h : plainC c = true) (σd : Envr) (S : Store) : evT C c σd S = (evE C c σd S).bind fun x S1 => truthR x S1 := by
  cases c <;> first | rfl | (unfold evT; rfl) | cases h
theorem t_plain {e : Expr} {c : CE} (h1 : plainT e = true) (h2 : plainC c = true) (he : SimE G C n N sc e c) : SimT G C n N sc e c := by
  intro X cs ρ S H σd σ R RE Q hq
  rw [evT_of h2] at hq
  refine .of (pt_truth (pe_sem X e) (isTrue_of h1)) ?_
  refine he X cs ρ S H σd σ R RE _ (Mt.go (Mt.bind hq) fun d S1 ρ1 H1 e1 R1 st1 h1 v hv => ?_)
  obtain ⟨b, hb, h2⟩ := truthR_of h1 R1
  exact ⟨b, cs.K ▸ tru_of R1 hv hb, h2⟩

/-! ### calls -/
theorem noStar {es : List Expr} (h : ∀ e ∈ es, ∀ x p, e ≠ .Starred x p) {env : Env} : starEach es env = es.map fun e => (false, eval e env) := by
  induction es with
  | nil => rfl
  | cons e es ih => rw [star_cons (h e List.mem_cons_self), ih fun e he => h e (List.mem_cons_of_mem _ he)]; rfl
theorem back_any {es : List Expr} (h : ∀ e ∈ es, ∀ x p, e ≠ .Starred x p) {env : Env} {pos : Pos} : (backTo pos (starEach es env)).any (·.1) = false := by
  rw [noStar h]
  unfold backTo
  induction es with
  | nil => rfl
  | cons e es ih => 
    have := ih fun e he => h e (List.mem_cons_of_mem _ he)
    simpa using this
theorem s_bi (ok : GlOk G gl) {x : Str} {es : List Expr} {cs' : List CE} {b : BI} {p pos : Pos} (hx : okName x = true) (hg : isGlob sc x = true) (hf : gl.free.contains x = true) (hb : lookD (x, es.length) biNames = some b)
    (hs : ∀ e ∈ es, ∀ x p, e ≠ .Starred x p) (h : SimA G C n N sc es cs') : SimE G C n N sc (.Call (.Name x p) es [] pos) (.bi b cs') := by
  intro X cs ρ S H σd σ R RE Q hq
  unfold evE at hq
  obtain ⟨d1, d2, d3⟩ := okName_of hx
  have gx := isGlob_of cs hg
  have mx : X.mg x = none := by rw [cs.mg]; exact ok.free x hf
  have key : ∀ q ∈ biNames, (q.1.2 = 1 ∨ q.1.2 = 2) ∧ ((∃ id, biV q.2 = .builtin id ∧ bootBuiltins q.1.1 = some (.builtin id)) ∨ ∃ T, biV q.2 = .type T ∧ bootBuiltins q.1.1 = some (.type T)) := by
    intro q hq
    unfold biNames at hq
    simp only [List.mem_cons, List.not_mem_nil, or_false] at hq
    rcases hq with rfl | rfl | rfl | rfl | rfl | rfl | rfl | rfl | rfl | rfl | rfl | rfl | rfl | rfl | rfl
    · exact ⟨.inl rfl, .inl ⟨_, rfl, by decide +kernel⟩⟩
    · exact ⟨.inr rfl, .inl ⟨_, rfl, by decide +kernel⟩⟩
    · exact ⟨.inr rfl, .inl ⟨_, rfl, by decide +kernel⟩⟩
    · exact ⟨.inr rfl, .inl ⟨_, rfl, by decide +kernel⟩⟩
    · exact ⟨.inl rfl, .inl ⟨_, rfl, by decide +kernel⟩⟩
    · exact ⟨.inl rfl, .inl ⟨_, rfl, by decide +kernel⟩⟩
    · exact ⟨.inl rfl, .inr ⟨_, rfl, by decide +kernel⟩⟩
    · exact ⟨.inl rfl, .inr ⟨_, rfl, by decide +kernel⟩⟩
    · exact ⟨.inl rfl, .inr ⟨_, rfl, by decide +kernel⟩⟩
    · exact ⟨.inl rfl, .inr ⟨_, rfl, by decide +kernel⟩⟩
    · exact ⟨.inl rfl, .inr ⟨_, rfl, by decide +kernel⟩⟩
    · exact ⟨.inl rfl, .inl ⟨_, rfl, by decide +kernel⟩⟩
    · exact ⟨.inl rfl, .inl ⟨_, rfl, by decide +kernel⟩⟩
    · exact ⟨.inl rfl, .inl ⟨_, rfl, by decide +kernel⟩⟩
    · exact ⟨.inl rfl, .inr ⟨_, rfl, by decide +kernel⟩⟩
  obtain ⟨hl, hv⟩ := key _ (lookD_mem hb)
  cases es with
  | nil => rcases hl with hl | hl <;> cases hl
  | cons e es =>
    have hs' : ∀ e ∈ es, ∀ x p, e ≠ .Starred x p := fun e he => hs e (List.mem_cons_of_mem _ he)
    have fin : tSA X (e :: es) σ H fun vs H1 => tCS X (biV b) vs H1 Q :=
      h X cs ρ S H σd σ R RE _ (Mt.go (Mt.bind hq) fun ds S1 ρ1 H1 e1 R1 st1 h1 vs hvs => bi_snd cs.toCb R1 b hvs h1)
    rcases hv with ⟨id, e1, e2⟩ | ⟨T, e1, e2⟩
    · simp only at e1 e2
      rw [e1] at fin
      exact .of (pe_callB (tCS_r X _) gx mx e2 (pa_sem X _) d3 d1 (star_cons (hs e List.mem_cons_self)) (back_any hs')) fin
    · simp only at e1 e2
      rw [e1] at fin
      exact .of (pe_callTy (tCS_r X _) gx mx e2 (pa_sem X _) d3 d1 (star_cons (hs e List.mem_cons_self)) (back_any hs')) fin
theorem base_of {o : Expr} {m : Str} {env : Env} (h : notSuper o = true) : attributeBase o m env (eval o env) = eval o env := by
  unfold attributeBase
  split
  · rename_i id p pos
    have hid : (id != ("super" : Str)) = true := by
      unfold notSuper at h
      simpa [bne] using h
    simp only [hid, Bool.true_or, if_true]
  · rfl
theorem vis_eval {X : Cx} (cs : Cs G N sc n X) {x : Str} {i : Nat} (hx : okName x = true) (hi : trVar N sc x = some i) {pos : Pos} : PE X (.Name x pos) (tVar i) := by
  obtain ⟨d1, d2, d3⟩ := okName_of hx
  obtain ⟨hN, hv⟩ := trVar_of hi
  exact pe_var (by rw [cs.hN]; exact hN) (by rw [cs.sc]; exact hv) d1 d2
theorem mod_kin {X : Cx} (cb : Cb G n X) {pins : List (Addr × Obj)} {σ : L2.St} {H : Hp} {s : Shared} (I : Inv X pins σ H s) : G.K.In s.heap := cb.K ▸ I.kIn
theorem s_callv (ok : GlOk G gl) (hc : CallSnd G gl n C.call) (hn : ArgN gl C.call) {x : Str} {i : Nat} {es : List Expr} {cs' : List CE} {p pos : Pos} (hx : okName x = true) (hi : trVar N sc x = some i) (he : es ≠ [])
    (hs : ∀ e ∈ es, ∀ x p, e ≠ .Starred x p) (h : SimA G C n N sc es cs') : SimE G C n N sc (.Call (.Name x p) es [] pos) (.callv i cs') := by
  intro X cs ρ S H σd σ R RE Q hq pins s I
  unfold evE at hq
  split at hq
  case h_2 => exact hq.elim
  rename_i f ef
  obtain ⟨v, hv, hr⟩ := RE.at_ i _ ef
  cases hr with
  | fn hf =>
    rename_i a
    refine wpAny_Call_Name_kw (thn ((vis_eval cs hx hi (pos := p)).run pins s σ H (fun v H1 => v = .ref a ∧ H1 = H) I ⟨.ref a, hv, rfl, rfl⟩) fun u s1 ⟨w, H1, I1, r1, q1⟩ => ?_)
    obtain ⟨rfl, rfl⟩ := q1
    cases r1
    obtain ⟨fd, hfd⟩ := ok.fd f a hf
    have args : tSA X es σ H1 fun vs H2 => ∀ (pins : List (Addr × Obj)) (s : Shared) (us : List Value), Inv X pins σ H2 s → Vals vs us → wpAny (model X.prog X.w) X.A (PySem.call (.ref a) us) (EP X pins σ Q) X.xe s := by
      refine h X cs ρ S H1 σd σ R RE _ (Mt.go (Mt.bind hq) fun ds S1 ρ1 H1' e1 R1 st1 h1 vs hvs pins s us I rv => ?_)
      have hl : ds.length = (gl.ps f).length := by
        by_cases hl : ds.length = (gl.ps f).length
        · exact hl
        · have : MtV G ρ1 S1 H1' (C.call f ds S1) Q := h1
          rw [hn f ds S1 hl] at this
          exact this.elim
      have l1 := hvs.length
      have l2 := rv.length
      exact hc X cs.toCb pins s σ H1' ρ1 S1 f a fd ds vs Q ⟨us, []⟩ us hf hfd I R1 hvs rv (ok.plain f a fd hf hfd s us (mod_kin cs.toCb I) (by omega)) h1
    cases es with
    | nil => exact absurd rfl he
    | cons e es =>
      have hs' : ∀ e ∈ es, ∀ x p, e ≠ .Starred x p := fun e he => hs e (List.mem_cons_of_mem _ he)
      refine PySem.W.callWith_K (K := X.K) (h₀ := X.base) I1.ok.mod.kin (by rw [cs.K]; exact ok.kp f a hf) (thn (args pos pins s1 I1) fun us s2 ⟨vs, H2, I2, r, q⟩ => ⟨I2.kIn, ?_⟩) (star_cons (hs e List.mem_cons_self)) (back_any hs')
      exact q pins s2 us I2 r

theorem kw_names {env : Env} {pos : Pos} : ∀ {kws : List Keyword} {ns : List Str}, kwNames kws = some ns →
    (backToKw pos (keywordEach kws env)).filterMap (·.1) = ns ∧ (backToKw pos (keywordEach kws env)).all (·.1.isSome) = true ∧ (backToKw pos (keywordEach kws env)).any (·.1.isNone) = false
  | [], ns, h => by cases h; exact ⟨rfl, rfl, rfl⟩
  | ⟨none, v, p⟩ :: r, ns, h => by cases h
  | ⟨some x, v, p⟩ :: r, ns, h => by
    unfold kwNames at h
    rw [Option.map_eq_some_iff] at h
    obtain ⟨ms, hm, rfl⟩ := h
    obtain ⟨h1, h2, h3⟩ := kw_names (env := env) (pos := pos) hm
    refine ⟨?_, ?_, ?_⟩
    · show x :: (backToKw pos (keywordEach r env)).filterMap (·.1) = _
      rw [h1]
    · show (true && (backToKw pos (keywordEach r env)).all (·.1.isSome)) = true
      rw [h2]; rfl
    · show (false || (backToKw pos (keywordEach r env)).any (·.1.isNone)) = false
      rw [h3]; rfl
theorem kwNames_len : ∀ {kws : List Keyword} {ns : List Str}, kwNames kws = some ns → ns.length = kws.length
  | [], ns, h => by cases h; rfl
  | ⟨none, v, p⟩ :: r, ns, h => by cases h
  | ⟨some x, v, p⟩ :: r, ns, h => by
    unfold kwNames at h
    rw [Option.map_eq_some_iff] at h
    obtain ⟨ms, hm, rfl⟩ := h
    simp [kwNames_len hm]
theorem s_call (ok : GlOk G gl) (hc : CallSnd G gl n C.call) {x : Str} {f : Nat} {es : List Expr} {kws : List Keyword} {ns : List Str} {xs ys : List CE} {sel : List (Sum Nat D)} {p pos : Pos} (hx : okName x = true) (hg : isGlob sc x = true)
    (hf : gl.fns.lookup x = some f) (hk : kwNames kws = some ns) (hsel : lookD (f, es.length, ns) gl.shapes = some sel) (hs : ∀ e ∈ es, ∀ x p, e ≠ .Starred x p) (hlx : xs.length = es.length) (hly : ys.length = kws.length)
    (h : SimA G C n N sc es xs) (h' : SimK G C n N sc kws ys) : SimE G C n N sc (.Call (.Name x p) es kws pos) (.call f (xs ++ ys) sel) := by
  intro X cs ρ S H σd σ R RE Q hq pins s I
  unfold evE at hq
  have hq := Mt.bind hq
  rw [evEs_append] at hq
  obtain ⟨d1, d2, d3⟩ := okName_of hx
  have gx := isGlob_of cs hg
  obtain ⟨a, hm, hfa⟩ := ok.fn x f hf
  obtain ⟨fd, hfd⟩ := ok.fd f a hfa
  obtain ⟨k1, k2, k3⟩ := kw_names (env := X.env) (pos := pos) hk
  have kp : PySem.W.keepIn X.K (.ref a) = true := by rw [cs.K]; exact ok.kp f a hfa
  have run : ∀ (pins : List (Addr × Obj)) (s : Shared) (σ : L2.St) (H1 : Hp) (ρ1 : List Addr) (S1 : Store) (ds : List D) (vs zs : List V) (us ws : List Value), Inv X pins σ H1 s → RelS G ρ1 S1 H1 → VRs G ρ1 H1 ds (vs ++ zs) → Vals vs us → Vals zs ws →
      vs.length = es.length → zs.length = ns.length →
      MtV G ρ1 S1 H1 (match selArgs ds sel with
        | some ws => C.call f ws S1
        | none => .stuck) Q → wpAny (model X.prog X.w) X.A (PySem.call (.ref a) us (ns.zip ws)) (EP X pins σ Q) X.xe s := by
    intro pins s σ H1 ρ1 S1 ds vs zs us ws I1 R1 hds rv rz l1 l2 hcall
    split at hcall
    · rename_i as ea
      have q1 := rv.length
      have q2 := rz.length
      obtain ⟨ts, hb, ht⟩ := ok.shape f es.length ns sel hsel a fd hfa hfd s us ws (mod_kin cs.toCb I1) (by omega) (by omega)
      obtain ⟨vs', hr', hv'⟩ := ht ρ1 H1 ds as (vs ++ zs) hds (rv.append rz) ea
      exact hc X cs.toCb pins s σ H1 ρ1 S1 f a fd as vs' Q ⟨us, ns.zip ws⟩ ts hfa hfd I1 R1 hr' hv' hb hcall
    · exact hcall.elim
  have kws' : ∀ (ρ1 : List Addr) (S1 : Store) (H1 : Hp) (σ : L2.St) (ds : List D) (vs : List V), RelS G ρ1 S1 H1 → RelE G ρ1 H1 σd σ → VRs G ρ1 H1 ds vs → vs.length = es.length →
      Mt G ρ1 S1 H1 ((evEs C ys σd S1).bind fun ys S2 => .ok (ds ++ ys) S2 none) (fun as S2 ρ2 H2 => Mt G ρ2 S2 H2 (match selArgs as sel with
        | some ws => C.call f ws S2
        | none => .stuck) fun d _ ρ' H' => ∀ v, VR G ρ' H' d v → Q v H') →
      tSK X kws σ H1 fun zs H2 => ∀ (pins : List (Addr × Obj)) (s : Shared) (us ws : List Value), Inv X pins σ H2 s → Vals vs us → Vals zs ws → wpAny (model X.prog X.w) X.A (PySem.call (.ref a) us (ns.zip ws)) (EP X pins σ Q) X.xe s := by
    intro ρ1 S1 H1 σ ds vs R1 RE1 hds l1 hm
    refine h' X cs ρ1 S1 H1 σd σ R1 RE1 _ (Mt.goE (Mt.bind hm) fun es' S2 ρ2 H2 e2 he2 R2 st2 h2 zs hzs pins s us ws I2 rv rz => ?_)
    have l2 : zs.length = ns.length := by
      have z1 := hzs.length
      have z2 := evEs_len he2
      have z3 := kwNames_len hk
      omega
    exact run pins s σ H2 ρ2 S2 (ds ++ es') vs zs us ws I2 R2 ((hds.mono st2.pre st2.keep).append hzs) rv rz l1 l2 (Mt.here h2 R2)
  refine wpAny_Call_Name_kw (ld_glob I gx (by rw [cs.mg]; exact hm) ?_ d1)
  cases es with
  | nil =>
    cases xs with
    | cons c r => cases hlx
    | nil =>
    refine PySem.W.callWith_KW0 (K := X.K) (h₀ := X.base) I.ok.mod.kin kp k2 ?_ (by rw [k3]; rfl)
    have hq2 : Mt G ρ S H ((evEs C ys σd S).bind fun ys S2 => .ok ([] ++ ys) S2 none) (fun as S2 ρ2 H2 => Mt G ρ2 S2 H2 (match selArgs as sel with
        | some ws => C.call f ws S2
        | none => .stuck) fun d _ ρ' H' => ∀ v, VR G ρ' H' d v → Q v H') := by
      have e0 : evEs C [] σd S = .ok [] S none := by unfold evEs; rfl
      rw [e0] at hq
      exact Mt.here (Mt.bind hq) R
    refine thn (kws' ρ S H σ [] [] R RE .nil rfl hq2 pos pins s I) fun ws s2 ⟨zs, H2, I2, rz, q2⟩ => ⟨I2.kIn, ?_⟩
    rw [k1]
    exact q2 pins s2 [] ws I2 .nil rz
  | cons e es =>
    have hs' : ∀ e ∈ es, ∀ x p, e ≠ .Starred x p := fun e he => hs e (List.mem_cons_of_mem _ he)
    refine PySem.W.callWith_KW (K := X.K) (h₀ := X.base) I.ok.mod.kin kp k2 ?_ (by rw [k3, back_any hs]; rfl) (star_cons (hs e List.mem_cons_self))
    refine thn (h X cs ρ S H σd σ R RE _ (Mt.goE (Mt.bind hq) fun ds S1 ρ1 H1 e1 he1 R1 st1 h1 vs hvs => kws' ρ1 S1 H1 σ ds vs R1 (RE.mono st1.pre st1.keep) hvs (by have z1 := hvs.length; have z2 := evEs_len he1; omega) h1) pos pins s I) fun us s1 ⟨vs, H1, I1, rv, q1⟩ => ?_
    refine thn (q1 pos pins s1 I1) fun ws s2 ⟨zs, H2, I2, rz, q2⟩ => ⟨I2.kIn, ?_⟩
    rw [k1]
    exact q2 pins s2 us ws I2 rv rz
end
end NF

/-! NFSnd3: methods, targets, what is walked, comprehensions. -/
namespace NF
open PySem PySem.Spec PyProof.Rows L2
section
variable {G : Gc} {gl : Gm} {C : Ctx} {n : Nat} {N : List Str} {sc : Scope} {own : Str → Bool}

theorem back_kw {env : Env} {pos : Pos} : backToKw pos (keywordEach [] env) = [] := rfl
theorem back_len (pos : Pos) (l : List (Bool × Sem Value)) : (backTo pos l).length = l.length := by unfold backTo; simp
theorem few_of {es : List Expr} {env : Env} {pos : Pos} (hs : ∀ e ∈ es, ∀ x p, e ≠ .Starred x p) (hl : es.length < 20) :
    ((backTo pos (starEach es env)).all (fun x => !x.1) && (backToKw pos (keywordEach [] env)).all (fun x => x.1.isSome)
      && decide (es.length + ([] : List Keyword).length + (if ([] : List Keyword).isEmpty then 0 else 1) < 30)) = true := by
  have e1 : (backTo pos (starEach es env)).all (fun x => !x.1) = true := by
    have := back_any hs (env := env) (pos := pos)
    rw [List.any_eq_false] at this
    rw [List.all_eq_true]
    intro x hx
    have := this x hx
    simpa using this
  rw [e1]
  simp [back_kw]
  omega
theorem s_me {o : Expr} {m : Str} {es : List Expr} {ap p : Pos} {me : ME} {x : CE} {xs : List CE} (hsup : notSuper o = true) (hline : (ap.endLine == p.line) = true) (hlen : es.length < 20) (hme : lookD (m, es.length) meNames = some me)
    (hs : ∀ e ∈ es, ∀ x p, e ≠ .Starred x p) (ho : SimE G C n N sc o x) (hxs : xs.length = es.length) (h : SimA G C n N sc es xs) : SimE G C n N sc (.Call (.Attribute o m ap) es [] p) (.me me x xs) := by
  intro X cs ρ S H σd σ R RE Q hq pins s I
  unfold evE at hq
  have hname : m = meName me := by
    have key : ∀ q ∈ meNames, q.1.1 = meName q.2 := by
      intro q hq
      unfold meNames at hq
      simp only [List.mem_cons, List.not_mem_nil, or_false] at hq
      rcases hq with rfl | rfl | rfl | rfl | rfl | rfl | rfl | rfl | rfl | rfl | rfl | rfl <;> rfl
    exact key _ (lookD_mem hme)
  subst hname
  refine wpAny_Call_method_late (base_of hsup) (few_of hs hlen) hline rfl ?_
  refine thn (ho X cs ρ S H σd σ R RE (fun v H1 => ∃ t id, meId t me = some id ∧ tyV X.K (mtS t) v H1 ∧ (es = [] → tMS X id v [] H1 Q) ∧ tSA X es σ H1 fun vs H2 => tMS X id v vs H2 Q)
    (Mt.go (Mt.bind hq) fun d S1 ρ1 H1 e1 R1 st1 h1 v hv => ?_) pins s I) fun v s1 ⟨y, H1, I1, r1, t, id, hid, ht, hnil, hargs⟩ => ?_
  · split at h1
    · rename_i t et
      split at h1
      · rename_i hsome
        obtain ⟨id, hid⟩ := Option.isSome_iff_exists.mp hsome
        refine ⟨t, id, hid, by rw [cs.K]; exact cs.K ▸ me_ty cs.toCb R1 hv et, fun e => ?_, ?_⟩
        · subst e
          cases xs with
          | cons => simp at hxs
          | nil =>
            unfold evEs at h1
            have h2 := Mt.here (Mt.bind h1) R1
            exact me_snd cs.toCb R1 hid hv .nil h2
        refine h X cs ρ1 S1 H1 σd σ R1 (RE.mono st1.pre st1.keep) _ (Mt.go (Mt.bind h1) fun ds S2 ρ2 H2 e2 R2 st2 h2 vs hvs => ?_)
        exact me_snd cs.toCb R2 hid (hv.mono st2.pre st2.keep) hvs h2
      · exact h1.elim
    · exact h1.elim
  · obtain ⟨f1, f2, f3⟩ := me_facts hid
    obtain ⟨g1, g2⟩ := tyV_is I1 r1 ht
    refine ⟨mtS t, id, f1, f2, f3, g1, g2, ?_⟩
    refine Calls.callWith_builtin (back_any hs) ?_
    cases es with
    | nil =>
      cases xs with
      | cons => simp at hxs
      | nil =>
        exact PySem.evalArgs_none (hnil rfl pins s1 σ v [] I1 r1 .nil)
    | cons e es =>
      have hA := hargs p pins s1 I1
      rw [star_cons (hs e List.mem_cons_self)] at hA ⊢
      refine Calls.evalArgs_plain ?_
      exact thn hA fun us s2 ⟨vs, H2, I2, r2, q2⟩ => q2 pins s2 σ v us I2 r1 r2

/-! ### targets -/
def tSG (X : Cx) (tg : Expr) : TG := fun v σ H Q => ∀ (pins : List (Addr × Obj)) (s : Shared) (u : Value), Inv X pins σ H s → RelV v u → wpAny (model X.prog X.w) X.A (assign tg X.env u) (fun _ s' => ∃ σ' H', Inv X pins σ' H' s' ∧ Q σ' H') X.xe s
theorem pg_sem (X : Cx) (tg : Expr) : PG X tg (tSG X tg) := ⟨fun pins s σ H v u Q I r h => h pins s u I r⟩
def tSGs (X : Cx) (ts : List Expr) : TGs := fun vs σ H Q => ∀ (pins : List (Addr × Obj)) (s : Shared) (us : List Value), Inv X pins σ H s → Vals vs us → wpAny (model X.prog X.w) X.A (assignInOrder ((assignEach ts X.env).map (·.2)) us) (fun _ s' => ∃ σ' H', Inv X pins σ' H' s' ∧ Q σ' H') X.xe s
theorem pgs_sem (X : Cx) (ts : List Expr) : PGs X ts (tSGs X ts) := ⟨fun pins s σ H v u Q I r h => h pins s u I r⟩
/-- a context whose cells were made at its own beginning, as far as its targets ask -/
def FnOkT (own : Str → Bool) (X : Cx) : Prop := ∀ x, own x = true → X.fn x = true
/-- but for those slots all stands -/
def OnlyG (l : List Nat) (σ σ' : L2.St) : Prop := σ'.length = σ.length ∧ ∀ k, k ∉ l → σ'[k]? = σ[k]?
theorem OnlyG.trans {l l' : List Nat} {σ σ1 σ2 : L2.St} (a : OnlyG l σ σ1) (b : OnlyG l' σ1 σ2) : OnlyG (l ++ l') σ σ2 :=
  ⟨b.1.trans a.1, fun k h => (b.2 k fun m => h (List.mem_append_right _ m)).trans (a.2 k fun m => h (List.mem_append_left _ m))⟩
def SimG (G : Gc) (n : Nat) (N : List Str) (sc : Scope) (own : Str → Bool) (tg : Expr) (g : CG) : Prop := ∀ (X : Cx), Cs G N sc n X → FnOkT own X → ∀ (ρ : List Addr) (H : Hp) (σd σd' : Envr) (σ : L2.St) (d : D) (v : V), RelE G ρ H σd σ → VR G ρ H d v → setG g d σd = some σd' →
  ∀ Q : L2.St → Hp → Prop, (∀ σ', RelE G ρ H σd' σ' → OnlyG g.sl σ σ' → Q σ' H) → tSG X tg v σ H Q
def SimGs (G : Gc) (n : Nat) (N : List Str) (sc : Scope) (own : Str → Bool) (tg : List Expr) (g : List CG) : Prop := ∀ (X : Cx), Cs G N sc n X → FnOkT own X → ∀ (ρ : List Addr) (H : Hp) (σd σd' : Envr) (σ : L2.St) (d : List D) (v : List V), RelE G ρ H σd σ → VRs G ρ H d v → setGs g d σd = some σd' →
  ∀ Q : L2.St → Hp → Prop, (∀ σ', RelE G ρ H σd' σ' → OnlyG (CG.sls g) σ σ' → Q σ' H) → tSGs X tg v σ H Q
theorem g_name {x : Str} {i : Nat} {pos : Pos} (hi : idx N x = some i) (hk : sc.names.lookup x = some .local ∨ (sc.names.lookup x = some .cell ∧ own x = true)) : SimG G n N sc own (.Name x pos) (.name i) := by
  intro X cs fo ρ H σd σd' σ d v RE hv hset Q hQ pins s u I ru
  unfold setG at hset
  split at hset
  · cases hset
    have hloc : Loc X.env.scope x := by rw [cs.sc]; exact hk.imp id And.left
    have hfn : X.fn x = true ∨ X.env.scope.names.lookup x = some .local := by
      rcases hk with k | k
      · exact .inr (by rw [cs.sc]; exact k)
      · exact .inl (fo x k.2)
    refine (pg_name (i := i) (by rw [cs.hN]; exact cs.nd) (by rw [cs.hN]; exact idx_get hi) hloc hfn).run pins s σ H v u Q I ru ?_
    refine hQ _ (RE.set hv) ⟨by simp, fun k hk => ?_⟩
    rw [List.getElem?_set_ne]
    intro e
    subst e
    exact hk (by unfold CG.sl; exact List.mem_cons_self)
  · cases hset
theorem g_nil : SimGs G n N sc own [] [] := by
  intro X cs fo ρ H σd σd' σ d v RE hv hset Q hQ pins s us I ru
  cases d with
  | nil =>
    cases hset
    cases hv
    cases ru
    exact pgs_nil.run pins s σ H [] [] Q I .nil ⟨rfl, hQ _ RE ⟨rfl, fun _ _ => rfl⟩⟩
  | cons d ds => cases hset
theorem setGs_cons {g : CG} {gs : List CG} {d : D} {ds : List D} {σd σd' : Envr} (h : setGs (g :: gs) (d :: ds) σd = some σd') : ∃ σ1, setG g d σd = some σ1 ∧ setGs gs ds σ1 = some σd' := by
  unfold setGs at h
  split at h
  · rename_i σ1 e; exact ⟨σ1, e, h⟩
  · cases h
theorem each_cons {e : Expr} {es : List Expr} {env : Env} (h : ∀ x p, e ≠ .Starred x p) : (assignEach (e :: es) env).map (·.2) = assign e env :: (assignEach es env).map (·.2) := by
  cases e with
  | Starred x p => exact absurd rfl (h x p)
  | _ => rfl
theorem g_cons {e : Expr} {es : List Expr} {g : CG} {gs : List CG} (hs : ∀ x p, e ≠ .Starred x p) (h1 : SimG G n N sc own e g) (h2 : SimGs G n N sc own es gs) : SimGs G n N sc own (e :: es) (g :: gs) := by
  intro X cs fo ρ H σd σd' σ d v RE hv hset Q hQ pins s us I ru
  cases hv with
  | nil => cases hset
  | cons hd hr =>
    obtain ⟨σ1, e1, e2⟩ := setGs_cons hset
    refine (pgs_cons (pg_sem X e) (pgs_sem X es) (each_cons hs)).run pins s σ H _ us Q I ru ⟨_, _, rfl, ?_⟩
    exact h1 X cs fo ρ H σd σ1 σ _ _ RE hd e1 _ fun σ' RE' o1 => h2 X cs fo ρ H σ1 σd' σ' _ _ RE' hr e2 Q fun σ2 RE2 o2 => hQ σ2 RE2 (by unfold CG.sls; exact o1.trans o2)
theorem each_len {es : List Expr} {env : Env} (hs : ∀ e ∈ es, ∀ x p, e ≠ .Starred x p) : (assignEach es env).length = es.length ∧ (assignEach es env).findIdx? (·.1) = none := by
  induction es with
  | nil => exact ⟨rfl, rfl⟩
  | cons e es ih =>
    obtain ⟨h1, h2⟩ := ih fun e he => hs e (List.mem_cons_of_mem _ he)
    have e0 : assignEach (e :: es) env = (false, assign e env) :: assignEach es env := by
      have := hs e List.mem_cons_self
      cases e with
      | Starred x p => exact absurd rfl (this x p)
      | _ => rfl
    rw [e0]
    refine ⟨by simp [h1], ?_⟩
    rw [List.findIdx?_cons, h2]
    rfl
theorem g_tup {es : List Expr} {gs : List CG} {k : Nat} {pos : Pos} (hl : gs.length = es.length) (hs : ∀ e ∈ es, ∀ x p, e ≠ .Starred x p) (h : SimGs G n N sc own es gs) : SimG G n N sc own (.Tuple es k pos) (.tup gs) := by
  intro X cs fo ρ H σd σd' σ d v RE hv hset Q hQ pins s u I ru
  cases hv with
  | tup q r =>
    unfold setG at hset
    split at hset
    · rename_i hlen
      obtain ⟨f1, f2⟩ := each_len hs (env := X.env)
      refine (pg_tup cs.calm (pgs_sem X es) f1 f2).run pins s σ H _ u Q I ru ⟨_, _, rfl, cs.K ▸ q.sq, by rw [← r.length]; omega, ?_⟩
      exact h X cs fo ρ H σd σd' σ _ _ RE r hset Q fun σ2 RE2 o2 => hQ σ2 RE2 (by unfold CG.sl; exact o2)
    · cases hset
  | _ => cases hset
mutual
theorem trG_snd : ∀ {e : Expr} {g : CG}, trG N sc own e = some g → SimG G n N sc own e g ∧ ∀ x p, e ≠ .Starred x p
  | e, g, h => by
    unfold trG at h
    split at h
    · rename_i x p
      split at h
      case isFalse => cases h
      split at h
      · rename_i k
        rw [Option.map_eq_some_iff] at h
        obtain ⟨i, hi, rfl⟩ := h
        exact ⟨g_name hi (.inl k), fun _ _ z => by cases z⟩
      · rename_i k
        split at h
        case isFalse => cases h
        rename_i ho
        rw [Option.map_eq_some_iff] at h
        obtain ⟨i, hi, rfl⟩ := h
        exact ⟨g_name hi (.inr ⟨k, ho⟩), fun _ _ z => by cases z⟩
      · cases h
    · rename_i es k p
      rw [Option.map_eq_some_iff] at h
      obtain ⟨gs, hgs, rfl⟩ := h
      obtain ⟨h1, h2, h3⟩ := trGs_snd hgs
      exact ⟨g_tup h2 h3 h1, fun _ _ z => by cases z⟩
    · cases h
theorem trGs_snd : ∀ {es : List Expr} {gs : List CG}, trGs N sc own es = some gs → SimGs G n N sc own es gs ∧ gs.length = es.length ∧ ∀ e ∈ es, ∀ x p, e ≠ .Starred x p
  | [], gs, h => by cases h; exact ⟨g_nil, rfl, fun e he => by cases he⟩
  | e :: es, gs, h => by
    unfold trGs at h
    split at h
    · rename_i g gs' e1 e2
      cases h
      obtain ⟨h1, h2⟩ := trG_snd e1
      obtain ⟨h3, h4, h5⟩ := trGs_snd e2
      refine ⟨g_cons h2 h1 h3, by simp [h4], fun z hz => ?_⟩
      rcases List.mem_cons.mp hz with rfl | hz
      · exact h2
      · exact h5 z hz
    · cases h
end
end
end NF

/-! NFEnum: enumerate of a tuple. -/
namespace NF
open PySem PySem.Spec PyProof.Rows L2

set_option maxHeartbeats 1000000 in
theorem meets_enum1 {v : Value} {o : Obj} {H : Heap → Prop} (B : Begins v o H) :
    Meets (Builtin.«enumerate.__new__» ⟨[.type "enumerate", v], []⟩) (fun _ R s => H s.heap ∧
      R (.ok (.ret (.ref (s.heap.push o).objs.size))) { s with heap := (s.heap.push o).push { cls := .type "enumerate", data := .fields #[.none, .bool false, .ref s.heap.objs.size, rawInt 0, .none, .none] } }) :=
  .of_wp fun prog w A R s h => by
    obtain ⟨hp, g, d, tk, os⟩ := s
    obtain ⟨h1, h⟩ := h
    have hsub := sub_enumerate
    have q1 : ∀ {A' : Around} {E : Value → Shared → Prop} {Q : Value → Shared → Prop}, Q (.ref hp.objs.size) ⟨hp.push o, g, d, tk, os⟩ → wpAny (model prog w) A' (pyIter v) Q E ⟨hp, g, d, tk, os⟩ :=
      fun q => B.iter prog w _ _ ⟨hp, g, d, tk, os⟩ _ h1 q
    wp_walk using q1
    refine wpAny_stack_any fun st => wpAny_pure ?_
    split
    · rename_i c _ _ _ _ _
      cases (c == Value.type "enumerate")
      · wp_walk using q1
        exact ⟨_, rfl, h⟩
      · wp_walk using q1
        exact ⟨_, rfl, h⟩
    · wp_walk using q1
      exact ⟨_, rfl, h⟩
section
variable {prog : Program} {w : World} {A : Around} {E : Value → Shared → Prop} {s : Shared}
theorem call_enumT {l : Addr} {items : Array Value} {Q : Value → Shared → Prop} (hL : s.heap.IsTuple l items)
    (h : ∀ h', IsEnum h' (s.heap.objs.size + 1) s.heap.objs.size 0 .none → h'.IsTupleIter s.heap.objs.size l 0 → h'.objs.size = s.heap.objs.size + 2 →
      (∀ b o, s.heap.get? b = some o → h'.get? b = some o) → Q (.ref (s.heap.objs.size + 1)) { s with heap := h' }) :
    wpAny (model prog w) A (call (.type "enumerate") [.ref l]) Q E s := by
  refine callType_new PySem.F.called_enumerate (by decide) (PySem.F.typeCall_enumerate_1 _) (PySem.F.newCall_enumerate_1 _) (fun obj => PySem.F.args_object_init_2 obj _) PySem.F.entry_enumerate_new
    (meets_enum1 (begins_tuple l items)) ⟨hL, ?_⟩
  have hz : (s.heap.push { cls := .type "tuple_iterator", data := .fields #[.ref l, .int 0 0] }).objs.size = s.heap.objs.size + 1 := Heap.size_push ..
  show _ ∧ _
  rw [hz]
  have he : IsEnum ((s.heap.push { cls := .type "tuple_iterator", data := .fields #[.ref l, .int 0 0] }).push { cls := .type "enumerate", data := .fields #[.none, .bool false, .ref s.heap.objs.size, rawInt 0, .none, .none] }) (s.heap.objs.size + 1) s.heap.objs.size 0 .none := by
    have := Heap.get?_push_size (s.heap.push { cls := .type "tuple_iterator", data := .fields #[.ref l, .int 0 0] }) (o := { cls := .type "enumerate", data := .fields #[.none, .bool false, .ref s.heap.objs.size, rawInt 0, .none, .none] }) rfl
    rw [hz] at this; exact this
  refine ⟨⟨_, he, rfl⟩, h _ he ⟨_, Heap.get?_push_of_some _ (Heap.get?_push_size _ rfl), rfl, rfl⟩ (by rw [Heap.size_push, hz]) fun b o x => Heap.get?_push_of_some _ (Heap.get?_push_of_some _ x)⟩
end

/-- the tuple at a, each item in a new pair -/
def IteT (K : PySem.W.Frag) (a : Addr) : It :=
  ⟨fun i H => ∃ (xs : List V) (x : V), SqT K H a xs ∧ xs[i]? = some x, fun i H v H' => ∃ T x, v = .ref T ∧ H T = none ∧ H' = upd H T (.tup [.int (i : Nat), x]) ∧ ∀ xs, SqT K H a xs → xs[i]? = some x, fun i H => ∃ xs : List V, SqT K H a xs ∧ xs.length ≤ i⟩
theorem turn_enumT {P : Program} {w : World} {K : PySem.W.Frag} {elts : List Expr} {kk : Nat} {tpos : Pos} (a e it : Addr) :
    Turn P w K (.Tuple elts kk tpos) (IteT K a) [e, it] e (fun i h => (∃ old, IsEnum h e it ((i : Nat) : Int) old) ∧ h.IsTupleIter it a i ∧ e ≠ it ∧ a ≠ it ∧ a ≠ e) where
  mem := by simp
  obj := fun i h st b hb => by
    obtain ⟨⟨old, he⟩, ⟨o, ho, hc, hd⟩, _⟩ := st
    have e' : b = e ∨ b = it := by simpa using hb
    rcases e' with z | z
    · rw [z]; exact ⟨_, he, fun v q => nomatch q⟩
    · rw [z]; exact ⟨o, ho, fun v q => by rw [hd] at q; cases q⟩
  keep := fun i h h' st k => let ⟨⟨old, he⟩, hi, hne⟩ := st; ⟨⟨old, k e (by simp) _ he⟩, hi.at fun o q => k it (by simp) o q, hne⟩
  item := by
    intro X hP hw hK hc i pins s σ H E I hf st hg
    subst hP hw hK
    obtain ⟨⟨old, he⟩, hit, hne, hai, hae⟩ := st
    obtain ⟨xs, x, hq, hx⟩ := hg
    obtain ⟨its, rv, p, hz⟩ := I.tuple hq
    obtain ⟨u, hu, ru⟩ := rv.get hx
    have hel : e < s.heap.objs.size := Heap.lt_size he
    have hil : it < s.heap.objs.size := by obtain ⟨_, q, _⟩ := hit; exact Heap.lt_size q
    have hlt : i < its.toArray.size := by
      have := (List.getElem?_eq_some_iff.mp hu).1
      simpa using this
    refine wpAny_pyNext_enum_itemD (Draws.tuple (A := X.A.in1) (I.ok.hd hc) it a hai its.toArray) he ⟨hit, (show s.heap.IsTuple a its.toArray from p)⟩ hlt hne (by
      intro m
      have e' : e = it ∨ e = a := by simpa using m
      exact e'.elim hne (fun z => hae z.symm)) fun x' h' tk hP ho hs' hT hsz hk => ?_
    have hxu : x' = u := by
      have h1 : its.toArray[i]? = some x' := hP
      have h2 : its[i]? = some x' := by simpa using h1
      rw [hu] at h2
      exact (Option.some.inj h2).symm
    subst hxu
    refine ⟨_, rfl, wpAny_letOwnedTupleGo_enum (s := { s with heap := h', toks := tk + 1 }) ho fun h'' he' sb => ?_⟩
    have hT2 : h''.get? s.heap.objs.size = some { cls := .type "tuple", data := .seq #[.int i tk, x'] } := (sb.2 _ (Nat.ne_of_gt hel)).trans hT
    have new : ObjOk X.prog X.w (upd H s.heap.objs.size (.tup [.int (i : Nat), x])) h'' s.heap.objs.size (.tup [.int (i : Nat), x]) :=
      ⟨by show 2 ≤ sizeLine; decide, [.int i tk, x'], .cons ⟨_, rfl⟩ (.cons ru .nil), ⟨_, hT2, rfl, _, rfl⟩⟩
    have I1 : Inv X pins σ (upd H s.heap.objs.size (.tup [.int (i : Nat), x])) { s with heap := h'', toks := tk + 1 } :=
      I.turnedNew (ch := [e, it]) (fun b ob hb q => (sb.2 b (fun z => hb (by simp [z]))).trans (hk b ob (fun z => hb (by simp [z])) (fun z => hb (by simp [z])) q)) hf (Nat.le_refl _) new
    refine ⟨.ref s.heap.objs.size, _, I1, rfl, ⟨_, x, rfl, I.hok.fresh (Nat.le_refl _), rfl, fun ys hy => by rw [I.tuple_inj hy hq]; exact hx⟩, ⟨⟨x', ?_⟩, hs'.1.at fun o q => (sb.2 it (Ne.symm hne)).trans q, hne, hai, hae⟩, fun b hb => ?_⟩
    · have e1 : ((i + 1 : Nat) : Int) = (i : Int) + 1 := by omega
      rw [e1]; exact he'
    · have hb' : b < s.heap.objs.size := by
        have e' : b = e ∨ b = it := by simpa using hb
        rcases e' with z | z
        · rw [z]; exact hel
        · rw [z]; exact hil
      rw [upd_ne (Nat.ne_of_lt hb')]
      exact (hf b hb).1
  done := by
    intro X hP hw hK hc i pins s σ H E I hf st hg
    subst hP hw hK
    obtain ⟨⟨old, he⟩, hit, hne, hai, hae⟩ := st
    obtain ⟨xs, hq, hx⟩ := hg
    obtain ⟨its, rv, p, hz⟩ := I.tuple hq
    obtain ⟨f0, f1, f2, f3, f4, f5⟩ := hf it (by simp)
    have hl := rv.length
    have hT : s.TypeIs (.ref e) "enumerate" := ⟨_, he, rfl⟩
    unfold pyNext
    refine wpAny_bind (wpAny_attempt (wpAny_callSpecial?_slot (name := Str.ofString "__next__") hT PySem.F.slot_enumerate_next
      (wpAny_call_entry PySem.F.slot_enumerate_next hT PySem.F.entry_enumerate_next ?_ (PySem.F.args_enumerate_next_1 _))))
    show wpAny _ _ (field (.ref e) 2 >>= _) _ _ _
    refine wpAny_bind (wpAny_field he rfl (x := .ref it) rfl ?_)
    refine wpAny_bind (wpAny_nextOf_tuple_end (I.ok.hd hc) hit (show s.heap.IsTuple a its.toArray from p) (by simp; omega) fun h' x eb hx' => ?_)
    obtain ⟨o, ho, hcl⟩ := hx'
    refine wpAny_bind (wpAny_isInstance (T := "StopIteration") (b := true) ⟨o, ho, hcl⟩ isSubtype_stop ?_)
    exact wpAny_pure ⟨rfl, I.turned (t' := s.toks) (fun b o hb q => eb b o hb q) f0 f1 f3 f4 f5⟩
  self := fun A i s Q E st h => let ⟨⟨_, he⟩, _⟩ := st; wpAny_pyIter_enum he h
def iEnumA (K : PySem.W.Frag) (ta : TA) : TI := fun σ H R => ta σ H fun vs H1 => (∃ a xs, vs = [.ref a] ∧ SqL K H1 a xs ∧ R (Ite K a) H1) ∨ ∃ a xs, vs = [.ref a] ∧ SqT K H1 a xs ∧ R (IteT K a) H1
theorem pi_enumA {X : Cx} {e : Expr} {ta : TA} {p pos tpos : Pos} {elts : List Expr} {kk : Nat} (hg : Gl X "enumerate") (hm : X.mg "enumerate" = none) (ha : PA X [e] ta) (hs : starEach [e] X.env = [(false, eval e X.env)] := by rfl) :
    PI X (.Tuple elts kk tpos) (.Call (.Name "enumerate" p) [e] [] pos) (iEnumA X.K ta) := by
  refine ⟨fun pins s σ H R I h => ?_⟩
  refine Call_ (ld_blt I hg hm boot_enumerate (PyProof.Rows.callWith_type1 (thn (ha.run pos pins s σ H _ I h) fun us s1 ⟨vs, H1, I1, r1, q1⟩ => ?_) hs rfl))
  have fp : ∀ b ∈ [s1.heap.objs.size + 1, s1.heap.objs.size], FpOk X pins H1 b := fun b hb => by
    have e' : b = s1.heap.objs.size + 1 ∨ b = s1.heap.objs.size := by simpa using hb
    have hle : s1.heap.objs.size ≤ b := by
      rcases e' with z | z
      · rw [z]; exact Nat.le_add_right _ _
      · rw [z]; exact Nat.le_refl _
    exact I1.fpOk hle (I1.hok.fresh hle)
  rcases q1 with ⟨a, xs, ex, hq, q⟩ | ⟨a, xs, ex, hq, q⟩
  · subst ex
    cases r1 with
    | cons r rr =>
      cases rr
      cases r
      obtain ⟨its, rv, p', hz⟩ := I1.list hq
      refine call_enumerate_list p'.isList fun h' he hit hsz hk => wpAny_pyIter_enum he ?_
      have I2 : Inv X pins σ H1 { s1 with heap := h' } := I1.kept (t' := s1.toks) hk
      exact ⟨s1.heap.objs.size + 1, [s1.heap.objs.size + 1, s1.heap.objs.size], _, _, H1, rfl, I2, turn_enum a (s1.heap.objs.size + 1) s1.heap.objs.size, ⟨⟨.none, he⟩, hit, Nat.succ_ne_self _⟩, fp, q⟩
  · subst ex
    cases r1 with
    | cons r rr =>
      cases rr
      cases r
      obtain ⟨its, rv, p', hz⟩ := I1.tuple hq
      have ht : s1.heap.IsTuple a its.toArray := p'
      have hal : a < s1.heap.objs.size := by obtain ⟨o, ho, _⟩ := ht; exact Heap.lt_size ho
      refine call_enumT ht fun h' he hit hsz hk => wpAny_pyIter_enum he ?_
      have I2 : Inv X pins σ H1 { s1 with heap := h' } := I1.kept (t' := s1.toks) hk
      exact ⟨s1.heap.objs.size + 1, [s1.heap.objs.size + 1, s1.heap.objs.size], _, _, H1, rfl, I2, turn_enumT a (s1.heap.objs.size + 1) s1.heap.objs.size, ⟨⟨.none, he⟩, hit, Nat.succ_ne_self _, Nat.ne_of_lt hal, Nat.ne_of_lt (Nat.lt_succ_of_lt hal)⟩, fp, q⟩
end NF

/-! NFIt: what is walked. -/
namespace NF
open PySem PySem.Spec PyProof.Rows L2
section
variable {G : Gc} {gl : Gm} {C : Ctx} {n : Nat} {N : List Str} {sc : Scope}

def tSI (X : Cx) (tg iter : Expr) : TI := fun σ H R => ∀ (pins : List (Addr × Obj)) (s : Shared), Inv X pins σ H s →
  wpAny (model X.prog X.w) X.A (eval iter X.env) (fun v s1 => wpAny (model X.prog X.w) X.A (pyIter v) (PIE X pins σ tg R) X.xe s1) X.xe s
theorem pi_sem (X : Cx) (tg iter : Expr) : PI X tg iter (tSI X tg iter) := ⟨fun pins s σ H R I h => h pins s I⟩
theorem tSI.of {X : Cx} {tg iter : Expr} {wi : TI} (p : PI X tg iter wi) {σ : L2.St} {H : Hp} {R : It → Hp → Prop} (h : wi σ H R) : tSI X tg iter σ H R := fun pins s I => p.run pins s σ H R I h

/-- the iterator gives those items, as long as its lists stay -/
structure ItOk (G : Gc) (J : It) (src : Src) (ρ : List Addr) (H : Hp) : Prop where
  go : ∀ ρ' S' H' i d, RelS G ρ' S' H' → ρ <+: ρ' → Keep H H' → Src.holds S' src.keep = true → src.items[i]? = some d →
    J.go i H' ∧ ∀ x H'', J.yld i H' x H'' → (∀ a u, H' a = some u → H'' a = some u) ∧ VR G ρ' H'' d x
  stop : ∀ ρ' S' H' i, RelS G ρ' S' H' → ρ <+: ρ' → Keep H H' → Src.holds S' src.keep = true → src.items.length ≤ i → J.stop i H'
def SimI (G : Gc) (C : Ctx) (n : Nat) (N : List Str) (sc : Scope) (tg e : Expr) (c : CE) : Prop := ∀ (X : Cx), Cs G N sc n X → ∀ (ρ : List Addr) (S : Store) (H : Hp) (σd : Envr) (σ : L2.St), RelS G ρ S H → RelE G ρ H σd σ →
  ∀ R : It → Hp → Prop, Mt G ρ S H (evI C c σd S) (fun src _ ρ' H' => ∀ J, ItOk G J src ρ' H' → R J H') → tSI X tg e σ H R

/-- a list, a tuple that is looked at later -/
def LView (G : Gc) (k : List (Nat × List D)) (items : List D) (a : Addr) (ρ : List Addr) (H : Hp) : Prop :=
  ∀ ρ' S' H', RelS G ρ' S' H' → ρ <+: ρ' → Keep H H' → Src.holds S' k = true → ∃ vs, SqL G.K H' a vs ∧ VRs G ρ' H' items vs
def TView (G : Gc) (k : List (Nat × List D)) (items : List D) (a : Addr) (ρ : List Addr) (H : Hp) : Prop :=
  ∀ ρ' S' H', RelS G ρ' S' H' → ρ <+: ρ' → Keep H H' → Src.holds S' k = true → ∃ vs, SqT G.K H' a vs ∧ VRs G ρ' H' items vs
theorem holds_mem {S : Store} {k : List (Nat × List D)} {p : Nat × List D} (h : Src.holds S k = true) (m : p ∈ k) : S[p.1]? = some (.lst p.2) := by
  have := List.all_eq_true.mp h p m
  split at this
  · rename_i xs e
    rw [e, of_decide_eq_true this]
  · cases this
theorem lview_ref {ρ : List Addr} {H : Hp} {k : List (Nat × List D)} {m : Nat} {xs : List D} {a : Addr} (hm : (m, xs) ∈ k) (hk : ρ[m]? = some a) : LView G k xs a ρ H := by
  intro ρ' S' H' R p kp h
  have e := holds_mem h hm
  have o := R.obj m a _ (pre_get p hk) e
  cases o with
  | lst q r => exact ⟨_, .of q, r⟩
theorem lview_cl {ρ : List Addr} {H : Hp} {k : List (Nat × List D)} {xs : List D} {vs : List V} {a : Addr} (q : RoAt G.K H a vs) (r : VRs G ρ H xs vs) : LView G k xs a ρ H :=
  fun ρ' S' H' R p kp h => ⟨vs, (q.keep kp).sq, r.mono p kp⟩
theorem tview {ρ : List Addr} {H : Hp} {k : List (Nat × List D)} {xs : List D} {vs : List V} {a : Addr} (q : TupAt G.K H a vs) (r : VRs G ρ H xs vs) : TView G k xs a ρ H :=
  fun ρ' S' H' R p kp h => ⟨vs, (q.keep kp).sq, r.mono p kp⟩
theorem ok_list {k : List (Nat × List D)} {xs : List D} {a : Addr} {ρ : List Addr} {H : Hp} (v : LView G k xs a ρ H) : ItOk G (Itl G.K a) ⟨xs, k⟩ ρ H := by
  refine ⟨fun ρ' S' H' i d R p kp h hi => ?_, fun ρ' S' H' i R p kp h hi => ?_⟩
  · obtain ⟨vs, q, r⟩ := v ρ' S' H' R p kp h
    obtain ⟨w, hw, rw⟩ := r.get hi
    refine ⟨⟨vs, w, q, hw⟩, fun x H'' y => ?_⟩
    obtain ⟨rfl, y⟩ := y
    have := y vs q
    rw [hw] at this
    cases this
    exact ⟨fun a u e => e, rw⟩
  · obtain ⟨vs, q, r⟩ := v ρ' S' H' R p kp h
    exact ⟨vs, q, by rw [← r.length]; exact hi⟩
theorem ok_tup {k : List (Nat × List D)} {xs : List D} {a : Addr} {ρ : List Addr} {H : Hp} (v : TView G k xs a ρ H) : ItOk G (Itt G.K a) ⟨xs, k⟩ ρ H := by
  refine ⟨fun ρ' S' H' i d R p kp h hi => ?_, fun ρ' S' H' i R p kp h hi => ?_⟩
  · obtain ⟨vs, q, r⟩ := v ρ' S' H' R p kp h
    obtain ⟨w, hw, rw⟩ := r.get hi
    refine ⟨⟨vs, w, q, hw⟩, fun x H'' y => ?_⟩
    obtain ⟨rfl, y⟩ := y
    have := y vs q
    rw [hw] at this
    cases this
    exact ⟨fun a u e => e, rw⟩
  · obtain ⟨vs, q, r⟩ := v ρ' S' H' R p kp h
    exact ⟨vs, q, by rw [← r.length]; exact hi⟩
theorem rev_get {α : Type} {l : List α} {i : Nat} {x : α} (h : l.reverse[i]? = some x) : i < l.length ∧ l[l.length - 1 - i]? = some x := by
  have hl : i < l.length := by
    have := (List.getElem?_eq_some_iff.mp h).1
    simpa using this
  refine ⟨hl, ?_⟩
  rw [List.getElem?_reverse hl] at h
  exact h
theorem ok_rev {k : List (Nat × List D)} {xs : List D} {a : Addr} {ρ : List Addr} {H : Hp} {m : Nat} (hm : m = xs.length) (v : LView G k xs a ρ H) : ItOk G (Itv G.K a m) ⟨xs.reverse, k⟩ ρ H := by
  subst hm
  refine ⟨fun ρ' S' H' i d R p kp h hi => ?_, fun ρ' S' H' i R p kp h hi => ?_⟩
  · obtain ⟨vs, q, r⟩ := v ρ' S' H' R p kp h
    obtain ⟨hl, hi⟩ := rev_get hi
    obtain ⟨w, hw, rw⟩ := r.get hi
    refine ⟨⟨hl, vs, w, q, hw⟩, fun x H'' y => ?_⟩
    obtain ⟨rfl, y⟩ := y
    have := y vs q
    rw [hw] at this
    cases this
    exact ⟨fun a u e => e, rw⟩
  · exact (by simpa using hi : xs.length ≤ i)
theorem ok_revT {k : List (Nat × List D)} {xs : List D} {a : Addr} {ρ : List Addr} {H : Hp} {m : Nat} (hm : m = xs.length) (v : TView G k xs a ρ H) : ItOk G (RT.ItvT G.K a m) ⟨xs.reverse, k⟩ ρ H := by
  subst hm
  refine ⟨fun ρ' S' H' i d R p kp h hi => ?_, fun ρ' S' H' i R p kp h hi => ?_⟩
  · obtain ⟨vs, q, r⟩ := v ρ' S' H' R p kp h
    obtain ⟨hl, hi⟩ := rev_get hi
    obtain ⟨w, hw, rw⟩ := r.get hi
    refine ⟨⟨hl, vs, w, q, hw⟩, fun x H'' y => ?_⟩
    obtain ⟨rfl, y⟩ := y
    have := y vs q
    rw [hw] at this
    cases this
    exact ⟨fun a u e => e, rw⟩
  · exact (by simpa using hi : xs.length ≤ i)
theorem enum_get : ∀ {xs : List D} {j i : Nat} {d : D}, (enumD j xs)[i]? = some d → ∃ x, xs[i]? = some x ∧ d = .tup [.int ((j + i : Nat) : Int), x]
  | [], _, _, _, h => by simp [enumD] at h
  | x :: xs, j, 0, d, h => by
    simp only [enumD, List.getElem?_cons_zero, Option.some.injEq] at h
    exact ⟨x, rfl, by rw [← h]; rfl⟩
  | x :: xs, j, i + 1, d, h => by
    simp only [enumD, List.getElem?_cons_succ] at h
    obtain ⟨y, e1, e2⟩ := enum_get h
    refine ⟨y, by simpa using e1, ?_⟩
    rw [e2]
    have : j + 1 + i = j + (i + 1) := by omega
    rw [this]
theorem enum_len : ∀ {xs : List D} {j : Nat}, (enumD j xs).length = xs.length
  | [], _ => rfl
  | x :: xs, j => by simp [enumD, enum_len (xs := xs)]
theorem VR.pair {ρ : List Addr} {H : Hp} {T : Addr} {d e : D} {v w : V} (hn : H T = none) (hd : VR G ρ H d v) (he : VR G ρ H e w) : VR G ρ (upd H T (.tup [v, w])) (.tup [d, e]) (.ref T) :=
  .tup (.inl upd_same) (.cons (hd.mono (List.prefix_refl _) (Keep.new hn)) (.cons (he.mono (List.prefix_refl _) (Keep.new hn)) .nil))
theorem ok_enum {k : List (Nat × List D)} {xs : List D} {a : Addr} {ρ : List Addr} {H : Hp} (v : LView G k xs a ρ H) : ItOk G (Ite G.K a) ⟨enumD 0 xs, k⟩ ρ H := by
  refine ⟨fun ρ' S' H' i d R p kp h hi => ?_, fun ρ' S' H' i R p kp h hi => ?_⟩
  · obtain ⟨vs, q, r⟩ := v ρ' S' H' R p kp h
    obtain ⟨y, hy, rfl⟩ := enum_get hi
    obtain ⟨w, hw, rw⟩ := r.get hy
    refine ⟨⟨vs, w, q, hw⟩, fun x H'' y => ?_⟩
    obtain ⟨T, z, rfl, hT, rfl, y⟩ := y
    have := y vs q
    rw [hw] at this
    cases this
    refine ⟨upd_none hT, ?_⟩
    have e0 : ((0 + i : Nat) : Int) = (i : Int) := by simp
    rw [e0]
    exact VR.pair hT (.int _) rw
  · obtain ⟨vs, q, r⟩ := v ρ' S' H' R p kp h
    have hi : xs.length ≤ i := by rw [← enum_len (j := 0)]; exact hi
    exact ⟨vs, q, by rw [← r.length]; exact hi⟩
theorem ok_enumT {k : List (Nat × List D)} {xs : List D} {a : Addr} {ρ : List Addr} {H : Hp} (v : TView G k xs a ρ H) : ItOk G (IteT G.K a) ⟨enumD 0 xs, k⟩ ρ H := by
  refine ⟨fun ρ' S' H' i d R p kp h hi => ?_, fun ρ' S' H' i R p kp h hi => ?_⟩
  · obtain ⟨vs, q, r⟩ := v ρ' S' H' R p kp h
    obtain ⟨y, hy, rfl⟩ := enum_get hi
    obtain ⟨w, hw, rw⟩ := r.get hy
    refine ⟨⟨vs, w, q, hw⟩, fun x H'' y => ?_⟩
    obtain ⟨T, z, rfl, hT, rfl, y⟩ := y
    have := y vs q
    rw [hw] at this
    cases this
    refine ⟨upd_none hT, ?_⟩
    have e0 : ((0 + i : Nat) : Int) = (i : Int) := by simp
    rw [e0]
    exact VR.pair hT (.int _) rw
  · obtain ⟨vs, q, r⟩ := v ρ' S' H' R p kp h
    have hi : xs.length ≤ i := by rw [← enum_len (j := 0)]; exact hi
    exact ⟨vs, q, by rw [← r.length]; exact hi⟩
theorem zip_get : ∀ {xs ys : List D} {i : Nat} {d : D}, (zipD xs ys)[i]? = some d → ∃ x y, xs[i]? = some x ∧ ys[i]? = some y ∧ d = .tup [x, y]
  | [], _, _, _, h => by simp [zipD] at h
  | x :: xs, [], _, _, h => by simp [zipD] at h
  | x :: xs, y :: ys, 0, d, h => by
    simp only [zipD, List.getElem?_cons_zero, Option.some.injEq] at h
    exact ⟨x, y, rfl, rfl, h.symm⟩
  | x :: xs, y :: ys, i + 1, d, h => by
    simp only [zipD, List.getElem?_cons_succ] at h
    obtain ⟨u, w, e1, e2, e3⟩ := zip_get h
    exact ⟨u, w, by simpa using e1, by simpa using e2, e3⟩
theorem zip_len : ∀ {xs ys : List D} {i : Nat}, (zipD xs ys).length ≤ i → xs.length ≤ i ∨ ys.length ≤ i
  | [], _, _, _ => .inl (Nat.zero_le _)
  | x :: xs, [], _, _ => .inr (Nat.zero_le _)
  | x :: xs, y :: ys, 0, h => by simp [zipD] at h
  | x :: xs, y :: ys, i + 1, h => by
    simp only [zipD, List.length_cons] at h
    rcases zip_len (Nat.le_of_succ_le_succ h) with q | q
    · exact .inl (Nat.succ_le_succ q)
    · exact .inr (Nat.succ_le_succ q)
theorem ok_zip {k : List (Nat × List D)} {xs ys : List D} {a b : Addr} {ρ : List Addr} {H : Hp} (v : LView G k xs a ρ H) (v2 : LView G k ys b ρ H) : ItOk G (Itz G.K a b) ⟨zipD xs ys, k⟩ ρ H := by
  refine ⟨fun ρ' S' H' i d R p kp h hi => ?_, fun ρ' S' H' i R p kp h hi => ?_⟩
  · obtain ⟨vs, q, r⟩ := v ρ' S' H' R p kp h
    obtain ⟨vs2, q2, r2⟩ := v2 ρ' S' H' R p kp h
    obtain ⟨x, y, hx, hy, rfl⟩ := zip_get hi
    obtain ⟨w, hw, rw⟩ := r.get hx
    obtain ⟨w2, hw2, rw2⟩ := r2.get hy
    refine ⟨⟨vs, vs2, w, w2, q, q2, hw, hw2⟩, fun x H'' y => ?_⟩
    obtain ⟨T, z, z2, rfl, hT, rfl, y, y2⟩ := y
    have e1 := y vs q
    have e2 := y2 vs2 q2
    rw [hw] at e1
    rw [hw2] at e2
    cases e1
    cases e2
    exact ⟨upd_none hT, VR.pair hT rw rw2⟩
  · obtain ⟨vs, q, r⟩ := v ρ' S' H' R p kp h
    obtain ⟨vs2, q2, r2⟩ := v2 ρ' S' H' R p kp h
    exact ⟨vs, vs2, q, q2, by rw [← r.length, ← r2.length]; exact zip_len hi⟩
theorem ok_zipT {k : List (Nat × List D)} {xs ys : List D} {a b : Addr} {ρ : List Addr} {H : Hp} (v : TView G k xs a ρ H) (v2 : TView G k ys b ρ H) : ItOk G (RZ.ItzT G.K a b) ⟨zipD xs ys, k⟩ ρ H := by
  refine ⟨fun ρ' S' H' i d R p kp h hi => ?_, fun ρ' S' H' i R p kp h hi => ?_⟩
  · obtain ⟨vs, q, r⟩ := v ρ' S' H' R p kp h
    obtain ⟨vs2, q2, r2⟩ := v2 ρ' S' H' R p kp h
    obtain ⟨x, y, hx, hy, rfl⟩ := zip_get hi
    obtain ⟨w, hw, rw⟩ := r.get hx
    obtain ⟨w2, hw2, rw2⟩ := r2.get hy
    refine ⟨⟨vs, vs2, w, w2, q, q2, hw, hw2⟩, fun x H'' y => ?_⟩
    obtain ⟨T, z, z2, rfl, hT, rfl, y, y2⟩ := y
    have e1 := y vs q
    have e2 := y2 vs2 q2
    rw [hw] at e1
    rw [hw2] at e2
    cases e1
    cases e2
    exact ⟨upd_none hT, VR.pair hT rw rw2⟩
  · obtain ⟨vs, q, r⟩ := v ρ' S' H' R p kp h
    obtain ⟨vs2, q2, r2⟩ := v2 ρ' S' H' R p kp h
    exact ⟨vs, vs2, q, q2, by rw [← r.length, ← r2.length]; exact zip_len hi⟩
theorem ok_range {lo : Int} {m : Nat} {ρ : List Addr} {H : Hp} : ItOk G (Itr lo m) ⟨rangeD lo m, []⟩ ρ H := by
  refine ⟨fun ρ' S' H' i d R p kp h hi => ?_, fun ρ' S' H' i R p kp h hi => ?_⟩
  · have hi : (rangeD lo m)[i]? = some d := hi
    unfold rangeD at hi
    rw [List.getElem?_map, Option.map_eq_some_iff] at hi
    obtain ⟨j, hj, rfl⟩ := hi
    rw [List.getElem?_eq_some_iff] at hj
    obtain ⟨hl, e⟩ := hj
    rw [List.getElem_range] at e
    subst e
    refine ⟨by show i < m; simpa using hl, fun x H'' y => ?_⟩
    obtain ⟨rfl, rfl⟩ := y
    exact ⟨fun a u e => e, .int _⟩
  · have hi : (rangeD lo m).length ≤ i := hi
    unfold rangeD at hi
    show m ≤ i
    simpa using hi
theorem ok_str {x : List Nat} {ρ : List Addr} {H : Hp} : ItOk G (Its ⟨x.toArray⟩) ⟨x.map fun c => .str [c], []⟩ ρ H := by
  refine ⟨fun ρ' S' H' i d R p kp h hi => ?_, fun ρ' S' H' i R p kp h hi => ?_⟩
  · have hi : (x.map fun c => D.str [c])[i]? = some d := hi
    rw [List.getElem?_map, Option.map_eq_some_iff] at hi
    obtain ⟨c, hc, rfl⟩ := hi
    have hl := (List.getElem?_eq_some_iff.mp hc).1
    refine ⟨by show i < x.toArray.size; simpa using hl, fun v H'' y => ?_⟩
    obtain ⟨rfl, c', hc', rfl⟩ := y
    have hc' : x.toArray[i]? = some c' := hc'
    have hc'' : x[i]? = some c' := by simpa using hc'
    rw [hc] at hc''
    cases hc''
    exact ⟨fun a u e => e, .str [c]⟩
  · have hi : (x.map fun c => D.str [c]).length ≤ i := hi
    show x.toArray.size ≤ i
    simpa using hi

theorem ofOpt_of {α : Type} {o : Option α} {S : Store} {ρ : List Addr} {H : Hp} {Φ : α → Store → List Addr → Hp → Prop} (h : Mt G ρ S H (ofOpt o S) Φ) (R : RelS G ρ S H) : ∃ a, o = some a ∧ Φ a S ρ H := by
  unfold ofOpt at h
  split at h
  · exact ⟨_, rfl, Mt.here h R⟩
  · exact h.elim
theorem evI_plain {c : CE} (h : plainI c = true) (σ : Envr) (S : Store) : evI C c σ S = (evE C c σ S).bind fun x S1 => ofOpt (srcOf x S1) S1 := by
  cases c <;> first | (simp only [evI]; done) | (cases h; done)
def iAny (K : PySem.W.Frag) (te : TE) : TI := fun σ H R => te σ H fun x H1 => (∃ a, x = .ref a ∧ (∃ xs, SqL K H1 a xs) ∧ R (Itl K a) H1) ∨ (∃ a, x = .ref a ∧ (∃ xs, SqT K H1 a xs) ∧ R (Itt K a) H1) ∨ (∃ t, x = .str t ∧ R (Its t) H1) ∨ ∃ d o kvs, x = .ref d ∧ H1 d = some (.frz o (.dK kvs)) ∧ R (Itk d o kvs) H1
theorem pi_any {X : Cx} {tg l : Expr} {tl : TE} (hl : PE X l tl) : PI X tg l (iAny X.K tl) := by
  refine ⟨fun pins s σ H R I h => ?_⟩
  refine thn (hl.run pins s σ H _ I h) fun v s1 ⟨x, H1, I1, r1, q1⟩ => ?_
  rcases q1 with ⟨a, e, ⟨xs, hq⟩, q⟩ | ⟨a, e, ⟨xs, hq⟩, q⟩ | ⟨x, ex, q⟩ | ⟨d, o, kvs, ex, hd, q⟩
  · subst e
    cases r1
    obtain ⟨its, rv, p, hz⟩ := I1.list hq
    refine wpAny_pyIter_list p.isList ?_
    refine ⟨s1.heap.objs.size, [s1.heap.objs.size], _, _, H1, rfl, I1.kept (t' := s1.toks) fun b o e => Heap.get?_push_of_some _ e, turn_list a _, ⟨_, Heap.get?_push_size _ rfl, rfl, rfl⟩, fun b hb => ?_, q⟩
    have e : b = s1.heap.objs.size := by simpa using hb
    subst e
    exact I1.fpOk (Nat.le_refl _) (I1.hok.fresh (Nat.le_refl _))
  · subst e
    cases r1
    obtain ⟨its, rv, p, hz⟩ := I1.tuple hq
    refine wpAny_pyIter_tuple (show s1.heap.IsTuple a its.toArray from p) ?_
    refine ⟨s1.heap.objs.size, [s1.heap.objs.size], _, _, H1, rfl, I1.kept (t' := s1.toks) fun b o e => Heap.get?_push_of_some _ e, turn_tuple a _, ⟨_, Heap.get?_push_size _ rfl, rfl, rfl⟩, fun b hb => ?_, q⟩
    have e : b = s1.heap.objs.size := by simpa using hb
    subst e
    exact I1.fpOk (Nat.le_refl _) (I1.hok.fresh (Nat.le_refl _))
  · subst ex
    obtain ⟨t, rfl⟩ := r1
    cases ha : x.cps.all (· < 128)
    · exact wpAny_pyIter_wide ha (pi_one (tk := s1.toks) I1 _ (turn_str _ x t "str_iterator" (.inr rfl)) ⟨_, Heap.get?_push_size _ rfl, rfl, rfl⟩ q)
    · exact wpAny_pyIter_ascii ha (pi_one (tk := s1.toks) I1 _ (turn_str _ x t "str_ascii_iterator" (.inl rfl)) ⟨_, Heap.get?_push_size _ rfl, rfl, rfl⟩ q)
  · subst ex
    cases r1
    obtain ⟨hs, hgd, hx, es, ep, vs, hdt, hsz, kv, hm⟩ := I1.frzK hd
    refine iter_keys hs hgd hx hdt (pi_one (tk := s1.toks) I1 _ (turn_keys _ hdt) ⟨_, Heap.get?_push_size _ rfl, rfl, ?_⟩ q)
    rw [hsz] <;> rfl
theorem keyV {G : Gc} {ρ : List Addr} {H : Hp} (k : Key) : VR G ρ H (keyD k) (kV k) := by
  cases k with
  | inl i => exact .int i
  | inr x =>
    have e : (⟨x.cps.toList.toArray⟩ : Str) = x := by simp
    have : VR G ρ H (.str x.cps.toList) (.str ⟨x.cps.toList.toArray⟩) := .str _
    rw [e] at this
    exact this
theorem KRs.keyAt {ρ : List Addr} {H : Hp} : ∀ {ds : List (D × D)} {vs : List (Key × V)} {i : Nat} {d : D}, KRs G ρ H ds vs → (ds.map (·.1))[i]? = some d → ∃ k v, vs[i]? = some (k, v) ∧ d = keyD k
  | _, _, _, _, .nil, e => by simp at e
  | _, _, 0, _, .cons h r, e => by
    simp at e
    exact ⟨_, _, rfl, e.symm⟩
  | _, _, i + 1, _, .cons h r, e => by
    obtain ⟨k, v, a, b⟩ := KRs.keyAt (i := i) r (by simpa using e)
    exact ⟨k, v, by simpa using a, b⟩
theorem ok_keys {a : Addr} {o : Obj} {vs : List (Key × V)} {kvs : List (D × D)} {ρ : List Addr} {H : Hp} (q : H a = some (.frz o (.dK vs))) (r : KRs G ρ H kvs vs) : ItOk G (Itk a o vs) ⟨kvs.map (·.1), []⟩ ρ H := by
  refine ⟨fun ρ' S' H' i d R p kp h hi => ?_, fun ρ' S' H' i R p kp h hi => ?_⟩
  · have q' := kp.ro _ _ _ q
    obtain ⟨k, v, hk, rfl⟩ := KRs.keyAt r hi
    refine ⟨⟨q', (List.getElem?_eq_some_iff.mp hk).1⟩, fun x H'' y => ?_⟩
    obtain ⟨rfl, k', v', hk', rfl⟩ := y
    rw [hk] at hk'
    cases hk'
    exact ⟨fun a u e => e, keyV k⟩
  · have hi : (kvs.map (·.1)).length ≤ i := hi
    exact ⟨kp.ro _ _ _ q, by rw [← r.length]; simpa using hi⟩
theorem i_plain {tg e : Expr} {c : CE} (hp : plainI c = true) (h : SimE G C n N sc e c) : SimI G C n N sc tg e c := by
  intro X cs ρ S H σd σ R RE Q hq
  rw [evI_plain hp] at hq
  refine .of (pi_any (pe_sem X e)) ?_
  refine h X cs ρ S H σd σ R RE _ (Mt.go (Mt.bind hq) fun d S1 ρ1 H1 e1 R1 st1 h1 v hv => ?_)
  obtain ⟨src, hs, hJ⟩ := ofOpt_of h1 R1
  unfold srcOf at hs
  cases hv with
  | tup q r => cases hs; exact .inr (.inl ⟨_, rfl, ⟨_, cs.K ▸ q.sq⟩, cs.K ▸ hJ _ (ok_tup (tview q r))⟩)
  | cl q r => cases hs; exact .inl ⟨_, rfl, ⟨_, cs.K ▸ q.sq⟩, cs.K ▸ hJ _ (ok_list (lview_cl q r))⟩
  | str s => cases hs; exact .inr (.inr (.inl ⟨_, rfl, hJ _ ok_str⟩))
  | ref hk =>
    simp only at hs
    split at hs
    · rename_i xs ex
      cases hs
      have o := R1.obj _ _ _ hk ex
      cases o with
      | lst q r => exact .inl ⟨_, rfl, ⟨_, by rw [cs.K]; exact .of q⟩, cs.K ▸ hJ _ (ok_list (lview_ref List.mem_cons_self hk))⟩
    · rename_i kvs ex
      cases hs
      have o := R1.obj _ _ _ hk ex
      cases o with
      | ldict q r => exact .inr (.inr (.inr ⟨_, _, _, rfl, q, hJ _ (ok_keys q r)⟩))
    · cases hs
  | _ => cases hs

theorem a_one {e : Expr} {c : CE} (hs : ∀ x p, e ≠ .Starred x p) (he : SimE G C n N sc e c) {X : Cx} (cs : Cs G N sc n X) {ρ : List Addr} {S : Store} {H : Hp} {σd : Envr} {σ : L2.St} (R : RelS G ρ S H) (RE : RelE G ρ H σd σ) {Q : List V → Hp → Prop}
    (hq : Mt G ρ S H (evE C c σd S) fun d _ ρ' H' => ∀ v, VR G ρ' H' d v → Q [v] H') : tSA X [e] σ H Q := by
  intro pos pins s I
  refine (pa_cons (pe_sem X e) pa_nil (star_cons hs)).run pos pins s σ H Q I ?_
  exact he X cs ρ S H σd σ R RE _ (Mt.go hq fun d S1 ρ1 H1 e1 R1 st1 h1 v hv => h1 v hv)
theorem a_two {e f : Expr} {c d : CE} (hs : ∀ x p, e ≠ .Starred x p) (hs2 : ∀ x p, f ≠ .Starred x p) (he : SimE G C n N sc e c) (hf : SimE G C n N sc f d) {X : Cx} (cs : Cs G N sc n X) {ρ : List Addr} {S : Store} {H : Hp} {σd : Envr} {σ : L2.St} (R : RelS G ρ S H) (RE : RelE G ρ H σd σ) {Q : List V → Hp → Prop}
    (hq : Mt G ρ S H (evE C c σd S) fun x S1 ρ1 H1 => Mt G ρ1 S1 H1 (evE C d σd S1) fun y _ ρ2 H2 => ∀ v w, VR G ρ2 H2 x v → VR G ρ2 H2 y w → Q [v, w] H2) : tSA X [e, f] σ H Q := by
  intro pos pins s I
  refine (pa_cons (pe_sem X e) (pa_cons (pe_sem X f) pa_nil (star_cons hs2)) (star_cons hs)).run pos pins s σ H Q I ?_
  refine he X cs ρ S H σd σ R RE _ (Mt.go hq fun d S1 ρ1 H1 e1 R1 st1 h1 v hv => ?_)
  refine hf X cs ρ1 S1 H1 σd σ R1 (RE.mono st1.pre st1.keep) _ (Mt.go h1 fun ds S2 ρ2 H2 e2 R2 st2 h2 w hw => ?_)
  exact h2 v w (hv.mono st2.pre st2.keep) hw
theorem i_range1 {tg a : Expr} {c : CE} {p pos : Pos} (hg : isGlob sc "range" = true) (hm : G.mg "range" = none) (hs : ∀ x p, a ≠ .Starred x p) (h : SimE G C n N sc a c) : SimI G C n N sc tg (.Call (.Name "range" p) [a] [] pos) (.range [c]) := by
  intro X cs ρ S H σd σ R RE Q hq
  unfold evI at hq
  refine .of (pi_range1 (isGlob_of cs hg) (by rw [cs.mg]; exact hm) (pa_sem X [a]) (star_cons hs)) ?_
  refine a_one hs h cs R RE (Mt.go (Mt.bind hq) fun d S1 ρ1 H1 e1 R1 st1 h1 v hv => ?_)
  cases hv with
  | int i =>
    simp only at h1
    split at h1
    · rename_i hi
      exact ⟨i, rfl, hi.1, hi.2, Mt.here h1 R1 _ ok_range⟩
    · exact h1.elim
  | _ => exact h1.elim
theorem i_range2 {tg a b : Expr} {c d : CE} {p pos : Pos} (hg : isGlob sc "range" = true) (hm : G.mg "range" = none) (hs : ∀ x p, a ≠ .Starred x p) (hs2 : ∀ x p, b ≠ .Starred x p) (h : SimE G C n N sc a c) (h2 : SimE G C n N sc b d) :
    SimI G C n N sc tg (.Call (.Name "range" p) [a, b] [] pos) (.range [c, d]) := by
  intro X cs ρ S H σd σ R RE Q hq
  unfold evI at hq
  refine .of (pi_range2 (isGlob_of cs hg) (by rw [cs.mg]; exact hm) (pa_sem X [a, b]) (by rw [star_cons hs, star_cons hs2]; rfl) (star_cons hs2)) ?_
  refine a_two hs hs2 h h2 cs R RE (Mt.go (Mt.bind hq) fun d S1 ρ1 H1 e1 R1 st1 h1 => Mt.go (Mt.bind h1) fun d2 S2 ρ2 H2 e2 R2 st2 h2 v w hv hw => ?_)
  cases hv with
  | int i =>
    cases hw with
    | int j =>
      simp only at h2
      split at h2
      · rename_i hi
        exact ⟨i, j, rfl, ⟨hi.1.1, hi.1.2, hi.2.1, hi.2.2⟩, Mt.here h2 R2 _ ok_range⟩
      · exact h2.elim
    | _ => exact h2.elim
  | _ => exact h2.elim
theorem lst_view {ρ : List Addr} {S : Store} {H : Hp} (R : RelS G ρ S H) {m : Nat} {xs : List D} {v : V} {k : List (Nat × List D)} (hv : VR G ρ H (.ref m) v) (h : (D.ref m).lst? S = some xs) (hm : (m, xs) ∈ k) : ∃ a vs, v = .ref a ∧ SqL G.K H a vs ∧ vs.length = xs.length ∧ LView G k xs a ρ H := by
  cases hv with
  | ref hk =>
    unfold D.lst? at h
    simp only at h
    split at h
    · rename_i ys e
      cases h
      have o := R.obj _ _ _ hk e
      cases o with
      | lst q r => exact ⟨_, _, rfl, .of q, r.length.symm, lview_ref hm hk⟩
    · cases h
theorem i_enum {elts : List Expr} {kk : Nat} {tpos : Pos} {a : Expr} {c : CE} {p pos : Pos} (hg : isGlob sc "enumerate" = true) (hm : G.mg "enumerate" = none) (hs : ∀ x p, a ≠ .Starred x p) (h : SimE G C n N sc a c) :
    SimI G C n N sc (.Tuple elts kk tpos) (.Call (.Name "enumerate" p) [a] [] pos) (.enum c) := by
  intro X cs ρ S H σd σ R RE Q hq
  unfold evI at hq
  refine .of (pi_enumA (isGlob_of cs hg) (by rw [cs.mg]; exact hm) (pa_sem X [a]) (star_cons hs)) ?_
  refine a_one hs h cs R RE (Mt.go (Mt.bind hq) fun d S1 ρ1 H1 e1 R1 st1 h1 v hv => ?_)
  cases d with
  | cl xs =>
    cases hv with
    | cl q r => exact .inl ⟨_, _, rfl, cs.K ▸ q.sq, cs.K ▸ Mt.here h1 R1 _ (ok_enum (lview_cl q r))⟩
  | tup xs =>
    cases hv with
    | tup q r => exact .inr ⟨_, _, rfl, cs.K ▸ q.sq, cs.K ▸ Mt.here h1 R1 _ (ok_enumT (tview q r))⟩
  | ref m =>
    simp only at h1
    split at h1
    · rename_i xs e
      obtain ⟨a, vs, rfl, q, _, lv⟩ := lst_view (k := [(m, xs)]) R1 hv e List.mem_cons_self
      exact .inl ⟨_, _, rfl, cs.K ▸ q, cs.K ▸ Mt.here h1 R1 _ (ok_enum lv)⟩
    · exact h1.elim
  | _ => exact h1.elim
theorem i_zip {elts : List Expr} {kk : Nat} {tpos : Pos} {a b : Expr} {c d : CE} {p pos : Pos} (hg : isGlob sc "zip" = true) (hm : G.mg "zip" = none) (hs : ∀ x p, a ≠ .Starred x p) (hs2 : ∀ x p, b ≠ .Starred x p) (h : SimE G C n N sc a c) (h2 : SimE G C n N sc b d) :
    SimI G C n N sc (.Tuple elts kk tpos) (.Call (.Name "zip" p) [a, b] [] pos) (.zip c d) := by
  intro X cs ρ S H σd σ R RE Q hq
  unfold evI at hq
  refine .of (RZ.pi_zipA (isGlob_of cs hg) (by rw [cs.mg]; exact hm) (pa_sem X [a, b]) (star_cons hs) (back_any fun e he => by
    rcases List.mem_cons.mp he with rfl | he
    · exact hs2
    · cases he)) ?_
  refine a_two hs hs2 h h2 cs R RE (Mt.go (Mt.bind hq) fun d S1 ρ1 H1 e1 R1 st1 h1 => Mt.go (Mt.bind h1) fun d2 S2 ρ2 H2 e2 R2 st2 h2 v w hv hw => ?_)
  split at h2
  · rename_i m m'
    split at h2
    · rename_i xs ys ex ey
      obtain ⟨a, vs, rfl, q, _, lv⟩ := lst_view (k := [(m, xs), (m', ys)]) R2 hv ex List.mem_cons_self
      obtain ⟨b, ws, rfl, q2, _, lv2⟩ := lst_view (k := [(m, xs), (m', ys)]) R2 hw ey (List.mem_cons_of_mem _ List.mem_cons_self)
      exact ⟨_, _, _, _, rfl, .inl ⟨cs.K ▸ q, cs.K ▸ q2, cs.K ▸ Mt.here h2 R2 _ (ok_zip lv lv2)⟩⟩
    · exact h2.elim
  · cases hv with
    | tup q r =>
      cases hw with
      | tup q2 r2 => exact ⟨_, _, _, _, rfl, .inr ⟨cs.K ▸ q.sq, cs.K ▸ q2.sq, cs.K ▸ Mt.here h2 R2 _ (ok_zipT (tview q r) (tview q2 r2))⟩⟩
  · exact h2.elim
theorem i_reversed {tg a : Expr} {c : CE} {p pos : Pos} (hg : isGlob sc "reversed" = true) (hm : G.mg "reversed" = none) (hs : ∀ x p, a ≠ .Starred x p) (h : SimE G C n N sc a c) : SimI G C n N sc tg (.Call (.Name "reversed" p) [a] [] pos) (.reversed c) := by
  intro X cs ρ S H σd σ R RE Q hq
  unfold evI at hq
  refine .of (RT.pi_revA (isGlob_of cs hg) (by rw [cs.mg]; exact hm) (pe_sem X a) (star_cons hs)) ?_
  refine h X cs ρ S H σd σ R RE _ (Mt.go (Mt.bind hq) fun d S1 ρ1 H1 e1 R1 st1 h1 v hv => ?_)
  cases d with
  | cl xs =>
    cases hv with
    | cl q r => exact ⟨_, _, rfl, .inl ⟨cs.K ▸ q.sq, cs.K ▸ Mt.here h1 R1 _ (ok_rev r.length.symm (lview_cl q r))⟩⟩
  | tup xs =>
    cases hv with
    | tup q r => exact ⟨_, _, rfl, .inr ⟨cs.K ▸ q.sq, cs.K ▸ Mt.here h1 R1 _ (ok_revT r.length.symm (tview q r))⟩⟩
  | ref m =>
    simp only at h1
    split at h1
    · rename_i xs e
      obtain ⟨a, vs, rfl, q, hl, lv⟩ := lst_view (k := [(m, xs)]) R1 hv e List.mem_cons_self
      exact ⟨_, _, rfl, .inl ⟨cs.K ▸ q, cs.K ▸ Mt.here h1 R1 _ (ok_rev hl lv)⟩⟩
    · exact h1.elim
  | _ => exact h1.elim
end
end NF

/-! NFLc: list comprehensions. -/
namespace NF
open PySem PySem.Spec PyProof.Rows L2
section
variable {G : Gc} {gl : Gm} {C : Ctx} {n : Nat} {N : List Str} {sc : Scope}

/-- what a turn gives -/
def lcTurn (C : Ctx) (elt : CE) (g : CG) (ifs : List CE) (own : List Nat) (σ : Envr) (x : D) (S : Store) : Res (Option D) := match setG g x (wipeE σ own) with
  | some σ' => (evIfs C ifs σ' S).bind fun t S3 => if t then (evE C elt σ' S3).bind fun v S4 => .ok (some v) S4 none else .ok none S3 none
  | none => .stuck
theorem evE_lc (elt : CE) (g : CG) (it : CE) (ifs : List CE) (own : List Nat) (σ : Envr) (S : Store) : evE C (.lc elt g it ifs own) σ S =
    (evI C it σ S).bind fun src S1 => (evTurns (lcTurn C elt g ifs own σ) src.keep src.items [] S1).bind fun vs S2 => new (.lst vs) S2 := by
  simp only [evE]
  rfl
theorem wipe_at {σ : L2.St} {k : Nat} : ∀ {vs : List Nat}, k ∈ vs → k < σ.length → (wipe σ vs)[k]? = some none
  | [], h, _ => by cases h
  | v :: vs, h, hl => by
    unfold L2.wipe
    by_cases e : v = k
    · subst e
      rw [List.getElem?_set_self (by rw [wipe_length]; exact hl)]
    · rw [List.getElem?_set_ne e]
      exact wipe_at ((List.mem_cons.mp h).resolve_left (Ne.symm e)) hl
theorem wipe_back {σ σ' : L2.St} {vs l : List Nat} (h : OnlyG l (wipe σ vs) σ') (hl : ∀ k ∈ l, k ∈ vs) : wipe σ' vs = wipe σ vs := by
  have hlen : σ'.length = σ.length := by rw [h.1, wipe_length]
  apply List.ext_getElem?
  intro k
  by_cases hk : k ∈ vs
  · by_cases hb : k < σ.length
    · rw [wipe_at hk hb, wipe_at hk (by rw [hlen]; exact hb)]
    · rw [List.getElem?_eq_none (by rw [wipe_length]; omega), List.getElem?_eq_none (by rw [wipe_length]; omega)]
  · rw [wipe_out hk, h.2 k fun m => hk (hl k m)]

/-- over all the blocks of a comprehension -/
abbrev blkX (X : Cx) (scope : Scope) (s : Shared) (H : Hp) (C : Addr) (cl : List (Str × Addr)) (fp : List Addr) : Cx := X.blk s H scope (compEnvC scope cl C X.env) fp
def tGB (X : Cx) (scope : Scope) (tg : Expr) : TG := fun v σ H Q => ∀ s H0 C cl fp, tSG (blkX X scope s H0 C cl fp) tg v σ H Q
def tEB (X : Cx) (scope : Scope) (e : Expr) : TE := fun σ H Q => ∀ s H0 C cl fp, tSE (blkX X scope s H0 C cl fp) e σ H Q
def tIfB (X : Cx) (scope : Scope) : List Expr → TT
  | [] => fun _ H Q => Q true H
  | [c] => fun σ H Q => ∀ s H0 C cl fp, tST (blkX X scope s H0 C cl fp) c σ H Q
  | _ => fun _ _ _ => False
theorem pg_blk (X : Cx) (scope : Scope) (tg : Expr) (s : Shared) (H : Hp) (C : Addr) (cl : List (Str × Addr)) (fp : List Addr) : PG (X.blk s H scope (compEnvC scope cl C X.env) fp) tg (tGB X scope tg) :=
  ⟨fun pins s1 σ H1 v u Q I r h => h s H C cl fp pins s1 u I r⟩
theorem pe_blk (X : Cx) (scope : Scope) (tg : Expr) (s : Shared) (H : Hp) (C : Addr) (cl : List (Str × Addr)) (fp : List Addr) : PE (X.blk s H scope (compEnvC scope cl C X.env) fp) tg (tEB X scope tg) :=
  ⟨fun pins s1 σ H1 Q I h => h s H C cl fp pins s1 I⟩
theorem pt_blk (X : Cx) (scope : Scope) (ifs : List Expr) (s : Shared) (H : Hp) (C : Addr) (cl : List (Str × Addr)) (fp : List Addr) : PTs (X.blk s H scope (compEnvC scope cl C X.env) fp) ifs (tIfB X scope ifs) := by
  match ifs with
  | [] => exact pts_nil
  | [c] => exact pts_one ⟨fun pins s1 σ H1 Q I h => h s H C cl fp pins s1 I⟩
  | _ :: _ :: _ => exact ⟨fun _ _ _ _ _ _ h => h.elim⟩
theorem cs_blk {X : Cx} (cs : Cs G N sc n X) (scope : Scope) (s : Shared) (H : Hp) (C : Addr) (cl : List (Str × Addr)) (fp : List Addr) : Cs G N (relS scope sc) n (blkX X scope s H C cl fp) where
  K := cs.K
  prog := cs.prog
  w := cs.w
  mg := cs.mg
  base := cs.base
  calm := cs.calm
  rm := cs.rm
  xe := rfl
  ok := cs.ok
  hN := cs.hN
  sc := by
    show relS scope X.env.scope = _
    rw [cs.sc]
  nd := cs.nd

/-- the ifs of a comprehension -/
def SimIf (G : Gc) (C : Ctx) (n : Nat) (N : List Str) (sc : Scope) : List Expr → List CE → Prop
  | [], [] => True
  | [e], [c] => SimT G C n N sc e c
  | _, _ => False

/-- an object of its own stays out of the store -/
structure Own (ρ : List Addr) (H : Hp) (D : Addr) (vs : List V) : Prop where
  at_ : H D = some (.lst vs)
  out : D ∉ ρ
theorem Own.step {ρ ρ' : List Addr} {S S' : Store} {H H' : Hp} {e : Esc} {D : Addr} {vs : List V} (o : Own ρ H D vs) (st : Step ρ S H ρ' S' H' e) : Own ρ' H' D vs := ⟨(st.rest D _ o.at_ o.out).1, (st.rest D _ o.at_ o.out).2⟩
theorem Step.grow {ρ : List Addr} {S : Store} {H H' : Hp} (h : ∀ a u, H a = some u → H' a = some u) : Step ρ S H ρ S H' none :=
  ⟨List.prefix_refl _, ⟨fun a xs e => h a _ e, fun a o xs e => h a _ e⟩, MonoS.refl _, fun a u e m => ⟨h a u e, m⟩⟩
theorem emin_none (e : Esc) : emin e none = e := by cases e <;> rfl
theorem none_emin (e : Esc) : emin none e = e := by cases e <;> rfl
theorem emin_assoc (a b c : Esc) : emin (emin a b) c = emin a (emin b c) := by
  cases a <;> cases b <;> cases c <;> simp [emin, Nat.min_assoc]

/-- a turn's list grows -/
theorem own_grow {ρ ρ1 : List Addr} {S S1 : Store} {H H1 : Hp} {e : Esc} {D : Addr} {vs : List V} {ds : List NF.D} {y : V} {d : NF.D} (hD : H1 D = none) (R : RelS G ρ S H) (st : Step ρ1 S1 H1 ρ S H e) (o : Own ρ H D vs) (r : VRs G ρ H ds vs) (hy : VR G ρ H d y) :
    RelS G ρ S (upd H D (.lst (vs ++ [y]))) ∧ Step ρ1 S1 H1 ρ S (upd H D (.lst (vs ++ [y]))) e ∧ Own ρ (upd H D (.lst (vs ++ [y]))) D (vs ++ [y]) ∧ VRs G ρ (upd H D (.lst (vs ++ [y]))) (ds ++ [d]) (vs ++ [y]) := by
  have k : Keep H (upd H D (.lst (vs ++ [y]))) := Keep.write o.at_ (fun xs z => by cases z) (fun ob xs z => by cases z)
  refine ⟨⟨R.len, R.inj, fun i a ob h1 h2 => (R.obj i a ob h1 h2).at (List.prefix_refl _) k fun u hu => ?_⟩, ⟨st.pre, st.keep.trans k, st.mono, fun a u hu hn => ?_⟩, ⟨upd_same, o.out⟩, (r.append (.cons hy .nil)).mono (List.prefix_refl _) k⟩
  · have hne : a ≠ D := by
      rintro rfl
      exact o.out (List.mem_of_getElem? h1)
    rw [upd_ne hne]; exact hu
  · obtain ⟨q1, q2⟩ := st.rest a u hu hn
    have hne : a ≠ D := by
      rintro rfl
      rw [hD] at hu; cases hu
    exact ⟨by rw [upd_ne hne]; exact q1, q2⟩

theorem mt_ok {α : Type} {ρ : List Addr} {S : Store} {H : Hp} {r : Res α} {Φ : α → Store → List Addr → Hp → Prop} (h : Mt G ρ S H r Φ) : ∃ a S1 e, r = .ok a S1 e ∧ ∀ ρ' H', RelS G ρ' S1 H' → Step ρ S H ρ' S1 H' e → Φ a S1 ρ' H' := by
  cases r with
  | ok a S1 e => exact ⟨a, S1, e, rfl, h⟩
  | exn x S1 e => exact h.elim
  | stuck => exact h.elim
theorem evTurns_nil {f : D → Store → Res (Option D)} {k : List (Nat × List D)} {acc vs : List D} {S S' : Store} {e : Esc} (h : evTurns f k [] acc S = .ok vs S' e) : Src.holds S k = true ∧ vs = acc ∧ S' = S ∧ e = none := by
  unfold evTurns at h
  split at h
  · rename_i hh; cases h; exact ⟨hh, rfl, rfl, rfl⟩
  · cases h
theorem evTurns_cons {f : D → Store → Res (Option D)} {k : List (Nat × List D)} {x : D} {xs acc vs : List D} {S S' : Store} {e : Esc} (h : evTurns f k (x :: xs) acc S = .ok vs S' e) :
    Src.holds S k = true ∧ ∃ r S1 e1 e2, f x S = .ok r S1 e1 ∧ e = emin e1 e2 ∧ match r with
      | some v => acc.length < sizeL ∧ evTurns f k xs (acc ++ [v]) S1 = .ok vs S' e2
      | none => evTurns f k xs acc S1 = .ok vs S' e2 := by
  unfold evTurns at h
  split at h
  · rename_i hh
    refine ⟨hh, ?_⟩
    obtain ⟨r, S1, e1, e2, h1, h2, he⟩ := bind_ok h
    refine ⟨r, S1, e1, e2, h1, he, ?_⟩
    cases r with
    | some v =>
      simp only at h2 ⊢
      split at h2
      · rename_i hl; exact ⟨hl, h2⟩
      · cases h2
    | none => exact h2
  · cases h

/-- what the comprehension's turns do -/
theorem lc_law {elt tg iter : Expr} {ifs : List Expr} {scope : Scope} {x : CE} {g : CG} {it : CE} {fs : List CE} {own : List Nat} (hg : SimG G n N (relS scope sc) (fun x => scope.names.lookup x == some .cell) tg g)
    (hi : SimI G C n N sc tg iter it) (he : SimE G C n N (relS scope sc) elt x) (ht : SimIf G C n N (relS scope sc) ifs fs) (hsl : ∀ k ∈ g.sl, k ∈ own) {X : Cx} (cs : Cs G N sc n X) {ρ : List Addr} {S : Store} {H : Hp} {σd : Envr} {σ : L2.St} (R : RelS G ρ S H) (RE : RelE G ρ H σd σ) {Q : VK}
    (hq : MtV G ρ S H (evE C (.lc x g it fs own) σd S) Q) : tLc (tSI X tg iter) (tGB X scope tg) (tIfB X scope ifs) (tEB X scope elt) own σ H Q := by
  rw [evE_lc] at hq
  refine hi X cs ρ S H σd σ R RE _ (Mt.go (Mt.bind hq) fun src S1 ρ1 H1 e1 R1 st1 h1 J hJ => ?_)
  intro D hD
  obtain ⟨vsF, SF, eF, hF, -⟩ := mt_ok (Mt.bind h1)
  have RE1 := RE.mono st1.pre st1.keep
  -- the invariant
  refine ⟨fun i m H' => m = src.items.length - i ∧ i ≤ src.items.length ∧ ∃ ρ' S' acc accV e e2, RelS G ρ' S' H' ∧ Step ρ1 S1 H1 ρ' S' H' e ∧ Own ρ' H' D accV ∧ VRs G ρ' H' acc accV ∧
    evTurns (lcTurn C x g fs own σd) src.keep (src.items.drop i) acc S' = .ok vsF SF e2 ∧ emin e e2 = eF, ⟨src.items.length, by simp, Nat.zero_le _, ρ1, S1, [], [], none, eF, ?_, ?_, ⟨upd_same, R1.free hD⟩, .nil, by simpa using hF, none_emin _⟩, ?_⟩
  · exact R1.grow (Keep.new hD) (upd_none hD)
  · exact Step.grow (upd_none hD)
  rintro i m H' ⟨rfl, hle, ρ', S', acc, accV, e, e2, R', st', own', rv, hT, hE⟩
  by_cases hlt : i < src.items.length
  · -- a turn
    obtain ⟨d, hd⟩ : ∃ d, src.items[i]? = some d := ⟨_, List.getElem?_eq_getElem hlt⟩
    have hdrop : src.items.drop i = d :: src.items.drop (i + 1) := by
      rw [List.drop_eq_getElem_cons hlt]
      congr 1
      rw [List.getElem?_eq_getElem hlt] at hd
      exact Option.some.inj hd
    rw [hdrop] at hT
    obtain ⟨hh, r, S2, e3, e4, hf, he4, hr⟩ := evTurns_cons hT
    obtain ⟨hgo, hyld⟩ := hJ.go ρ' S' H' i d R' st'.pre st'.keep hh hd
    refine .inr ⟨hgo, fun H'' => ∃ m', m' < src.items.length - i ∧ m' = src.items.length - (i + 1) ∧ i + 1 ≤ src.items.length ∧ ∃ ρ' S' acc accV e e2, RelS G ρ' S' H'' ∧ Step ρ1 S1 H1 ρ' S' H'' e ∧ Own ρ' H'' D accV ∧ VRs G ρ' H'' acc accV ∧
      evTurns (lcTurn C x g fs own σd) src.keep (src.items.drop (i + 1)) acc S' = .ok vsF SF e2 ∧ emin e e2 = eF, fun H'' ⟨m', h1, h2⟩ => ⟨m', h1, h2⟩, fun w H2 hy => ?_⟩
    obtain ⟨hpres, hw⟩ := hyld w H2 hy
    have stg : Step ρ' S' H' ρ' S' H2 none := Step.grow hpres
    have R2 : RelS G ρ' S' H2 := R'.grow stg.keep hpres
    have st2 := st'.trans stg
    rw [emin_none] at st2
    have own2 := own'.step stg
    have rv2 := rv.mono stg.pre stg.keep
    have RE2 := (RE1.mono st2.pre st2.keep).wipe own
    unfold lcTurn at hf
    split at hf
    case h_2 => cases hf
    rename_i σ1 hset
    obtain ⟨t, S3, e5, e6, hif, hrest, he6⟩ := bind_ok hf
    intro s0 H0 C0 cl fp
    refine hg _ (cs_blk cs scope s0 H0 C0 cl fp) (fun x h => h) ρ' H2 _ σ1 _ d w RE2 hw hset _ fun σ2 REs hon => ⟨wipe_back hon hsl, ?_⟩
    -- the test
    have htest : ∀ Ψ : Bool → Hp → Prop, Mt G ρ' S' H2 (evIfs C fs σ1 S') (fun b _ _ H3 => Ψ b H3) → tIfB X scope ifs σ2 H2 Ψ := by
      intro Ψ hΨ
      cases ifs with
      | nil =>
        cases fs with
        | nil => unfold evIfs at hΨ; exact Mt.here hΨ R2
        | cons => exact ht.elim
      | cons c cs1 =>
        cases cs1 with
        | nil =>
          cases fs with
          | nil => exact ht.elim
          | cons f fs1 =>
            cases fs1 with
            | nil =>
              unfold evIfs at hΨ
              exact fun s0 H0 C0 cl fp => ht _ (cs_blk cs scope s0 H0 C0 cl fp) ρ' S' H2 σ1 σ2 R2 REs Ψ hΨ
            | cons => exact ht.elim
        | cons => cases fs <;> exact ht.elim
    refine htest _ ?_
    rw [hif]
    intro ρ3 H3 R3 st3
    have st3' := st2.trans st3
    have own3 := own2.step st3
    have rv3 := rv2.mono st3.pre st3.keep
    cases t with
    | false =>
      simp only [Bool.false_eq_true, if_false] at hrest ⊢
      cases hrest
      refine ⟨src.items.length - (i + 1), by omega, rfl, hlt, ρ3, _, acc, accV, _, e4, R3, st3', own3, rv3, hr, ?_⟩
      rw [← hE, he4, he6, emin_none, emin_assoc]
    | true =>
      simp only [if_true] at hrest ⊢
      obtain ⟨v, S4, e7, e8, hv, hlast, he8⟩ := bind_ok hrest
      cases hlast
      intro s0 H0 C0 cl fp
      refine he _ (cs_blk cs scope s0 H0 C0 cl fp) ρ3 S3 H3 σ1 σ2 R3 (REs.mono st3.pre st3.keep) _ ?_
      rw [hv]
      intro ρ4 H4 R4 st4 y hy4
      have st4' := st3'.trans st4
      have own4 := own3.step st4
      have rv4 := rv3.mono st4.pre st4.keep
      obtain ⟨q1, q2, q3, q4⟩ := own_grow hD R4 st4' own4 rv4 hy4
      refine ⟨accV, own4.at_, ?_, src.items.length - (i + 1), by omega, rfl, hlt, ρ4, _, acc ++ [v], accV ++ [y], _, e4, q1, q2, q3, q4, hr.2, ?_⟩
      · rw [← rv4.length]; exact hr.1
      · rw [← hE, he4, he6, he8, emin_none, emin_assoc, emin_assoc, emin_assoc]
  · -- the end
    have ei : i = src.items.length := by omega
    subst ei
    rw [List.drop_length] at hT
    obtain ⟨hh, rfl, rfl, rfl⟩ := evTurns_nil hT
    rw [emin_none] at hE
    subst hE
    refine .inl ⟨hJ.stop ρ' _ H' _ R' st'.pre st'.keep hh (Nat.le_refl _), ?_⟩
    rw [hF] at h1
    -- the list comes into the store
    have h2 : MtV G ρ1 S1 H1 (.ok (.ref SF.length) (SF ++ [.lst vsF]) (emin e none)) Q := h1
    rw [emin_none] at h2
    have hpre : ρ' <+: ρ' ++ [D] := ⟨[D], rfl⟩
    refine h2 (ρ' ++ [D]) H' ⟨by simp [R'.len], ?_, fun i a ob q1 q2 => ?_⟩ ⟨st'.pre.trans hpre, st'.keep, ?_, fun a u hu hn => ?_⟩ _ (.ref ?_)
    · rw [List.nodup_append]
      refine ⟨R'.inj, by simp, fun a ha b hb => ?_⟩
      have : b = D := by simpa using hb
      subst this
      rintro rfl; exact own'.out ha
    · by_cases hi : i < SF.length
      · rw [List.getElem?_append_left hi] at q2
        rw [List.getElem?_append_left (by rw [R'.len]; exact hi)] at q1
        exact (R'.obj i a ob q1 q2).at hpre (Keep.refl _) fun u hu => hu
      · have hl := R'.len
        rw [List.getElem?_append_right (by omega)] at q2
        rw [List.getElem?_append_right (by omega)] at q1
        have e : i = SF.length := by
          have := (List.getElem?_eq_some_iff.mp q2).1
          simp at this; omega
        subst e
        rw [hl] at q1
        simp at q1 q2
        subst q1; subst q2
        exact .lst own'.at_ (rv.mono hpre (Keep.refl _))
    · have := st'.mono.trans (MonoS.push SF (.lst vsF))
      rw [emin_none] at this
      exact this
    · obtain ⟨q1, q2⟩ := st'.rest a u hu hn
      refine ⟨q1, fun m => ?_⟩
      rcases List.mem_append.mp m with m | m
      · exact q2 m
      · have : a = D := by simpa using m
        subst this
        rw [hD] at hu; cases hu
    · rw [List.getElem?_append_right (by rw [R'.len]; exact Nat.le_refl _), R'.len]
      simp
theorem folded_of {e : Expr} {env : Env} (h : ∀ a k p, e ≠ .Set a k p) : ∀ x, foldedSetIterable e env x = pure x := by
  intro x
  unfold foldedSetIterable
  split
  · exact absurd rfl (h _ _ _)
  · rfl
theorem s_lc {elt tg iter : Expr} {ifs : List Expr} {scope : Scope} {pos : Pos} {own : List (Str × Nat)} {x : CE} {g : CG} {it : CE} {fs : List CE} (hb : blkC N sc scope own = true) (hset : ∀ a k p, iter ≠ .Set a k p) (hg : SimG G n N (relS scope sc) (fun x => scope.names.lookup x == some .cell) tg g)
    (hi : SimI G C n N sc tg iter it) (he : SimE G C n N (relS scope sc) elt x) (ht : SimIf G C n N (relS scope sc) ifs fs) (hsl : ∀ k ∈ g.sl, k ∈ own.map (·.2)) : SimE G C n N sc (.ListComp elt [⟨tg, iter, ifs, 0⟩] scope pos) (.lc x g it fs (own.map (·.2))) := by
  intro X cs ρ S H σd σ R RE Q hq
  exact .of (pe_lc cs.calm (by rw [cs.hN]; exact cs.nd) (pi_sem X tg iter) (by rw [cs.hN, cs.sc]; exact blkOk_by hb) (fun s H C cl fp => pg_blk X scope tg s H C cl fp) (fun s H C cl fp => pt_blk X scope ifs s H C cl fp)
    (fun s H C cl fp => pe_blk X scope elt s H C cl fp) (folded_of hset)) (lc_law hg hi he ht hsl cs R RE hq)
end
end NF

/-! NFDisp: dict displays. -/
namespace NF
open PySem PySem.Spec PyProof.Rows L2
section
variable {G : Gc} {gl : Gm} {C : Ctx} {n : Nat} {N : List Str} {sc : Scope}
/-- keys and values of a display -/
inductive SimP (G : Gc) (C : Ctx) (n : Nat) (N : List Str) (sc : Scope) : List (Option Expr) → List Expr → List CE → Prop
  | nil : SimP G C n N sc [] [] []
  | cons {k v : Expr} {a b : CE} {ks : List (Option Expr)} {vs : List Expr} {r : List CE} : SimE G C n N sc k a → SimE G C n N sc v b → SimP G C n N sc ks vs r → SimP G C n N sc (some k :: ks) (v :: vs) (a :: b :: r)
theorem trKVs_snd {f : Expr → Option CE} (h : ∀ e c, f e = some c → SimE G C n N sc e c) : ∀ {ks : List (Option Expr)} {vs : List Expr} {cs : List CE}, trKVs f ks vs = some cs → SimP G C n N sc ks vs cs
  | [], [], cs, e => by cases e; exact .nil
  | [], _ :: _, cs, e => by cases e
  | none :: _, _, cs, e => by simp [trKVs] at e
  | some k :: ks, [], cs, e => by cases e
  | some k :: ks, v :: vs, cs, e => by
    unfold trKVs at e
    split at e
    · rename_i a b r h1 h2 h3
      cases e
      exact .cons (h _ _ h1) (h _ _ h2) (trKVs_snd h h3)
    · cases e
def trsOf (X : Cx) : List (Option Expr) → List Expr → List (TE × TE)
  | some k :: ks, v :: vs => (tSE X k, tSE X v) :: trsOf X ks vs
  | _, _ => []
theorem pps_sem {X : Cx} {pos : Pos} {ks : List (Option Expr)} {vs : List Expr} {cs : List CE} (h : SimP G C n N sc ks vs cs) : PPs X pos ks vs (trsOf X ks vs) := by
  induction h with
  | nil => exact pps_nil
  | cons _ _ _ ih => exact pps_cons (pe_sem X _) (pe_sem X _) ih
theorem SimP.all {ks : List (Option Expr)} {vs : List Expr} {cs : List CE} (h : SimP G C n N sc ks vs cs) : ks.all (·.isSome) = true ∧ ks.length = vs.length := by
  induction h with
  | nil => exact ⟨rfl, rfl⟩
  | cons _ _ _ ih => exact ⟨by simp [ih.1], by simp [ih.2]⟩
/-- pairs of values -/
inductive PRs (G : Gc) (ρ : List Addr) (H : Hp) : List D → List (V × V) → Prop
  | nil : PRs G ρ H [] []
  | cons {d e : D} {x y : V} {r : List D} {ps : List (V × V)} : VR G ρ H d x → VR G ρ H e y → PRs G ρ H r ps → PRs G ρ H (d :: e :: r) ((x, y) :: ps)
theorem pairs_snd {X : Cx} (cs : Cs G N sc n X) {ks : List (Option Expr)} {vs : List Expr} {es : List CE} (h : SimP G C n N sc ks vs es) : ∀ {ρ : List Addr} {S : Store} {H : Hp} {σd : Envr} {σ : L2.St}, RelS G ρ S H → RelE G ρ H σd σ →
    ∀ Q : List (V × V) → Hp → Prop, Mt G ρ S H (evEs C es σd S) (fun ds _ ρ' H' => ∀ ps, PRs G ρ' H' ds ps → Q ps H') → tPairs (trsOf X ks vs) σ H Q := by
  induction h with
  | nil =>
    intro ρ S H σd σ R RE Q hq
    unfold evEs at hq
    exact Mt.here hq R _ .nil
  | @cons k v a b ks vs r h1 h2 h3 ih =>
    intro ρ S H σd σ R RE Q hq
    unfold evEs at hq
    refine h1 X cs ρ S H σd σ R RE _ (Mt.go (Mt.bind hq) fun d S1 ρ1 H1 e1 R1 st1 q1 x hx => ?_)
    have RE1 := RE.mono st1.pre st1.keep
    have q1 := Mt.bind q1
    unfold evEs at q1
    refine h2 X cs ρ1 S1 H1 σd σ R1 RE1 _ (Mt.go (Mt.bind q1) fun d2 S2 ρ2 H2 e2 R2 st2 q2 y hy => ?_)
    have RE2 := RE1.mono st2.pre st2.keep
    refine ih R2 RE2 _ (Mt.go (Mt.bind q2) fun ds S3 ρ3 H3 e3 R3 st3 q3 ps hps => ?_)
    have q4 := Mt.here q3 R3
    have q5 := Mt.here q4 R3
    exact q5 _ (.cons ((hx.mono st2.pre st2.keep).mono st3.pre st3.keep) (hy.mono st3.pre st3.keep) hps)
theorem pairD_rel {ρ : List Addr} {H : Hp} : ∀ {ds : List D} {ps : List (V × V)} {kvs : List (D × D)}, PRs G ρ H ds ps → pairD ds = some kvs → ∃ kv : List (Key × V), KRs G ρ H kvs kv ∧ ps = kv.map (fun kv => (kV kv.1, kv.2)) ∧ kv.length = kvs.length
  | _, _, _, .nil, e => by cases e; exact ⟨[], .nil, rfl, rfl⟩
  | _, _, kvs, .cons hx hy r, e => by
    unfold pairD at e
    split at e
    case isFalse => cases e
    rename_i hk
    rw [Option.map_eq_some_iff] at e
    obtain ⟨t, ht, rfl⟩ := e
    obtain ⟨kv, h1, h2, h3⟩ := pairD_rel r ht
    obtain ⟨k, rfl, rfl⟩ := key_of hk hx
    exact ⟨(k, _) :: kv, .cons hy h1, by simp [h2], by simp [h3]⟩
theorem Mt.gr {α : Type} {ρ : List Addr} {S : Store} {H H1 : Hp} {r : Res α} {Φ : α → Store → List Addr → Hp → Prop} (h : Mt G ρ S H r Φ) (hp : ∀ a u, H a = some u → H1 a = some u) : Mt G ρ S H1 r Φ := by
  cases r with
  | ok a S1 e =>
    intro ρ1 H2 R st
    have := (Step.grow (ρ := ρ) (S := S) hp).trans st
    rw [none_emin] at this
    exact h ρ1 H2 R this
  | exn => exact h
  | stuck => exact h
theorem own_push {ρ : List Addr} {S : Store} {H H' : Hp} {p : Addr} {o : SO} (R : RelS G ρ S H) (out : p ∉ ρ) (k : Keep H H') (e : ∀ a u, a ≠ p → H a = some u → H' a = some u) (new : OR G (ρ ++ [p]) H' p o) : RelS G (ρ ++ [p]) (S ++ [o]) H' := by
  have hpre : ρ <+: ρ ++ [p] := ⟨[p], rfl⟩
  refine ⟨by simp [R.len], ?_, fun i a ob q1 q2 => ?_⟩
  · rw [List.nodup_append]
    refine ⟨R.inj, by simp, fun a ha b hb => ?_⟩
    have : b = p := by simpa using hb
    subst this
    rintro rfl; exact out ha
  · by_cases hi : i < S.length
    · rw [List.getElem?_append_left hi] at q2
      rw [List.getElem?_append_left (by rw [R.len]; exact hi)] at q1
      exact (R.obj i a ob q1 q2).at hpre k fun u hu => e a u (by rintro rfl; exact out (List.mem_of_getElem? q1)) hu
    · have hl := R.len
      rw [List.getElem?_append_right (by omega)] at q2
      rw [List.getElem?_append_right (by omega)] at q1
      have e : i = S.length := by
        have := (List.getElem?_eq_some_iff.mp q2).1
        simp at this; omega
      subst e
      rw [hl] at q1
      simp at q1 q2
      subst q1; subst q2
      exact new
theorem s_dict {ks : List (Option Expr)} {vs : List Expr} {es : List CE} {pos : Pos} (h : SimP G C n N sc ks vs es) (hl : ks.length ≤ 15) : SimE G C n N sc (.Dict ks vs pos) (.dict es) := by
  intro X cs ρ S H σd σ R RE Q hq
  unfold evE at hq
  obtain ⟨ds, S1, e, hE, -⟩ := mt_ok (Mt.bind hq)
  rw [hE] at hq
  have hq : MtV G ρ S H ((dispEv ds S1).note e) Q := hq
  unfold dispEv at hq
  split at hq
  case h_2 => exact hq.elim
  rename_i kvs hkv
  split at hq
  case isFalse => exact hq.elim
  rename_i hk15
  have hq : MtV G ρ S H (.ok (.ref S1.length) (S1 ++ [.dict (mergeD [] kvs)]) (emin e none)) Q := hq
  rw [emin_none] at hq
  cases h with
  | nil =>
    unfold evEs at hE
    cases hE
    cases hkv
    refine .of pe_dnewK fun p hp => ?_
    have hpre : ρ <+: ρ ++ [p] := ⟨[p], rfl⟩
    refine hq (ρ ++ [p]) _ (R.push hp (.dict upd_same .nil)) ⟨hpre, Keep.new hp, MonoS.push _ _, rest_push hp⟩ _ (.ref ?_)
    rw [List.getElem?_append_right (by rw [R.len]; exact Nat.le_refl _), R.len]
    simp
  | cons h1 h2 h3 =>
    have h := SimP.cons h1 h2 h3
    refine .of (pe_disp (pps_sem h) h.all.1 h.all.2 (by simp) hl) fun p hp => ?_
    have R1 : RelS G ρ S (upd H p (.dK [])) := R.grow (Keep.new hp) (upd_none hp)
    have RE1 := RE.mono (List.prefix_refl ρ) (Keep.new (o := .dK []) hp)
    refine pairs_snd cs h R1 RE1 _ ?_
    rw [hE]
    intro ρ2 H2 R2 st2 ps hps
    obtain ⟨g1, g2⟩ := st2.rest p _ upd_same (R.free hp)
    obtain ⟨kv, k1, k2, k3⟩ := pairD_rel hps hkv
    refine ⟨g1, kv, k2, by rw [k3]; exact hk15, ?_⟩
    have kp : Keep H2 (upd H2 p (.dK (mergeK [] kv))) := Keep.write g1 (fun _ z => by cases z) (fun _ _ z => by cases z)
    have hpre : ρ2 <+: ρ2 ++ [p] := ⟨[p], rfl⟩
    refine hq (ρ2 ++ [p]) _ (own_push R2 g2 kp (fun a u ha hu => by rw [upd_ne ha]; exact hu) (.dict upd_same ((k1.merge .nil).mono hpre kp))) ⟨st2.pre.trans hpre, (Keep.new hp).trans (st2.keep.trans kp), ?_, fun a u hu hn => ?_⟩ _ (.ref ?_)
    · have := st2.mono.trans (MonoS.push S1 (.dict (mergeD [] kvs)))
      rw [emin_none] at this
      exact this
    · have hne : a ≠ p := ne_of_none hu hp
      obtain ⟨q1, q2⟩ := st2.rest a u (by rw [upd_ne hne]; exact hu) hn
      refine ⟨by rw [upd_ne hne]; exact q1, fun m => ?_⟩
      rcases List.mem_append.mp m with m | m
      · exact q2 m
      · exact hne (by simpa using m)
    · rw [List.getElem?_append_right (by rw [R2.len]; exact Nat.le_refl _), R2.len]
      simp
end
end NF

/-! NFDc: dict comprehensions. -/
namespace NF
open PySem PySem.Spec PyProof.Rows L2
section
variable {G : Gc} {gl : Gm} {C : Ctx} {n : Nat} {N : List Str} {sc : Scope}
/-- the turn of a dict comprehension -/
def dcTurn (C : Ctx) (ke ve : CE) (g : CG) (ifs : List CE) (own : List Nat) (σ : Envr) : D → Store → Res (Option (D × D)) := fun x S2 => match setG g x (wipeE σ own) with
  | some σ' => (evIfs C ifs σ' S2).bind fun t S3 => if t then (evE C ke σ' S3).bind fun a S4 => (evE C ve σ' S4).bind fun b S5 => .ok (some (a, b)) S5 none else .ok none S3 none
  | none => .stuck
theorem evE_dc (ke ve : CE) (g : CG) (it : CE) (ifs : List CE) (own : List Nat) (σ : Envr) (S : Store) : evE C (.dc ke ve g it ifs own) σ S =
    (evI C it σ S).bind fun src S1 => (evTurnsD (dcTurn C ke ve g ifs own σ) src.keep src.items [] S1).bind fun vs S2 => new (.dict vs) S2 := by
  simp only [evE]
  rfl
/-- an object of its own stays out of the store -/
structure OwnD (ρ : List Addr) (H : Hp) (D : Addr) (vs : List (Key × V)) : Prop where
  at_ : H D = some (.dK vs)
  out : D ∉ ρ
theorem OwnD.step {ρ ρ' : List Addr} {S S' : Store} {H H' : Hp} {e : Esc} {D : Addr} {vs : List (Key × V)} (o : OwnD ρ H D vs) (st : Step ρ S H ρ' S' H' e) : OwnD ρ' H' D vs := ⟨(st.rest D _ o.at_ o.out).1, (st.rest D _ o.at_ o.out).2⟩
theorem ownD_grow {ρ ρ1 : List Addr} {S S1 : Store} {H H1 : Hp} {e : Esc} {D : Addr} {vs : List (Key × V)} {ds : List (NF.D × NF.D)} {k : Key} {y : V} {d : NF.D} (hD : H1 D = none) (R : RelS G ρ S H) (st : Step ρ1 S1 H1 ρ S H e) (o : OwnD ρ H D vs) (r : KRs G ρ H ds vs) (hy : VR G ρ H d y) :
    RelS G ρ S (upd H D (.dK (putK vs k y))) ∧ Step ρ1 S1 H1 ρ S (upd H D (.dK (putK vs k y))) e ∧ OwnD ρ (upd H D (.dK (putK vs k y))) D (putK vs k y) ∧ KRs G ρ (upd H D (.dK (putK vs k y))) (dput (keyD k) d ds) (putK vs k y) := by
  have kp : Keep H (upd H D (.dK (putK vs k y))) := Keep.write o.at_ (fun xs z => by cases z) (fun ob xs z => by cases z)
  refine ⟨⟨R.len, R.inj, fun i a ob h1 h2 => (R.obj i a ob h1 h2).at (List.prefix_refl _) kp fun u hu => ?_⟩, ⟨st.pre, st.keep.trans kp, st.mono, fun a u hu hn => ?_⟩, ⟨upd_same, o.out⟩, (r.put hy).mono (List.prefix_refl _) kp⟩
  · have hne : a ≠ D := by
      rintro rfl
      exact o.out (List.mem_of_getElem? h1)
    rw [upd_ne hne]; exact hu
  · obtain ⟨q1, q2⟩ := st.rest a u hu hn
    have hne : a ≠ D := by
      rintro rfl
      rw [hD] at hu; cases hu
    exact ⟨by rw [upd_ne hne]; exact q1, q2⟩
theorem evTurnsD_nil {f : D → Store → Res (Option (D × D))} {k : List (Nat × List D)} {acc vs : List (D × D)} {S S' : Store} {e : Esc} (h : evTurnsD f k [] acc S = .ok vs S' e) : Src.holds S k = true ∧ vs = acc ∧ S' = S ∧ e = none := by
  unfold evTurnsD at h
  split at h
  · rename_i hh; cases h; exact ⟨hh, rfl, rfl, rfl⟩
  · cases h
theorem evTurnsD_cons {f : D → Store → Res (Option (D × D))} {k : List (Nat × List D)} {x : D} {xs : List D} {acc vs : List (D × D)} {S S' : Store} {e : Esc} (h : evTurnsD f k (x :: xs) acc S = .ok vs S' e) :
    Src.holds S k = true ∧ ∃ r S1 e1 e2, f x S = .ok r S1 e1 ∧ e = emin e1 e2 ∧ match r with
      | some kv => (kv.1.isKey = true ∧ acc.length < sizeL) ∧ evTurnsD f k xs (dput kv.1 kv.2 acc) S1 = .ok vs S' e2
      | none => evTurnsD f k xs acc S1 = .ok vs S' e2 := by
  unfold evTurnsD at h
  split at h
  · rename_i hh
    refine ⟨hh, ?_⟩
    obtain ⟨r, S1, e1, e2, h1, h2, he⟩ := bind_ok h
    refine ⟨r, S1, e1, e2, h1, he, ?_⟩
    cases r with
    | some v =>
      simp only at h2 ⊢
      split at h2
      · rename_i hl; exact ⟨hl, h2⟩
      · cases h2
    | none => exact h2
  · cases h
theorem dc_law {kx vx tg iter : Expr} {ifs : List Expr} {scope : Scope} {x y : CE} {g : CG} {it : CE} {fs : List CE} {own : List Nat} (hg : SimG G n N (relS scope sc) (fun x => scope.names.lookup x == some .cell) tg g)
    (hi : SimI G C n N sc tg iter it) (hk : SimE G C n N (relS scope sc) kx x) (he : SimE G C n N (relS scope sc) vx y) (ht : SimIf G C n N (relS scope sc) ifs fs) (hsl : ∀ k ∈ g.sl, k ∈ own) {X : Cx} (cs : Cs G N sc n X) {ρ : List Addr} {S : Store} {H : Hp} {σd : Envr} {σ : L2.St} (R : RelS G ρ S H) (RE : RelE G ρ H σd σ) {Q : VK}
    (hq : MtV G ρ S H (evE C (.dc x y g it fs own) σd S) Q) : tDc (tSI X tg iter) (tGB X scope tg) (tIfB X scope ifs) (tEB X scope kx) (tEB X scope vx) own σ H Q := by
  rw [evE_dc] at hq
  refine hi X cs ρ S H σd σ R RE _ (Mt.go (Mt.bind hq) fun src S1 ρ1 H1 e1 R1 st1 h1 J hJ => ?_)
  intro D hD
  obtain ⟨vsF, SF, eF, hF, -⟩ := mt_ok (Mt.bind h1)
  have RE1 := RE.mono st1.pre st1.keep
  refine ⟨fun i m H' => m = src.items.length - i ∧ i ≤ src.items.length ∧ ∃ ρ' S' acc accV e e2, RelS G ρ' S' H' ∧ Step ρ1 S1 H1 ρ' S' H' e ∧ OwnD ρ' H' D accV ∧ KRs G ρ' H' acc accV ∧
    evTurnsD (dcTurn C x y g fs own σd) src.keep (src.items.drop i) acc S' = .ok vsF SF e2 ∧ emin e e2 = eF, ⟨src.items.length, by simp, Nat.zero_le _, ρ1, S1, [], [], none, eF, ?_, ?_, ⟨upd_same, R1.free hD⟩, .nil, by simpa using hF, none_emin _⟩, ?_⟩
  · exact R1.grow (Keep.new hD) (upd_none hD)
  · exact Step.grow (upd_none hD)
  rintro i m H' ⟨rfl, hle, ρ', S', acc, accV, e, e2, R', st', own', rv, hT, hE⟩
  by_cases hlt : i < src.items.length
  · -- a turn
    obtain ⟨d, hd⟩ : ∃ d, src.items[i]? = some d := ⟨_, List.getElem?_eq_getElem hlt⟩
    have hdrop : src.items.drop i = d :: src.items.drop (i + 1) := by
      rw [List.drop_eq_getElem_cons hlt]
      congr 1
      rw [List.getElem?_eq_getElem hlt] at hd
      exact Option.some.inj hd
    rw [hdrop] at hT
    obtain ⟨hh, r, S2, e3, e4, hf, he4, hr⟩ := evTurnsD_cons hT
    obtain ⟨hgo, hyld⟩ := hJ.go ρ' S' H' i d R' st'.pre st'.keep hh hd
    refine .inr ⟨hgo, fun H'' => ∃ m', m' < src.items.length - i ∧ m' = src.items.length - (i + 1) ∧ i + 1 ≤ src.items.length ∧ ∃ ρ' S' acc accV e e2, RelS G ρ' S' H'' ∧ Step ρ1 S1 H1 ρ' S' H'' e ∧ OwnD ρ' H'' D accV ∧ KRs G ρ' H'' acc accV ∧
      evTurnsD (dcTurn C x y g fs own σd) src.keep (src.items.drop (i + 1)) acc S' = .ok vsF SF e2 ∧ emin e e2 = eF, fun H'' ⟨m', h1, h2⟩ => ⟨m', h1, h2⟩, fun w H2 hy => ?_⟩
    obtain ⟨hpres, hw⟩ := hyld w H2 hy
    have stg : Step ρ' S' H' ρ' S' H2 none := Step.grow hpres
    have R2 : RelS G ρ' S' H2 := R'.grow stg.keep hpres
    have st2 := st'.trans stg
    rw [emin_none] at st2
    have own2 := own'.step stg
    have rv2 := rv.mono stg.pre stg.keep
    have RE2 := (RE1.mono st2.pre st2.keep).wipe own
    unfold dcTurn at hf
    split at hf
    case h_2 => cases hf
    rename_i σ1 hset
    obtain ⟨t, S3, e5, e6, hif, hrest, he6⟩ := bind_ok hf
    intro s0 H0 C0 cl fp
    refine hg _ (cs_blk cs scope s0 H0 C0 cl fp) (fun x h => h) ρ' H2 _ σ1 _ d w RE2 hw hset _ fun σ2 REs hon => ⟨wipe_back hon hsl, ?_⟩
    -- the test
    have htest : ∀ Ψ : Bool → Hp → Prop, Mt G ρ' S' H2 (evIfs C fs σ1 S') (fun b _ _ H3 => Ψ b H3) → tIfB X scope ifs σ2 H2 Ψ := by
      intro Ψ hΨ
      cases ifs with
      | nil =>
        cases fs with
        | nil => unfold evIfs at hΨ; exact Mt.here hΨ R2
        | cons => exact ht.elim
      | cons c cs1 =>
        cases cs1 with
        | nil =>
          cases fs with
          | nil => exact ht.elim
          | cons f fs1 =>
            cases fs1 with
            | nil =>
              unfold evIfs at hΨ
              exact fun s0 H0 C0 cl fp => ht _ (cs_blk cs scope s0 H0 C0 cl fp) ρ' S' H2 σ1 σ2 R2 REs Ψ hΨ
            | cons => exact ht.elim
        | cons => cases fs <;> exact ht.elim
    refine htest _ ?_
    rw [hif]
    intro ρ3 H3 R3 st3
    have st3' := st2.trans st3
    have own3 := own2.step st3
    have rv3 := rv2.mono st3.pre st3.keep
    cases t with
    | false =>
      simp only [Bool.false_eq_true, if_false] at hrest ⊢
      cases hrest
      refine ⟨src.items.length - (i + 1), by omega, rfl, hlt, ρ3, _, acc, accV, _, e4, R3, st3', own3, rv3, hr, ?_⟩
      rw [← hE, he4, he6, emin_none, emin_assoc]
    | true =>
      simp only [if_true] at hrest ⊢
      obtain ⟨v, S4, e7, e8, hv, hrest2, he8⟩ := bind_ok hrest
      obtain ⟨v2, S5, e9, e10, hv2, hlast, he10⟩ := bind_ok hrest2
      cases hlast
      obtain ⟨⟨hkey, hlen⟩, hr⟩ := hr
      intro s0 H0 C0 cl fp
      refine hk _ (cs_blk cs scope s0 H0 C0 cl fp) ρ3 S3 H3 σ1 σ2 R3 (REs.mono st3.pre st3.keep) _ ?_
      rw [hv]
      intro ρ4 H4 R4 st4 y4 hy4
      have st4' := st3'.trans st4
      have own4 := own3.step st4
      have rv4 := rv3.mono st4.pre st4.keep
      intro s0 H0 C0 cl fp
      refine he _ (cs_blk cs scope s0 H0 C0 cl fp) ρ4 S4 H4 σ1 σ2 R4 ((REs.mono st3.pre st3.keep).mono st4.pre st4.keep) _ ?_
      rw [hv2]
      intro ρ5 H5 R5 st5 y5 hy5
      have st5' := st4'.trans st5
      have own5 := own4.step st5
      have rv5 := rv4.mono st5.pre st5.keep
      obtain ⟨k, ek, ey⟩ := key_of hkey hy4
      have ek : v = keyD k := ek
      have ey : y4 = kV k := ey
      subst ek
      obtain ⟨q1, q2, q3, q4⟩ := ownD_grow (k := k) hD R5 st5' own5 rv5 hy5
      refine ⟨accV, k, ey, own5.at_, ?_, src.items.length - (i + 1), by omega, rfl, hlt, ρ5, _, dput (keyD k) v2 acc, putK accV k y5, _, e4, q1, q2, q3, q4, hr, ?_⟩
      · rw [← rv5.length]; exact hlen
      · rw [← hE, he4, he6, he8, he10, emin_none]
        simp only [emin_assoc]
  · -- the end
    have ei : i = src.items.length := by omega
    subst ei
    rw [List.drop_length] at hT
    obtain ⟨hh, rfl, rfl, rfl⟩ := evTurnsD_nil hT
    rw [emin_none] at hE
    subst hE
    refine .inl ⟨hJ.stop ρ' _ H' _ R' st'.pre st'.keep hh (Nat.le_refl _), ?_⟩
    rw [hF] at h1
    have h2 : MtV G ρ1 S1 H1 (.ok (.ref SF.length) (SF ++ [.dict vsF]) (emin e none)) Q := h1
    rw [emin_none] at h2
    have hpre : ρ' <+: ρ' ++ [D] := ⟨[D], rfl⟩
    refine h2 (ρ' ++ [D]) H' (own_push R' own'.out (Keep.refl _) (fun a u _ hu => hu) (.dict own'.at_ (rv.mono hpre (Keep.refl _)))) ⟨st'.pre.trans hpre, st'.keep, ?_, fun a u hu hn => ?_⟩ _ (.ref ?_)
    · have := st'.mono.trans (MonoS.push SF (.dict vsF))
      rw [emin_none] at this
      exact this
    · obtain ⟨q1, q2⟩ := st'.rest a u hu hn
      refine ⟨q1, fun m => ?_⟩
      rcases List.mem_append.mp m with m | m
      · exact q2 m
      · have : a = D := by simpa using m
        subst this
        rw [hD] at hu; cases hu
    · rw [List.getElem?_append_right (by rw [R'.len]; exact Nat.le_refl _), R'.len]
      simp
theorem s_dc {kx vx tg iter : Expr} {ifs : List Expr} {scope : Scope} {pos : Pos} {own : List (Str × Nat)} {x y : CE} {g : CG} {it : CE} {fs : List CE} (hb : blkC N sc scope own = true) (hset : ∀ a k p, iter ≠ .Set a k p) (hg : SimG G n N (relS scope sc) (fun x => scope.names.lookup x == some .cell) tg g)
    (hi : SimI G C n N sc tg iter it) (hk : SimE G C n N (relS scope sc) kx x) (he : SimE G C n N (relS scope sc) vx y) (ht : SimIf G C n N (relS scope sc) ifs fs) (hsl : ∀ k ∈ g.sl, k ∈ own.map (·.2)) : SimE G C n N sc (.DictComp kx vx [⟨tg, iter, ifs, 0⟩] scope pos) (.dc x y g it fs (own.map (·.2))) := by
  intro X cs ρ S H σd σ R RE Q hq
  exact .of (pe_dc cs.calm (by rw [cs.hN]; exact cs.nd) (pi_sem X tg iter) (by rw [cs.hN, cs.sc]; exact blkOk_by hb) (fun s H C cl fp => pg_blk X scope tg s H C cl fp) (fun s H C cl fp => pt_blk X scope ifs s H C cl fp)
    (fun s H C cl fp => pe_blk X scope kx s H C cl fp) (fun s H C cl fp => pe_blk X scope vx s H C cl fp) (folded_of hset)) (dc_law hg hi hk he ht hsl cs R RE hq)
end
end NF

/-! NFLock: a dict is locked while it is walked. -/
namespace NF
open PySem PySem.Spec PyProof.Rows L2
section
variable {G : Gc} {gl : Gm} {C : Ctx} {n : Nat} {N : List Str} {sc : Scope}
theorem Keep.k0 {H H' : Hp} (k : Keep H H') : Keep0 H H' := ⟨k.tup, fun a o xs h => k.ro a o _ h⟩
theorem lockAt_of {ρ : List Addr} {S : Store} {H : Hp} (R : RelS G ρ S H) {σd : Envr} {i m : Nat} {kvs : List (D × D)} (h : lockAt σd i S = some (m, kvs)) :
    ∃ a vs, ρ[m]? = some a ∧ S[m]? = some (.dict kvs) ∧ H a = some (.dK vs) ∧ KRs G ρ H kvs vs := by
  unfold lockAt at h
  split at h
  · rename_i q
    split at h
    · rename_i kv e
      cases h
      obtain ⟨a, ha, o⟩ := R.addr e
      cases o with
      | dict q r => exact ⟨a, _, ha, e, q, r⟩
    · cases h
  · cases h
/-- the dict at m is locked -/
structure Lkd (G : Gc) (ρ : List Addr) (S : Store) (H : Hp) (m : Nat) (a : Addr) (vs : List (Key × V)) (kvs : List (D × D)) (od : Obj) : Prop where
  keep : Keep H (upd H a (.frz od (.dK vs)))
  rel : RelS G ρ (S.set m (.ldict kvs)) (upd H a (.frz od (.dK vs)))
theorem lkd {ρ : List Addr} {S : Store} {H : Hp} (R : RelS G ρ S H) {m : Nat} {a : Addr} {vs : List (Key × V)} {kvs : List (D × D)} (ha : ρ[m]? = some a) (q : H a = some (.dK vs)) (r : KRs G ρ H kvs vs) (od : Obj) : Lkd G ρ S H m a vs kvs od := by
  have kp : Keep H (upd H a (.frz od (.dK vs))) := Keep.write q (fun _ z => by cases z) (fun _ _ z => by cases z)
  exact ⟨kp, R.set ha kp (.ldict upd_same (r.mono (List.prefix_refl _) kp))⟩
theorem emin_n (e : Esc) : emin e none = e := by cases e <;> rfl
theorem n_emin (e : Esc) : emin none e = e := by cases e <;> rfl
/-- and let go again -/
theorem unlk {ρ ρ' : List Addr} {S S1 S2 : Store} {H H' : Hp} {m : Nat} {a : Addr} {vs : List (Key × V)} {kvs : List (D × D)} {od : Obj} {e : Esc} (R : RelS G ρ S H) (ha : ρ[m]? = some a) (hS : S[m]? = some (.dict kvs)) (q : H a = some (.dK vs))
    (R' : RelS G ρ' S1 H') (st : Step ρ (S.set m (.ldict kvs)) (upd H a (.frz od (.dK vs))) ρ' S1 H' e) (h : unlock1 m S1 = some S2) :
    H' a = some (.frz od (.dK vs)) ∧ RelS G ρ' S2 (upd H' a (.dK vs)) ∧ Step ρ S H ρ' S2 (upd H' a (.dK vs)) e ∧ Keep0 H' (upd H' a (.dK vs)) := by
  have hf : H' a = some (.frz od (.dK vs)) := st.keep.ro _ _ _ upd_same
  have k0 : Keep0 H' (upd H' a (.dK vs)) := by
    refine ⟨fun b xs hb => ?_, fun b o xs hb => ?_⟩
    · rw [upd_ne (by rintro rfl; rw [hf] at hb; cases hb)]; exact hb
    · rw [upd_ne (by rintro rfl; rw [hf] at hb; cases hb)]; exact hb
  have ha' : ρ'[m]? = some a := pre_get st.pre ha
  unfold unlock1 at h
  split at h
  case h_2 => cases h
  rename_i kv' hm
  cases h
  have o := R'.obj m a _ ha' hm
  cases o with
  | ldict q2 r2 =>
    rw [hf] at q2
    cases q2
    refine ⟨hf, R'.set0 ha' k0 (.dict upd_same (r2.mono0 (List.prefix_refl _) k0)), ⟨st.pre, ⟨fun b xs hb => ?_, fun b ob u hb => ?_⟩, ?_, fun b u hb hn => ?_⟩, k0⟩
    · have hne : b ≠ a := by rintro rfl; rw [q] at hb; cases hb
      rw [upd_ne hne]
      exact st.keep.tup b xs (by rw [upd_ne hne]; exact hb)
    · have hne : b ≠ a := by rintro rfl; rw [q] at hb; cases hb
      rw [upd_ne hne]
      exact st.keep.ro b ob u (by rw [upd_ne hne]; exact hb)
    · have m1 : MonoS S (S.set m (.ldict kvs)) none := by
        have := MonoS.set S m (.ldict kvs) 0 (fun u hu => by rw [hS] at hu; cases hu; exact Nat.le_max_left _ _)
        simpa using this
      have m2 : MonoS S1 (S1.set m (.dict kv')) none := by
        have := MonoS.set S1 m (.dict kv') 0 (fun u hu => by rw [hm] at hu; cases hu; exact Nat.le_max_left _ _)
        simpa using this
      have := (m1.trans st.mono).trans m2
      rwa [n_emin, emin_n] at this
    · have hne : b ≠ a := by rintro rfl; exact hn (List.mem_of_getElem? ha)
      obtain ⟨h1, h2⟩ := st.rest b u (by rw [upd_ne hne]; exact hb) hn
      exact ⟨by rw [upd_ne hne]; exact h1, h2⟩
theorem s_lock {e : Expr} {i : Nat} {c : CE} (h : SimE G C n N sc e c) : SimE G C n N sc e (.lock i c) := by
  intro X cs ρ S H σd σ R RE Q hq
  unfold evE at hq
  split at hq
  case h_2 => exact h X cs ρ S H σd σ R RE Q hq
  rename_i m kvs hl
  obtain ⟨a, vs, ha, hS, q, r⟩ := lockAt_of R hl
  refine .of (pe_lock (pe_sem X e)) ⟨a, .dK vs, q, trivial, fun od => ?_⟩
  have l := lkd R ha q r od
  refine h X cs ρ _ _ σd σ l.rel (RE.mono (List.prefix_refl _) l.keep) _ ?_
  cases hr : evE C c σd (S.set m (.ldict kvs)) with
  | ok v S1 e1 =>
    rw [hr] at hq
    unfold unlockR at hq
    simp only at hq
    split at hq
    case h_2 => exact hq.elim
    rename_i S2 hu
    intro ρ' H' R' st' v' hv'
    obtain ⟨hf, R2, st2, k0⟩ := unlk R ha hS q R' st' hu
    exact ⟨hf, hq ρ' _ R2 st2 v' (hv'.mono0 (List.prefix_refl _) k0)⟩
  | exn x S1 e1 => rw [hr] at hq; exact hq.elim
  | stuck => rw [hr] at hq; exact hq.elim
end
end NF

/-! NFSndE: every expression that is translated. -/
namespace NF
open PySem PySem.Spec PyProof.Rows L2
section
variable {G : Gc} {gl : Gm} {C : Ctx} {n : Nat} {N : List Str} {sc : Scope}

inductive All2 {α β : Type} (P : α → β → Prop) : List α → List β → Prop
  | nil : All2 P [] []
  | cons {a : α} {b : β} {as : List α} {bs : List β} : P a b → All2 P as bs → All2 P (a :: as) (b :: bs)
theorem mapO_all {α β : Type} {f : α → Option β} {P : α → β → Prop} (h : ∀ a b, f a = some b → P a b) : ∀ {as : List α} {bs : List β}, mapO f as = some bs → All2 P as bs
  | [], bs, e => by cases e; exact .nil
  | a :: as, bs, e => by
    unfold mapO at e
    split at e
    · rename_i y s e1 e2
      cases e
      exact .cons (h a y e1) (mapO_all h e2)
    · cases e
theorem All2.len {α β : Type} {P : α → β → Prop} : ∀ {as : List α} {bs : List β}, All2 P as bs → bs.length = as.length
  | _, _, .nil => rfl
  | _, _, .cons h r => by simp [r.len]
def NoStar (e : Expr) : Prop := ∀ x p, e ≠ .Starred x p
/-- all that is known of a translated expression -/
structure SimX (G : Gc) (C : Ctx) (n : Nat) (N : List Str) (sc : Scope) (ex : Expr) (c : CE) : Prop where
  e : SimE G C n N sc ex c
  t : SimT G C n N sc ex c
  ns : NoStar ex
theorem SimX.plain {e : Expr} {c : CE} (h1 : plainT e = true) (h2 : plainC c = true) (hs : NoStar e) (h : SimE G C n N sc e c) : SimX G C n N sc e c := ⟨h, t_plain h1 h2 h, hs⟩
theorem All2.a {es : List Expr} {cs : List CE} (h : All2 (SimX G C n N sc) es cs) : SimA G C n N sc es cs := by
  induction h with
  | nil => exact s_anil
  | cons h _ ih => exact s_acons h.ns h.e ih
theorem All2.s {es : List Expr} {cs : List CE} (h : All2 (SimX G C n N sc) es cs) : ∀ e ∈ es, ∀ x p, e ≠ .Starred x p := by
  induction h with
  | nil => intro e he; cases he
  | cons h _ ih =>
    intro e he
    rcases List.mem_cons.mp he with rfl | he
    · exact h.ns
    · exact ih e he
theorem All2.k {es : List Keyword} {cs : List CE} (h : All2 (fun (w : Keyword) c => match w with | ⟨_, v, _⟩ => SimX G C n N sc v c) es cs) : SimK G C n N sc es cs := by
  induction h with
  | nil => exact s_knil
  | @cons w c _ _ h _ ih =>
    obtain ⟨nm, v, p⟩ := w
    exact s_kcons h.e ih
theorem bool_snd {op : BoolOp} {pos : Pos} : ∀ {es : List Expr} {cs : List CE} {c : CE}, All2 (SimX G C n N sc) es cs → trBool op cs = some c → SimE G C n N sc (.BoolOp op es pos) c ∧ SimW G C n N sc (.BoolOp op es pos) c
  | _, _, c, .nil, h => by cases h
  | _, _, c, .cons h1 .nil, h => by
    unfold trBool at h
    cases h
    exact ⟨s_one h1.e, w_one h1.t⟩
  | _, _, c, .cons h1 (.cons h2 r), h => by
    unfold trBool at h
    rw [Option.map_eq_some_iff] at h
    obtain ⟨d, hd, rfl⟩ := h
    obtain ⟨a, b⟩ := bool_snd (.cons h2 r) hd
    cases op with
    | And => exact ⟨s_and h1.e a, w_and h1.t b⟩
    | Or => exact ⟨s_or h1.e a, w_or h1.t b⟩
theorem optO_snd {f : Expr → Option CE} (h : ∀ e c, f e = some c → SimX G C n N sc e c) {o : Option Expr} {cs : List CE} (ho : optO f o = some cs) : SimO G C n N sc o cs := by
  cases o with
  | none => cases ho; exact s_onone
  | some e =>
    unfold optO at ho
    rw [Option.map_eq_some_iff] at ho
    obtain ⟨c, hc, rfl⟩ := ho
    exact s_osome (h e c hc).e
theorem trName_plain {x : Str} {c : CE} (h : trName gl N sc x = some c) : plainC c = true := by
  unfold trName at h
  split at h
  case isFalse => cases h
  split at h
  · cases h; rfl
  · split at h
    case isFalse => cases h
    split at h
    · cases h; rfl
    · split at h
      · cases h; rfl
      · split at h
        case isFalse => cases h
        rw [Option.map_eq_some_iff] at h
        obtain ⟨t, _, rfl⟩ := h
        rfl
theorem nostar {e : Expr} (h : (match e with | .Starred .. => false | _ => true) = true) : NoStar e := by
  rintro x p rfl
  cases h
theorem filter_some {α : Type} {p : α → Bool} {o : Option α} {a : α} (h : o.filter p = some a) : o = some a ∧ p a = true := by
  cases o with
  | none => cases h
  | some b =>
    unfold Option.filter at h
    simp only at h
    split at h
    · rename_i q; cases h; exact ⟨rfl, q⟩
    · cases h
theorem bang_name {x : Str} {y : Str} (h : (x == y) = true) : x = y := eq_of_beq h
theorem trI_snd (ok : GlOk G gl) {f : Expr → Option CE} (h : ∀ e c, f e = some c → SimX G C n N sc e c) {tg e : Expr} {c : CE} (he : trE.trI gl N f sc tg e = some c) : SimI G C n N sc tg e c ∧ ∀ a k p, e ≠ .Set a k p := by
  unfold trE.trI at he
  split at he
  · rename_i x p es kws q
    refine ⟨?_, fun _ _ _ z => by cases z⟩
    split at he
    · rename_i hx
      simp only [Bool.and_eq_true, List.isEmpty_iff] at hx
      obtain ⟨⟨⟨⟨hg, hf⟩, hk⟩, ho⟩, hn⟩ := hx
      cases bang_name hn
      subst hk
      split at he
      case isFalse => cases he
      rename_i hl
      rw [Option.map_eq_some_iff] at he
      obtain ⟨cs, hcs, rfl⟩ := he
      have al := mapO_all h hcs
      cases al with
      | nil => rcases hl with hl | hl <;> cases hl
      | cons h1 r =>
        cases r with
        | nil => exact i_range1 hg (ok.free _ hf) h1.ns h1.e
        | cons h2 r2 =>
          cases r2 with
          | nil => exact i_range2 hg (ok.free _ hf) h1.ns h2.ns h1.e h2.e
          | cons => rcases hl with hl | hl <;> simp at hl
    · split at he
      · rename_i hx
        simp only [Bool.and_eq_true, List.isEmpty_iff] at hx
        obtain ⟨⟨⟨⟨hg, hf⟩, hk⟩, ho⟩, hn⟩ := hx
        cases bang_name hn
        subst hk
        split at he
        · rename_i a
          split at he
          case isFalse => cases he
          rename_i ht
          rw [Option.map_eq_some_iff] at he
          obtain ⟨c, hc, rfl⟩ := he
          have := h a c hc
          cases tg with
          | Tuple elts kk tpos => exact i_enum hg (ok.free _ hf) this.ns this.e
          | _ => cases ht
        · cases he
      · split at he
        · rename_i hx
          simp only [Bool.and_eq_true, List.isEmpty_iff] at hx
          obtain ⟨⟨⟨⟨hg, hf⟩, hk⟩, ho⟩, hn⟩ := hx
          cases bang_name hn
          subst hk
          split at he
          · rename_i a b
            split at he
            case isFalse => cases he
            rename_i ht
            split at he
            · rename_i c d hc hd
              cases he
              have h1 := h a c hc
              have h2 := h b d hd
              cases tg with
              | Tuple elts kk tpos => exact i_zip hg (ok.free _ hf) h1.ns h2.ns h1.e h2.e
              | _ => cases ht
            · cases he
          · cases he
        · split at he
          · rename_i hx
            simp only [Bool.and_eq_true, List.isEmpty_iff] at hx
            obtain ⟨⟨⟨⟨hg, hf⟩, hk⟩, ho⟩, hn⟩ := hx
            cases bang_name hn
            subst hk
            split at he
            · rename_i a
              rw [Option.map_eq_some_iff] at he
              obtain ⟨c, hc, rfl⟩ := he
              have := h a c hc
              exact i_reversed hg (ok.free _ hf) this.ns this.e
            · cases he
          · obtain ⟨h1, h2⟩ := filter_some he
            exact i_plain h2 (h _ _ h1).e
  · cases he
  · rename_i hns
    obtain ⟨h1, h2⟩ := filter_some he
    exact ⟨i_plain h2 (h _ _ h1).e, fun a k p z => hns a k p z⟩
theorem simIf_of {es : List Expr} {cs : List CE} (h : All2 (SimX G C n N sc) es cs) (hl : cs.length ≤ 1) : SimIf G C n N sc es cs := by
  cases h with
  | nil => exact trivial
  | cons h1 r =>
    cases r with
    | nil => exact h1.t
    | cons => simp at hl
theorem lockIf_plain {e : Expr} {i c : CE} (h : plainC c = true) : plainC (lockIf e i c) = true := by
  unfold lockIf
  split
  · split
    · rfl
    · exact h
  · exact h
theorem lockIf_lc {x : Expr} {i c a : CE} {b : CG} {d : CE} {e : List CE} {f : List Nat} (h : lockIf x i c = .lc a b d e f) : c = .lc a b d e f := by
  unfold lockIf at h
  split at h
  · split at h
    · cases h
    · exact h
  · exact h
theorem s_lockIf {e e' : Expr} {i c : CE} (h : SimE G C n N sc e c) : SimE G C n N sc e (lockIf e' i c) := by
  unfold lockIf
  split
  · split
    · exact s_lock h
    · exact h
  · exact h
theorem trE_snd (ok : GlOk G gl) (hc : CallSnd G gl n C.call) (hn : ArgN gl C.call) : ∀ (k : Nat) (sc : Scope) (e : Expr) (c : CE), trE gl N k sc e = some c → SimX G C n N sc e c
  | 0, _, _, _, h => by cases h
  | k + 1, sc, e, c, h => by
    have ih := fun sc e c h => trE_snd ok hc hn k sc e c h
    unfold trE at h
    split at h
    · -- Name
      exact .plain rfl (trName_plain h) (nostar rfl) (s_name ok h)
    · rw [Option.map_eq_some_iff] at h
      obtain ⟨d, hd, rfl⟩ := h
      exact .plain rfl rfl (nostar rfl) (s_const hd)
    · rw [Option.map_eq_some_iff] at h
      obtain ⟨d, hd, rfl⟩ := h
      exact .plain rfl rfl (nostar rfl) (s_tuple (mapO_all (ih sc) hd).a)
    · rw [Option.map_eq_some_iff] at h
      obtain ⟨d, hd, rfl⟩ := h
      exact .plain rfl rfl (nostar rfl) (s_list (mapO_all (ih sc) hd).a)
    · split at h
      case isFalse => cases h
      rename_i hl
      rw [Option.map_eq_some_iff] at h
      obtain ⟨d, hd, rfl⟩ := h
      exact .plain rfl rfl (nostar rfl) (s_dict (trKVs_snd (fun e c hc => (ih sc e c hc).e) hd) hl)
    · split at h
      · rename_i o x y ho hx hy
        cases h
        exact .plain rfl rfl (nostar rfl) (s_bin ho (ih _ _ _ hx).e (ih _ _ _ hy).e)
      · cases h
    · rw [Option.map_eq_some_iff] at h
      obtain ⟨d, hd, rfl⟩ := h
      exact ⟨s_not (ih _ _ _ hd).e, t_not (ih _ _ _ hd).t, nostar rfl⟩
    · rw [Option.map_eq_some_iff] at h
      obtain ⟨d, hd, rfl⟩ := h
      exact .plain rfl rfl (nostar rfl) (s_neg (ih _ _ _ hd).e)
    · -- BoolOp
      rw [Option.bind_eq_some_iff] at h
      obtain ⟨cs, hcs, hb⟩ := h
      obtain ⟨h1, h2⟩ := bool_snd (mapO_all (ih sc) hcs) hb
      exact ⟨h1, h2.t, nostar rfl⟩
    · split at h
      · cases h
      · rename_i hm
        split at h
        · rename_i x y hx hy
          cases h
          replace hm := Bool.eq_false_iff.mpr hm
          exact ⟨s_cmp hm (ih _ _ _ hx).e (ih _ _ _ hy).e, t_cmp hm (ih _ _ _ hx).e (ih _ _ _ hy).e, nostar rfl⟩
        · cases h
    · split at h
      · rename_i z x y hz hx hy
        cases h
        exact ⟨s_ite (ih _ _ _ hz).t (ih _ _ _ hx).e (ih _ _ _ hy).e, t_ite (ih _ _ _ hz).t (ih _ _ _ hx).t (ih _ _ _ hy).t, nostar rfl⟩
      · cases h
    · split at h
      · rename_i x l hh hx hl hh'
        cases h
        exact .plain rfl rfl (nostar rfl) (s_slice (ih _ _ _ hx).e (optO_snd (ih sc) hl) (optO_snd (ih sc) hh'))
      · cases h
    · rw [Option.map_eq_some_iff] at h
      obtain ⟨d, hd, rfl⟩ := h
      exact .plain rfl rfl (nostar rfl) (s_rev (ih _ _ _ hd).e)
    · split at h
      · cases h
      · rename_i hs
        split at h
        · rename_i x y hx hy
          cases h
          exact .plain rfl rfl (nostar rfl) (s_ix (by simpa using hs) (ih _ _ _ hx).e (ih _ _ _ hy).e)
        · cases h
    · -- a call of a name
      split at h
      case isFalse => cases h
      rename_i hx
      split at h
      · rename_i i hi
        split at h
        case isFalse => cases h
        rename_i hk
        simp only [Bool.and_eq_true, List.isEmpty_iff, Bool.not_eq_true', List.isEmpty_eq_false_iff] at hk
        obtain ⟨rfl, he⟩ := hk
        rw [Option.map_eq_some_iff] at h
        obtain ⟨cs, hcs, rfl⟩ := h
        have al := mapO_all (ih sc) hcs
        exact .plain rfl rfl (nostar rfl) (s_callv ok hc hn hx hi he al.s al.a)
      · split at h
        case isFalse => cases h
        rename_i hg
        split at h
        · rename_i f hf
          split at h
          · rename_i xs ns ys hxs hns hys
            rw [Option.map_eq_some_iff] at h
            obtain ⟨sel, hsel, rfl⟩ := h
            have al := mapO_all (ih sc) hxs
            have ak : All2 (fun (w : Keyword) c => match w with | ⟨_, v, _⟩ => SimX G C n N sc v c) _ ys := mapO_all (fun w c hw => by obtain ⟨nm, v, p⟩ := w; exact ih _ _ _ hw) hys
            exact .plain rfl rfl (nostar rfl) (s_call ok hc hx hg hf hns hsel al.s al.len ak.len al.a ak.k)
          · cases h
        · split at h
          case isFalse => cases h
          rename_i hk
          simp only [Bool.and_eq_true, List.isEmpty_iff] at hk
          obtain ⟨hfr, rfl⟩ := hk
          split at h
          · rename_i b xs hb hxs
            cases h
            have al := mapO_all (ih sc) hxs
            exact .plain rfl rfl (nostar rfl) (s_bi ok hx hg hfr hb al.s al.a)
          · cases h
    · -- a method
      split at h
      case isFalse => cases h
      rename_i hk
      simp only [Bool.and_eq_true, decide_eq_true_eq] at hk
      obtain ⟨⟨h1, h2⟩, h3⟩ := hk
      split at h
      · rename_i me x xs hme hx hxs
        cases h
        have al := mapO_all (ih sc) hxs
        exact .plain rfl rfl (nostar rfl) (s_me h1 h2 h3 hme al.s (ih _ _ _ hx).e al.len al.a)
      · cases h
    · -- a comprehension
      split at h
      case isFalse => cases h
      rename_i hb
      split at h
      · rename_i x g i fs hx hg hi hfs
        split at h
        case isFalse => cases h
        rename_i hl
        cases h
        simp only [Bool.and_eq_true, decide_eq_true_eq, List.all_eq_true, List.contains_iff_mem] at hl
        obtain ⟨hi1, hi2⟩ := trI_snd ok (ih sc) hi
        exact .plain rfl (lockIf_plain rfl) (nostar rfl) (s_lockIf (s_lc hb hi2 (trG_snd hg).1 hi1 (ih _ _ _ hx).e (simIf_of (mapO_all (ih _) hfs) hl.1) hl.2))
      · cases h
    · -- a dict comprehension
      split at h
      case isFalse => cases h
      rename_i hb
      split at h
      · rename_i x y g i fs hx hy hg hi hfs
        split at h
        case isFalse => cases h
        rename_i hl
        cases h
        simp only [Bool.and_eq_true, decide_eq_true_eq, List.all_eq_true, List.contains_iff_mem] at hl
        obtain ⟨hi1, hi2⟩ := trI_snd ok (ih sc) hi
        exact .plain rfl (lockIf_plain rfl) (nostar rfl) (s_lockIf (s_dc hb hi2 (trG_snd hg).1 hi1 (ih _ _ _ hx).e (ih _ _ _ hy).e (simIf_of (mapO_all (ih _) hfs) hl.1) hl.2))
      · cases h
    · cases h
end
end NF

/-! NFSndS: statements. -/
namespace NF
open PySem PySem.Spec PyProof.Rows L2
section
variable {G : Gc} {gl : Gm} {C : Ctx} {n : Nat} {N : List Str} {sc : Scope}

def tSS (X : Cx) (st : Stmt) : TS := fun D σ H => ∀ (pins : List (Addr × Obj)) (s : Shared), Inv X pins σ H s → wpAny (model X.prog X.w) X.A (exec st X.env) (SP X pins D) X.xe s
theorem ps_sem (X : Cx) (st : Stmt) : PS X st (tSS X st) := ⟨fun pins s σ H D I h => h pins s I⟩
theorem tSS.of {X : Cx} {st : Stmt} {t : TS} (p : PS X st t) {D : Ends} {σ : L2.St} {H : Hp} (h : t D σ H) : tSS X st D σ H := fun pins s I => p.run pins s σ H D I h
def tSSs (X : Cx) (st : List Stmt) : TS := fun D σ H => ∀ (pins : List (Addr × Obj)) (s : Shared), Inv X pins σ H s → wpAny (model X.prog X.w) X.A (execs st X.env) (SP X pins D) X.xe s
theorem pss_sem (X : Cx) (st : List Stmt) : PSs X st (tSSs X st) := ⟨fun pins s σ H D I h => h pins s I⟩
theorem tSSs.of {X : Cx} {st : List Stmt} {t : TS} (p : PSs X st t) {D : Ends} {σ : L2.St} {H : Hp} (h : t D σ H) : tSSs X st D σ H := fun pins s I => p.run pins s σ H D I h

/-- what is to follow a block -/
structure SK where
  nx : Envr → Store → List Addr → Hp → L2.St → Prop
  rt : V → Hp → Prop
  bk : Envr → Store → List Addr → Hp → L2.St → Prop
  ct : Envr → Store → List Addr → Hp → L2.St → Prop
def MtS (G : Gc) (ρ : List Addr) (S : Store) (H : Hp) (r : SR) (k : SK) : Prop := match r with
  | .nx σd S' e => ∀ ρ' H' σ', RelS G ρ' S' H' → Step ρ S H ρ' S' H' e → RelE G ρ' H' σd σ' → k.nx σd S' ρ' H' σ'
  | .bk σd S' e => ∀ ρ' H' σ', RelS G ρ' S' H' → Step ρ S H ρ' S' H' e → RelE G ρ' H' σd σ' → k.bk σd S' ρ' H' σ'
  | .ct σd S' e => ∀ ρ' H' σ', RelS G ρ' S' H' → Step ρ S H ρ' S' H' e → RelE G ρ' H' σd σ' → k.ct σd S' ρ' H' σ'
  | .rt d S' e => ∀ ρ' H', RelS G ρ' S' H' → Step ρ S H ρ' S' H' e → ∀ v, VR G ρ' H' d v → k.rt v H'
  | _ => False
/-- the ends of a block -/
def SK.of (D : Ends) : SK := ⟨fun _ _ _ H σ => D.nx σ H, D.rt, fun _ _ _ H σ => D.bk σ H, fun _ _ _ H σ => D.ct σ H⟩
theorem MtS.note {ρ ρ1 : List Addr} {S S1 : Store} {H H1 : Hp} {r : SR} {k : SK} {e : Esc} (h : MtS G ρ S H (r.note e) k) (st : Step ρ S H ρ1 S1 H1 e) : MtS G ρ1 S1 H1 r k := by
  cases r with
  | nx σ S2 e2 => exact fun ρ2 H2 σ2 R2 st2 RE2 => h ρ2 H2 σ2 R2 (st.trans st2) RE2
  | bk σ S2 e2 => exact fun ρ2 H2 σ2 R2 st2 RE2 => h ρ2 H2 σ2 R2 (st.trans st2) RE2
  | ct σ S2 e2 => exact fun ρ2 H2 σ2 R2 st2 RE2 => h ρ2 H2 σ2 R2 (st.trans st2) RE2
  | rt d S2 e2 => exact fun ρ2 H2 R2 st2 => h ρ2 H2 R2 (st.trans st2)
  | exn x σ S2 e2 => exact h
  | stuck => exact h
theorem none_note (r : SR) : r.note none = r := by
  cases r <;> simp [SR.note, none_emin]
theorem MtS.grow {ρ : List Addr} {S : Store} {H H1 : Hp} {r : SR} {k : SK} (h : MtS G ρ S H r k) (hp : ∀ a u, H a = some u → H1 a = some u) : MtS G ρ S H1 r k :=
  MtS.note (e := none) (by rw [none_note]; exact h) (Step.grow hp)
theorem MtS.andThen {α : Type} {ρ : List Addr} {S : Store} {H : Hp} {r : Res α} {σd : Envr} {f : α → Store → SR} {k : SK} (h : MtS G ρ S H (r.andThen σd f) k) : Mt G ρ S H r fun a S1 ρ1 H1 => MtS G ρ1 S1 H1 (f a S1) k := by
  cases r with
  | ok a S1 e => exact fun ρ1 H1 R1 st1 => MtS.note (e := e) h st1
  | exn x S1 e => exact h
  | stuck => exact h
theorem MtS.here {ρ : List Addr} {S : Store} {H : Hp} {σd : Envr} {σ : L2.St} {k : SK} (h : MtS G ρ S H (.nx σd S none) k) (R : RelS G ρ S H) (RE : RelE G ρ H σd σ) : k.nx σd S ρ H σ := h ρ H σ R (Step.refl _ _ _) RE
/-- the first of two blocks -/
theorem MtS.seq {ρ : List Addr} {S : Store} {H : Hp} {r : SR} {f : Envr → Store → SR} {k : SK} (h : MtS G ρ S H (r.seq f) k) : MtS G ρ S H r { k with nx := fun σd S1 ρ1 H1 σ1 => RelS G ρ1 S1 H1 ∧ RelE G ρ1 H1 σd σ1 ∧ MtS G ρ1 S1 H1 (f σd S1) k } := by
  cases r with
  | nx σ S1 e => exact fun ρ1 H1 σ1 R1 st1 RE1 => ⟨R1, RE1, MtS.note (e := e) h st1⟩
  | bk σ S2 e2 => exact h
  | ct σ S2 e2 => exact h
  | rt d S2 e2 => exact h
  | exn x σ S2 e2 => exact h
  | stuck => exact h
theorem MtS.imp {ρ : List Addr} {S : Store} {H : Hp} {r : SR} {k k' : SK} (h : MtS G ρ S H r k) (h1 : ∀ σd S ρ H σ, k.nx σd S ρ H σ → k'.nx σd S ρ H σ) (h2 : ∀ v H, k.rt v H → k'.rt v H) (h3 : ∀ σd S ρ H σ, k.bk σd S ρ H σ → k'.bk σd S ρ H σ)
    (h4 : ∀ σd S ρ H σ, k.ct σd S ρ H σ → k'.ct σd S ρ H σ) : MtS G ρ S H r k' := by
  cases r with
  | nx σ S1 e => exact fun ρ1 H1 σ1 R1 st1 RE1 => h1 _ _ _ _ _ (h ρ1 H1 σ1 R1 st1 RE1)
  | bk σ S1 e => exact fun ρ1 H1 σ1 R1 st1 RE1 => h3 _ _ _ _ _ (h ρ1 H1 σ1 R1 st1 RE1)
  | ct σ S1 e => exact fun ρ1 H1 σ1 R1 st1 RE1 => h4 _ _ _ _ _ (h ρ1 H1 σ1 R1 st1 RE1)
  | rt d S1 e => exact fun ρ1 H1 R1 st1 v hv => h2 _ _ (h ρ1 H1 R1 st1 v hv)
  | exn x σ S2 e2 => exact h
  | stuck => exact h

/-- a def's own context: its cells are its own -/
structure Cd (G : Gc) (N : List Str) (sc : Scope) (n : Nat) (X : Cx) : Prop extends Cs G N sc n X where
  fn : ∀ x, X.fn x = true
def SimS (G : Gc) (C : Ctx) (n : Nat) (N : List Str) (sc : Scope) (st : Stmt) (c : CS) : Prop := ∀ (X : Cx), Cd G N sc n X → ∀ (ρ : List Addr) (S : Store) (H : Hp) (σd : Envr) (σ : L2.St), RelS G ρ S H → RelE G ρ H σd σ → ∀ D : Ends, MtS G ρ S H (evS C c σd S) (SK.of D) → tSS X st D σ H
def SimSs (G : Gc) (C : Ctx) (n : Nat) (N : List Str) (sc : Scope) (st : List Stmt) (c : List CS) : Prop := ∀ (X : Cx), Cd G N sc n X → ∀ (ρ : List Addr) (S : Store) (H : Hp) (σd : Envr) (σ : L2.St), RelS G ρ S H → RelE G ρ H σd σ → ∀ D : Ends, MtS G ρ S H (evSs C c σd S) (SK.of D) → tSSs X st D σ H

theorem ss_nil : SimSs G C n N sc [] [] := by
  intro X cs ρ S H σd σ R RE D hq
  unfold evSs at hq
  exact .of pss_nil (MtS.here hq R RE)
theorem ss_cons {st : Stmt} {sts : List Stmt} {c : CS} {cs' : List CS} (h1 : SimS G C n N sc st c) (h2 : SimSs G C n N sc sts cs') : SimSs G C n N sc (st :: sts) (c :: cs') := by
  intro X cs ρ S H σd σ R RE D hq
  unfold evSs at hq
  refine .of (pss_cons (ps_sem X st) (pss_sem X sts)) ?_
  refine h1 X cs ρ S H σd σ R RE { D with nx := tSSs X sts D } ?_
  exact (MtS.seq hq).imp (fun σd' S1 ρ1 H1 σ1 ⟨R1, RE1, h⟩ => h2 X cs ρ1 S1 H1 σd' σ1 R1 RE1 D h) (fun _ _ h => h) (fun _ _ _ _ _ h => h) fun _ _ _ _ _ h => h
theorem ss_pass {pos : Pos} : SimS G C n N sc (.Pass pos) .pass := by
  intro X cs ρ S H σd σ R RE D hq
  unfold evS at hq
  exact .of ps_pass (MtS.here hq R RE)
theorem ss_doc {x : Str} {j : Nat} {p pos : Pos} : SimS G C n N sc (.Expr (.Constant (.str x) j p) pos) .pass := by
  intro X cs ρ S H σd σ R RE D hq
  unfold evS at hq
  exact .of ps_doc (MtS.here hq R RE)
theorem ss_break {pos : Pos} : SimS G C n N sc (.Break pos) .brk := by
  intro X cs ρ S H σd σ R RE D hq
  unfold evS at hq
  exact .of ps_break (hq ρ H σ R (Step.refl _ _ _) RE)
theorem ss_cont {pos : Pos} : SimS G C n N sc (.Continue pos) .cont := by
  intro X cs ρ S H σd σ R RE D hq
  unfold evS at hq
  exact .of ps_continue (hq ρ H σ R (Step.refl _ _ _) RE)
theorem sw_of {e : Expr} (h : notComp e = true) (t : Option Expr) (l : Nat) (env : Env) : swapsWith e t l env = pure false := by
  unfold swapsWith
  cases e <;> first | rfl | (cases h; done)
theorem ss_expr {e : Expr} {c : CE} {pos : Pos} (hc : notComp e = true) (h : SimE G C n N sc e c) : SimS G C n N sc (.Expr e pos) (.expr c) := by
  intro X cs ρ S H σd σ R RE D hq
  unfold evS at hq
  refine .of (ps_expr (pe_sem X e) (sw_of hc _ _ _)) ?_
  exact h X cs.toCs ρ S H σd σ R RE _ (Mt.go (MtS.andThen hq) fun d S1 ρ1 H1 e1 R1 st1 h1 v hv => MtS.here h1 R1 (RE.mono st1.pre st1.keep))
theorem ss_ret {e : Expr} {c : CE} {pos : Pos} (h : SimE G C n N sc e c) : SimS G C n N sc (.Return (some e) pos) (.ret c) := by
  intro X cs ρ S H σd σ R RE D hq
  unfold evS at hq
  refine .of (ps_ret (pe_sem X e)) ?_
  exact h X cs.toCs ρ S H σd σ R RE _ (Mt.go (MtS.andThen hq) fun d S1 ρ1 H1 e1 R1 st1 h1 v hv => h1 ρ1 H1 R1 (Step.refl _ _ _) v hv)
theorem ss_retN {pos : Pos} : SimS G C n N sc (.Return none pos) (.ret (.cst .non)) := by
  intro X cs ρ S H σd σ R RE D hq
  unfold evS evE at hq
  refine .of ps_retN ?_
  have := MtS.andThen hq
  exact Mt.here this R ρ H R (Step.refl _ _ _) _ .non
theorem ss_if {c : Expr} {a b : List Stmt} {z : CE} {x y : List CS} {pos : Pos} (hc : SimT G C n N sc c z) (ha : SimSs G C n N sc a x) (hb : SimSs G C n N sc b y) : SimS G C n N sc (.If c a b pos) (.ife z x y) := by
  intro X cs ρ S H σd σ R RE D hq
  unfold evS at hq
  refine .of (ps_if (pt_sem X c) (pss_sem X a) (pss_sem X b)) ?_
  refine hc X cs.toCs ρ S H σd σ R RE _ (Mt.go (MtS.andThen hq) fun t S1 ρ1 H1 e1 R1 st1 h1 => ?_)
  cases t with
  | true => exact ha X cs ρ1 S1 H1 σd σ R1 (RE.mono st1.pre st1.keep) D h1
  | false => exact hb X cs ρ1 S1 H1 σd σ R1 (RE.mono st1.pre st1.keep) D h1

/-! ### loops -/
theorem mtS_for {f : NF.D → Envr → Store → SR} {keep : List (Nat × List NF.D)} {x : NF.D} {xs : List NF.D} {σd : Envr} {ρ : List Addr} {S : Store} {H : Hp} {k : SK} (h : MtS G ρ S H (evFor f keep (x :: xs) σd S) k) :
    Src.holds S keep = true ∧ MtS G ρ S H (f x σd S) ⟨fun σ1 S1 ρ1 H1 σ' => RelS G ρ1 S1 H1 ∧ ρ <+: ρ1 ∧ Keep H H1 ∧ RelE G ρ1 H1 σ1 σ' ∧ MtS G ρ1 S1 H1 (evFor f keep xs σ1 S1) k, k.rt, k.nx,
      fun σ1 S1 ρ1 H1 σ' => RelS G ρ1 S1 H1 ∧ ρ <+: ρ1 ∧ Keep H H1 ∧ RelE G ρ1 H1 σ1 σ' ∧ MtS G ρ1 S1 H1 (evFor f keep xs σ1 S1) k⟩ := by
  unfold evFor at h
  split at h
  case isFalse => exact h.elim
  rename_i hh
  refine ⟨hh, ?_⟩
  cases hr : f x σd S with
  | nx σ1 S1 e => rw [hr] at h; exact fun ρ1 H1 σ' R1 st1 RE1 => ⟨R1, st1.pre, st1.keep, RE1, MtS.note h st1⟩
  | ct σ1 S1 e => rw [hr] at h; exact fun ρ1 H1 σ' R1 st1 RE1 => ⟨R1, st1.pre, st1.keep, RE1, MtS.note h st1⟩
  | bk σ1 S1 e => rw [hr] at h; exact h
  | rt d S1 e => rw [hr] at h; exact h
  | exn y σ1 S1 e => rw [hr] at h; exact h
  | stuck => rw [hr] at h; exact h
theorem ss_for {tg iter : Expr} {body : List Stmt} {g : CG} {it : CE} {b : List CS} {pos : Pos} (hset : ∀ a k p, iter ≠ .Set a k p) (hg : SimG G n N sc trAll tg g) (hi : SimI G C n N sc tg iter it) (hb : SimSs G C n N sc body b) :
    SimS G C n N sc (.For tg iter body [] pos) (.for g it b) := by
  intro X cs ρ S H σd σ R RE D hq
  unfold evS at hq
  refine .of (ps_for (by rw [cs.xe]; exact PassesOwn.never) cs.calm (pi_sem X tg iter) ⟨fun pins s σ H v u Q I r h => h pins s u I r⟩ (pss_sem X body) (folded_of hset) (g := tSG X tg)) ?_
  refine hi X cs.toCs ρ S H σd σ R RE _ (Mt.go (MtS.andThen hq) fun src S1 ρ1 H1 e1 R1 st1 h1 J hJ => ?_)
  have RE1 := RE.mono st1.pre st1.keep
  refine ⟨fun i m σ' H' => m = src.items.length - i ∧ i ≤ src.items.length ∧ ∃ ρ' S' σd', RelS G ρ' S' H' ∧ ρ1 <+: ρ' ∧ Keep H1 H' ∧ RelE G ρ' H' σd' σ' ∧
    MtS G ρ' S' H' (evFor (fun x σ2 S2 => match setG g x σ2 with
      | some σ3 => evSs C b σ3 S2
      | none => .stuck) src.keep (src.items.drop i) σd' S') (SK.of D), ⟨src.items.length, by simp, Nat.zero_le _, ρ1, S1, σd, R1, List.prefix_refl _, Keep.refl _, RE1, by rw [List.drop_zero]; exact h1⟩, ?_⟩
  rintro i m σ' H' ⟨rfl, hle, ρ', S', σd', R', hpre, hkeep, RE', hT⟩
  by_cases hlt : i < src.items.length
  · obtain ⟨d, hd⟩ : ∃ d, src.items[i]? = some d := ⟨_, List.getElem?_eq_getElem hlt⟩
    have hdrop : src.items.drop i = d :: src.items.drop (i + 1) := by
      rw [List.drop_eq_getElem_cons hlt]
      congr 1
      rw [List.getElem?_eq_getElem hlt] at hd
      exact Option.some.inj hd
    rw [hdrop] at hT
    obtain ⟨hh, hT⟩ := mtS_for hT
    obtain ⟨hgo, hyld⟩ := hJ.go ρ' S' H' i d R' hpre hkeep hh hd
    refine .inr ⟨hgo, fun σ2 H2 => ∃ m', m' < src.items.length - i ∧ m' = src.items.length - (i + 1) ∧ i + 1 ≤ src.items.length ∧ ∃ ρ2 S2 σd2, RelS G ρ2 S2 H2 ∧ ρ1 <+: ρ2 ∧ Keep H1 H2 ∧ RelE G ρ2 H2 σd2 σ2 ∧
      MtS G ρ2 S2 H2 (evFor (fun x σ2 S2 => match setG g x σ2 with
        | some σ3 => evSs C b σ3 S2
        | none => .stuck) src.keep (src.items.drop (i + 1)) σd2 S2) (SK.of D), fun σ2 H2 ⟨m', h1, h2⟩ => ⟨m', h1, h2⟩, fun w H2 hy => ?_⟩
    obtain ⟨hpres, hw⟩ := hyld w H2 hy
    have stg : Step ρ' S' H' ρ' S' H2 none := Step.grow hpres
    have R2 : RelS G ρ' S' H2 := R'.grow stg.keep hpres
    have hT := MtS.grow hT hpres
    have RE2 := RE'.mono stg.pre stg.keep
    split at hT
    case h_2 => exact hT.elim
    rename_i σ1 hset1
    refine hg X cs.toCs (fun x _ => cs.fn x) ρ' H2 σd' σ1 σ' d w RE2 hw hset1 _ fun σ2 REs hon => ?_
    refine hb X cs ρ' S' H2 σ1 σ2 R2 REs _ (hT.imp (fun σd3 S3 ρ3 H3 σ3 ⟨R3, p3, k3, RE3, h3⟩ => ?_) (fun _ _ h => h) (fun _ _ _ _ _ h => h) fun σd3 S3 ρ3 H3 σ3 ⟨R3, p3, k3, RE3, h3⟩ => ?_)
    · exact ⟨src.items.length - (i + 1), by omega, rfl, hlt, ρ3, S3, σd3, R3, hpre.trans p3, (hkeep.trans k3), RE3, h3⟩
    · exact ⟨src.items.length - (i + 1), by omega, rfl, hlt, ρ3, S3, σd3, R3, hpre.trans p3, (hkeep.trans k3), RE3, h3⟩
  · have ei : i = src.items.length := by omega
    subst ei
    rw [List.drop_length] at hT
    unfold evFor at hT
    split at hT
    · rename_i hh
      exact .inl ⟨hJ.stop ρ' _ H' _ R' hpre hkeep hh (Nat.le_refl _), MtS.here hT R' RE'⟩
    · exact hT.elim
theorem ss_while {c : Expr} {body : List Stmt} {z : CE} {b : List CS} {pos : Pos} (hc : SimT G C n N sc c z) (hb : SimSs G C n N sc body b) : SimS G C n N sc (.While c body [] pos) (.whil z b) := by
  intro X cs ρ S H σd σ R RE D hq
  unfold evS at hq
  refine .of (ps_while (by rw [cs.xe]; exact PassesOwn.never) (pt_sem X c) (pss_sem X body)) ?_
  refine ⟨fun m σ' H' => ∃ ρ' S' σd', RelS G ρ' S' H' ∧ RelE G ρ' H' σd' σ' ∧ MtS G ρ' S' H' (evWhile (fun σ S => evT C z σ S) (fun σ S => evSs C b σ S) m σd' S') (SK.of D), ⟨C.turns, ρ, S, σd, R, RE, hq⟩, ?_⟩
  rintro m σ' H' ⟨ρ', S', σd', R', RE', hT⟩
  cases m with
  | zero => exact hT.elim
  | succ m =>
    unfold evWhile at hT
    refine hc X cs.toCs ρ' S' H' σd' σ' R' RE' _ (Mt.go (MtS.andThen hT) fun t S1 ρ1 H1 e1 R1 st1 h1 => ?_)
    have RE1 := RE'.mono st1.pre st1.keep
    cases t with
    | false => exact MtS.here h1 R1 RE1
    | true =>
      refine ⟨fun σ2 H2 => ∃ ρ' S' σd', RelS G ρ' S' H2 ∧ RelE G ρ' H2 σd' σ2 ∧ MtS G ρ' S' H2 (evWhile (fun σ S => evT C z σ S) (fun σ S => evSs C b σ S) m σd' S') (SK.of D), fun σ2 H2 h => ⟨m, Nat.lt_succ_self m, h⟩, ?_⟩
      refine hb X cs ρ1 S1 H1 σd' σ' R1 RE1 _ ?_
      simp only [if_true] at h1
      cases hr : evSs C b σd' S1 with
      | nx σ1 S2 e => rw [hr] at h1; exact fun ρ2 H2 σ2 R2 st2 RE2 => ⟨ρ2, S2, σ1, R2, RE2, MtS.note h1 st2⟩
      | ct σ1 S2 e => rw [hr] at h1; exact fun ρ2 H2 σ2 R2 st2 RE2 => ⟨ρ2, S2, σ1, R2, RE2, MtS.note h1 st2⟩
      | bk σ1 S2 e => rw [hr] at h1; exact h1
      | rt d S2 e => rw [hr] at h1; exact h1
      | exn y σ1 S2 e => rw [hr] at h1; exact h1
      | stuck => rw [hr] at h1; exact h1
end
end NF

/-! NFSndA: what is stored. -/
namespace NF
open PySem PySem.Spec PyProof.Rows L2
section
variable {G : Gc} {gl : Gm} {C : Ctx} {n : Nat} {N : List Str} {sc : Scope}

/-! ### o[i] = v -/
def tSetS (X : Cx) : TSet := fun o i v H Q => ∀ (pins : List (Addr × Obj)) (s : Shared) (σ : L2.St) (ov iv u : Value), Inv X pins σ H s → RelV o ov → RelV i iv → RelV v u →
  wpAny (model X.prog X.w) X.A (setItem ov iv u) (fun _ s' => ∃ H', Inv X pins σ H' s' ∧ Q H') X.xe s
theorem pset_sem (X : Cx) : PSet X (tSetS X) := fun pins s σ H o i v ov iv u Q I r1 r2 r3 h => h pins s σ ov iv u I r1 r2 r3
theorem tSetS.of {X : Cx} {t : TSet} (p : PSet X t) {o i v : V} {H : Hp} {Q : Hp → Prop} (h : t o i v H Q) : tSetS X o i v H Q := fun pins s σ ov iv u I r1 r2 r3 => p pins s σ H o i v ov iv u Q I r1 r2 r3 h
theorem mrs_set {d : D} : ∀ {xs : List D} {j : Nat}, D.mrs (xs.set j d) ≤ max (D.mrs xs) d.mr := by
  intro xs j
  refine mrs_le_of fun x hx => ?_
  rcases List.mem_or_eq_of_mem_set hx with h | rfl
  · exact Nat.le_trans (mr_le_mrs h) (Nat.le_max_left _ _)
  · exact Nat.le_max_right _ _
theorem put_dict {ρ : List Addr} {S : Store} {H : Hp} {Q : Hp → Prop} (R : RelS G ρ S H) {k m : Nat} {a : Addr} {xs ys : List (D × D)} {vs ws : List (Key × V)} (hk : ρ[k]? = some a) (hS : S[k]? = some (.dict xs)) (hH : H a = some (.dK vs)) (r : KRs G ρ H ys ws)
    (hm : D.mrs (ys.map (·.2)) ≤ max (D.mrs (xs.map (·.2))) m) (h : Mt G ρ S H (put k (.dict ys) m () S) fun _ _ _ H' => Q H') : Q (upd H a (.dK ws)) := by
  have kp : Keep H (upd H a (.dK ws)) := Keep.write hH (fun _ z => by cases z) (fun _ _ z => by cases z)
  refine h ρ _ (R.set hk kp (.dict upd_same (r.mono (List.prefix_refl _) kp))) ⟨List.prefix_refl _, kp, MonoS.set S k _ m fun u hu => ?_, rest_set hk⟩
  rw [hS] at hu; cases hu
  exact hm
theorem put_lstU {ρ : List Addr} {S : Store} {H : Hp} {Q : Hp → Prop} (R : RelS G ρ S H) {k m : Nat} {a : Addr} {xs ys : List D} {vs ws : List V} (hk : ρ[k]? = some a) (hS : S[k]? = some (.lst xs)) (hH : H a = some (.lst vs)) (r : VRs G ρ H ys ws)
    (hm : D.mrs ys ≤ max (D.mrs xs) m) (h : Mt G ρ S H (put k (.lst ys) m () S) fun _ _ _ H' => Q H') : Q (upd H a (.lst ws)) := by
  have kp : Keep H (upd H a (.lst ws)) := Keep.write hH (fun _ z => by cases z) (fun _ _ z => by cases z)
  refine h ρ _ (R.set hk kp (.lst upd_same (r.mono (List.prefix_refl _) kp))) ⟨List.prefix_refl _, kp, MonoS.set S k _ m fun u hu => ?_, rest_set hk⟩
  rw [hS] at hu; cases hu
  exact hm
theorem setsub_snd {X : Cx} (cb : Cb G n X) {ρ : List Addr} {S : Store} {H : Hp} (R : RelS G ρ S H) {dx di dv : D} {x i v : V} {Q : Hp → Prop} (hx : VR G ρ H dx x) (hi : VR G ρ H di i) (hv : VR G ρ H dv v)
    (h : Mt G ρ S H (setSub dx di dv S) fun _ _ _ H' => Q H') : tSetS X x i v H Q := by
  unfold setSub at h
  cases hx with
  | ref hk =>
    simp only at h
    split at h
    · rename_i xs hS
      have o := R.obj _ _ _ hk hS
      cases o with
      | lst q r =>
        cases hi with
        | int j =>
          simp only at h
          split at h
          · rename_i m hm
            refine .of set_list ⟨_, _, _, m, rfl, rfl, q, by rw [← r.length]; exact hm, ?_⟩
            exact put_lstU R hk hS q (VRs.set hv m r) mrs_set h
          · exact h.elim
        | _ => exact h.elim
    · rename_i kvs hS
      have o := R.obj _ _ _ hk hS
      cases o with
      | dict q r =>
        split at h
        case isFalse => exact h.elim
        rename_i hkey
        obtain ⟨k, rfl, rfl⟩ := key_of hkey hi
        split at h
        case isFalse => exact h.elim
        rename_i hl
        refine .of (set_dict ?_) ⟨_, _, rfl, DPut.k q (by rw [← r.length]; exact hl), ?_⟩
        · have := cb.rm.un
          omega
        · exact put_dict R hk hS q (r.put hv) mrs_put h
    · exact h.elim
  | _ => exact h.elim
theorem sub_assign {o i : Expr} {pos : Pos} (h : isSlice i = false) (env : Env) (v : Value) : assign (.Subscript o i pos) env v = (do
    let ov ← holding [v] (eval o env)
    let iv ← holding [v, ov] (eval i env)
    standAt pos
    holding [v, ov, iv] (setItem ov iv v)
    release [v, ov, iv] []) := by
  cases i with
  | Slice => cases h
  | _ => rfl
theorem ss_sub {e o i : Expr} {c x y : CE} {tpos pos : Pos} (hsl : isSlice i = false) (he : SimE G C n N sc e c) (ho : SimE G C n N sc o x) (hi : SimE G C n N sc i y) : SimS G C n N sc (.Assign [.Subscript o i tpos] e pos) (.sub c x y) := by
  intro X cs ρ S H σd σ R RE D hq
  unfold evS at hq
  have hsw : swapsWithSole [.Subscript o i tpos] e pos.line X.env = pure false := by
    show swapsWith e (some (.Subscript o i tpos)) pos.line X.env = pure false
    unfold swapsWith
    cases e <;> rfl
  refine .of (ps_asg (pe_sem X e) (pg_sub (pe_sem X o) (pe_sem X i) (pset_sem X) (sub_assign hsl X.env)) hsw (by rfl)) ?_
  refine he X cs.toCs ρ S H σd σ R RE _ (Mt.go (MtS.andThen hq) fun d S1 ρ1 H1 e1 R1 st1 h1 v hv => ?_)
  have RE1 := RE.mono st1.pre st1.keep
  refine ho X cs.toCs ρ1 S1 H1 σd σ R1 RE1 _ (Mt.go (MtS.andThen h1) fun d2 S2 ρ2 H2 e2 R2 st2 h2 v2 hv2 => ?_)
  have RE2 := RE1.mono st2.pre st2.keep
  refine hi X cs.toCs ρ2 S2 H2 σd σ R2 RE2 _ (Mt.go (MtS.andThen h2) fun d3 S3 ρ3 H3 e3 R3 st3 h3 v3 hv3 => ?_)
  have RE3 := RE2.mono st3.pre st3.keep
  exact setsub_snd cs.toCb R3 (hv2.mono st3.pre st3.keep) hv3 ((hv.mono st2.pre st2.keep).mono st3.pre st3.keep) (Mt.go (MtS.andThen h3) fun _ S4 ρ4 H4 e4 R4 st4 h4 => MtS.here h4 R4 (RE3.mono st4.pre st4.keep))

/-! ### names -/
def gStar (K : PySem.W.Frag) (g1 g2 : TG) : TG := fun v σ H Q => ∃ a x xs, v = .ref a ∧ SqT K H a (x :: xs) ∧ ∀ p, H p = none → g1 x σ (upd H p (.lst xs)) fun σ1 H1 => g2 (.ref p) σ1 H1 Q
section
open PySem.W
theorem pg_star {X : Cx} {t1 t2 : Expr} {sp pos : Pos} {k : Nat} {g1 g2 : TG} (hc : X.calm = true) (h1 : PG X t1 g1) (h2 : PG X t2 g2) (he : assignEach [t1, .Starred t2 sp] X.env = [(false, assign t1 X.env), (true, assign t2 X.env)]) :
    PG X (.Tuple [t1, .Starred t2 sp] k pos) (gStar X.K g1 g2) := by
  refine ⟨fun pins s σ H v u Q I r hw => ?_⟩
  obtain ⟨a, x, xs, e1, hq, hw⟩ := hw
  subst e1
  cases r
  obtain ⟨its, rv, ht, hz⟩ := I.tuple hq
  cases rv with
  | @cons _ x' _ xs' rx rxs =>
  have hh := I.ok.hd hc
  have hlen := rxs.length
  have hzl : (x' :: xs').length ≤ sizeLine := by
    simp only [List.length_cons] at hz ⊢
    omega
  rw [PyProof.Rows.assign_Tuple, he]
  refine wpAny_bind (wpAny_standAt ?_)
  unfold unpack
  show wpAny _ _ (holding [.ref a] (unpackItems (.ref a) 2 (some 1)) >>= fun us => assignInOrder [assign t1 X.env, assign t2 X.env] us) _ _ _
  refine wpAny_bind (wpAny_holding ?_)
  have hlt : a ≠ s.heap.objs.size := by obtain ⟨o, ho, _⟩ := ht; exact Nat.ne_of_lt (Heap.lt_size ho)
  have hll : a < s.heap.objs.size := by obtain ⟨o, ho, _⟩ := ht; exact Heap.lt_size ho
  unfold unpackItems
  refine wpAny_bind ?_
  unfold notIterableAtAll
  refine wpAny_bind (wpAny_specialOf ht.typeIs slot_tuple_iter.lookup ?_)
  refine wpAny_pure ?_
  simp only [Bool.false_eq_true, if_false]
  refine wpAny_bind (wpAny_holding (iter_tuple ht ?_))
  refine wpAny_bind (wpAny_holding (draw_tuple hlt 1 0 _ _ ⟨_, Heap.get?_push_size _ rfl, rfl, rfl⟩ (ht.push _) (by simp) fun h₁ hit₁ hs₁ => ?_))
  have hl₁ : IsTup h₁ a (x' :: xs').toArray := (ht.push _).extBut hs₁.extBut hlt
  rw [Nat.zero_add] at hit₁
  have hit₁' := hit₁
  obtain ⟨oi, hoi, _⟩ := hit₁'
  have hl₁' := hl₁
  obtain ⟨ol, hol, _⟩ := hl₁'
  simp only [List.drop_zero, List.take_succ_cons, List.take_zero, List.length_cons, List.length_nil, Nat.lt_irrefl, if_false]
  refine wpAny_bind (wpAny_holding (kun_collect (s := { s with heap := h₁ }) (T := "tuple_iterator") (.inr (.inr (.inr rfl))) (Walks.tuple (A := X.A.in1) hh s.heap.objs.size a hlt _) (fun j u st => st.1.typeIs) (k := 1) (by simp) ⟨hit₁, hl₁⟩ (Heap.lt_size hoi) (Heap.lt_size hol) (fun h₂ tk hk => ?_) (by simpa using hzl)))
  simp only [List.drop_succ_cons, List.drop_zero, Nat.sub_self, Nat.not_lt_zero, if_false, Nat.sub_zero, List.take_length, List.drop_length, List.append_nil]
  have hk2 : ∀ b o, s.heap.get? b = some o → h₂.get? b = some o := fun b o e => hk b o (Nat.ne_of_lt (Heap.lt_size e)) (hs₁.extBut b o (Nat.ne_of_lt (Heap.lt_size e)) (Heap.get?_push_of_some _ e))
  have I1 : Inv X pins σ H { s with heap := h₂, toks := tk } := I.kept hk2
  refine wpAny_bind (wpAny_newList ?_ (by rw [← hlen]; simp only [List.length_cons] at hz; omega))
  have hf : H h₂.objs.size = none := I1.hok.fresh (Nat.le_refl _)
  have I2 := I1.laid (a := h₂.objs.size) (o := .lst xs) (h' := h₂.push { cls := .type "list", data := .seq xs'.toArray }) (t' := tk) (fun b u e => Heap.get?_push_of_some _ e) (Nat.le_refl _) ⟨by simp only [List.length_cons] at hz; omega, xs', 0, rxs, Heap.get?_push_size _ rfl⟩
  refine wpAny_pure ?_
  show wpAny _ _ (holding [Value.ref h₂.objs.size] (assign t1 X.env x') >>= fun _ => (holding [] (assign t2 X.env (.ref h₂.objs.size)) >>= fun _ => pure ())) _ _ _
  refine wpAny_bind (wpAny_holding (thn (h1.run pins _ σ _ x x' _ I2 rx (hw _ hf)) fun _ s3 ⟨σ3, H3, I3, q3⟩ => ?_))
  refine wpAny_bind (wpAny_holding (thn (h2.run pins s3 σ3 H3 (.ref h₂.objs.size) (.ref h₂.objs.size) _ I3 rfl q3) fun _ s4 q4 => ?_))
  exact wpAny_pure q4
end
theorem ss_set {x : Str} {e : Expr} {g : CG} {c : CE} {px pos : Pos} (hc : notComp e = true) (hg : SimG G n N sc trAll (.Name x px) g) (he : SimE G C n N sc e c) : SimS G C n N sc (.Assign [.Name x px] e pos) (.asg g c) := by
  intro X cs ρ S H σd σ R RE D hq
  unfold evS at hq
  refine .of (ps_asg (pe_sem X e) (g := tSG X (.Name x px)) (pg_sem X _) (by unfold swapsWithSole; exact sw_of hc _ _ _) (by rfl)) ?_
  refine he X cs.toCs ρ S H σd σ R RE _ (Mt.go (MtS.andThen hq) fun d S1 ρ1 H1 e1 R1 st1 h1 v hv => ?_)
  split at h1
  · rename_i σ1 hset
    exact hg X cs.toCs (fun x _ => cs.fn x) ρ1 H1 σd σ1 σ d v (RE.mono st1.pre st1.keep) hv hset _ fun σ2 RE2 _ => MtS.here h1 R1 RE2
  · exact h1.elim
theorem ss_setC {x : Str} {e : Expr} {g : CG} {c : CE} {px pos : Pos} (hc : sc.names.lookup x = some .cell) (hg : SimG G n N sc trAll (.Name x px) g) (he : SimE G C n N sc e c) : SimS G C n N sc (.Assign [.Name x px] e pos) (.asg g c) := by
  intro X cs ρ S H σd σ R RE D hq
  unfold evS at hq
  have hk : X.env.kindOf x = some .cell := by
    unfold Env.kindOf
    rw [cs.sc]; exact hc
  have hsw : swapsWithSole [.Name x px] e pos.line X.env = pure false := by
    show swapsWith e (some (.Name x px)) pos.line X.env = pure false
    have e0 : (X.env.kindOf x == some NameKind.local) = false := by rw [hk]; rfl
    unfold swapsWith
    cases e <;> first | rfl | simp only [e0, Bool.and_false, Bool.false_and]
  refine .of (ps_asg (pe_sem X e) (g := tSG X (.Name x px)) (pg_sem X _) hsw (by rfl)) ?_
  refine he X cs.toCs ρ S H σd σ R RE _ (Mt.go (MtS.andThen hq) fun d S1 ρ1 H1 e1 R1 st1 h1 v hv => ?_)
  split at h1
  · rename_i σ1 hset
    exact hg X cs.toCs (fun x _ => cs.fn x) ρ1 H1 σd σ1 σ d v (RE.mono st1.pre st1.keep) hv hset _ fun σ2 RE2 _ => MtS.here h1 R1 RE2
  · exact h1.elim
theorem ss_unpack {ts : List Expr} {kt : Nat} {pt : Pos} {e : Expr} {g : CG} {c : CE} {pos : Pos} (hc : notComp e = true) (ht : isTup e = false) (hg : SimG G n N sc trAll (.Tuple ts kt pt) g) (he : SimE G C n N sc e c) : SimS G C n N sc (.Assign [.Tuple ts kt pt] e pos) (.asg g c) := by
  intro X cs ρ S H σd σ R RE D hq
  unfold evS at hq
  have hw : swappedStores [.Tuple ts kt pt] e X.env = pure none := by
    unfold swappedStores
    cases e with
    | Tuple => cases ht
    | _ => rfl
  refine .of (ps_asg (pe_sem X e) (g := tSG X (.Tuple ts kt pt)) (pg_sem X _) (by unfold swapsWithSole; exact sw_of hc _ _ _) hw (by rfl)) ?_
  refine he X cs.toCs ρ S H σd σ R RE _ (Mt.go (MtS.andThen hq) fun d S1 ρ1 H1 e1 R1 st1 h1 v hv => ?_)
  split at h1
  · rename_i σ1 hset
    exact hg X cs.toCs (fun x _ => cs.fn x) ρ1 H1 σd σ1 σ d v (RE.mono st1.pre st1.keep) hv hset _ fun σ2 RE2 _ => MtS.here h1 R1 RE2
  · exact h1.elim
theorem ss_star {x y : Str} {px py sp pt : Pos} {kt : Nat} {e : Expr} {g r : CG} {c : CE} {pos : Pos} (hc : notComp e = true) (ht : isTup e = false) (hg : SimG G n N sc trAll (.Name x px) g) (hr : SimG G n N sc trAll (.Name y py) r) (he : SimE G C n N sc e c) :
    SimS G C n N sc (.Assign [.Tuple [.Name x px, .Starred (.Name y py) sp] kt pt] e pos) (.star g r c) := by
  intro X cs ρ S H σd σ R RE D hq
  unfold evS at hq
  have hw : swappedStores [.Tuple [.Name x px, .Starred (.Name y py) sp] kt pt] e X.env = pure none := by
    unfold swappedStores
    cases e with
    | Tuple => cases ht
    | _ => rfl
  refine .of (ps_asg (pe_sem X e) (pg_star cs.calm (pg_sem X (.Name x px)) (pg_sem X (.Name y py)) rfl) (by unfold swapsWithSole; exact sw_of hc _ _ _) hw (by rfl)) ?_
  refine he X cs.toCs ρ S H σd σ R RE _ (Mt.go (MtS.andThen hq) fun d S1 ρ1 H1 e1 R1 st1 h1 v hv => ?_)
  have RE1 := RE.mono st1.pre st1.keep
  split at h1
  case h_2 => exact h1.elim
  rename_i dx dxs
  cases hv with
  | tup hT hvs =>
    cases hvs with
    | cons hx hxs =>
      rename_i a vx vxs
      split at h1
      case h_2 => exact h1.elim
      rename_i σ1 hset1
      split at h1
      case h_2 => exact h1.elim
      rename_i σ2 hset2
      refine ⟨a, vx, vxs, rfl, by rw [cs.K]; exact hT.sq, fun p hp => ?_⟩
      have hpre : ρ1 <+: ρ1 ++ [p] := ⟨[p], rfl⟩
      have kp : Keep H1 (upd H1 p (.lst vxs)) := Keep.new hp
      have R2 : RelS G (ρ1 ++ [p]) (S1 ++ [.lst dxs]) (upd H1 p (.lst vxs)) := R1.push hp (.lst upd_same (hxs.mono hpre kp))
      refine hg X cs.toCs (fun x _ => cs.fn x) (ρ1 ++ [p]) _ σd σ1 σ _ vx (RE1.mono hpre kp) (hx.mono hpre kp) hset1 _ fun σ1' RE2 _ => ?_
      refine hr X cs.toCs (fun x _ => cs.fn x) (ρ1 ++ [p]) _ σ1 σ2 σ1' _ _ RE2 (.ref (by rw [List.getElem?_append_right (by rw [R1.len]; exact Nat.le_refl _), R1.len]; simp)) hset2 _ fun σ2' RE3 _ => ?_
      exact h1 (ρ1 ++ [p]) _ σ2' R2 ⟨hpre, kp, MonoS.push _ _, rest_push hp⟩ RE3
theorem ss_aug {x : Str} {i : Nat} {op : Operator} {o : BOp} {e : Expr} {c : CE} {px pos : Pos} (hi : idx N x = some i) (hx : sc.names.lookup x = some .local ∨ sc.names.lookup x = some .cell) (ho : trOp op = some o) (he : SimE G C n N sc e c) :
    SimS G C n N sc (.AugAssign (.Name x px) op e pos) (.aug i o c) := by
  intro X cs ρ S H σd σ R RE D hq
  unfold evS at hq
  split at hq
  case h_2 => exact hq.elim
  rename_i dx hdx
  obtain ⟨vx, hvx, rx⟩ := RE.at_ i dx hdx
  cases trOp_of ho
  refine .of (ps_aug (ti := tOS X (inplaceOp (opOf o))) (by rw [cs.hN]; exact cs.nd) (by rw [cs.hN]; exact idx_get hi) (by rw [cs.sc]; exact hx) (pe_sem X e) (tOS_op X (inplaceOp (opOf o))) (.inl (cs.fn x))) ?_
  refine ⟨vx, hvx, ?_⟩
  refine he X cs.toCs ρ S H σd σ R RE _ (Mt.go (MtS.andThen hq) fun d S1 ρ1 H1 e1 R1 st1 h1 v hv => ?_)
  have RE1 := RE.mono st1.pre st1.keep
  have rx1 := rx.mono st1.pre st1.keep
  have h2 := MtS.andThen h1
  have done : ∀ (z : NF.D) (w : V), Mt G ρ1 S1 H1 (.ok z S1 none) (fun z S2 ρ2 H2 => MtS G ρ2 S2 H2 (.nx (σd.set i (some z)) S2 none) (SK.of D)) → VR G ρ1 H1 z w → D.nx (σ.set i (some w)) H1 := fun z w h hz =>
    MtS.here (Mt.here h R1) R1 (RE1.set hz)
  cases o with
  | add =>
    cases rx1 with
    | int a =>
      cases hv with
      | int b => exact .of iop_add ⟨_, _, rfl, rfl, done _ _ h2 (.int _)⟩
      | _ => exact h2.elim
    | str a =>
      cases hv with
      | str b =>
        obtain ⟨hz, h2⟩ := guardM h2
        refine .of iop_add_str ⟨_, _, rfl, rfl, by rw [str_len, str_len]; exact hz, ?_⟩
        rw [str_app]
        exact done _ _ h2 (.str _)
      | _ => exact h2.elim
    | _ => cases hv <;> exact h2.elim
  | sub =>
    cases rx1 with
    | int a =>
      cases hv with
      | int b => exact .of iop_sub ⟨_, _, rfl, rfl, done _ _ h2 (.int _)⟩
      | _ => exact h2.elim
    | _ => cases hv <;> exact h2.elim
  | fdiv =>
    cases rx1 with
    | int a =>
      cases hv with
      | int b =>
        obtain ⟨hz, h2⟩ := guardM h2
        unfold divOk at hz
        simp only [Bool.and_eq_true, decide_eq_true_eq] at hz
        exact .of iop_fdivW ⟨_, _, rfl, rfl, hz, done _ _ h2 (.int _)⟩
      | _ => exact h2.elim
    | _ => cases hv <;> exact h2.elim
  | mod =>
    cases rx1 with
    | int a =>
      cases hv with
      | int b =>
        obtain ⟨hz, h2⟩ := guardM h2
        exact .of iop_mod ⟨_, _, rfl, rfl, hz, done _ _ h2 (.int _)⟩
      | _ => exact h2.elim
    | _ => cases hv <;> exact h2.elim
  | mul => cases rx1 <;> cases hv <;> exact h2.elim
  | pow => cases rx1 <;> cases hv <;> exact h2.elim
/-! ### o[i] op= e -/
def tGetS (X : Cx) : V → V → Hp → VK → Prop := fun o i H Q => ∀ (pins : List (Addr × Obj)) (s : Shared) (σ : L2.St) (ov iv : Value), Inv X pins σ H s → RelV o ov → RelV i iv →
  wpAny (model X.prog X.w) X.A (getItem ov iv) (EP X pins σ Q) X.xe s
theorem pget_sem (X : Cx) : PGet X (tGetS X) := fun pins s σ H o i ov iv Q I r1 r2 h => h pins s σ ov iv I r1 r2
theorem augIx_snd {X : Cx} (cb : Cb G n X) {ρ : List Addr} {S : Store} {H : Hp} (R : RelS G ρ S H) {dx di : D} {x i : V} {Q : VK} (hx : VR G ρ H dx x) (hi : VR G ρ H di i) (h : MtV G ρ S H (augIx dx di S) Q) : tGetS X x i H Q := by
  unfold augIx at h
  split at h
  · rename_i xs k e
    split at h
    case isFalse => exact h.elim
    rename_i hk
    obtain ⟨d, hd, h⟩ := ofOpt_of h R
    obtain ⟨a, ws, rfl, q, r⟩ := lst_of R hx e
    obtain ⟨w, hw, rw'⟩ := r.get hd
    cases hi
    intro pins s σ ov iv I r1 r2
    cases r1
    obtain ⟨t, rfl⟩ := r2
    obtain ⟨its, rv, p, hz⟩ := I.list (cb.K ▸ q)
    obtain ⟨u, hu, ru⟩ := rv.get hw
    refine wpAny_getItem_list p.isList hk.1 (by omega) (x := u) (by simpa using hu) ?_
    exact ⟨w, H, I, ru, h w rw'⟩
  · exact h.elim
theorem ss_augsub {a i e : Expr} {op : Operator} {o : BOp} {x y c : CE} {px pos : Pos} (hsl : isSlice i = false) (ho : trOp op = some o) (ha : SimE G C n N sc a x) (hi : SimE G C n N sc i y) (he : SimE G C n N sc e c) :
    SimS G C n N sc (.AugAssign (.Subscript a i px) op e pos) (.augsub x y o c) := by
  intro X cs ρ S H σd σ R RE D hq
  unfold evS at hq
  cases trOp_of ho
  refine .of (ps_augS (pe_sem X a) (pe_sem X i) (pget_sem X) (pe_sem X e) (tip := tOS X (inplaceOp (opOf o))) (tOS_op X (inplaceOp (opOf o))) (pset_sem X) (by
    intro ov iv new
    cases i with
    | Slice => cases hsl
    | _ => rfl)) ?_
  refine ha X cs.toCs ρ S H σd σ R RE _ (Mt.go (MtS.andThen hq) fun d1 S1 ρ1 H1 e1 R1 st1 h1 v1 hv1 => ?_)
  have RE1 := RE.mono st1.pre st1.keep
  refine hi X cs.toCs ρ1 S1 H1 σd σ R1 RE1 _ (Mt.go (MtS.andThen h1) fun d2 S2 ρ2 H2 e2 R2 st2 h2 v2 hv2 => ?_)
  have RE2 := RE1.mono st2.pre st2.keep
  refine augIx_snd cs.toCb R2 (hv1.mono st2.pre st2.keep) hv2 (Mt.go (MtS.andThen h2) fun d3 S3 ρ3 H3 e3 R3 st3 h3 v3 hv3 => ?_)
  have RE3 := RE2.mono st3.pre st3.keep
  refine he X cs.toCs ρ3 S3 H3 σd σ R3 RE3 _ (Mt.go (MtS.andThen h3) fun d4 S4 ρ4 H4 e4 R4 st4 h4 v4 hv4 => ?_)
  have RE4 := RE3.mono st4.pre st4.keep
  have h5 := MtS.andThen h4
  have rx1 := hv3.mono st4.pre st4.keep
  have ra := ((hv1.mono st2.pre st2.keep).mono st3.pre st3.keep).mono st4.pre st4.keep
  have ri := (hv2.mono st3.pre st3.keep).mono st4.pre st4.keep
  have done : ∀ (z : NF.D) (w : V), Mt G ρ4 S4 H4 (.ok z S4 none) (fun z S5 ρ5 H5 => MtS G ρ5 S5 H5 ((setSub d1 d2 z S5).andThen σd fun _ S6 => .nx σd S6 none) (SK.of D)) → VR G ρ4 H4 z w →
      tSetS X v1 v2 w H4 (fun H6 => D.nx σ H6) := fun z w h hz =>
    setsub_snd cs.toCb R4 ra ri hz (Mt.go (MtS.andThen (Mt.here h R4)) fun _ S6 ρ6 H6 e6 R6 st6 h6 => MtS.here h6 R6 (RE4.mono st6.pre st6.keep))
  cases o with
  | add =>
    cases rx1 with
    | int a =>
      cases hv4 with
      | int b => exact .of iop_add ⟨_, _, rfl, rfl, done _ _ h5 (.int _)⟩
      | _ => exact h5.elim
    | str a =>
      cases hv4 with
      | str b =>
        obtain ⟨hz, h5⟩ := guardM h5
        refine .of iop_add_str ⟨_, _, rfl, rfl, by rw [str_len, str_len]; exact hz, ?_⟩
        rw [str_app]
        exact done _ _ h5 (.str _)
      | _ => exact h5.elim
    | _ => cases hv4 <;> exact h5.elim
  | sub =>
    cases rx1 with
    | int a =>
      cases hv4 with
      | int b => exact .of iop_sub ⟨_, _, rfl, rfl, done _ _ h5 (.int _)⟩
      | _ => exact h5.elim
    | _ => cases hv4 <;> exact h5.elim
  | fdiv =>
    cases rx1 with
    | int a =>
      cases hv4 with
      | int b =>
        obtain ⟨hz, h5⟩ := guardM h5
        unfold divOk at hz
        simp only [Bool.and_eq_true, decide_eq_true_eq] at hz
        exact .of iop_fdivW ⟨_, _, rfl, rfl, hz, done _ _ h5 (.int _)⟩
      | _ => exact h5.elim
    | _ => cases hv4 <;> exact h5.elim
  | mod =>
    cases rx1 with
    | int a =>
      cases hv4 with
      | int b =>
        obtain ⟨hz, h5⟩ := guardM h5
        exact .of iop_mod ⟨_, _, rfl, rfl, hz, done _ _ h5 (.int _)⟩
      | _ => exact h5.elim
    | _ => cases hv4 <;> exact h5.elim
  | mul => cases rx1 <;> cases hv4 <;> exact h5.elim
  | pow => cases rx1 <;> cases hv4 <;> exact h5.elim
/-! ### a dict is locked while a statement runs -/
theorem ss_lock {st : Stmt} {i : Nat} {c : CS} (h : SimS G C n N sc st c) : SimS G C n N sc st (.lock i c) := by
  intro X cs ρ S H σd σ R RE D hq
  unfold evS at hq
  split at hq
  case h_2 => exact h X cs ρ S H σd σ R RE D hq
  rename_i m kvs hl
  obtain ⟨a, vs, ha, hS, q, r⟩ := lockAt_of R hl
  refine .of (ps_lock (ps_sem X st)) ⟨a, .dK vs, q, trivial, fun od => ?_⟩
  have l := lkd R ha q r od
  refine h X cs ρ _ _ σd σ l.rel (RE.mono (List.prefix_refl _) l.keep) _ ?_
  cases hr : evS C c σd (S.set m (.ldict kvs)) with
  | nx σ1 S1 e1 =>
    rw [hr] at hq
    unfold unlockS at hq
    simp only at hq
    split at hq
    case h_2 => exact hq.elim
    rename_i S2 hu
    intro ρ' H' σ' R' st' RE'
    obtain ⟨hf, R2, st2, k0⟩ := unlk R ha hS q R' st' hu
    exact ⟨hf, hq ρ' _ σ' R2 st2 (RE'.mono0 k0)⟩
  | bk σ1 S1 e1 =>
    rw [hr] at hq
    unfold unlockS at hq
    simp only at hq
    split at hq
    case h_2 => exact hq.elim
    rename_i S2 hu
    intro ρ' H' σ' R' st' RE'
    obtain ⟨hf, R2, st2, k0⟩ := unlk R ha hS q R' st' hu
    exact ⟨hf, hq ρ' _ σ' R2 st2 (RE'.mono0 k0)⟩
  | ct σ1 S1 e1 =>
    rw [hr] at hq
    unfold unlockS at hq
    simp only at hq
    split at hq
    case h_2 => exact hq.elim
    rename_i S2 hu
    intro ρ' H' σ' R' st' RE'
    obtain ⟨hf, R2, st2, k0⟩ := unlk R ha hS q R' st' hu
    exact ⟨hf, hq ρ' _ σ' R2 st2 (RE'.mono0 k0)⟩
  | rt d S1 e1 =>
    rw [hr] at hq
    unfold unlockS at hq
    simp only at hq
    split at hq
    case h_2 => exact hq.elim
    rename_i S2 hu
    intro ρ' H' R' st' v' hv'
    obtain ⟨hf, R2, st2, k0⟩ := unlk R ha hS q R' st' hu
    exact ⟨hf, hq ρ' _ R2 st2 v' (hv'.mono0 (List.prefix_refl _) k0)⟩
  | exn x σ1 S1 e1 => rw [hr] at hq; exact hq.elim
  | stuck => rw [hr] at hq; exact hq.elim
theorem ss_lockIf {st : Stmt} {e : Expr} {i : CE} {c : CS} (h : SimS G C n N sc st c) : SimS G C n N sc st (lockIfS e i c) := by
  unfold lockIfS
  split
  · split
    · exact ss_lock h
    · exact h
  · exact h
end
end NF

/-! NFSndP: several stores at once; comprehensions that are stored. -/
namespace NF
open PySem PySem.Spec PyProof.Rows L2
section
variable {G : Gc} {gl : Gm} {C : Ctx} {n : Nat} {N : List Str} {sc : Scope}

theorem swap_of {ts vs : List Expr} {names : List Str} {env : Env} {k k2 : Nat} {p p2 : Pos} (h : swapIs ts vs env.scope = some names) (hb : env.blockKind = .function) : swappedStores [.Tuple ts k p] (.Tuple vs k2 p2) env = pure (some names) := by
  unfold swapIs at h
  unfold swappedStores
  split at h
  · cases h
  rename_i h1
  split at h
  · cases h
  rename_i h2
  simp only at h
  split at h
  · cases h
  rename_i h3
  split at h
  · cases h
  rename_i h4
  split at h
  · cases h
  rename_i h5
  cases h
  simp only [hb]
  have h1' : ¬ (!(ts.length == 2 || ts.length == 3) || vs.length != ts.length || ScopeKind.function != ScopeKind.function) = true := by
    have : (ScopeKind.function != ScopeKind.function) = false := rfl
    rw [this, Bool.or_false]
    exact h1
  exact (if_neg h1').trans ((if_neg h2).trans ((if_neg h3).trans ((if_neg h4).trans (if_neg h5))))
theorem blockKind_of {X : Cx} {pins : List (Addr × Obj)} {σ : L2.St} {H : Hp} {s : Shared} (I : Inv X pins σ H s) : X.env.blockKind = .function := by
  have := I.ok.kind
  unfold Env.blockKind
  rw [this]
  rfl
theorem VRs.three {ρ : List Addr} {H : Hp} {a b c : D} {vs : List V} (h : VRs G ρ H [a, b, c] vs) : ∃ u v w, vs = [u, v, w] ∧ VR G ρ H a u ∧ VR G ρ H b v ∧ VR G ρ H c w := by
  cases h with
  | cons h1 r => cases r with
    | cons h2 r => cases r with
      | cons h3 r => cases r; exact ⟨_, _, _, rfl, h1, h2, h3⟩
/-- the values of a tuple that is taken apart at once -/
theorem par_vals {cs' : List CE} {σd : Envr} {g : CG} {ρ : List Addr} {S : Store} {H : Hp} {k : SK} (h : MtS G ρ S H (evS C (.asg g (.tup cs')) σd S) k) :
    Mt G ρ S H (evEs C cs' σd S) fun ds S1 ρ1 H1 => ∃ σ1, setG g (.tup ds) σd = some σ1 ∧ (RelS G ρ1 S1 H1 → MtS G ρ1 S1 H1 (.nx σ1 S1 none) k) := by
  unfold evS evE at h
  have h1 := MtS.andThen h
  have h2 := Mt.bind h1
  refine Mt.go h2 fun ds S1 ρ1 H1 e1 R1 st1 h3 => ?_
  obtain ⟨hz, h3⟩ := guardM h3
  have h4 := Mt.here h3 R1
  cases hs : setG g (.tup ds) σd with
  | some σ1 => rw [hs] at h4; exact ⟨σ1, rfl, fun _ => h4⟩
  | none => rw [hs] at h4; exact h4.elim
theorem setG_two {i j : Nat} {ds : List D} {σd σ1 : Envr} (h : setG (.tup [.name i, .name j]) (.tup ds) σd = some σ1) : ∃ a b, ds = [a, b] ∧ σ1 = (σd.set i (some a)).set j (some b) := by
  unfold setG at h
  split at h
  case isFalse => cases h
  match ds, h with
  | [], h => simp [setGs] at h
  | [a], h =>
    obtain ⟨s1, e1, e2⟩ := setGs_cons h
    simp [setGs] at e2
  | [a, b], h =>
    obtain ⟨s1, e1, e2⟩ := setGs_cons h
    obtain ⟨s2, e3, e4⟩ := setGs_cons e2
    unfold setG at e1 e3
    split at e1 <;> cases e1
    split at e3 <;> cases e3
    simp only [setGs, Option.some.injEq] at e4
    exact ⟨a, b, rfl, e4.symm⟩
  | a :: b :: c :: r, h =>
    obtain ⟨s1, e1, e2⟩ := setGs_cons h
    obtain ⟨s2, e3, e4⟩ := setGs_cons e2
    simp [setGs] at e4
theorem setG_three {i j l : Nat} {ds : List D} {σd σ1 : Envr} (h : setG (.tup [.name i, .name j, .name l]) (.tup ds) σd = some σ1) : ∃ a b c, ds = [a, b, c] ∧ σ1 = ((σd.set i (some a)).set j (some b)).set l (some c) := by
  unfold setG at h
  split at h
  case isFalse => cases h
  match ds, h with
  | [], h => simp [setGs] at h
  | [a], h =>
    obtain ⟨s1, e1, e2⟩ := setGs_cons h
    simp [setGs] at e2
  | [a, b], h =>
    obtain ⟨s1, e1, e2⟩ := setGs_cons h
    obtain ⟨s2, e3, e4⟩ := setGs_cons e2
    simp [setGs] at e4
  | [a, b, c], h =>
    obtain ⟨s1, e1, e2⟩ := setGs_cons h
    obtain ⟨s2, e3, e4⟩ := setGs_cons e2
    obtain ⟨s3, e5, e6⟩ := setGs_cons e4
    unfold setG at e1 e3 e5
    split at e1 <;> cases e1
    split at e3 <;> cases e3
    split at e5 <;> cases e5
    simp only [setGs, Option.some.injEq] at e6
    exact ⟨a, b, c, rfl, e6.symm⟩
  | a :: b :: c :: d :: r, h =>
    obtain ⟨s1, e1, e2⟩ := setGs_cons h
    obtain ⟨s2, e3, e4⟩ := setGs_cons e2
    obtain ⟨s3, e5, e6⟩ := setGs_cons e4
    simp [setGs] at e6
theorem ss_par {x y : Str} {i j : Nat} {a b : Expr} {cs' : List CE} {px py pt p2 pos : Pos} {kt k2 : Nat} (hsw : swapIs [.Name x px, .Name y py] [a, b] sc = some [x, y]) (hi : idx N x = some i) (hj : idx N y = some j) (hij : i ≠ j)
    (hx : sc.names.lookup x = some .local) (hy : sc.names.lookup y = some .local) (h : SimA G C n N sc [a, b] cs') : SimS G C n N sc (.Assign [.Tuple [.Name x px, .Name y py] kt pt] (.Tuple [a, b] k2 p2) pos) (.asg (.tup [.name i, .name j]) (.tup cs')) := by
  intro X cs ρ S H σd σ R RE D hq pins s I
  refine (ps_par cs.calm (by rw [cs.hN]; exact cs.nd) (by rw [cs.hN]; exact idx_get hi) (by rw [cs.hN]; exact idx_get hj) hij (by rw [cs.sc]; exact hx) (by rw [cs.sc]; exact hy) (pa_sem X [a, b]) (swap_of (by rw [cs.sc]; exact hsw) (blockKind_of I)) (by rfl)).run pins s σ H D I ?_
  refine h X cs.toCs ρ S H σd σ R RE _ (Mt.go (par_vals hq) fun ds S1 ρ1 H1 e1 R1 st1 h1 vs hvs => ?_)
  obtain ⟨σ1, hset, h1⟩ := h1
  obtain ⟨da, db, rfl, rfl⟩ := setG_two hset
  obtain ⟨v, w, rfl, rv, rw'⟩ := VRs.two hvs
  exact ⟨v, w, rfl, MtS.here (h1 R1) R1 (((RE.mono st1.pre st1.keep).set rv).set rw')⟩
theorem ss_par3 {x y z : Str} {i j l : Nat} {a b c : Expr} {cs' : List CE} {px py pz pt p2 pos : Pos} {kt k2 : Nat} (hsw : swapIs [.Name x px, .Name y py, .Name z pz] [a, b, c] sc = some [x, y, z]) (hi : idx N x = some i) (hj : idx N y = some j) (hl : idx N z = some l) (hij : i ≠ j) (hil : i ≠ l) (hjl : j ≠ l)
    (hx : sc.names.lookup x = some .local) (hy : sc.names.lookup y = some .local) (hz : sc.names.lookup z = some .local) (h : SimA G C n N sc [a, b, c] cs') :
    SimS G C n N sc (.Assign [.Tuple [.Name x px, .Name y py, .Name z pz] kt pt] (.Tuple [a, b, c] k2 p2) pos) (.asg (.tup [.name i, .name j, .name l]) (.tup cs')) := by
  intro X cs ρ S H σd σ R RE D hq pins s I
  refine (ps_par3 cs.calm (by rw [cs.hN]; exact cs.nd) (by rw [cs.hN]; exact idx_get hi) (by rw [cs.hN]; exact idx_get hj) (by rw [cs.hN]; exact idx_get hl) hij hil hjl (by rw [cs.sc]; exact hx) (by rw [cs.sc]; exact hy) (by rw [cs.sc]; exact hz) (pa_sem X [a, b, c])
    (swap_of (by rw [cs.sc]; exact hsw) (blockKind_of I)) (by rfl)).run pins s σ H D I ?_
  refine h X cs.toCs ρ S H σd σ R RE _ (Mt.go (par_vals hq) fun ds S1 ρ1 H1 e1 R1 st1 h1 vs hvs => ?_)
  obtain ⟨σ1, hset, h1⟩ := h1
  obtain ⟨da, db, dc, rfl, rfl⟩ := setG_three hset
  obtain ⟨u, v, w, rfl, ru, rv, rw'⟩ := hvs.three
  exact ⟨u, v, w, rfl, MtS.here (h1 R1) R1 ((((RE.mono st1.pre st1.keep).set ru).set rv).set rw')⟩
/-- x = [..] on one line -/
theorem ss_lc {x : Str} {i : Nat} {elt tg iter : Expr} {ifs : List Expr} {scope : Scope} {px pos spos : Pos} {own : List (Str × Nat)} {c : CE} {g : CG} {it : CE} {fs : List CE} (hi0 : idx N x = some i) (hx : sc.names.lookup x = some .local) (hl : (px.line == pos.line) = true)
    (ha : (scope.names.any fun (n, k) => n == x && (k == .local || k == .cell)) = false) (hb : blkC N sc scope own = true) (hset : ∀ a k p, iter ≠ .Set a k p) (hg : SimG G n N (relS scope sc) (fun x => scope.names.lookup x == some .cell) tg g)
    (hi : SimI G C n N sc tg iter it) (he : SimE G C n N (relS scope sc) elt c) (ht : SimIf G C n N (relS scope sc) ifs fs) (hsl : ∀ k ∈ g.sl, k ∈ own.map (·.2)) :
    SimS G C n N sc (.Assign [.Name x px] (.ListComp elt [⟨tg, iter, ifs, 0⟩] scope pos) spos) (.asg (.name i) (.lc c g it fs (own.map (·.2)))) := by
  intro X cs ρ S H σd σ R RE D hq pins s I
  unfold evS at hq
  refine (ps_setLc cs.calm (by rw [cs.hN]; exact cs.nd) (by rw [cs.hN]; exact idx_get hi0) (by rw [cs.sc]; exact hx) (sw_true I.ok.kind (by rw [cs.sc]; exact hx) hl ha) (pi_sem X tg iter) (by rw [cs.hN, cs.sc]; exact blkOk_by hb)
    (fun s H C cl fp => pg_blk X scope tg s H C cl fp) (fun s H C cl fp => pt_blk X scope ifs s H C cl fp) (fun s H C cl fp => pe_blk X scope elt s H C cl fp) (folded_of hset)).run pins s σ H D I ?_
  refine lc_law (Q := fun v H' => D.nx (σ.set i (some v)) H') hg hi he ht hsl cs.toCs R RE (Mt.go (MtS.andThen hq) fun d S1 ρ1 H1 e1 R1 st1 h1 v hv => ?_)
  unfold setG at h1
  split at h1
  · rename_i σ1 hset
    split at hset
    · cases hset
      exact MtS.here h1 R1 ((RE.mono st1.pre st1.keep).set hv)
    · cases hset
  · exact h1.elim

/-! ### every statement that is translated -/
mutual
theorem trS_snd (ok : GlOk G gl) (hc : CallSnd G gl n C.call) (hn : ArgN gl C.call) {k : Nat} : ∀ (f : Nat) (st : Stmt) (c : CS), trS gl N k sc f st = some c → SimS G C n N sc st c
  | 0, _, _, h => by unfold trS at h; cases h
  | f + 1, st, c, h => by
    have he := fun e c h => trE_snd (N := N) ok hc hn k sc e c h
    unfold trS at h
    split at h
    · cases h; exact ss_doc
    · split at h
      case isFalse => cases h
      rename_i hcomp
      rw [Option.map_eq_some_iff] at h
      obtain ⟨c, hc, rfl⟩ := h
      exact ss_expr hcomp (he _ _ hc).e
    · rw [Option.map_eq_some_iff] at h
      obtain ⟨c, hc, rfl⟩ := h
      exact ss_ret (he _ _ hc).e
    · cases h; exact ss_retN
    · cases h; exact ss_pass
    · cases h; exact ss_break
    · cases h; exact ss_cont
    · split at h
      · rename_i z x y hz hx hy
        cases h
        exact ss_if (he _ _ hz).t (trSs_snd ok hc hn f _ _ hx) (trSs_snd ok hc hn f _ _ hy)
      · cases h
    · split at h
      · rename_i g i b hg hi hb
        cases h
        obtain ⟨hi1, hi2⟩ := trI_snd ok he hi
        exact ss_lockIf (ss_for hi2 (trG_snd hg).1 hi1 (trSs_snd ok hc hn f _ _ hb))
      · cases h
    · split at h
      · rename_i z b hz hb
        cases h
        exact ss_while (he _ _ hz).t (trSs_snd ok hc hn f _ _ hb)
      · cases h
    · -- AugAssign
      split at h
      case isFalse => cases h
      split at h
      · rename_i i o c e1 e2 e3 e4
        cases h
        exact ss_aug e2 (.inl e1) e3 (he _ _ e4).e
      · rename_i i o c e1 e2 e3 e4
        cases h
        exact ss_aug e2 (.inr e1) e3 (he _ _ e4).e
      · cases h
    · -- o[i] op= e
      split at h
      · cases h
      rename_i hs
      split at h
      · rename_i x y o c e1 e2 e3 e4
        cases h
        exact ss_augsub (by simpa using hs) e3 (he _ _ e1).e (he _ _ e2).e (he _ _ e4).e
      · cases h
    · -- x = [..]
      split at h
      case isFalse =>
        split at h
        case isFalse => cases h
        rename_i hcell
        split at h
        · rename_i g c hg hc
          cases h
          exact ss_setC (of_decide_eq_true hcell) (trG_snd (by
            unfold trG at hg ⊢
            exact hg)).1 (he _ _ hc).e
        · cases h
      rename_i hq
      simp only [Bool.and_eq_true, decide_eq_true_eq, Bool.not_eq_true'] at hq
      obtain ⟨⟨⟨h1, h2⟩, h3⟩, h4⟩ := hq
      split at h
      · rename_i i a b d e f hi hlc
        cases h
        cases k with
        | zero => cases hlc
        | succ k =>
          simp only [trE] at hlc
          split at hlc
          case isFalse => cases hlc
          rename_i hb
          split at hlc
          · rename_i x g it fs hx hg hit hfs
            split at hlc
            case isFalse => cases hlc
            rename_i hl
            have hlc := lockIf_lc (Option.some.inj hlc)
            cases hlc
            simp only [Bool.and_eq_true, decide_eq_true_eq, List.all_eq_true, List.contains_iff_mem] at hl
            have ih := fun sc e c h => trE_snd (N := N) ok hc hn k sc e c h
            obtain ⟨hi1, hi2⟩ := trI_snd ok (ih sc) hit
            exact (ss_lc hi h1 h2 h3 hb hi2 (trG_snd hg).1 hi1 (ih _ _ _ hx).e (simIf_of (mapO_all (ih _) hfs) hl.1) hl.2)
          · cases hlc
      · cases h
    · -- x = {..}
      split at h
      case isFalse => cases h
      rename_i hcell
      split at h
      · rename_i g c hg hc
        cases h
        exact ss_setC (of_decide_eq_true hcell) (trG_snd (by
          unfold trG at hg ⊢
          exact hg)).1 (he _ _ hc).e
      · cases h
    · split at h
      case isFalse => cases h
      rename_i hcomp
      split at h
      · rename_i g c hg hc
        cases h
        exact ss_set hcomp (trG_snd (by
          unfold trG at hg ⊢
          exact hg)).1 (he _ _ hc).e
      · cases h
    · -- several names at once
      split at h
      · rename_i x y x' px y' py a b hsw
        split at h
        · rename_i i j c d e1 e2 e3 e4
          split at h
          case isFalse => cases h
          rename_i hq
          cases h
          obtain ⟨hij, ⟨rfl, hx⟩, rfl, hy⟩ := hq
          have ha := he _ _ e3
          have hb := he _ _ e4
          exact ss_par hsw e1 e2 hij hx hy (s_acons ha.ns ha.e (s_acons hb.ns hb.e s_anil))
        · cases h
      · rename_i x y z x' px y' py z' pz a b e hsw
        split at h
        · rename_i i j l c d e e1 e2 e3 e4 e5 e6
          split at h
          case isFalse => cases h
          rename_i hq
          cases h
          obtain ⟨⟨hij, hil, hjl⟩, ⟨rfl, hx⟩, ⟨rfl, hy⟩, rfl, hz⟩ := hq
          have ha := he _ _ e4
          have hb := he _ _ e5
          have hd := he _ _ e6
          exact ss_par3 hsw e1 e2 e3 hij hil hjl hx hy hz (s_acons ha.ns ha.e (s_acons hb.ns hb.e (s_acons hd.ns hd.e s_anil)))
        · cases h
      · cases h
    · split at h
      case isFalse => cases h
      rename_i hq
      simp only [Bool.and_eq_true, Bool.not_eq_true'] at hq
      split at h
      · rename_i g r c hg hr hc
        cases h
        exact ss_star hq.1 hq.2 (trG_snd hg).1 (trG_snd hr).1 (he _ _ hc).e
      · cases h
    · split at h
      case isFalse => cases h
      rename_i hq
      simp only [Bool.and_eq_true, Bool.not_eq_true'] at hq
      split at h
      · rename_i g c hg hc
        cases h
        exact ss_unpack hq.1 hq.2 (trG_snd hg).1 (he _ _ hc).e
      · cases h
    · split at h
      · cases h
      rename_i hs
      split at h
      · rename_i c x y e1 e2 e3
        cases h
        exact ss_sub (by simpa using hs) (he _ _ e1).e (he _ _ e2).e (he _ _ e3).e
      · cases h
    · cases h
theorem trSs_snd (ok : GlOk G gl) (hc : CallSnd G gl n C.call) (hn : ArgN gl C.call) {k : Nat} : ∀ (f : Nat) (st : List Stmt) (c : List CS), trSs gl N k sc f st = some c → SimSs G C n N sc st c
  | 0, _, _, h => by unfold trSs at h; cases h
  | f + 1, [], c, h => by unfold trSs at h; cases h; exact ss_nil
  | f + 1, st :: r, c, h => by
    unfold trSs at h
    split at h
    · rename_i x y hx hy
      cases h
      exact ss_cons (trS_snd ok hc hn f st x hx) (trSs_snd ok hc hn f r y hy)
    · cases h
end
end
end NF

/-! NFCall: calls of the module's defs. -/
namespace NF
open PySem PySem.Spec PyProof.Rows L2
section
variable {G : Gc} {gl : Gm} {C : Ctx} {n : Nat} {N : List Str} {sc : Scope}

/-! ### what a call leaves -/
theorem prefix_take {ρ ρ' : List Addr} (p : ρ <+: ρ') : ρ'.take ρ.length = ρ := by
  obtain ⟨t, rfl⟩ := p
  simp
theorem rel_take {ρ ρ' : List Addr} {S S' : Store} {H H' : Hp} {e : Esc} (R : RelS G ρ S H) (R' : RelS G ρ' S' H') (st : Step ρ S H ρ' S' H' e) (he : ∀ k, e = some k → S.length ≤ k) :
    (∀ (i : Nat) (a : Addr) (o : SO), ρ[i]? = some a → S'[i]? = some o → OR G ρ H' a o) := by
  intro i a o h1 h2
  have hi : i < S.length := by rw [← R.len]; exact (List.getElem?_eq_some_iff.mp h1).1
  have q := R'.obj i a o (pre_get st.pre h1) h2
  rcases st.mono.old i o hi h2 with ⟨k, hk, hle⟩ | ⟨o', ho', hm⟩
  · have := he k hk
    omega
  · refine q.back st.pre ?_
    have := R.mr_le ho'
    rw [R.len]
    omega
theorem mono_take {S S' : Store} {e : Esc} (m : MonoS S S' e) (he : ∀ k, e = some k → S.length ≤ k) (T : List SO) : MonoS S (S'.take S.length ++ T) none := by
  refine ⟨?_, fun i o' hi h => ?_⟩
  · have := m.len
    rw [List.length_append, List.length_take]
    omega
  · have hl : i < (S'.take S.length).length := by
      have := m.len
      rw [List.length_take]
      omega
    rw [List.getElem?_append_left hl, List.getElem?_take_of_lt hi] at h
    rcases m.old i o' hi h with ⟨k, hk, hle⟩ | q
    · have := he k hk
      omega
    · exact .inr q
theorem rel_keep {ρ ρ' : List Addr} {S S' : Store} {H H' : Hp} {e : Esc} (R : RelS G ρ S H) (R' : RelS G ρ' S' H') (st : Step ρ S H ρ' S' H' e) (he : ∀ k, e = some k → S.length ≤ k) : RelS G ρ (S'.take S.length) H' := by
  have hl := st.mono.len
  refine ⟨by rw [R.len, List.length_take]; omega, R.inj, fun i a o h1 h2 => ?_⟩
  have hi : i < S.length := by rw [← R.len]; exact (List.getElem?_eq_some_iff.mp h1).1
  rw [List.getElem?_take_of_lt hi] at h2
  exact rel_take R R' st he i a o h1 h2
theorem step_keep {ρ ρ' : List Addr} {S S' : Store} {H H' : Hp} {e : Esc} (st : Step ρ S H ρ' S' H' e) (he : ∀ k, e = some k → S.length ≤ k) : Step ρ S H ρ (S'.take S.length) H' none := by
  refine ⟨List.prefix_refl _, st.keep, ?_, fun a u h n => ⟨(st.rest a u h n).1, n⟩⟩
  have := mono_take st.mono he []
  rwa [List.append_nil] at this
theorem step_none {ρ ρ' : List Addr} {S S' : Store} {H H' : Hp} {e : Esc} (st : Step ρ S H ρ' S' H' e) (he : ∀ k, e = some k → S.length ≤ k) : Step ρ S H ρ' S' H' none := by
  refine ⟨st.pre, st.keep, ⟨st.mono.len, fun i o' hi h => ?_⟩, st.rest⟩
  rcases st.mono.old i o' hi h with ⟨k, hk, hle⟩ | q
  · have := he k hk
    omega
  · exact .inr q
/-- one thing that was made is handed back -/
theorem rel_one {ρ ρ' : List Addr} {S S' : Store} {H H' : Hp} {e : Esc} {k : Nat} {a : Addr} {o : SO} (R : RelS G ρ S H) (R' : RelS G ρ' S' H') (st : Step ρ S H ρ' S' H' e) (he : ∀ k, e = some k → S.length ≤ k) (hk : ρ'[k]? = some a) (hle : S.length ≤ k) (hS : S'[k]? = some o)
    (hm : o.mr ≤ S.length) : RelS G (ρ ++ [a]) (S'.take S.length ++ [o]) H' ∧ Step ρ S H (ρ ++ [a]) (S'.take S.length ++ [o]) H' none := by
  have hl := st.mono.len
  have hlen := R.len
  have hta : (S'.take S.length).length = S.length := by rw [List.length_take]; omega
  have hnot : a ∉ ρ := fun m => by
    obtain ⟨i, hi⟩ := List.getElem?_of_mem m
    have e := nodup_get R'.inj (pre_get st.pre hi) hk
    have : i < ρ.length := (List.getElem?_eq_some_iff.mp hi).1
    omega
  have hpre : ρ <+: ρ ++ [a] := ⟨[a], rfl⟩
  refine ⟨⟨by simp only [List.length_append, List.length_cons, List.length_nil]; omega, ?_, fun i b ob h1 h2 => ?_⟩, ⟨hpre, st.keep, mono_take st.mono he [o], fun b u h n => ?_⟩⟩
  · rw [List.nodup_append]
    refine ⟨R.inj, by simp, fun x hx b hb => ?_⟩
    have : b = a := by simpa using hb
    subst this
    rintro rfl; exact hnot hx
  · by_cases hi : i < S.length
    · rw [List.getElem?_append_left (by omega), List.getElem?_take_of_lt hi] at h2
      rw [List.getElem?_append_left (by omega)] at h1
      exact (rel_take R R' st he i b ob h1 h2).at hpre (Keep.refl _) fun u hu => hu
    · rw [List.getElem?_append_right (by omega)] at h2
      rw [List.getElem?_append_right (by omega)] at h1
      have e : i = S.length := by
        have := (List.getElem?_eq_some_iff.mp h2).1
        simp at this; omega
      subst e
      rw [hlen] at h1
      rw [hta] at h2
      simp at h1 h2
      subst h1; subst h2
      have q := R'.obj k a o hk hS
      exact (q.back st.pre (by rw [R.len]; exact hm)).at hpre (Keep.refl _) fun u hu => hu
  · obtain ⟨q1, q2⟩ := st.rest b u h n
    refine ⟨q1, fun m => ?_⟩
    rcases List.mem_append.mp m with m | m
    · exact n m
    · have : b = a := by simpa using m
      subst this
      exact q2 (List.mem_of_getElem? hk)
theorem packed_mt {ρ ρ' : List Addr} {S S' : Store} {H H' : Hp} {e : Esc} {d : D} {v : V} {Q : VK} (R : RelS G ρ S H) (h : MtV G ρ S H (packed S.length d S' e) Q) (R' : RelS G ρ' S' H') (st : Step ρ S H ρ' S' H' e) (hv : VR G ρ' H' d v) : Q v H' := by
  unfold packed at h
  split at h
  · rename_i hesc
    have he : ∀ k, e = some k → S.length ≤ k := fun k hk => by subst hk; exact of_decide_eq_true hesc
    split at h
    · rename_i hm
      exact h ρ H' (rel_keep R R' st he) (step_keep st he) v (hv.back st.pre (by rw [R.len]; exact hm))
    · rename_i hm
      cases d with
      | ref k =>
        cases hv with
        | ref hk =>
          have hle : S.length ≤ k := by
            unfold D.mr at hm
            omega
          rename_i a
          have hlast : (ρ ++ [a])[S.length]? = some a := by
            rw [List.getElem?_append_right (by rw [R.len]; exact Nat.le_refl _), R.len]
            simp
          simp only at h
          split at h
          · rename_i xs hS
            split at h
            · rename_i hx
              obtain ⟨q1, q2⟩ := rel_one R R' st he hk hle hS hx
              exact h _ H' q1 q2 _ (.ref hlast)
            · exact h ρ' H' R' (step_none st he) _ (.ref hk)
          · rename_i kvs hS
            split at h
            · rename_i hx
              obtain ⟨q1, q2⟩ := rel_one R R' st he hk hle hS hx
              exact h _ H' q1 q2 _ (.ref hlast)
            · exact h ρ' H' R' (step_none st he) _ (.ref hk)
          · exact h ρ' H' R' (step_none st he) _ (.ref hk)
      | _ => exact h ρ' H' R' (step_none st he) _ hv
  · exact h ρ' H' R' st v hv

theorem back_mt {ρ : List Addr} {S : Store} {H : Hp} {r : SR} {Q : VK} (R : RelS G ρ S H) (h : MtV G ρ S H (r.back S.length) Q) : MtS G ρ S H r (SK.of { nx := fun _ H' => Q .non H', rt := Q }) := by
  cases r with
  | nx σ S' e => exact fun ρ' H' σ' R' st RE => packed_mt R h R' st .non
  | rt d S' e => exact fun ρ' H' R' st v hv => packed_mt R h R' st hv
  | bk σ S' e => exact h.elim
  | ct σ S' e => exact h.elim
  | exn x σ S' e => exact h.elim
  | stuck => exact h.elim

/-! ### the module's defs -/
structure FnDat (G : Gc) (gl : Gm) (f : Nat) (fd : FD) (name qual : Str) (params : Arguments) (body : List Stmt) (scope : Scope) (N : List Str) (K F : Nat) : Prop where
  fun_ : ∀ a, G.FA f a → ∃ dvs kws fdata, FunD G.K name qual params body scope dvs kws a fdata
  sc : FnScope N (gl.ps f) scope
  tr : trSs gl N K scope F body = some fd.body
  slots : fd.slots = N.length
  np : fd.np = (gl.ps f).length
def ProgOk (G : Gc) (gl : Gm) (P : Nat → Option FD) : Prop := ∀ f fd, P f = some fd → ∃ name qual params body scope N K F, FnDat G gl f fd name qual params body scope N K F
theorem Rm.deeper {n : Nat} {A : Around} (r : Rm (n + 1) A) (env : Env) : Rm n (A.deeper env) :=
  ⟨r.hd, by have := r.dp; show A.depth + 1 + n + 3 < _; omega, by have := r.un; show A.units + 3 + 3 * n + 1800 < _; omega⟩
theorem rel_start {ρ : List Addr} {H : Hp} {fd : FD} {ds : List D} {vs : List V} {N : List Str} (h : VRs G ρ H ds vs) (hs : fd.slots = N.length) : RelE G ρ H (start fd ds) (L2.start N vs) := by
  have hl := h.length
  refine ⟨by simp [NF.start, L2.start, hs, hl], fun i d e => ?_⟩
  unfold NF.start at e
  unfold L2.start
  by_cases hi : i < ds.length
  · rw [List.getElem?_append_left (by simpa using hi), List.getElem?_map, Option.map_eq_some_iff] at e
    obtain ⟨d', hd, e⟩ := e
    cases e
    obtain ⟨v, hv, rv⟩ := h.get hd
    refine ⟨v, ?_, rv⟩
    rw [List.getElem?_append_left (by simpa [← hl] using hi), List.getElem?_map, hv]
    rfl
  · rw [List.getElem?_append_right (by simpa using hi), List.getElem?_replicate] at e
    split at e <;> cases e
theorem run_argN {P : Nat → Option FD} {L : Nat} (hP : ProgOk G gl P) (n : Nat) : ArgN gl (run P L n) := by
  intro f ws S hl
  cases n with
  | zero => rfl
  | succ n =>
    unfold run
    cases e : P f with
    | none => rfl
    | some fd =>
      obtain ⟨name, qual, params, body, scope, N, K, F, D⟩ := hP f fd e
      simp only
      rw [if_neg]
      rintro ⟨h1, h2⟩
      exact hl (by rw [h1, D.np])
/-- one call, from the state around it -/
theorem call_env (ok : GlOk G gl) {P : Nat → Option FD} {L : Nat} (hP : ProgOk G gl P) (hok : GOk G) {n : Nat} (ih : CallSnd G gl n (run P L n)) {A : Around} {outer : List Env} {s : Shared} {σ : L2.St} {H : Hp} {ρ : List Addr} {S : Store} {f : Nat} {a : Addr} {fd : FuncData} {ws : List D} {vs : List V} {Q : VK} {args : Args} {us : List Value}
    (rm : Rm (n + 1) A) (hfa : G.FA f a) (hfd : FdAt G a fd) (e0 : Env0 G.prog G.w G.K G.mg G.base A outer s H) (R : RelS G ρ S H) (hv : VRs G ρ H ws vs) (ru : Vals vs us) (hb : BindsTo s fd args ((gl.ps f).zip us)) (h : MtV G ρ S H (run P L (n + 1) f ws S) Q) :
    codeAny (model G.prog G.w) A (.call (.ref a) args) (fun r s' => match r with
      | .ok (.ret u) => L2.CE outer G.prog G.w H s Q u s'
      | _ => False) s := by
  unfold run at h
  split at h
  case h_2 => exact h.elim
  rename_i fd' hf
  split at h
  case isFalse => exact h.elim
  rename_i hlen
  obtain ⟨name, qual, params, body, scope, N, K, F, Dt⟩ := hP f fd' hf
  obtain ⟨dvs, kws, fdata, FD⟩ := Dt.fun_ a hfa
  obtain ⟨oc, od, dV, kV, doc, pm, an, cdv, ct, osl, rfl, lk, hcd, _, _⟩ := FD.ex
  obtain ⟨o, lo, hd⟩ := hfd
  rw [lk] at lo
  cases lo
  cases hd
  have S0 := Dt.sc
  have KX : G.K.In s.heap := e0.mod.kin.keeps fun b o e => (e0.bs b o e).1
  have lim : s.heap.NoLimit := e0.mod.nolimit.keeps fun b o e => (e0.bs b o e).1
  have hl : vs.length = (gl.ps f).length := by rw [← hv.length, hlen.1, Dt.np]
  have hkind : ∀ y ∈ (gl.ps f).zip us, scope.names.lookup y.1 = some .local ∨ (scope.names.lookup y.1 = some .cell ∧ ((cellsFrom (s.heap.objs.size + 1) scope.names []).lookup y.1).isSome = true) := fun ⟨n, v⟩ hy => by
    rcases S0.par n (List.of_mem_zip hy).1 with q | q
    · exact .inl q
    · exact .inr ⟨q, PySem.W.cellsFrom_some _ _ _ (.inl q)⟩
  have hdep : A.depth < recursionLimit := by have := rm.dp; omega
  refine codeAny_call_function hdep (KX _ _ lk) rfl S0.co S0.gen rfl (PySem.W.codeRec_of KX hcd) (hb _ _ _ _ ?_)
  refine wpAny_newFunctionEnv_cells S0.kind hkind fun env he s1 x => ?_
  subst he
  refine ⟨lim.keeps x.toInCall.keep, codeAny_func ?_⟩
  have I1 : Inv (cxOf (fun _ _ _ _ _ _ => False) G.prog G.w G.K G.mg G.base N qual scope a cdv A outer s H (fun _ _ _ => False)) [] (L2.start N vs) H s1 := inv_start S0 rm.hd e0 hl ru x
  have cd : Cd G N scope n (cxOf (fun _ _ _ _ _ _ => False) G.prog G.w G.K G.mg G.base N qual scope a cdv A outer s H (fun _ _ _ => False)).nox :=
    { K := rfl, prog := rfl, w := rfl, mg := rfl, base := rfl, calm := rfl, rm := rm.deeper _, xe := rfl, ok := hok, hN := rfl, sc := rfl, nd := S0.nd, fn := fun _ => rfl }
  have body' := trSs_snd (C := ⟨run P L n, L⟩) ok ih (run_argN hP n) F body fd'.body Dt.tr _ cd ρ S H (start fd' ws) (L2.start N vs) R (rel_start hv Dt.slots) _ (back_mt R h)
  refine wpAny_mono ((pss_sem _ body).nox.run [] s1 (L2.start N vs) H _ I1 body') (fun fl s' hs => ?_) fun e s' hs => ?_
  · cases fl with
    | ret u =>
      obtain ⟨v, σ', H', J, rv, q⟩ := hs
      exact ⟨v, H', J.os, J.bare, J.base, J.hok, rv, q⟩
    | next =>
      obtain ⟨σ', H', J, q⟩ := hs
      exact ⟨.non, H', J.os, J.bare, J.base, J.hok, rfl, q⟩
    | brk =>
      obtain ⟨_, _, _, q⟩ := hs
      exact False.elim q
    | cont =>
      obtain ⟨_, _, _, q⟩ := hs
      exact False.elim q
  · exact hs
theorem run_snd (ok : GlOk G gl) {P : Nat → Option FD} {L : Nat} (hP : ProgOk G gl P) : ∀ n, CallSnd G gl n (run P L n)
  | 0 => by
    intro X cb pins s σ H ρ S f a fd ws vs Q args us hfa hfd I R hv ru hb h
    exact h.elim
  | n + 1 => by
    intro X cb pins s σ H ρ S f a fd ws vs Q args us hfa hfd I R hv ru hb h
    have e0 := I.env0
    rw [cb.K, cb.prog, cb.w, cb.mg, cb.base] at e0
    have c := call_env (σ := σ) ok hP cb.ok (run_snd ok (L := L) hP n) cb.rm hfa hfd e0 R hv ru hb h
    rw [← cb.prog, ← cb.w] at c
    refine wpAny_call (codeAny_mono c fun r s' hq => ?_)
    cases r with
    | error e => exact hq.elim
    | ok fl =>
      cases fl with
      | ret u => exact I.after hq
      | next => exact False.elim hq
      | brk => exact False.elim hq
      | cont => exact False.elim hq
end
end NF

/-! NFTop: the end of a law: what the top leaves, the evaluator's answer. -/
namespace NF
open PySem PySem.Spec PyProof.Rows L2

/-! ### the module's constants -/
mutual
def conB (K : PySem.W.Frag) : D → Value → Bool
  | .non, u => decide (u = .none)
  | .bl b, u => decide (u = .bool b)
  | .int i, u => (match u with
    | .int j _ => decide (i = j)
    | _ => false)
  | .str s, u => (match u with
    | .str y _ => decide (s = y.cps.toList)
    | _ => false)
  | .ty t, u => decide (u = .type t)
  | .tup ds, u => (match u with
    | .ref a => (match K.lookup a with
      | some ⟨.type c, _, .seq its _, _⟩ => decide (c = "tuple") && (decide (its.size ≤ sizeLine) && consB K ds its.toList)
      | _ => false)
    | _ => false)
  | .cl ds, u => (match u with
    | .ref a => (match K.lookup a with
      | some ⟨.type c, none, .seq its _, _⟩ => decide (c = "list") && (decide (its.size ≤ sizeLine) && consB K ds its.toList)
      | _ => false)
    | _ => false)
  | .ref _, _ => false
  | .fn _, _ => false
def consB (K : PySem.W.Frag) : List D → List Value → Bool
  | [], [] => true
  | d :: ds, u :: us => conB K d u && consB K ds us
  | [], _ :: _ => false
  | _ :: _, [] => false
end
theorem band {a b : Bool} (h : (a && b) = true) : a = true ∧ b = true := Bool.and_eq_true_iff.mp h
section
variable {G : Gc}
mutual
theorem conB_ok : ∀ {d : D} {u : Value}, conB G.K d u = true → ∃ v, RelV v u ∧ VR G [] (fun _ => none) d v
  | .non, u, h => by
    unfold conB at h
    have e := of_decide_eq_true h
    subst e
    exact ⟨.non, rfl, .non⟩
  | .bl b, u, h => by
    unfold conB at h
    have e := of_decide_eq_true h
    subst e
    exact ⟨.bl b, rfl, .bl b⟩
  | .int i, u, h => by
    unfold conB at h
    split at h
    · have e := of_decide_eq_true h
      subst e
      exact ⟨.int _, ⟨_, rfl⟩, .int _⟩
    · cases h
  | .str s, u, h => by
    unfold conB at h
    split at h
    · have e := of_decide_eq_true h
      subst e
      rename_i y t
      exact ⟨.str ⟨y.cps.toList.toArray⟩, ⟨t, by simp⟩, .str _⟩
    · cases h
  | .ty t, u, h => by
    unfold conB at h
    have e := of_decide_eq_true h
    subst e
    exact ⟨.ty t, rfl, .ty t⟩
  | .tup ds, u, h => by
    unfold conB at h
    split at h
    · rename_i a
      split at h
      · rename_i c od its n osl q
        obtain ⟨h1, h2⟩ := band h
        obtain ⟨h2, h3⟩ := band h2
        obtain ⟨vs, r1, r2⟩ := consB_ok h3
        exact ⟨.ref a, rfl, .tup (.inr ⟨_, its, n, q, congrArg Value.type (of_decide_eq_true h1), rfl, of_decide_eq_true h2, r1⟩) r2⟩
      · cases h
    · cases h
  | .cl ds, u, h => by
    unfold conB at h
    split at h
    · rename_i a
      split at h
      · rename_i c its n osl q
        obtain ⟨h1, h2⟩ := band h
        obtain ⟨h2, h3⟩ := band h2
        obtain ⟨vs, r1, r2⟩ := consB_ok h3
        exact ⟨.ref a, rfl, .cl (.inr ⟨_, its, n, q, congrArg Value.type (of_decide_eq_true h1), rfl, rfl, of_decide_eq_true h2, r1⟩) r2⟩
      · cases h
    · cases h
  | .ref _, u, h => by unfold conB at h; cases h
  | .fn _, u, h => by unfold conB at h; cases h
theorem consB_ok : ∀ {d : List D} {u : List Value}, consB G.K d u = true → ∃ v, Vals v u ∧ VRs G [] (fun _ => none) d v
  | [], [], _ => ⟨[], .nil, .nil⟩
  | d :: ds, u :: us, h => by
    unfold consB at h
    obtain ⟨h1, h2⟩ := band h
    obtain ⟨v, r1, r2⟩ := conB_ok h1
    obtain ⟨vs, r3, r4⟩ := consB_ok h2
    exact ⟨v :: vs, .cons r1 r3, .cons r2 r4⟩
  | [], _ :: _, h => by unfold consB at h; cases h
  | _ :: _, [], h => by unfold consB at h; cases h
end
end

/-! ### the table of a law's text -/
structure TRow where
  d : He.DefD
  N : List Str
  ps : List Str
  fd : FD
def tblD (T : List TRow) : List He.DefD := T.map TRow.d
def tblP (T : List TRow) (f : Nat) : Option FD := (T[f]?).map (·.fd)
def tblPs (T : List TRow) (f : Nat) : List Str := ((T[f]?).map (·.ps)).getD []
/-- a row keeps its word -/
structure RowOk (gl : Gm) (r : TRow) : Prop where
  sc : FnScope r.N r.ps r.d.scope
  tr : trSs gl r.N 60 r.d.scope 400 r.d.body = some r.fd.body := by rfl
  slots : r.fd.slots = r.N.length
  np : r.fd.np = r.ps.length
def chkN (T : List TRow) (gl : Gm) (K : PySem.W.Frag) : Bool :=
  (gl.fns.all fun p => match T[p.2]? with
    | some r => decide (r.d.at_ = (p.1, none)) && (He.Fa.glo p.1).ok K
    | none => false) &&
  ((gl.free.all fun x => (He.Fa.free x).ok K) &&
  ((gl.cons.all fun p => match PySem.W.nsIn K mainGlobals p.1 with
    | some (some u) => conB K p.2 u
    | _ => false) && decide (T.map fun r => He.fAd K r.d.at_).Nodup))
def obsN (T : List TRow) (gl : Gm) (K : PySem.W.Frag) : He.AlD := (((He.obsD [] (tblD T) K).1 && chkN T gl K), (He.obsD [] (tblD T) K).2)
def SaysN (T : List TRow) (gl : Gm) (K : PySem.W.Frag) : Prop := obsN T gl K = He.valD (tblD T)
def obsNG (n : Nat) (T : List TRow) (gl : Gm) (g : Addr → Option Obj) : He.AlD := obsN T gl (He.frG g (He.asD g n))
def hookN (n : Nat) (T : List TRow) (gl : Gm) : PySem.W.Hook where
  α := He.AlD
  obs := fun s => obsNG n T gl s.heap.get?
  val := fun _ => He.valD (tblD T)
  says := fun _ h => ∃ K : PySem.W.Frag, K.In h ∧ SaysN T gl K
  of := fun _ _ e => ⟨_, He.frG_in, e⟩
  keeps := fun _ _ _ ⟨K, hK, c⟩ k => ⟨K, PySem.W.Frag.In.keeps hK k, c⟩
theorem obsNG_eq {n : Nat} {T : List TRow} {gl : Gm} {g : Addr → Option Obj} {s : Shared} (h : ∀ a, g a = s.heap.get? a) : obsNG n T gl g = (hookN n T gl).obs s := by
  have e : g = s.heap.get? := funext h
  rw [e] <;> rfl
def gcOf (T : List TRow) (K : PySem.W.Frag) (P : Program) (w : World) (mg : Str → Option Value) (base : Heap) : Gc where
  K := K
  FA := fun f a => ∃ r, T[f]? = some r ∧ a = He.fAd K r.d.at_
  prog := P
  w := w
  mg := mg
  base := base
section
variable {T : List TRow} {gl : Gm} {K : PySem.W.Frag}
theorem SaysN.parts (c : SaysN T gl K) : He.SaysD [] (tblD T) K ∧ chkN T gl K = true := by
  have c' : obsN T gl K = He.valD (tblD T) := c
  have e1 : ((He.obsD [] (tblD T) K).1 && chkN T gl K) = true := by
    have := congrArg (fun z : He.AlD => z.1) c'
    exact this
  have e2 : (He.obsD [] (tblD T) K).2 = (He.valD (tblD T)).2 := by
    have := congrArg (fun z : He.AlD => z.2) c'
    exact this
  obtain ⟨h1, h2⟩ := band e1
  exact ⟨Prod.ext h1 e2, h2⟩
theorem SaysN.def_ (c : SaysN T gl K) {f : Nat} {r : TRow} (h : T[f]? = some r) : ∃ fd, FunD K r.d.name r.d.qual r.d.params r.d.body r.d.scope (r.d.dvs K) (r.d.kws K) (He.fAd K r.d.at_) fd :=
  He.SaysD.def_ c.parts.1 f (d := r.d) (by unfold tblD; rw [List.getElem?_map, h]; rfl)
theorem SaysN.gok (c : SaysN T gl K) {P : Program} {w : World} {mg : Str → Option Value} {base : Heap} : GOk (gcOf T K P w mg base) := by
  have h := c.parts.2
  unfold chkN at h
  obtain ⟨_, h⟩ := band h
  obtain ⟨_, h⟩ := band h
  obtain ⟨_, h⟩ := band h
  have nd := of_decide_eq_true h
  refine ⟨fun f g a ⟨r, h1, e1⟩ ⟨r2, h2, e2⟩ => ?_, fun f a ⟨r, h1, e1⟩ => ?_⟩
  · refine nodup_get nd (i := f) (j := g) (a := a) ?_ ?_
    · rw [List.getElem?_map, h1, e1]; rfl
    · rw [List.getElem?_map, h2, e2]; rfl
  · obtain ⟨fd, F⟩ := c.def_ h1
    obtain ⟨oc, od, dV, kV, doc, pm, an, cdv, ct, osl, e, lk, _⟩ := F.ex
    exact ⟨_, fd, by rw [e1]; exact lk, rfl⟩
/-- how the calls of the text bind their arguments -/
def ShapesOk (T : List TRow) (gl : Gm) (K : PySem.W.Frag) : Prop := ∀ (P : Program) (w : World) (mg : Str → Option Value) (base : Heap), (∀ f n ks sel, lookD (f, n, ks) gl.shapes = some sel → ShapeOk (gcOf T K P w mg base) gl f n ks sel) ∧ PlainOk (gcOf T K P w mg base) gl
theorem SaysN.glOk (c : SaysN T gl K) {P : Program} {w : World} {mg : Str → Option Value} {base h : Heap} (X : K.In h) (Gn : h.Ns mainGlobals mg) (sh : ShapesOk T gl K) : GlOk (gcOf T K P w mg base) gl := by
  have hc := c.parts.2
  unfold chkN at hc
  obtain ⟨h1, hc⟩ := band hc
  obtain ⟨h2, hc⟩ := band hc
  obtain ⟨h3, _⟩ := band hc
  refine ⟨fun x i e => ?_, fun i a ⟨r, e, q⟩ => ?_, fun i a ⟨r, e, q⟩ => ?_, fun x d e => ?_, fun x e => ?_, (sh P w mg base).1, (sh P w mg base).2⟩
  · have m := PySem.mem_of_lookup e
    have q := List.all_eq_true.mp h1 _ m
    simp only at q
    split at q
    · rename_i r hr
      obtain ⟨q1, q2⟩ := band q
      have e1 := of_decide_eq_true q1
      refine ⟨He.ga K x, He.glo_ok X Gn q2, r, hr, ?_⟩
      rw [e1]
      rfl
    · cases q
  · obtain ⟨fd, F⟩ := c.def_ e
    rw [q]
    exact F.kp
  · obtain ⟨fd, F⟩ := c.def_ e
    obtain ⟨oc, od, dV, kV, doc, pm, an, cdv, ct, osl, e', lk, _⟩ := F.ex
    exact ⟨fd, _, by rw [q]; exact lk, rfl⟩
  · have m := PySem.mem_of_lookup e
    have q := List.all_eq_true.mp h3 _ m
    simp only at q
    split at q
    · rename_i u hu
      obtain ⟨v, r1, r2⟩ := conB_ok (G := gcOf T K P w mg base) q
      exact ⟨u, v, PySem.W.mg_of X Gn hu, r1, r2⟩
    · cases q
  · have m : x ∈ gl.free := List.contains_iff_mem.mp e
    exact He.free_ok X Gn (List.all_eq_true.mp h2 x m)
theorem SaysN.progOk (c : SaysN T gl K) {P : Program} {w : World} {mg : Str → Option Value} {base : Heap} (hps : gl.ps = tblPs T) (rows : ∀ r ∈ T, RowOk gl r) : ProgOk (gcOf T K P w mg base) gl (tblP T) := by
  intro f fd hf
  unfold tblP at hf
  rw [Option.map_eq_some_iff] at hf
  obtain ⟨r, hr, rfl⟩ := hf
  have ro := rows r (List.mem_of_getElem? hr)
  have ep : gl.ps f = r.ps := by rw [hps]; unfold tblPs; rw [hr]; rfl
  refine ⟨r.d.name, r.d.qual, r.d.params, r.d.body, r.d.scope, r.N, 60, 400, ⟨fun a ⟨r2, h2, e2⟩ => ?_, by rw [ep]; exact ro.sc, ro.tr, ro.slots, by rw [ep]; exact ro.np⟩⟩
  rw [hr] at h2
  cases h2
  obtain ⟨fdata, F⟩ := c.def_ hr
  exact ⟨_, _, fdata, by rw [e2]; exact F⟩
end

/-! ### how arguments are bound -/
structure PlainRow (r : TRow) : Prop where
  dfl : r.d.dfl = []
  all : ∀ (kV doc pm : Value) (an : Option Addr) (cdv ct : Value) (us : List Value), us.length = r.ps.length → bindArgs (PySem.W.fnOf r.d.name r.d.qual r.d.params r.d.body r.d.scope .none kV doc pm an cdv ct) ⟨us, []⟩ = pure (r.ps.zip us)
structure ShapeRow (r : TRow) (n : Nat) (ks : List Str) (ix : List Nat) : Prop where
  dfl : r.d.dfl = []
  all : ∀ (kV doc pm : Value) (an : Option Addr) (cdv ct : Value) (us ws : List Value), us.length = n → ws.length = ks.length →
    bindArgs (PySem.W.fnOf r.d.name r.d.qual r.d.params r.d.body r.d.scope .none kV doc pm an cdv ct) ⟨us, ks.zip ws⟩ = pure (r.ps.zip (ix.map fun i => (us ++ ws).getD i .none))
def ShapesAre (T : List TRow) (l : List ((Nat × Nat × List Str) × List (Sum Nat D))) : Prop := ∀ f n ks sel, ((f, n, ks), sel) ∈ l → ∃ r ix, T[f]? = some r ∧ sel = ix.map Sum.inl ∧ ShapeRow r n ks ix
theorem dv_none {K : PySem.W.Frag} {r : TRow} (h : r.d.dfl = []) {fd : FuncData} {f : Addr} (F : FunD K r.d.name r.d.qual r.d.params r.d.body r.d.scope (r.d.dvs K) (r.d.kws K) f fd) :
    ∃ kV doc pm an cdv ct, fd = PySem.W.fnOf r.d.name r.d.qual r.d.params r.d.body r.d.scope .none kV doc pm an cdv ct := by
  obtain ⟨oc, od, dV, kV, doc, pm, an, cdv, ct, osl, e, lk, hcd, hD, _⟩ := F.ex
  have edv : r.d.dvs K = [] := by unfold He.DefD.dvs; rw [h]; rfl
  rw [edv] at hD
  rcases hD with ⟨_, rfl⟩ | ⟨q, _⟩
  · exact ⟨kV, doc, pm, an, cdv, ct, e⟩
  · exact absurd rfl q
theorem sel_vrs {G : Gc} {ρ : List Addr} {H : Hp} {ds : List D} {vs : List V} {us : List Value} (hv : VRs G ρ H ds vs) (hu : Vals vs us) : ∀ {ix : List Nat} {es : List D}, selArgs ds (ix.map Sum.inl) = some es → ∃ vs', VRs G ρ H es vs' ∧ Vals vs' (ix.map fun i => us.getD i .none)
  | [], es, h => by
    simp only [List.map_nil, selArgs, Option.some.injEq] at h
    subst h
    exact ⟨[], .nil, .nil⟩
  | i :: ix, es, h => by
    simp only [List.map_cons, selArgs] at h
    split at h
    · rename_i d w e1 e2
      cases h
      obtain ⟨v, hv1, hr⟩ := hv.get e1
      obtain ⟨u, hu1, ru⟩ := hu.get hv1
      obtain ⟨vs', r1, r2⟩ := sel_vrs hv hu e2
      refine ⟨v :: vs', .cons hr r1, ?_⟩
      simp only [List.map_cons]
      refine .cons ?_ r2
      rw [List.getD_eq_getElem?_getD, hu1]
      exact ru
    · cases h
theorem shapes_ok {T : List TRow} {gl : Gm} {K : PySem.W.Frag} (c : SaysN T gl K) (sh : ShapesAre T gl.shapes) (pl : ∀ r ∈ T, PlainRow r) (hps : gl.ps = tblPs T) : ShapesOk T gl K := by
  intro P w mg base
  have ep : ∀ {f : Nat} {r : TRow}, T[f]? = some r → gl.ps f = r.ps := fun {f r} h => by rw [hps]; unfold tblPs; rw [h]; rfl
  have fdEq : ∀ {f : Nat} {r : TRow} {a : Addr} {fd : FuncData}, T[f]? = some r → (gcOf T K P w mg base).FA f a → FdAt (gcOf T K P w mg base) a fd → FunD K r.d.name r.d.qual r.d.params r.d.body r.d.scope (r.d.dvs K) (r.d.kws K) (He.fAd K r.d.at_) fd := by
    rintro f r a fd h ⟨r2, h2, rfl⟩ ⟨o, lo, hd⟩
    rw [h] at h2
    cases h2
    obtain ⟨fd', F⟩ := c.def_ h
    have F' := F
    obtain ⟨oc, od, dV, kV, doc, pm, an, cdv, ct, osl, e, lk, _⟩ := F'.ex
    have lo : K.lookup (He.fAd K r.d.at_) = some o := lo
    rw [lk] at lo
    cases lo
    cases hd
    exact F
  refine ⟨fun f n ks sel h => ?_, fun f a fd hfa hfd s us hk hl => ?_⟩
  · obtain ⟨r, ix, hr, rfl, sr⟩ := sh f n ks sel (lookD_mem h)
    intro a fd hfa hfd s us ws hk h1 h2
    obtain ⟨kV, doc, pm, an, cdv, ct, rfl⟩ := dv_none sr.dfl (fdEq hr hfa hfd)
    refine ⟨ix.map fun i => (us ++ ws).getD i .none, ?_, fun ρ H ds es vs hv hu he => sel_vrs hv hu he⟩
    rw [ep hr]
    exact .of_eq (sr.all kV doc pm an cdv ct us ws h1 h2)
  · have hfa' := hfa
    obtain ⟨r, hr, _⟩ := hfa'
    have pr := pl r (List.mem_of_getElem? hr)
    obtain ⟨kV, doc, pm, an, cdv, ct, rfl⟩ := dv_none pr.dfl (fdEq hr hfa hfd)
    rw [ep hr] at hl ⊢
    exact .of_eq (pr.all kV doc pm an cdv ct us hl)

/-! ### the law -/
def intsD' (ns : List Int) : List D := ns.map .int
theorem vrs_ints {G : Gc} {ρ : List Addr} {H : Hp} : ∀ ns : List Int, VRs G ρ H (ns.map D.int) (ns.map V.int)
  | [] => .nil
  | n :: ns => .cons (.int n) (vrs_ints ns)
/-- what a law promises -/
def spN (n : Nat) (K : PySem.W.Frag) : Sp := fun vs H Q _ => ∃ (a : Addr) (ns : List Int), vs = [.ref a] ∧ SqL K H a (ns.map V.int) ∧ Only H ∧ ns.length ≤ n ∧ (∀ z ∈ ns, Builtin.Int.intBits z ≤ 1048576) ∧ ∀ H', Q (.bl true) H'
theorem fnok_law {T : List TRow} {gl : Gm} {K : PySem.W.Frag} {P : Program} {w : World} {mg : Str → Option Value} {base : Heap} {L n i : Nat} {x : Str} {r : TRow} (c : SaysN T gl K) (X : K.In base) (Gn : base.Ns mainGlobals mg) (sh : ShapesOk T gl K) (hps : gl.ps = tblPs T) (rows : ∀ r ∈ T, RowOk gl r)
    (hi : T[i]? = some r) (hx : r.ps = [x]) {fd : FuncData} (F : FunD K r.d.name r.d.qual r.d.params r.d.body r.d.scope (r.d.dvs K) (r.d.kws K) (He.fAd K r.d.at_) fd)
    (law : ∀ ns : List Int, ns.length ≤ n → (∀ z ∈ ns, Builtin.Int.intBits z ≤ 1048576) → ∃ S e, run (tblP T) L 690 i [.cl (ns.map .int)] [] = .ok (.bl true) S e) :
    FnOk P w K mg base CX0 230 (He.fAd K r.d.at_) fd [x] (spN n K) := by
  refine ⟨fun vs H Q E ⟨a, ns, e, _⟩ => by rw [e]; rfl, fun A outer s H args us vs Q E hr e0 hb rv hsp => ?_⟩
  obtain ⟨a, ns, rfl, hS, hO, hl, hbits, hQ⟩ := hsp
  obtain ⟨S, e, hrun⟩ := law ns hl hbits
  have ok := c.glOk (P := P) (w := w) (base := base) X Gn sh
  have hP := c.progOk (P := P) (w := w) (mg := mg) (base := base) hps rows
  have ro : RoAt K H a (ns.map V.int) := by
    rcases hS with (h | h) | h
    · rcases hO a with q | ⟨o, xs, q⟩
      · rw [q] at h; cases h
      · rw [q] at h; cases h
    · exact .inl h
    · exact .inr h
  have rm : Rm 690 A := ⟨hr.hd, by have := hr.dp; unfold recursionLimit at this ⊢; omega, by have := hr.un; unfold cLine at this ⊢; omega⟩
  have ep : gl.ps i = [x] := by rw [hps]; unfold tblPs; rw [hi]; exact hx
  have hfd : FdAt (gcOf T K P w mg base) (He.fAd K r.d.at_) fd := by
    obtain ⟨oc, od, dV, kV, doc, pm, an, cdv, ct, osl, e', lk, _⟩ := F.ex
    exact ⟨_, lk, rfl⟩
  have cl := call_env (G := gcOf T K P w mg base) (σ := []) (ρ := []) (S := []) (ws := [.cl (ns.map .int)]) (Q := Q) ok hP c.gok (run_snd ok (L := L) hP 689) rm ⟨r, hi, rfl⟩ hfd e0 ⟨rfl, List.nodup_nil, fun i a o h => by simp at h⟩ (.cons (.cl ro (vrs_ints ns)) .nil) rv (by rw [ep]; exact hb) (by
    rw [hrun]
    intro ρ' H' R' st v hv
    cases hv
    exact hQ H')
  refine codeAny_mono cl fun r s' hq => ?_
  cases r with
  | error e => exact hq.elim
  | ok fl =>
    cases fl with
    | ret u => exact hq
    | next => exact hq.elim
    | brk => exact hq.elim
    | cont => exact hq.elim
/-- THE END of a law -/
theorem law_end {l : PySem.W.OpenLaw} {n m i L : Nat} {q : Program} {loose : List Str} {XP : (Str → Option Value) → Heap → Prop} {d : DefRec} {x : Str} {T : List TRow} {gl : Gm} {r : TRow}
    (hn : l.most = some n) (hn2 : n ≤ sizeLine) (hdf : d.params.defaults = []) (hname : r.d.at_ = (d.name, none)) (hglo : gl.fns.lookup d.name = some i) (hi : T[i]? = some r) (hx : r.ps = [x]) (hdv : r.d.dfl = []) (hkw : r.d.kwd = [])
    (hb : ∀ (kV doc pm : Value) (an : Option Addr) (cdv ct u : Value), bindArgs (PySem.W.fnOf r.d.name r.d.qual r.d.params r.d.body r.d.scope .none kV doc pm an cdv ct) ⟨[u], []⟩ = pure [(x, u)])
    (sh : ∀ K, SaysN T gl K → ShapesOk T gl K) (hps : gl.ps = tblPs T) (rows : ∀ r ∈ T, RowOk gl r)
    (law : ∀ ns : List Int, ns.length ≤ n → (∀ z ∈ ns, Builtin.Int.intBits z ≤ 1048576) → ∃ S e, run (tblP T) L 690 i [.cl (ns.map .int)] [] = .ok (.bl true) S e) :
    PySem.W.WalkO q loose XP (hookN m T gl).says l.row.toRowW d [] (fun f vs => PySem.call f vs) := by
  refine Att.attach_callB hn hdf fun w s₀ s₁ mg mb fa o pm cd doc a vs ns Gr Y ho hd hcd hmg hobj hints hlen hbits hg => ?_
  obtain ⟨K, KX, c⟩ := Y
  obtain ⟨fd, F⟩ := c.def_ hi
  have hfa : fa = He.fAd K r.d.at_ := by
    have ok := c.glOk (P := l.prog) (w := w) (base := s₁.heap) KX Gr.T.g (sh K c)
    obtain ⟨b, h1, r2, h2, e2⟩ := ok.fn d.name i hglo
    rw [hi] at h2
    cases h2
    have h1 : mg d.name = some (.ref b) := h1
    rw [hmg] at h1
    cases h1
    exact e2
  subst hfa
  have edv : r.d.dvs K = [] := by unfold He.DefD.dvs; rw [hdv]; rfl
  have hbind : ∀ (s : Shared) (u : Value), BindsTo s fd ⟨[u], []⟩ [(x, u)] := fun s u => by
    have F' := F
    rw [edv] at F'
    have := F'.bindsA (ps := [x]) (fun kV doc pm an cdv ct us hl => by
      match us, hl with
      | [u], _ => exact hb kV doc pm an cdv ct u) s [u] rfl
    exact this
  exact law_call (sp := spN n K) KX Gr.T.g Gr.T.b Gr.T.builtins Gr.T.nolimit hg hobj hints (Nat.le_trans hlen hn2) (k := 230) ⟨rfl, by decide, by decide⟩ (fun base hK hG => fnok_law (L := L) c hK hG (sh K c) hps rows hi hx F law) hbind (fun H hO hS => ⟨a, ns, rfl, hS, hO, hlen, hbits, fun _ => rfl⟩) fun H e s' h => h.elim
end NF

/-! NFEv: laws of the evaluator. -/
namespace NF
open PySem L2

/-- r ends well, nothing older got a younger name -/
def Pst {α : Type} (r : Res α) (Φ : α → Store → Prop) : Prop := match r with
  | .ok a S none => Φ a S
  | _ => False
def PstS (r : SR) (nx : Envr → Store → Prop) (rt : D → Store → Prop) : Prop := match r with
  | .nx σ S none => nx σ S
  | .rt d S none => rt d S
  | _ => False
section
variable {α β : Type}
theorem Pst.ok_ {a : α} {S : Store} {Φ : α → Store → Prop} : Pst (.ok a S none) Φ ↔ Φ a S := Iff.rfl
theorem Pst.mono {r : Res α} {Φ Ψ : α → Store → Prop} (h : Pst r Φ) (k : ∀ a S, Φ a S → Ψ a S) : Pst r Ψ := by
  unfold Pst at h ⊢
  split at h
  · exact k _ _ h
  · exact h.elim
theorem Pst.ex {r : Res α} {Φ : α → Store → Prop} (h : Pst r Φ) : ∃ a S, r = .ok a S none ∧ Φ a S := by
  unfold Pst at h
  split at h
  · exact ⟨_, _, rfl, h⟩
  · exact h.elim
theorem emin_eq_none {a b : Esc} : emin a b = none ↔ a = none ∧ b = none := by
  cases a <;> cases b <;> simp [emin]
theorem Pst.note {r : Res α} {e : Nat} {Φ : α → Store → Prop} : ¬ Pst (r.note (some e)) Φ := by
  cases r with
  | ok a S e' => cases e' <;> exact fun h => h
  | exn => exact fun h => h
  | stuck => exact fun h => h
theorem Pst.note0 {r : Res α} : r.note none = r := by
  cases r with
  | ok a S e' => cases e' <;> rfl
  | exn x S e' => cases e' <;> rfl
  | stuck => rfl
theorem Pst.bind_ {r : Res α} {f : α → Store → Res β} {Φ : β → Store → Prop} : Pst (r.bind f) Φ ↔ Pst r fun a S => Pst (f a S) Φ := by
  cases r with
  | ok a S e =>
    cases e with
    | none =>
      show Pst ((f a S).note none) Φ ↔ _
      rw [Pst.note0]
      exact Iff.rfl
    | some e => exact ⟨fun h => (Pst.note h).elim, fun h => h.elim⟩
  | exn => exact Iff.rfl
  | stuck => exact Iff.rfl
theorem PstS.note0 {r : SR} : r.note none = r := by
  cases r <;> simp [SR.note, emin]
theorem PstS.note {r : SR} {e : Nat} {nx : Envr → Store → Prop} {rt : D → Store → Prop} : ¬ PstS (r.note (some e)) nx rt := by
  cases r with
  | nx σ S e' => cases e' <;> exact fun h => h
  | rt σ S e' => cases e' <;> exact fun h => h
  | bk σ S e' => exact fun h => h
  | ct σ S e' => exact fun h => h
  | exn => exact fun h => h
  | stuck => exact fun h => h
theorem PstS.andThen_ {r : Res α} {σ : Envr} {f : α → Store → SR} {nx : Envr → Store → Prop} {rt : D → Store → Prop} : PstS (r.andThen σ f) nx rt ↔ Pst r fun a S => PstS (f a S) nx rt := by
  cases r with
  | ok a S e =>
    cases e with
    | none =>
      show PstS ((f a S).note none) nx rt ↔ _
      rw [PstS.note0]
      exact Iff.rfl
    | some e => exact ⟨fun h => (PstS.note h).elim, fun h => h.elim⟩
  | exn => exact Iff.rfl
  | stuck => exact Iff.rfl
theorem PstS.seq_ {r : SR} {f : Envr → Store → SR} {nx : Envr → Store → Prop} {rt : D → Store → Prop} : PstS (r.seq f) nx rt ↔ PstS r (fun σ S => PstS (f σ S) nx rt) rt := by
  cases r with
  | nx σ S e =>
    cases e with
    | none =>
      show PstS ((f σ S).note none) nx rt ↔ _
      rw [PstS.note0]
      exact Iff.rfl
    | some e => exact ⟨fun h => (PstS.note h).elim, fun h => h.elim⟩
  | rt d S e => cases e <;> exact Iff.rfl
  | bk σ S e => exact Iff.rfl
  | ct σ S e => exact Iff.rfl
  | exn => exact Iff.rfl
  | stuck => exact Iff.rfl
theorem PstS.nx_ {σ : Envr} {S : Store} {nx : Envr → Store → Prop} {rt : D → Store → Prop} : PstS (.nx σ S none) nx rt ↔ nx σ S := Iff.rfl
theorem PstS.rt_ {d : D} {S : Store} {nx : Envr → Store → Prop} {rt : D → Store → Prop} : PstS (.rt d S none) nx rt ↔ rt d S := Iff.rfl
theorem PstS.mono {r : SR} {nx nx' : Envr → Store → Prop} {rt rt' : D → Store → Prop} (h : PstS r nx rt) (h1 : ∀ σ S, nx σ S → nx' σ S) (h2 : ∀ d S, rt d S → rt' d S) : PstS r nx' rt' := by
  unfold PstS at h ⊢
  split at h
  · exact h1 _ _ h
  · exact h2 _ _ h
  · exact h.elim
theorem Pst.if_ {c : Prop} [Decidable c] {a b : Res α} {Φ : α → Store → Prop} : Pst (if c then a else b) Φ ↔ if c then Pst a Φ else Pst b Φ := by
  split <;> rfl
theorem PstS.if_ {c : Prop} [Decidable c] {a b : SR} {nx : Envr → Store → Prop} {rt : D → Store → Prop} : PstS (if c then a else b) nx rt ↔ if c then PstS a nx rt else PstS b nx rt := by
  split <;> rfl
/-- a call's end: a tree that names nothing that was made -/
theorem Pst.back {r : SR} {n : Nat} {Φ : D → Store → Prop} (h : PstS r (fun _ S => Φ .non (S.take n)) (fun d S => (d.mr ≤ n ∧ Φ d (S.take n)) ∨ ∃ k xs, d = .ref k ∧ n ≤ k ∧ S[k]? = some (.lst xs) ∧ D.mrs xs ≤ n ∧ Φ (.ref n) (S.take n ++ [.lst xs]))) :
    Pst (r.back n) Φ := by
  unfold PstS at h
  split at h
  · exact h
  · rename_i d S
    unfold SR.back packed escOk
    simp only [if_true]
    rcases h with ⟨h1, h2⟩ | ⟨k, xs, rfl, hk, hS, hx, h2⟩
    · rw [if_pos h1]; exact h2
    · rw [if_neg (by unfold D.mr; omega)]
      simp only [hS, if_pos hx]
      exact h2
  · exact h.elim
theorem run_pst {P : Nat → Option FD} {L n f : Nat} {fd : FD} {args : List D} {S : Store} {Φ : D → Store → Prop} (hf : P f = some fd) (hl : (decide (args.length = fd.np) && decide (fd.np ≤ fd.slots)) = true)
    (h : PstS (evSs ⟨run P L n, L⟩ fd.body (start fd args) S) (fun _ S' => Φ .non (S'.take S.length)) (fun d S' => (d.mr ≤ S.length ∧ Φ d (S'.take S.length)) ∨ ∃ k xs, d = .ref k ∧ S.length ≤ k ∧ S'[k]? = some (.lst xs) ∧ D.mrs xs ≤ S.length ∧ Φ (.ref S.length) (S'.take S.length ++ [.lst xs]))) :
    Pst (run P L (n + 1) f args S) Φ := by
  simp only [Bool.and_eq_true, decide_eq_true_eq] at hl
  unfold run
  rw [hf]
  simp only
  rw [if_pos hl]
  exact Pst.back h
end

/-! ### operators on what is known -/
theorem bin_addI (i j : Int) (S : Store) : binEv .add (.int i) (.int j) S = .ok (.int (i + j)) S none := rfl
theorem bin_subI (i j : Int) (S : Store) : binEv .sub (.int i) (.int j) S = .ok (.int (i - j)) S none := rfl
theorem bin_mulI {i j : Int} (S : Store) (h : mulOk i j = true) : binEv .mul (.int i) (.int j) S = .ok (.int (i * j)) S none := by
  show (if mulOk i j = true then _ else _) = _
  rw [if_pos h]
theorem bin_fdivI {i j : Int} (S : Store) (h : divOk j = true) : binEv .fdiv (.int i) (.int j) S = .ok (.int (i / j)) S none := by
  show (if divOk j = true then _ else _) = _
  rw [if_pos h]
theorem bin_modI {i j : Int} (S : Store) (h : 0 < j) : binEv .mod (.int i) (.int j) S = .ok (.int (i % j)) S none := by
  show (if 0 < j then _ else _) = _
  rw [if_pos h]
theorem bin_addS {s t : List Nat} (S : Store) (h : s.length + t.length ≤ sizeL) : binEv .add (.str s) (.str t) S = .ok (.str (s ++ t)) S none := by
  show (if _ then _ else _) = _
  rw [if_pos h]
theorem bin_addT {s t : List D} (S : Store) (h : s.length + t.length ≤ sizeL) : binEv .add (.tup s) (.tup t) S = .ok (.tup (s ++ t)) S none := by
  show (if _ then _ else _) = _
  rw [if_pos h]
theorem cmp_ltI (i j : Int) (S : Store) : cmpEv .lt (.int i) (.int j) S = .ok (.bl (decide (i < j))) S none := rfl
theorem cmp_gtI (i j : Int) (S : Store) : cmpEv .gt (.int i) (.int j) S = .ok (.bl (decide (j < i))) S none := rfl
theorem cmp_leI (i j : Int) (S : Store) : cmpEv .le (.int i) (.int j) S = .ok (.bl (decide (i ≤ j))) S none := rfl
theorem cmp_eqI (i j : Int) (S : Store) : cmpEv .eq (.int i) (.int j) S = .ok (.bl (i == j)) S none := by
  show resB (D.eqv S 1200 (.int i) (.int j)) false S = _
  simp [D.eqv, resB]
theorem cmp_eqS (s t : List Nat) (S : Store) : cmpEv .eq (.str s) (.str t) S = .ok (.bl (s == t)) S none := by
  show resB (D.eqv S 1200 (.str s) (.str t)) false S = _
  simp [D.eqv, resB]
theorem cmp_neS (s t : List Nat) (S : Store) : cmpEv .ne (.str s) (.str t) S = .ok (.bl (!(s == t))) S none := by
  show resB (D.eqv S 1200 (.str s) (.str t)) true S = _
  simp [D.eqv, resB]
theorem ix_lst {S : Store} {k : Nat} {xs : List D} {i : Int} {x : D} (h : S[k]? = some (.lst xs)) (h0 : 0 ≤ i) (hx : xs[i.toNat]? = some x) : ixEv (.ref k) (.int i) S = .ok x S none := by
  have hl := (List.getElem?_eq_some_iff.mp hx).1
  have hi : i < xs.length := by omega
  simp only [ixEv, D.dict?, D.seq?, D.lst?, h]
  unfold ixN
  rw [if_pos h0, if_pos hi]
  simp only [hx, ofOpt]
theorem ix_tup {S : Store} {xs : List D} {i : Int} {x : D} (h0 : 0 ≤ i) (hx : xs[i.toNat]? = some x) : ixEv (.tup xs) (.int i) S = .ok x S none := by
  have hl := (List.getElem?_eq_some_iff.mp hx).1
  have hi : i < xs.length := by omega
  simp only [ixEv, D.dict?, D.seq?]
  unfold ixN
  rw [if_pos h0, if_pos hi]
  simp only [hx, ofOpt]
theorem ix_str {S : Store} {xs : List Nat} {i : Int} {x : Nat} (hz : xs.length ≤ sizeL) (h0 : 0 ≤ i) (hx : xs[i.toNat]? = some x) : ixEv (.str xs) (.int i) S = .ok (.str [x]) S none := by
  have hl := (List.getElem?_eq_some_iff.mp hx).1
  have hi : i < xs.length := by omega
  simp only [ixEv, if_pos hz]
  unfold ixN
  rw [if_pos h0, if_pos hi]
  simp only [hx]
theorem set_lstI {S : Store} {k : Nat} {xs : List D} {i : Int} {v : D} (h : S[k]? = some (.lst xs)) (h0 : 0 ≤ i) (hi : i < xs.length) (hv : v.mr = 0) : setSub (.ref k) (.int i) v S = .ok () (S.set k (.lst (xs.set i.toNat v))) none := by
  simp only [setSub, h]
  unfold ixN
  rw [if_pos h0, if_pos hi]
  simp only [put, hv, Nat.zero_le, if_true]

/-! ### seeds -/
def sd (a b c : Int) : SO := .lst [.int a, .int b, .int c]
def seedM : Int := 10 ^ 50 + 151
/-- a seed stands at k, at most m tosses old -/
def SeedAt (S : Store) (k : Nat) (m : Int) : Prop := ∃ a b c : Int, S[k]? = some (sd a b c) ∧ 0 ≤ b ∧ b < seedM ∧ 0 ≤ c ∧ c ≤ m
/-- only the seed changed, by at most t tosses; things may have been made -/
structure Ch (k : Nat) (t : Int) (S S' : Store) : Prop where
  len : S.length ≤ S'.length
  old : ∀ j, j < S.length → j ≠ k → S'[j]? = S[j]?
  seed : ∀ m, SeedAt S k m → SeedAt S' k (m + t)
theorem SeedAt.lt {S : Store} {k : Nat} {m : Int} (h : SeedAt S k m) : k < S.length := by
  obtain ⟨a, b, c, e, _⟩ := h
  exact (List.getElem?_eq_some_iff.mp e).1
theorem SeedAt.le {S : Store} {k : Nat} {m m' : Int} (h : SeedAt S k m) (l : m ≤ m') : SeedAt S k m' := by
  obtain ⟨a, b, c, e, h1, h2, h3, h4⟩ := h
  exact ⟨a, b, c, e, h1, h2, h3, by omega⟩
theorem Ch.refl (k : Nat) (S : Store) : Ch k 0 S S := ⟨Nat.le_refl _, fun _ _ _ => rfl, fun m h => by simpa using h⟩
theorem Ch.trans {k : Nat} {t t' : Int} {S S1 S2 : Store} (a : Ch k t S S1) (b : Ch k t' S1 S2) : Ch k (t + t') S S2 :=
  ⟨Nat.le_trans a.len b.len, fun j h n => (b.old j (Nat.lt_of_lt_of_le h a.len) n).trans (a.old j h n), fun m h => by have := b.seed _ (a.seed m h); rwa [Int.add_assoc] at this⟩
theorem Ch.le {k : Nat} {t t' : Int} {S S1 : Store} (a : Ch k t S S1) (h : t ≤ t') : Ch k t' S S1 := ⟨a.len, a.old, fun m q => (a.seed m q).le (by omega)⟩
theorem Ch.push {k : Nat} {S : Store} (T : List SO) : Ch k 0 S (S ++ T) :=
  ⟨by simp, fun j h _ => List.getElem?_append_left h, fun m h => by
    have hl := h.lt
    obtain ⟨a, b, c, e, r⟩ := h
    exact ⟨a, b, c, by rw [List.getElem?_append_left hl]; exact e, by simpa using r⟩⟩
theorem Ch.take {k : Nat} {t : Int} {S S' : Store} (h : Ch k t S S') : Ch k t S (S'.take S.length) :=
  ⟨by rw [List.length_take]; have := h.len; omega, fun j hj n => by rw [List.getElem?_take_of_lt hj]; exact h.old j hj n, fun m q => by
    have hl := q.lt
    obtain ⟨a, b, c, e, r⟩ := h.seed m q
    exact ⟨a, b, c, by rw [List.getElem?_take_of_lt hl]; exact e, r⟩⟩
theorem Ch.takeLen {k : Nat} {t : Int} {S S' : Store} (h : Ch k t S S') : (S'.take S.length).length = S.length := by rw [List.length_take]; have := h.len; omega
/-- a list that was made later changes -/
theorem Ch.set {k n : Nat} {t : Int} {S S' : Store} (h : Ch k t S S') (hn : S.length ≤ n) (o : SO) : k < S.length → Ch k t S (S'.set n o) := fun hk =>
  ⟨by rw [List.length_set]; exact h.len, fun j hj hjk => by rw [List.getElem?_set_ne (by omega)]; exact h.old j hj hjk, fun m q => by
    obtain ⟨a, b, c, e, r⟩ := h.seed m q
    exact ⟨a, b, c, by rw [List.getElem?_set_ne (by omega)]; exact e, r⟩⟩
end NF

/-! NFToss: the seeds of the laws. -/
namespace NF
open PySem L2
def seedFD : FD := ⟨1, 1, [.ret (.lst [(.bi .max2 [(.cst (.int 0)), (.bin .sub (.var 0) (.bin .pow (.cst (.int 10)) (.cst (.int 18))))]), (.bin .mod (.bin .add (.bin .mul (.var 0) (.bin .pow (.cst (.int 2750159)) (.cst (.int 5)))) (.cst (.int 271828182845904523536))) (.bin .add (.bin .pow (.cst (.int 10)) (.cst (.int 50))) (.cst (.int 151)))), (.cst (.int 0))])]⟩
def tossFD : FD := ⟨2, 3, [.ife (.cmp .gt (.ix (.var 0) (.cst (.int 0))) (.cst (.int 1)))
  [.asg (.name 2) (.bin .mod (.ix (.var 0) (.cst (.int 0))) (.var 1)),
  .sub (.bin .fdiv (.ix (.var 0) (.cst (.int 0))) (.var 1)) (.var 0) (.cst (.int 0)),
  .ret (.var 2)]
  [],
  .sub (.bin .add (.ix (.var 0) (.cst (.int 2))) (.cst (.int 1))) (.var 0) (.cst (.int 2)),
  .sub (.bin .mod (.bin .add (.bin .mul (.ix (.var 0) (.cst (.int 1))) (.ix (.var 0) (.cst (.int 1)))) (.bin .mul (.ix (.var 0) (.cst (.int 2))) (.bin .pow (.cst (.int 32452843)) (.cst (.int 5))))) (.bin .add (.bin .pow (.cst (.int 10)) (.cst (.int 50))) (.cst (.int 151)))) (.var 0) (.cst (.int 1)),
  .ret (.bin .mod (.bin .fdiv (.ix (.var 0) (.cst (.int 1))) (.cst (.int 262147))) (.var 1))]⟩
theorem last_get (S : Store) (o : SO) : (S ++ [o])[S.length]? = some o := by simp
theorem bits_le {i : Int} {n : Nat} (h : i.natAbs < 2 ^ n) (hn : 0 < n) : bits i < n := by
  unfold bits
  by_cases e : i.natAbs = 0
  · rw [e]; simpa using hn
  · exact (Nat.log2_lt e).mpr h
theorem toss_spec {P : Nat → Option FD} {L n f : Nat} {S : Store} {k : Nat} {m many : Int} (hf : P f = some tossFD) (h : SeedAt S k m) (hm : m < 2 ^ 100) (h0 : 0 < many) (h1 : many < 2 ^ 100) :
    Pst (run P L (n + 1) f [.ref k, .int many] S) (fun d S' => (∃ v : Int, d = .int v ∧ 0 ≤ v ∧ v < many) ∧ Ch k 1 S S' ∧ S'.length = S.length) := by
  obtain ⟨a, b, c, e, hb0, hb1, hc0, hc1⟩ := h
  refine run_pst hf rfl ?_
  have hk : k < S.length := (List.getElem?_eq_some_iff.mp e).1
  have hbn : bits b < 171 := bits_le (by have : seedM < 2 ^ 170 := by decide +kernel
                                         omega) (by omega)
  have hcn : bits (c + 1) < 102 := bits_le (by omega) (by omega)
  have hp : bits ((32452843 : Int) ^ 5) < 200 := by decide +kernel
  have hbb : mulOk b b = true := by unfold mulOk; rw [decide_eq_true_eq]; omega
  have hcc : mulOk (c + 1) ((32452843 : Int) ^ 5) = true := by unfold mulOk; rw [decide_eq_true_eq]; omega
  have hd : divOk many = true := by
    unfold divOk
    have : bits many < 101 := bits_le (by omega) (by omega)
    simp only [Bool.and_eq_true, decide_eq_true_eq]
    omega
  have e1 : ∀ x : List D, (S.set k (SO.lst x))[k]? = some (SO.lst x) := fun x => List.getElem?_set_self hk
  have chs : ∀ a' b' c' : Int, (∀ m, SeedAt S k m → 0 ≤ b' ∧ b' < seedM ∧ 0 ≤ c' ∧ c' ≤ m + 1) → Ch k 1 S (S.set k (.lst [.int a', .int b', .int c'])) := fun a' b' c' h =>
    ⟨by simp, fun j hj hjk => by rw [List.getElem?_set_ne (Ne.symm hjk)], fun m q => ⟨a', b', c', List.getElem?_set_self hk, h m q⟩⟩
  have tk : ∀ o : SO, (S.set k o).take S.length = S.set k o := fun o => List.take_of_length_le (by simp)
  have cm : ∀ m, SeedAt S k m → c ≤ m := fun m ⟨a', b', c', e', _, _, _, h⟩ => by
    rw [e] at e'
    simp only [sd, Option.some.injEq, SO.lst.injEq, List.cons.injEq, D.int.injEq, and_true] at e'
    omega
  have hM : (10 : Int) ^ 50 + 151 = seedM := rfl
  have hMp : (0 : Int) < seedM := by decide +kernel
  have hpow : ∀ S', binEv .pow (.int 32452843) (.int 5) S' = .ok (.int (32452843 ^ 5)) S' none := fun _ => rfl
  have hpowM : ∀ S', binEv .pow (.int 10) (.int 50) S' = .ok (.int (10 ^ 50)) S' none := fun _ => rfl
  have hmodM : ∀ (i : Int) (S' : Store), binEv .mod (.int i) (.int 100000000000000000000000000000000000000000000000151) S' = .ok (.int (i % seedM)) S' none := fun i S' => by
    rw [bin_modI _ (by decide)]
    rfl
  have hd2 : divOk 262147 = true := by decide +kernel
  generalize (32452843 : Int) ^ 5 = p5 at hpow hp hcc
  by_cases hA : 1 < a
  · simp [tossFD, start, evSs, evS, evE, evT, PstS.andThen_, PstS.seq_, Pst.bind_, PstS.if_, Pst.if_, PstS.nx_, PstS.rt_, Pst.ok_, ixEv, D.dict?, D.seq?, D.lst?, e, sd, setG, setSub, put, cmp_gtI, ixN, ofOpt, hA, bin_modI _ h0, bin_fdivI _ hd, e1, D.mr, tk]
    refine ⟨⟨Int.emod_nonneg _ (by omega), Int.emod_lt_of_pos _ h0⟩, chs _ _ _ fun m q => ⟨hb0, hb1, hc0, ?_⟩⟩
    have := cm m q
    omega
  · simp [tossFD, start, evSs, evS, evE, evT, PstS.andThen_, PstS.seq_, Pst.bind_, PstS.if_, Pst.if_, PstS.nx_, PstS.rt_, Pst.ok_, ixEv, D.dict?, D.seq?, D.lst?, e, sd, setG, setSub, put, cmp_gtI, ixN, ofOpt, hA, bin_modI _ h0, bin_fdivI _ hd2, e1, D.mr, tk, bin_mulI _ hbb, bin_mulI _ hcc, hpow, hpowM, bin_addI, hmodM]
    refine ⟨⟨Int.emod_nonneg _ (by omega), Int.emod_lt_of_pos _ h0⟩, chs _ _ _ fun m q => ⟨Int.emod_nonneg _ (by omega), Int.emod_lt_of_pos _ hMp, by omega, ?_⟩⟩
    have := cm m q
    omega

theorem seed_spec {P : Nat → Option FD} {L n f : Nat} {S : Store} {cell : Int} (hf : P f = some seedFD) (hb : bits cell ≤ 1048576) :
    Pst (run P L (n + 1) f [.int cell] S) (fun d S' => d = .ref S.length ∧ SeedAt S' S.length 0 ∧ S'.length = S.length + 1 ∧ ∀ j, j < S.length → S'[j]? = S[j]?) := by
  refine run_pst hf rfl ?_
  have hp : bits ((2750159 : Int) ^ 5) < 200 := by decide +kernel
  have hc : mulOk cell ((2750159 : Int) ^ 5) = true := by unfold mulOk; rw [decide_eq_true_eq]; omega
  have hpow : ∀ S', binEv .pow (.int 2750159) (.int 5) S' = .ok (.int (2750159 ^ 5)) S' none := fun _ => rfl
  have hpowM : ∀ S', binEv .pow (.int 10) (.int 50) S' = .ok (.int (10 ^ 50)) S' none := fun _ => rfl
  have hpow18 : ∀ S', binEv .pow (.int 10) (.int 18) S' = .ok (.int (10 ^ 18)) S' none := fun _ => rfl
  have hmodM : ∀ (i : Int) (S' : Store), binEv .mod (.int i) (.int 100000000000000000000000000000000000000000000000151) S' = .ok (.int (i % seedM)) S' none := fun i S' => by
    rw [bin_modI _ (by decide)]
    rfl
  have hMp : (0 : Int) < seedM := by decide +kernel
  generalize (2750159 : Int) ^ 5 = p5 at hpow hp hc
  simp [seedFD, start, evSs, evS, evE, evEs, evT, PstS.andThen_, PstS.seq_, Pst.bind_, PstS.if_, Pst.if_, PstS.nx_, PstS.rt_, Pst.ok_, bin_subI, bin_addI, bin_mulI _ hc, hpow, hpowM, hpow18, hmodM, biEv, new, sizeL, D.mr, D.mrs]
  exact ⟨⟨_, _, _, last_get S _, Int.emod_nonneg _ (by omega), Int.emod_lt_of_pos _ hMp, by omega, by omega⟩, fun j hj => List.getElem?_append_left hj⟩
end NF

/-! NFLoop: loops of the evaluator by an invariant. -/
namespace NF
open PySem L2
theorem turns_rule {f : D → Store → Res (Option D)} {keep : List (Nat × List D)} {items : List D} (I : Nat → List D → Store → Prop)
    (step : ∀ i x acc S, items[i]? = some x → I i acc S → Src.holds S keep = true ∧ Pst (f x S) (fun r S1 => match r with
      | some v => acc.length < sizeL ∧ I (i + 1) (acc ++ [v]) S1
      | none => I (i + 1) acc S1)) (fin : ∀ acc S, I items.length acc S → Src.holds S keep = true) :
    ∀ (k : Nat) (acc : List D) (S : Store), k ≤ items.length → I k acc S → Pst (evTurns f keep (items.drop k) acc S) (fun vs S' => I items.length vs S') := by
  intro k
  generalize hm : items.length - k = m
  induction m generalizing k with
  | zero =>
    intro acc S hk hI
    have e : k = items.length := by omega
    subst e
    rw [List.drop_length]
    unfold evTurns
    rw [if_pos (fin acc S hI)]
    exact hI
  | succ m ih =>
    intro acc S hk hI
    have hlt : k < items.length := by omega
    rw [List.drop_eq_getElem_cons hlt]
    obtain ⟨h1, h2⟩ := step k items[k] acc S (List.getElem?_eq_getElem hlt) hI
    unfold evTurns
    rw [if_pos h1, Pst.bind_]
    refine h2.mono fun r S1 hr => ?_
    cases r with
    | some v =>
      simp only at hr ⊢
      rw [if_pos hr.1]
      exact ih (k + 1) (by omega) _ _ hlt hr.2
    | none => exact ih (k + 1) (by omega) _ _ hlt hr
theorem for_rule {f : D → Envr → Store → SR} {keep : List (Nat × List D)} {items : List D} {nx : Envr → Store → Prop} {rt : D → Store → Prop} (I : Nat → Envr → Store → Prop)
    (step : ∀ i x σ S, items[i]? = some x → I i σ S → Src.holds S keep = true ∧ PstS (f x σ S) (fun σ1 S1 => I (i + 1) σ1 S1) rt) (fin : ∀ σ S, I items.length σ S → Src.holds S keep = true ∧ nx σ S) :
    ∀ (k : Nat) (σ : Envr) (S : Store), k ≤ items.length → I k σ S → PstS (evFor f keep (items.drop k) σ S) nx rt := by
  intro k
  generalize hm : items.length - k = m
  induction m generalizing k with
  | zero =>
    intro σ S hk hI
    have e : k = items.length := by omega
    subst e
    rw [List.drop_length]
    unfold evFor
    rw [if_pos (fin σ S hI).1]
    exact (fin σ S hI).2
  | succ m ih =>
    intro σ S hk hI
    have hlt : k < items.length := by omega
    rw [List.drop_eq_getElem_cons hlt]
    obtain ⟨h1, h2⟩ := step k items[k] σ S (List.getElem?_eq_getElem hlt) hI
    unfold evFor
    rw [if_pos h1]
    cases hr : f items[k] σ S with
    | nx σ1 S1 e =>
      rw [hr] at h2
      cases e with
      | some e => exact h2.elim
      | none =>
        simp only [PstS.note0]
        exact ih (k + 1) (by omega) _ _ hlt h2
    | rt d S1 e => rw [hr] at h2; cases e <;> exact h2
    | bk σ1 S1 e => rw [hr] at h2; exact h2.elim
    | ct σ1 S1 e => rw [hr] at h2; exact h2.elim
    | exn y σ1 S1 e => rw [hr] at h2; exact h2.elim
    | stuck => rw [hr] at h2; exact h2.elim
/-- what a turn of a comprehension gives -/
def lcTurnE (C : Ctx) (elt : CE) (g : CG) (ifs : List CE) (own : List Nat) (σ : Envr) (x : D) (S : Store) : Res (Option D) := match setG g x (wipeE σ own) with
  | some σ' => (evIfs C ifs σ' S).bind fun t S3 => if t then (evE C elt σ' S3).bind fun v S4 => .ok (some v) S4 none else .ok none S3 none
  | none => .stuck
theorem evE_lcE {C : Ctx} (elt : CE) (g : CG) (it : CE) (ifs : List CE) (own : List Nat) (σ : Envr) (S : Store) : evE C (.lc elt g it ifs own) σ S =
    (evI C it σ S).bind fun src S1 => (evTurns (lcTurnE C elt g ifs own σ) src.keep src.items [] S1).bind fun vs S2 => new (.lst vs) S2 := by
  simp only [evE]
  rfl
theorem turns_all {f : D → Store → Res (Option D)} {keep : List (Nat × List D)} {items : List D} (I : Nat → List D → Store → Prop)
    (step : ∀ i x acc S, items[i]? = some x → I i acc S → Src.holds S keep = true ∧ Pst (f x S) (fun r S1 => match r with
      | some v => acc.length < sizeL ∧ I (i + 1) (acc ++ [v]) S1
      | none => I (i + 1) acc S1)) (fin : ∀ acc S, I items.length acc S → Src.holds S keep = true) {S : Store} (h : I 0 [] S) : Pst (evTurns f keep items [] S) (fun vs S' => I items.length vs S') :=
  turns_rule I step fin 0 [] S (Nat.zero_le _) h
theorem for_all {f : D → Envr → Store → SR} {keep : List (Nat × List D)} {items : List D} {nx : Envr → Store → Prop} {rt : D → Store → Prop} (I : Nat → Envr → Store → Prop)
    (step : ∀ i x σ S, items[i]? = some x → I i σ S → Src.holds S keep = true ∧ PstS (f x σ S) (fun σ1 S1 => I (i + 1) σ1 S1) rt) (fin : ∀ σ S, I items.length σ S → Src.holds S keep = true ∧ nx σ S) {σ : Envr} {S : Store} (h : I 0 σ S) : PstS (evFor f keep items σ S) nx rt :=
  for_rule I step fin 0 σ S (Nat.zero_le _) h

/-! ### names -/
/-- small letters, great letters -/
def letter (c : Nat) : Bool := (decide (97 ≤ c) && decide (c ≤ 122)) || (decide (65 ≤ c) && decide (c ≤ 90))
def Nm (t : List Nat) : Prop := t ≠ [] ∧ (t.all letter = true) ∧ t.length ≤ 8
instance (t : List Nat) : Decidable (Nm t) := by unfold Nm; exact inferInstance
end NF

/-! NFTree: values as the laws build and spoil them; calls that answer yes or no. -/
namespace NF
open PySem L2

/-! ### ends of calls -/
theorem packed_none (n : Nat) (d : D) (S : Store) : ∃ d' S', packed n d S none = .ok d' S' none := by
  unfold packed escOk
  simp only [if_true]
  split
  · exact ⟨_, _, rfl⟩
  · split
    · split
      · split <;> exact ⟨_, _, rfl⟩
      · split <;> exact ⟨_, _, rfl⟩
      · exact ⟨_, _, rfl⟩
    · exact ⟨_, _, rfl⟩
theorem packed_small {n : Nat} {d : D} (S : Store) (h : d.mr ≤ n) : packed n d S none = .ok d (S.take n) none := by
  unfold packed escOk
  simp only [if_true]
  rw [if_pos h]
theorem Pst.backG {r : SR} {n : Nat} {Φ : D → Store → Prop} (h : PstS r (fun _ S => Φ .non (S.take n)) (fun d S => ∀ d1 S1, packed n d S none = .ok d1 S1 none → Φ d1 S1)) : Pst (r.back n) Φ := by
  unfold PstS at h
  split at h
  · exact h
  · rename_i d S
    obtain ⟨d1, S1, e⟩ := packed_none n d S
    show Pst (packed n d S none) Φ
    rw [e]; exact h d1 S1 e
  · exact h.elim
theorem run_pstG {P : Nat → Option FD} {L n f : Nat} {fd : FD} {args : List D} {S : Store} {Φ : D → Store → Prop} (hf : P f = some fd) (hl : (decide (args.length = fd.np) && decide (fd.np ≤ fd.slots)) = true)
    (h : PstS (evSs ⟨run P L n, L⟩ fd.body (start fd args) S) (fun _ S' => Φ .non (S'.take S.length)) (fun d S' => ∀ d1 S1, packed S.length d S' none = .ok d1 S1 none → Φ d1 S1)) :
    Pst (run P L (n + 1) f args S) Φ := by
  simp only [Bool.and_eq_true, decide_eq_true_eq] at hl
  unfold run
  rw [hf]
  simp only
  rw [if_pos hl]
  exact Pst.backG h
/-- a call that answers d and leaves nothing -/
theorem run_is {P : Nat → Option FD} {L n f : Nat} {fd : FD} {args : List D} {S : Store} {r : D} (hf : P f = some fd) (hl : (decide (args.length = fd.np) && decide (fd.np ≤ fd.slots)) = true) (hr : r.mr = 0)
    (h : PstS (evSs ⟨run P L n, L⟩ fd.body (start fd args) S) (fun _ _ => False) (fun d S' => d = r ∧ ∃ T, S' = S ++ T)) : run P L (n + 1) f args S = .ok r S none := by
  have : Pst (run P L (n + 1) f args S) (fun d S' => d = r ∧ S' = S) := by
    refine run_pstG hf hl (h.mono (fun _ _ x => x.elim) ?_)
    rintro d S' ⟨rfl, T, rfl⟩ d1 S1 e
    rw [packed_small _ (by omega)] at e
    cases e
    exact ⟨rfl, by simp⟩
  obtain ⟨d, S', e, rfl, rfl⟩ := this.ex
  exact e
theorem eq_of {α : Type} {r : Res α} {x : α} {S : Store} (h : Pst r (fun a S' => a = x ∧ S' = S)) : r = .ok x S none := by
  obtain ⟨d, S', e, rfl, rfl⟩ := h.ex
  exact e
theorem grow0 (S : Store) : ∃ T, S = S ++ T := ⟨[], by simp⟩
theorem grow1 (S : Store) (o : SO) : ∃ T, S ++ [o] = S ++ T := ⟨_, rfl⟩
theorem grow2 (S : Store) (o p : SO) : ∃ T, S ++ [o] ++ [p] = S ++ T := ⟨[o, p], by simp⟩

/-! ### things -/
def okAt (S : Store) (n : Nat) : Prop := (∃ xs, S[n]? = some (.lst xs)) ∨ ∃ kvs, S[n]? = some (.dict kvs)
theorem okAt.lt {S : Store} {n : Nat} (h : okAt S n) : n < S.length := by
  rcases h with ⟨xs, h⟩ | ⟨xs, h⟩ <;> exact (List.getElem?_eq_some_iff.mp h).1
theorem okAt.same {S S' : Store} {n : Nat} (h : okAt S n) (e : S'[n]? = S[n]?) : okAt S' n := by
  unfold okAt at h ⊢
  rw [e]; exact h
theorem okAt.push {S : Store} {n : Nat} (h : okAt S n) (T : List SO) : okAt (S ++ T) n := h.same (List.getElem?_append_left h.lt)
theorem okAt.ch {S S' : Store} {n k : Nat} {m t : Int} (h : okAt S n) (q : SeedAt S k m) (c : Ch k t S S') : okAt S' n := by
  by_cases e : n = k
  · subst e
    obtain ⟨a, b, c', e', _⟩ := c.seed m q
    exact .inl ⟨_, e'⟩
  · exact h.same (c.old n h.lt e)
mutual
/-- small enough, its places hold lists or dicts -/
def D.gd (B : Nat) (S : Store) : D → Prop
  | .non => True
  | .bl _ => True
  | .int i => i.natAbs < 2 ^ 80 + B
  | .str s => s.length ≤ B
  | .tup xs => xs.length ≤ B ∧ D.gds B S xs
  | .ref n => okAt S n
  | _ => False
def D.gds (B : Nat) (S : Store) : List D → Prop
  | [] => True
  | x :: xs => D.gd B S x ∧ D.gds B S xs
end
mutual
def D.dep : D → Nat
  | .tup xs => 1 + D.deps xs
  | _ => 0
def D.deps : List D → Nat
  | [] => 0
  | x :: xs => max x.dep (D.deps xs)
end
theorem gds_iff {B : Nat} {S : Store} : ∀ {xs : List D}, D.gds B S xs ↔ ∀ x ∈ xs, D.gd B S x
  | [] => by simp [D.gds]
  | x :: xs => by simp [D.gds, gds_iff (xs := xs)]
theorem deps_le {n : Nat} : ∀ {xs : List D}, D.deps xs ≤ n ↔ ∀ x ∈ xs, D.dep x ≤ n
  | [] => by simp [D.deps]
  | x :: xs => by
    have := deps_le (n := n) (xs := xs)
    simp only [D.deps, List.mem_cons, forall_eq_or_imp, ← this]
    omega
/-- a thing of at most n levels -/
def TG (B : Nat) (S : Store) (n : Nat) (d : D) : Prop := d.gd B S ∧ d.dep ≤ n
theorem TG.tup_ {B : Nat} {S : Store} {n : Nat} {xs : List D} : TG B S (n + 1) (.tup xs) ↔ xs.length ≤ B ∧ ∀ x ∈ xs, TG B S n x := by
  unfold TG
  simp only [D.gd, D.dep, gds_iff]
  have := deps_le (n := n) (xs := xs)
  constructor
  · rintro ⟨⟨h1, h2⟩, h3⟩
    exact ⟨h1, fun x hx => ⟨h2 x hx, this.mp (by omega) x hx⟩⟩
  · rintro ⟨h1, h2⟩
    have := this.mpr fun x hx => (h2 x hx).2
    exact ⟨⟨h1, fun x hx => (h2 x hx).1⟩, by omega⟩
theorem TG.tup0 {B : Nat} {S : Store} {xs : List D} : ¬ TG B S 0 (.tup xs) := by
  unfold TG
  simp only [D.dep]
  omega
theorem TG.up {B : Nat} {S : Store} {n m : Nat} {d : D} (h : TG B S n d) (l : n ≤ m) : TG B S m d := ⟨h.1, Nat.le_trans h.2 l⟩
mutual
theorem gd_to {B B' : Nat} {S S' : Store} (hB : B ≤ B') : ∀ {d : D}, (∀ n, n < d.mr → okAt S n → okAt S' n) → d.gd B S → d.gd B' S'
  | .non, _, _ => trivial
  | .bl _, _, _ => trivial
  | .int i, _, h => by
    simp only [D.gd] at h ⊢
    omega
  | .str s, _, h => by simp only [D.gd] at h ⊢; omega
  | .tup xs, e, h => by
    simp only [D.gd] at h ⊢
    exact ⟨by omega, gds_to hB (fun n hn => e n (by simpa [D.mr] using hn)) h.2⟩
  | .cl xs, _, h => by simp only [D.gd] at h
  | .ref n, e, h => by
    simp only [D.gd] at h ⊢
    exact e n (by simp [D.mr]) h
  | .fn _, _, h => by simp only [D.gd] at h
  | .ty _, _, h => by simp only [D.gd] at h
theorem gds_to {B B' : Nat} {S S' : Store} (hB : B ≤ B') : ∀ {xs : List D}, (∀ n, n < D.mrs xs → okAt S n → okAt S' n) → D.gds B S xs → D.gds B' S' xs
  | [], _, _ => trivial
  | x :: xs, e, h => ⟨gd_to hB (fun n hn => e n (by rw [D.mrs]; omega)) h.1, gds_to hB (fun n hn => e n (by rw [D.mrs]; omega)) h.2⟩
end
theorem TG.to {B B' : Nat} {S S' : Store} {n : Nat} {d : D} (h : TG B S n d) (hB : B ≤ B') (e : ∀ n, n < d.mr → okAt S n → okAt S' n) : TG B' S' n d := ⟨gd_to hB e h.1, h.2⟩
theorem TG.push {B : Nat} {S : Store} {n : Nat} {d : D} (h : TG B S n d) (T : List SO) : TG B (S ++ T) n d := h.to (Nat.le_refl _) fun k _ q => q.push T
theorem TG.ch {B : Nat} {S S' : Store} {n k : Nat} {m t : Int} {d : D} (h : TG B S n d) (q : SeedAt S k m) (c : Ch k t S S') : TG B S' n d := h.to (Nat.le_refl _) fun _ _ o => o.ch q c
theorem TG.big {B B' : Nat} {S : Store} {n : Nat} {d : D} (h : TG B S n d) (l : B ≤ B') : TG B' S n d := h.to l fun _ _ q => q
/-- without places -/
theorem TG.pure {B : Nat} {S S' : Store} {n : Nat} {d : D} (h : TG B S n d) (m : d.mr = 0) : TG B S' n d := h.to (Nat.le_refl _) fun k hk => by omega
mutual
theorem gd_mr {B : Nat} {S : Store} : ∀ {d : D}, d.gd B S → d.mr ≤ S.length
  | .non, _ => Nat.zero_le _
  | .bl _, _ => Nat.zero_le _
  | .int _, _ => Nat.zero_le _
  | .str _, _ => Nat.zero_le _
  | .tup xs, h => by
    simp only [D.gd] at h
    rw [D.mr]; exact gds_mr h.2
  | .cl xs, h => by simp only [D.gd] at h
  | .ref n, h => by
    simp only [D.gd] at h
    rw [D.mr]; exact h.lt
  | .fn _, h => by simp only [D.gd] at h
  | .ty _, h => by simp only [D.gd] at h
theorem gds_mr {B : Nat} {S : Store} : ∀ {xs : List D}, D.gds B S xs → D.mrs xs ≤ S.length
  | [], _ => Nat.zero_le _
  | x :: xs, h => by
    have h1 := gd_mr h.1
    have h2 := gds_mr h.2
    rw [D.mrs]; omega
end
/-- what a call hands back -/
theorem TG.packed {B : Nat} {S S' : Store} {n k : Nat} {t : Int} {d d1 : D} {S1 : Store} (h : TG B S' n d) (c : Ch k t S S') (e : packed S.length d S' none = .ok d1 S1 none) : TG B S1 n d1 ∧ Ch k t S S1 := by
  unfold NF.packed escOk at e
  simp only [if_true] at e
  split at e
  · rename_i hm
    cases e
    refine ⟨h.to (Nat.le_refl _) fun i hi q => q.same ?_, c.take⟩
    rw [List.getElem?_take_of_lt (by omega)]
  · have new : ∀ o : SO, ((∃ xs, o = .lst xs) ∨ ∃ kvs, o = .dict kvs) → TG B (S'.take S.length ++ [o]) n (.ref S.length) ∧ Ch k t S (S'.take S.length ++ [o]) := fun o ho => by
      have hl := c.takeLen
      have hg : (S'.take S.length ++ [o])[S.length]? = some o := by
        rw [List.getElem?_append_right (by omega), hl]; simp
      refine ⟨⟨?_, Nat.zero_le _⟩, by simpa using c.take.trans (Ch.push [o])⟩
      simp only [D.gd]
      rcases ho with ⟨xs, rfl⟩ | ⟨xs, rfl⟩
      · exact .inl ⟨_, hg⟩
      · exact .inr ⟨_, hg⟩
    split at e
    · split at e
      · split at e
        · cases e; exact new _ (.inl ⟨_, rfl⟩)
        · cases e; exact ⟨h, c⟩
      · split at e
        · cases e; exact new _ (.inr ⟨_, rfl⟩)
        · cases e; exact ⟨h, c⟩
      · cases e; exact ⟨h, c⟩
    · cases e; exact ⟨h, c⟩

/-! ### what kind of thing -/
def tupB : D → Bool
  | .tup _ => true
  | _ => false
def strB : D → Bool
  | .str _ => true
  | _ => false
def intB : D → Bool
  | .int _ => true
  | .bl _ => true
  | _ => false
def blB : D → Bool
  | .bl _ => true
  | _ => false
theorem inst_tup {B : Nat} {S : Store} {d : D} (h : d.gd B S) : biEv .isinst [d, .ty "tuple"] S = .ok (.bl (tupB d)) S none := by
  cases d with
  | ref n =>
    simp only [D.gd, okAt] at h
    rcases h with ⟨xs, h⟩ | ⟨xs, h⟩ <;> simp [biEv, isInst, tyName, instB, tupB, h]
  | cl => simp only [D.gd] at h
  | fn => simp only [D.gd] at h
  | ty => simp only [D.gd] at h
  | _ => simp [biEv, isInst, tyName, instB, tupB]
theorem inst_str {B : Nat} {S : Store} {d : D} (h : d.gd B S) : biEv .isinst [d, .ty "str"] S = .ok (.bl (strB d)) S none := by
  cases d with
  | ref n =>
    simp only [D.gd, okAt] at h
    rcases h with ⟨xs, h⟩ | ⟨xs, h⟩ <;> simp [biEv, isInst, tyName, instB, strB, h]
  | cl => simp only [D.gd] at h
  | fn => simp only [D.gd] at h
  | ty => simp only [D.gd] at h
  | _ => simp [biEv, isInst, tyName, instB, strB]
theorem inst_int {B : Nat} {S : Store} {d : D} (h : d.gd B S) : biEv .isinst [d, .ty "int"] S = .ok (.bl (intB d)) S none := by
  cases d with
  | ref n =>
    simp only [D.gd, okAt] at h
    rcases h with ⟨xs, h⟩ | ⟨xs, h⟩ <;> simp [biEv, isInst, tyName, instB, intB, h]
  | cl => simp only [D.gd] at h
  | fn => simp only [D.gd] at h
  | ty => simp only [D.gd] at h
  | _ => simp [biEv, isInst, tyName, instB, intB]
theorem inst_bool {B : Nat} {S : Store} {d : D} (h : d.gd B S) : biEv .isinst [d, .ty "bool"] S = .ok (.bl (blB d)) S none := by
  cases d with
  | ref n =>
    simp only [D.gd, okAt] at h
    rcases h with ⟨xs, h⟩ | ⟨xs, h⟩ <;> simp [biEv, isInst, tyName, instB, blB, h]
  | cl => simp only [D.gd] at h
  | fn => simp only [D.gd] at h
  | ty => simp only [D.gd] at h
  | _ => simp [biEv, isInst, tyName, instB, blB]
theorem inst_blbool (b : Bool) (S : Store) : biEv .isinst [.bl b, .ty "bool"] S = .ok (.bl true) S none := by simp [biEv, isInst, tyName, instB]
theorem tupB_iff {d : D} : tupB d = true ↔ ∃ xs, d = .tup xs := by cases d <;> simp [tupB]
theorem strB_iff {d : D} : strB d = true ↔ ∃ xs, d = .str xs := by cases d <;> simp [strB]

theorem setG_nm (i : Nat) (d : D) (σ : Envr) : setG (.name i) d σ = if i < σ.length then some (σ.set i (some d)) else none := by rw [setG]
theorem setG_tp (gs : List CG) (ds : List D) (σ : Envr) : setG (.tup gs) (.tup ds) σ = if gs.length = ds.length then setGs gs ds σ else none := by rw [setG]
theorem truth_bl (b : Bool) (S : Store) : truthR (.bl b) S = .ok b S none := rfl
/-! ### comparing -/
theorem cmp_tnil (xs : List D) (S : Store) : cmpEv .eq (.tup xs) (.tup []) S = .ok (.bl xs.isEmpty) S none := by
  show resB (D.eqv S 1200 (.tup xs) (.tup [])) false S = _
  cases xs <;> simp [D.eqv, eqvL, resB]
theorem cmp_tnilN (xs : List D) (S : Store) : cmpEv .ne (.tup xs) (.tup []) S = .ok (.bl (!xs.isEmpty)) S none := by
  show resB (D.eqv S 1200 (.tup xs) (.tup [])) true S = _
  cases xs <;> simp [D.eqv, eqvL, resB]
theorem cmp_lnil {S : Store} {a b : Nat} {xs : List D} (ha : S[a]? = some (.lst xs)) (hb : S[b]? = some (.lst [])) (n : a ≠ b) : cmpEv .eq (.ref a) (.ref b) S = .ok (.bl xs.isEmpty) S none := by
  show resB (D.eqv S 1200 (.ref a) (.ref b)) false S = _
  cases xs <;> simp [D.eqv, D.lst?, ha, hb, n, eqvL, resB]
theorem cmp_neB (a b : Bool) (S : Store) : cmpEv .ne (.bl a) (.bl b) S = .ok (.bl (a != b)) S none := by
  show resB (D.eqv S 1200 (.bl a) (.bl b)) true S = _
  cases a <;> cases b <;> simp [D.eqv, resB]
theorem cmp_neI (i j : Int) (S : Store) : cmpEv .ne (.int i) (.int j) S = .ok (.bl (!(i == j))) S none := by
  show resB (D.eqv S 1200 (.int i) (.int j)) true S = _
  simp [D.eqv, resB]
theorem cmp_ltS (s t : List Nat) (S : Store) : cmpEv .lt (.str s) (.str t) S = .ok (.bl (decide (s < t))) S none := rfl
theorem cmp_gtS (s t : List Nat) (S : Store) : cmpEv .gt (.str s) (.str t) S = .ok (.bl (decide (t < s))) S none := rfl
theorem lt_one (c d : Nat) : ([c] < [d]) ↔ c < d := by simp [List.cons_lt_cons_iff]
theorem elem_strs (S : Store) (n : Nat) (s : List Nat) : ∀ L : List (List Nat), elemL (D.eqv S (n + 1)) (.str s) (L.map .str) = some (L.contains s)
  | [] => rfl
  | x :: L => by
    have e : D.eqv S (n + 1) (.str x) (.str s) = some (x == s) := by simp only [D.eqv]
    rw [List.map_cons]
    unfold elemL
    rw [elem_strs S n s L, e, List.contains_cons, BEq.comm (a := x) (b := s)]
theorem in_strs {S : Store} {s : List Nat} {y : D} {neg : Bool} (L : List (List Nat)) (h1 : ∀ t, y ≠ .str t) (h2 : y.dict? S = none) (h3 : y.seq? S = some (L.map .str)) : inEv neg (.str s) y S = .ok (.bl (L.contains s != neg)) S none := by
  unfold inEv
  split
  · rename_i t; exact absurd rfl (h1 t)
  · rw [h2, h3]
    simp only [eqN, elem_strs, resB]
theorem in_lst {S : Store} {s : List Nat} {k : Nat} (L : List (List Nat)) (h : S[k]? = some (.lst (L.map .str))) : cmpEv .isin (.str s) (.ref k) S = .ok (.bl (L.contains s)) S none := by
  show inEv false (.str s) (.ref k) S = _
  rw [in_strs L (fun t e => by cases e) (by simp [D.dict?, h]) (by simp [D.seq?, h])]
  simp
theorem notin_lst {S : Store} {s : List Nat} {k : Nat} (L : List (List Nat)) (h : S[k]? = some (.lst (L.map .str))) : cmpEv .notin (.str s) (.ref k) S = .ok (.bl (!L.contains s)) S none := by
  show inEv true (.str s) (.ref k) S = _
  rw [in_strs L (fun t e => by cases e) (by simp [D.dict?, h]) (by simp [D.seq?, h])]
  simp
theorem in_tup {S : Store} {s : List Nat} (L : List (List Nat)) : cmpEv .isin (.str s) (.tup (L.map .str)) S = .ok (.bl (L.contains s)) S none := by
  show inEv false (.str s) (.tup (L.map .str)) S = _
  rw [in_strs L (fun t e => by cases e) rfl rfl]
  simp
theorem notin_tup {S : Store} {s : List Nat} (L : List (List Nat)) : cmpEv .notin (.str s) (.tup (L.map .str)) S = .ok (.bl (!L.contains s)) S none := by
  show inEv true (.str s) (.tup (L.map .str)) S = _
  rw [in_strs L (fun t e => by cases e) rfl rfl]
  simp
theorem hasSub_one (t : List Nat) (c : Nat) : hasSub t [c] = decide (c ∈ t) := by
  unfold hasSub
  have := StrLaws.found_one ⟨t.toArray⟩ c
  simpa [Str.length] using this
theorem in_sign (t : List Nat) (c : Nat) (S : Store) : cmpEv .isin (.str [c]) (.str t) S = .ok (.bl (decide (c ∈ t))) S none := by
  show inEv false (.str [c]) (.str t) S = _
  simp [inEv, hasSub_one]
def low (c : Nat) : Bool := decide (97 ≤ c) && decide (c ≤ 122)
def up (c : Nat) : Bool := decide (65 ≤ c) && decide (c ≤ 90)
theorem mem_low (c : Nat) : decide (c ∈ (S! "abcdefghijklmnopqrstuvwxyz")) = low c := by
  have key : (S! "abcdefghijklmnopqrstuvwxyz") = (List.range 26).map (· + 97) := by decide +kernel
  rw [key]
  unfold low
  rw [Bool.eq_iff_iff]
  simp only [List.mem_map, List.mem_range, decide_eq_true_eq, Bool.and_eq_true]
  constructor
  · rintro ⟨a, h, rfl⟩; omega
  · intro h; exact ⟨c - 97, by omega, by omega⟩
theorem mem_up (c : Nat) : decide (c ∈ (S! "ABCDEFGHIJKLMNOPQRSTUVWXYZ")) = up c := by
  have key : (S! "ABCDEFGHIJKLMNOPQRSTUVWXYZ") = (List.range 26).map (· + 65) := by decide +kernel
  rw [key]
  unfold up
  rw [Bool.eq_iff_iff]
  simp only [List.mem_map, List.mem_range, decide_eq_true_eq, Bool.and_eq_true]
  constructor
  · rintro ⟨a, h, rfl⟩; omega
  · intro h; exact ⟨c - 65, by omega, by omega⟩

/-! ### comprehensions that leave nothing -/
theorem turns_acc {f : D → Store → Res (Option D)} {keep : List (Nat × List D)} {S : Store} (p : D → Bool) (g : D → D) (hk : Src.holds S keep = true) : ∀ (items acc : List D), (∀ x ∈ items, f x S = .ok (if p x then some (g x) else none) S none) → acc.length + items.length ≤ sizeL →
    evTurns f keep items acc S = .ok (acc ++ (items.filter p).map g) S none
  | [], acc, _, _ => by
    unfold evTurns
    rw [if_pos hk]
    simp
  | x :: xs, acc, h, hl => by
    unfold evTurns
    rw [if_pos hk, h x List.mem_cons_self]
    simp only [List.length_cons] at hl
    by_cases hp : p x = true
    · simp only [hp, if_true, Res.bind]
      rw [if_pos (by omega), turns_acc p g hk xs (acc ++ [g x]) (fun y hy => h y (List.mem_cons_of_mem _ hy)) (by simp; omega)]
      simp [Res.note, emin, hp]
    · simp only [hp, Bool.false_eq_true, if_false, Res.bind]
      rw [turns_acc p g hk xs acc (fun y hy => h y (List.mem_cons_of_mem _ hy)) (by omega)]
      simp [Res.note, emin, hp]
theorem turns_map {f : D → Store → Res (Option D)} {keep : List (Nat × List D)} {S : Store} {items : List D} (g : D → D) (hk : Src.holds S keep = true) (h : ∀ x ∈ items, f x S = .ok (some (g x)) S none) (hl : items.length ≤ sizeL) :
    evTurns f keep items [] S = .ok (items.map g) S none := by
  rw [turns_acc (fun _ => true) g hk items [] (fun x hx => by rw [h x hx]; rfl) (by simpa using hl)]
  have : items.filter (fun _ => true) = items := List.filter_eq_self.mpr fun _ _ => rfl
  rw [this]; simp
theorem turns_filter {f : D → Store → Res (Option D)} {keep : List (Nat × List D)} {S : Store} {items : List D} (p : D → Bool) (hk : Src.holds S keep = true) (h : ∀ x ∈ items, f x S = .ok (if p x then some x else none) S none) (hl : items.length ≤ sizeL) :
    evTurns f keep items [] S = .ok (items.filter p) S none := by
  rw [turns_acc p id hk items [] (fun x hx => by rw [h x hx]; rfl) (by simpa using hl)]
  simp
theorem all_calls {P : Nat → Option FD} {L M f i : Nat} {xs : List D} {S : Store} {keep : List (Nat × List D)} (g : D → Bool) (hk : Src.holds S keep = true) (ih : ∀ x ∈ xs, NF.run P L M f [x] S = .ok (.bl (g x)) S none) (hl : xs.length ≤ sizeL) {σ : Envr} (hσ : i < σ.length) :
    evTurns (lcTurnE { call := NF.run P L M, turns := L } (.call f [.var i] [.inl 0]) (.name i) [] [i] σ) keep xs [] S = .ok (xs.map fun x => .bl (g x)) S none := by
  refine turns_map (fun x => .bl (g x)) hk (fun x hx => ?_) hl
  refine eq_of ?_
  have e1 : i < (wipeE σ [i]).length := by simp [wipeE, hσ]
  have e2 : ((wipeE σ [i]).set i (some x))[i]? = some (some x) := List.getElem?_set_self e1
  have e3 : setG (.name i) x (wipeE σ [i]) = some ((wipeE σ [i]).set i (some x)) := by rw [setG, if_pos e1]
  simp only [lcTurnE, e3, evIfs, Pst.bind_, Pst.ok_, if_true, evE, evEs, e2, selArgs, List.getElem?_cons_zero, ih x hx]
  exact ⟨trivial, trivial⟩
theorem bools_map {α : Type} (g : α → Bool) : ∀ xs : List α, boolsD (xs.map fun x => .bl (g x)) = some (xs.map g)
  | [] => rfl
  | x :: xs => by simp [boolsD, bools_map g xs]
theorem all_bools {α : Type} {S : Store} {k : Nat} {xs : List α} {g : α → Bool} (h : S[k]? = some (.lst (xs.map fun x => .bl (g x)))) : biEv .all [.ref k] S = .ok (.bl (xs.all g)) S none := by
  simp only [biEv, D.lst?, h, Option.bind_some, bools_map, List.all_map, Function.comp_def, id]
theorem len_str {s : List Nat} (S : Store) (h : s.length ≤ 100000) : biEv .len [.str s] S = .ok (.int s.length) S none := by
  simp only [biEv]
  rw [if_pos (by unfold sizeL; omega)]
theorem len_tup (xs : List D) (S : Store) : biEv .len [.tup xs] S = .ok (.int xs.length) S none := by
  simp [biEv, D.dict1?, D.seq?]
theorem len_ref {S : Store} {k : Nat} {xs : List D} (h : S[k]? = some (.lst xs)) : biEv .len [.ref k] S = .ok (.int xs.length) S none := by
  simp [biEv, D.dict1?, D.seq?, h]
theorem mem_cutL {α : Type} {xs : List α} {lo hi : Option Int} {x : α} (h : x ∈ cutL xs lo hi) : x ∈ xs := List.mem_of_mem_drop (List.mem_of_mem_take h)
theorem cutL_len {α : Type} (xs : List α) (lo hi : Option Int) : (cutL xs lo hi).length ≤ xs.length := by
  unfold cutL
  rw [List.length_take, List.length_drop]; omega
theorem cut1 {α : Type} (xs : List α) : cutL xs (some 1) none = xs.drop 1 := by
  unfold cutL HT.sIx
  cases xs with
  | nil => simp
  | cons x xs =>
    simp only [Option.getD, List.length_cons]
    rw [List.take_of_length_le]
    · congr 1
    · simp

theorem sign_test (c : Nat) : (decide ([c] < (S! "a")) || decide ((S! "z") < [c])) = !low c := by
  have e1 : (S! "a") = [97] := by decide +kernel
  have e2 : (S! "z") = [122] := by decide +kernel
  have f1 : decide ([c] < [97]) = decide (c < 97) := by rw [decide_eq_decide]; exact lt_one c 97
  have f2 : decide ([122] < [c]) = decide (122 < c) := by rw [decide_eq_decide]; exact lt_one 122 c
  rw [e1, e2, f1, f2]
  unfold low
  rw [Bool.eq_iff_iff]
  simp only [Bool.or_eq_true, Bool.not_eq_true', Bool.and_eq_false_iff, decide_eq_true_eq, decide_eq_false_iff_not]
  omega
theorem up_test (c : Nat) : (decide ([c] < (S! "A")) || decide ((S! "Z") < [c])) = !up c := by
  have e1 : (S! "A") = [65] := by decide +kernel
  have e2 : (S! "Z") = [90] := by decide +kernel
  have f1 : decide ([c] < [65]) = decide (c < 65) := by rw [decide_eq_decide]; exact lt_one c 65
  have f2 : decide ([90] < [c]) = decide (90 < c) := by rw [decide_eq_decide]; exact lt_one 90 c
  rw [e1, e2, f1, f2]
  unfold up
  rw [Bool.eq_iff_iff]
  simp only [Bool.or_eq_true, Bool.not_eq_true', Bool.and_eq_false_iff, decide_eq_true_eq, decide_eq_false_iff_not]
  omega
def lowD : D → Bool
  | .str [c] => low c
  | _ => false
def badD : D → Bool
  | .str [c] => !low c
  | _ => false
theorem none_bad (s : List Nat) : ((s.map fun c => D.str [c]).filter badD).isEmpty = s.all low := by
  induction s with
  | nil => rfl
  | cons c s ih =>
    simp only [List.map_cons, List.filter_cons, List.all_cons, badD]
    by_cases h : low c = true
    · simp [h, ih]
    · simp [h]

theorem cutTo {α : Type} (xs : List α) (k : Nat) : cutL xs none (some (k : Int)) = xs.take k := by
  unfold cutL
  rw [HT.sIx_nat]
  show (xs.drop 0).take (min k xs.length - 0) = _
  rw [List.drop_zero, Nat.sub_zero, ← List.take_take, List.take_length]
/-! ### what spoiling needs -/
theorem mr_mem {x : D} : ∀ {xs : List D}, x ∈ xs → x.mr ≤ D.mrs xs
  | y :: ys, h => by
    rw [D.mrs]
    rcases List.mem_cons.mp h with rfl | h
    · omega
    · have := mr_mem h; omega

theorem bin_addL {S : Store} {a b : Nat} {xs ys : List D} (ha : S[a]? = some (.lst xs)) (hb : S[b]? = some (.lst ys)) (h : xs.length + ys.length ≤ sizeL) : binEv .add (.ref a) (.ref b) S = .ok (.ref S.length) (S ++ [.lst (xs ++ ys)]) none := by
  have e1 : (D.ref a).lst? S = some xs := by simp [D.lst?, ha]
  have e2 : (D.ref b).lst? S = some ys := by simp [D.lst?, hb]
  simp only [binEv, e1, e2]
  rw [if_pos h]
theorem slice_str {s : List Nat} (h : s.length ≤ 100000) (lo hi : Option Int) (S : Store) : sliceEv (.str s) lo hi S = .ok (.str (cutL s lo hi)) S none := by
  simp only [sliceEv]
  rw [if_pos (by unfold sizeL; omega)]
theorem slice_tup (xs : List D) (lo hi : Option Int) (S : Store) : sliceEv (.tup xs) lo hi S = .ok (.tup (cutL xs lo hi)) S none := rfl
theorem rev_tup (xs : List D) (S : Store) : revEv (.tup xs) S = .ok (.tup xs.reverse) S none := rfl
theorem list_tup (xs : List D) (S : Store) : biEv .list [.tup xs] S = .ok (.ref S.length) (S ++ [.lst xs]) none := rfl
theorem disp_nil (S : Store) : dispEv [] S = .ok (.ref S.length) (S ++ [.dict []]) none := rfl
theorem upperT_len (s : List Nat) : (upperT s).length ≤ 3 * s.length := by
  have := PyProof.Rows.len_upper ⟨s.toArray⟩
  unfold upperT
  simpa [Str.length] using this
theorem up_str {s : List Nat} (h : s.length ≤ 100000) (S : Store) : meEv .str .upper (.str s) [] S = .ok (.str (upperT s)) S none := by
  simp only [meEv]
  rw [if_pos (by omega)]
theorem digits_nat (n : Nat) : digitsOf (n : Int) = (Nat.toDigits 10 n).map Char.toNat := PySem.W.KIN.signs_num n
theorem digits_small {i : Int} (h0 : 0 ≤ i) : decide ((digitsOf i).length < 21) = decide (i < 10 ^ 20) := by
  obtain ⟨n, rfl⟩ := Int.eq_ofNat_of_zero_le h0
  rw [digits_nat, List.length_map, decide_eq_decide, Nat.lt_succ_iff, Nat.length_toDigits_le_iff (by omega) (by omega)]
  omega
theorem digits_len {i : Int} (h : i.natAbs < 10 ^ 40) : (digitsOf i).length ≤ 41 := by
  cases i with
  | ofNat n =>
    rw [show Int.ofNat n = (n : Int) from rfl, digits_nat, List.length_map]
    have := (Nat.length_toDigits_le_iff (b := 10) (n := n) (k := 40) (by omega) (by omega)).mpr (by simpa using h)
    omega
  | negSucc n =>
    have e : (digitsOf (Int.negSucc n)).length = (toString (Int.negSucc n)).length := by
      have := PyProof.Rows.ofString_len (toString (Int.negSucc n))
      unfold digitsOf
      simpa [Str.length] using this
    rw [e]
    have e2 : toString (Int.negSucc n) = "-" ++ (Nat.succ n).repr := rfl
    rw [e2, String.length_append]
    have e3 : (Nat.succ n).repr.length = (Nat.toDigits 10 (n + 1)).length := by
      rw [← String.length_toList, Nat.toList_repr]
    rw [e3]
    have := (Nat.length_toDigits_le_iff (b := 10) (n := n + 1) (k := 40) (by omega) (by omega)).mpr (by simpa using h)
    have e4 : "-".length = 1 := rfl
    omega
/-- a part of a tuple -/
theorem TG.cut {B : Nat} {S : Store} {n : Nat} {xs : List D} (h : ∀ x ∈ xs, TG B S n x) (lo hi : Option Int) : ∀ x ∈ cutL xs lo hi, TG B S n x := fun x hx => h x (mem_cutL hx)
theorem TG.tup2 {B : Nat} {S : Store} {n : Nat} {xs ys : List D} (hl : xs.length + ys.length ≤ B) (h1 : ∀ x ∈ xs, TG B S n x) (h2 : ∀ x ∈ ys, TG B S n x) : TG B S (n + 1) (.tup (xs ++ ys)) :=
  TG.tup_.mpr ⟨by rw [List.length_append]; exact hl, fun x hx => (List.mem_append.mp hx).elim (h1 x) (h2 x)⟩
theorem TG.str {B : Nat} {S : Store} {n : Nat} {s : List Nat} (h : s.length ≤ B) : TG B S n (.str s) := ⟨h, Nat.zero_le _⟩
theorem TG.int {B : Nat} {S : Store} {n : Nat} {i : Int} (h : i.natAbs < 2 ^ 80 + B) : TG B S n (.int i) := ⟨h, Nat.zero_le _⟩
theorem TG.lst {B : Nat} {S : Store} {n k : Nat} {xs : List D} (h : S[k]? = some (.lst xs)) : TG B S n (.ref k) := ⟨.inl ⟨_, h⟩, Nat.zero_le _⟩
theorem TG.dict {B : Nat} {S : Store} {n k : Nat} {xs : List (D × D)} (h : S[k]? = some (.dict xs)) : TG B S n (.ref k) := ⟨.inr ⟨_, h⟩, Nat.zero_le _⟩
theorem TG.bl {B : Nat} {S : Store} {n : Nat} {b : Bool} : TG B S n (.bl b) := ⟨trivial, Nat.zero_le _⟩
theorem TG.non {B : Nat} {S : Store} {n : Nat} : TG B S n .non := ⟨trivial, Nat.zero_le _⟩

/-! ### each once -/
theorem hasK_mem {α : Type} [DecidableEq α] (ks : List α) (k : α) : hasK ks k = decide (k ∈ ks) := by
  unfold hasK
  rw [Bool.eq_iff_iff]
  simp
theorem setK_acc {α : Type} [DecidableEq α] : ∀ (xs acc : List α), acc.Nodup → (xs.foldl addK acc).length ≤ acc.length + xs.length ∧ ((xs.foldl addK acc).length = acc.length + xs.length ↔ (acc ++ xs).Nodup)
  | [], acc, h => by simp [h]
  | x :: xs, acc, h => by
    simp only [List.foldl_cons]
    by_cases hx : x ∈ acc
    · have e : addK acc x = acc := by unfold addK; rw [hasK_mem, if_pos (by simpa using hx)]
      rw [e]
      have ih := setK_acc xs acc h
      refine ⟨by simp; omega, ?_⟩
      constructor
      · intro q; simp at q; omega
      · intro q
        rw [List.nodup_append] at q
        exact absurd rfl (q.2.2 x hx x List.mem_cons_self)
    · have e : addK acc x = acc ++ [x] := by unfold addK; rw [hasK_mem, if_neg (by simpa using hx)]
      rw [e]
      have h' : (acc ++ [x]).Nodup := by
        rw [List.nodup_append]
        refine ⟨h, by simp, fun a ha b hb => ?_⟩
        have : b = x := by simpa using hb
        subst this
        rintro rfl; exact hx ha
      have ih := setK_acc xs (acc ++ [x]) h'
      simp only [List.length_append, List.length_cons, List.length_nil, Nat.zero_add, List.append_assoc, List.cons_append, List.nil_append] at ih ⊢
      refine ⟨by omega, ?_⟩
      rw [← ih.2]
      omega
theorem setK_nodup {α : Type} [DecidableEq α] (xs : List α) : ((setK xs).length == xs.length) = decide xs.Nodup := by
  have := (setK_acc xs [] List.nodup_nil).2
  simp only [List.length_nil, Nat.zero_add, List.nil_append] at this
  unfold setK
  rw [Bool.eq_iff_iff, beq_iff_eq, decide_eq_true_eq]
  exact this
/-- each is not among those ahead -/
def apK (xs : List D) (k : Nat) : Bool := match xs[k]? with
  | some x => !decide (x ∈ xs.take k)
  | none => true
theorem apart_nodup (xs : List D) : ((List.range xs.length).all (apK xs)) = decide xs.Nodup := by
  unfold apK
  rw [Bool.eq_iff_iff, List.all_eq_true, decide_eq_true_eq, List.nodup_iff_pairwise_ne, List.pairwise_iff_getElem]
  constructor
  · intro h i j hi hj hij e
    have := h j (List.mem_range.mpr hj)
    rw [List.getElem?_eq_getElem hj] at this
    simp only [Bool.not_eq_true', decide_eq_false_iff_not] at this
    exact this (by rw [← e]; exact List.mem_iff_getElem.mpr ⟨i, by rw [List.length_take]; omega, by simp⟩)
  · intro h k hk
    have hk := List.mem_range.mp hk
    rw [List.getElem?_eq_getElem hk]
    simp only [Bool.not_eq_true', decide_eq_false_iff_not]
    intro hm
    obtain ⟨i, hi, e⟩ := List.mem_iff_getElem.mp hm
    rw [List.length_take] at hi
    simp only [List.getElem_take] at e
    exact h i k (by omega) hk (by omega) e

/-! ### dict displays -/
theorem merge_new : ∀ (F acc : List (D × D)), (F.map (·.1)).Nodup → (∀ p ∈ F, ∀ q ∈ acc, q.1 ≠ p.1) → mergeD acc F = acc ++ F
  | [], acc, _, _ => by simp [mergeD]
  | p :: F, acc, hn, hd => by
    have e : dput p.1 p.2 acc = acc ++ [p] := by
      unfold dput
      rw [if_neg]
      simp only [List.any_eq_true, decide_eq_true_eq, not_exists, not_and]
      exact fun q hq => hd p List.mem_cons_self q hq
    show mergeD (dput p.1 p.2 acc) F = _
    rw [List.map_cons, List.nodup_cons] at hn
    rw [e, merge_new F (acc ++ [p]) hn.2 fun a ha q hq => ?_]
    · simp
    · rcases List.mem_append.mp hq with hq | hq
      · exact hd a (List.mem_cons_of_mem _ ha) q hq
      · have : q = p := by simpa using hq
        subst this
        intro z
        exact hn.1 (z ▸ List.mem_map_of_mem ha)
/-- forms: words, the places of their lists, their defs -/
abbrev Forms := List (List Nat × Nat × List Nat)
def kvF (F : Forms) : List (D × D) := F.map fun t => (.str t.1, .ref t.2.1)
def formOf (F : Forms) (s : List Nat) : Option (Nat × List Nat) := F.lookup s
theorem dget_kvF (s : List Nat) : ∀ F : Forms, dget (.str s) (kvF F) = (formOf F s).map fun t => .ref t.1
  | [] => rfl
  | (a, p, fs) :: F => by
    have ih := dget_kvF s F
    unfold kvF formOf at ih ⊢
    simp only [List.map_cons, dget, List.lookup_cons, D.str.injEq]
    by_cases e : a = s
    · subst e; simp
    · rw [if_neg e, ih]
      have : (s == a) = false := by simpa using fun z => e z.symm
      rw [this]
theorem form_mem {s : List Nat} {t : Nat × List Nat} : ∀ {F : Forms}, formOf F s = some t → (s, t) ∈ F
  | (a, p) :: F, h => by
    unfold formOf at h
    simp only [List.lookup_cons] at h
    split at h
    · rename_i e
      cases h
      rw [eq_of_beq e]
      exact List.mem_cons_self
    · exact List.mem_cons_of_mem _ (form_mem h)
/-- what fits answers -/
def fitsB (F : List (List Nat × List Nat)) (Bf : Nat → D → Bool) : D → Bool
  | .tup (.str s :: rest) => match F.lookup s with
    | some fs => fs.length == rest.length && (fs.zip rest).all fun p => Bf p.1 p.2
    | none => false
  | _ => false
/-- a display of forms -/
theorem disp_forms {vs : List D} {S : Store} (F : Forms) (h1 : pairD vs = some (kvF F)) (h2 : F.length ≤ 15) (h3 : (F.map (·.1)).Nodup) : dispEv vs S = .ok (.ref S.length) (S ++ [.dict (kvF F)]) none := by
  unfold dispEv
  rw [h1]
  simp only
  rw [if_pos (by unfold kvF; rw [List.length_map]; exact h2), merge_new (kvF F) [] ?_ (by simp)]
  · rfl
  · have e : (kvF F).map (·.1) = (F.map (·.1)).map D.str := by unfold kvF; simp [Function.comp_def]
    rw [e]
    exact List.Pairwise.map D.str (fun a b h z => h (by injection z)) h3
theorem get_at (S T : Store) (i : Nat) : (S ++ T)[S.length + i]? = T[i]? := by
  rw [List.getElem?_append_right (by omega)]
  congr 1; omega
theorem get_at0 (S T : Store) : (S ++ T)[S.length]? = T[0]? := get_at S T 0
theorem zipD_zip : ∀ (xs ys : List D), zipD xs ys = (xs.zip ys).map fun p => .tup [p.1, p.2]
  | [], _ => by cases ‹List D› <;> rfl
  | _ :: _, [] => rfl
  | x :: xs, y :: ys => by simp [zipD, zipD_zip xs ys]
end NF

/-! NFTM: terms of the laws. -/
namespace NF
open PySem L2
inductive TM where
  | num (i : Int)
  | name (x : List Nat)
  | make (c : List Nat)
  | app (a b : TM)
  | op (o : List Nat) (a b : TM)
  | fn (x : List Nat) (b : TM)
  | lt (xs : List (List Nat)) (ts : List TM) (b : TM)
  | cs (a : TM) (ws : List (List Nat × List (List Nat))) (bs : List TM)
def partD (x : List Nat) (d : D) : D := .tup [.str x, d]
def wayD (w : List Nat × List (List Nat)) (d : D) : D := .tup [.str w.1, .tup (w.2.map .str), d]
mutual
def TM.d : TM → D
  | .num i => .tup [.str (S! "num"), .int i]
  | .name x => .tup [.str (S! "name"), .str x]
  | .make c => .tup [.str (S! "make"), .str c]
  | .app a b => .tup [.str (S! "app"), a.d, b.d]
  | .op o a b => .tup [.str (S! "op"), .str o, a.d, b.d]
  | .fn x b => .tup [.str (S! "fun"), .str x, b.d]
  | .lt xs ts b => .tup [.str (S! "let"), .tup (List.zipWith partD xs (TM.ds ts)), b.d]
  | .cs a ws bs => .tup [.str (S! "case"), a.d, .tup (List.zipWith wayD ws (TM.ds bs))]
def TM.ds : List TM → List D
  | [] => []
  | t :: ts => t.d :: TM.ds ts
end
mutual
def TM.size : TM → Nat
  | .num _ => 1
  | .name _ => 1
  | .make _ => 1
  | .app a b => 1 + a.size + b.size
  | .op _ a b => 1 + a.size + b.size
  | .fn _ b => 1 + b.size
  | .lt _ ts b => 1 + TM.sizes ts + b.size
  | .cs a _ bs => 1 + a.size + TM.sizes bs
def TM.sizes : List TM → Nat
  | [] => 0
  | t :: ts => t.size + TM.sizes ts
end
mutual
def TM.dep : TM → Nat
  | .num _ => 0
  | .name _ => 0
  | .make _ => 0
  | .app a b => 1 + max a.dep b.dep
  | .op _ a b => 1 + max a.dep b.dep
  | .fn _ b => 1 + b.dep
  | .lt _ ts b => 1 + max (TM.deps ts) b.dep
  | .cs a _ bs => 1 + max a.dep (TM.deps bs)
def TM.deps : List TM → Nat
  | [] => 0
  | t :: ts => max t.dep (TM.deps ts)
end
mutual
def TM.ok : TM → Prop
  | .num i => i.natAbs < 2 ^ 80
  | .name x => Nm x
  | .make c => Nm c
  | .app a b => a.ok ∧ b.ok
  | .op o a b => o.length ≤ 10 ∧ a.ok ∧ b.ok
  | .fn x b => Nm x ∧ b.ok
  | .lt xs ts b => ((∀ x ∈ xs, Nm x) ∧ xs.length = ts.length ∧ xs.length ≤ 3 ∧ xs ≠ []) ∧ TM.oks ts ∧ b.ok
  | .cs a ws bs => ((∀ w ∈ ws, Nm w.1 ∧ (∀ x ∈ w.2, Nm x) ∧ w.2.length ≤ 3) ∧ ws.length = bs.length ∧ ws.length ≤ 3) ∧ a.ok ∧ TM.oks bs
def TM.oks : List TM → Prop
  | [] => True
  | t :: ts => t.ok ∧ TM.oks ts
end
theorem TM.ds_map : ∀ ts : List TM, TM.ds ts = ts.map TM.d
  | [] => by simp [TM.ds]
  | t :: ts => by simp [TM.ds, TM.ds_map ts]
theorem TM.oks_iff : ∀ {ts : List TM}, TM.oks ts ↔ ∀ t ∈ ts, t.ok
  | [] => by simp [TM.oks]
  | t :: ts => by simp [TM.oks, TM.oks_iff (ts := ts)]
theorem TM.size_le : ∀ {ts : List TM} {t : TM}, t ∈ ts → t.size ≤ TM.sizes ts
  | u :: ts, t, h => by
    simp only [TM.sizes]
    rcases List.mem_cons.mp h with rfl | h
    · omega
    · have := TM.size_le h; omega
theorem TM.dep_le : ∀ {ts : List TM} {t : TM}, t ∈ ts → t.dep ≤ TM.deps ts
  | u :: ts, t, h => by
    simp only [TM.deps]
    rcases List.mem_cons.mp h with rfl | h
    · omega
    · have := TM.dep_le h; omega
theorem TM.deps_le {n : Nat} : ∀ {ts : List TM}, (∀ t ∈ ts, t.dep ≤ n) → TM.deps ts ≤ n
  | [], _ => by simp [TM.deps]
  | t :: ts, h => by
    have h1 := h t List.mem_cons_self
    have h2 := TM.deps_le fun t ht => h t (List.mem_cons_of_mem _ ht)
    simp only [TM.deps]; omega
theorem TM.sizes_le {n : Nat} : ∀ {ts : List TM}, (∀ t ∈ ts, t.size ≤ n) → TM.sizes ts ≤ ts.length * n
  | [], _ => by simp [TM.sizes]
  | t :: ts, h => by
    have h1 := h t List.mem_cons_self
    have h2 := TM.sizes_le fun t ht => h t (List.mem_cons_of_mem _ ht)
    simp only [TM.sizes, List.length_cons, Nat.add_mul, Nat.one_mul]; omega
theorem TM.sizes_snoc : ∀ (ts : List TM) (t : TM), TM.sizes (ts ++ [t]) = TM.sizes ts + t.size
  | [], t => by simp [TM.sizes]
  | u :: ts, t => by simp [TM.sizes, TM.sizes_snoc ts t] <;> omega
theorem zipP_mr : ∀ (xs : List (List Nat)) (ds : List D), D.mrs ds = 0 → D.mrs (List.zipWith partD xs ds) = 0
  | [], _, _ => rfl
  | _ :: _, [], _ => rfl
  | x :: xs, d :: ds, h => by
    rw [D.mrs] at h
    have := zipP_mr xs ds (by omega)
    rw [List.zipWith_cons_cons, D.mrs, this]
    simp [partD, D.mr, D.mrs]; omega
theorem strs_mr : ∀ xs : List (List Nat), D.mrs (xs.map D.str) = 0
  | [] => rfl
  | x :: xs => by simp [D.mrs, D.mr, strs_mr xs]
theorem zipW_mr : ∀ (xs : List (List Nat × List (List Nat))) (ds : List D), D.mrs ds = 0 → D.mrs (List.zipWith wayD xs ds) = 0
  | [], _, _ => rfl
  | _ :: _, [], _ => rfl
  | x :: xs, d :: ds, h => by
    rw [D.mrs] at h
    have := zipW_mr xs ds (by omega)
    rw [List.zipWith_cons_cons, D.mrs, this]
    simp [wayD, D.mr, D.mrs, strs_mr]; omega
mutual
theorem TM.mr : ∀ t : TM, t.d.mr = 0
  | .num _ => rfl
  | .name _ => rfl
  | .make _ => rfl
  | .app a b => by simp [TM.d, D.mr, D.mrs, TM.mr a, TM.mr b]
  | .op _ a b => by simp [TM.d, D.mr, D.mrs, TM.mr a, TM.mr b]
  | .fn _ b => by simp [TM.d, D.mr, D.mrs, TM.mr b]
  | .lt xs ts b => by simp [TM.d, D.mr, D.mrs, TM.mr b, zipP_mr xs _ (TM.mrs ts)]
  | .cs a ws bs => by simp [TM.d, D.mr, D.mrs, TM.mr a, zipW_mr ws _ (TM.mrs bs)]
theorem TM.mrs : ∀ ts : List TM, D.mrs (TM.ds ts) = 0
  | [] => rfl
  | t :: ts => by simp [TM.ds, D.mrs, TM.mr t, TM.mrs ts]
end
/-! ### == of terms -/
theorem eqvLT_refl {f : D → D → Option Bool} : ∀ {xs : List D}, (∀ x ∈ xs, f x x = some true) → eqvL f xs xs = some true
  | [], _ => rfl
  | x :: xs, h => by
    rw [eqvL, h x List.mem_cons_self, eqvLT_refl fun y hy => h y (List.mem_cons_of_mem _ hy)]
    rfl
theorem eqv_tup {S : Store} {n : Nat} {xs : List D} (h : ∀ x ∈ xs, D.eqv S n x x = some true) : D.eqv S (n + 1) (.tup xs) (.tup xs) = some true := by
  simp only [D.eqv]
  exact eqvLT_refl h
theorem eqv_str {S : Store} {n : Nat} (s : List Nat) : D.eqv S (n + 1) (.str s) (.str s) = some true := by simp [D.eqv]
theorem eqv_int {S : Store} {n : Nat} (i : Int) : D.eqv S (n + 1) (.int i) (.int i) = some true := by simp [D.eqv]
mutual
theorem TM.eqv (S : Store) : ∀ (t : TM) (n : Nat), 3 * t.dep + 2 ≤ n → D.eqv S n t.d t.d = some true
  | .num i, n, h => by
    obtain ⟨n, rfl⟩ : ∃ m, n = m + 2 := ⟨n - 2, by omega⟩
    exact eqv_tup fun x hx => by
      simp only [List.mem_cons, List.not_mem_nil, or_false] at hx
      rcases hx with rfl | rfl
      · exact eqv_str _
      · exact eqv_int _
  | .name y, n, h => by
    obtain ⟨n, rfl⟩ : ∃ m, n = m + 2 := ⟨n - 2, by omega⟩
    exact eqv_tup fun x hx => by
      simp only [List.mem_cons, List.not_mem_nil, or_false] at hx
      rcases hx with rfl | rfl
      · exact eqv_str _
      · exact eqv_str _
  | .make y, n, h => by
    obtain ⟨n, rfl⟩ : ∃ m, n = m + 2 := ⟨n - 2, by omega⟩
    exact eqv_tup fun x hx => by
      simp only [List.mem_cons, List.not_mem_nil, or_false] at hx
      rcases hx with rfl | rfl
      · exact eqv_str _
      · exact eqv_str _
  | .app a b, n, h => by
    simp only [TM.dep] at h
    obtain ⟨n, rfl⟩ : ∃ m, n = m + 2 := ⟨n - 2, by omega⟩
    exact eqv_tup fun x hx => by
      simp only [List.mem_cons, List.not_mem_nil, or_false] at hx
      rcases hx with rfl | rfl | rfl
      · exact eqv_str _
      · exact TM.eqv S a _ (by omega)
      · exact TM.eqv S b _ (by omega)
  | .op o a b, n, h => by
    simp only [TM.dep] at h
    obtain ⟨n, rfl⟩ : ∃ m, n = m + 2 := ⟨n - 2, by omega⟩
    exact eqv_tup fun x hx => by
      simp only [List.mem_cons, List.not_mem_nil, or_false] at hx
      rcases hx with rfl | rfl | rfl | rfl
      · exact eqv_str _
      · exact eqv_str _
      · exact TM.eqv S a _ (by omega)
      · exact TM.eqv S b _ (by omega)
  | .fn y b, n, h => by
    simp only [TM.dep] at h
    obtain ⟨n, rfl⟩ : ∃ m, n = m + 2 := ⟨n - 2, by omega⟩
    exact eqv_tup fun x hx => by
      simp only [List.mem_cons, List.not_mem_nil, or_false] at hx
      rcases hx with rfl | rfl | rfl
      · exact eqv_str _
      · exact eqv_str _
      · exact TM.eqv S b _ (by omega)
  | .lt xs ts b, n, h => by
    simp only [TM.dep] at h
    obtain ⟨n, rfl⟩ : ∃ m, n = m + 4 := ⟨n - 4, by omega⟩
    have hts := TM.eqvs S ts (n + 1) (by omega)
    refine eqv_tup fun x hx => ?_
    simp only [List.mem_cons, List.not_mem_nil, or_false] at hx
    rcases hx with rfl | rfl | rfl
    · exact eqv_str _
    · refine eqv_tup fun y hy => ?_
      obtain ⟨i, hi, rfl⟩ := List.mem_iff_getElem.mp hy
      rw [List.getElem_zipWith]
      refine eqv_tup fun z hz => ?_
      simp only [List.mem_cons, List.not_mem_nil, or_false] at hz
      rcases hz with rfl | rfl
      · exact eqv_str _
      · exact hts _ (List.getElem_mem _)
    · exact TM.eqv S b _ (by omega)
  | .cs a ws bs, n, h => by
    simp only [TM.dep] at h
    obtain ⟨n, rfl⟩ : ∃ m, n = m + 5 := ⟨n - 5, by omega⟩
    have hts := TM.eqvs S bs (n + 2) (by omega)
    refine eqv_tup fun x hx => ?_
    simp only [List.mem_cons, List.not_mem_nil, or_false] at hx
    rcases hx with rfl | rfl | rfl
    · exact eqv_str _
    · exact TM.eqv S a _ (by omega)
    · refine eqv_tup fun y hy => ?_
      obtain ⟨i, hi, rfl⟩ := List.mem_iff_getElem.mp hy
      rw [List.getElem_zipWith]
      refine eqv_tup fun z hz => ?_
      simp only [List.mem_cons, List.not_mem_nil, or_false] at hz
      rcases hz with rfl | rfl | rfl
      · exact eqv_str _
      · refine eqv_tup fun u hu => ?_
        rw [List.mem_map] at hu
        obtain ⟨s, hs, rfl⟩ := hu
        exact eqv_str _
      · exact hts _ (List.getElem_mem _)
theorem TM.eqvs (S : Store) : ∀ (ts : List TM) (n : Nat), 3 * TM.deps ts + 2 ≤ n → ∀ d ∈ TM.ds ts, D.eqv S n d d = some true
  | [], n, _, d, hd => by cases hd
  | t :: ts, n, h, d, hd => by
    simp only [TM.deps] at h
    simp only [TM.ds, List.mem_cons] at hd
    rcases hd with rfl | hd
    · exact TM.eqv S t n (by omega)
    · exact TM.eqvs S ts n (by omega) d hd
end
/-! ### what stands within a term, with the names that are bound there -/
def TM.within : TM → List (TM × List (List Nat))
  | .app a b => [(a, []), (b, [])]
  | .op _ a b => [(a, []), (b, [])]
  | .fn x b => [(b, [x])]
  | .lt xs ts b => ts.map (fun t => (t, xs)) ++ [(b, xs)]
  | .cs a ws bs => (a, []) :: List.zipWith (fun w b => (b, w.2)) ws bs
  | _ => []
theorem TM.within_size {t : TM} {p : TM × List (List Nat)} (h : p ∈ t.within) : p.1.size < t.size := by
  cases t with
  | num => cases h
  | name => cases h
  | make => cases h
  | app a b =>
    simp only [TM.within, List.mem_cons, List.not_mem_nil, or_false] at h
    simp only [TM.size]
    rcases h with rfl | rfl <;> simp <;> omega
  | op o a b =>
    simp only [TM.within, List.mem_cons, List.not_mem_nil, or_false] at h
    simp only [TM.size]
    rcases h with rfl | rfl <;> simp <;> omega
  | fn x b =>
    simp only [TM.within, List.mem_cons, List.not_mem_nil, or_false] at h
    simp only [TM.size]
    subst h; simp
  | lt xs ts b =>
    simp only [TM.within, List.mem_append, List.mem_map, List.mem_cons, List.not_mem_nil, or_false] at h
    simp only [TM.size]
    rcases h with ⟨t, ht, rfl⟩ | rfl
    · have := TM.size_le ht; simp; omega
    · simp; omega
  | cs a ws bs =>
    simp only [TM.within, List.mem_cons] at h
    simp only [TM.size]
    rcases h with rfl | h
    · simp; omega
    · obtain ⟨i, hi, rfl⟩ := List.mem_iff_getElem.mp h
      rw [List.getElem_zipWith]
      rw [List.length_zipWith] at hi
      have := TM.size_le (ts := bs) (t := bs[i]'(by omega)) (List.getElem_mem _)
      simp; omega
theorem TM.within_ok {t : TM} (ok : t.ok) {p : TM × List (List Nat)} (h : p ∈ t.within) : p.1.ok ∧ p.2.length ≤ 3 ∧ p.1.dep < t.dep := by
  cases t with
  | num => cases h
  | name => cases h
  | make => cases h
  | app a b =>
    simp only [TM.within, List.mem_cons, List.not_mem_nil, or_false] at h
    simp only [TM.dep]
    rcases h with rfl | rfl
    · exact ⟨ok.1, by simp, by simp; omega⟩
    · exact ⟨ok.2, by simp, by simp; omega⟩
  | op o a b =>
    simp only [TM.within, List.mem_cons, List.not_mem_nil, or_false] at h
    simp only [TM.dep]
    rcases h with rfl | rfl
    · exact ⟨ok.2.1, by simp, by simp; omega⟩
    · exact ⟨ok.2.2, by simp, by simp; omega⟩
  | fn x b =>
    simp only [TM.within, List.mem_cons, List.not_mem_nil, or_false] at h
    simp only [TM.dep]
    subst h; exact ⟨ok.2, by simp, by simp⟩
  | lt xs ts b =>
    simp only [TM.within, List.mem_append, List.mem_map, List.mem_cons, List.not_mem_nil, or_false] at h
    simp only [TM.dep]
    rcases h with ⟨t, ht, rfl⟩ | rfl
    · have := TM.dep_le ht
      exact ⟨TM.oks_iff.mp ok.2.1 t ht, ok.1.2.2.1, by simp; omega⟩
    · exact ⟨ok.2.2, ok.1.2.2.1, by simp; omega⟩
  | cs a ws bs =>
    simp only [TM.within, List.mem_cons] at h
    simp only [TM.dep]
    rcases h with rfl | h
    · exact ⟨ok.2.1, by simp, by simp; omega⟩
    · obtain ⟨i, hi, rfl⟩ := List.mem_iff_getElem.mp h
      rw [List.getElem_zipWith]
      rw [List.length_zipWith] at hi
      have := TM.dep_le (ts := bs) (t := bs[i]'(by omega)) (List.getElem_mem _)
      exact ⟨TM.oks_iff.mp ok.2.2 _ (List.getElem_mem _), (ok.1.1 _ (List.getElem_mem _)).2.2, by simp; omega⟩
def headFv (t : TM) (bd : List (List Nat)) : List (List Nat) := match t with
  | .name x => if bd.contains x then [] else [x]
  | _ => []
/-- the names that are free, in the order in which they stand -/
def TM.fvN : Nat → TM → List (List Nat) → List (List Nat)
  | 0, _, _ => []
  | n + 1, t, bd => headFv t bd ++ t.within.flatMap fun p => TM.fvN n p.1 (bd ++ p.2)
theorem TM.fvN_eq (n : Nat) (t : TM) (bd : List (List Nat)) : TM.fvN (n + 1) t bd = headFv t bd ++ t.within.flatMap fun p => TM.fvN n p.1 (bd ++ p.2) := by
  rw [TM.fvN]
/-- enough is enough -/
theorem TM.fvN_more : ∀ (n m : Nat) (t : TM) (bd : List (List Nat)), t.size ≤ n → n ≤ m → TM.fvN m t bd = TM.fvN n t bd
  | 0, m, t, bd, h, _ => by cases t <;> simp [TM.size] at h <;> omega
  | n + 1, 0, t, bd, _, h => by omega
  | n + 1, m + 1, t, bd, h, l => by
    rw [TM.fvN_eq, TM.fvN_eq]
    congr 1
    rw [List.flatMap_def, List.flatMap_def]
    congr 1
    refine List.map_congr_left fun p hp => ?_
    have := TM.within_size hp
    exact TM.fvN_more n m p.1 _ (by omega) (by omega)
def TM.fv (t : TM) (bd : List (List Nat)) : List (List Nat) := TM.fvN t.size t bd
theorem TM.fv_eq (t : TM) (bd : List (List Nat)) : t.fv bd = headFv t bd ++ t.within.flatMap fun p => p.1.fv (bd ++ p.2) := by
  have hs : ∃ n, t.size = n + 1 := ⟨t.size - 1, by cases t <;> simp [TM.size] <;> omega⟩
  obtain ⟨n, hn⟩ := hs
  unfold TM.fv
  rw [hn, TM.fvN_eq]
  congr 1
  rw [List.flatMap_def, List.flatMap_def]
  congr 1
  refine List.map_congr_left fun p hp => ?_
  have := TM.within_size hp
  exact TM.fvN_more _ _ p.1 _ (Nat.le_refl _) (by omega)
theorem sum_sizes (t : TM) : (t.within.map fun p => p.1.size).sum + 1 ≤ t.size := by
  cases t with
  | num => simp [TM.within, TM.size]
  | name => simp [TM.within, TM.size]
  | make => simp [TM.within, TM.size]
  | app a b => simp [TM.within, TM.size]; omega
  | op o a b => simp [TM.within, TM.size]; omega
  | fn x b => simp [TM.within, TM.size]; omega
  | lt xs ts b =>
    have : (ts.map fun t => t.size).sum = TM.sizes ts := by
      induction ts with
      | nil => rfl
      | cons t ts ih => simp [TM.sizes, ih]
    simp [TM.within, TM.size, Function.comp_def, this]; omega
  | cs a ws bs =>
    have : ((List.zipWith (fun (w : List Nat × List (List Nat)) b => (b, w.2)) ws bs).map fun p : TM × List (List Nat) => p.1.size).sum ≤ TM.sizes bs := by
      induction bs generalizing ws with
      | nil => cases ws <;> simp [TM.sizes]
      | cons b bs ih =>
        cases ws with
        | nil => simp
        | cons w ws =>
          have := ih ws
          simp only [List.zipWith_cons_cons, List.map_cons, List.sum_cons, TM.sizes]
          omega
    simp only [TM.within, TM.size, List.map_cons, List.sum_cons]; omega
theorem TM.fv_len (n : Nat) : ∀ (t : TM) (bd : List (List Nat)), t.size ≤ n → (t.fv bd).length ≤ t.size := by
  induction n with
  | zero => intro t bd h; cases t <;> simp [TM.size] at h <;> omega
  | succ n ih =>
    intro t bd h
    rw [TM.fv_eq, List.length_append, List.length_flatMap]
    have h1 : (headFv t bd).length ≤ 1 := by
      unfold headFv
      split
      · split <;> simp
      · simp
    have h2 : (t.within.map fun p => (p.1.fv (bd ++ p.2)).length).sum ≤ (t.within.map fun p => p.1.size).sum := by
      have : ∀ l : List (TM × List (List Nat)), (∀ p ∈ l, p.1.size ≤ n) → (l.map fun p => (p.1.fv (bd ++ p.2)).length).sum ≤ (l.map fun p => p.1.size).sum := by
        intro l
        induction l with
        | nil => intro _; simp
        | cons p l ihl =>
          intro hl
          have a1 := ih p.1 (bd ++ p.2) (hl p List.mem_cons_self)
          have a2 := ihl fun q hq => hl q (List.mem_cons_of_mem _ hq)
          simp only [List.map_cons, List.sum_cons]; omega
      exact this _ fun p hp => by have := TM.within_size hp; omega
    have h3 := sum_sizes t
    by_cases hw : t.within = []
    · rw [hw] at h2 h3 ⊢
      simp at h2 h3 ⊢
      omega
    · have h0 : (headFv t bd) = [] := by
        cases t <;> first | rfl | exact absurd rfl hw
      rw [h0]
      simp only [List.length_nil]
      omega
/-! ### words -/
theorem tg_num_num : ((S! "num") == (S! "num")) = true := by decide +kernel
theorem tg_num_name : ((S! "num") == (S! "name")) = false := by decide +kernel
theorem tg_num_make : ((S! "num") == (S! "make")) = false := by decide +kernel
theorem tg_num_app : ((S! "num") == (S! "app")) = false := by decide +kernel
theorem tg_num_op : ((S! "num") == (S! "op")) = false := by decide +kernel
theorem tg_num_fun : ((S! "num") == (S! "fun")) = false := by decide +kernel
theorem tg_num_let : ((S! "num") == (S! "let")) = false := by decide +kernel
theorem tg_num_case : ((S! "num") == (S! "case")) = false := by decide +kernel
theorem tg_name_num : ((S! "name") == (S! "num")) = false := by decide +kernel
theorem tg_name_name : ((S! "name") == (S! "name")) = true := by decide +kernel
theorem tg_name_make : ((S! "name") == (S! "make")) = false := by decide +kernel
theorem tg_name_app : ((S! "name") == (S! "app")) = false := by decide +kernel
theorem tg_name_op : ((S! "name") == (S! "op")) = false := by decide +kernel
theorem tg_name_fun : ((S! "name") == (S! "fun")) = false := by decide +kernel
theorem tg_name_let : ((S! "name") == (S! "let")) = false := by decide +kernel
theorem tg_name_case : ((S! "name") == (S! "case")) = false := by decide +kernel
theorem tg_make_num : ((S! "make") == (S! "num")) = false := by decide +kernel
theorem tg_make_name : ((S! "make") == (S! "name")) = false := by decide +kernel
theorem tg_make_make : ((S! "make") == (S! "make")) = true := by decide +kernel
theorem tg_make_app : ((S! "make") == (S! "app")) = false := by decide +kernel
theorem tg_make_op : ((S! "make") == (S! "op")) = false := by decide +kernel
theorem tg_make_fun : ((S! "make") == (S! "fun")) = false := by decide +kernel
theorem tg_make_let : ((S! "make") == (S! "let")) = false := by decide +kernel
theorem tg_make_case : ((S! "make") == (S! "case")) = false := by decide +kernel
theorem tg_app_num : ((S! "app") == (S! "num")) = false := by decide +kernel
theorem tg_app_name : ((S! "app") == (S! "name")) = false := by decide +kernel
theorem tg_app_make : ((S! "app") == (S! "make")) = false := by decide +kernel
theorem tg_app_app : ((S! "app") == (S! "app")) = true := by decide +kernel
theorem tg_app_op : ((S! "app") == (S! "op")) = false := by decide +kernel
theorem tg_app_fun : ((S! "app") == (S! "fun")) = false := by decide +kernel
theorem tg_app_let : ((S! "app") == (S! "let")) = false := by decide +kernel
theorem tg_app_case : ((S! "app") == (S! "case")) = false := by decide +kernel
theorem tg_op_num : ((S! "op") == (S! "num")) = false := by decide +kernel
theorem tg_op_name : ((S! "op") == (S! "name")) = false := by decide +kernel
theorem tg_op_make : ((S! "op") == (S! "make")) = false := by decide +kernel
theorem tg_op_app : ((S! "op") == (S! "app")) = false := by decide +kernel
theorem tg_op_op : ((S! "op") == (S! "op")) = true := by decide +kernel
theorem tg_op_fun : ((S! "op") == (S! "fun")) = false := by decide +kernel
theorem tg_op_let : ((S! "op") == (S! "let")) = false := by decide +kernel
theorem tg_op_case : ((S! "op") == (S! "case")) = false := by decide +kernel
theorem tg_fun_num : ((S! "fun") == (S! "num")) = false := by decide +kernel
theorem tg_fun_name : ((S! "fun") == (S! "name")) = false := by decide +kernel
theorem tg_fun_make : ((S! "fun") == (S! "make")) = false := by decide +kernel
theorem tg_fun_app : ((S! "fun") == (S! "app")) = false := by decide +kernel
theorem tg_fun_op : ((S! "fun") == (S! "op")) = false := by decide +kernel
theorem tg_fun_fun : ((S! "fun") == (S! "fun")) = true := by decide +kernel
theorem tg_fun_let : ((S! "fun") == (S! "let")) = false := by decide +kernel
theorem tg_fun_case : ((S! "fun") == (S! "case")) = false := by decide +kernel
theorem tg_let_num : ((S! "let") == (S! "num")) = false := by decide +kernel
theorem tg_let_name : ((S! "let") == (S! "name")) = false := by decide +kernel
theorem tg_let_make : ((S! "let") == (S! "make")) = false := by decide +kernel
theorem tg_let_app : ((S! "let") == (S! "app")) = false := by decide +kernel
theorem tg_let_op : ((S! "let") == (S! "op")) = false := by decide +kernel
theorem tg_let_fun : ((S! "let") == (S! "fun")) = false := by decide +kernel
theorem tg_let_let : ((S! "let") == (S! "let")) = true := by decide +kernel
theorem tg_let_case : ((S! "let") == (S! "case")) = false := by decide +kernel
theorem tg_case_num : ((S! "case") == (S! "num")) = false := by decide +kernel
theorem tg_case_name : ((S! "case") == (S! "name")) = false := by decide +kernel
theorem tg_case_make : ((S! "case") == (S! "make")) = false := by decide +kernel
theorem tg_case_app : ((S! "case") == (S! "app")) = false := by decide +kernel
theorem tg_case_op : ((S! "case") == (S! "op")) = false := by decide +kernel
theorem tg_case_fun : ((S! "case") == (S! "fun")) = false := by decide +kernel
theorem tg_case_let : ((S! "case") == (S! "let")) = false := by decide +kernel
theorem tg_case_case : ((S! "case") == (S! "case")) = true := by decide +kernel
def fstP : D → D
  | .tup (a :: _) => a
  | _ => .non

/-! ### what within tells -/
def WAt (n0 : Nat) (S : Store) : List (TM × List (List Nat)) → List D → Prop
  | [], [] => True
  | p :: ps, d :: ds => (∃ q, n0 ≤ q ∧ d = .tup [p.1.d, .ref q] ∧ S[q]? = some (.lst (p.2.map .str))) ∧ WAt n0 S ps ds
  | _, _ => False
theorem WAt.push {n0 : Nat} {S : Store} (T : List SO) : ∀ {ps : List (TM × List (List Nat))} {ds : List D}, WAt n0 S ps ds → WAt n0 (S ++ T) ps ds
  | [], [], _ => trivial
  | [], _ :: _, h => h.elim
  | _ :: _, [], h => h.elim
  | p :: ps, d :: ds, ⟨⟨q, hn, e, h⟩, t⟩ => ⟨⟨q, hn, e, by rw [List.getElem?_append_left (List.getElem?_eq_some_iff.mp h).1]; exact h⟩, WAt.push T t⟩
theorem WAt.append {n0 : Nat} {S : Store} : ∀ {ps qs : List (TM × List (List Nat))} {ds es : List D}, WAt n0 S ps ds → WAt n0 S qs es → WAt n0 S (ps ++ qs) (ds ++ es)
  | [], _, [], _, _, h => h
  | [], _, _ :: _, _, h, _ => h.elim
  | _ :: _, _, [], _, h, _ => h.elim
  | p :: ps, _, d :: ds, _, ⟨h, t⟩, g => ⟨h, WAt.append t g⟩
theorem WAt.length {n0 : Nat} {S : Store} : ∀ {ps : List (TM × List (List Nat))} {ds : List D}, WAt n0 S ps ds → ds.length = ps.length
  | [], [], _ => rfl
  | [], _ :: _, h => h.elim
  | _ :: _, [], h => h.elim
  | p :: ps, d :: ds, ⟨_, t⟩ => by simp [WAt.length t]
theorem WAt.get {n0 : Nat} {S : Store} : ∀ {ps : List (TM × List (List Nat))} {ds : List D} {i : Nat} {d : D}, WAt n0 S ps ds → ds[i]? = some d → ∃ p q, ps[i]? = some p ∧ n0 ≤ q ∧ d = .tup [p.1.d, .ref q] ∧ S[q]? = some (.lst (p.2.map .str))
  | [], [], _, _, _, h => by simp at h
  | [], _ :: _, _, _, h, _ => h.elim
  | _ :: _, [], _, _, h, _ => h.elim
  | p :: ps, d :: ds, 0, e, ⟨⟨q, hn, h1, h2⟩, _⟩, h => by
    simp at h
    subst h
    exact ⟨p, q, rfl, hn, h1, h2⟩
  | p :: ps, d :: ds, i + 1, e, ⟨_, t⟩, h => by
    obtain ⟨p', q, a1, a0, a2, a3⟩ := WAt.get (i := i) t (by simpa using h)
    exact ⟨p', q, by simpa using a1, a0, a2, a3⟩
theorem WAt.take {n0 : Nat} {S : Store} {n : Nat} : ∀ {ps : List (TM × List (List Nat))} {ds : List D}, D.mrs ds ≤ n → WAt n0 S ps ds → WAt n0 (S.take n) ps ds
  | [], [], _, _ => trivial
  | [], _ :: _, _, h => h.elim
  | _ :: _, [], _, h => h.elim
  | p :: ps, d :: ds, l, ⟨⟨q, hn, e, h⟩, t⟩ => by
    rw [D.mrs] at l
    refine ⟨⟨q, hn, e, ?_⟩, WAt.take (by omega) t⟩
    have : q + 1 ≤ d.mr := by rw [e]; simp [D.mr, D.mrs]; omega
    rw [List.getElem?_take_of_lt (by omega)]; exact h
theorem WAt.same {n0 : Nat} {S : Store} {q : Nat} {xs : List (List Nat)} (hn : n0 ≤ q) (h : S[q]? = some (.lst (xs.map .str))) : ∀ ts : List TM, WAt n0 S (ts.map fun t => (t, xs)) (ts.map fun t => .tup [t.d, .ref q])
  | [] => trivial
  | t :: ts => ⟨⟨q, hn, rfl, h⟩, WAt.same hn h ts⟩
/-- the end of within -/
theorem fin_w {n0 : Nat} {S T : Store} {k : Nat} {ds : List D} {ps : List (TM × List (List Nat))} (hk : S.length ≤ k) (h : (S ++ T)[k]? = some (.lst ds)) (w : WAt n0 (S ++ T) ps ds) {d1 : D} {S1 : Store} (e : packed S.length (.ref k) (S ++ T) none = .ok d1 S1 none) :
    ∃ k ds T, d1 = .ref k ∧ S1 = S ++ T ∧ S1[k]? = some (.lst ds) ∧ WAt n0 S1 ps ds ∧ S.length ≤ k := by
  unfold packed escOk at e
  simp only [if_true, D.mr, h] at e
  rw [if_neg (by omega)] at e
  split at e
  · rename_i hm
    rw [List.take_left] at e
    cases e
    refine ⟨S.length, ds, [.lst ds], rfl, rfl, by simp, ?_, Nat.le_refl _⟩
    have := (WAt.take hm w).push [.lst ds]
    rw [List.take_left] at this
    exact this
  · cases e
    exact ⟨k, ds, T, rfl, rfl, h, w, hk⟩
def sndD : D → D
  | .tup [_, b] => b
  | _ => .non
theorem fst_parts : ∀ {xs : List (List Nat)} {ts : List TM}, xs.length = ts.length → (List.zipWith partD xs (TM.ds ts)).map fstP = xs.map D.str
  | [], [], _ => rfl
  | [], _ :: _, h => by simp at h
  | _ :: _, [], h => by simp at h
  | x :: xs, t :: ts, h => by
    simp only [TM.ds, List.zipWith_cons_cons, List.map_cons, fst_parts (xs := xs) (ts := ts) (by simpa using h)]
    rfl
theorem snd_parts (q : Nat) : ∀ {xs : List (List Nat)} {ts : List TM}, xs.length = ts.length → (List.zipWith partD xs (TM.ds ts)).map (fun p => D.tup [sndD p, .ref q]) = ts.map fun t => .tup [t.d, .ref q]
  | [], [], _ => rfl
  | [], _ :: _, h => by simp at h
  | _ :: _, [], h => by simp at h
  | x :: xs, t :: ts, h => by
    simp only [TM.ds, List.zipWith_cons_cons, List.map_cons, snd_parts q (xs := xs) (ts := ts) (by simpa using h)]
    rfl
theorem mem_parts {xs : List (List Nat)} {ts : List TM} {p : D} (h : p ∈ List.zipWith partD xs (TM.ds ts)) : ∃ x t, x ∈ xs ∧ t ∈ ts ∧ p = .tup [.str x, t.d] := by
  obtain ⟨i, hi, rfl⟩ := List.mem_iff_getElem.mp h
  rw [List.getElem_zipWith]
  rw [List.length_zipWith, TM.ds_map, List.length_map] at hi
  refine ⟨xs[i]'(by omega), ts[i]'(by omega), List.getElem_mem _, List.getElem_mem _, ?_⟩
  simp [partD, TM.ds_map]
theorem get_ways {ws : List (List Nat × List (List Nat))} {bs : List TM} {i : Nat} {d : D} (h : (List.zipWith wayD ws (TM.ds bs))[i]? = some d) : ∃ w b, ws[i]? = some w ∧ bs[i]? = some b ∧ d = .tup [.str w.1, .tup (w.2.map .str), b.d] := by
  have hi := (List.getElem?_eq_some_iff.mp h).1
  rw [List.length_zipWith, TM.ds_map, List.length_map] at hi
  refine ⟨ws[i]'(by omega), bs[i]'(by omega), List.getElem?_eq_getElem _, List.getElem?_eq_getElem _, ?_⟩
  rw [List.getElem?_eq_getElem (by rw [List.length_zipWith, TM.ds_map, List.length_map]; omega), Option.some.injEq, List.getElem_zipWith] at h
  rw [← h]
  simp [wayD, TM.ds_map]
theorem get_parts {xs : List (List Nat)} {ts : List TM} {i : Nat} {d : D} (h : (List.zipWith partD xs (TM.ds ts))[i]? = some d) : ∃ x t, xs[i]? = some x ∧ ts[i]? = some t ∧ d = .tup [.str x, t.d] := by
  have hi := (List.getElem?_eq_some_iff.mp h).1
  rw [List.length_zipWith, TM.ds_map, List.length_map] at hi
  refine ⟨xs[i]'(by omega), ts[i]'(by omega), List.getElem?_eq_getElem _, List.getElem?_eq_getElem _, ?_⟩
  rw [List.getElem?_eq_getElem (by rw [List.length_zipWith, TM.ds_map, List.length_map]; omega), Option.some.injEq, List.getElem_zipWith] at h
  rw [← h]
  simp [partD, TM.ds_map]
theorem eq_of2 {r : Res D} {x : D} {S0 : Store} (h : Pst r (fun a S' => a = x ∧ S' = S0)) : r = .ok x S0 none := by
  obtain ⟨d, S', e, rfl, rfl⟩ := h.ex
  exact e
theorem PstS.append_ {C : Ctx} {xs ys : List CS} : ∀ {σ : Envr} {S : Store} {nx : Envr → Store → Prop} {rt : D → Store → Prop}, PstS (evSs C xs σ S) (fun σ S => PstS (evSs C ys σ S) nx rt) rt → PstS (evSs C (xs ++ ys) σ S) nx rt := by
  induction xs with
  | nil =>
    intro σ S nx rt h
    rw [evSs] at h
    exact h
  | cons x xs ih =>
    intro σ S nx rt h
    rw [evSs, PstS.seq_] at h
    rw [List.cons_append, evSs, PstS.seq_]
    exact h.mono (fun σ S h => ih h) fun _ _ h => h
theorem turns_idx {f : D → Store → Res (Option D)} {keep : List (Nat × List D)} {S : Store} (hk : Src.holds S keep = true) : ∀ (items ys acc : List D), ys.length = items.length → (∀ (i : Nat) (x y : D), items[i]? = some x → ys[i]? = some y → f x S = .ok (some y) S none) → acc.length + items.length ≤ sizeL →
    evTurns f keep items acc S = .ok (acc ++ ys) S none
  | [], [], acc, _, _, _ => by
    unfold evTurns
    rw [if_pos hk]; simp
  | [], _ :: _, _, h, _, _ => by simp at h
  | _ :: _, [], _, h, _, _ => by simp at h
  | x :: xs, y :: ys, acc, hl, h, hz => by
    unfold evTurns
    simp only [List.length_cons] at hz hl
    rw [if_pos hk, h 0 x y rfl rfl]
    simp only [Res.bind]
    rw [if_pos (by omega), turns_idx hk xs ys (acc ++ [y]) (by omega) (fun i a b h1 h2 => h (i + 1) a b (by simpa using h1) (by simpa using h2)) (by simp; omega)]
    simp [Res.note, emin]
/-! ### putting for a name -/
mutual
def TM.put (x : List Nat) (c : TM) : TM → TM
  | .num i => .num i
  | .name y => if (y == x) = true then c else .name y
  | .make y => .make y
  | .app a b => .app (TM.put x c a) (TM.put x c b)
  | .op o a b => .op o (TM.put x c a) (TM.put x c b)
  | .fn y b => if (y == x) = true then .fn y b else .fn y (TM.put x c b)
  | .lt xs ts b => if xs.contains x = true then .lt xs ts b else .lt xs (TM.puts x c ts) (TM.put x c b)
  | .cs a ws bs => .cs (TM.put x c a) ws (TM.putw x c ws bs)
def TM.puts (x : List Nat) (c : TM) : List TM → List TM
  | [] => []
  | t :: ts => TM.put x c t :: TM.puts x c ts
def TM.putw (x : List Nat) (c : TM) : List (List Nat × List (List Nat)) → List TM → List TM
  | _, [] => []
  | [], b :: bs => b :: TM.putw x c [] bs
  | w :: ws, b :: bs => (if w.2.contains x = true then b else TM.put x c b) :: TM.putw x c ws bs
end
theorem TM.puts_map (x : List Nat) (c : TM) : ∀ ts : List TM, TM.puts x c ts = ts.map (TM.put x c)
  | [] => by simp [TM.puts]
  | t :: ts => by simp [TM.puts, TM.puts_map x c ts]
theorem TM.putw_len (x : List Nat) (c : TM) : ∀ (bs : List TM) (ws : List (List Nat × List (List Nat))), (TM.putw x c ws bs).length = bs.length
  | [], ws => by cases ws <;> simp [TM.putw]
  | b :: bs, [] => by simp [TM.putw, TM.putw_len x c bs []]
  | b :: bs, w :: ws => by simp [TM.putw, TM.putw_len x c bs ws]
theorem TM.putw_get (x : List Nat) (c : TM) : ∀ {bs : List TM} {ws : List (List Nat × List (List Nat))} {i : Nat} {w : List Nat × List (List Nat)} {b : TM}, ws[i]? = some w → bs[i]? = some b → (TM.putw x c ws bs)[i]? = some (if w.2.contains x = true then b else TM.put x c b)
  | [], _, _, _, _, _, h => by simp at h
  | b :: bs, [], _, _, _, h, _ => by simp at h
  | b :: bs, w :: ws, 0, w', b', h1, h2 => by
    simp at h1 h2
    subst h1 h2
    simp [TM.putw]
  | b :: bs, w :: ws, i + 1, w', b', h1, h2 => by
    simp only [TM.putw, List.getElem?_cons_succ] at h1 h2 ⊢
    exact TM.putw_get x c h1 h2
mutual
theorem TM.put_dep (x : List Nat) (c : TM) : ∀ t : TM, (TM.put x c t).dep ≤ t.dep + c.dep
  | .num i => by simp [TM.put, TM.dep]
  | .name y => by
    rw [TM.put]
    split <;> simp [TM.dep]
  | .make y => by simp [TM.put, TM.dep]
  | .app a b => by
    have h1 := TM.put_dep x c a
    have h2 := TM.put_dep x c b
    simp only [TM.put, TM.dep]; omega
  | .op o a b => by
    have h1 := TM.put_dep x c a
    have h2 := TM.put_dep x c b
    simp only [TM.put, TM.dep]; omega
  | .fn y b => by
    have h2 := TM.put_dep x c b
    rw [TM.put]
    split <;> simp only [TM.dep] <;> omega
  | .lt xs ts b => by
    have h1 := TM.puts_dep x c ts
    have h2 := TM.put_dep x c b
    rw [TM.put]
    split <;> simp only [TM.dep] <;> omega
  | .cs a ws bs => by
    have h1 := TM.put_dep x c a
    have h2 := TM.putw_dep x c bs ws
    simp only [TM.put, TM.dep]; omega
theorem TM.puts_dep (x : List Nat) (c : TM) : ∀ ts : List TM, TM.deps (TM.puts x c ts) ≤ TM.deps ts + c.dep
  | [] => by simp [TM.puts, TM.deps]
  | t :: ts => by
    have h1 := TM.put_dep x c t
    have h2 := TM.puts_dep x c ts
    simp only [TM.puts, TM.deps]; omega
theorem TM.putw_dep (x : List Nat) (c : TM) : ∀ (bs : List TM) (ws : List (List Nat × List (List Nat))), TM.deps (TM.putw x c ws bs) ≤ TM.deps bs + c.dep
  | [], ws => by cases ws <;> simp [TM.putw, TM.deps]
  | b :: bs, [] => by
    have h2 := TM.putw_dep x c bs []
    simp only [TM.putw, TM.deps]; omega
  | b :: bs, w :: ws => by
    have h1 := TM.put_dep x c b
    have h2 := TM.putw_dep x c bs ws
    simp only [TM.putw, TM.deps]
    split <;> omega
end
theorem ix_last {S : Store} {k : Nat} {xs : List D} {x : D} (h : S[k]? = some (.lst xs)) (hx : xs[xs.length - 1]? = some x) : ixEv (.ref k) (.int (-1)) S = .ok x S none := by
  have hl := (List.getElem?_eq_some_iff.mp hx).1
  simp only [ixEv, D.dict?, D.seq?, D.lst?, h]
  unfold ixN
  rw [if_neg (by omega), if_pos (by omega), show (-1 + (xs.length : Int)).toNat = xs.length - 1 by omega]
  simp only [hx, ofOpt]
theorem set_mid (S T : Store) (o o' : SO) : (S ++ [o] ++ T).set S.length o' = S ++ [o'] ++ T := by
  rw [List.append_assoc, List.set_append_right _ _ (Nat.le_refl _)]
  simp
theorem get_mid (S T : Store) (o o' : SO) {q : Nat} (h : S.length + 1 ≤ q) : (S ++ [o] ++ T)[q]? = (S ++ [o'] ++ T)[q]? := by
  rw [List.getElem?_append_right (by simp; omega), List.getElem?_append_right (by simp; omega)]
  simp
theorem texts_map : ∀ ts : List (List Nat), textsD (ts.map D.str) = some ts
  | [] => rfl
  | t :: ts => by simp [textsD, texts_map ts]
theorem sorted_lst {S : Store} {k : Nat} {ts : List (List Nat)} (h : S[k]? = some (.lst (ts.map .str))) (hz : ts.length ≤ 100000) : biEv .sorted [.ref k] S = .ok (.ref S.length) (S ++ [.lst ((sortT ts).map .str)]) none := by
  simp only [biEv, D.dict1?, D.lst?, h, Option.bind_some, texts_map]
  rw [if_pos (by unfold sizeL; omega)]
theorem fvN_nm : ∀ (n : Nat) (t : TM) (bd : List (List Nat)), t.ok → ∀ x ∈ TM.fvN n t bd, Nm x
  | 0, t, bd, _, x, h => by simp [TM.fvN] at h
  | n + 1, t, bd, ok, x, h => by
    rw [TM.fvN_eq, List.mem_append] at h
    rcases h with h | h
    · cases t with
      | name y =>
        unfold headFv at h
        simp only at h
        split at h
        · cases h
        · have : x = y := by simpa using h
          rw [this]; exact ok
      | _ => cases h
    · rw [List.mem_flatMap] at h
      obtain ⟨p, hp, hx⟩ := h
      exact fvN_nm n p.1 _ (TM.within_ok ok hp).1 x hx
theorem fv_nm {t : TM} (ok : t.ok) {bd : List (List Nat)} : ∀ x ∈ t.fv bd, Nm x := fvN_nm _ t bd ok
theorem cmp_tm (S : Store) (t : TM) (h : 3 * t.dep + 2 ≤ 1200) : cmpEv .eq t.d t.d S = .ok (.bl true) S none := by
  show resB (D.eqv S 1200 t.d t.d) false S = _
  rw [TM.eqv S t 1200 h]
  rfl
/-! ### names, each once -/
def putAll (kvs : List (D × D)) (xs : List (List Nat)) : List (D × D) := xs.foldl (fun acc x => dput (.str x) (.bl true) acc) kvs
theorem putAll_app (kvs : List (D × D)) (xs ys : List (List Nat)) : putAll kvs (xs ++ ys) = putAll (putAll kvs xs) ys := by
  unfold putAll
  rw [List.foldl_append]
theorem dput_keys {kvs : List (D × D)} {ks : List (List Nat)} (h : kvs.map (·.1) = ks.map D.str) (x : List Nat) (v : D) : (dput (.str x) v kvs).map (·.1) = (addK ks x).map D.str := by
  have ha : (kvs.any fun p => decide (p.1 = D.str x)) = hasK ks x := by
    have e : (kvs.any fun p => decide (p.1 = D.str x)) = (kvs.map (·.1)).any fun d => decide (d = D.str x) := by rw [List.any_map]; rfl
    rw [e, h, List.any_map]
    unfold hasK
    congr 1
    funext k
    simp [Function.comp]
  unfold dput addK
  rw [ha]
  cases hasK ks x with
  | true =>
    simp only [if_true]
    rw [List.map_map, ← h]
    refine List.map_congr_left fun p _ => ?_
    simp only [Function.comp]
    split <;> rfl
  | false =>
    simp [h]
theorem putAll_keys : ∀ (xs : List (List Nat)) {kvs : List (D × D)} {ks : List (List Nat)}, kvs.map (·.1) = ks.map D.str → (putAll kvs xs).map (·.1) = (xs.foldl addK ks).map D.str
  | [], _, _, h => h
  | x :: xs, kvs, ks, h => putAll_keys xs (dput_keys h x (.bl true))
theorem dput_len (k v : D) (kvs : List (D × D)) : (dput k v kvs).length ≤ kvs.length + 1 := by
  unfold dput
  split <;> simp
theorem putAll_len : ∀ (xs : List (List Nat)) (kvs : List (D × D)), (putAll kvs xs).length ≤ kvs.length + xs.length
  | [], kvs => Nat.le_refl _
  | x :: xs, kvs => by
    have h1 := putAll_len xs (dput (.str x) (.bl true) kvs)
    have h2 := dput_len (.str x) (.bl true) kvs
    show (putAll (dput (.str x) (.bl true) kvs) xs).length ≤ _
    rw [List.length_cons]; omega
theorem addK_mem {α : Type} [DecidableEq α] (ks : List α) (x y : α) : y ∈ addK ks x ↔ y ∈ ks ∨ y = x := by
  unfold addK
  rw [hasK_mem]
  by_cases h : x ∈ ks
  · rw [if_pos (by simpa using h)]
    constructor
    · exact .inl
    · rintro (a | rfl)
      · exact a
      · exact h
  · rw [if_neg (by simpa using h)]
    simp
theorem foldK_mem {α : Type} [DecidableEq α] : ∀ (xs ks : List α) (y : α), y ∈ xs.foldl addK ks ↔ y ∈ ks ∨ y ∈ xs
  | [], ks, y => by simp
  | x :: xs, ks, y => by
    rw [List.foldl_cons, foldK_mem xs, addK_mem, List.mem_cons, or_assoc]
theorem addK_nodup {α : Type} [DecidableEq α] {ks : List α} (h : ks.Nodup) (x : α) : (addK ks x).Nodup := by
  unfold addK
  rw [hasK_mem]
  by_cases hx : x ∈ ks
  · rw [if_pos (by simpa using hx)]; exact h
  · rw [if_neg (by simpa using hx), List.nodup_append]
    refine ⟨h, by simp, fun a ha b hb => ?_⟩
    have : b = x := by simpa using hb
    subst this
    rintro rfl; exact hx ha
theorem foldK_nodup {α : Type} [DecidableEq α] : ∀ (xs : List α) {ks : List α}, ks.Nodup → (xs.foldl addK ks).Nodup
  | [], _, h => h
  | x :: xs, _, h => foldK_nodup xs (addK_nodup h x)
theorem foldK_sub {α : Type} [DecidableEq α] : ∀ (xs ks : List α), (xs.foldl addK ks).Sublist (ks ++ xs)
  | [], ks => by simp
  | x :: xs, ks => by
    refine (foldK_sub xs (addK ks x)).trans ?_
    unfold addK
    split
    · exact List.Sublist.append (List.Sublist.refl _) (List.sublist_cons_self _ _)
    · rw [List.append_assoc]; exact List.Sublist.refl _
theorem sort_once (xs : List (List Nat)) : sortT (setK xs) = setK (sortT xs) := by
  unfold setK
  refine List.Perm.eq_of_pairwise (le := fun a b => leT a b = true) (fun a b _ _ => leT_anti) (sortT_pair _) ?_ ?_
  · have := foldK_sub (sortT xs) []
    rw [List.nil_append] at this
    exact (sortT_pair xs).sublist this
  · refine (sortT_perm _).trans ?_
    rw [List.perm_ext_iff_of_nodup (foldK_nodup _ List.nodup_nil) (foldK_nodup _ List.nodup_nil)]
    intro y
    rw [foldK_mem, foldK_mem, (sortT_perm xs).mem_iff]
theorem setK_len {α : Type} [DecidableEq α] (xs : List α) : (setK xs).length ≤ xs.length := by
  have := (setK_acc xs [] List.nodup_nil).1
  simpa [setK] using this
theorem sorted_dict {S : Store} {k : Nat} {kvs : List (D × D)} {ks : List (List Nat)} (h : S[k]? = some (.dict kvs)) (hk : kvs.map (·.1) = ks.map D.str) (hz : ks.length ≤ 100000) : biEv .sorted [.ref k] S = .ok (.ref S.length) (S ++ [.lst ((sortT ks).map .str)]) none := by
  simp only [biEv, D.dict1?, h, hk, texts_map]
  rw [if_pos (by unfold sizeL; omega)]
theorem eqv_lsts {S : Store} {a b n : Nat} {L : List (List Nat)} (ha : S[a]? = some (.lst (L.map .str))) (hb : S[b]? = some (.lst (L.map .str))) : D.eqv S (n + 1 + 1) (.ref a) (.ref b) = some true := by
  have e : eqvL (D.eqv S (n + 1)) (L.map D.str) (L.map D.str) = some true := eqvLT_refl fun x hx => by
    rw [List.mem_map] at hx
    obtain ⟨s, _, rfl⟩ := hx
    exact eqv_str s
  have la : (D.ref a).lst? S = some (L.map D.str) := by simp [D.lst?, ha]
  have lb : (D.ref b).lst? S = some (L.map D.str) := by simp [D.lst?, hb]
  rw [D.eqv]
  simp only [la, lb]
  by_cases h : a = b
  · rw [if_pos h]
  · rw [if_neg h, if_pos trivial, e]
theorem cmp_lsts {S : Store} {a b : Nat} {L : List (List Nat)} (ha : S[a]? = some (.lst (L.map .str))) (hb : S[b]? = some (.lst (L.map .str))) : cmpEv .eq (.ref a) (.ref b) S = .ok (.bl true) S none := by
  show resB (D.eqv S (1198 + 1 + 1) (.ref a) (.ref b)) false S = _
  rw [eqv_lsts ha hb]; rfl
theorem cmp_lstsN {S : Store} {a b : Nat} {L : List (List Nat)} (ha : S[a]? = some (.lst (L.map .str))) (hb : S[b]? = some (.lst (L.map .str))) : cmpEv .ne (.ref a) (.ref b) S = .ok (.bl false) S none := by
  show resB (D.eqv S (1198 + 1 + 1) (.ref a) (.ref b)) true S = _
  rw [eqv_lsts ha hb]; rfl
def pairN (p : TM × List (List Nat)) : D := .tup [p.1.d, .tup (p.2.map .str)]
theorem pairs_mr : ∀ ps : List (TM × List (List Nat)), D.mrs (ps.map pairN) = 0
  | [] => rfl
  | p :: ps => by
    rw [List.map_cons, D.mrs, pairs_mr ps]
    simp [pairN, D.mr, D.mrs, TM.mr, strs_mr]
theorem flat_le {α β : Type} (g : α → List β) {l : List α} {i : Nat} {p : α} (h : l[i]? = some p) : ((l.take i).flatMap g).length + (g p).length ≤ (l.flatMap g).length := by
  have e : l.flatMap g = (l.take (i + 1)).flatMap g ++ (l.drop (i + 1)).flatMap g := by rw [← List.flatMap_append, List.take_append_drop]
  rw [e, List.take_add_one, h, List.flatMap_append, List.length_append, List.length_append]
  simp
end NF

/-! NFBag: bags to draw from, of any sort; the bag of the laws k15 to k23. -/
namespace NF
open PySem L2
/-- a bag stands at k, at most m draws old -/
def GAt (B : Int → List D → Prop) (S : Store) (k : Nat) (m : Int) : Prop := ∃ ds, S[k]? = some (.lst ds) ∧ B m ds
class Mono (B : Int → List D → Prop) : Prop where
  mono : ∀ {m m' ds}, B m ds → m ≤ m' → B m' ds
/-- only the bag changed, by at most t draws; things may have been made -/
structure GC (B : Int → List D → Prop) (k : Nat) (t : Int) (S S' : Store) : Prop where
  len : S.length ≤ S'.length
  old : ∀ j, j < S.length → j ≠ k → S'[j]? = S[j]?
  seed : ∀ m, GAt B S k m → GAt B S' k (m + t)
section
variable {B : Int → List D → Prop}
theorem GAt.lt {S : Store} {k : Nat} {m : Int} (h : GAt B S k m) : k < S.length := by
  obtain ⟨ds, e, _⟩ := h
  exact (List.getElem?_eq_some_iff.mp e).1
theorem GC.refl (k : Nat) (S : Store) : GC B k 0 S S := ⟨Nat.le_refl _, fun _ _ _ => rfl, fun m h => by simpa using h⟩
theorem GC.trans {k : Nat} {t t' : Int} {S S1 S2 : Store} (a : GC B k t S S1) (b : GC B k t' S1 S2) : GC B k (t + t') S S2 :=
  ⟨Nat.le_trans a.len b.len, fun j h n => (b.old j (Nat.lt_of_lt_of_le h a.len) n).trans (a.old j h n), fun m h => by have := b.seed _ (a.seed m h); rwa [Int.add_assoc] at this⟩
theorem GC.push {k : Nat} {S : Store} (T : List SO) : GC B k 0 S (S ++ T) :=
  ⟨by simp, fun j h _ => List.getElem?_append_left h, fun m h => by
    have hl := h.lt
    obtain ⟨ds, e, r⟩ := h
    exact ⟨ds, by rw [List.getElem?_append_left hl]; exact e, by simpa using r⟩⟩
theorem GC.take {k : Nat} {t : Int} {S S' : Store} (h : GC B k t S S') : GC B k t S (S'.take S.length) :=
  ⟨by rw [List.length_take]; have := h.len; omega, fun j hj n => by rw [List.getElem?_take_of_lt hj]; exact h.old j hj n, fun m q => by
    have hl := q.lt
    obtain ⟨ds, e, r⟩ := h.seed m q
    exact ⟨ds, by rw [List.getElem?_take_of_lt hl]; exact e, r⟩⟩
theorem GC.takeLen {k : Nat} {t : Int} {S S' : Store} (h : GC B k t S S') : (S'.take S.length).length = S.length := by rw [List.length_take]; have := h.len; omega
theorem GC.set {k n : Nat} {t : Int} {S S' : Store} (h : GC B k t S S') (hn : S.length ≤ n) (o : SO) (hk : k < S.length) : GC B k t S (S'.set n o) :=
  ⟨by rw [List.length_set]; exact h.len, fun j hj hjk => by rw [List.getElem?_set_ne (by omega)]; exact h.old j hj hjk, fun m q => by
    obtain ⟨ds, e, r⟩ := h.seed m q
    exact ⟨ds, by rw [List.getElem?_set_ne (by omega)]; exact e, r⟩⟩
variable [Mono B]
theorem GAt.le {S : Store} {k : Nat} {m m' : Int} (h : GAt B S k m) (l : m ≤ m') : GAt B S k m' := by
  obtain ⟨ds, e, r⟩ := h
  exact ⟨ds, e, Mono.mono r l⟩
theorem GC.le {k : Nat} {t t' : Int} {S S1 : Store} (a : GC B k t S S1) (h : t ≤ t') : GC B k t' S S1 := ⟨a.len, a.old, fun m q => (a.seed m q).le (by omega)⟩
end
/-! ### the bag of k15 to k23 -/
def B15 (m : Int) (ds : List D) : Prop := ∃ a b c : Int, ds = [.int a, .int b, .int c] ∧ 0 ≤ b ∧ b < 2147483647 ∧ 0 ≤ c ∧ c ≤ m
instance : Mono B15 := ⟨fun ⟨a, b, c, e, h1, h2, h3, h4⟩ l => ⟨a, b, c, e, h1, h2, h3, by omega⟩⟩
def bagFD : FD := ⟨2, 3, [.asg (.name 2) (.bin .mod (.bin .add (.bin .mul (.bin .mod (.bi .int [(.var 0)]) (.cst (.int 2147483647))) (.cst (.int 69621))) (.bin .mul (.cst (.int 7919)) (.bin .pow (.bin .add (.var 1) (.cst (.int 1))) (.cst (.int 3))))) (.cst (.int 2147483647))),
  .ret (.lst [(.bi .max2 [(.cst (.int 0)), (.bin .sub (.var 0) (.bin .pow (.cst (.int 10)) (.cst (.int 18))))]), (.var 2), (.var 1)])]⟩
def drawFD : FD := ⟨2, 3, [.ife (.cmp .gt (.ix (.var 0) (.cst (.int 0))) (.cst (.int 0)))
  [.asg (.name 2) (.bin .mod (.bi .int [(.ix (.var 0) (.cst (.int 0)))]) (.var 1)),
  .sub (.bin .fdiv (.ix (.var 0) (.cst (.int 0))) (.var 1)) (.var 0) (.cst (.int 0)),
  .ret (.var 2)]
  [],
  .sub (.bin .add (.ix (.var 0) (.cst (.int 2))) (.cst (.int 1))) (.var 0) (.cst (.int 2)),
  .sub (.bin .mod (.bi .int [(.bin .pow (.bin .add (.ix (.var 0) (.cst (.int 1))) (.bin .mul (.cst (.int 15485863)) (.ix (.var 0) (.cst (.int 2))))) (.cst (.int 5)))]) (.cst (.int 2147483647))) (.var 0) (.cst (.int 1)),
  .ret (.bin .mod (.bi .int [(.bin .fdiv (.ix (.var 0) (.cst (.int 1))) (.cst (.int 128)))]) (.var 1))]⟩
theorem bi_int (i : Int) (S : Store) : biEv .int [.int i] S = .ok (.int i) S none := rfl
theorem draw15 {P : Nat → Option FD} {L n f : Nat} {S : Store} {k : Nat} {m many : Int} (hf : P f = some drawFD) (h : GAt B15 S k m) (hm : m < 2 ^ 35) (h0 : 0 < many) (h1 : many < 2 ^ 100) :
    Pst (run P L (n + 1) f [.ref k, .int many] S) (fun d S' => (∃ v : Int, d = .int v ∧ 0 ≤ v ∧ v < many) ∧ GC B15 k 1 S S' ∧ S'.length = S.length) := by
  obtain ⟨ds, e, a, b, c, rfl, hb0, hb1, hc0, hc1⟩ := h
  refine run_pst hf rfl ?_
  have hk : k < S.length := (List.getElem?_eq_some_iff.mp e).1
  have hd : divOk many = true := by
    unfold divOk
    have : bits many < 101 := bits_le (by omega) (by omega)
    simp only [Bool.and_eq_true, decide_eq_true_eq]
    omega
  have hd2 : divOk 128 = true := by decide +kernel
  have e1 : ∀ x : List D, (S.set k (SO.lst x))[k]? = some (SO.lst x) := fun x => List.getElem?_set_self hk
  have cm : ∀ m, GAt B15 S k m → c ≤ m := fun m ⟨ds', e', a', b', c', e2, _, _, _, h⟩ => by
    rw [e] at e'
    cases e'
    simp only [List.cons.injEq, D.int.injEq, and_true] at e2
    omega
  have chs : ∀ a' b' c' : Int, 0 ≤ b' → b' < 2147483647 → 0 ≤ c' → c' ≤ c + 1 → GC B15 k 1 S (S.set k (.lst [.int a', .int b', .int c'])) := fun a' b' c' h1 h2 h3 h4 =>
    ⟨by simp, fun j hj hjk => by rw [List.getElem?_set_ne (Ne.symm hjk)], fun m q => ⟨_, List.getElem?_set_self hk, a', b', c', rfl, h1, h2, h3, by have := cm m q; omega⟩⟩
  have tk : ∀ o : SO, (S.set k o).take S.length = S.set k o := fun o => List.take_of_length_le (by simp)
  have hmul : mulOk 15485863 (c + 1) = true := by
    unfold mulOk
    have h2 : bits (c + 1) < 40 := bits_le (by omega) (by omega)
    have h3 : bits 15485863 < 40 := by decide +kernel
    simp only [decide_eq_true_eq]
    omega
  have hpow : ∀ S', binEv .pow (.int (b + 15485863 * (c + 1))) (.int 5) S' = .ok (.int ((b + 15485863 * (c + 1)) ^ 5)) S' none := fun S' => by
    show (if 0 ≤ (5 : Int) ∧ (5 : Int) ≤ 1000000 ∧ (b + 15485863 * (c + 1)).natAbs < 2 ^ 64 then _ else _) = _
    rw [if_pos ⟨by omega, by omega, by omega⟩]
    rfl
  by_cases hA : 0 < a
  · simp [drawFD, start, evSs, evS, evE, evEs, evT, PstS.andThen_, PstS.seq_, Pst.bind_, PstS.if_, Pst.if_, PstS.nx_, PstS.rt_, Pst.ok_, ixEv, D.dict?, D.seq?, D.lst?, e, setG, setSub, put, cmp_gtI, ixN, ofOpt, hA, bin_modI _ h0, bin_fdivI _ hd, e1, D.mr, tk, bi_int]
    exact ⟨⟨Int.emod_nonneg _ (by omega), Int.emod_lt_of_pos _ h0⟩, chs _ _ _ hb0 hb1 hc0 (by omega)⟩
  · have hmod : ∀ (i : Int) (S' : Store), binEv .mod (.int i) (.int 2147483647) S' = .ok (.int (i % 2147483647)) S' none := fun i S' => bin_modI _ (by decide)
    simp [drawFD, start, evSs, evS, evE, evEs, evT, PstS.andThen_, PstS.seq_, Pst.bind_, PstS.if_, Pst.if_, PstS.nx_, PstS.rt_, Pst.ok_, ixEv, D.dict?, D.seq?, D.lst?, e, setG, setSub, put, cmp_gtI, ixN, ofOpt, hA, bin_modI _ h0, bin_fdivI _ hd2, e1, D.mr, tk, bi_int, bin_mulI _ hmul, hpow, bin_addI, hmod]
    exact ⟨⟨Int.emod_nonneg _ (by omega), Int.emod_lt_of_pos _ h0⟩, chs _ _ _ (Int.emod_nonneg _ (by omega)) (Int.emod_lt_of_pos _ (by decide)) (by omega) (by omega)⟩
theorem bag15 {P : Nat → Option FD} {L n f : Nat} {S : Store} {cell k : Int} (hf : P f = some bagFD) (hb : bits cell ≤ 1048576) (hk0 : 0 ≤ k) (hk : k < 100) :
    Pst (run P L (n + 1) f [.int cell, .int k] S) (fun d S' => d = .ref S.length ∧ GAt B15 S' S.length k ∧ S'.length = S.length + 1 ∧ ∀ j, j < S.length → S'[j]? = S[j]?) := by
  refine run_pst hf rfl ?_
  have hpow : ∀ S', binEv .pow (.int (k + 1)) (.int 3) S' = .ok (.int ((k + 1) ^ 3)) S' none := fun S' => by
    show (if 0 ≤ (3 : Int) ∧ (3 : Int) ≤ 1000000 ∧ (k + 1).natAbs < 2 ^ 64 then _ else _) = _
    rw [if_pos ⟨by omega, by omega, by omega⟩]
    rfl
  have hpow18 : ∀ S', binEv .pow (.int 10) (.int 18) S' = .ok (.int (10 ^ 18)) S' none := fun _ => rfl
  have hmod : ∀ (i : Int) (S' : Store), binEv .mod (.int i) (.int 2147483647) S' = .ok (.int (i % 2147483647)) S' none := fun i S' => bin_modI _ (by decide)
  have hm1 : mulOk (cell % 2147483647) 69621 = true := by
    have h1 := Int.emod_nonneg cell (b := 2147483647) (by decide)
    have h2 := Int.emod_lt_of_pos cell (b := 2147483647) (by decide)
    have h3 : bits (cell % 2147483647) < 32 := bits_le (by omega) (by omega)
    have h4 : bits 69621 < 32 := by decide +kernel
    unfold mulOk
    simp only [decide_eq_true_eq]
    omega
  have hc3 : 0 ≤ (k + 1) ^ 3 ∧ (k + 1) ^ 3 ≤ 1000000 := by
    have e : (k + 1) ^ 3 = (k + 1) * (k + 1) * (k + 1) := by rw [Int.pow_succ, Int.pow_succ, Int.pow_succ]; simp
    have h1 : 0 ≤ (k + 1) * (k + 1) := Int.mul_nonneg (by omega) (by omega)
    have h2 : (k + 1) * (k + 1) ≤ 100 * 100 := Int.mul_le_mul (by omega) (by omega) (by omega) (by omega)
    rw [e]
    exact ⟨Int.mul_nonneg h1 (by omega), by have := Int.mul_le_mul h2 (show k + 1 ≤ 100 by omega) (by omega) (by omega); omega⟩
  have hm2 : mulOk 7919 ((k + 1) ^ 3) = true := by
    have h3 : bits ((k + 1) ^ 3) < 32 := bits_le (by omega) (by omega)
    have h4 : bits 7919 < 32 := by decide +kernel
    unfold mulOk
    simp only [decide_eq_true_eq]
    omega
  generalize (k + 1) ^ 3 = k3 at hpow hm2
  simp [bagFD, start, evSs, evS, evE, evEs, evT, PstS.andThen_, PstS.seq_, Pst.bind_, PstS.if_, Pst.if_, PstS.nx_, PstS.rt_, Pst.ok_, setG, bin_subI, bin_addI, bin_mulI _ hm1, bin_mulI _ hm2, hpow, hpow18, hmod, bi_int, biEv, new, sizeL, D.mr, D.mrs]
  exact ⟨⟨_, last_get S _, _, _, _, rfl, Int.emod_nonneg _ (by omega), Int.emod_lt_of_pos _ (by decide), hk0, Int.le_refl _⟩, fun j hj => List.getElem?_append_left hj⟩
end NF

namespace K15
open PySem L2 NF
/-- parts_of -/
def c0 : FD := ⟨1, 6, [.ife (.cmp .eq (.ix (.var 0) (.cst (.int 0))) (.cst (.str (S! "app"))))
  [.ret (.lst [(.tup [(.ix (.var 0) (.cst (.int 1))), (.tup [])]), (.tup [(.ix (.var 0) (.cst (.int 2))), (.tup [])])])]
  [],
  .ife (.cmp .eq (.ix (.var 0) (.cst (.int 0))) (.cst (.str (S! "fun"))))
  [.ret (.lst [(.tup [(.ix (.var 0) (.cst (.int 2))), (.tup [(.ix (.var 0) (.cst (.int 1)))])])])]
  [],
  .ife (.cmp .eq (.ix (.var 0) (.cst (.int 0))) (.cst (.str (S! "let"))))
  [.asg (.name 1) (.bi .tuple [(.lc (.var 2) (.tup [(.name 2), (.name 3)]) (.ix (.var 0) (.cst (.int 1))) [] [2, 3])]),
  .ret (.bin .add (.lc (.tup [(.var 3), (.var 1)]) (.tup [(.name 2), (.name 3)]) (.ix (.var 0) (.cst (.int 1))) [] [2, 3]) (.lst [(.tup [(.ix (.var 0) (.cst (.int 2))), (.var 1)])]))]
  [],
  .ife (.cmp .eq (.ix (.var 0) (.cst (.int 0))) (.cst (.str (S! "case"))))
  [.ret (.bin .add (.lst [(.tup [(.ix (.var 0) (.cst (.int 1))), (.tup [])])]) (.lc (.tup [(.var 5), (.var 1)]) (.tup [(.name 4), (.name 1), (.name 5)]) (.ix (.var 0) (.cst (.int 2))) [] [4, 1, 5]))]
  [],
  .ife (.cmp .eq (.ix (.var 0) (.cst (.int 0))) (.cst (.str (S! "op"))))
  [.ret (.lst [(.tup [(.ix (.var 0) (.cst (.int 2))), (.tup [])]), (.tup [(.ix (.var 0) (.cst (.int 3))), (.tup [])])])]
  [],
  .ret (.lst [])]⟩
/-- gather -/
def c1 : FD := ⟨3, 5, [.ife (.and (.cmp .eq (.ix (.var 0) (.cst (.int 0))) (.cst (.str (S! "name")))) (.cmp .notin (.ix (.var 0) (.cst (.int 1))) (.var 1)))
  [.sub (.cst (.bl true)) (.var 2) (.ix (.var 0) (.cst (.int 1)))]
  [],
  .for (.tup [(.name 3), (.name 4)]) (.call 0 [(.var 0)] [.inl 0])
  [.expr (.call 1 [(.var 3), (.bin .add (.var 1) (.var 4)), (.var 2)] [.inl 0, .inl 1, .inl 2])]]⟩
/-- free_names -/
def c2 : FD := ⟨1, 2, [.asg (.name 1) (.dict []),
  .expr (.call 1 [(.var 0), (.tup []), (.var 1)] [.inl 0, .inl 1, .inl 2]),
  .ret (.bi .sorted [(.var 1)])]⟩
/-- mentions_of -/
def c3 : FD := ⟨1, 6, [.asg (.name 1) (.dc (.var 2) (.cst (.bl true)) (.tup [(.name 2), (.name 3), (.name 4)]) (.var 0) [] [2, 3, 4]),
  .ret (.dc (.var 2) (.lc (.var 5) (.name 5) (.call 2 [(.var 4)] [.inl 0]) [(.cmp .isin (.var 5) (.var 1))] [5]) (.tup [(.name 2), (.name 3), (.name 4)]) (.var 0) [] [2, 3, 4])]⟩
/-- come_to -/
def c4 : FD := ⟨2, 5, [.asg (.name 2) (.dict []),
  .asg (.name 3) (.bi .list [(.ix (.var 0) (.var 1))]),
  .whil (.cmp .ne (.var 3) (.lst []))
  [.asg (.name 4) (.me .pop0 (.var 3) []),
  .ife (.cmp .notin (.var 4) (.var 2))
  [.sub (.cst (.bl true)) (.var 2) (.var 4),
  .expr (.me .extend (.var 3) [(.ix (.var 0) (.var 4))])]
  []],
  .ret (.var 2)]⟩
/-- grouped -/
def c5 : FD := ⟨1, 8, [.asg (.name 1) (.call 3 [(.var 0)] [.inl 0]),
  .asg (.name 2) (.lock 1 ((.dc (.var 5) (.call 4 [(.var 1), (.var 5)] [.inl 0, .inl 1]) (.name 5) (.var 1) [] [5]))),
  .asg (.name 3) (.lst []),
  .asg (.name 4) (.dict []),
  (.lock 1 (.for (.name 5) (.var 1)
  [.ife (.cmp .notin (.var 5) (.var 4))
  [.asg (.name 6) (.bi .tuple [(.lock 1 ((.lc (.var 7) (.name 7) (.var 1) [(.or (.cmp .eq (.var 7) (.var 5)) (.and (.cmp .isin (.var 7) (.ix (.var 2) (.var 5))) (.cmp .isin (.var 5) (.ix (.var 2) (.var 7)))))] [7])))]),
  .expr (.me .append (.var 3) [(.var 6)]),
  .for (.name 7) (.var 6)
  [.sub (.cst (.bl true)) (.var 4) (.var 7)]]
  []])),
  .ret (.call 6 [(.var 3), (.var 1)] [.inl 0, .inl 1])]⟩
/-- ordered -/
def c6 : FD := ⟨2, 8, [.asg (.name 2) (.bi .list [(.var 0)]),
  .asg (.name 3) (.lst []),
  .asg (.name 4) (.dict []),
  .whil (.cmp .ne (.var 2) (.lst []))
  [.asg (.name 5) (.lc (.var 7) (.name 7) (.var 2) [(.call 7 [(.var 7), (.var 1), (.var 4)] [.inl 0, .inl 1, .inl 2])] [7]),
  .expr (.me .append (.var 3) [(.ix (.var 5) (.cst (.int 0)))]),
  .expr (.me .remove (.var 2) [(.ix (.var 5) (.cst (.int 0)))]),
  .for (.name 6) (.ix (.var 5) (.cst (.int 0)))
  [.sub (.cst (.bl true)) (.var 4) (.var 6)]],
  .ret (.var 3)]⟩
/-- is_free -/
def c7 : FD := ⟨3, 5, [.for (.name 3) (.var 0)
  [.for (.name 4) (.ix (.var 1) (.var 3))
  [.ife (.and (.cmp .notin (.var 4) (.var 0)) (.cmp .notin (.var 4) (.var 2)))
  [.ret (.cst (.bl false))]
  []]],
  .ret (.cst (.bl true))]⟩
/-- groups_of -/
def c8 : FD := ⟨1, 1, [.ret (.call 5 [(.ix (.var 0) (.cst (.int 1)))] [.inl 0])]⟩
/-- _law_cell_at -/
def c9 : FD := ⟨2, 2, [.ife (.cmp .lt (.var 1) (.bi .len [(.var 0)]))
  [.ret (.ix (.var 0) (.var 1))]
  [],
  .ret (.cst (.int 0))]⟩
/-- _law_holding -/
def c12 : FD := ⟨3, 7, [.asg (.name 3) (.tup [(.cst (.str (S! "num"))), (.call 11 [(.var 0), (.cst (.int 50))] [.inl 0, .inl 1])]),
  .for (.name 4) (.bin .add (.var 1) (.bi .list [(.var 2)]))
  [.asg (.name 5) (.tup [(.cst (.str (S! "name"))), (.var 4)]),
  .asg (.name 6) (.call 11 [(.var 0), (.cst (.int 6))] [.inl 0, .inl 1]),
  .ife (.cmp .eq (.var 6) (.cst (.int 0)))
  [.asg (.name 3) (.tup [(.cst (.str (S! "app"))), (.var 3), (.tup [(.cst (.str (S! "fun"))), (.cst (.str (S! "q"))), (.tup [(.cst (.str (S! "op"))), (.cst (.str (S! "+"))), (.var 5), (.tup [(.cst (.str (S! "name"))), (.cst (.str (S! "q")))])])])])]
  [],
  .ife (.cmp .eq (.var 6) (.cst (.int 1)))
  [.asg (.name 3) (.tup [(.cst (.str (S! "let"))), (.tup [(.tup [(.cst (.str (S! "r"))), (.var 5)]), (.tup [(.cst (.str (S! "s"))), (.tup [(.cst (.str (S! "name"))), (.cst (.str (S! "r")))])])]), (.tup [(.cst (.str (S! "app"))), (.tup [(.cst (.str (S! "name"))), (.cst (.str (S! "s")))]), (.var 3)])])]
  [],
  .ife (.cmp .eq (.var 6) (.cst (.int 2)))
  [.asg (.name 3) (.tup [(.cst (.str (S! "case"))), (.var 3), (.tup [(.tup [(.cst (.str (S! "True"))), (.tup []), (.var 5)]), (.tup [(.cst (.str (S! "False"))), (.tup []), (.tup [(.cst (.str (S! "make"))), (.cst (.str (S! "True")))])])])])]
  [],
  .ife (.cmp .eq (.var 6) (.cst (.int 3)))
  [.asg (.name 3) (.tup [(.cst (.str (S! "op"))), (.ix (.lst [(.cst (.str (S! "+"))), (.cst (.str (S! "<")))]) (.call 11 [(.var 0), (.cst (.int 2))] [.inl 0, .inl 1])), (.var 5), (.var 3)])]
  [],
  .ife (.cmp .gt (.var 6) (.cst (.int 3)))
  [.asg (.name 3) (.ix (.lst [(.tup [(.cst (.str (S! "app"))), (.var 5), (.var 3)]), (.tup [(.cst (.str (S! "app"))), (.var 3), (.var 5)])]) (.bin .sub (.var 6) (.cst (.int 4))))]
  []],
  .ret (.var 3)]⟩
/-- _law_program -/
def c13 : FD := ⟨1, 12, [.asg (.name 1) (.bin .add (.cst (.int 1)) (.call 11 [(.var 0), (.cst (.int 9))] [.inl 0, .inl 1])),
  .asg (.name 2) (.lst []),
  .for (.name 3) (.range [(.var 1)])
  [.expr (.me .insert (.var 2) [(.call 11 [(.var 0), (.bin .add (.bi .len [(.var 2)]) (.cst (.int 1)))] [.inl 0, .inl 1]), (.bin .add (.ix (.cst (.str (S! "abefghjkm"))) (.var 3)) (.slice (.cst (.str (S! "nop"))) [] [(.call 11 [(.var 0), (.cst (.int 4))] [.inl 0, .inl 1])]))])],
  .asg (.name 4) (.lst []),
  .asg (.name 5) (.dict []),
  .asg (.name 6) (.call 11 [(.var 0), (.cst (.int 4))] [.inl 0, .inl 1]),
  .for (.tup [(.name 3), (.name 7)]) (.enum (.var 2))
  [.asg (.name 8) (.lst []),
  .for (.name 9) (.range [(.call 11 [(.var 0), (.cst (.int 4))] [.inl 0, .inl 1])])
  [.asg (.name 11) (.ix (.var 2) (.call 11 [(.var 0), (.var 1)] [.inl 0, .inl 1])),
  .ife (.cmp .eq (.var 6) (.cst (.int 0)))
  [.asg (.name 11) (.ix (.var 2) (.bin .mod (.bin .add (.var 3) (.cst (.int 1))) (.var 1)))]
  [],
  .ife (.cmp .eq (.var 6) (.cst (.int 1)))
  [.asg (.name 11) (.ix (.var 2) (.bi .max2 [(.cst (.int 0)), (.bin .sub (.bin .sub (.var 3) (.cst (.int 1))) (.call 11 [(.var 0), (.cst (.int 2))] [.inl 0, .inl 1]))]))]
  [],
  .ife (.cmp .notin (.var 11) (.var 8))
  [.expr (.me .append (.var 8) [(.var 11)])]
  []],
  .sub (.var 8) (.var 5) (.var 7),
  .asg (.name 10) (.bi .tuple [(.slice (.lst [(.cst (.str (S! "x"))), (.cst (.str (S! "y")))]) [] [(.call 11 [(.var 0), (.cst (.int 3))] [.inl 0, .inl 1])])]),
  .expr (.me .append (.var 4) [(.tup [(.var 7), (.var 10), (.call 12 [(.var 0), (.var 8), (.var 10)] [.inl 0, .inl 1, .inl 2])])])],
  .ret (.tup [(.tup [(.tup []), (.bi .tuple [(.var 4)])]), (.var 5)])]⟩
/-- _law_due -/
def c14 : FD := ⟨2, 13, [.asg (.name 2) (.lc (.lc (.cmp .isin (.var 10) (.ix (.var 1) (.var 9))) (.name 10) (.var 0) [] [10]) (.name 9) (.var 0) [] [9]),
  .for (.name 3) (.range [(.bi .len [(.var 0)])])
  [.asg (.name 2) (.lc (.lc (.or (.ix (.var 11) (.var 12)) (.and (.ix (.var 11) (.var 3)) (.ix (.ix (.var 2) (.var 3)) (.var 12)))) (.name 12) (.range [(.bi .len [(.var 0)])]) [] [12]) (.name 11) (.var 2) [] [11])],
  .asg (.name 4) (.lst []),
  .for (.name 3) (.range [(.bi .len [(.var 0)])])
  [.asg (.name 7) (.lc (.var 12) (.name 12) (.range [(.bi .len [(.var 0)])]) [(.or (.cmp .eq (.var 12) (.var 3)) (.and (.ix (.ix (.var 2) (.var 3)) (.var 12)) (.ix (.ix (.var 2) (.var 12)) (.var 3))))] [12]),
  .ife (.cmp .notin (.var 7) (.var 4))
  [.expr (.me .append (.var 4) [(.var 7)])]
  []],
  .asg (.name 5) (.lst []),
  .asg (.name 6) (.lst []),
  .whil (.cmp .ne (.var 4) (.lst []))
  [.asg (.name 8) (.lst []),
  .for (.name 7) (.var 4)
  [.ife (.bi .all [(.lc (.or (.cmp .isin (.var 12) (.var 6)) (.cmp .isin (.var 12) (.var 7))) (.name 12) (.range [(.bi .len [(.var 0)])]) [(.ix (.ix (.var 2) (.ix (.var 7) (.cst (.int 0)))) (.var 12))] [12])])
  [.expr (.me .append (.var 8) [(.var 7)])]
  []],
  .expr (.me .append (.var 5) [(.bi .tuple [(.lc (.ix (.var 0) (.var 12)) (.name 12) (.ix (.var 8) (.cst (.int 0))) [] [12])])]),
  .asg (.name 6) (.bin .add (.var 6) (.ix (.var 8) (.cst (.int 0)))),
  .expr (.me .remove (.var 4) [(.ix (.var 8) (.cst (.int 0)))])],
  .ret (.var 5)]⟩
/-- _law_right -/
def c15 : FD := ⟨1, 6, [.asg (.tup [(.name 3), (.name 4)]) (.call 13 [(.var 0)] [.inl 0]),
  .asg (.name 1) (.call 8 [(.var 3)] [.inl 0]),
  .asg (.name 2) (.call 14 [(.lc (.ix (.var 5) (.cst (.int 0))) (.name 5) (.ix (.var 3) (.cst (.int 1))) [] [5]), (.var 4)] [.inl 0, .inl 1]),
  .ife (.or (.not (.bi .isinst [(.var 1), (.cst (.ty "list"))])) (.or (.not (.bi .all [(.lc (.bi .isinst [(.var 5), (.cst (.ty "tuple"))]) (.name 5) (.var 1) [] [5])])) (.cmp .ne (.var 1) (.var 2))))
  [.ret (.cst (.bl false))]
  [],
  .expr (.me .reverse (.var 1) []),
  .expr (.me .append (.var 1) [(.tup [])]),
  .ret (.cmp .eq (.call 8 [(.var 3)] [.inl 0]) (.var 2))]⟩
/-- law -/
def c16 : FD := ⟨1, 2, [.for (.name 1) (.range [(.bi .max2 [(.cst (.int 1)), (.bi .min2 [(.bi .len [(.var 0)]), (.cst (.int 8))])])])
  [.ife (.not (.call 15 [(.call 10 [(.call 9 [(.var 0), (.var 1)] [.inl 0, .inl 1]), (.var 1)] [.inl 0, .inl 1])] [.inl 0]))
  [.ret (.cst (.bl false))]
  []],
  .ret (.cst (.bl true))]⟩
structure HP (P : Nat → Option FD) : Prop where
  h0 : P 0 = some c0
  h1 : P 1 = some c1
  h2 : P 2 = some c2
  h3 : P 3 = some c3
  h4 : P 4 = some c4
  h5 : P 5 = some c5
  h6 : P 6 = some c6
  h7 : P 7 = some c7
  h8 : P 8 = some c8
  h9 : P 9 = some c9
  h10 : P 10 = some bagFD
  h11 : P 11 = some drawFD
  h12 : P 12 = some c12
  h13 : P 13 = some c13
  h14 : P 14 = some c14
  h15 : P 15 = some c15
  h16 : P 16 = some c16
end K15

namespace K15
open PySem L2 NF
section
variable {P : Nat → Option FD} {L : Nat} (hp : HP P)
include hp
theorem parts_of_spec {n : Nat} {S : Store} (t : TM) (ok : t.ok) : NF.run P L (n + 1) 0 [t.d] S = .ok (.ref S.length) (S ++ [.lst (t.within.map pairN)]) none := by
  refine eq_of2 (run_pst hp.h0 rfl ?_)
  have fin : ∀ (f : Nat) (T : Store), S.length ≤ f → (S ++ T)[f]? = some (.lst (t.within.map pairN)) → ((D.ref f).mr ≤ S.length ∧ D.ref f = D.ref S.length ∧ (S ++ T).take S.length = S ++ [.lst (t.within.map pairN)]) ∨
      ∃ k xs, D.ref f = .ref k ∧ S.length ≤ k ∧ (S ++ T)[k]? = some (.lst xs) ∧ D.mrs xs ≤ S.length ∧ D.ref S.length = D.ref S.length ∧ (S ++ T).take S.length ++ [.lst xs] = S ++ [.lst (t.within.map pairN)] := fun f T h1 h2 =>
    .inr ⟨f, _, rfl, h1, h2, by rw [pairs_mr]; exact Nat.zero_le _, rfl, by simp⟩
  cases t with
  | num i =>
    have i0 : ∀ S', ixEv (TM.num i).d (.int 0) S' = .ok (.str (S! "num")) S' none := fun S' => ix_tup (by omega) rfl
    simp only [NF.start, evSs, evS, evE, evEs, evT, PstS.andThen_, PstS.seq_, Pst.bind_, PstS.if_, Pst.if_, PstS.nx_, PstS.rt_, Pst.ok_, List.map_cons, List.map_nil, List.length_cons, List.length_nil, List.replicate, List.cons_append, List.nil_append, List.getElem?_cons_zero, List.getElem?_cons_succ, setG_nm, setG_tp, new, selArgs, List.set_cons_zero, List.set_cons_succ, evE_lcE, evI, sizeL, Nat.reduceAdd, Nat.reduceLeDiff, Nat.reduceLT, Nat.reduceSub, if_true, if_false, reduceIte, Nat.zero_add, Nat.lt_add_one, Nat.zero_lt_succ, reduceCtorEq, Nat.reducePow, Nat.reduceLeDiff, Nat.zero_le, c0, i0, cmp_eqS, tg_num_num, tg_num_name, tg_num_make, tg_num_app, tg_num_op, tg_num_fun, tg_num_let, tg_num_case, tg_name_num, tg_name_name, tg_name_make, tg_name_app, tg_name_op, tg_name_fun, tg_name_let, tg_name_case, tg_make_num, tg_make_name, tg_make_make, tg_make_app, tg_make_op, tg_make_fun, tg_make_let, tg_make_case, tg_app_num, tg_app_name, tg_app_make, tg_app_app, tg_app_op, tg_app_fun, tg_app_let, tg_app_case, tg_op_num, tg_op_name, tg_op_make, tg_op_app, tg_op_op, tg_op_fun, tg_op_let, tg_op_case, tg_fun_num, tg_fun_name, tg_fun_make, tg_fun_app, tg_fun_op, tg_fun_fun, tg_fun_let, tg_fun_case, tg_let_num, tg_let_name, tg_let_make, tg_let_app, tg_let_op, tg_let_fun, tg_let_let, tg_let_case, tg_case_num, tg_case_name, tg_case_make, tg_case_app, tg_case_op, tg_case_fun, tg_case_let, tg_case_case, Bool.false_eq_true]
    simpa using fin S.length [.lst []] (Nat.le_refl _) (last_get _ _)
  | name x =>
    have i0 : ∀ S', ixEv (TM.name x).d (.int 0) S' = .ok (.str (S! "name")) S' none := fun S' => ix_tup (by omega) rfl
    simp only [NF.start, evSs, evS, evE, evEs, evT, PstS.andThen_, PstS.seq_, Pst.bind_, PstS.if_, Pst.if_, PstS.nx_, PstS.rt_, Pst.ok_, List.map_cons, List.map_nil, List.length_cons, List.length_nil, List.replicate, List.cons_append, List.nil_append, List.getElem?_cons_zero, List.getElem?_cons_succ, setG_nm, setG_tp, new, selArgs, List.set_cons_zero, List.set_cons_succ, evE_lcE, evI, sizeL, Nat.reduceAdd, Nat.reduceLeDiff, Nat.reduceLT, Nat.reduceSub, if_true, if_false, reduceIte, Nat.zero_add, Nat.lt_add_one, Nat.zero_lt_succ, reduceCtorEq, Nat.reducePow, Nat.reduceLeDiff, Nat.zero_le, c0, i0, cmp_eqS, tg_num_num, tg_num_name, tg_num_make, tg_num_app, tg_num_op, tg_num_fun, tg_num_let, tg_num_case, tg_name_num, tg_name_name, tg_name_make, tg_name_app, tg_name_op, tg_name_fun, tg_name_let, tg_name_case, tg_make_num, tg_make_name, tg_make_make, tg_make_app, tg_make_op, tg_make_fun, tg_make_let, tg_make_case, tg_app_num, tg_app_name, tg_app_make, tg_app_app, tg_app_op, tg_app_fun, tg_app_let, tg_app_case, tg_op_num, tg_op_name, tg_op_make, tg_op_app, tg_op_op, tg_op_fun, tg_op_let, tg_op_case, tg_fun_num, tg_fun_name, tg_fun_make, tg_fun_app, tg_fun_op, tg_fun_fun, tg_fun_let, tg_fun_case, tg_let_num, tg_let_name, tg_let_make, tg_let_app, tg_let_op, tg_let_fun, tg_let_let, tg_let_case, tg_case_num, tg_case_name, tg_case_make, tg_case_app, tg_case_op, tg_case_fun, tg_case_let, tg_case_case, Bool.false_eq_true]
    simpa using fin S.length [.lst []] (Nat.le_refl _) (last_get _ _)
  | make x =>
    have i0 : ∀ S', ixEv (TM.make x).d (.int 0) S' = .ok (.str (S! "make")) S' none := fun S' => ix_tup (by omega) rfl
    simp only [NF.start, evSs, evS, evE, evEs, evT, PstS.andThen_, PstS.seq_, Pst.bind_, PstS.if_, Pst.if_, PstS.nx_, PstS.rt_, Pst.ok_, List.map_cons, List.map_nil, List.length_cons, List.length_nil, List.replicate, List.cons_append, List.nil_append, List.getElem?_cons_zero, List.getElem?_cons_succ, setG_nm, setG_tp, new, selArgs, List.set_cons_zero, List.set_cons_succ, evE_lcE, evI, sizeL, Nat.reduceAdd, Nat.reduceLeDiff, Nat.reduceLT, Nat.reduceSub, if_true, if_false, reduceIte, Nat.zero_add, Nat.lt_add_one, Nat.zero_lt_succ, reduceCtorEq, Nat.reducePow, Nat.reduceLeDiff, Nat.zero_le, c0, i0, cmp_eqS, tg_num_num, tg_num_name, tg_num_make, tg_num_app, tg_num_op, tg_num_fun, tg_num_let, tg_num_case, tg_name_num, tg_name_name, tg_name_make, tg_name_app, tg_name_op, tg_name_fun, tg_name_let, tg_name_case, tg_make_num, tg_make_name, tg_make_make, tg_make_app, tg_make_op, tg_make_fun, tg_make_let, tg_make_case, tg_app_num, tg_app_name, tg_app_make, tg_app_app, tg_app_op, tg_app_fun, tg_app_let, tg_app_case, tg_op_num, tg_op_name, tg_op_make, tg_op_app, tg_op_op, tg_op_fun, tg_op_let, tg_op_case, tg_fun_num, tg_fun_name, tg_fun_make, tg_fun_app, tg_fun_op, tg_fun_fun, tg_fun_let, tg_fun_case, tg_let_num, tg_let_name, tg_let_make, tg_let_app, tg_let_op, tg_let_fun, tg_let_let, tg_let_case, tg_case_num, tg_case_name, tg_case_make, tg_case_app, tg_case_op, tg_case_fun, tg_case_let, tg_case_case, Bool.false_eq_true]
    simpa using fin S.length [.lst []] (Nat.le_refl _) (last_get _ _)
  | app a b =>
    have i0 : ∀ S', ixEv (TM.app a b).d (.int 0) S' = .ok (.str (S! "app")) S' none := fun S' => ix_tup (by omega) rfl
    have i1 : ∀ S', ixEv (TM.app a b).d (.int 1) S' = .ok a.d S' none := fun S' => ix_tup (by omega) rfl
    have i2 : ∀ S', ixEv (TM.app a b).d (.int 2) S' = .ok b.d S' none := fun S' => ix_tup (by omega) rfl
    simp only [NF.start, evSs, evS, evE, evEs, evT, PstS.andThen_, PstS.seq_, Pst.bind_, PstS.if_, Pst.if_, PstS.nx_, PstS.rt_, Pst.ok_, List.map_cons, List.map_nil, List.length_cons, List.length_nil, List.replicate, List.cons_append, List.nil_append, List.getElem?_cons_zero, List.getElem?_cons_succ, setG_nm, setG_tp, new, selArgs, List.set_cons_zero, List.set_cons_succ, evE_lcE, evI, sizeL, Nat.reduceAdd, Nat.reduceLeDiff, Nat.reduceLT, Nat.reduceSub, if_true, if_false, reduceIte, Nat.zero_add, Nat.lt_add_one, Nat.zero_lt_succ, reduceCtorEq, Nat.reducePow, Nat.reduceLeDiff, Nat.zero_le, c0, i0, i1, i2, cmp_eqS, tg_num_num, tg_num_name, tg_num_make, tg_num_app, tg_num_op, tg_num_fun, tg_num_let, tg_num_case, tg_name_num, tg_name_name, tg_name_make, tg_name_app, tg_name_op, tg_name_fun, tg_name_let, tg_name_case, tg_make_num, tg_make_name, tg_make_make, tg_make_app, tg_make_op, tg_make_fun, tg_make_let, tg_make_case, tg_app_num, tg_app_name, tg_app_make, tg_app_app, tg_app_op, tg_app_fun, tg_app_let, tg_app_case, tg_op_num, tg_op_name, tg_op_make, tg_op_app, tg_op_op, tg_op_fun, tg_op_let, tg_op_case, tg_fun_num, tg_fun_name, tg_fun_make, tg_fun_app, tg_fun_op, tg_fun_fun, tg_fun_let, tg_fun_case, tg_let_num, tg_let_name, tg_let_make, tg_let_app, tg_let_op, tg_let_fun, tg_let_let, tg_let_case, tg_case_num, tg_case_name, tg_case_make, tg_case_app, tg_case_op, tg_case_fun, tg_case_let, tg_case_case, Bool.false_eq_true]
    simpa using fin S.length [.lst [.tup [a.d, .tup []], .tup [b.d, .tup []]]] (Nat.le_refl _) (last_get _ _)
  | op o a b =>
    have i0 : ∀ S', ixEv (TM.op o a b).d (.int 0) S' = .ok (.str (S! "op")) S' none := fun S' => ix_tup (by omega) rfl
    have i2 : ∀ S', ixEv (TM.op o a b).d (.int 2) S' = .ok a.d S' none := fun S' => ix_tup (by omega) rfl
    have i3 : ∀ S', ixEv (TM.op o a b).d (.int 3) S' = .ok b.d S' none := fun S' => ix_tup (by omega) rfl
    simp only [NF.start, evSs, evS, evE, evEs, evT, PstS.andThen_, PstS.seq_, Pst.bind_, PstS.if_, Pst.if_, PstS.nx_, PstS.rt_, Pst.ok_, List.map_cons, List.map_nil, List.length_cons, List.length_nil, List.replicate, List.cons_append, List.nil_append, List.getElem?_cons_zero, List.getElem?_cons_succ, setG_nm, setG_tp, new, selArgs, List.set_cons_zero, List.set_cons_succ, evE_lcE, evI, sizeL, Nat.reduceAdd, Nat.reduceLeDiff, Nat.reduceLT, Nat.reduceSub, if_true, if_false, reduceIte, Nat.zero_add, Nat.lt_add_one, Nat.zero_lt_succ, reduceCtorEq, Nat.reducePow, Nat.reduceLeDiff, Nat.zero_le, c0, i0, i2, i3, cmp_eqS, tg_num_num, tg_num_name, tg_num_make, tg_num_app, tg_num_op, tg_num_fun, tg_num_let, tg_num_case, tg_name_num, tg_name_name, tg_name_make, tg_name_app, tg_name_op, tg_name_fun, tg_name_let, tg_name_case, tg_make_num, tg_make_name, tg_make_make, tg_make_app, tg_make_op, tg_make_fun, tg_make_let, tg_make_case, tg_app_num, tg_app_name, tg_app_make, tg_app_app, tg_app_op, tg_app_fun, tg_app_let, tg_app_case, tg_op_num, tg_op_name, tg_op_make, tg_op_app, tg_op_op, tg_op_fun, tg_op_let, tg_op_case, tg_fun_num, tg_fun_name, tg_fun_make, tg_fun_app, tg_fun_op, tg_fun_fun, tg_fun_let, tg_fun_case, tg_let_num, tg_let_name, tg_let_make, tg_let_app, tg_let_op, tg_let_fun, tg_let_let, tg_let_case, tg_case_num, tg_case_name, tg_case_make, tg_case_app, tg_case_op, tg_case_fun, tg_case_let, tg_case_case, Bool.false_eq_true]
    simpa using fin S.length [.lst [.tup [a.d, .tup []], .tup [b.d, .tup []]]] (Nat.le_refl _) (last_get _ _)
  | fn x b =>
    have i0 : ∀ S', ixEv (TM.fn x b).d (.int 0) S' = .ok (.str (S! "fun")) S' none := fun S' => ix_tup (by omega) rfl
    have i1 : ∀ S', ixEv (TM.fn x b).d (.int 1) S' = .ok (.str x) S' none := fun S' => ix_tup (by omega) rfl
    have i2 : ∀ S', ixEv (TM.fn x b).d (.int 2) S' = .ok b.d S' none := fun S' => ix_tup (by omega) rfl
    simp only [NF.start, evSs, evS, evE, evEs, evT, PstS.andThen_, PstS.seq_, Pst.bind_, PstS.if_, Pst.if_, PstS.nx_, PstS.rt_, Pst.ok_, List.map_cons, List.map_nil, List.length_cons, List.length_nil, List.replicate, List.cons_append, List.nil_append, List.getElem?_cons_zero, List.getElem?_cons_succ, setG_nm, setG_tp, new, selArgs, List.set_cons_zero, List.set_cons_succ, evE_lcE, evI, sizeL, Nat.reduceAdd, Nat.reduceLeDiff, Nat.reduceLT, Nat.reduceSub, if_true, if_false, reduceIte, Nat.zero_add, Nat.lt_add_one, Nat.zero_lt_succ, reduceCtorEq, Nat.reducePow, Nat.reduceLeDiff, Nat.zero_le, c0, i0, i1, i2, cmp_eqS, tg_num_num, tg_num_name, tg_num_make, tg_num_app, tg_num_op, tg_num_fun, tg_num_let, tg_num_case, tg_name_num, tg_name_name, tg_name_make, tg_name_app, tg_name_op, tg_name_fun, tg_name_let, tg_name_case, tg_make_num, tg_make_name, tg_make_make, tg_make_app, tg_make_op, tg_make_fun, tg_make_let, tg_make_case, tg_app_num, tg_app_name, tg_app_make, tg_app_app, tg_app_op, tg_app_fun, tg_app_let, tg_app_case, tg_op_num, tg_op_name, tg_op_make, tg_op_app, tg_op_op, tg_op_fun, tg_op_let, tg_op_case, tg_fun_num, tg_fun_name, tg_fun_make, tg_fun_app, tg_fun_op, tg_fun_fun, tg_fun_let, tg_fun_case, tg_let_num, tg_let_name, tg_let_make, tg_let_app, tg_let_op, tg_let_fun, tg_let_let, tg_let_case, tg_case_num, tg_case_name, tg_case_make, tg_case_app, tg_case_op, tg_case_fun, tg_case_let, tg_case_case, Bool.false_eq_true]
    simpa using fin S.length [.lst [.tup [b.d, .tup [.str x]]]] (Nat.le_refl _) (last_get _ _)
  | lt xs ts b =>
    have hxl : xs.length = ts.length := ok.1.2.1
    have hx3 : xs.length ≤ 3 := ok.1.2.2.1
    have hzl : (List.zipWith partD xs (TM.ds ts)).length ≤ 3 := by rw [List.length_zipWith]; omega
    have f1 := fst_parts hxl
    have hget := fun (i : Nat) (d : D) => get_parts (xs := xs) (ts := ts) (i := i) (d := d)
    have hzl2 : (List.zipWith partD xs (TM.ds ts)).length = ts.length := by rw [List.length_zipWith, TM.ds_map, List.length_map]; omega
    have hmem := fun (p : D) => mem_parts (xs := xs) (ts := ts) (p := p)
    obtain ⟨Z, hZ⟩ : ∃ Z, Z = List.zipWith partD xs (TM.ds ts) := ⟨_, rfl⟩
    have hd : (TM.lt xs ts b).d = .tup [.str (S! "let"), .tup Z, b.d] := by rw [hZ]; rfl
    rw [← hZ] at f1 hget hzl hzl2 hmem
    rw [hd]
    have i0 : ∀ S', ixEv (.tup [.str (S! "let"), .tup Z, b.d]) (.int 0) S' = .ok (.str (S! "let")) S' none := fun S' => ix_tup (by omega) rfl
    have i1 : ∀ S', ixEv (.tup [.str (S! "let"), .tup Z, b.d]) (.int 1) S' = .ok (.tup Z) S' none := fun S' => ix_tup (by omega) rfl
    have i2 : ∀ S', ixEv (.tup [.str (S! "let"), .tup Z, b.d]) (.int 2) S' = .ok b.d S' none := fun S' => ix_tup (by omega) rfl
    simp only [NF.start, evSs, evS, evE, evEs, evT, PstS.andThen_, PstS.seq_, Pst.bind_, PstS.if_, Pst.if_, PstS.nx_, PstS.rt_, Pst.ok_, List.map_cons, List.map_nil, List.length_cons, List.length_nil, List.replicate, List.cons_append, List.nil_append, List.getElem?_cons_zero, List.getElem?_cons_succ, setG_nm, setG_tp, new, selArgs, List.set_cons_zero, List.set_cons_succ, evE_lcE, evI, sizeL, Nat.reduceAdd, Nat.reduceLeDiff, Nat.reduceLT, Nat.reduceSub, if_true, if_false, reduceIte, Nat.zero_add, Nat.lt_add_one, Nat.zero_lt_succ, reduceCtorEq, Nat.reducePow, Nat.reduceLeDiff, Nat.zero_le, c0, i0, i1, i2, cmp_eqS, tg_num_num, tg_num_name, tg_num_make, tg_num_app, tg_num_op, tg_num_fun, tg_num_let, tg_num_case, tg_name_num, tg_name_name, tg_name_make, tg_name_app, tg_name_op, tg_name_fun, tg_name_let, tg_name_case, tg_make_num, tg_make_name, tg_make_make, tg_make_app, tg_make_op, tg_make_fun, tg_make_let, tg_make_case, tg_app_num, tg_app_name, tg_app_make, tg_app_app, tg_app_op, tg_app_fun, tg_app_let, tg_app_case, tg_op_num, tg_op_name, tg_op_make, tg_op_app, tg_op_op, tg_op_fun, tg_op_let, tg_op_case, tg_fun_num, tg_fun_name, tg_fun_make, tg_fun_app, tg_fun_op, tg_fun_fun, tg_fun_let, tg_fun_case, tg_let_num, tg_let_name, tg_let_make, tg_let_app, tg_let_op, tg_let_fun, tg_let_let, tg_let_case, tg_case_num, tg_case_name, tg_case_make, tg_case_app, tg_case_op, tg_case_fun, tg_case_let, tg_case_case, Bool.false_eq_true, srcOf, ofOpt]
    rw [turns_map fstP rfl (fun p hp' => ?_) (by unfold sizeL; omega), f1]
    · have hs : (D.ref S.length).seq? (S ++ [SO.lst (xs.map D.str)]) = some (xs.map D.str) := by simp [D.seq?, D.lst?]
      simp only [NF.start, evSs, evS, evE, evEs, evT, PstS.andThen_, PstS.seq_, Pst.bind_, PstS.if_, Pst.if_, PstS.nx_, PstS.rt_, Pst.ok_, List.map_cons, List.map_nil, List.length_cons, List.length_nil, List.replicate, List.cons_append, List.nil_append, List.getElem?_cons_zero, List.getElem?_cons_succ, setG_nm, setG_tp, new, selArgs, List.set_cons_zero, List.set_cons_succ, evE_lcE, evI, sizeL, Nat.reduceAdd, Nat.reduceLeDiff, Nat.reduceLT, Nat.reduceSub, if_true, if_false, reduceIte, Nat.zero_add, Nat.lt_add_one, Nat.zero_lt_succ, reduceCtorEq, Nat.reducePow, Nat.reduceLeDiff, Nat.zero_le, biEv, hs, i1, srcOf, ofOpt]
      rw [turns_idx rfl Z (ts.map fun t => .tup [t.d, .tup (xs.map .str)]) [] (by rw [List.length_map, hzl2]) (fun i p y h1 h2 => ?_) (by unfold sizeL; simp; omega)]
      · simp only [NF.start, evSs, evS, evE, evEs, evT, PstS.andThen_, PstS.seq_, Pst.bind_, PstS.if_, Pst.if_, PstS.nx_, PstS.rt_, Pst.ok_, List.map_cons, List.map_nil, List.length_cons, List.length_nil, List.replicate, List.cons_append, List.nil_append, List.getElem?_cons_zero, List.getElem?_cons_succ, setG_nm, setG_tp, new, selArgs, List.set_cons_zero, List.set_cons_succ, evE_lcE, evI, sizeL, Nat.reduceAdd, Nat.reduceLeDiff, Nat.reduceLT, Nat.reduceSub, if_true, if_false, reduceIte, Nat.zero_add, Nat.lt_add_one, Nat.zero_lt_succ, reduceCtorEq, Nat.reducePow, Nat.reduceLeDiff, Nat.zero_le, i2]
        rw [bin_addL (xs := ts.map fun t => .tup [t.d, .tup (xs.map .str)]) (ys := [.tup [b.d, .tup (xs.map .str)]]) (by rw [List.getElem?_append_left (by simp)]; exact last_get _ _) (last_get _ _) (by simp; unfold sizeL; omega), Pst.ok_]
        have e : (TM.lt xs ts b).within.map pairN = (ts.map fun t => .tup [t.d, .tup (xs.map .str)]) ++ [.tup [b.d, .tup (xs.map .str)]] := by
          simp [TM.within, pairN, Function.comp_def]
        rw [e] at fin ⊢
        have := fin (S ++ [SO.lst (xs.map D.str)] ++ [SO.lst (ts.map fun t => .tup [t.d, .tup (xs.map .str)])] ++ [SO.lst [.tup [b.d, .tup (xs.map .str)]]]).length ([SO.lst (xs.map D.str)] ++ [SO.lst (ts.map fun t => .tup [t.d, .tup (xs.map .str)])] ++ [SO.lst [.tup [b.d, .tup (xs.map .str)]]] ++ [SO.lst ((ts.map fun t => .tup [t.d, .tup (xs.map .str)]) ++ [.tup [b.d, .tup (xs.map .str)]])]) (by simp <;> omega)
          (by rw [show ∀ (A B C E : Store), S ++ (A ++ B ++ C ++ E) = (S ++ A ++ B ++ C) ++ E by intros; simp]; exact last_get _ _)
        rw [show ∀ (A B C E : Store), S ++ (A ++ B ++ C ++ E) = (S ++ A ++ B ++ C) ++ E by intros; simp] at this
        simpa using this
      · obtain ⟨x, t, hx, ht, rfl⟩ := hget i p h1
        rw [List.getElem?_map, ht] at h2
        cases h2
        refine eq_of ?_
        simp only [NF.start, evSs, evS, evE, evEs, evT, PstS.andThen_, PstS.seq_, Pst.bind_, PstS.if_, Pst.if_, PstS.nx_, PstS.rt_, Pst.ok_, List.map_cons, List.map_nil, List.length_cons, List.length_nil, List.replicate, List.cons_append, List.nil_append, List.getElem?_cons_zero, List.getElem?_cons_succ, setG_nm, setG_tp, new, selArgs, List.set_cons_zero, List.set_cons_succ, evE_lcE, evI, sizeL, Nat.reduceAdd, Nat.reduceLeDiff, Nat.reduceLT, Nat.reduceSub, if_true, if_false, reduceIte, Nat.zero_add, Nat.lt_add_one, Nat.zero_lt_succ, reduceCtorEq, Nat.reducePow, Nat.reduceLeDiff, Nat.zero_le, lcTurnE, wipeE, evIfs, setGs]
        exact ⟨by first | trivial | rfl, trivial⟩
    · obtain ⟨x, t, hx, ht, rfl⟩ := hmem p hp'
      refine eq_of ?_
      simp only [NF.start, evSs, evS, evE, evEs, evT, PstS.andThen_, PstS.seq_, Pst.bind_, PstS.if_, Pst.if_, PstS.nx_, PstS.rt_, Pst.ok_, List.map_cons, List.map_nil, List.length_cons, List.length_nil, List.replicate, List.cons_append, List.nil_append, List.getElem?_cons_zero, List.getElem?_cons_succ, setG_nm, setG_tp, new, selArgs, List.set_cons_zero, List.set_cons_succ, evE_lcE, evI, sizeL, Nat.reduceAdd, Nat.reduceLeDiff, Nat.reduceLT, Nat.reduceSub, if_true, if_false, reduceIte, Nat.zero_add, Nat.lt_add_one, Nat.zero_lt_succ, reduceCtorEq, Nat.reducePow, Nat.reduceLeDiff, Nat.zero_le, lcTurnE, wipeE, evIfs, setGs]
      exact ⟨by first | trivial | rfl, trivial⟩
  | cs a ws bs =>
    have hxl : ws.length = bs.length := ok.1.2.1
    have hx3 : ws.length ≤ 3 := ok.1.2.2
    have hzl : (List.zipWith wayD ws (TM.ds bs)).length = ws.length := by rw [List.length_zipWith, TM.ds_map, List.length_map]; omega
    have hget := fun (i : Nat) (d : D) => get_ways (ws := ws) (bs := bs) (i := i) (d := d)
    obtain ⟨Z, hZ⟩ : ∃ Z, Z = List.zipWith wayD ws (TM.ds bs) := ⟨_, rfl⟩
    have hd : (TM.cs a ws bs).d = .tup [.str (S! "case"), a.d, .tup Z] := by rw [hZ]; rfl
    rw [← hZ] at hget hzl
    rw [hd]
    obtain ⟨W, hW⟩ : ∃ W, W = (List.zipWith (fun (w : List Nat × List (List Nat)) b => (b, w.2)) ws bs).map pairN := ⟨_, rfl⟩
    have hWl : W.length = ws.length := by rw [hW, List.length_map, List.length_zipWith]; omega
    have e : (TM.cs a ws bs).within.map pairN = .tup [a.d, .tup []] :: W := by rw [hW]; simp [TM.within, pairN]
    rw [e] at fin ⊢
    have i0 : ∀ S', ixEv (.tup [.str (S! "case"), a.d, .tup Z]) (.int 0) S' = .ok (.str (S! "case")) S' none := fun S' => ix_tup (by omega) rfl
    have i1 : ∀ S', ixEv (.tup [.str (S! "case"), a.d, .tup Z]) (.int 1) S' = .ok a.d S' none := fun S' => ix_tup (by omega) rfl
    have i2 : ∀ S', ixEv (.tup [.str (S! "case"), a.d, .tup Z]) (.int 2) S' = .ok (.tup Z) S' none := fun S' => ix_tup (by omega) rfl
    simp only [NF.start, evSs, evS, evE, evEs, evT, PstS.andThen_, PstS.seq_, Pst.bind_, PstS.if_, Pst.if_, PstS.nx_, PstS.rt_, Pst.ok_, List.map_cons, List.map_nil, List.length_cons, List.length_nil, List.replicate, List.cons_append, List.nil_append, List.getElem?_cons_zero, List.getElem?_cons_succ, setG_nm, setG_tp, new, selArgs, List.set_cons_zero, List.set_cons_succ, evE_lcE, evI, sizeL, Nat.reduceAdd, Nat.reduceLeDiff, Nat.reduceLT, Nat.reduceSub, if_true, if_false, reduceIte, Nat.zero_add, Nat.lt_add_one, Nat.zero_lt_succ, reduceCtorEq, Nat.reducePow, Nat.reduceLeDiff, Nat.zero_le, c0, i0, i1, i2, cmp_eqS, tg_num_num, tg_num_name, tg_num_make, tg_num_app, tg_num_op, tg_num_fun, tg_num_let, tg_num_case, tg_name_num, tg_name_name, tg_name_make, tg_name_app, tg_name_op, tg_name_fun, tg_name_let, tg_name_case, tg_make_num, tg_make_name, tg_make_make, tg_make_app, tg_make_op, tg_make_fun, tg_make_let, tg_make_case, tg_app_num, tg_app_name, tg_app_make, tg_app_app, tg_app_op, tg_app_fun, tg_app_let, tg_app_case, tg_op_num, tg_op_name, tg_op_make, tg_op_app, tg_op_op, tg_op_fun, tg_op_let, tg_op_case, tg_fun_num, tg_fun_name, tg_fun_make, tg_fun_app, tg_fun_op, tg_fun_fun, tg_fun_let, tg_fun_case, tg_let_num, tg_let_name, tg_let_make, tg_let_app, tg_let_op, tg_let_fun, tg_let_let, tg_let_case, tg_case_num, tg_case_name, tg_case_make, tg_case_app, tg_case_op, tg_case_fun, tg_case_let, tg_case_case, Bool.false_eq_true, srcOf, ofOpt]
    rw [turns_idx rfl Z W [] (by rw [hWl, hzl]) (fun i p y h1 h2 => ?_) (by unfold sizeL; simp; omega)]
    · try simp only [NF.start, evSs, evS, evE, evEs, evT, PstS.andThen_, PstS.seq_, Pst.bind_, PstS.if_, Pst.if_, PstS.nx_, PstS.rt_, Pst.ok_, List.map_cons, List.map_nil, List.length_cons, List.length_nil, List.replicate, List.cons_append, List.nil_append, List.getElem?_cons_zero, List.getElem?_cons_succ, setG_nm, setG_tp, new, selArgs, List.set_cons_zero, List.set_cons_succ, evE_lcE, evI, sizeL, Nat.reduceAdd, Nat.reduceLeDiff, Nat.reduceLT, Nat.reduceSub, if_true, if_false, reduceIte, Nat.zero_add, Nat.lt_add_one, Nat.zero_lt_succ, reduceCtorEq, Nat.reducePow, Nat.reduceLeDiff, Nat.zero_le]
      rw [bin_addL (xs := [.tup [a.d, .tup []]]) (ys := W) (by rw [List.getElem?_append_left (by simp)]; exact last_get _ _) (last_get _ _) (by simp; unfold sizeL; omega), Pst.ok_]
      have := fin (S ++ [SO.lst [.tup [a.d, .tup []]]] ++ [SO.lst W]).length ([SO.lst [.tup [a.d, .tup []]]] ++ [SO.lst W] ++ [SO.lst ([.tup [a.d, .tup []]] ++ W)]) (by simp <;> omega)
        (by rw [show ∀ (A B E : Store), S ++ (A ++ B ++ E) = (S ++ A ++ B) ++ E by intros; simp]; exact last_get _ _)
      rw [show ∀ (A B E : Store), S ++ (A ++ B ++ E) = (S ++ A ++ B) ++ E by intros; simp] at this
      simpa using this
    · obtain ⟨w, b, hw, hb, rfl⟩ := hget i p h1
      rw [hW, List.getElem?_map, List.getElem?_zipWith, hw, hb] at h2
      cases h2
      refine eq_of ?_
      simp only [NF.start, evSs, evS, evE, evEs, evT, PstS.andThen_, PstS.seq_, Pst.bind_, PstS.if_, Pst.if_, PstS.nx_, PstS.rt_, Pst.ok_, List.map_cons, List.map_nil, List.length_cons, List.length_nil, List.replicate, List.cons_append, List.nil_append, List.getElem?_cons_zero, List.getElem?_cons_succ, setG_nm, setG_tp, new, selArgs, List.set_cons_zero, List.set_cons_succ, evE_lcE, evI, sizeL, Nat.reduceAdd, Nat.reduceLeDiff, Nat.reduceLT, Nat.reduceSub, if_true, if_false, reduceIte, Nat.zero_add, Nat.lt_add_one, Nat.zero_lt_succ, reduceCtorEq, Nat.reducePow, Nat.reduceLeDiff, Nat.zero_le, lcTurnE, wipeE, evIfs, setGs]
      exact ⟨by first | trivial | rfl, trivial⟩
theorem gather_spec (N : Nat) : ∀ (t : TM), t.size ≤ N → t.ok → t.size ≤ 10000 → ∀ {S : Store} {f : Nat} {bd : List (List Nat)} {kvs : List (D × D)} {M : Nat}, S[f]? = some (.dict kvs) → kvs.length + (t.fv bd).length ≤ 20000 → bd.length + 4 * t.dep ≤ 10000 → t.dep + 2 ≤ M →
    NF.run P L M 1 [t.d, .tup (bd.map .str), .ref f] S = .ok .non (S.set f (.dict (putAll kvs (t.fv bd)))) none := by
  induction N with
  | zero => intro t h; cases t <;> simp [TM.size] at h <;> omega
  | succ N ih =>
  intro t hN ok hz S f bd kvs M hf hkl hbl hM
  obtain ⟨M, rfl⟩ : ∃ m, M = m + 2 := ⟨M - 2, by omega⟩
  have hfS : f < S.length := (List.getElem?_eq_some_iff.mp hf).1
  have flen := fun t' bd' (h : t'.size ≤ t.size) => TM.fv_len t'.size t' bd' (Nat.le_refl _)
  refine eq_of2 (run_pst hp.h1 rfl ?_)
  have bodyE : c1.body = c1.body.take 1 ++ c1.body.drop 1 := rfl
  rw [bodyE]
  refine PstS.append_ ?_
  refine PstS.mono (nx := fun σ S' => σ = [some t.d, some (.tup (bd.map .str)), some (.ref f), none, none] ∧ S' = S.set f (.dict (putAll kvs (headFv t bd)))) (rt := fun _ _ => False) ?_ (fun σ S' ⟨e1, e2⟩ => ?_) (fun _ _ h => h.elim)
  · have i0 : ∃ s r, t.d = .tup (.str s :: r) ∧ ((s == (S! "name")) = false → headFv t bd = []) := by
      cases t with
      | num i => exact ⟨_, _, rfl, fun _ => rfl⟩
      | name x => exact ⟨_, _, rfl, fun h => by rw [tg_name_name] at h; cases h⟩
      | make x => exact ⟨_, _, rfl, fun _ => rfl⟩
      | app a b => exact ⟨_, _, rfl, fun _ => rfl⟩
      | op o a b => exact ⟨_, _, rfl, fun _ => rfl⟩
      | fn x b => exact ⟨_, _, rfl, fun _ => rfl⟩
      | lt xs ts b => exact ⟨_, _, rfl, fun _ => rfl⟩
      | cs a ws bs => exact ⟨_, _, rfl, fun _ => rfl⟩
    obtain ⟨s, r, hd, hhead⟩ := i0
    have j0 : ∀ S', ixEv t.d (.int 0) S' = .ok (.str s) S' none := fun S' => by rw [hd]; exact ix_tup (by omega) rfl
    have hsame : S.set f (.dict kvs) = S := by
      have : S[f] = .dict kvs := by
        rw [List.getElem?_eq_getElem hfS] at hf
        exact Option.some.inj hf
      rw [← this]; exact List.set_getElem_self hfS
    simp only [NF.start, evSs, evS, evE, evEs, evT, PstS.andThen_, PstS.seq_, Pst.bind_, PstS.if_, Pst.if_, PstS.nx_, PstS.rt_, Pst.ok_, List.map_cons, List.map_nil, List.length_cons, List.length_nil, List.replicate, List.cons_append, List.nil_append, List.getElem?_cons_zero, List.getElem?_cons_succ, setG_nm, setG_tp, new, selArgs, List.set_cons_zero, List.set_cons_succ, evE_lcE, evI, sizeL, Nat.reduceAdd, Nat.reduceLeDiff, Nat.reduceLT, Nat.reduceSub, if_true, if_false, reduceIte, Nat.zero_add, Nat.lt_add_one, Nat.zero_lt_succ, reduceCtorEq, Nat.reducePow, Nat.reduceLeDiff, Nat.zero_le, c1, List.take_succ_cons, List.take_zero, j0, cmp_eqS]
    cases hs : s == (S! "name") with
    | false =>
      simp only [NF.start, evSs, evS, evE, evEs, evT, PstS.andThen_, PstS.seq_, Pst.bind_, PstS.if_, Pst.if_, PstS.nx_, PstS.rt_, Pst.ok_, List.map_cons, List.map_nil, List.length_cons, List.length_nil, List.replicate, List.cons_append, List.nil_append, List.getElem?_cons_zero, List.getElem?_cons_succ, setG_nm, setG_tp, new, selArgs, List.set_cons_zero, List.set_cons_succ, evE_lcE, evI, sizeL, Nat.reduceAdd, Nat.reduceLeDiff, Nat.reduceLT, Nat.reduceSub, if_true, if_false, reduceIte, Nat.zero_add, Nat.lt_add_one, Nat.zero_lt_succ, reduceCtorEq, Nat.reducePow, Nat.reduceLeDiff, Nat.zero_le, Bool.false_eq_true]
      rw [hhead hs]
      exact ⟨trivial, hsame.symm⟩
    | true =>
      have : ∃ x, t = .name x := by
        cases t with
        | name x => exact ⟨x, rfl⟩
        | num i => cases hd; rw [tg_num_name] at hs; cases hs
        | make x => cases hd; rw [tg_make_name] at hs; cases hs
        | app a b => cases hd; rw [tg_app_name] at hs; cases hs
        | op o a b => cases hd; rw [tg_op_name] at hs; cases hs
        | fn x b => cases hd; rw [tg_fun_name] at hs; cases hs
        | lt xs ts b => cases hd; rw [tg_let_name] at hs; cases hs
        | cs a ws bs => cases hd; rw [tg_case_name] at hs; cases hs
      obtain ⟨x, rfl⟩ := this
      have j1 : ∀ S', ixEv (TM.name x).d (.int 1) S' = .ok (.str x) S' none := fun S' => ix_tup (by omega) rfl
      simp only [NF.start, evSs, evS, evE, evEs, evT, PstS.andThen_, PstS.seq_, Pst.bind_, PstS.if_, Pst.if_, PstS.nx_, PstS.rt_, Pst.ok_, List.map_cons, List.map_nil, List.length_cons, List.length_nil, List.replicate, List.cons_append, List.nil_append, List.getElem?_cons_zero, List.getElem?_cons_succ, setG_nm, setG_tp, new, selArgs, List.set_cons_zero, List.set_cons_succ, evE_lcE, evI, sizeL, Nat.reduceAdd, Nat.reduceLeDiff, Nat.reduceLT, Nat.reduceSub, if_true, if_false, reduceIte, Nat.zero_add, Nat.lt_add_one, Nat.zero_lt_succ, reduceCtorEq, Nat.reducePow, Nat.reduceLeDiff, Nat.zero_le, j1, notin_tup]
      cases hc : bd.contains x with
      | true =>
        simp only [NF.start, evSs, evS, evE, evEs, evT, PstS.andThen_, PstS.seq_, Pst.bind_, PstS.if_, Pst.if_, PstS.nx_, PstS.rt_, Pst.ok_, List.map_cons, List.map_nil, List.length_cons, List.length_nil, List.replicate, List.cons_append, List.nil_append, List.getElem?_cons_zero, List.getElem?_cons_succ, setG_nm, setG_tp, new, selArgs, List.set_cons_zero, List.set_cons_succ, evE_lcE, evI, sizeL, Nat.reduceAdd, Nat.reduceLeDiff, Nat.reduceLT, Nat.reduceSub, if_true, if_false, reduceIte, Nat.zero_add, Nat.lt_add_one, Nat.zero_lt_succ, reduceCtorEq, Nat.reducePow, Nat.reduceLeDiff, Nat.zero_le, Bool.not_true, Bool.false_eq_true]
        have : headFv (.name x) bd = [] := by unfold headFv; simp only; rw [if_pos hc]
        rw [this]
        exact ⟨trivial, hsame.symm⟩
      | false =>
        simp only [NF.start, evSs, evS, evE, evEs, evT, PstS.andThen_, PstS.seq_, Pst.bind_, PstS.if_, Pst.if_, PstS.nx_, PstS.rt_, Pst.ok_, List.map_cons, List.map_nil, List.length_cons, List.length_nil, List.replicate, List.cons_append, List.nil_append, List.getElem?_cons_zero, List.getElem?_cons_succ, setG_nm, setG_tp, new, selArgs, List.set_cons_zero, List.set_cons_succ, evE_lcE, evI, sizeL, Nat.reduceAdd, Nat.reduceLeDiff, Nat.reduceLT, Nat.reduceSub, if_true, if_false, reduceIte, Nat.zero_add, Nat.lt_add_one, Nat.zero_lt_succ, reduceCtorEq, Nat.reducePow, Nat.reduceLeDiff, Nat.zero_le, Bool.not_false, j1, setSub, hf, D.isKey, put, D.mr, show kvs.length < 16777216 by omega]
        have : headFv (.name x) bd = [x] := by unfold headFv; simp only; rw [if_neg (by rw [hc]; decide)]
        rw [this]
        exact ⟨trivial, rfl⟩
  · subst e1 e2
    obtain ⟨Y, hY⟩ : ∃ Y : List (List Nat) → Store, Y = fun xs => S.set f (.dict (putAll kvs xs)) := ⟨_, rfl⟩
    have hYe : ∀ xs, S.set f (.dict (putAll kvs xs)) = Y xs := fun xs => by rw [hY]
    have hYl : ∀ xs, (Y xs).length = S.length := fun xs => by rw [hY]; simp
    have hYf : ∀ xs, (Y xs)[f]? = some (.dict (putAll kvs xs)) := fun xs => by rw [hY]; exact List.getElem?_set_self hfS
    have hYs : ∀ xs ys, (Y xs).set f (.dict (putAll (putAll kvs xs) ys)) = Y (xs ++ ys) := fun xs ys => by rw [hY]; simp only [List.set_set, putAll_app]
    rw [hYe]
    clear hY
    simp only [NF.start, evSs, evS, evE, evEs, evT, PstS.andThen_, PstS.seq_, Pst.bind_, PstS.if_, Pst.if_, PstS.nx_, PstS.rt_, Pst.ok_, List.map_cons, List.map_nil, List.length_cons, List.length_nil, List.replicate, List.cons_append, List.nil_append, List.getElem?_cons_zero, List.getElem?_cons_succ, setG_nm, setG_tp, new, selArgs, List.set_cons_zero, List.set_cons_succ, evE_lcE, evI, sizeL, Nat.reduceAdd, Nat.reduceLeDiff, Nat.reduceLT, Nat.reduceSub, if_true, if_false, reduceIte, Nat.zero_add, Nat.lt_add_one, Nat.zero_lt_succ, reduceCtorEq, Nat.reducePow, Nat.reduceLeDiff, Nat.zero_le, c1, List.drop_succ_cons, List.drop_zero]
    rw [parts_of_spec hp (n := M) t ok, Pst.ok_]
    have hk0 := last_get (Y (headFv t bd)) (SO.lst (t.within.map pairN))
    simp only [NF.start, evSs, evS, evE, evEs, evT, PstS.andThen_, PstS.seq_, Pst.bind_, PstS.if_, Pst.if_, PstS.nx_, PstS.rt_, Pst.ok_, List.map_cons, List.map_nil, List.length_cons, List.length_nil, List.replicate, List.cons_append, List.nil_append, List.getElem?_cons_zero, List.getElem?_cons_succ, setG_nm, setG_tp, new, selArgs, List.set_cons_zero, List.set_cons_succ, evE_lcE, evI, sizeL, Nat.reduceAdd, Nat.reduceLeDiff, Nat.reduceLT, Nat.reduceSub, if_true, if_false, reduceIte, Nat.zero_add, Nat.lt_add_one, Nat.zero_lt_succ, reduceCtorEq, Nat.reducePow, Nat.reduceLeDiff, Nat.zero_le, srcOf, hk0, ofOpt]
    rw [hYl]
    refine for_all (fun i σ S' => ∃ (a c : Option D), σ = [some t.d, some (.tup (bd.map .str)), some (.ref f), a, c] ∧ S' = Y (headFv t bd ++ (t.within.take i).flatMap fun p => p.1.fv (bd ++ p.2)) ++ [SO.lst (t.within.map pairN)]) (fun i y σ S' hy hI => ?_) (fun σ S' hI => ?_) ⟨none, none, rfl, by simp⟩
    · obtain ⟨a, c, rfl, rfl⟩ := hI
      rw [List.getElem?_map, Option.map_eq_some_iff] at hy
      obtain ⟨p, hp1, rfl⟩ := hy
      have hlenf : (headFv t bd ++ (t.within.take i).flatMap fun p => p.1.fv (bd ++ p.2)).length + (p.1.fv (bd ++ p.2)).length ≤ (t.fv bd).length := by
        have := flat_le (fun p : TM × List (List Nat) => p.1.fv (bd ++ p.2)) hp1
        rw [TM.fv_eq t, List.length_append, List.length_append]
        omega
      obtain ⟨acc, hacc⟩ : ∃ acc, acc = headFv t bd ++ (t.within.take i).flatMap (fun p => p.1.fv (bd ++ p.2)) := ⟨_, rfl⟩
      rw [← hacc] at hlenf ⊢
      have hpm := List.mem_of_getElem? hp1
      have hps := TM.within_size hpm
      obtain ⟨hpo, hp3, hpd⟩ := TM.within_ok ok hpm
      have hkX : (Y acc ++ [SO.lst (t.within.map pairN)])[S.length]? = some (.lst (t.within.map pairN)) := by rw [← hYl acc]; exact last_get _ _
      have hfX : (Y acc ++ [SO.lst (t.within.map pairN)])[f]? = some (.dict (putAll kvs acc)) := by rw [List.getElem?_append_left (by rw [hYl]; exact hfS)]; exact hYf acc
      refine ⟨by simp only [Src.holds, List.all_cons, List.all_nil, hkX, decide_true, Bool.and_true], ?_⟩
      have hal := putAll_len acc kvs
      simp only [NF.start, evSs, evS, evE, evEs, evT, PstS.andThen_, PstS.seq_, Pst.bind_, PstS.if_, Pst.if_, PstS.nx_, PstS.rt_, Pst.ok_, List.map_cons, List.map_nil, List.length_cons, List.length_nil, List.replicate, List.cons_append, List.nil_append, List.getElem?_cons_zero, List.getElem?_cons_succ, setG_nm, setG_tp, new, selArgs, List.set_cons_zero, List.set_cons_succ, evE_lcE, evI, sizeL, Nat.reduceAdd, Nat.reduceLeDiff, Nat.reduceLT, Nat.reduceSub, if_true, if_false, reduceIte, Nat.zero_add, Nat.lt_add_one, Nat.zero_lt_succ, reduceCtorEq, Nat.reducePow, Nat.reduceLeDiff, Nat.zero_le, pairN, setGs]
      rw [bin_addT _ (by rw [List.length_map, List.length_map]; unfold sizeL; omega), Pst.ok_, ← List.map_append]
      rw [ih p.1 (by omega) hpo (by omega) hfX (by omega) (by rw [List.length_append]; omega) (by omega), Pst.ok_]
      refine ⟨_, _, rfl, ?_⟩
      rw [List.set_append_left _ _ (by rw [hYl]; exact hfS), hYs, List.take_add_one, hp1, hacc]
      simp [pairN]
    · obtain ⟨a, c, rfl, rfl⟩ := hI
      rw [List.length_map, List.take_length, ← TM.fv_eq]
      have hkX : (Y (t.fv bd) ++ [SO.lst (t.within.map pairN)])[S.length]? = some (.lst (t.within.map pairN)) := by rw [← hYl (t.fv bd)]; exact last_get _ _
      refine ⟨by simp only [Src.holds, List.all_cons, List.all_nil, hkX, decide_true, Bool.and_true], ?_⟩
      refine ⟨trivial, ?_⟩
      rw [hYe, ← hYl (t.fv bd), List.take_left]
theorem free_names_spec {n : Nat} {S : Store} (t : TM) (ok : t.ok) (hz : t.size ≤ 10000) (hd : 4 * t.dep ≤ 10000) (hM : t.dep + 2 ≤ n) : NF.run P L (n + 1) 2 [t.d] S = .ok (.ref S.length) (S ++ [.lst ((sortT (setK (t.fv []))).map .str)]) none := by
  refine eq_of2 (run_pst hp.h2 rfl ?_)
  have fl := TM.fv_len t.size t [] (Nat.le_refl _)
  simp only [NF.start, evSs, evS, evE, evEs, evT, PstS.andThen_, PstS.seq_, Pst.bind_, PstS.if_, Pst.if_, PstS.nx_, PstS.rt_, Pst.ok_, List.map_cons, List.map_nil, List.length_cons, List.length_nil, List.replicate, List.cons_append, List.nil_append, List.getElem?_cons_zero, List.getElem?_cons_succ, setG_nm, setG_tp, new, selArgs, List.set_cons_zero, List.set_cons_succ, evE_lcE, evI, sizeL, Nat.reduceAdd, Nat.reduceLeDiff, Nat.reduceLT, Nat.reduceSub, if_true, if_false, reduceIte, Nat.zero_add, Nat.lt_add_one, Nat.zero_lt_succ, reduceCtorEq, Nat.reducePow, Nat.reduceLeDiff, Nat.zero_le, c2, disp_nil]
  have hg := gather_spec hp (L := L) t.size t (Nat.le_refl _) ok hz (S := S ++ [SO.dict []]) (f := S.length) (bd := []) (kvs := []) (M := n) (last_get _ _) (by simp only [List.length_nil]; omega) (by simpa using hd) hM
  rw [show (([] : List (List Nat)).map D.str) = [] from rfl] at hg
  rw [hg, Pst.ok_]
  have hset : (S ++ [SO.dict []]).set S.length (.dict (putAll [] (t.fv []))) = S ++ [SO.dict (putAll [] (t.fv []))] := by
    rw [List.set_append_right _ _ (Nat.le_refl _)]; simp
  rw [hset]
  have hk := putAll_keys (t.fv []) (kvs := []) (ks := []) rfl
  have hsl := setK_len (t.fv [])
  try simp only [NF.start, evSs, evS, evE, evEs, evT, PstS.andThen_, PstS.seq_, Pst.bind_, PstS.if_, Pst.if_, PstS.nx_, PstS.rt_, Pst.ok_, List.map_cons, List.map_nil, List.length_cons, List.length_nil, List.replicate, List.cons_append, List.nil_append, List.getElem?_cons_zero, List.getElem?_cons_succ, setG_nm, setG_tp, new, selArgs, List.set_cons_zero, List.set_cons_succ, evE_lcE, evI, sizeL, Nat.reduceAdd, Nat.reduceLeDiff, Nat.reduceLT, Nat.reduceSub, if_true, if_false, reduceIte, Nat.zero_add, Nat.lt_add_one, Nat.zero_lt_succ, reduceCtorEq, Nat.reducePow, Nat.reduceLeDiff, Nat.zero_le]
  rw [sorted_dict (ks := setK (t.fv [])) (last_get _ _) hk (by omega), Pst.ok_]
  refine .inr ⟨(S ++ [SO.dict (putAll [] (t.fv []))]).length, _, rfl, by simp, last_get _ _, by rw [strs_mr]; exact Nat.zero_le _, by first | trivial | rfl, by simp⟩
end
end K15

/-! NFGr: groups of nodes: which come to which, and their order (no program in sight). -/
namespace NF
namespace Gr
section
variable (n : Nat) (adj : Nat → Nat → Bool)
inductive Pth : Nat → Nat → Prop
  | one {i j : Nat} : j < n → adj i j = true → Pth i j
  | step {i j k : Nat} : Pth i j → k < n → adj j k = true → Pth i k
def ws : Nat → Nat → Nat → Bool
  | 0, i, j => adj i j
  | k + 1, i, j => ws k i j || (ws k i k && ws k k j)
end
section
variable {n : Nat} {adj : Nat → Nat → Bool}
theorem Pth.lt {i j : Nat} (h : Pth n adj i j) : j < n := by
  cases h <;> assumption
theorem Pth.trans {i j k : Nat} (h : Pth n adj i j) (g : Pth n adj j k) : Pth n adj i k := by
  induction g with
  | one h1 h2 => exact .step h h1 h2
  | step _ h1 h2 ih => exact .step ih h1 h2
theorem ws_up {k i j : Nat} (h : ws adj k i j = true) : ws adj (k + 1) i j = true := by
  simp [ws, h]
theorem ws_le {k m i j : Nat} (h : ws adj k i j = true) (l : k ≤ m) : ws adj m i j = true := by
  induction l with
  | refl => exact h
  | step _ ih => exact ws_up ih
theorem ws_trans : ∀ (k : Nat) {i j m : Nat}, m < k → ws adj k i m = true → ws adj k m j = true → ws adj k i j = true
  | 0, _, _, _, h, _, _ => absurd h (Nat.not_lt_zero _)
  | k + 1, i, j, m, hm, h1, h2 => by
    simp only [ws, Bool.or_eq_true, Bool.and_eq_true] at h1 h2 ⊢
    by_cases e : m = k
    · subst e
      have a : ws adj m i m = true := h1.elim id (·.1)
      have b : ws adj m m j = true := h2.elim id (·.2)
      exact .inr ⟨a, b⟩
    · have hm : m < k := by omega
      rcases h1 with h1 | ⟨h1, h1'⟩ <;> rcases h2 with h2 | ⟨h2, h2'⟩
      · exact .inl (ws_trans k hm h1 h2)
      · exact .inr ⟨ws_trans k hm h1 h2, h2'⟩
      · exact .inr ⟨h1, ws_trans k hm h1' h2⟩
      · exact .inr ⟨h1, h2'⟩
theorem ws_pth : ∀ (k : Nat) {i j : Nat}, k ≤ n → j < n → ws adj k i j = true → Pth n adj i j
  | 0, i, j, _, hj, h => .one hj h
  | k + 1, i, j, hk, hj, h => by
    simp only [ws, Bool.or_eq_true, Bool.and_eq_true] at h
    rcases h with h | ⟨h1, h2⟩
    · exact ws_pth k (by omega) hj h
    · exact (ws_pth k (by omega) (by omega) h1).trans (ws_pth k (by omega) hj h2)
theorem ws_iff {i j : Nat} (hj : j < n) : ws adj n i j = true ↔ Pth n adj i j := by
  constructor
  · exact ws_pth n (Nat.le_refl _) hj
  · intro h
    clear hj
    induction h with
    | one h1 h2 => exact ws_le (k := 0) h2 (Nat.zero_le _)
    | step g h1 h2 ih => exact ws_trans n g.lt ih (ws_le (k := 0) h2 (Nat.zero_le _))
end
/-! ### groups -/
section
variable (n : Nat) (R : Nat → Nat → Bool)
def eqv (i j : Nat) : Bool := j == i || (R i j && R j i)
def grp (i : Nat) : List Nat := (List.range n).filter (eqv R i)
def gl : Nat → List (List Nat)
  | 0 => []
  | k + 1 => if (gl k).contains (grp n R k) then gl k else gl k ++ [grp n R k]
/-- what is told of a closure -/
structure Cl : Prop where
  tr : ∀ i j k, j < n → R i j = true → R j k = true → R i k = true
end
section
variable {n : Nat} {R : Nat → Nat → Bool}
theorem eqv_iff {i j : Nat} : eqv R i j = true ↔ j = i ∨ (R i j = true ∧ R j i = true) := by simp [eqv]
theorem eqv_symm {i j : Nat} (h : eqv R i j = true) : eqv R j i = true := by
  rw [eqv_iff] at h ⊢
  rcases h with h | ⟨h1, h2⟩
  · exact .inl h.symm
  · exact .inr ⟨h2, h1⟩
theorem eqv_trans (c : Cl n R) {i j k : Nat} (hi : i < n) (hj : j < n) (hk : k < n) (h : eqv R i j = true) (g : eqv R j k = true) : eqv R i k = true := by
  rw [eqv_iff] at h g ⊢
  rcases h with rfl | ⟨h1, h2⟩
  · exact g
  rcases g with rfl | ⟨g1, g2⟩
  · exact .inr ⟨h1, h2⟩
  · exact .inr ⟨c.tr _ _ _ hj h1 g1, c.tr _ _ _ hj g2 h2⟩
theorem mem_grp {i j : Nat} : j ∈ grp n R i ↔ j < n ∧ eqv R i j = true := by simp [grp]
theorem grp_self {i : Nat} (h : i < n) : i ∈ grp n R i := mem_grp.mpr ⟨h, by simp [eqv]⟩
theorem grp_eq (c : Cl n R) {i j : Nat} (hi : i < n) (hj : j < n) (h : eqv R i j = true) : grp n R i = grp n R j := by
  unfold grp
  refine List.filter_congr fun k hk => ?_
  have hk : k < n := by simpa using hk
  rw [Bool.eq_iff_iff]
  exact ⟨fun q => eqv_trans c hj hi hk (eqv_symm h) q, fun q => eqv_trans c hi hj hk h q⟩
theorem mem_gl {k : Nat} {g : List Nat} : g ∈ gl n R k ↔ ∃ i, i < k ∧ g = grp n R i := by
  induction k with
  | zero => simp [gl]
  | succ k ih =>
    unfold gl
    by_cases h : (gl n R k).contains (grp n R k) = true
    · rw [if_pos h, ih]
      constructor
      · rintro ⟨i, hi, rfl⟩; exact ⟨i, by omega, rfl⟩
      · rintro ⟨i, hi, rfl⟩
        by_cases e : i = k
        · subst e
          exact ih.mp (by simpa using h)
        · exact ⟨i, by omega, rfl⟩
    · rw [if_neg h, List.mem_append, ih]
      constructor
      · rintro (⟨i, hi, rfl⟩ | h)
        · exact ⟨i, by omega, rfl⟩
        · exact ⟨k, by omega, by simpa using h⟩
      · rintro ⟨i, hi, rfl⟩
        by_cases e : i = k
        · right; simp [e]
        · exact .inl ⟨i, by omega, rfl⟩
theorem gl_nodup (k : Nat) : (gl n R k).Nodup := by
  induction k with
  | zero => simp [gl]
  | succ k ih =>
    unfold gl
    by_cases h : (gl n R k).contains (grp n R k) = true
    · rw [if_pos h]; exact ih
    · rw [if_neg h, List.nodup_append]
      refine ⟨ih, by simp, fun a ha b hb => ?_⟩
      have : b = grp n R k := by simpa using hb
      subst this
      rintro rfl
      exact h (by simpa using ha)
theorem gl_len (k : Nat) : (gl n R k).length ≤ k := by
  induction k with
  | zero => simp [gl]
  | succ k ih =>
    unfold gl
    split
    · omega
    · simp; omega
/-- seen already: one of the groups holds it -/
theorem seen_iff (c : Cl n R) {k : Nat} (hk : k < n) : (∃ g ∈ gl n R k, k ∈ g) ↔ (gl n R k).contains (grp n R k) = true := by
  constructor
  · rintro ⟨g, hg, hkg⟩
    obtain ⟨i, hi, rfl⟩ := mem_gl.mp hg
    rw [mem_grp] at hkg
    have : grp n R i = grp n R k := grp_eq c (by omega) hk hkg.2
    rw [← this]
    simpa using hg
  · intro h
    exact ⟨_, by simpa using h, grp_self hk⟩

/-! ### their order -/
def freeB (n : Nat) (R : Nat → Nat → Bool) (put g : List Nat) : Bool := (List.range n).all fun j => !R (g.headD 0) j || (put.contains j || g.contains j)
theorem free_iff {put g : List Nat} : freeB n R put g = true ↔ ∀ j, j < n → R (g.headD 0) j = true → j ∈ put ∨ j ∈ g := by
  unfold freeB
  rw [List.all_eq_true]
  constructor
  · intro h j hj hr
    have := h j (by simpa using hj)
    rw [hr] at this
    simpa using this
  · intro h j hj
    have hj : j < n := by simpa using hj
    cases hr : R (g.headD 0) j with
    | true =>
      have := h j hj hr
      show (!true || _) = true
      simpa using this
    | false => rfl
/-- how it stands between two turns -/
structure St (n : Nat) (R : Nat → Nat → Bool) (left : List (List Nat)) (put : List Nat) : Prop where
  sub : ∀ g ∈ left, g ∈ gl n R n
  nd : left.Nodup
  pt : ∀ j, j < n → (j ∈ put ↔ ¬ ∃ g ∈ left, j ∈ g)
  cl : ∀ i, i ∈ put → ∀ j, j < n → R i j = true → j ∈ put
  lt : ∀ i, i ∈ put → i < n
theorem head_mem {g : List Nat} (h : g ∈ gl n R n) : ∃ i, i < n ∧ g = grp n R i ∧ g.headD 0 ∈ g ∧ g.headD 0 < n ∧ eqv R i (g.headD 0) = true := by
  obtain ⟨i, hi, rfl⟩ := mem_gl.mp h
  have hs := grp_self (R := R) hi
  have hm : (grp n R i).headD 0 ∈ grp n R i := by
    cases hg : grp n R i with
    | nil => rw [hg] at hs; cases hs
    | cons a r => simp
  have := mem_grp.mp hm
  exact ⟨i, hi, rfl, hm, this.1, this.2⟩
/-- all of a group come to the same -/
theorem head_R (c : Cl n R) {g : List Nat} (h : g ∈ gl n R n) {x : Nat} (hx : x ∈ g) : x = g.headD 0 ∨ (R (g.headD 0) x = true ∧ R x (g.headD 0) = true) := by
  obtain ⟨i, hi, e, hm, hl, q⟩ := head_mem h
  rw [e] at hx
  have hx := mem_grp.mp hx
  have := eqv_trans c hl hi hx.1 (eqv_symm q) hx.2
  exact eqv_iff.mp this
theorem same_group (c : Cl n R) {g g' : List Nat} (h : g ∈ gl n R n) (h' : g' ∈ gl n R n) {x : Nat} (hx : x ∈ g) (hx' : x ∈ g') : g = g' := by
  obtain ⟨i, hi, rfl⟩ := mem_gl.mp h
  obtain ⟨j, hj, rfl⟩ := mem_gl.mp h'
  have a := mem_grp.mp hx
  have b := mem_grp.mp hx'
  exact grp_eq c hi hj (eqv_trans c hi a.1 hj a.2 (eqv_symm b.2))
def cnt (n : Nat) (R : Nat → Nat → Bool) (i : Nat) : Nat := ((List.range n).filter fun j => j == i || R i j).length
theorem filter_lt {p q : Nat → Bool} : ∀ (l : List Nat) {x : Nat}, x ∈ l → p x = false → q x = true → (∀ y ∈ l, p y = true → q y = true) → (l.filter p).length < (l.filter q).length
  | [], _, h, _, _, _ => by cases h
  | a :: l, x, h, h1, h2, h3 => by
    have le : ∀ l : List Nat, (∀ y ∈ l, p y = true → q y = true) → (l.filter p).length ≤ (l.filter q).length := by
      intro l
      induction l with
      | nil => intro _; simp
      | cons b l ih =>
        intro h
        have i := ih fun y hy => h y (List.mem_cons_of_mem _ hy)
        simp only [List.filter_cons]
        have hb := h b List.mem_cons_self
        cases hpb : p b <;> cases hqb : q b <;> simp_all <;> omega
    by_cases e : a = x
    · subst e
      have := le l fun y hy => h3 y (List.mem_cons_of_mem _ hy)
      simp only [List.filter_cons, h1, h2]
      simp; omega
    · have hx : x ∈ l := by
        rcases List.mem_cons.mp h with h | h
        · exact absurd h.symm e
        · exact h
      have := filter_lt l hx h1 h2 fun y hy => h3 y (List.mem_cons_of_mem _ hy)
      have ha := h3 a List.mem_cons_self
      simp only [List.filter_cons]
      cases hpa : p a <;> cases hqa : q a <;> simp_all <;> omega
theorem some_free (c : Cl n R) {left : List (List Nat)} {put : List Nat} (s : St n R left put) : ∀ (N : Nat) (g : List Nat), g ∈ left → cnt n R (g.headD 0) ≤ N → ∃ f ∈ left, freeB n R put f = true
  | N, g, hg, hN => by
    by_cases hf : freeB n R put g = true
    · exact ⟨g, hg, hf⟩
    · have hgl := s.sub g hg
      obtain ⟨i0, hi0, eg, hm, hl, q⟩ := head_mem hgl
      have : ∃ j, j < n ∧ R (g.headD 0) j = true ∧ ¬ (j ∈ put ∨ j ∈ g) := by
        apply Classical.byContradiction
        intro hno
        apply hf
        rw [free_iff]
        intro j hj hr
        apply Classical.byContradiction
        intro h
        exact hno ⟨j, hj, hr, h⟩
      obtain ⟨j, hj, hr, hjn⟩ := this
      have hjp : ¬ j ∈ put := fun h => hjn (.inl h)
      have hjg : ¬ j ∈ g := fun h => hjn (.inr h)
      obtain ⟨g', hg', hjg'⟩ : ∃ g' ∈ left, j ∈ g' := by
        apply Classical.byContradiction
        intro h
        exact hjp ((s.pt j hj).mpr h)
      have hgl' := s.sub g' hg'
      obtain ⟨i1, hi1, eg', hm', hl', q'⟩ := head_mem hgl'
      have hR' := head_R c hgl' hjg'
      -- i comes to the other head
      have hi' : R (g.headD 0) (g'.headD 0) = true := by
        rcases hR' with e | ⟨_, e⟩
        · rw [← e]; exact hr
        · exact c.tr _ _ _ hj hr e
      have hlt : cnt n R (g'.headD 0) < cnt n R (g.headD 0) := by
        unfold cnt
        refine filter_lt (List.range n) (x := g.headD 0) (by simpa using hl) ?_ (by simp) fun y hy h => ?_
        · simp only [Bool.or_eq_false_iff, beq_eq_false_iff_ne]
          constructor
          · intro e
            have : g = g' := same_group c hgl hgl' hm (e ▸ hm')
            exact hjg (this ▸ hjg')
          · apply Classical.byContradiction
            intro h
            have h : R (g'.headD 0) (g.headD 0) = true := by simpa using h
            have e : eqv R (g.headD 0) (g'.headD 0) = true := eqv_iff.mpr (.inr ⟨hi', h⟩)
            have h3 : grp n R (g.headD 0) = grp n R (g'.headD 0) := grp_eq c hl hl' e
            have a1 : grp n R i0 = grp n R (g.headD 0) := grp_eq c hi0 hl q
            have a2 : grp n R i1 = grp n R (g'.headD 0) := grp_eq c hi1 hl' q'
            have : g = g' := by rw [eg, eg', a1, a2, h3]
            exact hjg (this ▸ hjg')
        · simp only [Bool.or_eq_true, beq_iff_eq] at h ⊢
          rcases h with rfl | h
          · exact .inr hi'
          · exact .inr (c.tr _ _ _ hl' hi' h)
      have hN0 : 0 < N := by omega
      exact some_free c s (N - 1) g' hg' (by omega)
  termination_by N => N
  decreasing_by omega
theorem free_ne (c : Cl n R) {left : List (List Nat)} {put : List Nat} (s : St n R left put) (h : left ≠ []) : ∃ g r, left.filter (freeB n R put) = g :: r ∧ g ∈ left ∧ freeB n R put g = true := by
  obtain ⟨g0, r0, rfl⟩ := List.exists_cons_of_ne_nil h
  obtain ⟨f, hf, hff⟩ := some_free c s _ g0 List.mem_cons_self (Nat.le_refl _)
  cases hq : (g0 :: r0).filter (freeB n R put) with
  | nil =>
    have : f ∈ (g0 :: r0).filter (freeB n R put) := List.mem_filter.mpr ⟨hf, hff⟩
    rw [hq] at this; cases this
  | cons g r =>
    have : g ∈ (g0 :: r0).filter (freeB n R put) := by rw [hq]; exact List.mem_cons_self
    have := List.mem_filter.mp this
    exact ⟨g, r, rfl, this.1, this.2⟩
theorem St.start (c : Cl n R) : St n R (gl n R n) [] := by
  refine ⟨fun g h => h, gl_nodup n, fun j hj => ?_, fun i h => absurd h List.not_mem_nil, fun i h => absurd h List.not_mem_nil⟩
  simp only [List.not_mem_nil, false_iff, Classical.not_not]
  exact ⟨grp n R j, mem_gl.mpr ⟨j, hj, rfl⟩, grp_self hj⟩
theorem St.next (c : Cl n R) {left : List (List Nat)} {put g : List Nat} (s : St n R left put) (hg : g ∈ left) (hf : freeB n R put g = true) : St n R (left.erase g) (put ++ g) := by
  have hgl := s.sub g hg
  obtain ⟨i0, hi0, eg, hm, hl, q⟩ := head_mem hgl
  have hgn : ∀ x ∈ g, x < n := fun x hx => by rw [eg] at hx; exact (mem_grp.mp hx).1
  refine ⟨fun x hx => s.sub x (List.mem_of_mem_erase hx), s.nd.erase g, fun j hj => ?_, fun i hi j hj hr => ?_, fun i hi => ?_⟩
  · rw [List.mem_append, s.pt j hj]
    constructor
    · rintro (h | h)
      · rintro ⟨x, hx, hjx⟩
        exact h ⟨x, List.mem_of_mem_erase hx, hjx⟩
      · rintro ⟨x, hx, hjx⟩
        have hx' := List.mem_of_mem_erase hx
        have : x = g := same_group c (s.sub x hx') hgl hjx h
        rw [this, s.nd.mem_erase_iff] at hx
        exact hx.1 rfl
    · intro h
      by_cases hjg : j ∈ g
      · exact .inr hjg
      · left
        rintro ⟨x, hx, hjx⟩
        refine h ⟨x, ?_, hjx⟩
        rw [s.nd.mem_erase_iff]
        exact ⟨by rintro rfl; exact hjg hjx, hx⟩
  · rw [List.mem_append] at hi ⊢
    rcases hi with hi | hi
    · exact .inl (s.cl i hi j hj hr)
    · rw [free_iff] at hf
      have : R (g.headD 0) j = true := by
        rcases head_R c hgl hi with e | ⟨e, _⟩
        · rw [← e]; exact hr
        · exact c.tr _ _ _ (hgn i hi) e hr
      exact hf j hj this
  · rcases List.mem_append.mp hi with hi | hi
    · exact s.lt i hi
    · exact hgn i hi
/-- the program's own test -/
theorem free_prog {adj : Nat → Nat → Bool} (hR : ∀ i j, j < n → (R i j = true ↔ Pth n adj i j)) (c : Cl n R) {left : List (List Nat)} {put g : List Nat} (s : St n R left put) (hg : g ∈ left) :
    freeB n R put g = true ↔ ∀ i ∈ g, ∀ j, j < n → adj i j = true → j ∈ g ∨ j ∈ put := by
  have hgl := s.sub g hg
  obtain ⟨i0, hi0, eg, hm, hl, q⟩ := head_mem hgl
  rw [free_iff]
  constructor
  · intro h i hi j hj ha
    have r1 : R i j = true := (hR i j hj).mpr (.one hj ha)
    have : R (g.headD 0) j = true := by
      rcases head_R c hgl hi with e | ⟨e, _⟩
      · rw [← e]; exact r1
      · exact c.tr _ _ _ (by rw [eg] at hi; exact (mem_grp.mp hi).1) e r1
    exact (h j hj this).symm
  · intro h j hj hr
    have p := (hR _ j hj).mp hr
    clear hr
    induction p with
    | one h1 h2 => exact (h _ hm _ h1 h2).symm
    | step p h1 h2 ih =>
      rcases ih p.lt with ih | ih
      · exact .inl (s.cl _ ih _ h1 ((hR _ _ h1).mpr (.one h1 h2)))
      · exact (h _ ih _ h1 h2).symm
/-- the order found -/
def ord (n : Nat) (R : Nat → Nat → Bool) : Nat → List (List Nat) → List Nat → List (List Nat)
  | 0, _, _ => []
  | k + 1, left, put => match left.filter (freeB n R put) with
    | [] => []
    | g :: _ => g :: ord n R k (left.erase g) (put ++ g)
end
end Gr
end NF

/-! NFMore: while, dict comprehensions, locked dicts: rules. -/
namespace NF
open PySem L2
theorem while_rule {c : Envr → Store → Res Bool} {f : Envr → Store → SR} {nx : Envr → Store → Prop} {rt : D → Store → Prop} (I : Nat → Envr → Store → Prop)
    (step : ∀ m σ S, I m σ S → Pst (c σ S) (fun t S1 => if t = true then PstS (f σ S1) (fun σ1 S2 => ∃ m', m' < m ∧ I m' σ1 S2) rt else nx σ S1)) :
    ∀ (n m : Nat) (σ : Envr) (S : Store), m < n → I m σ S → PstS (evWhile c f n σ S) nx rt
  | 0, m, _, _, h, _ => absurd h (Nat.not_lt_zero _)
  | n + 1, m, σ, S, hm, hI => by
    unfold evWhile
    rw [PstS.andThen_]
    refine (step m σ S hI).mono fun t S1 h => ?_
    by_cases ht : t = true
    · rw [if_pos ht] at h
      rw [if_pos ht]
      cases hr : f σ S1 with
      | nx σ1 S2 e =>
        rw [hr] at h
        cases e with
        | some e => exact h.elim
        | none =>
          obtain ⟨m', hm', hI'⟩ := h
          simp only [PstS.note0]
          exact while_rule I step n m' σ1 S2 (by omega) hI'
      | rt d S2 e => rw [hr] at h; cases e <;> exact h
      | bk σ1 S2 e => rw [hr] at h; exact h.elim
      | ct σ1 S2 e => rw [hr] at h; exact h.elim
      | exn y σ1 S2 e => rw [hr] at h; exact h.elim
      | stuck => rw [hr] at h; exact h.elim
    · rw [if_neg ht] at h
      rw [if_neg ht]
      exact h
theorem evS_whil {C : Ctx} (c : CE) (body : List CS) (σ : Envr) (S : Store) : evS C (.whil c body) σ S = evWhile (fun σ S => evT C c σ S) (fun σ S => evSs C body σ S) C.turns σ S := by
  simp only [evS]
/-- what a turn of a dict comprehension gives -/
def dcTurnE (C : Ctx) (ke ve : CE) (g : CG) (ifs : List CE) (own : List Nat) (σ : Envr) (x : D) (S : Store) : Res (Option (D × D)) := match setG g x (wipeE σ own) with
  | some σ' => (evIfs C ifs σ' S).bind fun t S3 => if t then (evE C ke σ' S3).bind fun a S4 => (evE C ve σ' S4).bind fun b S5 => .ok (some (a, b)) S5 none else .ok none S3 none
  | none => .stuck
theorem evE_dcE {C : Ctx} (ke ve : CE) (g : CG) (it : CE) (ifs : List CE) (own : List Nat) (σ : Envr) (S : Store) : evE C (.dc ke ve g it ifs own) σ S =
    (evI C it σ S).bind fun src S1 => (evTurnsD (dcTurnE C ke ve g ifs own σ) src.keep src.items [] S1).bind fun vs S2 => new (.dict vs) S2 := by
  simp only [evE]
  rfl
theorem dturns_rule {f : D → Store → Res (Option (D × D))} {keep : List (Nat × List D)} {items : List D} (I : Nat → List (D × D) → Store → Prop)
    (step : ∀ i x acc S, items[i]? = some x → I i acc S → Src.holds S keep = true ∧ Pst (f x S) (fun r S1 => match r with
      | some kv => kv.1.isKey = true ∧ acc.length < sizeL ∧ I (i + 1) (dput kv.1 kv.2 acc) S1
      | none => I (i + 1) acc S1)) (fin : ∀ acc S, I items.length acc S → Src.holds S keep = true) :
    ∀ (k : Nat) (acc : List (D × D)) (S : Store), k ≤ items.length → I k acc S → Pst (evTurnsD f keep (items.drop k) acc S) (fun vs S' => I items.length vs S') := by
  intro k
  generalize hm : items.length - k = m
  induction m generalizing k with
  | zero =>
    intro acc S hk hI
    have e : k = items.length := by omega
    subst e
    rw [List.drop_length]
    unfold evTurnsD
    rw [if_pos (fin acc S hI)]
    exact hI
  | succ m ih =>
    intro acc S hk hI
    have hlt : k < items.length := by omega
    rw [List.drop_eq_getElem_cons hlt]
    obtain ⟨h1, h2⟩ := step k items[k] acc S (List.getElem?_eq_getElem hlt) hI
    unfold evTurnsD
    rw [if_pos h1, Pst.bind_]
    refine h2.mono fun r S1 hr => ?_
    cases r with
    | some v =>
      simp only at hr ⊢
      rw [if_pos ⟨hr.1, hr.2.1⟩]
      exact ih (k + 1) (by omega) _ _ hlt hr.2.2
    | none => exact ih (k + 1) (by omega) _ _ hlt hr
theorem dturns_all {f : D → Store → Res (Option (D × D))} {keep : List (Nat × List D)} {items : List D} (I : Nat → List (D × D) → Store → Prop)
    (step : ∀ i x acc S, items[i]? = some x → I i acc S → Src.holds S keep = true ∧ Pst (f x S) (fun r S1 => match r with
      | some kv => kv.1.isKey = true ∧ acc.length < sizeL ∧ I (i + 1) (dput kv.1 kv.2 acc) S1
      | none => I (i + 1) acc S1)) (fin : ∀ acc S, I items.length acc S → Src.holds S keep = true) {S : Store} (h : I 0 [] S) : Pst (evTurnsD f keep items [] S) (fun vs S' => I items.length vs S') :=
  dturns_rule I step fin 0 [] S (Nat.zero_le _) h
/-- a new key goes behind -/
theorem dput_new {k v : D} {kvs : List (D × D)} (h : ∀ p ∈ kvs, p.1 ≠ k) : dput k v kvs = kvs ++ [(k, v)] := by
  unfold dput
  rw [if_neg]
  simp only [List.any_eq_true, decide_eq_true_eq, not_exists, not_and]
  exact fun p hp => h p hp
theorem lock_pst {C : Ctx} {i n : Nat} {e : CE} {σ : Envr} {S : Store} {kvs : List (D × D)} {Φ : D → Store → Prop} (h1 : σ[i]? = some (some (.ref n))) (h2 : S[n]? = some (.dict kvs))
    (h : Pst (evE C e σ (S.set n (.ldict kvs))) (fun v S1 => S1[n]? = some (.ldict kvs) ∧ Φ v (S1.set n (.dict kvs)))) : Pst (evE C (.lock i e) σ S) Φ := by
  have hl : lockAt σ i S = some (n, kvs) := by simp [lockAt, h1, h2]
  simp only [evE, hl]
  obtain ⟨v, S1, e1, h3, h4⟩ := h.ex
  rw [e1]
  simp only [unlockR, unlock1, h3]
  exact h4
theorem lockS_pst {C : Ctx} {i n : Nat} {s : CS} {σ : Envr} {S : Store} {kvs : List (D × D)} {nx : Envr → Store → Prop} {rt : D → Store → Prop} (h1 : σ[i]? = some (some (.ref n))) (h2 : S[n]? = some (.dict kvs))
    (h : PstS (evS C s σ (S.set n (.ldict kvs))) (fun σ S1 => S1[n]? = some (.ldict kvs) ∧ nx σ (S1.set n (.dict kvs))) (fun d S1 => S1[n]? = some (.ldict kvs) ∧ rt d (S1.set n (.dict kvs)))) : PstS (evS C (.lock i s) σ S) nx rt := by
  have hl : lockAt σ i S = some (n, kvs) := by simp [lockAt, h1, h2]
  simp only [evS, hl]
  cases hr : evS C s σ (S.set n (.ldict kvs)) with
  | nx σ1 S2 e =>
    rw [hr] at h
    cases e with
    | some e => exact h.elim
    | none =>
      simp only [unlockS, unlock1, h.1]
      exact h.2
  | rt d S2 e =>
    rw [hr] at h
    cases e with
    | some e => exact h.elim
    | none =>
      simp only [unlockS, unlock1, h.1]
      exact h.2
  | bk σ1 S2 e => rw [hr] at h; exact h.elim
  | ct σ1 S2 e => rw [hr] at h; exact h.elim
  | exn y σ1 S2 e => rw [hr] at h; exact h.elim
  | stuck => rw [hr] at h; exact h.elim
theorem unlockR_pst {n : Nat} {r : Res D} {kvs : List (D × D)} {Φ : D → Store → Prop} (h : Pst r (fun v S1 => S1[n]? = some (.ldict kvs) ∧ Φ v (S1.set n (.dict kvs)))) : Pst (unlockR n r) Φ := by
  obtain ⟨v, S1, e1, h3, h4⟩ := h.ex
  rw [e1]
  simp only [unlockR, unlock1, h3]
  exact h4
theorem unlockS_pst {n : Nat} {r : SR} {kvs : List (D × D)} {nx : Envr → Store → Prop} {rt : D → Store → Prop}
    (h : PstS r (fun σ S1 => S1[n]? = some (.ldict kvs) ∧ nx σ (S1.set n (.dict kvs))) (fun d S1 => S1[n]? = some (.ldict kvs) ∧ rt d (S1.set n (.dict kvs)))) : PstS (unlockS n r) nx rt := by
  cases hr : r with
  | nx σ1 S2 e =>
    rw [hr] at h
    cases e with
    | some e => exact h.elim
    | none =>
      simp only [unlockS, unlock1, h.1]
      exact h.2
  | rt d S2 e =>
    rw [hr] at h
    cases e with
    | some e => exact h.elim
    | none =>
      simp only [unlockS, unlock1, h.1]
      exact h.2
  | bk σ1 S2 e => rw [hr] at h; exact h.elim
  | ct σ1 S2 e => rw [hr] at h; exact h.elim
  | exn y σ1 S2 e => rw [hr] at h; exact h.elim
  | stuck => rw [hr] at h; exact h.elim
end NF

/-! NFGr2: what is come to, by names; dicts of things; comparing lists and tuples of texts. -/
namespace NF
namespace Gr
section
variable {α : Type}
inductive Rch (nb : α → List α) (a : α) : α → Prop
  | one {y : α} : y ∈ nb a → Rch nb a y
  | step {x y : α} : Rch nb a x → y ∈ nb x → Rch nb a y
structure DInv (nb : α → List α) (a : α) (left found : List α) : Prop where
  l : ∀ y ∈ left, Rch nb a y
  f : ∀ y ∈ found, Rch nb a y
  s : ∀ y ∈ nb a, y ∈ left ∨ y ∈ found
  c : ∀ x ∈ found, ∀ y ∈ nb x, y ∈ left ∨ y ∈ found
variable {nb : α → List α} {a : α}
theorem DInv.start : DInv nb a (nb a) [] := ⟨fun y h => .one h, fun y h => absurd h List.not_mem_nil, fun y h => .inl h, fun y h => absurd h List.not_mem_nil⟩
theorem DInv.old {l found : List α} {x : α} (h : DInv nb a (l ++ [x]) found) (hx : x ∈ found) : DInv nb a l found := by
  have k : ∀ y, y ∈ l ++ [x] ∨ y ∈ found → y ∈ l ∨ y ∈ found := fun y h => by
    rcases h with h | h
    · rcases List.mem_append.mp h with h | h
      · exact .inl h
      · have : y = x := by simpa using h
        exact .inr (this ▸ hx)
    · exact .inr h
  exact ⟨fun y q => h.l y (List.mem_append_left _ q), h.f, fun y q => k y (h.s y q), fun z hz y q => k y (h.c z hz y q)⟩
theorem DInv.new {l found : List α} {x : α} (h : DInv nb a (l ++ [x]) found) : DInv nb a (l ++ nb x) (found ++ [x]) := by
  have hx : Rch nb a x := h.l x (by simp)
  have k : ∀ y, y ∈ l ++ [x] ∨ y ∈ found → y ∈ l ++ nb x ∨ y ∈ found ++ [x] := fun y h => by
    rcases h with h | h
    · rcases List.mem_append.mp h with h | h
      · exact .inl (List.mem_append_left _ h)
      · exact .inr (List.mem_append_right _ h)
    · exact .inr (List.mem_append_left _ h)
  refine ⟨fun y q => ?_, fun y q => ?_, fun y q => k y (h.s y q), fun z hz y q => ?_⟩
  · rcases List.mem_append.mp q with q | q
    · exact h.l y (List.mem_append_left _ q)
    · exact .step hx q
  · rcases List.mem_append.mp q with q | q
    · exact h.f y q
    · have : y = x := by simpa using q
      exact this ▸ hx
  · rcases List.mem_append.mp hz with hz | hz
    · exact k y (h.c z hz y q)
    · have : z = x := by simpa using hz
      exact .inl (List.mem_append_right _ (this ▸ q))
theorem DInv.fin {found : List α} (h : DInv nb a [] found) (y : α) : y ∈ found ↔ Rch nb a y := by
  refine ⟨h.f y, fun r => ?_⟩
  induction r with
  | one q => exact (h.s _ q).elim (fun z => absurd z List.not_mem_nil) id
  | step _ q ih => exact (h.c _ ih _ q).elim (fun z => absurd z List.not_mem_nil) id
theorem nodup_len [DecidableEq α] : ∀ {xs ys : List α}, xs.Nodup → (∀ x ∈ xs, x ∈ ys) → xs.length ≤ ys.length
  | [], _, _, _ => Nat.zero_le _
  | x :: xs, ys, hn, hs => by
    rw [List.nodup_cons] at hn
    have hx := hs x List.mem_cons_self
    have := nodup_len (xs := xs) (ys := ys.erase x) hn.2 fun z hz => (List.mem_erase_of_ne (a := z) (b := x) (by rintro rfl; exact hn.1 hz)).mpr (hs z (List.mem_cons_of_mem _ hz))
    rw [List.length_erase_of_mem hx] at this
    have := List.length_pos_of_mem hx
    simp only [List.length_cons]
    omega
end
/-- by names, by numbers -/
theorem rch_pth {n : Nat} {nm : Nat → List Nat} {nb : List Nat → List (List Nat)} {adj : Nat → Nat → Bool} (inj : ∀ i j, i < n → j < n → nm i = nm j → i = j) (hs : ∀ i, i < n → ∀ y ∈ nb (nm i), ∃ j, j < n ∧ y = nm j)
    (ha : ∀ i j, i < n → j < n → (adj i j = true ↔ nm j ∈ nb (nm i))) {i : Nat} (hi : i < n) (y : List Nat) : Rch nb (nm i) y ↔ ∃ j, j < n ∧ y = nm j ∧ Pth n adj i j := by
  constructor
  · intro h
    induction h with
    | one q =>
      obtain ⟨j, hj, rfl⟩ := hs i hi _ q
      exact ⟨j, hj, rfl, .one hj ((ha i j hi hj).mpr q)⟩
    | step _ q ih =>
      obtain ⟨j, hj, rfl, p⟩ := ih
      obtain ⟨k, hk, rfl⟩ := hs j hj _ q
      exact ⟨k, hk, rfl, .step p hk ((ha j k hj hk).mpr q)⟩
  · rintro ⟨j, hj, rfl, p⟩
    induction p with
    | one h1 h2 => exact .one ((ha _ _ hi h1).mp h2)
    | step p h1 h2 ih => exact .step (ih p.lt) ((ha _ _ p.lt h1).mp h2)
end Gr
/-! ### dicts whose values are things -/
structure DAt (S : Store) (kvs : List (D × D)) (names : List (List Nat)) (Q : List Nat → Nat → SO → Prop) : Prop where
  keys : kvs.map (·.1) = names.map D.str
  get : ∀ x ∈ names, ∃ r o, dget (.str x) kvs = some (.ref r) ∧ S[r]? = some o ∧ Q x r o
theorem DAt.push {S : Store} {kvs : List (D × D)} {names : List (List Nat)} {Q : List Nat → Nat → SO → Prop} (h : DAt S kvs names Q) (T : Store) : DAt (S ++ T) kvs names Q :=
  ⟨h.keys, fun x hx => by
    obtain ⟨r, o, h1, h2, h3⟩ := h.get x hx
    exact ⟨r, o, h1, by rw [List.getElem?_append_left (List.getElem?_eq_some_iff.mp h2).1]; exact h2, h3⟩⟩
theorem DAt.same {S S' : Store} {kvs : List (D × D)} {names : List (List Nat)} {Q : List Nat → Nat → SO → Prop} (h : DAt S kvs names Q) (k : ∀ x r o, x ∈ names → S[r]? = some o → Q x r o → S'[r]? = some o) : DAt S' kvs names Q :=
  ⟨h.keys, fun x hx => by
    obtain ⟨r, o, h1, h2, h3⟩ := h.get x hx
    exact ⟨r, o, h1, k x r o hx h2 h3, h3⟩⟩
theorem DAt.mono {S : Store} {kvs : List (D × D)} {names : List (List Nat)} {Q Q' : List Nat → Nat → SO → Prop} (h : DAt S kvs names Q) (k : ∀ x r o, x ∈ names → Q x r o → Q' x r o) : DAt S kvs names Q' :=
  ⟨h.keys, fun x hx => by
    obtain ⟨r, o, h1, h2, h3⟩ := h.get x hx
    exact ⟨r, o, h1, h2, k x r o hx h3⟩⟩
theorem dget_append {k : D} : ∀ {a b : List (D × D)}, dget k (a ++ b) = (dget k a).or (dget k b)
  | [], b => by simp [dget]
  | (x, v) :: a, b => by
    simp only [List.cons_append, dget]
    by_cases h : x = k
    · simp [h]
    · simp [h, dget_append (a := a) (b := b)]
theorem dget_none {k : D} : ∀ {a : List (D × D)}, (∀ p ∈ a, p.1 ≠ k) → dget k a = none
  | [], _ => rfl
  | (x, v) :: a, h => by
    simp only [dget]
    rw [if_neg (h _ List.mem_cons_self), dget_none fun p hp => h p (List.mem_cons_of_mem _ hp)]
theorem dget_some {k : D} : ∀ {a : List (D × D)}, (dget k a).isSome = a.any (fun p => decide (p.1 = k))
  | [] => rfl
  | (x, v) :: a => by
    simp only [dget, List.any_cons]
    by_cases h : x = k
    · simp [h]
    · simp [h, dget_some (a := a)]
/-- built turn by turn -/
theorem dc_build {f : D → Store → Res (Option (D × D))} {items : List D} {names : List (List Nat)} {Q : List Nat → Nat → SO → Prop} {S : Store} (hl : items.length = names.length) (hn : names.Nodup) (hz : names.length ≤ 10000)
    (h : ∀ (i : Nat) (x : D) (y : List Nat) (T : Store), items[i]? = some x → names[i]? = some y → Pst (f x (S ++ T)) (fun r S' => ∃ T' q o, r = some (.str y, .ref q) ∧ S' = S ++ T ++ T' ∧ S'[q]? = some o ∧ Q y q o)) :
    Pst (evTurnsD f [] items [] S) (fun vs S' => ∃ T, S' = S ++ T ∧ DAt S' vs names Q) := by
  refine (dturns_all (fun i acc S' => ∃ T, S' = S ++ T ∧ DAt S' acc (names.take i) Q) (fun i x acc S' hx hI => ?_) (fun _ _ _ => rfl) ⟨[], by simp, ⟨by simp, fun x hx => by simp at hx⟩⟩).mono fun vs S' ⟨T, e, h⟩ => ⟨T, e, by rw [hl, List.take_length] at h; exact h⟩
  obtain ⟨T, rfl, hD⟩ := hI
  have hi := (List.getElem?_eq_some_iff.mp hx).1
  have hy : names[i]? = some (names[i]'(by omega)) := List.getElem?_eq_getElem _
  generalize names[i]'(by omega) = y at hy
  refine ⟨rfl, (h i x y T hx hy).mono ?_⟩
  rintro _ S' ⟨T', q, o, rfl, rfl, hq, hQ⟩
  have hk : acc.length = (names.take i).length := by
    have := congrArg List.length hD.keys
    simpa using this
  have hny : y ∉ names.take i := by
    intro hm
    have h1 := List.nodup_iff_pairwise_ne.mp hn
    obtain ⟨j, hj, e⟩ := List.mem_iff_getElem.mp hm
    rw [List.length_take] at hj
    rw [List.getElem_take] at e
    have := List.pairwise_iff_getElem.mp h1 j i (by omega) (by omega) (by omega)
    rw [List.getElem?_eq_getElem (by omega)] at hy
    exact this (e.trans (Option.some.inj hy).symm)
  have hnk : ∀ p ∈ acc, p.1 ≠ D.str y := fun p hp e => by
    have : D.str y ∈ acc.map (·.1) := e ▸ List.mem_map_of_mem hp
    rw [hD.keys, List.mem_map] at this
    obtain ⟨z, hz, e⟩ := this
    cases e
    exact hny hz
  refine ⟨rfl, by rw [List.length_take] at hk; unfold sizeL; omega, T ++ T', by simp, ?_⟩
  simp only
  rw [dput_new hnk, List.take_add_one, hy]
  refine ⟨by simp [hD.keys], fun z hz => ?_⟩
  rcases List.mem_append.mp hz with hz | hz
  · obtain ⟨r, o', h1, h2, h3⟩ := (hD.push T').get z hz
    exact ⟨r, o', by rw [dget_append, h1]; rfl, h2, h3⟩
  · have : z = y := by simpa using hz
    subst this
    exact ⟨q, o, by rw [dget_append, dget_none hnk]; simp [dget], hq, hQ⟩
/-! ### comprehensions over a list's picture -/
theorem turns_on {α : Type} {f : D → Store → Res (Option D)} {keep : List (Nat × List D)} {S : Store} (F G : α → D) (p : α → Bool) (hk : Src.holds S keep = true) : ∀ (l : List α) (acc : List D), (∀ x ∈ l, f (F x) S = .ok (if p x = true then some (G x) else none) S none) → acc.length + l.length ≤ sizeL →
    evTurns f keep (l.map F) acc S = .ok (acc ++ (l.filter p).map G) S none
  | [], acc, _, _ => by
    simp only [List.map_nil]
    unfold evTurns
    rw [if_pos hk]
    simp
  | x :: xs, acc, h, hl => by
    simp only [List.map_cons]
    unfold evTurns
    rw [if_pos hk, h x List.mem_cons_self]
    simp only [List.length_cons] at hl
    by_cases hp : p x = true
    · simp only [hp, if_true, Res.bind]
      rw [if_pos (by omega), turns_on F G p hk xs (acc ++ [G x]) (fun y hy => h y (List.mem_cons_of_mem _ hy)) (by simp; omega)]
      simp [Res.note, emin, hp]
    · simp only [hp, Bool.false_eq_true, if_false, Res.bind]
      rw [turns_on F G p hk xs acc (fun y hy => h y (List.mem_cons_of_mem _ hy)) (by omega)]
      simp [Res.note, emin, hp]
/-! ### == of lists and tuples of texts, of numbers -/
theorem eqvL_map {α : Type} [BEq α] {f : D → D → Option Bool} {F : α → D} (h : ∀ a b, f (F a) (F b) = some (a == b)) : ∀ xs ys : List α, eqvL f (xs.map F) (ys.map F) = some (xs == ys)
  | [], [] => rfl
  | [], _ :: _ => rfl
  | _ :: _, [] => rfl
  | x :: xs, y :: ys => by
    simp only [List.map_cons, eqvL, h, eqvL_map h xs ys]
    rfl
theorem eqv_ss (S : Store) (n : Nat) (a b : List Nat) : D.eqv S (n + 1) (.str a) (.str b) = some (a == b) := by simp only [D.eqv]
theorem eqv_ii (S : Store) (n : Nat) (a b : Nat) : D.eqv S (n + 1) (.int (a : Int)) (.int (b : Int)) = some (a == b) := by
  simp only [D.eqv, Option.some.injEq]
  rw [Bool.eq_iff_iff]
  simp only [beq_iff_eq]
  omega
theorem eqv_tupS (S : Store) (n : Nat) (a b : List (List Nat)) : D.eqv S (n + 2) (.tup (a.map .str)) (.tup (b.map .str)) = some (a == b) := by
  rw [D.eqv]
  exact eqvL_map (eqv_ss S n) a b
theorem eqv_lstI {S : Store} {p q n : Nat} {a b : List Nat} (hp : S[p]? = some (.lst (a.map fun (i : Nat) => .int (i : Int)))) (hq : S[q]? = some (.lst (b.map fun (i : Nat) => .int (i : Int)))) : D.eqv S (n + 2) (.ref p) (.ref q) = some (a == b) := by
  rw [D.eqv]
  simp only [D.lst?, hp, hq]
  by_cases e : p = q
  · subst e
    rw [hp] at hq
    have : a = b := by
      have h := Option.some.inj hq
      injection h with h
      have inj : ∀ {xs ys : List Nat}, xs.map (fun (i : Nat) => D.int (i : Int)) = ys.map (fun (i : Nat) => D.int (i : Int)) → xs = ys := by
        intro xs
        induction xs with
        | nil => intro ys h; cases ys with | nil => rfl | cons y ys => simp at h
        | cons x xs ih => intro ys h; cases ys with
          | nil => simp at h
          | cons y ys =>
            simp only [List.map_cons, List.cons.injEq, D.int.injEq, Int.ofNat_inj] at h
            rw [h.1, ih h.2]
      exact inj h
    subst this
    rw [if_pos rfl]
    simp
  · rw [if_neg e]
    simp only [List.length_map]
    by_cases hl : a.length = b.length
    · rw [if_pos hl]
      exact eqvL_map (eqv_ii S n) a b
    · rw [if_neg hl]
      have : (a == b) = false := by
        rw [beq_eq_false_iff_ne]
        exact fun h => hl (by rw [h])
      rw [this]
theorem findEq_map {α : Type} [BEq α] [LawfulBEq α] {f : D → D → Option Bool} {F : α → D} (h : ∀ a b, f (F a) (F b) = some (a == b)) {x : α} : ∀ {L : List α}, x ∈ L → ∃ k, findEq f (F x) (L.map F) = some k ∧ L.eraseIdx k = L.erase x
  | y :: L, hx => by
    simp only [List.map_cons, findEq, h]
    by_cases e : y = x
    · subst e
      refine ⟨0, by simp, ?_⟩
      simp
    · have e1 : (y == x) = false := by simpa using e
      rw [e1]
      have hx : x ∈ L := by
        rcases List.mem_cons.mp hx with hx | hx
        · exact absurd hx.symm e
        · exact hx
      obtain ⟨k, h1, h2⟩ := findEq_map h hx
      refine ⟨k + 1, by simp [h1], ?_⟩
      rw [List.eraseIdx_cons_succ, h2, List.erase_cons_tail (by simpa using e)]
theorem eraseIdx_map {α β : Type} (F : α → β) : ∀ (L : List α) (k : Nat), (L.map F).eraseIdx k = (L.eraseIdx k).map F
  | [], _ => rfl
  | x :: L, 0 => rfl
  | x :: L, k + 1 => by simp [eraseIdx_map F L k]
/-- keys of true -/
def trues (fs : List (List Nat)) : List (D × D) := fs.map fun y => (.str y, .bl true)
theorem trues_get (fs : List (List Nat)) (x : List Nat) : (dget (.str x) (trues fs)).isSome = fs.contains x := by
  rw [dget_some, Bool.eq_iff_iff]
  simp [trues]
theorem in_trues {S : Store} {s : List Nat} {k : Nat} {fs : List (List Nat)} (h : (D.ref k).dict? S = some (trues fs)) : cmpEv .isin (.str s) (.ref k) S = .ok (.bl (fs.contains s)) S none := by
  show inEv false (.str s) (.ref k) S = _
  simp only [inEv, h, D.isKey, if_true, trues_get]
  simp
theorem notin_trues {S : Store} {s : List Nat} {k : Nat} {fs : List (List Nat)} (h : (D.ref k).dict? S = some (trues fs)) : cmpEv .notin (.str s) (.ref k) S = .ok (.bl (!fs.contains s)) S none := by
  show inEv true (.str s) (.ref k) S = _
  simp only [inEv, h, D.isKey, if_true, trues_get]
  simp
theorem in_keys {S : Store} {s : List Nat} {k : Nat} {kvs : List (D × D)} {ks : List (List Nat)} (h : (D.ref k).dict? S = some kvs) (hk : kvs.map (·.1) = ks.map D.str) : cmpEv .isin (.str s) (.ref k) S = .ok (.bl (ks.contains s)) S none := by
  show inEv false (.str s) (.ref k) S = _
  have : (dget (.str s) kvs).isSome = ks.contains s := by
    rw [dget_some, Bool.eq_iff_iff]
    have e : kvs.any (fun p => decide (p.1 = D.str s)) = (kvs.map (·.1)).any (fun d => decide (d = D.str s)) := by rw [List.any_map]; rfl
    rw [e, hk]
    simp
  simp only [inEv, h, D.isKey, if_true, this]
  simp
theorem dput_trues {fs : List (List Nat)} {x : List Nat} (h : x ∉ fs) : dput (.str x) (.bl true) (trues fs) = trues (fs ++ [x]) := by
  rw [dput_new (by
    intro p hp e
    simp only [trues, List.mem_map] at hp
    obtain ⟨y, hy, rfl⟩ := hp
    cases e
    exact h hy)]
  simp [trues]
theorem dput_mem {fs : List (List Nat)} {x : List Nat} (h : x ∈ fs) : dput (.str x) (.bl true) (trues fs) = trues fs := by
  unfold dput
  rw [if_pos (by simp only [trues, List.any_map, List.any_eq_true]; exact ⟨x, h, by simp⟩)]
  unfold trues
  rw [List.map_map]
  refine List.map_congr_left fun y hy => ?_
  simp only [Function.comp]
  split <;> rfl
theorem trues_put (fs : List (List Nat)) (x : List Nat) : dput (.str x) (.bl true) (trues fs) = trues (addK fs x) := by
  unfold addK
  by_cases h : x ∈ fs
  · rw [dput_mem h, hasK_mem, if_pos (by simpa using h)]
  · rw [dput_trues h, hasK_mem, if_neg (by simpa using h)]
/-- a dict of things that is handed back -/
theorem pack_dict {S T : Store} {k : Nat} {kvs : List (D × D)} {names : List (List Nat)} {Q : List Nat → Nat → SO → Prop} (hk : S.length ≤ k) (h : (S ++ T)[k]? = some (.dict kvs)) (hD : DAt (S ++ T) kvs names Q) {d1 : D} {S1 : Store} (e : packed S.length (.ref k) (S ++ T) none = .ok d1 S1 none) :
    ∃ k T kvs, d1 = .ref k ∧ S1 = S ++ T ∧ S1[k]? = some (.dict kvs) ∧ DAt S1 kvs names Q ∧ S.length ≤ k := by
  unfold packed escOk at e
  simp only [if_true] at e
  rw [if_neg (by rw [D.mr]; omega)] at e
  simp only [h] at e
  split at e
  · rename_i hm
    cases e
    have ht : (S ++ T).take S.length = S := by simp
    refine ⟨S.length, [.dict kvs], kvs, rfl, by rw [ht], by rw [ht]; exact last_get _ _, ⟨hD.keys, fun x hx => ?_⟩, Nat.le_refl _⟩
    obtain ⟨r, o, h1, h2, h3⟩ := hD.get x hx
    have hr : r < S.length := by
      have hmem : ∀ {l : List (D × D)}, dget (.str x) l = some (.ref r) → D.ref r ∈ l.map (·.2) := by
        intro l
        induction l with
        | nil => intro h; cases h
        | cons p l ih =>
          intro h
          simp only [dget] at h
          split at h
          · rw [← Option.some.inj h]; exact List.mem_cons_self
          · exact List.mem_cons_of_mem _ (ih h)
      have := mr_mem (hmem h1)
      rw [D.mr] at this
      omega
    refine ⟨r, o, h1, ?_, h3⟩
    rw [ht, List.getElem?_append_left hr]
    rw [List.getElem?_append_left hr] at h2
    exact h2
  · cases e
    exact ⟨k, T, kvs, rfl, rfl, h, hD, hk⟩
theorem cmp_lnilN {S : Store} {a b : Nat} {xs : List D} (ha : S[a]? = some (.lst xs)) (hb : S[b]? = some (.lst [])) (n : a ≠ b) : cmpEv .ne (.ref a) (.ref b) S = .ok (.bl (!xs.isEmpty)) S none := by
  show resB (D.eqv S 1200 (.ref a) (.ref b)) true S = _
  cases xs <;> simp [D.eqv, D.lst?, ha, hb, n, eqvL, resB]
theorem pack_dict0 {S T : Store} {k : Nat} {kvs : List (D × D)} (hk : S.length ≤ k) (h : (S ++ T)[k]? = some (.dict kvs)) (h0 : D.mrs (kvs.map (·.2)) = 0) : packed S.length (.ref k) (S ++ T) none = .ok (.ref S.length) (S ++ [.dict kvs]) none := by
  unfold packed escOk
  simp only [if_true]
  rw [if_neg (by rw [D.mr]; omega)]
  simp only [h]
  rw [if_pos (by omega)]
  simp
theorem pack_lst0 {S T : Store} {k : Nat} {xs : List D} (hk : S.length ≤ k) (h : (S ++ T)[k]? = some (.lst xs)) (h0 : D.mrs xs = 0) : packed S.length (.ref k) (S ++ T) none = .ok (.ref S.length) (S ++ [.lst xs]) none := by
  unfold packed escOk
  simp only [if_true]
  rw [if_neg (by rw [D.mr]; omega)]
  simp only [h]
  rw [if_pos (by omega)]
  simp
theorem trues_mr : ∀ fs : List (List Nat), D.mrs ((trues fs).map (·.2)) = 0
  | [] => rfl
  | x :: fs => by
    have := trues_mr fs
    unfold trues at this ⊢
    simp only [List.map_cons, D.mrs, D.mr, this]
    rfl
end NF

namespace K15
open PySem L2 NF
/-- rows of defs -/
structure PG where
  n : Nat
  nm : Nat → List Nat
  ps : Nat → List (List Nat)
  bd : Nat → TM
namespace PG
variable (g : PG)
def names : List (List Nat) := (List.range g.n).map g.nm
def row (i : Nat) : D := .tup [.str (g.nm i), .tup ((g.ps i).map .str), (g.bd i).d]
def rows : List D := (List.range g.n).map g.row
def men (i : Nat) : List (List Nat) := (sortT (setK ((g.bd i).fv []))).filter fun y => g.names.contains y
structure Ok : Prop where
  inj : ∀ i j, i < g.n → j < g.n → g.nm i = g.nm j → i = j
  few : g.n ≤ 9
  ok : ∀ i, i < g.n → (g.bd i).ok
  sz : ∀ i, i < g.n → (g.bd i).size ≤ 500
  dp : ∀ i, i < g.n → (g.bd i).dep ≤ 100
/-- what a name's def mentions -/
def Nb (nb : List Nat → List (List Nat)) : Prop := ∀ i, i < g.n → nb (g.nm i) = g.men i
end PG
section
variable {g : PG}
theorem PG.names_len : g.names.length = g.n := by simp [PG.names]
theorem PG.names_get {i : Nat} {y : List Nat} (h : g.names[i]? = some y) : i < g.n ∧ y = g.nm i := by
  have := (List.getElem?_eq_some_iff.mp h).1
  rw [PG.names_len] at this
  unfold PG.names at h
  rw [List.getElem?_map, List.getElem?_range this] at h
  exact ⟨this, (Option.some.inj h).symm⟩
theorem PG.mem_names {y : List Nat} : y ∈ g.names ↔ ∃ i, i < g.n ∧ y = g.nm i := by
  unfold PG.names
  simp only [List.mem_map, List.mem_range]
  exact ⟨fun ⟨i, h, e⟩ => ⟨i, h, e.symm⟩, fun ⟨i, h, e⟩ => ⟨i, h, e.symm⟩⟩
theorem PG.names_nodup (ok : g.Ok) : g.names.Nodup := by
  unfold PG.names
  rw [List.nodup_iff_pairwise_ne, List.pairwise_map]
  have : (List.range g.n).Pairwise (fun a b => a ≠ b) := List.nodup_iff_pairwise_ne.mp List.nodup_range
  refine this.imp_of_mem fun {a b} ha hb hab e => hab ?_
  exact ok.inj a b (by simpa using ha) (by simpa using hb) e
theorem PG.rows_get {i : Nat} {d : D} (h : g.rows[i]? = some d) : i < g.n ∧ d = g.row i := by
  unfold PG.rows at h
  rw [List.getElem?_map, Option.map_eq_some_iff] at h
  obtain ⟨j, hj, rfl⟩ := h
  have := (List.getElem?_eq_some_iff.mp hj).1
  rw [List.length_range] at this
  rw [List.getElem?_range this] at hj
  cases hj
  exact ⟨this, rfl⟩
theorem PG.nb_len (ok : g.Ok) {nb : List Nat → List (List Nat)} (hnb : g.Nb nb) {x : List Nat} (hx : x ∈ g.names) : (nb x).length ≤ 9 ∧ ∀ y ∈ nb x, y ∈ g.names := by
  obtain ⟨i, hi, rfl⟩ := PG.mem_names.mp hx
  rw [hnb i hi]
  have hsub : ∀ y ∈ g.men i, y ∈ g.names := fun y hy => by
    have := (List.mem_filter.mp hy).2
    simpa using this
  refine ⟨?_, hsub⟩
  have hnd : (g.men i).Nodup := (((sortT_perm _).nodup_iff).mpr (foldK_nodup _ List.nodup_nil)).filter _
  have := Gr.nodup_len hnd hsub
  rw [PG.names_len] at this
  have := ok.few
  omega
end
abbrev MQ (nb : List Nat → List (List Nat)) : List Nat → Nat → SO → Prop := fun x _ o => o = .lst ((nb x).map .str)
section
variable {P : Nat → Option FD} {L : Nat} (hp : HP P)
include hp
theorem mentions_of_spec {n : Nat} {S : Store} {g : PG} (ok : g.Ok) {nb : List Nat → List (List Nat)} (hnb : g.Nb nb) : Pst (NF.run P L (n + 200) 3 [.tup g.rows] S) (fun d S' => ∃ k T kvs, d = .ref k ∧ S' = S ++ T ∧ S'[k]? = some (.dict kvs) ∧ DAt S' kvs g.names (MQ nb) ∧ S.length ≤ k) := by
  refine run_pstG hp.h3 rfl ?_
  simp only [NF.start, evSs, evS, evE, evEs, evT, PstS.andThen_, PstS.seq_, Pst.bind_, PstS.if_, Pst.if_, PstS.nx_, PstS.rt_, Pst.ok_, List.map_cons, List.map_nil, List.length_cons, List.length_nil, List.replicate, List.cons_append, List.nil_append, List.getElem?_cons_zero, List.getElem?_cons_succ, setG_nm, setG_tp, new, selArgs, List.set_cons_zero, List.set_cons_succ, evE_lcE, evI, sizeL, Nat.reduceAdd, Nat.reduceLeDiff, Nat.reduceLT, Nat.reduceSub, if_true, if_false, reduceIte, Nat.zero_add, Nat.lt_add_one, Nat.zero_lt_succ, reduceCtorEq, Nat.reducePow, Nat.reduceLeDiff, Nat.zero_le, c3, evE_dcE, srcOf, ofOpt]
  refine (dturns_all (fun i acc S' => S' = S ∧ acc = trues (g.names.take i)) (fun i x acc S' hx hI => ?_) (fun _ _ _ => rfl) ⟨rfl, rfl⟩).mono ?_
  · obtain ⟨rfl, rfl⟩ := hI
    obtain ⟨hi, rfl⟩ := PG.rows_get hx
    refine ⟨rfl, ?_⟩
    have hfew := ok.few
    simp only [NF.start, evSs, evS, evE, evEs, evT, PstS.andThen_, PstS.seq_, Pst.bind_, PstS.if_, Pst.if_, PstS.nx_, PstS.rt_, Pst.ok_, List.map_cons, List.map_nil, List.length_cons, List.length_nil, List.replicate, List.cons_append, List.nil_append, List.getElem?_cons_zero, List.getElem?_cons_succ, setG_nm, setG_tp, new, selArgs, List.set_cons_zero, List.set_cons_succ, evE_lcE, evI, sizeL, Nat.reduceAdd, Nat.reduceLeDiff, Nat.reduceLT, Nat.reduceSub, if_true, if_false, reduceIte, Nat.zero_add, Nat.lt_add_one, Nat.zero_lt_succ, reduceCtorEq, Nat.reducePow, Nat.reduceLeDiff, Nat.zero_le, dcTurnE, wipeE, evIfs, PG.row, setGs]
    have hy : g.names[i]? = some (g.nm i) := by
      unfold PG.names
      rw [List.getElem?_map, List.getElem?_range hi]; rfl
    have hny : g.nm i ∉ g.names.take i := by
      intro hm
      obtain ⟨j, hj, e⟩ := List.mem_iff_getElem.mp hm
      rw [List.length_take] at hj
      rw [List.getElem_take] at e
      have := (PG.names_get (List.getElem?_eq_getElem (l := g.names) (i := j) (by omega))).2
      have := ok.inj j i (by omega) hi (by rw [← this]; exact e)
      omega
    refine ⟨by simp [D.isKey], by simp [trues, PG.names_len]; omega, trivial, ?_⟩
    rw [dput_trues hny, List.take_add_one, hy]
    rfl
  · rintro vs S1 ⟨rfl, rfl⟩
    have hrl : g.rows.length = g.n := by simp [PG.rows]
    rw [hrl, List.take_of_length_le (by rw [PG.names_len]; omega)]
    try simp only [NF.start, evSs, evS, evE, evEs, evT, PstS.andThen_, PstS.seq_, Pst.bind_, PstS.if_, Pst.if_, PstS.nx_, PstS.rt_, Pst.ok_, List.map_cons, List.map_nil, List.length_cons, List.length_nil, List.replicate, List.cons_append, List.nil_append, List.getElem?_cons_zero, List.getElem?_cons_succ, setG_nm, setG_tp, new, selArgs, List.set_cons_zero, List.set_cons_succ, evE_lcE, evI, sizeL, Nat.reduceAdd, Nat.reduceLeDiff, Nat.reduceLT, Nat.reduceSub, if_true, if_false, reduceIte, Nat.zero_add, Nat.lt_add_one, Nat.zero_lt_succ, reduceCtorEq, Nat.reducePow, Nat.reduceLeDiff, Nat.zero_le, evE_dcE, srcOf, ofOpt]
    have hk0 := last_get S1 (SO.dict (trues g.names))
    refine (dc_build (names := g.names) (Q := MQ nb) (by rw [hrl, PG.names_len]) (PG.names_nodup ok) (by rw [PG.names_len]; have := ok.few; omega) (fun i x y T hx hy => ?_)).mono ?_
    · obtain ⟨hi, rfl⟩ := PG.rows_get hx
      obtain ⟨-, rfl⟩ := PG.names_get hy
      try simp only [NF.start, evSs, evS, evE, evEs, evT, PstS.andThen_, PstS.seq_, Pst.bind_, PstS.if_, Pst.if_, PstS.nx_, PstS.rt_, Pst.ok_, List.map_cons, List.map_nil, List.length_cons, List.length_nil, List.replicate, List.cons_append, List.nil_append, List.getElem?_cons_zero, List.getElem?_cons_succ, setG_nm, setG_tp, new, selArgs, List.set_cons_zero, List.set_cons_succ, evE_lcE, evI, sizeL, Nat.reduceAdd, Nat.reduceLeDiff, Nat.reduceLT, Nat.reduceSub, if_true, if_false, reduceIte, Nat.zero_add, Nat.lt_add_one, Nat.zero_lt_succ, reduceCtorEq, Nat.reducePow, Nat.reduceLeDiff, Nat.zero_le, dcTurnE, wipeE, evIfs, PG.row, setGs]
      rw [free_names_spec hp (n := n + 198) (g.bd i) (ok.ok i hi) (by have := ok.sz i hi; omega) (by have := ok.dp i hi; omega) (by have := ok.dp i hi; omega), Pst.ok_]
      have hF := last_get (S1 ++ [SO.dict (trues g.names)] ++ T) (SO.lst ((sortT (setK ((g.bd i).fv []))).map .str))
      have hkF : (D.ref S1.length).dict? (S1 ++ [SO.dict (trues g.names)] ++ T ++ [SO.lst ((sortT (setK ((g.bd i).fv []))).map .str)]) = some (trues g.names) := by
        have : (S1 ++ [SO.dict (trues g.names)] ++ T ++ [SO.lst ((sortT (setK ((g.bd i).fv []))).map .str)])[S1.length]? = some (SO.dict (trues g.names)) := by
          rw [List.getElem?_append_left (by simp), List.getElem?_append_left (by simp)]; exact hk0
        simp [D.dict?, this]
      simp only [NF.start, evSs, evS, evE, evEs, evT, PstS.andThen_, PstS.seq_, Pst.bind_, PstS.if_, Pst.if_, PstS.nx_, PstS.rt_, Pst.ok_, List.map_cons, List.map_nil, List.length_cons, List.length_nil, List.replicate, List.cons_append, List.nil_append, List.getElem?_cons_zero, List.getElem?_cons_succ, setG_nm, setG_tp, new, selArgs, List.set_cons_zero, List.set_cons_succ, evE_lcE, evI, sizeL, Nat.reduceAdd, Nat.reduceLeDiff, Nat.reduceLT, Nat.reduceSub, if_true, if_false, reduceIte, Nat.zero_add, Nat.lt_add_one, Nat.zero_lt_succ, reduceCtorEq, Nat.reducePow, Nat.reduceLeDiff, Nat.zero_le, srcOf, ofOpt, hF]
      have hfl := TM.fv_len (g.bd i).size (g.bd i) [] (Nat.le_refl _)
      rw [turns_on D.str D.str (fun y => g.names.contains y) (by simp [Src.holds, hF]) _ [] (fun x hx => ?_) (by
        have h1 := (sortT_perm (setK ((g.bd i).fv []))).length_eq
        have h2 := setK_len ((g.bd i).fv [])
        have := ok.sz i hi
        simp only [List.length_nil, Nat.zero_add]
        unfold sizeL; omega)]
      · simp only [NF.start, evSs, evS, evE, evEs, evT, PstS.andThen_, PstS.seq_, Pst.bind_, PstS.if_, Pst.if_, PstS.nx_, PstS.rt_, Pst.ok_, List.map_cons, List.map_nil, List.length_cons, List.length_nil, List.replicate, List.cons_append, List.nil_append, List.getElem?_cons_zero, List.getElem?_cons_succ, setG_nm, setG_tp, new, selArgs, List.set_cons_zero, List.set_cons_succ, evE_lcE, evI, sizeL, Nat.reduceAdd, Nat.reduceLeDiff, Nat.reduceLT, Nat.reduceSub, if_true, if_false, reduceIte, Nat.zero_add, Nat.lt_add_one, Nat.zero_lt_succ, reduceCtorEq, Nat.reducePow, Nat.reduceLeDiff, Nat.zero_le]
        refine ⟨_, _, _, rfl, List.append_assoc _ _ _, last_get _ _, ?_⟩
        · show SO.lst _ = SO.lst _
          rw [hnb i hi]; rfl
      · refine eq_of ?_
        simp only [NF.start, evSs, evS, evE, evEs, evT, PstS.andThen_, PstS.seq_, Pst.bind_, PstS.if_, Pst.if_, PstS.nx_, PstS.rt_, Pst.ok_, List.map_cons, List.map_nil, List.length_cons, List.length_nil, List.replicate, List.cons_append, List.nil_append, List.getElem?_cons_zero, List.getElem?_cons_succ, setG_nm, setG_tp, new, selArgs, List.set_cons_zero, List.set_cons_succ, evE_lcE, evI, sizeL, Nat.reduceAdd, Nat.reduceLeDiff, Nat.reduceLT, Nat.reduceSub, if_true, if_false, reduceIte, Nat.zero_add, Nat.lt_add_one, Nat.zero_lt_succ, reduceCtorEq, Nat.reducePow, Nat.reduceLeDiff, Nat.zero_le, lcTurnE, wipeE, evIfs]
        rw [in_trues hkF]
        simp only [NF.start, evSs, evS, evE, evEs, evT, PstS.andThen_, PstS.seq_, Pst.bind_, PstS.if_, Pst.if_, PstS.nx_, PstS.rt_, Pst.ok_, List.map_cons, List.map_nil, List.length_cons, List.length_nil, List.replicate, List.cons_append, List.nil_append, List.getElem?_cons_zero, List.getElem?_cons_succ, setG_nm, setG_tp, new, selArgs, List.set_cons_zero, List.set_cons_succ, evE_lcE, evI, sizeL, Nat.reduceAdd, Nat.reduceLeDiff, Nat.reduceLT, Nat.reduceSub, if_true, if_false, reduceIte, Nat.zero_add, Nat.lt_add_one, Nat.zero_lt_succ, reduceCtorEq, Nat.reducePow, Nat.reduceLeDiff, Nat.zero_le, truth_bl]
        cases g.names.contains x <;> simp [Pst]
    · rintro vs S2 ⟨T, rfl, hD⟩
      try simp only [NF.start, evSs, evS, evE, evEs, evT, PstS.andThen_, PstS.seq_, Pst.bind_, PstS.if_, Pst.if_, PstS.nx_, PstS.rt_, Pst.ok_, List.map_cons, List.map_nil, List.length_cons, List.length_nil, List.replicate, List.cons_append, List.nil_append, List.getElem?_cons_zero, List.getElem?_cons_succ, setG_nm, setG_tp, new, selArgs, List.set_cons_zero, List.set_cons_succ, evE_lcE, evI, sizeL, Nat.reduceAdd, Nat.reduceLeDiff, Nat.reduceLT, Nat.reduceSub, if_true, if_false, reduceIte, Nat.zero_add, Nat.lt_add_one, Nat.zero_lt_succ, reduceCtorEq, Nat.reducePow, Nat.reduceLeDiff, Nat.zero_le]
      intro d1 S3 e
      have : S1 ++ [SO.dict (trues g.names)] ++ T ++ [SO.dict vs] = S1 ++ ([SO.dict (trues g.names)] ++ T ++ [SO.dict vs]) := by simp
      rw [this] at e
      exact pack_dict (by simp <;> omega) (by rw [← this]; exact last_get _ _) (by rw [← this]; exact hD.push _) e
theorem come_to_spec {n : Nat} {S : Store} {g : PG} (ok : g.Ok) {nb : List Nat → List (List Nat)} (hnb : g.Nb nb) {m : Nat} {kvs : List (D × D)} (hm : (D.ref m).dict? S = some kvs) (hD : DAt S kvs g.names (MQ nb)) (hL : 300 ≤ L) {x : List Nat} (hx : x ∈ g.names) :
    Pst (NF.run P L (n + 1) 4 [.ref m, .str x] S) (fun d S' => ∃ fs, d = .ref S.length ∧ S' = S ++ [.dict (trues fs)] ∧ ∀ y, y ∈ fs ↔ Gr.Rch nb x y) := by
  have hmS : m < S.length := by
    simp only [D.dict?] at hm
    cases h : S[m]? with
    | none => rw [h] at hm; cases hm
    | some o => exact (List.getElem?_eq_some_iff.mp h).1
  have hm' : ∀ T, (D.ref m).dict? (S ++ T) = some kvs := fun T => by
    simp only [D.dict?] at hm ⊢
    rw [List.getElem?_append_left hmS]; exact hm
  have hget : ∀ y ∈ g.names, ∀ T, ∃ r, r < S.length ∧ ixEv (.ref m) (.str y) (S ++ T) = .ok (.ref r) (S ++ T) none ∧ S[r]? = some (.lst ((nb y).map .str)) := fun y hy T => by
    obtain ⟨r, o, h1, h2, h3⟩ := hD.get y hy
    cases h3
    refine ⟨r, (List.getElem?_eq_some_iff.mp h2).1, ?_, h2⟩
    simp only [ixEv, hm', D.isKey, if_true, h1, ofOpt]
  refine run_pstG hp.h4 rfl ?_
  obtain ⟨r0, hr0, e0, hS0⟩ := hget x hx [.dict []]
  have hs0 : (D.ref r0).seq? (S ++ [SO.dict []]) = some ((nb x).map .str) := by
    simp [D.seq?, List.getElem?_append_left hr0, hS0]
  simp only [NF.start, evSs, evS, evE, evEs, evT, PstS.andThen_, PstS.seq_, Pst.bind_, PstS.if_, Pst.if_, PstS.nx_, PstS.rt_, Pst.ok_, List.map_cons, List.map_nil, List.length_cons, List.length_nil, List.replicate, List.cons_append, List.nil_append, List.getElem?_cons_zero, List.getElem?_cons_succ, setG_nm, setG_tp, new, selArgs, List.set_cons_zero, List.set_cons_succ, evE_lcE, evI, sizeL, Nat.reduceAdd, Nat.reduceLeDiff, Nat.reduceLT, Nat.reduceSub, if_true, if_false, reduceIte, Nat.zero_add, Nat.lt_add_one, Nat.zero_lt_succ, reduceCtorEq, Nat.reducePow, Nat.reduceLeDiff, Nat.zero_le, c4, disp_nil, e0, biEv, hs0, evS_whil]
  refine PstS.mono (while_rule (rt := fun _ _ => False) (nx := fun σ S' => ∃ fs a lf T, σ = [some (.ref m), some (.str x), some (.ref S.length), a, lf] ∧ S' = S ++ SO.dict (trues fs) :: T ∧ ∀ y, y ∈ fs ↔ Gr.Rch nb x y)
    (fun k σ S' => ∃ fs left lf T, σ = [some (.ref m), some (.str x), some (.ref S.length), some (.ref (S.length + 1)), lf] ∧ S' = S ++ SO.dict (trues fs) :: SO.lst (left.map .str) :: T ∧ Gr.DInv nb x left fs ∧ fs.Nodup ∧ (∀ y ∈ fs, y ∈ g.names) ∧ (∀ y ∈ left, y ∈ g.names) ∧ k = left.length + 20 * (g.n - fs.length) ∧ k ≤ 400) (fun k σ S' hI => ?_) L ((nb x).length + 20 * g.n) _ _ ?_ ?_) ?_ (fun _ _ h => h.elim)
  · obtain ⟨fs, left, lf, T, rfl, rfl, inv, nd, hfn, hln, hk, hk4⟩ := hI
    have g0 : (S ++ SO.dict (trues fs) :: SO.lst (left.map .str) :: T)[S.length]? = some (.dict (trues fs)) := by rw [get_at0]; rfl
    have g1 : ∀ U, (S ++ SO.dict (trues fs) :: SO.lst (left.map .str) :: T ++ U)[S.length + 1]? = some (.lst (left.map .str)) := fun U => by rw [List.append_assoc, get_at]; rfl
    have hne : cmpEv .ne (.ref (S.length + 1)) (.ref (S ++ SO.dict (trues fs) :: SO.lst (left.map .str) :: T).length) (S ++ SO.dict (trues fs) :: SO.lst (left.map .str) :: T ++ [.lst []]) = .ok (.bl (!(left.map D.str).isEmpty)) (S ++ SO.dict (trues fs) :: SO.lst (left.map .str) :: T ++ [.lst []]) none := cmp_lnilN (g1 _) (last_get _ _) (by simp)
    simp only [NF.start, evSs, evS, evE, evEs, evT, PstS.andThen_, PstS.seq_, Pst.bind_, PstS.if_, Pst.if_, PstS.nx_, PstS.rt_, Pst.ok_, List.map_cons, List.map_nil, List.length_cons, List.length_nil, List.replicate, List.cons_append, List.nil_append, List.getElem?_cons_zero, List.getElem?_cons_succ, setG_nm, setG_tp, new, selArgs, List.set_cons_zero, List.set_cons_succ, evE_lcE, evI, sizeL, Nat.reduceAdd, Nat.reduceLeDiff, Nat.reduceLT, Nat.reduceSub, if_true, if_false, reduceIte, Nat.zero_add, Nat.lt_add_one, Nat.zero_lt_succ, reduceCtorEq, Nat.reducePow, Nat.reduceLeDiff, Nat.zero_le, hne]
    rcases List.eq_nil_or_concat left with rfl | ⟨l, y, rfl⟩
    · simp only [NF.start, evSs, evS, evE, evEs, evT, PstS.andThen_, PstS.seq_, Pst.bind_, PstS.if_, Pst.if_, PstS.nx_, PstS.rt_, Pst.ok_, List.map_cons, List.map_nil, List.length_cons, List.length_nil, List.replicate, List.cons_append, List.nil_append, List.getElem?_cons_zero, List.getElem?_cons_succ, setG_nm, setG_tp, new, selArgs, List.set_cons_zero, List.set_cons_succ, evE_lcE, evI, sizeL, Nat.reduceAdd, Nat.reduceLeDiff, Nat.reduceLT, Nat.reduceSub, if_true, if_false, reduceIte, Nat.zero_add, Nat.lt_add_one, Nat.zero_lt_succ, reduceCtorEq, Nat.reducePow, Nat.reduceLeDiff, Nat.zero_le, List.isEmpty_nil, Bool.not_true, Bool.false_eq_true]
      exact ⟨fs, _, lf, SO.lst [] :: (T ++ [SO.lst []]), rfl, by simp, inv.fin⟩
    · have hy : y ∈ g.names := hln y (by simp)
      have e1 : (List.map D.str (l.concat y)).isEmpty = false := by simp
      simp only [NF.start, evSs, evS, evE, evEs, evT, PstS.andThen_, PstS.seq_, Pst.bind_, PstS.if_, Pst.if_, PstS.nx_, PstS.rt_, Pst.ok_, List.map_cons, List.map_nil, List.length_cons, List.length_nil, List.replicate, List.cons_append, List.nil_append, List.getElem?_cons_zero, List.getElem?_cons_succ, setG_nm, setG_tp, new, selArgs, List.set_cons_zero, List.set_cons_succ, evE_lcE, evI, sizeL, Nat.reduceAdd, Nat.reduceLeDiff, Nat.reduceLT, Nat.reduceSub, if_true, if_false, reduceIte, Nat.zero_add, Nat.lt_add_one, Nat.zero_lt_succ, reduceCtorEq, Nat.reducePow, Nat.reduceLeDiff, Nat.zero_le, e1, Bool.not_false, meT, meId, g1, Option.isSome_some, meEv, lstW, put]
      have e2 : (List.map D.str (l.concat y))[(List.map D.str (l.concat y)).length - 1]? = some (.str y) := by simp
      simp only [NF.start, evSs, evS, evE, evEs, evT, PstS.andThen_, PstS.seq_, Pst.bind_, PstS.if_, Pst.if_, PstS.nx_, PstS.rt_, Pst.ok_, List.map_cons, List.map_nil, List.length_cons, List.length_nil, List.replicate, List.cons_append, List.nil_append, List.getElem?_cons_zero, List.getElem?_cons_succ, setG_nm, setG_tp, new, selArgs, List.set_cons_zero, List.set_cons_succ, evE_lcE, evI, sizeL, Nat.reduceAdd, Nat.reduceLeDiff, Nat.reduceLT, Nat.reduceSub, if_true, if_false, reduceIte, Nat.zero_add, Nat.lt_add_one, Nat.zero_lt_succ, reduceCtorEq, Nat.reducePow, Nat.reduceLeDiff, Nat.zero_le, e2, D.mr]
      have e3 : (S ++ SO.dict (trues fs) :: SO.lst (List.map D.str (l.concat y)) :: T ++ [SO.lst []]).set (S.length + 1) (SO.lst (List.map D.str (l.concat y)).dropLast) = S ++ SO.dict (trues fs) :: SO.lst (l.map .str) :: (T ++ [SO.lst []]) := by
        rw [List.append_assoc, List.set_append_right _ _ (by omega)]
        simp
      rw [e3]
      have g2 : (S ++ SO.dict (trues fs) :: SO.lst (l.map .str) :: (T ++ [SO.lst []]))[S.length]? = some (.dict (trues fs)) := by rw [get_at0]; rfl
      rw [notin_trues (fs := fs) (by simp [D.dict?, g2])]
      simp only [NF.start, evSs, evS, evE, evEs, evT, PstS.andThen_, PstS.seq_, Pst.bind_, PstS.if_, Pst.if_, PstS.nx_, PstS.rt_, Pst.ok_, List.map_cons, List.map_nil, List.length_cons, List.length_nil, List.replicate, List.cons_append, List.nil_append, List.getElem?_cons_zero, List.getElem?_cons_succ, setG_nm, setG_tp, new, selArgs, List.set_cons_zero, List.set_cons_succ, evE_lcE, evI, sizeL, Nat.reduceAdd, Nat.reduceLeDiff, Nat.reduceLT, Nat.reduceSub, if_true, if_false, reduceIte, Nat.zero_add, Nat.lt_add_one, Nat.zero_lt_succ, reduceCtorEq, Nat.reducePow, Nat.reduceLeDiff, Nat.zero_le]
      have hfl := Gr.nodup_len nd hfn
      rw [PG.names_len] at hfl
      have hl0 : ∀ z ∈ l, z ∈ g.names := fun z hz => hln z (by simp [hz])
      by_cases hc : y ∈ fs
      · have : fs.contains y = true := by simpa using hc
        simp only [NF.start, evSs, evS, evE, evEs, evT, PstS.andThen_, PstS.seq_, Pst.bind_, PstS.if_, Pst.if_, PstS.nx_, PstS.rt_, Pst.ok_, List.map_cons, List.map_nil, List.length_cons, List.length_nil, List.replicate, List.cons_append, List.nil_append, List.getElem?_cons_zero, List.getElem?_cons_succ, setG_nm, setG_tp, new, selArgs, List.set_cons_zero, List.set_cons_succ, evE_lcE, evI, sizeL, Nat.reduceAdd, Nat.reduceLeDiff, Nat.reduceLT, Nat.reduceSub, if_true, if_false, reduceIte, Nat.zero_add, Nat.lt_add_one, Nat.zero_lt_succ, reduceCtorEq, Nat.reducePow, Nat.reduceLeDiff, Nat.zero_le, this, Bool.not_true, Bool.false_eq_true]
        refine ⟨l.length + 20 * (g.n - fs.length), by rw [hk]; simp, fs, l, _, _, rfl, rfl, (by simpa using inv : Gr.DInv nb x (l ++ [y]) fs).old hc, nd, hfn, hl0, rfl, by rw [hk] at hk4; simp at hk4; omega⟩
      · have : fs.contains y = false := by simpa using hc
        have hset : ∀ (o : SO) (Z : Store), (S ++ SO.dict (trues fs) :: Z).set S.length o = S ++ o :: Z := fun o Z => by
          rw [List.set_append_right _ _ (Nat.le_refl _)]; simp
        have hsz : (trues fs).length < 16777216 := by have := ok.few; simp [trues]; omega
        obtain ⟨r1, hr1, e4, hS1⟩ := hget y hy (SO.dict (trues (fs ++ [y])) :: SO.lst (l.map .str) :: (T ++ [SO.lst []]))
        have g3 : (S ++ SO.dict (trues (fs ++ [y])) :: SO.lst (l.map .str) :: (T ++ [SO.lst []]))[S.length + 1]? = some (.lst (l.map .str)) := by rw [get_at]; rfl
        have g4 : (S ++ SO.dict (trues (fs ++ [y])) :: SO.lst (l.map .str) :: (T ++ [SO.lst []]))[r1]? = some (.lst ((nb y).map .str)) := by rw [List.getElem?_append_left hr1]; exact hS1
        have hnl := PG.nb_len ok hnb hy
        have hlen : (List.map D.str l).length + (List.map D.str (nb y)).length ≤ 16777216 := by rw [List.length_map, List.length_map]; rw [hk] at hk4; simp at hk4; omega
        simp only [NF.start, evSs, evS, evE, evEs, evT, PstS.andThen_, PstS.seq_, Pst.bind_, PstS.if_, Pst.if_, PstS.nx_, PstS.rt_, Pst.ok_, List.map_cons, List.map_nil, List.length_cons, List.length_nil, List.replicate, List.cons_append, List.nil_append, List.getElem?_cons_zero, List.getElem?_cons_succ, setG_nm, setG_tp, new, selArgs, List.set_cons_zero, List.set_cons_succ, evE_lcE, evI, sizeL, Nat.reduceAdd, Nat.reduceLeDiff, Nat.reduceLT, Nat.reduceSub, if_true, if_false, reduceIte, Nat.zero_add, Nat.lt_add_one, Nat.zero_lt_succ, reduceCtorEq, Nat.reducePow, Nat.reduceLeDiff, Nat.zero_le, this, Bool.not_false, setSub, g2, D.isKey, hsz, hlen, strs_mr, put, D.mr, hset, dput_trues hc, meT, meId, g3, Option.isSome_some, e4, meEv, lstW, g4]
        have hset2 : (S ++ SO.dict (trues (fs ++ [y])) :: SO.lst (List.map D.str l) :: (T ++ [SO.lst []])).set (S.length + 1) (SO.lst (List.map D.str l ++ List.map D.str (nb y))) = S ++ SO.dict (trues (fs ++ [y])) :: SO.lst ((l ++ nb y).map .str) :: (T ++ [SO.lst []]) := by
          rw [List.set_append_right _ _ (by omega)]; simp
        have nd2 : (fs ++ [y]).Nodup := by
          rw [List.nodup_append]
          refine ⟨nd, by simp, fun a ha b hb => ?_⟩
          have : b = y := by simpa using hb
          subst this
          rintro rfl; exact hc ha
        have hfn2 : ∀ z ∈ fs ++ [y], z ∈ g.names := fun z hz => by
          rcases List.mem_append.mp hz with h | h
          · exact hfn z h
          · have : z = y := by simpa using h
            exact this ▸ hy
        have hf2 := Gr.nodup_len nd2 hfn2
        rw [PG.names_len, List.length_append] at hf2
        have hkk : (l ++ nb y).length + 20 * (g.n - (fs ++ [y]).length) < k := by
          rw [hk]; simp only [List.length_append, List.length_concat, List.length_cons, List.length_nil] at hf2 ⊢; omega
        refine ⟨(l ++ nb y).length + 20 * (g.n - (fs ++ [y]).length), hkk, fs ++ [y], l ++ nb y, _, _, rfl, hset2, (by simpa using inv : Gr.DInv nb x (l ++ [y]) fs).new, nd2, hfn2, fun z hz => (List.mem_append.mp hz).elim (hl0 z) (hnl.2 z), rfl, by omega⟩
  · have h1 := (PG.nb_len ok hnb hx).1
    have h2 := ok.few
    omega
  · refine ⟨[], nb x, none, [], by simp, by simp [trues], .start, List.nodup_nil, fun y h => absurd h List.not_mem_nil, (PG.nb_len ok hnb hx).2, by simp, by have h1 := (PG.nb_len ok hnb hx).1; have h2 := ok.few; omega⟩
  · rintro σ S' ⟨fs, a, lf, T, rfl, rfl, h⟩
    have g0 : (S ++ SO.dict (trues fs) :: T)[S.length]? = some (.dict (trues fs)) := by rw [get_at0]; rfl
    try simp only [NF.start, evSs, evS, evE, evEs, evT, PstS.andThen_, PstS.seq_, Pst.bind_, PstS.if_, Pst.if_, PstS.nx_, PstS.rt_, Pst.ok_, List.map_cons, List.map_nil, List.length_cons, List.length_nil, List.replicate, List.cons_append, List.nil_append, List.getElem?_cons_zero, List.getElem?_cons_succ, setG_nm, setG_tp, new, selArgs, List.set_cons_zero, List.set_cons_succ, evE_lcE, evI, sizeL, Nat.reduceAdd, Nat.reduceLeDiff, Nat.reduceLT, Nat.reduceSub, if_true, if_false, reduceIte, Nat.zero_add, Nat.lt_add_one, Nat.zero_lt_succ, reduceCtorEq, Nat.reducePow, Nat.reduceLeDiff, Nat.zero_le]
    intro d1 S1 e
    rw [pack_dict0 (Nat.le_refl _) g0 (trues_mr _)] at e
    cases e
    exact ⟨fs, rfl, rfl, h⟩
end
end K15

namespace K15
open PySem L2 NF
namespace PG
variable (g : PG)
def gD (js : List Nat) : D := .tup ((js.map g.nm).map .str)
def groupsOf (adj : Nat → Nat → Bool) : List (List Nat) := Gr.ord g.n (Gr.ws adj g.n) (Gr.gl g.n (Gr.ws adj g.n) g.n).length (Gr.gl g.n (Gr.ws adj g.n) g.n) []
def Adj (adj : Nat → Nat → Bool) (nb : List Nat → List (List Nat)) : Prop := ∀ i j, i < g.n → j < g.n → (adj i j = true ↔ g.nm j ∈ nb (g.nm i))
end PG
section
variable {g : PG}
theorem PG.gD_mr (js : List Nat) : (g.gD js).mr = 0 := by
  unfold PG.gD
  rw [D.mr]; exact strs_mr _
theorem PG.gDs_mr : ∀ gs : List (List Nat), D.mrs (gs.map g.gD) = 0
  | [] => rfl
  | x :: gs => by rw [List.map_cons, D.mrs, PG.gD_mr, PG.gDs_mr gs]; rfl
theorem PG.mem_nm (ok : g.Ok) {js : List Nat} (hj : ∀ j ∈ js, j < g.n) {i : Nat} (hi : i < g.n) : g.nm i ∈ js.map g.nm ↔ i ∈ js := by
  rw [List.mem_map]
  constructor
  · rintro ⟨j, h, e⟩
    exact ok.inj j i (hj j h) hi e ▸ h
  · exact fun h => ⟨i, h, rfl⟩
theorem PG.eqv_gD (ok : g.Ok) (S : Store) (n : Nat) {a b : List Nat} (ha : ∀ j ∈ a, j < g.n) (hb : ∀ j ∈ b, j < g.n) : D.eqv S (n + 2) (g.gD a) (g.gD b) = some (a == b) := by
  unfold PG.gD
  rw [eqv_tupS]
  congr 1
  rw [Bool.eq_iff_iff]
  simp only [beq_iff_eq]
  refine ⟨fun h => ?_, fun h => by rw [h]⟩
  induction a generalizing b with
  | nil => cases b with
    | nil => rfl
    | cons y b => simp at h
  | cons x a ih => cases b with
    | nil => simp at h
    | cons y b =>
      simp only [List.map_cons, List.cons.injEq] at h
      rw [ok.inj x y (ha _ List.mem_cons_self) (hb _ List.mem_cons_self) h.1, ih (fun j hj => ha j (List.mem_cons_of_mem _ hj)) (fun j hj => hb j (List.mem_cons_of_mem _ hj)) h.2]
theorem findEq_on {α : Type} [BEq α] [LawfulBEq α] {f : D → D → Option Bool} {F : α → D} {x : α} : ∀ {L : List α}, (∀ a ∈ L, f (F a) (F x) = some (a == x)) → x ∈ L → ∃ k, findEq f (F x) (L.map F) = some k ∧ L.eraseIdx k = L.erase x
  | y :: L, h, hx => by
    simp only [List.map_cons, findEq, h y List.mem_cons_self]
    by_cases e : y = x
    · subst e
      exact ⟨0, by simp, by simp⟩
    · have e1 : (y == x) = false := by simpa using e
      rw [e1]
      have hx : x ∈ L := by
        rcases List.mem_cons.mp hx with hx | hx
        · exact absurd hx.symm e
        · exact hx
      obtain ⟨k, h1, h2⟩ := findEq_on (fun a ha => h a (List.mem_cons_of_mem _ ha)) hx
      refine ⟨k + 1, by simp [h1], ?_⟩
      rw [List.eraseIdx_cons_succ, h2, List.erase_cons_tail (by simpa using e)]
theorem dict_set {S : Store} {m : Nat} {kvs : List (D × D)} (o : SO) (h : S[m]? = some (.dict kvs)) : S.set m (.dict kvs) = S := by
  have hl := (List.getElem?_eq_some_iff.mp h).1
  have : S[m] = .dict kvs := by
    rw [List.getElem?_eq_getElem hl] at h
    exact Option.some.inj h
  rw [← this]; exact List.set_getElem_self hl
end
section
variable {P : Nat → Option FD} {L : Nat} (hp : HP P)
include hp
theorem is_free_spec {n : Nat} {S : Store} {g : PG} (ok : g.Ok) {nb : List Nat → List (List Nat)} {m p : Nat} {kvs : List (D × D)} (hm : (D.ref m).dict? S = some kvs) (hD : DAt S kvs g.names (MQ nb)) {pl : List (List Nat)} (hpl : S[p]? = some (.dict (trues pl))) {js : List Nat} (hj : ∀ j ∈ js, j < g.n) :
    NF.run P L (n + 1) 7 [g.gD js, .ref m, .ref p] S = .ok (.bl (js.all fun i => (nb (g.nm i)).all fun y => (js.map g.nm).contains y || pl.contains y)) S none := by
  have hpd : (D.ref p).dict? S = some (trues pl) := by simp [D.dict?, hpl]
  refine eq_of2 (run_pst hp.h7 rfl ?_)
  unfold PG.gD
  simp only [NF.start, evSs, evS, evE, evEs, evT, PstS.andThen_, PstS.seq_, Pst.bind_, PstS.if_, Pst.if_, PstS.nx_, PstS.rt_, Pst.ok_, List.map_cons, List.map_nil, List.length_cons, List.length_nil, List.replicate, List.cons_append, List.nil_append, List.getElem?_cons_zero, List.getElem?_cons_succ, setG_nm, setG_tp, new, selArgs, List.set_cons_zero, List.set_cons_succ, evE_lcE, evI, sizeL, Nat.reduceAdd, Nat.reduceLeDiff, Nat.reduceLT, Nat.reduceSub, if_true, if_false, reduceIte, Nat.zero_add, Nat.lt_add_one, Nat.zero_lt_succ, reduceCtorEq, Nat.reducePow, Nat.reduceLeDiff, Nat.zero_le, c7, srcOf, ofOpt]
  refine for_all (fun i σ S' => ∃ a c, σ = [some (.tup ((js.map g.nm).map .str)), some (.ref m), some (.ref p), a, c] ∧ S' = S ∧ (js.take i).all (fun i => (nb (g.nm i)).all fun y => (js.map g.nm).contains y || pl.contains y) = true) (fun i y σ S' hy hI => ?_) (fun σ S' hI => ?_) ⟨none, none, rfl, rfl, rfl⟩
  · obtain ⟨a, c, rfl, rfl, hall⟩ := hI
    rw [List.getElem?_map, List.getElem?_map, Option.map_eq_some_iff] at hy
    obtain ⟨y, hy, rfl⟩ := hy
    rw [Option.map_eq_some_iff] at hy
    obtain ⟨j, hjs, rfl⟩ := hy
    have hjm := List.mem_of_getElem? hjs
    obtain ⟨r, o, h1, h2, rfl⟩ := hD.get _ (PG.mem_names.mpr ⟨j, hj j hjm, rfl⟩)
    have e1 : ixEv (.ref m) (.str (g.nm j)) S' = .ok (.ref r) S' none := by simp only [ixEv, hm, D.isKey, if_true, h1, ofOpt]
    refine ⟨rfl, ?_⟩
    simp only [NF.start, evSs, evS, evE, evEs, evT, PstS.andThen_, PstS.seq_, Pst.bind_, PstS.if_, Pst.if_, PstS.nx_, PstS.rt_, Pst.ok_, List.map_cons, List.map_nil, List.length_cons, List.length_nil, List.replicate, List.cons_append, List.nil_append, List.getElem?_cons_zero, List.getElem?_cons_succ, setG_nm, setG_tp, new, selArgs, List.set_cons_zero, List.set_cons_succ, evE_lcE, evI, sizeL, Nat.reduceAdd, Nat.reduceLeDiff, Nat.reduceLT, Nat.reduceSub, if_true, if_false, reduceIte, Nat.zero_add, Nat.lt_add_one, Nat.zero_lt_succ, reduceCtorEq, Nat.reducePow, Nat.reduceLeDiff, Nat.zero_le, e1, srcOf, h2, ofOpt]
    refine for_all (fun k σ S1 => ∃ c, σ = [some (.tup ((js.map g.nm).map .str)), some (.ref m), some (.ref p), some (.str (g.nm j)), c] ∧ S1 = S' ∧ ((nb (g.nm j)).take k).all (fun y => (js.map g.nm).contains y || pl.contains y) = true) (fun k y σ S1 hy hI => ?_) (fun σ S1 hI => ?_) ⟨c, rfl, rfl, rfl⟩
    · obtain ⟨c, rfl, rfl, hall2⟩ := hI
      rw [List.getElem?_map, Option.map_eq_some_iff] at hy
      obtain ⟨y, hy, rfl⟩ := hy
      refine ⟨by simp only [Src.holds, List.all_cons, List.all_nil, h2, decide_true, Bool.and_true], ?_⟩
      simp only [NF.start, evSs, evS, evE, evEs, evT, PstS.andThen_, PstS.seq_, Pst.bind_, PstS.if_, Pst.if_, PstS.nx_, PstS.rt_, Pst.ok_, List.map_cons, List.map_nil, List.length_cons, List.length_nil, List.replicate, List.cons_append, List.nil_append, List.getElem?_cons_zero, List.getElem?_cons_succ, setG_nm, setG_tp, new, selArgs, List.set_cons_zero, List.set_cons_succ, evE_lcE, evI, sizeL, Nat.reduceAdd, Nat.reduceLeDiff, Nat.reduceLT, Nat.reduceSub, if_true, if_false, reduceIte, Nat.zero_add, Nat.lt_add_one, Nat.zero_lt_succ, reduceCtorEq, Nat.reducePow, Nat.reduceLeDiff, Nat.zero_le, notin_tup, notin_trues hpd]
      have hym := List.mem_of_getElem? hy
      cases hc1 : (js.map g.nm).contains y with
      | true =>
        simp only [NF.start, evSs, evS, evE, evEs, evT, PstS.andThen_, PstS.seq_, Pst.bind_, PstS.if_, Pst.if_, PstS.nx_, PstS.rt_, Pst.ok_, List.map_cons, List.map_nil, List.length_cons, List.length_nil, List.replicate, List.cons_append, List.nil_append, List.getElem?_cons_zero, List.getElem?_cons_succ, setG_nm, setG_tp, new, selArgs, List.set_cons_zero, List.set_cons_succ, evE_lcE, evI, sizeL, Nat.reduceAdd, Nat.reduceLeDiff, Nat.reduceLT, Nat.reduceSub, if_true, if_false, reduceIte, Nat.zero_add, Nat.lt_add_one, Nat.zero_lt_succ, reduceCtorEq, Nat.reducePow, Nat.reduceLeDiff, Nat.zero_le, Bool.not_true, Bool.false_eq_true]
        refine ⟨_, rfl, trivial, ?_⟩
        rw [List.take_add_one, hy, List.all_append, hall2]
        simp only [Option.toList_some, List.all_cons, List.all_nil, Bool.and_true, Bool.true_and]
        rw [hc1]; rfl
      | false =>
        simp only [NF.start, evSs, evS, evE, evEs, evT, PstS.andThen_, PstS.seq_, Pst.bind_, PstS.if_, Pst.if_, PstS.nx_, PstS.rt_, Pst.ok_, List.map_cons, List.map_nil, List.length_cons, List.length_nil, List.replicate, List.cons_append, List.nil_append, List.getElem?_cons_zero, List.getElem?_cons_succ, setG_nm, setG_tp, new, selArgs, List.set_cons_zero, List.set_cons_succ, evE_lcE, evI, sizeL, Nat.reduceAdd, Nat.reduceLeDiff, Nat.reduceLT, Nat.reduceSub, if_true, if_false, reduceIte, Nat.zero_add, Nat.lt_add_one, Nat.zero_lt_succ, reduceCtorEq, Nat.reducePow, Nat.reduceLeDiff, Nat.zero_le, Bool.not_false]
        cases hc2 : pl.contains y with
        | true =>
          simp only [NF.start, evSs, evS, evE, evEs, evT, PstS.andThen_, PstS.seq_, Pst.bind_, PstS.if_, Pst.if_, PstS.nx_, PstS.rt_, Pst.ok_, List.map_cons, List.map_nil, List.length_cons, List.length_nil, List.replicate, List.cons_append, List.nil_append, List.getElem?_cons_zero, List.getElem?_cons_succ, setG_nm, setG_tp, new, selArgs, List.set_cons_zero, List.set_cons_succ, evE_lcE, evI, sizeL, Nat.reduceAdd, Nat.reduceLeDiff, Nat.reduceLT, Nat.reduceSub, if_true, if_false, reduceIte, Nat.zero_add, Nat.lt_add_one, Nat.zero_lt_succ, reduceCtorEq, Nat.reducePow, Nat.reduceLeDiff, Nat.zero_le, Bool.not_true, Bool.false_eq_true]
          refine ⟨_, rfl, trivial, ?_⟩
          rw [List.take_add_one, hy, List.all_append, hall2]
          simp only [Option.toList_some, List.all_cons, List.all_nil, Bool.and_true, Bool.true_and]
          rw [hc1, hc2]; rfl
        | false =>
          simp only [NF.start, evSs, evS, evE, evEs, evT, PstS.andThen_, PstS.seq_, Pst.bind_, PstS.if_, Pst.if_, PstS.nx_, PstS.rt_, Pst.ok_, List.map_cons, List.map_nil, List.length_cons, List.length_nil, List.replicate, List.cons_append, List.nil_append, List.getElem?_cons_zero, List.getElem?_cons_succ, setG_nm, setG_tp, new, selArgs, List.set_cons_zero, List.set_cons_succ, evE_lcE, evI, sizeL, Nat.reduceAdd, Nat.reduceLeDiff, Nat.reduceLT, Nat.reduceSub, if_true, if_false, reduceIte, Nat.zero_add, Nat.lt_add_one, Nat.zero_lt_succ, reduceCtorEq, Nat.reducePow, Nat.reduceLeDiff, Nat.zero_le, Bool.not_false]
          refine .inl ⟨Nat.zero_le _, ?_, by simp⟩
          congr 1
          symm
          rw [List.all_eq_false]
          refine ⟨j, hjm, ?_⟩
          rw [Bool.not_eq_true, List.all_eq_false]
          exact ⟨y, hym, by rw [hc1, hc2]; decide⟩
    · obtain ⟨c, rfl, rfl, hall2⟩ := hI
      rw [List.length_map, List.take_length] at hall2
      refine ⟨by simp only [Src.holds, List.all_cons, List.all_nil, h2, decide_true, Bool.and_true], _, _, rfl, rfl, ?_⟩
      rw [List.take_add_one, hjs, List.all_append, hall]
      simp only [Option.toList_some, List.all_cons, List.all_nil, Bool.and_true, Bool.true_and]
      exact hall2
  · obtain ⟨a, c, rfl, rfl, hall⟩ := hI
    rw [List.length_map, List.length_map, List.take_length] at hall
    refine ⟨rfl, ?_⟩
    try simp only [NF.start, evSs, evS, evE, evEs, evT, PstS.andThen_, PstS.seq_, Pst.bind_, PstS.if_, Pst.if_, PstS.nx_, PstS.rt_, Pst.ok_, List.map_cons, List.map_nil, List.length_cons, List.length_nil, List.replicate, List.cons_append, List.nil_append, List.getElem?_cons_zero, List.getElem?_cons_succ, setG_nm, setG_tp, new, selArgs, List.set_cons_zero, List.set_cons_succ, evE_lcE, evI, sizeL, Nat.reduceAdd, Nat.reduceLeDiff, Nat.reduceLT, Nat.reduceSub, if_true, if_false, reduceIte, Nat.zero_add, Nat.lt_add_one, Nat.zero_lt_succ, reduceCtorEq, Nat.reducePow, Nat.reduceLeDiff, Nat.zero_le]
    exact .inl ⟨Nat.zero_le _, by rw [hall], by simp⟩
theorem ordered_spec {n : Nat} {S : Store} {g : PG} (ok : g.Ok) {nb : List Nat → List (List Nat)} (hnb : g.Nb nb) {adj : Nat → Nat → Bool} (ha : g.Adj adj nb) {m r : Nat} {kvs : List (D × D)} (hm : (D.ref m).dict? S = some kvs) (hD : DAt S kvs g.names (MQ nb)) (hL : 300 ≤ L)
    (hr : S[r]? = some (.lst ((Gr.gl g.n (Gr.ws adj g.n) g.n).map g.gD))) :
    NF.run P L (n + 2) 6 [.ref r, .ref m] S = .ok (.ref S.length) (S ++ [.lst ((g.groupsOf adj).map g.gD)]) none := by
  have hmS : m < S.length := by
    simp only [D.dict?] at hm
    cases h : S[m]? with
    | none => rw [h] at hm; cases hm
    | some o => exact (List.getElem?_eq_some_iff.mp h).1
  have hm' : ∀ T, (D.ref m).dict? (S ++ T) = some kvs := fun T => by
    simp only [D.dict?] at hm ⊢
    rw [List.getElem?_append_left hmS]; exact hm
  have cl : Gr.Cl g.n (Gr.ws adj g.n) := ⟨fun i j k hj h1 h2 => Gr.ws_trans g.n hj h1 h2⟩
  have hR : ∀ i j, j < g.n → (Gr.ws adj g.n i j = true ↔ Gr.Pth g.n adj i j) := fun i j hj => Gr.ws_iff hj
  have hfew := ok.few
  have hgl := Gr.gl_len (n := g.n) (R := Gr.ws adj g.n) g.n
  generalize hG : Gr.gl g.n (Gr.ws adj g.n) g.n = G at hr hgl
  generalize hRR : Gr.ws adj g.n = R at cl hR hG
  have hgo : g.groupsOf adj = Gr.ord g.n R G.length G [] := by unfold PG.groupsOf; rw [hRR, hG]
  have glt : ∀ j ∈ G, ∀ i ∈ j, i < g.n := fun j hj i hi => by
    rw [← hG] at hj
    obtain ⟨k, hk, rfl⟩ := Gr.mem_gl.mp hj
    exact (Gr.mem_grp.mp hi).1
  have hs0 : (D.ref r).seq? S = some (G.map g.gD) := by simp [D.seq?, hr]
  refine eq_of2 (run_pstG hp.h6 rfl ?_)
  simp only [NF.start, evSs, evS, evE, evEs, evT, PstS.andThen_, PstS.seq_, Pst.bind_, PstS.if_, Pst.if_, PstS.nx_, PstS.rt_, Pst.ok_, List.map_cons, List.map_nil, List.length_cons, List.length_nil, List.replicate, List.cons_append, List.nil_append, List.getElem?_cons_zero, List.getElem?_cons_succ, setG_nm, setG_tp, new, selArgs, List.set_cons_zero, List.set_cons_succ, evE_lcE, evI, sizeL, Nat.reduceAdd, Nat.reduceLeDiff, Nat.reduceLT, Nat.reduceSub, if_true, if_false, reduceIte, Nat.zero_add, Nat.lt_add_one, Nat.zero_lt_succ, reduceCtorEq, Nat.reducePow, Nat.reduceLeDiff, Nat.zero_le, c6, disp_nil, biEv, hs0, evS_whil]
  refine PstS.mono (while_rule (rt := fun _ _ => False) (nx := fun σ S' => ∃ a1 a2 a3 a4 left T, σ = [some (.ref r), some (.ref m), a1, some (.ref (S.length + 1)), a2, a3, a4, none] ∧ S' = S ++ left :: SO.lst ((g.groupsOf adj).map g.gD) :: T)
    (fun k σ S' => ∃ a3 a4 left fd pl put T, σ = [some (.ref r), some (.ref m), some (.ref S.length), some (.ref (S.length + 1)), some (.ref (S.length + 2)), a3, a4, none] ∧ S' = S ++ SO.lst (left.map g.gD) :: SO.lst (fd.map g.gD) :: SO.dict (trues pl) :: T ∧ Gr.St g.n R left put ∧
      (∀ j, j < g.n → (g.nm j ∈ pl ↔ j ∈ put)) ∧ pl.Nodup ∧ (∀ y ∈ pl, y ∈ g.names) ∧ fd ++ Gr.ord g.n R left.length left put = g.groupsOf adj ∧ fd.length + left.length ≤ 9 ∧ k = left.length) (fun k σ S' hI => ?_) L G.length _ _ (by omega) ?_) ?_ (fun _ _ h => h.elim)
  · obtain ⟨a3, a4, left, fd, pl, put, T, rfl, rfl, st, hplj, nd, hpn, hord, hlen, rfl⟩ := hI
    have hlt : ∀ j ∈ left, ∀ i ∈ j, i < g.n := fun j hj i hi => by
      have := st.sub j hj
      rw [← hRR] at hG
      rw [← hRR, hG] at this
      exact glt j this i hi
    have g0 : ∀ U, (S ++ SO.lst (left.map g.gD) :: SO.lst (fd.map g.gD) :: SO.dict (trues pl) :: T ++ U)[S.length]? = some (.lst (left.map g.gD)) := fun U => by rw [List.append_assoc, get_at0]; rfl
    have hne : cmpEv .ne (.ref S.length) (.ref (S ++ SO.lst (left.map g.gD) :: SO.lst (fd.map g.gD) :: SO.dict (trues pl) :: T).length) (S ++ SO.lst (left.map g.gD) :: SO.lst (fd.map g.gD) :: SO.dict (trues pl) :: T ++ [.lst []]) = .ok (.bl (!(left.map g.gD).isEmpty)) (S ++ SO.lst (left.map g.gD) :: SO.lst (fd.map g.gD) :: SO.dict (trues pl) :: T ++ [.lst []]) none := cmp_lnilN (g0 _) (last_get _ _) (by simp)
    simp only [NF.start, evSs, evS, evE, evEs, evT, PstS.andThen_, PstS.seq_, Pst.bind_, PstS.if_, Pst.if_, PstS.nx_, PstS.rt_, Pst.ok_, List.map_cons, List.map_nil, List.length_cons, List.length_nil, List.replicate, List.cons_append, List.nil_append, List.getElem?_cons_zero, List.getElem?_cons_succ, setG_nm, setG_tp, new, selArgs, List.set_cons_zero, List.set_cons_succ, evE_lcE, evI, sizeL, Nat.reduceAdd, Nat.reduceLeDiff, Nat.reduceLT, Nat.reduceSub, if_true, if_false, reduceIte, Nat.zero_add, Nat.lt_add_one, Nat.zero_lt_succ, reduceCtorEq, Nat.reducePow, Nat.reduceLeDiff, Nat.zero_le, hne]
    by_cases hl0 : left = []
    · subst hl0
      simp only [NF.start, evSs, evS, evE, evEs, evT, PstS.andThen_, PstS.seq_, Pst.bind_, PstS.if_, Pst.if_, PstS.nx_, PstS.rt_, Pst.ok_, List.map_cons, List.map_nil, List.length_cons, List.length_nil, List.replicate, List.cons_append, List.nil_append, List.getElem?_cons_zero, List.getElem?_cons_succ, setG_nm, setG_tp, new, selArgs, List.set_cons_zero, List.set_cons_succ, evE_lcE, evI, sizeL, Nat.reduceAdd, Nat.reduceLeDiff, Nat.reduceLT, Nat.reduceSub, if_true, if_false, reduceIte, Nat.zero_add, Nat.lt_add_one, Nat.zero_lt_succ, reduceCtorEq, Nat.reducePow, Nat.reduceLeDiff, Nat.zero_le, List.isEmpty_nil, Bool.not_true, Bool.false_eq_true]
      refine ⟨_, _, _, _, SO.lst [], SO.dict (trues pl) :: (T ++ [SO.lst []]), rfl, ?_⟩
      have : fd = g.groupsOf adj := by rw [← hord]; simp [Gr.ord]
      rw [← this]; simp
    · have e1 : (left.map g.gD).isEmpty = false := by simpa using hl0
      simp only [NF.start, evSs, evS, evE, evEs, evT, PstS.andThen_, PstS.seq_, Pst.bind_, PstS.if_, Pst.if_, PstS.nx_, PstS.rt_, Pst.ok_, List.map_cons, List.map_nil, List.length_cons, List.length_nil, List.replicate, List.cons_append, List.nil_append, List.getElem?_cons_zero, List.getElem?_cons_succ, setG_nm, setG_tp, new, selArgs, List.set_cons_zero, List.set_cons_succ, evE_lcE, evI, sizeL, Nat.reduceAdd, Nat.reduceLeDiff, Nat.reduceLT, Nat.reduceSub, if_true, if_false, reduceIte, Nat.zero_add, Nat.lt_add_one, Nat.zero_lt_succ, reduceCtorEq, Nat.reducePow, Nat.reduceLeDiff, Nat.zero_le, e1, Bool.not_false]
      have hpll := Gr.nodup_len nd hpn
      rw [PG.names_len] at hpll
      obtain ⟨g0, rest, hfil, hg0, hfree⟩ := Gr.free_ne cl st hl0
      have hX1 : S ++ SO.lst (left.map g.gD) :: SO.lst (fd.map g.gD) :: SO.dict (trues pl) :: T ++ [SO.lst []] = S ++ SO.lst (left.map g.gD) :: SO.lst (fd.map g.gD) :: SO.dict (trues pl) :: (T ++ [SO.lst []]) := by simp
      rw [hX1]
      generalize T ++ [SO.lst []] = T
      have gl0 : (S ++ SO.lst (left.map g.gD) :: SO.lst (fd.map g.gD) :: SO.dict (trues pl) :: T)[S.length]? = some (.lst (left.map g.gD)) := by rw [get_at0]; rfl
      have gl2 : (S ++ SO.lst (left.map g.gD) :: SO.lst (fd.map g.gD) :: SO.dict (trues pl) :: T)[S.length + 2]? = some (.dict (trues pl)) := by rw [get_at]; rfl
      simp only [NF.start, evSs, evS, evE, evEs, evT, PstS.andThen_, PstS.seq_, Pst.bind_, PstS.if_, Pst.if_, PstS.nx_, PstS.rt_, Pst.ok_, List.map_cons, List.map_nil, List.length_cons, List.length_nil, List.replicate, List.cons_append, List.nil_append, List.getElem?_cons_zero, List.getElem?_cons_succ, setG_nm, setG_tp, new, selArgs, List.set_cons_zero, List.set_cons_succ, evE_lcE, evI, sizeL, Nat.reduceAdd, Nat.reduceLeDiff, Nat.reduceLT, Nat.reduceSub, if_true, if_false, reduceIte, Nat.zero_add, Nat.lt_add_one, Nat.zero_lt_succ, reduceCtorEq, Nat.reducePow, Nat.reduceLeDiff, Nat.zero_le, srcOf, gl0, ofOpt]
      rw [turns_on g.gD g.gD (Gr.freeB g.n R put) (by simp [Src.holds, gl0]) left [] (fun js hjs => ?_) (by simp only [List.length_nil]; unfold sizeL; omega)]
      · rw [List.nil_append, hfil]
        have hg0n := hlt g0 hg0
        obtain ⟨F, hF⟩ : ∃ F, F = SO.lst (g.gD g0 :: rest.map g.gD) := ⟨_, rfl⟩
        have hF' : SO.lst (g.gD g0 :: rest.map g.gD) = F := hF.symm
        have hXl : (S ++ SO.lst (left.map g.gD) :: SO.lst (fd.map g.gD) :: SO.dict (trues pl) :: T).length = S.length + (T.length + 3) := by simp
        have gF : ∀ A B C, (S ++ A :: B :: C :: (T ++ [F]))[S.length + (T.length + 3)]? = some (.lst ((g0 :: rest).map g.gD)) := fun A B C => by
          rw [get_at]
          simp only [List.getElem?_cons_succ]
          rw [last_get, hF]
          rfl
        have e2 : ∀ A B C, ixEv (.ref (S.length + (T.length + 3))) (.int 0) (S ++ A :: B :: C :: (T ++ [F])) = .ok (g.gD g0) (S ++ A :: B :: C :: (T ++ [F])) none := fun A B C => ix_lst (gF A B C) (by omega) rfl
        have hX2 : S ++ SO.lst (left.map g.gD) :: SO.lst (fd.map g.gD) :: SO.dict (trues pl) :: T ++ [F] = S ++ SO.lst (left.map g.gD) :: SO.lst (fd.map g.gD) :: SO.dict (trues pl) :: (T ++ [F]) := by simp
        have gA : ∀ A B C, (S ++ A :: B :: C :: (T ++ [F]))[S.length]? = some A := fun A B C => by rw [get_at0]; rfl
        have gB : ∀ A B C, (S ++ A :: B :: C :: (T ++ [F]))[S.length + 1]? = some B := fun A B C => by rw [get_at]; rfl
        have gC : ∀ A B C, (S ++ A :: B :: C :: (T ++ [F]))[S.length + 2]? = some C := fun A B C => by rw [get_at]; rfl
        have sA : ∀ A B C A', (S ++ A :: B :: C :: (T ++ [F])).set S.length A' = S ++ A' :: B :: C :: (T ++ [F]) := fun A B C A' => by rw [List.set_append_right _ _ (Nat.le_refl _)]; simp
        have sB : ∀ A B C B', (S ++ A :: B :: C :: (T ++ [F])).set (S.length + 1) B' = S ++ A :: B' :: C :: (T ++ [F]) := fun A B C A' => by rw [List.set_append_right _ _ (by omega)]; simp
        have sC : ∀ A B C C', (S ++ A :: B :: C :: (T ++ [F])).set (S.length + 2) C' = S ++ A :: B :: C' :: (T ++ [F]) := fun A B C A' => by rw [List.set_append_right _ _ (by omega)]; simp
        have hbl : (fd.map g.gD).length < 16777216 := by rw [List.length_map]; omega
        obtain ⟨q, hq1, hq2⟩ : ∃ q, findEq (D.eqv (S ++ SO.lst (left.map g.gD) :: SO.lst (fd.map g.gD ++ [g.gD g0]) :: SO.dict (trues pl) :: (T ++ [F])) eqN) (g.gD g0) (left.map g.gD) = some q ∧ left.eraseIdx q = left.erase g0 :=
          findEq_on (fun a ha => PG.eqv_gD ok _ 1198 (hlt a ha) hg0n) hg0
        have hms : D.mr (g.gD g0) = 0 := PG.gD_mr _
        simp only [NF.start, evSs, evS, evE, evEs, evT, PstS.andThen_, PstS.seq_, Pst.bind_, PstS.if_, Pst.if_, PstS.nx_, PstS.rt_, Pst.ok_, List.map_cons, List.map_nil, List.length_cons, List.length_nil, List.replicate, List.cons_append, List.nil_append, List.getElem?_cons_zero, List.getElem?_cons_succ, setG_nm, setG_tp, new, selArgs, List.set_cons_zero, List.set_cons_succ, evE_lcE, evI, sizeL, Nat.reduceAdd, Nat.reduceLeDiff, Nat.reduceLT, Nat.reduceSub, if_true, if_false, reduceIte, Nat.zero_add, Nat.lt_add_one, Nat.zero_lt_succ, reduceCtorEq, Nat.reducePow, Nat.reduceLeDiff, Nat.zero_le, hF', hX2, hXl, meT, meId, gB, Option.isSome_some, e2, meEv, lstW, hbl, NF.put, hms, sB, gA, hq1, sA, eraseIdx_map, hq2]
        have hsrc : g.gD g0 = .tup ((g0.map g.nm).map .str) := rfl
        simp only [NF.start, evSs, evS, evE, evEs, evT, PstS.andThen_, PstS.seq_, Pst.bind_, PstS.if_, Pst.if_, PstS.nx_, PstS.rt_, Pst.ok_, List.map_cons, List.map_nil, List.length_cons, List.length_nil, List.replicate, List.cons_append, List.nil_append, List.getElem?_cons_zero, List.getElem?_cons_succ, setG_nm, setG_tp, new, selArgs, List.set_cons_zero, List.set_cons_succ, evE_lcE, evI, sizeL, Nat.reduceAdd, Nat.reduceLeDiff, Nat.reduceLT, Nat.reduceSub, if_true, if_false, reduceIte, Nat.zero_add, Nat.lt_add_one, Nat.zero_lt_succ, reduceCtorEq, Nat.reducePow, Nat.reduceLeDiff, Nat.zero_le, hsrc, ofOpt]
        refine for_all (fun i σ S' => ∃ a4, σ = [some (.ref r), some (.ref m), some (.ref S.length), some (.ref (S.length + 1)), some (.ref (S.length + 2)), some (.ref (S.length + (T.length + 3))), a4, none] ∧ S' = S ++ SO.lst ((left.erase g0).map g.gD) :: SO.lst (fd.map g.gD ++ [g.gD g0]) :: SO.dict (trues (((g0.map g.nm).take i).foldl addK pl)) :: (T ++ [F])) (fun i y σ S' hy hI => ?_) (fun σ S' hI => ?_) ⟨_, rfl, rfl⟩
        · obtain ⟨a4, rfl, rfl⟩ := hI
          rw [List.getElem?_map, Option.map_eq_some_iff] at hy
          obtain ⟨y, hy, rfl⟩ := hy
          have hsz : (trues (((g0.map g.nm).take i).foldl addK pl)).length < 16777216 := by
            have h1 := foldK_nodup ((g0.map g.nm).take i) nd
            have h2 : ∀ z ∈ ((g0.map g.nm).take i).foldl addK pl, z ∈ g.names := fun z hz => by
              rcases (foldK_mem _ _ _).mp hz with hz | hz
              · exact hpn z hz
              · obtain ⟨j, hj, rfl⟩ := List.mem_map.mp (List.mem_of_mem_take hz)
                exact PG.mem_names.mpr ⟨j, hg0n j hj, rfl⟩
            have := Gr.nodup_len h1 h2
            rw [PG.names_len] at this
            simp [trues]; omega
          refine ⟨rfl, ?_⟩
          simp only [NF.start, evSs, evS, evE, evEs, evT, PstS.andThen_, PstS.seq_, Pst.bind_, PstS.if_, Pst.if_, PstS.nx_, PstS.rt_, Pst.ok_, List.map_cons, List.map_nil, List.length_cons, List.length_nil, List.replicate, List.cons_append, List.nil_append, List.getElem?_cons_zero, List.getElem?_cons_succ, setG_nm, setG_tp, new, selArgs, List.set_cons_zero, List.set_cons_succ, evE_lcE, evI, sizeL, Nat.reduceAdd, Nat.reduceLeDiff, Nat.reduceLT, Nat.reduceSub, if_true, if_false, reduceIte, Nat.zero_add, Nat.lt_add_one, Nat.zero_lt_succ, reduceCtorEq, Nat.reducePow, Nat.reduceLeDiff, Nat.zero_le, setSub, gC, D.isKey, hsz, NF.put, D.mr, sC, trues_put]
          refine ⟨_, rfl, ?_⟩
          rw [List.take_add_one, hy, List.foldl_append]
          rfl
        · obtain ⟨a4, rfl, rfl⟩ := hI
          refine ⟨rfl, (left.erase g0).length, ?_, some (.ref (S.length + (T.length + 3))), a4, left.erase g0, fd ++ [g0], (g0.map g.nm).foldl addK pl, put ++ g0, T ++ [F], rfl, ?_, Gr.St.next cl st hg0 hfree, fun j hj => ?_, foldK_nodup _ nd, fun z hz => ?_, ?_, ?_, rfl⟩
          · rw [List.length_erase_of_mem hg0]
            have := List.length_pos_of_mem hg0
            omega
          · rw [List.length_map, List.take_of_length_le (by simp)]
            simp
          · rw [foldK_mem, hplj j hj, PG.mem_nm ok hg0n hj, List.mem_append]
          · rcases (foldK_mem _ _ _).mp hz with hz | hz
            · exact hpn z hz
            · obtain ⟨j, hj, rfl⟩ := List.mem_map.mp hz
              exact PG.mem_names.mpr ⟨j, hg0n j hj, rfl⟩
          · rw [← hord]
            have hll : left.length = (left.erase g0).length + 1 := by
              rw [List.length_erase_of_mem hg0]
              have := List.length_pos_of_mem hg0
              omega
            rw [hll]
            conv => rhs; unfold Gr.ord
            rw [hfil]
            simp
          · rw [List.length_erase_of_mem hg0]
            have := List.length_pos_of_mem hg0
            simp; omega
      · have hb : (js.all fun i => (nb (g.nm i)).all fun y => (js.map g.nm).contains y || pl.contains y) = Gr.freeB g.n R put js := by
          rw [Bool.eq_iff_iff, Gr.free_prog hR cl st hjs, List.all_eq_true]
          constructor
          · intro h i hi j hj haj
            have := List.all_eq_true.mp (h i hi) (g.nm j) ((ha i j (hlt js hjs i hi) hj).mp haj)
            simp only [Bool.or_eq_true, List.contains_iff_mem] at this
            rw [PG.mem_nm ok (hlt js hjs) hj, hplj j hj] at this
            exact this
          · intro h i hi
            rw [List.all_eq_true]
            intro y hy
            have hin := hlt js hjs i hi
            obtain ⟨j, hj, rfl⟩ := PG.mem_names.mp ((PG.nb_len ok hnb (PG.mem_names.mpr ⟨i, hin, rfl⟩)).2 y hy)
            have := h i hi j hj ((ha i j hin hj).mpr hy)
            simp only [Bool.or_eq_true, List.contains_iff_mem]
            rw [PG.mem_nm ok (hlt js hjs) hj, hplj j hj]
            exact this
        refine eq_of ?_
        simp only [NF.start, evSs, evS, evE, evEs, evT, PstS.andThen_, PstS.seq_, Pst.bind_, PstS.if_, Pst.if_, PstS.nx_, PstS.rt_, Pst.ok_, List.map_cons, List.map_nil, List.length_cons, List.length_nil, List.replicate, List.cons_append, List.nil_append, List.getElem?_cons_zero, List.getElem?_cons_succ, setG_nm, setG_tp, new, selArgs, List.set_cons_zero, List.set_cons_succ, evE_lcE, evI, sizeL, Nat.reduceAdd, Nat.reduceLeDiff, Nat.reduceLT, Nat.reduceSub, if_true, if_false, reduceIte, Nat.zero_add, Nat.lt_add_one, Nat.zero_lt_succ, reduceCtorEq, Nat.reducePow, Nat.reduceLeDiff, Nat.zero_le, lcTurnE, wipeE, evIfs]
        rw [is_free_spec hp ok (hm' _) (hD.push _) gl2 (hlt js hjs), hb]
        simp only [NF.start, evSs, evS, evE, evEs, evT, PstS.andThen_, PstS.seq_, Pst.bind_, PstS.if_, Pst.if_, PstS.nx_, PstS.rt_, Pst.ok_, List.map_cons, List.map_nil, List.length_cons, List.length_nil, List.replicate, List.cons_append, List.nil_append, List.getElem?_cons_zero, List.getElem?_cons_succ, setG_nm, setG_tp, new, selArgs, List.set_cons_zero, List.set_cons_succ, evE_lcE, evI, sizeL, Nat.reduceAdd, Nat.reduceLeDiff, Nat.reduceLT, Nat.reduceSub, if_true, if_false, reduceIte, Nat.zero_add, Nat.lt_add_one, Nat.zero_lt_succ, reduceCtorEq, Nat.reducePow, Nat.reduceLeDiff, Nat.zero_le, truth_bl]
        cases Gr.freeB g.n R put js <;> simp [Pst]
  · refine ⟨none, none, G, [], [], [], [], by simp, by simp [trues], ?_, by simp, List.nodup_nil, by simp, by rw [hgo]; rfl, by simpa using (by omega : G.length ≤ 9), rfl⟩
    rw [← hG]; exact Gr.St.start cl
  · rintro σ S' ⟨a1, a2, a3, a4, left, T, rfl, rfl⟩
    have g1 : (S ++ left :: SO.lst ((g.groupsOf adj).map g.gD) :: T)[S.length + 1]? = some (.lst ((g.groupsOf adj).map g.gD)) := by rw [get_at]; rfl
    try simp only [NF.start, evSs, evS, evE, evEs, evT, PstS.andThen_, PstS.seq_, Pst.bind_, PstS.if_, Pst.if_, PstS.nx_, PstS.rt_, Pst.ok_, List.map_cons, List.map_nil, List.length_cons, List.length_nil, List.replicate, List.cons_append, List.nil_append, List.getElem?_cons_zero, List.getElem?_cons_succ, setG_nm, setG_tp, new, selArgs, List.set_cons_zero, List.set_cons_succ, evE_lcE, evI, sizeL, Nat.reduceAdd, Nat.reduceLeDiff, Nat.reduceLT, Nat.reduceSub, if_true, if_false, reduceIte, Nat.zero_add, Nat.lt_add_one, Nat.zero_lt_succ, reduceCtorEq, Nat.reducePow, Nat.reduceLeDiff, Nat.zero_le]
    intro d1 S1 e
    rw [pack_lst0 (by omega) g1 (PG.gDs_mr _)] at e
    cases e
    exact ⟨rfl, rfl⟩
end
end K15

namespace K15
open PySem L2 NF
section
variable {P : Nat → Option FD} {L : Nat} (hp : HP P)
include hp
theorem grouped_spec {n : Nat} {S : Store} {g : PG} (ok : g.Ok) {nb : List Nat → List (List Nat)} (hnb : g.Nb nb) {adj : Nat → Nat → Bool} (ha : g.Adj adj nb) (hL : 300 ≤ L) :
    NF.run P L (n + 201) 5 [.tup g.rows] S = .ok (.ref S.length) (S ++ [.lst ((g.groupsOf adj).map g.gD)]) none := by
  have hfew := ok.few
  have cl : Gr.Cl g.n (Gr.ws adj g.n) := ⟨fun i j k hj h1 h2 => Gr.ws_trans g.n hj h1 h2⟩
  have hR : ∀ i j, i < g.n → j < g.n → (Gr.ws adj g.n i j = true ↔ Gr.Rch nb (g.nm i) (g.nm j)) := fun i j hi hj => by
    rw [Gr.ws_iff hj, Gr.rch_pth (adj := adj) ok.inj (fun i hi y hy => ?_) ha hi]
    · constructor
      · exact fun h => ⟨j, hj, rfl, h⟩
      · rintro ⟨k, hk, e, h⟩
        exact ok.inj j k hj hk e ▸ h
    · exact PG.mem_names.mp ((PG.nb_len ok hnb (PG.mem_names.mpr ⟨i, hi, rfl⟩)).2 y hy)
  refine eq_of2 (run_pstG hp.h5 rfl ?_)
  simp only [NF.start, evSs, evS, evE, evEs, evT, PstS.andThen_, PstS.seq_, Pst.bind_, PstS.if_, Pst.if_, PstS.nx_, PstS.rt_, Pst.ok_, List.map_cons, List.map_nil, List.length_cons, List.length_nil, List.replicate, List.cons_append, List.nil_append, List.getElem?_cons_zero, List.getElem?_cons_succ, setG_nm, setG_tp, new, selArgs, List.set_cons_zero, List.set_cons_succ, evE_lcE, evI, sizeL, Nat.reduceAdd, Nat.reduceLeDiff, Nat.reduceLT, Nat.reduceSub, if_true, if_false, reduceIte, Nat.zero_add, Nat.lt_add_one, Nat.zero_lt_succ, reduceCtorEq, Nat.reducePow, Nat.reduceLeDiff, Nat.zero_le, c5]
  refine (mentions_of_spec hp (n := n) ok hnb).mono ?_
  rintro _ S1 ⟨m, T0, kvs, rfl, rfl, hmk, hD, hmS⟩
  try simp only [NF.start, evSs, evS, evE, evEs, evT, PstS.andThen_, PstS.seq_, Pst.bind_, PstS.if_, Pst.if_, PstS.nx_, PstS.rt_, Pst.ok_, List.map_cons, List.map_nil, List.length_cons, List.length_nil, List.replicate, List.cons_append, List.nil_append, List.getElem?_cons_zero, List.getElem?_cons_succ, setG_nm, setG_tp, new, selArgs, List.set_cons_zero, List.set_cons_succ, evE_lcE, evI, sizeL, Nat.reduceAdd, Nat.reduceLeDiff, Nat.reduceLT, Nat.reduceSub, if_true, if_false, reduceIte, Nat.zero_add, Nat.lt_add_one, Nat.zero_lt_succ, reduceCtorEq, Nat.reducePow, Nat.reduceLeDiff, Nat.zero_le]
  have hm1 : m < (S ++ T0).length := (List.getElem?_eq_some_iff.mp hmk).1
  obtain ⟨S1, hS1⟩ : ∃ S1, S1 = S ++ T0 := ⟨_, rfl⟩
  rw [← hS1] at hmk hD hm1 ⊢
  -- reach
  simp only [NF.start, evSs, evS, evE, evEs, evT, PstS.andThen_, PstS.seq_, Pst.bind_, PstS.if_, Pst.if_, PstS.nx_, PstS.rt_, Pst.ok_, List.map_cons, List.map_nil, List.length_cons, List.length_nil, List.replicate, List.cons_append, List.nil_append, List.getElem?_cons_zero, List.getElem?_cons_succ, setG_nm, setG_tp, new, selArgs, List.set_cons_zero, List.set_cons_succ, evE_lcE, evI, sizeL, Nat.reduceAdd, Nat.reduceLeDiff, Nat.reduceLT, Nat.reduceSub, if_true, if_false, reduceIte, Nat.zero_add, Nat.lt_add_one, Nat.zero_lt_succ, reduceCtorEq, Nat.reducePow, Nat.reduceLeDiff, Nat.zero_le, lockAt, hmk]
  refine unlockR_pst (kvs := kvs) ?_
  have hlk : (S1.set m (.ldict kvs))[m]? = some (.ldict kvs) := List.getElem?_set_self hm1
  simp only [NF.start, evSs, evS, evE, evEs, evT, PstS.andThen_, PstS.seq_, Pst.bind_, PstS.if_, Pst.if_, PstS.nx_, PstS.rt_, Pst.ok_, List.map_cons, List.map_nil, List.length_cons, List.length_nil, List.replicate, List.cons_append, List.nil_append, List.getElem?_cons_zero, List.getElem?_cons_succ, setG_nm, setG_tp, new, selArgs, List.set_cons_zero, List.set_cons_succ, evE_lcE, evI, sizeL, Nat.reduceAdd, Nat.reduceLeDiff, Nat.reduceLT, Nat.reduceSub, if_true, if_false, reduceIte, Nat.zero_add, Nat.lt_add_one, Nat.zero_lt_succ, reduceCtorEq, Nat.reducePow, Nat.reduceLeDiff, Nat.zero_le, evE_dcE, srcOf, hlk, ofOpt]
  have hDl : DAt (S1.set m (.ldict kvs)) kvs g.names (MQ nb) := hD.same fun x r o hx h1 h2 => by
    have : r ≠ m := by
      rintro rfl
      rw [hmk] at h1
      rw [h2] at h1
      cases h1
    rw [List.getElem?_set_ne (Ne.symm this)]; exact h1
  have hml : ∀ T, (D.ref m).dict? (S1.set m (.ldict kvs) ++ T) = some kvs := fun T => by
    simp only [D.dict?]
    rw [List.getElem?_append_left (by simpa using hm1), hlk]
  have hkeys := hD.keys
  refine (dc_build (names := g.names) (Q := fun x q o => S1.length ≤ q ∧ ∃ fs, o = .dict (trues fs) ∧ ∀ y, y ∈ fs ↔ Gr.Rch nb x y) (by rw [hkeys, List.length_map]) (PG.names_nodup ok) (by rw [PG.names_len]; omega) (fun i x y T hx hy => ?_)).mono ?_
  · rw [hkeys, List.getElem?_map, hy] at hx
    cases hx
    simp only [NF.start, evSs, evS, evE, evEs, evT, PstS.andThen_, PstS.seq_, Pst.bind_, PstS.if_, Pst.if_, PstS.nx_, PstS.rt_, Pst.ok_, List.map_cons, List.map_nil, List.length_cons, List.length_nil, List.replicate, List.cons_append, List.nil_append, List.getElem?_cons_zero, List.getElem?_cons_succ, setG_nm, setG_tp, new, selArgs, List.set_cons_zero, List.set_cons_succ, evE_lcE, evI, sizeL, Nat.reduceAdd, Nat.reduceLeDiff, Nat.reduceLT, Nat.reduceSub, if_true, if_false, reduceIte, Nat.zero_add, Nat.lt_add_one, Nat.zero_lt_succ, reduceCtorEq, Nat.reducePow, Nat.reduceLeDiff, Nat.zero_le, dcTurnE, wipeE, evIfs]
    refine (come_to_spec hp (n := n + 199) ok hnb (hml T) (hDl.push T) hL (List.mem_of_getElem? hy)).mono ?_
    rintro _ S2 ⟨fs, rfl, rfl, hfs⟩
    try simp only [NF.start, evSs, evS, evE, evEs, evT, PstS.andThen_, PstS.seq_, Pst.bind_, PstS.if_, Pst.if_, PstS.nx_, PstS.rt_, Pst.ok_, List.map_cons, List.map_nil, List.length_cons, List.length_nil, List.replicate, List.cons_append, List.nil_append, List.getElem?_cons_zero, List.getElem?_cons_succ, setG_nm, setG_tp, new, selArgs, List.set_cons_zero, List.set_cons_succ, evE_lcE, evI, sizeL, Nat.reduceAdd, Nat.reduceLeDiff, Nat.reduceLT, Nat.reduceSub, if_true, if_false, reduceIte, Nat.zero_add, Nat.lt_add_one, Nat.zero_lt_succ, reduceCtorEq, Nat.reducePow, Nat.reduceLeDiff, Nat.zero_le]
    exact ⟨_, _, _, rfl, rfl, last_get _ _, by simp, fs, rfl, hfs⟩
  · rintro vs S2 ⟨T, rfl, hV⟩
    simp only [NF.start, evSs, evS, evE, evEs, evT, PstS.andThen_, PstS.seq_, Pst.bind_, PstS.if_, Pst.if_, PstS.nx_, PstS.rt_, Pst.ok_, List.map_cons, List.map_nil, List.length_cons, List.length_nil, List.replicate, List.cons_append, List.nil_append, List.getElem?_cons_zero, List.getElem?_cons_succ, setG_nm, setG_tp, new, selArgs, List.set_cons_zero, List.set_cons_succ, evE_lcE, evI, sizeL, Nat.reduceAdd, Nat.reduceLeDiff, Nat.reduceLT, Nat.reduceSub, if_true, if_false, reduceIte, Nat.zero_add, Nat.lt_add_one, Nat.zero_lt_succ, reduceCtorEq, Nat.reducePow, Nat.reduceLeDiff, Nat.zero_le, disp_nil]
    have hsm : (S1.set m (.ldict kvs) ++ T ++ [SO.dict vs]).set m (.dict kvs) = S1 ++ T ++ [SO.dict vs] := by
      rw [List.append_assoc, List.set_append_left _ _ (by simpa using hm1), List.set_set, dict_set (.dict kvs) hmk, List.append_assoc]
    have hml2 : (S1.set m (.ldict kvs) ++ T ++ [SO.dict vs])[m]? = some (.ldict kvs) := by
      rw [List.append_assoc, List.getElem?_append_left (by simpa using hm1), hlk]
    rw [hsm]
    refine ⟨hml2, ?_⟩
    have hmX : (S1 ++ T ++ [SO.dict vs] ++ [SO.lst []] ++ [SO.dict []])[m]? = some (.dict kvs) := by
      simp only [List.append_assoc]
      rw [List.getElem?_append_left hm1]; exact hmk
    simp only [NF.start, evSs, evS, evE, evEs, evT, PstS.andThen_, PstS.seq_, Pst.bind_, PstS.if_, Pst.if_, PstS.nx_, PstS.rt_, Pst.ok_, List.map_cons, List.map_nil, List.length_cons, List.length_nil, List.replicate, List.cons_append, List.nil_append, List.getElem?_cons_zero, List.getElem?_cons_succ, setG_nm, setG_tp, new, selArgs, List.set_cons_zero, List.set_cons_succ, evE_lcE, evI, sizeL, Nat.reduceAdd, Nat.reduceLeDiff, Nat.reduceLT, Nat.reduceSub, if_true, if_false, reduceIte, Nat.zero_add, Nat.lt_add_one, Nat.zero_lt_succ, reduceCtorEq, Nat.reducePow, Nat.reduceLeDiff, Nat.zero_le, disp_nil, lockAt, hmX]
    refine unlockS_pst (kvs := kvs) ?_
    have hloc : (S1 ++ T ++ [SO.dict vs] ++ [SO.lst []] ++ [SO.dict []]).set m (.ldict kvs) = (S1.set m (.ldict kvs) ++ T ++ [SO.dict vs]) ++ SO.lst (([] : List (List Nat)).map g.gD) :: SO.dict (trues []) :: [] := by
      simp only [List.append_assoc]
      rw [List.set_append_left _ _ hm1]; rfl
    have hunl : ∀ Z, (S1.set m (.ldict kvs) ++ T ++ [SO.dict vs] ++ Z).set m (.dict kvs) = S ++ (T0 ++ T ++ [SO.dict vs] ++ Z) := fun Z => by
      rw [List.append_assoc, List.append_assoc, List.set_append_left _ _ (by simpa using hm1), List.set_set, dict_set (.dict kvs) hmk, hS1]; simp
    have l1 : (S1.set m (.ldict kvs) ++ T).length = S1.length + T.length := by simp
    have l2 : (S1 ++ T ++ [SO.dict vs]).length = S1.length + T.length + 1 := by simp; omega
    have l3 : (S1 ++ T ++ [SO.dict vs] ++ [SO.lst []]).length = S1.length + T.length + 2 := by simp; omega
    have hVY : ∀ Z, DAt (S1.set m (.ldict kvs) ++ T ++ [SO.dict vs] ++ Z) vs g.names (fun x q o => S1.length ≤ q ∧ ∃ fs, o = .dict (trues fs) ∧ ∀ y, y ∈ fs ↔ Gr.Rch nb x y) := fun Z => (hV.push _).push Z
    have hVU : ∀ Z, DAt (S1 ++ T ++ [SO.dict vs] ++ Z) kvs g.names (MQ nb) := fun Z => by
      have : S1 ++ T ++ [SO.dict vs] ++ Z = S1 ++ (T ++ [SO.dict vs] ++ Z) := by simp
      rw [this]; exact hD.push _
    obtain ⟨Y, hY⟩ : ∃ Y, Y = S1.set m (.ldict kvs) ++ T ++ [SO.dict vs] := ⟨_, rfl⟩
    obtain ⟨c, hc⟩ : ∃ c, c = S1.length + T.length := ⟨_, rfl⟩
    have hYl : Y.length = c + 1 := by rw [hY, hc]; simp; omega
    have hmY : ∀ Z, (Y ++ Z)[m]? = some (.ldict kvs) := fun Z => by
      rw [hY, List.append_assoc, List.append_assoc, List.getElem?_append_left (by simpa using hm1), hlk]
    have hcY : ∀ Z, (Y ++ Z)[c]? = some (.dict vs) := fun Z => by
      rw [hY, hc, List.getElem?_append_left (by simp), List.getElem?_append_right (by simp)]
      simp
    have hmc : m < c := by omega
    rw [← hY] at hVY hunl hloc
    rw [l1, l2, l3, hloc, ← hc]
    have gA : ∀ A B Z, (Y ++ A :: B :: Z)[c + 1]? = some A := fun A B Z => by rw [← hYl, get_at0]; rfl
    have gB : ∀ A B Z, (Y ++ A :: B :: Z)[c + 2]? = some B := fun A B Z => by rw [show c + 2 = Y.length + 1 by omega, get_at]; rfl
    have sA : ∀ A B Z A', (Y ++ A :: B :: Z).set (c + 1) A' = Y ++ A' :: B :: Z := fun A B Z A' => by rw [← hYl, List.set_append_right _ _ (Nat.le_refl _)]; simp
    have sB : ∀ A B Z B', (Y ++ A :: B :: Z).set (c + 2) B' = Y ++ A :: B' :: Z := fun A B Z A' => by rw [show c + 2 = Y.length + 1 by omega, List.set_append_right _ _ (by omega)]; simp
    have hgetY : ∀ x ∈ g.names, ∃ q fs, (∀ Z, ixEv (.ref c) (.str x) (Y ++ Z) = .ok (.ref q) (Y ++ Z) none) ∧ (∀ Z, (D.ref q).dict? (Y ++ Z) = some (trues fs)) ∧ ∀ y, y ∈ fs ↔ Gr.Rch nb x y := fun x hx => by
      obtain ⟨q, o, h1, h2, h3, fs, rfl, h5⟩ := (hVY []).get x hx
      refine ⟨q, fs, fun Z => ?_, fun Z => ?_, h5⟩
      · simp only [ixEv, D.dict?, hcY, D.isKey, if_true, h1, ofOpt]
      · rw [List.append_nil] at h2
        simp only [D.dict?]
        rw [List.getElem?_append_left (List.getElem?_eq_some_iff.mp h2).1, h2]
    clear hV hVY hloc hmX hsm hml2
    clear hY
    simp only [NF.start, evSs, evS, evE, evEs, evT, PstS.andThen_, PstS.seq_, Pst.bind_, PstS.if_, Pst.if_, PstS.nx_, PstS.rt_, Pst.ok_, List.map_cons, List.map_nil, List.length_cons, List.length_nil, List.replicate, List.cons_append, List.nil_append, List.getElem?_cons_zero, List.getElem?_cons_succ, setG_nm, setG_tp, new, selArgs, List.set_cons_zero, List.set_cons_succ, evE_lcE, evI, sizeL, Nat.reduceAdd, Nat.reduceLeDiff, Nat.reduceLT, Nat.reduceSub, if_true, if_false, reduceIte, Nat.zero_add, Nat.lt_add_one, Nat.zero_lt_succ, reduceCtorEq, Nat.reducePow, Nat.reduceLeDiff, Nat.zero_le, srcOf, hmY, ofOpt]
    rw [hkeys]
    generalize hRR : Gr.ws adj g.n = R at cl hR
    refine for_all (fun i σ S' => ∃ a5 a6 a7 sn Z, σ = [some (.tup g.rows), some (.ref m), some (.ref c), some (.ref (c + 1)), some (.ref (c + 2)), a5, a6, a7] ∧ S' = Y ++ SO.lst ((Gr.gl g.n R i).map g.gD) :: SO.dict (trues sn) :: Z ∧ sn.Nodup ∧ (∀ y ∈ sn, y ∈ g.names) ∧ ∀ j, j < g.n → (g.nm j ∈ sn ↔ ∃ h ∈ Gr.gl g.n R i, j ∈ h))
      (fun i x σ S' hx hI => ?_) (fun σ S' hI => ?_) ⟨none, none, none, [], [], by simp, by simp [Gr.gl, trues], List.nodup_nil, by simp, by simp [Gr.gl]⟩
    · obtain ⟨a5, a6, a7, sn, Z, rfl, rfl, nd, hsn, hsg⟩ := hI
      rw [List.getElem?_map, Option.map_eq_some_iff] at hx
      obtain ⟨x, hx, rfl⟩ := hx
      obtain ⟨hi, rfl⟩ := PG.names_get hx
      have hgll := Gr.gl_len (n := g.n) (R := R) i
      have hsnl := Gr.nodup_len nd hsn
      rw [PG.names_len] at hsnl
      refine ⟨rfl, ?_⟩
      have hni := notin_trues (S := Y ++ SO.lst ((Gr.gl g.n R i).map g.gD) :: SO.dict (trues sn) :: Z) (s := g.nm i) (k := c + 2) (fs := sn) (by simp [D.dict?, gB])
      simp only [NF.start, evSs, evS, evE, evEs, evT, PstS.andThen_, PstS.seq_, Pst.bind_, PstS.if_, Pst.if_, PstS.nx_, PstS.rt_, Pst.ok_, List.map_cons, List.map_nil, List.length_cons, List.length_nil, List.replicate, List.cons_append, List.nil_append, List.getElem?_cons_zero, List.getElem?_cons_succ, setG_nm, setG_tp, new, selArgs, List.set_cons_zero, List.set_cons_succ, evE_lcE, evI, sizeL, Nat.reduceAdd, Nat.reduceLeDiff, Nat.reduceLT, Nat.reduceSub, if_true, if_false, reduceIte, Nat.zero_add, Nat.lt_add_one, Nat.zero_lt_succ, reduceCtorEq, Nat.reducePow, Nat.reduceLeDiff, Nat.zero_le, hni]
      have hseen : sn.contains (g.nm i) = (Gr.gl g.n R i).contains (Gr.grp g.n R i) := by
        rw [Bool.eq_iff_iff, List.contains_iff_mem, hsg i hi, Gr.seen_iff cl hi]
      have hgl1 : Gr.gl g.n R (i + 1) = if (Gr.gl g.n R i).contains (Gr.grp g.n R i) = true then Gr.gl g.n R i else Gr.gl g.n R i ++ [Gr.grp g.n R i] := by rw [Gr.gl]
      cases hsc : sn.contains (g.nm i) with
      | true =>
        rw [← hseen, hsc, if_pos rfl] at hgl1
        simp only [NF.start, evSs, evS, evE, evEs, evT, PstS.andThen_, PstS.seq_, Pst.bind_, PstS.if_, Pst.if_, PstS.nx_, PstS.rt_, Pst.ok_, List.map_cons, List.map_nil, List.length_cons, List.length_nil, List.replicate, List.cons_append, List.nil_append, List.getElem?_cons_zero, List.getElem?_cons_succ, setG_nm, setG_tp, new, selArgs, List.set_cons_zero, List.set_cons_succ, evE_lcE, evI, sizeL, Nat.reduceAdd, Nat.reduceLeDiff, Nat.reduceLT, Nat.reduceSub, if_true, if_false, reduceIte, Nat.zero_add, Nat.lt_add_one, Nat.zero_lt_succ, reduceCtorEq, Nat.reducePow, Nat.reduceLeDiff, Nat.zero_le, Bool.not_true, Bool.false_eq_true]
        exact ⟨_, a6, a7, sn, Z, rfl, by rw [hgl1], nd, hsn, by rw [hgl1]; exact hsg⟩
      | false =>
        rw [← hseen, hsc, if_neg (by decide)] at hgl1
        have hnm : g.names.map D.str = (List.range g.n).map (fun j => D.str (g.nm j)) := by unfold PG.names; simp
        simp only [NF.start, evSs, evS, evE, evEs, evT, PstS.andThen_, PstS.seq_, Pst.bind_, PstS.if_, Pst.if_, PstS.nx_, PstS.rt_, Pst.ok_, List.map_cons, List.map_nil, List.length_cons, List.length_nil, List.replicate, List.cons_append, List.nil_append, List.getElem?_cons_zero, List.getElem?_cons_succ, setG_nm, setG_tp, new, selArgs, List.set_cons_zero, List.set_cons_succ, evE_lcE, evI, sizeL, Nat.reduceAdd, Nat.reduceLeDiff, Nat.reduceLT, Nat.reduceSub, if_true, if_false, reduceIte, Nat.zero_add, Nat.lt_add_one, Nat.zero_lt_succ, reduceCtorEq, Nat.reducePow, Nat.reduceLeDiff, Nat.zero_le, Bool.not_false, lockAt, hmY, srcOf, ofOpt, hkeys, hnm]
        rw [turns_on (fun j => D.str (g.nm j)) (fun j => D.str (g.nm j)) (Gr.eqv R i) rfl (List.range g.n) [] (fun j hj => ?_) (by simp only [List.length_nil, List.length_range]; unfold sizeL; omega)]
        · rw [List.nil_append]
          have hgd : D.tup (List.map (fun j => D.str (g.nm j)) (List.filter (Gr.eqv R i) (List.range g.n))) = g.gD (Gr.grp g.n R i) := by unfold PG.gD Gr.grp; simp
          have hcons : ∀ A B F, Y ++ A :: B :: Z ++ [F] = Y ++ A :: B :: (Z ++ [F]) := fun A B F => by simp
          have hsq : ∀ (F : SO) xs, F = SO.lst xs → ∀ A B, (D.ref (Y ++ A :: B :: Z).length).seq? (Y ++ A :: B :: (Z ++ [F])) = some xs := fun F xs hF A B => by
            subst hF
            have := last_get (Y ++ A :: B :: Z) (SO.lst xs)
            rw [hcons] at this
            simp only [D.seq?, D.lst?, this]
          have hbl : ((Gr.gl g.n R i).map g.gD).length < 16777216 := by rw [List.length_map]; omega
          have hgn : ∀ j ∈ Gr.grp g.n R i, j < g.n := fun j hj => (Gr.mem_grp.mp hj).1
          simp only [NF.start, evSs, evS, evE, evEs, evT, PstS.andThen_, PstS.seq_, Pst.bind_, PstS.if_, Pst.if_, PstS.nx_, PstS.rt_, Pst.ok_, List.map_cons, List.map_nil, List.length_cons, List.length_nil, List.replicate, List.cons_append, List.nil_append, List.getElem?_cons_zero, List.getElem?_cons_succ, setG_nm, setG_tp, new, selArgs, List.set_cons_zero, List.set_cons_succ, evE_lcE, evI, sizeL, Nat.reduceAdd, Nat.reduceLeDiff, Nat.reduceLT, Nat.reduceSub, if_true, if_false, reduceIte, Nat.zero_add, Nat.lt_add_one, Nat.zero_lt_succ, reduceCtorEq, Nat.reducePow, Nat.reduceLeDiff, Nat.zero_le, hcons, biEv, hsq _ _ rfl, hgd, meT, meId, gA, Option.isSome_some, meEv, lstW, hbl, NF.put, PG.gD_mr, sA]
          have hsrc : g.gD (Gr.grp g.n R i) = .tup (((Gr.grp g.n R i).map g.nm).map .str) := rfl
          generalize SO.lst (List.map (fun j => D.str (g.nm j)) (List.filter (Gr.eqv R i) (List.range g.n))) = F
          simp only [NF.start, evSs, evS, evE, evEs, evT, PstS.andThen_, PstS.seq_, Pst.bind_, PstS.if_, Pst.if_, PstS.nx_, PstS.rt_, Pst.ok_, List.map_cons, List.map_nil, List.length_cons, List.length_nil, List.replicate, List.cons_append, List.nil_append, List.getElem?_cons_zero, List.getElem?_cons_succ, setG_nm, setG_tp, new, selArgs, List.set_cons_zero, List.set_cons_succ, evE_lcE, evI, sizeL, Nat.reduceAdd, Nat.reduceLeDiff, Nat.reduceLT, Nat.reduceSub, if_true, if_false, reduceIte, Nat.zero_add, Nat.lt_add_one, Nat.zero_lt_succ, reduceCtorEq, Nat.reducePow, Nat.reduceLeDiff, Nat.zero_le, hsrc]
          refine for_all (fun k σ S' => ∃ a7, σ = [some (.tup g.rows), some (.ref m), some (.ref c), some (.ref (c + 1)), some (.ref (c + 2)), some (.str (g.nm i)), some (g.gD (Gr.grp g.n R i)), a7] ∧ S' = Y ++ SO.lst ((Gr.gl g.n R (i + 1)).map g.gD) :: SO.dict (trues ((((Gr.grp g.n R i).map g.nm).take k).foldl addK sn)) :: (Z ++ [F])) (fun k y σ S' hy hI => ?_) (fun σ S' hI => ?_) ⟨a7, rfl, by rw [hgl1, List.map_append]; rfl⟩
          · obtain ⟨a7, rfl, rfl⟩ := hI
            rw [List.getElem?_map, Option.map_eq_some_iff] at hy
            obtain ⟨y, hy, rfl⟩ := hy
            have hsz : (trues ((((Gr.grp g.n R i).map g.nm).take k).foldl addK sn)).length < 16777216 := by
              have h1 := foldK_nodup (((Gr.grp g.n R i).map g.nm).take k) nd
              have h2 : ∀ z ∈ (((Gr.grp g.n R i).map g.nm).take k).foldl addK sn, z ∈ g.names := fun z hz => by
                rcases (foldK_mem _ _ _).mp hz with hz | hz
                · exact hsn z hz
                · obtain ⟨j, hj, rfl⟩ := List.mem_map.mp (List.mem_of_mem_take hz)
                  exact PG.mem_names.mpr ⟨j, hgn j hj, rfl⟩
              have := Gr.nodup_len h1 h2
              rw [PG.names_len] at this
              simp [trues]; omega
            refine ⟨rfl, ?_⟩
            simp only [NF.start, evSs, evS, evE, evEs, evT, PstS.andThen_, PstS.seq_, Pst.bind_, PstS.if_, Pst.if_, PstS.nx_, PstS.rt_, Pst.ok_, List.map_cons, List.map_nil, List.length_cons, List.length_nil, List.replicate, List.cons_append, List.nil_append, List.getElem?_cons_zero, List.getElem?_cons_succ, setG_nm, setG_tp, new, selArgs, List.set_cons_zero, List.set_cons_succ, evE_lcE, evI, sizeL, Nat.reduceAdd, Nat.reduceLeDiff, Nat.reduceLT, Nat.reduceSub, if_true, if_false, reduceIte, Nat.zero_add, Nat.lt_add_one, Nat.zero_lt_succ, reduceCtorEq, Nat.reducePow, Nat.reduceLeDiff, Nat.zero_le, setSub, gB, D.isKey, hsz, NF.put, D.mr, sB, trues_put]
            refine ⟨_, rfl, ?_⟩
            rw [List.take_add_one, hy, List.foldl_append]
            rfl
          · obtain ⟨a7, rfl, rfl⟩ := hI
            refine ⟨rfl, some (.str (g.nm i)), some (g.gD (Gr.grp g.n R i)), a7, ((Gr.grp g.n R i).map g.nm).foldl addK sn, Z ++ [F], rfl, ?_, foldK_nodup _ nd, fun z hz => ?_, fun j hj => ?_⟩
            · rw [List.length_map, List.take_of_length_le (Nat.le_refl _)]
            · rcases (foldK_mem _ _ _).mp hz with hz | hz
              · exact hsn z hz
              · obtain ⟨j, hj, rfl⟩ := List.mem_map.mp hz
                exact PG.mem_names.mpr ⟨j, hgn j hj, rfl⟩
            · rw [foldK_mem, hsg j hj, PG.mem_nm ok hgn hj, hgl1]
              constructor
              · rintro (⟨h, h1, h2⟩ | h)
                · exact ⟨h, List.mem_append_left _ h1, h2⟩
                · exact ⟨_, List.mem_append_right _ (by simp), h⟩
              · rintro ⟨h, h1, h2⟩
                rcases List.mem_append.mp h1 with h1 | h1
                · exact .inl ⟨h, h1, h2⟩
                · have : h = Gr.grp g.n R i := by simpa using h1
                  exact .inr (this ▸ h2)
        · have hj : j < g.n := by simpa using hj
          refine eq_of ?_
          have hj1 : g.nm j ∈ g.names := PG.mem_names.mpr ⟨j, hj, rfl⟩
          obtain ⟨q1, f1, u1, v1, w1⟩ := hgetY (g.nm i) (PG.mem_names.mpr ⟨i, hi, rfl⟩)
          obtain ⟨q2, f2, u2, v2, w2⟩ := hgetY (g.nm j) hj1
          have hE : Gr.eqv R i j = (g.nm j == g.nm i || (f1.contains (g.nm j) && f2.contains (g.nm i))) := by
            rw [Bool.eq_iff_iff, Gr.eqv_iff, hR i j hi hj, hR j i hj hi]
            simp only [Bool.or_eq_true, beq_iff_eq, Bool.and_eq_true, List.contains_iff_mem, w1, w2]
            constructor
            · rintro (rfl | h)
              · exact .inl rfl
              · exact .inr h
            · rintro (h | h)
              · exact .inl (ok.inj j i hj hi h)
              · exact .inr h
          rw [hE]
          simp only [NF.start, evSs, evS, evE, evEs, evT, PstS.andThen_, PstS.seq_, Pst.bind_, PstS.if_, Pst.if_, PstS.nx_, PstS.rt_, Pst.ok_, List.map_cons, List.map_nil, List.length_cons, List.length_nil, List.replicate, List.cons_append, List.nil_append, List.getElem?_cons_zero, List.getElem?_cons_succ, setG_nm, setG_tp, new, selArgs, List.set_cons_zero, List.set_cons_succ, evE_lcE, evI, sizeL, Nat.reduceAdd, Nat.reduceLeDiff, Nat.reduceLT, Nat.reduceSub, if_true, if_false, reduceIte, Nat.zero_add, Nat.lt_add_one, Nat.zero_lt_succ, reduceCtorEq, Nat.reducePow, Nat.reduceLeDiff, Nat.zero_le, lcTurnE, wipeE, evIfs, cmp_eqS, u1, u2, in_trues (v1 _), in_trues (v2 _)]
          cases (g.nm j == g.nm i) <;> cases f1.contains (g.nm j) <;> cases f2.contains (g.nm i) <;> simp [Pst]
    · obtain ⟨a5, a6, a7, sn, Z, rfl, rfl, nd, hsn, hsg⟩ := hI
      refine ⟨rfl, hmY _, ?_⟩
      rw [List.length_map, PG.names_len, hunl]
      have hU : S ++ (T0 ++ T ++ [SO.dict vs] ++ SO.lst ((Gr.gl g.n R g.n).map g.gD) :: SO.dict (trues sn) :: Z) = S1 ++ T ++ [SO.dict vs] ++ SO.lst ((Gr.gl g.n R g.n).map g.gD) :: SO.dict (trues sn) :: Z := by rw [hS1]; simp
      have hmU : (S1 ++ T ++ [SO.dict vs] ++ SO.lst ((Gr.gl g.n R g.n).map g.gD) :: SO.dict (trues sn) :: Z)[m]? = some (.dict kvs) := by
        simp only [List.append_assoc]
        rw [List.getElem?_append_left hm1]; exact hmk
      have hgU : (S1 ++ T ++ [SO.dict vs] ++ SO.lst ((Gr.gl g.n R g.n).map g.gD) :: SO.dict (trues sn) :: Z)[c + 1]? = some (.lst ((Gr.gl g.n R g.n).map g.gD)) := by
        rw [show c + 1 = (S1 ++ T ++ [SO.dict vs]).length by omega, get_at0]; rfl
      rw [hU]
      simp only [NF.start, evSs, evS, evE, evEs, evT, PstS.andThen_, PstS.seq_, Pst.bind_, PstS.if_, Pst.if_, PstS.nx_, PstS.rt_, Pst.ok_, List.map_cons, List.map_nil, List.length_cons, List.length_nil, List.replicate, List.cons_append, List.nil_append, List.getElem?_cons_zero, List.getElem?_cons_succ, setG_nm, setG_tp, new, selArgs, List.set_cons_zero, List.set_cons_succ, evE_lcE, evI, sizeL, Nat.reduceAdd, Nat.reduceLeDiff, Nat.reduceLT, Nat.reduceSub, if_true, if_false, reduceIte, Nat.zero_add, Nat.lt_add_one, Nat.zero_lt_succ, reduceCtorEq, Nat.reducePow, Nat.reduceLeDiff, Nat.zero_le]
      rw [ordered_spec hp (n := n + 198) ok hnb ha (m := m) (r := c + 1) (kvs := kvs) (by simp only [D.dict?, hmU]) (hVU _) hL (by rw [hRR]; exact hgU)]
      simp only [NF.start, evSs, evS, evE, evEs, evT, PstS.andThen_, PstS.seq_, Pst.bind_, PstS.if_, Pst.if_, PstS.nx_, PstS.rt_, Pst.ok_, List.map_cons, List.map_nil, List.length_cons, List.length_nil, List.replicate, List.cons_append, List.nil_append, List.getElem?_cons_zero, List.getElem?_cons_succ, setG_nm, setG_tp, new, selArgs, List.set_cons_zero, List.set_cons_succ, evE_lcE, evI, sizeL, Nat.reduceAdd, Nat.reduceLeDiff, Nat.reduceLT, Nat.reduceSub, if_true, if_false, reduceIte, Nat.zero_add, Nat.lt_add_one, Nat.zero_lt_succ, reduceCtorEq, Nat.reducePow, Nat.reduceLeDiff, Nat.zero_le]
      rw [← hU]
      intro d1 S3 e
      rw [show ∀ A B : Store, S ++ A ++ B = S ++ (A ++ B) by intros; simp] at e
      rw [pack_lst0 (by simp) (by rw [← List.append_assoc]; exact last_get _ _) (PG.gDs_mr _)] at e
      cases e
      exact ⟨rfl, rfl⟩
theorem groups_of_spec {n : Nat} {S : Store} {g : PG} (ok : g.Ok) {nb : List Nat → List (List Nat)} (hnb : g.Nb nb) {adj : Nat → Nat → Bool} (ha : g.Adj adj nb) (hL : 300 ≤ L) (x : D) :
    NF.run P L (n + 202) 8 [.tup [x, .tup g.rows]] S = .ok (.ref S.length) (S ++ [.lst ((g.groupsOf adj).map g.gD)]) none := by
  refine eq_of2 (run_pstG hp.h8 rfl ?_)
  have e1 : ixEv (.tup [x, .tup g.rows]) (.int 1) S = .ok (.tup g.rows) S none := ix_tup (by omega) rfl
  simp only [NF.start, evSs, evS, evE, evEs, evT, PstS.andThen_, PstS.seq_, Pst.bind_, PstS.if_, Pst.if_, PstS.nx_, PstS.rt_, Pst.ok_, List.map_cons, List.map_nil, List.length_cons, List.length_nil, List.replicate, List.cons_append, List.nil_append, List.getElem?_cons_zero, List.getElem?_cons_succ, setG_nm, setG_tp, new, selArgs, List.set_cons_zero, List.set_cons_succ, evE_lcE, evI, sizeL, Nat.reduceAdd, Nat.reduceLeDiff, Nat.reduceLT, Nat.reduceSub, if_true, if_false, reduceIte, Nat.zero_add, Nat.lt_add_one, Nat.zero_lt_succ, reduceCtorEq, Nat.reducePow, Nat.reduceLeDiff, Nat.zero_le, c8, e1, grouped_spec hp ok hnb ha hL]
  intro d1 S3 e
  rw [pack_lst0 (Nat.le_refl _) (last_get _ _) (PG.gDs_mr _)] at e
  cases e
  exact ⟨rfl, rfl⟩
end
end K15

/-! NFFv: free names, constructor by constructor. -/
namespace NF
open PySem L2
theorem fv_num (i : Int) (bd : List (List Nat)) : (TM.num i).fv bd = [] := by rw [TM.fv_eq]; rfl
theorem fv_name (x : List Nat) (bd : List (List Nat)) : (TM.name x).fv bd = if bd.contains x then [] else [x] := by rw [TM.fv_eq]; simp [headFv, TM.within]
theorem fv_make (x : List Nat) (bd : List (List Nat)) : (TM.make x).fv bd = [] := by rw [TM.fv_eq]; rfl
theorem fv_app (a b : TM) (bd : List (List Nat)) : (TM.app a b).fv bd = a.fv bd ++ b.fv bd := by rw [TM.fv_eq]; simp [headFv, TM.within]
theorem fv_op (o : List Nat) (a b : TM) (bd : List (List Nat)) : (TM.op o a b).fv bd = a.fv bd ++ b.fv bd := by rw [TM.fv_eq]; simp [headFv, TM.within]
theorem fv_fn (x : List Nat) (b : TM) (bd : List (List Nat)) : (TM.fn x b).fv bd = b.fv (bd ++ [x]) := by rw [TM.fv_eq]; simp [headFv, TM.within]
theorem fv_lt (xs : List (List Nat)) (ts : List TM) (b : TM) (bd : List (List Nat)) : (TM.lt xs ts b).fv bd = ts.flatMap (fun t => t.fv (bd ++ xs)) ++ b.fv (bd ++ xs) := by
  rw [TM.fv_eq]; simp [headFv, TM.within, List.flatMap_map]
theorem fv_cs (a : TM) (ws : List (List Nat × List (List Nat))) (bs : List TM) (bd : List (List Nat)) : (TM.cs a ws bs).fv bd = a.fv bd ++ (List.zipWith (fun (w : List Nat × List (List Nat)) b => (b, w.2)) ws bs).flatMap fun p => p.1.fv (bd ++ p.2) := by
  rw [TM.fv_eq]; simp [headFv, TM.within]
/-- free under bound names: free, and not bound -/
theorem fv_mem (n : Nat) : ∀ (t : TM) (bd : List (List Nat)) (x : List Nat), t.size ≤ n → (x ∈ t.fv bd ↔ x ∈ t.fv [] ∧ x ∉ bd) := by
  induction n with
  | zero => intro t bd x h; cases t <;> simp [TM.size] at h <;> omega
  | succ n ih =>
    intro t bd x h
    rw [TM.fv_eq t bd, TM.fv_eq t []]
    simp only [List.mem_append, List.mem_flatMap, List.nil_append]
    have hh : x ∈ headFv t bd ↔ x ∈ headFv t [] ∧ x ∉ bd := by
      cases t with
      | name y =>
        simp only [headFv, List.contains_nil, Bool.false_eq_true, if_false, List.mem_singleton]
        by_cases e : x = y
        · subst e
          by_cases hb : x ∈ bd <;> simp [hb]
        · split <;> simp [e]
      | _ => simp [headFv]
    rw [hh]
    constructor
    · rintro (⟨h1, h2⟩ | ⟨p, hp, hx⟩)
      · exact ⟨.inl h1, h2⟩
      · have hs := TM.within_size hp
        rw [ih p.1 _ x (by omega)] at hx
        simp only [List.mem_append, not_or] at hx
        exact ⟨.inr ⟨p, hp, (ih p.1 _ x (by omega)).mpr ⟨hx.1, hx.2.2⟩⟩, hx.2.1⟩
    · rintro ⟨h1 | ⟨p, hp, hx⟩, h2⟩
      · exact .inl ⟨h1, h2⟩
      · have hs := TM.within_size hp
        rw [ih p.1 _ x (by omega)] at hx
        exact .inr ⟨p, hp, (ih p.1 _ x (by omega)).mpr ⟨hx.1, by simp only [List.mem_append, not_or]; exact ⟨h2, hx.2⟩⟩⟩
theorem fv_bd (t : TM) (bd : List (List Nat)) (x : List Nat) : x ∈ t.fv bd ↔ x ∈ t.fv [] ∧ x ∉ bd := fv_mem t.size t bd x (Nat.le_refl _)
end NF

namespace K15
open PySem L2 NF
def qq : List Nat := (S! "q")
def rr : List Nat := (S! "r")
def ss : List Nat := (S! "s")
theorem nmq : Nm qq := by decide +kernel
theorem nmr : Nm rr := by decide +kernel
theorem nms : Nm ss := by decide +kernel
theorem nmT : Nm (S! "True") := by decide +kernel
theorem nmF : Nm (S! "False") := by decide +kernel
theorem nplus : (S! "+").length ≤ 10 := by decide +kernel
section
variable {P : Nat → Option FD} {L : Nat} (hp : HP P)
include hp
theorem holding_spec {n : Nat} {S : Store} {k s : Nat} {m : Int} (h : GAt B15 S k m) (hm : m + 20 < 2 ^ 35) {some_ ps : List (List Nat)} (hs : S[s]? = some (.lst (some_.map .str))) (hsk : s ≠ k) (hl : some_.length ≤ 3) (hl2 : ps.length ≤ 2)
    (hnm : ∀ x ∈ some_ ++ ps, Nm x ∧ x ≠ qq ∧ x ≠ rr ∧ x ≠ ss) :
    Pst (NF.run P L (n + 2) 12 [.ref k, .ref s, .tup (ps.map .str)] S) (fun d S' => (∃ t : TM, d = t.d ∧ t.ok ∧ t.size ≤ 100 ∧ t.dep ≤ 50 ∧ ∀ x, x ∈ t.fv [] ↔ x ∈ some_ ++ ps) ∧ GC B15 k 20 S S' ∧ S'.length = S.length) := by
  have hk := h.lt
  have hsl := (List.getElem?_eq_some_iff.mp hs).1
  refine run_pst hp.h12 rfl ?_
  simp only [NF.start, evSs, evS, evE, evEs, evT, PstS.andThen_, PstS.seq_, Pst.bind_, PstS.if_, Pst.if_, PstS.nx_, PstS.rt_, Pst.ok_, List.map_cons, List.map_nil, List.length_cons, List.length_nil, List.replicate, List.cons_append, List.nil_append, List.getElem?_cons_zero, List.getElem?_cons_succ, setG_nm, setG_tp, new, selArgs, List.set_cons_zero, List.set_cons_succ, evE_lcE, evI, sizeL, Nat.reduceAdd, Nat.reduceLeDiff, Nat.reduceLT, Nat.reduceSub, if_true, if_false, reduceIte, Nat.zero_add, Nat.lt_add_one, Nat.zero_lt_succ, reduceCtorEq, Nat.reducePow, Nat.reduceLeDiff, Nat.zero_le, c12]
  refine (draw15 hp.h11 (n := n) h (by omega) (by decide) (by decide)).mono ?_
  rintro _ S1 ⟨⟨v0, rfl, hv0, hv1⟩, ch1, hl1⟩
  have hs1 : S1[s]? = some (.lst (some_.map .str)) := by rw [ch1.old s hsl hsk]; exact hs
  have hb : ∀ T, biEv .list [.tup (ps.map .str)] (S1 ++ T) = .ok (.ref (S1 ++ T).length) (S1 ++ T ++ [.lst (ps.map .str)]) none := fun _ => rfl
  have hb0 : biEv .list [.tup (ps.map .str)] S1 = .ok (.ref S1.length) (S1 ++ [.lst (ps.map .str)]) none := rfl
  have hs2 : (S1 ++ [SO.lst (ps.map .str)])[s]? = some (.lst (some_.map .str)) := by rw [List.getElem?_append_left (by omega)]; exact hs1
  simp only [NF.start, evSs, evS, evE, evEs, evT, PstS.andThen_, PstS.seq_, Pst.bind_, PstS.if_, Pst.if_, PstS.nx_, PstS.rt_, Pst.ok_, List.map_cons, List.map_nil, List.length_cons, List.length_nil, List.replicate, List.cons_append, List.nil_append, List.getElem?_cons_zero, List.getElem?_cons_succ, setG_nm, setG_tp, new, selArgs, List.set_cons_zero, List.set_cons_succ, evE_lcE, evI, sizeL, Nat.reduceAdd, Nat.reduceLeDiff, Nat.reduceLT, Nat.reduceSub, if_true, if_false, reduceIte, Nat.zero_add, Nat.lt_add_one, Nat.zero_lt_succ, reduceCtorEq, Nat.reducePow, Nat.reduceLeDiff, Nat.zero_le, hb0]
  rw [bin_addL hs2 (last_get _ _) (by rw [List.length_map, List.length_map]; unfold sizeL; omega), ← List.map_append]
  have hits := last_get (S1 ++ [SO.lst (ps.map .str)]) (SO.lst ((some_ ++ ps).map .str))
  simp only [NF.start, evSs, evS, evE, evEs, evT, PstS.andThen_, PstS.seq_, Pst.bind_, PstS.if_, Pst.if_, PstS.nx_, PstS.rt_, Pst.ok_, List.map_cons, List.map_nil, List.length_cons, List.length_nil, List.replicate, List.cons_append, List.nil_append, List.getElem?_cons_zero, List.getElem?_cons_succ, setG_nm, setG_tp, new, selArgs, List.set_cons_zero, List.set_cons_succ, evE_lcE, evI, sizeL, Nat.reduceAdd, Nat.reduceLeDiff, Nat.reduceLT, Nat.reduceSub, if_true, if_false, reduceIte, Nat.zero_add, Nat.lt_add_one, Nat.zero_lt_succ, reduceCtorEq, Nat.reducePow, Nat.reduceLeDiff, Nat.zero_le, srcOf, hits, ofOpt]
  obtain ⟨Z, hZ⟩ : ∃ Z, Z = S1 ++ [SO.lst (ps.map .str)] ++ [SO.lst ((some_ ++ ps).map .str)] := ⟨_, rfl⟩
  obtain ⟨q, hq⟩ : ∃ q, q = (S1 ++ [SO.lst (ps.map .str)]).length := ⟨_, rfl⟩
  have hqk : q ≠ k := by rw [hq]; simp; omega
  rw [← hZ, ← hq] at hits
  rw [← hZ, ← hq]
  have hZl : Z.length = S.length + 2 := by rw [hZ]; simp; omega
  have chZ : GC B15 k 1 S Z := by
    rw [hZ]
    simpa using (ch1.trans (GC.push [SO.lst (ps.map .str)])).trans (GC.push [SO.lst ((some_ ++ ps).map .str)])
  have hqZ := (List.getElem?_eq_some_iff.mp hits).1
  clear hZ hq hs2 hb hb0 hs1
  generalize hN : some_ ++ ps = N at *
  have hNl : N.length ≤ 5 := by rw [← hN]; simp; omega
  refine for_all (fun i σ S' => ∃ (t : TM) (a4 a5 a6 : Option D), σ = [some (.ref k), some (.ref s), some (.tup (ps.map .str)), some t.d, a4, a5, a6] ∧ GC B15 k (3 * i) Z S' ∧ Z.length ≤ S'.length ∧ t.ok ∧ t.size ≤ 1 + 10 * i ∧ t.dep ≤ 4 * i ∧ ∀ x, x ∈ t.fv [] ↔ x ∈ N.take i) (fun i y σ S' hy hI => ?_) (fun σ S' hI => ?_) ⟨.num v0, none, none, none, rfl, GC.refl _ _, Nat.le_refl _, ?_, by simp [TM.size], by simp [TM.dep], by simp [fv_num]⟩
  · obtain ⟨t, a4, a5, a6, rfl, ch, hSl, tok, tsz, tdp, tfv⟩ := hI
    have hi := (List.getElem?_eq_some_iff.mp hy).1
    rw [List.length_map] at hi
    rw [List.getElem?_map, Option.map_eq_some_iff] at hy
    obtain ⟨y, hy, rfl⟩ := hy
    have hyN := List.mem_of_getElem? hy
    obtain ⟨ny, yq, yr, ys⟩ := hnm y hyN
    have hnt : ∀ x, x ∈ t.fv [] → x ≠ qq ∧ x ≠ rr ∧ x ≠ ss := fun x hx => (hnm x (List.mem_of_mem_take ((tfv x).mp hx))).2
    have hkeep : S'[q]? = some (.lst (N.map .str)) := by rw [ch.old q hqZ hqk]; exact hits
    refine ⟨by simp only [Src.holds, List.all_cons, List.all_nil, hkeep, decide_true, Bool.and_true], ?_⟩
    have hG : GAt B15 S' k (m + 1 + 3 * i) := ch.seed _ (chZ.seed _ h)
    simp only [NF.start, evSs, evS, evE, evEs, evT, PstS.andThen_, PstS.seq_, Pst.bind_, PstS.if_, Pst.if_, PstS.nx_, PstS.rt_, Pst.ok_, List.map_cons, List.map_nil, List.length_cons, List.length_nil, List.replicate, List.cons_append, List.nil_append, List.getElem?_cons_zero, List.getElem?_cons_succ, setG_nm, setG_tp, new, selArgs, List.set_cons_zero, List.set_cons_succ, evE_lcE, evI, sizeL, Nat.reduceAdd, Nat.reduceLeDiff, Nat.reduceLT, Nat.reduceSub, if_true, if_false, reduceIte, Nat.zero_add, Nat.lt_add_one, Nat.zero_lt_succ, reduceCtorEq, Nat.reducePow, Nat.reduceLeDiff, Nat.zero_le]
    refine (draw15 hp.h11 (n := n) hG (by omega) (by decide) (by decide)).mono ?_
    rintro _ S2 ⟨⟨w, rfl, hw0, hw1⟩, ch2, hl2'⟩
    have chT : GC B15 k (3 * (i + 1 : Nat)) Z S2 := (ch.trans ch2).le (by omega)
    have tk : ∀ x, x ∈ N.take (i + 1) ↔ x ∈ t.fv [] ∨ x = y := fun x => by
      rw [List.take_add_one, hy, List.mem_append, tfv x]
      simp
    have fin : ∀ t' : TM, t'.ok → t'.size ≤ t.size + 10 → t'.dep ≤ t.dep + 4 → (∀ x, x ∈ t'.fv [] ↔ x ∈ t.fv [] ∨ x = y) → ∀ S3, GC B15 k (3 * (i + 1 : Nat)) Z S3 → Z.length ≤ S3.length → ∀ a4 a5 a6,
        ∃ (t : TM) (b4 b5 b6 : Option D), [some (D.ref k), some (D.ref s), some (D.tup (ps.map .str)), some t'.d, a4, a5, a6] = [some (.ref k), some (.ref s), some (.tup (ps.map .str)), some t.d, b4, b5, b6] ∧ GC B15 k (3 * (i + 1 : Nat)) Z S3 ∧ Z.length ≤ S3.length ∧ t.ok ∧ t.size ≤ 1 + 10 * (i + 1) ∧ t.dep ≤ 4 * (i + 1) ∧ ∀ x, x ∈ t.fv [] ↔ x ∈ N.take (i + 1) :=
      fun t' h1 h2 h3 h4 S3 c3 l3 a4 a5 a6 => ⟨t', a4, a5, a6, rfl, c3, l3, h1, by omega, by omega, fun x => by rw [h4, tk]⟩
    have hw : w = 0 ∨ w = 1 ∨ w = 2 ∨ w = 3 ∨ w = 4 ∨ w = 5 := by omega
    rcases hw with rfl | rfl | rfl | rfl | rfl | rfl
    · simp only [NF.start, evSs, evS, evE, evEs, evT, PstS.andThen_, PstS.seq_, Pst.bind_, PstS.if_, Pst.if_, PstS.nx_, PstS.rt_, Pst.ok_, List.map_cons, List.map_nil, List.length_cons, List.length_nil, List.replicate, List.cons_append, List.nil_append, List.getElem?_cons_zero, List.getElem?_cons_succ, setG_nm, setG_tp, new, selArgs, List.set_cons_zero, List.set_cons_succ, evE_lcE, evI, sizeL, Nat.reduceAdd, Nat.reduceLeDiff, Nat.reduceLT, Nat.reduceSub, if_true, if_false, reduceIte, Nat.zero_add, Nat.lt_add_one, Nat.zero_lt_succ, reduceCtorEq, Nat.reducePow, Nat.reduceLeDiff, Nat.zero_le, cmp_eqI, cmp_gtI, Int.reduceBEq, Int.reduceLT, decide_false, Bool.false_eq_true, decide_true]
      refine fin (.app t (.fn qq (.op (S! "+") (.name y) (.name qq)))) ⟨tok, nmq, nplus, ny, nmq⟩ (by simp only [TM.size]; omega) (by simp only [TM.dep]; omega) (fun x => ?_) S2 chT (by omega) _ _ _
      simp [fv_app, fv_fn, fv_op, fv_name, yq]
    · simp only [NF.start, evSs, evS, evE, evEs, evT, PstS.andThen_, PstS.seq_, Pst.bind_, PstS.if_, Pst.if_, PstS.nx_, PstS.rt_, Pst.ok_, List.map_cons, List.map_nil, List.length_cons, List.length_nil, List.replicate, List.cons_append, List.nil_append, List.getElem?_cons_zero, List.getElem?_cons_succ, setG_nm, setG_tp, new, selArgs, List.set_cons_zero, List.set_cons_succ, evE_lcE, evI, sizeL, Nat.reduceAdd, Nat.reduceLeDiff, Nat.reduceLT, Nat.reduceSub, if_true, if_false, reduceIte, Nat.zero_add, Nat.lt_add_one, Nat.zero_lt_succ, reduceCtorEq, Nat.reducePow, Nat.reduceLeDiff, Nat.zero_le, cmp_eqI, cmp_gtI, Int.reduceBEq, Int.reduceLT, decide_false, Bool.false_eq_true, decide_true]
      refine fin (.lt [rr, ss] [.name y, .name rr] (.app (.name ss) t)) ⟨⟨by simp [nmr, nms], rfl, by simp, by simp⟩, ⟨ny, nmr, trivial⟩, nms, tok⟩ (by simp only [TM.size, TM.sizes]; omega) (by simp only [TM.dep, TM.deps]; omega) (fun x => ?_) S2 chT (by omega) _ _ _
      simp only [fv_lt, fv_app, fv_name, List.flatMap_cons, List.flatMap_nil, List.nil_append, List.mem_append, fv_bd t [rr, ss]]
      have hx := hnt x
      simp [yr, ys]
      constructor
      · rintro (h | h)
        · exact .inr h
        · exact .inl h.1
      · rintro (h | h)
        · exact .inr ⟨h, (hx h).2⟩
        · exact .inl h
    · simp only [NF.start, evSs, evS, evE, evEs, evT, PstS.andThen_, PstS.seq_, Pst.bind_, PstS.if_, Pst.if_, PstS.nx_, PstS.rt_, Pst.ok_, List.map_cons, List.map_nil, List.length_cons, List.length_nil, List.replicate, List.cons_append, List.nil_append, List.getElem?_cons_zero, List.getElem?_cons_succ, setG_nm, setG_tp, new, selArgs, List.set_cons_zero, List.set_cons_succ, evE_lcE, evI, sizeL, Nat.reduceAdd, Nat.reduceLeDiff, Nat.reduceLT, Nat.reduceSub, if_true, if_false, reduceIte, Nat.zero_add, Nat.lt_add_one, Nat.zero_lt_succ, reduceCtorEq, Nat.reducePow, Nat.reduceLeDiff, Nat.zero_le, cmp_eqI, cmp_gtI, Int.reduceBEq, Int.reduceLT, decide_false, Bool.false_eq_true, decide_true]
      refine fin (.cs t [((S! "True"), []), ((S! "False"), [])] [.name y, .make (S! "True")]) ⟨⟨by simp [nmT, nmF], rfl, by simp⟩, tok, ny, nmT, trivial⟩ (by simp only [TM.size, TM.sizes]; omega) (by simp only [TM.dep, TM.deps]; omega) (fun x => ?_) S2 chT (by omega) _ _ _
      simp [fv_cs, fv_name, fv_make]
    · simp only [NF.start, evSs, evS, evE, evEs, evT, PstS.andThen_, PstS.seq_, Pst.bind_, PstS.if_, Pst.if_, PstS.nx_, PstS.rt_, Pst.ok_, List.map_cons, List.map_nil, List.length_cons, List.length_nil, List.replicate, List.cons_append, List.nil_append, List.getElem?_cons_zero, List.getElem?_cons_succ, setG_nm, setG_tp, new, selArgs, List.set_cons_zero, List.set_cons_succ, evE_lcE, evI, sizeL, Nat.reduceAdd, Nat.reduceLeDiff, Nat.reduceLT, Nat.reduceSub, if_true, if_false, reduceIte, Nat.zero_add, Nat.lt_add_one, Nat.zero_lt_succ, reduceCtorEq, Nat.reducePow, Nat.reduceLeDiff, Nat.zero_le, cmp_eqI, cmp_gtI, Int.reduceBEq, Int.reduceLT, decide_false, Bool.false_eq_true, decide_true]
      have hG2 : GAt B15 (S2 ++ [SO.lst [D.str (S! "+"), D.str (S! "<")]]) k (m + 1 + 3 * i + 1) := by
        have := (GC.push (B := B15) (k := k) (S := S2) [SO.lst [D.str (S! "+"), D.str (S! "<")]]).seed _ (ch2.seed _ hG)
        simpa using this
      refine (draw15 hp.h11 (n := n) hG2 (by omega) (by decide) (by decide)).mono ?_
      rintro _ S3 ⟨⟨w, rfl, hw0, hw1⟩, ch3, hl3⟩
      have hol : S3[S2.length]? = some (SO.lst [D.str (S! "+"), D.str (S! "<")]) := by
        have := ch3.old S2.length (by simp) (by omega)
        rw [this]; exact last_get _ _
      have hsign : ∃ o : List Nat, o.length ≤ 10 ∧ ixEv (.ref S2.length) (.int w) S3 = .ok (.str o) S3 none := by
        have : w = 0 ∨ w = 1 := by omega
        rcases this with rfl | rfl
        · exact ⟨_, nplus, ix_lst hol (by omega) rfl⟩
        · exact ⟨(S! "<"), by decide +kernel, ix_lst hol (by omega) rfl⟩
      obtain ⟨o, ho, he⟩ := hsign
      simp only [NF.start, evSs, evS, evE, evEs, evT, PstS.andThen_, PstS.seq_, Pst.bind_, PstS.if_, Pst.if_, PstS.nx_, PstS.rt_, Pst.ok_, List.map_cons, List.map_nil, List.length_cons, List.length_nil, List.replicate, List.cons_append, List.nil_append, List.getElem?_cons_zero, List.getElem?_cons_succ, setG_nm, setG_tp, new, selArgs, List.set_cons_zero, List.set_cons_succ, evE_lcE, evI, sizeL, Nat.reduceAdd, Nat.reduceLeDiff, Nat.reduceLT, Nat.reduceSub, if_true, if_false, reduceIte, Nat.zero_add, Nat.lt_add_one, Nat.zero_lt_succ, reduceCtorEq, Nat.reducePow, Nat.reduceLeDiff, Nat.zero_le, he]
      refine fin (.op o (.name y) t) ⟨ho, ny, tok⟩ (by simp only [TM.size]; omega) (by simp only [TM.dep]; omega) (fun x => ?_) S3 ?_ (by simp at hl3; omega) _ _ _
      · simp [fv_op, fv_name, or_comm]
      · exact ((ch.trans ch2).trans ((GC.push [SO.lst [D.str (S! "+"), D.str (S! "<")]]).trans ch3)).le (by omega)
    · simp only [NF.start, evSs, evS, evE, evEs, evT, PstS.andThen_, PstS.seq_, Pst.bind_, PstS.if_, Pst.if_, PstS.nx_, PstS.rt_, Pst.ok_, List.map_cons, List.map_nil, List.length_cons, List.length_nil, List.replicate, List.cons_append, List.nil_append, List.getElem?_cons_zero, List.getElem?_cons_succ, setG_nm, setG_tp, new, selArgs, List.set_cons_zero, List.set_cons_succ, evE_lcE, evI, sizeL, Nat.reduceAdd, Nat.reduceLeDiff, Nat.reduceLT, Nat.reduceSub, if_true, if_false, reduceIte, Nat.zero_add, Nat.lt_add_one, Nat.zero_lt_succ, reduceCtorEq, Nat.reducePow, Nat.reduceLeDiff, Nat.zero_le, cmp_eqI, cmp_gtI, Int.reduceBEq, Int.reduceLT, decide_false, Bool.false_eq_true, decide_true, bin_subI, Int.reduceSub]
      have he : ∀ o, ixEv (.ref S2.length) (.int 0) (S2 ++ [SO.lst [D.tup [D.str (S! "app"), D.tup [D.str (S! "name"), D.str y], t.d], o]]) = .ok (D.tup [D.str (S! "app"), D.tup [D.str (S! "name"), D.str y], t.d]) (S2 ++ [SO.lst [D.tup [D.str (S! "app"), D.tup [D.str (S! "name"), D.str y], t.d], o]]) none := fun o => ix_lst (last_get _ _) (by omega) rfl
      simp only [NF.start, evSs, evS, evE, evEs, evT, PstS.andThen_, PstS.seq_, Pst.bind_, PstS.if_, Pst.if_, PstS.nx_, PstS.rt_, Pst.ok_, List.map_cons, List.map_nil, List.length_cons, List.length_nil, List.replicate, List.cons_append, List.nil_append, List.getElem?_cons_zero, List.getElem?_cons_succ, setG_nm, setG_tp, new, selArgs, List.set_cons_zero, List.set_cons_succ, evE_lcE, evI, sizeL, Nat.reduceAdd, Nat.reduceLeDiff, Nat.reduceLT, Nat.reduceSub, if_true, if_false, reduceIte, Nat.zero_add, Nat.lt_add_one, Nat.zero_lt_succ, reduceCtorEq, Nat.reducePow, Nat.reduceLeDiff, Nat.zero_le, he]
      refine fin (.app (.name y) t) ⟨ny, tok⟩ (by simp only [TM.size]; omega) (by simp only [TM.dep]; omega) (fun x => ?_) _ ?_ (by simp; omega) _ _ _
      · simp [fv_app, fv_name, or_comm]
      · exact ((ch.trans ch2).trans (GC.push _)).le (by omega)
    · simp only [NF.start, evSs, evS, evE, evEs, evT, PstS.andThen_, PstS.seq_, Pst.bind_, PstS.if_, Pst.if_, PstS.nx_, PstS.rt_, Pst.ok_, List.map_cons, List.map_nil, List.length_cons, List.length_nil, List.replicate, List.cons_append, List.nil_append, List.getElem?_cons_zero, List.getElem?_cons_succ, setG_nm, setG_tp, new, selArgs, List.set_cons_zero, List.set_cons_succ, evE_lcE, evI, sizeL, Nat.reduceAdd, Nat.reduceLeDiff, Nat.reduceLT, Nat.reduceSub, if_true, if_false, reduceIte, Nat.zero_add, Nat.lt_add_one, Nat.zero_lt_succ, reduceCtorEq, Nat.reducePow, Nat.reduceLeDiff, Nat.zero_le, cmp_eqI, cmp_gtI, Int.reduceBEq, Int.reduceLT, decide_false, Bool.false_eq_true, decide_true, bin_subI, Int.reduceSub]
      have he : ∀ o, ixEv (.ref S2.length) (.int 1) (S2 ++ [SO.lst [o, D.tup [D.str (S! "app"), t.d, D.tup [D.str (S! "name"), D.str y]]]]) = .ok (D.tup [D.str (S! "app"), t.d, D.tup [D.str (S! "name"), D.str y]]) (S2 ++ [SO.lst [o, D.tup [D.str (S! "app"), t.d, D.tup [D.str (S! "name"), D.str y]]]]) none := fun o => ix_lst (last_get _ _) (by omega) rfl
      simp only [NF.start, evSs, evS, evE, evEs, evT, PstS.andThen_, PstS.seq_, Pst.bind_, PstS.if_, Pst.if_, PstS.nx_, PstS.rt_, Pst.ok_, List.map_cons, List.map_nil, List.length_cons, List.length_nil, List.replicate, List.cons_append, List.nil_append, List.getElem?_cons_zero, List.getElem?_cons_succ, setG_nm, setG_tp, new, selArgs, List.set_cons_zero, List.set_cons_succ, evE_lcE, evI, sizeL, Nat.reduceAdd, Nat.reduceLeDiff, Nat.reduceLT, Nat.reduceSub, if_true, if_false, reduceIte, Nat.zero_add, Nat.lt_add_one, Nat.zero_lt_succ, reduceCtorEq, Nat.reducePow, Nat.reduceLeDiff, Nat.zero_le, he]
      refine fin (.app t (.name y)) ⟨tok, ny⟩ (by simp only [TM.size]; omega) (by simp only [TM.dep]; omega) (fun x => ?_) _ ?_ (by simp; omega) _ _ _
      · simp [fv_app, fv_name]
      · exact ((ch.trans ch2).trans (GC.push _)).le (by omega)
  · obtain ⟨t, a4, a5, a6, rfl, ch, hSl, tok, tsz, tdp, tfv⟩ := hI
    rw [List.length_map] at ch tsz tdp tfv
    rw [List.take_length] at tfv
    have hkeep : S'[q]? = some (.lst (N.map .str)) := by rw [ch.old q hqZ hqk]; exact hits
    refine ⟨by simp only [Src.holds, List.all_cons, List.all_nil, hkeep, decide_true, Bool.and_true], ?_⟩
    simp only [NF.start, evSs, evS, evE, evEs, evT, PstS.andThen_, PstS.seq_, Pst.bind_, PstS.if_, Pst.if_, PstS.nx_, PstS.rt_, Pst.ok_, List.map_cons, List.map_nil, List.length_cons, List.length_nil, List.replicate, List.cons_append, List.nil_append, List.getElem?_cons_zero, List.getElem?_cons_succ, setG_nm, setG_tp, new, selArgs, List.set_cons_zero, List.set_cons_succ, evE_lcE, evI, sizeL, Nat.reduceAdd, Nat.reduceLeDiff, Nat.reduceLT, Nat.reduceSub, if_true, if_false, reduceIte, Nat.zero_add, Nat.lt_add_one, Nat.zero_lt_succ, reduceCtorEq, Nat.reducePow, Nat.reduceLeDiff, Nat.zero_le]
    have c : GC B15 k 20 S S' := (chZ.trans ch).le (by omega)
    exact .inl ⟨by rw [TM.mr]; exact Nat.zero_le _, ⟨t, rfl, tok, by omega, by omega, tfv⟩, c.take, c.takeLen⟩
  · simp only [TM.ok]; omega
end
end K15

/-! NFEsc: good ends where younger names are put into things not older than b. -/
namespace NF
open PySem L2
def PstB {α : Type} (b : Nat) (r : Res α) (Φ : α → Store → Prop) : Prop := match r with
  | .ok a S e => escOk b e = true ∧ Φ a S
  | _ => False
def PstSB (b : Nat) (r : SR) (nx : Envr → Store → Prop) (rt : D → Store → Prop) : Prop := match r with
  | .nx σ S e => escOk b e = true ∧ nx σ S
  | .rt d S e => escOk b e = true ∧ rt d S
  | _ => False
section
variable {α β : Type} {b : Nat}
theorem escOk_min (e e' : Esc) : escOk b (emin e e') = (escOk b e && escOk b e') := by
  cases e <;> cases e' <;> simp [emin, escOk]
  rw [Bool.eq_iff_iff]
  simp
  omega
theorem PstB.ok_ {a : α} {S : Store} {e : Esc} {Φ : α → Store → Prop} : PstB b (.ok a S e) Φ ↔ escOk b e = true ∧ Φ a S := Iff.rfl
theorem esc_none : escOk b none = true := rfl
theorem PstB.mono {r : Res α} {Φ Ψ : α → Store → Prop} (h : PstB b r Φ) (k : ∀ a S, Φ a S → Ψ a S) : PstB b r Ψ := by
  unfold PstB at h ⊢
  split at h
  · exact ⟨h.1, k _ _ h.2⟩
  · exact h.elim
/-- what leaves nothing -/
theorem Pst.toB {r : Res α} {Φ : α → Store → Prop} (h : Pst r Φ) : PstB b r Φ := by
  obtain ⟨a, S, rfl, h⟩ := h.ex
  exact ⟨rfl, h⟩
theorem PstB.note {r : Res α} {e : Esc} {Φ : α → Store → Prop} : PstB b (r.note e) Φ ↔ escOk b e = true ∧ PstB b r Φ := by
  cases r with
  | ok a S e' =>
    show (escOk b (emin e e') = true ∧ Φ a S) ↔ _ ∧ (escOk b e' = true ∧ Φ a S)
    rw [escOk_min, Bool.and_eq_true, and_assoc]
  | exn => cases e <;> exact ⟨fun h => h.elim, fun h => h.2.elim⟩
  | stuck => cases e <;> exact ⟨fun h => h.elim, fun h => h.2.elim⟩
theorem PstSB.note {r : SR} {e : Esc} {nx : Envr → Store → Prop} {rt : D → Store → Prop} : PstSB b (r.note e) nx rt ↔ escOk b e = true ∧ PstSB b r nx rt := by
  cases r with
  | nx σ S e' =>
    show (escOk b (emin e e') = true ∧ nx σ S) ↔ _ ∧ (escOk b e' = true ∧ nx σ S)
    rw [escOk_min, Bool.and_eq_true, and_assoc]
  | rt d S e' =>
    show (escOk b (emin e e') = true ∧ rt d S) ↔ _ ∧ (escOk b e' = true ∧ rt d S)
    rw [escOk_min, Bool.and_eq_true, and_assoc]
  | bk => cases e <;> exact ⟨fun h => h.elim, fun h => h.2.elim⟩
  | ct => cases e <;> exact ⟨fun h => h.elim, fun h => h.2.elim⟩
  | exn => cases e <;> exact ⟨fun h => h.elim, fun h => h.2.elim⟩
  | stuck => cases e <;> exact ⟨fun h => h.elim, fun h => h.2.elim⟩
theorem PstB.bind_ {r : Res α} {f : α → Store → Res β} {Φ : β → Store → Prop} : PstB b (r.bind f) Φ ↔ PstB b r fun a S => PstB b (f a S) Φ := by
  cases r with
  | ok a S e =>
    show PstB b ((f a S).note e) Φ ↔ _
    rw [PstB.note]
    exact Iff.rfl
  | exn => exact Iff.rfl
  | stuck => exact Iff.rfl
theorem PstSB.andThen_ {r : Res α} {σ : Envr} {f : α → Store → SR} {nx : Envr → Store → Prop} {rt : D → Store → Prop} : PstSB b (r.andThen σ f) nx rt ↔ PstB b r fun a S => PstSB b (f a S) nx rt := by
  cases r with
  | ok a S e =>
    show PstSB b ((f a S).note e) nx rt ↔ _
    rw [PstSB.note]
    exact Iff.rfl
  | exn => exact Iff.rfl
  | stuck => exact Iff.rfl
theorem PstSB.seq_ {r : SR} {f : Envr → Store → SR} {nx : Envr → Store → Prop} {rt : D → Store → Prop} : PstSB b (r.seq f) nx rt ↔ PstSB b r (fun σ S => PstSB b (f σ S) nx rt) rt := by
  cases r with
  | nx σ S e =>
    show PstSB b ((f σ S).note e) nx rt ↔ _
    rw [PstSB.note]
    exact Iff.rfl
  | rt d S e => exact Iff.rfl
  | bk σ S e => exact Iff.rfl
  | ct σ S e => exact Iff.rfl
  | exn => exact Iff.rfl
  | stuck => exact Iff.rfl
theorem PstSB.nx_ {σ : Envr} {S : Store} {e : Esc} {nx : Envr → Store → Prop} {rt : D → Store → Prop} : PstSB b (.nx σ S e) nx rt ↔ escOk b e = true ∧ nx σ S := Iff.rfl
theorem PstSB.rt_ {d : D} {S : Store} {e : Esc} {nx : Envr → Store → Prop} {rt : D → Store → Prop} : PstSB b (.rt d S e) nx rt ↔ escOk b e = true ∧ rt d S := Iff.rfl
theorem PstSB.mono {r : SR} {nx nx' : Envr → Store → Prop} {rt rt' : D → Store → Prop} (h : PstSB b r nx rt) (h1 : ∀ σ S, nx σ S → nx' σ S) (h2 : ∀ d S, rt d S → rt' d S) : PstSB b r nx' rt' := by
  unfold PstSB at h ⊢
  split at h
  · exact ⟨h.1, h1 _ _ h.2⟩
  · exact ⟨h.1, h2 _ _ h.2⟩
  · exact h.elim
theorem PstB.if_ {c : Prop} [Decidable c] {a b' : Res α} {Φ : α → Store → Prop} : PstB b (if c then a else b') Φ ↔ if c then PstB b a Φ else PstB b b' Φ := by
  split <;> rfl
theorem PstSB.if_ {c : Prop} [Decidable c] {a b' : SR} {nx : Envr → Store → Prop} {rt : D → Store → Prop} : PstSB b (if c then a else b') nx rt ↔ if c then PstSB b a nx rt else PstSB b b' nx rt := by
  split <;> rfl
theorem packed_esc {n : Nat} {d : D} {S : Store} {e : Esc} (h : escOk n e = true) : packed n d S e = packed n d S none := by
  unfold packed
  rw [h]
  rfl
theorem run_pstB {P : Nat → Option FD} {L n f : Nat} {fd : FD} {args : List D} {S : Store} {Φ : D → Store → Prop} (hf : P f = some fd) (hl : (decide (args.length = fd.np) && decide (fd.np ≤ fd.slots)) = true)
    (h : PstSB S.length (evSs ⟨run P L n, L⟩ fd.body (start fd args) S) (fun _ S' => Φ .non (S'.take S.length)) (fun d S' => ∀ d1 S1, packed S.length d S' none = .ok d1 S1 none → Φ d1 S1)) :
    Pst (run P L (n + 1) f args S) Φ := by
  simp only [Bool.and_eq_true, decide_eq_true_eq] at hl
  unfold run
  rw [hf]
  simp only
  rw [if_pos hl]
  cases hr : evSs ⟨run P L n, L⟩ fd.body (start fd args) S with
  | nx σ S' e =>
    rw [hr] at h
    show Pst (packed S.length .non S' e) Φ
    rw [packed_esc h.1, packed_small S' (Nat.zero_le _)]
    exact h.2
  | rt d S' e =>
    rw [hr] at h
    obtain ⟨d1, S1, e1⟩ := packed_none S.length d S'
    show Pst (packed S.length d S' e) Φ
    rw [packed_esc h.1, e1]; exact h.2 d1 S1 e1
  | bk => rw [hr] at h; exact h.elim
  | ct => rw [hr] at h; exact h.elim
  | exn => rw [hr] at h; exact h.elim
  | stuck => rw [hr] at h; exact h.elim
/-- a turn that is let go by -/
def PstCB (b : Nat) (r : SR) (nx : Envr → Store → Prop) (rt : D → Store → Prop) : Prop := match r with
  | .nx σ S e => escOk b e = true ∧ nx σ S
  | .ct σ S e => escOk b e = true ∧ nx σ S
  | .rt d S e => escOk b e = true ∧ rt d S
  | _ => False
theorem turns_ruleB {f : D → Store → Res (Option D)} {keep : List (Nat × List D)} {items : List D} (I : Nat → List D → Store → Prop)
    (step : ∀ i x acc S, items[i]? = some x → I i acc S → Src.holds S keep = true ∧ PstB b (f x S) (fun r S1 => match r with
      | some v => acc.length < sizeL ∧ I (i + 1) (acc ++ [v]) S1
      | none => I (i + 1) acc S1)) (fin : ∀ acc S, I items.length acc S → Src.holds S keep = true) :
    ∀ (k : Nat) (acc : List D) (S : Store), k ≤ items.length → I k acc S → PstB b (evTurns f keep (items.drop k) acc S) (fun vs S' => I items.length vs S') := by
  intro k
  generalize hm : items.length - k = m
  induction m generalizing k with
  | zero =>
    intro acc S hk hI
    have e : k = items.length := by omega
    subst e
    rw [List.drop_length]
    unfold evTurns
    rw [if_pos (fin acc S hI)]
    exact ⟨rfl, hI⟩
  | succ m ih =>
    intro acc S hk hI
    have hlt : k < items.length := by omega
    rw [List.drop_eq_getElem_cons hlt]
    obtain ⟨h1, h2⟩ := step k items[k] acc S (List.getElem?_eq_getElem hlt) hI
    unfold evTurns
    rw [if_pos h1, PstB.bind_]
    refine h2.mono fun r S1 hr => ?_
    cases r with
    | some v =>
      simp only at hr ⊢
      rw [if_pos hr.1]
      exact ih (k + 1) (by omega) _ _ hlt hr.2
    | none => exact ih (k + 1) (by omega) _ _ hlt hr
theorem turns_allB {f : D → Store → Res (Option D)} {keep : List (Nat × List D)} {items : List D} (I : Nat → List D → Store → Prop)
    (step : ∀ i x acc S, items[i]? = some x → I i acc S → Src.holds S keep = true ∧ PstB b (f x S) (fun r S1 => match r with
      | some v => acc.length < sizeL ∧ I (i + 1) (acc ++ [v]) S1
      | none => I (i + 1) acc S1)) (fin : ∀ acc S, I items.length acc S → Src.holds S keep = true) {S : Store} (h : I 0 [] S) : PstB b (evTurns f keep items [] S) (fun vs S' => I items.length vs S') :=
  turns_ruleB I step fin 0 [] S (Nat.zero_le _) h
theorem for_ruleB {f : D → Envr → Store → SR} {keep : List (Nat × List D)} {items : List D} {nx : Envr → Store → Prop} {rt : D → Store → Prop} (I : Nat → Envr → Store → Prop)
    (step : ∀ i x σ S, items[i]? = some x → I i σ S → Src.holds S keep = true ∧ PstCB b (f x σ S) (fun σ1 S1 => I (i + 1) σ1 S1) rt) (fin : ∀ σ S, I items.length σ S → Src.holds S keep = true ∧ nx σ S) :
    ∀ (k : Nat) (σ : Envr) (S : Store), k ≤ items.length → I k σ S → PstSB b (evFor f keep (items.drop k) σ S) nx rt := by
  intro k
  generalize hm : items.length - k = m
  induction m generalizing k with
  | zero =>
    intro σ S hk hI
    have e : k = items.length := by omega
    subst e
    rw [List.drop_length]
    unfold evFor
    rw [if_pos (fin σ S hI).1]
    exact ⟨rfl, (fin σ S hI).2⟩
  | succ m ih =>
    intro σ S hk hI
    have hlt : k < items.length := by omega
    rw [List.drop_eq_getElem_cons hlt]
    obtain ⟨h1, h2⟩ := step k items[k] σ S (List.getElem?_eq_getElem hlt) hI
    unfold evFor
    rw [if_pos h1]
    cases hr : f items[k] σ S with
    | nx σ1 S1 e =>
      rw [hr] at h2
      simp only [PstSB.note]
      exact ⟨h2.1, ih (k + 1) (by omega) _ _ hlt h2.2⟩
    | rt d S1 e => rw [hr] at h2; exact h2
    | bk σ1 S1 e => rw [hr] at h2; exact h2.elim
    | ct σ1 S1 e =>
      rw [hr] at h2
      simp only [PstSB.note]
      exact ⟨h2.1, ih (k + 1) (by omega) _ _ hlt h2.2⟩
    | exn y σ1 S1 e => rw [hr] at h2; exact h2.elim
    | stuck => rw [hr] at h2; exact h2.elim
theorem PstSB.toC {r : SR} {nx : Envr → Store → Prop} {rt : D → Store → Prop} (h : PstSB b r nx rt) : PstCB b r nx rt := by
  cases r with
  | nx => exact h
  | rt => exact h
  | bk => exact h.elim
  | ct => exact h.elim
  | exn => exact h.elim
  | stuck => exact h.elim
theorem for_allB {f : D → Envr → Store → SR} {keep : List (Nat × List D)} {items : List D} {nx : Envr → Store → Prop} {rt : D → Store → Prop} (I : Nat → Envr → Store → Prop)
    (step : ∀ i x σ S, items[i]? = some x → I i σ S → Src.holds S keep = true ∧ PstSB b (f x σ S) (fun σ1 S1 => I (i + 1) σ1 S1) rt) (fin : ∀ σ S, I items.length σ S → Src.holds S keep = true ∧ nx σ S) {σ : Envr} {S : Store} (h : I 0 σ S) : PstSB b (evFor f keep items σ S) nx rt :=
  for_ruleB I (fun i x σ S h1 h2 => ⟨(step i x σ S h1 h2).1, (step i x σ S h1 h2).2.toC⟩) fin 0 σ S (Nat.zero_le _) h
theorem while_ruleB {c : Envr → Store → Res Bool} {f : Envr → Store → SR} {nx : Envr → Store → Prop} {rt : D → Store → Prop} (I : Nat → Envr → Store → Prop)
    (step : ∀ m σ S, I m σ S → PstB b (c σ S) (fun t S1 => if t = true then PstSB b (f σ S1) (fun σ1 S2 => ∃ m', m' < m ∧ I m' σ1 S2) rt else nx σ S1)) :
    ∀ (n m : Nat) (σ : Envr) (S : Store), m < n → I m σ S → PstSB b (evWhile c f n σ S) nx rt
  | 0, m, _, _, h, _ => absurd h (Nat.not_lt_zero _)
  | n + 1, m, σ, S, hm, hI => by
    unfold evWhile
    rw [PstSB.andThen_]
    refine (step m σ S hI).mono fun t S1 h => ?_
    by_cases ht : t = true
    · rw [if_pos ht] at h
      rw [if_pos ht]
      cases hr : f σ S1 with
      | nx σ1 S2 e =>
        rw [hr] at h
        obtain ⟨he, m', hm', hI'⟩ := h
        simp only [PstSB.note]
        exact ⟨he, while_ruleB I step n m' σ1 S2 (by omega) hI'⟩
      | rt d S2 e => rw [hr] at h; exact h
      | bk σ1 S2 e => rw [hr] at h; exact h.elim
      | ct σ1 S2 e => rw [hr] at h; exact h.elim
      | exn y σ1 S2 e => rw [hr] at h; exact h.elim
      | stuck => rw [hr] at h; exact h.elim
    · rw [if_neg ht] at h
      rw [if_neg ht]
      exact ⟨rfl, h⟩
end
theorem escOk_ite {c : Prop} [Decidable c] {b n : Nat} (h : b ≤ n) : escOk b (if c then none else some n) = true := by
  split <;> simp [escOk, h]
end NF

namespace K15
open PySem L2 NF
theorem ins_lst {S : Store} {k : Nat} {xs : List D} {i : Int} {v : D} (h : S[k]? = some (.lst xs)) (h0 : 0 ≤ i) (h1 : i < 1000) (hl : xs.length < 1000) (hv : v.mr = 0) : meEv .list .insert (.ref k) [.int i, v] S = .ok .non (S.set k (.lst (xs.take i.toNat ++ [v] ++ xs.drop i.toNat))) none := by
  simp only [meEv, lstW, h]
  rw [if_pos ⟨h0, by omega, by unfold sizeL; omega⟩]
  simp only [NF.put, hv, Nat.zero_le, if_true]
theorem app_lst {S : Store} {k : Nat} {xs : List D} {v : D} (h : S[k]? = some (.lst xs)) (hl : xs.length < 1000) (hv : v.mr = 0) : meEv .list .append (.ref k) [v] S = .ok .non (S.set k (.lst (xs ++ [v]))) none := by
  simp only [meEv, lstW, h]
  rw [if_pos (by unfold sizeL; omega)]
  simp only [NF.put, hv, Nat.zero_le, if_true]
theorem dat_snoc {S : Store} {kvs : List (D × D)} {names : List (List Nat)} {Q : List Nat → Nat → SO → Prop} (h : DAt S kvs names Q) {x : List Nat} {r : Nat} {o : SO} (hx : x ∉ names) (hr : S[r]? = some o) (hQ : Q x r o) : dput (.str x) (.ref r) kvs = kvs ++ [(.str x, .ref r)] ∧ DAt S (kvs ++ [(.str x, .ref r)]) (names ++ [x]) Q := by
  have hnk : ∀ p ∈ kvs, p.1 ≠ D.str x := fun p hp e => by
    have : D.str x ∈ kvs.map (·.1) := e ▸ List.mem_map_of_mem hp
    rw [h.keys, List.mem_map] at this
    obtain ⟨z, hz, e⟩ := this
    cases e
    exact hx hz
  refine ⟨dput_new hnk, by simp [h.keys], fun z hz => ?_⟩
  rcases List.mem_append.mp hz with hz | hz
  · obtain ⟨r, o', h1, h2, h3⟩ := h.get z hz
    exact ⟨r, o', by rw [dget_append, h1]; rfl, h2, h3⟩
  · have : z = x := by simpa using hz
    subst this
    exact ⟨r, o, by rw [dget_append, dget_none hnk]; simp [dget], hr, hQ⟩
def lets : List Nat := [97, 98, 101, 102, 103, 104, 106, 107, 109]
theorem lets_eq : (S! "abefghjkm") = lets := by decide +kernel
theorem nop_eq : (S! "nop") = [110, 111, 112] := by decide +kernel
/-- a name that begins with one of the first i letters -/
def Wf (i : Nat) (x : List Nat) : Prop := Nm x ∧ ∃ j c, j < i ∧ lets[j]? = some c ∧ x.head? = some c
theorem Wf.up {i j : Nat} {x : List Nat} (h : Wf i x) (l : i ≤ j) : Wf j x := by
  obtain ⟨h1, a, c, h2, h3⟩ := h
  exact ⟨h1, a, c, by omega, h3⟩
theorem Wf.ne {i : Nat} {x : List Nat} (h : Wf i x) {c : Nat} (hc : c ∉ lets) : x ≠ [c] := by
  rintro rfl
  obtain ⟨h1, a, d, h2, h3, h4⟩ := h
  have : c = d := by simpa using h4
  exact hc (this ▸ List.mem_of_getElem? h3)
theorem wf_new {i t : Nat} (hi : i < 9) (ht : t ≤ 3) : ∃ c, lets[i]? = some c ∧ Wf (i + 1) (c :: [110, 111, 112].take t) ∧ ∀ x, Wf i x → x ≠ c :: [110, 111, 112].take t := by
  have hl : i < lets.length := hi
  refine ⟨lets[i], List.getElem?_eq_getElem hl, ⟨?_, i, lets[i], by omega, List.getElem?_eq_getElem hl, rfl⟩, ?_⟩
  · have key : ∀ i, i < 9 → ∀ t, t < 4 → Nm ((lets.getD i 0) :: [110, 111, 112].take t) := by decide +kernel
    have := key i hi t (by omega)
    rw [List.getD_eq_getElem?_getD, List.getElem?_eq_getElem hl] at this
    exact this
  · rintro x ⟨h1, a, d, h2, h3, h4⟩ rfl
    have e : lets[i] = d := by simpa using h4
    have key : ∀ i, i < 9 → ∀ j, j < 9 → lets[i]? = lets[j]? → i = j := by decide +kernel
    have := key i hi a (by omega) (by rw [h3, List.getElem?_eq_getElem hl, e])
    omega
structure Row (L : List (List Nat)) (p : List (List Nat)) (t : TM) (s : List (List Nat)) : Prop where
  ok : t.ok
  sz : t.size ≤ 100
  dp : t.dep ≤ 50
  fv : ∀ x, x ∈ t.fv [] ↔ x ∈ s ++ p
  sub : ∀ x ∈ s, x ∈ L
  out : ∀ x ∈ p, x ∉ L
section
variable {P : Nat → Option FD} {L : Nat} (hp : HP P)
include hp
theorem program_spec {n : Nat} {S : Store} {k : Nat} {m : Int} (h : GAt B15 S k m) (hm : m + 1000 < 2 ^ 35) :
    Pst (NF.run P L (n + 3) 13 [.ref k] S) (fun d S' => ∃ (g : PG) (sm : Nat → List (List Nat)) (q : Nat) (kvs : List (D × D)), d = .tup [.tup [.tup [], .tup g.rows], .ref q] ∧ g.Ok ∧ (∀ i, i < g.n → Row g.names (g.ps i) (g.bd i) (sm i)) ∧
      S'[q]? = some (.dict kvs) ∧ DAt S' kvs g.names (fun x r o => S.length ≤ r ∧ ∃ i, i < g.n ∧ x = g.nm i ∧ o = .lst ((sm i).map .str)) ∧ S.length ≤ q ∧ GC B15 k 1000 S S') := by
  have hk := h.lt
  refine run_pstB hp.h13 rfl ?_
  simp only [NF.start, evSs, evS, evE, evEs, evT, PstSB.andThen_, PstSB.seq_, PstB.bind_, PstSB.if_, PstB.if_, PstSB.nx_, PstSB.rt_, PstB.ok_, List.map_cons, List.map_nil, List.length_cons, List.length_nil, List.replicate, List.cons_append, List.nil_append, List.getElem?_cons_zero, List.getElem?_cons_succ, setG_nm, setG_tp, new, selArgs, List.set_cons_zero, List.set_cons_succ, evE_lcE, evI, sizeL, Nat.reduceAdd, Nat.reduceLeDiff, Nat.reduceLT, Nat.reduceSub, if_true, if_false, reduceIte, Nat.zero_add, Nat.lt_add_one, Nat.zero_lt_succ, reduceCtorEq, Nat.reducePow, Nat.reduceLeDiff, Nat.zero_le, esc_none, true_and, c13]
  refine (draw15 hp.h11 (n := n + 1) h (by omega) (by decide) (by decide)).toB.mono ?_
  rintro _ S1 ⟨⟨v0, rfl, hv0, hv1⟩, ch1, hl1⟩
  simp only [NF.start, evSs, evS, evE, evEs, evT, PstSB.andThen_, PstSB.seq_, PstB.bind_, PstSB.if_, PstB.if_, PstSB.nx_, PstSB.rt_, PstB.ok_, List.map_cons, List.map_nil, List.length_cons, List.length_nil, List.replicate, List.cons_append, List.nil_append, List.getElem?_cons_zero, List.getElem?_cons_succ, setG_nm, setG_tp, new, selArgs, List.set_cons_zero, List.set_cons_succ, evE_lcE, evI, sizeL, Nat.reduceAdd, Nat.reduceLeDiff, Nat.reduceLT, Nat.reduceSub, if_true, if_false, reduceIte, Nat.zero_add, Nat.lt_add_one, Nat.zero_lt_succ, reduceCtorEq, Nat.reducePow, Nat.reduceLeDiff, Nat.zero_le, esc_none, true_and, bin_addI]
  obtain ⟨M, hM⟩ : ∃ M : Nat, 1 + v0 = (M : Int) := ⟨(1 + v0).toNat, by omega⟩
  rw [hM]
  rw [if_pos (show -(2 : Int) ^ 62 ≤ (M : Int) ∧ (M : Int) < 2 ^ 62 by omega)]
  try simp only [NF.start, evSs, evS, evE, evEs, evT, PstSB.andThen_, PstSB.seq_, PstB.bind_, PstSB.if_, PstB.if_, PstSB.nx_, PstSB.rt_, PstB.ok_, List.map_cons, List.map_nil, List.length_cons, List.length_nil, List.replicate, List.cons_append, List.nil_append, List.getElem?_cons_zero, List.getElem?_cons_succ, setG_nm, setG_tp, new, selArgs, List.set_cons_zero, List.set_cons_succ, evE_lcE, evI, sizeL, Nat.reduceAdd, Nat.reduceLeDiff, Nat.reduceLT, Nat.reduceSub, if_true, if_false, reduceIte, Nat.zero_add, Nat.lt_add_one, Nat.zero_lt_succ, reduceCtorEq, Nat.reducePow, Nat.reduceLeDiff, Nat.zero_le, esc_none, true_and]
  have hrl : (rangeD 0 (M : Int).toNat).length = M := by simp [rangeD]
  refine for_allB (fun i σ S' => ∃ (a3 : Option D) (N : List (List Nat)), σ = [some (.ref k), some (.int M), some (.ref S.length), a3, none, none, none, none, none, none, none, none] ∧ GC B15 k (1 + 2 * i) S S' ∧ S'.length = S.length + 1 ∧ S'[S.length]? = some (.lst (N.map .str)) ∧ N.length = i ∧ N.Nodup ∧ ∀ x ∈ N, Wf i x) (fun i x σ S' hx hI => ?_) (fun σ S' hI => ?_) ?_
  · obtain ⟨a3, N, rfl, ch, hSl, hN, hNl, nd, hwf⟩ := hI
    have hi := (List.getElem?_eq_some_iff.mp hx).1
    rw [hrl] at hi
    have hx : x = .int i := by
      unfold rangeD at hx
      rw [List.getElem?_map, Option.map_eq_some_iff] at hx
      obtain ⟨j, hj, rfl⟩ := hx
      rw [List.getElem?_range (by omega)] at hj
      cases hj; simp
    subst hx
    refine ⟨rfl, ?_⟩
    have hlen := len_ref hN
    simp only [NF.start, evSs, evS, evE, evEs, evT, PstSB.andThen_, PstSB.seq_, PstB.bind_, PstSB.if_, PstB.if_, PstSB.nx_, PstSB.rt_, PstB.ok_, List.map_cons, List.map_nil, List.length_cons, List.length_nil, List.replicate, List.cons_append, List.nil_append, List.getElem?_cons_zero, List.getElem?_cons_succ, setG_nm, setG_tp, new, selArgs, List.set_cons_zero, List.set_cons_succ, evE_lcE, evI, sizeL, Nat.reduceAdd, Nat.reduceLeDiff, Nat.reduceLT, Nat.reduceSub, if_true, if_false, reduceIte, Nat.zero_add, Nat.lt_add_one, Nat.zero_lt_succ, reduceCtorEq, Nat.reducePow, Nat.reduceLeDiff, Nat.zero_le, esc_none, true_and, meT, hN, meId, Option.isSome_some, hlen, bin_addI]
    have hG := ch.seed _ h
    refine (draw15 hp.h11 (n := n + 1) hG (by omega) (by omega) (by rw [List.length_map]; omega)).toB.mono ?_
    rintro _ S2 ⟨⟨w, rfl, hw0, hw1⟩, ch2, hl2⟩
    have hix : ixEv (.str (S! "abefghjkm")) (.int i) S2 = .ok (.str [lets[i]'(by have : lets.length = 9 := rfl; omega)]) S2 none := by
      rw [lets_eq]
      exact ix_str (by decide) (by omega) (by rw [Int.toNat_natCast]; exact List.getElem?_eq_getElem _)
    simp only [NF.start, evSs, evS, evE, evEs, evT, PstSB.andThen_, PstSB.seq_, PstB.bind_, PstSB.if_, PstB.if_, PstSB.nx_, PstSB.rt_, PstB.ok_, List.map_cons, List.map_nil, List.length_cons, List.length_nil, List.replicate, List.cons_append, List.nil_append, List.getElem?_cons_zero, List.getElem?_cons_succ, setG_nm, setG_tp, new, selArgs, List.set_cons_zero, List.set_cons_succ, evE_lcE, evI, sizeL, Nat.reduceAdd, Nat.reduceLeDiff, Nat.reduceLT, Nat.reduceSub, if_true, if_false, reduceIte, Nat.zero_add, Nat.lt_add_one, Nat.zero_lt_succ, reduceCtorEq, Nat.reducePow, Nat.reduceLeDiff, Nat.zero_le, esc_none, true_and, hix, evO]
    refine (draw15 hp.h11 (n := n + 1) (ch2.seed _ hG) (by omega) (by decide) (by decide)).toB.mono ?_
    rintro _ S3 ⟨⟨u, rfl, hu0, hu1⟩, ch3, hl3⟩
    obtain ⟨t, rfl⟩ : ∃ t : Nat, u = (t : Int) := ⟨u.toNat, by omega⟩
    have hsl : sliceEv (.str (S! "nop")) none (some (t : Int)) S3 = .ok (.str ([110, 111, 112].take t)) S3 none := by
      rw [nop_eq, slice_str (by decide), cutTo]
    obtain ⟨c, hc, hwn, hne⟩ := wf_new (i := i) (t := t) (by omega) (by omega)
    have hc' : lets[i]'(by have : lets.length = 9 := rfl; omega) = c := by
      rw [List.getElem?_eq_getElem (by have : lets.length = 9 := rfl; omega)] at hc
      exact Option.some.inj hc
    rw [hc']
    simp only [NF.start, evSs, evS, evE, evEs, evT, PstSB.andThen_, PstSB.seq_, PstB.bind_, PstSB.if_, PstB.if_, PstSB.nx_, PstSB.rt_, PstB.ok_, List.map_cons, List.map_nil, List.length_cons, List.length_nil, List.replicate, List.cons_append, List.nil_append, List.getElem?_cons_zero, List.getElem?_cons_succ, setG_nm, setG_tp, new, selArgs, List.set_cons_zero, List.set_cons_succ, evE_lcE, evI, sizeL, Nat.reduceAdd, Nat.reduceLeDiff, Nat.reduceLT, Nat.reduceSub, if_true, if_false, reduceIte, Nat.zero_add, Nat.lt_add_one, Nat.zero_lt_succ, reduceCtorEq, Nat.reducePow, Nat.reduceLeDiff, Nat.zero_le, esc_none, true_and, hsl]
    rw [bin_addS _ (by simp; unfold sizeL; omega)]
    have hN3 : S3[S.length]? = some (.lst (N.map .str)) := by
      rw [ch3.old _ (by omega) (by omega), ch2.old _ (by omega) (by omega)]; exact hN
    try simp only [NF.start, evSs, evS, evE, evEs, evT, PstSB.andThen_, PstSB.seq_, PstB.bind_, PstSB.if_, PstB.if_, PstSB.nx_, PstSB.rt_, PstB.ok_, List.map_cons, List.map_nil, List.length_cons, List.length_nil, List.replicate, List.cons_append, List.nil_append, List.getElem?_cons_zero, List.getElem?_cons_succ, setG_nm, setG_tp, new, selArgs, List.set_cons_zero, List.set_cons_succ, evE_lcE, evI, sizeL, Nat.reduceAdd, Nat.reduceLeDiff, Nat.reduceLT, Nat.reduceSub, if_true, if_false, reduceIte, Nat.zero_add, Nat.lt_add_one, Nat.zero_lt_succ, reduceCtorEq, Nat.reducePow, Nat.reduceLeDiff, Nat.zero_le, esc_none, true_and]
    rw [ins_lst hN3 hw0 (by rw [List.length_map] at hw1; omega) (by rw [List.length_map]; omega) rfl]
    try simp only [NF.start, evSs, evS, evE, evEs, evT, PstSB.andThen_, PstSB.seq_, PstB.bind_, PstSB.if_, PstB.if_, PstSB.nx_, PstSB.rt_, PstB.ok_, List.map_cons, List.map_nil, List.length_cons, List.length_nil, List.replicate, List.cons_append, List.nil_append, List.getElem?_cons_zero, List.getElem?_cons_succ, setG_nm, setG_tp, new, selArgs, List.set_cons_zero, List.set_cons_succ, evE_lcE, evI, sizeL, Nat.reduceAdd, Nat.reduceLeDiff, Nat.reduceLT, Nat.reduceSub, if_true, if_false, reduceIte, Nat.zero_add, Nat.lt_add_one, Nat.zero_lt_succ, reduceCtorEq, Nat.reducePow, Nat.reduceLeDiff, Nat.zero_le, esc_none, true_and]
    have hS3l : S3.length = S.length + 1 := by omega
    refine ⟨_, N.take w.toNat ++ [c :: [110, 111, 112].take t] ++ N.drop w.toNat, rfl, ((ch.trans ch2).trans ch3).set (Nat.le_refl _) _ hk |>.le (by omega), by simp [hS3l], ?_, ?_, ?_, fun x hx => ?_⟩
    · rw [List.getElem?_set_self (by omega)]
      simp [List.map_take, List.map_drop]
    · simp
      rw [List.length_map] at hw1
      omega
    · have hnx : (c :: [110, 111, 112].take t) ∉ N := fun hm => hne _ (hwf _ hm) rfl
      have : (N.take w.toNat ++ [c :: [110, 111, 112].take t] ++ N.drop w.toNat).Perm ((c :: [110, 111, 112].take t) :: N) := by
        rw [List.append_assoc]
        refine (List.perm_middle).trans ?_
        show List.Perm (_ :: (List.take w.toNat N ++ List.drop w.toNat N)) _
        rw [List.take_append_drop]
      rw [this.nodup_iff, List.nodup_cons]
      exact ⟨hnx, nd⟩
    · rcases List.mem_append.mp hx with hx | hx
      · rcases List.mem_append.mp hx with hx | hx
        · exact (hwf x (List.mem_of_mem_take hx)).up (by omega)
        · have : x = c :: [110, 111, 112].take t := by simpa using hx
          exact this ▸ hwn
      · exact (hwf x (List.mem_of_mem_drop hx)).up (by omega)
  · obtain ⟨a3, N, rfl, ch, hSl, hN, hNl, nd, hwf⟩ := hI
    refine ⟨rfl, ?_⟩
    rw [hrl] at ch hNl hwf
    simp only [NF.start, evSs, evS, evE, evEs, evT, PstSB.andThen_, PstSB.seq_, PstB.bind_, PstSB.if_, PstB.if_, PstSB.nx_, PstSB.rt_, PstB.ok_, List.map_cons, List.map_nil, List.length_cons, List.length_nil, List.replicate, List.cons_append, List.nil_append, List.getElem?_cons_zero, List.getElem?_cons_succ, setG_nm, setG_tp, new, selArgs, List.set_cons_zero, List.set_cons_succ, evE_lcE, evI, sizeL, Nat.reduceAdd, Nat.reduceLeDiff, Nat.reduceLT, Nat.reduceSub, if_true, if_false, reduceIte, Nat.zero_add, Nat.lt_add_one, Nat.zero_lt_succ, reduceCtorEq, Nat.reducePow, Nat.reduceLeDiff, Nat.zero_le, esc_none, true_and, disp_nil]
    have l1 : (S' ++ [SO.lst []]).length = S.length + 2 := by simp [hSl]
    have hG : GAt B15 (S' ++ [SO.lst []] ++ [SO.dict []]) k (m + 20) := ((ch.trans (GC.push [SO.lst []])).trans (GC.push [SO.dict []])).seed _ h |>.le (by omega)
    refine (draw15 hp.h11 (n := n + 1) hG (by omega) (by decide) (by decide)).toB.mono ?_
    rintro _ S2 ⟨⟨near, rfl, hn0, hn1⟩, ch2, hl2⟩
    have hS2l : S2.length = S.length + 3 := by rw [hl2]; simp [hSl]
    have hN2 : S2[S.length]? = some (.lst (N.map .str)) := by
      rw [ch2.old _ (by simp; omega) (by omega), List.getElem?_append_left (by simp; omega), List.getElem?_append_left (by omega)]; exact hN
    have hd2 : S2[S.length + 1]? = some (.lst []) := by
      rw [ch2.old _ (by simp; omega) (by omega), List.getElem?_append_left (by simp; omega), ← hSl]; exact last_get _ _
    have hm2 : S2[S.length + 2]? = some (.dict []) := by
      rw [ch2.old _ (by simp; omega) (by omega), ← l1]; exact last_get _ _
    have ch02 : GC B15 k 20 S S2 := (((ch.trans (GC.push [SO.lst []])).trans (GC.push [SO.dict []])).trans ch2).le (by omega)
    have hsq : (D.ref S.length).lst? S2 = some (N.map .str) := by simp [D.lst?, hN2]
    simp only [NF.start, evSs, evS, evE, evEs, evT, PstSB.andThen_, PstSB.seq_, PstB.bind_, PstSB.if_, PstB.if_, PstSB.nx_, PstSB.rt_, PstB.ok_, List.map_cons, List.map_nil, List.length_cons, List.length_nil, List.replicate, List.cons_append, List.nil_append, List.getElem?_cons_zero, List.getElem?_cons_succ, setG_nm, setG_tp, new, selArgs, List.set_cons_zero, List.set_cons_succ, evE_lcE, evI, sizeL, Nat.reduceAdd, Nat.reduceLeDiff, Nat.reduceLT, Nat.reduceSub, if_true, if_false, reduceIte, Nat.zero_add, Nat.lt_add_one, Nat.zero_lt_succ, reduceCtorEq, Nat.reducePow, Nat.reduceLeDiff, Nat.zero_le, esc_none, true_and, l1, hSl, hsq]
    have hfree : ∀ c, c ∉ lets → ∀ x ∈ N, x ≠ [c] := fun c hc x hx => (hwf x hx).ne hc
    have hM9 : M ≤ 9 := by omega
    refine for_allB (fun i σ S' => ∃ (a3 a7 a8 a9 a10 a11 : Option D) (ps : Nat → List (List Nat)) (bd : Nat → TM) (sm : Nat → List (List Nat)) (kvs : List (D × D)), σ = [some (.ref k), some (.int M), some (.ref S.length), a3, some (.ref (S.length + 1)), some (.ref (S.length + 2)), some (.int near), a7, a8, a9, a10, a11] ∧
      GC B15 k (20 + 60 * i) S S' ∧ S.length + 3 ≤ S'.length ∧ S'[S.length]? = some (.lst (N.map .str)) ∧ S'[S.length + 1]? = some (.lst ((List.range i).map fun j => D.tup [.str (N.getD j []), .tup ((ps j).map .str), (bd j).d])) ∧ S'[S.length + 2]? = some (.dict kvs) ∧
      DAt S' kvs (N.take i) (fun x r o => S.length + 3 ≤ r ∧ ∃ j, j < i ∧ x = N.getD j [] ∧ o = .lst ((sm j).map .str)) ∧ ∀ j, j < i → Row N (ps j) (bd j) (sm j)) (fun i x σ S' hx hI => ?_) (fun σ S' hI => ?_)
      ⟨_, none, none, none, none, none, fun _ => [], fun _ => .num 0, fun _ => [], [], rfl, ch02.le (by omega), by omega, hN2, hd2, hm2, ⟨rfl, fun x hx => by simp at hx⟩, fun j hj => absurd hj (Nat.not_lt_zero _)⟩
    · obtain ⟨b3, a7, a8, a9, a10, a11, ps, bd, sm, kvs, rfl, chi, hlen3, hNi, hdi, hmi, hDi, hrow⟩ := hI
      have hi := (List.getElem?_eq_some_iff.mp hx).1
      have hi : i < M := by
        have : ∀ (xs : List D) a, (enumD a xs).length = xs.length := by
          intro xs
          induction xs with
          | nil => intro a; rfl
          | cons x xs ih => intro a; simp [enumD, ih]
        rw [this, List.length_map] at hi
        omega
      obtain ⟨nm, hnm⟩ : ∃ nm, N[i]? = some nm := ⟨_, List.getElem?_eq_getElem (by omega)⟩
      have hx : x = .tup [.int i, .str nm] := by
        have : ∀ (xs : List D) (a j : Nat) (y : D), xs[j]? = some y → (enumD a xs)[j]? = some (.tup [.int ((a + j : Nat) : Int), y]) := by
          intro xs
          induction xs with
          | nil => intro a j y h; simp at h
          | cons z xs ih =>
            intro a j y h
            cases j with
            | zero => simp at h; simp [enumD, h]
            | succ j =>
              simp only [List.getElem?_cons_succ] at h
              simp only [enumD, List.getElem?_cons_succ]
              rw [ih (a + 1) j y h]
              have e : a + 1 + j = a + (j + 1) := by omega
              rw [e]
        rw [this (N.map .str) 0 i (.str nm) (by rw [List.getElem?_map, hnm]; rfl)] at hx
        simpa using (Option.some.inj hx).symm
      subst hx
      have hnmN := List.mem_of_getElem? hnm
      have hnmD : N.getD i [] = nm := by rw [List.getD_eq_getElem?_getD, hnm]; rfl
      refine ⟨by simp only [Src.holds, List.all_cons, List.all_nil, hNi, decide_true, Bool.and_true], ?_⟩
      simp only [NF.start, evSs, evS, evE, evEs, evT, PstSB.andThen_, PstSB.seq_, PstB.bind_, PstSB.if_, PstB.if_, PstSB.nx_, PstSB.rt_, PstB.ok_, List.map_cons, List.map_nil, List.length_cons, List.length_nil, List.replicate, List.cons_append, List.nil_append, List.getElem?_cons_zero, List.getElem?_cons_succ, setG_nm, setG_tp, new, selArgs, List.set_cons_zero, List.set_cons_succ, evE_lcE, evI, sizeL, Nat.reduceAdd, Nat.reduceLeDiff, Nat.reduceLT, Nat.reduceSub, if_true, if_false, reduceIte, Nat.zero_add, Nat.lt_add_one, Nat.zero_lt_succ, reduceCtorEq, Nat.reducePow, Nat.reduceLeDiff, Nat.zero_le, esc_none, true_and, setGs]
      have hGi : GAt B15 (S' ++ [SO.lst []]) k (m + 20 + 60 * i) := (chi.trans (GC.push [SO.lst []])).seed _ h |>.le (by omega)
      refine (draw15 hp.h11 (n := n + 1) hGi (by omega) (by decide) (by decide)).toB.mono ?_
      rintro _ S3 ⟨⟨u, rfl, hu0, hu1⟩, ch3, hl3⟩
      try simp only [NF.start, evSs, evS, evE, evEs, evT, PstSB.andThen_, PstSB.seq_, PstB.bind_, PstSB.if_, PstB.if_, PstSB.nx_, PstSB.rt_, PstB.ok_, List.map_cons, List.map_nil, List.length_cons, List.length_nil, List.replicate, List.cons_append, List.nil_append, List.getElem?_cons_zero, List.getElem?_cons_succ, setG_nm, setG_tp, new, selArgs, List.set_cons_zero, List.set_cons_succ, evE_lcE, evI, sizeL, Nat.reduceAdd, Nat.reduceLeDiff, Nat.reduceLT, Nat.reduceSub, if_true, if_false, reduceIte, Nat.zero_add, Nat.lt_add_one, Nat.zero_lt_succ, reduceCtorEq, Nat.reducePow, Nat.reduceLeDiff, Nat.zero_le, esc_none, true_and]
      rw [if_pos (show -(2 : Int) ^ 62 ≤ u ∧ u < 2 ^ 62 by omega)]
      try simp only [NF.start, evSs, evS, evE, evEs, evT, PstSB.andThen_, PstSB.seq_, PstB.bind_, PstSB.if_, PstB.if_, PstSB.nx_, PstSB.rt_, PstB.ok_, List.map_cons, List.map_nil, List.length_cons, List.length_nil, List.replicate, List.cons_append, List.nil_append, List.getElem?_cons_zero, List.getElem?_cons_succ, setG_nm, setG_tp, new, selArgs, List.set_cons_zero, List.set_cons_succ, evE_lcE, evI, sizeL, Nat.reduceAdd, Nat.reduceLeDiff, Nat.reduceLT, Nat.reduceSub, if_true, if_false, reduceIte, Nat.zero_add, Nat.lt_add_one, Nat.zero_lt_succ, reduceCtorEq, Nat.reducePow, Nat.reduceLeDiff, Nat.zero_le, esc_none, true_and]
      have hru : (rangeD 0 u.toNat).length = u.toNat := by simp [rangeD]
      have hkS' : k < S'.length := by omega
      refine PstSB.mono (rt := fun _ _ => False) (nx := fun σ S4 => ∃ (a9 a11 : Option D) (s : List (List Nat)), σ = [some (.ref k), some (.int M), some (.ref S.length), some (.int i), some (.ref (S.length + 1)), some (.ref (S.length + 2)), some (.int near), some (.str nm), some (.ref S'.length), a9, a10, a11] ∧ GC B15 k 20 S' S4 ∧ S4.length = S'.length + 1 ∧ S4[S'.length]? = some (.lst (s.map .str)) ∧ s.length ≤ 3 ∧ ∀ x ∈ s, x ∈ N)
        (for_allB (fun t σ S4 => ∃ (a9 a11 : Option D) (s : List (List Nat)), σ = [some (.ref k), some (.int M), some (.ref S.length), some (.int i), some (.ref (S.length + 1)), some (.ref (S.length + 2)), some (.int near), some (.str nm), some (.ref S'.length), a9, a10, a11] ∧ GC B15 k (1 + 3 * t) S' S4 ∧ S4.length = S'.length + 1 ∧ S4[S'.length]? = some (.lst (s.map .str)) ∧ s.length ≤ t ∧ ∀ x ∈ s, x ∈ N) (fun t x σ S4 hx hI => ?_) (fun σ S4 hI => ?_) ?_) ?_ (fun _ _ h => h.elim)
      · obtain ⟨a9, a11, s, rfl, ch4, hl4, hs4, hst, hsN⟩ := hI
        have ht := (List.getElem?_eq_some_iff.mp hx).1
        rw [hru] at ht
        refine ⟨rfl, ?_⟩
        have hG4 : GAt B15 S4 k (m + 20 + 60 * i + 1 + 3 * t) := ch4.seed _ (chi.seed _ h) |>.le (by omega)
        have hix : ∀ (S5 : Store) (v : Int), S5[S.length]? = some (.lst (N.map .str)) → 0 ≤ v → v < M → ∃ y, y ∈ N ∧ ixEv (.ref S.length) (.int v) S5 = .ok (.str y) S5 none := fun S5 v h5 h0 h1 => by
          refine ⟨N[v.toNat]'(by omega), List.getElem_mem _, ix_lst h5 h0 ?_⟩
          rw [List.getElem?_map, List.getElem?_eq_getElem (by omega)]; rfl
        have oldN : ∀ S5 t', GC B15 k t' S' S5 → S5[S.length]? = some (.lst (N.map .str)) := fun S5 t' c => by rw [c.old _ (by omega) (by omega)]; exact hNi
        try simp only [NF.start, evSs, evS, evE, evEs, evT, PstSB.andThen_, PstSB.seq_, PstB.bind_, PstSB.if_, PstB.if_, PstSB.nx_, PstSB.rt_, PstB.ok_, List.map_cons, List.map_nil, List.length_cons, List.length_nil, List.replicate, List.cons_append, List.nil_append, List.getElem?_cons_zero, List.getElem?_cons_succ, setG_nm, setG_tp, new, selArgs, List.set_cons_zero, List.set_cons_succ, evE_lcE, evI, sizeL, Nat.reduceAdd, Nat.reduceLeDiff, Nat.reduceLT, Nat.reduceSub, if_true, if_false, reduceIte, Nat.zero_add, Nat.lt_add_one, Nat.zero_lt_succ, reduceCtorEq, Nat.reducePow, Nat.reduceLeDiff, Nat.zero_le, esc_none, true_and]
        refine (draw15 hp.h11 (n := n + 1) hG4 (by omega) (by omega) (by omega)).toB.mono ?_
        rintro _ S5 ⟨⟨w, rfl, hw0, hw1⟩, ch5, hl5⟩
        have hs5 : S5[S'.length]? = some (.lst (s.map .str)) := by rw [ch5.old _ (by omega) (by omega)]; exact hs4
        obtain ⟨y, hy, hye⟩ := hix S5 w (oldN S5 _ (ch4.trans ch5)) hw0 hw1
        have hcase : near = 0 ∨ near = 1 ∨ ((near == 0) = false ∧ (near == 1) = false) := by
          by_cases e0 : near = 0
          · exact .inl e0
          · by_cases e1 : near = 1
            · exact .inr (.inl e1)
            · exact .inr (.inr ⟨by simpa using e0, by simpa using e1⟩)
        rcases hcase with rfl | rfl | ⟨e0, e1⟩
        · obtain ⟨y, hy, hye2⟩ := hix S5 (((i : Int) + 1) % M) (oldN S5 _ (ch4.trans ch5)) (Int.emod_nonneg _ (by omega)) (Int.emod_lt_of_pos _ (by omega))
          simp only [NF.start, evSs, evS, evE, evEs, evT, PstSB.andThen_, PstSB.seq_, PstB.bind_, PstSB.if_, PstB.if_, PstSB.nx_, PstSB.rt_, PstB.ok_, List.map_cons, List.map_nil, List.length_cons, List.length_nil, List.replicate, List.cons_append, List.nil_append, List.getElem?_cons_zero, List.getElem?_cons_succ, setG_nm, setG_tp, new, selArgs, List.set_cons_zero, List.set_cons_succ, evE_lcE, evI, sizeL, Nat.reduceAdd, Nat.reduceLeDiff, Nat.reduceLT, Nat.reduceSub, if_true, if_false, reduceIte, Nat.zero_add, Nat.lt_add_one, Nat.zero_lt_succ, reduceCtorEq, Nat.reducePow, Nat.reduceLeDiff, Nat.zero_le, esc_none, true_and, hye, cmp_eqI, Int.reduceBEq, Bool.false_eq_true, bin_addI, bin_modI _ (show (0 : Int) < M by omega), hye2]
          have hs3 := hs5
          have c3 : GC B15 k (1 + 3 * (t + 1 : Nat)) S' S5 := (ch4.trans ch5).le (by omega)
          have l3 : S5.length = S'.length + 1 := by omega
          rw [notin_lst s hs3]
          try simp only [NF.start, evSs, evS, evE, evEs, evT, PstSB.andThen_, PstSB.seq_, PstB.bind_, PstSB.if_, PstB.if_, PstSB.nx_, PstSB.rt_, PstB.ok_, List.map_cons, List.map_nil, List.length_cons, List.length_nil, List.replicate, List.cons_append, List.nil_append, List.getElem?_cons_zero, List.getElem?_cons_succ, setG_nm, setG_tp, new, selArgs, List.set_cons_zero, List.set_cons_succ, evE_lcE, evI, sizeL, Nat.reduceAdd, Nat.reduceLeDiff, Nat.reduceLT, Nat.reduceSub, if_true, if_false, reduceIte, Nat.zero_add, Nat.lt_add_one, Nat.zero_lt_succ, reduceCtorEq, Nat.reducePow, Nat.reduceLeDiff, Nat.zero_le, esc_none, true_and]
          cases hc : s.contains y with
          | true =>
            simp only [NF.start, evSs, evS, evE, evEs, evT, PstSB.andThen_, PstSB.seq_, PstB.bind_, PstSB.if_, PstB.if_, PstSB.nx_, PstSB.rt_, PstB.ok_, List.map_cons, List.map_nil, List.length_cons, List.length_nil, List.replicate, List.cons_append, List.nil_append, List.getElem?_cons_zero, List.getElem?_cons_succ, setG_nm, setG_tp, new, selArgs, List.set_cons_zero, List.set_cons_succ, evE_lcE, evI, sizeL, Nat.reduceAdd, Nat.reduceLeDiff, Nat.reduceLT, Nat.reduceSub, if_true, if_false, reduceIte, Nat.zero_add, Nat.lt_add_one, Nat.zero_lt_succ, reduceCtorEq, Nat.reducePow, Nat.reduceLeDiff, Nat.zero_le, esc_none, true_and, Bool.not_true, Bool.false_eq_true]
            exact ⟨_, _, s, rfl, c3, l3, hs3, by omega, hsN⟩
          | false =>
            simp only [NF.start, evSs, evS, evE, evEs, evT, PstSB.andThen_, PstSB.seq_, PstB.bind_, PstSB.if_, PstB.if_, PstSB.nx_, PstSB.rt_, PstB.ok_, List.map_cons, List.map_nil, List.length_cons, List.length_nil, List.replicate, List.cons_append, List.nil_append, List.getElem?_cons_zero, List.getElem?_cons_succ, setG_nm, setG_tp, new, selArgs, List.set_cons_zero, List.set_cons_succ, evE_lcE, evI, sizeL, Nat.reduceAdd, Nat.reduceLeDiff, Nat.reduceLT, Nat.reduceSub, if_true, if_false, reduceIte, Nat.zero_add, Nat.lt_add_one, Nat.zero_lt_succ, reduceCtorEq, Nat.reducePow, Nat.reduceLeDiff, Nat.zero_le, esc_none, true_and, Bool.not_false, meT, meId, hs3, Option.isSome_some]
            rw [app_lst hs3 (by rw [List.length_map]; omega) rfl]
            try simp only [NF.start, evSs, evS, evE, evEs, evT, PstSB.andThen_, PstSB.seq_, PstB.bind_, PstSB.if_, PstB.if_, PstSB.nx_, PstSB.rt_, PstB.ok_, List.map_cons, List.map_nil, List.length_cons, List.length_nil, List.replicate, List.cons_append, List.nil_append, List.getElem?_cons_zero, List.getElem?_cons_succ, setG_nm, setG_tp, new, selArgs, List.set_cons_zero, List.set_cons_succ, evE_lcE, evI, sizeL, Nat.reduceAdd, Nat.reduceLeDiff, Nat.reduceLT, Nat.reduceSub, if_true, if_false, reduceIte, Nat.zero_add, Nat.lt_add_one, Nat.zero_lt_succ, reduceCtorEq, Nat.reducePow, Nat.reduceLeDiff, Nat.zero_le, esc_none, true_and]
            refine ⟨_, _, s ++ [y], rfl, c3.set (Nat.le_refl _) _ (by omega), by rw [List.length_set]; exact l3, ?_, by simp; omega, fun z hz => ?_⟩
            · rw [List.getElem?_set_self (by omega)]; simp
            · rcases List.mem_append.mp hz with hz | hz
              · exact hsN z hz
              · have : z = y := by simpa using hz
                exact this ▸ hy
        · simp only [NF.start, evSs, evS, evE, evEs, evT, PstSB.andThen_, PstSB.seq_, PstB.bind_, PstSB.if_, PstB.if_, PstSB.nx_, PstSB.rt_, PstB.ok_, List.map_cons, List.map_nil, List.length_cons, List.length_nil, List.replicate, List.cons_append, List.nil_append, List.getElem?_cons_zero, List.getElem?_cons_succ, setG_nm, setG_tp, new, selArgs, List.set_cons_zero, List.set_cons_succ, evE_lcE, evI, sizeL, Nat.reduceAdd, Nat.reduceLeDiff, Nat.reduceLT, Nat.reduceSub, if_true, if_false, reduceIte, Nat.zero_add, Nat.lt_add_one, Nat.zero_lt_succ, reduceCtorEq, Nat.reducePow, Nat.reduceLeDiff, Nat.zero_le, esc_none, true_and, hye, cmp_eqI, Int.reduceBEq, Bool.false_eq_true, bin_subI]
          refine (draw15 hp.h11 (n := n + 1) (ch5.seed _ hG4) (by omega) (by decide) (by decide)).toB.mono ?_
          rintro _ S6 ⟨⟨w2, rfl, hx0, hx1⟩, ch6, hl6⟩
          have hmax : ∀ (i j : Int) (S' : Store), biEv .max2 [.int i, .int j] S' = .ok (.int (if j > i then j else i)) S' none := fun _ _ _ => rfl
          obtain ⟨y, hy, hye2⟩ := hix S6 (if (i : Int) - 1 - w2 > 0 then (i : Int) - 1 - w2 else 0) (oldN S6 _ ((ch4.trans ch5).trans ch6)) (by split <;> omega) (by split <;> omega)
          simp only [NF.start, evSs, evS, evE, evEs, evT, PstSB.andThen_, PstSB.seq_, PstB.bind_, PstSB.if_, PstB.if_, PstSB.nx_, PstSB.rt_, PstB.ok_, List.map_cons, List.map_nil, List.length_cons, List.length_nil, List.replicate, List.cons_append, List.nil_append, List.getElem?_cons_zero, List.getElem?_cons_succ, setG_nm, setG_tp, new, selArgs, List.set_cons_zero, List.set_cons_succ, evE_lcE, evI, sizeL, Nat.reduceAdd, Nat.reduceLeDiff, Nat.reduceLT, Nat.reduceSub, if_true, if_false, reduceIte, Nat.zero_add, Nat.lt_add_one, Nat.zero_lt_succ, reduceCtorEq, Nat.reducePow, Nat.reduceLeDiff, Nat.zero_le, esc_none, true_and, bin_subI, hmax, hye2]
          have hs3 : S6[S'.length]? = some (.lst (s.map .str)) := by rw [ch6.old _ (by omega) (by omega)]; exact hs5
          have c3 : GC B15 k (1 + 3 * (t + 1 : Nat)) S' S6 := ((ch4.trans ch5).trans ch6).le (by omega)
          have l3 : S6.length = S'.length + 1 := by omega
          rw [notin_lst s hs3]
          try simp only [NF.start, evSs, evS, evE, evEs, evT, PstSB.andThen_, PstSB.seq_, PstB.bind_, PstSB.if_, PstB.if_, PstSB.nx_, PstSB.rt_, PstB.ok_, List.map_cons, List.map_nil, List.length_cons, List.length_nil, List.replicate, List.cons_append, List.nil_append, List.getElem?_cons_zero, List.getElem?_cons_succ, setG_nm, setG_tp, new, selArgs, List.set_cons_zero, List.set_cons_succ, evE_lcE, evI, sizeL, Nat.reduceAdd, Nat.reduceLeDiff, Nat.reduceLT, Nat.reduceSub, if_true, if_false, reduceIte, Nat.zero_add, Nat.lt_add_one, Nat.zero_lt_succ, reduceCtorEq, Nat.reducePow, Nat.reduceLeDiff, Nat.zero_le, esc_none, true_and]
          cases hc : s.contains y with
          | true =>
            simp only [NF.start, evSs, evS, evE, evEs, evT, PstSB.andThen_, PstSB.seq_, PstB.bind_, PstSB.if_, PstB.if_, PstSB.nx_, PstSB.rt_, PstB.ok_, List.map_cons, List.map_nil, List.length_cons, List.length_nil, List.replicate, List.cons_append, List.nil_append, List.getElem?_cons_zero, List.getElem?_cons_succ, setG_nm, setG_tp, new, selArgs, List.set_cons_zero, List.set_cons_succ, evE_lcE, evI, sizeL, Nat.reduceAdd, Nat.reduceLeDiff, Nat.reduceLT, Nat.reduceSub, if_true, if_false, reduceIte, Nat.zero_add, Nat.lt_add_one, Nat.zero_lt_succ, reduceCtorEq, Nat.reducePow, Nat.reduceLeDiff, Nat.zero_le, esc_none, true_and, Bool.not_true, Bool.false_eq_true]
            exact ⟨_, _, s, rfl, c3, l3, hs3, by omega, hsN⟩
          | false =>
            simp only [NF.start, evSs, evS, evE, evEs, evT, PstSB.andThen_, PstSB.seq_, PstB.bind_, PstSB.if_, PstB.if_, PstSB.nx_, PstSB.rt_, PstB.ok_, List.map_cons, List.map_nil, List.length_cons, List.length_nil, List.replicate, List.cons_append, List.nil_append, List.getElem?_cons_zero, List.getElem?_cons_succ, setG_nm, setG_tp, new, selArgs, List.set_cons_zero, List.set_cons_succ, evE_lcE, evI, sizeL, Nat.reduceAdd, Nat.reduceLeDiff, Nat.reduceLT, Nat.reduceSub, if_true, if_false, reduceIte, Nat.zero_add, Nat.lt_add_one, Nat.zero_lt_succ, reduceCtorEq, Nat.reducePow, Nat.reduceLeDiff, Nat.zero_le, esc_none, true_and, Bool.not_false, meT, meId, hs3, Option.isSome_some]
            rw [app_lst hs3 (by rw [List.length_map]; omega) rfl]
            try simp only [NF.start, evSs, evS, evE, evEs, evT, PstSB.andThen_, PstSB.seq_, PstB.bind_, PstSB.if_, PstB.if_, PstSB.nx_, PstSB.rt_, PstB.ok_, List.map_cons, List.map_nil, List.length_cons, List.length_nil, List.replicate, List.cons_append, List.nil_append, List.getElem?_cons_zero, List.getElem?_cons_succ, setG_nm, setG_tp, new, selArgs, List.set_cons_zero, List.set_cons_succ, evE_lcE, evI, sizeL, Nat.reduceAdd, Nat.reduceLeDiff, Nat.reduceLT, Nat.reduceSub, if_true, if_false, reduceIte, Nat.zero_add, Nat.lt_add_one, Nat.zero_lt_succ, reduceCtorEq, Nat.reducePow, Nat.reduceLeDiff, Nat.zero_le, esc_none, true_and]
            refine ⟨_, _, s ++ [y], rfl, c3.set (Nat.le_refl _) _ (by omega), by rw [List.length_set]; exact l3, ?_, by simp; omega, fun z hz => ?_⟩
            · rw [List.getElem?_set_self (by omega)]; simp
            · rcases List.mem_append.mp hz with hz | hz
              · exact hsN z hz
              · have : z = y := by simpa using hz
                exact this ▸ hy
        · simp only [NF.start, evSs, evS, evE, evEs, evT, PstSB.andThen_, PstSB.seq_, PstB.bind_, PstSB.if_, PstB.if_, PstSB.nx_, PstSB.rt_, PstB.ok_, List.map_cons, List.map_nil, List.length_cons, List.length_nil, List.replicate, List.cons_append, List.nil_append, List.getElem?_cons_zero, List.getElem?_cons_succ, setG_nm, setG_tp, new, selArgs, List.set_cons_zero, List.set_cons_succ, evE_lcE, evI, sizeL, Nat.reduceAdd, Nat.reduceLeDiff, Nat.reduceLT, Nat.reduceSub, if_true, if_false, reduceIte, Nat.zero_add, Nat.lt_add_one, Nat.zero_lt_succ, reduceCtorEq, Nat.reducePow, Nat.reduceLeDiff, Nat.zero_le, esc_none, true_and, hye, cmp_eqI, e0, e1, Bool.false_eq_true]
          have hs3 := hs5
          have c3 : GC B15 k (1 + 3 * (t + 1 : Nat)) S' S5 := (ch4.trans ch5).le (by omega)
          have l3 : S5.length = S'.length + 1 := by omega
          rw [notin_lst s hs3]
          try simp only [NF.start, evSs, evS, evE, evEs, evT, PstSB.andThen_, PstSB.seq_, PstB.bind_, PstSB.if_, PstB.if_, PstSB.nx_, PstSB.rt_, PstB.ok_, List.map_cons, List.map_nil, List.length_cons, List.length_nil, List.replicate, List.cons_append, List.nil_append, List.getElem?_cons_zero, List.getElem?_cons_succ, setG_nm, setG_tp, new, selArgs, List.set_cons_zero, List.set_cons_succ, evE_lcE, evI, sizeL, Nat.reduceAdd, Nat.reduceLeDiff, Nat.reduceLT, Nat.reduceSub, if_true, if_false, reduceIte, Nat.zero_add, Nat.lt_add_one, Nat.zero_lt_succ, reduceCtorEq, Nat.reducePow, Nat.reduceLeDiff, Nat.zero_le, esc_none, true_and]
          cases hc : s.contains y with
          | true =>
            simp only [NF.start, evSs, evS, evE, evEs, evT, PstSB.andThen_, PstSB.seq_, PstB.bind_, PstSB.if_, PstB.if_, PstSB.nx_, PstSB.rt_, PstB.ok_, List.map_cons, List.map_nil, List.length_cons, List.length_nil, List.replicate, List.cons_append, List.nil_append, List.getElem?_cons_zero, List.getElem?_cons_succ, setG_nm, setG_tp, new, selArgs, List.set_cons_zero, List.set_cons_succ, evE_lcE, evI, sizeL, Nat.reduceAdd, Nat.reduceLeDiff, Nat.reduceLT, Nat.reduceSub, if_true, if_false, reduceIte, Nat.zero_add, Nat.lt_add_one, Nat.zero_lt_succ, reduceCtorEq, Nat.reducePow, Nat.reduceLeDiff, Nat.zero_le, esc_none, true_and, Bool.not_true, Bool.false_eq_true]
            exact ⟨_, _, s, rfl, c3, l3, hs3, by omega, hsN⟩
          | false =>
            simp only [NF.start, evSs, evS, evE, evEs, evT, PstSB.andThen_, PstSB.seq_, PstB.bind_, PstSB.if_, PstB.if_, PstSB.nx_, PstSB.rt_, PstB.ok_, List.map_cons, List.map_nil, List.length_cons, List.length_nil, List.replicate, List.cons_append, List.nil_append, List.getElem?_cons_zero, List.getElem?_cons_succ, setG_nm, setG_tp, new, selArgs, List.set_cons_zero, List.set_cons_succ, evE_lcE, evI, sizeL, Nat.reduceAdd, Nat.reduceLeDiff, Nat.reduceLT, Nat.reduceSub, if_true, if_false, reduceIte, Nat.zero_add, Nat.lt_add_one, Nat.zero_lt_succ, reduceCtorEq, Nat.reducePow, Nat.reduceLeDiff, Nat.zero_le, esc_none, true_and, Bool.not_false, meT, meId, hs3, Option.isSome_some]
            rw [app_lst hs3 (by rw [List.length_map]; omega) rfl]
            try simp only [NF.start, evSs, evS, evE, evEs, evT, PstSB.andThen_, PstSB.seq_, PstB.bind_, PstSB.if_, PstB.if_, PstSB.nx_, PstSB.rt_, PstB.ok_, List.map_cons, List.map_nil, List.length_cons, List.length_nil, List.replicate, List.cons_append, List.nil_append, List.getElem?_cons_zero, List.getElem?_cons_succ, setG_nm, setG_tp, new, selArgs, List.set_cons_zero, List.set_cons_succ, evE_lcE, evI, sizeL, Nat.reduceAdd, Nat.reduceLeDiff, Nat.reduceLT, Nat.reduceSub, if_true, if_false, reduceIte, Nat.zero_add, Nat.lt_add_one, Nat.zero_lt_succ, reduceCtorEq, Nat.reducePow, Nat.reduceLeDiff, Nat.zero_le, esc_none, true_and]
            refine ⟨_, _, s ++ [y], rfl, c3.set (Nat.le_refl _) _ (by omega), by rw [List.length_set]; exact l3, ?_, by simp; omega, fun z hz => ?_⟩
            · rw [List.getElem?_set_self (by omega)]; simp
            · rcases List.mem_append.mp hz with hz | hz
              · exact hsN z hz
              · have : z = y := by simpa using hz
                exact this ▸ hy
      · obtain ⟨a9, a11, s, rfl, ch4, hl4, hs4, hst, hsN⟩ := hI
        rw [hru] at hst ch4
        exact ⟨rfl, a9, a11, s, rfl, ch4.le (by omega), hl4, hs4, by omega, hsN⟩
      · refine ⟨a9, a11, [], rfl, ((GC.push [SO.lst []]).trans ch3).le (by omega), by rw [hl3]; simp, ?_, Nat.zero_le _, by simp⟩
        rw [ch3.old _ (by simp) (by omega)]; exact last_get _ _
      · rintro σ S4 ⟨a9, a11, s, rfl, ch4, hl4, hs4, hst, hsN⟩
        have hm4 : S4[S.length + 2]? = some (.dict kvs) := by rw [ch4.old _ (by omega) (by omega)]; exact hmi
        have hd4 : S4[S.length + 1]? = some (.lst ((List.range i).map fun j => D.tup [.str (N.getD j []), .tup ((ps j).map .str), (bd j).d])) := by rw [ch4.old _ (by omega) (by omega)]; exact hdi
        have hN4 : S4[S.length]? = some (.lst (N.map .str)) := by rw [ch4.old _ (by omega) (by omega)]; exact hNi
        have hkl : kvs.length = i := by
          have := congrArg List.length hDi.keys
          simp at this; omega
        have hksz : kvs.length < 16777216 := by omega
        have hesc : escOk S.length (if S'.length + 1 ≤ S.length + 2 then none else some (S.length + 2)) = true := by
          split
          · rfl
          · simp [escOk]
        have hnmt : nm ∉ N.take i := by
          intro hm
          obtain ⟨j, hj, e⟩ := List.mem_iff_getElem.mp hm
          rw [List.length_take] at hj
          rw [List.getElem_take] at e
          have h2 := List.pairwise_iff_getElem.mp (List.nodup_iff_pairwise_ne.mp nd) j i (by omega) (by omega) (by omega)
          rw [List.getElem?_eq_getElem (by omega)] at hnm
          exact h2 (e.trans (Option.some.inj hnm).symm)
        have hD4 : DAt S4 kvs (N.take i) (fun x r o => S.length + 3 ≤ r ∧ ∃ j, j < i ∧ x = N.getD j [] ∧ o = .lst ((sm j).map .str)) := hDi.same fun x r o _ h1 h2 => by
          by_cases e : r = k
          · omega
          · rw [ch4.old r (List.getElem?_eq_some_iff.mp h1).1 e]; exact h1
        obtain ⟨hdp, hD5⟩ := dat_snoc (Q := fun x r o => S.length + 3 ≤ r ∧ ∃ j, j < i + 1 ∧ x = N.getD j [] ∧ o = .lst (((fun j => if j = i then s else sm j) j).map .str)) (hD4.mono fun x r o _ ⟨h1, j, h2, h3, h4⟩ => ⟨h1, j, by omega, h3, by simp only; rw [if_neg (by omega)]; exact h4⟩) hnmt hs4 ⟨by omega, i, by omega, hnmD.symm, by simp⟩
        have htk : N.take i ++ [nm] = N.take (i + 1) := by rw [List.take_add_one, hnm]; rfl
        rw [htk] at hD5
        simp only [NF.start, evSs, evS, evE, evEs, evT, PstSB.andThen_, PstSB.seq_, PstB.bind_, PstSB.if_, PstB.if_, PstSB.nx_, PstSB.rt_, PstB.ok_, List.map_cons, List.map_nil, List.length_cons, List.length_nil, List.replicate, List.cons_append, List.nil_append, List.getElem?_cons_zero, List.getElem?_cons_succ, setG_nm, setG_tp, new, selArgs, List.set_cons_zero, List.set_cons_succ, evE_lcE, evI, sizeL, Nat.reduceAdd, Nat.reduceLeDiff, Nat.reduceLT, Nat.reduceSub, if_true, if_false, reduceIte, Nat.zero_add, Nat.lt_add_one, Nat.zero_lt_succ, reduceCtorEq, Nat.reducePow, Nat.reduceLeDiff, Nat.zero_le, esc_none, true_and, setSub, hm4, D.isKey, hksz, NF.put, D.mr, hesc, hdp]
        obtain ⟨S5, hS5⟩ : ∃ S5, S5 = S4.set (S.length + 2) (.dict (kvs ++ [(D.str nm, D.ref S'.length)])) := ⟨_, rfl⟩
        rw [← hS5]
        have hl5 : S5.length = S'.length + 1 := by rw [hS5, List.length_set]; exact hl4
        have hm5 : S5[S.length + 2]? = some (.dict (kvs ++ [(D.str nm, D.ref S'.length)])) := by rw [hS5]; exact List.getElem?_set_self (by omega)
        have ho5 : ∀ j, j ≠ S.length + 2 → S5[j]? = S4[j]? := fun j hj => by rw [hS5]; exact List.getElem?_set_ne (Ne.symm hj)
        have c5 : GC B15 k (20 + 60 * i + 20) S S5 := by rw [hS5]; exact (chi.trans ch4).set (by omega) _ hk
        have hD5' : DAt S5 (kvs ++ [(D.str nm, D.ref S'.length)]) (N.take (i + 1)) (fun x r o => S.length + 3 ≤ r ∧ ∃ j, j < i + 1 ∧ x = N.getD j [] ∧ o = .lst (((fun j => if j = i then s else sm j) j).map .str)) := hD5.same fun x r o _ h1 h2 => by rw [ho5 r (by have := h2.1; omega)]; exact h1
        have hs5 : S5[S'.length]? = some (.lst (s.map .str)) := by rw [ho5 _ (by omega)]; exact hs4
        have hd5 : S5[S.length + 1]? = some (.lst ((List.range i).map fun j => D.tup [.str (N.getD j []), .tup ((ps j).map .str), (bd j).d])) := by rw [ho5 _ (by omega)]; exact hd4
        have hN5 : S5[S.length]? = some (.lst (N.map .str)) := by rw [ho5 _ (by omega)]; exact hN4
        clear hS5 hm4 hd4 hN4 hD4 hs4 hdp hD5
        have hG5 : GAt B15 (S5 ++ [SO.lst [D.str (S! "x"), D.str (S! "y")]]) k (m + 40 + 60 * i) := (c5.trans (GC.push [SO.lst [D.str (S! "x"), D.str (S! "y")]])).seed _ h |>.le (by omega)
        refine ⟨by split <;> simp [escOk], ?_⟩
        simp only [NF.start, evSs, evS, evE, evEs, evT, PstSB.andThen_, PstSB.seq_, PstB.bind_, PstSB.if_, PstB.if_, PstSB.nx_, PstSB.rt_, PstB.ok_, List.map_cons, List.map_nil, List.length_cons, List.length_nil, List.replicate, List.cons_append, List.nil_append, List.getElem?_cons_zero, List.getElem?_cons_succ, setG_nm, setG_tp, new, selArgs, List.set_cons_zero, List.set_cons_succ, evE_lcE, evI, sizeL, Nat.reduceAdd, Nat.reduceLeDiff, Nat.reduceLT, Nat.reduceSub, if_true, if_false, reduceIte, Nat.zero_add, Nat.lt_add_one, Nat.zero_lt_succ, reduceCtorEq, Nat.reducePow, Nat.reduceLeDiff, Nat.zero_le, esc_none, true_and, evO]
        refine (draw15 hp.h11 (n := n + 1) hG5 (by omega) (by decide) (by decide)).toB.mono ?_
        rintro _ S6 ⟨⟨u, rfl, hu0, hu1⟩, ch6, hl6⟩
        obtain ⟨d, rfl⟩ : ∃ d : Nat, u = (d : Int) := ⟨u.toNat, by omega⟩
        have hxy : (D.ref S5.length).lst? S6 = some ([(S! "x"), (S! "y")].map D.str) := by
          have : S6[S5.length]? = some (SO.lst [D.str (S! "x"), D.str (S! "y")]) := by rw [ch6.old _ (by simp) (by omega)]; exact last_get _ _
          simp [D.lst?, this]
        have hl6' : S6.length = S'.length + 2 := by rw [hl6]; simp [hl5]
        have hcut : cutL ([(S! "x"), (S! "y")].map D.str) none (some (d : Int)) = ([(S! "x"), (S! "y")].take d).map D.str := by rw [cutTo, List.map_take]
        obtain ⟨p, hpp⟩ : ∃ p, p = [(S! "x"), (S! "y")].take d := ⟨_, rfl⟩
        have hpl : p.length ≤ 2 := by rw [hpp, List.length_take]; simp; omega
        have hpx : ∀ x ∈ p, Nm x ∧ x ≠ qq ∧ x ≠ rr ∧ x ≠ ss ∧ x ∉ N := fun x hx => by
          have hx : x ∈ [(S! "x"), (S! "y")] := List.mem_of_mem_take (hpp ▸ hx)
          have key : ∀ x ∈ [(S! "x"), (S! "y")], Nm x ∧ x ≠ qq ∧ x ≠ rr ∧ x ≠ ss ∧ ∃ c, c ∉ lets ∧ x = [c] := by
            intro x hx
            have : x = (S! "x") ∨ x = (S! "y") := by simpa using hx
            rcases this with rfl | rfl
            · exact ⟨by decide +kernel, by decide +kernel, by decide +kernel, by decide +kernel, 120, by decide, by decide +kernel⟩
            · exact ⟨by decide +kernel, by decide +kernel, by decide +kernel, by decide +kernel, 121, by decide, by decide +kernel⟩
          obtain ⟨k1, k2, k3, k4, c, hc, rfl⟩ := key x hx
          exact ⟨k1, k2, k3, k4, fun hm => hfree c hc _ hm rfl⟩
        rw [← hpp] at hcut
        clear hpp
        have hsl6 : sliceEv (.ref S5.length) none (some (d : Int)) S6 = .ok (.ref S6.length) (S6 ++ [.lst (p.map .str)]) none := by
          simp only [sliceEv, hxy, hcut]
        have hsq6 : (D.ref S6.length).seq? (S6 ++ [SO.lst (p.map .str)]) = some (p.map .str) := by
          simp [D.seq?, D.lst?]
        have hd6 : ∀ o, (S6 ++ [o])[S.length + 1]? = some (.lst ((List.range i).map fun j => D.tup [.str (N.getD j []), .tup ((ps j).map .str), (bd j).d])) := fun o => by
          rw [List.getElem?_append_left (by omega), ch6.old _ (by simp; omega) (by omega), List.getElem?_append_left (by omega)]; exact hd5
        have hs6 : ∀ o, (S6 ++ [o])[S'.length]? = some (.lst (s.map .str)) := fun o => by
          rw [List.getElem?_append_left (by omega), ch6.old _ (by simp; omega) (by omega), List.getElem?_append_left (by omega)]; exact hs5
        simp only [NF.start, evSs, evS, evE, evEs, evT, PstSB.andThen_, PstSB.seq_, PstB.bind_, PstSB.if_, PstB.if_, PstSB.nx_, PstSB.rt_, PstB.ok_, List.map_cons, List.map_nil, List.length_cons, List.length_nil, List.replicate, List.cons_append, List.nil_append, List.getElem?_cons_zero, List.getElem?_cons_succ, setG_nm, setG_tp, new, selArgs, List.set_cons_zero, List.set_cons_succ, evE_lcE, evI, sizeL, Nat.reduceAdd, Nat.reduceLeDiff, Nat.reduceLT, Nat.reduceSub, if_true, if_false, reduceIte, Nat.zero_add, Nat.lt_add_one, Nat.zero_lt_succ, reduceCtorEq, Nat.reducePow, Nat.reduceLeDiff, Nat.zero_le, esc_none, true_and, evO, hsl6, biEv, hsq6, meT, meId, hd6, Option.isSome_some]
        have hG6 : GAt B15 (S6 ++ [SO.lst (p.map .str)]) k (m + 60 + 60 * i) := (ch6.trans (GC.push [SO.lst (p.map .str)])).seed _ hG5 |>.le (by omega)
        refine (holding_spec hp (n := n) hG6 (by omega) (hs6 _) (by omega) hst hpl (fun x hx => ?_)).toB.mono ?_
        · rcases List.mem_append.mp hx with hx | hx
          · have hxN := hsN x hx
            have w := hwf x hxN
            refine ⟨w.1, ?_, ?_, ?_⟩
            · exact (by decide +kernel : qq = [113]) ▸ hfree 113 (by decide) x hxN
            · exact (by decide +kernel : rr = [114]) ▸ hfree 114 (by decide) x hxN
            · exact (by decide +kernel : ss = [115]) ▸ hfree 115 (by decide) x hxN
          · exact ⟨(hpx x hx).1, (hpx x hx).2.1, (hpx x hx).2.2.1, (hpx x hx).2.2.2.1⟩
        · rintro _ S7 ⟨⟨t, rfl, tok, tsz, tdp, tfv⟩, ch7, hl7⟩
          have hl7' : S7.length = S'.length + 3 := by rw [hl7]; simp [hl6']
          have old7 : ∀ j, j < S5.length → j ≠ k → S7[j]? = S5[j]? := fun j hj hjk => by
            rw [ch7.old _ (by simp; omega) hjk, List.getElem?_append_left (by omega), ch6.old _ (by simp; omega) hjk, List.getElem?_append_left (by omega)]
          have hd7 : S7[S.length + 1]? = some (.lst ((List.range i).map fun j => D.tup [.str (N.getD j []), .tup ((ps j).map .str), (bd j).d])) := by rw [old7 _ (by omega) (by omega)]; exact hd5
          have hmr : D.mr (.tup [.str nm, .tup (p.map .str), t.d]) = 0 := by
            simp only [D.mr, D.mrs, strs_mr, TM.mr]; rfl
          try simp only [NF.start, evSs, evS, evE, evEs, evT, PstSB.andThen_, PstSB.seq_, PstB.bind_, PstSB.if_, PstB.if_, PstSB.nx_, PstSB.rt_, PstB.ok_, List.map_cons, List.map_nil, List.length_cons, List.length_nil, List.replicate, List.cons_append, List.nil_append, List.getElem?_cons_zero, List.getElem?_cons_succ, setG_nm, setG_tp, new, selArgs, List.set_cons_zero, List.set_cons_succ, evE_lcE, evI, sizeL, Nat.reduceAdd, Nat.reduceLeDiff, Nat.reduceLT, Nat.reduceSub, if_true, if_false, reduceIte, Nat.zero_add, Nat.lt_add_one, Nat.zero_lt_succ, reduceCtorEq, Nat.reducePow, Nat.reduceLeDiff, Nat.zero_le, esc_none, true_and]
          rw [app_lst hd7 (by simp; omega) hmr]
          try simp only [NF.start, evSs, evS, evE, evEs, evT, PstSB.andThen_, PstSB.seq_, PstB.bind_, PstSB.if_, PstB.if_, PstSB.nx_, PstSB.rt_, PstB.ok_, List.map_cons, List.map_nil, List.length_cons, List.length_nil, List.replicate, List.cons_append, List.nil_append, List.getElem?_cons_zero, List.getElem?_cons_succ, setG_nm, setG_tp, new, selArgs, List.set_cons_zero, List.set_cons_succ, evE_lcE, evI, sizeL, Nat.reduceAdd, Nat.reduceLeDiff, Nat.reduceLT, Nat.reduceSub, if_true, if_false, reduceIte, Nat.zero_add, Nat.lt_add_one, Nat.zero_lt_succ, reduceCtorEq, Nat.reducePow, Nat.reduceLeDiff, Nat.zero_le, esc_none, true_and]
          have c7 : GC B15 k (20 + 60 * (i + 1 : Nat)) S (S7.set (S.length + 1) (.lst ((List.range i).map (fun j => D.tup [.str (N.getD j []), .tup ((ps j).map .str), (bd j).d]) ++ [.tup [.str nm, .tup (p.map .str), t.d]]))) :=
            (((c5.trans (GC.push [SO.lst [D.str (S! "x"), D.str (S! "y")]])).trans ch6).trans ((GC.push [SO.lst (p.map .str)]).trans ch7)).set (by omega) _ hk |>.le (by omega)
          refine ⟨_, _, _, _, _, _, fun j => if j = i then p else ps j, fun j => if j = i then t else bd j, fun j => if j = i then s else sm j, _, rfl, c7, by rw [List.length_set]; omega, ?_, ?_, ?_, hD5'.same fun x r o _ h1 h2 => ?_, fun j hj => ?_⟩
          · rw [List.getElem?_set_ne (by omega), old7 _ (by omega) (by omega)]; exact hN5
          · rw [List.getElem?_set_self (by omega), List.range_succ, List.map_append]
            congr 3
            · refine List.map_congr_left fun j hj => ?_
              have : j < i := by simpa using hj
              simp only
              rw [if_neg (by omega), if_neg (by omega)]
            · rw [List.getD_eq_getElem?_getD] at hnmD; simp [hnmD]
          · rw [List.getElem?_set_ne (by omega), old7 _ (by omega) (by omega)]; exact hm5
          · have := h2.1
            rw [List.getElem?_set_ne (by omega), old7 _ (List.getElem?_eq_some_iff.mp h1).1 (by omega)]; exact h1
          · simp only
            by_cases e : j = i
            · subst e
              rw [if_pos rfl, if_pos rfl, if_pos rfl]
              exact ⟨tok, tsz, tdp, tfv, hsN, fun x hx => (hpx x hx).2.2.2.2⟩
            · rw [if_neg e, if_neg e, if_neg e]
              exact hrow j (by omega)
    · obtain ⟨b3, a7, a8, a9, a10, a11, ps, bd, sm, kvs, rfl, chi, hlen3, hNi, hdi, hmi, hDi, hrow⟩ := hI
      refine ⟨by simp only [Src.holds, List.all_cons, List.all_nil, hNi, decide_true, Bool.and_true], ?_⟩
      have hel : (enumD 0 (N.map D.str)).length = M := by
        have : ∀ (xs : List D) a, (enumD a xs).length = xs.length := by
          intro xs
          induction xs with
          | nil => intro a; rfl
          | cons x xs ih => intro a; simp [enumD, ih]
        rw [this, List.length_map]; exact hNl
      rw [hel] at chi hdi hDi hrow
      have hdq : (D.ref (S.length + 1)).seq? S' = some ((List.range M).map fun j => D.tup [.str (N.getD j []), .tup ((ps j).map .str), (bd j).d]) := by simp [D.seq?, D.lst?, hdi]
      simp only [NF.start, evSs, evS, evE, evEs, evT, PstSB.andThen_, PstSB.seq_, PstB.bind_, PstSB.if_, PstB.if_, PstSB.nx_, PstSB.rt_, PstB.ok_, List.map_cons, List.map_nil, List.length_cons, List.length_nil, List.replicate, List.cons_append, List.nil_append, List.getElem?_cons_zero, List.getElem?_cons_succ, setG_nm, setG_tp, new, selArgs, List.set_cons_zero, List.set_cons_succ, evE_lcE, evI, sizeL, Nat.reduceAdd, Nat.reduceLeDiff, Nat.reduceLT, Nat.reduceSub, if_true, if_false, reduceIte, Nat.zero_add, Nat.lt_add_one, Nat.zero_lt_succ, reduceCtorEq, Nat.reducePow, Nat.reduceLeDiff, Nat.zero_le, esc_none, true_and, biEv, hdq]
      intro d1 S1 e
      have e1 : packed S.length (D.tup [.tup [.tup [], .tup ((List.range M).map fun j => D.tup [.str (N.getD j []), .tup ((ps j).map .str), (bd j).d])], .ref (S.length + 2)]) S' none = .ok (D.tup [.tup [.tup [], .tup ((List.range M).map fun j => D.tup [.str (N.getD j []), .tup ((ps j).map .str), (bd j).d])], .ref (S.length + 2)]) S' none := by
        unfold packed escOk
        simp only [if_true]
        rw [if_neg (by simp only [D.mr, D.mrs]; omega)]
      rw [e1] at e
      cases e
      have hnames : (List.range M).map (fun j => N.getD j []) = N := by
        refine List.ext_getElem? fun j => ?_
        by_cases hj : j < M
        · rw [List.getElem?_map, List.getElem?_range hj, List.getElem?_eq_getElem (by omega), Option.map_some, List.getD_eq_getElem?_getD, List.getElem?_eq_getElem (by omega)]; rfl
        · rw [List.getElem?_eq_none (by simp; omega), List.getElem?_eq_none (by omega)]
      refine ⟨⟨M, fun j => N.getD j [], ps, bd⟩, sm, S.length + 2, kvs, rfl, ⟨fun a b ha hb he => ?_, by omega, fun j hj => (hrow j hj).ok, fun j hj => by have := (hrow j hj).sz; simp only; omega, fun j hj => by have := (hrow j hj).dp; simp only; omega⟩, fun j hj => ?_, hmi, ?_, by omega, chi.le (by omega)⟩
      · simp only [List.getD_eq_getElem?_getD] at he
        simp only at ha hb
        rw [List.getElem?_eq_getElem (by omega), List.getElem?_eq_getElem (by omega)] at he
        have he : N[a]'(by omega) = N[b]'(by omega) := by simpa using he
        have hp := List.pairwise_iff_getElem.mp (List.nodup_iff_pairwise_ne.mp nd)
        rcases Nat.lt_trichotomy a b with h1 | h1 | h1
        · exact absurd he (hp a b (by omega) (by omega) h1)
        · exact h1
        · exact absurd he.symm (hp b a (by omega) (by omega) h1)
      · show Row (PG.names ⟨M, fun j => N.getD j [], ps, bd⟩) _ _ _
        unfold PG.names
        simp only [hnames]
        exact hrow j hj
      · show DAt S' kvs (PG.names ⟨M, fun j => N.getD j [], ps, bd⟩) _
        unfold PG.names
        simp only [hnames]
        rw [List.take_of_length_le (by omega)] at hDi
        exact hDi.mono fun x r o _ ⟨h1, h2⟩ => ⟨by omega, h2⟩
  · refine ⟨none, [], by simp [hl1], (ch1.trans (GC.push _)).le (by omega), by simp [hl1], ?_, rfl, List.nodup_nil, by simp⟩
    rw [← hl1]; exact last_get _ _
end
end K15

/-! NFFr: what stays of a store; lists of things; lists of numbers. -/
namespace NF
open PySem L2
/-- all of X stays but what is in ex -/
structure Fr (ex : Nat → Prop) (X S : Store) : Prop where
  len : X.length ≤ S.length
  old : ∀ j, j < X.length → ¬ ex j → S[j]? = X[j]?
section
variable {ex : Nat → Prop} {X S : Store}
theorem Fr.refl : Fr ex X X := ⟨Nat.le_refl _, fun _ _ _ => rfl⟩
theorem Fr.push (h : Fr ex X S) (T : Store) : Fr ex X (S ++ T) :=
  ⟨by rw [List.length_append]; have := h.len; omega, fun j hj he => by rw [List.getElem?_append_left (by have := h.len; omega)]; exact h.old j hj he⟩
theorem Fr.set (h : Fr ex X S) {n : Nat} (hn : ex n ∨ X.length ≤ n) (o : SO) : Fr ex X (S.set n o) :=
  ⟨by rw [List.length_set]; exact h.len, fun j hj he => by
    rw [List.getElem?_set_ne]
    · exact h.old j hj he
    · rintro rfl
      rcases hn with hn | hn
      · exact he hn
      · omega⟩
theorem Fr.get (h : Fr ex X S) {j : Nat} {o : SO} (hj : X[j]? = some o) (he : ¬ ex j) : S[j]? = some o := by
  rw [h.old j (List.getElem?_eq_some_iff.mp hj).1 he]; exact hj
theorem Fr.take (h : Fr (fun _ => False) X S) : S.take X.length = X := by
  refine List.ext_getElem? fun j => ?_
  by_cases hj : j < X.length
  · rw [List.getElem?_take_of_lt hj]; exact h.old j hj id
  · rw [List.getElem?_eq_none (by rw [List.length_take]; omega), List.getElem?_eq_none (by omega)]
theorem Fr.weak (h : Fr ex X S) {n : Nat} (hn : n ≤ X.length) (hx : ∀ j, j < n → ¬ ex j) : Fr (fun _ => False) (X.take n) S :=
  ⟨by rw [List.length_take]; have := h.len; omega, fun j hj _ => by
    rw [List.length_take] at hj
    rw [List.getElem?_take_of_lt (by omega)]
    exact h.old j (by omega) (hx j (by omega))⟩
end
theorem Fr.trans {ex : Nat → Prop} {X Y S : Store} (a : Fr ex X Y) (b : Fr ex Y S) : Fr ex X S :=
  ⟨Nat.le_trans a.len b.len, fun j hj he => (b.old j (Nat.lt_of_lt_of_le hj a.len) he).trans (a.old j hj he)⟩
theorem Fr.le {ex ex' : Nat → Prop} {X S : Store} (a : Fr ex X S) (h : ∀ j, j < X.length → ex j → ex' j) : Fr ex' X S :=
  ⟨a.len, fun j hj he => a.old j hj fun h' => he (h j hj h')⟩
theorem Fr.app {ex : Nat → Prop} (X T : Store) : Fr ex X (X ++ T) := Fr.refl.push T
theorem pack_lstF {X S : Store} {k : Nat} {xs : List D} (f : Fr (fun _ => False) X S) (hk : X.length ≤ k) (h : S[k]? = some (.lst xs)) (h0 : D.mrs xs = 0) : packed X.length (.ref k) S none = .ok (.ref X.length) (X ++ [.lst xs]) none := by
  unfold packed escOk
  simp only [if_true]
  rw [if_neg (by rw [D.mr]; omega)]
  simp only [h]
  rw [if_pos (by omega), f.take]
def natsD (xs : List Nat) : List D := xs.map fun (i : Nat) => .int (i : Int)
theorem natsD_mr : ∀ xs : List Nat, D.mrs (natsD xs) = 0
  | [] => rfl
  | x :: xs => by
    have := natsD_mr xs
    unfold natsD at this ⊢
    rw [List.map_cons, D.mrs, this]; rfl
theorem elem_map {α : Type} [BEq α] {f : D → D → Option Bool} {F : α → D} {x : α} {d : D} (h : ∀ a, f (F a) d = some (a == x)) : ∀ L : List α, elemL f d (L.map F) = some (L.any (· == x))
  | [] => rfl
  | y :: L => by
    simp only [List.map_cons, elemL, h, elem_map h L, List.any_cons]
theorem elem_on {α : Type} {f : D → D → Option Bool} {F : α → D} {p : α → Bool} {d : D} : ∀ {L : List α}, (∀ a ∈ L, f (F a) d = some (p a)) → elemL f d (L.map F) = some (L.any p)
  | [], _ => rfl
  | y :: L, h => by
    simp only [List.map_cons, elemL, h y List.mem_cons_self, elem_on (fun a ha => h a (List.mem_cons_of_mem _ ha)), List.any_cons]
theorem in_ints {S : Store} {i k : Nat} {xs : List Nat} (h : S[k]? = some (.lst (natsD xs))) : cmpEv .isin (.int (i : Int)) (.ref k) S = .ok (.bl (xs.contains i)) S none := by
  show inEv false (.int (i : Int)) (.ref k) S = _
  have h1 : (D.ref k).dict? S = none := by simp [D.dict?, h]
  have h2 : (D.ref k).seq? S = some (natsD xs) := by simp [D.seq?, h]
  simp only [inEv, h1, h2, eqN, natsD]
  rw [elem_map (x := i) (fun a => eqv_ii S 1199 a i), resB]
  have : (xs.any fun x => x == i) = xs.contains i := by
    rw [Bool.eq_iff_iff]; simp
  rw [this]; simp
theorem all_filter {α : Type} (p q : α → Bool) : ∀ l : List α, (l.filter p).all q = l.all fun x => !p x || q x
  | [] => rfl
  | x :: l => by
    simp only [List.filter_cons, List.all_cons]
    cases p x <;> simp [all_filter p q l]
/-- a list of things that are made turn by turn -/
theorem lc_build {f : D → Store → Res (Option D)} {keep : List (Nat × List D)} {items : List D} {Q : Nat → Nat → SO → Prop} {S : Store} (hk : ∀ T, Src.holds (S ++ T) keep = true) (hz : items.length ≤ 10000)
    (h : ∀ (i : Nat) (x : D) (T : Store), items[i]? = some x → Pst (f x (S ++ T)) (fun r S' => ∃ T' q o, r = some (.ref q) ∧ S' = S ++ T ++ T' ∧ S'[q]? = some o ∧ Q i q o)) :
    Pst (evTurns f keep items [] S) (fun vs S' => ∃ T, S' = S ++ T ∧ vs.length = items.length ∧ ∀ i, i < items.length → ∃ q o, vs[i]? = some (.ref q) ∧ S'[q]? = some o ∧ Q i q o) := by
  refine turns_all (fun i acc S' => ∃ T, S' = S ++ T ∧ acc.length = i ∧ ∀ j, j < i → ∃ q o, acc[j]? = some (.ref q) ∧ S'[q]? = some o ∧ Q j q o) (fun i x acc S' hx hI => ?_) (fun acc S' hI => ?_) ⟨[], by simp, rfl, fun j hj => absurd hj (Nat.not_lt_zero _)⟩
  · obtain ⟨T, rfl, hal, hq⟩ := hI
    have hi := (List.getElem?_eq_some_iff.mp hx).1
    refine ⟨hk T, (h i x T hx).mono ?_⟩
    rintro _ S' ⟨T', q, o, rfl, rfl, hq1, hQ⟩
    refine ⟨by unfold sizeL; omega, T ++ T', by simp, by simp [hal], fun j hj => ?_⟩
    by_cases e : j = i
    · subst e
      exact ⟨q, o, by rw [← hal, List.getElem?_append_right (Nat.le_refl _)]; simp, hq1, hQ⟩
    · obtain ⟨q', o', h1, h2, h3⟩ := hq j (by omega)
      exact ⟨q', o', by rw [List.getElem?_append_left (by omega)]; exact h1, by rw [List.getElem?_append_left (List.getElem?_eq_some_iff.mp h2).1]; exact h2, h3⟩
  · obtain ⟨T, rfl, _⟩ := hI
    exact hk T
/-- rows of truths -/
def MatAt (S : Store) (n : Nat) (vs : List D) (W : Nat → Nat → Bool) : Prop := vs.length = n ∧ ∀ i, i < n → ∃ q, vs[i]? = some (.ref q) ∧ S[q]? = some (.lst ((List.range n).map fun j => .bl (W i j)))
theorem MatAt.fr {ex : Nat → Prop} {X S : Store} {n : Nat} {vs : List D} {W : Nat → Nat → Bool} (h : MatAt X n vs W) (f : Fr ex X S) (hx : ∀ j, D.ref j ∈ vs → ¬ ex j) : MatAt S n vs W :=
  ⟨h.1, fun i hi => by
    obtain ⟨q, h1, h2⟩ := h.2 i hi
    exact ⟨q, h1, f.get h2 (hx q (List.mem_of_getElem? h1))⟩⟩
theorem MatAt.ix {S : Store} {n : Nat} {vs : List D} {W : Nat → Nat → Bool} (h : MatAt S n vs W) {c i j : Nat} (hc : S[c]? = some (.lst vs)) (hi : i < n) (hj : j < n) : ∃ q, ixEv (.ref c) (.int (i : Int)) S = .ok (.ref q) S none ∧ ixEv (.ref q) (.int (j : Int)) S = .ok (.bl (W i j)) S none := by
  obtain ⟨q, h1, h2⟩ := h.2 i hi
  refine ⟨q, ix_lst hc (by omega) (by rw [Int.toNat_natCast]; exact h1), ix_lst h2 (by omega) ?_⟩
  rw [Int.toNat_natCast, List.getElem?_map, List.getElem?_range hj]; rfl
theorem range_items (n : Nat) : rangeD 0 (n : Int).toNat = natsD (List.range n) := by
  unfold rangeD natsD
  rw [Int.toNat_natCast]
  refine List.map_congr_left fun k _ => ?_
  simp
theorem turns_every {α : Type} {f : D → Store → Res (Option D)} {keep : List (Nat × List D)} {S : Store} (F G : α → D) (hk : Src.holds S keep = true) (l : List α) (h : ∀ x ∈ l, f (F x) S = .ok (some (G x)) S none) (hl : l.length ≤ sizeL) :
    evTurns f keep (l.map F) [] S = .ok (l.map G) S none := by
  rw [turns_on F G (fun _ => true) hk l [] (fun x hx => by rw [h x hx]; rfl) (by simpa using hl)]
  have : l.filter (fun _ => true) = l := List.filter_eq_self.mpr fun _ _ => rfl
  rw [this]; simp
end NF

namespace K15
open PySem L2 NF
section
variable {P : Nat → Option FD} {L : Nat} (hp : HP P)
include hp
theorem due_spec {n : Nat} {S : Store} {g : PG} (ok : g.Ok) (hL : 300 ≤ L) {sm : Nat → List (List Nat)} {a q : Nat} {kvs : List (D × D)} (ha : S[a]? = some (.lst (g.names.map .str))) (hq : S[q]? = some (.dict kvs))
    (hD : DAt S kvs g.names (fun x r o => ∃ i, i < g.n ∧ x = g.nm i ∧ o = .lst ((sm i).map .str))) :
    NF.run P L (n + 1) 14 [.ref a, .ref q] S = .ok (.ref S.length) (S ++ [.lst ((g.groupsOf fun i j => (sm i).contains (g.nm j)).map g.gD)]) none := by
  have hfew := ok.few
  obtain ⟨adj, hadj⟩ : ∃ adj : Nat → Nat → Bool, adj = fun i j => (sm i).contains (g.nm j) := ⟨_, rfl⟩
  rw [← hadj]
  have hnmD : g.names.map D.str = (List.range g.n).map fun j => D.str (g.nm j) := by unfold PG.names; simp
  rw [hnmD] at ha
  have cl : Gr.Cl g.n (Gr.ws adj g.n) := ⟨fun i j k hj h1 h2 => Gr.ws_trans g.n hj h1 h2⟩
  have hgetD : ∀ i, i < g.n → ∀ S', Fr (fun _ => False) S S' → ∃ r, ixEv (.ref q) (.str (g.nm i)) S' = .ok (.ref r) S' none ∧ S'[r]? = some (.lst ((sm i).map .str)) := fun i hi S' f => by
    obtain ⟨r, o, h1, h2, j, hj, e, rfl⟩ := hD.get (g.nm i) (PG.mem_names.mpr ⟨i, hi, rfl⟩)
    have := ok.inj i j hi hj e
    subst this
    have hq' := f.get hq id
    exact ⟨r, by simp only [ixEv, D.dict?, hq', D.isKey, if_true, h1, ofOpt], f.get h2 id⟩
  have hln : ∀ S', Fr (fun _ => False) S S' → biEv .len [.ref a] S' = .ok (.int (g.n : Int)) S' none := fun S' f => by
    rw [len_ref (f.get ha id)]; simp
  refine eq_of2 (run_pstB hp.h14 rfl ?_)
  simp only [NF.start, evSs, evS, evE, evEs, evT, PstSB.andThen_, PstSB.seq_, PstB.bind_, PstSB.if_, PstB.if_, PstSB.nx_, PstSB.rt_, PstB.ok_, List.map_cons, List.map_nil, List.length_cons, List.length_nil, List.replicate, List.cons_append, List.nil_append, List.getElem?_cons_zero, List.getElem?_cons_succ, setG_nm, setG_tp, new, selArgs, List.set_cons_zero, List.set_cons_succ, evE_lcE, evI, sizeL, Nat.reduceAdd, Nat.reduceLeDiff, Nat.reduceLT, Nat.reduceSub, if_true, if_false, reduceIte, Nat.zero_add, Nat.lt_add_one, Nat.zero_lt_succ, reduceCtorEq, Nat.reducePow, Nat.reduceLeDiff, Nat.zero_le, esc_none, true_and, c14, srcOf, ha, ofOpt]
  refine (lc_build (Q := fun i q o => o = .lst ((List.range g.n).map fun j => .bl (adj i j))) (fun T => by simp only [Src.holds, List.all_cons, List.all_nil, (Fr.app (ex := fun _ => False) S T).get ha id, decide_true, Bool.and_true]) (by simp; omega) (fun i x T hx => ?_)).toB.mono ?_
  · rw [List.getElem?_map, Option.map_eq_some_iff] at hx
    obtain ⟨j, hj, rfl⟩ := hx
    have hi := (List.getElem?_eq_some_iff.mp hj).1
    rw [List.length_range] at hi
    rw [List.getElem?_range hi] at hj
    cases hj
    have f := Fr.app (ex := fun _ => False) S T
    obtain ⟨r, h1, h2⟩ := hgetD i hi _ f
    have ha' := f.get ha id
    simp only [NF.start, evSs, evS, evE, evEs, evT, PstS.andThen_, PstS.seq_, Pst.bind_, PstS.if_, Pst.if_, PstS.nx_, PstS.rt_, Pst.ok_, List.map_cons, List.map_nil, List.length_cons, List.length_nil, List.replicate, List.cons_append, List.nil_append, List.getElem?_cons_zero, List.getElem?_cons_succ, setG_nm, setG_tp, new, selArgs, List.set_cons_zero, List.set_cons_succ, evE_lcE, evI, sizeL, Nat.reduceAdd, Nat.reduceLeDiff, Nat.reduceLT, Nat.reduceSub, if_true, if_false, reduceIte, Nat.zero_add, Nat.lt_add_one, Nat.zero_lt_succ, reduceCtorEq, Nat.reducePow, Nat.reduceLeDiff, Nat.zero_le, lcTurnE, wipeE, evIfs, srcOf, ha', ofOpt]
    rw [turns_every (fun j => D.str (g.nm j)) (fun j => D.bl (adj i j)) (by simp only [Src.holds, List.all_cons, List.all_nil, ha', decide_true, Bool.and_true]) (List.range g.n) (fun j hj => ?_) (by simp; unfold sizeL; omega)]
    · try simp only [NF.start, evSs, evS, evE, evEs, evT, PstS.andThen_, PstS.seq_, Pst.bind_, PstS.if_, Pst.if_, PstS.nx_, PstS.rt_, Pst.ok_, List.map_cons, List.map_nil, List.length_cons, List.length_nil, List.replicate, List.cons_append, List.nil_append, List.getElem?_cons_zero, List.getElem?_cons_succ, setG_nm, setG_tp, new, selArgs, List.set_cons_zero, List.set_cons_succ, evE_lcE, evI, sizeL, Nat.reduceAdd, Nat.reduceLeDiff, Nat.reduceLT, Nat.reduceSub, if_true, if_false, reduceIte, Nat.zero_add, Nat.lt_add_one, Nat.zero_lt_succ, reduceCtorEq, Nat.reducePow, Nat.reduceLeDiff, Nat.zero_le]
      exact ⟨_, _, _, rfl, rfl, last_get _ _, rfl⟩
    · refine eq_of ?_
      simp only [NF.start, evSs, evS, evE, evEs, evT, PstS.andThen_, PstS.seq_, Pst.bind_, PstS.if_, Pst.if_, PstS.nx_, PstS.rt_, Pst.ok_, List.map_cons, List.map_nil, List.length_cons, List.length_nil, List.replicate, List.cons_append, List.nil_append, List.getElem?_cons_zero, List.getElem?_cons_succ, setG_nm, setG_tp, new, selArgs, List.set_cons_zero, List.set_cons_succ, evE_lcE, evI, sizeL, Nat.reduceAdd, Nat.reduceLeDiff, Nat.reduceLT, Nat.reduceSub, if_true, if_false, reduceIte, Nat.zero_add, Nat.lt_add_one, Nat.zero_lt_succ, reduceCtorEq, Nat.reducePow, Nat.reduceLeDiff, Nat.zero_le, lcTurnE, wipeE, evIfs, h1]
      rw [in_lst (sm i) h2]
      rw [hadj]
      exact ⟨rfl, rfl⟩
  · rintro vs S1 ⟨T1, rfl, hvl, hvs⟩
    simp only [List.length_map, List.length_range] at hvl hvs
    have hM0 : MatAt (S ++ T1) g.n vs (Gr.ws adj 0) := ⟨hvl, fun i hi => by
      obtain ⟨q, o, h1, h2, rfl⟩ := hvs i hi
      exact ⟨q, h1, h2⟩⟩
    have f1 := Fr.app (ex := fun _ => False) S T1
    clear hvs
    have f1' := f1.push [SO.lst vs]
    simp only [NF.start, evSs, evS, evE, evEs, evT, PstSB.andThen_, PstSB.seq_, PstB.bind_, PstSB.if_, PstB.if_, PstSB.nx_, PstSB.rt_, PstB.ok_, List.map_cons, List.map_nil, List.length_cons, List.length_nil, List.replicate, List.cons_append, List.nil_append, List.getElem?_cons_zero, List.getElem?_cons_succ, setG_nm, setG_tp, new, selArgs, List.set_cons_zero, List.set_cons_succ, evE_lcE, evI, sizeL, Nat.reduceAdd, Nat.reduceLeDiff, Nat.reduceLT, Nat.reduceSub, if_true, if_false, reduceIte, Nat.zero_add, Nat.lt_add_one, Nat.zero_lt_succ, reduceCtorEq, Nat.reducePow, Nat.reduceLeDiff, Nat.zero_le, esc_none, true_and, hln _ f1']
    rw [if_pos (show -(2 : Int) ^ 62 ≤ (g.n : Int) ∧ (g.n : Int) < 2 ^ 62 by omega), range_items]
    try simp only [NF.start, evSs, evS, evE, evEs, evT, PstSB.andThen_, PstSB.seq_, PstB.bind_, PstSB.if_, PstB.if_, PstSB.nx_, PstSB.rt_, PstB.ok_, List.map_cons, List.map_nil, List.length_cons, List.length_nil, List.replicate, List.cons_append, List.nil_append, List.getElem?_cons_zero, List.getElem?_cons_succ, setG_nm, setG_tp, new, selArgs, List.set_cons_zero, List.set_cons_succ, evE_lcE, evI, sizeL, Nat.reduceAdd, Nat.reduceLeDiff, Nat.reduceLT, Nat.reduceSub, if_true, if_false, reduceIte, Nat.zero_add, Nat.lt_add_one, Nat.zero_lt_succ, reduceCtorEq, Nat.reducePow, Nat.reduceLeDiff, Nat.zero_le, esc_none, true_and]
    refine PstSB.mono (rt := fun _ _ => False) (nx := fun σ S' => ∃ c vs a3, σ = [some (.ref a), some (.ref q), some (.ref c), a3, none, none, none, none, none, none, none, none, none] ∧ Fr (fun _ => False) S S' ∧ S'[c]? = some (.lst vs) ∧ MatAt S' g.n vs (Gr.ws adj g.n))
      (for_allB (fun k σ S' => ∃ c vs a3, σ = [some (.ref a), some (.ref q), some (.ref c), a3, none, none, none, none, none, none, none, none, none] ∧ Fr (fun _ => False) S S' ∧ S'[c]? = some (.lst vs) ∧ MatAt S' g.n vs (Gr.ws adj k)) (fun k x σ S' hx hI => ?_) (fun σ S' hI => ?_) ⟨(S ++ T1).length, vs, none, by simp, f1', last_get _ _, hM0.fr (Fr.app (ex := fun _ => False) _ _) (fun _ _ => id)⟩) ?_ (fun _ _ h => h.elim)
    · obtain ⟨c, vs, a3, rfl, f, hc, hM⟩ := hI
      unfold natsD at hx
      rw [List.getElem?_map, Option.map_eq_some_iff] at hx
      obtain ⟨j, hj, rfl⟩ := hx
      have hk := (List.getElem?_eq_some_iff.mp hj).1
      rw [List.length_range] at hk
      rw [List.getElem?_range hk] at hj
      cases hj
      refine ⟨rfl, ?_⟩
      simp only [NF.start, evSs, evS, evE, evEs, evT, PstSB.andThen_, PstSB.seq_, PstB.bind_, PstSB.if_, PstB.if_, PstSB.nx_, PstSB.rt_, PstB.ok_, List.map_cons, List.map_nil, List.length_cons, List.length_nil, List.replicate, List.cons_append, List.nil_append, List.getElem?_cons_zero, List.getElem?_cons_succ, setG_nm, setG_tp, new, selArgs, List.set_cons_zero, List.set_cons_succ, evE_lcE, evI, sizeL, Nat.reduceAdd, Nat.reduceLeDiff, Nat.reduceLT, Nat.reduceSub, if_true, if_false, reduceIte, Nat.zero_add, Nat.lt_add_one, Nat.zero_lt_succ, reduceCtorEq, Nat.reducePow, Nat.reduceLeDiff, Nat.zero_le, esc_none, true_and, srcOf, hc, ofOpt]
      refine (lc_build (Q := fun i q o => o = .lst ((List.range g.n).map fun j => .bl (Gr.ws adj (k + 1) i j))) (fun T => by simp only [Src.holds, List.all_cons, List.all_nil, (Fr.app (ex := fun _ => False) S' T).get hc id, decide_true, Bool.and_true]) (by rw [hM.1]; omega) (fun i x T hx => ?_)).toB.mono ?_
      · have hi := (List.getElem?_eq_some_iff.mp hx).1
        rw [hM.1] at hi
        have f2 := Fr.app (ex := fun _ => False) S' T
        have hM' := hM.fr f2 fun _ _ => id
        obtain ⟨r, h1, h2⟩ := hM'.2 i hi
        rw [hx] at h1
        cases h1
        simp only [NF.start, evSs, evS, evE, evEs, evT, PstS.andThen_, PstS.seq_, Pst.bind_, PstS.if_, Pst.if_, PstS.nx_, PstS.rt_, Pst.ok_, List.map_cons, List.map_nil, List.length_cons, List.length_nil, List.replicate, List.cons_append, List.nil_append, List.getElem?_cons_zero, List.getElem?_cons_succ, setG_nm, setG_tp, new, selArgs, List.set_cons_zero, List.set_cons_succ, evE_lcE, evI, sizeL, Nat.reduceAdd, Nat.reduceLeDiff, Nat.reduceLT, Nat.reduceSub, if_true, if_false, reduceIte, Nat.zero_add, Nat.lt_add_one, Nat.zero_lt_succ, reduceCtorEq, Nat.reducePow, Nat.reduceLeDiff, Nat.zero_le, lcTurnE, wipeE, evIfs, hln _ (f.trans f2)]
        rw [if_pos (show -(2 : Int) ^ 62 ≤ (g.n : Int) ∧ (g.n : Int) < 2 ^ 62 by omega), range_items]
        try simp only [NF.start, evSs, evS, evE, evEs, evT, PstS.andThen_, PstS.seq_, Pst.bind_, PstS.if_, Pst.if_, PstS.nx_, PstS.rt_, Pst.ok_, List.map_cons, List.map_nil, List.length_cons, List.length_nil, List.replicate, List.cons_append, List.nil_append, List.getElem?_cons_zero, List.getElem?_cons_succ, setG_nm, setG_tp, new, selArgs, List.set_cons_zero, List.set_cons_succ, evE_lcE, evI, sizeL, Nat.reduceAdd, Nat.reduceLeDiff, Nat.reduceLT, Nat.reduceSub, if_true, if_false, reduceIte, Nat.zero_add, Nat.lt_add_one, Nat.zero_lt_succ, reduceCtorEq, Nat.reducePow, Nat.reduceLeDiff, Nat.zero_le]
        unfold natsD
        rw [turns_every (fun (j : Nat) => D.int (j : Int)) (fun j => D.bl (Gr.ws adj (k + 1) i j)) rfl (List.range g.n) (fun j hj => ?_) (by simp; unfold sizeL; omega)]
        · try simp only [NF.start, evSs, evS, evE, evEs, evT, PstS.andThen_, PstS.seq_, Pst.bind_, PstS.if_, Pst.if_, PstS.nx_, PstS.rt_, Pst.ok_, List.map_cons, List.map_nil, List.length_cons, List.length_nil, List.replicate, List.cons_append, List.nil_append, List.getElem?_cons_zero, List.getElem?_cons_succ, setG_nm, setG_tp, new, selArgs, List.set_cons_zero, List.set_cons_succ, evE_lcE, evI, sizeL, Nat.reduceAdd, Nat.reduceLeDiff, Nat.reduceLT, Nat.reduceSub, if_true, if_false, reduceIte, Nat.zero_add, Nat.lt_add_one, Nat.zero_lt_succ, reduceCtorEq, Nat.reducePow, Nat.reduceLeDiff, Nat.zero_le]
          exact ⟨_, _, _, rfl, rfl, last_get _ _, rfl⟩
        · have hj : j < g.n := by simpa using hj
          have e1 : ∀ j, j < g.n → ixEv (.ref r) (.int (j : Int)) (S' ++ T) = .ok (.bl (Gr.ws adj k i j)) (S' ++ T) none := fun j hj => ix_lst h2 (by omega) (by rw [Int.toNat_natCast, List.getElem?_map, List.getElem?_range hj]; rfl)
          obtain ⟨r2, e2, e3⟩ := hM'.ix (f2.get hc id) hk hj
          refine eq_of ?_
          simp only [NF.start, evSs, evS, evE, evEs, evT, PstS.andThen_, PstS.seq_, Pst.bind_, PstS.if_, Pst.if_, PstS.nx_, PstS.rt_, Pst.ok_, List.map_cons, List.map_nil, List.length_cons, List.length_nil, List.replicate, List.cons_append, List.nil_append, List.getElem?_cons_zero, List.getElem?_cons_succ, setG_nm, setG_tp, new, selArgs, List.set_cons_zero, List.set_cons_succ, evE_lcE, evI, sizeL, Nat.reduceAdd, Nat.reduceLeDiff, Nat.reduceLT, Nat.reduceSub, if_true, if_false, reduceIte, Nat.zero_add, Nat.lt_add_one, Nat.zero_lt_succ, reduceCtorEq, Nat.reducePow, Nat.reduceLeDiff, Nat.zero_le, lcTurnE, wipeE, evIfs, e1 j hj, e1 k hk, truth_bl, e2, e3]
          rw [Gr.ws]
          cases Gr.ws adj k i j <;> cases Gr.ws adj k i k <;> simp [Pst]
      · rintro vs2 S2 ⟨T2, rfl, hvl2, hvs2⟩
        rw [hM.1] at hvl2 hvs2
        try simp only [NF.start, evSs, evS, evE, evEs, evT, PstSB.andThen_, PstSB.seq_, PstB.bind_, PstSB.if_, PstB.if_, PstSB.nx_, PstSB.rt_, PstB.ok_, List.map_cons, List.map_nil, List.length_cons, List.length_nil, List.replicate, List.cons_append, List.nil_append, List.getElem?_cons_zero, List.getElem?_cons_succ, setG_nm, setG_tp, new, selArgs, List.set_cons_zero, List.set_cons_succ, evE_lcE, evI, sizeL, Nat.reduceAdd, Nat.reduceLeDiff, Nat.reduceLT, Nat.reduceSub, if_true, if_false, reduceIte, Nat.zero_add, Nat.lt_add_one, Nat.zero_lt_succ, reduceCtorEq, Nat.reducePow, Nat.reduceLeDiff, Nat.zero_le, esc_none, true_and]
        refine ⟨_, vs2, _, rfl, (f.push _).push _, last_get _ _, ?_⟩
        refine MatAt.fr (X := S' ++ T2) ⟨hvl2, fun i hi => ?_⟩ (Fr.app (ex := fun _ => False) _ _) fun _ _ => id
        obtain ⟨q, o, h1, h2, rfl⟩ := hvs2 i hi
        exact ⟨q, h1, h2⟩
    · obtain ⟨c, vs, a3, rfl, f, hc, hM⟩ := hI
      simp only [natsD, List.length_map, List.length_range] at hM
      exact ⟨rfl, c, vs, a3, rfl, f, hc, hM⟩
    · rintro σ S2 ⟨c, vs, a3, rfl, f2, hc, hM⟩
      have hR : ∀ i j, j < g.n → (Gr.ws adj g.n i j = true ↔ Gr.Pth g.n adj i j) := fun i j hj => Gr.ws_iff hj
      have hgroups : g.groupsOf adj = Gr.ord g.n (Gr.ws adj g.n) (Gr.gl g.n (Gr.ws adj g.n) g.n).length (Gr.gl g.n (Gr.ws adj g.n) g.n) [] := rfl
      generalize hRR : Gr.ws adj g.n = R at cl hR hgroups hM
      have f2' := f2.push [SO.lst []]
      have hl2 := f2.len
      simp only [NF.start, evSs, evS, evE, evEs, evT, PstSB.andThen_, PstSB.seq_, PstB.bind_, PstSB.if_, PstB.if_, PstSB.nx_, PstSB.rt_, PstB.ok_, List.map_cons, List.map_nil, List.length_cons, List.length_nil, List.replicate, List.cons_append, List.nil_append, List.getElem?_cons_zero, List.getElem?_cons_succ, setG_nm, setG_tp, new, selArgs, List.set_cons_zero, List.set_cons_succ, evE_lcE, evI, sizeL, Nat.reduceAdd, Nat.reduceLeDiff, Nat.reduceLT, Nat.reduceSub, if_true, if_false, reduceIte, Nat.zero_add, Nat.lt_add_one, Nat.zero_lt_succ, reduceCtorEq, Nat.reducePow, Nat.reduceLeDiff, Nat.zero_le, esc_none, true_and, hln _ f2']
      rw [if_pos (show -(2 : Int) ^ 62 ≤ (g.n : Int) ∧ (g.n : Int) < 2 ^ 62 by omega), range_items]
      try simp only [NF.start, evSs, evS, evE, evEs, evT, PstSB.andThen_, PstSB.seq_, PstB.bind_, PstSB.if_, PstB.if_, PstSB.nx_, PstSB.rt_, PstB.ok_, List.map_cons, List.map_nil, List.length_cons, List.length_nil, List.replicate, List.cons_append, List.nil_append, List.getElem?_cons_zero, List.getElem?_cons_succ, setG_nm, setG_tp, new, selArgs, List.set_cons_zero, List.set_cons_succ, evE_lcE, evI, sizeL, Nat.reduceAdd, Nat.reduceLeDiff, Nat.reduceLT, Nat.reduceSub, if_true, if_false, reduceIte, Nat.zero_add, Nat.lt_add_one, Nat.zero_lt_succ, reduceCtorEq, Nat.reducePow, Nat.reduceLeDiff, Nat.zero_le, esc_none, true_and]
      obtain ⟨X, hX⟩ : ∃ X, X = S2 ++ [SO.lst []] := ⟨_, rfl⟩
      have hXl : X.length = S2.length + 1 := by rw [hX]; simp
      have hcX : X[c]? = some (.lst vs) := by rw [hX]; exact (Fr.app (ex := fun _ => False) _ _).get hc id
      have hcl : c < S2.length := (List.getElem?_eq_some_iff.mp hc).1
      have hMX : MatAt X g.n vs R := by rw [hX]; exact hM.fr (Fr.app (ex := fun _ => False) _ _) fun _ _ => id
      have hMl : ∀ j, D.ref j ∈ vs → j < S2.length := fun j hj => by
        obtain ⟨i, hi, e⟩ := List.mem_iff_getElem.mp hj
        rw [hM.1] at hi
        obtain ⟨q, h1, h2⟩ := hM.2 i hi
        rw [List.getElem?_eq_getElem (by rw [hM.1]; exact hi), e] at h1
        cases h1
        exact (List.getElem?_eq_some_iff.mp h2).1
      have hlX : X[S2.length]? = some (.lst []) := by rw [hX]; exact last_get _ _
      have fX : Fr (fun _ => False) S X := by rw [hX]; exact f2'
      rw [← hX]
      clear hX hc hM f2'
      refine PstSB.mono (rt := fun _ _ => False) (nx := fun σ S' => ∃ (a3 a7 : Option D) (rs : List Nat) (cont : Nat → List Nat), σ = [some (.ref a), some (.ref q), some (.ref c), a3, some (.ref S2.length), none, none, a7, none, none, none, none, none] ∧ Fr (fun j => j = S2.length) X S' ∧ S'[S2.length]? = some (.lst (rs.map .ref)) ∧ (∀ x ∈ rs, X.length ≤ x ∧ S'[x]? = some (.lst (natsD (cont x)))) ∧ rs.map cont = Gr.gl g.n R g.n)
        (for_allB (fun k σ S' => ∃ (a3 a7 : Option D) (rs : List Nat) (cont : Nat → List Nat), σ = [some (.ref a), some (.ref q), some (.ref c), a3, some (.ref S2.length), none, none, a7, none, none, none, none, none] ∧ Fr (fun j => j = S2.length) X S' ∧ S'[S2.length]? = some (.lst (rs.map .ref)) ∧ (∀ x ∈ rs, X.length ≤ x ∧ S'[x]? = some (.lst (natsD (cont x)))) ∧ rs.map cont = Gr.gl g.n R k) (fun k x σ S' hx hI => ?_) (fun σ S' hI => ?_) ⟨a3, none, [], fun _ => [], rfl, Fr.refl, hlX, by simp, rfl⟩) ?_ (fun _ _ h => h.elim)
      · obtain ⟨a3, a7, rs, cont, rfl, fr, hrs, hcont, hgl⟩ := hI
        unfold natsD at hx
        rw [List.getElem?_map, Option.map_eq_some_iff] at hx
        obtain ⟨j, hj, rfl⟩ := hx
        have hk := (List.getElem?_eq_some_iff.mp hj).1
        rw [List.length_range] at hk
        rw [List.getElem?_range hk] at hj
        cases hj
        refine ⟨rfl, ?_⟩
        have fS : Fr (fun _ => False) S S' := (fX.trans (Fr.refl)).len |> fun _ => ⟨by have := fr.len; have := fX.len; omega, fun j hj _ => by rw [fr.old j (by have := fX.len; omega) (by omega)]; exact fX.old j hj id⟩
        have hM' := hMX.fr fr fun j hj => by have := hMl j hj; omega
        have hc' := fr.get hcX (by omega)
        simp only [NF.start, evSs, evS, evE, evEs, evT, PstSB.andThen_, PstSB.seq_, PstB.bind_, PstSB.if_, PstB.if_, PstSB.nx_, PstSB.rt_, PstB.ok_, List.map_cons, List.map_nil, List.length_cons, List.length_nil, List.replicate, List.cons_append, List.nil_append, List.getElem?_cons_zero, List.getElem?_cons_succ, setG_nm, setG_tp, new, selArgs, List.set_cons_zero, List.set_cons_succ, evE_lcE, evI, sizeL, Nat.reduceAdd, Nat.reduceLeDiff, Nat.reduceLT, Nat.reduceSub, if_true, if_false, reduceIte, Nat.zero_add, Nat.lt_add_one, Nat.zero_lt_succ, reduceCtorEq, Nat.reducePow, Nat.reduceLeDiff, Nat.zero_le, esc_none, true_and, hln _ fS]
        rw [if_pos (show -(2 : Int) ^ 62 ≤ (g.n : Int) ∧ (g.n : Int) < 2 ^ 62 by omega), range_items]
        try simp only [NF.start, evSs, evS, evE, evEs, evT, PstSB.andThen_, PstSB.seq_, PstB.bind_, PstSB.if_, PstB.if_, PstSB.nx_, PstSB.rt_, PstB.ok_, List.map_cons, List.map_nil, List.length_cons, List.length_nil, List.replicate, List.cons_append, List.nil_append, List.getElem?_cons_zero, List.getElem?_cons_succ, setG_nm, setG_tp, new, selArgs, List.set_cons_zero, List.set_cons_succ, evE_lcE, evI, sizeL, Nat.reduceAdd, Nat.reduceLeDiff, Nat.reduceLT, Nat.reduceSub, if_true, if_false, reduceIte, Nat.zero_add, Nat.lt_add_one, Nat.zero_lt_succ, reduceCtorEq, Nat.reducePow, Nat.reduceLeDiff, Nat.zero_le, esc_none, true_and]
        unfold natsD
        rw [turns_on (fun (j : Nat) => D.int (j : Int)) (fun (j : Nat) => D.int (j : Int)) (Gr.eqv R k) rfl (List.range g.n) [] (fun j hj => ?_) (by simp; unfold sizeL; omega)]
        · have hgrp : (List.filter (Gr.eqv R k) (List.range g.n)).map (fun (j : Nat) => D.int (j : Int)) = natsD (Gr.grp g.n R k) := rfl
          rw [List.nil_append, hgrp]
          have hnew := last_get S' (SO.lst (natsD (Gr.grp g.n R k)))
          have hrs' : (S' ++ [SO.lst (natsD (Gr.grp g.n R k))])[S2.length]? = some (.lst (rs.map .ref)) := by rw [List.getElem?_append_left (by have := fr.len; omega)]; exact hrs
          have hcont' : ∀ x ∈ rs, (S' ++ [SO.lst (natsD (Gr.grp g.n R k))])[x]? = some (.lst (natsD (cont x))) := fun x hx => by
            have := (hcont x hx).2
            rw [List.getElem?_append_left (List.getElem?_eq_some_iff.mp this).1]; exact this
          have hni : cmpEv .notin (.ref S'.length) (.ref S2.length) (S' ++ [SO.lst (natsD (Gr.grp g.n R k))]) = .ok (.bl (!(Gr.gl g.n R k).contains (Gr.grp g.n R k))) (S' ++ [SO.lst (natsD (Gr.grp g.n R k))]) none := by
            show inEv true (.ref S'.length) (.ref S2.length) _ = _
            have h1 : (D.ref S2.length).dict? (S' ++ [SO.lst (natsD (Gr.grp g.n R k))]) = none := by simp only [D.dict?, hrs']
            have h2 : (D.ref S2.length).seq? (S' ++ [SO.lst (natsD (Gr.grp g.n R k))]) = some (rs.map .ref) := by simp only [D.seq?, D.lst?, hrs']
            simp only [inEv, h1, h2]
            have hel : elemL (D.eqv (S' ++ [SO.lst (natsD (Gr.grp g.n R k))]) eqN) (.ref S'.length) (rs.map .ref) = some (rs.any fun x => cont x == Gr.grp g.n R k) := elem_on (fun x hx => eqv_lstI (n := 1198) (hcont' x hx) hnew)
            rw [hel, resB]
            have : (rs.any fun x => cont x == Gr.grp g.n R k) = (Gr.gl g.n R k).contains (Gr.grp g.n R k) := by
              rw [← hgl, Bool.eq_iff_iff]
              simp
            rw [this]; simp
          have hgl1 : Gr.gl g.n R (k + 1) = if (Gr.gl g.n R k).contains (Gr.grp g.n R k) = true then Gr.gl g.n R k else Gr.gl g.n R k ++ [Gr.grp g.n R k] := by rw [Gr.gl]
          simp only [NF.start, evSs, evS, evE, evEs, evT, PstSB.andThen_, PstSB.seq_, PstB.bind_, PstSB.if_, PstB.if_, PstSB.nx_, PstSB.rt_, PstB.ok_, List.map_cons, List.map_nil, List.length_cons, List.length_nil, List.replicate, List.cons_append, List.nil_append, List.getElem?_cons_zero, List.getElem?_cons_succ, setG_nm, setG_tp, new, selArgs, List.set_cons_zero, List.set_cons_succ, evE_lcE, evI, sizeL, Nat.reduceAdd, Nat.reduceLeDiff, Nat.reduceLT, Nat.reduceSub, if_true, if_false, reduceIte, Nat.zero_add, Nat.lt_add_one, Nat.zero_lt_succ, reduceCtorEq, Nat.reducePow, Nat.reduceLeDiff, Nat.zero_le, esc_none, true_and, hni]
          cases hcn : (Gr.gl g.n R k).contains (Gr.grp g.n R k) with
          | true =>
            rw [hcn, if_pos rfl] at hgl1
            simp only [NF.start, evSs, evS, evE, evEs, evT, PstSB.andThen_, PstSB.seq_, PstB.bind_, PstSB.if_, PstB.if_, PstSB.nx_, PstSB.rt_, PstB.ok_, List.map_cons, List.map_nil, List.length_cons, List.length_nil, List.replicate, List.cons_append, List.nil_append, List.getElem?_cons_zero, List.getElem?_cons_succ, setG_nm, setG_tp, new, selArgs, List.set_cons_zero, List.set_cons_succ, evE_lcE, evI, sizeL, Nat.reduceAdd, Nat.reduceLeDiff, Nat.reduceLT, Nat.reduceSub, if_true, if_false, reduceIte, Nat.zero_add, Nat.lt_add_one, Nat.zero_lt_succ, reduceCtorEq, Nat.reducePow, Nat.reduceLeDiff, Nat.zero_le, esc_none, true_and, Bool.not_true, Bool.false_eq_true]
            exact ⟨_, _, rs, cont, rfl, fr.push _, hrs', fun x hx => ⟨(hcont x hx).1, hcont' x hx⟩, by rw [hgl1]; exact hgl⟩
          | false =>
            rw [hcn, if_neg (by decide)] at hgl1
            have hll := Gr.gl_len (n := g.n) (R := R) k
            have hrl : rs.length < 16777216 := by
              have := congrArg List.length hgl
              rw [List.length_map] at this
              omega
            have hrl : (rs.map D.ref).length < 16777216 := by rw [List.length_map]; exact hrl
            simp only [NF.start, evSs, evS, evE, evEs, evT, PstSB.andThen_, PstSB.seq_, PstB.bind_, PstSB.if_, PstB.if_, PstSB.nx_, PstSB.rt_, PstB.ok_, List.map_cons, List.map_nil, List.length_cons, List.length_nil, List.replicate, List.cons_append, List.nil_append, List.getElem?_cons_zero, List.getElem?_cons_succ, setG_nm, setG_tp, new, selArgs, List.set_cons_zero, List.set_cons_succ, evE_lcE, evI, sizeL, Nat.reduceAdd, Nat.reduceLeDiff, Nat.reduceLT, Nat.reduceSub, if_true, if_false, reduceIte, Nat.zero_add, Nat.lt_add_one, Nat.zero_lt_succ, reduceCtorEq, Nat.reducePow, Nat.reduceLeDiff, Nat.zero_le, esc_none, true_and, Bool.not_false, meT, meId, hrs', Option.isSome_some, meEv, lstW, hrl, NF.put, D.mr]
            refine ⟨escOk_ite (by omega), some (.int k), some (.ref S'.length), rs ++ [S'.length], fun x => if x = S'.length then Gr.grp g.n R k else cont x, rfl, (fr.push _).set (.inl rfl) _, ?_, fun x hx => ?_, ?_⟩
            · rw [List.getElem?_set_self (by rw [List.length_append]; have := fr.len; omega)]; simp
            · rcases List.mem_append.mp hx with hx | hx
              · have h1 := hcont x hx
                have h2 := (List.getElem?_eq_some_iff.mp h1.2).1
                refine ⟨h1.1, ?_⟩
                simp only
                rw [if_neg (by omega), List.getElem?_set_ne (by omega)]
                exact hcont' x hx
              · have : x = S'.length := by simpa using hx
                subst this
                refine ⟨fr.len, ?_⟩
                rw [List.getElem?_set_ne (by have := fr.len; omega)]
                simp only [if_true]
                exact hnew
            · rw [hgl1, ← hgl, List.map_append]
              congr 1
              · refine List.map_congr_left fun x hx => ?_
                have h2 := (List.getElem?_eq_some_iff.mp (hcont x hx).2).1
                rw [if_neg (by omega)]
              · simp
        · have hj : j < g.n := by simpa using hj
          obtain ⟨r1, e1, e2⟩ := hM'.ix hc' hk hj
          obtain ⟨r2, e3, e4⟩ := hM'.ix hc' hj hk
          refine eq_of ?_
          simp only [NF.start, evSs, evS, evE, evEs, evT, PstS.andThen_, PstS.seq_, Pst.bind_, PstS.if_, Pst.if_, PstS.nx_, PstS.rt_, Pst.ok_, List.map_cons, List.map_nil, List.length_cons, List.length_nil, List.replicate, List.cons_append, List.nil_append, List.getElem?_cons_zero, List.getElem?_cons_succ, setG_nm, setG_tp, new, selArgs, List.set_cons_zero, List.set_cons_succ, evE_lcE, evI, sizeL, Nat.reduceAdd, Nat.reduceLeDiff, Nat.reduceLT, Nat.reduceSub, if_true, if_false, reduceIte, Nat.zero_add, Nat.lt_add_one, Nat.zero_lt_succ, reduceCtorEq, Nat.reducePow, Nat.reduceLeDiff, Nat.zero_le, lcTurnE, wipeE, evIfs, cmp_eqI, e1, e2, e3, e4, truth_bl]
          have : ((j : Int) == (k : Int)) = (j == k) := by rw [Bool.eq_iff_iff]; simp; omega
          rw [this]
          unfold Gr.eqv
          cases (j == k) <;> cases R k j <;> cases R j k <;> simp [Pst]
      · obtain ⟨a3, a7, rs, cont, rfl, fr, hrs, hcont, hgl⟩ := hI
        simp only [natsD, List.length_map, List.length_range] at hgl
        exact ⟨rfl, a3, a7, rs, cont, rfl, fr, hrs, hcont, hgl⟩
      · rintro σ S3 ⟨a3, a7, rs0, cont, rfl, fr, hrs, hcont, hgl⟩
        have hXS3 := fr.len
        obtain ⟨Y, hY⟩ : ∃ Y, Y = S3 ++ [SO.lst []] ++ [SO.lst []] := ⟨_, rfl⟩
        have hl4 : (S3 ++ [SO.lst []]).length = S3.length + 1 := by simp
        simp only [NF.start, evSs, evS, evE, evEs, evT, PstSB.andThen_, PstSB.seq_, PstB.bind_, PstSB.if_, PstB.if_, PstSB.nx_, PstSB.rt_, PstB.ok_, List.map_cons, List.map_nil, List.length_cons, List.length_nil, List.replicate, List.cons_append, List.nil_append, List.getElem?_cons_zero, List.getElem?_cons_succ, setG_nm, setG_tp, new, selArgs, List.set_cons_zero, List.set_cons_succ, evE_lcE, evI, sizeL, Nat.reduceAdd, Nat.reduceLeDiff, Nat.reduceLT, Nat.reduceSub, if_true, if_false, reduceIte, Nat.zero_add, Nat.lt_add_one, Nat.zero_lt_succ, reduceCtorEq, Nat.reducePow, Nat.reduceLeDiff, Nat.zero_le, esc_none, true_and, hl4, evS_whil]
        rw [← hY]
        have hYl : Y.length = S3.length + 2 := by rw [hY]; simp
        have fY : Fr (fun j => j = S2.length) X Y := by rw [hY]; exact (fr.push _).push _
        have hrsY : Y[S2.length]? = some (.lst (rs0.map .ref)) := by rw [hY, List.getElem?_append_left (by simp; omega), List.getElem?_append_left (by omega)]; exact hrs
        have hfY : Y[S3.length]? = some (.lst (([] : List (List Nat)).map g.gD)) := by rw [hY, List.getElem?_append_left (by simp)]; exact last_get _ _
        have hpY : Y[S3.length + 1]? = some (.lst (natsD [])) := by rw [hY, ← hl4]; exact last_get _ _
        have hcY : ∀ x ∈ rs0, X.length ≤ x ∧ x < S3.length ∧ Y[x]? = some (.lst (natsD (cont x))) := fun x hx => by
          have h1 := hcont x hx
          have h2 := (List.getElem?_eq_some_iff.mp h1.2).1
          refine ⟨h1.1, h2, ?_⟩
          rw [hY, List.getElem?_append_left (by simp; omega), List.getElem?_append_left (by omega)]; exact h1.2
        clear hY hl4 fr hrs hcont
        have hgnd : (rs0.map cont).Nodup := by rw [hgl]; exact Gr.gl_nodup _
        have hgll := Gr.gl_len (n := g.n) (R := R) g.n
        have hrsl : rs0.length ≤ 9 := by
          have := congrArg List.length hgl
          rw [List.length_map] at this
          omega
        have hglt : ∀ h ∈ rs0.map cont, ∀ j ∈ h, j < g.n := fun h hh j hj => by
          rw [hgl] at hh
          obtain ⟨k, hk, rfl⟩ := Gr.mem_gl.mp hh
          exact (Gr.mem_grp.mp hj).1
        have hci : ∀ x ∈ rs0, ∀ y ∈ rs0, cont x = cont y → x = y := by
          intro x hx y hy e
          obtain ⟨i, hi, rfl⟩ := List.mem_iff_getElem.mp hx
          obtain ⟨j, hj, rfl⟩ := List.mem_iff_getElem.mp hy
          have hp := List.pairwise_iff_getElem.mp (List.nodup_iff_pairwise_ne.mp hgnd)
          rcases Nat.lt_trichotomy i j with h | h | h
          · exact absurd (by rw [List.getElem_map, List.getElem_map]; exact e) (hp i j (by simpa using hi) (by simpa using hj) h)
          · subst h; rfl
          · exact absurd (by rw [List.getElem_map, List.getElem_map]; exact e.symm) (hp j i (by simpa using hj) (by simpa using hi) h)
        refine PstSB.mono (rt := fun _ _ => False) (nx := fun σ S' => ∃ a1 a3 a4 a6 a7 a8 a9 a10 a11 a12, σ = [a1, some (.ref q), some (.ref c), a3, a4, some (.ref S3.length), a6, a7, a8, a9, a10, a11, a12] ∧ Fr (fun j => j = S2.length ∨ j = S3.length) Y S' ∧ S'[S3.length]? = some (.lst ((g.groupsOf adj).map g.gD)))
          (while_ruleB (fun m σ S' => ∃ (a3 a7 a8 : Option D) (rs : List Nat) (fd : List (List Nat)) (pt : List Nat) (p : Nat), σ = [some (.ref a), some (.ref q), some (.ref c), a3, some (.ref S2.length), some (.ref S3.length), some (.ref p), a7, a8, none, none, none, none] ∧ Fr (fun j => j = S2.length ∨ j = S3.length) Y S' ∧ S'[S2.length]? = some (.lst (rs.map .ref)) ∧ (∀ x ∈ rs, x ∈ rs0) ∧
            S'[S3.length]? = some (.lst (fd.map g.gD)) ∧ S'[p]? = some (.lst (natsD pt)) ∧ S3.length < p ∧ Gr.St g.n R (rs.map cont) pt ∧ fd ++ Gr.ord g.n R rs.length (rs.map cont) pt = g.groupsOf adj ∧ fd.length + rs.length ≤ 9 ∧ pt.length + 10 * rs.length ≤ 100 ∧ m = rs.length) (fun m σ S' hI => ?_) L rs0.length _ _ (by omega) ⟨_, _, _, rs0, [], [], S3.length + 1, rfl, Fr.refl, hrsY, fun x h => h, hfY, hpY, by omega, ?_, ?_, by simpa using hrsl, by simp; omega, rfl⟩) ?_ (fun _ _ h => h.elim)
        · obtain ⟨a3, a7, a8, rs, fd, pt, p, rfl, fr, hrs, hsub, hf, hp, hpl, st, hord, hlen, hptl, rfl⟩ := hI
          have hYS := fr.len
          have hne := cmp_lnilN (S := S' ++ [SO.lst []]) (a := S2.length) (b := S'.length) (xs := rs.map .ref) (by rw [List.getElem?_append_left (by omega)]; exact hrs) (last_get _ _) (by omega)
          simp only [NF.start, evSs, evS, evE, evEs, evT, PstSB.andThen_, PstSB.seq_, PstB.bind_, PstSB.if_, PstB.if_, PstSB.nx_, PstSB.rt_, PstB.ok_, List.map_cons, List.map_nil, List.length_cons, List.length_nil, List.replicate, List.cons_append, List.nil_append, List.getElem?_cons_zero, List.getElem?_cons_succ, setG_nm, setG_tp, new, selArgs, List.set_cons_zero, List.set_cons_succ, evE_lcE, evI, sizeL, Nat.reduceAdd, Nat.reduceLeDiff, Nat.reduceLT, Nat.reduceSub, if_true, if_false, reduceIte, Nat.zero_add, Nat.lt_add_one, Nat.zero_lt_succ, reduceCtorEq, Nat.reducePow, Nat.reduceLeDiff, Nat.zero_le, esc_none, true_and, hne]
          by_cases hr0 : rs = []
          · subst hr0
            simp only [NF.start, evSs, evS, evE, evEs, evT, PstSB.andThen_, PstSB.seq_, PstB.bind_, PstSB.if_, PstB.if_, PstSB.nx_, PstSB.rt_, PstB.ok_, List.map_cons, List.map_nil, List.length_cons, List.length_nil, List.replicate, List.cons_append, List.nil_append, List.getElem?_cons_zero, List.getElem?_cons_succ, setG_nm, setG_tp, new, selArgs, List.set_cons_zero, List.set_cons_succ, evE_lcE, evI, sizeL, Nat.reduceAdd, Nat.reduceLeDiff, Nat.reduceLT, Nat.reduceSub, if_true, if_false, reduceIte, Nat.zero_add, Nat.lt_add_one, Nat.zero_lt_succ, reduceCtorEq, Nat.reducePow, Nat.reduceLeDiff, Nat.zero_le, esc_none, true_and, List.map_nil, List.isEmpty_nil, Bool.not_true, Bool.false_eq_true]
            have : fd = g.groupsOf adj := by rw [← hord]; simp [Gr.ord]
            exact ⟨_, _, _, _, _, _, _, _, _, _, rfl, fr.push _, by rw [List.getElem?_append_left (by omega), hf, this]⟩
          · have e1 : (rs.map D.ref).isEmpty = false := by simpa using hr0
            simp only [NF.start, evSs, evS, evE, evEs, evT, PstSB.andThen_, PstSB.seq_, PstB.bind_, PstSB.if_, PstB.if_, PstSB.nx_, PstSB.rt_, PstB.ok_, List.map_cons, List.map_nil, List.length_cons, List.length_nil, List.replicate, List.cons_append, List.nil_append, List.getElem?_cons_zero, List.getElem?_cons_succ, setG_nm, setG_tp, new, selArgs, List.set_cons_zero, List.set_cons_succ, evE_lcE, evI, sizeL, Nat.reduceAdd, Nat.reduceLeDiff, Nat.reduceLT, Nat.reduceSub, if_true, if_false, reduceIte, Nat.zero_add, Nat.lt_add_one, Nat.zero_lt_succ, reduceCtorEq, Nat.reducePow, Nat.reduceLeDiff, Nat.zero_le, esc_none, true_and, e1, Bool.not_false]
            obtain ⟨Z, hZ⟩ : ∃ Z, Z = S' ++ [SO.lst []] ++ [SO.lst []] := ⟨_, rfl⟩
            have hZl : Z.length = S'.length + 2 := by rw [hZ]; simp
            have hl5 : (S' ++ [SO.lst []]).length = S'.length + 1 := by simp
            have frZ : Fr (fun j => j = S2.length ∨ j = S3.length) Y Z := by rw [hZ]; exact (fr.push _).push _
            have hoZ : ∀ j o, S'[j]? = some o → Z[j]? = some o := fun j o h => by
              have := (List.getElem?_eq_some_iff.mp h).1
              rw [hZ, List.getElem?_append_left (by simp; omega), List.getElem?_append_left (by omega)]; exact h
            have hfree0 : Z[S'.length + 1]? = some (.lst []) := by rw [hZ, ← hl5]; exact last_get _ _
            rw [hl5, ← hZ]
            clear hZ
            have hrsZ := hoZ _ _ hrs
            simp only [NF.start, evSs, evS, evE, evEs, evT, PstSB.andThen_, PstSB.seq_, PstB.bind_, PstSB.if_, PstB.if_, PstSB.nx_, PstSB.rt_, PstB.ok_, List.map_cons, List.map_nil, List.length_cons, List.length_nil, List.replicate, List.cons_append, List.nil_append, List.getElem?_cons_zero, List.getElem?_cons_succ, setG_nm, setG_tp, new, selArgs, List.set_cons_zero, List.set_cons_succ, evE_lcE, evI, sizeL, Nat.reduceAdd, Nat.reduceLeDiff, Nat.reduceLT, Nat.reduceSub, if_true, if_false, reduceIte, Nat.zero_add, Nat.lt_add_one, Nat.zero_lt_succ, reduceCtorEq, Nat.reducePow, Nat.reduceLeDiff, Nat.zero_le, esc_none, true_and, srcOf, hrsZ, ofOpt]
            refine PstSB.mono (rt := fun _ _ => False) (nx := fun σ S4 => ∃ (a7 : Option D), σ = [some (.ref a), some (.ref q), some (.ref c), a3, some (.ref S2.length), some (.ref S3.length), some (.ref p), a7, some (.ref (S'.length + 1)), none, none, none, none] ∧ Fr (fun j => j = S'.length + 1) Z S4 ∧ S4[S'.length + 1]? = some (.lst ((rs.filter fun x => Gr.freeB g.n R pt (cont x)).map .ref)))
              (for_allB (fun i σ S4 => ∃ (a7 : Option D), σ = [some (.ref a), some (.ref q), some (.ref c), a3, some (.ref S2.length), some (.ref S3.length), some (.ref p), a7, some (.ref (S'.length + 1)), none, none, none, none] ∧ Fr (fun j => j = S'.length + 1) Z S4 ∧ S4[S'.length + 1]? = some (.lst (((rs.take i).filter fun x => Gr.freeB g.n R pt (cont x)).map .ref))) (fun i x σ S4 hx hI => ?_) (fun σ S4 hI => ?_) ⟨a7, rfl, Fr.refl, by simpa using hfree0⟩) ?_ (fun _ _ h => h.elim)
            · obtain ⟨a7, rfl, f4, hfr⟩ := hI
              rw [List.getElem?_map, Option.map_eq_some_iff] at hx
              obtain ⟨r, hr, rfl⟩ := hx
              have hrm := hsub r (List.mem_of_getElem? hr)
              obtain ⟨hr1, hr2, hr3⟩ := hcY r hrm
              have hX4 : ∀ j o, X[j]? = some o → j ≠ S2.length → S4[j]? = some o := fun j o h hj => by
                have hjl := (List.getElem?_eq_some_iff.mp h).1
                exact f4.get (hoZ _ _ (fr.get (fY.get h hj) (by omega))) (by omega)
              have hr4 : S4[r]? = some (.lst (natsD (cont r))) := f4.get (hoZ _ _ (fr.get hr3 (by omega))) (by omega)
              have hp4 : S4[p]? = some (.lst (natsD pt)) := f4.get (hoZ _ _ hp) (by have := (List.getElem?_eq_some_iff.mp hp).1; omega)
              have hc4 := hX4 _ _ hcX (by omega)
              have hM4 : MatAt S4 g.n vs R := ⟨hMX.1, fun i hi => by
                obtain ⟨q, h1, h2⟩ := hMX.2 i hi
                exact ⟨q, h1, hX4 _ _ h2 (by have := hMl q (List.mem_of_getElem? h1); omega)⟩⟩
              have hXl := fX.len
              have f0 : Fr (fun _ => False) S S4 := ⟨by have := f4.len; omega, fun j hj _ => by
                obtain ⟨o, ho⟩ : ∃ o, X[j]? = some o := ⟨_, List.getElem?_eq_getElem (by omega)⟩
                rw [hX4 j o ho (by omega), ← fX.old j hj id, ho]⟩
              have hgm : cont r ∈ Gr.gl g.n R g.n := by rw [← hgl]; exact List.mem_map_of_mem hrm
              obtain ⟨i0, -, -, hhm, hhn, -⟩ := Gr.head_mem hgm
              have hh0 : ∀ S5, S5[r]? = some (.lst (natsD (cont r))) → ixEv (.ref r) (.int 0) S5 = .ok (.int (((cont r).headD 0 : Nat) : Int)) S5 none := fun S5 h5 => by
                refine ix_lst h5 (by omega) ?_
                cases hq : cont r with
                | nil => rw [hq] at hhm; cases hhm
                | cons a b => rfl
              refine ⟨by simp only [Src.holds, List.all_cons, List.all_nil, f4.get hrsZ (by omega), decide_true, Bool.and_true], ?_⟩
              simp only [NF.start, evSs, evS, evE, evEs, evT, PstSB.andThen_, PstSB.seq_, PstB.bind_, PstSB.if_, PstB.if_, PstSB.nx_, PstSB.rt_, PstB.ok_, List.map_cons, List.map_nil, List.length_cons, List.length_nil, List.replicate, List.cons_append, List.nil_append, List.getElem?_cons_zero, List.getElem?_cons_succ, setG_nm, setG_tp, new, selArgs, List.set_cons_zero, List.set_cons_succ, evE_lcE, evI, sizeL, Nat.reduceAdd, Nat.reduceLeDiff, Nat.reduceLT, Nat.reduceSub, if_true, if_false, reduceIte, Nat.zero_add, Nat.lt_add_one, Nat.zero_lt_succ, reduceCtorEq, Nat.reducePow, Nat.reduceLeDiff, Nat.zero_le, esc_none, true_and, hln _ f0]
              rw [if_pos (show -(2 : Int) ^ 62 ≤ (g.n : Int) ∧ (g.n : Int) < 2 ^ 62 by omega), range_items]
              try simp only [NF.start, evSs, evS, evE, evEs, evT, PstSB.andThen_, PstSB.seq_, PstB.bind_, PstSB.if_, PstB.if_, PstSB.nx_, PstSB.rt_, PstB.ok_, List.map_cons, List.map_nil, List.length_cons, List.length_nil, List.replicate, List.cons_append, List.nil_append, List.getElem?_cons_zero, List.getElem?_cons_succ, setG_nm, setG_tp, new, selArgs, List.set_cons_zero, List.set_cons_succ, evE_lcE, evI, sizeL, Nat.reduceAdd, Nat.reduceLeDiff, Nat.reduceLT, Nat.reduceSub, if_true, if_false, reduceIte, Nat.zero_add, Nat.lt_add_one, Nat.zero_lt_succ, reduceCtorEq, Nat.reducePow, Nat.reduceLeDiff, Nat.zero_le, esc_none, true_and]
              unfold natsD
              rw [turns_on (fun (j : Nat) => D.int (j : Int)) (fun j => D.bl (pt.contains j || (cont r).contains j)) (R ((cont r).headD 0)) rfl (List.range g.n) [] (fun j hj => ?_) (by simp; unfold sizeL; omega)]
              · rw [List.nil_append]
                have hall := all_bools (k := S4.length) (g := fun j => pt.contains j || (cont r).contains j) (last_get S4 (SO.lst ((List.filter (R ((cont r).headD 0)) (List.range g.n)).map fun j => D.bl (pt.contains j || (cont r).contains j))))
                rw [all_filter] at hall
                have hfb : ((List.range g.n).all fun x => !R ((cont r).headD 0) x || (pt.contains x || (cont r).contains x)) = Gr.freeB g.n R pt (cont r) := rfl
                rw [hfb] at hall
                have htk : List.take (i + 1) rs = List.take i rs ++ [r] := by rw [List.take_add_one, hr]; rfl
                have hfr5 : (S4 ++ [SO.lst ((List.filter (R ((cont r).headD 0)) (List.range g.n)).map fun j => D.bl (pt.contains j || (cont r).contains j))])[S'.length + 1]? = some (.lst (((rs.take i).filter fun x => Gr.freeB g.n R pt (cont x)).map .ref)) := by
                  rw [List.getElem?_append_left (List.getElem?_eq_some_iff.mp hfr).1]; exact hfr
                have hsz5 : (((rs.take i).filter fun x => Gr.freeB g.n R pt (cont x)).map D.ref).length < 16777216 := by
                  rw [List.length_map]
                  have h1 := List.length_filter_le (fun x => Gr.freeB g.n R pt (cont x)) (rs.take i)
                  rw [List.length_take] at h1
                  omega
                simp only [NF.start, evSs, evS, evE, evEs, evT, PstSB.andThen_, PstSB.seq_, PstB.bind_, PstSB.if_, PstB.if_, PstSB.nx_, PstSB.rt_, PstB.ok_, List.map_cons, List.map_nil, List.length_cons, List.length_nil, List.replicate, List.cons_append, List.nil_append, List.getElem?_cons_zero, List.getElem?_cons_succ, setG_nm, setG_tp, new, selArgs, List.set_cons_zero, List.set_cons_succ, evE_lcE, evI, sizeL, Nat.reduceAdd, Nat.reduceLeDiff, Nat.reduceLT, Nat.reduceSub, if_true, if_false, reduceIte, Nat.zero_add, Nat.lt_add_one, Nat.zero_lt_succ, reduceCtorEq, Nat.reducePow, Nat.reduceLeDiff, Nat.zero_le, esc_none, true_and, hall, truth_bl]
                cases hfv : Gr.freeB g.n R pt (cont r) with
                | true =>
                  simp only [NF.start, evSs, evS, evE, evEs, evT, PstSB.andThen_, PstSB.seq_, PstB.bind_, PstSB.if_, PstB.if_, PstSB.nx_, PstSB.rt_, PstB.ok_, List.map_cons, List.map_nil, List.length_cons, List.length_nil, List.replicate, List.cons_append, List.nil_append, List.getElem?_cons_zero, List.getElem?_cons_succ, setG_nm, setG_tp, new, selArgs, List.set_cons_zero, List.set_cons_succ, evE_lcE, evI, sizeL, Nat.reduceAdd, Nat.reduceLeDiff, Nat.reduceLT, Nat.reduceSub, if_true, if_false, reduceIte, Nat.zero_add, Nat.lt_add_one, Nat.zero_lt_succ, reduceCtorEq, Nat.reducePow, Nat.reduceLeDiff, Nat.zero_le, esc_none, true_and, meT, meId, hfr5, Option.isSome_some, meEv, lstW, hsz5, NF.put, D.mr]
                  refine ⟨escOk_ite (by omega), _, rfl, (f4.push _).set (.inl rfl) _, ?_⟩
                  rw [List.getElem?_set_self (by rw [List.length_append]; have := (List.getElem?_eq_some_iff.mp hfr).1; omega), htk, List.filter_append]
                  simp [hfv]
                | false =>
                  simp only [NF.start, evSs, evS, evE, evEs, evT, PstSB.andThen_, PstSB.seq_, PstB.bind_, PstSB.if_, PstB.if_, PstSB.nx_, PstSB.rt_, PstB.ok_, List.map_cons, List.map_nil, List.length_cons, List.length_nil, List.replicate, List.cons_append, List.nil_append, List.getElem?_cons_zero, List.getElem?_cons_succ, setG_nm, setG_tp, new, selArgs, List.set_cons_zero, List.set_cons_succ, evE_lcE, evI, sizeL, Nat.reduceAdd, Nat.reduceLeDiff, Nat.reduceLT, Nat.reduceSub, if_true, if_false, reduceIte, Nat.zero_add, Nat.lt_add_one, Nat.zero_lt_succ, reduceCtorEq, Nat.reducePow, Nat.reduceLeDiff, Nat.zero_le, esc_none, true_and, Bool.false_eq_true]
                  refine ⟨_, rfl, f4.push _, ?_⟩
                  rw [hfr5, htk, List.filter_append]
                  simp [hfv]
              · have hj : j < g.n := by simpa using hj
                obtain ⟨r2, e2, e3⟩ := hM4.ix hc4 hhn hj
                refine eq_of ?_
                simp only [NF.start, evSs, evS, evE, evEs, evT, PstS.andThen_, PstS.seq_, Pst.bind_, PstS.if_, Pst.if_, PstS.nx_, PstS.rt_, Pst.ok_, List.map_cons, List.map_nil, List.length_cons, List.length_nil, List.replicate, List.cons_append, List.nil_append, List.getElem?_cons_zero, List.getElem?_cons_succ, setG_nm, setG_tp, new, selArgs, List.set_cons_zero, List.set_cons_succ, evE_lcE, evI, sizeL, Nat.reduceAdd, Nat.reduceLeDiff, Nat.reduceLT, Nat.reduceSub, if_true, if_false, reduceIte, Nat.zero_add, Nat.lt_add_one, Nat.zero_lt_succ, reduceCtorEq, Nat.reducePow, Nat.reduceLeDiff, Nat.zero_le, lcTurnE, wipeE, evIfs, hh0 _ hr4, e2, e3, truth_bl]
                cases R ((cont r).headD 0) j with
                | false => simp [Pst]
                | true =>
                  simp only [NF.start, evSs, evS, evE, evEs, evT, PstS.andThen_, PstS.seq_, Pst.bind_, PstS.if_, Pst.if_, PstS.nx_, PstS.rt_, Pst.ok_, List.map_cons, List.map_nil, List.length_cons, List.length_nil, List.replicate, List.cons_append, List.nil_append, List.getElem?_cons_zero, List.getElem?_cons_succ, setG_nm, setG_tp, new, selArgs, List.set_cons_zero, List.set_cons_succ, evE_lcE, evI, sizeL, Nat.reduceAdd, Nat.reduceLeDiff, Nat.reduceLT, Nat.reduceSub, if_true, if_false, reduceIte, Nat.zero_add, Nat.lt_add_one, Nat.zero_lt_succ, reduceCtorEq, Nat.reducePow, Nat.reduceLeDiff, Nat.zero_le, in_ints hp4, in_ints hr4, truth_bl]
                  cases pt.contains j <;> simp [Pst]
            · obtain ⟨a7, rfl, f4, hfr⟩ := hI
              rw [List.length_map, List.take_length] at hfr
              refine ⟨by simp only [Src.holds, List.all_cons, List.all_nil, f4.get hrsZ (by omega), decide_true, Bool.and_true], a7, rfl, f4, hfr⟩
            · rintro σ S4 ⟨a7, rfl, f4, hfr⟩
              have hrc : rs.map cont ≠ [] := by simpa using hr0
              obtain ⟨g0, rest, hfil, hg0, hfree⟩ := Gr.free_ne cl st hrc
              have hfil2 : (rs.filter fun x => Gr.freeB g.n R pt (cont x)).map cont = g0 :: rest := by
                rw [← hfil, List.filter_map]; rfl
              obtain ⟨r, rr0, hrr⟩ : ∃ r rr0, (rs.filter fun x => Gr.freeB g.n R pt (cont x)) = r :: rr0 := by
                cases hq : rs.filter fun x => Gr.freeB g.n R pt (cont x) with
                | nil => rw [hq] at hfil2; cases hfil2
                | cons a b => exact ⟨a, b, rfl⟩
              rw [hrr] at hfil2 hfr
              have hcr : cont r = g0 := by simpa using (List.cons.inj hfil2).1
              have hrr1 : r ∈ rs := (List.mem_filter.mp (by rw [hrr]; exact List.mem_cons_self : r ∈ rs.filter fun x => Gr.freeB g.n R pt (cont x))).1
              have hrm := hsub r hrr1
              obtain ⟨hr1, hr2, hr3⟩ := hcY r hrm
              have hX4 : ∀ j o, X[j]? = some o → j ≠ S2.length → S4[j]? = some o := fun j o h hj => by
                have hjl := (List.getElem?_eq_some_iff.mp h).1
                exact f4.get (hoZ _ _ (fr.get (fY.get h hj) (by omega))) (by omega)
              have hr4 : S4[r]? = some (.lst (natsD g0)) := by rw [← hcr]; exact f4.get (hoZ _ _ (fr.get hr3 (by omega))) (by omega)
              have hpS := (List.getElem?_eq_some_iff.mp hp).1
              have hp4 : S4[p]? = some (.lst (natsD pt)) := f4.get (hoZ _ _ hp) (by omega)
              have hXl := fX.len
              have ha4 : S4[a]? = some (.lst ((List.range g.n).map fun j => .str (g.nm j))) := hX4 _ _ (fX.get ha id) (by have := (List.getElem?_eq_some_iff.mp ha).1; omega)
              have hf4 : S4[S3.length]? = some (.lst (fd.map g.gD)) := f4.get (hoZ _ _ hf) (by omega)
              have hrs4 : S4[S2.length]? = some (.lst (rs.map .ref)) := f4.get hrsZ (by omega)
              have hS4l : Z.length ≤ S4.length := f4.len
              have hg0n : ∀ j ∈ g0, j < g.n := fun j hj => hglt g0 (by rw [← hcr]; exact List.mem_map_of_mem hrm) j hj
              have hix0 : ∀ S5, S5[S'.length + 1]? = some (.lst ((r :: rr0).map .ref)) → ixEv (.ref (S'.length + 1)) (.int 0) S5 = .ok (.ref r) S5 none := fun S5 h5 => ix_lst h5 (by omega) rfl
              have hg0l : g0.length ≤ 9 := by
                have h1 : g0 ∈ Gr.gl g.n R g.n := by rw [← hgl]; exact hcr ▸ List.mem_map_of_mem hrm
                obtain ⟨k, hk, rfl⟩ := Gr.mem_gl.mp h1
                unfold Gr.grp
                have := List.length_filter_le (Gr.eqv R k) (List.range g.n)
                rw [List.length_range] at this
                omega
              simp only [NF.start, evSs, evS, evE, evEs, evT, PstSB.andThen_, PstSB.seq_, PstB.bind_, PstSB.if_, PstB.if_, PstSB.nx_, PstSB.rt_, PstB.ok_, List.map_cons, List.map_nil, List.length_cons, List.length_nil, List.replicate, List.cons_append, List.nil_append, List.getElem?_cons_zero, List.getElem?_cons_succ, setG_nm, setG_tp, new, selArgs, List.set_cons_zero, List.set_cons_succ, evE_lcE, evI, sizeL, Nat.reduceAdd, Nat.reduceLeDiff, Nat.reduceLT, Nat.reduceSub, if_true, if_false, reduceIte, Nat.zero_add, Nat.lt_add_one, Nat.zero_lt_succ, reduceCtorEq, Nat.reducePow, Nat.reduceLeDiff, Nat.zero_le, esc_none, true_and, meT, meId, hf4, Option.isSome_some, hix0 _ hfr, srcOf, hr4, ofOpt]
              have hkp : Src.holds S4 [(r, natsD g0)] = true := by simp only [Src.holds, List.all_cons, List.all_nil, hr4, decide_true, Bool.and_true]
              have htl : evTurns (lcTurnE { call := NF.run P L n, turns := L } ((CE.var 0).ix (CE.var 12)) (CG.name 12) [] [12] [some (.ref a), some (.ref q), some (.ref c), a3, some (.ref S2.length), some (.ref S3.length), some (.ref p), a7, some (.ref (S'.length + 1)), none, none, none, none]) [(r, natsD g0)] (natsD g0) [] S4 = .ok (g0.map fun j => D.str (g.nm j)) S4 none := by
                unfold natsD
                refine turns_every (fun (j : Nat) => D.int (j : Int)) (fun j => D.str (g.nm j)) hkp g0 (fun j hj => ?_) (by unfold sizeL; omega)
                have hix : ixEv (.ref a) (.int (j : Int)) S4 = .ok (.str (g.nm j)) S4 none := ix_lst ha4 (by omega) (by rw [Int.toNat_natCast, List.getElem?_map, List.getElem?_range (hg0n j hj)]; rfl)
                refine eq_of ?_
                simp only [NF.start, evSs, evS, evE, evEs, evT, PstS.andThen_, PstS.seq_, Pst.bind_, PstS.if_, Pst.if_, PstS.nx_, PstS.rt_, Pst.ok_, List.map_cons, List.map_nil, List.length_cons, List.length_nil, List.replicate, List.cons_append, List.nil_append, List.getElem?_cons_zero, List.getElem?_cons_succ, setG_nm, setG_tp, new, selArgs, List.set_cons_zero, List.set_cons_succ, evE_lcE, evI, sizeL, Nat.reduceAdd, Nat.reduceLeDiff, Nat.reduceLT, Nat.reduceSub, if_true, if_false, reduceIte, Nat.zero_add, Nat.lt_add_one, Nat.zero_lt_succ, reduceCtorEq, Nat.reducePow, Nat.reduceLeDiff, Nat.zero_le, lcTurnE, wipeE, evIfs, hix]
                exact ⟨by first | trivial | rfl, by first | trivial | rfl⟩
              rw [htl]
              have hs5 : ∀ F : SO, ∀ j o, S4[j]? = some o → (S4 ++ [F])[j]? = some o := fun F j o h => by rw [List.getElem?_append_left (List.getElem?_eq_some_iff.mp h).1]; exact h
              have hgd : D.tup (g0.map fun j => D.str (g.nm j)) = g.gD g0 := by unfold PG.gD; simp
              have hsq : (D.ref S4.length).seq? (S4 ++ [SO.lst (g0.map fun j => D.str (g.nm j))]) = some (g0.map fun j => D.str (g.nm j)) := by simp [D.seq?, D.lst?]
              have hsz : (fd.map g.gD).length < 16777216 := by rw [List.length_map]; omega
              simp only [NF.start, evSs, evS, evE, evEs, evT, PstSB.andThen_, PstSB.seq_, PstB.bind_, PstSB.if_, PstB.if_, PstSB.nx_, PstSB.rt_, PstB.ok_, List.map_cons, List.map_nil, List.length_cons, List.length_nil, List.replicate, List.cons_append, List.nil_append, List.getElem?_cons_zero, List.getElem?_cons_succ, setG_nm, setG_tp, new, selArgs, List.set_cons_zero, List.set_cons_succ, evE_lcE, evI, sizeL, Nat.reduceAdd, Nat.reduceLeDiff, Nat.reduceLT, Nat.reduceSub, if_true, if_false, reduceIte, Nat.zero_add, Nat.lt_add_one, Nat.zero_lt_succ, reduceCtorEq, Nat.reducePow, Nat.reduceLeDiff, Nat.zero_le, esc_none, true_and, biEv, hsq, hgd, meEv, lstW, hs5 _ _ _ hf4, hsz, NF.put, PG.gD_mr]
              obtain ⟨S5, hS5⟩ : ∃ S5, S5 = (S4 ++ [SO.lst (g0.map fun j => D.str (g.nm j))]).set S3.length (.lst (fd.map g.gD ++ [g.gD g0])) := ⟨_, rfl⟩
              rw [← hS5]
              have h5l : S5.length = S4.length + 1 := by rw [hS5]; simp
              have ho5 : ∀ j o, j ≠ S3.length → S4[j]? = some o → S5[j]? = some o := fun j o hj h => by
                rw [hS5, List.getElem?_set_ne (Ne.symm hj)]; exact hs5 _ _ _ h
              have hf5 : S5[S3.length]? = some (.lst ((fd ++ [g0]).map g.gD)) := by
                rw [hS5, List.getElem?_set_self (by rw [List.length_append]; omega)]; simp
              have fr4 : Fr (fun j => j = S2.length ∨ j = S3.length) Y S4 := ⟨by omega, fun j hj he => by
                rw [f4.old j (by omega) (by omega)]; exact frZ.old j hj he⟩
              have fr5 : Fr (fun j => j = S2.length ∨ j = S3.length) Y S5 := by rw [hS5]; exact (fr4.push _).set (.inl (.inr rfl)) _
              clear hS5
              have hfr5 := ho5 _ _ (by omega) hfr
              have hp5 := ho5 _ _ (by omega) hp4
              have hr5 := ho5 _ _ (by omega) hr4
              have hrs5 := ho5 _ _ (by omega) hrs4
              simp only [NF.start, evSs, evS, evE, evEs, evT, PstSB.andThen_, PstSB.seq_, PstB.bind_, PstSB.if_, PstB.if_, PstSB.nx_, PstSB.rt_, PstB.ok_, List.map_cons, List.map_nil, List.length_cons, List.length_nil, List.replicate, List.cons_append, List.nil_append, List.getElem?_cons_zero, List.getElem?_cons_succ, setG_nm, setG_tp, new, selArgs, List.set_cons_zero, List.set_cons_succ, evE_lcE, evI, sizeL, Nat.reduceAdd, Nat.reduceLeDiff, Nat.reduceLT, Nat.reduceSub, if_true, if_false, reduceIte, Nat.zero_add, Nat.lt_add_one, Nat.zero_lt_succ, reduceCtorEq, Nat.reducePow, Nat.reduceLeDiff, Nat.zero_le, esc_none, true_and, hix0 _ hfr5]
              rw [bin_addL hp5 hr5 (by unfold natsD; rw [List.length_map, List.length_map]; unfold sizeL; omega)]
              have hpt : natsD pt ++ natsD g0 = natsD (pt ++ g0) := by unfold natsD; simp
              rw [hpt]
              have hs6 : ∀ F : SO, ∀ j o, S5[j]? = some o → (S5 ++ [F])[j]? = some o := fun F j o h => by rw [List.getElem?_append_left (List.getElem?_eq_some_iff.mp h).1]; exact h
              have hcont5 : ∀ x ∈ rs, S5[x]? = some (.lst (natsD (cont x))) := fun x hx => by
                obtain ⟨h1, h2, h3⟩ := hcY x (hsub x hx)
                exact fr5.get h3 (by omega)
              have hrsnd : rs.Nodup := List.nodup_iff_pairwise_ne.mpr ((List.pairwise_map.mp (List.nodup_iff_pairwise_ne.mp st.nd)).imp fun h e => h (by rw [e]))
              obtain ⟨k, hk1, hk2⟩ : ∃ k, findEq (D.eqv (S5 ++ [SO.lst (natsD (pt ++ g0))]) eqN) (.ref r) (rs.map .ref) = some k ∧ rs.eraseIdx k = rs.erase r := by
                refine findEq_on (F := D.ref) (fun x hx => ?_) hrr1
                have : (cont x == cont r) = (x == r) := by
                  rw [Bool.eq_iff_iff]
                  simp only [beq_iff_eq]
                  exact ⟨fun h => hci x (hsub x hx) r hrm h, fun h => by rw [h]⟩
                rw [← this]
                exact eqv_lstI (n := 1198) (hs6 _ _ _ (hcont5 x hx)) (hs6 _ _ _ (hcont5 r hrr1))
              simp only [NF.start, evSs, evS, evE, evEs, evT, PstSB.andThen_, PstSB.seq_, PstB.bind_, PstSB.if_, PstB.if_, PstSB.nx_, PstSB.rt_, PstB.ok_, List.map_cons, List.map_nil, List.length_cons, List.length_nil, List.replicate, List.cons_append, List.nil_append, List.getElem?_cons_zero, List.getElem?_cons_succ, setG_nm, setG_tp, new, selArgs, List.set_cons_zero, List.set_cons_succ, evE_lcE, evI, sizeL, Nat.reduceAdd, Nat.reduceLeDiff, Nat.reduceLT, Nat.reduceSub, if_true, if_false, reduceIte, Nat.zero_add, Nat.lt_add_one, Nat.zero_lt_succ, reduceCtorEq, Nat.reducePow, Nat.reduceLeDiff, Nat.zero_le, esc_none, true_and, meT, meId, hs6 _ _ _ hrs5, Option.isSome_some, hix0 _ (hs6 _ _ _ hfr5), meEv, lstW, hk1, NF.put, eraseIdx_map, hk2]
              have herm : (rs.erase r).map cont = (rs.map cont).erase g0 := by
                rw [← hcr]
                clear hk1 hk2 hcont5 hrs5 hrs4 hrsZ hrs hord hlen hptl st hfil hfil2 hrr hr0 e1 hg0 hne hrc hfr hfr5 hix0
                have hci' : ∀ x ∈ rs, cont x = cont r → x = r := fun x hx h => hci x (hsub x hx) r hrm h
                clear hsub
                induction rs with
                | nil => rfl
                | cons y rs ih =>
                  by_cases e : y = r
                  · subst e; simp
                  · have e2 : ¬ cont y = cont r := fun h => e (hci' y List.mem_cons_self h)
                    rw [List.erase_cons_tail (by simpa using e), List.map_cons, List.map_cons, List.erase_cons_tail (by simpa using e2)]
                    congr 1
                    by_cases hm : r ∈ rs
                    · exact ih hm (List.nodup_cons.mp hrsnd).2 fun x hx => hci' x (List.mem_cons_of_mem _ hx)
                    · rw [List.erase_of_not_mem hm, List.erase_of_not_mem]
                      intro hm2
                      obtain ⟨x, hx, hxe⟩ := List.mem_map.mp hm2
                      exact hm (hci' x (List.mem_cons_of_mem _ hx) hxe ▸ hx)
              have hel : (rs.erase r).length + 1 = rs.length := by
                rw [List.length_erase_of_mem hrr1]
                have := List.length_pos_of_mem hrr1
                omega
              refine ⟨(rs.erase r).length, by omega, _, _, _, rs.erase r, fd ++ [g0], pt ++ g0, S5.length, rfl, (fr5.push _).set (.inl (.inl rfl)) _, List.getElem?_set_self (by rw [List.length_append]; omega), fun x hx => hsub x (List.mem_of_mem_erase hx), ?_, ?_, by omega, ?_, ?_, by simp; omega, by simp; omega, rfl⟩
              · rw [List.getElem?_set_ne (by omega)]; exact hs6 _ _ _ hf5
              · rw [List.getElem?_set_ne (by omega)]; exact last_get _ _
              · rw [herm]; exact Gr.St.next cl st hg0 hfree
              · rw [herm, ← hord, ← hel]
                conv => rhs; unfold Gr.ord
                rw [hfil]
                simp
        · rw [hgl]; exact Gr.St.start cl
        · rw [hgl, hgroups, ← hgl, List.length_map]; rfl
        · rintro σ S' ⟨a1, a3, a4, a6, a7, a8, a9, a10, a11, a12, rfl, fr, hf⟩
          have := fX.len
          have f0 : Fr (fun _ => False) S S' := ⟨by have := fr.len; omega, fun j hj _ => by
            rw [fr.old j (by omega) (by omega), fY.old j (by omega) (by omega)]; exact fX.old j hj id⟩
          try simp only [NF.start, evSs, evS, evE, evEs, evT, PstSB.andThen_, PstSB.seq_, PstB.bind_, PstSB.if_, PstB.if_, PstSB.nx_, PstSB.rt_, PstB.ok_, List.map_cons, List.map_nil, List.length_cons, List.length_nil, List.replicate, List.cons_append, List.nil_append, List.getElem?_cons_zero, List.getElem?_cons_succ, setG_nm, setG_tp, new, selArgs, List.set_cons_zero, List.set_cons_succ, evE_lcE, evI, sizeL, Nat.reduceAdd, Nat.reduceLeDiff, Nat.reduceLT, Nat.reduceSub, if_true, if_false, reduceIte, Nat.zero_add, Nat.lt_add_one, Nat.zero_lt_succ, reduceCtorEq, Nat.reducePow, Nat.reduceLeDiff, Nat.zero_le, esc_none, true_and]
          intro d1 S1 e
          rw [pack_lstF f0 (by omega) hf (PG.gDs_mr _)] at e
          cases e
          exact ⟨rfl, rfl⟩
end
end K15

namespace K15
open PySem L2 NF
theorem exists_nb {g : PG} (ok : g.Ok) : ∃ nb, g.Nb nb := by
  refine ⟨fun x => match (List.range g.n).find? (fun i => g.nm i == x) with
    | some i => g.men i
    | none => [], fun i hi => ?_⟩
  simp only
  cases h : (List.range g.n).find? (fun j => g.nm j == g.nm i) with
  | none =>
    have := List.find?_eq_none.mp h i (by simpa using hi)
    simp at this
  | some j =>
    have h1 := List.find?_some h
    have h2 := List.mem_of_find?_eq_some h
    simp only [beq_iff_eq] at h1
    rw [ok.inj j i (by simpa using h2) hi h1]
theorem men_mem {g : PG} {sm : Nat → List (List Nat)} {i : Nat} (r : Row g.names (g.ps i) (g.bd i) (sm i)) {y : List Nat} (hy : y ∈ g.names) : y ∈ g.men i ↔ y ∈ sm i := by
  unfold PG.men
  rw [List.mem_filter, (sortT_perm _).mem_iff]
  unfold setK
  rw [foldK_mem, r.fv, List.mem_append]
  simp only [List.not_mem_nil, false_or, List.contains_iff_mem]
  constructor
  · rintro ⟨h | h, _⟩
    · exact h
    · exact absurd hy (r.out y h)
  · exact fun h => ⟨.inl h, hy⟩
theorem eqv_same {S : Store} {a b n : Nat} {xs : List D} (ha : S[a]? = some (.lst xs)) (hb : S[b]? = some (.lst xs)) (h : ∀ x ∈ xs, D.eqv S n x x = some true) : D.eqv S (n + 1) (.ref a) (.ref b) = some true := by
  rw [D.eqv]
  simp only [D.lst?, ha, hb]
  split
  · rfl
  · rw [if_pos trivial]
    exact eqvLT_refl h
section
variable {P : Nat → Option FD} {L : Nat} (hp : HP P)
include hp
theorem right_spec {n : Nat} {S : Store} {k : Nat} {m : Int} (hL : 300 ≤ L) (h : GAt B15 S k m) (hm : m + 1000 < 2 ^ 35) : Pst (NF.run P L (n + 210) 15 [.ref k] S) (fun d _ => d = .bl true) := by
  refine run_pstG hp.h15 rfl ?_
  simp only [NF.start, evSs, evS, evE, evEs, evT, PstS.andThen_, PstS.seq_, Pst.bind_, PstS.if_, Pst.if_, PstS.nx_, PstS.rt_, Pst.ok_, List.map_cons, List.map_nil, List.length_cons, List.length_nil, List.replicate, List.cons_append, List.nil_append, List.getElem?_cons_zero, List.getElem?_cons_succ, setG_nm, setG_tp, new, selArgs, List.set_cons_zero, List.set_cons_succ, evE_lcE, evI, sizeL, Nat.reduceAdd, Nat.reduceLeDiff, Nat.reduceLT, Nat.reduceSub, if_true, if_false, reduceIte, Nat.zero_add, Nat.lt_add_one, Nat.zero_lt_succ, reduceCtorEq, Nat.reducePow, Nat.reduceLeDiff, Nat.zero_le, c15]
  refine (program_spec hp (n := n + 206) h hm).mono ?_
  rintro _ S1 ⟨g, sm, q, kvs, rfl, ok, hrow, hq, hD, -, -⟩
  simp only [NF.start, evSs, evS, evE, evEs, evT, PstS.andThen_, PstS.seq_, Pst.bind_, PstS.if_, Pst.if_, PstS.nx_, PstS.rt_, Pst.ok_, List.map_cons, List.map_nil, List.length_cons, List.length_nil, List.replicate, List.cons_append, List.nil_append, List.getElem?_cons_zero, List.getElem?_cons_succ, setG_nm, setG_tp, new, selArgs, List.set_cons_zero, List.set_cons_succ, evE_lcE, evI, sizeL, Nat.reduceAdd, Nat.reduceLeDiff, Nat.reduceLT, Nat.reduceSub, if_true, if_false, reduceIte, Nat.zero_add, Nat.lt_add_one, Nat.zero_lt_succ, reduceCtorEq, Nat.reducePow, Nat.reduceLeDiff, Nat.zero_le, setGs]
  obtain ⟨nb, hnb⟩ := exists_nb ok
  have hadj : g.Adj (fun i j => (sm i).contains (g.nm j)) nb := fun i j hi hj => by
    simp only [List.contains_iff_mem]
    rw [hnb i hi, men_mem (hrow i hi) (PG.mem_names.mpr ⟨j, hj, rfl⟩)]
  have hg := fun S' => groups_of_spec hp (L := L) (n := n + 7) (S := S') ok hnb hadj hL (.tup [])
  obtain ⟨G, hG⟩ : ∃ G, G = (g.groupsOf fun i j => (sm i).contains (g.nm j)).map g.gD := ⟨_, rfl⟩
  rw [← hG] at hg
  have e1 : ∀ S', ixEv (.tup [.tup [], .tup g.rows]) (.int 1) S' = .ok (.tup g.rows) S' none := fun S' => ix_tup (by omega) rfl
  simp only [NF.start, evSs, evS, evE, evEs, evT, PstS.andThen_, PstS.seq_, Pst.bind_, PstS.if_, Pst.if_, PstS.nx_, PstS.rt_, Pst.ok_, List.map_cons, List.map_nil, List.length_cons, List.length_nil, List.replicate, List.cons_append, List.nil_append, List.getElem?_cons_zero, List.getElem?_cons_succ, setG_nm, setG_tp, new, selArgs, List.set_cons_zero, List.set_cons_succ, evE_lcE, evI, sizeL, Nat.reduceAdd, Nat.reduceLeDiff, Nat.reduceLT, Nat.reduceSub, if_true, if_false, reduceIte, Nat.zero_add, Nat.lt_add_one, Nat.zero_lt_succ, reduceCtorEq, Nat.reducePow, Nat.reduceLeDiff, Nat.zero_le, hg, e1, srcOf, ofOpt]
  have hfew := ok.few
  have hrows : g.rows = (List.range g.n).map g.row := rfl
  rw [hrows, turns_every g.row (fun i => D.str (g.nm i)) rfl (List.range g.n) (fun i hi => ?_) (by simp; unfold sizeL; omega)]
  · have hnm : (List.range g.n).map (fun i => D.str (g.nm i)) = g.names.map .str := by unfold PG.names; simp
    rw [hnm, ← hrows]
    have hq2 : (S1 ++ [SO.lst G] ++ [SO.lst (g.names.map .str)])[q]? = some (.dict kvs) := by
      have := (List.getElem?_eq_some_iff.mp hq).1
      rw [List.getElem?_append_left (by simp; omega), List.getElem?_append_left (by omega)]; exact hq
    have hdue := due_spec hp (L := L) (n := n + 208) ok hL (sm := sm) (last_get (S1 ++ [SO.lst G]) (SO.lst (g.names.map .str))) hq2 (((hD.push _).push _).mono fun x r o _ h => h.2)
    rw [← hG] at hdue
    simp only [NF.start, evSs, evS, evE, evEs, evT, PstS.andThen_, PstS.seq_, Pst.bind_, PstS.if_, Pst.if_, PstS.nx_, PstS.rt_, Pst.ok_, List.map_cons, List.map_nil, List.length_cons, List.length_nil, List.replicate, List.cons_append, List.nil_append, List.getElem?_cons_zero, List.getElem?_cons_succ, setG_nm, setG_tp, new, selArgs, List.set_cons_zero, List.set_cons_succ, evE_lcE, evI, sizeL, Nat.reduceAdd, Nat.reduceLeDiff, Nat.reduceLT, Nat.reduceSub, if_true, if_false, reduceIte, Nat.zero_add, Nat.lt_add_one, Nat.zero_lt_succ, reduceCtorEq, Nat.reducePow, Nat.reduceLeDiff, Nat.zero_le, hdue]
    have hGm : D.mrs G = 0 := by rw [hG]; exact PG.gDs_mr _
    have hGe : ∀ S' n, ∀ x ∈ G, D.eqv S' (n + 2) x x = some true := fun S' n x hx => by
      rw [hG] at hx
      obtain ⟨js, -, rfl⟩ := List.mem_map.mp hx
      unfold PG.gD
      rw [eqv_tupS]; simp
    have hGt : ∀ S', ∀ x ∈ G, biEv .isinst [x, .ty "tuple"] S' = .ok (.bl true) S' none := fun S' x hx => by
      rw [hG] at hx
      obtain ⟨js, -, rfl⟩ := List.mem_map.mp hx
      simp [PG.gD, biEv, isInst, tyName, instB]
    have hGl : G.length ≤ 10 := by
      rw [hG, List.length_map]
      have : ∀ k left put, (Gr.ord g.n (Gr.ws (fun i j => (sm i).contains (g.nm j)) g.n) k left put).length ≤ k := by
        intro k
        induction k with
        | zero => intro _ _; simp [Gr.ord]
        | succ k ih =>
          intro left put
          unfold Gr.ord
          split
          · simp
          · have := ih (left.erase ‹_›) (put ++ ‹_›)
            simp only [List.length_cons]
            omega
      have h1 := this (Gr.gl g.n (Gr.ws (fun i j => (sm i).contains (g.nm j)) g.n) g.n).length (Gr.gl g.n (Gr.ws (fun i j => (sm i).contains (g.nm j)) g.n) g.n) []
      have h2 := Gr.gl_len (n := g.n) (R := Gr.ws (fun i j => (sm i).contains (g.nm j)) g.n) g.n
      unfold PG.groupsOf
      omega
    clear hG hdue hq2
    generalize SO.lst (g.names.map .str) = N
    obtain ⟨X, hX⟩ : ∃ X, X = S1 ++ [SO.lst G] ++ [N] ++ [SO.lst G] := ⟨_, rfl⟩
    have htold : ∀ T, (X ++ T)[S1.length]? = some (.lst G) := fun T => by rw [hX]; simp only [List.append_assoc]; rw [get_at0]; rfl
    have hdue : ∀ T, (X ++ T)[S1.length + 2]? = some (.lst G) := fun T => by rw [hX]; simp only [List.append_assoc]; rw [get_at]; rfl
    have l1 : (S1 ++ [SO.lst G] ++ [N]).length = S1.length + 2 := by simp
    have ht0 : X[S1.length]? = some (.lst G) := by simpa using htold []
    have hil : biEv .isinst [.ref S1.length, .ty "list"] X = .ok (.bl true) X none := by
      simp [biEv, isInst, tyName, ht0, instB]
    rw [← hX, l1]
    simp only [NF.start, evSs, evS, evE, evEs, evT, PstS.andThen_, PstS.seq_, Pst.bind_, PstS.if_, Pst.if_, PstS.nx_, PstS.rt_, Pst.ok_, List.map_cons, List.map_nil, List.length_cons, List.length_nil, List.replicate, List.cons_append, List.nil_append, List.getElem?_cons_zero, List.getElem?_cons_succ, setG_nm, setG_tp, new, selArgs, List.set_cons_zero, List.set_cons_succ, evE_lcE, evI, sizeL, Nat.reduceAdd, Nat.reduceLeDiff, Nat.reduceLT, Nat.reduceSub, if_true, if_false, reduceIte, Nat.zero_add, Nat.lt_add_one, Nat.zero_lt_succ, reduceCtorEq, Nat.reducePow, Nat.reduceLeDiff, Nat.zero_le, hil, truth_bl, Bool.not_true, Bool.false_eq_true, srcOf, ht0, ofOpt]
    have hal : evTurns (lcTurnE { call := NF.run P L (n + 209), turns := L } (CE.bi BI.isinst [CE.var 5, CE.cst (D.ty "tuple")]) (CG.name 5) [] [5] [some (D.ref k), some (D.ref S1.length), some (D.ref (S1.length + 2)), some (D.tup [D.tup [], D.tup g.rows]), some (D.ref q), none]) [(S1.length, G)] G [] X = .ok (G.map fun _ => .bl true) X none := by
      have := turns_every (f := lcTurnE { call := NF.run P L (n + 209), turns := L } (CE.bi BI.isinst [CE.var 5, CE.cst (D.ty "tuple")]) (CG.name 5) [] [5] [some (D.ref k), some (D.ref S1.length), some (D.ref (S1.length + 2)), some (D.tup [D.tup [], D.tup g.rows]), some (D.ref q), none]) (keep := [(S1.length, G)]) (S := X) id (fun _ => .bl true) (by simp only [Src.holds, List.all_cons, List.all_nil, ht0, decide_true, Bool.and_true]) G (fun x hx => ?_) (by unfold sizeL; omega)
      · simpa using this
      · refine eq_of ?_
        simp only [NF.start, evSs, evS, evE, evEs, evT, PstS.andThen_, PstS.seq_, Pst.bind_, PstS.if_, Pst.if_, PstS.nx_, PstS.rt_, Pst.ok_, List.map_cons, List.map_nil, List.length_cons, List.length_nil, List.replicate, List.cons_append, List.nil_append, List.getElem?_cons_zero, List.getElem?_cons_succ, setG_nm, setG_tp, new, selArgs, List.set_cons_zero, List.set_cons_succ, evE_lcE, evI, sizeL, Nat.reduceAdd, Nat.reduceLeDiff, Nat.reduceLT, Nat.reduceSub, if_true, if_false, reduceIte, Nat.zero_add, Nat.lt_add_one, Nat.zero_lt_succ, reduceCtorEq, Nat.reducePow, Nat.reduceLeDiff, Nat.zero_le, lcTurnE, wipeE, evIfs, id, hGt _ x hx]
        exact ⟨by first | trivial | rfl, by first | trivial | rfl⟩
    rw [hal]
    have hall := all_bools (k := X.length) (g := fun _ : D => true) (last_get X (SO.lst (G.map fun _ => .bl true)))
    have hall1 : (G.all fun _ => true) = true := by simp
    rw [hall1] at hall
    have hne : cmpEv .ne (.ref S1.length) (.ref (S1.length + 2)) (X ++ [SO.lst (G.map fun _ => .bl true)]) = .ok (.bl false) (X ++ [SO.lst (G.map fun _ => .bl true)]) none := by
      show resB (D.eqv _ 1200 _ _) true _ = _
      rw [eqv_same (n := 1199) (htold _) (hdue _) fun x hx => hGe _ 1197 x hx]; rfl
    simp only [NF.start, evSs, evS, evE, evEs, evT, PstS.andThen_, PstS.seq_, Pst.bind_, PstS.if_, Pst.if_, PstS.nx_, PstS.rt_, Pst.ok_, List.map_cons, List.map_nil, List.length_cons, List.length_nil, List.replicate, List.cons_append, List.nil_append, List.getElem?_cons_zero, List.getElem?_cons_succ, setG_nm, setG_tp, new, selArgs, List.set_cons_zero, List.set_cons_succ, evE_lcE, evI, sizeL, Nat.reduceAdd, Nat.reduceLeDiff, Nat.reduceLT, Nat.reduceSub, if_true, if_false, reduceIte, Nat.zero_add, Nat.lt_add_one, Nat.zero_lt_succ, reduceCtorEq, Nat.reducePow, Nat.reduceLeDiff, Nat.zero_le, hall, truth_bl, Bool.not_true, Bool.false_eq_true, hne]
    generalize SO.lst (G.map fun _ => D.bl true) = A
    have hXl : X.length = S1.length + 3 := by rw [hX]; simp
    have ht1 := htold [A]
    have hr : ((X ++ [A]).set S1.length (SO.lst G.reverse))[S1.length]? = some (.lst G.reverse) := List.getElem?_set_self (by simp; omega)
    simp only [NF.start, evSs, evS, evE, evEs, evT, PstS.andThen_, PstS.seq_, Pst.bind_, PstS.if_, Pst.if_, PstS.nx_, PstS.rt_, Pst.ok_, List.map_cons, List.map_nil, List.length_cons, List.length_nil, List.replicate, List.cons_append, List.nil_append, List.getElem?_cons_zero, List.getElem?_cons_succ, setG_nm, setG_tp, new, selArgs, List.set_cons_zero, List.set_cons_succ, evE_lcE, evI, sizeL, Nat.reduceAdd, Nat.reduceLeDiff, Nat.reduceLT, Nat.reduceSub, if_true, if_false, reduceIte, Nat.zero_add, Nat.lt_add_one, Nat.zero_lt_succ, reduceCtorEq, Nat.reducePow, Nat.reduceLeDiff, Nat.zero_le, meT, meId, ht1, Option.isSome_some, meEv, lstW, NF.put, hr]
    have hrl : G.reverse.length < 16777216 := by simp; omega
    simp only [NF.start, evSs, evS, evE, evEs, evT, PstS.andThen_, PstS.seq_, Pst.bind_, PstS.if_, Pst.if_, PstS.nx_, PstS.rt_, Pst.ok_, List.map_cons, List.map_nil, List.length_cons, List.length_nil, List.replicate, List.cons_append, List.nil_append, List.getElem?_cons_zero, List.getElem?_cons_succ, setG_nm, setG_tp, new, selArgs, List.set_cons_zero, List.set_cons_succ, evE_lcE, evI, sizeL, Nat.reduceAdd, Nat.reduceLeDiff, Nat.reduceLT, Nat.reduceSub, if_true, if_false, reduceIte, Nat.zero_add, Nat.lt_add_one, Nat.zero_lt_succ, reduceCtorEq, Nat.reducePow, Nat.reduceLeDiff, Nat.zero_le, hrl, D.mr, D.mrs]
    have hd5 : (((X ++ [A]).set S1.length (SO.lst G.reverse)).set S1.length (SO.lst (G.reverse ++ [D.tup []])))[S1.length + 2]? = some (.lst G) := by
      rw [List.getElem?_set_ne (by omega), List.getElem?_set_ne (by omega)]; exact hdue _
    generalize ((X ++ [A]).set S1.length (SO.lst G.reverse)).set S1.length (SO.lst (G.reverse ++ [D.tup []])) = Y at hd5 ⊢

    try simp only [NF.start, evSs, evS, evE, evEs, evT, PstS.andThen_, PstS.seq_, Pst.bind_, PstS.if_, Pst.if_, PstS.nx_, PstS.rt_, Pst.ok_, List.map_cons, List.map_nil, List.length_cons, List.length_nil, List.replicate, List.cons_append, List.nil_append, List.getElem?_cons_zero, List.getElem?_cons_succ, setG_nm, setG_tp, new, selArgs, List.set_cons_zero, List.set_cons_succ, evE_lcE, evI, sizeL, Nat.reduceAdd, Nat.reduceLeDiff, Nat.reduceLT, Nat.reduceSub, if_true, if_false, reduceIte, Nat.zero_add, Nat.lt_add_one, Nat.zero_lt_succ, reduceCtorEq, Nat.reducePow, Nat.reduceLeDiff, Nat.zero_le, hg]
    have heq : cmpEv .eq (.ref Y.length) (.ref (S1.length + 2)) (Y ++ [SO.lst G]) = .ok (.bl true) (Y ++ [SO.lst G]) none := by
      show resB (D.eqv _ 1200 _ _) false _ = _
      rw [eqv_same (n := 1199) (last_get _ _) (by rw [List.getElem?_append_left (List.getElem?_eq_some_iff.mp hd5).1]; exact hd5) fun x hx => hGe _ 1197 x hx]; rfl
    simp only [NF.start, evSs, evS, evE, evEs, evT, PstS.andThen_, PstS.seq_, Pst.bind_, PstS.if_, Pst.if_, PstS.nx_, PstS.rt_, Pst.ok_, List.map_cons, List.map_nil, List.length_cons, List.length_nil, List.replicate, List.cons_append, List.nil_append, List.getElem?_cons_zero, List.getElem?_cons_succ, setG_nm, setG_tp, new, selArgs, List.set_cons_zero, List.set_cons_succ, evE_lcE, evI, sizeL, Nat.reduceAdd, Nat.reduceLeDiff, Nat.reduceLT, Nat.reduceSub, if_true, if_false, reduceIte, Nat.zero_add, Nat.lt_add_one, Nat.zero_lt_succ, reduceCtorEq, Nat.reducePow, Nat.reduceLeDiff, Nat.zero_le, heq]
    intro d1 S9 e
    rw [packed_small _ (Nat.zero_le _)] at e
    cases e
    rfl
  · refine eq_of ?_
    have j0 : ∀ S', ixEv (g.row i) (.int 0) S' = .ok (.str (g.nm i)) S' none := fun S' => ix_tup (by omega) rfl
    simp only [NF.start, evSs, evS, evE, evEs, evT, PstS.andThen_, PstS.seq_, Pst.bind_, PstS.if_, Pst.if_, PstS.nx_, PstS.rt_, Pst.ok_, List.map_cons, List.map_nil, List.length_cons, List.length_nil, List.replicate, List.cons_append, List.nil_append, List.getElem?_cons_zero, List.getElem?_cons_succ, setG_nm, setG_tp, new, selArgs, List.set_cons_zero, List.set_cons_succ, evE_lcE, evI, sizeL, Nat.reduceAdd, Nat.reduceLeDiff, Nat.reduceLT, Nat.reduceSub, if_true, if_false, reduceIte, Nat.zero_add, Nat.lt_add_one, Nat.zero_lt_succ, reduceCtorEq, Nat.reducePow, Nat.reduceLeDiff, Nat.zero_le, lcTurnE, wipeE, evIfs, j0]
    exact ⟨by first | trivial | rfl, by first | trivial | rfl⟩
theorem cell_at_spec {n : Nat} {S : Store} {ns : List Int} {k : Nat} (hb : ∀ z ∈ ns, bits z ≤ 1048576) : ∃ z, NF.run P L (n + 1) 9 [.cl (ns.map .int), .int k] S = .ok (.int z) S none ∧ bits z ≤ 1048576 := by
  have hlen : ∀ S', biEv .len [.cl (ns.map .int)] S' = .ok (.int ((ns.map D.int).length : Int)) S' none := fun S' => rfl
  by_cases h : k < ns.length
  · refine ⟨ns[k], eq_of2 (run_pst hp.h9 rfl ?_), hb _ (List.getElem_mem _)⟩
    have hlt : decide ((k : Int) < ((ns.map D.int).length : Int)) = true := by simp; omega
    have hix : ixEv (.cl (ns.map .int)) (.int (k : Int)) S = .ok (.int ns[k]) S none := by
      have hk : (ns.map D.int)[k]? = some (.int ns[k]) := by rw [List.getElem?_map, List.getElem?_eq_getElem h]; rfl
      simp only [ixEv, D.dict?, D.seq?]
      unfold ixN
      rw [if_pos (by omega), if_pos (by rw [List.length_map]; omega)]
      simp only [Int.toNat_natCast, hk, ofOpt]
    simp only [NF.start, evSs, evS, evE, evEs, evT, PstS.andThen_, PstS.seq_, Pst.bind_, PstS.if_, Pst.if_, PstS.nx_, PstS.rt_, Pst.ok_, List.map_cons, List.map_nil, List.length_cons, List.length_nil, List.replicate, List.cons_append, List.nil_append, List.getElem?_cons_zero, List.getElem?_cons_succ, setG_nm, setG_tp, new, selArgs, List.set_cons_zero, List.set_cons_succ, evE_lcE, evI, sizeL, Nat.reduceAdd, Nat.reduceLeDiff, Nat.reduceLT, Nat.reduceSub, if_true, if_false, reduceIte, Nat.zero_add, Nat.lt_add_one, Nat.zero_lt_succ, reduceCtorEq, Nat.reducePow, Nat.reduceLeDiff, Nat.zero_le, c9, hlen, cmp_ltI, hlt, hix]
    exact .inl ⟨Nat.zero_le _, by first | trivial | rfl, by simp⟩
  · refine ⟨0, eq_of2 (run_pst hp.h9 rfl ?_), by decide⟩
    have hlt : decide ((k : Int) < ((ns.map D.int).length : Int)) = false := by simp; omega
    simp only [NF.start, evSs, evS, evE, evEs, evT, PstS.andThen_, PstS.seq_, Pst.bind_, PstS.if_, Pst.if_, PstS.nx_, PstS.rt_, Pst.ok_, List.map_cons, List.map_nil, List.length_cons, List.length_nil, List.replicate, List.cons_append, List.nil_append, List.getElem?_cons_zero, List.getElem?_cons_succ, setG_nm, setG_tp, new, selArgs, List.set_cons_zero, List.set_cons_succ, evE_lcE, evI, sizeL, Nat.reduceAdd, Nat.reduceLeDiff, Nat.reduceLT, Nat.reduceSub, if_true, if_false, reduceIte, Nat.zero_add, Nat.lt_add_one, Nat.zero_lt_succ, reduceCtorEq, Nat.reducePow, Nat.reduceLeDiff, Nat.zero_le, c9, hlen, cmp_ltI, hlt, Bool.false_eq_true]
    exact .inl ⟨Nat.zero_le _, by first | trivial | rfl, by simp⟩
end
/-- cells of a script -/
theorem law_spec {P : Nat → Option FD} (hp : HP P) {ns : List Int} (hl : ns.length ≤ 63) (hb : ∀ z ∈ ns, bits z ≤ 1048576) : ∃ S e, NF.run P 300 690 16 [.cl (ns.map .int)] [] = .ok (.bl true) S e := by
  have goal : Pst (NF.run P 300 (189 + 501) 16 [.cl (ns.map .int)] []) (fun d S' => d = .bl true) := by
    refine run_pstG hp.h16 rfl ?_
    have hlen : ∀ S', biEv .len [.cl (ns.map .int)] S' = .ok (.int ((ns.map D.int).length : Int)) S' none := fun S' => rfl
    have hmax : ∀ (i j : Int) (S' : Store), biEv .max2 [.int i, .int j] S' = .ok (.int (if j > i then j else i)) S' none := fun _ _ _ => rfl
    have hmin : ∀ (i j : Int) (S' : Store), biEv .min2 [.int i, .int j] S' = .ok (.int (if j < i then j else i)) S' none := fun _ _ _ => rfl
    simp only [NF.start, evSs, evS, evE, evEs, evT, PstS.andThen_, PstS.seq_, Pst.bind_, PstS.if_, Pst.if_, PstS.nx_, PstS.rt_, Pst.ok_, List.map_cons, List.map_nil, List.length_cons, List.length_nil, List.replicate, List.cons_append, List.nil_append, List.getElem?_cons_zero, List.getElem?_cons_succ, setG_nm, setG_tp, new, selArgs, List.set_cons_zero, List.set_cons_succ, evE_lcE, evI, sizeL, Nat.reduceAdd, Nat.reduceLeDiff, Nat.reduceLT, Nat.reduceSub, if_true, if_false, reduceIte, Nat.zero_add, Nat.lt_add_one, Nat.zero_lt_succ, reduceCtorEq, Nat.reducePow, Nat.reduceLeDiff, Nat.zero_le, c16, hlen, hmax, hmin]
    generalize hq : (if (if 8 < ((List.map D.int ns).length : Int) then (8 : Int) else ((List.map D.int ns).length : Int)) > 1 then _ else _ : Int) = q
    have hq0 : 0 ≤ q ∧ q ≤ 8 := by
      rw [← hq, List.length_map]
      split <;> split <;> omega
    rw [if_pos (show -(2 : Int) ^ 62 ≤ q ∧ q < 2 ^ 62 by omega)]
    try simp only [NF.start, evSs, evS, evE, evEs, evT, PstS.andThen_, PstS.seq_, Pst.bind_, PstS.if_, Pst.if_, PstS.nx_, PstS.rt_, Pst.ok_, List.map_cons, List.map_nil, List.length_cons, List.length_nil, List.replicate, List.cons_append, List.nil_append, List.getElem?_cons_zero, List.getElem?_cons_succ, setG_nm, setG_tp, new, selArgs, List.set_cons_zero, List.set_cons_succ, evE_lcE, evI, sizeL, Nat.reduceAdd, Nat.reduceLeDiff, Nat.reduceLT, Nat.reduceSub, if_true, if_false, reduceIte, Nat.zero_add, Nat.lt_add_one, Nat.zero_lt_succ, reduceCtorEq, Nat.reducePow, Nat.reduceLeDiff, Nat.zero_le]
    refine for_all (fun i σ S' => ∃ a, σ = [some (.cl (ns.map D.int)), a]) (fun i x σ S' hx hI => ?_) (fun σ S' hI => ?_) ⟨none, rfl⟩
    · obtain ⟨a, rfl⟩ := hI
      obtain ⟨j, hj, rfl⟩ : ∃ j : Nat, j < 100 ∧ x = .int j := by
        unfold rangeD at hx
        rw [List.getElem?_map, Option.map_eq_some_iff] at hx
        obtain ⟨j, hj, rfl⟩ := hx
        have := List.mem_of_getElem? hj
        rw [List.mem_range] at this
        exact ⟨j, by omega, by simp⟩
      refine ⟨rfl, ?_⟩
      obtain ⟨z, hz, hzb⟩ := cell_at_spec hp (L := 300) (n := 688) (S := S') (k := j) hb
      simp only [NF.start, evSs, evS, evE, evEs, evT, PstS.andThen_, PstS.seq_, Pst.bind_, PstS.if_, Pst.if_, PstS.nx_, PstS.rt_, Pst.ok_, List.map_cons, List.map_nil, List.length_cons, List.length_nil, List.replicate, List.cons_append, List.nil_append, List.getElem?_cons_zero, List.getElem?_cons_succ, setG_nm, setG_tp, new, selArgs, List.set_cons_zero, List.set_cons_succ, evE_lcE, evI, sizeL, Nat.reduceAdd, Nat.reduceLeDiff, Nat.reduceLT, Nat.reduceSub, if_true, if_false, reduceIte, Nat.zero_add, Nat.lt_add_one, Nat.zero_lt_succ, reduceCtorEq, Nat.reducePow, Nat.reduceLeDiff, Nat.zero_le, hz]
      refine (bag15 hp.h10 (n := 688) hzb (by omega) (by omega)).mono ?_
      rintro d S1 ⟨rfl, hseed, hlen1, hold⟩
      try simp only [NF.start, evSs, evS, evE, evEs, evT, PstS.andThen_, PstS.seq_, Pst.bind_, PstS.if_, Pst.if_, PstS.nx_, PstS.rt_, Pst.ok_, List.map_cons, List.map_nil, List.length_cons, List.length_nil, List.replicate, List.cons_append, List.nil_append, List.getElem?_cons_zero, List.getElem?_cons_succ, setG_nm, setG_tp, new, selArgs, List.set_cons_zero, List.set_cons_succ, evE_lcE, evI, sizeL, Nat.reduceAdd, Nat.reduceLeDiff, Nat.reduceLT, Nat.reduceSub, if_true, if_false, reduceIte, Nat.zero_add, Nat.lt_add_one, Nat.zero_lt_succ, reduceCtorEq, Nat.reducePow, Nat.reduceLeDiff, Nat.zero_le]
      refine (right_spec hp (n := 479) (Nat.le_refl _) hseed (by omega)).mono ?_
      rintro d S2 rfl
      simp only [NF.start, evSs, evS, evE, evEs, evT, PstS.andThen_, PstS.seq_, Pst.bind_, PstS.if_, Pst.if_, PstS.nx_, PstS.rt_, Pst.ok_, List.map_cons, List.map_nil, List.length_cons, List.length_nil, List.replicate, List.cons_append, List.nil_append, List.getElem?_cons_zero, List.getElem?_cons_succ, setG_nm, setG_tp, new, selArgs, List.set_cons_zero, List.set_cons_succ, evE_lcE, evI, sizeL, Nat.reduceAdd, Nat.reduceLeDiff, Nat.reduceLT, Nat.reduceSub, if_true, if_false, reduceIte, Nat.zero_add, Nat.lt_add_one, Nat.zero_lt_succ, reduceCtorEq, Nat.reducePow, Nat.reduceLeDiff, Nat.zero_le, truth_bl, Bool.not_true, Bool.false_eq_true]
      exact ⟨_, rfl⟩
    · obtain ⟨a, rfl⟩ := hI
      refine ⟨rfl, ?_⟩
      try simp only [NF.start, evSs, evS, evE, evEs, evT, PstS.andThen_, PstS.seq_, Pst.bind_, PstS.if_, Pst.if_, PstS.nx_, PstS.rt_, Pst.ok_, List.map_cons, List.map_nil, List.length_cons, List.length_nil, List.replicate, List.cons_append, List.nil_append, List.getElem?_cons_zero, List.getElem?_cons_succ, setG_nm, setG_tp, new, selArgs, List.set_cons_zero, List.set_cons_succ, evE_lcE, evI, sizeL, Nat.reduceAdd, Nat.reduceLeDiff, Nat.reduceLT, Nat.reduceSub, if_true, if_false, reduceIte, Nat.zero_add, Nat.lt_add_one, Nat.zero_lt_succ, reduceCtorEq, Nat.reducePow, Nat.reduceLeDiff, Nat.zero_le]
      intro d1 S9 e
      rw [packed_small _ (Nat.zero_le _)] at e
      cases e
      rfl
  obtain ⟨d, S, e, rfl⟩ := goal.ex
  exact ⟨S, none, e⟩
end K15

set_option maxHeartbeats 0
namespace K15H
open PySem PySem.Spec PyProof.Rows L2 NF
def top (i : Nat) : Stmt := PySem.Challenge.pw_needforge_k15_groups.main.body.getD i (.Pass ⟨0, 0, 0, 0⟩)
/-- parts_of -/
def c0 : FD := ⟨1, 6, [.ife (.cmp .eq (.ix (.var 0) (.cst (.int 0))) (.cst (.str (S! "app"))))
  [.ret (.lst [(.tup [(.ix (.var 0) (.cst (.int 1))), (.tup [])]), (.tup [(.ix (.var 0) (.cst (.int 2))), (.tup [])])])]
  [],
  .ife (.cmp .eq (.ix (.var 0) (.cst (.int 0))) (.cst (.str (S! "fun"))))
  [.ret (.lst [(.tup [(.ix (.var 0) (.cst (.int 2))), (.tup [(.ix (.var 0) (.cst (.int 1)))])])])]
  [],
  .ife (.cmp .eq (.ix (.var 0) (.cst (.int 0))) (.cst (.str (S! "let"))))
  [.asg (.name 1) (.bi .tuple [(.lc (.var 2) (.tup [(.name 2), (.name 3)]) (.ix (.var 0) (.cst (.int 1))) [] [2, 3])]),
  .ret (.bin .add (.lc (.tup [(.var 3), (.var 1)]) (.tup [(.name 2), (.name 3)]) (.ix (.var 0) (.cst (.int 1))) [] [2, 3]) (.lst [(.tup [(.ix (.var 0) (.cst (.int 2))), (.var 1)])]))]
  [],
  .ife (.cmp .eq (.ix (.var 0) (.cst (.int 0))) (.cst (.str (S! "case"))))
  [.ret (.bin .add (.lst [(.tup [(.ix (.var 0) (.cst (.int 1))), (.tup [])])]) (.lc (.tup [(.var 5), (.var 1)]) (.tup [(.name 4), (.name 1), (.name 5)]) (.ix (.var 0) (.cst (.int 2))) [] [4, 1, 5]))]
  [],
  .ife (.cmp .eq (.ix (.var 0) (.cst (.int 0))) (.cst (.str (S! "op"))))
  [.ret (.lst [(.tup [(.ix (.var 0) (.cst (.int 2))), (.tup [])]), (.tup [(.ix (.var 0) (.cst (.int 3))), (.tup [])])])]
  [],
  .ret (.lst [])]⟩
/-- gather -/
def c1 : FD := ⟨3, 5, [.ife (.and (.cmp .eq (.ix (.var 0) (.cst (.int 0))) (.cst (.str (S! "name")))) (.cmp .notin (.ix (.var 0) (.cst (.int 1))) (.var 1)))
  [.sub (.cst (.bl true)) (.var 2) (.ix (.var 0) (.cst (.int 1)))]
  [],
  .for (.tup [(.name 3), (.name 4)]) (.call 0 [(.var 0)] [.inl 0])
  [.expr (.call 1 [(.var 3), (.bin .add (.var 1) (.var 4)), (.var 2)] [.inl 0, .inl 1, .inl 2])]]⟩
/-- free_names -/
def c2 : FD := ⟨1, 2, [.asg (.name 1) (.dict []),
  .expr (.call 1 [(.var 0), (.tup []), (.var 1)] [.inl 0, .inl 1, .inl 2]),
  .ret (.bi .sorted [(.var 1)])]⟩
/-- mentions_of -/
def c3 : FD := ⟨1, 6, [.asg (.name 1) (.dc (.var 2) (.cst (.bl true)) (.tup [(.name 2), (.name 3), (.name 4)]) (.var 0) [] [2, 3, 4]),
  .ret (.dc (.var 2) (.lc (.var 5) (.name 5) (.call 2 [(.var 4)] [.inl 0]) [(.cmp .isin (.var 5) (.var 1))] [5]) (.tup [(.name 2), (.name 3), (.name 4)]) (.var 0) [] [2, 3, 4])]⟩
/-- come_to -/
def c4 : FD := ⟨2, 5, [.asg (.name 2) (.dict []),
  .asg (.name 3) (.bi .list [(.ix (.var 0) (.var 1))]),
  .whil (.cmp .ne (.var 3) (.lst []))
  [.asg (.name 4) (.me .pop0 (.var 3) []),
  .ife (.cmp .notin (.var 4) (.var 2))
  [.sub (.cst (.bl true)) (.var 2) (.var 4),
  .expr (.me .extend (.var 3) [(.ix (.var 0) (.var 4))])]
  []],
  .ret (.var 2)]⟩
/-- grouped -/
def c5 : FD := ⟨1, 8, [.asg (.name 1) (.call 3 [(.var 0)] [.inl 0]),
  .asg (.name 2) (.lock 1 ((.dc (.var 5) (.call 4 [(.var 1), (.var 5)] [.inl 0, .inl 1]) (.name 5) (.var 1) [] [5]))),
  .asg (.name 3) (.lst []),
  .asg (.name 4) (.dict []),
  (.lock 1 (.for (.name 5) (.var 1)
  [.ife (.cmp .notin (.var 5) (.var 4))
  [.asg (.name 6) (.bi .tuple [(.lock 1 ((.lc (.var 7) (.name 7) (.var 1) [(.or (.cmp .eq (.var 7) (.var 5)) (.and (.cmp .isin (.var 7) (.ix (.var 2) (.var 5))) (.cmp .isin (.var 5) (.ix (.var 2) (.var 7)))))] [7])))]),
  .expr (.me .append (.var 3) [(.var 6)]),
  .for (.name 7) (.var 6)
  [.sub (.cst (.bl true)) (.var 4) (.var 7)]]
  []])),
  .ret (.call 6 [(.var 3), (.var 1)] [.inl 0, .inl 1])]⟩
/-- ordered -/
def c6 : FD := ⟨2, 8, [.asg (.name 2) (.bi .list [(.var 0)]),
  .asg (.name 3) (.lst []),
  .asg (.name 4) (.dict []),
  .whil (.cmp .ne (.var 2) (.lst []))
  [.asg (.name 5) (.lc (.var 7) (.name 7) (.var 2) [(.call 7 [(.var 7), (.var 1), (.var 4)] [.inl 0, .inl 1, .inl 2])] [7]),
  .expr (.me .append (.var 3) [(.ix (.var 5) (.cst (.int 0)))]),
  .expr (.me .remove (.var 2) [(.ix (.var 5) (.cst (.int 0)))]),
  .for (.name 6) (.ix (.var 5) (.cst (.int 0)))
  [.sub (.cst (.bl true)) (.var 4) (.var 6)]],
  .ret (.var 3)]⟩
/-- is_free -/
def c7 : FD := ⟨3, 5, [.for (.name 3) (.var 0)
  [.for (.name 4) (.ix (.var 1) (.var 3))
  [.ife (.and (.cmp .notin (.var 4) (.var 0)) (.cmp .notin (.var 4) (.var 2)))
  [.ret (.cst (.bl false))]
  []]],
  .ret (.cst (.bl true))]⟩
/-- groups_of -/
def c8 : FD := ⟨1, 1, [.ret (.call 5 [(.ix (.var 0) (.cst (.int 1)))] [.inl 0])]⟩
/-- _law_cell_at -/
def c9 : FD := ⟨2, 2, [.ife (.cmp .lt (.var 1) (.bi .len [(.var 0)]))
  [.ret (.ix (.var 0) (.var 1))]
  [],
  .ret (.cst (.int 0))]⟩
/-- _law_bag -/
def c10 : FD := ⟨2, 3, [.asg (.name 2) (.bin .mod (.bin .add (.bin .mul (.bin .mod (.bi .int [(.var 0)]) (.cst (.int 2147483647))) (.cst (.int 69621))) (.bin .mul (.cst (.int 7919)) (.bin .pow (.bin .add (.var 1) (.cst (.int 1))) (.cst (.int 3))))) (.cst (.int 2147483647))),
  .ret (.lst [(.bi .max2 [(.cst (.int 0)), (.bin .sub (.var 0) (.bin .pow (.cst (.int 10)) (.cst (.int 18))))]), (.var 2), (.var 1)])]⟩
/-- _law_draw -/
def c11 : FD := ⟨2, 3, [.ife (.cmp .gt (.ix (.var 0) (.cst (.int 0))) (.cst (.int 0)))
  [.asg (.name 2) (.bin .mod (.bi .int [(.ix (.var 0) (.cst (.int 0)))]) (.var 1)),
  .sub (.bin .fdiv (.ix (.var 0) (.cst (.int 0))) (.var 1)) (.var 0) (.cst (.int 0)),
  .ret (.var 2)]
  [],
  .sub (.bin .add (.ix (.var 0) (.cst (.int 2))) (.cst (.int 1))) (.var 0) (.cst (.int 2)),
  .sub (.bin .mod (.bi .int [(.bin .pow (.bin .add (.ix (.var 0) (.cst (.int 1))) (.bin .mul (.cst (.int 15485863)) (.ix (.var 0) (.cst (.int 2))))) (.cst (.int 5)))]) (.cst (.int 2147483647))) (.var 0) (.cst (.int 1)),
  .ret (.bin .mod (.bi .int [(.bin .fdiv (.ix (.var 0) (.cst (.int 1))) (.cst (.int 128)))]) (.var 1))]⟩
/-- _law_holding -/
def c12 : FD := ⟨3, 7, [.asg (.name 3) (.tup [(.cst (.str (S! "num"))), (.call 11 [(.var 0), (.cst (.int 50))] [.inl 0, .inl 1])]),
  .for (.name 4) (.bin .add (.var 1) (.bi .list [(.var 2)]))
  [.asg (.name 5) (.tup [(.cst (.str (S! "name"))), (.var 4)]),
  .asg (.name 6) (.call 11 [(.var 0), (.cst (.int 6))] [.inl 0, .inl 1]),
  .ife (.cmp .eq (.var 6) (.cst (.int 0)))
  [.asg (.name 3) (.tup [(.cst (.str (S! "app"))), (.var 3), (.tup [(.cst (.str (S! "fun"))), (.cst (.str (S! "q"))), (.tup [(.cst (.str (S! "op"))), (.cst (.str (S! "+"))), (.var 5), (.tup [(.cst (.str (S! "name"))), (.cst (.str (S! "q")))])])])])]
  [],
  .ife (.cmp .eq (.var 6) (.cst (.int 1)))
  [.asg (.name 3) (.tup [(.cst (.str (S! "let"))), (.tup [(.tup [(.cst (.str (S! "r"))), (.var 5)]), (.tup [(.cst (.str (S! "s"))), (.tup [(.cst (.str (S! "name"))), (.cst (.str (S! "r")))])])]), (.tup [(.cst (.str (S! "app"))), (.tup [(.cst (.str (S! "name"))), (.cst (.str (S! "s")))]), (.var 3)])])]
  [],
  .ife (.cmp .eq (.var 6) (.cst (.int 2)))
  [.asg (.name 3) (.tup [(.cst (.str (S! "case"))), (.var 3), (.tup [(.tup [(.cst (.str (S! "True"))), (.tup []), (.var 5)]), (.tup [(.cst (.str (S! "False"))), (.tup []), (.tup [(.cst (.str (S! "make"))), (.cst (.str (S! "True")))])])])])]
  [],
  .ife (.cmp .eq (.var 6) (.cst (.int 3)))
  [.asg (.name 3) (.tup [(.cst (.str (S! "op"))), (.ix (.lst [(.cst (.str (S! "+"))), (.cst (.str (S! "<")))]) (.call 11 [(.var 0), (.cst (.int 2))] [.inl 0, .inl 1])), (.var 5), (.var 3)])]
  [],
  .ife (.cmp .gt (.var 6) (.cst (.int 3)))
  [.asg (.name 3) (.ix (.lst [(.tup [(.cst (.str (S! "app"))), (.var 5), (.var 3)]), (.tup [(.cst (.str (S! "app"))), (.var 3), (.var 5)])]) (.bin .sub (.var 6) (.cst (.int 4))))]
  []],
  .ret (.var 3)]⟩
/-- _law_program -/
def c13 : FD := ⟨1, 12, [.asg (.name 1) (.bin .add (.cst (.int 1)) (.call 11 [(.var 0), (.cst (.int 9))] [.inl 0, .inl 1])),
  .asg (.name 2) (.lst []),
  .for (.name 3) (.range [(.var 1)])
  [.expr (.me .insert (.var 2) [(.call 11 [(.var 0), (.bin .add (.bi .len [(.var 2)]) (.cst (.int 1)))] [.inl 0, .inl 1]), (.bin .add (.ix (.cst (.str (S! "abefghjkm"))) (.var 3)) (.slice (.cst (.str (S! "nop"))) [] [(.call 11 [(.var 0), (.cst (.int 4))] [.inl 0, .inl 1])]))])],
  .asg (.name 4) (.lst []),
  .asg (.name 5) (.dict []),
  .asg (.name 6) (.call 11 [(.var 0), (.cst (.int 4))] [.inl 0, .inl 1]),
  .for (.tup [(.name 3), (.name 7)]) (.enum (.var 2))
  [.asg (.name 8) (.lst []),
  .for (.name 9) (.range [(.call 11 [(.var 0), (.cst (.int 4))] [.inl 0, .inl 1])])
  [.asg (.name 11) (.ix (.var 2) (.call 11 [(.var 0), (.var 1)] [.inl 0, .inl 1])),
  .ife (.cmp .eq (.var 6) (.cst (.int 0)))
  [.asg (.name 11) (.ix (.var 2) (.bin .mod (.bin .add (.var 3) (.cst (.int 1))) (.var 1)))]
  [],
  .ife (.cmp .eq (.var 6) (.cst (.int 1)))
  [.asg (.name 11) (.ix (.var 2) (.bi .max2 [(.cst (.int 0)), (.bin .sub (.bin .sub (.var 3) (.cst (.int 1))) (.call 11 [(.var 0), (.cst (.int 2))] [.inl 0, .inl 1]))]))]
  [],
  .ife (.cmp .notin (.var 11) (.var 8))
  [.expr (.me .append (.var 8) [(.var 11)])]
  []],
  .sub (.var 8) (.var 5) (.var 7),
  .asg (.name 10) (.bi .tuple [(.slice (.lst [(.cst (.str (S! "x"))), (.cst (.str (S! "y")))]) [] [(.call 11 [(.var 0), (.cst (.int 3))] [.inl 0, .inl 1])])]),
  .expr (.me .append (.var 4) [(.tup [(.var 7), (.var 10), (.call 12 [(.var 0), (.var 8), (.var 10)] [.inl 0, .inl 1, .inl 2])])])],
  .ret (.tup [(.tup [(.tup []), (.bi .tuple [(.var 4)])]), (.var 5)])]⟩
/-- _law_due -/
def c14 : FD := ⟨2, 13, [.asg (.name 2) (.lc (.lc (.cmp .isin (.var 10) (.ix (.var 1) (.var 9))) (.name 10) (.var 0) [] [10]) (.name 9) (.var 0) [] [9]),
  .for (.name 3) (.range [(.bi .len [(.var 0)])])
  [.asg (.name 2) (.lc (.lc (.or (.ix (.var 11) (.var 12)) (.and (.ix (.var 11) (.var 3)) (.ix (.ix (.var 2) (.var 3)) (.var 12)))) (.name 12) (.range [(.bi .len [(.var 0)])]) [] [12]) (.name 11) (.var 2) [] [11])],
  .asg (.name 4) (.lst []),
  .for (.name 3) (.range [(.bi .len [(.var 0)])])
  [.asg (.name 7) (.lc (.var 12) (.name 12) (.range [(.bi .len [(.var 0)])]) [(.or (.cmp .eq (.var 12) (.var 3)) (.and (.ix (.ix (.var 2) (.var 3)) (.var 12)) (.ix (.ix (.var 2) (.var 12)) (.var 3))))] [12]),
  .ife (.cmp .notin (.var 7) (.var 4))
  [.expr (.me .append (.var 4) [(.var 7)])]
  []],
  .asg (.name 5) (.lst []),
  .asg (.name 6) (.lst []),
  .whil (.cmp .ne (.var 4) (.lst []))
  [.asg (.name 8) (.lst []),
  .for (.name 7) (.var 4)
  [.ife (.bi .all [(.lc (.or (.cmp .isin (.var 12) (.var 6)) (.cmp .isin (.var 12) (.var 7))) (.name 12) (.range [(.bi .len [(.var 0)])]) [(.ix (.ix (.var 2) (.ix (.var 7) (.cst (.int 0)))) (.var 12))] [12])])
  [.expr (.me .append (.var 8) [(.var 7)])]
  []],
  .expr (.me .append (.var 5) [(.bi .tuple [(.lc (.ix (.var 0) (.var 12)) (.name 12) (.ix (.var 8) (.cst (.int 0))) [] [12])])]),
  .asg (.name 6) (.bin .add (.var 6) (.ix (.var 8) (.cst (.int 0)))),
  .expr (.me .remove (.var 4) [(.ix (.var 8) (.cst (.int 0)))])],
  .ret (.var 5)]⟩
/-- _law_right -/
def c15 : FD := ⟨1, 6, [.asg (.tup [(.name 3), (.name 4)]) (.call 13 [(.var 0)] [.inl 0]),
  .asg (.name 1) (.call 8 [(.var 3)] [.inl 0]),
  .asg (.name 2) (.call 14 [(.lc (.ix (.var 5) (.cst (.int 0))) (.name 5) (.ix (.var 3) (.cst (.int 1))) [] [5]), (.var 4)] [.inl 0, .inl 1]),
  .ife (.or (.not (.bi .isinst [(.var 1), (.cst (.ty "list"))])) (.or (.not (.bi .all [(.lc (.bi .isinst [(.var 5), (.cst (.ty "tuple"))]) (.name 5) (.var 1) [] [5])])) (.cmp .ne (.var 1) (.var 2))))
  [.ret (.cst (.bl false))]
  [],
  .expr (.me .reverse (.var 1) []),
  .expr (.me .append (.var 1) [(.tup [])]),
  .ret (.cmp .eq (.call 8 [(.var 3)] [.inl 0]) (.var 2))]⟩
/-- law -/
def c16 : FD := ⟨1, 2, [.for (.name 1) (.range [(.bi .max2 [(.cst (.int 1)), (.bi .min2 [(.bi .len [(.var 0)]), (.cst (.int 8))])])])
  [.ife (.not (.call 15 [(.call 10 [(.call 9 [(.var 0), (.var 1)] [.inl 0, .inl 1]), (.var 1)] [.inl 0, .inl 1])] [.inl 0]))
  [.ret (.cst (.bl false))]
  []],
  .ret (.cst (.bl true))]⟩
def mkD (x : Str) (st : Stmt) : He.DefD := ⟨(x, none), x, x, defArgs st, defBody st, defScope st, [], []⟩
def R0 : TRow := ⟨mkD ("parts_of" : Str) (top 1), [("term" : Str), ("names" : Str), ("name" : Str), ("part" : Str), ("maker" : Str), ("body" : Str)], [("term" : Str)], c0⟩
def R1 : TRow := ⟨mkD ("gather" : Str) (top 3), [("term" : Str), ("bound" : Str), ("found" : Str), ("part" : Str), ("names" : Str)], [("term" : Str), ("bound" : Str), ("found" : Str)], c1⟩
def R2 : TRow := ⟨mkD ("free_names" : Str) (top 4), [("term" : Str), ("found" : Str)], [("term" : Str)], c2⟩
def R3 : TRow := ⟨mkD ("mentions_of" : Str) (top 6), [("defs" : Str), ("names" : Str), ("name" : Str), ("params" : Str), ("body" : Str), ("one" : Str)], [("defs" : Str)], c3⟩
def R4 : TRow := ⟨mkD ("come_to" : Str) (top 7), [("mentions" : Str), ("name" : Str), ("found" : Str), ("left" : Str), ("one" : Str)], [("mentions" : Str), ("name" : Str)], c4⟩
def R5 : TRow := ⟨mkD ("grouped" : Str) (top 8), [("defs" : Str), ("mentions" : Str), ("reach" : Str), ("groups" : Str), ("seen" : Str), ("name" : Str), ("group" : Str), ("one" : Str)], [("defs" : Str)], c5⟩
def R6 : TRow := ⟨mkD ("ordered" : Str) (top 9), [("groups" : Str), ("mentions" : Str), ("left" : Str), ("found" : Str), ("placed" : Str), ("free" : Str), ("name" : Str), ("group" : Str)], [("groups" : Str), ("mentions" : Str)], c6⟩
def R7 : TRow := ⟨mkD ("is_free" : Str) (top 10), [("group" : Str), ("mentions" : Str), ("placed" : Str), ("name" : Str), ("one" : Str)], [("group" : Str), ("mentions" : Str), ("placed" : Str)], c7⟩
def R8 : TRow := ⟨mkD ("groups_of" : Str) (top 12), [("program" : Str)], [("program" : Str)], c8⟩
def R9 : TRow := ⟨mkD ("_law_cell_at" : Str) (top 14), [("script" : Str), ("k" : Str)], [("script" : Str), ("k" : Str)], c9⟩
def R10 : TRow := ⟨mkD ("_law_bag" : Str) (top 15), [("seed" : Str), ("place" : Str), ("start" : Str)], [("seed" : Str), ("place" : Str)], c10⟩
def R11 : TRow := ⟨mkD ("_law_draw" : Str) (top 16), [("bag" : Str), ("many" : Str), ("found" : Str)], [("bag" : Str), ("many" : Str)], c11⟩
def R12 : TRow := ⟨mkD ("_law_holding" : Str) (top 17), [("bag" : Str), ("some" : Str), ("params" : Str), ("term" : Str), ("name" : Str), ("one" : Str), ("way" : Str)], [("bag" : Str), ("some" : Str), ("params" : Str)], c12⟩
def R13 : TRow := ⟨mkD ("_law_program" : Str) (top 18), [("bag" : Str), ("many" : Str), ("names" : Str), ("k" : Str), ("defs" : Str), ("named" : Str), ("near" : Str), ("name" : Str), ("some" : Str), ("turn" : Str), ("params" : Str), ("one" : Str)], [("bag" : Str)], c13⟩
def R14 : TRow := ⟨mkD ("_law_due" : Str) (top 19), [("names" : Str), ("named" : Str), ("come" : Str), ("k" : Str), ("left" : Str), ("found" : Str), ("put" : Str), ("group" : Str), ("free" : Str), ("name" : Str), ("other" : Str), ("row" : Str), ("j" : Str)], [("names" : Str), ("named" : Str)], c14⟩
def R15 : TRow := ⟨mkD ("_law_right" : Str) (top 20), [("bag" : Str), ("told" : Str), ("due" : Str), ("prog" : Str), ("named" : Str), ("one" : Str)], [("bag" : Str)], c15⟩
def R16 : TRow := ⟨mkD ("law" : Str) (top 21), [("script" : Str), ("k" : Str)], [("script" : Str)], c16⟩
def T : List TRow := [R0, R1, R2, R3, R4, R5, R6, R7, R8, R9, R10, R11, R12, R13, R14, R15, R16]
def gl : Gm where
  fns := [(("parts_of" : Str), 0), (("gather" : Str), 1), (("free_names" : Str), 2), (("mentions_of" : Str), 3), (("come_to" : Str), 4), (("grouped" : Str), 5), (("ordered" : Str), 6), (("is_free" : Str), 7), (("groups_of" : Str), 8), (("_law_cell_at" : Str), 9), (("_law_bag" : Str), 10), (("_law_draw" : Str), 11), (("_law_holding" : Str), 12), (("_law_program" : Str), 13), (("_law_due" : Str), 14), (("_law_right" : Str), 15), (("law" : Str), 16)]
  cons := []
  free := [("all" : Str), ("enumerate" : Str), ("int" : Str), ("isinstance" : Str), ("len" : Str), ("list" : Str), ("max" : Str), ("min" : Str), ("range" : Str), ("sorted" : Str), ("tuple" : Str)]
  shapes := [(((0, 1, []) : Nat × Nat × List Str), ([.inl 0] : List (Sum Nat D))), (((1, 3, []) : Nat × Nat × List Str), ([.inl 0, .inl 1, .inl 2] : List (Sum Nat D))), (((2, 1, []) : Nat × Nat × List Str), ([.inl 0] : List (Sum Nat D))), (((3, 1, []) : Nat × Nat × List Str), ([.inl 0] : List (Sum Nat D))), (((4, 2, []) : Nat × Nat × List Str), ([.inl 0, .inl 1] : List (Sum Nat D))), (((6, 2, []) : Nat × Nat × List Str), ([.inl 0, .inl 1] : List (Sum Nat D))), (((7, 3, []) : Nat × Nat × List Str), ([.inl 0, .inl 1, .inl 2] : List (Sum Nat D))), (((5, 1, []) : Nat × Nat × List Str), ([.inl 0] : List (Sum Nat D))), (((11, 2, []) : Nat × Nat × List Str), ([.inl 0, .inl 1] : List (Sum Nat D))), (((12, 3, []) : Nat × Nat × List Str), ([.inl 0, .inl 1, .inl 2] : List (Sum Nat D))), (((13, 1, []) : Nat × Nat × List Str), ([.inl 0] : List (Sum Nat D))), (((8, 1, []) : Nat × Nat × List Str), ([.inl 0] : List (Sum Nat D))), (((14, 2, []) : Nat × Nat × List Str), ([.inl 0, .inl 1] : List (Sum Nat D))), (((8, 0, [("program" : Str)]) : Nat × Nat × List Str), ([.inl 0] : List (Sum Nat D))), (((9, 2, []) : Nat × Nat × List Str), ([.inl 0, .inl 1] : List (Sum Nat D))), (((10, 2, []) : Nat × Nat × List Str), ([.inl 0, .inl 1] : List (Sum Nat D))), (((15, 1, []) : Nat × Nat × List Str), ([.inl 0] : List (Sum Nat D)))]
  ps := tblPs T
abbrev P : Nat → Option FD := tblP T
theorem r0 : RowOk gl R0 where
  sc := ⟨rfl, rfl, rfl, by decide +kernel, rfl, by decide +kernel, by decide +kernel⟩
  tr := by kernel_rfl
  slots := rfl
  np := rfl
theorem r1 : RowOk gl R1 where
  sc := ⟨rfl, rfl, rfl, by decide +kernel, rfl, by decide +kernel, by decide +kernel⟩
  tr := by kernel_rfl
  slots := rfl
  np := rfl
theorem r2 : RowOk gl R2 where
  sc := ⟨rfl, rfl, rfl, by decide +kernel, rfl, by decide +kernel, by decide +kernel⟩
  tr := by kernel_rfl
  slots := rfl
  np := rfl
theorem r3 : RowOk gl R3 where
  sc := ⟨rfl, rfl, rfl, by decide +kernel, rfl, by decide +kernel, by decide +kernel⟩
  tr := by kernel_rfl
  slots := rfl
  np := rfl
theorem r4 : RowOk gl R4 where
  sc := ⟨rfl, rfl, rfl, by decide +kernel, rfl, by decide +kernel, by decide +kernel⟩
  tr := by kernel_rfl
  slots := rfl
  np := rfl
theorem r5 : RowOk gl R5 where
  sc := ⟨rfl, rfl, rfl, by decide +kernel, rfl, by decide +kernel, by decide +kernel⟩
  tr := by kernel_rfl
  slots := rfl
  np := rfl
theorem r6 : RowOk gl R6 where
  sc := ⟨rfl, rfl, rfl, by decide +kernel, rfl, by decide +kernel, by decide +kernel⟩
  tr := by kernel_rfl
  slots := rfl
  np := rfl
theorem r7 : RowOk gl R7 where
  sc := ⟨rfl, rfl, rfl, by decide +kernel, rfl, by decide +kernel, by decide +kernel⟩
  tr := by kernel_rfl
  slots := rfl
  np := rfl
theorem r8 : RowOk gl R8 where
  sc := ⟨rfl, rfl, rfl, by decide +kernel, rfl, by decide +kernel, by decide +kernel⟩
  tr := by kernel_rfl
  slots := rfl
  np := rfl
theorem r9 : RowOk gl R9 where
  sc := ⟨rfl, rfl, rfl, by decide +kernel, rfl, by decide +kernel, by decide +kernel⟩
  tr := by kernel_rfl
  slots := rfl
  np := rfl
theorem r10 : RowOk gl R10 where
  sc := ⟨rfl, rfl, rfl, by decide +kernel, rfl, by decide +kernel, by decide +kernel⟩
  tr := by kernel_rfl
  slots := rfl
  np := rfl
theorem r11 : RowOk gl R11 where
  sc := ⟨rfl, rfl, rfl, by decide +kernel, rfl, by decide +kernel, by decide +kernel⟩
  tr := by kernel_rfl
  slots := rfl
  np := rfl
theorem r12 : RowOk gl R12 where
  sc := ⟨rfl, rfl, rfl, by decide +kernel, rfl, by decide +kernel, by decide +kernel⟩
  tr := by kernel_rfl
  slots := rfl
  np := rfl
theorem r13 : RowOk gl R13 where
  sc := ⟨rfl, rfl, rfl, by decide +kernel, rfl, by decide +kernel, by decide +kernel⟩
  tr := by kernel_rfl
  slots := rfl
  np := rfl
theorem r14 : RowOk gl R14 where
  sc := ⟨rfl, rfl, rfl, by decide +kernel, rfl, by decide +kernel, by decide +kernel⟩
  tr := by kernel_rfl
  slots := rfl
  np := rfl
theorem r15 : RowOk gl R15 where
  sc := ⟨rfl, rfl, rfl, by decide +kernel, rfl, by decide +kernel, by decide +kernel⟩
  tr := by kernel_rfl
  slots := rfl
  np := rfl
theorem r16 : RowOk gl R16 where
  sc := ⟨rfl, rfl, rfl, by decide +kernel, rfl, by decide +kernel, by decide +kernel⟩
  tr := by kernel_rfl
  slots := rfl
  np := rfl
theorem rows : ∀ r ∈ T, RowOk gl r := by
  intro r hr
  simp only [T, List.mem_cons, List.not_mem_nil, or_false] at hr
  rcases hr with rfl | rfl | rfl | rfl | rfl | rfl | rfl | rfl | rfl | rfl | rfl | rfl | rfl | rfl | rfl | rfl | rfl
  · exact r0
  · exact r1
  · exact r2
  · exact r3
  · exact r4
  · exact r5
  · exact r6
  · exact r7
  · exact r8
  · exact r9
  · exact r10
  · exact r11
  · exact r12
  · exact r13
  · exact r14
  · exact r15
  · exact r16
theorem b0 : PlainRow R0 := ⟨rfl, fun kV doc pm an cdv ct us hl => match us, hl with | [_], _ => rfl⟩
theorem b1 : PlainRow R1 := ⟨rfl, fun kV doc pm an cdv ct us hl => match us, hl with | [_, _, _], _ => rfl⟩
theorem b2 : PlainRow R2 := ⟨rfl, fun kV doc pm an cdv ct us hl => match us, hl with | [_], _ => rfl⟩
theorem b3 : PlainRow R3 := ⟨rfl, fun kV doc pm an cdv ct us hl => match us, hl with | [_], _ => rfl⟩
theorem b4 : PlainRow R4 := ⟨rfl, fun kV doc pm an cdv ct us hl => match us, hl with | [_, _], _ => rfl⟩
theorem b5 : PlainRow R5 := ⟨rfl, fun kV doc pm an cdv ct us hl => match us, hl with | [_], _ => rfl⟩
theorem b6 : PlainRow R6 := ⟨rfl, fun kV doc pm an cdv ct us hl => match us, hl with | [_, _], _ => rfl⟩
theorem b7 : PlainRow R7 := ⟨rfl, fun kV doc pm an cdv ct us hl => match us, hl with | [_, _, _], _ => rfl⟩
theorem b8 : PlainRow R8 := ⟨rfl, fun kV doc pm an cdv ct us hl => match us, hl with | [_], _ => rfl⟩
theorem b9 : PlainRow R9 := ⟨rfl, fun kV doc pm an cdv ct us hl => match us, hl with | [_, _], _ => rfl⟩
theorem b10 : PlainRow R10 := ⟨rfl, fun kV doc pm an cdv ct us hl => match us, hl with | [_, _], _ => rfl⟩
theorem b11 : PlainRow R11 := ⟨rfl, fun kV doc pm an cdv ct us hl => match us, hl with | [_, _], _ => rfl⟩
theorem b12 : PlainRow R12 := ⟨rfl, fun kV doc pm an cdv ct us hl => match us, hl with | [_, _, _], _ => rfl⟩
theorem b13 : PlainRow R13 := ⟨rfl, fun kV doc pm an cdv ct us hl => match us, hl with | [_], _ => rfl⟩
theorem b14 : PlainRow R14 := ⟨rfl, fun kV doc pm an cdv ct us hl => match us, hl with | [_, _], _ => rfl⟩
theorem b15 : PlainRow R15 := ⟨rfl, fun kV doc pm an cdv ct us hl => match us, hl with | [_], _ => rfl⟩
theorem b16 : PlainRow R16 := ⟨rfl, fun kV doc pm an cdv ct us hl => match us, hl with | [_], _ => rfl⟩
theorem plains : ∀ r ∈ T, PlainRow r := by
  intro r hr
  simp only [T, List.mem_cons, List.not_mem_nil, or_false] at hr
  rcases hr with rfl | rfl | rfl | rfl | rfl | rfl | rfl | rfl | rfl | rfl | rfl | rfl | rfl | rfl | rfl | rfl | rfl
  · exact b0
  · exact b1
  · exact b2
  · exact b3
  · exact b4
  · exact b5
  · exact b6
  · exact b7
  · exact b8
  · exact b9
  · exact b10
  · exact b11
  · exact b12
  · exact b13
  · exact b14
  · exact b15
  · exact b16
theorem s0 : ShapeRow R0 1 [] [0] := ⟨rfl, fun kV doc pm an cdv ct us ws h1 h2 => match us, ws, h1, h2 with | [_], [], _, _ => rfl⟩
theorem s1 : ShapeRow R1 3 [] [0, 1, 2] := ⟨rfl, fun kV doc pm an cdv ct us ws h1 h2 => match us, ws, h1, h2 with | [_, _, _], [], _, _ => rfl⟩
theorem s2 : ShapeRow R2 1 [] [0] := ⟨rfl, fun kV doc pm an cdv ct us ws h1 h2 => match us, ws, h1, h2 with | [_], [], _, _ => rfl⟩
theorem s3 : ShapeRow R3 1 [] [0] := ⟨rfl, fun kV doc pm an cdv ct us ws h1 h2 => match us, ws, h1, h2 with | [_], [], _, _ => rfl⟩
theorem s4 : ShapeRow R4 2 [] [0, 1] := ⟨rfl, fun kV doc pm an cdv ct us ws h1 h2 => match us, ws, h1, h2 with | [_, _], [], _, _ => rfl⟩
theorem s5 : ShapeRow R6 2 [] [0, 1] := ⟨rfl, fun kV doc pm an cdv ct us ws h1 h2 => match us, ws, h1, h2 with | [_, _], [], _, _ => rfl⟩
theorem s6 : ShapeRow R7 3 [] [0, 1, 2] := ⟨rfl, fun kV doc pm an cdv ct us ws h1 h2 => match us, ws, h1, h2 with | [_, _, _], [], _, _ => rfl⟩
theorem s7 : ShapeRow R5 1 [] [0] := ⟨rfl, fun kV doc pm an cdv ct us ws h1 h2 => match us, ws, h1, h2 with | [_], [], _, _ => rfl⟩
theorem s8 : ShapeRow R11 2 [] [0, 1] := ⟨rfl, fun kV doc pm an cdv ct us ws h1 h2 => match us, ws, h1, h2 with | [_, _], [], _, _ => rfl⟩
theorem s9 : ShapeRow R12 3 [] [0, 1, 2] := ⟨rfl, fun kV doc pm an cdv ct us ws h1 h2 => match us, ws, h1, h2 with | [_, _, _], [], _, _ => rfl⟩
theorem s10 : ShapeRow R13 1 [] [0] := ⟨rfl, fun kV doc pm an cdv ct us ws h1 h2 => match us, ws, h1, h2 with | [_], [], _, _ => rfl⟩
theorem s11 : ShapeRow R8 1 [] [0] := ⟨rfl, fun kV doc pm an cdv ct us ws h1 h2 => match us, ws, h1, h2 with | [_], [], _, _ => rfl⟩
theorem s12 : ShapeRow R14 2 [] [0, 1] := ⟨rfl, fun kV doc pm an cdv ct us ws h1 h2 => match us, ws, h1, h2 with | [_, _], [], _, _ => rfl⟩
theorem s13 : ShapeRow R8 0 [("program" : Str)] [0] := ⟨rfl, fun kV doc pm an cdv ct us ws h1 h2 => match us, ws, h1, h2 with | [], [_], _, _ => rfl⟩
theorem s14 : ShapeRow R9 2 [] [0, 1] := ⟨rfl, fun kV doc pm an cdv ct us ws h1 h2 => match us, ws, h1, h2 with | [_, _], [], _, _ => rfl⟩
theorem s15 : ShapeRow R10 2 [] [0, 1] := ⟨rfl, fun kV doc pm an cdv ct us ws h1 h2 => match us, ws, h1, h2 with | [_, _], [], _, _ => rfl⟩
theorem s16 : ShapeRow R15 1 [] [0] := ⟨rfl, fun kV doc pm an cdv ct us ws h1 h2 => match us, ws, h1, h2 with | [_], [], _, _ => rfl⟩
theorem shapes : ShapesAre T gl.shapes := by
  intro f n ks sel h
  simp only [gl, List.mem_cons, List.not_mem_nil, or_false, Prod.mk.injEq] at h
  rcases h with ⟨⟨rfl, rfl, rfl⟩, rfl⟩ | ⟨⟨rfl, rfl, rfl⟩, rfl⟩ | ⟨⟨rfl, rfl, rfl⟩, rfl⟩ | ⟨⟨rfl, rfl, rfl⟩, rfl⟩ | ⟨⟨rfl, rfl, rfl⟩, rfl⟩ | ⟨⟨rfl, rfl, rfl⟩, rfl⟩ | ⟨⟨rfl, rfl, rfl⟩, rfl⟩ | ⟨⟨rfl, rfl, rfl⟩, rfl⟩ | ⟨⟨rfl, rfl, rfl⟩, rfl⟩ | ⟨⟨rfl, rfl, rfl⟩, rfl⟩ | ⟨⟨rfl, rfl, rfl⟩, rfl⟩ | ⟨⟨rfl, rfl, rfl⟩, rfl⟩ | ⟨⟨rfl, rfl, rfl⟩, rfl⟩ | ⟨⟨rfl, rfl, rfl⟩, rfl⟩ | ⟨⟨rfl, rfl, rfl⟩, rfl⟩ | ⟨⟨rfl, rfl, rfl⟩, rfl⟩ | ⟨⟨rfl, rfl, rfl⟩, rfl⟩
  · exact ⟨_, [0], rfl, rfl, s0⟩
  · exact ⟨_, [0, 1, 2], rfl, rfl, s1⟩
  · exact ⟨_, [0], rfl, rfl, s2⟩
  · exact ⟨_, [0], rfl, rfl, s3⟩
  · exact ⟨_, [0, 1], rfl, rfl, s4⟩
  · exact ⟨_, [0, 1], rfl, rfl, s5⟩
  · exact ⟨_, [0, 1, 2], rfl, rfl, s6⟩
  · exact ⟨_, [0], rfl, rfl, s7⟩
  · exact ⟨_, [0, 1], rfl, rfl, s8⟩
  · exact ⟨_, [0, 1, 2], rfl, rfl, s9⟩
  · exact ⟨_, [0], rfl, rfl, s10⟩
  · exact ⟨_, [0], rfl, rfl, s11⟩
  · exact ⟨_, [0, 1], rfl, rfl, s12⟩
  · exact ⟨_, [0], rfl, rfl, s13⟩
  · exact ⟨_, [0, 1], rfl, rfl, s14⟩
  · exact ⟨_, [0, 1], rfl, rfl, s15⟩
  · exact ⟨_, [0], rfl, rfl, s16⟩
abbrev RW : PySem.W.OpenRow := PySem.W.OpenLaw.row PySem.Challenge.rw_needforge_k15_groups
abbrev hk : PySem.W.Hook := hookN 5 T gl
def ob (s : PySem.W.SharedT) : He.AlD := obsNG 5 T gl (HandSHeadRun.getT s)
theorem ob_eq (s : PySem.W.SharedT) : ob s = hk.obs s.abs := obsNG_eq (HandSHeadRun.getT_eq s)
theorem run (w : World) : HandSHeadRun.RunEq RW (PySem.W.view RW.prog [21]) hk ob 780 [("parts_of" : Str), ("gather" : Str), ("free_names" : Str), ("mentions_of" : Str), ("come_to" : Str), ("grouped" : Str), ("ordered" : Str), ("is_free" : Str), ("groups_of" : Str), ("_law_cell_at" : Str), ("_law_bag" : Str), ("_law_draw" : Str), ("_law_holding" : Str), ("_law_program" : Str), ("_law_due" : Str), ("_law_right" : Str)] w := by
  intro os
  kernel_rfl
end K15H
open PySem PySem.W PySem.Calls PyProof.Rows
theorem K15H_law (law : ∀ ns : List Int, ns.length ≤ 63 → (∀ z ∈ ns, Builtin.Int.intBits z ≤ 1048576) → ∃ S e, NF.run (NF.tblP K15H.T) 300 690 16 [.cl (ns.map .int)] [] = .ok (.bl true) S e) : PySem.Challenge.rw_needforge_k15_groups.Holds := by
  w_on; o_law
  refine HandSHeadRun.head_any (r := OpenLaw.row PySem.Challenge.rw_needforge_k15_groups) (q := view (OpenLaw.row PySem.Challenge.rw_needforge_k15_groups).prog [21]) (H := K15H.hk) (ob := K15H.ob) (M := 780) (loose := [("parts_of" : Str), ("gather" : Str), ("free_names" : Str), ("mentions_of" : Str), ("come_to" : Str), ("grouped" : Str), ("ordered" : Str), ("is_free" : Str), ("groups_of" : Str), ("_law_cell_at" : Str), ("_law_bag" : Str), ("_law_draw" : Str), ("_law_holding" : Str), ("_law_program" : Str), ("_law_due" : Str), ("_law_right" : Str)]) (d := HandSHeadRun.topDef (OpenLaw.row PySem.Challenge.rw_needforge_k15_groups).prog 21) (kwd := []) K15H.ob_eq
    (by kernel_rfl) (fun s => by kernel_rfl) K15H.run (by kernel_rfl) (by kernel_rfl) (by kernel_rfl) (by rfl) (by first | assumption | decide +kernel) (by decide +kernel) ⟨rfl, rfl, rfl, rfl, rfl, by decide +kernel⟩ ?hw ?hc
  case hw => w_witness2
  case hc =>
    exact NF.law_end (l := PySem.Challenge.rw_needforge_k15_groups) (n := 63) (m := 5) (i := 16) (L := 300) (x := "script") (T := K15H.T) (gl := K15H.gl) rfl (by decide) (by kernel_rfl) (by kernel_rfl) (by kernel_rfl) rfl rfl rfl rfl
      (fun kV doc pm an cdv ct u => rfl) (fun K c => NF.shapes_ok c K15H.shapes K15H.plains rfl) rfl K15H.rows law
theorem NF.bits_of_intBits {z : Int} (h : Builtin.Int.intBits z ≤ 1048576) : NF.bits z ≤ 1048576 := by
  unfold Builtin.Int.intBits at h
  unfold NF.bits
  split at h
  · rename_i e
    have e : z = 0 := by simpa using e
    subst e
    decide
  · omega
theorem PySem.Challenge.cw_needforge_k15_groups_holds : PySem.Challenge.rw_needforge_k15_groups.Holds :=
  K15H_law fun ns hl hb => K15.law_spec (P := NF.tblP K15H.T) ⟨rfl, rfl, rfl, rfl, rfl, rfl, rfl, rfl, rfl, rfl, rfl, rfl, rfl, rfl, rfl, rfl, rfl⟩ hl fun z hz => NF.bits_of_intBits (hb z hz)

