import PyProof.Rows.All
import Wide.All
import OpenK.AllK
import Wide.FinOn
import HandS.ForMost
import HandS.TupAny
import HandS.TupLe
import HandS.Style
import HandS.IsInst
import HandS.Codes
import HandS.Lambda
import HandS.EndTab
import HandS.Strs
import HandS.SetFor
import HandS.TupSets
import HandS.Deep
import HandS.Conv
import KE.SortKeyHeap
import HandS.Text
import KE.SortData
import HandS.Walk
import PySem.Challenge.RW_neverdark_k53_ceremonies
set_option Elab.async false
set_option linter.all false
set_option maxRecDepth 100000
/-! Ev1: a small language with a total denotation on plain data. -/
namespace Ev
open PySem L2

abbrev D := PyData
/-- a thing in the store, by its number -/
abbrev rf (n : Nat) : D := .dict [(.int (n : Int), .none)]

/-- things in the store -/
inductive WO where
  | lst (xs : List D)
abbrev W := List WO

/-- what a slot holds: nothing, a value, a list of the def's own -/
inductive Sl where
  | un
  | val (d : D)
  | own (xs : List D)
abbrev En := List Sl

structure Sm where
  val : Nat → List D → W → D × W
  wd : Nat → List D → W → Prop
  fuel : Nat

def rd (ρ : En) (i : Nat) : D := match ρ[i]? with
  | some (.val d) => d
  | some (.own xs) => .list xs
  | _ => .none
def isVal (ρ : En) (i : Nat) : Prop := match ρ[i]? with
  | some (.val _) => True
  | _ => False
def isBound (ρ : En) (i : Nat) : Prop := match ρ[i]? with
  | some (.val _) => True
  | some (.own _) => True
  | _ => False

/-! ### primitives -/
inductive P1 where
  | neg | len | all | any | sum | max1 | min1 | abs | int1 | str1 | tup1 | lst1 | srt | lenS | srtS | rev | rngL | rngT
  | isi (t : String)
inductive P2 where
  | add | sub | mul | fdiv | mod | shl | shr | band
  | eq | ne | lt | le | gt | ge | is | isnot | inn | notin
  | ix | max2 | min2 | rpop
inductive P3 where
  | slc

inductive Pat where
  | one (i : Nat)
  | tup (is : List Nat)

mutual
inductive Ex where
  | var (i : Nat)
  | brw (i : Nat)
  | lit (d : D)
  | p1 (o : P1) (a : Ex)
  | p2 (o : P2) (a b : Ex)
  | chn (o o' : P2) (a b c : Ex)
  | sll (a : Ex) (lo : Ex)          -- a[lo:]
  | slh (a : Ex) (hi : Ex)          -- a[:hi]
  | slb (a : Ex) (lo hi : Ex)       -- a[lo:hi]
  | and (a b : Ex)
  | or (a b : Ex)
  | not (a : Ex)
  | ite (c a b : Ex)
  | tup (es : Exs)
  | lst (es : Exs)
  | nlst (es : Exs)                 -- a list display that is put into the store
  | stor (a : Ex)                   -- a new list that is put into the store
  | call (f : Nat) (es : Exs)
  | comp (eff : Bool) (p : Pat) (src : Src) (tst elt : Ex)
  | comp2 (p : Pat) (src : Src) (tst : Ex) (p' : Pat) (src' : Src) (tst' elt : Ex)
  | srtK (i : Nat) (a key : Ex)     -- sorted(a, key=lambda x: key)
  | srtF (a : Ex) (f : Nat)         -- sorted(a, key=f)
  | minK (i : Nat) (a key : Ex)
  | minF (a : Ex) (f : Nat)
  | gen (all : Bool) (p : Pat) (src : Src) (tst elt : Ex)   -- all(.. for ..), any(.. for ..)
inductive Exs where
  | nil
  | cons (e : Ex) (es : Exs)
inductive Src where
  | seq (e : Ex)
  | rng1 (a : Ex)
  | rng2 (a b : Ex)
end

mutual
inductive St where
  | set (i : Nat) (e : Ex)
  | setT (is : List Nat) (e : Ex)
  | par (i j : Nat) (a b : Ex)
  | aug (i : Nat) (o : P2) (e : Ex)
  | ext (i : Nat) (e : Ex)
  | app (i : Nat) (e : Ex)
  | six (i : Nat) (k e : Ex)
  | rsix (o k e : Ex)
  | expr (e : Ex)
  | ret (e : Ex)
  | retN
  | ifs (c : Ex) (a b : Blk)
  | for (p : Pat) (src : Src) (b : Blk)
  | whl (c : Ex) (b : Blk)
  | brk
  | cnt
  | pass
  | frz (i : Nat)
inductive Blk where
  | nil
  | cons (s : St) (b : Blk)
end

/-! ### values -/
def tr : D → Bool
  | .bool b => b
  | _ => false
def its : D → List D
  | .list xs => xs
  | .tuple xs => xs
  | _ => []
def toI : D → Int
  | .int i => i
  | _ => 0
def toS : D → Str
  | .str x => x
  | _ => Str.empty
def rfN : D → Option Nat
  | .dict [(.int n, .none)] => some n.toNat
  | _ => none
def wlst (w : W) (n : Nat) : List D := match w[n]? with
  | some (.lst xs) => xs
  | _ => []
/-- the items of a list, a tuple, a list in the store -/
def itsW (d : D) (w : W) : List D := match rfN d with
  | some n => wlst w n
  | none => its d
def cutD (xs : List D) (lo hi : Option Int) : List D := (xs.drop (HT.sIx xs.length 0 lo)).take (HT.sIx xs.length xs.length hi - HT.sIx xs.length 0 lo)
/-- < of plain data -/
def ltD (x y : D) : Bool := PySem.W.dataLt x y
def leD (x y : D) : Bool := !PySem.W.dataLt y x
def leK (x y : D) : Bool := !ltD y x
def addD : D → D → D
  | .int i, .int j => .int (i + j)
  | .str x, .str y => .str (x ++ y)
  | .tuple x, .tuple y => .tuple (x ++ y)
  | .list x, .list y => .list (x ++ y)
  | _, _ => .none
def mulD : D → D → D
  | .int i, .int j => .int (i * j)
  | .list x, .int j => .list (List.replicate j.toNat x).flatten
  | _, _ => .none
def inD (x : D) (xs : List D) : Bool := xs.any fun y => PyData.eqv y x
def isD (x y : D) : Bool := match x, y with
  | .none, .none => true
  | .bool a, .bool b => a == b
  | _, _ => false
def slcD (d : D) (lo hi : Option Int) : D := match d with
  | .tuple xs => .tuple (cutD xs lo hi)
  | .list xs => .list (cutD xs lo hi)
  | .str x => .str (L2.cutS x lo hi)
  | _ => .none

/-- a[i] by Python's rule for places -/
def ixD (d : D) (i : Int) (w : W) : D := match d with
  | .str x => match L2.atI x.cps.toList i with
    | some c => .str ⟨#[c]⟩
    | none => .none
  | d => (L2.atI (itsW d w) i).getD .none
def tyD (t : String) : D → Bool
  | .int _ => t == "int"
  | .bool _ => t == "bool" || t == "int"
  | .str _ => t == "str"
  | .tuple _ => t == "tuple"
  | .list _ => t == "list"
  | _ => false
def lenD (d : D) (w : W) : Nat := match d with
  | .str x => x.length
  | d => (itsW d w).length
def dInts (xs : List D) : List Int := xs.map toI
def maxI : List Int → Int
  | [] => 0
  | [x] => x
  | x :: xs => max x (maxI xs)
def minI : List Int → Int
  | [] => 0
  | [x] => x
  | x :: xs => min x (minI xs)
def dedup (xs : List D) : List D := xs.foldl (fun acc x => if acc.any (fun y => PyData.eqv y x) then acc else acc ++ [x]) []
def sortD (xs : List D) : List D := xs.mergeSort leK
def sortByK (k : D → D) (xs : List D) : List D := xs.mergeSort fun x y => leK (k x) (k y)
/-- the first item with a least key -/
def leastK (k : D → D) : List D → D
  | [] => .none
  | x :: xs => xs.foldl (fun m y => if ltD (k y) (k m) = true then y else m) x
def rngL (a b : Int) : List D := (List.range (b - a).toNat).map fun (k : Nat) => PyData.int (a + (k : Int))
def setAtN {α : Type} (xs : List α) (i : Int) (v : α) : List α := match L2.ixN xs.length i with
  | some j => xs.set j v
  | none => xs

def v1 : P1 → D → W → D
  | .neg, d, _ => .int (-(toI d))
  | .len, d, w => .int (lenD d w)
  | .all, d, _ => .bool ((its d).all tr)
  | .any, d, _ => .bool ((its d).any tr)
  | .sum, d, _ => .int (dInts (its d)).sum
  | .max1, d, _ => .int (maxI (dInts (its d)))
  | .min1, d, _ => .int (minI (dInts (its d)))
  | .abs, d, _ => .int (if toI d < 0 then -(toI d) else toI d)
  | .int1, d, _ => match d with
    | .bool b => .int (if b then 1 else 0)
    | d => d
  | .str1, d, _ => .str (toString (toI d))
  | .tup1, d, _ => .tuple (its d)
  | .lst1, d, _ => .list (its d)
  | .srt, d, _ => .list (sortD (its d))
  | .srtS, d, _ => .list (sortD (dedup (its d)))
  | .lenS, d, _ => .int (dedup (its d)).length
  | .rev, d, _ => match d with
    | .tuple xs => .tuple xs.reverse
    | .list xs => .list xs.reverse
    | _ => .none
  | .rngL, d, _ => .list (rngL 0 (toI d))
  | .rngT, d, _ => .tuple (rngL 0 (toI d))
  | .isi t, d, _ => .bool (tyD t d)
def v2 : P2 → D → D → W → D
  | .add, a, b, _ => addD a b
  | .sub, a, b, _ => .int (toI a - toI b)
  | .mul, a, b, _ => mulD a b
  | .fdiv, a, b, _ => .int (toI a / toI b)
  | .mod, a, b, _ => .int (toI a % toI b)
  | .shl, a, b, _ => .int (toI a * 2 ^ (toI b).toNat)
  | .shr, a, b, _ => .int (toI a / 2 ^ (toI b).toNat)
  | .band, a, b, _ => .int (Builtin.bitAnd (toI a) (toI b))
  | .eq, a, b, _ => .bool (PyData.eqv a b)
  | .ne, a, b, _ => .bool (!PyData.eqv a b)
  | .lt, a, b, _ => .bool (ltD a b)
  | .le, a, b, _ => .bool (leD a b)
  | .gt, a, b, _ => .bool (ltD b a)
  | .ge, a, b, _ => .bool (leD b a)
  | .is, a, b, _ => .bool (isD a b)
  | .isnot, a, b, _ => .bool (!isD a b)
  | .inn, a, b, _ => .bool (inD a (its b))
  | .notin, a, b, _ => .bool (!inD a (its b))
  | .ix, a, b, w => ixD a (toI b) w
  | .max2, a, b, _ => .int (if toI b > toI a then toI b else toI a)
  | .min2, a, b, _ => .int (if toI b < toI a then toI b else toI a)
  | .rpop, a, b, w => (L2.atI (itsW a w) (toI b)).getD .none
/-- the store behind it -/
def w2 : P2 → D → D → W → W
  | .rpop, a, b, w => match rfN a, L2.ixN (itsW a w).length (toI b) with
    | some n, some k => w.set n (.lst ((itsW a w).eraseIdx k))
    | _, _ => w
  | _, _, _, w => w

/-! ### expressions -/
/-- what is new and nobody else's: a list that a display, a comprehension, a copy makes -/
def P1.fresh : P1 → Bool
  | .lst1 | .srt | .srtS | .rngL | .rev => true
  | _ => false
def P2.fresh : P2 → Bool
  | .add | .mul => true
  | _ => false
def Ex.fresh : Ex → Bool
  | .lst _ => true
  | .comp .. => true
  | .comp2 .. => true
  | .p1 o _ => o.fresh
  | .p2 o _ _ => o.fresh
  | .sll .. => true
  | .slh .. => true
  | .slb .. => true
  | .srtK .. => true
  | .srtF .. => true
  | _ => false
def mk (fr : Bool) (d : D) : Sl := match fr, d with
  | true, .list xs => .own xs
  | _, d => .val d
def setV (ρ : En) (i : Nat) (d : D) : En := ρ.set i (.val d)
def Pat.slots : Pat → List Nat
  | .one i => [i]
  | .tup is => is
def setVs : En → List Nat → List D → En
  | ρ, i :: is, d :: ds => setVs (setV ρ i d) is ds
  | ρ, _, _ => ρ
def Pat.bind (p : Pat) (ρ : En) (d : D) : En := match p with
  | .one i => setV ρ i d
  | .tup is => setVs ρ is (its d)
def Pat.ok (p : Pat) (d : D) : Prop := match p with
  | .one _ => True
  | .tup is => ∃ xs, d = .tuple xs ∧ xs.length = is.length
def wipeE (ρ : En) : List Nat → En
  | [] => ρ
  | v :: vs => (wipeE ρ vs).set v .un

def andThen {α β : Type} (r : α × W) (k : α → W → β) : β := k r.1 r.2

/-- a loop over items that makes a list, the store handed on -/
def compW (f : D → W → Option D × W) : List D → W → List D × W
  | [], w => ([], w)
  | x :: xs, w => match f x w with
    | (o, w1) => match compW f xs w1 with
      | (r, w2) => (o.toList ++ r, w2)
end Ev

/-! Ev2: what expressions and statements come to, and where that is well defined. -/
namespace Ev
open PySem L2

theorem andThen_mk {α β : Type} (x : α) (w : W) (k : α → W → β) : andThen (x, w) k = k x w := rfl

mutual
def ev (S : Sm) : Ex → En → W → D × W
  | .var i, ρ, w => (rd ρ i, w)
  | .brw i, ρ, w => (rd ρ i, w)
  | .lit d, _, w => (d, w)
  | .p1 o a, ρ, w => andThen (ev S a ρ w) fun x w1 => (v1 o x w1, w1)
  | .p2 o a b, ρ, w => andThen (ev S a ρ w) fun x w1 => andThen (ev S b ρ w1) fun y w2' => (v2 o x y w2', w2 o x y w2')
  | .chn o o' a b c, ρ, w => andThen (ev S a ρ w) fun x w1 => andThen (ev S b ρ w1) fun y w2' =>
      if tr (v2 o x y w2') = true then andThen (ev S c ρ w2') fun z w3 => (v2 o' y z w3, w3) else (.bool false, w2')
  | .sll a lo, ρ, w => andThen (ev S a ρ w) fun x w1 => andThen (ev S lo ρ w1) fun y w2' => (slcD x (some (toI y)) none, w2')
  | .slh a hi, ρ, w => andThen (ev S a ρ w) fun x w1 => andThen (ev S hi ρ w1) fun y w2' => (slcD x none (some (toI y)), w2')
  | .slb a lo hi, ρ, w => andThen (ev S a ρ w) fun x w1 => andThen (ev S lo ρ w1) fun y w2' => andThen (ev S hi ρ w2') fun z w3 => (slcD x (some (toI y)) (some (toI z)), w3)
  | .and a b, ρ, w => andThen (ev S a ρ w) fun x w1 => if tr x = true then ev S b ρ w1 else (x, w1)
  | .or a b, ρ, w => andThen (ev S a ρ w) fun x w1 => if tr x = true then (x, w1) else ev S b ρ w1
  | .not a, ρ, w => andThen (ev S a ρ w) fun x w1 => (.bool (!tr x), w1)
  | .ite c a b, ρ, w => andThen (ev S c ρ w) fun x w1 => if tr x = true then ev S a ρ w1 else ev S b ρ w1
  | .tup es, ρ, w => andThen (evs S es ρ w) fun xs w1 => (.tuple xs, w1)
  | .lst es, ρ, w => andThen (evs S es ρ w) fun xs w1 => (.list xs, w1)
  | .nlst es, ρ, w => andThen (evs S es ρ w) fun xs w1 => (rf w1.length, w1 ++ [.lst xs])
  | .stor a, ρ, w => andThen (ev S a ρ w) fun x w1 => (rf w1.length, w1 ++ [.lst (its x)])
  | .call f es, ρ, w => andThen (evs S es ρ w) fun xs w1 => S.val f xs w1
  | .comp eff p src tst elt, ρ, w => andThen (evSrc S src ρ w) fun xs w1 =>
      match eff with
      | false => (.list ((xs.filter fun x => tr (ev S tst (p.bind ρ x) w1).1).map fun x => (ev S elt (p.bind ρ x) w1).1), w1)
      | true => andThen (compW (fun x w2' => andThen (ev S tst (p.bind ρ x) w2') fun c w3 => if tr c = true then andThen (ev S elt (p.bind ρ x) w3) fun d w4 => (some d, w4) else (none, w3)) xs w1) fun r w2' => (.list r, w2')
  | .comp2 p src tst p' src' tst' elt, ρ, w => andThen (evSrc S src ρ w) fun xs w1 =>
      (.list ((xs.filter fun x => tr (ev S tst (p.bind (wipeE ρ p'.slots) x) w1).1).flatMap fun x =>
        ((evSrc S src' (p.bind (wipeE ρ p'.slots) x) w1).1.filter fun y => tr (ev S tst' (p'.bind (p.bind (wipeE ρ p'.slots) x) y) w1).1).map fun y => (ev S elt (p'.bind (p.bind (wipeE ρ p'.slots) x) y) w1).1), w1)
  | .srtK i a key, ρ, w => andThen (ev S a ρ w) fun x w1 => (.list (sortByK (fun d => (ev S key [.val d] w1).1) (its x)), w1)
  | .srtF a f, ρ, w => andThen (ev S a ρ w) fun x w1 => (.list (sortByK (fun d => (S.val f [d] w1).1) (its x)), w1)
  | .minK i a key, ρ, w => andThen (ev S a ρ w) fun x w1 => (leastK (fun d => (ev S key [.val d] w1).1) (its x), w1)
  | .minF a f, ρ, w => andThen (ev S a ρ w) fun x w1 => (leastK (fun d => (S.val f [d] w1).1) (its x), w1)
  | .gen al p src tst elt, ρ, w => andThen (evSrc S src ρ w) fun xs w1 =>
      match al with
      | true => (.bool ((xs.filter fun x => tr (ev S tst (p.bind ρ x) w1).1).all fun x => tr (ev S elt (p.bind ρ x) w1).1), w1)
      | false => (.bool ((xs.filter fun x => tr (ev S tst (p.bind ρ x) w1).1).any fun x => tr (ev S elt (p.bind ρ x) w1).1), w1)
def evs (S : Sm) : Exs → En → W → List D × W
  | .nil, _, w => ([], w)
  | .cons e es, ρ, w => andThen (ev S e ρ w) fun x w1 => andThen (evs S es ρ w1) fun xs w2' => (x :: xs, w2')
def evSrc (S : Sm) : Src → En → W → List D × W
  | .seq e, ρ, w => andThen (ev S e ρ w) fun x w1 => (its x, w1)
  | .rng1 a, ρ, w => andThen (ev S a ρ w) fun x w1 => (rngL 0 (toI x), w1)
  | .rng2 a b, ρ, w => andThen (ev S a ρ w) fun x w1 => andThen (ev S b ρ w1) fun y w2' => (rngL (toI x) (toI y), w2')
end

/-! ### where it is well defined -/
def isInt (d : D) : Prop := ∃ i, d = .int i
def isBool (d : D) : Prop := ∃ b, d = .bool b
def isStr (d : D) : Prop := ∃ x, d = .str x
def isSeq (d : D) : Prop := (∃ xs, d = .tuple xs) ∨ ∃ xs, d = .list xs
def plainD (d : D) : Prop := SeqAt.shaped d = true
def boolsD (xs : List D) : Prop := ∀ x ∈ xs, ∃ b, x = .bool b
def intsD (xs : List D) : Prop := ∀ x ∈ xs, ∃ i, x = .int i
def refD (d : D) (w : W) : Prop := ∃ n xs, d = rf n ∧ w[n]? = some (.lst xs)
/-- rows of ints -/
def rowD (d : D) : Prop := ∃ ns : List Int, d = .tuple (ns.map .int)
def srtG (ds : List D) : Prop := (∀ d ∈ ds, ∃ xs, d = .tuple xs) ∨ (∀ d ∈ ds, d ≠ .none ∧ ∀ xs, d ≠ .tuple xs)
def alikeD (xs : List D) : Prop := ∀ x ∈ xs, ∀ y ∈ xs, PySem.W.alike x y = true
/-- keys that a sort can compare -/
def keysOk (ks : List D) : Prop := alikeD ks ∧ (∀ k ∈ ks, k.depth ≤ 64 ∧ k.canLay0 = true) ∧ srtG ks
def shallow (d : D) : Prop := d.depth ≤ 64

def d1 : P1 → D → W → Prop
  | .neg, d, _ => isInt d
  | .len, d, w => isStr d ∨ isSeq d ∨ refD d w
  | .all, d, _ => ∃ xs, d = .list xs ∧ boolsD xs
  | .any, d, _ => ∃ xs, d = .list xs ∧ boolsD xs
  | .sum, d, _ => ∃ xs, d = .list xs ∧ intsD xs
  | .max1, d, _ => ∃ xs, d = .list xs ∧ intsD xs ∧ xs ≠ []
  | .min1, d, _ => ∃ xs, d = .list xs ∧ intsD xs ∧ xs ≠ []
  | .abs, d, _ => isInt d
  | .int1, d, _ => isInt d ∨ isBool d
  | .str1, d, _ => ∃ i, d = .int i ∧ i.natAbs.log2 < 1920
  | .tup1, d, _ => isSeq d
  | .lst1, d, _ => isSeq d
  | .srt, d, _ => ∃ xs, d = .list xs ∧ alikeD xs ∧ (∀ x ∈ xs, plainD x) ∧ srtG xs
  | .srtS, d, _ => (∃ xs, d = .list xs ∧ xs.length < 64 ∧ ∀ x ∈ xs, rowD x) ∨ (isSeq d ∧ intsD (its d) ∧ (its d).length < 64)
  | .lenS, d, _ => isSeq d ∧ intsD (its d) ∧ (its d).length ≤ 200
  | .rev, d, _ => isSeq d
  | .rngL, d, _ => ∃ i, d = .int i ∧ i ≤ 1000000
  | .rngT, d, _ => ∃ i, d = .int i ∧ i ≤ 1000000 ∧ -1000000 ≤ i
  | .isi t, d, _ => t ∈ ["int", "bool", "str", "tuple", "list"] ∧ rfN d = none
def cmpOk (a b : D) : Prop := plainD a ∧ plainD b
def ltOk (a b : D) : Prop := plainD a ∧ plainD b ∧ PySem.W.alike a b = true ∧ a ≠ .none
def d2 : P2 → D → D → W → Prop
  | .add, a, b, _ => (isInt a ∧ isInt b) ∨ (∃ x y, a = .str x ∧ b = .str y ∧ x.length + y.length ≤ sizeLine) ∨
      (∃ x y, a = .tuple x ∧ b = .tuple y ∧ x.length + y.length ≤ sizeLine) ∨ (∃ x y, a = .list x ∧ b = .list y ∧ x.length + y.length ≤ sizeLine)
  | .sub, a, b, _ => isInt a ∧ isInt b
  | .mul, a, b, _ => (∃ i j, a = .int i ∧ b = .int j ∧ CMul i j) ∨ (∃ x j, a = .list x ∧ b = .int j ∧ -(2 ^ 63) ≤ j ∧ j < 2 ^ 63 ∧ x.length * j.toNat ≤ sizeLine)
  | .fdiv, a, b, _ => ∃ i j, a = .int i ∧ b = .int j ∧ CDiv i j
  | .mod, a, b, _ => ∃ i j, a = .int i ∧ b = .int j ∧ 0 < j
  | .shl, a, b, _ => ∃ i j, a = .int i ∧ b = .int j ∧ CPow i j
  | .shr, a, b, _ => ∃ i j, a = .int i ∧ b = .int j ∧ 0 ≤ j
  | .band, a, b, _ => isInt a ∧ isInt b
  | .eq, a, b, _ => cmpOk a b
  | .ne, a, b, _ => cmpOk a b
  | .lt, a, b, _ => ltOk a b
  | .le, a, b, _ => (isInt a ∧ isInt b) ∨ (isStr a ∧ isStr b)
  | .gt, a, b, _ => (isInt a ∧ isInt b) ∨ (isStr a ∧ isStr b)
  | .ge, a, b, _ => (isInt a ∧ isInt b) ∨ (isStr a ∧ isStr b)
  | .is, a, b, _ => b = .none ∨ (isBool a ∧ isBool b)
  | .isnot, a, b, _ => b = .none ∨ (isBool a ∧ isBool b)
  | .inn, a, b, _ => isSeq b ∧ plainD a ∧ ∀ x ∈ its b, plainD x
  | .notin, a, b, _ => isSeq b ∧ plainD a ∧ ∀ x ∈ its b, plainD x
  | .ix, a, b, w => ∃ i, b = .int i ∧ ((∃ x, a = .str x ∧ (L2.atI x.cps.toList i).isSome) ∨ ((isSeq a ∨ refD a w) ∧ (L2.atI (itsW a w) i).isSome))
  | .max2, a, b, _ => isInt a ∧ isInt b
  | .min2, a, b, _ => isInt a ∧ isInt b
  | .rpop, a, b, w => refD a w ∧ ∃ i : Int, b = .int i ∧ -(2 ^ 63) ≤ i ∧ i < 2 ^ 63 ∧ (L2.ixN (itsW a w).length i).isSome
def slcOk (d : D) : Prop := isStr d ∨ isSeq d

mutual
def wd (S : Sm) : Ex → En → W → Prop
  | .var i, ρ, _ => isVal ρ i
  | .brw i, ρ, _ => isBound ρ i
  | .lit _, _, _ => True
  | .p1 o a, ρ, w => wd S a ρ w ∧ andThen (ev S a ρ w) fun x w1 => d1 o x w1
  | .p2 o a b, ρ, w => wd S a ρ w ∧ andThen (ev S a ρ w) fun x w1 => wd S b ρ w1 ∧ andThen (ev S b ρ w1) fun y w2' => d2 o x y w2'
  | .chn o o' a b c, ρ, w => wd S a ρ w ∧ andThen (ev S a ρ w) fun x w1 => wd S b ρ w1 ∧ andThen (ev S b ρ w1) fun y w2' => d2 o x y w2' ∧
      (tr (v2 o x y w2') = true → wd S c ρ w2' ∧ andThen (ev S c ρ w2') fun z w3 => d2 o' y z w3)
  | .sll a lo, ρ, w => wd S a ρ w ∧ andThen (ev S a ρ w) fun x w1 => slcOk x ∧ wd S lo ρ w1 ∧ andThen (ev S lo ρ w1) fun y _ => isInt y
  | .slh a hi, ρ, w => wd S a ρ w ∧ andThen (ev S a ρ w) fun x w1 => slcOk x ∧ wd S hi ρ w1 ∧ andThen (ev S hi ρ w1) fun y _ => isInt y
  | .slb a lo hi, ρ, w => wd S a ρ w ∧ andThen (ev S a ρ w) fun x w1 => slcOk x ∧ wd S lo ρ w1 ∧ andThen (ev S lo ρ w1) fun y w2' => isInt y ∧ wd S hi ρ w2' ∧ andThen (ev S hi ρ w2') fun z _ => isInt z
  | .and a b, ρ, w => wd S a ρ w ∧ andThen (ev S a ρ w) fun x w1 => isBool x ∧ (tr x = true → wd S b ρ w1)
  | .or a b, ρ, w => wd S a ρ w ∧ andThen (ev S a ρ w) fun x w1 => isBool x ∧ (tr x = false → wd S b ρ w1)
  | .not a, ρ, w => wd S a ρ w ∧ andThen (ev S a ρ w) fun x _ => isBool x
  | .ite c a b, ρ, w => wd S c ρ w ∧ andThen (ev S c ρ w) fun x w1 => isBool x ∧ (tr x = true → wd S a ρ w1) ∧ (tr x = false → wd S b ρ w1)
  | .tup es, ρ, w => wds S es ρ w
  | .lst es, ρ, w => wds S es ρ w
  | .nlst es, ρ, w => wds S es ρ w
  | .stor a, ρ, w => wd S a ρ w ∧ andThen (ev S a ρ w) fun x _ => ∃ xs, x = .list xs
  | .call f es, ρ, w => wds S es ρ w ∧ andThen (evs S es ρ w) fun xs w1 => S.wd f xs w1
  | .comp eff p src tst elt, ρ, w => wdSrc S src ρ w ∧ andThen (evSrc S src ρ w) fun xs w1 =>
      match eff with
      | false => ∀ x ∈ xs, p.ok x ∧ wd S tst (p.bind ρ x) w1 ∧ isBool (ev S tst (p.bind ρ x) w1).1 ∧ (ev S tst (p.bind ρ x) w1).2 = w1 ∧
          (tr (ev S tst (p.bind ρ x) w1).1 = true → wd S elt (p.bind ρ x) w1 ∧ (ev S elt (p.bind ρ x) w1).2 = w1)
      | true => wdCW (fun x w2' => p.ok x ∧ wd S tst (p.bind ρ x) w2' ∧ andThen (ev S tst (p.bind ρ x) w2') fun c w3 => isBool c ∧ (tr c = true → wd S elt (p.bind ρ x) w3))
          (fun x w2' => andThen (ev S tst (p.bind ρ x) w2') fun c w3 => if tr c = true then (ev S elt (p.bind ρ x) w3).2 else w3) xs w1
  | .comp2 p src tst p' src' tst' elt, ρ, w => wdSrc S src ρ w ∧ andThen (evSrc S src ρ w) fun xs w1 => ∀ x ∈ xs, p.ok x ∧ wd S tst (p.bind (wipeE ρ p'.slots) x) w1 ∧ isBool (ev S tst (p.bind (wipeE ρ p'.slots) x) w1).1 ∧
      (ev S tst (p.bind (wipeE ρ p'.slots) x) w1).2 = w1 ∧ (tr (ev S tst (p.bind (wipeE ρ p'.slots) x) w1).1 = true → wdSrc S src' (p.bind (wipeE ρ p'.slots) x) w1 ∧ (evSrc S src' (p.bind (wipeE ρ p'.slots) x) w1).2 = w1 ∧
        (evSrc S src' (p.bind (wipeE ρ p'.slots) x) w1).1.length * xs.length ≤ sizeLine ∧
        ∀ y ∈ (evSrc S src' (p.bind (wipeE ρ p'.slots) x) w1).1, p'.ok y ∧ wd S tst' (p'.bind (p.bind (wipeE ρ p'.slots) x) y) w1 ∧ isBool (ev S tst' (p'.bind (p.bind (wipeE ρ p'.slots) x) y) w1).1 ∧ (ev S tst' (p'.bind (p.bind (wipeE ρ p'.slots) x) y) w1).2 = w1 ∧
          (tr (ev S tst' (p'.bind (p.bind (wipeE ρ p'.slots) x) y) w1).1 = true → wd S elt (p'.bind (p.bind (wipeE ρ p'.slots) x) y) w1 ∧ (ev S elt (p'.bind (p.bind (wipeE ρ p'.slots) x) y) w1).2 = w1))
  | .srtK i a key, ρ, w => wd S a ρ w ∧ andThen (ev S a ρ w) fun x w1 => (∃ xs, x = .list xs) ∧ (∀ d ∈ its x, wd S key [.val d] w1 ∧ (ev S key [.val d] w1).2 = w1) ∧ keysOk ((its x).map fun d => (ev S key [.val d] w1).1)
  | .srtF a f, ρ, w => wd S a ρ w ∧ andThen (ev S a ρ w) fun x w1 => isSeq x ∧ (∀ d ∈ its x, S.wd f [d] w1 ∧ (S.val f [d] w1).2 = w1) ∧ keysOk ((its x).map fun d => (S.val f [d] w1).1)
  | .minK i a key, ρ, w => wd S a ρ w ∧ andThen (ev S a ρ w) fun x w1 => isSeq x ∧ its x ≠ [] ∧ (∀ d ∈ its x, wd S key [.val d] w1 ∧ (ev S key [.val d] w1).2 = w1) ∧ keysOk ((its x).map fun d => (ev S key [.val d] w1).1)
  | .minF a f, ρ, w => wd S a ρ w ∧ andThen (ev S a ρ w) fun x w1 => isSeq x ∧ its x ≠ [] ∧ (∀ d ∈ its x, S.wd f [d] w1 ∧ (S.val f [d] w1).2 = w1) ∧ keysOk ((its x).map fun d => (S.val f [d] w1).1)
  | .gen al p src tst elt, ρ, w => wdSrc S src ρ w ∧ andThen (evSrc S src ρ w) fun xs w1 => ∀ x ∈ xs, p.ok x ∧ wd S tst (p.bind ρ x) w1 ∧ isBool (ev S tst (p.bind ρ x) w1).1 ∧ (ev S tst (p.bind ρ x) w1).2 = w1 ∧
          (tr (ev S tst (p.bind ρ x) w1).1 = true → wd S elt (p.bind ρ x) w1 ∧ isBool (ev S elt (p.bind ρ x) w1).1 ∧ (ev S elt (p.bind ρ x) w1).2 = w1)
def wdCW (ok : D → W → Prop) (nx : D → W → W) : List D → W → Prop
  | [], _ => True
  | x :: xs, w => ok x w ∧ wdCW ok nx xs (nx x w)
def wds (S : Sm) : Exs → En → W → Prop
  | .nil, _, _ => True
  | .cons e es, ρ, w => wd S e ρ w ∧ andThen (ev S e ρ w) fun _ w1 => wds S es ρ w1
def wdSrc (S : Sm) : Src → En → W → Prop
  | .seq e, ρ, w => wd S e ρ w ∧ andThen (ev S e ρ w) fun x _ => isSeq x
  | .rng1 a, ρ, w => wd S a ρ w ∧ andThen (ev S a ρ w) fun x _ => isInt x ∧ toI x ≤ 1000000 ∧ -1000000 ≤ toI x
  | .rng2 a b, ρ, w => wd S a ρ w ∧ andThen (ev S a ρ w) fun x w1 => wd S b ρ w1 ∧ andThen (ev S b ρ w1) fun y _ => isInt x ∧ isInt y ∧ -1000000 ≤ toI x ∧ toI x ≤ 1000000 ∧ -1000000 ≤ toI y ∧ toI y ≤ 1000000
end
end Ev

/-! Ev3: statements, defs. -/
namespace Ev
open PySem L2

example (S : Sm) (d : D) (ρ : En) (w : W) : ev S (.lit d) ρ w = (d, w) := rfl
example (S : Sm) (a b : Ex) (ρ : En) (w : W) : wd S (.and a b) ρ w = (wd S a ρ w ∧ andThen (ev S a ρ w) fun x w1 => isBool x ∧ (tr x = true → wd S b ρ w1)) := rfl

inductive Fl where
  | nx | bk | ct
  | rt (d : D)
structure Rs where
  fl : Fl
  en : En
  st : W

/-- what comes behind -/
def sq (r : Rs) (k : En → W → Rs) : Rs := match r with
  | ⟨.nx, ρ, w⟩ => k ρ w
  | r => r
def forR (f : D → En → W → Rs) : List D → En → W → Rs
  | [], ρ, w => ⟨.nx, ρ, w⟩
  | d :: ds, ρ, w => match f d ρ w with
    | ⟨.nx, ρ', w'⟩ => forR f ds ρ' w'
    | ⟨.ct, ρ', w'⟩ => forR f ds ρ' w'
    | ⟨.bk, ρ', w'⟩ => ⟨.nx, ρ', w'⟩
    | ⟨.rt d, ρ', w'⟩ => ⟨.rt d, ρ', w'⟩
def whlR (c : En → W → D × W) (f : En → W → Rs) : Nat → En → W → Rs
  | 0, ρ, w => ⟨.nx, ρ, w⟩
  | n + 1, ρ, w => andThen (c ρ w) fun x w1 => if tr x = true then (match f ρ w1 with
    | ⟨.nx, ρ', w'⟩ => whlR c f n ρ' w'
    | ⟨.ct, ρ', w'⟩ => whlR c f n ρ' w'
    | ⟨.bk, ρ', w'⟩ => ⟨.nx, ρ', w'⟩
    | ⟨.rt d, ρ', w'⟩ => ⟨.rt d, ρ', w'⟩) else ⟨.nx, ρ, w1⟩
def ownL (ρ : En) (i : Nat) : List D := match ρ[i]? with
  | some (.own xs) => xs
  | _ => []
def isOwn (ρ : En) (i : Nat) : Prop := match ρ[i]? with
  | some (.own _) => True
  | _ => False
def setO (ρ : En) (i : Nat) (xs : List D) : En := ρ.set i (.own xs)
def frzE (ρ : En) (i : Nat) : En := match ρ[i]? with
  | some (.own xs) => ρ.set i (.val (.list xs))
  | _ => ρ
def augV (ρ : En) (i : Nat) (o : P2) (d : D) (w : W) : D := v2 o (rd ρ i) d w

mutual
def xs (S : Sm) : St → En → W → Rs
  | .set i e, ρ, w => andThen (ev S e ρ w) fun x w1 => ⟨.nx, ρ.set i (mk e.fresh x), w1⟩
  | .setT is e, ρ, w => andThen (ev S e ρ w) fun x w1 => ⟨.nx, setVs ρ is (its x), w1⟩
  | .par i j a b, ρ, w => andThen (ev S a ρ w) fun x w1 => andThen (ev S b ρ w1) fun y w2' => ⟨.nx, setV (setV ρ i x) j y, w2'⟩
  | .aug i o e, ρ, w => andThen (ev S e ρ w) fun x w1 => ⟨.nx, setV ρ i (augV ρ i o x w1), w1⟩
  | .ext i e, ρ, w => andThen (ev S e ρ w) fun x w1 => ⟨.nx, setO ρ i (ownL ρ i ++ its x), w1⟩
  | .app i e, ρ, w => andThen (ev S e ρ w) fun x w1 => ⟨.nx, setO ρ i (ownL ρ i ++ [x]), w1⟩
  | .six i k e, ρ, w => andThen (ev S e ρ w) fun x w1 => andThen (ev S k ρ w1) fun y w2' => ⟨.nx, setO ρ i (setAtN (ownL ρ i) (toI y) x), w2'⟩
  | .rsix o k e, ρ, w => andThen (ev S e ρ w) fun x w1 => andThen (ev S o ρ w1) fun y w2' => andThen (ev S k ρ w2') fun z w3 => ⟨.nx, ρ, match rfN y with
      | some n => w3.set n (.lst (setAtN (wlst w3 n) (toI z) x))
      | none => w3⟩
  | .expr e, ρ, w => andThen (ev S e ρ w) fun _ w1 => ⟨.nx, ρ, w1⟩
  | .ret e, ρ, w => andThen (ev S e ρ w) fun x w1 => ⟨.rt x, ρ, w1⟩
  | .retN, ρ, w => ⟨.rt .none, ρ, w⟩
  | .ifs c a b, ρ, w => andThen (ev S c ρ w) fun x w1 => if tr x = true then xb S a ρ w1 else xb S b ρ w1
  | .for p src b, ρ, w => andThen (evSrc S src ρ w) fun l w1 => forR (fun d ρ' w' => xb S b (p.bind ρ' d) w') l ρ w1
  | .whl c b, ρ, w => whlR (fun ρ' w' => ev S c ρ' w') (fun ρ' w' => xb S b ρ' w') S.fuel ρ w
  | .brk, ρ, w => ⟨.bk, ρ, w⟩
  | .cnt, ρ, w => ⟨.ct, ρ, w⟩
  | .pass, ρ, w => ⟨.nx, ρ, w⟩
  | .frz i, ρ, w => ⟨.nx, frzE ρ i, w⟩
def xb (S : Sm) : Blk → En → W → Rs
  | .nil, ρ, w => ⟨.nx, ρ, w⟩
  | .cons s b, ρ, w => sq (xs S s ρ w) fun ρ' w' => xb S b ρ' w'
end

/-! ### where it is well defined -/
def sqP (r : Rs) (k : En → W → Prop) : Prop := match r with
  | ⟨.nx, ρ, w⟩ => k ρ w
  | _ => True
def forP (ok : D → En → W → Prop) (f : D → En → W → Rs) : List D → En → W → Prop
  | [], _, _ => True
  | d :: ds, ρ, w => ok d ρ w ∧ (match f d ρ w with
    | ⟨.nx, ρ', w'⟩ => forP ok f ds ρ' w'
    | ⟨.ct, ρ', w'⟩ => forP ok f ds ρ' w'
    | _ => True)
def whlP (okc : En → W → Prop) (c : En → W → D × W) (ok : En → W → Prop) (f : En → W → Rs) : Nat → En → W → Prop
  | 0, _, _ => False
  | n + 1, ρ, w => okc ρ w ∧ andThen (c ρ w) fun x w1 => isBool x ∧ (tr x = true → ok ρ w1 ∧ (match f ρ w1 with
    | ⟨.nx, ρ', w'⟩ => whlP okc c ok f n ρ' w'
    | ⟨.ct, ρ', w'⟩ => whlP okc c ok f n ρ' w'
    | _ => True))
def inEn (ρ : En) (i : Nat) : Prop := i < ρ.length
mutual
def wdS (S : Sm) : St → En → W → Prop
  | .set i e, ρ, w => wd S e ρ w
  | .setT is e, ρ, w => wd S e ρ w ∧ andThen (ev S e ρ w) fun x _ => ∃ l, x = .tuple l ∧ l.length = is.length
  | .par i j a b, ρ, w => wd S a ρ w ∧ andThen (ev S a ρ w) fun _ w1 => wd S b ρ w1
  | .aug i o e, ρ, w => isVal ρ i ∧ wd S e ρ w ∧ andThen (ev S e ρ w) fun x w1 => d2 o (rd ρ i) x w1 ∧ isInt (rd ρ i) ∧ isInt x
  | .ext i e, ρ, w => isOwn ρ i ∧ wd S e ρ w ∧ andThen (ev S e ρ w) fun x _ => ∃ l, x = .list l ∧ (ownL ρ i).length + l.length ≤ sizeLine
  | .app i e, ρ, w => isOwn ρ i ∧ wd S e ρ w ∧ (ownL ρ i).length < sizeLine
  | .six i k e, ρ, w => isOwn ρ i ∧ wd S e ρ w ∧ andThen (ev S e ρ w) fun _ w1 => wd S k ρ w1 ∧ andThen (ev S k ρ w1) fun y _ => isInt y ∧ (L2.ixN (ownL ρ i).length (toI y)).isSome
  | .rsix o k e, ρ, w => wd S e ρ w ∧ andThen (ev S e ρ w) fun _ w1 => wd S o ρ w1 ∧ andThen (ev S o ρ w1) fun y w2' => wd S k ρ w2' ∧ andThen (ev S k ρ w2') fun z w3 => isInt z ∧ refD y w3 ∧ (L2.ixN (itsW y w3).length (toI z)).isSome
  | .expr e, ρ, w => wd S e ρ w
  | .ret e, ρ, w => wd S e ρ w
  | .retN, _, _ => True
  | .ifs c a b, ρ, w => wd S c ρ w ∧ andThen (ev S c ρ w) fun x w1 => isBool x ∧ (tr x = true → wdB S a ρ w1) ∧ (tr x = false → wdB S b ρ w1)
  | .for p src b, ρ, w => wdSrc S src ρ w ∧ andThen (evSrc S src ρ w) fun l w1 => forP (fun d ρ' w' => p.ok d ∧ wdB S b (p.bind ρ' d) w') (fun d ρ' w' => xb S b (p.bind ρ' d) w') l ρ w1
  | .whl c b, ρ, w => whlP (fun ρ' w' => wd S c ρ' w') (fun ρ' w' => ev S c ρ' w') (fun ρ' w' => wdB S b ρ' w') (fun ρ' w' => xb S b ρ' w') S.fuel ρ w
  | .brk, _, _ => True
  | .cnt, _, _ => True
  | .pass, _, _ => True
  | .frz i, _, _ => True
def wdB (S : Sm) : Blk → En → W → Prop
  | .nil, _, _ => True
  | .cons s b, ρ, w => wdS S s ρ w ∧ sqP (xs S s ρ w) fun ρ' w' => wdB S b ρ' w'
end

/-! ### no break and no continue leaves -/
mutual
def St.nb : St → Bool
  | .ifs _ a b => a.nb && b.nb
  | .brk => false
  | .cnt => false
  | _ => true
def Blk.nb : Blk → Bool
  | .nil => true
  | .cons s b => s.nb && b.nb
end
def Fl.calm : Fl → Prop
  | .nx => True
  | .rt _ => True
  | _ => False
theorem forR_calm (f : D → En → W → Rs) : ∀ (l : List D) (ρ : En) (w : W), (forR f l ρ w).fl.calm
  | [], _, _ => trivial
  | d :: ds, ρ, w => by
    unfold forR
    split
    · exact forR_calm f ds _ _
    · exact forR_calm f ds _ _
    · exact trivial
    · exact trivial
theorem whlR_calm (c : En → W → D × W) (f : En → W → Rs) : ∀ (n : Nat) (ρ : En) (w : W), (whlR c f n ρ w).fl.calm
  | 0, _, _ => trivial
  | n + 1, ρ, w => by
    unfold whlR andThen
    dsimp only
    split
    · split
      · exact whlR_calm c f n _ _
      · exact whlR_calm c f n _ _
      · exact trivial
      · exact trivial
    · exact trivial
theorem sq_calm {r : Rs} {k : En → W → Rs} (h : r.fl.calm) (hk : ∀ ρ w, (k ρ w).fl.calm) : (sq r k).fl.calm := by
  obtain ⟨fl, ρ, w⟩ := r
  cases fl with
  | nx => exact hk ρ w
  | bk => exact h
  | ct => exact h
  | rt d => exact h
mutual
theorem xs_calm (S : Sm) : ∀ (s : St) (ρ : En) (w : W), s.nb = true → (xs S s ρ w).fl.calm
  | .set _ _, _, _, _ => trivial
  | .setT _ _, _, _, _ => trivial
  | .par _ _ _ _, _, _, _ => trivial
  | .aug _ _ _, _, _, _ => trivial
  | .ext _ _, _, _, _ => trivial
  | .app _ _, _, _, _ => trivial
  | .six _ _ _, _, _, _ => trivial
  | .rsix _ _ _, _, _, _ => trivial
  | .expr _, _, _, _ => trivial
  | .ret _, _, _, _ => trivial
  | .retN, _, _, _ => trivial
  | .pass, _, _, _ => trivial
  | .frz _, _, _, _ => trivial
  | .brk, _, _, h => nomatch h
  | .cnt, _, _, h => nomatch h
  | .for p src b, ρ, w, _ => forR_calm _ _ _ _
  | .whl c b, ρ, w, _ => whlR_calm _ _ _ _ _
  | .ifs c a b, ρ, w, h => by
    have h' : (a.nb && b.nb) = true := h
    rw [Bool.and_eq_true] at h'
    show (andThen (ev S c ρ w) fun x w1 => if tr x = true then xb S a ρ w1 else xb S b ρ w1).fl.calm
    unfold andThen
    dsimp only
    split
    · exact xb_calm S a _ _ h'.1
    · exact xb_calm S b _ _ h'.2
theorem xb_calm (S : Sm) : ∀ (b : Blk) (ρ : En) (w : W), b.nb = true → (xb S b ρ w).fl.calm
  | .nil, _, _, _ => trivial
  | .cons s b, ρ, w, h => by
    have h' : (s.nb && b.nb) = true := h
    rw [Bool.and_eq_true] at h'
    exact sq_calm (xs_calm S s ρ w h'.1) fun ρ' w' => xb_calm S b ρ' w' h'.2
end

/-! ### defs -/
structure Def where
  ps : List Str
  N : List Str
  body : Blk
  lm : Bool := false
structure Pg where
  fns : List (Str × Def)
  cs : List (Str × D)
def Def.start (d : Def) (ds : List D) : En := ds.map .val ++ List.replicate (d.N.length - ds.length) .un
def runD (S : Sm) (d : Def) (ds : List D) (w : W) : D × W := match xb S d.body (d.start ds) w with
  | ⟨.rt x, _, w'⟩ => (x, w')
  | ⟨_, _, w'⟩ => (.none, w')
def fnS (pg : Pg) : Nat → Sm
  | 0 => ⟨fun _ _ w => (.none, w), fun _ _ _ => False, 1000000⟩
  | k + 1 => ⟨fun f ds w => match pg.fns[f]? with
      | some d => runD (fnS pg k) d.2 ds w
      | none => (.none, w),
    fun f ds w => match pg.fns[f]? with
      | some d => ds.length = d.2.ps.length ∧ wdB (fnS pg k) d.2.body (d.2.start ds) w
      | none => False, 1000000⟩
end Ev

/-! Ev4: plain data against the hand layer's heap. -/
namespace Ev
open PySem PySem.Spec PyProof.Rows L2

/-- a part of a heap -/
def Sub (P H : Hp) : Prop := ∀ a o, P a = some o → H a = some o
theorem Sub.refl (H : Hp) : Sub H H := fun _ _ h => h
theorem Sub.trans {A B C : Hp} (h : Sub A B) (k : Sub B C) : Sub A C := fun a o e => k a o (h a o e)
theorem Sub.sqT {K : PySem.W.Frag} {P H : Hp} {a : Addr} {vs : List V} (e : Sub P H) (h : SqT K P a vs) : SqT K H a vs := by
  rcases h with (h | ⟨o, h⟩) | h
  · exact .inl (.inl (e _ _ h))
  · exact .inl (.inr ⟨o, e _ _ h⟩)
  · exact .inr h
theorem Sub.sqL {K : PySem.W.Frag} {P H : Hp} {a : Addr} {vs : List V} (e : Sub P H) (h : SqL K P a vs) : SqL K H a vs := Same.seq e h

section
variable (K : PySem.W.Frag) (α : List Addr) (P : Hp)
mutual
/-- v stands for d -/
def Rep : D → V → Prop
  | .none, v => v = .non
  | .bool b, v => v = .bl b
  | .int i, v => v = .int i
  | .str x, v => v = .str x ∧ x.length ≤ sizeLine
  | .list ds, v => ∃ a vs, v = .ref a ∧ SqL K P a vs ∧ ds.length ≤ sizeLine ∧ Reps ds vs
  | .tuple ds, v => ∃ a vs, v = .ref a ∧ SqT K P a vs ∧ ds.length ≤ sizeLine ∧ Reps ds vs
  | .dict kvs, v => ∃ n a, kvs = [(.int ((n : Nat) : Int), .none)] ∧ v = .ref a ∧ α[n]? = some a
def Reps : List D → List V → Prop
  | [], vs => vs = []
  | d :: ds, vs => ∃ v r, vs = v :: r ∧ Rep d v ∧ Reps ds r
end
end

def Pre (α α' : List Addr) : Prop := ∀ (n : Nat) (a : Addr), α[n]? = some a → α'[n]? = some a
theorem Pre.refl (α : List Addr) : Pre α α := fun _ _ h => h
theorem Pre.trans {a b c : List Addr} (h : Pre a b) (k : Pre b c) : Pre a c := fun n x e => k n x (h n x e)
section
variable {K : PySem.W.Frag} {α α' : List Addr} {P P' H : Hp}
mutual
theorem Rep.mono (ha : Pre α α') (hp : Sub P P') : ∀ (d : D) (v : V), Rep K α P d v → Rep K α' P' d v
  | .none, _, h => h
  | .bool _, _, h => h
  | .int _, _, h => h
  | .str _, _, h => h
  | .list ds, v, ⟨a, vs, e, s, z, r⟩ => ⟨a, vs, e, hp.sqL s, z, Reps.mono ha hp ds vs r⟩
  | .tuple ds, v, ⟨a, vs, e, s, z, r⟩ => ⟨a, vs, e, hp.sqT s, z, Reps.mono ha hp ds vs r⟩
  | .dict kvs, v, ⟨n, a, e, e2, e3⟩ => ⟨n, a, e, e2, ha _ _ e3⟩
theorem Reps.mono (ha : Pre α α') (hp : Sub P P') : ∀ (ds : List D) (vs : List V), Reps K α P ds vs → Reps K α' P' ds vs
  | [], _, h => h
  | d :: ds, vs, ⟨v, r, e, h1, h2⟩ => ⟨v, r, e, Rep.mono ha hp d v h1, Reps.mono ha hp ds r h2⟩
end
theorem Reps.length : ∀ {ds : List D} {vs : List V}, Reps K α P ds vs → vs.length = ds.length
  | [], vs, h => by rw [show vs = [] from h]; rfl
  | d :: ds, vs, ⟨v, r, e, h1, h2⟩ => by rw [e, List.length_cons, List.length_cons, Reps.length h2]
theorem Reps.get : ∀ {ds : List D} {vs : List V} {i : Nat} {d : D}, Reps K α P ds vs → ds[i]? = some d → ∃ v, vs[i]? = some v ∧ Rep K α P d v
  | [], _, i, d, h, e => by simp at e
  | d :: ds, vs, 0, d', ⟨v, r, e, h1, h2⟩, e' => by
    simp only [List.getElem?_cons_zero, Option.some.injEq] at e'
    subst e'
    exact ⟨v, by rw [e]; rfl, h1⟩
  | d :: ds, vs, i + 1, d', ⟨v, r, e, h1, h2⟩, e' => by
    simp only [List.getElem?_cons_succ] at e'
    obtain ⟨u, hu, ru⟩ := Reps.get h2 e'
    exact ⟨u, by rw [e]; simpa using hu, ru⟩
theorem Reps.getV : ∀ {ds : List D} {vs : List V} {i : Nat} {v : V}, Reps K α P ds vs → vs[i]? = some v → ∃ d, ds[i]? = some d ∧ Rep K α P d v := fun {ds vs i v} h e => by
  have hl := h.length
  have hi : i < ds.length := by
    have := (List.getElem?_eq_some_iff.mp e).1
    omega
  obtain ⟨u, hu, ru⟩ := h.get (List.getElem?_eq_getElem hi)
  rw [e] at hu
  cases hu
  exact ⟨_, List.getElem?_eq_getElem hi, ru⟩
theorem Reps.append : ∀ {ds es : List D} {vs us : List V}, Reps K α P ds vs → Reps K α P es us → Reps K α P (ds ++ es) (vs ++ us)
  | [], es, vs, us, h, k => by rw [show vs = [] from h]; exact k
  | d :: ds, es, vs, us, ⟨v, r, e, h1, h2⟩, k => by
    subst e
    exact ⟨v, r ++ us, rfl, h1, Reps.append h2 k⟩
theorem Reps.one {d : D} {v : V} (h : Rep K α P d v) : Reps K α P [d] [v] := ⟨v, [], rfl, h, rfl⟩
theorem Reps.take : ∀ {ds : List D} {vs : List V} (n : Nat), Reps K α P ds vs → Reps K α P (ds.take n) (vs.take n)
  | _, _, 0, _ => by simp [Reps]
  | [], vs, n + 1, h => by rw [show vs = [] from h]; exact rfl
  | d :: ds, vs, n + 1, ⟨v, r, e, h1, h2⟩ => by subst e; exact ⟨v, r.take n, rfl, h1, Reps.take n h2⟩
theorem Reps.drop : ∀ {ds : List D} {vs : List V} (n : Nat), Reps K α P ds vs → Reps K α P (ds.drop n) (vs.drop n)
  | _, _, 0, h => h
  | [], vs, n + 1, h => by rw [show vs = [] from h]; exact rfl
  | d :: ds, vs, n + 1, ⟨v, r, e, h1, h2⟩ => by subst e; exact Reps.drop n h2
theorem Reps.set {d : D} {v : V} (h : Rep K α P d v) : ∀ {ds : List D} {vs : List V} (n : Nat), Reps K α P ds vs → Reps K α P (ds.set n d) (vs.set n v)
  | [], vs, n, k => by rw [show vs = [] from k]; exact rfl
  | e :: ds, vs, 0, ⟨u, r, q, h1, h2⟩ => by subst q; exact ⟨v, r, rfl, h, h2⟩
  | e :: ds, vs, n + 1, ⟨u, r, q, h1, h2⟩ => by subst q; exact ⟨u, r.set n v, rfl, h1, Reps.set h n h2⟩
theorem Reps.erase : ∀ {ds : List D} {vs : List V} (n : Nat), Reps K α P ds vs → Reps K α P (ds.eraseIdx n) (vs.eraseIdx n)
  | [], vs, n, k => by rw [show vs = [] from k]; exact rfl
  | e :: ds, vs, 0, ⟨u, r, q, h1, h2⟩ => by subst q; exact h2
  | e :: ds, vs, n + 1, ⟨u, r, q, h1, h2⟩ => by subst q; exact ⟨u, r.eraseIdx n, rfl, h1, Reps.erase n h2⟩
theorem Reps.rev : ∀ {ds : List D} {vs : List V}, Reps K α P ds vs → Reps K α P ds.reverse vs.reverse
  | [], vs, h => by rw [show vs = [] from h]; exact rfl
  | d :: ds, vs, ⟨v, r, e, h1, h2⟩ => by
    subst e
    rw [List.reverse_cons, List.reverse_cons]
    exact Reps.append (Reps.rev h2) (Reps.one h1)

mutual
theorem Rep.dp (hp : Sub P H) : ∀ (d : D) (v : V), d.canLay0 = true → Rep K α P d v → Dp K H v d
  | .none, v, _, h => by rw [show v = .non from h]; exact .non
  | .bool b, v, _, h => by rw [show v = .bl b from h]; exact .bl b
  | .int i, v, _, h => by rw [show v = .int i from h]; exact .int i
  | .str x, v, _, h => by rw [h.1]; exact .str x
  | .list ds, v, c, ⟨a, vs, e, s, z, r⟩ => by rw [e]; exact .lst (hp.sqL s) (Reps.dp hp ds vs c r)
  | .tuple ds, v, c, ⟨a, vs, e, s, z, r⟩ => by rw [e]; exact .tup (hp.sqT s) (Reps.dp hp ds vs c r)
  | .dict kvs, v, c, _ => nomatch c
theorem Reps.dp (hp : Sub P H) : ∀ (ds : List D) (vs : List V), PyData.canLayAll0 ds = true → Reps K α P ds vs → DpAll K H vs ds
  | [], vs, _, h => by rw [show vs = [] from h]; exact .nil
  | d :: ds, vs, c, ⟨v, r, e, h1, h2⟩ => by
    have c' : (d.canLay0 && PyData.canLayAll0 ds) = true := c
    rw [Bool.and_eq_true] at c'
    rw [e]
    exact .cons (Rep.dp hp d v c'.1 h1) (Reps.dp hp ds r c'.2 h2)
end
end

/-! ### the whole state -/
/-- what stands still while a def runs: the written part, the heap and the store's things at its entry, the code objects' tables -/
structure Fx where
  K : PySem.W.Frag
  H0 : Hp
  P0 : Hp
  α0 : List Addr
  T : List (Addr × Str)
def ObR (K : PySem.W.Frag) (α : List Addr) (P : Hp) (o : WO) (h : Option HO) : Prop := match o with
  | .lst ds => ∃ vs, h = some (.lst vs) ∧ ds.length ≤ sizeLine ∧ Reps K α P ds vs
def SloR (K : PySem.W.Frag) (α : List Addr) (P O : Hp) (s : Sl) (x : Option V) : Prop := match s with
  | .un => True
  | .val d => ∃ v, x = some v ∧ Rep K α P d v
  | .own ds => ∃ a vs, x = some (.ref a) ∧ O a = some (.lst vs) ∧ ds.length ≤ sizeLine ∧ Reps K α P ds vs
structure EnR (K : PySem.W.Frag) (α : List Addr) (P O : Hp) (ρ : En) (σ : L2.St) : Prop where
  len : σ.length = ρ.length
  at_ : ∀ (i : Nat) (s : Sl), ρ[i]? = some s → ∃ x, σ[i]? = some x ∧ SloR K α P O s x
  apart : ∀ (i j : Nat) (ds es : List D) (a : Addr), ρ[i]? = some (.own ds) → ρ[j]? = some (.own es) → σ[i]? = some (some (.ref a)) → σ[j]? = some (some (.ref a)) → i = j
structure SR (F : Fx) (α : List Addr) (P O : Hp) (ρ : En) (w : W) (σ : L2.St) (H : Hp) : Prop where
  pH : Sub P H
  oH : Sub O H
  oP : ∀ a o, O a = some o → P a = none
  o0 : ∀ a o, O a = some o → F.H0 a = none
  nd : α.Nodup
  aP : ∀ a ∈ α, P a = none ∧ O a = none
  a0 : ∀ a ∈ α, a ∈ F.α0 ∨ F.H0 a = none
  fr : ∀ a o, F.H0 a = some o → a ∉ F.α0 → (∀ ps, o ≠ .tbl ps) → H a = some o
  wl : w.length = α.length
  wr : ∀ (n : Nat) (o : WO) (a : Addr), w[n]? = some o → α[n]? = some a → ObR F.K α P o (H a)
  en : EnR F.K α P O ρ σ
  tb : LamX.Tabs F.T H
  a1 : ∀ a ∈ F.α0, a ∈ α
  ft : ∀ a ps, F.H0 a = some (.tbl ps) → False
  tt : ∀ a ps, P a = some (.tbl ps) → False
  oL : ∀ a o, O a = some o → ∃ vs, o = .lst vs
  p0 : ∀ a o, P a = some o → F.P0 a = some o ∨ F.H0 a = none

/-! ### results -/
inductive Knd where
  | pl | fr | bw
/-- a list of one's own that is looked at -/
def RB (K : PySem.W.Frag) (α : List Addr) (P O : Hp) (d : D) (v : V) : Prop :=
  Rep K α P d v ∨ ∃ ds a vs, d = .list ds ∧ v = .ref a ∧ O a = some (.lst vs) ∧ ds.length ≤ sizeLine ∧ Reps K α P ds vs
/-- a list that nobody else has -/
def RF (F : Fx) (α : List Addr) (P O H : Hp) (d : D) (v : V) : Prop :=
  (Rep F.K α P d v ∧ ∀ ds, d ≠ .list ds) ∨ ∃ ds a vs, d = .list ds ∧ v = .ref a ∧ H a = some (.lst vs) ∧ P a = none ∧ O a = none ∧ a ∉ α ∧ F.H0 a = none ∧ ds.length ≤ sizeLine ∧ Reps F.K α P ds vs
def Res (k : Knd) (F : Fx) (α : List Addr) (P O H : Hp) (d : D) (v : V) : Prop := match k with
  | .pl => Rep F.K α P d v
  | .fr => RF F α P O H d v
  | .bw => RB F.K α P O d v

theorem Sub.upd {P H : Hp} {a : Addr} {o : HO} (h : Sub P H) (n : P a = none) : Sub P (L2.upd H a o) := fun b x e => by
  rw [upd_ne (ne_of_none e n)]
  exact h b x e
theorem Sub.upd2 {P H : Hp} {a : Addr} {o : HO} (h : Sub P H) : Sub (L2.upd P a o) (L2.upd H a o) := fun b x e => by
  by_cases hb : b = a
  · subst hb; rw [upd_same] at e ⊢; exact e
  · rw [upd_ne hb] at e ⊢; exact h b x e
theorem Sub.ext {P : Hp} {a : Addr} {o : HO} (n : P a = none) : Sub P (L2.upd P a o) := fun b x e => by
  rw [upd_ne (ne_of_none e n)]
  exact e
theorem Sub.put {P H : Hp} {a : Addr} {o : HO} (h : Sub P H) (e : H a = some o) : Sub (L2.upd P a o) H := fun b x q => by
  by_cases hb : b = a
  · subst hb; rw [upd_same] at q; rw [← q]; exact e
  · rw [upd_ne hb] at q; exact h b x q

section
variable {F : Fx} {α : List Addr} {P O : Hp} {ρ : En} {w : W} {σ : L2.St} {H : Hp} {d : D} {v : V}
theorem SloR.mono {K : PySem.W.Frag} {α α' : List Addr} {P P' O : Hp} (ha : Pre α α') (hp : Sub P P') {s : Sl} {x : Option V} (h : SloR K α P O s x) : SloR K α' P' O s x := by
  cases s with
  | un => trivial
  | val d => obtain ⟨v, e, r⟩ := h; exact ⟨v, e, Rep.mono ha hp _ _ r⟩
  | own ds => obtain ⟨a, vs, e, q, z, r⟩ := h; exact ⟨a, vs, e, q, z, Reps.mono ha hp _ _ r⟩
theorem EnR.mono {K : PySem.W.Frag} {α α' : List Addr} {P P' O : Hp} (ha : Pre α α') (hp : Sub P P') (h : EnR K α P O ρ σ) : EnR K α' P' O ρ σ :=
  ⟨h.len, fun i s e => let ⟨x, e1, r⟩ := h.at_ i s e; ⟨x, e1, r.mono ha hp⟩, h.apart⟩
theorem ObR.mono {K : PySem.W.Frag} {α α' : List Addr} {P P' : Hp} (ha : Pre α α') (hp : Sub P P') {o : WO} {h : Option HO} (r : ObR K α P o h) : ObR K α' P' o h := by
  cases o with
  | lst ds => obtain ⟨vs, e, z, r⟩ := r; exact ⟨vs, e, z, Reps.mono ha hp _ _ r⟩
theorem SR.notO (h : SR F α P O ρ w σ H) {a : Addr} (n : H a = none) : O a = none := by
  cases e : O a with
  | none => rfl
  | some o => rw [h.oH a o e] at n; cases n
theorem SR.notP (h : SR F α P O ρ w σ H) {a : Addr} (n : H a = none) : P a = none := by
  cases e : P a with
  | none => rfl
  | some o => rw [h.pH a o e] at n; cases n
theorem SR.notα (h : SR F α P O ρ w σ H) {a : Addr} (n : H a = none) : a ∉ α := fun hm => by
  obtain ⟨i, hi⟩ := List.getElem?_of_mem hm
  have hl : i < w.length := by rw [h.wl]; exact (List.getElem?_eq_some_iff.mp hi).1
  have r := h.wr i w[i] a (List.getElem?_eq_getElem hl) hi
  revert r
  cases w[i] with
  | lst ds => rintro ⟨vs, e, _⟩; rw [n] at e; cases e
/-- of the heap at the entry no more is known than that it is kept, so what is new now was not there -/
theorem SR.not0 (h : SR F α P O ρ w σ H) {a : Addr} (n : H a = none) : F.H0 a = none := by
  cases e : F.H0 a with
  | none => rfl
  | some o =>
    by_cases hm : a ∈ F.α0
    · exact absurd (h.a1 a hm) (h.notα n)
    · have q := h.fr a o e hm fun ps z => h.ft a ps (by rw [e, z])
      rw [n] at q; cases q
end
end Ev

/-! Ev5: steps of the state. -/
namespace Ev
open PySem PySem.Spec PyProof.Rows L2

theorem same_new {H : Hp} {p : Addr} {o : HO} (n : H p = none) : ∀ b x, H b = some x → L2.upd H p o b = some x := fun b x e => by
  rw [upd_ne (ne_of_none e n)]; exact e

section
variable {F : Fx} {α : List Addr} {P O : Hp} {ρ : En} {w : W} {σ : L2.St} {H : Hp} {d : D} {v : V} {p : Addr} {o : HO}

theorem SR.αH (h : SR F α P O ρ w σ H) {a : Addr} (hm : a ∈ α) : ∃ vs, H a = some (.lst vs) := by
  obtain ⟨i, hi⟩ := List.getElem?_of_mem hm
  have hl : i < w.length := by rw [h.wl]; exact (List.getElem?_eq_some_iff.mp hi).1
  have r := h.wr i w[i] a (List.getElem?_eq_getElem hl) hi
  revert r
  cases w[i] with
  | lst ds => rintro ⟨vs, e, _⟩; exact ⟨vs, e⟩

/-- the heap grows by something that nobody of ours knows -/
theorem SR.newF (h : SR F α P O ρ w σ H) (n : H p = none) (nt : ∀ ps, o ≠ .tbl ps) : SR F α P O ρ w σ (L2.upd H p o) where
  pH := h.pH.upd (h.notP n)
  oH := h.oH.upd (h.notO n)
  oP := h.oP
  o0 := h.o0
  nd := h.nd
  aP := h.aP
  a0 := h.a0
  fr := fun a x e hm ht => same_new n a x (h.fr a x e hm ht)
  wl := h.wl
  wr := fun i o a e1 e2 => by
    have ne : a ≠ p := fun z => by
      obtain ⟨vs, q⟩ := h.αH (List.mem_of_getElem? e2)
      rw [z, n] at q; cases q
    rw [upd_ne ne]
    exact h.wr i o a e1 e2
  en := h.en
  tb := h.tb.ext (same_new n)
  a1 := h.a1
  ft := h.ft
  tt := h.tt
  oL := h.oL
  p0 := h.p0
/-- what stands in the heap and is nobody's is known from now on -/
theorem SR.putP (h : SR F α P O ρ w σ H) (e : H p = some o) (n1 : P p = none) (n2 : O p = none) (n3 : p ∉ α) (n4 : F.H0 p = none) (nt : ∀ ps, o ≠ .tbl ps) : SR F α (L2.upd P p o) O ρ w σ H where
  pH := h.pH.put e
  oH := h.oH
  oP := fun a x q => by rw [upd_ne (ne_of_none q n2)]; exact h.oP a x q
  o0 := h.o0
  nd := h.nd
  aP := fun a hm => ⟨by rw [upd_ne (show a ≠ p from fun z => n3 (by rw [← z]; exact hm))]; exact (h.aP a hm).1, (h.aP a hm).2⟩
  a0 := h.a0
  fr := h.fr
  wl := h.wl
  wr := fun i o a e1 e2 => (h.wr i o a e1 e2).mono (Pre.refl _) (Sub.ext n1)
  en := h.en.mono (Pre.refl _) (Sub.ext n1)
  tb := h.tb
  a1 := h.a1
  ft := h.ft
  tt := fun a ps e => by
    by_cases hb : a = p
    · rw [hb, upd_same] at e; exact nt ps (Option.some.inj e)
    · rw [upd_ne hb] at e; exact h.tt a ps e
  oL := h.oL
  p0 := fun a x q => by
    by_cases hb : a = p
    · rw [hb]; exact .inr n4
    · rw [upd_ne hb] at q; exact h.p0 a x q
/-- a new thing, known -/
theorem SR.newP (h : SR F α P O ρ w σ H) (n : H p = none) (nt : ∀ ps, o ≠ .tbl ps) : SR F α (L2.upd P p o) O ρ w σ (L2.upd H p o) :=
  (h.newF n nt).putP upd_same (h.notP n) (h.notO n) (h.notα n) (h.not0 n) nt
/-- a list of nobody's is known from now on -/
theorem SR.persist (h : SR F α P O ρ w σ H) (r : RF F α P O H d v) : ∃ P', Sub P P' ∧ SR F α P' O ρ w σ H ∧ Rep F.K α P' d v := by
  rcases r with ⟨r, _⟩ | ⟨ds, a, vs, rfl, rfl, e, n1, n2, n3, n4, z, r⟩
  · exact ⟨P, Sub.refl _, h, r⟩
  · exact ⟨_, Sub.ext n1, h.putP e n1 n2 n3 n4 (fun _ z => nomatch z), a, vs, rfl, .inl (.inl upd_same), z, Reps.mono (Pre.refl _) (Sub.ext n1) _ _ r⟩
theorem Res.plain {k : Knd} (h : SR F α P O ρ w σ H) (r : Res k F α P O H d v) (hk : k ≠ .bw) : ∃ P', Sub P P' ∧ SR F α P' O ρ w σ H ∧ Rep F.K α P' d v := by
  cases k with
  | pl => exact ⟨P, Sub.refl _, h, r⟩
  | fr => exact h.persist r
  | bw => exact absurd rfl hk
theorem Res.borrow {k : Knd} (h : SR F α P O ρ w σ H) (r : Res k F α P O H d v) : ∃ P', Sub P P' ∧ SR F α P' O ρ w σ H ∧ RB F.K α P' O d v := by
  cases k with
  | pl => exact ⟨P, Sub.refl _, h, .inl r⟩
  | fr =>
    obtain ⟨P', h1, h2, h3⟩ := h.persist r
    exact ⟨P', h1, h2, .inl h3⟩
  | bw => exact ⟨P, Sub.refl _, h, r⟩
theorem RB.mono {K : PySem.W.Frag} {α' : List Addr} {P' : Hp} (ha : Pre α α') (hp : Sub P P') (r : RB K α P O d v) : RB K α' P' O d v := by
  rcases r with r | ⟨ds, a, vs, e1, e2, e3, z, r⟩
  · exact .inl (Rep.mono ha hp _ _ r)
  · exact .inr ⟨ds, a, vs, e1, e2, e3, z, Reps.mono ha hp _ _ r⟩
/-- a sequence that may be looked at -/
theorem SR.look (h : SR F α P O ρ w σ H) {ds : List D} (r : RB F.K α P O (.list ds) v) : ∃ a vs, v = .ref a ∧ SqL F.K H a vs ∧ ds.length ≤ sizeLine ∧ Reps F.K α P ds vs := by
  rcases r with ⟨a, vs, e, s, z, r⟩ | ⟨ds', a, vs, e1, e2, e3, z, r⟩
  · exact ⟨a, vs, e, h.pH.sqL s, z, r⟩
  · cases e1
    exact ⟨a, vs, e2, .inl (.inl (h.oH a _ e3)), z, r⟩
theorem SR.lookT (h : SR F α P O ρ w σ H) {ds : List D} (r : RB F.K α P O (.tuple ds) v) : ∃ a vs, v = .ref a ∧ SqT F.K H a vs ∧ ds.length ≤ sizeLine ∧ Reps F.K α P ds vs := by
  rcases r with ⟨a, vs, e, s, z, r⟩ | ⟨ds', a, vs, e1, e2, e3, z, r⟩
  · exact ⟨a, vs, e, h.pH.sqT s, z, r⟩
  · cases e1
theorem RB.int {K : PySem.W.Frag} {i : Int} (r : RB K α P O (.int i) v) : v = .int i := by
  rcases r with r | ⟨ds', a, vs, e1, _⟩
  · exact r
  · cases e1
theorem RB.bl {K : PySem.W.Frag} {b : Bool} (r : RB K α P O (.bool b) v) : v = .bl b := by
  rcases r with r | ⟨ds', a, vs, e1, _⟩
  · exact r
  · cases e1
theorem RB.non {K : PySem.W.Frag} (r : RB K α P O .none v) : v = .non := by
  rcases r with r | ⟨ds', a, vs, e1, _⟩
  · exact r
  · cases e1
theorem RB.str {K : PySem.W.Frag} {x : Str} (r : RB K α P O (.str x) v) : v = .str x ∧ x.length ≤ sizeLine := by
  rcases r with r | ⟨ds', a, vs, e1, _⟩
  · exact r
  · cases e1
theorem SR.lookR (h : SR F α P O ρ w σ H) {n : Nat} {xs : List D} (r : RB F.K α P O (rf n) v) (e : w[n]? = some (.lst xs)) : ∃ a vs, v = .ref a ∧ α[n]? = some a ∧ H a = some (.lst vs) ∧ xs.length ≤ sizeLine ∧ Reps F.K α P xs vs := by
  rcases r with ⟨m, a, e1, e2, e3⟩ | ⟨ds', a, vs, e1, _⟩
  · have em : m = n := by
      injection e1 with q1 _
      injection q1 with q2 _
      injection q2 with q3
      exact (Int.ofNat.inj q3).symm
    subst em
    obtain ⟨vs, q, z, r⟩ := h.wr m _ a e e3
    exact ⟨a, vs, e2, e3, q, z, r⟩
  · cases e1
theorem rf_inj {m n : Nat} (h : rf m = rf n) : m = n := by
  injection h with q
  injection q with q1 _
  injection q1 with q2 _
  injection q2 with q3
  exact Int.ofNat.inj q3
theorem rfN_rf (n : Nat) : rfN (rf n) = some n := by simp [rfN]
theorem rfN_some {d : D} {n : Nat} (h : rfN d = some n) : ∃ i : Int, d = .dict [(.int i, .none)] ∧ i.toNat = n := by
  unfold rfN at h
  split at h
  · exact ⟨_, rfl, Option.some.inj h⟩
  · cases h
theorem itsW_rf (n : Nat) (w : W) : itsW (rf n) w = wlst w n := by unfold itsW; rw [rfN_rf]
theorem itsW_list (xs : List D) (w : W) : itsW (.list xs) w = xs := rfl
theorem itsW_tuple (xs : List D) (w : W) : itsW (.tuple xs) w = xs := rfl
theorem wlst_of {w : W} {n : Nat} {xs : List D} (e : w[n]? = some (.lst xs)) : wlst w n = xs := by unfold wlst; rw [e]
/-- data, for ==, <, in -/
theorem RB.dp {K : PySem.W.Frag} (h : SR F α P O ρ w σ H) (hK : F.K = K) (c : d.canLay0 = true) (r : RB F.K α P O d v) : Dp K H v d := by
  subst hK
  rcases r with r | ⟨ds, a, vs, rfl, rfl, e, z, r⟩
  · exact Rep.dp h.pH d v c r
  · exact .lst (.inl (.inl (h.oH a _ e))) (Reps.dp h.pH _ _ c r)

/-! ### slots -/
theorem EnR.setVal {K : PySem.W.Frag} (h : EnR K α P O ρ σ) {i : Nat} {d : D} {v : V} (r : Rep K α P d v) : EnR K α P O (ρ.set i (.val d)) (σ.set i (some v)) where
  len := by rw [List.length_set, List.length_set]; exact h.len
  at_ := fun j s e => by
    by_cases hj : i = j
    · subst hj
      have hi : i < ρ.length := by
        have := (List.getElem?_eq_some_iff.mp e).1
        simpa using this
      rw [List.getElem?_set_self hi] at e
      cases e
      exact ⟨some v, List.getElem?_set_self (by rw [h.len]; exact hi), v, rfl, r⟩
    · rw [List.getElem?_set_ne hj] at e ⊢
      exact h.at_ j s e
  apart := fun j k ds es a e1 e2 e3 e4 => by
    have f : ∀ {j ds}, (ρ.set i (.val d))[j]? = some (Sl.own ds) → i ≠ j ∧ ρ[j]? = some (.own ds) := fun {j ds} e => by
      by_cases hj : i = j
      · subst hj
        have hi : i < ρ.length := by
          have := (List.getElem?_eq_some_iff.mp e).1
          simpa using this
        rw [List.getElem?_set_self hi] at e
        cases e
      · rw [List.getElem?_set_ne hj] at e
        exact ⟨hj, e⟩
    obtain ⟨n1, f1⟩ := f e1
    obtain ⟨n2, f2⟩ := f e2
    rw [List.getElem?_set_ne n1] at e3
    rw [List.getElem?_set_ne n2] at e4
    exact h.apart j k ds es a f1 f2 e3 e4
theorem SR.setEn (h : SR F α P O ρ w σ H) {ρ' : En} {σ' : L2.St} (e : EnR F.K α P O ρ' σ') : SR F α P O ρ' w σ' H :=
  ⟨h.pH, h.oH, h.oP, h.o0, h.nd, h.aP, h.a0, h.fr, h.wl, h.wr, e, h.tb, h.a1, h.ft, h.tt, h.oL, h.p0⟩
theorem SR.setVal (h : SR F α P O ρ w σ H) {i : Nat} {d : D} {v : V} (r : Rep F.K α P d v) : SR F α P O (setV ρ i d) w (σ.set i (some v)) H := h.setEn (h.en.setVal r)
theorem EnR.wipe {K : PySem.W.Frag} (h : EnR K α P O ρ σ) : ∀ is : List Nat, EnR K α P O (wipeE ρ is) (L2.wipe σ is)
  | [] => h
  | i :: is => by
    have ih := EnR.wipe h is
    refine ⟨by show ((L2.wipe σ is).set i none).length = ((wipeE ρ is).set i .un).length; rw [List.length_set, List.length_set]; exact ih.len, fun j s e => ?_, fun j k ds es a e1 e2 e3 e4 => ?_⟩
    · have e : ((wipeE ρ is).set i .un)[j]? = some s := e
      show ∃ x, ((L2.wipe σ is).set i none)[j]? = some x ∧ _
      by_cases hj : i = j
      · subst hj
        have hi : i < (wipeE ρ is).length := by
          have := (List.getElem?_eq_some_iff.mp e).1
          simpa using this
        rw [List.getElem?_set_self hi] at e
        cases e
        exact ⟨none, List.getElem?_set_self (by rw [ih.len]; exact hi), trivial⟩
      · rw [List.getElem?_set_ne hj] at e ⊢
        exact ih.at_ j s e
    · have f : ∀ {j ds}, ((wipeE ρ is).set i .un)[j]? = some (Sl.own ds) → i ≠ j ∧ (wipeE ρ is)[j]? = some (.own ds) := fun {j ds} e => by
        by_cases hj : i = j
        · subst hj
          have hi : i < (wipeE ρ is).length := by
            have := (List.getElem?_eq_some_iff.mp e).1
            simpa using this
          rw [List.getElem?_set_self hi] at e
          cases e
        · rw [List.getElem?_set_ne hj] at e
          exact ⟨hj, e⟩
      obtain ⟨n1, f1⟩ := f e1
      obtain ⟨n2, f2⟩ := f e2
      have e3 : ((L2.wipe σ is).set i none)[j]? = some (some (.ref a)) := e3
      have e4 : ((L2.wipe σ is).set i none)[k]? = some (some (.ref a)) := e4
      rw [List.getElem?_set_ne n1] at e3
      rw [List.getElem?_set_ne n2] at e4
      exact ih.apart j k ds es a f1 f2 e3 e4
/-- fewer slots known -/
theorem EnR.forget {K : PySem.W.Frag} (h : EnR K α P O ρ σ) (is : List Nat) : EnR K α P O (wipeE ρ is) σ := by
  have := EnR.wipe h is
  refine ⟨by rw [h.len]; clear this h; induction is with
    | nil => rfl
    | cons i is ih => show _ = ((wipeE ρ is).set i .un).length; rw [List.length_set]; exact ih, fun j s e => ?_, ?_⟩
  · clear this
    induction is generalizing j s with
    | nil => exact h.at_ j s e
    | cons i is ih =>
      have e : ((wipeE ρ is).set i .un)[j]? = some s := e
      by_cases hj : i = j
      · subst hj
        have hi : i < (wipeE ρ is).length := by
          have := (List.getElem?_eq_some_iff.mp e).1
          simpa using this
        rw [List.getElem?_set_self hi] at e
        cases e
        obtain ⟨x, hx, _⟩ := ih i _ (List.getElem?_eq_getElem hi)
        exact ⟨x, hx, trivial⟩
      · rw [List.getElem?_set_ne hj] at e
        exact ih j s e
  · have sub : ∀ {is : List Nat} {j : Nat} {ds : List D}, (wipeE ρ is)[j]? = some (Sl.own ds) → ρ[j]? = some (.own ds) := fun {is} => by
      induction is with
      | nil => exact fun e => e
      | cons i is ih =>
        intro j ds e
        have e : ((wipeE ρ is).set i .un)[j]? = some (Sl.own ds) := e
        by_cases hj : i = j
        · subst hj
          have hi : i < (wipeE ρ is).length := by
            have := (List.getElem?_eq_some_iff.mp e).1
            simpa using this
          rw [List.getElem?_set_self hi] at e
          cases e
        · rw [List.getElem?_set_ne hj] at e
          exact ih e
    exact fun j k ds es a e1 e2 e3 e4 => h.apart j k ds es a (sub e1) (sub e2) e3 e4

/-! ### lists of one's own, things of the store -/
theorem get_set_own {ρ : En} {i j : Nat} {s s' : Sl} (e : (ρ.set i s)[j]? = some s') : (i = j ∧ s' = s ∧ i < ρ.length) ∨ (i ≠ j ∧ ρ[j]? = some s') := by
  by_cases hj : i = j
  · subst hj
    have hi : i < ρ.length := by
      have := (List.getElem?_eq_some_iff.mp e).1
      simpa using this
    rw [List.getElem?_set_self hi] at e
    exact .inl ⟨rfl, (Option.some.inj e).symm, hi⟩
  · rw [List.getElem?_set_ne hj] at e
    exact .inr ⟨hj, e⟩
/-- a slot gets a list that nobody else has -/
theorem SR.setOwn (h : SR F α P O ρ w σ H) {i : Nat} {ds : List D} {a : Addr} {vs : List V} (e : H a = some (.lst vs)) (n1 : P a = none) (n2 : O a = none) (n3 : a ∉ α) (n4 : F.H0 a = none) (z : ds.length ≤ sizeLine) (r : Reps F.K α P ds vs) :
    SR F α P (L2.upd O a (.lst vs)) (ρ.set i (.own ds)) w (σ.set i (some (.ref a))) H where
  pH := h.pH
  oH := h.oH.put e
  oP := fun b x q => by
    by_cases hb : b = a
    · rw [hb]; exact n1
    · rw [upd_ne hb] at q; exact h.oP b x q
  o0 := fun b x q => by
    by_cases hb : b = a
    · rw [hb]; exact n4
    · rw [upd_ne hb] at q; exact h.o0 b x q
  nd := h.nd
  aP := fun b hm => ⟨(h.aP b hm).1, by rw [upd_ne (show b ≠ a from fun z => n3 (by rw [← z]; exact hm))]; exact (h.aP b hm).2⟩
  a0 := h.a0
  fr := h.fr
  wl := h.wl
  wr := h.wr
  en := by
    have ne : ∀ {j : Nat} {es : List D}, ρ[j]? = some (.own es) → σ[j]? ≠ some (some (.ref a)) := fun {j es} q q2 => by
      obtain ⟨x, e1, b, us, e2, e3, _⟩ := h.en.at_ j _ q
      rw [q2] at e1
      cases e1
      cases e2
      rw [n2] at e3; cases e3
    refine ⟨by rw [List.length_set, List.length_set]; exact h.en.len, fun j s q => ?_, fun j k es fs b q1 q2 q3 q4 => ?_⟩
    · rcases get_set_own q with ⟨rfl, rfl, hi⟩ | ⟨hj, q⟩
      · exact ⟨_, List.getElem?_set_self (by rw [h.en.len]; exact hi), a, vs, rfl, upd_same, z, r⟩
      · rw [List.getElem?_set_ne hj]
        obtain ⟨x, e1, e2⟩ := h.en.at_ j s q
        refine ⟨x, e1, ?_⟩
        cases s with
        | un => trivial
        | val d => exact e2
        | own es =>
          obtain ⟨b, us, f1, f2, f3, f4⟩ := e2
          exact ⟨b, us, f1, by rw [upd_ne (ne_of_none f2 n2)]; exact f2, f3, f4⟩
    · rcases get_set_own q1 with ⟨rfl, _, hi⟩ | ⟨hj, q1⟩
      · rw [List.getElem?_set_self (by rw [h.en.len]; exact hi)] at q3
        have eb : a = b := by injection q3 with q; injection q with q; injection q
        subst eb
        rcases get_set_own q2 with ⟨hk, _, _⟩ | ⟨hk, q2⟩
        · exact hk
        · rw [List.getElem?_set_ne hk] at q4
          exact absurd q4 (ne q2)
      · rw [List.getElem?_set_ne hj] at q3
        rcases get_set_own q2 with ⟨rfl, _, hi⟩ | ⟨hk, q2⟩
        · rw [List.getElem?_set_self (by rw [h.en.len]; exact hi)] at q4
          have eb : a = b := by injection q4 with q; injection q with q; injection q
          subst eb
          exact absurd q3 (ne q1)
        · rw [List.getElem?_set_ne hk] at q4
          exact h.en.apart j k es fs b q1 q2 q3 q4
  tb := h.tb
  a1 := h.a1
  ft := h.ft
  tt := h.tt
  oL := fun b x q => by
    by_cases hb : b = a
    · rw [hb, upd_same] at q; exact ⟨vs, (Option.some.inj q).symm⟩
    · rw [upd_ne hb] at q; exact h.oL b x q
  p0 := h.p0
/-- the own list of a slot is changed -/
theorem SR.putOwn (h : SR F α P O ρ w σ H) {i : Nat} {ds ds' : List D} {a : Addr} {vs' : List V} (e : ρ[i]? = some (.own ds)) (e2 : σ[i]? = some (some (.ref a))) (z : ds'.length ≤ sizeLine) (r : Reps F.K α P ds' vs') :
    SR F α P (L2.upd O a (.lst vs')) (ρ.set i (.own ds')) w σ (L2.upd H a (.lst vs')) := by
  obtain ⟨x, q1, b, vs, q2, q3, _, _⟩ := h.en.at_ i _ e
  rw [e2] at q1
  cases q1
  have eb : a = b := by injection q2 with q; injection q
  subst eb
  have hi := (List.getElem?_eq_some_iff.mp e).1
  have hP := h.oP a _ q3
  have hH := h.oH a _ q3
  refine ⟨h.pH.upd hP, fun b x q => ?_, fun b x q => ?_, fun b x q => ?_, h.nd, fun b hm => ⟨(h.aP b hm).1, ?_⟩, h.a0, fun b x q hm ht => ?_, h.wl, fun n o b f1 f2 => ?_, ⟨by rw [List.length_set]; exact h.en.len, fun j s q => ?_, fun j k es fs b f1 f2 f3 f4 => ?_⟩, fun t ht => ?_, h.a1, h.ft, h.tt, fun b x q => ?_, h.p0⟩
  · by_cases hb : b = a
    · subst hb; rw [upd_same] at q ⊢; exact q
    · rw [upd_ne hb] at q ⊢; exact h.oH b x q
  · by_cases hb : b = a
    · rw [hb]; exact hP
    · rw [upd_ne hb] at q; exact h.oP b x q
  · by_cases hb : b = a
    · rw [hb]; exact h.o0 a _ q3
    · rw [upd_ne hb] at q; exact h.o0 b x q
  · rw [upd_ne (fun z => by have := (h.aP b hm).2; rw [z, q3] at this; cases this)]
    exact (h.aP b hm).2
  · rw [upd_ne (fun z => by have := h.o0 a _ q3; rw [← z, q] at this; cases this)]
    exact h.fr b x q hm ht
  · rw [upd_ne (fun z => by have := (h.aP b (List.mem_of_getElem? f2)).2; rw [z, q3] at this; cases this)]
    exact h.wr n o b f1 f2
  · rcases get_set_own q with ⟨rfl, rfl, _⟩ | ⟨hj, q⟩
    · exact ⟨_, e2, a, vs', rfl, upd_same, z, r⟩
    · obtain ⟨y, g1, g2⟩ := h.en.at_ j s q
      refine ⟨y, g1, ?_⟩
      cases s with
      | un => trivial
      | val d => exact g2
      | own es =>
        obtain ⟨b, us, k1, k2, k3, k4⟩ := g2
        refine ⟨b, us, k1, ?_, k3, k4⟩
        rw [upd_ne (fun z => ?_)]
        · exact k2
        · subst k1
          subst z
          exact hj (h.en.apart i j _ _ b e q e2 g1)
  · have f : ∀ {j es}, (ρ.set i (.own ds'))[j]? = some (Sl.own es) → ∃ es' : List D, ρ[j]? = some (Sl.own es') := fun {j es} q => by
      rcases get_set_own q with ⟨rfl, _, _⟩ | ⟨_, q⟩
      · exact ⟨_, e⟩
      · exact ⟨_, q⟩
    obtain ⟨_, g1⟩ := f f1
    obtain ⟨_, g2⟩ := f f2
    exact h.en.apart j k _ _ b g1 g2 f3 f4
  · obtain ⟨ps, g1, g2, g3⟩ := h.tb t ht
    have ne : ∀ {b : Addr} {o : HO}, H b = some o → (∀ vs, o ≠ .lst vs) → b ≠ a := fun {b o} q n z => by rw [z, hH] at q; cases q; exact n _ rfl
    refine ⟨ps, by rw [upd_ne (ne g1 fun _ q => by cases q)]; exact g1, g2, fun pos cv q => ?_⟩
    obtain ⟨c, k1, k2⟩ := g3 pos cv q
    exact ⟨c, k1, by rw [upd_ne (ne k2 fun _ q => by unfold LamX.CodeO at q; cases q)]; exact k2⟩
  · by_cases hb : b = a
    · rw [hb, upd_same] at q; exact ⟨vs', (Option.some.inj q).symm⟩
    · rw [upd_ne hb] at q; exact h.oL b x q
/-- a slot's own list is known from now on -/
theorem SR.frz (h : SR F α P O ρ w σ H) (i : Nat) : ∃ P' O', Sub P P' ∧ SR F α P' O' (frzE ρ i) w σ H := by
  unfold frzE
  cases e : ρ[i]? with
  | none => exact ⟨P, O, Sub.refl _, h⟩
  | some s =>
    cases s with
    | un => exact ⟨P, O, Sub.refl _, h⟩
    | val d => exact ⟨P, O, Sub.refl _, h⟩
    | own ds =>
      obtain ⟨x, q1, a, vs, q2, q3, z, r⟩ := h.en.at_ i _ e
      subst q2
      have hi := (List.getElem?_eq_some_iff.mp e).1
      have hP := h.oP a _ q3
      have hH := h.oH a _ q3
      have ea := Sub.ext (o := .lst vs) hP
      refine ⟨L2.upd P a (.lst vs), fun b => if b = a then none else O b, ea, h.pH.put hH, fun b x q => ?_, fun b x q => ?_, fun b x q => ?_, h.nd, fun b hm => ⟨?_, ?_⟩, h.a0, h.fr, h.wl, fun n o b f1 f2 => (h.wr n o b f1 f2).mono (Pre.refl _) ea,
        ⟨by rw [List.length_set]; exact h.en.len, fun j s q => ?_, fun j k es fs b f1 f2 f3 f4 => ?_⟩, h.tb, h.a1, h.ft, fun b ps q => ?_, fun b x q => ?_, fun b x q => ?_⟩
      · by_cases hb : b = a
        · rw [if_pos hb] at q; cases q
        · rw [if_neg hb] at q; exact h.oH b x q
      · by_cases hb : b = a
        · rw [if_pos hb] at q; cases q
        · rw [if_neg hb] at q; rw [upd_ne hb]; exact h.oP b x q
      · by_cases hb : b = a
        · rw [if_pos hb] at q; cases q
        · rw [if_neg hb] at q; exact h.o0 b x q
      · rw [upd_ne (fun z => by have := (h.aP b hm).2; rw [z, q3] at this; cases this)]
        exact (h.aP b hm).1
      · by_cases hb : b = a
        · rw [if_pos hb]
        · rw [if_neg hb]; exact (h.aP b hm).2
      · rcases get_set_own q with ⟨rfl, rfl, _⟩ | ⟨hj, q⟩
        · exact ⟨_, q1, _, rfl, a, vs, rfl, .inl (.inl upd_same), z, Reps.mono (Pre.refl _) ea _ _ r⟩
        · obtain ⟨y, g1, g2⟩ := h.en.at_ j s q
          refine ⟨y, g1, ?_⟩
          cases s with
          | un => trivial
          | val d => obtain ⟨u, k1, k2⟩ := g2; exact ⟨u, k1, Rep.mono (Pre.refl _) ea _ _ k2⟩
          | own es =>
            obtain ⟨b, us, k1, k2, k3, k4⟩ := g2
            refine ⟨b, us, k1, ?_, k3, Reps.mono (Pre.refl _) ea _ _ k4⟩
            subst k1
            show (if b = a then none else O b) = _
            rw [if_neg (fun z => ?_)]
            · exact k2
            · subst z
              exact hj (h.en.apart i j _ _ b e q q1 g1)
      · rcases get_set_own f1 with ⟨_, q, _⟩ | ⟨_, f1⟩
        · cases q
        · rcases get_set_own f2 with ⟨_, q, _⟩ | ⟨_, f2⟩
          · cases q
          · exact h.en.apart j k _ _ b f1 f2 f3 f4
      · by_cases hb : b = a
        · rw [hb, upd_same] at q; cases q
        · rw [upd_ne hb] at q; exact h.tt b ps q
      · by_cases hb : b = a
        · rw [if_pos hb] at q; cases q
        · rw [if_neg hb] at q; exact h.oL b x q
      · by_cases hb : b = a
        · rw [hb]; exact .inr (h.o0 a _ q3)
        · rw [upd_ne hb] at q; exact h.p0 b x q
theorem nd_ix {α : Type} {l : List α} (h : l.Nodup) : ∀ {i j : Nat} {x : α}, l[i]? = some x → l[j]? = some x → i = j := by
  induction l with
  | nil => intro i j x e _; simp at e
  | cons y l ih =>
    rw [List.nodup_cons] at h
    intro i j x e1 e2
    cases i with
    | zero =>
      cases j with
      | zero => rfl
      | succ j =>
        simp at e1 e2
        subst e1
        exact absurd (List.mem_of_getElem? e2) h.1
    | succ i =>
      cases j with
      | zero =>
        simp at e1 e2
        subst e2
        exact absurd (List.mem_of_getElem? e1) h.1
      | succ j =>
        simp at e1 e2
        rw [ih h.2 e1 e2]
/-- a thing of the store is changed -/
theorem SR.putW (h : SR F α P O ρ w σ H) {n : Nat} {ds' : List D} {a : Addr} {vs' : List V} (e : α[n]? = some a) (z : ds'.length ≤ sizeLine) (r : Reps F.K α P ds' vs') :
    SR F α P O ρ (w.set n (.lst ds')) σ (L2.upd H a (.lst vs')) := by
  have hm := List.mem_of_getElem? e
  obtain ⟨vs, hH⟩ := h.αH hm
  obtain ⟨hP, hO⟩ := h.aP a hm
  refine ⟨h.pH.upd hP, h.oH.upd hO, h.oP, h.o0, h.nd, h.aP, h.a0, fun b x q hb ht => ?_, by rw [List.length_set]; exact h.wl, fun i o b f1 f2 => ?_, h.en, fun t ht => ?_, h.a1, h.ft, h.tt, h.oL, h.p0⟩
  · rcases h.a0 a hm with k | k
    · rw [upd_ne (fun z => hb (by rw [z]; exact k))]; exact h.fr b x q hb ht
    · rw [upd_ne (fun z => by rw [z, k] at q; cases q)]; exact h.fr b x q hb ht
  · by_cases hi : n = i
    · subst hi
      rw [e] at f2; cases f2
      have hn : n < w.length := by
        have := (List.getElem?_eq_some_iff.mp f1).1
        simpa using this
      rw [List.getElem?_set_self hn] at f1
      cases f1
      exact ⟨vs', upd_same, z, r⟩
    · rw [List.getElem?_set_ne hi] at f1
      have ne : b ≠ a := fun z => by
        subst z
        exact hi (nd_ix h.nd e f2)
      rw [upd_ne ne]
      exact h.wr i o b f1 f2
  · obtain ⟨ps, g1, g2, g3⟩ := h.tb t ht
    have ne : ∀ {b : Addr} {o : HO}, H b = some o → (∀ vs, o ≠ .lst vs) → b ≠ a := fun {b o} q n z => by rw [z, hH] at q; cases q; exact n _ rfl
    refine ⟨ps, by rw [upd_ne (ne g1 fun _ q => by cases q)]; exact g1, g2, fun pos cv q => ?_⟩
    obtain ⟨c, k1, k2⟩ := g3 pos cv q
    exact ⟨c, k1, by rw [upd_ne (ne k2 fun _ q => by unfold LamX.CodeO at q; cases q)]; exact k2⟩
/-- a new thing of the store -/
theorem SR.newW (h : SR F α P O ρ w σ H) (n : H p = none) {ds : List D} {vs : List V} (z : ds.length ≤ sizeLine) (r : Reps F.K α P ds vs) : SR F (α ++ [p]) P O ρ (w ++ [.lst ds]) σ (L2.upd H p (.lst vs)) := by
  have hn := h.newF (o := .lst vs) n (fun _ z => nomatch z)
  have pre : Pre α (α ++ [p]) := fun i a e => by rw [List.getElem?_append_left (List.getElem?_eq_some_iff.mp e).1]; exact e
  refine ⟨hn.pH, hn.oH, h.oP, h.o0, ?_, fun a hm => ?_, fun a hm => ?_, hn.fr, by rw [List.length_append, List.length_append, h.wl]; rfl, fun i o a f1 f2 => ?_, h.en.mono pre (Sub.refl _), hn.tb, fun a hm => List.mem_append_left _ (h.a1 a hm), h.ft, hn.tt, h.oL, h.p0⟩
  · rw [List.nodup_append]
    refine ⟨h.nd, by simp, fun a ha b hb => ?_⟩
    rw [List.mem_singleton] at hb
    subst hb
    exact fun z => h.notα n (by rw [← z]; exact ha)
  · rcases List.mem_append.mp hm with hm | hm
    · exact h.aP a hm
    · rw [List.mem_singleton] at hm
      subst hm
      exact ⟨h.notP n, h.notO n⟩
  · rcases List.mem_append.mp hm with hm | hm
    · exact h.a0 a hm
    · rw [List.mem_singleton] at hm
      subst hm
      exact .inr (h.not0 n)
  · by_cases hi : i < α.length
    · rw [List.getElem?_append_left hi] at f2
      rw [List.getElem?_append_left (by rw [h.wl]; exact hi)] at f1
      exact (hn.wr i o a f1 f2).mono pre (Sub.refl _)
    · rw [List.getElem?_append_right (by omega)] at f2
      rw [List.getElem?_append_right (by rw [h.wl]; omega)] at f1
      have e0 : i - α.length = 0 := by
        have := (List.getElem?_eq_some_iff.mp f2).1
        simp at this; omega
      rw [e0] at f2
      rw [h.wl, e0] at f1
      cases f2
      cases f1
      exact ⟨vs, upd_same, z, Reps.mono pre (Sub.refl _) _ _ r⟩
/-- a list of nobody's becomes a thing of the store -/
theorem SR.adopt (h : SR F α P O ρ w σ H) {a : Addr} {ds : List D} {vs : List V} (e : H a = some (.lst vs)) (n1 : P a = none) (n2 : O a = none) (n3 : a ∉ α) (n4 : F.H0 a = none) (z : ds.length ≤ sizeLine) (r : Reps F.K α P ds vs) : SR F (α ++ [a]) P O ρ (w ++ [.lst ds]) σ H := by
  have pre : Pre α (α ++ [a]) := fun i b e => by rw [List.getElem?_append_left (List.getElem?_eq_some_iff.mp e).1]; exact e
  refine ⟨h.pH, h.oH, h.oP, h.o0, ?_, fun b hm => ?_, fun b hm => ?_, h.fr, by rw [List.length_append, List.length_append, h.wl]; rfl, fun i o b f1 f2 => ?_, h.en.mono pre (Sub.refl _), h.tb, fun b hm => List.mem_append_left _ (h.a1 b hm), h.ft, h.tt, h.oL, h.p0⟩
  · rw [List.nodup_append]
    refine ⟨h.nd, by simp, fun b hb c hc => ?_⟩
    rw [List.mem_singleton] at hc
    subst hc
    exact fun z => n3 (by rw [← z]; exact hb)
  · rcases List.mem_append.mp hm with hm | hm
    · exact h.aP b hm
    · rw [List.mem_singleton] at hm
      subst hm
      exact ⟨n1, n2⟩
  · rcases List.mem_append.mp hm with hm | hm
    · exact h.a0 b hm
    · rw [List.mem_singleton] at hm
      subst hm
      exact .inr n4
  · by_cases hi : i < α.length
    · rw [List.getElem?_append_left hi] at f2
      rw [List.getElem?_append_left (by rw [h.wl]; exact hi)] at f1
      exact (h.wr i o b f1 f2).mono pre (Sub.refl _)
    · rw [List.getElem?_append_right (by omega)] at f2
      rw [List.getElem?_append_right (by rw [h.wl]; omega)] at f1
      have e0 : i - α.length = 0 := by
        have := (List.getElem?_eq_some_iff.mp f2).1
        simp at this; omega
      rw [e0] at f2
      rw [h.wl, e0] at f1
      cases f2
      cases f1
      exact ⟨vs, e, z, Reps.mono pre (Sub.refl _) _ _ r⟩
theorem pre_app (α β : List Addr) : Pre α (α ++ β) := fun i a e => by rw [List.getElem?_append_left (List.getElem?_eq_some_iff.mp e).1]; exact e
end
end Ev

/-! Ev6: the primitives over the hand layer. -/
namespace Ev
open PySem PySem.Spec PyProof.Rows L2

/-- what is wanted of a result -/
def Out (F : Fx) (α : List Addr) (P O : Hp) (ρ : En) (σ : L2.St) (k : Knd) (d : D) (w' : W) (Q : VK) : Prop :=
  ∀ α' P' H' v, Pre α α' → Sub P P' → SR F α' P' O ρ w' σ H' → Res k F α' P' O H' d v → Q v H'
def P1.knd (o : P1) : Knd := if o.fresh then .fr else .pl
def P2.knd (o : P2) : Knd := if o.fresh then .fr else .pl

section
variable (K : PySem.W.Frag) (T : List (Addr × Str))
def rP2 (o : P2) : R2 := fun x y H Q => ∃ F α P O ρ w σ a b, F.K = K ∧ F.T = T ∧ SR F α P O ρ w σ H ∧ RB K α P O a x ∧ RB K α P O b y ∧ d2 o a b w ∧ Out F α P O ρ σ o.knd (v2 o a b w) (w2 o a b w) Q
def rP1 (o : P1) : V → Hp → VK → Prop := fun x H Q => ∃ F α P O ρ w σ a, F.K = K ∧ F.T = T ∧ SR F α P O ρ w σ H ∧ RB K α P O a x ∧ d1 o a w ∧ Out F α P O ρ σ o.knd (v1 o a w) w Q
end

theorem OpR.imp {X : Cx} {f : Value → Value → Sem Value} {r r' : R2} (h : OpR X f r) (i : ∀ x y H Q, r' x y H Q → r x y H Q) : OpR X f r' :=
  fun pins s σ H x y v u Q I rx ry q => h pins s σ H x y v u Q I rx ry (i _ _ _ _ q)
theorem UnR.imp {X : Cx} {f : Value → Sem Value} {r r' : V → Hp → VK → Prop} (h : UnR X f r) (i : ∀ x H Q, r' x H Q → r x H Q) : UnR X f r' :=
  fun pins s σ H x v Q I rx q => h pins s σ H x v Q I rx (i _ _ _ q)
theorem CallR.imp {X : Cx} {f : Value} {r r' : List V → Hp → VK → Prop} (h : CallR X f r) (i : ∀ xs H Q, r' xs H Q → r xs H Q) : CallR X f r' :=
  fun pins s σ H xs us Q I rx q => h pins s σ H xs us Q I rx (i _ _ _ q)
theorem IxR.imp {X : Cx} {r r' : R2} (h : IxR X r) (i : ∀ x y H Q, r' x y H Q → r x y H Q) : IxR X r' :=
  fun value slice pins s σ H x y v u Q I rx ry q hs => h value slice pins s σ H x y v u Q I rx ry (i _ _ _ _ q) hs

section
variable {F : Fx} {α : List Addr} {P O : Hp} {ρ : En} {w : W} {σ : L2.St} {H : Hp} {d : D} {v : V} {Q : VK}
/-- a flat answer -/
theorem Out.here {k : Knd} {d : D} {v : V} (o : Out F α P O ρ σ k d w Q) (sr : SR F α P O ρ w σ H) (r : Rep F.K α P d v) (hl : ∀ ds, d ≠ .list ds) : Q v H := by
  refine o α P H v (Pre.refl _) (Sub.refl _) sr ?_
  cases k with
  | pl => exact r
  | fr => exact .inl ⟨r, hl⟩
  | bw => exact .inl r
theorem Out.pl {d : D} {v : V} (o : Out F α P O ρ σ .pl d w Q) (sr : SR F α P O ρ w σ H) (r : Rep F.K α P d v) : Q v H := o α P H v (Pre.refl _) (Sub.refl _) sr r
/-- a new tuple -/
theorem Out.newT {k : Knd} {ds : List D} {vs : List V} (o : Out F α P O ρ σ k (.tuple ds) w Q) (sr : SR F α P O ρ w σ H) (z : ds.length ≤ sizeLine) (r : Reps F.K α P ds vs) : ∀ p, H p = none → Q (.ref p) (upd H p (.tup vs)) := fun p n => by
  have e := Sub.ext (o := .tup vs) (sr.notP n)
  have q : Rep F.K α (upd P p (.tup vs)) (.tuple ds) (.ref p) := ⟨p, vs, rfl, .inl (.inl upd_same), z, Reps.mono (Pre.refl _) e _ _ r⟩
  refine o α (upd P p (.tup vs)) _ _ (Pre.refl _) e (sr.newP n fun _ z => nomatch z) ?_
  cases k with
  | pl => exact q
  | fr => exact .inl ⟨q, fun _ z => nomatch z⟩
  | bw => exact .inl q
/-- a new list -/
theorem Out.newL {ds : List D} {vs : List V} (o : Out F α P O ρ σ .fr (.list ds) w Q) (sr : SR F α P O ρ w σ H) (z : ds.length ≤ sizeLine) (r : Reps F.K α P ds vs) : ∀ p, H p = none → Q (.ref p) (upd H p (.lst vs)) := fun p n =>
  o α P _ _ (Pre.refl _) (Sub.refl _) (sr.newF n fun _ z => nomatch z) (.inr ⟨ds, p, vs, rfl, rfl, upd_same, sr.notP n, sr.notO n, sr.notα n, sr.not0 n, z, r⟩)
end

section
variable {X : Cx} {T : List (Addr × Str)}

/-! ### lists that may be looked at -/
theorem op_catL : OpR X (binaryOp .Add) (fun x y H Q => ∃ l b xs zs, x = .ref l ∧ y = .ref b ∧ SqL X.K H l xs ∧ SqL X.K H b zs ∧ xs.length + zs.length ≤ sizeLine ∧ ∀ p, H p = none → Q (.ref p) (upd H p (.lst (xs ++ zs)))) := by
  intro pins s σ H x y v u Q I rx ry h
  obtain ⟨l, b, xs, zs, rfl, rfl, hl, hb, hz, q⟩ := h
  cases rx
  cases ry
  obtain ⟨it1, r1, p1, z1⟩ := I.list hl
  obtain ⟨it2, r2, p2, z2⟩ := I.list hb
  have l1 := r1.length
  have l2 := r2.length
  obtain ⟨⟨c1, d1, t1, s1⟩, n1, e1, f1, f2, f3⟩ := p1
  obtain ⟨⟨c2, d2, t2, s2⟩, n2, e2, g1, g2, g3⟩ := p2
  simp only at f1 f2 f3 g1 g2 g3
  subst f1 f2 f3 g1 g2 g3
  refine concat_meets ⟨_, e1, rfl⟩ ⟨_, e2, rfl⟩ noFill_list_add seq_list_add PySem.F.slot_list_add PySem.F.entry_list_add (PySem.F.args_list_add_2 _ _)
    (list_addW l b it1.toArray it2.toArray n1 n2 Option.none Option.none s1 s2 (by simp; omega)) ⟨e1, e2, ?_⟩
  rw [show it1.toArray ++ it2.toArray = (it1 ++ it2).toArray by simp]
  exact ⟨.ref _, _, I.lnew (t' := s.toks) (r1.append r2) (by rw [List.length_append]; omega), rfl, q _ I.fresh⟩
theorem p2_add : OpR X (binaryOp .Add) (rP2 X.K T .add) := by
  refine OpR.imp (OpR.or op_add (OpR.or op_add_str (OpR.or op_catA op_catL))) fun x y H Q h => ?_
  obtain ⟨⟨_, H0, P0, α0, _⟩, α, P, O, ρ, w, σ, a, b, rfl, rfl, sr, ra, rb, hd, o⟩ := h
  rcases hd with ⟨⟨i, rfl⟩, j, rfl⟩ | ⟨z, u, rfl, rfl, hz⟩ | ⟨ds, es, rfl, rfl, hz⟩ | ⟨ds, es, rfl, rfl, hz⟩
  · exact .inl ⟨i, j, ra.int, rb.int, o.here sr (show Rep _ _ _ (.int (i + j)) _ from rfl) (fun _ z => nomatch z)⟩
  · obtain ⟨e1, z1⟩ := ra.str
    obtain ⟨e2, z2⟩ := rb.str
    refine .inr (.inl ⟨z, u, e1, e2, hz, o.here sr (show Rep _ _ _ (.str (z ++ u)) _ from ⟨rfl, ?_⟩) (fun _ z => nomatch z)⟩)
    rw [PySem.Str.length_append]
    exact hz
  · obtain ⟨l1, vs1, e1, s1, z1, r1⟩ := sr.lookT ra
    obtain ⟨l2, vs2, e2, s2, z2, r2⟩ := sr.lookT rb
    have n1 := r1.length
    have n2 := r2.length
    refine .inr (.inr (.inl ⟨l1, l2, vs1, vs2, e1, e2, s1, s2, by omega, fun hn => ?_, fun hn hm => ?_, fun _ _ => ?_⟩))
    · have : ds = [] := by
        cases ds with
        | nil => rfl
        | cons d ds => rw [hn] at n1; simp at n1
      subst this
      have rr : Rep X.K α P (.tuple es) (.ref l2) := by
        rcases rb with rb | ⟨_, _, _, q, _⟩
        · rw [← e2]; exact rb
        · cases q
      exact o.here sr (show Rep _ _ _ (.tuple es) _ from rr) (fun _ z => nomatch z)
    · have : es = [] := by
        cases es with
        | nil => rfl
        | cons d ds => rw [hm] at n2; simp at n2
      subst this
      have rr : Rep X.K α P (.tuple ds) (.ref l1) := by
        rcases ra with rb | ⟨_, _, _, q, _⟩
        · rw [← e1]; exact rb
        · cases q
      refine o.here sr (d := addD (.tuple ds) (.tuple [])) ?_ (fun _ z => nomatch z)
      show Rep _ _ _ (.tuple (ds ++ [])) _
      rw [List.append_nil]
      exact rr
    · exact o.newT (ds := ds ++ es) sr (by rw [List.length_append]; omega) (r1.append r2)
  · obtain ⟨l1, vs1, e1, s1, z1, r1⟩ := sr.look ra
    obtain ⟨l2, vs2, e2, s2, z2, r2⟩ := sr.look rb
    have n1 := r1.length
    have n2 := r2.length
    exact .inr (.inr (.inr ⟨l1, l2, vs1, vs2, e1, e2, s1, s2, by omega, o.newL (ds := ds ++ es) sr (by rw [List.length_append]; omega) (r1.append r2)⟩))
theorem p2_int {f : Value → Value → Sem Value} {C : Int → Int → Prop} {g : Int → Int → Int} {o : P2} (h : OpR X f (rI C fun i j => .int (g i j)))
    (hd : ∀ a b w, d2 o a b w → ∃ i j, a = .int i ∧ b = .int j ∧ C i j) (hv : ∀ i j w, v2 o (.int i) (.int j) w = .int (g i j)) (hw : ∀ a b w, w2 o a b w = w) : OpR X f (rP2 X.K T o) := by
  refine OpR.imp h fun x y H Q h => ?_
  obtain ⟨⟨_, H0, P0, α0, _⟩, α, P, O, ρ, w, σ, a, b, rfl, rfl, sr, ra, rb, hdd, out⟩ := h
  obtain ⟨i, j, rfl, rfl, c⟩ := hd _ _ _ hdd
  rw [hv, hw] at out
  exact ⟨i, j, ra.int, rb.int, c, out.here sr (show Rep _ _ _ (.int (g i j)) _ from rfl) (fun _ z => nomatch z)⟩
theorem rI0_rI {f : Value → Value → Sem Value} {g : Int → Int → V} (h : OpR X f (rI0 g)) : OpR X f (rI (fun _ _ => True) g) :=
  OpR.imp h fun x y H Q ⟨i, j, e1, e2, _, q⟩ => ⟨i, j, e1, e2, q⟩
theorem p2_sub : OpR X (binaryOp .Sub) (rP2 X.K T .sub) := p2_int (rI0_rI op_sub) (fun _ _ _ ⟨⟨i, e1⟩, j, e2⟩ => ⟨i, j, e1, e2, trivial⟩) (fun _ _ _ => rfl) (fun _ _ _ => rfl)
theorem p2_fdiv : OpR X (binaryOp .FloorDiv) (rP2 X.K T .fdiv) := p2_int op_fdiv (fun _ _ _ h => h) (fun _ _ _ => rfl) (fun _ _ _ => rfl)
theorem p2_mod : OpR X (binaryOp .Mod) (rP2 X.K T .mod) := p2_int op_mod (fun _ _ _ h => h) (fun _ _ _ => rfl) (fun _ _ _ => rfl)
theorem p2_shl : OpR X (binaryOp .LShift) (rP2 X.K T .shl) := p2_int op_shl (fun _ _ _ h => h) (fun _ _ _ => rfl) (fun _ _ _ => rfl)
theorem p2_shr : OpR X (binaryOp .RShift) (rP2 X.K T .shr) := p2_int op_shr (fun _ _ _ h => h) (fun _ _ _ => rfl) (fun _ _ _ => rfl)
theorem p2_band : OpR X (binaryOp .BitAnd) (rP2 X.K T .band) := p2_int (rI0_rI op_and) (fun _ _ _ ⟨⟨i, e1⟩, j, e2⟩ => ⟨i, j, e1, e2, trivial⟩) (fun _ _ _ => rfl) (fun _ _ _ => rfl)
theorem op_repL : OpR X (binaryOp .Mult) (fun x y H Q => ∃ l k xs, x = .ref l ∧ y = .int k ∧ SqL X.K H l xs ∧ -(2 ^ 63) ≤ k ∧ k < 2 ^ 63 ∧ xs.length * k.toNat ≤ sizeLine ∧ ∀ p, H p = none → Q (.ref p) (upd H p (.lst (List.replicate k.toNat xs).flatten))) := by
  intro pins s σ H x y v u Q I rx ry h
  obtain ⟨l, k, xs, rfl, rfl, hl, h1, h2, hz, q⟩ := h
  cases rx
  obtain ⟨tk, rfl⟩ := ry
  obtain ⟨it, r, p1, z1⟩ := I.list hl
  have l1 := r.length
  obtain ⟨⟨c1, d1, t1, s1⟩, n1, e1, f1, f2, f3⟩ := p1
  simp only at f1 f2 f3
  subst f1 f2 f3
  have hs : it.toArray.size * k.toNat ≤ sizeLine := by rw [List.size_toArray, ← l1]; exact hz
  have b1 : ¬ (!Builtin.List.listFitsIndex k) = true := by simp [Builtin.List.listFitsIndex]; omega
  have b2 : ¬ it.toArray.size * k.toNat > (2 ^ 63 - 1) / 8 := by
    have : (sizeLine : Nat) ≤ (2 ^ 63 - 1) / 8 := by decide
    omega
  have b3 : ¬ Builtin.List.listTooLong (it.toArray.size * k.toNat) = true := by rw [notLongL hs]; exact Bool.false_ne_true
  refine wpAny_binaryOp_repeat_ref (T := "list") (U := "int") (by decide) ⟨_, e1, rfl⟩ (fun s' => typeIs_int s' k tk) noFill_list_mul PySem.F.fills_int_mul PySem.F.slot_int_rmul repeat_list PySem.F.slot_int_index.lookup
    (call_meets PySem.F.slot_int_rmul (typeIs_int s k tk) PySem.F.entry_int_rmul (PySem.F.args_int_rmul_2 _ _) (lm_int_rmul_list_any k tk l it.toArray n1 Option.none s1) ⟨e1, rfl, ⟨_, e1, rfl⟩,
      call_meets PySem.F.slot_list_mul ⟨_, e1, rfl⟩ PySem.F.entry_list_mul (PySem.F.args_list_mul_2 _ _) (lm_list_mul_any l it.toArray n1 Option.none s1 k tk b1 b2 b3) ⟨e1, ?_⟩⟩)
  rw [listMul_foldl_if]
  exact ⟨.ref _, _, I.lnew (t' := s.toks) (r.rep k.toNat) (by rw [lm_len_rep_flat, Nat.mul_comm]; exact hz), rfl, q _ I.fresh⟩
theorem p2_mul : OpR X (binaryOp .Mult) (rP2 X.K T .mul) := by
  refine OpR.imp (OpR.or op_mul op_repL) fun x y H Q h => ?_
  obtain ⟨⟨_, H0, P0, α0, _⟩, α, P, O, ρ, w, σ, a, b, rfl, rfl, sr, ra, rb, hd, o⟩ := h
  rcases hd with ⟨i, j, rfl, rfl, c⟩ | ⟨ds, j, rfl, rfl, h1, h2, h3⟩
  · exact .inl ⟨i, j, ra.int, rb.int, c, o.here sr (show Rep _ _ _ (.int (i * j)) _ from rfl) (fun _ z => nomatch z)⟩
  · obtain ⟨l1, vs1, e1, s1, z1, r1⟩ := sr.look ra
    have n1 := r1.length
    refine .inr ⟨l1, j, vs1, e1, rb.int, s1, h1, h2, by rw [n1]; exact h3, o.newL (ds := (List.replicate j.toNat ds).flatten) sr ?_ ?_⟩
    · rw [lm_len_rep_flat, Nat.mul_comm]; exact h3
    · have : ∀ k : Nat, Reps X.K α P (List.replicate k ds).flatten (List.replicate k vs1).flatten := fun k => by
        induction k with
        | zero => exact rfl
        | succ k ih =>
          rw [List.replicate_succ, List.replicate_succ, List.flatten_cons, List.flatten_cons]
          exact r1.append ih
      exact this _

/-! ### comparisons -/
theorem p2_eq (hu : X.A.units + 64 < cLine) : OpR X (compareOp .Eq) (rP2 X.K T .eq) := by
  refine OpR.imp (op_eqD hu) fun x y H Q h => ?_
  obtain ⟨⟨_, H0, P0, α0, _⟩, α, P, O, ρ, w, σ, a, b, rfl, rfl, sr, ra, rb, hd, o⟩ := h
  exact ⟨a, b, RB.dp sr rfl (SeqAt.canLay_of_shaped hd.1) ra, RB.dp sr rfl (SeqAt.canLay_of_shaped hd.2) rb, hd.1, hd.2, o.here sr (show Rep _ _ _ (.bool _) _ from rfl) (fun _ z => nomatch z)⟩
theorem p2_ne (hu : X.A.units + 64 < cLine) : OpR X (compareOp .NotEq) (rP2 X.K T .ne) := by
  refine OpR.imp (op_neD hu) fun x y H Q h => ?_
  obtain ⟨⟨_, H0, P0, α0, _⟩, α, P, O, ρ, w, σ, a, b, rfl, rfl, sr, ra, rb, hd, o⟩ := h
  exact ⟨a, b, RB.dp sr rfl (SeqAt.canLay_of_shaped hd.1) ra, RB.dp sr rfl (SeqAt.canLay_of_shaped hd.2) rb, hd.1, hd.2, o.here sr (show Rep _ _ _ (.bool _) _ from rfl) (fun _ z => nomatch z)⟩
theorem op_ltD (hu : X.A.units + 64 < cLine) : OpR X (compareOp .Lt) (fun x y H Q => ∃ d e, Dp X.K H x d ∧ Dp X.K H y e ∧ SeqAt.shaped d = true ∧ PySem.W.alike d e = true ∧ d ≠ .none ∧ Q (.bl (PySem.W.dataLt d e)) H) := by
  intro pins s σ H x y v u Q I rx ry h
  obtain ⟨d, e, hd, he, sd, al, hn, q⟩ := h
  obtain ⟨as, r1⟩ := Dp.reads I d x v hd rx
  obtain ⟨bs, r2⟩ := Dp.reads I e y u he ry
  have z : wpAny (model X.prog X.w) X.A (compareOp .Lt v u) (EP X pins σ Q) X.xe s :=
    PySem.W.rcLt_alike d e X.A s v u as bs r1 r2 al hn (SeqAt.room_of_shaped sd hu) X.prog X.w X.xe (EP X pins σ Q) ⟨.bl _, H, I, rfl, q⟩
  exact z
theorem p2_lt (hu : X.A.units + 64 < cLine) : OpR X (compareOp .Lt) (rP2 X.K T .lt) := by
  refine OpR.imp (op_ltD hu) fun x y H Q h => ?_
  obtain ⟨⟨_, H0, P0, α0, _⟩, α, P, O, ρ, w, σ, a, b, rfl, rfl, sr, ra, rb, hd, o⟩ := h
  obtain ⟨h1, h2, h3, h4⟩ := hd
  exact ⟨a, b, RB.dp sr rfl (SeqAt.canLay_of_shaped h1) ra, RB.dp sr rfl (SeqAt.canLay_of_shaped h2) rb, h1, h3, h4, o.here sr (show Rep _ _ _ (.bool _) _ from rfl) (fun _ z => nomatch z)⟩
theorem p2_cmpIS {f : Value → Value → Sem Value} {g : Int → Int → Bool} {k : Str → Str → Bool} {o : P2} (h : OpR X f (rI0 fun i j => .bl (g i j))) (h' : OpR X f (fun x y H Q => ∃ i j, x = .str i ∧ y = .str j ∧ Q (.bl (k i j)) H))
    (hd : ∀ a b w, d2 o a b w → (isInt a ∧ isInt b) ∨ (isStr a ∧ isStr b)) (hv : ∀ i j w, v2 o (.int i) (.int j) w = .bool (g i j)) (hv' : ∀ i j w, v2 o (.str i) (.str j) w = .bool (k i j)) (hw : ∀ a b w, w2 o a b w = w) : OpR X f (rP2 X.K T o) := by
  refine OpR.imp (OpR.or h h') fun x y H Q h => ?_
  obtain ⟨⟨_, H0, P0, α0, _⟩, α, P, O, ρ, w, σ, a, b, rfl, rfl, sr, ra, rb, hdd, out⟩ := h
  rcases hd _ _ _ hdd with ⟨⟨i, rfl⟩, j, rfl⟩ | ⟨⟨i, rfl⟩, j, rfl⟩
  · rw [hv, hw] at out
    exact .inl ⟨i, j, ra.int, rb.int, out.here sr (show Rep _ _ _ (.bool _) _ from rfl) (fun _ z => nomatch z)⟩
  · rw [hv', hw] at out
    exact .inr ⟨i, j, ra.str.1, rb.str.1, out.here sr (show Rep _ _ _ (.bool _) _ from rfl) (fun _ z => nomatch z)⟩
theorem nlt_int (i j : Int) : (!decide (j < i)) = decide (i ≤ j) := by
  rw [← decide_not, decide_eq_decide]; omega
theorem p2_le : OpR X (compareOp .LtE) (rP2 X.K T .le) := p2_cmpIS op_le op_le_str (fun _ _ _ h => h)
  (fun i j w => by show PyData.bool (leD _ _) = _; unfold leD; rw [PySem.W.dataLt_int, nlt_int]) (fun i j w => by show PyData.bool (leD _ _) = _; unfold leD; rw [PySem.W.dataLt_str]) (fun _ _ _ => rfl)
theorem p2_gt : OpR X (compareOp .Gt) (rP2 X.K T .gt) := p2_cmpIS op_gt op_gt_str (fun _ _ _ h => h)
  (fun i j w => by show PyData.bool (ltD _ _) = _; unfold ltD; rw [PySem.W.dataLt_int]) (fun i j w => by show PyData.bool (ltD _ _) = _; unfold ltD; rw [PySem.W.dataLt_str]) (fun _ _ _ => rfl)
theorem p2_ge : OpR X (compareOp .GtE) (rP2 X.K T .ge) := p2_cmpIS op_ge op_ge_str (fun _ _ _ h => h)
  (fun i j w => by show PyData.bool (leD _ _) = _; unfold leD; rw [PySem.W.dataLt_int, nlt_int]) (fun i j w => by show PyData.bool (leD _ _) = _; unfold leD; rw [PySem.W.dataLt_str]) (fun _ _ _ => rfl)
theorem rep_none {K : PySem.W.Frag} {α : List Addr} {P O : Hp} {a : D} {x : V} (r : RB K α P O a x) : decide (x = .non) = isD a .none := by
  rcases r with r | ⟨ds, l, vs, rfl, rfl, _⟩
  · cases a with
    | none => rw [show x = .non from r]; rfl
    | bool b => rw [show x = .bl b from r]; rfl
    | int b => rw [show x = .int b from r]; rfl
    | str b => rw [r.1]; rfl
    | list b => obtain ⟨a, vs, e, _⟩ := r; rw [e]; rfl
    | tuple b => obtain ⟨a, vs, e, _⟩ := r; rw [e]; rfl
    | dict b => obtain ⟨n, a, _, e, _⟩ := r; rw [e]; rfl
  · rfl
theorem p2_is : OpR X (compareOp .Is) (rP2 X.K T .is) := by
  refine OpR.imp (OpR.or op_isN op_is_bl) fun x y H Q h => ?_
  obtain ⟨⟨_, H0, P0, α0, _⟩, α, P, O, ρ, w, σ, a, b, rfl, rfl, sr, ra, rb, hd, o⟩ := h
  rcases hd with rfl | ⟨⟨i, rfl⟩, j, rfl⟩
  · exact .inl ⟨rb.non, o.here sr (show Rep _ _ _ (.bool _) _ from by rw [rep_none ra]; rfl) (fun _ z => nomatch z)⟩
  · refine .inr ⟨i, j, ra.bl, rb.bl, o.here sr (show Rep _ _ _ (.bool _) _ from ?_) (fun _ z => nomatch z)⟩
    show V.bl (decide (i = j)) = V.bl (i == j)
    cases i <;> cases j <;> rfl
theorem p2_isnot : OpR X (compareOp .IsNot) (rP2 X.K T .isnot) := by
  refine OpR.imp (OpR.or op_notN op_isnot_bl) fun x y H Q h => ?_
  obtain ⟨⟨_, H0, P0, α0, _⟩, α, P, O, ρ, w, σ, a, b, rfl, rfl, sr, ra, rb, hd, o⟩ := h
  rcases hd with rfl | ⟨⟨i, rfl⟩, j, rfl⟩
  · exact .inl ⟨rb.non, o.here sr (show Rep _ _ _ (.bool _) _ from by rw [rep_none ra]; rfl) (fun _ z => nomatch z)⟩
  · refine .inr ⟨i, j, ra.bl, rb.bl, o.here sr (show Rep _ _ _ (.bool _) _ from ?_) (fun _ z => nomatch z)⟩
    show V.bl (!decide (i = j)) = V.bl (!(i == j))
    cases i <;> cases j <;> rfl

/-! ### in -/
def rInS (K : PySem.W.Frag) (neg : Bool) : R2 := fun x y H Q => ∃ d ds a vs, y = .ref a ∧ (SqL K H a vs ∨ SqT K H a vs) ∧ Dp K H x d ∧ DpAll K H vs ds ∧ PyData.canLayAll0 ds = true ∧ SeqAt.shaped d = true ∧ Q (.bl (if neg then !ds.any fun z => PyData.eqv z d else ds.any fun z => PyData.eqv z d)) H
theorem op_inS (hu : X.A.units + 65 < cLine) : OpR X (compareOp .In) (rInS X.K false) := by
  intro pins s σ H x y v u Q I rx ry h
  obtain ⟨d, ds, a, vs, rfl, hs, hd, hds, cl, sd, q⟩ := h
  obtain ⟨as, r1⟩ := Dp.reads I d x v hd rx
  rcases hs with hs | hs
  · obtain ⟨bs, r2⟩ := Dp.reads I (.list ds) _ u (.lst hs hds) ry
    exact SeqAt.in_list_reads r2 r1 cl (SeqAt.canLay_of_shaped sd) (room_in_shaped sd hu) ⟨.bl _, H, I, rfl, q⟩
  · obtain ⟨bs, r2⟩ := Dp.reads I (.tuple ds) _ u (.tup hs hds) ry
    exact SeqAt.in_tuple_reads r2 r1 cl (SeqAt.canLay_of_shaped sd) (room_in_shaped sd hu) ⟨.bl _, H, I, rfl, q⟩
theorem op_notInS (hu : X.A.units + 65 < cLine) : OpR X (compareOp .NotIn) (rInS X.K true) := by
  intro pins s σ H x y v u Q I rx ry h
  obtain ⟨d, ds, a, vs, rfl, hs, hd, hds, cl, sd, q⟩ := h
  obtain ⟨as, r1⟩ := Dp.reads I d x v hd rx
  rcases hs with hs | hs
  · obtain ⟨bs, r2⟩ := Dp.reads I (.list ds) _ u (.lst hs hds) ry
    exact SeqAt.notIn_list_reads r2 r1 cl (SeqAt.canLay_of_shaped sd) (room_in_shaped sd hu) ⟨.bl _, H, I, rfl, q⟩
  · obtain ⟨bs, r2⟩ := Dp.reads I (.tuple ds) _ u (.tup hs hds) ry
    exact SeqAt.notIn_tuple_reads r2 r1 cl (SeqAt.canLay_of_shaped sd) (room_in_shaped sd hu) ⟨.bl _, H, I, rfl, q⟩
theorem canAll : ∀ {ds : List D}, (∀ x ∈ ds, plainD x) → PyData.canLayAll0 ds = true
  | [], _ => rfl
  | d :: ds, h => by
    show (d.canLay0 && PyData.canLayAll0 ds) = true
    rw [Bool.and_eq_true]
    exact ⟨SeqAt.canLay_of_shaped (h d List.mem_cons_self), canAll fun x hx => h x (List.mem_cons_of_mem _ hx)⟩
theorem in_imp {neg : Bool} {o : P2} (hd : ∀ a b w, d2 o a b w → isSeq b ∧ plainD a ∧ ∀ x ∈ its b, plainD x) (hv : ∀ a b w, v2 o a b w = .bool (if neg then !inD a (its b) else inD a (its b))) (hw : ∀ a b w, w2 o a b w = w)
    (x y : V) (H : Hp) (Q : VK) (h : rP2 X.K T o x y H Q) : rInS X.K neg x y H Q := by
  obtain ⟨⟨_, H0, P0, α0, _⟩, α, P, O, ρ, w, σ, a, b, rfl, rfl, sr, ra, rb, hdd, out⟩ := h
  obtain ⟨h1, h2, h3⟩ := hd _ _ _ hdd
  rw [hv, hw] at out
  have ca := canAll h3
  rcases h1 with ⟨ds, rfl⟩ | ⟨ds, rfl⟩
  · obtain ⟨l, vs, e, s, z, r⟩ := sr.lookT rb
    exact ⟨a, ds, l, vs, e, .inr s, RB.dp sr rfl (SeqAt.canLay_of_shaped h2) ra, Reps.dp sr.pH _ _ ca r, ca, h2, out.here sr (show Rep _ _ _ (.bool _) _ from rfl) (fun _ z => nomatch z)⟩
  · obtain ⟨l, vs, e, s, z, r⟩ := sr.look rb
    exact ⟨a, ds, l, vs, e, .inl s, RB.dp sr rfl (SeqAt.canLay_of_shaped h2) ra, Reps.dp sr.pH _ _ ca r, ca, h2, out.here sr (show Rep _ _ _ (.bool _) _ from rfl) (fun _ z => nomatch z)⟩
theorem p2_in (hu : X.A.units + 65 < cLine) : OpR X (compareOp .In) (rP2 X.K T .inn) := OpR.imp (op_inS hu) (in_imp (neg := false) (fun _ _ _ h => h) (fun _ _ _ => rfl) (fun _ _ _ => rfl))
theorem p2_notin (hu : X.A.units + 65 < cLine) : OpR X (compareOp .NotIn) (rP2 X.K T .notin) := OpR.imp (op_notInS hu) (in_imp (neg := true) (fun _ _ _ h => h) (fun _ _ _ => rfl) (fun _ _ _ => rfl))
end
end Ev

/-! Ev7: places, slices, built-in functions of values. -/
namespace Ev
open PySem PySem.Spec PyProof.Rows L2

section
variable {K : PySem.W.Frag} {α : List Addr} {P : Hp}
theorem Reps.ixN {ds : List D} {vs : List V} (r : Reps K α P ds vs) {i : Int} {d : D} (h : L2.atI ds i = some d) : ∃ v, L2.atI vs i = some v ∧ Rep K α P d v := by
  unfold L2.atI at h ⊢
  rw [r.length]
  cases e : L2.ixN ds.length i with
  | none => rw [e] at h; cases h
  | some j =>
    rw [e] at h
    exact r.get h
theorem Reps.bools {ds : List D} {vs : List V} (r : Reps K α P ds vs) (h : boolsD ds) : vs = (ds.map tr).map V.bl := by
  induction ds generalizing vs with
  | nil => exact r
  | cons d ds ih =>
    obtain ⟨v, r1, e, h1, h2⟩ := r
    obtain ⟨b, rfl⟩ := h d List.mem_cons_self
    rw [e, ih h2 fun x hx => h x (List.mem_cons_of_mem _ hx), show v = .bl b from h1]
    rfl
theorem Reps.ints {ds : List D} {vs : List V} (r : Reps K α P ds vs) (h : intsD ds) : vs = (dInts ds).map V.int := by
  induction ds generalizing vs with
  | nil => exact r
  | cons d ds ih =>
    obtain ⟨v, r1, e, h1, h2⟩ := r
    obtain ⟨b, rfl⟩ := h d List.mem_cons_self
    rw [e, ih h2 fun x hx => h x (List.mem_cons_of_mem _ hx), show v = .int b from h1]
    rfl
theorem reps_ints (ns : List Int) : Reps K α P (ns.map .int) (ns.map V.int) := by
  induction ns with
  | nil => exact rfl
  | cons n ns ih => exact ⟨.int n, ns.map V.int, rfl, rfl, ih⟩
theorem all_map_tr (ds : List D) : (ds.map tr).all id = ds.all tr := by induction ds with
  | nil => rfl
  | cons d ds ih => simp [List.all_cons]
theorem any_map_tr (ds : List D) : (ds.map tr).any id = ds.any tr := by induction ds with
  | nil => rfl
  | cons d ds ih => simp [List.any_cons]
theorem intsD_ne {ds : List D} (h : ds ≠ []) : 0 < (dInts ds).length := by
  cases ds with
  | nil => exact absurd rfl h
  | cons d ds => exact Nat.succ_pos _
theorem maxI_is : ∀ {ns : List Int} {m : Int}, m ∈ ns → (∀ y ∈ ns, y ≤ m) → maxI ns = m := by
  intro ns
  induction ns with
  | nil => intro m h _; cases h
  | cons n ns ih =>
    intro m hm hb
    cases ns with
    | nil =>
      rw [List.mem_singleton] at hm
      rw [hm]; rfl
    | cons k ns =>
      show max n (maxI (k :: ns)) = m
      have hx : ∃ x ∈ (k :: ns), ∀ y ∈ (k :: ns), y ≤ x := by
        clear ih hm hb
        induction ns generalizing k with
        | nil => exact ⟨k, List.mem_cons_self, fun y hy => by rw [List.mem_singleton] at hy; omega⟩
        | cons l ns ih =>
          obtain ⟨x, hx, hb⟩ := ih l
          by_cases q : x ≤ k
          · exact ⟨k, List.mem_cons_self, fun y hy => by
              rcases List.mem_cons.mp hy with e | hy
              · omega
              · have := hb y hy; omega⟩
          · exact ⟨x, List.mem_cons_of_mem _ hx, fun y hy => by
              rcases List.mem_cons.mp hy with e | hy
              · omega
              · exact hb y hy⟩
      obtain ⟨x, hx, hxb⟩ := hx
      rw [ih hx hxb]
      have h1 := hb x (List.mem_cons_of_mem _ hx)
      have h2 := hb n List.mem_cons_self
      rcases List.mem_cons.mp hm with e | hm
      · omega
      · have := hxb m hm; omega
theorem minI_is : ∀ {ns : List Int} {m : Int}, m ∈ ns → (∀ y ∈ ns, m ≤ y) → minI ns = m := by
  intro ns
  induction ns with
  | nil => intro m h _; cases h
  | cons n ns ih =>
    intro m hm hb
    cases ns with
    | nil =>
      rw [List.mem_singleton] at hm
      rw [hm]; rfl
    | cons k ns =>
      show min n (minI (k :: ns)) = m
      have hx : ∃ x ∈ (k :: ns), ∀ y ∈ (k :: ns), x ≤ y := by
        clear ih hm hb
        induction ns generalizing k with
        | nil => exact ⟨k, List.mem_cons_self, fun y hy => by rw [List.mem_singleton] at hy; omega⟩
        | cons l ns ih =>
          obtain ⟨x, hx, hb⟩ := ih l
          by_cases q : k ≤ x
          · exact ⟨k, List.mem_cons_self, fun y hy => by
              rcases List.mem_cons.mp hy with e | hy
              · omega
              · have := hb y hy; omega⟩
          · exact ⟨x, List.mem_cons_of_mem _ hx, fun y hy => by
              rcases List.mem_cons.mp hy with e | hy
              · omega
              · exact hb y hy⟩
      obtain ⟨x, hx, hxb⟩ := hx
      rw [ih hx hxb]
      have h1 := hb x (List.mem_cons_of_mem _ hx)
      have h2 := hb n List.mem_cons_self
      rcases List.mem_cons.mp hm with e | hm
      · omega
      · have := hxb m hm; omega
end

section
variable {X : Cx} {T : List (Addr × Str)}
theorem ixD_str {z : Str} {i : Int} {c : Nat} {w : W} (h : L2.atI z.cps.toList i = some c) : ixD (.str z) i w = .str ⟨#[c]⟩ := by
  show (match L2.atI z.cps.toList i with
    | some c => PyData.str ⟨#[c]⟩
    | Option.none => .none) = _
  rw [h]
theorem p2_ix : IxR X (rP2 X.K T .ix) := by
  refine IxR.imp ix_seq fun x y H Q h => ?_
  obtain ⟨⟨_, H0, P0, α0, _⟩, α, P, O, ρ, w, σ, a, b, rfl, rfl, sr, ra, rb, hd, o⟩ := h
  obtain ⟨i, rfl, hd⟩ := hd
  rcases hd with ⟨z, rfl, hz⟩ | ⟨hs, hz⟩
  · obtain ⟨c, hc⟩ := Option.isSome_iff_exists.mp hz
    obtain ⟨e1, z1⟩ := ra.str
    refine .inr (.inr ⟨z, i, c, e1, rb.int, z1, hc, o.here sr ?_ ?_⟩)
    · show Rep _ _ _ (ixD (.str z) i w) _
      rw [ixD_str hc]
      exact ⟨rfl, by show 1 ≤ sizeLine; decide⟩
    · intro ds q
      have q : ixD (.str z) i w = .list ds := q
      rw [ixD_str hc] at q
      cases q
  · obtain ⟨d, hdd⟩ := Option.isSome_iff_exists.mp hz
    have hv : v2 .ix a (.int i) w = d := by
      show ixD a i w = d
      unfold ixD
      split
      · rename_i z
        rcases hs with (⟨_, e⟩ | ⟨_, e⟩) | ⟨n, xs, e, _⟩ <;> cases e
      · rw [hdd]; rfl
    rw [hv] at o
    rcases hs with (⟨ds, rfl⟩ | ⟨ds, rfl⟩) | ⟨n, xs, rfl, hn⟩
    · obtain ⟨l, vs, e, s, z, r⟩ := sr.lookT ra
      obtain ⟨v, hv, rv⟩ := r.ixN hdd
      exact .inr (.inl ⟨l, vs, i, v, e, rb.int, s, hv, o.pl sr rv⟩)
    · obtain ⟨l, vs, e, s, z, r⟩ := sr.look ra
      obtain ⟨v, hv, rv⟩ := r.ixN hdd
      exact .inl ⟨l, vs, i, v, e, rb.int, s, hv, o.pl sr rv⟩
    · obtain ⟨l, vs, e, _, s, z, r⟩ := sr.lookR ra hn
      rw [itsW_rf, wlst_of hn] at hdd
      obtain ⟨v, hv, rv⟩ := r.ixN hdd
      exact .inl ⟨l, vs, i, v, e, rb.int, .inl (.inl s), hv, o.pl sr rv⟩

/-! ### slices -/
def rSl (K : PySem.W.Frag) (T : List (Addr × Str)) : V → Option Int → Option Int → Hp → VK → Prop := fun x lo hi H Q => ∃ F α P O ρ w σ a, F.K = K ∧ F.T = T ∧ SR F α P O ρ w σ H ∧ RB K α P O a x ∧ slcOk a ∧ Out F α P O ρ σ .fr (slcD a lo hi) w Q
theorem SlRimp {X : Cx} {r r' : V → Option Int → Option Int → Hp → VK → Prop} (h : SlR X r) (i : ∀ x lo hi H Q, r' x lo hi H Q → r x lo hi H Q) : SlR X r' :=
  fun pins s σ H x v vl vu lo hi sl Q I rx hs pl pu q => h pins s σ H x v vl vu lo hi sl Q I rx hs pl pu (i _ _ _ _ _ q)
theorem cutD_len (ds : List D) (lo hi : Option Int) : (cutD ds lo hi).length ≤ ds.length := by
  unfold cutD
  rw [List.length_take, List.length_drop]
  omega
theorem Reps.cut {K : PySem.W.Frag} {α : List Addr} {P : Hp} {ds : List D} {vs : List V} (r : Reps K α P ds vs) (lo hi : Option Int) : Reps K α P (cutD ds lo hi) (cutV vs lo hi) := by
  unfold cutD cutV
  rw [r.length]
  exact (r.drop _).take _
theorem sl_ok : SlR X (rSl X.K T) := by
  refine SlRimp (SlR.or sl_tupA (SlR.or sl_list sl_str)) fun x lo hi H Q h => ?_
  obtain ⟨⟨_, H0, P0, α0, _⟩, α, P, O, ρ, w, σ, a, rfl, rfl, sr, ra, hd, o⟩ := h
  rcases hd with ⟨z, rfl⟩ | ⟨ds, rfl⟩ | ⟨ds, rfl⟩
  · obtain ⟨e1, z1⟩ := ra.str
    exact .inr (.inr ⟨z, e1, z1, o.here sr (show Rep _ _ _ (.str (cutS z lo hi)) _ from ⟨rfl, Nat.le_trans (cutS_length z lo hi) z1⟩) (fun _ z => nomatch z)⟩)
  · obtain ⟨l, vs, e, s, z, r⟩ := sr.lookT ra
    have hl := r.length
    have h1 := cutD_len ds lo hi
    refine .inl ⟨l, vs, e, s, fun hw => ?_, fun _ => o.newT (ds := cutD ds lo hi) sr (by omega) (r.cut lo hi)⟩
    have ec : cutD ds lo hi = ds := by
      unfold cutD
      rw [hl] at hw
      rw [hw.1, hw.2]
      simp
    have rr : Rep X.K α P (.tuple ds) (.ref l) := by
      rcases ra with rb | ⟨_, _, _, q, _⟩
      · rw [← e]; exact rb
      · cases q
    refine o.here sr (d := .tuple (cutD ds lo hi)) ?_ (fun _ z => nomatch z)
    rw [ec]
    exact rr
  · obtain ⟨l, vs, e, s, z, r⟩ := sr.look ra
    have hl := r.length
    have h1 := cutD_len ds lo hi
    exact .inr (.inl ⟨l, vs, e, s, o.newL (ds := cutD ds lo hi) sr (by omega) (r.cut lo hi)⟩)

/-! ### built-in functions -/
def rC1 (K : PySem.W.Frag) (T : List (Addr × Str)) (o : P1) : List V → Hp → VK → Prop
  | [x], H, Q => rP1 K T o x H Q
  | _, _, _ => False
def rC2 (K : PySem.W.Frag) (T : List (Addr × Str)) (o : P2) : List V → Hp → VK → Prop
  | [x, y], H, Q => rP2 K T o x y H Q
  | _, _, _ => False
theorem rC1_ex {K : PySem.W.Frag} {T : List (Addr × Str)} {o : P1} : ∀ {xs : List V} {H : Hp} {Q : VK}, rC1 K T o xs H Q → ∃ x, xs = [x] ∧ rP1 K T o x H Q
  | [x], _, _, h => ⟨x, rfl, h⟩
  | [], _, _, h => h.elim
  | _ :: _ :: _, _, _, h => h.elim
theorem rC2_ex {K : PySem.W.Frag} {T : List (Addr × Str)} {o : P2} : ∀ {xs : List V} {H : Hp} {Q : VK}, rC2 K T o xs H Q → ∃ x y, xs = [x, y] ∧ rP2 K T o x y H Q
  | [x, y], _, _, h => ⟨x, y, rfl, h⟩
  | [], _, _, h => h.elim
  | [_], _, _, h => h.elim
  | _ :: _ :: _ :: _, _, _, h => h.elim
theorem p1_neg : UnR X (unaryOp .USub) (rP1 X.K T .neg) := by
  refine UnR.imp un_neg fun x H Q h => ?_
  obtain ⟨⟨_, H0, P0, α0, _⟩, α, P, O, ρ, w, σ, a, rfl, rfl, sr, ra, ⟨i, rfl⟩, o⟩ := h
  exact ⟨i, ra.int, o.here sr (show Rep _ _ _ (.int (-i)) _ from rfl) (fun _ z => nomatch z)⟩
theorem p1_len : CallR X (.builtin "len") (rC1 X.K T .len) := by
  refine CallR.imp call_len fun xs H Q h => ?_
  obtain ⟨x, rfl, ⟨_, H0, P0, α0, _⟩, α, P, O, ρ, w, σ, a, rfl, rfl, sr, ra, hd, o⟩ := rC1_ex h
  have fin : ∀ {n : Nat}, lenD a w = n → Q (.int n) H := fun {n} e => by
    refine o.here sr (d := .int (lenD a w)) ?_ (fun _ z => nomatch z)
    rw [e]; rfl
  rcases hd with ⟨z, rfl⟩ | (⟨ds, rfl⟩ | ⟨ds, rfl⟩) | ⟨n, ds, rfl, hn⟩
  · obtain ⟨e1, z1⟩ := ra.str
    exact ⟨x, z.length, rfl, by rw [e1]; exact ⟨z1, rfl⟩, fin rfl⟩
  · obtain ⟨l, vs, e, s, z, r⟩ := sr.lookT ra
    exact ⟨x, ds.length, rfl, by rw [e]; exact .inr ⟨vs, s, r.length.symm⟩, fin rfl⟩
  · obtain ⟨l, vs, e, s, z, r⟩ := sr.look ra
    exact ⟨x, ds.length, rfl, by rw [e]; exact .inl ⟨vs, s, r.length.symm⟩, fin rfl⟩
  · obtain ⟨l, vs, e, _, s, z, r⟩ := sr.lookR ra hn
    refine ⟨x, ds.length, rfl, by rw [e]; exact .inl ⟨vs, .inl (.inl s), r.length.symm⟩, fin ?_⟩
    show (itsW (rf n) w).length = ds.length
    rw [itsW_rf, wlst_of hn]
theorem p1_all (hc : X.calm = true) : CallR X (.builtin "all") (rC1 X.K T .all) := by
  refine CallR.imp (cr_all hc) fun xs H Q h => ?_
  obtain ⟨x, rfl, ⟨_, H0, P0, α0, _⟩, α, P, O, ρ, w, σ, a, rfl, rfl, sr, ra, ⟨ds, rfl, hb⟩, o⟩ := rC1_ex h
  obtain ⟨l, vs, rfl, s, z, r⟩ := sr.look ra
  refine ⟨l, ds.map tr, rfl, by rw [← r.bools hb]; exact s, ?_⟩
  rw [all_map_tr]
  exact o.here sr (show Rep _ _ _ (.bool (ds.all tr)) _ from rfl) (fun _ z => nomatch z)
theorem p1_any (hc : X.calm = true) : CallR X (.builtin "any") (rC1 X.K T .any) := by
  refine CallR.imp (cr_any hc) fun xs H Q h => ?_
  obtain ⟨x, rfl, ⟨_, H0, P0, α0, _⟩, α, P, O, ρ, w, σ, a, rfl, rfl, sr, ra, ⟨ds, rfl, hb⟩, o⟩ := rC1_ex h
  obtain ⟨l, vs, rfl, s, z, r⟩ := sr.look ra
  refine ⟨l, ds.map tr, rfl, by rw [← r.bools hb]; exact s, ?_⟩
  rw [any_map_tr]
  exact o.here sr (show Rep _ _ _ (.bool (ds.any tr)) _ from rfl) (fun _ z => nomatch z)
theorem p1_sum (hc : X.calm = true) : CallR X (.builtin "sum") (rC1 X.K T .sum) := by
  refine CallR.imp (cr_sum hc) fun xs H Q h => ?_
  obtain ⟨x, rfl, ⟨_, H0, P0, α0, _⟩, α, P, O, ρ, w, σ, a, rfl, rfl, sr, ra, ⟨ds, rfl, hb⟩, o⟩ := rC1_ex h
  obtain ⟨l, vs, rfl, s, z, r⟩ := sr.look ra
  exact ⟨l, dInts ds, rfl, by rw [← r.ints hb]; exact s, o.here sr (show Rep _ _ _ (.int (dInts ds).sum) _ from rfl) (fun _ z => nomatch z)⟩
theorem p1_max (hc : X.calm = true) : CallR X (.builtin "max") (rC1 X.K T .max1) := by
  refine CallR.imp (cr_max hc) fun xs H Q h => ?_
  obtain ⟨x, rfl, ⟨_, H0, P0, α0, _⟩, α, P, O, ρ, w, σ, a, rfl, rfl, sr, ra, ⟨ds, rfl, hb, hn⟩, o⟩ := rC1_ex h
  obtain ⟨l, vs, rfl, s, z, r⟩ := sr.look ra
  refine ⟨l, dInts ds, rfl, by rw [← r.ints hb]; exact s, intsD_ne hn, fun m h1 h2 => o.here sr (d := .int (maxI (dInts ds))) ?_ (fun _ z => nomatch z)⟩
  rw [maxI_is h1 h2]; rfl
theorem p1_min (hc : X.calm = true) : CallR X (.builtin "min") (rC1 X.K T .min1) := by
  refine CallR.imp (cr_min hc) fun xs H Q h => ?_
  obtain ⟨x, rfl, ⟨_, H0, P0, α0, _⟩, α, P, O, ρ, w, σ, a, rfl, rfl, sr, ra, ⟨ds, rfl, hb, hn⟩, o⟩ := rC1_ex h
  obtain ⟨l, vs, rfl, s, z, r⟩ := sr.look ra
  refine ⟨l, dInts ds, rfl, by rw [← r.ints hb]; exact s, intsD_ne hn, fun m h1 h2 => o.here sr (d := .int (minI (dInts ds))) ?_ (fun _ z => nomatch z)⟩
  rw [minI_is h1 h2]; rfl
theorem p1_abs : CallR X (.builtin "abs") (rC1 X.K T .abs) := by
  refine CallR.imp call_abs fun xs H Q h => ?_
  obtain ⟨x, rfl, ⟨_, H0, P0, α0, _⟩, α, P, O, ρ, w, σ, a, rfl, rfl, sr, ra, ⟨i, rfl⟩, o⟩ := rC1_ex h
  exact ⟨i, by rw [ra.int], o.here sr (show Rep _ _ _ (.int (if i < 0 then -i else i)) _ from rfl) (fun _ z => nomatch z)⟩
theorem p1_int : CallR X (.type "int") (rC1 X.K T .int1) := by
  refine CallR.imp call_int1 fun xs H Q h => ?_
  obtain ⟨x, rfl, ⟨_, H0, P0, α0, _⟩, α, P, O, ρ, w, σ, a, rfl, rfl, sr, ra, ⟨i, rfl⟩ | ⟨b, rfl⟩, o⟩ := rC1_ex h
  · exact .inl ⟨i, by rw [ra.int], o.here sr (show Rep _ _ _ (.int i) _ from rfl) (fun _ z => nomatch z)⟩
  · exact .inr ⟨b, by rw [ra.bl], o.here sr (show Rep _ _ _ (.int (if b then 1 else 0)) _ from rfl) (fun _ z => nomatch z)⟩
theorem p1_tup : CallR X (.type "tuple") (rC1 X.K T .tup1) := by
  refine CallR.imp call_tuple_of fun xs H Q h => ?_
  obtain ⟨x, rfl, ⟨_, H0, P0, α0, _⟩, α, P, O, ρ, w, σ, a, rfl, rfl, sr, ra, ⟨ds, rfl⟩ | ⟨ds, rfl⟩, o⟩ := rC1_ex h
  · obtain ⟨l, vs, rfl, s, z, r⟩ := sr.lookT ra
    refine ⟨l, vs, rfl, .inr ⟨s, ?_⟩⟩
    have rr : Rep X.K α P (.tuple ds) (.ref l) := by
      rcases ra with rb | ⟨_, _, _, q, _⟩
      · exact rb
      · cases q
    exact o.here sr (show Rep _ _ _ (.tuple ds) _ from rr) (fun _ z => nomatch z)
  · obtain ⟨l, vs, rfl, s, z, r⟩ := sr.look ra
    exact ⟨l, vs, rfl, .inl ⟨s, o.newT (ds := ds) sr z r⟩⟩
theorem p1_lst : CallR X (.type "list") (rC1 X.K T .lst1) := by
  refine CallR.imp call_list_of fun xs H Q h => ?_
  obtain ⟨x, rfl, ⟨_, H0, P0, α0, _⟩, α, P, O, ρ, w, σ, a, rfl, rfl, sr, ra, ⟨ds, rfl⟩ | ⟨ds, rfl⟩, o⟩ := rC1_ex h
  · obtain ⟨l, vs, rfl, s, z, r⟩ := sr.lookT ra
    exact ⟨l, vs, rfl, .inr s, o.newL (ds := ds) sr z r⟩
  · obtain ⟨l, vs, rfl, s, z, r⟩ := sr.look ra
    exact ⟨l, vs, rfl, .inl s, o.newL (ds := ds) sr z r⟩
theorem p2_max (hc : X.calm = true) : CallR X (.builtin "max") (rC2 X.K T .max2) := by
  refine CallR.imp (call_max2 hc) fun xs H Q h => ?_
  obtain ⟨x, y, rfl, ⟨_, H0, P0, α0, _⟩, α, P, O, ρ, w, σ, a, b, rfl, rfl, sr, ra, rb, ⟨⟨i, rfl⟩, j, rfl⟩, o⟩ := rC2_ex h
  exact ⟨i, j, by rw [ra.int, rb.int], o.here sr (show Rep _ _ _ (.int (if j > i then j else i)) _ from rfl) (fun _ z => nomatch z)⟩
theorem p2_min (hc : X.calm = true) : CallR X (.builtin "min") (rC2 X.K T .min2) := by
  refine CallR.imp (call_min2 hc) fun xs H Q h => ?_
  obtain ⟨x, y, rfl, ⟨_, H0, P0, α0, _⟩, α, P, O, ρ, w, σ, a, b, rfl, rfl, sr, ra, rb, ⟨⟨i, rfl⟩, j, rfl⟩, o⟩ := rC2_ex h
  exact ⟨i, j, by rw [ra.int, rb.int], o.here sr (show Rep _ _ _ (.int (if j < i then j else i)) _ from rfl) (fun _ z => nomatch z)⟩

/-! ### isinstance -/
def tyN : D → String
  | .none => "NoneType"
  | .bool _ => "bool"
  | .int _ => "int"
  | .str _ => "str"
  | .list _ => "list"
  | .tuple _ => "tuple"
  | .dict _ => "list"
theorem tyN_kit (d : D) {t : String} (ht : t ∈ ["int", "bool", "str", "tuple", "list"]) (hn : ∀ kvs, d ≠ .dict kvs) : kitB (tyN d) t = some (tyD t d) := by
  cases d with
  | dict kvs => exact absurd rfl (hn kvs)
  | none => exact (by decide +kernel : ∀ t ∈ ["int", "bool", "str", "tuple", "list"], kitB "NoneType" t = some false) t ht
  | bool b => exact (by decide +kernel : ∀ t ∈ ["int", "bool", "str", "tuple", "list"], kitB "bool" t = some (t == "bool" || t == "int")) t ht
  | int b => exact (by decide +kernel : ∀ t ∈ ["int", "bool", "str", "tuple", "list"], kitB "int" t = some (t == "int")) t ht
  | str b => exact (by decide +kernel : ∀ t ∈ ["int", "bool", "str", "tuple", "list"], kitB "str" t = some (t == "str")) t ht
  | list b => exact (by decide +kernel : ∀ t ∈ ["int", "bool", "str", "tuple", "list"], kitB "list" t = some (t == "list")) t ht
  | tuple b => exact (by decide +kernel : ∀ t ∈ ["int", "bool", "str", "tuple", "list"], kitB "tuple" t = some (t == "tuple")) t ht
theorem tyX_of {F : Fx} {α : List Addr} {P O : Hp} {ρ : En} {w : W} {σ : L2.St} {H : Hp} {d : D} {v : V} (sr : SR F α P O ρ w σ H) (r : RB F.K α P O d v) (hn : ∀ kvs, d ≠ .dict kvs) : TyX F.K H v (.type (tyN d)) := by
  cases d with
  | none => rw [r.non]; exact .base .non
  | bool b => rw [r.bl]; exact .base (.bl b)
  | int b => rw [r.int]; exact .base (.int b)
  | str b => rw [r.str.1]; exact .base (.str b)
  | list ds =>
    obtain ⟨l, vs, rfl, s, z, r⟩ := sr.look r
    rcases s with (s | ⟨o, s⟩) | ⟨o, it, n, s, c, _⟩
    · exact .base (.lst s)
    · exact .base (.frz s)
    · exact .kList s c
  | tuple ds =>
    obtain ⟨l, vs, rfl, s, z, r⟩ := sr.lookT r
    rcases s with (s | ⟨o, s⟩) | ⟨o, it, n, s, c, _⟩
    · exact .base (.tup s)
    · exact .fTuple s
    · exact .kTuple s c
  | dict kvs => exact absurd rfl (hn kvs)
theorem notDict {F : Fx} {α : List Addr} {P O : Hp} {d : D} {v : V} (r : RB F.K α P O d v) (h : rfN d = none) : ∀ kvs, d ≠ .dict kvs := by
  rintro kvs rfl
  rcases r with ⟨n, a, rfl, _⟩ | ⟨ds, _, _, e, _⟩
  · have := rfN_rf n
    rw [show rfN (.dict [(.int ((n : Nat) : Int), .none)]) = some n from this] at h
    cases h
  · cases e
def rCi (K : PySem.W.Frag) (T : List (Addr × Str)) : List V → Hp → VK → Prop
  | [x, .ty t], H, Q => rP1 K T (.isi t) x H Q
  | _, _, _ => False
theorem rCi_ex {K : PySem.W.Frag} {T : List (Addr × Str)} {xs : List V} {H : Hp} {Q : VK} (h : rCi K T xs H Q) : ∃ x t, xs = [x, .ty t] ∧ rP1 K T (.isi t) x H Q := by
  unfold rCi at h
  split at h
  · exact ⟨_, _, rfl, h⟩
  · exact h.elim
theorem p1_isi : CallR X (.builtin "isinstance") (rCi X.K T) := by
  refine CallR.imp call_isi fun xs H Q h => ?_
  have h := rCi_ex h
  obtain ⟨x, t, rfl, ⟨_, H0, P0, α0, _⟩, α, P, O, ρ, w, σ, a, rfl, rfl, sr, ra, ⟨ht, hn⟩, o⟩ := h
  have nd := notDict (F := ⟨X.K, H0, P0, α0, []⟩) ra hn
  exact ⟨x, .ty t, _, _, _, rfl, .ty t, tyX_of sr ra nd, kit_ty (tyN_kit a ht nd), o.here sr (show Rep _ _ _ (.bool (tyD t a)) _ from rfl) (fun _ z => nomatch z)⟩

/-! ### pop of a list in the store -/
theorem ixN_erase {n : Nat} {i : Int} {k : Nat} (h : L2.ixN n i = some k) : seqIndex? i n = some k := (ixN_seq h).1
theorem p2_rpop : MtR X "list.pop" (fun x xs H Q => rC2 X.K T .rpop (x :: xs) H Q) := by
  intro pins s σ' H x xs v us Q I rx rxs h
  refine mt_popAt pins s σ' H x xs v us Q I rx rxs ?_
  have h : ∃ y, xs = [y] ∧ rP2 X.K T .rpop x y H Q := by
    obtain ⟨x', y, e, h⟩ := rC2_ex h
    cases e
    exact ⟨y, rfl, h⟩
  obtain ⟨y, rfl, ⟨_, H0, P0, α0, _⟩, α, P, O, ρ, w, σ, a, b, rfl, rfl, sr, ra, rb, ⟨⟨n, ds, rfl, hn⟩, i, rfl, h1, h2, h3⟩, o⟩ := h
  obtain ⟨l, vs, rfl, hα, s, z, r⟩ := sr.lookR ra hn
  have ei : itsW (rf n) w = ds := by rw [itsW_rf, wlst_of hn]
  rw [ei] at h3
  obtain ⟨k, hk⟩ := Option.isSome_iff_exists.mp h3
  have hl := r.length
  obtain ⟨hs, hkl, _, _⟩ := ixN_seq hk
  obtain ⟨vk, hvk, rk⟩ := r.get (List.getElem?_eq_getElem hkl)
  refine ⟨l, vs, i, k, vk, rfl, by rw [rb.int], s, h1, h2, by rw [hl]; exact hs, hvk, ?_⟩
  have hw : w2 .rpop (rf n) (.int i) w = w.set n (.lst (ds.eraseIdx k)) := by
    simp only [w2, rfN_rf, ei, toI, hk]
  have hv : v2 .rpop (rf n) (.int i) w = ds[k] := by
    show (L2.atI (itsW (rf n) w) i).getD .none = _
    rw [ei]
    unfold L2.atI
    rw [hk]
    show (ds[k]?).getD .none = _
    rw [List.getElem?_eq_getElem hkl]; rfl
  rw [hw, hv] at o
  exact o α P _ _ (Pre.refl _) (Sub.refl _) (sr.putW hα (by rw [List.length_eraseIdx]; split <;> omega) (r.erase k)) rk
end
end Ev

/-! Ev19: sorting tuples, the empty one too. -/
namespace Ev
open PySem PySem.Spec PySem.W PySem.Calls PySem.SeqAt PyProof.Rows L2

section
variable {prog : Program} {w : World} {A : Around} {E : Value → Shared → Prop} {s : Shared}
theorem call_tupLt {Q : Value → Shared → Prop} {l b : Addr} {xs ys : Array Value} {e r : Nat → Bool} (hl : s.heap.IsTuple l xs) (hb : s.heap.IsTuple b ys)
    (he : ∀ j (h1 : j < xs.size) (h2 : j < ys.size), EqAt A.in1 s xs[j] ys[j] (e j)) (hr : ∀ j (h1 : j < xs.size) (h2 : j < ys.size), e j = false → RcLt A.in1 s xs[j] ys[j] (r j))
    (h : Q (.bool (firstLt e r (decide (xs.size < ys.size)) (List.range (min xs.size ys.size)))) s) : wpAny (model prog w) A (call (.builtin "tuple.__lt__") [.ref l, .ref b]) Q E s := by
  obtain ⟨⟨c1, d1, dt1, sl1⟩, o1, q1, n1, t1⟩ := id hl
  obtain ⟨⟨c2, d2, dt2, sl2⟩, o2, q2, n2, t2⟩ := id hb
  simp only at q1 t1 q2 t2
  subst q1 t1 q2 t2
  exact call_meets PySem.F.slot_tuple_lt ⟨_, o1, rfl⟩ PySem.F.entry_tuple_lt (PySem.F.args_tuple_lt_2 _ _) (tuple_ltAt l b xs ys n1 n2 d1 d2 sl1 sl2 e r) ⟨o1, o2, he, hr, h⟩
theorem oneLt_tup {xs ys : List PyData} {a b : Value} {as bs : List Addr} {Q : Bool → Shared → Prop} (ra : Reads s.heap a (.tuple xs) as) (rb : Reads s.heap b (.tuple ys) bs) (hal : alike (.tuple xs) (.tuple ys) = true)
    (hu : A.units + min (PyData.tuple xs).depth (PyData.tuple ys).depth < cLine) (hq : Q (dataLt (.tuple xs) (.tuple ys)) s) : wpAny (model prog w) A (oneLt' true a b) Q E s := by
  have hal : alikeAll xs ys = true := by simpa [alike] using hal
  cases ra with
  | @tuple l o vs n _ _ h1 h2 h3 h4 =>
    cases rb with
    | @tuple l' o' vs' n' _ _ k1 k2 k3 k4 =>
      have z1 : vs.size = xs.length := by simpa using SeqAt.ReadsAll.length _ _ _ h4
      have z2 : vs'.size = ys.length := by simpa using SeqAt.ReadsAll.length _ _ _ k4
      rw [dataLt_tuple, ← firstLt_toks xs ys hal, ← z1, ← z2] at hq
      rw [oneLt'_eq]
      simp only [if_true]
      refine wpAny_bind (wpAny_cRoomFor (room_here hu) ?_)
      refine wpAny_bind (wpAny_callSpecialIfBound?_slot (T := "tuple") ⟨_, h1, h2⟩ PySem.F.slot_tuple_lt (call_tupLt (e := pairEq xs ys) (r := fun j => dataLt (xs.getD j .none) (ys.getD j .none)) ⟨_, h1, h2, _, h3⟩ ⟨_, k1, k2, _, k3⟩ (fun j j1 j2 => ?_) (fun j j1 j2 hj => ?_) (wpAny_truthy_bool hq)))
      · have q := eqAt_alikeAll xs ys A.in1 s vs.toList vs'.toList _ _ h4 k4 hal (room_in hu) j (by simpa using j1) (by simpa using j2)
        simpa using q
      · have q := rcLt_alikeAll xs ys A.in1 s vs.toList vs'.toList _ _ h4 k4 hal (room_in hu) j (by simpa using j1) (by simpa using j2) hj
        simpa using q
/-- is it a tuple with something in it -/
def neT : PyData → Bool
  | .tuple (_ :: _) => true
  | _ => false
theorem firsts_go {M : Model} : ∀ {vs : List Value} {ds : List PyData}, EachIs (fun v d => ∃ as, Reads s.heap v d as) vs ds → (∀ d ∈ ds, ∃ xs, d = .tuple xs) →
    ∃ fs : List (Option Value), fs.map Option.isSome = ds.map neT ∧ ∀ Q : List (Option Value) → Shared → Prop, Q fs s → wpAny M A (vs.mapM firstOfTuple') Q E s
  | _, _, .nil, _ => ⟨[], rfl, fun Q q => by rw [List.mapM_nil]; exact wpAny_pure q⟩
  | _, _, .cons (a := v) (b := d) (as := vs) ⟨as, r⟩ t, ht => by
    obtain ⟨fs, h1, h2⟩ := firsts_go (M := M) t fun d hd => ht d (List.mem_cons_of_mem _ hd)
    obtain ⟨xs, rfl⟩ := ht _ List.mem_cons_self
    have rr := r
    cases r with
    | @tuple l o us n _ _ g1 g2 g3 g4 =>
      refine ⟨us[0]? :: fs, ?_, fun Q q => ?_⟩
      · rw [List.map_cons, List.map_cons, h1]
        congr 1
        have z := SeqAt.ReadsAll.length _ _ _ g4
        rw [Array.length_toList] at z
        cases xs with
        | nil =>
          have z : us.size = 0 := z
          show us[0]?.isSome = false
          rw [Array.getElem?_eq_none (by omega)]
          rfl
        | cons x xs =>
          have z : us.size = xs.length + 1 := z
          show us[0]?.isSome = true
          rw [Array.getElem?_eq_getElem (by omega)]
          rfl
      · rw [List.mapM_cons]
        refine wpAny_bind ?_
        rw [kas_first_eq]
        refine wpAny_bind ((looks_reads rr).here ?_)
        rw [show dataType (.tuple xs) = Value.type "tuple" from rfl, if_neg (show ¬ ((Value.type "tuple" != Value.type "tuple") = true) by decide)]
        refine wpAny_bind (listItems_at g1 g3 (wpAny_pure ?_))
        exact wpAny_bind (h2 _ (wpAny_pure q))
theorem sortsTup {vs : List Value} {ds : List PyData} (e : EachIs (fun v d => ∃ as, Reads s.heap v d as) vs ds) (hal : AllAlike ds) (ht : ∀ d ∈ ds, ∃ xs, d = .tuple xs) (hu : ∀ d, d ∈ ds → A.units + d.depth < cLine) : SortsAt prog w A s (dataKind s.heap ds) vs := by
  by_cases hne : ∀ d ∈ ds, neT d = true
  · refine SortsAt.data e hal (.inl fun d hd => ?_) hu
    obtain ⟨xs, rfl⟩ := ht d hd
    cases xs with
    | nil => exact absurd (hne _ hd) (by simp [neT])
    | cons x xs => exact ⟨x, xs, rfl⟩
  have room : ∀ {d d' : PyData}, d ∈ ds → A.units + min d.depth d'.depth < cLine := fun {d d'} hd => Nat.lt_of_le_of_lt (Nat.add_le_add_left (Nat.min_le_left _ _) _) (hu d hd)
  refine ⟨fun v hv => ?_, if (ds.head?.map neT) = some true then general' else oneType', ?_, fun h2 E' Q hq => ?_⟩
  · obtain ⟨d, hd, as, r⟩ := e.left v hv
    exact ⟨_, dataKind_some hal hd r⟩
  · intro E' x y a b Q ha hb hq
    obtain ⟨d, as, hd, ra, rfl⟩ := dataKind_inv ha
    obtain ⟨d', as', hd', rb, rfl⟩ := dataKind_inv hb
    obtain ⟨xs, rfl⟩ := ht d hd
    obtain ⟨ys, rfl⟩ := ht d' hd'
    split
    · show wpAny _ _ (oneLt' false x y) _ _ _
      exact oneLt_alike (fun z => nomatch z) ra rb (hal _ hd _ hd') (fun z => nomatch z) (room hd) hq
    · rw [keyLt'_oneType]
      exact oneLt_tup ra rb (hal _ hd _ hd') (room hd) hq
  · obtain ⟨fs, f1, f2⟩ := firsts_go (A := A) (E := E') (M := model prog w) e ht
    have hnot : ¬ (fs.toArray.all fun x => x.isSome) = true := fun z => hne fun d hd => by
      have z : (fs.map Option.isSome).all id = true := by
        rw [List.all_map]
        simpa using z
      rw [f1, List.all_map, List.all_eq_true] at z
      exact z d hd
    rw [keyKind'_eq, List.mapM_toArray, map_eq_pure_bind]
    refine wpAny_bind (wpAny_bind (f2 _ (wpAny_pure ?_)))
    rw [if_neg hnot]
    have h0 : (fs.toArray[0]?.bind id).isSome = (ds.head?.map neT == some true) := by
      have : fs.toArray[0]? = fs.head? := by simp [List.head?_eq_getElem?]
      rw [this]
      have q := congrArg List.head? f1
      rw [List.head?_map, List.head?_map] at q
      cases fs with
      | nil =>
        cases ds with
        | nil => rfl
        | cons d ds => simp at q
      | cons f fs =>
        cases ds with
        | nil => simp at q
        | cons d ds =>
          simp at q
          simp [q]
    rw [h0]
    by_cases hh : ds.head?.map neT = some true
    · rw [if_pos hh] at hq
      rw [if_pos (by rw [hh]; rfl)]
      exact wpAny_pure hq
    · rw [if_neg hh] at hq
      rw [if_neg (by simpa using hh), oneTypeOnly'_eq, List.mapM_toArray, map_eq_pure_bind]
      refine wpAny_bind (wpAny_bind (wpAny_bind (kas_mapM (r := Value.type "tuple") _ (fun v hv Q' hq' => ?_) (wpAny_pure ?_))))
      · obtain ⟨d, hd, as, r⟩ := e.left v hv
        obtain ⟨xs, rfl⟩ := ht d hd
        exact (looks_reads r).here hq'
      · have hall : ((vs.map fun _ => Value.type "tuple").toArray.all fun x => x == Value.type "tuple") = true := by simp
        have hz : (vs.map fun _ => Value.type "tuple").toArray[0]? = some (Value.type "tuple") := by
          cases vs with
          | nil => simp at h2
          | cons v vs => simp
        rw [hz]
        simp only [hall, if_true]
        exact wpAny_pure (wpAny_pure hq)
/-- what can be sorted -/
abbrev sortG (ds : List PyData) : Prop := srtG ds
theorem sortsG {vs : List Value} {ds : List PyData} (e : EachIs (fun v d => ∃ as, Reads s.heap v d as) vs ds) (hal : AllAlike ds) (ht : sortG ds) (hu : ∀ d, d ∈ ds → A.units + d.depth < cLine) : SortsAt prog w A s (dataKind s.heap ds) vs := by
  rcases ht with ht | ht
  · exact sortsTup e hal ht hu
  · exact SortsAt.data e hal (.inr ht) hu
/-- sorted(xs) -/
theorem sorted_anyData {l : Addr} {vs : List Value} {ds : List PyData} {R : Value → PyData → Prop} {Q : Value → Shared → Prop} (hl : s.heap.IsList l vs.toArray) (e : EachIs R vs ds) (er : EachIs (fun v d => ∃ as, Reads s.heap v d as) vs ds) (hal : AllAlike ds) (hk : sortG ds) (hL : ds.length ≤ sizeLine)
    (hu : ∀ d, d ∈ ds → A.units + 2 + d.depth < cLine) (h : ∀ out, out.length = ds.length → EachIs R out (ds.mergeSort leK) → Q (.ref (s.heap.objs.size + 1)) { s with heap := sortedAll s.heap vs (List.toArray out) }) :
    wpAny (model prog w) A (call (.builtin "sorted") [.ref l]) Q E s := by
  have er' : EachIs (fun v d => ∃ as, Reads (sortingHeap (copyHeap s.heap vs) (s.heap.objs.size + 1) vs) v d as) vs ds := er.mono fun _ _ ⟨as, r⟩ => ⟨as, PyProof.Rows.Reads.keeps (fun _ _ => sorting_copy_old) r⟩
  refine sorted_vals hl (sortsG (s := { s with heap := sortingHeap (copyHeap s.heap vs) (s.heap.objs.size + 1) vs }) er' hal hk hu) (by rw [e.length]; exact hL) (h _ (by rw [sortVals_length false rfl]; exact e.length) ?_)
  have z := sortVals_data (enc := fun d : PyData => d) (bs := ds) false e (by simpa using er') (by rw [List.map_id']; exact hal)
  rw [List.map_id'] at z
  exact z
end
end Ev

/-! Ev20: sets of a list of ints; sorted sets. -/
namespace Ev
open PySem PySem.Spec PySem.W PySem.Calls PySem.SeqAt PyProof.Rows L2

abbrev eSet (w : World) : Obj := { cls := .type "set", dict := none, data := .set #[] 0 (.fresh 0 0 (!w.params.followText "set-order")) }
section
variable {P : Program} {w : World} {A : Around} {E : Value → Shared → Prop} {s : Shared}
set_option maxHeartbeats 3200000 in
theorem call_setL {l : Addr} {its : Array Value} (ns : List Int) {Q : Value → Shared → Prop} (hh : A.handled = none) (hl : s.heap.IsList l its) (hi : IntsAre its.toList ns) (hb : ns.length + 1 < scanBound)
    (h : ∀ (h' : Heap) (tk c : Nat), SetR w h' s.heap.objs.size (fun j => decide (j ∈ ns)) c → c ≤ ns.length → (∀ b o, s.heap.get? b = some o → h'.get? b = some o) → Q (.ref s.heap.objs.size) { s with heap := h', toks := tk }) :
    wpAny (model P w) A (call (.type "set") [.ref l]) Q E s := by
  have hz : its.size = ns.length := by
    have q := IntsAre.length hi
    rwa [Array.length_toList] at q
  obtain ⟨c0, tl0, hmro⟩ := PySem.F.called_set.mro
  have hmd := PySem.F.called_set.made
  have hsb := PySem.F.called_set.sub
  refine wpAny_call (codeAny_of_tree ?_)
  show wpAny _ _ (callAny (.type "set") _) _ _ _
  refine wpAny_pure ⟨Code.quiet_builtin _ (by decide +kernel), codeAny_builtin PySem.F.entry_type_call ?_⟩
  rw [Around.under_plain (weight_type_call_type "set" [.ref l] []) rfl]
  have a1 := PySem.F.called_set.notType
  have a2 := PySem.F.called_set.canCreate
  have a3 := PySem.F.typeCall_set_1 (.ref l)
  repeat (any_goals (first | assumption | wp_step))
  refine codeAny_mono (code_set_led1 (.ref l) (E := E) (Q₁ := fun ob t => ob = .ref s.heap.objs.size ∧ t = { s with heap := s.heap.push (eSet w) }) ⟨rfl, rfl⟩) fun r t hr => ?_
  cases r with
  | error e => exact hr
  | ok fl =>
    cases fl with
    | next => exact hr.elim
    | brk => exact hr.elim
    | cont => exact hr.elim
    | ret ob =>
      obtain ⟨rfl, rfl⟩ := hr
      have hS : (s.heap.push (eSet w)).get? s.heap.objs.size = some (eSet w) := Heap.get?_push_size _ rfl
      have hT : Shared.TypeIs { s with heap := s.heap.push (eSet w) } (.ref s.heap.objs.size) "set" := ⟨_, hS, rfl⟩
      have b1 := PySem.F.called_set.init.lookup
      have b2 := PySem.F.called_set.init.bind (.ref s.heap.objs.size)
      repeat (any_goals (first | assumption | wp_step))
      refine codeAny_mono (codeAny_call_builtin (R := wants (fun r u => r = .none ∧ ∃ h' tk c, u = { s with heap := h', toks := tk } ∧ SetR w h' s.heap.objs.size (fun j => decide (j ∈ ns)) c ∧ c ≤ ns.length ∧
          (∀ b o, s.heap.get? b = some o → h'.get? b = some o)) E) PySem.F.called_set.init.plain PySem.F.entry_set_init (check_set_init_1 hT ?_)) fun r u hu => ?_
      · obtain ⟨ol, hol, hcl, nl, hdl⟩ := hl
        obtain ⟨oc, od, odt, osl⟩ := ol
        simp only at hcl hdl
        subst hcl; subst hdl
        have hol' : (s.heap.push (eSet w)).get? l = some { cls := .type "list", dict := od, data := .seq its nl, slots := osl } := Heap.get?_push_of_some _ hol
        have c1 := PySem.F.sub_list_set
        have c2 := PySem.F.sub_list_frozenset
        have c3 : (Value.type "list" == Value.type "dict") = false := by decide
        have hl1 : (s.heap.push (eSet w)).IsList l its := ⟨_, hol', rfl, nl, rfl⟩
        unfold Builtin.«set.__init__» noKeywords Builtin.Frozenset.updateFrom
        generalize hPI : pyIter = PI
        wp_walk
        subst hPI
        refine wpAny_pyIter_list hl1 (wpAny_bind (wpAny_runValue ?_))
        have lS : l < s.heap.objs.size := Heap.lt_size hol
        have d1 : A.in1.in1.in1.handled = none := by simp [hh]
        have d2 : l ≠ (s.heap.push (eSet w)).objs.size := by
          rw [Heap.size_push]; exact Nat.ne_of_lt (Nat.lt_succ_of_lt lS)
        have d3 : s.heap.objs.size ∉ [(s.heap.push (eSet w)).objs.size, l] := by
          rw [Heap.size_push, List.mem_cons, List.mem_singleton, not_or]
          exact ⟨Nat.ne_of_lt (Nat.lt_succ_self _), Nat.ne_of_gt lS⟩
        have hv : ∀ (i : Nat) (v : Value), its[i]? = some v → ∃ k t, ns[i]? = some k ∧ v = .int k t := fun i v hv => by
          have hi' : i < ns.length := by rw [← hz]; exact (Array.getElem?_eq_some_iff.mp hv).1
          obtain ⟨t, e⟩ := PyProof.Rows.IntsAre.int_at hi i v (by rw [Array.getElem?_toList]; exact hv)
          refine ⟨ns[i], t, List.getElem?_eq_getElem hi', ?_⟩
          rw [e, List.getD_eq_getElem?_getD, List.getElem?_eq_getElem hi'] <;> rfl
        refine set_update_ints ((Walks.list d1 _ l d2 its).toS) s.heap.objs.size d3 ns hz hb hv (its.size - 0) 0 _ (by omega) (Nat.zero_le _) ⟨⟨_, Heap.get?_push_size _ rfl, rfl, rfl⟩, (hl1.push _)⟩ ?g1 ?g2
        case g1 =>
          have hget : ((s.heap.push (eSet w)).push { cls := .type "list_iterator", data := .fields #[.ref l, .int 0 0] }).get? s.heap.objs.size = some (eSet w) := Heap.get?_push_of_some _ hS
          exact ⟨0, Nat.le_refl 0, setR_new_at hget⟩
        case g2 =>
          intro s' c' hm hc' hS'
          obtain ⟨h', g2, d', tk', os'⟩ := s'
          have eg : g2 = s.gens := hm.gens
          have ed : d' = s.drawn := hm.drawn
          have eo : os' = s.os := hm.os
          subst eg ed eo
          show wpAny _ _ _ _ _ _
          refine wpAny_pure ?_
          show wpAny _ _ (ret Value.none) _ _ _
          rw [hz] at hc'
          refine wpAny_pure ⟨rfl, h', tk', c', rfl, hS', hc', fun b o e => hm.heap b o ?_ (Heap.get?_push_of_some _ (Heap.get?_push_of_some _ e))⟩
          have lb : b < s.heap.objs.size := Heap.lt_size e
          have n2 : b ≠ (s.heap.push (eSet w)).objs.size := by
            rw [Heap.size_push]; exact Nat.ne_of_lt (Nat.lt_succ_of_lt lb)
          simp only [List.mem_cons, List.mem_singleton, List.not_mem_nil, or_false, not_or]
          exact ⟨Nat.ne_of_lt lb, n2⟩
      · cases r with
        | error e => exact hu
        | ok f2 =>
          cases f2 with
          | next => exact hu.elim
          | brk => exact hu.elim
          | cont => exact hu.elim
          | ret r2 =>
            obtain ⟨rfl, h', tk, c, rfl, k1, k2, k3⟩ := hu
            repeat (any_goals (first | assumption | wp_step))
            exact h _ _ _ k1 k2 k3
end
end Ev

set_option maxHeartbeats 2000000
/-! Ev21: sorted sets of tuples. -/
namespace Ev
open PySem PySem.Spec PySem.W PySem.Calls PySem.SeqAt PyProof.Rows L2
section
variable {P : Program} {w : World} {A : Around} {E : Value → Shared → Prop} {s : Shared}
/-- sorted of a set of tuples -/
theorem sorted_setG {a : Addr} {L : List (Addr × List Int)} {es : Array (Int × Value)} {ep : Nat} {t : SetTable} {Q : Value → Shared → Prop} (R : SetTR P w s.heap a L es ep t) (hh : A.handled = none) (hu : A.units + 3 < cLine)
    (hQ : ∀ s' p (out : List Value) (c : Nat) (L' : List (Addr × List Int)), (∀ b o, s.heap.get? b = some o → s'.heap.get? b = some o) → s'.gens = s.gens → s'.os = s.os → s.heap.objs.size ≤ p →
      s'.heap.get? p = some (seqObj "list" out.toArray c) → L'.Perm L → EachIs (fun v d => ∃ q ∈ L, v = Value.ref q.1 ∧ d = PyData.tuple (q.2.map .int)) out ((L'.map fun q => PyData.tuple (q.2.map .int)).mergeSort leK) → Q (.ref p) s') :
    wpAny (model P w) A (call (.builtin "sorted") [.ref a]) Q E s := by
  obtain ⟨o, ho, hex, hd⟩ := R.ob
  have hsz := R.size
  have few := R.few
  refine Calls.call_function_entry kind_sorted plain_sorted entry_sorted (args_sorted1 _) ?_
  unfold Builtin.«sorted»
  refine wpAny_bind (m := checkCount "sorted" 1 1 _) (wpAny_pure (wpAny_bind ?_))
  refine collect_set (A := A.in1) hh ⟨o, ho, hex.1, hd⟩ R.fits (by unfold scanBound; omega) R.tab.ris R.led fun s1 vs k1 hz g1 o1 pm => ?_
  have he : es.toList.map (·.2) = L.map fun q => Value.ref q.1 := by
    rw [R.rows]
    unfold L2.rowsOf
    rw [List.map_map]; rfl
  rw [he] at pm
  have one : ∀ q ∈ L, ∀ r ∈ L, q.1 = r.1 → q = r := fun q hq r hr e => by
    have x1 := R.tup q hq
    rw [e] at x1
    exact Prod.ext e (x1.inj (R.tup r hr))
  have ord : ∀ us : List Value, (∀ v ∈ us, ∃ q ∈ L, v = Value.ref q.1) → ∃ L1 : List (Addr × List Int), us = L1.map (fun q => Value.ref q.1) ∧ ∀ q ∈ L1, q ∈ L := fun us => by
    induction us with
    | nil => exact fun _ => ⟨[], rfl, fun q hq => (by cases hq)⟩
    | cons v us ih =>
      intro hv
      obtain ⟨q, hq, e⟩ := hv v List.mem_cons_self
      obtain ⟨L1, e1, hs⟩ := ih fun u hu => hv u (List.mem_cons_of_mem _ hu)
      exact ⟨q :: L1, by rw [List.map_cons, e, e1], fun r hr => (List.mem_cons.mp hr).elim (fun z => by rw [z]; exact hq) (hs r)⟩
  obtain ⟨L', eL, hs⟩ := ord vs fun v hv => by
    obtain ⟨q, hq, e⟩ := List.mem_map.mp (pm.mem_iff.mp hv)
    exact ⟨q, hq, e.symm⟩
  have pL : L'.Perm L := by
    rw [eL] at pm
    have nL : L.Nodup := L2.nodup_of_map R.nd
    have nr : (L.map fun q => Value.ref q.1).Nodup := List.pairwise_map.mpr (List.Pairwise.imp_of_mem (fun {q r} hq hr hne e => by
      injection e with e
      exact hne (one q hq r hr e)) nL)
    have n1 : L'.Nodup := L2.nodup_of_map (pm.nodup_iff.mpr nr)
    refine (List.perm_ext_iff_of_nodup n1 nL).mpr fun q => ⟨hs q, fun hq => ?_⟩
    obtain ⟨r, hr, e⟩ := List.mem_map.mp (pm.mem_iff.mpr (List.mem_map.mpr ⟨q, hq, rfl⟩))
    injection e with e
    rw [← one r (hs r hr) q hq e]
    exact hr
  have hvl : vs.length < 64 := by rw [eL, List.length_map, pL.length_eq]; exact few
  refine wpAny_bind (wpAny_newList ?_ (by rw [sizeLine_eq]; omega))
  have hoL : (s1.heap.push (seqObj "list" vs.toArray 0)).get? s1.heap.objs.size = some (seqObj "list" vs.toArray 0) := Heap.get?_push_size _ rfl
  have keep : ∀ b u, s.heap.get? b = some u → (sortingHeap (s1.heap.push (seqObj "list" vs.toArray 0)) s1.heap.objs.size vs).get? b = some u := fun b u e => by
    have q := k1 b u e
    exact sortingHeap_old (Nat.ne_of_lt (Heap.lt_size q)) (Heap.get?_push_of_some _ q)
  have rd : ∀ q ∈ L, ∃ as, Reads (sortingHeap (s1.heap.push (seqObj "list" vs.toArray 0)) s1.heap.objs.size vs) (.ref q.1) (.tuple (q.2.map .int)) as := fun q hq => by
    obtain ⟨ob, its, n, x1, x2, x3, x4⟩ := R.tup q hq
    refine ⟨[], .tuple (keep _ _ x1) x2 x3 ?_⟩
    generalize its.toList = us at x4
    generalize q.2 = ks at x4
    induction x4 with
    | nil => exact .nil
    | cons h1 _ ih =>
      obtain ⟨tk, rfl⟩ := Value.isInt_shape h1
      exact .cons (as := []) (.int _ _) ih
  have eR : EachIs (fun v d => ∃ q ∈ L, v = Value.ref q.1 ∧ d = PyData.tuple (q.2.map .int)) vs (L'.map fun q => PyData.tuple (q.2.map .int)) := by
    rw [eL]
    clear eL hvl hoL pm
    have : ∀ M : List (Addr × List Int), (∀ q ∈ M, q ∈ L) → EachIs (fun v d => ∃ q ∈ L, v = Value.ref q.1 ∧ d = PyData.tuple (q.2.map .int)) (M.map fun q => Value.ref q.1) (M.map fun q => PyData.tuple (q.2.map .int)) := fun M hM => by
      induction M with
      | nil => exact .nil
      | cons q M ih => exact .cons ⟨q, hM q List.mem_cons_self, rfl, rfl⟩ (ih fun r hr => hM r (List.mem_cons_of_mem _ hr))
    exact this L' hs
  have er : EachIs (fun v d => ∃ as, Reads (sortingHeap (s1.heap.push (seqObj "list" vs.toArray 0)) s1.heap.objs.size vs) v d as) vs (L'.map fun q => PyData.tuple (q.2.map .int)) := eR.mono fun v d ⟨q, hq, e1, e2⟩ => by
    rw [e1, e2]; exact rd q hq
  have hal : AllAlike (L'.map fun q => PyData.tuple (q.2.map .int)) := fun d hd d' hd' => by
    obtain ⟨q, _, rfl⟩ := List.mem_map.mp hd
    obtain ⟨r, _, rfl⟩ := List.mem_map.mp hd'
    show alike (.tuple _) (.tuple _) = true
    simp only [alike]
    exact alike_ints _ _
  have hdp : ∀ d ∈ (L'.map fun q => PyData.tuple (q.2.map .int)), A.in1.in1.units + d.depth < cLine := fun d hd => by
    obtain ⟨q, _, rfl⟩ := List.mem_map.mp hd
    have : (PyData.tuple (q.2.map .int)).depth ≤ 1 := by
      simp only [PyData.depth]
      rw [depth_ints]
      decide
    show A.units + 1 + 1 + _ < cLine
    omega
  have hk : sortG (L'.map fun q => PyData.tuple (q.2.map .int)) := .inl fun d hd => by
    obtain ⟨q, _, rfl⟩ := List.mem_map.mp hd
    exact ⟨_, rfl⟩
  have SA := sortsG (prog := P) (w := w) (A := A.in1.in1) (s := { s1 with heap := sortingHeap (s1.heap.push (seqObj "list" vs.toArray 0)) s1.heap.objs.size vs }) er hal hk hdp
  have srt := sortVals_data (enc := fun d : PyData => d) false eR (by simpa using er) (by rw [List.map_id']; exact hal)
  rw [List.map_id'] at srt
  refine wpAny_bind (wpAny_holding (wpAny_call_entry slot_list_sort ⟨_, hoL, rfl⟩ entry_list_sort (list_sort_vals (s := { s1 with heap := s1.heap.push (seqObj "list" vs.toArray 0) }) hoL SA (by rw [sizeLine_eq]; omega) ⟨_, rfl, ?_⟩) (args_list_sort _)))
  obtain ⟨c, hc⟩ := sortedHeap_at (vs := vs) (out := (sortVals (dataKind (sortingHeap (s1.heap.push (seqObj "list" vs.toArray 0)) s1.heap.objs.size vs) (L'.map fun q => PyData.tuple (q.2.map .int))) false vs vs).toArray) hoL
  refine wpAny_pure ⟨_, rfl, hQ _ s1.heap.objs.size _ c L' (fun b u e => ?_) g1 o1 hz hc pL srt⟩
  have q := k1 b u e
  have lt := Heap.lt_size q
  refine (sortedHeap_old (Nat.ne_of_lt lt) (by rw [size_push']; exact Nat.lt_succ_of_lt lt)).trans (Heap.get?_push_of_some _ q)
end
end Ev

/-! Ev22: sorted(xs), sorted(set(xs)). -/
namespace Ev
open PySem PySem.Spec PyProof.Rows L2
open PySem.W (EachIs alike keyToks keyToksAll dataLt)

/-! ### the order -/
theorem leK_total (a b : D) : (leK a b || leK b a) = true := by
  unfold leK ltD dataLt
  cases h : PyProof.Rows.lexLt itemOrd (keyToks b) (keyToks a) with
  | false => rfl
  | true =>
    cases h2 : PyProof.Rows.lexLt itemOrd (keyToks a) (keyToks b) with
    | false => rfl
    | true =>
      have := PyProof.Rows.lex_trans (O := itemOrd) _ _ _ h h2
      rw [PyProof.Rows.lex_irrefl] at this
      cases this
theorem leK_trans (a b c : D) (h1 : leK a b = true) (h2 : leK b c = true) : leK a c = true := by
  unfold leK ltD dataLt at *
  cases h : PyProof.Rows.lexLt itemOrd (keyToks c) (keyToks a) with
  | false => rfl
  | true =>
    rcases PyProof.Rows.lex_negTrans (O := itemOrd) _ (keyToks b) _ h with q | q
    · rw [q] at h2; cases h2
    · rw [q] at h1; cases h1
theorem toksI_inj : ∀ {xs ys : List Int}, keyToksAll (xs.map PyData.int) = keyToksAll (ys.map PyData.int) → xs = ys
  | [], [], _ => rfl
  | [], y :: ys, h => by
    rw [List.map_cons, PySem.W.toks_all_cons] at h
    simp [keyToksAll] at h
  | x :: xs, [], h => by
    rw [List.map_cons, PySem.W.toks_all_cons] at h
    simp [keyToksAll] at h
  | x :: xs, y :: ys, h => by
    rw [List.map_cons, PySem.W.toks_all_cons, List.map_cons, PySem.W.toks_all_cons] at h
    simp only [keyToks, List.cons_append, List.nil_append, List.cons.injEq, Sum.inl.injEq, true_and] at h
    rw [h.1, toksI_inj h.2]
/-- ints, or rows of them: the order tells them apart -/
theorem leK_anti {a b : D} (ha : (∃ i, a = .int i) ∨ rowD a) (hb : (∃ i, b = .int i) ∨ rowD b) (hab : (∃ i, a = .int i) ↔ (∃ i, b = .int i)) (h1 : leK a b = true) (h2 : leK b a = true) : a = b := by
  unfold leK ltD dataLt at h1 h2
  have e := PyProof.Rows.lex_total (O := itemOrd) (keyToks a) (keyToks b) (by simpa using h2) (by simpa using h1)
  rcases ha with ⟨i, rfl⟩ | ⟨is, rfl⟩
  · obtain ⟨j, rfl⟩ := hab.mp ⟨i, rfl⟩
    simp only [keyToks, List.cons.injEq, Sum.inl.injEq, and_true] at e
    rw [e]
  · rcases hb with ⟨j, rfl⟩ | ⟨js, rfl⟩
    · obtain ⟨i, e⟩ := hab.mpr ⟨j, rfl⟩
      cases e
    · simp only [keyToks] at e
      rw [toksI_inj e]
theorem sortD_sorted (l : List D) : (sortD l).Pairwise fun a b => leK a b = true := List.pairwise_mergeSort leK_trans leK_total l
theorem sortD_perm (l : List D) : (sortD l).Perm l := List.mergeSort_perm _ _
/-- one kind of plain key -/
def oneK (l : List D) : Prop := intsD l ∨ ∀ x ∈ l, rowD x
theorem oneK_anti {l : List D} (h : oneK l) {a b : D} (ha : a ∈ l) (hb : b ∈ l) (h1 : leK a b = true) (h2 : leK b a = true) : a = b := by
  rcases h with h | h
  · exact leK_anti (.inl (h a ha)) (.inl (h b hb)) ⟨fun _ => h b hb, fun _ => h a ha⟩ h1 h2
  · refine leK_anti (.inr (h a ha)) (.inr (h b hb)) ⟨fun ⟨i, e⟩ => ?_, fun ⟨i, e⟩ => ?_⟩ h1 h2
    · obtain ⟨ns, q⟩ := h a ha; rw [e] at q; cases q
    · obtain ⟨ns, q⟩ := h b hb; rw [e] at q; cases q
theorem sortD_unique {l m : List D} (h : oneK l) (p : m.Perm l) (s : m.Pairwise fun a b => leK a b = true) : m = sortD l :=
  List.Perm.eq_of_pairwise (le := fun a b => leK a b = true) (fun a b ha hb h1 h2 => oneK_anti h (p.mem_iff.mp ha) ((sortD_perm l).mem_iff.mp hb) h1 h2) s (sortD_sorted l) (p.trans (sortD_perm l).symm)

/-! ### what a set holds -/
theorem eqv_rows : ∀ {xs ys : List Int}, PyData.eqvAll (xs.map PyData.int) (ys.map PyData.int) = decide (xs = ys)
  | [], [] => rfl
  | [], _ :: _ => rfl
  | _ :: _, [] => rfl
  | x :: xs, y :: ys => by
    show (PyData.eqv (.int x) (.int y) && PyData.eqvAll (xs.map PyData.int) (ys.map PyData.int)) = _
    rw [eqv_rows]
    show ((x == y) && _) = _
    by_cases h : x = y <;> by_cases h' : xs = ys <;> simp [h, h']
theorem eqv_one {l : List D} (h : oneK l) {a b : D} (ha : a ∈ l) (hb : b ∈ l) : PyData.eqv a b = true ↔ a = b := by
  rcases h with h | h
  · obtain ⟨i, rfl⟩ := h a ha
    obtain ⟨j, rfl⟩ := h b hb
    show ((i == j) = true) ↔ _
    rw [beq_iff_eq]
    exact ⟨fun z => by rw [z], fun z => by cases z; rfl⟩
  · obtain ⟨i, rfl⟩ := h a ha
    obtain ⟨j, rfl⟩ := h b hb
    show PyData.eqvAll (i.map PyData.int) (j.map PyData.int) = true ↔ _
    rw [eqv_rows, decide_eq_true_eq]
    exact ⟨fun z => by rw [z], fun z => by
      have z := PyData.tuple.inj z
      exact List.map_inj_right (fun x y e => PyData.int.inj e) |>.mp z⟩
theorem dedup_go {l : List D} (h : oneK l) : ∀ (xs acc : List D), (∀ x ∈ xs, x ∈ l) → (∀ x ∈ acc, x ∈ l) → acc.Nodup →
    (xs.foldl (fun acc x => if acc.any (fun y => PyData.eqv y x) then acc else acc ++ [x]) acc).Nodup ∧ ∀ x, x ∈ xs.foldl (fun acc x => if acc.any (fun y => PyData.eqv y x) then acc else acc ++ [x]) acc ↔ x ∈ acc ∨ x ∈ xs
  | [], acc, _, _, n => ⟨n, fun x => by simp⟩
  | x :: xs, acc, hx, ha, n => by
    rw [List.foldl_cons]
    have key : (acc.any fun y => PyData.eqv y x) = true ↔ x ∈ acc := by
      rw [List.any_eq_true]
      exact ⟨fun ⟨y, hy, e⟩ => by rw [← (eqv_one h (ha y hy) (hx x List.mem_cons_self)).mp e]; exact hy, fun hm => ⟨x, hm, (eqv_one h (ha x hm) (ha x hm)).mpr rfl⟩⟩
    by_cases hm : x ∈ acc
    · rw [if_pos (key.mpr hm)]
      obtain ⟨i1, i2⟩ := dedup_go h xs acc (fun y hy => hx y (List.mem_cons_of_mem _ hy)) ha n
      refine ⟨i1, fun y => ?_⟩
      rw [i2, List.mem_cons]
      exact ⟨fun z => z.elim .inl fun z => .inr (.inr z), fun z => z.elim .inl fun z => z.elim (fun e => .inl (by rw [e]; exact hm)) .inr⟩
    · rw [if_neg fun z => hm (key.mp z)]
      obtain ⟨i1, i2⟩ := dedup_go h xs (acc ++ [x]) (fun y hy => hx y (List.mem_cons_of_mem _ hy)) (fun y hy => (List.mem_append.mp hy).elim (ha y) fun z => by rw [List.mem_singleton.mp z]; exact hx x List.mem_cons_self)
        (List.nodup_append.mpr ⟨n, by simp, fun a ha' b hb e => hm (by rw [← List.mem_singleton.mp hb, ← e]; exact ha')⟩)
      refine ⟨i1, fun y => ?_⟩
      rw [i2, List.mem_cons, List.mem_append, List.mem_singleton]
      exact ⟨fun z => z.elim (fun z => z.elim .inl fun e => .inr (.inl e)) fun z => .inr (.inr z), fun z => z.elim (fun z => .inl (.inl z)) fun z => z.elim (fun e => .inl (.inr e)) .inr⟩
theorem dedup_nodup {l : List D} (h : oneK l) : (dedup l).Nodup := (dedup_go h l [] (fun _ z => z) (fun _ z => by cases z) List.nodup_nil).1
theorem mem_dedup {l : List D} (h : oneK l) {x : D} : x ∈ dedup l ↔ x ∈ l := by
  have := (dedup_go h l [] (fun _ z => z) (fun _ z => by cases z) List.nodup_nil).2 x
  exact this.trans ⟨fun z => z.elim (fun z => by cases z) id, .inr⟩
theorem srtS_unique {l m : List D} (h : oneK l) (n : m.Nodup) (hm : ∀ x, x ∈ m ↔ x ∈ l) (s : m.Pairwise fun a b => leK a b = true) : m = sortD (dedup l) := by
  have h' : oneK (dedup l) := h.imp (fun z x hx => z x ((mem_dedup h).mp hx)) fun z x hx => z x ((mem_dedup h).mp hx)
  exact sortD_unique h' ((List.perm_ext_iff_of_nodup n (dedup_nodup h)).mpr fun x => (hm x).trans (mem_dedup h).symm) s
theorem dedup_len (l : List D) : (dedup l).length ≤ l.length := by
  have : ∀ (xs acc : List D), (xs.foldl (fun acc x => if acc.any (fun y => PyData.eqv y x) then acc else acc ++ [x]) acc).length ≤ acc.length + xs.length := fun xs => by
    induction xs with
    | nil => intro acc; exact Nat.le_refl _
    | cons x xs ih =>
      intro acc
      rw [List.foldl_cons]
      refine Nat.le_trans (ih _) ?_
      split
      · rw [List.length_cons]; omega
      · rw [List.length_append, List.length_cons]; simp; omega
  have q := this l []
  rw [List.length_nil, Nat.zero_add] at q
  exact q

/-! ### sorted(xs) -/
theorem dInts_map (ns : List Int) : dInts (ns.map PyData.int) = ns := by
  unfold dInts
  rw [List.map_map]
  exact List.map_id ns
theorem ints_of_D {ds : List D} (h : intsD ds) : ∃ ns : List Int, ds = ns.map PyData.int := by
  induction ds with
  | nil => exact ⟨[], rfl⟩
  | cons d ds ih =>
    obtain ⟨ns, e⟩ := ih fun x hx => h x (List.mem_cons_of_mem _ hx)
    obtain ⟨i, rfl⟩ := h d List.mem_cons_self
    exact ⟨i :: ns, by rw [e]; rfl⟩
theorem reads_of {X : Cx} {pins : List (Addr × Obj)} {σ : L2.St} {H : Hp} {s : Shared} {α : List Addr} {P : Hp} (I : Inv X pins σ H s) (hp : Sub P H) : ∀ {ds : List D} {xs : List V} {vs : List Value}, Reps X.K α P ds xs → Vals xs vs → (∀ d ∈ ds, plainD d) →
    EachIs (fun v d => ∃ x, RelV x v ∧ Rep X.K α P d x) vs ds ∧ EachIs (fun v d => ∃ as, Reads s.heap v d as) vs ds
  | [], xs, vs, r, v, _ => by
    rw [show xs = [] from r] at v
    cases v
    exact ⟨.nil, .nil⟩
  | d :: ds, xs, vs, ⟨x, r, e, h1, h2⟩, v, hd => by
    subst e
    cases v with
    | cons q qs =>
      obtain ⟨a, b⟩ := reads_of I hp h2 qs fun y hy => hd y (List.mem_cons_of_mem _ hy)
      exact ⟨.cons ⟨x, q, h1⟩ a, .cons (Dp.reads I d x _ (Rep.dp hp d x (SeqAt.canLay_of_shaped (hd d List.mem_cons_self)) h1) q) b⟩
theorem reps_of {K : PySem.W.Frag} {α : List Addr} {P : Hp} : ∀ {vs : List Value} {ds : List D}, EachIs (fun v d => ∃ x, RelV x v ∧ Rep K α P d x) vs ds → ∃ xs, Vals xs vs ∧ Reps K α P ds xs
  | _, _, .nil => ⟨[], .nil, rfl⟩
  | _, _, .cons ⟨x, h1, h2⟩ t => by
    obtain ⟨xs, a, b⟩ := reps_of t
    exact ⟨x :: xs, .cons h1 a, x, xs, rfl, h2, b⟩
theorem rows_of {K : PySem.W.Frag} {α : List Addr} {P H : Hp} (hp : Sub P H) : ∀ {ds : List D} {xs : List V}, Reps K α P ds xs → (∀ d ∈ ds, rowD d) →
    ∃ ks : List (Addr × List Int), xs = ks.map (fun p => V.ref p.1) ∧ ds = ks.map (fun p => PyData.tuple (p.2.map .int)) ∧ (∀ p ∈ ks, SqT K H p.1 (p.2.map V.int)) ∧ ∀ p ∈ ks, Rep K α P (.tuple (p.2.map .int)) (.ref p.1)
  | [], xs, r, _ => ⟨[], by rw [show xs = [] from r]; rfl, rfl, fun _ z => (by cases z), fun _ z => by cases z⟩
  | d :: ds, xs, ⟨x, r, e, h1, h2⟩, hd => by
    obtain ⟨ks, k1, k2, k3, k4⟩ := rows_of hp h2 fun y hy => hd y (List.mem_cons_of_mem _ hy)
    obtain ⟨ns, rfl⟩ := hd d List.mem_cons_self
    have h1' := h1
    obtain ⟨a, vs, rfl, s, z, rr⟩ := h1
    have hv : vs = ns.map V.int := by
      have q := Reps.ints rr (fun y hy => by obtain ⟨i, _, rfl⟩ := List.mem_map.mp hy; exact ⟨i, rfl⟩)
      rw [q]
      exact congrArg (List.map V.int) (dInts_map ns)
    subst hv
    refine ⟨(a, ns) :: ks, by rw [e, k1]; rfl, by rw [k2]; rfl, fun p hpm => ?_, fun p hpm => ?_⟩
    · rcases List.mem_cons.mp hpm with rfl | hpm
      · exact hp.sqT s
      · exact k3 p hpm
    · rcases List.mem_cons.mp hpm with rfl | hpm
      · exact h1'
      · exact k4 p hpm
section
variable {X : Cx} {T : List (Addr × Str)}
theorem p1_srt (hu : X.A.units + 66 < cLine) : CallR X (.builtin "sorted") (rC1 X.K T .srt) := by
  intro pins s σ' H vs us Q I r h
  obtain ⟨x, rfl, ⟨_, H0, P0, α0, _⟩, α, P, O, ρ, w, σ, a, rfl, rfl, sr, ra, ⟨ds, rfl, hal, hpl, hk⟩, o⟩ := rC1_ex h
  obtain ⟨l, xs, rfl, hs, hz, rr⟩ := sr.look ra
  obtain ⟨its, rv, hl, hz'⟩ := I.list hs
  rw [Vals.ref1 r]
  obtain ⟨e1, e2⟩ := reads_of I sr.pH rr rv hpl
  refine sorted_anyData (l := l) (vs := its) (ds := ds) hl.isList e1 e2 (fun d hd d' hd' => hal d hd d' hd') hk hz (fun d hd => ?_) fun out ho eo => ?_
  · have := SeqAt.depth_of_shaped (hpl d hd)
    omega
  · obtain ⟨ys, v1, v2⟩ := reps_of eo
    obtain ⟨ep, he⟩ := PyProof.Rows.sortedAll_at s.heap its out.toArray
    have hn : H (s.heap.objs.size + 1) = none := I.hok.fresh (Nat.le_succ _)
    have hlen : (sortD ds).length ≤ sizeLine := by rw [(sortD_perm ds).length_eq]; exact hz
    have hy : ys.length ≤ sizeLine := by rw [v2.length]; exact hlen
    refine ⟨.ref _, upd H (s.heap.objs.size + 1) (.lst ys), I.laid (t' := s.toks) (fun _ _ => PyProof.Rows.sortedAll_old) (Nat.le_succ _) ⟨hy, out, ep, v1, he⟩, rfl, ?_⟩
    exact o.newL (ds := sortD ds) sr hlen v2 _ hn
/-- sorted(set(xs)) -/
theorem pe_srtS {ea : Expr} {ta : TE} {p1 p2 q1 q2 : Pos} (hc : X.calm = true) (hu : X.A.units + 66 < cLine) (g1 : Gl X "sorted") (m1 : X.mg "sorted" = none) (g2 : Gl X "set") (m2 : X.mg "set" = none) (ha : PE X ea ta)
    (hs : starEach [ea] X.env = (false, eval ea X.env) :: starEach [] X.env) : PE X (.Call (.Name "sorted" p1) [.Call (.Name "set" p2) [ea] [] q2] [] q1) (tUn (rP1 X.K T .srtS) ta) := by
  refine ⟨fun pins s σ' H Q I h => ?_⟩
  refine wpAny_Call_Name_kw (ld_blt I g1 m1 (u := .builtin "sorted") (by decide +kernel) ?_ (by decide) (by decide))
  have inner : wpAny (model X.prog X.w) X.A (eval (.Call (.Name "set" p2) [ea] [] q2) X.env) (fun v s1 => wpAny (model X.prog X.w) X.A (call (.builtin "sorted") [v]) (EP X pins σ' Q) X.xe s1) X.xe s := by
    refine Call_ (ld_blt I g2 m2 PyProof.Rows.boot_set (PyProof.Rows.callWith_type1 (one_arg ha I h (fun v s1 x H1 I1 r q => ?_) hs) hs))
    obtain ⟨⟨_, H0, P0, α0, _⟩, α, P, O, ρ, w, σ, a, rfl, rfl, sr, rb, hd, o⟩ := q
    have hd0 := I1.ok.hd hc
    rcases hd with ⟨ds, rfl, hfew, hrow⟩ | ⟨hseq, hint, hfew⟩
    · obtain ⟨l, xs, rfl, hsl, hz, rr⟩ := sr.look rb
      cases r
      obtain ⟨its, rv, pl, hz'⟩ := I1.list hsl
      obtain ⟨ks, k1, k2, k3, k4⟩ := rows_of sr.pH rr hrow
      have hlen : ks.length = ds.length := by rw [k2, List.length_map]
      subst k1
      refine call_set_tups (P := X.prog) (w := X.w) ks hd0 pl.isList (by simpa using refs_of_vals rv) (fun p hp => I1.isT (k3 p hp)) (by omega) (by omega) fun h' tk L es ep t R g k => ?_
      refine sorted_setG (s := { s1 with heap := h', toks := tk }) R hd0 (by omega) fun s' p out c L' kk gg oo hp hg pm eo => ?_
      have hsub : ∀ q ∈ L, q ∈ ks := fun q hq => List.mem_of_mem_take (g.sub q hq)
      have hall : ∀ q ∈ ks, q.2 ∈ L.map (·.2) := fun q hq => g.all q (by rw [List.take_length]; exact hq)
      have hok : oneK ds := .inr hrow
      have hsz : s1.heap.objs.size ≤ p := by
        obtain ⟨ob, ho, _⟩ := R.ob
        exact Nat.le_trans (Nat.le_of_lt (Heap.lt_size ho)) hp
      have hn : H1 p = none := I1.hok.fresh hsz
      have e : (L'.map fun q => PyData.tuple (q.2.map .int)).mergeSort leK = sortD (dedup ds) := by
        refine srtS_unique hok ?_ (fun x => ?_) (List.pairwise_mergeSort leK_trans leK_total _)
        · refine (List.mergeSort_perm _ _).nodup_iff.mpr ?_
          have n2 : (L'.map (·.2)).Nodup := (pm.map (·.2)).nodup_iff.mpr R.nd
          have : (L'.map fun q => PyData.tuple (q.2.map .int)) = (L'.map (·.2)).map fun r => PyData.tuple (r.map .int) := by rw [List.map_map]; rfl
          rw [this]
          refine List.pairwise_map.mpr (n2.imp fun {a b} hne e => hne ?_)
          exact (List.map_inj_right fun x y e => PyData.int.inj e).mp (PyData.tuple.inj e)
        · rw [(List.mergeSort_perm _ _).mem_iff, k2, List.mem_map, List.mem_map]
          constructor
          · rintro ⟨q, hq, rfl⟩
            exact ⟨q, hsub q (pm.mem_iff.mp hq), rfl⟩
          · rintro ⟨q, hq, rfl⟩
            obtain ⟨r, hr, er⟩ := List.mem_map.mp (hall q hq)
            exact ⟨r, pm.mem_iff.mpr hr, by rw [er]⟩
      rw [e] at eo
      obtain ⟨ys, v1, v2⟩ := reps_of (K := X.K) (α := α) (P := P) (eo.mono fun v d ⟨q, hq, e1, e2⟩ => ⟨.ref q.1, e1.symm ▸ rfl, e2.symm ▸ k4 q (hsub q hq)⟩)
      have hl : (sortD (dedup ds)).length ≤ sizeLine := by rw [(sortD_perm _).length_eq]; exact Nat.le_trans (dedup_len ds) hz
      have J : Inv X pins σ' (upd H1 p (.lst ys)) { s1 with heap := s'.heap, gens := s'.gens, drawn := s'.drawn, toks := s'.toks } :=
        I1.call (ch := []) (Un.laid (fun b u e => kk b u (k b u e)) hsz hn) (I1.hok.laid (fun b u e => kk b u (k b u e)) hsz ⟨by rw [v2.length]; exact hl, out, c, v1, hg⟩) (by rw [gg]; exact I1.bare) (fun _ z => nomatch z)
      have es : s' = { s1 with heap := s'.heap, gens := s'.gens, drawn := s'.drawn, toks := s'.toks } := by
        cases s'
        cases oo
        rfl
      rw [es]
      exact ⟨.ref p, _, J, rfl, o.newL (ds := sortD (dedup ds)) sr hl v2 p hn⟩
    · have fin : ∀ (ds : List D) (ns : List Int), its a = ds → ds = ns.map PyData.int → ds.length < 64 → ∀ (h' : Heap) (tk c : Nat), SetR X.w h' s1.heap.objs.size (fun j => decide (j ∈ ns)) c → c ≤ ns.length → (∀ b o, s1.heap.get? b = some o → h'.get? b = some o) →
          wpAny (model X.prog X.w) X.A (call (.builtin "sorted") [.ref s1.heap.objs.size]) (EP X pins σ' Q) X.xe { s1 with heap := h', toks := tk } := fun ds ns ea hds hl64 h' tk c R hcn k => by
        have hnl : ns.length = ds.length := by rw [hds, List.length_map]
        have hlt : s1.heap.objs.size < h'.objs.size := R.lt
        refine sorted_set (s := { s1 with heap := h', toks := tk }) R hd0 (by omega) fun s' p out c' ms kk gg oo hp hg hi hpw hmem hml => ?_
        have hsz : s1.heap.objs.size ≤ p := Nat.le_trans (Nat.le_of_lt hlt) hp
        have hn : H1 p = none := I1.hok.fresh hsz
        have hok : oneK ds := .inl fun x hx => by
          rw [hds] at hx
          obtain ⟨i, _, rfl⟩ := List.mem_map.mp hx
          exact ⟨i, rfl⟩
        have e : ms.map PyData.int = sortD (dedup ds) := by
          refine srtS_unique hok ?_ (fun x => ?_) ?_
          · exact List.pairwise_map.mpr (hpw.imp fun {a b} hlt e => by have := PyData.int.inj e; omega)
          · rw [hds, List.mem_map, List.mem_map]
            constructor
            · rintro ⟨i, hi', rfl⟩
              exact ⟨i, of_decide_eq_true ((hmem i).mp hi'), rfl⟩
            · rintro ⟨i, hi', rfl⟩
              exact ⟨i, (hmem i).mpr (decide_eq_true hi'), rfl⟩
          · refine List.pairwise_map.mpr (hpw.imp fun {a b} hlt => ?_)
            show (!dataLt (.int b) (.int a)) = true
            rw [PySem.W.dataLt_int]
            have : ¬ b < a := by omega
            simp [this]
        have v2 : Reps X.K α P (ms.map PyData.int) (ms.map V.int) := by
          clear e hmem hml hi hpw
          induction ms with
          | nil => rfl
          | cons m ms ih => exact ⟨.int m, _, rfl, rfl, ih⟩
        have hl : (sortD (dedup ds)).length ≤ sizeLine := by rw [(sortD_perm _).length_eq]; exact Nat.le_trans (dedup_len ds) (by rw [sizeLine_eq]; omega)
        rw [e] at v2
        have J : Inv X pins σ' (upd H1 p (.lst (ms.map V.int))) { s1 with heap := s'.heap, gens := s'.gens, drawn := s'.drawn, toks := s'.toks } :=
          I1.call (ch := []) (Un.laid (fun b u e => kk b u (k b u e)) hsz hn) (I1.hok.laid (fun b u e => kk b u (k b u e)) hsz ⟨by rw [v2.length]; exact hl, out.toList, c', vals_of_ints hi, hg⟩) (by rw [gg]; exact I1.bare) (fun _ z => nomatch z)
        have es : s' = { s1 with heap := s'.heap, gens := s'.gens, drawn := s'.drawn, toks := s'.toks } := by
          cases s'
          cases oo
          rfl
        rw [es]
        have o : Out _ α P O ρ σ .fr (.list (sortD (dedup (its a)))) w Q := o
        rw [ea] at o
        exact ⟨.ref p, _, J, rfl, o.newL (ds := sortD (dedup ds)) sr hl v2 p hn⟩
      rcases hseq with ⟨ds, rfl⟩ | ⟨ds, rfl⟩
      · obtain ⟨l, xs, rfl, hsl, hz, rr⟩ := sr.lookT rb
        cases r
        obtain ⟨its', rv, pt, hz'⟩ := I1.tuple hsl
        obtain ⟨ns, hns⟩ := ints_of_D (show intsD ds from hint)
        have hds : ds.length < 64 := hfew
        subst hns
        have hv : xs = ns.map V.int := by
          have q := Reps.ints rr hint
          rw [q]
          exact congrArg (List.map V.int) (dInts_map ns)
        rw [hv] at rv
        exact call_set_tupI ns hd0 (show s1.heap.IsTuple l its'.toArray from pt) (by simpa using ints_of_vals rv) (by unfold scanBound; rw [List.length_map] at hds; omega) fun h' tk c R hcn k => fin _ ns rfl rfl hds h' tk c R hcn k
      · obtain ⟨l, xs, rfl, hsl, hz, rr⟩ := sr.look rb
        cases r
        obtain ⟨its', rv, pl, hz'⟩ := I1.list hsl
        obtain ⟨ns, hns⟩ := ints_of_D (show intsD ds from hint)
        have hds : ds.length < 64 := hfew
        subst hns
        have hv : xs = ns.map V.int := by
          have q := Reps.ints rr hint
          rw [q]
          exact congrArg (List.map V.int) (dInts_map ns)
        rw [hv] at rv
        exact call_setL ns hd0 pl.isList (by simpa using ints_of_vals rv) (by unfold scanBound; rw [List.length_map] at hds; omega) fun h' tk c R hcn k => fin _ ns rfl rfl hds h' tk c R hcn k
  exact PyProof.Rows.callWith_builtin1 (args_cons (thn inner fun v s1 hq => args_nil hq) rfl) rfl rfl
end
end Ev

/-! Ev8: the checker, and what it gives. -/
namespace Ev
open PySem PySem.Spec PyProof.Rows L2

/-! ### forms of syntax -/
def nStar : Expr → Bool
  | .Starred _ _ => false
  | _ => true
theorem nStar_ok {e : Expr} (h : nStar e = true) (es : List Expr) (env : Env) : starEach (e :: es) env = (false, eval e env) :: starEach es env := by
  cases e <;> first | rfl | exact nomatch h
def nSet : Expr → Bool
  | .Set _ _ _ => false
  | _ => true
theorem nSet_ok {e : Expr} (h : nSet e = true) (env : Env) (x : Value) : foldedSetIterable e env x = pure x := by
  cases e <;> first | rfl | exact nomatch h
def nSlice : Expr → Bool
  | .Slice _ _ _ _ => false
  | _ => true
theorem nSlice_ok {e : Expr} (h : nSlice e = true) : PlainIx e := by
  intro o i
  cases e <;> first | rfl | exact nomatch h
def nCall : Expr → Bool
  | .Call _ _ _ _ => false
  | _ => true
theorem nCall_ok {e : Expr} (h : nCall e = true) (m : Str) (env : Env) : attributeBase e m env (eval e env) = eval e env := by
  cases e <;> first | rfl | exact nomatch h
def nComp : Expr → Bool
  | .ListComp _ _ _ _ => false
  | .SetComp _ _ _ _ => false
  | .DictComp _ _ _ _ _ => false
  | _ => true
theorem nComp_ok {e : Expr} (h : nComp e = true) (t : Option Expr) (l : Nat) (env : Env) : swapsWith e t l env = pure false := by
  cases e <;> first | rfl | exact nomatch h
def plT : Expr → Bool
  | .UnaryOp .Not _ _ => false
  | .BoolOp _ _ _ => false
  | .IfExp _ _ _ _ => false
  | .Compare _ _ _ _ => false
  | _ => true
theorem plT_ok {e : Expr} (h : plT e = true) (env : Env) : ∀ whole, isTrue e env whole = (do let v ← whole; standAt e.pos; holding [v] (truthy v)) := by
  intro whole
  cases e with
  | UnaryOp op a p => cases op <;> first | rfl | exact nomatch h
  | BoolOp _ _ _ => exact nomatch h
  | IfExp _ _ _ _ => exact nomatch h
  | Compare _ _ _ _ => exact nomatch h
  | _ => rfl

/-! ### the world of a program -/
structure Tx where
  K : PySem.W.Frag
  T : List (Addr × Str)
/-- what a def of ours promises -/
def spF (K : PySem.W.Frag) (T : List (Addr × Str)) (S : Sm) (i : Nat) : Sp := fun vs H Q _ => ∃ F α P O ρ w σ ds, F.K = K ∧ F.T = T ∧ SR F α P O ρ w σ H ∧ Reps K α P ds vs ∧ S.wd i ds w ∧ Out F α P O ρ σ .pl (S.val i ds w).1 (S.val i ds w).2 Q
def bltNames : List Str := ["len", "all", "any", "sum", "max", "min", "abs", "int", "str", "tuple", "list", "sorted", "set", "range", "isinstance", "bool", "dict", "enumerate", "zip"]
def flatB : D → D → Bool
  | .none, .none => true
  | .bool a, .bool b => a == b
  | .int a, .int b => a == b
  | .str a, .str b => a == b
  | _, _ => false
structure Gd (pg : Pg) (T : List (Addr × Str)) (k : Nat) (X : Cx) : Prop where
  calm : X.calm = true
  room : Room (2 * k) X.A
  nd : X.N.Nodup
  fns : ∀ (i : Nat) (x : Str) (d : Def), pg.fns[i]? = some (x, d) → ∃ f fd, X.mg x = some (.ref f) ∧ PySem.W.keepIn X.K (.ref f) = true ∧ Binds X.K fd d.ps [] ∧ FnOk X.prog X.w X.K X.mg X.base CX0 (2 * k) f fd d.ps (spF X.K T (fnS pg k) i)
  blt : ∀ x ∈ bltNames, X.mg x = none
  cs : ∀ (x : Str) (d : D), (x, d) ∈ pg.cs → ∃ u v, X.mg x = some u ∧ RelV v u ∧ (∀ α P, Rep X.K α P d v)
theorem relS_free {s : Scope} : ∀ {names : List (Str × NameKind)} {x : Str}, names.lookup x = some .free →
    (names.map fun (n, k) => if (k == NameKind.free && s.kind == .function && s.names.lookup n == some .cell) then (n, NameKind.cell) else (n, k)).lookup x = some .cell ∨
    (names.map fun (n, k) => if (k == NameKind.free && s.kind == .function && s.names.lookup n == some .cell) then (n, NameKind.cell) else (n, k)).lookup x = some .free
  | [], _, h => by simp at h
  | (n, k) :: r, x, h => by
    have ih := @relS_free s r x
    simp only [List.map_cons]
    cases hx : x == n with
    | true =>
      simp only [List.lookup_cons, hx] at h
      cases h
      by_cases hc : (NameKind.free == NameKind.free && s.kind == .function && s.names.lookup n == some .cell) = true
      · rw [if_pos hc]; left; simp only [List.lookup_cons, hx]
      · rw [if_neg hc]; right; simp only [List.lookup_cons, hx]
    | false =>
      simp only [List.lookup_cons, hx] at h
      by_cases hc : (k == NameKind.free && s.kind == .function && s.names.lookup n == some .cell) = true
      · rw [if_pos hc]; simp only [List.lookup_cons, hx]; exact ih h
      · rw [if_neg hc]; simp only [List.lookup_cons, hx]; exact ih h
structure Sc (X : Cx) (sc : Scope) : Prop where
  eq : X.env.scope = sc ∨ ∃ s, X.env.scope = relS sc s
  fn : ∀ x, sc.names.lookup x = some .cell → X.fn x = true
theorem Sc.vis {X : Cx} {sc : Scope} (h : Sc X sc) {x : Str} (v : Vis sc x) : Vis X.env.scope x := by
  rcases h.eq with e | ⟨s, e⟩
  · rw [e]; exact v
  · rw [e]
    rcases v with v | v | v
    · exact .inl (lookup_relS_keep (by decide) v)
    · exact .inr (.inl (lookup_relS_keep (by decide) v))
    · rcases relS_free (s := s) v with q | q
      · exact .inr (.inl q)
      · exact .inr (.inr q)
theorem Sc.gl {X : Cx} {sc : Scope} (h : Sc X sc) {x : Str} (v : sc.names.lookup x = some .globalImplicit) : Gl X x := by
  rcases h.eq with e | ⟨s, e⟩
  · show X.env.scope.names.lookup x = _
    rw [e]; exact v
  · show X.env.scope.names.lookup x = _
    rw [e]; exact lookup_relS_keep (by decide) v
theorem Sc.loc {X : Cx} {sc : Scope} (h : Sc X sc) {x : Str} (v : Loc sc x) : Loc X.env.scope x ∧ (X.fn x = true ∨ X.env.scope.names.lookup x = some .local) := by
  rcases v with v | v
  · have : X.env.scope.names.lookup x = some .local := by
      rcases h.eq with e | ⟨s, e⟩
      · rw [e]; exact v
      · rw [e]; exact lookup_relS_keep (by decide) v
    exact ⟨.inl this, .inr this⟩
  · have : X.env.scope.names.lookup x = some .cell := by
      rcases h.eq with e | ⟨s, e⟩
      · rw [e]; exact v
      · rw [e]; exact lookup_relS_keep (by decide) v
    exact ⟨.inr this, .inl (h.fn x v)⟩
theorem BlkOk.rel {N : List Str} {sc scope : Scope} {own : List (Str × Nat)} {X : Cx} (h : Sc X sc) (b : BlkOk N sc scope own) : BlkOk N X.env.scope scope own := by
  refine ⟨b.kind, b.uniq, b.ix, fun y hy e => ?_, b.own⟩
  rcases h.eq with q | ⟨s, q⟩
  · rw [q]; exact b.free y hy e
  · rw [q]
    rcases b.free y hy e with v | v
    · exact .inl (lookup_relS_keep (by decide) v)
    · exact relS_free v
theorem Sc.blk {X : Cx} {s : Shared} {H : Hp} {scope : Scope} {cl : List (Str × Addr)} {C : Addr} {fp : List Addr} : Sc (X.blk s H scope (compEnvC scope cl C X.env) fp) scope where
  eq := .inr ⟨X.env.scope, rfl⟩
  fn := fun x e => by show (scope.names.lookup x == some NameKind.cell) = true; rw [e]; rfl
theorem Gd.blk {pg : Pg} {T : List (Addr × Str)} {k : Nat} {X : Cx} (h : Gd pg T k X) {s : Shared} {H : Hp} {scope : Scope} {cenv : Env} {fp : List Addr} : Gd pg T k (X.blk s H scope cenv fp) :=
  ⟨h.calm, h.room, h.nd, h.fns, h.blt, h.cs⟩

/-! ### the checker -/
def locB (sc : Scope) (x : Str) : Bool := match sc.names.lookup x with
  | some .local => true
  | some .cell => true
  | _ => false
def visB (sc : Scope) (x : Str) : Bool := match sc.names.lookup x with
  | some .local => true
  | some .cell => true
  | some .free => true
  | _ => false
def glB (sc : Scope) (x : Str) : Bool := match sc.names.lookup x with
  | some .globalImplicit => true
  | _ => false
theorem locB_ok {sc : Scope} {x : Str} (h : locB sc x = true) : Loc sc x := by
  unfold locB at h
  split at h
  · exact .inl ‹_›
  · exact .inr ‹_›
  · cases h
theorem visB_ok {sc : Scope} {x : Str} (h : visB sc x = true) : Vis sc x := by
  unfold visB at h
  split at h
  · exact .inl ‹_›
  · exact .inr (.inl ‹_›)
  · exact .inr (.inr ‹_›)
  · cases h
theorem glB_ok {sc : Scope} {x : Str} (h : glB sc x = true) : sc.names.lookup x = some .globalImplicit := by
  unfold glB at h
  split at h
  · rename_i q; exact q
  · cases h
def isGlName (sc : Scope) (x : Str) : Expr → Bool
  | .Name y _ => decide (y = x) && glB sc x
  | _ => false
/-- f(a), f a built-in -/
def call1 (sc : Scope) (x : Str) : Expr → Option Expr
  | .Call f [a] [] _ => if isGlName sc x f && nStar a then some a else none
  | _ => none
def call2 (sc : Scope) (x : Str) : Expr → Option (Expr × Expr)
  | .Call f [a, b] [] _ => if isGlName sc x f && nStar a && nStar b then some (a, b) else none
  | _ => none
theorem isGlName_ok {sc : Scope} {x : Str} {e : Expr} (h : isGlName sc x e = true) : (∃ p, e = .Name x p) ∧ sc.names.lookup x = some .globalImplicit := by
  unfold isGlName at h
  split at h
  · rw [Bool.and_eq_true, decide_eq_true_eq] at h
    obtain ⟨rfl, g⟩ := h
    exact ⟨⟨_, rfl⟩, glB_ok g⟩
  · cases h
theorem call1_ok {sc : Scope} {x : Str} {e a : Expr} (h : call1 sc x e = some a) : (∃ p q, e = .Call (.Name x p) [a] [] q) ∧ sc.names.lookup x = some .globalImplicit ∧ nStar a = true := by
  unfold call1 at h
  split at h
  · split at h
    · rename_i c
      cases h
      rw [Bool.and_eq_true] at c
      obtain ⟨⟨p, rfl⟩, g⟩ := isGlName_ok c.1
      exact ⟨⟨p, _, rfl⟩, g, c.2⟩
    · cases h
  · cases h
theorem call2_ok {sc : Scope} {x : Str} {e a b : Expr} (h : call2 sc x e = some (a, b)) : (∃ p q, e = .Call (.Name x p) [a, b] [] q) ∧ sc.names.lookup x = some .globalImplicit ∧ nStar a = true ∧ nStar b = true := by
  unfold call2 at h
  split at h
  · split at h
    · rename_i c
      cases h
      rw [Bool.and_eq_true, Bool.and_eq_true] at c
      obtain ⟨⟨p, rfl⟩, g⟩ := isGlName_ok c.1.1
      exact ⟨⟨p, _, rfl⟩, g, c.1.2, c.2⟩
    · cases h
  · cases h
def binOf (op : Operator) : Expr → Option (Expr × Expr)
  | .BinOp a o b _ => if o = op then some (a, b) else none
  | _ => none
theorem binOf_ok {op : Operator} {e a b : Expr} (h : binOf op e = some (a, b)) : ∃ p, e = .BinOp a op b p := by
  unfold binOf at h
  split at h
  · split at h
    · rename_i c
      subst c
      cases h
      exact ⟨_, rfl⟩
    · cases h
  · cases h
def cmpOf (op : CmpOp) : Expr → Option (Expr × Expr)
  | .Compare a [o] [b] _ => if o = op ∧ behindInMarks op b = false then some (a, b) else none
  | _ => none
theorem cmpOf_ok {op : CmpOp} {e a b : Expr} (h : cmpOf op e = some (a, b)) : (∃ p, e = .Compare a [op] [b] p) ∧ behindInMarks op b = false := by
  unfold cmpOf at h
  split at h
  · split at h
    · rename_i c
      obtain ⟨rfl, c⟩ := c
      cases h
      exact ⟨⟨_, rfl⟩, c⟩
    · cases h
  · cases h
def P2.cmp : P2 → Option CmpOp
  | .eq => some .Eq
  | .ne => some .NotEq
  | .lt => some .Lt
  | .le => some .LtE
  | .gt => some .Gt
  | .ge => some .GtE
  | .is => some .Is
  | .isnot => some .IsNot
  | .inn => some .In
  | .notin => some .NotIn
  | _ => none
def P2.bin : P2 → Option Operator
  | .add => some .Add
  | .sub => some .Sub
  | .mul => some .Mult
  | .fdiv => some .FloorDiv
  | .mod => some .Mod
  | .shl => some .LShift
  | .shr => some .RShift
  | .band => some .BitAnd
  | _ => none
def ixOf : Expr → Option (Expr × Expr)
  | .Subscript a b _ => if nSlice b then some (a, b) else none
  | _ => none
theorem ixOf_ok {e a b : Expr} (h : ixOf e = some (a, b)) : (∃ p, e = .Subscript a b p) ∧ nSlice b = true := by
  unfold ixOf at h
  split at h
  · split at h
    · cases h; exact ⟨⟨_, rfl⟩, ‹_›⟩
    · cases h
  · cases h
def popOf : Expr → Option (Expr × Expr)
  | .Call (.Attribute o m p) [b] [] q => if m = ("pop" : Str) ∧ nCall o = true ∧ nStar b = true ∧ (p.endLine == q.line) = true then some (o, b) else none
  | _ => none
theorem popOf_ok {e a b : Expr} (h : popOf e = some (a, b)) : (∃ p q, e = .Call (.Attribute a "pop" p) [b] [] q ∧ (p.endLine == q.line) = true) ∧ nCall a = true ∧ nStar b = true := by
  unfold popOf at h
  split at h
  · split at h
    · rename_i c
      obtain ⟨rfl, c1, c2, c3⟩ := c
      cases h
      exact ⟨⟨_, _, rfl, c3⟩, c1, c2⟩
    · cases h
  · cases h
def P2.args (sc : Scope) (o : P2) (e : Expr) : Option (Expr × Expr) := match o.bin with
  | some op => binOf op e
  | none => match o.cmp with
    | some op => cmpOf op e
    | none => match o with
      | .ix => ixOf e
      | .max2 => call2 sc "max" e
      | .min2 => call2 sc "min" e
      | .rpop => popOf e
      | _ => none
def negOf : Expr → Option Expr
  | .UnaryOp .USub a _ => some a
  | _ => none
theorem negOf_ok {e a : Expr} (h : negOf e = some a) : ∃ p, e = .UnaryOp .USub a p := by
  unfold negOf at h
  split at h
  · cases h; exact ⟨_, rfl⟩
  · cases h
def isiOf (sc : Scope) (t : String) (e : Expr) : Option Expr := match call2 sc "isinstance" e with
  | some (a, .Name y _) => if y = Str.ofString t ∧ glB sc (Str.ofString t) = true ∧ t ∈ ["int", "bool", "str", "tuple", "list"] then some a else none
  | _ => none
/-- sorted(set(a)) -/
def srtSOf (sc : Scope) (e : Expr) : Option Expr := match call1 sc "sorted" e with
  | some e1 => call1 sc "set" e1
  | none => none
/-- tuple(range(a)) -/
def rngTOf (sc : Scope) (e : Expr) : Option Expr := match call1 sc "tuple" e with
  | some e1 => call1 sc "range" e1
  | none => none
def P1.blt : P1 → Option Str
  | .len => some "len"
  | .all => some "all"
  | .any => some "any"
  | .sum => some "sum"
  | .max1 => some "max"
  | .min1 => some "min"
  | .abs => some "abs"
  | .int1 => some "int"
  | .tup1 => some "tuple"
  | .lst1 => some "list"
  | .srt => some "sorted"
  | _ => none
def P1.arg (sc : Scope) (o : P1) (e : Expr) : Option Expr := match o.blt with
  | some x => call1 sc x e
  | none => match o with
    | .neg => negOf e
    | .isi t => isiOf sc t e
    | .srtS => srtSOf sc e
    | .rngT => rngTOf sc e
    | _ => none
end Ev

/-! Ev9: the rules for primitives. -/
namespace Ev
open PySem PySem.Spec PyProof.Rows L2

theorem PEimp {X : Cx} {e : Expr} {t t' : TE} (h : PE X e t) (i : ∀ σ H Q, t' σ H Q → t σ H Q) : PE X e t' := ⟨fun pins s σ H Q I q => h.run pins s σ H Q I (i σ H Q q)⟩
theorem PTimp {X : Cx} {e : Expr} {t t' : TT} (h : PT X e t) (i : ∀ σ H Q, t' σ H Q → t σ H Q) : PT X e t' := ⟨fun pins s σ H Q I q => h.run pins s σ H Q I (i σ H Q q)⟩
theorem PAimp {X : Cx} {es : List Expr} {t t' : TA} (h : PA X es t) (i : ∀ σ H Q, t' σ H Q → t σ H Q) : PA X es t' := ⟨fun pos pins s σ H Q I q => h.run pos pins s σ H Q I (i σ H Q q)⟩
theorem PIimp {X : Cx} {tg e : Expr} {t t' : TI} (h : PI X tg e t) (i : ∀ σ H R, t' σ H R → t σ H R) : PI X tg e t' := ⟨fun pins s σ H R I q => h.run pins s σ H R I (i σ H R q)⟩
theorem PSimp {X : Cx} {st : Stmt} {t t' : TS} (h : PS X st t) (i : ∀ D σ H, t' D σ H → t D σ H) : PS X st t' := ⟨fun pins s σ H D I q => h.run pins s σ H D I (i D σ H q)⟩

section
variable {pg : Pg} {T : List (Addr × Str)} {k : Nat} {X : Cx} {sc : Scope} {e ea eb : Expr} {ta tb : TE}
theorem Gd.u64 (G : Gd pg T k X) : X.A.units + 64 < cLine := by have := G.room.un; omega
theorem Gd.u66 (G : Gd pg T k X) : X.A.units + 66 < cLine := by have := G.room.un; omega
theorem Gd.u65 (G : Gd pg T k X) : X.A.units + 65 < cLine := by have := G.room.un; omega
theorem pa1 (ha : PE X ea ta) (h : nStar ea = true) : PA X [ea] (tCons ta tNil) := pa_cons ha pa_nil (nStar_ok h _ _)
theorem pa2 (ha : PE X ea ta) (hb : PE X eb tb) (h : nStar ea = true) (h' : nStar eb = true) : PA X [ea, eb] (tCons ta (tCons tb tNil)) := pa_cons ha (pa1 hb h') (nStar_ok h _ _)
theorem binR (G : Gd pg T k X) {o : P2} {op : Operator} (h : o.bin = some op) : OpR X (binaryOp op) (rP2 X.K T o) := by
  cases o <;> first
    | (cases h; first | exact p2_add | exact p2_sub | exact p2_mul | exact p2_fdiv | exact p2_mod | exact p2_shl | exact p2_shr | exact p2_band)
    | exact nomatch h
theorem cmpR (G : Gd pg T k X) {o : P2} {op : CmpOp} (h : o.cmp = some op) : OpR X (compareOp op) (rP2 X.K T o) := by
  cases o <;> first
    | (cases h; first | exact p2_eq G.u64 | exact p2_ne G.u64 | exact p2_lt G.u64 | exact p2_le | exact p2_gt | exact p2_ge | exact p2_is | exact p2_isnot | exact p2_in G.u65 | exact p2_notin G.u65)
    | exact nomatch h
theorem noStar1 (q : Pos) (h : nStar ea = true) : (backTo q (starEach [ea] X.env)).any (·.1) = false := by rw [nStar_ok h]; rfl
theorem callB1 {x : Str} {id : String} {r : List V → Hp → VK → Prop} {r' : V → Hp → VK → Prop} (G : Gd pg T k X) (S : Sc X sc) (h : call1 sc x e = some ea) (ha : PE X ea ta) (hc : CallR X (.builtin id) r) (hr : ∀ x H Q, r' x H Q → r [x] H Q) (hm : X.mg x = none) (hv : bootBuiltins x = some (.builtin id)) (hn : x ≠ "__name__") (hd : (x == ("__debug__" : Str)) = false) :
    PE X e (tUn r' ta) := by
  obtain ⟨⟨p, q, rfl⟩, g, s1⟩ := call1_ok h
  exact PEimp (pe_callB (r := fun xs H Q => match xs with | [x] => r' x H Q | _ => False) (CallR.imp hc fun xs H Q z => by
    match xs, z with
    | [x], z => exact hr x H Q z) (S.gl g) hm hv (pa1 ha s1) hn hd (nStar_ok s1 _ _) rfl) fun σ H Q z => z
theorem callB2 {x : Str} {id : String} {r : List V → Hp → VK → Prop} {r' : V → V → Hp → VK → Prop} (G : Gd pg T k X) (S : Sc X sc) (h : call2 sc x e = some (ea, eb)) (ha : PE X ea ta) (hb : PE X eb tb) (hc : CallR X (.builtin id) r) (hr : ∀ x y H Q, r' x y H Q → r [x, y] H Q) (hm : X.mg x = none) (hv : bootBuiltins x = some (.builtin id)) (hn : x ≠ "__name__") (hd : (x == ("__debug__" : Str)) = false) :
    PE X e (tOp r' ta tb) := by
  obtain ⟨⟨p, q, rfl⟩, g, s1, s2⟩ := call2_ok h
  exact PEimp (pe_callB (r := fun xs H Q => match xs with | [x, y] => r' x y H Q | _ => False) (CallR.imp hc fun xs H Q z => by
    match xs, z with
    | [x, y], z => exact hr x y H Q z) (S.gl g) hm hv (pa2 ha hb s1 s2) hn hd (nStar_ok s1 _ _) (noStar1 q s2)) fun σ H Q z => z
theorem callT1 {x : Str} {id : String} {r : List V → Hp → VK → Prop} {r' : V → Hp → VK → Prop} (G : Gd pg T k X) (S : Sc X sc) (h : call1 sc x e = some ea) (ha : PE X ea ta) (hc : CallR X (.type id) r) (hr : ∀ x H Q, r' x H Q → r [x] H Q) (hm : X.mg x = none) (hv : bootBuiltins x = some (.type id)) (hn : x ≠ "__name__") (hd : (x == ("__debug__" : Str)) = false) :
    PE X e (tUn r' ta) := by
  obtain ⟨⟨p, q, rfl⟩, g, s1⟩ := call1_ok h
  exact PEimp (pe_callTy (r := fun xs H Q => match xs with | [x] => r' x H Q | _ => False) (CallR.imp hc fun xs H Q z => by
    match xs, z with
    | [x], z => exact hr x H Q z) (S.gl g) hm hv (pa1 ha s1) hn hd (nStar_ok s1 _ _) rfl) fun σ H Q z => z
theorem Gd.no (G : Gd pg T k X) {x : Str} (h : x ∈ bltNames := by decide) : X.mg x = none := G.blt x h
theorem popFew (q : Pos) (h : nStar eb = true) : ((backTo q (starEach [eb] X.env)).all (fun x => !x.1) && (backToKw q (keywordEach [] X.env)).all (fun x => x.1.isSome)
      && decide ([eb].length + ([] : List Keyword).length + (if ([] : List Keyword).isEmpty then 0 else 1) < 30)) = true := by rw [nStar_ok h]; rfl
theorem p2_pe (G : Gd pg T k X) (S : Sc X sc) {o : P2} (ho : o ≠ .rpop) (h : P2.args sc o e = some (ea, eb)) (ha : PE X ea ta) (hb : PE X eb tb) : PE X e (tOp (rP2 X.K T o) ta tb) := by
  unfold P2.args at h
  cases h1 : o.bin with
  | some op =>
    rw [h1] at h
    obtain ⟨p, rfl⟩ := binOf_ok h
    exact pe_op (binR G h1) ha hb
  | none =>
    rw [h1] at h
    cases h2 : o.cmp with
    | some op =>
      rw [h2] at h
      obtain ⟨⟨p, rfl⟩, hm⟩ := cmpOf_ok h
      exact pe_cmpR (cmpR G h2) ha hb hm
    | none =>
      rw [h2] at h
      cases o with
      | ix =>
        obtain ⟨⟨p, rfl⟩, hs⟩ := ixOf_ok h
        exact pe_ix p2_ix ha hb (nSlice_ok hs)
      | max2 => exact callB2 G S (x := "max") (id := "max") h ha hb (p2_max G.calm) (fun _ _ _ _ z => z) G.no (by decide +kernel) (by decide) (by decide)
      | min2 => exact callB2 G S (x := "min") (id := "min") h ha hb (p2_min G.calm) (fun _ _ _ _ z => z) G.no (by decide +kernel) (by decide) (by decide)
      | rpop => exact absurd rfl ho
      | _ => exact nomatch h
theorem rpop_pe (h : popOf e = some (ea, eb)) (ha : PE X ea ta) (hb : PE X eb tb) : PE X e (fun σ H Q => ta σ H fun x H1 => tyV X.K "list" x H1 ∧ tb σ H1 fun y H2 => rP2 X.K T .rpop x y H2 Q) := by
  obtain ⟨⟨p, q, rfl, hl⟩, hc, hs⟩ := popOf_ok h
  exact PEimp (pe_bm (r := fun x xs H Q => rC2 X.K T .rpop (x :: xs) H Q) PySem.F.plainAttrs_list PySem.F.slot_list_pop PySem.F.type_list_pop (p2_rpop (T := T)) ha (pa1 hb hs) (nCall_ok hc _ _) (popFew q hs) hl (nStar_ok hs _ _) rfl) fun σ H Q z => z
theorem p2_pt (G : Gd pg T k X) {o : P2} {op : CmpOp} (h : o.cmp = some op) (h' : cmpOf op e = some (ea, eb)) (ha : PE X ea ta) (hb : PE X eb tb) : PT X e (tTest (tOp (rP2 X.K T o) ta tb)) := by
  obtain ⟨⟨p, rfl⟩, hm⟩ := cmpOf_ok h'
  exact pt_cmpR (cmpR G h) ha hb hm
theorem PEmono (h : PE X e ta) : PE X e (fun σ H Q => ∃ Q' : VK, ta σ H Q' ∧ ∀ v H, Q' v H → Q v H) :=
  ⟨fun pins s σ H Q I ⟨Q', h', i⟩ => thn (h.run pins s σ H Q' I h') fun v s ⟨x, H, I, r, q⟩ => ⟨x, H, I, r, i _ _ q⟩⟩
theorem reps_rgV {K : PySem.W.Frag} {α : List Addr} {P : Hp} (a b : Int) : Reps K α P (rngL a b) (rgV a b) := by
  have : ∀ l : List Nat, Reps K α P (l.map fun (k : Nat) => PyData.int (a + (k : Int))) (l.map fun (k : Nat) => V.int (a + (k : Int))) := fun l => by
    induction l with
    | nil => rfl
    | cons x l ih => exact ⟨_, _, rfl, rfl, ih⟩
  exact this _
theorem p1_pe (G : Gd pg T k X) (S : Sc X sc) {o : P1} (h : P1.arg sc o e = some ea) (ha : PE X ea ta) : PE X e (tUn (rP1 X.K T o) ta) := by
  cases o with
  | neg =>
    obtain ⟨p, rfl⟩ := negOf_ok h
    exact pe_un p1_neg ha
  | len => exact callB1 G S (x := "len") (id := "len") h ha p1_len (fun _ _ _ z => z) G.no (by decide +kernel) (by decide) (by decide)
  | all => exact callB1 G S (x := "all") (id := "all") h ha (p1_all G.calm) (fun _ _ _ z => z) G.no (by decide +kernel) (by decide) (by decide)
  | any => exact callB1 G S (x := "any") (id := "any") h ha (p1_any G.calm) (fun _ _ _ z => z) G.no (by decide +kernel) (by decide) (by decide)
  | sum => exact callB1 G S (x := "sum") (id := "sum") h ha (p1_sum G.calm) (fun _ _ _ z => z) G.no (by decide +kernel) (by decide) (by decide)
  | max1 => exact callB1 G S (x := "max") (id := "max") h ha (p1_max G.calm) (fun _ _ _ z => z) G.no (by decide +kernel) (by decide) (by decide)
  | min1 => exact callB1 G S (x := "min") (id := "min") h ha (p1_min G.calm) (fun _ _ _ z => z) G.no (by decide +kernel) (by decide) (by decide)
  | abs => exact callB1 G S (x := "abs") (id := "abs") h ha p1_abs (fun _ _ _ z => z) G.no (by decide +kernel) (by decide) (by decide)
  | int1 => exact callT1 G S (x := "int") (id := "int") h ha p1_int (fun _ _ _ z => z) G.no (by decide +kernel) (by decide) (by decide)
  | tup1 => exact callT1 G S (x := "tuple") (id := "tuple") h ha p1_tup (fun _ _ _ z => z) G.no (by decide +kernel) (by decide) (by decide)
  | lst1 => exact callT1 G S (x := "list") (id := "list") h ha p1_lst (fun _ _ _ z => z) G.no (by decide +kernel) (by decide) (by decide)
  | srt => exact callB1 G S (x := "sorted") (id := "sorted") h ha (p1_srt G.u66) (fun _ _ _ z => z) G.no (by decide +kernel) (by decide) (by decide)
  | srtS =>
    have h2 : srtSOf sc e = some ea := h
    clear h
    unfold srtSOf at h2
    split at h2
    · rename_i e1 h1
      obtain ⟨⟨p, q, rfl⟩, g, s1⟩ := call1_ok h1
      obtain ⟨⟨p', q', rfl⟩, g', s2⟩ := call1_ok h2
      exact pe_srtS G.calm G.u66 (S.gl g) G.no (S.gl g') G.no ha (nStar_ok s2 _ _)
    · cases h2
  | rngT =>
    have h2 : rngTOf sc e = some ea := h
    clear h
    unfold rngTOf at h2
    split at h2
    · rename_i e1 h1
      obtain ⟨⟨p, q, rfl⟩, g, s1⟩ := call1_ok h1
      obtain ⟨⟨p', q', rfl⟩, g', s2⟩ := call1_ok h2
      refine PEimp (pe_tupRg G.calm (S.gl g) G.no (prg_1 (S.gl g') G.no (PEmono ha) (nStar_ok s2 _ _)) (nStar_ok s1 _ _)) fun σ' H Q z => ⟨_, z, fun x H1 z => ?_⟩
      obtain ⟨⟨_, H0, P0, α0, _⟩, α, P, O, ρ, w, σ, a, rfl, rfl, sr, ra, ⟨i, rfl, b1, b2⟩, o⟩ := z
      have hz : (rngL 0 i).length ≤ sizeLine := by
        unfold rngL
        rw [List.length_map, List.length_range, sizeLine_eq]; omega
      exact ⟨i, ra.int, ⟨by omega, by omega, by omega, by omega, by omega⟩, o.newT (ds := rngL 0 i) sr hz (reps_rgV 0 i)⟩
    · cases h2
  | isi t =>
    have h : isiOf sc t e = some ea := h
    unfold isiOf at h
    split at h
    · rename_i a y p hc
      split at h
      · rename_i c
        obtain ⟨rfl, c2, c3⟩ := c
        cases h
        obtain ⟨⟨p1, q, rfl⟩, g, s1, s2⟩ := call2_ok hc
        have hb : X.mg (Str.ofString t) = none ∧ bootBuiltins (Str.ofString t) = some (.type t) ∧ (Str.ofString t) ≠ "__name__" ∧ (Str.ofString t == ("__debug__" : Str)) = false := by
          refine ⟨G.blt _ ?_, ?_⟩
          · exact (by decide +kernel : ∀ t ∈ ["int", "bool", "str", "tuple", "list"], Str.ofString t ∈ bltNames) t c3
          · exact (by decide +kernel : ∀ t ∈ ["int", "bool", "str", "tuple", "list"], bootBuiltins (Str.ofString t) = some (.type t) ∧ (Str.ofString t) ≠ "__name__" ∧ (Str.ofString t == ("__debug__" : Str)) = false) t c3
        have hty : PE X (.Name (Str.ofString t) p) (tC (.ty t)) := pe_bltn (S.gl (glB_ok c2)) hb.1 hb.2.1 rfl hb.2.2.1 hb.2.2.2
        exact PEimp (pe_callB (p1_isi (T := T)) (S.gl g) G.no (by decide +kernel) (pa2 ha hty s1 s2) (by decide) (by decide) (nStar_ok s1 _ _) (noStar1 q s2)) fun σ H Q z => z
      · cases h
    · cases h
  | _ => exact nomatch h
end
end Ev

/-! Ev10: expressions: what the hand layer says is what ev says. -/
namespace Ev
open PySem PySem.Spec PyProof.Rows L2

def Ex.knd : Ex → Knd
  | .brw _ => .bw
  | x => if x.fresh then .fr else .pl

section
variable (K : PySem.W.Frag) (T : List (Addr × Str)) (S : Sm)
def tO (kd : Knd) (x : Ex) : TE := fun σ H Q => ∃ F α P O ρ w, F.K = K ∧ F.T = T ∧ SR F α P O ρ w σ H ∧ wd S x ρ w ∧ Out F α P O ρ σ kd (ev S x ρ w).1 (ev S x ρ w).2 Q
def tT (x : Ex) : TT := fun σ H Q => ∃ F α P O ρ w, F.K = K ∧ F.T = T ∧ SR F α P O ρ w σ H ∧ wd S x ρ w ∧ isBool (ev S x ρ w).1 ∧
  ∀ α' P' H', Pre α α' → Sub P P' → SR F α' P' O ρ (ev S x ρ w).2 σ H' → Q (tr (ev S x ρ w).1) H'
def tA (es : Exs) : TA := fun σ H Q => ∃ F α P O ρ w, F.K = K ∧ F.T = T ∧ SR F α P O ρ w σ H ∧ wds S es ρ w ∧
  ∀ α' P' H' vs, Pre α α' → Sub P P' → SR F α' P' O ρ (evs S es ρ w).2 σ H' → Reps F.K α' P' (evs S es ρ w).1 vs → Q vs H'
/-- what an iterator gives -/
def ItW (α : List Addr) (P O : Hp) (J : It) (xs : List D) : Prop := ∃ vs, Reps K α P xs vs ∧ xs.length ≤ sizeLine ∧ Walk J vs.length (fun H => Sub P H ∧ Sub O H) (YAt vs)
def tI (bo : Bool) (src : Src) : TI := fun σ H R => ∃ F α P O ρ w, F.K = K ∧ F.T = T ∧ SR F α P O ρ w σ H ∧ wdSrc S src ρ w ∧
  ∀ α' P' H' J, Pre α α' → Sub P P' → SR F α' P' O ρ (evSrc S src ρ w).2 σ H' → ItW K α' P' (match bo with | true => O | false => fun _ => none) J (evSrc S src ρ w).1 → R J H'
end
section
variable {F : Fx} {α α1 : List Addr} {P P1 O : Hp} {ρ : En} {w : W} {σ : L2.St} {H : Hp} {d : D} {v : V} {Q : VK} {k : Knd}
theorem Out.mono (o : Out F α P O ρ σ k d w Q) (h1 : Pre α α1) (h2 : Sub P P1) : Out F α1 P1 O ρ σ k d w Q :=
  fun α' P' H' v e1 e2 sr r => o α' P' H' v (h1.trans e1) (h2.trans e2) sr r
theorem Out.plain (o : Out F α P O ρ σ .pl d w Q) (hk : k ≠ .bw) : Out F α P O ρ σ k d w Q := fun α' P' H' v e1 e2 sr r => by
  obtain ⟨P2, s2, sr2, r2⟩ := Res.plain sr r hk
  exact o α' P2 H' v e1 (e2.trans s2) sr2 r2
theorem Out.borrow (o : Out F α P O ρ σ .bw d w Q) : Out F α P O ρ σ k d w Q := fun α' P' H' v e1 e2 sr r => by
  obtain ⟨P2, s2, sr2, r2⟩ := Res.borrow sr r
  exact o α' P2 H' v e1 (e2.trans s2) sr2 r2
end

section
variable {pg : Pg} {T : List (Addr × Str)} {k : Nat} {X : Cx} {sc : Scope} {S : Sm}
variable {e ea eb ec : Expr} {x a b c : Ex}

theorem PEpl (h : PE X e (tO X.K T S x.knd x)) (hk : x.knd ≠ .bw) : PE X e (tO X.K T S .pl x) :=
  PEimp h fun σ H Q ⟨F, α, P, O, ρ, w, hK, hT, sr, wx, o⟩ => ⟨F, α, P, O, ρ, w, hK, hT, sr, wx, o.plain hk⟩
theorem PEbw (h : PE X e (tO X.K T S x.knd x)) : PE X e (tO X.K T S .bw x) :=
  PEimp h fun σ H Q ⟨F, α, P, O, ρ, w, hK, hT, sr, wx, o⟩ => ⟨F, α, P, O, ρ, w, hK, hT, sr, wx, o.borrow⟩
theorem SR.val {F : Fx} {α : List Addr} {P O : Hp} {ρ : En} {w : W} {σ : L2.St} {H : Hp} (sr : SR F α P O ρ w σ H) {i : Nat} (h : isVal ρ i) : ∃ v, σ[i]? = some (some v) ∧ Rep F.K α P (rd ρ i) v := by
  unfold isVal at h
  unfold rd
  cases e : ρ[i]? with
  | none => rw [e] at h; exact h.elim
  | some s =>
    rw [e] at h
    obtain ⟨x, e1, r⟩ := sr.en.at_ i s e
    cases s with
    | un => exact h.elim
    | own _ => exact h.elim
    | val d =>
      obtain ⟨v, rfl, r⟩ := r
      exact ⟨v, e1, r⟩
theorem SR.bound {F : Fx} {α : List Addr} {P O : Hp} {ρ : En} {w : W} {σ : L2.St} {H : Hp} (sr : SR F α P O ρ w σ H) {i : Nat} (h : isBound ρ i) : ∃ v, σ[i]? = some (some v) ∧ RB F.K α P O (rd ρ i) v := by
  unfold isBound at h
  unfold rd
  cases e : ρ[i]? with
  | none => rw [e] at h; exact h.elim
  | some s =>
    rw [e] at h
    obtain ⟨x, e1, r⟩ := sr.en.at_ i s e
    cases s with
    | un => exact h.elim
    | own ds =>
      obtain ⟨a, vs, rfl, r1, r2, r3⟩ := r
      exact ⟨_, e1, .inr ⟨ds, a, vs, rfl, rfl, r1, r2, r3⟩⟩
    | val d =>
      obtain ⟨v, rfl, r⟩ := r
      exact ⟨v, e1, .inl r⟩
theorem pe_Var {i : Nat} (h : PE X e (tVar i)) : PE X e (tO X.K T S .pl (.var i)) :=
  PEimp h fun σ H Q ⟨F, α, P, O, ρ, w, hK, hT, sr, wx, o⟩ => by
    obtain ⟨v, e1, r⟩ := sr.val wx
    exact ⟨v, e1, o α P H v (Pre.refl _) (Sub.refl _) sr r⟩
theorem pe_Brw {i : Nat} (h : PE X e (tVar i)) : PE X e (tO X.K T S .bw (.brw i)) :=
  PEimp h fun σ H Q ⟨F, α, P, O, ρ, w, hK, hT, sr, wx, o⟩ => by
    obtain ⟨v, e1, r⟩ := sr.bound wx
    exact ⟨v, e1, o α P H v (Pre.refl _) (Sub.refl _) sr r⟩
theorem pe_Lit {d : D} {v : V} (h : PE X e (tC v)) (r : ∀ α P, Rep X.K α P d v) : PE X e (tO X.K T S .pl (.lit d)) :=
  PEimp h fun σ H Q ⟨F, α, P, O, ρ, w, hK, hT, sr, wx, o⟩ => o α P H v (Pre.refl _) (Sub.refl _) sr (by show Rep F.K α P d v; rw [hK]; exact r α P)

theorem pe_P2 {o : P2} (h : PE X e (tOp (rP2 X.K T o) (tO X.K T S .bw a) (tO X.K T S .bw b))) : PE X e (tO X.K T S o.knd (.p2 o a b)) :=
  PEimp h fun σ H Q ⟨F, α, P, O, ρ, w, hK, hT, sr, wx, out⟩ => by
    refine ⟨F, α, P, O, ρ, w, hK, hT, sr, wx.1, fun α1 P1 H1 v1 e1 s1 sr1 r1 => ?_⟩
    refine ⟨F, α1, P1, O, ρ, _, hK, hT, sr1, wx.2.1, fun α2 P2 H2 v2 e2 s2 sr2 r2 => ?_⟩
    have r1 : RB F.K α1 P1 O _ _ := r1
    have r2 : RB F.K α2 P2 O _ _ := r2
    rw [hK] at r1 r2
    exact ⟨F, α2, P2, O, ρ, _, σ, _, _, hK, hT, sr2, r1.mono e2 s2, r2, wx.2.2, out.mono (e1.trans e2) (s1.trans s2)⟩
theorem pe_P1 {o : P1} (h : PE X e (tUn (rP1 X.K T o) (tO X.K T S .bw a))) : PE X e (tO X.K T S o.knd (.p1 o a)) :=
  PEimp h fun σ H Q ⟨F, α, P, O, ρ, w, hK, hT, sr, wx, out⟩ => by
    refine ⟨F, α, P, O, ρ, w, hK, hT, sr, wx.1, fun α1 P1 H1 v1 e1 s1 sr1 r1 => ?_⟩
    have r1 : RB F.K α1 P1 O _ _ := r1
    rw [hK] at r1
    exact ⟨F, α1, P1, O, ρ, _, σ, _, hK, hT, sr1, r1, wx.2, out.mono e1 s1⟩
/-- what leaves the store as it is -/
def Ex.still : Ex → Bool
  | .var _ => true
  | .brw _ => true
  | .lit _ => true
  | _ => false
theorem still_w (h : x.still = true) (ρ : En) (w : W) : (ev S x ρ w).2 = w := by
  cases x <;> first | rfl | exact nomatch h
theorem pe_Rpop (hb : b.still = true) (h : PE X e (fun σ H Q => tO X.K T S .bw a σ H fun x H1 => tyV X.K "list" x H1 ∧ tO X.K T S .bw b σ H1 fun y H2 => rP2 X.K T .rpop x y H2 Q)) : PE X e (tO X.K T S .pl (.p2 .rpop a b)) :=
  PEimp h fun σ H Q ⟨F, α, P, O, ρ, w, hK, hT, sr, wx, out⟩ => by
    refine ⟨F, α, P, O, ρ, w, hK, hT, sr, wx.1, fun α1 P1 H1 v1 e1 s1 sr1 r1 => ?_⟩
    have r1' : RB F.K α1 P1 O _ _ := r1
    have hd : d2 .rpop (ev S a ρ w).1 (ev S b ρ (ev S a ρ w).2).1 (ev S b ρ (ev S a ρ w).2).2 := wx.2.2
    obtain ⟨⟨n, ds, hn, hw⟩, _⟩ := hd
    rw [still_w hb] at hw
    refine ⟨?_, F, α1, P1, O, ρ, _, hK, hT, sr1, wx.2.1, fun α2 P2 H2 v2 e2 s2 sr2 r2 => ?_⟩
    · rw [hn] at r1'
      obtain ⟨l, vs, rfl, _, s, _, _⟩ := sr1.lookR r1' hw
      exact .inl ⟨rfl, vs, .inl (.inl s)⟩
    · have r1 : RB F.K α1 P1 O _ _ := r1
      have r2 : RB F.K α2 P2 O _ _ := r2
      rw [hK] at r1 r2
      exact ⟨F, α2, P2, O, ρ, _, σ, _, _, hK, hT, sr2, r1.mono e2 s2, r2, wx.2.2, out.mono (e1.trans e2) (s1.trans s2)⟩
theorem cmp_bool {o : P2} {op : CmpOp} (h : o.cmp = some op) (x y : D) (w : W) : (∃ b, v2 o x y w = .bool b) ∧ w2 o x y w = w ∧ o.knd = .pl := by
  cases o <;> first | exact ⟨⟨_, rfl⟩, rfl, rfl⟩ | exact nomatch h
theorem Res.bool {F : Fx} {α : List Addr} {P O H : Hp} {kd : Knd} {b : Bool} {v : V} (r : Res kd F α P O H (.bool b) v) : v = .bl b := by
  cases kd with
  | pl => exact r
  | fr =>
    rcases r with ⟨r, _⟩ | ⟨_, _, _, e, _⟩
    · exact r
    · cases e
  | bw => exact RB.bl (show RB F.K α P O _ _ from r)
theorem pe_Chn {o o' : P2} {op op' : CmpOp} (ho : o.cmp = some op) (ho' : o'.cmp = some op') (h : PE X e (tChain (rP2 X.K T o) (rP2 X.K T o') (tO X.K T S .bw a) (tO X.K T S .bw b) (tO X.K T S .bw c))) : PE X e (tO X.K T S .pl (.chn o o' a b c)) :=
  PEimp h fun σ H Q ⟨F, α, P, O, ρ, w, hK, hT, sr, wx, out⟩ => by
    refine ⟨F, α, P, O, ρ, w, hK, hT, sr, wx.1, fun α1 P1 H1 v1 e1 s1 sr1 r1 => ?_⟩
    refine ⟨F, α1, P1, O, ρ, _, hK, hT, sr1, wx.2.1, fun α2 P2 H2 v2' e2 s2 sr2 r2 => ?_⟩
    have r1 : RB F.K α1 P1 O _ _ := r1
    have r2 : RB F.K α2 P2 O _ _ := r2
    obtain ⟨⟨bb, hb⟩, hw, hk⟩ := cmp_bool ho (ev S a ρ w).1 (ev S b ρ (ev S a ρ w).2).1 (ev S b ρ (ev S a ρ w).2).2
    obtain ⟨hd, hc⟩ := wx.2.2
    refine ⟨F, α2, P2, O, ρ, _, σ, _, _, hK, hT, sr2, by rw [← hK]; exact r1.mono e2 s2, by rw [← hK]; exact r2, hd, fun α3 P3 H3 v3 e3 s3 sr3 r3 => ?_⟩
    rw [hb] at r3
    rw [hw] at sr3
    have out : Out F α P O ρ σ .pl (if tr (v2 o (ev S a ρ w).1 (ev S b ρ (ev S a ρ w).2).1 (ev S b ρ (ev S a ρ w).2).2) = true then (v2 o' (ev S b ρ (ev S a ρ w).2).1 (ev S c ρ (ev S b ρ (ev S a ρ w).2).2).1 (ev S c ρ (ev S b ρ (ev S a ρ w).2).2).2, (ev S c ρ (ev S b ρ (ev S a ρ w).2).2).2) else (PyData.bool false, (ev S b ρ (ev S a ρ w).2).2)).1
       (if tr (v2 o (ev S a ρ w).1 (ev S b ρ (ev S a ρ w).2).1 (ev S b ρ (ev S a ρ w).2).2) = true then (v2 o' (ev S b ρ (ev S a ρ w).2).1 (ev S c ρ (ev S b ρ (ev S a ρ w).2).2).1 (ev S c ρ (ev S b ρ (ev S a ρ w).2).2).2, (ev S c ρ (ev S b ρ (ev S a ρ w).2).2).2) else (PyData.bool false, (ev S b ρ (ev S a ρ w).2).2)).2 Q := out
    have hc : tr (v2 o (ev S a ρ w).1 (ev S b ρ (ev S a ρ w).2).1 (ev S b ρ (ev S a ρ w).2).2) = true → wd S c ρ (ev S b ρ (ev S a ρ w).2).2 ∧ d2 o' (ev S b ρ (ev S a ρ w).2).1 (ev S c ρ (ev S b ρ (ev S a ρ w).2).2).1 (ev S c ρ (ev S b ρ (ev S a ρ w).2).2).2 := hc
    rw [hb] at out hc
    refine ⟨bb, r3.bool, ?_⟩
    cases bb with
    | false =>
      rw [if_neg Bool.false_ne_true]
      exact out α3 P3 H3 (.bl false) ((e1.trans e2).trans e3) ((s1.trans s2).trans s3) sr3 (show Rep F.K α3 P3 (.bool false) (.bl false) from rfl)
    | true =>
      rw [if_pos rfl]
      obtain ⟨wc, hd'⟩ := hc rfl
      refine ⟨F, α3, P3, O, ρ, _, hK, hT, sr3, wc, fun α4 P4 H4 v4 e4 s4 sr4 r4 => ?_⟩
      have r4 : RB F.K α4 P4 O _ _ := r4
      obtain ⟨⟨bb', hb'⟩, hw', hk'⟩ := cmp_bool ho' (ev S b ρ (ev S a ρ w).2).1 (ev S c ρ (ev S b ρ (ev S a ρ w).2).2).1 (ev S c ρ (ev S b ρ (ev S a ρ w).2).2).2
      refine ⟨F, α4, P4, O, ρ, _, σ, _, _, hK, hT, sr4, by rw [← hK]; exact r2.mono (e3.trans e4) (s3.trans s4), by rw [← hK]; exact r4, hd', ?_⟩
      rw [hk', hw']
      exact out.mono (((e1.trans e2).trans e3).trans e4) (((s1.trans s2).trans s3).trans s4)
theorem pe_Sll {el : Expr} {lo : Ex} {p p2} (ha : PE X ea (tO X.K T S .bw a)) (hl : PE X el (tO X.K T S .pl lo)) : PE X (.Subscript ea (.Slice (some el) none none p2) p) (tO X.K T S .fr (.sll a lo)) :=
  PEimp (pe_slice (sl_ok (T := T)) ha (po_some hl) po_none) fun σ H Q ⟨F, α, P, O, ρ, w, hK, hT, sr, wx, out⟩ => by
    refine ⟨F, α, P, O, ρ, w, hK, hT, sr, wx.1, fun α1 P1 H1 v1 e1 s1 sr1 r1 => ?_⟩
    have r1 : RB F.K α1 P1 O _ _ := r1
    obtain ⟨hs, wl, hi⟩ := wx.2
    refine ⟨F, α1, P1, O, ρ, _, hK, hT, sr1, wl, fun α2 P2 H2 v2' e2 s2 sr2 r2 => ?_⟩
    have r2 : Rep F.K α2 P2 (ev S lo ρ (ev S a ρ w).2).1 v2' := r2
    obtain ⟨i, hi⟩ := hi
    rw [hi] at r2
    have out : Out F α P O ρ σ .fr (slcD (ev S a ρ w).1 (some (toI (ev S lo ρ (ev S a ρ w).2).1)) none) (ev S lo ρ (ev S a ρ w).2).2 Q := out
    rw [hi] at out
    exact ⟨i, r2, F, α2, P2, O, ρ, _, σ, _, hK, hT, sr2, by rw [← hK]; exact r1.mono e2 s2, hs, out.mono (e1.trans e2) (s1.trans s2)⟩
theorem pe_Slh {el : Expr} {lo : Ex} {p p2} (ha : PE X ea (tO X.K T S .bw a)) (hl : PE X el (tO X.K T S .pl lo)) : PE X (.Subscript ea (.Slice none (some el) none p2) p) (tO X.K T S .fr (.slh a lo)) :=
  PEimp (pe_slice (sl_ok (T := T)) ha po_none (po_some hl)) fun σ H Q ⟨F, α, P, O, ρ, w, hK, hT, sr, wx, out⟩ => by
    refine ⟨F, α, P, O, ρ, w, hK, hT, sr, wx.1, fun α1 P1 H1 v1 e1 s1 sr1 r1 => ?_⟩
    have r1 : RB F.K α1 P1 O _ _ := r1
    obtain ⟨hs, wl, hi⟩ := wx.2
    refine ⟨F, α1, P1, O, ρ, _, hK, hT, sr1, wl, fun α2 P2 H2 v2' e2 s2 sr2 r2 => ?_⟩
    have r2 : Rep F.K α2 P2 (ev S lo ρ (ev S a ρ w).2).1 v2' := r2
    obtain ⟨i, hi⟩ := hi
    rw [hi] at r2
    have out : Out F α P O ρ σ .fr (slcD (ev S a ρ w).1 none (some (toI (ev S lo ρ (ev S a ρ w).2).1))) (ev S lo ρ (ev S a ρ w).2).2 Q := out
    rw [hi] at out
    exact ⟨i, r2, F, α2, P2, O, ρ, _, σ, _, hK, hT, sr2, by rw [← hK]; exact r1.mono e2 s2, hs, out.mono (e1.trans e2) (s1.trans s2)⟩
theorem pe_Slb {el eh : Expr} {lo hi : Ex} {p p2} (ha : PE X ea (tO X.K T S .bw a)) (hl : PE X el (tO X.K T S .pl lo)) (hh : PE X eh (tO X.K T S .pl hi)) : PE X (.Subscript ea (.Slice (some el) (some eh) none p2) p) (tO X.K T S .fr (.slb a lo hi)) :=
  PEimp (pe_slice (sl_ok (T := T)) ha (po_some hl) (po_some hh)) fun σ H Q ⟨F, α, P, O, ρ, w, hK, hT, sr, wx, out⟩ => by
    refine ⟨F, α, P, O, ρ, w, hK, hT, sr, wx.1, fun α1 P1 H1 v1 e1 s1 sr1 r1 => ?_⟩
    have r1 : RB F.K α1 P1 O _ _ := r1
    obtain ⟨hs, wl, ⟨i, hi1⟩, wh, ⟨j, hj1⟩⟩ := wx.2
    refine ⟨F, α1, P1, O, ρ, _, hK, hT, sr1, wl, fun α2 P2 H2 v2' e2 s2 sr2 r2 => ?_⟩
    have r2 : Rep F.K α2 P2 (ev S lo ρ (ev S a ρ w).2).1 v2' := r2
    rw [hi1] at r2
    refine ⟨i, r2, F, α2, P2, O, ρ, _, hK, hT, sr2, wh, fun α3 P3 H3 v3' e3 s3 sr3 r3 => ?_⟩
    have r3 : Rep F.K α3 P3 (ev S hi ρ (ev S lo ρ (ev S a ρ w).2).2).1 v3' := r3
    rw [hj1] at r3
    have out : Out F α P O ρ σ .fr (slcD (ev S a ρ w).1 (some (toI (ev S lo ρ (ev S a ρ w).2).1)) (some (toI (ev S hi ρ (ev S lo ρ (ev S a ρ w).2).2).1))) (ev S hi ρ (ev S lo ρ (ev S a ρ w).2).2).2 Q := out
    rw [hi1, hj1] at out
    exact ⟨j, r3, F, α3, P3, O, ρ, _, σ, _, hK, hT, sr3, by rw [← hK]; exact (r1.mono e2 s2).mono e3 s3, hs, out.mono ((e1.trans e2).trans e3) ((s1.trans s2).trans s3)⟩
end
end Ev

/-! Ev11: truth, displays, calls, comprehensions. -/
namespace Ev
open PySem PySem.Spec PyProof.Rows L2

section
variable {pg : Pg} {T : List (Addr × Str)} {k : Nat} {X : Cx} {sc : Scope} {S : Sm}
variable {e ea eb ec : Expr} {x a b c : Ex} {t : TT}

/-- a value that is a truth, as a test -/
theorem tT_tO {kd : Knd} {σ : L2.St} {H : Hp} {Q : Bool → Hp → Prop} (h : tT X.K T S x σ H Q) : tO X.K T S kd x σ H (fun v H' => ∃ k, v = .bl k ∧ Q k H') := by
  obtain ⟨F, α, P, O, ρ, w, hK, hT, sr, wx, ⟨b, hb⟩, q⟩ := h
  refine ⟨F, α, P, O, ρ, w, hK, hT, sr, wx, fun α1 P1 H1 v e1 s1 sr1 r1 => ⟨b, ?_, ?_⟩⟩
  · rw [hb] at r1; exact r1.bool
  · have := q α1 P1 H1 e1 s1 sr1
    rw [hb] at this
    exact this
theorem pt_of (h : PE X e (tO X.K T S x.knd x)) (hp : plT e = true) : PT X e (tT X.K T S x) := PTimp (pt_val h (plT_ok hp _)) fun σ H Q q => tT_tO q
theorem pt_Cmp (G : Gd pg T k X) {o : P2} {op : CmpOp} (h : o.cmp = some op) (h' : cmpOf op e = some (ea, eb)) (ha : PE X ea (tO X.K T S .bw a)) (hb : PE X eb (tO X.K T S .bw b)) : PT X e (tT X.K T S (.p2 o a b)) :=
  PTimp (p2_pt G h h' ha hb) fun σ H Q q => by
    obtain ⟨F, α, P, O, ρ, w, hK, hT, sr, wx, out⟩ := tT_tO (kd := o.knd) q
    refine ⟨F, α, P, O, ρ, w, hK, hT, sr, wx.1, fun α1 P1 H1 v1 e1 s1 sr1 r1 => ?_⟩
    refine ⟨F, α1, P1, O, ρ, _, hK, hT, sr1, wx.2.1, fun α2 P2 H2 v2 e2 s2 sr2 r2 => ?_⟩
    have r1 : RB F.K α1 P1 O _ _ := r1
    have r2 : RB F.K α2 P2 O _ _ := r2
    rw [hK] at r1 r2
    exact ⟨F, α2, P2, O, ρ, _, σ, _, _, hK, hT, sr2, r1.mono e2 s2, r2, wx.2.2, out.mono (e1.trans e2) (s1.trans s2)⟩
/-- a chain of comparisons: what it asks of the heap -/
theorem chn_of {o o' : P2} {op op' : CmpOp} (ho : o.cmp = some op) (ho' : o'.cmp = some op') {σ : L2.St} {H : Hp} {Q : VK} (h : tO X.K T S .pl (.chn o o' a b c) σ H Q) : tChain (rP2 X.K T o) (rP2 X.K T o') (tO X.K T S .bw a) (tO X.K T S .bw b) (tO X.K T S .bw c) σ H Q := by
    obtain ⟨F, α, P, O, ρ, w, hK, hT, sr, wx, out⟩ := h
    refine ⟨F, α, P, O, ρ, w, hK, hT, sr, wx.1, fun α1 P1 H1 v1 e1 s1 sr1 r1 => ?_⟩
    refine ⟨F, α1, P1, O, ρ, _, hK, hT, sr1, wx.2.1, fun α2 P2 H2 v2' e2 s2 sr2 r2 => ?_⟩
    have r1 : RB F.K α1 P1 O _ _ := r1
    have r2 : RB F.K α2 P2 O _ _ := r2
    obtain ⟨⟨bb, hb⟩, hw, hk⟩ := cmp_bool ho (ev S a ρ w).1 (ev S b ρ (ev S a ρ w).2).1 (ev S b ρ (ev S a ρ w).2).2
    obtain ⟨hd, hc⟩ := wx.2.2
    refine ⟨F, α2, P2, O, ρ, _, σ, _, _, hK, hT, sr2, by rw [← hK]; exact r1.mono e2 s2, by rw [← hK]; exact r2, hd, fun α3 P3 H3 v3 e3 s3 sr3 r3 => ?_⟩
    rw [hb] at r3
    rw [hw] at sr3
    have out : Out F α P O ρ σ .pl (if tr (v2 o (ev S a ρ w).1 (ev S b ρ (ev S a ρ w).2).1 (ev S b ρ (ev S a ρ w).2).2) = true then (v2 o' (ev S b ρ (ev S a ρ w).2).1 (ev S c ρ (ev S b ρ (ev S a ρ w).2).2).1 (ev S c ρ (ev S b ρ (ev S a ρ w).2).2).2, (ev S c ρ (ev S b ρ (ev S a ρ w).2).2).2) else (PyData.bool false, (ev S b ρ (ev S a ρ w).2).2)).1
       (if tr (v2 o (ev S a ρ w).1 (ev S b ρ (ev S a ρ w).2).1 (ev S b ρ (ev S a ρ w).2).2) = true then (v2 o' (ev S b ρ (ev S a ρ w).2).1 (ev S c ρ (ev S b ρ (ev S a ρ w).2).2).1 (ev S c ρ (ev S b ρ (ev S a ρ w).2).2).2, (ev S c ρ (ev S b ρ (ev S a ρ w).2).2).2) else (PyData.bool false, (ev S b ρ (ev S a ρ w).2).2)).2 Q := out
    have hc : tr (v2 o (ev S a ρ w).1 (ev S b ρ (ev S a ρ w).2).1 (ev S b ρ (ev S a ρ w).2).2) = true → wd S c ρ (ev S b ρ (ev S a ρ w).2).2 ∧ d2 o' (ev S b ρ (ev S a ρ w).2).1 (ev S c ρ (ev S b ρ (ev S a ρ w).2).2).1 (ev S c ρ (ev S b ρ (ev S a ρ w).2).2).2 := hc
    rw [hb] at out hc
    refine ⟨bb, r3.bool, ?_⟩
    cases bb with
    | false =>
      rw [if_neg Bool.false_ne_true]
      exact out α3 P3 H3 (.bl false) ((e1.trans e2).trans e3) ((s1.trans s2).trans s3) sr3 (show Rep F.K α3 P3 (.bool false) (.bl false) from rfl)
    | true =>
      rw [if_pos rfl]
      obtain ⟨wc, hd'⟩ := hc rfl
      refine ⟨F, α3, P3, O, ρ, _, hK, hT, sr3, wc, fun α4 P4 H4 v4 e4 s4 sr4 r4 => ?_⟩
      have r4 : RB F.K α4 P4 O _ _ := r4
      obtain ⟨⟨bb', hb'⟩, hw', hk'⟩ := cmp_bool ho' (ev S b ρ (ev S a ρ w).2).1 (ev S c ρ (ev S b ρ (ev S a ρ w).2).2).1 (ev S c ρ (ev S b ρ (ev S a ρ w).2).2).2
      refine ⟨F, α4, P4, O, ρ, _, σ, _, _, hK, hT, sr4, by rw [← hK]; exact r2.mono (e3.trans e4) (s3.trans s4), by rw [← hK]; exact r4, hd', ?_⟩
      rw [hk', hw']
      exact out.mono (((e1.trans e2).trans e3).trans e4) (((s1.trans s2).trans s3).trans s4)
/-- and, or, not -/
theorem pe_And (h : PE X e (tAndV (tO X.K T S .pl a) (tO X.K T S .pl b))) : PE X e (tO X.K T S .pl (.and a b)) :=
  PEimp h fun σ H Q ⟨F, α, P, O, ρ, w, hK, hT, sr, wx, out⟩ => by
    refine ⟨F, α, P, O, ρ, w, hK, hT, sr, wx.1, fun α1 P1 H1 v1 e1 s1 sr1 r1 => ?_⟩
    obtain ⟨⟨bb, hb⟩, wb⟩ := wx.2
    have out : Out F α P O ρ σ .pl (if tr (ev S a ρ w).1 = true then ev S b ρ (ev S a ρ w).2 else ((ev S a ρ w).1, (ev S a ρ w).2)).1 (if tr (ev S a ρ w).1 = true then ev S b ρ (ev S a ρ w).2 else ((ev S a ρ w).1, (ev S a ρ w).2)).2 Q := out
    have wb : tr (ev S a ρ w).1 = true → wd S b ρ (ev S a ρ w).2 := wb
    rw [hb] at r1 out wb
    refine ⟨bb, r1, ?_⟩
    cases bb with
    | false =>
      rw [if_neg Bool.false_ne_true]
      exact out α1 P1 H1 (.bl false) e1 s1 sr1 (show Rep F.K α1 P1 (.bool false) (.bl false) from rfl)
    | true =>
      rw [if_pos rfl]
      exact ⟨F, α1, P1, O, ρ, _, hK, hT, sr1, wb rfl, out.mono e1 s1⟩
theorem pe_Or (h : PE X e (tOrV (tO X.K T S .pl a) (tO X.K T S .pl b))) : PE X e (tO X.K T S .pl (.or a b)) :=
  PEimp h fun σ H Q ⟨F, α, P, O, ρ, w, hK, hT, sr, wx, out⟩ => by
    refine ⟨F, α, P, O, ρ, w, hK, hT, sr, wx.1, fun α1 P1 H1 v1 e1 s1 sr1 r1 => ?_⟩
    obtain ⟨⟨bb, hb⟩, wb⟩ := wx.2
    have out : Out F α P O ρ σ .pl (if tr (ev S a ρ w).1 = true then ((ev S a ρ w).1, (ev S a ρ w).2) else ev S b ρ (ev S a ρ w).2).1 (if tr (ev S a ρ w).1 = true then ((ev S a ρ w).1, (ev S a ρ w).2) else ev S b ρ (ev S a ρ w).2).2 Q := out
    have wb : tr (ev S a ρ w).1 = false → wd S b ρ (ev S a ρ w).2 := wb
    rw [hb] at r1 out wb
    refine ⟨bb, r1, ?_⟩
    cases bb with
    | false =>
      rw [if_neg Bool.false_ne_true]
      exact ⟨F, α1, P1, O, ρ, _, hK, hT, sr1, wb rfl, out.mono e1 s1⟩
    | true =>
      rw [if_pos rfl]
      exact out α1 P1 H1 (.bl true) e1 s1 sr1 (show Rep F.K α1 P1 (.bool true) (.bl true) from rfl)
theorem pe_Not (h : PE X e (tNotV (tO X.K T S .pl a))) : PE X e (tO X.K T S .pl (.not a)) :=
  PEimp h fun σ H Q ⟨F, α, P, O, ρ, w, hK, hT, sr, wx, out⟩ => by
    refine ⟨F, α, P, O, ρ, w, hK, hT, sr, wx.1, fun α1 P1 H1 v1 e1 s1 sr1 r1 => ?_⟩
    obtain ⟨bb, hb⟩ := wx.2
    have out : Out F α P O ρ σ .pl (.bool (!tr (ev S a ρ w).1)) (ev S a ρ w).2 Q := out
    rw [hb] at r1 out
    exact ⟨bb, r1, out α1 P1 H1 (.bl !bb) e1 s1 sr1 (show Rep F.K α1 P1 (.bool !bb) (.bl !bb) from rfl)⟩
theorem tt_And {σ : L2.St} {H : Hp} {Q : Bool → Hp → Prop} (h : tT X.K T S (.and a b) σ H Q) : tAnd (tT X.K T S a) (tT X.K T S b) σ H Q := by
    obtain ⟨F, α, P, O, ρ, w, hK, hT, sr, wx, bo, out⟩ := h
    obtain ⟨⟨bb, hb⟩, wb⟩ := wx.2
    have bo : isBool (if tr (ev S a ρ w).1 = true then ev S b ρ (ev S a ρ w).2 else ((ev S a ρ w).1, (ev S a ρ w).2)).1 := bo
    have wb : tr (ev S a ρ w).1 = true → wd S b ρ (ev S a ρ w).2 := wb
    have out : ∀ α' P' H', Pre α α' → Sub P P' → SR F α' P' O ρ (if tr (ev S a ρ w).1 = true then ev S b ρ (ev S a ρ w).2 else ((ev S a ρ w).1, (ev S a ρ w).2)).2 σ H' → Q (tr (if tr (ev S a ρ w).1 = true then ev S b ρ (ev S a ρ w).2 else ((ev S a ρ w).1, (ev S a ρ w).2)).1) H' := out
    refine ⟨F, α, P, O, ρ, w, hK, hT, sr, wx.1, ⟨bb, hb⟩, fun α1 P1 H1 e1 s1 sr1 => ?_⟩
    rw [hb] at wb out bo ⊢
    cases bb with
    | false => exact out α1 P1 H1 e1 s1 sr1
    | true => exact ⟨F, α1, P1, O, ρ, _, hK, hT, sr1, wb rfl, bo, fun α2 P2 H2 e2 s2 sr2 => out α2 P2 H2 (e1.trans e2) (s1.trans s2) sr2⟩
theorem tt_Or {σ : L2.St} {H : Hp} {Q : Bool → Hp → Prop} (h : tT X.K T S (.or a b) σ H Q) : tOr (tT X.K T S a) (tT X.K T S b) σ H Q := by
    obtain ⟨F, α, P, O, ρ, w, hK, hT, sr, wx, bo, out⟩ := h
    obtain ⟨⟨bb, hb⟩, wb⟩ := wx.2
    have bo : isBool (if tr (ev S a ρ w).1 = true then ((ev S a ρ w).1, (ev S a ρ w).2) else ev S b ρ (ev S a ρ w).2).1 := bo
    have wb : tr (ev S a ρ w).1 = false → wd S b ρ (ev S a ρ w).2 := wb
    have out : ∀ α' P' H', Pre α α' → Sub P P' → SR F α' P' O ρ (if tr (ev S a ρ w).1 = true then ((ev S a ρ w).1, (ev S a ρ w).2) else ev S b ρ (ev S a ρ w).2).2 σ H' → Q (tr (if tr (ev S a ρ w).1 = true then ((ev S a ρ w).1, (ev S a ρ w).2) else ev S b ρ (ev S a ρ w).2).1) H' := out
    refine ⟨F, α, P, O, ρ, w, hK, hT, sr, wx.1, ⟨bb, hb⟩, fun α1 P1 H1 e1 s1 sr1 => ?_⟩
    rw [hb] at wb out bo ⊢
    cases bb with
    | true => exact out α1 P1 H1 e1 s1 sr1
    | false => exact ⟨F, α1, P1, O, ρ, _, hK, hT, sr1, wb rfl, bo, fun α2 P2 H2 e2 s2 sr2 => out α2 P2 H2 (e1.trans e2) (s1.trans s2) sr2⟩
theorem tt_Not {σ : L2.St} {H : Hp} {Q : Bool → Hp → Prop} (h : tT X.K T S (.not a) σ H Q) : tNot (tT X.K T S a) σ H Q := by
    obtain ⟨F, α, P, O, ρ, w, hK, hT, sr, wx, bo, out⟩ := h
    exact ⟨F, α, P, O, ρ, w, hK, hT, sr, wx.1, wx.2, fun α1 P1 H1 e1 s1 sr1 => out α1 P1 H1 e1 s1 sr1⟩
theorem pe_Ite (h : PE X e (tIf (tT X.K T S c) (tO X.K T S .pl a) (tO X.K T S .pl b))) : PE X e (tO X.K T S .pl (.ite c a b)) :=
  PEimp h fun σ H Q ⟨F, α, P, O, ρ, w, hK, hT, sr, wx, out⟩ => by
    obtain ⟨⟨bb, hb⟩, wa, wb⟩ := wx.2
    have out : Out F α P O ρ σ .pl (if tr (ev S c ρ w).1 = true then ev S a ρ (ev S c ρ w).2 else ev S b ρ (ev S c ρ w).2).1 (if tr (ev S c ρ w).1 = true then ev S a ρ (ev S c ρ w).2 else ev S b ρ (ev S c ρ w).2).2 Q := out
    have wa : tr (ev S c ρ w).1 = true → wd S a ρ (ev S c ρ w).2 := wa
    have wb : tr (ev S c ρ w).1 = false → wd S b ρ (ev S c ρ w).2 := wb
    refine ⟨F, α, P, O, ρ, w, hK, hT, sr, wx.1, ⟨bb, hb⟩, fun α1 P1 H1 e1 s1 sr1 => ?_⟩
    rw [hb] at wa wb out ⊢
    cases bb with
    | false => exact ⟨F, α1, P1, O, ρ, _, hK, hT, sr1, wb rfl, out.mono e1 s1⟩
    | true => exact ⟨F, α1, P1, O, ρ, _, hK, hT, sr1, wa rfl, out.mono e1 s1⟩

/-! ### displays, calls -/
theorem pa_Nil : PA X [] (tA X.K T S .nil) := PAimp pa_nil fun σ H Q ⟨F, α, P, O, ρ, w, hK, hT, sr, wx, out⟩ => out α P H [] (Pre.refl _) (Sub.refl _) sr rfl
theorem pa_Cons {es : List Expr} {xs : Exs} (ha : PE X ea (tO X.K T S .pl a)) (hs : PA X es (tA X.K T S xs)) (hn : nStar ea = true) : PA X (ea :: es) (tA X.K T S (.cons a xs)) :=
  PAimp (pa_cons ha hs (nStar_ok hn _ _)) fun σ H Q ⟨F, α, P, O, ρ, w, hK, hT, sr, wx, out⟩ => by
    refine ⟨F, α, P, O, ρ, w, hK, hT, sr, wx.1, fun α1 P1 H1 v1 e1 s1 sr1 r1 => ?_⟩
    exact ⟨F, α1, P1, O, ρ, _, hK, hT, sr1, wx.2, fun α2 P2 H2 vs e2 s2 sr2 r2 => out α2 P2 H2 (v1 :: vs) (e1.trans e2) (s1.trans s2) sr2 ⟨v1, vs, rfl, Rep.mono e2 s2 _ _ r1, r2⟩⟩
def Exs.len : Exs → Nat
  | .nil => 0
  | .cons _ es => es.len + 1
theorem evs_len : ∀ (es : Exs) (ρ : En) (w : W), (evs S es ρ w).1.length = es.len
  | .nil, _, _ => rfl
  | .cons e es, ρ, w => by
    show ((evs S es ρ (ev S e ρ w).2).1).length + 1 = _
    rw [evs_len es]; rfl
theorem pe_Tup {es : List Expr} {xs : Exs} {x1 p} (h : PA X es (tA X.K T S xs)) (hl : xs.len ≤ 1000) : PE X (.Tuple es x1 p) (tO X.K T S .pl (.tup xs)) :=
  PEimp (pe_tup h) fun σ H Q ⟨F, α, P, O, ρ, w, hK, hT, sr, wx, out⟩ => by
    refine ⟨F, α, P, O, ρ, w, hK, hT, sr, wx, fun α1 P1 H1 vs e1 s1 sr1 r1 => ?_⟩
    have hl' : (evs S xs ρ w).1.length ≤ sizeLine := by rw [evs_len]; exact Nat.le_trans hl (by decide)
    exact ⟨by rw [r1.length]; exact hl', Out.newT (out.mono e1 s1) sr1 hl' r1⟩
theorem pe_Lst {es : List Expr} {xs : Exs} {p} (h : PA X es (tA X.K T S xs)) (hl : xs.len ≤ 1000) : PE X (.List es p) (tO X.K T S .fr (.lst xs)) :=
  PEimp (pe_lst h) fun σ H Q ⟨F, α, P, O, ρ, w, hK, hT, sr, wx, out⟩ => by
    refine ⟨F, α, P, O, ρ, w, hK, hT, sr, wx, fun α1 P1 H1 vs e1 s1 sr1 r1 => ?_⟩
    have hl' : (evs S xs ρ w).1.length ≤ sizeLine := by rw [evs_len]; exact Nat.le_trans hl (by decide)
    exact ⟨by rw [r1.length]; exact hl', Out.newL (out.mono e1 s1) sr1 hl' r1⟩
theorem pe_Nlst {es : List Expr} {xs : Exs} {p} (h : PA X es (tA X.K T S xs)) (hl : xs.len ≤ 1000) : PE X (.List es p) (tO X.K T S .pl (.nlst xs)) :=
  PEimp (pe_lst h) fun σ H Q ⟨F, α, P, O, ρ, w, hK, hT, sr, wx, out⟩ => by
    refine ⟨F, α, P, O, ρ, w, hK, hT, sr, wx, fun α1 P1 H1 vs e1 s1 sr1 r1 => ?_⟩
    have hl' : (evs S xs ρ w).1.length ≤ sizeLine := by rw [evs_len]; exact Nat.le_trans hl (by decide)
    refine ⟨by rw [r1.length]; exact hl', fun p n => ?_⟩
    have sr2 := sr1.newW n hl' r1
    exact out (α1 ++ [p]) P1 _ _ (e1.trans (pre_app _ _)) s1 sr2 ⟨(evs S xs ρ w).2.length, p, rfl, rfl, by rw [sr1.wl, List.getElem?_append_right (Nat.le_refl _), Nat.sub_self]; rfl⟩
theorem pe_Stor (h : PE X e (tO X.K T S .fr a)) : PE X e (tO X.K T S .pl (.stor a)) :=
  PEimp h fun σ H Q ⟨F, α, P, O, ρ, w, hK, hT, sr, wx, out⟩ => by
    obtain ⟨wa, ds, hd⟩ := wx
    have hd : (ev S a ρ w).1 = .list ds := hd
    have out : Out F α P O ρ σ .pl (rf (ev S a ρ w).2.length) ((ev S a ρ w).2 ++ [.lst (its (ev S a ρ w).1)]) Q := out
    refine ⟨F, α, P, O, ρ, w, hK, hT, sr, wa, fun α1 P1 H1 v e1 s1 sr1 r1 => ?_⟩
    rw [hd] at r1 out
    rcases r1 with ⟨_, hn⟩ | ⟨ds', l, vs, hd', rfl, h1, h2, h3, h4, h5, h6, h7⟩
    · exact absurd rfl (hn ds)
    · cases hd'
      have sr2 := sr1.adopt h1 h2 h3 h4 h5 h6 h7
      exact out (α1 ++ [l]) P1 H1 _ (e1.trans (pre_app _ _)) s1 sr2 ⟨(ev S a ρ w).2.length, l, rfl, rfl, by rw [sr1.wl, List.getElem?_append_right (Nat.le_refl _), Nat.sub_self]; rfl⟩
theorem noStars (q : Pos) {env : Env} : ∀ {es : List Expr}, es.all nStar = true → (backTo q (starEach es env)).any (·.1) = false
  | [], _ => rfl
  | e :: es, hn => by
    rw [List.all_cons, Bool.and_eq_true] at hn
    have ih := noStars q (env := env) hn.2
    rw [nStar_ok hn.1]
    unfold backTo at ih ⊢
    rw [List.map_cons, List.any_cons, ih]
    rfl
theorem pe_Call (G : Gd pg T k X) (Sx : Sc X sc) {i : Nat} {f : Str} {d : Def} (hi : pg.fns[i]? = some (f, d)) {es : List Expr} {xs : Exs} {p q} (hg : sc.names.lookup f = some .globalImplicit) (h : PA X (ea :: es) (tA X.K T (fnS pg k) xs))
    (hdb : (f == ("__debug__" : Str)) = false) (hs : nStar ea = true) (hn : es.all nStar = true) : PE X (.Call (.Name f p) (ea :: es) [] q) (tO X.K T (fnS pg k) .pl (.call i xs)) := by
  obtain ⟨fa, fd, hm, hk, hb, fn⟩ := G.fns i f d hi
  have hpl := noStars q (env := X.env) hn
  refine PEimp (pe_call (E := E0) fn G.room (Sx.gl hg) hm hk hb .nil pass0 h hdb (nStar_ok hs _ _) hpl) fun σ H Q ⟨F, α, P, O, ρ, w, hK, hT, sr, wx, out⟩ => ?_
  refine ⟨F, α, P, O, ρ, w, hK, hT, sr, wx.1, fun α1 P1 H1 vs e1 s1 sr1 r1 => ?_⟩
  show spF X.K T (fnS pg k) i (vs ++ []) H1 Q E0
  rw [List.append_nil]
  exact ⟨F, α1, P1, O, ρ, _, σ, _, hK, hT, sr1, by rw [← hK]; exact r1, wx.2, out.mono e1 s1⟩
end
end Ev

/-! Ev12: what is gone through, comprehensions. -/
namespace Ev
open PySem PySem.Spec PyProof.Rows L2

/-! ### a list that grows -/
section
variable {F : Fx} {α : List Addr} {P O : Hp} {ρ ρ' : En} {w : W} {σ σ' : L2.St} {H : Hp} {D' : Addr} {vs vs' : List V} {x : HO}
theorem EnR.addO {K : PySem.W.Frag} (h : EnR K α P O ρ σ) (n : O D' = none) : EnR K α P (upd O D' x) ρ σ :=
  ⟨h.len, fun i s e => by
    obtain ⟨y, e1, r⟩ := h.at_ i s e
    refine ⟨y, e1, ?_⟩
    cases s with
    | un => trivial
    | val d => exact r
    | own ds =>
      obtain ⟨a, us, k1, k2, k3, k4⟩ := r
      exact ⟨a, us, k1, by rw [upd_ne (ne_of_none k2 n)]; exact k2, k3, k4⟩, h.apart⟩
theorem SR.hide (h : SR F α P O ρ w σ H) (n : H D' = none) : SR F α P (upd O D' (.lst [])) ρ w σ (upd H D' (.lst [])) := by
  have h1 := h.newF (o := .lst []) n (fun _ z => nomatch z)
  have h2 := h1.setOwn (i := ρ.length) (ds := []) (a := D') (vs := []) upd_same (h.notP n) (h.notO n) (h.notα n) (h.not0 n) (Nat.zero_le _) rfl
  rw [List.set_eq_of_length_le (Nat.le_refl _), List.set_eq_of_length_le (by rw [h.en.len]; exact Nat.le_refl _)] at h2
  exact h2
theorem SR.grow (h : SR F α P (upd O D' (.lst vs)) ρ w σ H) (hen : EnR F.K α P O ρ σ) (n : O D' = none) (vs' : List V) : SR F α P (upd O D' (.lst vs')) ρ w σ (upd H D' (.lst vs')) := by
  have hP := h.oP D' _ upd_same
  have hH := h.oH D' _ upd_same
  have h0 := h.o0 D' _ upd_same
  have ha : ∀ a ∈ α, a ≠ D' := fun a hm z => by
    have q := (h.aP a hm).2
    rw [z, upd_same] at q; cases q
  refine ⟨h.pH.upd hP, fun b x q => ?_, fun b x q => ?_, fun b x q => ?_, h.nd, fun b hm => ⟨(h.aP b hm).1, ?_⟩, h.a0, fun b x q hm ht => ?_, h.wl, fun m o b f1 f2 => ?_, hen.addO n, fun t ht => ?_, h.a1, h.ft, h.tt, fun b x q => ?_, h.p0⟩
  · by_cases hb : b = D'
    · subst hb; rw [upd_same] at q ⊢; exact q
    · rw [upd_ne hb] at q ⊢; exact h.oH b x (by rw [upd_ne hb]; exact q)
  · by_cases hb : b = D'
    · rw [hb]; exact hP
    · rw [upd_ne hb] at q; exact h.oP b x (by rw [upd_ne hb]; exact q)
  · by_cases hb : b = D'
    · rw [hb]; exact h0
    · rw [upd_ne hb] at q; exact h.o0 b x (by rw [upd_ne hb]; exact q)
  · have q := (h.aP b hm).2
    rw [upd_ne (ha b hm)] at q ⊢
    exact q
  · rw [upd_ne (fun z => by rw [z, h0] at q; cases q)]
    exact h.fr b x q hm ht
  · rw [upd_ne (ha b (List.mem_of_getElem? f2))]
    exact h.wr m o b f1 f2
  · obtain ⟨ps, g1, g2, g3⟩ := h.tb t ht
    have ne : ∀ {b : Addr} {o : HO}, H b = some o → (∀ vs, o ≠ .lst vs) → b ≠ D' := fun {b o} q n z => by rw [z, hH] at q; cases q; exact n _ rfl
    refine ⟨ps, by rw [upd_ne (ne g1 fun _ q => by cases q)]; exact g1, g2, fun pos cv q => ?_⟩
    obtain ⟨c, k1, k2⟩ := g3 pos cv q
    exact ⟨c, k1, by rw [upd_ne (ne k2 fun _ q => by unfold LamX.CodeO at q; cases q)]; exact k2⟩
  · by_cases hb : b = D'
    · rw [hb, upd_same] at q; exact ⟨vs', (Option.some.inj q).symm⟩
    · rw [upd_ne hb] at q; exact h.oL b x (by rw [upd_ne hb]; exact q)
theorem SR.unhide (h : SR F α P (upd O D' x) ρ w σ H) (hen : EnR F.K α P O ρ' σ') (n : O D' = none) : SR F α P O ρ' w σ' H := by
  have s : Sub O (upd O D' x) := Sub.ext n
  refine ⟨h.pH, s.trans h.oH, fun b x q => h.oP b x (s b x q), fun b x q => h.o0 b x (s b x q), h.nd, fun b hm => ⟨(h.aP b hm).1, ?_⟩, h.a0, h.fr, h.wl, h.wr, hen, h.tb, h.a1, h.ft, h.tt, fun b x q => h.oL b x (s b x q), h.p0⟩
  cases e : O b with
  | none => rfl
  | some y => have := (h.aP b hm).2; rw [s b y e] at this; cases this
theorem SR.hidden (h : SR F α P (upd O D' x) ρ w σ H) : H D' = some x ∧ P D' = none ∧ D' ∉ α ∧ F.H0 D' = none :=
  ⟨h.oH D' _ upd_same, h.oP D' _ upd_same, (fun hm => by have q := (h.aP D' hm).2; rw [upd_same] at q; exact nomatch q), h.o0 D' _ upd_same⟩
end

/-! ### sources -/
theorem PIor {X : Cx} {tg e : Expr} {t t' : TI} (h : PI X tg e t) (h' : PI X tg e t') : PI X tg e (fun σ H R => t σ H R ∨ t' σ H R) :=
  ⟨fun pins s σ H R I q => q.elim (h.run pins s σ H R I) (h'.run pins s σ H R I)⟩
theorem reps_rng {K : PySem.W.Frag} {α : List Addr} {P : Hp} (a b : Int) : Reps K α P (rngL a b) ((List.range (b - a).toNat).map fun (k : Nat) => V.int (a + (k : Int))) := by
  have : ∀ l : List Nat, Reps K α P (l.map fun (k : Nat) => PyData.int (a + (k : Int))) (l.map fun (k : Nat) => V.int (a + (k : Int))) := fun l => by
    induction l with
    | nil => rfl
    | cons x l ih => exact ⟨_, _, rfl, rfl, ih⟩
  exact this _
theorem walkRng (a b : Int) {G : Hp → Prop} : Walk (Itr a (b - a).toNat) ((List.range (b - a).toNat).map fun (k : Nat) => V.int (a + (k : Int))).length G (YAt ((List.range (b - a).toNat).map fun (k : Nat) => V.int (a + (k : Int)))) := by
  rw [List.length_map, List.length_range]
  refine walk_range.mono (fun _ _ => trivial) fun i H x H' hi _ y => ⟨y.1, ?_⟩
  rw [List.getElem?_map, List.getElem?_range hi, y.2]
  rfl
theorem rngL_len (a b : Int) : (rngL a b).length = (b - a).toNat := by unfold rngL; rw [List.length_map, List.length_range]
section
variable {pg : Pg} {T : List (Addr × Str)} {k : Nat} {X : Cx} {sc : Scope} {S : Sm}
variable {e ea eb ec tg : Expr} {x a b c : Ex} {t : TT}
theorem pi_Seq (h : PE X ea (tO X.K T S .bw a)) : PI X tg ea (tI X.K T S true (.seq a)) :=
  PIimp (PIor (pi_list h) (pi_tup h)) fun σ H R ⟨F, α, P, O, ρ, w, hK, hT, sr, wx, out⟩ => by
    have out : ∀ α' P' H' J, Pre α α' → Sub P P' → SR F α' P' O ρ (ev S a ρ w).2 σ H' → ItW X.K α' P' O J (its (ev S a ρ w).1) → R J H' := out
    obtain ⟨wa, hs⟩ := wx
    have hs : isSeq (ev S a ρ w).1 := hs
    rcases hs with ⟨ds, hd⟩ | ⟨ds, hd⟩
    · refine .inr ⟨F, α, P, O, ρ, w, hK, hT, sr, wa, fun α1 P1 H1 v1 e1 s1 sr1 r1 => ?_⟩
      have r1 : RB F.K α1 P1 O (ev S a ρ w).1 v1 := r1
      rw [hd] at r1
      rcases r1 with ⟨l, vs, rfl, s, z, r⟩ | ⟨_, _, _, q, _⟩
      · rw [hK] at s r
        refine ⟨l, rfl, ⟨vs, sr1.pH.sqT s⟩, out α1 P1 H1 _ e1 s1 sr1 ?_⟩
        rw [hd]
        exact ⟨vs, r, z, walk_tup.mono (fun H h => h.1.sqT s) fun _ _ _ _ _ _ y => y⟩
      · cases q
    · refine .inl ⟨F, α, P, O, ρ, w, hK, hT, sr, wa, fun α1 P1 H1 v1 e1 s1 sr1 r1 => ?_⟩
      have r1 : RB F.K α1 P1 O (ev S a ρ w).1 v1 := r1
      rw [hd] at r1
      rcases r1 with ⟨l, vs, rfl, s, z, r⟩ | ⟨_, l, vs, q, rfl, s, z, r⟩
      · rw [hK] at s r
        refine ⟨l, rfl, ⟨vs, sr1.pH.sqL s⟩, out α1 P1 H1 _ e1 s1 sr1 ?_⟩
        rw [hd]
        exact ⟨vs, r, z, walk_list.mono (fun H h => h.1.sqL s) fun _ _ _ _ _ _ y => y⟩
      · cases q
        rw [hK] at r
        refine ⟨l, rfl, ⟨vs, .inl (.inl (sr1.oH _ _ s))⟩, out α1 P1 H1 _ e1 s1 sr1 ?_⟩
        rw [hd]
        exact ⟨vs, r, z, walk_list.mono (fun H h => .inl (.inl (h.2 _ _ s))) fun _ _ _ _ _ _ y => y⟩
theorem pi_SeqP (h : PE X ea (tO X.K T S .pl a)) : PI X tg ea (tI X.K T S false (.seq a)) :=
  PIimp (PIor (pi_list h) (pi_tup h)) fun σ H R ⟨F, α, P, O, ρ, w, hK, hT, sr, wx, out⟩ => by
    have out : ∀ α' P' H' J, Pre α α' → Sub P P' → SR F α' P' O ρ (ev S a ρ w).2 σ H' → ItW X.K α' P' (fun _ => none) J (its (ev S a ρ w).1) → R J H' := out
    obtain ⟨wa, hs⟩ := wx
    have hs : isSeq (ev S a ρ w).1 := hs
    rcases hs with ⟨ds, hd⟩ | ⟨ds, hd⟩
    · refine .inr ⟨F, α, P, O, ρ, w, hK, hT, sr, wa, fun α1 P1 H1 v1 e1 s1 sr1 r1 => ?_⟩
      have r1 : Rep F.K α1 P1 (ev S a ρ w).1 v1 := r1
      rw [hd] at r1
      obtain ⟨l, vs, rfl, s, z, r⟩ := r1
      rw [hK] at s r
      refine ⟨l, rfl, ⟨vs, sr1.pH.sqT s⟩, out α1 P1 H1 _ e1 s1 sr1 ?_⟩
      rw [hd]
      exact ⟨vs, r, z, walk_tup.mono (fun H h => h.1.sqT s) fun _ _ _ _ _ _ y => y⟩
    · refine .inl ⟨F, α, P, O, ρ, w, hK, hT, sr, wa, fun α1 P1 H1 v1 e1 s1 sr1 r1 => ?_⟩
      have r1 : Rep F.K α1 P1 (ev S a ρ w).1 v1 := r1
      rw [hd] at r1
      obtain ⟨l, vs, rfl, s, z, r⟩ := r1
      rw [hK] at s r
      refine ⟨l, rfl, ⟨vs, sr1.pH.sqL s⟩, out α1 P1 H1 _ e1 s1 sr1 ?_⟩
      rw [hd]
      exact ⟨vs, r, z, walk_list.mono (fun H h => h.1.sqL s) fun _ _ _ _ _ _ y => y⟩
theorem pi_Rng1 {bo : Bool} (G : Gd pg T k X) (Sx : Sc X sc) (h : call1 sc "range" e = some ea) (ha : PE X ea (tO X.K T S .pl a)) : PI X tg e (tI X.K T S bo (.rng1 a)) := by
  obtain ⟨⟨p, q, rfl⟩, g, s1⟩ := call1_ok h
  refine PIimp (pi_range1 (Sx.gl g) G.no (pa1 ha s1) (by rw [nStar_ok s1]; rfl)) fun σ H R ⟨F, α, P, O, ρ, w, hK, hT, sr, wx, out⟩ => ?_
  have out : ∀ α' P' H' J, Pre α α' → Sub P P' → SR F α' P' O ρ (ev S a ρ w).2 σ H' → ItW X.K α' P' (match bo with | true => O | false => fun _ => none) J (rngL 0 (toI (ev S a ρ w).1)) → R J H' := out
  obtain ⟨⟨i, hi⟩, h1, h2⟩ := wx.2
  refine ⟨F, α, P, O, ρ, w, hK, hT, sr, wx.1, fun α1 P1 H1 v1 e1 s1 sr1 r1 => ?_⟩
  rw [hi] at r1 out h1 h2
  have h1 : i ≤ 1000000 := h1
  have h2 : -1000000 ≤ i := h2
  have r1 : v1 = .int i := r1
  subst r1
  refine ⟨i, rfl, by omega, by omega, ?_⟩
  have := out α1 P1 H1 (Itr 0 (i - 0).toNat) e1 s1 sr1 ⟨_, reps_rng 0 i, by rw [rngL_len]; show (i - 0).toNat ≤ 2 ^ 24; omega, walkRng 0 i⟩
  rw [Int.sub_zero] at this
  exact this
theorem pi_Rng2 {bo : Bool} (G : Gd pg T k X) (Sx : Sc X sc) (h : call2 sc "range" e = some (ea, eb)) (ha : PE X ea (tO X.K T S .pl a)) (hb : PE X eb (tO X.K T S .pl b)) : PI X tg e (tI X.K T S bo (.rng2 a b)) := by
  obtain ⟨⟨p, q, rfl⟩, g, s1, s2⟩ := call2_ok h
  refine PIimp (pi_range2 (Sx.gl g) G.no (pa2 ha hb s1 s2) (by rw [nStar_ok s1, nStar_ok s2]; rfl) (by rw [nStar_ok s2]; rfl)) fun σ H R ⟨F, α, P, O, ρ, w, hK, hT, sr, wx, out⟩ => ?_
  have out : ∀ α' P' H' J, Pre α α' → Sub P P' → SR F α' P' O ρ (ev S b ρ (ev S a ρ w).2).2 σ H' → ItW X.K α' P' (match bo with | true => O | false => fun _ => none) J (rngL (toI (ev S a ρ w).1) (toI (ev S b ρ (ev S a ρ w).2).1)) → R J H' := out
  obtain ⟨wb, ⟨i, hi⟩, ⟨j, hj⟩, h1, h2, h3, h4⟩ := wx.2
  have hj : (ev S b ρ (ev S a ρ w).2).1 = .int j := hj
  refine ⟨F, α, P, O, ρ, w, hK, hT, sr, wx.1, fun α1 P1 H1 v1 e1 s1 sr1 r1 => ?_⟩
  refine ⟨F, α1, P1, O, ρ, _, hK, hT, sr1, wb, fun α2 P2 H2 v2 e2 s2 sr2 r2 => ?_⟩
  rw [hi] at r1 out h1 h2
  rw [hj] at r2 out h3 h4
  have h1 : -1000000 ≤ i := h1
  have h2 : i ≤ 1000000 := h2
  have h3 : -1000000 ≤ j := h3
  have h4 : j ≤ 1000000 := h4
  have r1 : v1 = .int i := r1
  have r2 : v2 = .int j := r2
  subst r1
  subst r2
  refine ⟨i, j, rfl, ⟨by omega, by omega, by omega, by omega⟩, ?_⟩
  exact out α2 P2 H2 (Itr i (j - i).toNat) (e1.trans e2) (s1.trans s2) sr2 ⟨_, reps_rng i j, by rw [rngL_len]; show (j - i).toNat ≤ 2 ^ 24; omega, walkRng i j⟩

/-! ### targets -/
def gsOf : List Nat → TGs
  | [] => gNil
  | i :: is => gCons (gName i) (gsOf is)
def gOf (K : PySem.W.Frag) (p : Pat) : TG := match p with
  | .one i => gName i
  | .tup is => gTup K is.length (gsOf is)
theorem wipe_set {σ : L2.St} {i : Nat} {x : Option V} : ∀ {vs : List Nat}, i ∈ vs → wipe (σ.set i x) vs = wipe σ vs := by
  have sw : ∀ {vs : List Nat}, wipe (σ.set i x) vs = wipe σ vs ∨ wipe (σ.set i x) vs = (wipe σ vs).set i x := fun {vs} => by
    induction vs with
    | nil => exact .inr rfl
    | cons v vs ih =>
      show (wipe (σ.set i x) vs).set v none = (wipe σ vs).set v none ∨ (wipe (σ.set i x) vs).set v none = ((wipe σ vs).set v none).set i x
      rcases ih with ih | ih
      · exact .inl (by rw [ih])
      · by_cases h : i = v
        · subst h
          exact .inl (by rw [ih, List.set_set])
        · exact .inr (by rw [ih, List.set_comm _ _ h])
  intro vs
  induction vs with
  | nil => intro h; cases h
  | cons v vs ih =>
    intro h
    show (wipe (σ.set i x) vs).set v none = (wipe σ vs).set v none
    rcases List.mem_cons.mp h with rfl | h
    · rcases sw (vs := vs) with q | q
      · rw [q]
      · rw [q, List.set_set]
    · rw [ih h]
theorem gsOf_ok {F : Fx} {α : List Addr} {P O : Hp} {w : W} {H : Hp} : ∀ {is : List Nat} {ds : List D} {vs : List V} {ρ : En} {σ : L2.St} {Q : L2.St → Hp → Prop}, SR F α P O ρ w σ H → Reps F.K α P ds vs → ds.length = is.length →
    (∀ σ', SR F α P O (setVs ρ is ds) w σ' H → (∀ us : List Nat, (∀ i ∈ is, i ∈ us) → wipe σ' us = wipe σ us) → Q σ' H) → gsOf is vs σ H Q
  | [], [], vs, ρ, σ, Q, sr, r, hl, q => ⟨r, q σ sr fun _ _ => rfl⟩
  | [], _ :: _, _, _, _, _, _, _, hl, _ => nomatch hl
  | _ :: _, [], _, _, _, _, _, _, hl, _ => nomatch hl
  | i :: is, d :: ds, vs, ρ, σ, Q, sr, ⟨v, r, e, r1, r2⟩, hl, q => by
    refine ⟨v, r, e, ?_⟩
    refine gsOf_ok (is := is) (sr.setVal r1) r2 (by simpa using hl) fun σ' sr' hw => q σ' sr' fun us hu => ?_
    rw [hw us fun j hj => hu j (List.mem_cons_of_mem _ hj)]
    exact wipe_set (hu i List.mem_cons_self)
theorem gOf_ok {F : Fx} {α : List Addr} {P O : Hp} {w : W} {H : Hp} {p : Pat} {d : D} {v : V} {ρ : En} {σ : L2.St} {Q : L2.St → Hp → Prop} (hK : F.K = X.K) (sr : SR F α P O ρ w σ H) (r : Rep F.K α P d v) (hp : p.ok d)
    (q : ∀ σ', SR F α P O (p.bind ρ d) w σ' H → (∀ us : List Nat, (∀ i ∈ p.slots, i ∈ us) → wipe σ' us = wipe σ us) → Q σ' H) : gOf X.K p v σ H Q := by
  cases p with
  | one i => exact q _ (sr.setVal r) fun us hu => wipe_set (hu i List.mem_cons_self)
  | tup is =>
    obtain ⟨ds, rfl, hl⟩ := hp
    obtain ⟨a, vs, rfl, s, z, rr⟩ := r
    refine ⟨a, vs, rfl, by rw [← hK]; exact sr.pH.sqT s, by rw [rr.length, hl], gsOf_ok sr rr hl q⟩
def nameAt (N : List Str) (sc : Scope) (i : Nat) : Expr → Bool
  | .Name x _ => decide (N[i]? = some x) && locB sc x
  | _ => false
def namesAt (N : List Str) (sc : Scope) : List Nat → List Expr → Bool
  | [], [] => true
  | i :: is, e :: es => nameAt N sc i e && namesAt N sc is es
  | _, _ => false
def patB (N : List Str) (sc : Scope) : Pat → Expr → Bool
  | .one i, e => nameAt N sc i e
  | .tup is, .Tuple es _ _ => namesAt N sc is es
  | _, _ => false
theorem nameAt_pg {i : Nat} (hN : X.N.Nodup) (Sx : Sc X sc) (h : nameAt X.N sc i e = true) : PG X e (gName i) ∧ ∃ x p, e = .Name x p := by
  unfold nameAt at h
  split at h
  · rw [Bool.and_eq_true, decide_eq_true_eq] at h
    obtain ⟨l, f⟩ := Sx.loc (locB_ok h.2)
    exact ⟨pg_name hN h.1 l f, _, _, rfl⟩
  · cases h
theorem namesAt_pg (hN : X.N.Nodup) (Sx : Sc X sc) : ∀ {is : List Nat} {es : List Expr}, namesAt X.N sc is es = true → PGs X es (gsOf is) ∧ (assignEach es X.env).length = is.length ∧ (assignEach es X.env).findIdx? (·.1) = none
  | [], [], _ => ⟨pgs_nil, rfl, rfl⟩
  | [], _ :: _, h => nomatch h
  | _ :: _, [], h => nomatch h
  | i :: is, e :: es, h => by
    have h : (nameAt X.N sc i e && namesAt X.N sc is es) = true := h
    rw [Bool.and_eq_true] at h
    obtain ⟨p1, x, p, rfl⟩ := nameAt_pg hN Sx h.1
    obtain ⟨p2, l2, f2⟩ := namesAt_pg hN Sx h.2
    refine ⟨pgs_cons p1 p2 rfl, ?_, ?_⟩
    · show (assignEach es X.env).length + 1 = is.length + 1
      rw [l2]
    · show List.findIdx? (·.1) ((false, assign (.Name x p) X.env) :: assignEach es X.env) = none
      rw [List.findIdx?_cons, f2]; rfl
theorem patB_pg (G : Gd pg T k X) (Sx : Sc X sc) {p : Pat} (h : patB X.N sc p e = true) : PG X e (gOf X.K p) := by
  cases p with
  | one i => exact (nameAt_pg G.nd Sx h).1
  | tup is =>
    unfold patB at h
    split at h
    · rename_i i _ q
      cases q
    · rename_i is' es _ _ q
      cases q
      obtain ⟨p2, l2, f2⟩ := namesAt_pg G.nd Sx h
      exact pg_tup G.calm p2 l2 f2
    · cases h
end
end Ev

/-! Ev13: comprehensions. -/
namespace Ev
open PySem PySem.Spec PyProof.Rows L2

section
variable (S : Sm) (p : Pat) (tst elt : Ex) (ρ : En)
def cF : D → W → Option D × W := fun x w2' => andThen (ev S tst (p.bind ρ x) w2') fun c w3 => if tr c = true then andThen (ev S elt (p.bind ρ x) w3) fun d w4 => (some d, w4) else (none, w3)
def cOk : D → W → Prop := fun x w2' => p.ok x ∧ wd S tst (p.bind ρ x) w2' ∧ andThen (ev S tst (p.bind ρ x) w2') fun c w3 => isBool c ∧ (tr c = true → wd S elt (p.bind ρ x) w3)
def cNx : D → W → W := fun x w2' => andThen (ev S tst (p.bind ρ x) w2') fun c w3 => if tr c = true then (ev S elt (p.bind ρ x) w3).2 else w3
end
theorem compW_cons {f : D → W → Option D × W} {x : D} {xs : List D} {w : W} : compW f (x :: xs) w = ((f x w).1.toList ++ (compW f xs (f x w).2).1, (compW f xs (f x w).2).2) := rfl
theorem pureC {S : Sm} {p : Pat} {tst elt : Ex} {ρ : En} {w1 : W} : ∀ {xs : List D}, (∀ x ∈ xs, p.ok x ∧ wd S tst (p.bind ρ x) w1 ∧ isBool (ev S tst (p.bind ρ x) w1).1 ∧ (ev S tst (p.bind ρ x) w1).2 = w1 ∧
          (tr (ev S tst (p.bind ρ x) w1).1 = true → wd S elt (p.bind ρ x) w1 ∧ (ev S elt (p.bind ρ x) w1).2 = w1)) →
    wdCW (cOk S p tst elt ρ) (cNx S p tst elt ρ) xs w1 ∧ compW (cF S p tst elt ρ) xs w1 = ((xs.filter fun x => tr (ev S tst (p.bind ρ x) w1).1).map fun x => (ev S elt (p.bind ρ x) w1).1, w1)
  | [], _ => ⟨by unfold wdCW; trivial, rfl⟩
  | x :: xs, h => by
    obtain ⟨h1, h2, h3, h4, h5⟩ := h x List.mem_cons_self
    obtain ⟨i1, i2⟩ := pureC (xs := xs) fun y hy => h y (List.mem_cons_of_mem _ hy)
    have e1 : cNx S p tst elt ρ x w1 = w1 := by
      show (if tr (ev S tst (p.bind ρ x) w1).1 = true then (ev S elt (p.bind ρ x) (ev S tst (p.bind ρ x) w1).2).2 else (ev S tst (p.bind ρ x) w1).2) = w1
      split
      · rw [h4]; exact (h5 ‹_›).2
      · exact h4
    have e2 : cF S p tst elt ρ x w1 = (if tr (ev S tst (p.bind ρ x) w1).1 = true then some (ev S elt (p.bind ρ x) w1).1 else none, w1) := by
      show (if tr (ev S tst (p.bind ρ x) w1).1 = true then (some (ev S elt (p.bind ρ x) (ev S tst (p.bind ρ x) w1).2).1, (ev S elt (p.bind ρ x) (ev S tst (p.bind ρ x) w1).2).2) else (none, (ev S tst (p.bind ρ x) w1).2)) = _
      rw [h4]
      split
      · rw [(h5 ‹_›).2]
      · rfl
    refine ⟨?_, ?_⟩
    · unfold wdCW
      refine ⟨⟨h1, h2, h3, fun ht => ?_⟩, ?_⟩
      · show wd S elt (p.bind ρ x) (ev S tst (p.bind ρ x) w1).2
        rw [h4]; exact (h5 ht).1
      · rw [e1]; exact i1
    · unfold compW
      rw [e2]
      dsimp only
      rw [i2]
      dsimp only
      rw [List.filter_cons]
      split
      · rfl
      · rfl
theorem setVs_un {i : Nat} {s : Sl} : ∀ {is : List Nat} {ds : List D} {ρ : En}, i ∉ is → setVs (ρ.set i s) is ds = (setVs ρ is ds).set i s
  | [], _, _, _ => by unfold setVs; rfl
  | _ :: _, [], _, _ => by unfold setVs; rfl
  | j :: is, d :: ds, ρ, h => by
    rw [List.mem_cons, not_or] at h
    show setVs ((ρ.set i s).set j (.val d)) is ds = (setVs (ρ.set j (.val d)) is ds).set i s
    rw [List.set_comm _ _ h.1, setVs_un h.2]
theorem wipe_comm {ρ : En} {i : Nat} {s : Sl} : ∀ {is : List Nat}, i ∉ is → wipeE (ρ.set i s) is = (wipeE ρ is).set i s
  | [], _ => rfl
  | j :: is, h => by
    rw [List.mem_cons, not_or] at h
    show (wipeE (ρ.set i s) is).set j .un = ((wipeE ρ is).set j .un).set i s
    rw [wipe_comm h.2, List.set_comm _ _ h.1]
theorem wipe_wipe {σ : L2.St} {vs : List Nat} : wipe (wipe σ vs) vs = wipe σ vs := by
  have : ∀ {us : List Nat}, (∀ i ∈ us, i ∈ vs) → wipe (wipe σ us) vs = wipe σ vs := fun {us} => by
    induction us with
    | nil => intro _; rfl
    | cons u us ih =>
      intro h
      show wipe ((wipe σ us).set u none) vs = wipe σ vs
      rw [wipe_set (h u List.mem_cons_self)]
      exact ih fun i hi => h i (List.mem_cons_of_mem _ hi)
  exact this fun i hi => hi
theorem bind_wipe {p : Pat} {d : D} {ρ : En} (hp : p.ok d) (hn : p.slots.Nodup) : p.bind (wipeE ρ p.slots) d = p.bind ρ d := by
  cases p with
  | one i =>
    show (ρ.set i .un).set i (.val d) = ρ.set i (.val d)
    rw [List.set_set]
  | tup is =>
    obtain ⟨ds, rfl, hl⟩ := hp
    show setVs (wipeE ρ is) is ds = setVs ρ is ds
    have hn : is.Nodup := hn
    induction is generalizing ρ ds with
    | nil => rfl
    | cons i is ih =>
      cases ds with
      | nil => cases hl
      | cons d ds =>
        rw [List.nodup_cons] at hn
        show setVs (((wipeE ρ is).set i .un).set i (.val d)) is ds = setVs (ρ.set i (.val d)) is ds
        rw [List.set_set, ← wipe_comm hn.1]
        exact ih hn.2 ds (by simpa using hl) hn.2

section
variable {pg : Pg} {T : List (Addr × Str)} {k : Nat} {X : Cx} {sc : Scope} {S : Sm}
variable {e ea eb ec tg iter eelt : Expr} {x a b c tst elt : Ex} {t : TT} {p : Pat} {src : Src} {ifs : List Expr} {scope : Scope} {own : List (Str × Nat)} {pos : Pos}
theorem pts_yes : PTs X [] (tT X.K T S (.lit (.bool true))) := ⟨fun pins s σ H Q I ⟨F, α, P, O, ρ, w, hK, hT, sr, wx, bo, out⟩ => pts_nil.run pins s σ H Q I (out α P H (Pre.refl _) (Sub.refl _) sr)⟩
/-- what a comprehension asks of the heap -/
def tCW (K : PySem.W.Frag) (T : List (Addr × Str)) (S : Sm) (p : Pat) (src : Src) (tst elt : Ex) : TE := fun σ H Q => ∃ F α P O ρ w, F.K = K ∧ F.T = T ∧ SR F α P O ρ w σ H ∧ wdSrc S src ρ w ∧
      wdCW (cOk S p tst elt ρ) (cNx S p tst elt ρ) (evSrc S src ρ w).1 (evSrc S src ρ w).2 ∧ Out F α P O ρ σ .fr (.list (compW (cF S p tst elt ρ) (evSrc S src ρ w).1 (evSrc S src ρ w).2).1) (compW (cF S p tst elt ρ) (evSrc S src ρ w).1 (evSrc S src ρ w).2).2 Q
theorem tLc_of (ho : own.map (·.2) = p.slots) (hn : p.slots.Nodup) {σ : L2.St} {H : Hp} {Q : VK} (h : tCW X.K T S p src tst elt σ H Q) : tLc (tI X.K T S true src) (gOf X.K p) (tT X.K T S tst) (tO X.K T S .pl elt) (own.map (·.2)) σ H Q := by
    obtain ⟨F, α, P, O, ρ, w, hK, hT, sr, ws, wc, out⟩ := h
    refine ⟨F, α, P, O, ρ, w, hK, hT, sr, ws, fun α1 P1 H1 J e1 s1 sr1 ⟨vs, rv, hz, wk⟩ D hD => ?_⟩
    generalize hxs : (evSrc S src ρ w).1 = xs at wc out rv hz
    generalize hw1 : (evSrc S src ρ w).2 = w1 at wc out sr1
    rw [ho]
    have nO := sr1.notO hD
    have hlen := rv.length
    refine lc_it wk (fun i H => ∃ α2 P2 acc vs' w2, Pre α1 α2 ∧ Sub P1 P2 ∧ SR F α2 P2 (upd O D (.lst vs')) (wipeE ρ p.slots) w2 (wipe σ p.slots) H ∧ Reps F.K α2 P2 acc vs' ∧ acc.length ≤ i ∧
      wdCW (cOk S p tst elt ρ) (cNx S p tst elt ρ) (xs.drop i) w2 ∧ ((acc ++ (compW (cF S p tst elt ρ) (xs.drop i) w2).1, (compW (cF S p tst elt ρ) (xs.drop i) w2).2) = compW (cF S p tst elt ρ) xs w1)) ?_ ?_ ?_ ?_
    · refine ⟨α1, P1, [], [], w1, Pre.refl _, Sub.refl _, ?_, rfl, Nat.le_refl _, by rw [List.drop_zero]; exact wc, by rw [List.drop_zero]; rfl⟩
      exact (sr1.hide hD).setEn ((sr1.en.wipe _).addO nO)
    · rintro i H _ ⟨α2, P2, acc, vs', w2, e2, s2, sr2, _⟩
      exact ⟨s2.trans sr2.pH, fun b x q => sr2.oH b x (by rw [upd_ne (ne_of_none q nO)]; exact q)⟩
    · rintro i x H _ hlt ⟨α2, P2, acc, vs', w2, e2, s2, sr2, ra, hal, wdc, hc⟩ ⟨rfl, hx⟩
      obtain ⟨d, hd, rd'⟩ := rv.getV hx
      rw [← hK] at rd'
      have hdr : xs.drop i = d :: xs.drop (i + 1) := by
        have := List.getElem?_eq_some_iff.mp hd
        obtain ⟨hi, he⟩ := this
        rw [List.drop_eq_getElem_cons hi, he]
      rw [hdr] at wdc hc
      unfold wdCW at wdc
      rw [compW_cons] at hc
      obtain ⟨⟨hpo, wt, hbt, we⟩, wnx⟩ := wdc
      refine gOf_ok (F := F) (ρ := wipeE ρ p.slots) hK sr2 (Rep.mono e2 s2 _ _ rd') hpo fun σ2 sr3 hw => ⟨(hw _ fun i hi => hi).trans wipe_wipe, ?_⟩
      rw [bind_wipe hpo hn] at sr3
      refine ⟨F, α2, P2, _, _, w2, hK, hT, sr3, wt, hbt, fun α3 P3 H3 e3 s3 sr4 => ?_⟩
      have hcF : cF S p tst elt ρ d w2 = (if tr (ev S tst (p.bind ρ d) w2).1 = true then (some (ev S elt (p.bind ρ d) (ev S tst (p.bind ρ d) w2).2).1, (ev S elt (p.bind ρ d) (ev S tst (p.bind ρ d) w2).2).2) else (none, (ev S tst (p.bind ρ d) w2).2)) := rfl
      have hcN : cNx S p tst elt ρ d w2 = (if tr (ev S tst (p.bind ρ d) w2).1 = true then (ev S elt (p.bind ρ d) (ev S tst (p.bind ρ d) w2).2).2 else (ev S tst (p.bind ρ d) w2).2) := rfl
      have we : tr (ev S tst (p.bind ρ d) w2).1 = true → wd S elt (p.bind ρ d) (ev S tst (p.bind ρ d) w2).2 := we
      rw [hcN] at wnx
      rw [hcF] at hc
      generalize hcc : tr (ev S tst (p.bind ρ d) w2).1 = cc at wnx hc we
      cases cc with
      | false =>
        rw [if_neg Bool.false_ne_true] at hc wnx
        dsimp only
        rw [if_neg Bool.false_ne_true]
        refine ⟨α3, P3, acc, vs', _, e2.trans e3, s2.trans s3, sr4.setEn (((sr1.en.mono (e2.trans e3) (s2.trans s3)).wipe _).addO nO), ra.mono e3 s3, by omega, wnx, ?_⟩
        simpa using hc
      | true =>
        rw [if_pos rfl] at hc wnx
        dsimp only
        rw [if_pos rfl]
        refine ⟨F, α3, P3, _, _, _, hK, hT, sr4, we rfl, fun α4 P4 H4 v e4 s4 sr5 r5 => ?_⟩
        have e24 := (e2.trans e3).trans e4
        have s24 := (s2.trans s3).trans s4
        have en5 := sr1.en.mono e24 s24
        refine ⟨vs', sr5.oH D _ upd_same, by rw [ra.length]; omega, α4, P4, acc ++ [_], vs' ++ [v], _, e24, s24, (sr5.setEn ((en5.wipe _).addO nO)).grow (en5.wipe _) nO _, (ra.mono (e3.trans e4) (s3.trans s4)).append (Reps.one r5), by rw [List.length_append]; simp; omega, wnx, ?_⟩
        simpa using hc
    · rintro H ⟨α2, P2, acc, vs', w2, e2, s2, sr2, ra, hal, wdc, hc⟩
      have hnil : xs.drop vs.length = [] := List.drop_eq_nil_of_le (by omega)
      rw [hnil] at hc
      have hc : (acc ++ [], w2) = compW (cF S p tst elt ρ) xs w1 := hc
      rw [List.append_nil] at hc
      rw [← hc] at out
      obtain ⟨h1, h2, h3, h4⟩ := sr2.hidden
      exact out α2 P2 H (.ref D) (e1.trans e2) (s1.trans s2) (sr2.unhide (sr1.en.mono e2 s2) nO) (.inr ⟨acc, D, vs', rfl, rfl, h1, h2, nO, h3, h4, by omega, ra⟩)
theorem pe_CompW (G : Gd pg T k X) (hi : PI X tg iter (tI X.K T S true src)) (ok : BlkOk X.N X.env.scope scope own) (ho : own.map (·.2) = p.slots) (hn : p.slots.Nodup)
    (hg : ∀ (s : Shared) (H : Hp) (C : Addr) (cl : List (Str × Addr)) (fp : List Addr), PG (X.blk s H scope (compEnvC scope cl C X.env) fp) tg (gOf X.K p))
    (ht : ∀ (s : Shared) (H : Hp) (C : Addr) (cl : List (Str × Addr)) (fp : List Addr), PTs (X.blk s H scope (compEnvC scope cl C X.env) fp) ifs (tT X.K T S tst))
    (he : ∀ (s : Shared) (H : Hp) (C : Addr) (cl : List (Str × Addr)) (fp : List Addr), PE (X.blk s H scope (compEnvC scope cl C X.env) fp) eelt (tO X.K T S .pl elt))
    (hs : ∀ x, foldedSetIterable iter X.env x = pure x) : PE X (.ListComp eelt [⟨tg, iter, ifs, 0⟩] scope pos) (tCW X.K T S p src tst elt) :=
  PEimp (pe_lc G.calm G.nd hi ok hg ht he hs) fun σ H Q h => tLc_of ho hn h
theorem tCW_of {eff : Bool} {σ : L2.St} {H : Hp} {Q : VK} (h : tO X.K T S .fr (.comp eff p src tst elt) σ H Q) : tCW X.K T S p src tst elt σ H Q := by
    obtain ⟨F, α, P, O, ρ, w, hK, hT, sr, wx, out⟩ := h
    obtain ⟨ws, wc⟩ := wx
    cases eff with
    | true => exact ⟨F, α, P, O, ρ, w, hK, hT, sr, ws, wc, out⟩
    | false =>
      obtain ⟨h1, h2⟩ := pureC wc
      refine ⟨F, α, P, O, ρ, w, hK, hT, sr, ws, h1, ?_⟩
      rw [h2]
      exact out
theorem pe_Comp {eff : Bool} (h : PE X e (tCW X.K T S p src tst elt)) : PE X e (tO X.K T S .fr (.comp eff p src tst elt)) := PEimp h fun σ H Q z => tCW_of z
end
end Ev

/-! Ev23: sorted(xs, key=lambda x: ..). -/
namespace Ev
open PySem PySem.Spec PyProof.Rows L2
open PySem.W (EachIs AllAlike KeepsBut SortsAt dataKind sortVals keyH_end sortingHeap copyHeap sorting_copy_old)

/-! ### the state behind the making of a lambda -/
theorem SR.ext {F : Fx} {α : List Addr} {P O : Hp} {ρ : En} {w : W} {σ : L2.St} {H H1 : Hp} (h : SR F α P O ρ w σ H) (e : LamX.ExtN H H1) (t : LamX.Tabs F.T H1) : SR F α P O ρ w σ H1 where
  pH := fun a o q => e a o (h.pH a o q) fun ps z => h.tt a ps (by rw [q, z])
  oH := fun a o q => e a o (h.oH a o q) fun ps z => by obtain ⟨vs, q'⟩ := h.oL a o q; rw [q'] at z; cases z
  oP := h.oP
  o0 := h.o0
  nd := h.nd
  aP := h.aP
  a0 := h.a0
  fr := fun a o q hm ht => e a o (h.fr a o q hm ht) ht
  wl := h.wl
  wr := fun i o a f1 f2 => by
    obtain ⟨vs, q⟩ := h.αH (List.mem_of_getElem? f2)
    rw [e a _ q (fun _ z => nomatch z), ← q]
    exact h.wr i o a f1 f2
  en := h.en
  tb := t
  a1 := h.a1
  ft := h.ft
  tt := h.tt
  oL := h.oL
  p0 := h.p0

/-- a heap without its tables -/
def noT (H : Hp) : Hp := fun a => match H a with
  | some (.tbl _) => none
  | o => o
theorem noT_some {H : Hp} {a : Addr} {o : HO} (h : noT H a = some o) : H a = some o ∧ ∀ ps, o ≠ .tbl ps := by
  unfold noT at h
  split at h
  · cases h
  · rename_i q
    exact ⟨h, fun ps z => q ps (by rw [h, z])⟩
theorem noT_none {H : Hp} {a : Addr} (h : noT H a = none) : H a = none ∨ ∃ ps, H a = some (.tbl ps) := by
  unfold noT at h
  split at h
  · exact .inr ⟨_, ‹_›⟩
  · exact .inl h
theorem noT_of {H : Hp} {a : Addr} {o : HO} (h : H a = some o) (n : ∀ ps, o ≠ .tbl ps) : noT H a = some o := by
  unfold noT
  split
  · rename_i ps q
    rw [q] at h; cases h
    exact absurd rfl (n ps)
  · exact h
theorem SR.enter {F : Fx} {α : List Addr} {P O : Hp} {ρ ρ' : En} {w : W} {σ σ' : L2.St} {H : Hp} (h : SR F α P O ρ w σ H) (en : EnR F.K α P (fun _ => none) ρ' σ') : SR ⟨F.K, noT H, P, α, F.T⟩ α P (fun _ => none) ρ' w σ' H where
  pH := h.pH
  oH := fun a o e => by cases e
  oP := fun a o e => by cases e
  o0 := fun a o e => by cases e
  nd := h.nd
  aP := fun a hm => ⟨(h.aP a hm).1, rfl⟩
  a0 := fun a hm => .inl hm
  fr := fun a o e _ _ => (noT_some e).1
  wl := h.wl
  wr := h.wr
  en := en
  tb := h.tb
  a1 := fun a hm => hm
  ft := fun a ps e => (noT_some e).2 ps rfl
  tt := h.tt
  oL := fun a o e => by cases e
  p0 := fun a o e => .inl e
theorem mem_pre {α α' : List Addr} (h : Pre α α') {a : Addr} (hm : a ∈ α) : a ∈ α' := by
  obtain ⟨i, hi⟩ := List.getElem?_of_mem hm
  exact List.mem_of_getElem? (h i a hi)
theorem SR.notO' {F : Fx} {α : List Addr} {P O : Hp} {ρ : En} {w : W} {σ : L2.St} {H : Hp} (h : SR F α P O ρ w σ H) {a : Addr} (k : noT H a = none) : O a = none := by
  rcases noT_none k with k | ⟨ps, k⟩
  · exact h.notO k
  · cases e : O a with
    | none => rfl
    | some o =>
      obtain ⟨vs, rfl⟩ := h.oL a o e
      rw [h.oH a _ e] at k; cases k
theorem SR.not0' {F : Fx} {α : List Addr} {P O : Hp} {ρ : En} {w : W} {σ : L2.St} {H : Hp} (h : SR F α P O ρ w σ H) {a : Addr} (k : noT H a = none) : F.H0 a = none := by
  rcases noT_none k with k | ⟨ps, k⟩
  · exact h.not0 k
  · cases e : F.H0 a with
    | none => rfl
    | some o =>
      by_cases hm : a ∈ F.α0
      · obtain ⟨vs, q⟩ := h.αH (h.a1 a hm)
        rw [q] at k; cases k
      · have q := h.fr a o e hm fun ps z => h.ft a ps (by rw [e, z])
        rw [q] at k
        cases k
        exact (h.ft a ps e).elim
/-- .. and back -/
theorem SR.leave {F : Fx} {α α' : List Addr} {P P' O O' : Hp} {ρ ρ' : En} {w w' : W} {σ σ' : L2.St} {H H' : Hp} (h : SR F α P O ρ w σ H) (h' : SR ⟨F.K, noT H, P, α, F.T⟩ α' P' O' ρ' w' σ' H') (ea : Pre α α') (ep : Sub P P') : SR F α' P' O ρ w' σ H' where
  pH := h'.pH
  oH := fun a o e => by
    obtain ⟨vs, rfl⟩ := h.oL a o e
    exact h'.fr a _ (noT_of (h.oH a _ e) fun _ z => nomatch z) (fun hm => by have q := (h.aP a hm).2; rw [e] at q; cases q) fun _ z => nomatch z
  oP := fun a o e => by
    cases q : P' a with
    | none => rfl
    | some x =>
      rcases h'.p0 a x q with k | k
      · have k : P a = some x := k
        rw [h.oP a o e] at k; cases k
      · rw [h.notO' k] at e; cases e
  o0 := h.o0
  nd := h'.nd
  aP := fun a hm => ⟨(h'.aP a hm).1, by
    rcases h'.a0 a hm with k | k
    · exact (h.aP a k).2
    · exact h.notO' k⟩
  a0 := fun a hm => by
    rcases h'.a0 a hm with k | k
    · exact h.a0 a k
    · exact .inr (h.not0' k)
  fr := fun a o e hm ht => by
    refine h'.fr a o (noT_of (h.fr a o e hm ht) ht) (fun k => ?_) ht
    rcases h.a0 a k with z | z
    · exact hm z
    · rw [e] at z; cases z
  wl := h'.wl
  wr := h'.wr
  en := h.en.mono ea ep
  tb := h'.tb
  a1 := fun a hm => mem_pre ea (h.a1 a hm)
  ft := h.ft
  tt := h'.tt
  oL := h.oL
  p0 := fun a o e => by
    rcases h'.p0 a o e with k | k
    · exact h.p0 a o k
    · exact .inr (h.not0' k)
theorem en_start {K : PySem.W.Frag} {α : List Addr} {P : Hp} {N : List Str} : ∀ {ds : List D} {vs : List V}, Reps K α P ds vs → ∀ {m : Nat}, EnR K α P (fun _ => none) (ds.map .val ++ List.replicate m .un) (vs.map some ++ List.replicate m none)
  | ds, vs, r, m => by
    refine ⟨by rw [List.length_append, List.length_append, List.length_map, List.length_map, List.length_replicate, List.length_replicate, r.length], fun i s e => ?_, fun i j es fs a e1 _ _ _ => ?_⟩
    · by_cases hi : i < ds.length
      · rw [List.getElem?_append_left (by rw [List.length_map]; exact hi), List.getElem?_map] at e
        rw [List.getElem?_append_left (by rw [List.length_map, r.length]; exact hi), List.getElem?_map]
        obtain ⟨v, hv, rv⟩ := r.get (List.getElem?_eq_getElem hi)
        rw [List.getElem?_eq_getElem hi] at e
        rw [hv]
        cases e
        exact ⟨some v, rfl, v, rfl, rv⟩
      · rw [List.getElem?_append_right (by rw [List.length_map]; omega), List.length_map] at e
        rw [List.getElem?_append_right (by rw [List.length_map, r.length]; omega), List.length_map, r.length]
        obtain ⟨hl, he⟩ := List.getElem?_eq_some_iff.mp e
        rw [List.length_replicate] at hl
        rw [List.getElem_replicate] at he
        subst he
        exact ⟨none, by rw [List.getElem?_eq_getElem (by rw [List.length_replicate]; exact hl), List.getElem_replicate], trivial⟩
    · exfalso
      by_cases hi : i < ds.length
      · rw [List.getElem?_append_left (by rw [List.length_map]; exact hi), List.getElem?_map, List.getElem?_eq_getElem hi] at e1
        cases e1
      · rw [List.getElem?_append_right (by rw [List.length_map]; omega)] at e1
        obtain ⟨hl, he⟩ := List.getElem?_eq_some_iff.mp e1
        rw [List.getElem_replicate] at he
        cases he
/-- a def's names -/
def scB (N ps : List Str) (sc : Scope) : Bool := (match sc.kind with | .function => true | _ => false) && !sc.isCoroutine && !sc.isGenerator && decide N.Nodup && decide (N.take ps.length = ps) && ps.all (fun x => locB sc x) && sc.names.all (fun y => match y.2 with | .free => false | _ => true)
theorem scB_ok {N ps : List Str} {sc : Scope} (h : scB N ps sc = true) : FnScope N ps sc := by
  unfold scB at h
  rw [Bool.and_eq_true, Bool.and_eq_true, Bool.and_eq_true, Bool.and_eq_true, Bool.and_eq_true, Bool.and_eq_true, decide_eq_true_eq, decide_eq_true_eq, List.all_eq_true, List.all_eq_true] at h
  obtain ⟨⟨⟨⟨⟨⟨h1, h2⟩, h3⟩, h4⟩, h5⟩, h6⟩, h7⟩ := h
  refine ⟨?_, by simpa using h2, by simpa using h3, h4, h5, fun x hx => locB_ok (h6 x hx), fun y hy e => ?_⟩
  · split at h1
    · assumption
    · cases h1
  · have := h7 y hy
    rw [e] at this; cases this
/-- a lambda can be made here -/
structure LamOk (T : List (Addr × Str)) (k : Nat) (X : Cx) : Prop where
  tab : ∃ c P, X.env.code = .ref c ∧ LamX.TabB X.base X.mg c P ∧ (P, X.env.qual ++ "<lambda>") ∈ T ∧ ∀ p ∈ T, p.1 = P → p.2 = X.env.qual ++ "<lambda>"
  room : Room (2 * k + 1) X.A
theorem clo_nil {cells : List (Str × Addr)} : ∀ {names : List (Str × NameKind)} {acc : List (Str × Addr)}, (∀ y ∈ names, y.2 ≠ .free) → cloFrom cells names acc = acc
  | [], _, _ => rfl
  | (n, kd) :: r, acc, h => by
    have hk := h (n, kd) List.mem_cons_self
    have ih := @clo_nil cells r acc fun y hy => h y (List.mem_cons_of_mem _ hy)
    unfold cloFrom
    cases kd <;> first | exact ih | exact absurd rfl hk
/-- what the lambda's body is read in -/
abbrev lamC (X : Cx) (A : Around) (s : Shared) (H : Hp) (x : Str) (scope : Scope) (f c' : Addr) : Cx := (cxOf CX0 X.prog X.w X.K X.mg X.base [x] (X.env.qual ++ "<lambda>") scope f (.ref c') A X.stack s H E0).nox
section
variable {X : Cx} {pins : List (Addr × Obj)} {σ : L2.St} {H : Hp} {s : Shared}
theorem lam_turn {k : Nat} {f c' : Addr} {x : Str} {params : Arguments} {body : Expr} {scope : Scope} {pm ctv : Value} {t : TE} {v : V} {u : Value} {Q : VK} {E : Value → Shared → Prop} (I : Inv X pins σ H s)
    (hf : s.heap.get? f = some (PySem.W.kla_obj "<lambda>" (X.env.qual ++ "<lambda>") params body scope [] pm c' ctv)) (hc : H c' = some (LamX.CodeO c' (X.env.qual ++ "<lambda>"))) (S : FnScope [x] [x] scope)
    (hb : ∀ v, bindArgs (PySem.W.kla_fn "<lambda>" (X.env.qual ++ "<lambda>") params body scope [] pm (.ref c') ctv) ⟨[v], []⟩ = pure [(x, v)]) (hr : Room (2 * k + 1) X.A)
    (hbody : ∀ (s1 : Shared), Room (2 * k) (lamC X X.A.in1.in1 s1 H x scope f c').A → PE (lamC X X.A.in1.in1 s1 H x scope f c') body t) (rv : RelV v u) (ht : t [some v] H Q) :
    wpAny (model X.prog X.w) X.A.in1.in1 (call (.ref f) [u]) (fun r s' => ∃ y H', Inv X pins σ H' s' ∧ RelV y r ∧ Q y H' ∧ Un (frs X.stack) [] H H' s.heap s'.heap) E s := by
  obtain ⟨⟨oc, vs, tk, hoc, hdc, hvc⟩, _, _⟩ := I.hok c' _ hc
  have e0 : Env0 X.prog X.w X.K X.mg X.base X.A.in1.in1 X.stack s H := I.env0.in1.in1
  have hh : X.A.in1.in1.handled = none := hr.hd
  have rm : Room (2 * k) (X.A.in1.in1.deeper (envOfC (X.env.qual ++ "<lambda>") scope s.heap.objs.size f (.ref c'))) :=
    ⟨hr.hd, by have := hr.dp; show X.A.depth + 1 + 3 * (2 * k) + 5 < _; omega, by have := hr.un; show X.A.units + 1 + 1 + 3 + 16 * (2 * k) + 200 < _; omega⟩
  have rc : codeAny (model X.prog X.w) X.A.in1.in1 (.call (.ref f) ⟨[u], []⟩) (CR CX0 X.stack X.prog X.w H s Q E0) s := by
    refine PySem.W.kla_callFunE (by have := hr.dp; show X.A.depth < _; omega) hf rfl S.co S.gen rfl ⟨c', oc, vs, tk, rfl, hoc, hdc, hvc⟩ ?_
    rw [hb]
    refine wpAny_pure (wpAny_newFunctionEnv_cells S.kind (fun y hy => ?_) fun env he s1 y => ?_)
    · rw [List.mem_singleton] at hy
      subst hy
      rcases S.par x List.mem_cons_self with q | q
      · exact .inl q
      · exact .inr ⟨q, PySem.W.cellsFrom_some _ _ _ (.inl q)⟩
    · subst he
      refine ⟨I.nolimit.keeps y.toInCall.keep, PySem.W.kla_codeExpr ?_⟩
      have J : Inv (cxOf CX0 X.prog X.w X.K X.mg X.base [x] (X.env.qual ++ "<lambda>") scope f (.ref c') X.A.in1.in1 X.stack s H E0) [] (L2.start [x] [v]) H s1 := inv_start (ps := [x]) (us := [u]) (vs := [v]) S hh e0 rfl (.cons rv .nil) y
      refine wpAny_mono ((hbody s rm).nox.run [] s1 _ H Q J ht) (fun r s' hq => ?_) fun e s' hq => hq
      obtain ⟨w', H', J', rv', q⟩ := hq
      exact ⟨w', H', J'.os, J'.bare, J'.base, J'.hok, rv', q⟩
  refine wpAny_call (codeAny_mono rc fun r s' hq => ?_)
  cases r with
  | error e => exact hq.elim
  | ok fl =>
    cases fl with
    | next => exact False.elim hq
    | brk => exact False.elim hq
    | cont => exact False.elim hq
    | ret r =>
      obtain ⟨y, H', os, bare, un, hok, rv', q⟩ := hq
      exact ⟨y, H', I.call' (ch := []) os un hok bare (fun _ z => nomatch z), rv', q, un⟩
end
end Ev

/-! Ev24: the loop over the keys. -/
namespace Ev
open PySem PySem.Spec PyProof.Rows L2
open PySem.W (EachIs AllAlike KeepsBut SortsAt dataKind sortVals keyH_end sortingHeap copyHeap sorting_copy_old)

theorem each_take_succ {α β : Type} {R : α → β → Prop} {as : List α} {bs : List β} {a : α} {b : β} (h : EachIs R as bs) (r : R a b) : EachIs R (as ++ [a]) (bs ++ [b]) := by
  induction h with
  | nil => exact .cons r .nil
  | cons q _ ih => exact .cons q ih
section
variable {X : Cx} {pins : List (Addr × Obj)} {σ σ0 : L2.St} {H : Hp} {s : Shared}
/-- what is known of an object of one's own that no heap of ours tells -/
structure Hid (X : Cx) (pins : List (Addr × Obj)) (a : Addr) : Prop where
  loc : a ≠ X.env.locals
  fs : a ∉ frs X.stack
  ex : a ∈ X.ex ∨ X.s_0.heap.objs.size ≤ a
  cl : ∀ x c, X.env.cells.lookup x = some c → c ≠ a
  pn : ∀ p ∈ X.pn ++ pins, p.1 ≠ a
theorem hid_new (I : Inv X pins σ H s) {a : Addr} (h : s.heap.objs.size ≤ a) : Hid X pins a := by
  obtain ⟨h1, h2, h3, h4, h5, h6⟩ := I.fpOk (H' := H) h (I.hok.fresh h)
  refine ⟨h2, fun z => ?_, h4, h5, h6⟩
  rcases List.mem_cons.mp (I.stkSub _ z) with e | e
  · exact h2 e
  · exact I.nofs h e
theorem hid_turn (I : Inv X pins σ H s) {a : Addr} (h : Hid X pins a) (n : H a = none) {h' : Heap} {t' : Nat} (k : ∀ b o, b ≠ a → s.heap.get? b = some o → h'.get? b = some o) : Inv X pins σ H { s with heap := h', toks := t' } :=
  I.turned k n h.loc h.ex h.cl h.pn
theorem key_rest {k : Nat} {F : Fx} {α : List Addr} {P O : Hp} {ρ : En} {w : W} {ds : List D} {its : List Value} {key : D → D} {f : Addr} {fo : Obj} {c' aL kS : Addr} {q : Str} {e1 : Nat} {E : Value → Shared → Prop} {R : PySem.Fin → Shared → Prop}
    (I : Inv X pins σ H s) (sr : SR F α P O ρ w σ0 H) (hK : F.K = X.K) (ha : Hid X pins aL) (hS : Hid X pins kS) (hff : f ∉ frs X.stack) (na : s.heap.get? aL = some (seqObj "list" #[] e1)) (nk : s.heap.get? kS = some (seqObj "list" #[] 0)) (hka : kS ≠ aL)
    (ua : H aL = none) (uk : H kS = none) (hf : s.heap.get? f = some fo) (uf : H f = none) (fk : f ≠ kS) (hc : H c' = some (LamX.CodeO c' q)) (e : EachIs (fun v d => ∃ x, RelV x v ∧ Rep F.K α P d x) its ds) (hz : ds.length ≤ sizeLine)
    (turn : ∀ (α1 : List Addr) (P1 H1 : Hp) (s1 : Shared) (d : D) (x : V) (v : Value), Pre α α1 → Sub P P1 → Inv X pins σ H1 s1 → SR F α1 P1 O ρ w σ0 H1 → s1.heap.get? f = some fo → H1 c' = some (LamX.CodeO c' q) → d ∈ ds → RelV x v → Rep F.K α1 P1 d x →
      wpAny (model X.prog X.w) X.A.in1.in1 (call (.ref f) [v]) (fun r s' => ∃ y H', Inv X pins σ H' s' ∧ RelV y r ∧ (∃ α2 P2, Pre α1 α2 ∧ Sub P1 P2 ∧ SR F α2 P2 O ρ w σ0 H' ∧ Rep F.K α2 P2 (key d) y) ∧ Un (frs X.stack) [] H1 H' s1.heap s'.heap ∧ H' c' = some (LamX.CodeO c' q)) (fun _ _ => False) s1)
    (hal : alikeD (ds.map key)) (hpl : ∀ d ∈ ds.map key, plainD d) (hk : srtG (ds.map key)) (hu : X.A.units + 66 < cLine)
    (fin : ∀ α1 P1 H1 (ys : List V) (s' : Shared), Pre α α1 → Sub P P1 → SR F α1 P1 O ρ w σ0 H1 → H1 aL = none → Reps F.K α1 P1 (sortByK key ds) ys → Inv X pins σ (upd H1 aL (.lst ys)) s' → R (.done (.ret .none)) s') :
    wpAny (model X.prog X.w) X.A.in1.in1 (PyProof.Rows.ksk_rest aL (.ref f) false its.toArray e1 (.ref kS)) R E s := by
  have hlen := e.length
  unfold PyProof.Rows.ksk_rest
  refine wpAny_bind (wpAny_rule ?_)
  rw [List.forIn_toArray]
  refine wpAny_bind (PyProof.Rows.ksk_fold (fun i s' => ∃ H1 α1 P1 kA n, Inv X pins σ H1 s' ∧ Pre α α1 ∧ Sub P P1 ∧ SR F α1 P1 O ρ w σ0 H1 ∧ s'.heap.get? kS = some (seqObj "list" kA n) ∧ s'.heap.get? aL = some (seqObj "list" #[] e1) ∧ H1 aL = none ∧ H1 kS = none ∧ s'.heap.get? f = some fo ∧ H1 f = none ∧
      H1 c' = some (LamX.CodeO c' q) ∧ EachIs (fun v d => ∃ x, RelV x v ∧ Rep F.K α1 P1 d x) kA.toList ((ds.map key).take i)) its 0 s
    ⟨H, α, P, #[], 0, I, Pre.refl _, Sub.refl _, sr, nk, na, ua, uk, hf, uf, hc, by rw [List.take_zero]; exact .nil⟩ ?step ?done)
  case step =>
    rintro j v s1 hv ⟨H1, α1, P1, kA, n, I1, ea, ep, sr1, nk1, na1, ua1, uk1, hf1, uf1, hc1, ek⟩
    simp only [Nat.zero_add] at ek ⊢
    have hj : j < its.length := (List.getElem?_eq_some_iff.mp hv).1
    obtain ⟨d, hd⟩ : ∃ d, ds[j]? = some d := ⟨_, List.getElem?_eq_getElem (by omega)⟩
    obtain ⟨x, rx, rp⟩ := e.zip (v, d) (List.mem_of_getElem? (i := j) (by rw [List.getElem?_zip_eq_some]; exact ⟨hv, hd⟩))
    have kl : kA.size = j := by
      have q1 := ek.length
      rw [Array.length_toList, List.length_take, List.length_map] at q1
      omega
    refine wpAny_bind (wpAny_attempt (wpAny_mono (turn α1 P1 H1 s1 d x v ea ep I1 sr1 hf1 hc1 (List.mem_of_getElem? hd) rx (Rep.mono ea ep _ _ rp)) (fun r s2 hr => ?_) fun _ _ z => z.elim))
    obtain ⟨y, H2, I2, ry, ⟨α2, P2, ea2, ep2, sr2, rk⟩, un, hc2⟩ := hr
    have nk2 := un.keep _ _ nk1 uk1 hS.fs (by simp)
    have na2 := un.keep _ _ na1 ua1 ha.fs (by simp)
    have hf2 := un.keep _ _ hf1 uf1 hff (by simp)
    have uk2 := un.free _ _ nk1 uk1 (by simp)
    have ua2 := un.free _ _ na1 ua1 (by simp)
    have uf2 := un.free _ _ hf1 uf1 (by simp)
    have sb := Heap.SameBut.update s2.heap kS (Obj.mapSeq (·.push r))
    have hcap : kA.size ≤ sizeLine := by omega
    refine wpAny_bind (listUpdate_at nk2 rfl ?_ hcap (by rw [Array.size_push]; omega))
    have I3 := hid_turn (h' := s2.heap.update kS (Obj.mapSeq (·.push r))) (t' := s2.toks) I2 hS uk2 fun b o hb q => (sb.2 b hb).trans q
    refine wpAny_pure ⟨rfl, H2, α2, P2, kA.push r, _, I3, ea.trans ea2, ep.trans ep2, sr2, get?_update_seq nk2 (·.push r), (sb.2 aL hka.symm).trans na2, ua2, uk2, (sb.2 f fk).trans hf2, uf2, hc2, ?_⟩
    have et : (ds.map key).take (j + 1) = (ds.map key).take j ++ [key d] := by
      rw [List.take_add_one, List.getElem?_map, hd]; rfl
    rw [et, Array.toList_push]
    exact each_take_succ (ek.mono fun v d ⟨x, h1, h2⟩ => ⟨x, h1, Rep.mono ea2 ep2 _ _ h2⟩) ⟨y, ry, rk⟩
  case done =>
    rintro s1 ⟨H1, α1, P1, kA, n, I1, ea, ep, sr1, nk1, na1, ua1, uk1, hf1, uf1, hc1, ek⟩
    have et : (ds.map key).take (0 + its.length) = ds.map key := List.take_of_length_le (by rw [List.length_map]; omega)
    rw [et] at ek
    have kl : kA.size = its.length := by
      have q1 := ek.length
      rw [Array.length_toList, List.length_map] at q1
      omega
    obtain ⟨ksV, kv1, kv2⟩ := reps_of ek
    have er : EachIs (fun v d => ∃ as, Reads s1.heap v d as) kA.toList (ds.map key) := (reads_of I1 sr1.pH (by rw [← hK]; exact kv2) kv1 hpl).2
    have al : AllAlike (ds.map key) := fun d hd d' hd' => hal d hd d' hd'
    refine wpAny_bind (listItems_at nk1 rfl ?_)
    obtain ⟨G, g1, g2⟩ := L2.restrict s1.heap fun b => decide (b ≠ kS)
    have kp : KeepsBut aL G s1.heap := fun b o hb q => by
      by_cases z : b = kS
      · rw [g2 b (by simp [z])] at q; cases q
      · rw [← g1 b (by simp [z])]; exact q
    have SA : SortsAt X.prog X.w X.A.in1.in1 s1 (dataKind s1.heap (ds.map key)) kA.toList := sortsG er al hk fun d hd => by
      have := SeqAt.depth_of_shaped (hpl d hd)
      show X.A.units + 1 + 1 + _ < cLine
      omega
    refine keyH_end (h₁ := G) kp (g2 kS (by simp)) nk1 na1 hka SA (by rw [kl]) (by rw [hlen]; exact hz) fun h3 tk c k3 n3 => ?_
    have eo : EachIs (fun v d => ∃ x, RelV x v ∧ Rep F.K α1 P1 d x) (sortVals (dataKind s1.heap (ds.map key)) false kA.toList its) (sortByK key ds) :=
      PySem.W.sortVals_each (κ := dataKind s1.heap (ds.map key)) (fun d => PySem.W.keyToks (key d)) (e.mono fun v d ⟨x, h1, h2⟩ => ⟨x, h1, Rep.mono ea ep _ _ h2⟩) (PySem.W.each_of_map key (PySem.W.each_keys al er))
    obtain ⟨ys, y1, y2⟩ := reps_of eo
    have hl : (sortByK key ds).length ≤ sizeLine := by
      unfold sortByK
      rw [(List.mergeSort_perm _ _).length_eq]
      exact hz
    have old : ∀ b o, b ≠ aL → b ≠ kS → s1.heap.get? b = some o → h3.get? b = some o := fun b o h1 h2 q => k3 b o h1 (by rw [g1 b (by simp [h2])]; exact q)
    have un : Un (frs X.stack) [kS, aL] H1 (upd H1 aL (.lst ys)) s1.heap h3 := by
      have ne : ∀ b o, H1 b = some o → b ≠ aL := fun b o q z => by rw [z, ua1] at q; cases q
      refine ⟨fun b o q _ _ hx => ?_, fun b o q _ _ hx => ⟨o.slots, ?_⟩, fun b o q n hx => ?_, fun b o q hx => ⟨o, ?_⟩, fun b xs q => by rw [upd_ne (ne b _ q)]; exact q, fun b o u q => by rw [upd_ne (ne b _ q)]; exact q, fun b ps q => ⟨#[], by rw [upd_ne (ne b _ q), q]; simp⟩⟩
      · exact old b o (fun z => hx (by simp [z])) (fun z => hx (by simp [z])) q
      · exact old b o (fun z => hx (by simp [z])) (fun z => hx (by simp [z])) q
      · rw [upd_ne (fun z => hx (by simp [z]))]; exact n
      · exact old b o (fun z => hx (by simp [z])) (fun z => hx (by simp [z])) q
    have hok : HOk X.prog X.w (upd H1 aL (.lst ys)) h3 := fun b u q => by
      have ne : ∀ d o, H1 d = some o → d ≠ aL ∧ d ≠ kS := fun d o r => ⟨fun z => (by rw [z, ua1] at r; cases r), fun z => (by rw [z, uk1] at r; cases r)⟩
      by_cases hb : b = aL
      · rw [hb, upd_same] at q
        cases q
        rw [hb]
        exact ⟨by rw [y2.length]; exact hl, _, c, y1, n3⟩
      · rw [upd_ne hb] at q
        refine (I1.hok b u q).stay (fun d o hd r => ?_) (fun d r => by rw [upd_ne (ne d _ r).1]; exact r) fun d xs r => by rw [upd_ne (ne d _ r).1]; exact r
        rcases hd with z | z
        · subst z
          exact old d o (ne d u q).1 (ne d u q).2 r
        · exact old d o (ne d _ z).1 (ne d _ z).2 r
    have I4 : Inv X pins σ (upd H1 aL (.lst ys)) { s1 with heap := h3, toks := tk } := I1.call' (ch := [kS, aL]) rfl un hok I1.bare fun b hb => by
      rcases List.mem_cons.mp hb with rfl | hb
      · exact ⟨hS.ex, hS.loc, hS.cl, hS.pn⟩
      · rw [List.mem_singleton] at hb
        subst hb
        exact ⟨ha.ex, ha.loc, ha.cl, ha.pn⟩
    exact fin α1 P1 H1 ys _ ea ep sr1 ua1 y2 I4
end
end Ev

/-! Ev25: sorted(xs, key=lambda x: ..), the rule. -/
namespace Ev
open PySem PySem.Spec PyProof.Rows L2
open PySem.W (EachIs AllAlike KeepsBut SortsAt dataKind sortVals keyH_end sortingHeap copyHeap sorting_copy_old)

/-- one parameter, nothing else -/
def onePar (x : Str) : Arguments → Bool
  | ⟨[], [⟨y, _, _⟩], none, [], [], none, []⟩ => decide (y = x)
  | _ => false
theorem onePar_ok {x : Str} {a : Arguments} (h : onePar x a = true) : (∃ an p, a = ⟨[], [⟨x, an, p⟩], none, [], [], none, []⟩) := by
  unfold onePar at h
  split at h
  · rw [decide_eq_true_eq] at h
    subst h
    exact ⟨_, _, rfl⟩
  · cases h
theorem bind_one (x qual : Str) (an : Option Expr) (ap : Pos) (body : Expr) (lscope : Scope) (pm ctv : Value) (c' : Addr) {v : Value} : bindArgs (PySem.W.kla_fn "<lambda>" qual ⟨[], [⟨x, an, ap⟩], none, [], [], none, []⟩ body lscope [] pm (.ref c') ctv) ⟨[v], []⟩ = pure [(x, v)] := by
  have e : ∀ {β : Type} (u : β), List.lookup x [(x, u)] = some u := fun u => by
    rw [List.lookup_cons]
    simp
  unfold bindArgs
  simp [seqItems?, e, PySem.W.kla_fn]
  rfl
section
variable {pg : Pg} {T : List (Addr × Str)} {k : Nat} {X : Cx} {sc : Scope}
theorem pe_SrtK {ea : Expr} {i : Nat} {a key : Ex} {x : Str} {params : Arguments} {body : Expr} {lscope : Scope} {lp kp p q : Pos} (G : Gd pg T k X) (Sx : Sc X sc) (L : LamOk T k X) (g : sc.names.lookup ("sorted" : Str) = some NameKind.globalImplicit)
    (ha : PE X ea (tO X.K T (fnS pg k) .bw a)) (hs : nStar ea = true) (S : FnScope [x] [x] lscope) (hp : onePar x params = true)
    (hkey : ∀ (s1 : Shared) (H1 : Hp) (f c' : Addr), Room (2 * k) (lamC X X.A.in1.in1 s1 H1 x lscope f c').A → PE (lamC X X.A.in1.in1 s1 H1 x lscope f c') body (tO X.K T (fnS pg k) .pl key)) :
    PE X (.Call (.Name "sorted" p) [ea] [⟨some "key", .Lambda params body lscope lp, kp⟩] q) (tO X.K T (fnS pg k) .fr (.srtK i a key)) := by
  obtain ⟨an, ap, rfl⟩ := onePar_ok hp
  obtain ⟨c, Pt, hcode, TB, hmT, huT⟩ := L.tab
  refine ⟨fun pins s σ H Q I h => ?_⟩
  obtain ⟨F, α, P, O, ρ, w, hK, hT, sr, ⟨wa, ⟨ds, hd⟩, wk, kal, kpl, kst⟩, out⟩ := h
  have wk : ∀ d ∈ its (ev (fnS pg k) a ρ w).1, wd (fnS pg k) key [.val d] (ev (fnS pg k) a ρ w).2 ∧ (ev (fnS pg k) key [.val d] (ev (fnS pg k) a ρ w).2).2 = (ev (fnS pg k) a ρ w).2 := wk
  have hd : (ev (fnS pg k) a ρ w).1 = .list ds := hd
  have kal : alikeD ((its (ev (fnS pg k) a ρ w).1).map fun d => (ev (fnS pg k) key [.val d] (ev (fnS pg k) a ρ w).2).1) := kal
  have kpl : ∀ y ∈ ((its (ev (fnS pg k) a ρ w).1).map fun d => (ev (fnS pg k) key [.val d] (ev (fnS pg k) a ρ w).2).1), y.depth ≤ 64 ∧ y.canLay0 = true := kpl
  have kst : srtG ((its (ev (fnS pg k) a ρ w).1).map fun d => (ev (fnS pg k) key [.val d] (ev (fnS pg k) a ρ w).2).1) := kst
  have out : Out F α P O ρ σ .fr (.list (sortByK (fun d => (ev (fnS pg k) key [.val d] (ev (fnS pg k) a ρ w).2).1) (its (ev (fnS pg k) a ρ w).1))) (ev (fnS pg k) a ρ w).2 Q := out
  generalize hw1 : (ev (fnS pg k) a ρ w).2 = w1 at wk kal kpl kst out
  rw [hd] at wk kal kpl kst out
  have wk : ∀ d ∈ ds, wd (fnS pg k) key [.val d] w1 ∧ (ev (fnS pg k) key [.val d] w1).2 = w1 := wk
  have kal : alikeD (ds.map fun d => (ev (fnS pg k) key [.val d] w1).1) := kal
  have kpl : ∀ y ∈ (ds.map fun d => (ev (fnS pg k) key [.val d] w1).1), y.depth ≤ 64 ∧ y.canLay0 = true := kpl
  have kst : srtG (ds.map fun d => (ev (fnS pg k) key [.val d] w1).1) := kst
  have out : Out F α P O ρ σ .fr (.list (sortByK (fun d => (ev (fnS pg k) key [.val d] w1).1) ds)) w1 Q := out
  generalize hkf : (fun d => (ev (fnS pg k) key [.val d] w1).1) = kf at kal kpl kst out
  refine wpAny_Call_Name_kw (ld_blt I (Sx.gl g) G.no (u := .builtin "sorted") (by decide +kernel) ?_ (by decide) (by decide))
  have h' : tCons (tO X.K T (fnS pg k) .bw a) tNil σ H (fun vs H1 => ∃ v α1 P1, vs = [v] ∧ Pre α α1 ∧ Sub P P1 ∧ SR F α1 P1 O ρ w1 σ H1 ∧ RB F.K α1 P1 O (.list ds) v) :=
    ⟨F, α, P, O, ρ, w, hK, hT, sr, wa, fun α1 P1 H1 v e1 s1 sr1 r1 => ⟨v, α1, P1, rfl, e1, s1, by rw [← hw1]; exact sr1, by rw [← hd]; exact r1⟩⟩
  refine PyProof.Rows.callWith_kw (thn ((pa1 ha hs).run q pins s σ H _ I h') fun us s1 ⟨vs, H1, I1, r1, v, α1, P1, ev1, e1, s1', sr1, rb⟩ => ?_) (by rw [nStar_ok hs]; rfl) (by rw [nStar_ok hs]; rfl) rfl rfl
  subst ev1
  show wpAny _ _ (evalAll [(do let v ← eval (.Lambda ⟨[], [⟨x, an, ap⟩], none, [], [], none, []⟩ body lscope lp) X.env; standAt q; pure v)]) _ _ s1
  refine wpAny_evalAll_cons (wpAny_bind (LamX.lam_make2 I1 TB hcode hmT huT (by rw [← hT]; exact sr1.tb) rfl (fun y hy e => absurd e (S.nofree y hy)) fun f c' pm ctv H2 s2 I2 eN T2 hf hfn hfr hco => wpAny_bind (wpAny_standAt (wpAny_pure (wpAny_evalAll_nil ?_)))))
  have sr2 := sr1.ext eN (by rw [hT]; exact T2)
  obtain ⟨l, xs, rfl, hsl, hz, rr⟩ := sr2.look rb
  rw [hK] at hsl
  obtain ⟨its', rv, pl, hz'⟩ := I2.list hsl
  rw [Vals.ref1 r1]
  show wpAny _ _ (call (.builtin "sorted") [.ref l] [(Str.ofString "key", .ref f)]) _ _ s2
  have hcl : cloFrom X.env.cells lscope.names [] = [] := clo_nil S.nofree
  rw [hcl] at hf
  have er : EachIs (fun v d => ∃ x, RelV x v ∧ Rep F.K α1 P1 d x) its' ds := by
    clear kal kpl kst out hd hz wk
    generalize hal : P1 = P2 at rr
    have : ∀ {ds : List D} {xs : List V} {vs : List Value}, Reps F.K α1 P2 ds xs → Vals xs vs → EachIs (fun v d => ∃ x, RelV x v ∧ Rep F.K α1 P2 d x) vs ds := fun {ds} => by
      induction ds with
      | nil =>
        intro xs vs r v
        rw [show xs = [] from r] at v
        cases v
        exact .nil
      | cons d ds ih =>
        intro xs vs r v
        obtain ⟨y, r', e, k1, k2⟩ := r
        subst e
        cases v with
        | cons z zs => exact .cons ⟨y, z, k1⟩ (ih k2 zs)
    exact this rr rv
  have hlen : its'.length ≤ sizeLine := by rw [er.length]; exact hz
  refine PySem.W.sorted_of_sort pl.isList hlen (PyProof.Rows.ksk_s1 _ _) (fun y => PyProof.Rows.ksk_l1 _ _) fun E' => ?_
  rw [PyProof.Rows.ksk_t1]
  have ho := PySem.W.copyHeap_at s2.heap its'
  obtain ⟨e0, ho1⟩ : ∃ n, ((copyHeap s2.heap its').update (s2.heap.objs.size + 1) (Obj.mapSeq fun _ => (#[] : Array Value))).get? (s2.heap.objs.size + 1) = some (seqObj "list" #[] n) := ⟨_, get?_update_seq ho fun _ => #[]⟩
  unfold PyProof.Rows.ksk_tree
  refine wpAny_bind (listItems_at ho rfl ?_)
  refine wpAny_bind (listUpdate_at ho rfl ?_ (by rw [List.size_toArray]; exact hlen) (Nat.zero_le _))
  refine wpAny_bind (seqEpoch_at ho1 rfl ?_)
  refine wpAny_bind (wpAny_newTuple ?_ hlen)
  refine wpAny_bind (wpAny_newList ?_ (Nat.zero_le _))
  refine wpAny_holding ?_
  have szc : s2.heap.objs.size + 1 < (copyHeap s2.heap its').objs.size := Heap.lt_size ho
  have hkS : s2.heap.objs.size + 1 < (((copyHeap s2.heap its').update (s2.heap.objs.size + 1) (Obj.mapSeq fun _ => (#[] : Array Value))).push (seqObj "tuple" its'.toArray 0)).objs.size := by
    rw [size_push', Heap.size_update]; exact Nat.lt_succ_of_lt szc
  have I3 : Inv X pins σ H2 { s2 with heap := sortingHeap (copyHeap s2.heap its') (s2.heap.objs.size + 1) its' } := I2.kept (t' := s2.toks) fun b o e => sorting_copy_old e
  have fl := Heap.lt_size hf
  refine key_rest (k := k) (F := F) (α := α1) (P := P1) (O := O) (ρ := ρ) (w := w1) (σ := σ) (σ0 := σ) (H := H2) (s := { s2 with heap := sortingHeap (copyHeap s2.heap its') (s2.heap.objs.size + 1) its' }) (pins := pins) (ds := ds) (its := its') (key := kf) (c' := c') (q := X.env.qual ++ "<lambda>")
    I3 sr2 hK (hid_new I2 (Nat.le_succ _)) (hid_new I2 (Nat.le_of_lt (Nat.lt_trans (Nat.lt_succ_self _) hkS))) hfr
    (Heap.get?_push_of_some _ (Heap.get?_push_of_some _ ho1)) (Heap.get?_push_size _ rfl) (Nat.ne_of_gt hkS) (I2.hok.fresh (Nat.le_succ _)) (I2.hok.fresh (Nat.le_of_lt (Nat.lt_trans (Nat.lt_succ_self _) hkS)))
    (sorting_copy_old hf) hfn (Nat.ne_of_lt (Nat.lt_trans (Nat.lt_of_lt_of_le fl (Nat.le_succ _)) hkS)) hco er hz ?turn kal (fun y hy => by
      obtain ⟨k1, k2⟩ := kpl y hy
      show (y.canLay0 && decide (y.depth ≤ 64)) = true
      rw [k2, decide_eq_true k1]; rfl) kst G.u66 ?fin
  case turn =>
    intro α3 P3 H3 s3 d y v ea ep I4 sr3 hf3 hc3 hdm ry rp
    obtain ⟨wkd, wks⟩ := wk d hdm
    have en : EnR F.K α3 P3 (fun _ => none) [Sl.val d] [some y] := by
      have := en_start (N := []) (Reps.one rp) (m := 0)
      simpa using this
    have ht : tO X.K T (fnS pg k) .pl key [some y] H3 (fun z H' => (∃ α2 P2, Pre α3 α2 ∧ Sub P3 P2 ∧ SR F α2 P2 O ρ w1 σ H' ∧ Rep F.K α2 P2 (kf d) z) ∧ H' c' = some (LamX.CodeO c' (X.env.qual ++ "<lambda>"))) := by
      refine ⟨⟨F.K, noT H3, P3, α3, F.T⟩, α3, P3, fun _ => none, [.val d], w1, hK, hT, sr3.enter en, wkd, fun α4 P4 H4 z e4 s4 sr4 r4 => ⟨⟨α4, P4, e4, s4, ?_, ?_⟩, ?_⟩⟩
      · have := sr3.leave sr4 e4 s4
        rw [wks] at this
        exact this
      · rw [← hkf]
        exact r4
      · refine sr4.fr c' _ (noT_of hc3 LamX.codeO_ne) (fun hm => ?_) LamX.codeO_ne
        obtain ⟨vs, q1⟩ := sr3.αH hm
        rw [hc3] at q1
        unfold LamX.CodeO at q1
        cases q1
    refine wpAny_mono (lam_turn (k := k) I4 hf3 hc3 S (fun v => bind_one _ _ _ _ _ _ _ _ _) L.room (fun s4 hr => hkey s4 H3 f c' hr) ry ht) (fun r s4 hq => ?_) fun _ _ z => z
    obtain ⟨z, H4, I5, rz, ⟨q1, q2⟩, un⟩ := hq
    exact ⟨z, H4, I5, rz, q1, un, q2⟩
  case fin =>
    intro α3 P3 H3 ys s3 ea ep sr3 ua y2 I4
    refine ⟨rfl, .ref (s2.heap.objs.size + 1), _, I4, rfl, ?_⟩
    have hl : (sortByK kf ds).length ≤ sizeLine := by
      unfold sortByK
      rw [(List.mergeSort_perm _ _).length_eq]
      exact hz
    exact (out.mono (e1.trans ea) (s1'.trans ep)).newL sr3 hl y2 _ ua
end
end Ev

/-! Ev14: the checker of expressions is sound. -/
namespace Ev
open PySem PySem.Spec PyProof.Rows L2

def litE : D → Expr → Bool
  | .none, .Constant .none _ _ => true
  | .bool b, .Constant (.bool b') _ _ => b == b'
  | .int i, .Constant (.int j) _ _ => decide (i = j)
  | .str x, .Constant (.str y) _ _ => decide (x = y) && decide (x.length ≤ 1000)
  | _, _ => false
theorem litE_ok {X : Cx} {d : D} {e : Expr} (h : litE d e = true) : ∃ v, PE X e (tC v) ∧ ∀ α P, Rep X.K α P d v := by
  unfold litE at h
  split at h
  · exact ⟨_, pe_non, fun _ _ => rfl⟩
  · rw [beq_iff_eq] at h
    subst h
    exact ⟨_, pe_bl, fun _ _ => rfl⟩
  · rw [decide_eq_true_eq] at h
    subst h
    exact ⟨_, pe_int, fun _ _ => rfl⟩
  · rw [Bool.and_eq_true, decide_eq_true_eq, decide_eq_true_eq] at h
    obtain ⟨rfl, hl⟩ := h
    exact ⟨_, pe_str, fun _ _ => ⟨rfl, Nat.le_trans hl (by decide)⟩⟩
  · cases h
def glE (pg : Pg) (sc : Scope) (d : D) : Expr → Bool
  | .Name x _ => glB sc x && !(x == ("__debug__" : Str)) && pg.cs.any fun c => decide (c.1 = x) && flatB c.2 d
  | _ => false
theorem flatB_ok {d d' : D} (h : flatB d d' = true) : d = d' := by
  unfold flatB at h
  split at h <;> first | rfl | (rw [beq_iff_eq] at h; rw [h]) | cases h
theorem glE_ok {pg : Pg} {T : List (Addr × Str)} {k : Nat} {X : Cx} {sc : Scope} (G : Gd pg T k X) (Sx : Sc X sc) {d : D} {e : Expr} (h : glE pg sc d e = true) : ∃ v, PE X e (tC v) ∧ ∀ α P, Rep X.K α P d v := by
  unfold glE at h
  split at h
  · rw [Bool.and_eq_true, Bool.and_eq_true, List.any_eq_true] at h
    obtain ⟨⟨h1, h2⟩, ⟨x', d'⟩, hm, h3⟩ := h
    rw [Bool.and_eq_true, decide_eq_true_eq] at h3
    obtain ⟨h4, h5⟩ := h3
    have h4 : x' = _ := h4
    subst h4
    have h5 := flatB_ok h5
    have h5 : d' = d := h5
    subst h5
    obtain ⟨u, v, hu, r, q⟩ := G.cs _ _ hm
    exact ⟨v, pe_glob (Sx.gl (glB_ok h1)) hu r (by simpa using h2), q⟩
  · cases h
def varE (N : List Str) (sc : Scope) (i : Nat) : Expr → Bool
  | .Name x _ => decide (N[i]? = some x) && visB sc x && !(x == ("__debug__" : Str)) && !(x == ("__classdict__" : Str))
  | _ => false
theorem varE_ok {X : Cx} {sc : Scope} (Sx : Sc X sc) {i : Nat} {e : Expr} (h : varE X.N sc i e = true) : PE X e (tVar i) := by
  unfold varE at h
  split at h
  · rw [Bool.and_eq_true, Bool.and_eq_true, Bool.and_eq_true, decide_eq_true_eq] at h
    exact pe_var h.1.1.1 (Sx.vis (visB_ok h.1.1.2)) (by simpa using h.1.2) (by simpa using h.2)
  · cases h
def tstB : Expr → Bool
  | .IfExp _ _ _ _ => false
  | _ => true
def isBO : Expr → Bool
  | .BoolOp _ _ _ => true
  | _ => false
def chnOf (o o' : P2) : Expr → Option (Expr × Expr × Expr)
  | .Compare a [p, p'] [b, c] _ => match o.cmp, o'.cmp with
    | some q, some q' => if p = q ∧ p' = q' ∧ lastMarks [p, p'] [b, c] = false then some (a, b, c) else none
    | _, _ => none
  | _ => none
theorem chnOf_ok {o o' : P2} {e a b c : Expr} (h : chnOf o o' e = some (a, b, c)) : ∃ q q' pos, o.cmp = some q ∧ o'.cmp = some q' ∧ e = .Compare a [q, q'] [b, c] pos ∧ lastMarks [q, q'] [b, c] = false := by
  unfold chnOf at h
  split at h
  · split at h
    · split at h
      · rename_i c
        obtain ⟨rfl, rfl, c⟩ := c
        cases h
        exact ⟨_, _, _, ‹_›, ‹_›, rfl, c⟩
      · cases h
    · cases h
  · cases h
def nbw (x : Ex) : Bool := match x with
  | .brw _ => false
  | _ => true
theorem nbw_ok {x : Ex} (h : nbw x = true) : x.knd ≠ .bw := by
  unfold Ex.knd
  split
  · cases h
  · split <;> (intro z; cases z)
def P2.isRpop : P2 → Bool
  | .rpop => true
  | _ => false

/-- where an expression stands: the names of the slots, the scope, may a lambda be made -/
structure Cc where
  N : List Str
  sc : Scope
  lm : Bool
def Cc.sub (κ : Cc) (s : Scope) : Cc := ⟨κ.N, s, false⟩
mutual
def chk (pg : Pg) : Cc → Ex → Expr → Bool
  | κ, .var i, e => varE κ.N κ.sc i e
  | κ, .brw i, e => varE κ.N κ.sc i e
  | κ, .lit d, e => litE d e || glE pg κ.sc d e
  | κ, .p1 o a, e => match P1.arg κ.sc o e with
    | some ea => chk pg κ a ea
    | none => false
  | κ, .p2 o a b, e => match o.isRpop with
    | true => (match popOf e with
      | some (ea, eb) => chk pg κ a ea && chk pg κ b eb && b.still
      | none => false)
    | false => (match P2.args κ.sc o e with
      | some (ea, eb) => chk pg κ a ea && chk pg κ b eb
      | none => false)
  | κ, .chn o o' a b c, e => match chnOf o o' e with
    | some (ea, eb, ec) => chk pg κ a ea && chk pg κ b eb && chk pg κ c ec
    | none => false
  | κ, .sll a lo, e => match e with
    | .Subscript ea (.Slice (some el) none none _) _ => chk pg κ a ea && chk pg κ lo el && nbw lo
    | _ => false
  | κ, .slh a hi, e => match e with
    | .Subscript ea (.Slice none (some el) none _) _ => chk pg κ a ea && chk pg κ hi el && nbw hi
    | _ => false
  | κ, .slb a lo hi, e => match e with
    | .Subscript ea (.Slice (some el) (some eh) none _) _ => chk pg κ a ea && chk pg κ lo el && nbw lo && chk pg κ hi eh && nbw hi
    | _ => false
  | κ, .and a b, e => match e with
    | .BoolOp .And (ea :: eb :: rest) pos => chk pg κ a ea && nbw a && nbw b && (match rest with
      | [] => chk pg κ b eb && tstB ea && tstB eb
      | _ :: _ => chk pg κ b (.BoolOp .And (eb :: rest) pos) && tstB ea)
    | _ => false
  | κ, .or a b, e => match e with
    | .BoolOp .Or (ea :: eb :: rest) pos => chk pg κ a ea && nbw a && nbw b && (match rest with
      | [] => chk pg κ b eb && tstB ea && tstB eb
      | _ :: _ => chk pg κ b (.BoolOp .Or (eb :: rest) pos) && tstB ea)
    | _ => false
  | κ, .not a, e => match e with
    | .UnaryOp .Not ea _ => chk pg κ a ea && nbw a && tstB ea
    | _ => false
  | κ, .ite c a b, e => match e with
    | .IfExp ec ea eb _ => chk pg κ c ec && tstB ec && chk pg κ a ea && chk pg κ b eb && nbw a && nbw b
    | _ => false
  | κ, .tup es, e => match e with
    | .Tuple l _ _ => chks pg κ es l && decide (es.len ≤ 1000)
    | _ => false
  | κ, .lst es, e => match e with
    | .List l _ => chks pg κ es l && decide (es.len ≤ 1000)
    | _ => false
  | κ, .nlst es, e => match e with
    | .List l _ => chks pg κ es l && decide (es.len ≤ 1000)
    | _ => false
  | κ, .stor a, e => nComp e && (chk pg κ a e && a.fresh)
  | κ, .call i es, e => match e with
    | .Call (.Name f _) (ea :: l) [] _ => (match pg.fns[i]? with
      | some (f', _) => decide (f' = f) && glB κ.sc f && !(f == ("__debug__" : Str)) && chks pg κ es (ea :: l)
      | none => false)
    | _ => false
  | κ, .comp _ p src tst elt, e => match e with
    | .ListComp eelt [⟨tg, iter, ifs, 0⟩] scope _ => chkSrc pg κ src iter && nSet iter && patB κ.N scope p tg && decide p.slots.Nodup &&
        blkC κ.N κ.sc scope (p.slots.map fun i => ((κ.N[i]?).getD ("" : Str), i)) && (match ifs with
          | [] => (match tst with
            | .lit (.bool true) => true
            | _ => false)
          | [c] => chk pg (κ.sub scope) tst c && tstB c
          | _ => false) && chk pg (κ.sub scope) elt eelt && nbw elt
    | _ => false
  | _, .comp2 .., _ => false
  | κ, .srtK _ a key, e => match e with
    | .Call (.Name f _) [ea] [⟨some nm, .Lambda params body lscope _, _⟩] _ => κ.lm && decide (f = ("sorted" : Str)) && decide (nm = ("key" : Str)) && glB κ.sc f && nStar ea && chk pg κ a ea && (match params.args with
      | [y] => onePar y.arg params && scB [y.arg] [y.arg] lscope && chk pg ⟨[y.arg], lscope, false⟩ key body && nbw key
      | _ => false)
    | _ => false
  | _, .srtF .., _ => false
  | _, .minK .., _ => false
  | _, .minF .., _ => false
  | _, .gen .., _ => false
def chks (pg : Pg) : Cc → Exs → List Expr → Bool
  | _, .nil, l => l.isEmpty
  | κ, .cons a es, l => match l with
    | e :: l => chk pg κ a e && nbw a && nStar e && chks pg κ es l
    | [] => false
def chkSrc (pg : Pg) : Cc → Src → Expr → Bool
  | κ, .seq a, e => chk pg κ a e
  | κ, .rng1 a, e => match call1 κ.sc "range" e with
    | some ea => chk pg κ a ea && nbw a
    | none => false
  | κ, .rng2 a b, e => match call2 κ.sc "range" e with
    | some (ea, eb) => chk pg κ a ea && chk pg κ b eb && nbw a && nbw b
    | none => false
end

theorem chks_st {pg : Pg} {κ : Cc} : ∀ {es : Exs} {ea : Expr} {l : List Expr}, chks pg κ es (ea :: l) = true → nStar ea = true ∧ l.all nStar = true
  | .nil, ea, l, h => nomatch h
  | .cons a es, ea, [], h => by
    have h : (chk pg κ a ea && nbw a && nStar ea && chks pg κ es []) = true := h
    rw [Bool.and_eq_true, Bool.and_eq_true] at h
    exact ⟨h.1.2, rfl⟩
  | .cons a es, ea, e :: l, h => by
    have h : (chk pg κ a ea && nbw a && nStar ea && chks pg κ es (e :: l)) = true := h
    rw [Bool.and_eq_true, Bool.and_eq_true] at h
    obtain ⟨q1, q2⟩ := chks_st h.2
    exact ⟨h.1.2, by rw [List.all_cons, q1, q2]; rfl⟩
structure Good (X : Cx) (T : List (Addr × Str)) (S : Sm) (x : Ex) (e : Expr) : Prop where
  pe : PE X e (tO X.K T S x.knd x)
  pt : tstB e = true → PT X e (tT X.K T S x)
  pw : isBO e = true → PW X e (tT X.K T S x)
theorem PWimp {X : Cx} {e : Expr} {t t' : TT} (h : PW X e t) (i : ∀ σ H Q, t' σ H Q → t σ H Q) : PW X e t' := ⟨fun wh pins s σ H Q I q => h.run wh pins s σ H Q I (i σ H Q q)⟩
section
variable {pg : Pg} {T : List (Addr × Str)} {k : Nat} {X : Cx} {sc : Scope} {S : Sm} {x : Ex} {e : Expr}
theorem Good.pl (h : Good X T S x e) (n : nbw x = true) : PE X e (tO X.K T S .pl x) := PEpl h.pe (nbw_ok n)
theorem Good.bw (h : Good X T S x e) : PE X e (tO X.K T S .bw x) := PEbw h.pe
theorem Good.val (h : PE X e (tO X.K T S x.knd x)) (p : plT e = true) (n : isBO e = false) : Good X T S x e := ⟨h, fun _ => pt_of h p, fun z => by rw [n] at z; cases z⟩
end
end Ev

/-! Ev15: the checker of expressions is sound. -/
namespace Ev
open PySem PySem.Spec PyProof.Rows L2

theorem call1_pl {sc : Scope} {x : Str} {e a : Expr} (h : call1 sc x e = some a) : plT e = true ∧ isBO e = false := by
  obtain ⟨⟨p, q, rfl⟩, _⟩ := call1_ok h
  exact ⟨rfl, rfl⟩
theorem call2_pl {sc : Scope} {x : Str} {e a b : Expr} (h : call2 sc x e = some (a, b)) : plT e = true ∧ isBO e = false := by
  obtain ⟨⟨p, q, rfl⟩, _⟩ := call2_ok h
  exact ⟨rfl, rfl⟩
theorem p1_pl {sc : Scope} {o : P1} {e a : Expr} (h : P1.arg sc o e = some a) : plT e = true ∧ isBO e = false := by
  unfold P1.arg at h
  split at h
  · exact call1_pl h
  · split at h
    · obtain ⟨p, rfl⟩ := negOf_ok h
      exact ⟨rfl, rfl⟩
    · unfold isiOf at h
      split at h
      · exact call2_pl ‹_›
      · cases h
    · unfold srtSOf at h
      split at h
      · exact call1_pl ‹_›
      · cases h
    · unfold rngTOf at h
      split at h
      · exact call1_pl ‹_›
      · cases h
    · cases h
theorem p2_pl {sc : Scope} {o : P2} {e a b : Expr} (hc : o.cmp = none) (h : P2.args sc o e = some (a, b)) : plT e = true ∧ isBO e = false := by
  unfold P2.args at h
  split at h
  · obtain ⟨p, rfl⟩ := binOf_ok h
    exact ⟨rfl, rfl⟩
  · rw [hc] at h
    dsimp only at h
    split at h
    · obtain ⟨⟨p, rfl⟩, _⟩ := ixOf_ok h
      exact ⟨rfl, rfl⟩
    · exact call2_pl h
    · exact call2_pl h
    · obtain ⟨⟨p, q, rfl, _⟩, _⟩ := popOf_ok h
      exact ⟨rfl, rfl⟩
    · cases h
theorem p2_cm {sc : Scope} {o : P2} {op : CmpOp} {e a b : Expr} (hc : o.cmp = some op) (h : P2.args sc o e = some (a, b)) : cmpOf op e = some (a, b) := by
  cases o <;> cases hc <;> exact h
theorem blk_ix {N : List Str} {is : List Nat} : (is.map fun i => ((N[i]?).getD ("" : Str), i)).map (·.2) = is := by
  rw [List.map_map]
  induction is with
  | nil => rfl
  | cons i is ih => rw [List.map_cons, ih]; rfl

variable {pg : Pg} {T : List (Addr × Str)} {k : Nat}
theorem fresh_knd {x : Ex} (hf : x.fresh = true) : x.knd = .fr := by
  unfold Ex.knd
  split
  · cases hf
  · rw [if_pos hf]
theorem tt_Stor {X : Cx} {S : Sm} {a : Ex} {t : TT} {σ : L2.St} {H : Hp} {Q : Bool → Hp → Prop} (h : tT X.K T S (.stor a) σ H Q) : t σ H Q := by
  obtain ⟨F, α, P, O, ρ, w, hK, hT, sr, wx, ⟨b, hb⟩, out⟩ := h
  cases hb
theorem noL {X : Cx} : false = true → LamOk T k X := fun z => nomatch z
mutual
theorem chk_ok : ∀ (x : Ex) {X : Cx} {sc : Scope} {lm : Bool} {e : Expr}, Gd pg T k X → Sc X sc → (lm = true → LamOk T k X) → chk pg ⟨X.N, sc, lm⟩ x e = true → Good X T (fnS pg k) x e
  | .var i, X, sc, lm, e, G, Sx, Lx, h => by
    have h : varE X.N sc i e = true := h
    have hv := varE_ok Sx h
    refine Good.val (pe_Var hv) ?_ ?_ <;> (unfold varE at h; split at h; rfl; cases h)
  | .brw i, X, sc, lm, e, G, Sx, Lx, h => by
    have h : varE X.N sc i e = true := h
    have hv := varE_ok Sx h
    refine Good.val (pe_Brw hv) ?_ ?_ <;> (unfold varE at h; split at h; rfl; cases h)
  | .lit d, X, sc, lm, e, G, Sx, Lx, h => by
    have h : (litE d e || glE pg sc d e) = true := h
    rw [Bool.or_eq_true] at h
    rcases h with h | h
    · obtain ⟨v, p, r⟩ := litE_ok (X := X) h
      refine Good.val (pe_Lit p r) ?_ ?_ <;> (unfold litE at h; split at h <;> first | rfl | cases h)
    · obtain ⟨v, p, r⟩ := glE_ok G Sx h
      refine Good.val (pe_Lit p r) ?_ ?_ <;> (unfold glE at h; split at h <;> first | rfl | cases h)
  | .p1 o a, X, sc, lm, e, G, Sx, Lx, h => by
    have h : (match P1.arg sc o e with
      | some ea => chk pg ⟨X.N, sc, lm⟩ a ea
      | none => false) = true := h
    split at h
    · rename_i ea q
      have ha := chk_ok a G Sx Lx h
      exact Good.val (pe_P1 (p1_pe G Sx q ha.bw)) (p1_pl q).1 (p1_pl q).2
    · cases h
  | .p2 o a b, X, sc, lm, e, G, Sx, Lx, h0 => by
    have h : (match o.isRpop with
    | true => (match popOf e with
      | some (ea, eb) => chk pg ⟨X.N, sc, lm⟩ a ea && chk pg ⟨X.N, sc, lm⟩ b eb && b.still
      | none => false)
    | false => (match P2.args sc o e with
      | some (ea, eb) => chk pg ⟨X.N, sc, lm⟩ a ea && chk pg ⟨X.N, sc, lm⟩ b eb
      | none => false)) = true := h0
    clear h0
    split at h
    · split at h
      · rename_i hr _ ea eb q
        rw [Bool.and_eq_true, Bool.and_eq_true] at h
        have ho : o = .rpop := by cases o <;> first | rfl | exact nomatch hr
        subst ho
        have ha := chk_ok a G Sx Lx h.1.1
        have hb := chk_ok b G Sx Lx h.1.2
        refine Good.val (pe_Rpop h.2 (rpop_pe q ha.bw hb.bw)) ?_ ?_
        · obtain ⟨⟨p, q, rfl, _⟩, _⟩ := popOf_ok q; rfl
        · obtain ⟨⟨p, q, rfl, _⟩, _⟩ := popOf_ok q; rfl
      · cases h
    · split at h
      · rename_i hr _ ea eb q
        rw [Bool.and_eq_true] at h
        have ho : o ≠ .rpop := fun z => by subst z; cases hr
        have ha := chk_ok a G Sx Lx h.1
        have hb := chk_ok b G Sx Lx h.2
        have pe := pe_P2 (p2_pe G Sx ho q ha.bw hb.bw)
        cases hc : o.cmp with
        | none => exact Good.val pe (p2_pl hc q).1 (p2_pl hc q).2
        | some op =>
          refine ⟨pe, fun _ => pt_Cmp G hc (p2_cm hc q) ha.bw hb.bw, fun z => ?_⟩
          obtain ⟨⟨p, rfl⟩, _⟩ := cmpOf_ok (p2_cm hc q)
          cases z
      · cases h
  | .chn o o' a b c, X, sc, lm, e, G, Sx, Lx, h0 => by
    have h : (match chnOf o o' e with
    | some (ea, eb, ec) => chk pg ⟨X.N, sc, lm⟩ a ea && chk pg ⟨X.N, sc, lm⟩ b eb && chk pg ⟨X.N, sc, lm⟩ c ec
    | none => false) = true := h0
    clear h0
    split at h
    · rename_i ea eb ec q
      rw [Bool.and_eq_true, Bool.and_eq_true] at h
      obtain ⟨q1, q2, pos, h1, h2, rfl, hm⟩ := chnOf_ok q
      have ha := chk_ok a G Sx Lx h.1.1
      have hb := chk_ok b G Sx Lx h.1.2
      have hc := chk_ok c G Sx Lx h.2
      refine ⟨PEimp (pe_chain (cmpR (T := T) G h1) (cmpR (T := T) G h2) ha.bw hb.bw hc.bw hm) fun σ H Q z => chn_of h1 h2 z, fun _ => PTimp (pt_chain (cmpR (T := T) G h1) (cmpR (T := T) G h2) ha.bw hb.bw hc.bw hm) fun σ H Q z => chn_of h1 h2 (tT_tO z), fun z => by cases z⟩
    · cases h
  | .sll a lo, X, sc, lm, e, G, Sx, Lx, h => by
    unfold chk at h
    split at h
    · rw [Bool.and_eq_true, Bool.and_eq_true] at h
      exact Good.val (pe_Sll (chk_ok a G Sx Lx h.1.1).bw ((chk_ok lo G Sx Lx h.1.2).pl h.2)) rfl rfl
    · cases h
  | .slh a lo, X, sc, lm, e, G, Sx, Lx, h => by
    unfold chk at h
    split at h
    · rw [Bool.and_eq_true, Bool.and_eq_true] at h
      exact Good.val (pe_Slh (chk_ok a G Sx Lx h.1.1).bw ((chk_ok lo G Sx Lx h.1.2).pl h.2)) rfl rfl
    · cases h
  | .slb a lo hi, X, sc, lm, e, G, Sx, Lx, h => by
    unfold chk at h
    split at h
    · rw [Bool.and_eq_true, Bool.and_eq_true, Bool.and_eq_true, Bool.and_eq_true] at h
      exact Good.val (pe_Slb (chk_ok a G Sx Lx h.1.1.1.1).bw ((chk_ok lo G Sx Lx h.1.1.1.2).pl h.1.1.2) ((chk_ok hi G Sx Lx h.1.2).pl h.2)) rfl rfl
    · cases h
  | .and a b, X, sc, lm, e, G, Sx, Lx, h => by
    unfold chk at h
    split at h
    · rename_i ea eb rest pos
      rw [Bool.and_eq_true, Bool.and_eq_true, Bool.and_eq_true] at h
      obtain ⟨⟨⟨h1, h2⟩, h3⟩, h4⟩ := h
      have ha := chk_ok a G Sx Lx h1
      cases rest with
      | nil =>
        have h4 : (chk pg ⟨X.N, sc, lm⟩ b eb && tstB ea && tstB eb) = true := h4
        rw [Bool.and_eq_true, Bool.and_eq_true] at h4
        have hb := chk_ok b G Sx Lx h4.1.1
        have pw : PW X (.BoolOp .And [ea, eb] pos) (tT X.K T (fnS pg k) (.and a b)) := PWimp (pw_and (ha.pt h4.1.2) (pw_and1 (hb.pt h4.2))) fun σ H Q z => tt_And z
        exact ⟨pe_And (pe_and (ha.pl h2) (pe_one (hb.pl h3))), fun _ => pw.pt, fun _ => pw⟩
      | cons ec rest =>
        have h4 : (chk pg ⟨X.N, sc, lm⟩ b (.BoolOp .And (eb :: ec :: rest) pos) && tstB ea) = true := h4
        rw [Bool.and_eq_true] at h4
        have hb := chk_ok b G Sx Lx h4.1
        have pw : PW X (.BoolOp .And (ea :: eb :: ec :: rest) pos) (tT X.K T (fnS pg k) (.and a b)) := PWimp (pw_and (ha.pt h4.2) (hb.pw rfl)) fun σ H Q z => tt_And z
        exact ⟨pe_And (pe_and (ha.pl h2) (hb.pl h3)), fun _ => pw.pt, fun _ => pw⟩
    · cases h
  | .or a b, X, sc, lm, e, G, Sx, Lx, h => by
    unfold chk at h
    split at h
    · rename_i ea eb rest pos
      rw [Bool.and_eq_true, Bool.and_eq_true, Bool.and_eq_true] at h
      obtain ⟨⟨⟨h1, h2⟩, h3⟩, h4⟩ := h
      have ha := chk_ok a G Sx Lx h1
      cases rest with
      | nil =>
        have h4 : (chk pg ⟨X.N, sc, lm⟩ b eb && tstB ea && tstB eb) = true := h4
        rw [Bool.and_eq_true, Bool.and_eq_true] at h4
        have hb := chk_ok b G Sx Lx h4.1.1
        have pw : PW X (.BoolOp .Or [ea, eb] pos) (tT X.K T (fnS pg k) (.or a b)) := PWimp (pw_or (ha.pt h4.1.2) (pw_or1 (hb.pt h4.2))) fun σ H Q z => tt_Or z
        exact ⟨pe_Or (pe_or (ha.pl h2) (pe_one (hb.pl h3))), fun _ => pw.pt, fun _ => pw⟩
      | cons ec rest =>
        have h4 : (chk pg ⟨X.N, sc, lm⟩ b (.BoolOp .Or (eb :: ec :: rest) pos) && tstB ea) = true := h4
        rw [Bool.and_eq_true] at h4
        have hb := chk_ok b G Sx Lx h4.1
        have pw : PW X (.BoolOp .Or (ea :: eb :: ec :: rest) pos) (tT X.K T (fnS pg k) (.or a b)) := PWimp (pw_or (ha.pt h4.2) (hb.pw rfl)) fun σ H Q z => tt_Or z
        exact ⟨pe_Or (pe_or (ha.pl h2) (hb.pl h3)), fun _ => pw.pt, fun _ => pw⟩
    · cases h
  | .not a, X, sc, lm, e, G, Sx, Lx, h => by
    unfold chk at h
    split at h
    · rw [Bool.and_eq_true, Bool.and_eq_true] at h
      have ha := chk_ok a G Sx Lx h.1.1
      exact ⟨pe_Not (pe_not (ha.pl h.1.2)), fun _ => PTimp (pt_not (ha.pt h.2)) fun σ H Q z => tt_Not z, fun z => by cases z⟩
    · cases h
  | .ite c a b, X, sc, lm, e, G, Sx, Lx, h => by
    unfold chk at h
    split at h
    · rw [Bool.and_eq_true, Bool.and_eq_true, Bool.and_eq_true, Bool.and_eq_true, Bool.and_eq_true] at h
      obtain ⟨⟨⟨⟨⟨h1, h2⟩, h3⟩, h4⟩, h5⟩, h6⟩ := h
      exact ⟨pe_Ite (pe_ifExp ((chk_ok c G Sx Lx h1).pt h2) ((chk_ok a G Sx Lx h3).pl h5) ((chk_ok b G Sx Lx h4).pl h6)), fun z => (by cases z), fun z => by cases z⟩
    · cases h
  | .tup es, X, sc, lm, e, G, Sx, Lx, h => by
    unfold chk at h
    split at h
    · rw [Bool.and_eq_true, decide_eq_true_eq] at h
      exact Good.val (pe_Tup (chks_ok es G Sx Lx h.1) h.2) rfl rfl
    · cases h
  | .lst es, X, sc, lm, e, G, Sx, Lx, h => by
    unfold chk at h
    split at h
    · rw [Bool.and_eq_true, decide_eq_true_eq] at h
      exact Good.val (pe_Lst (chks_ok es G Sx Lx h.1) h.2) rfl rfl
    · cases h
  | .nlst es, X, sc, lm, e, G, Sx, Lx, h => by
    unfold chk at h
    split at h
    · rw [Bool.and_eq_true, decide_eq_true_eq] at h
      exact Good.val (pe_Nlst (chks_ok es G Sx Lx h.1) h.2) rfl rfl
    · cases h
  | .stor a, X, sc, lm, e, G, Sx, Lx, h => by
    have h : (nComp e && (chk pg ⟨X.N, sc, lm⟩ a e && a.fresh)) = true := h
    rw [Bool.and_eq_true, Bool.and_eq_true] at h
    have h := h.2
    have g := chk_ok a G Sx Lx h.1
    have pe := g.pe
    rw [fresh_knd h.2] at pe
    exact ⟨pe_Stor pe, fun z => PTimp (g.pt z) fun σ H Q z => tt_Stor z, fun z => PWimp (g.pw z) fun σ H Q z => tt_Stor z⟩
  | .call i es, X, sc, lm, e, G, Sx, Lx, h => by
    unfold chk at h
    split at h
    · split at h
      · rename_i f' d hi
        rw [Bool.and_eq_true, Bool.and_eq_true, Bool.and_eq_true, decide_eq_true_eq] at h
        obtain ⟨⟨⟨rfl, h2⟩, h3⟩, h4⟩ := h
        obtain ⟨s1, s2⟩ := chks_st h4
        exact Good.val (pe_Call G Sx hi (glB_ok h2) (chks_ok es G Sx Lx h4) (by simpa using h3) s1 s2) rfl rfl
      · cases h
    · cases h
  | .comp eff p src tst elt, X, sc, lm, e, G, Sx, Lx, h => by
    unfold chk at h
    split at h
    · rename_i eelt tg iter ifs scope pos
      rw [Bool.and_eq_true, Bool.and_eq_true, Bool.and_eq_true, Bool.and_eq_true, Bool.and_eq_true, Bool.and_eq_true, Bool.and_eq_true, decide_eq_true_eq] at h
      obtain ⟨⟨⟨⟨⟨⟨⟨h1, h2⟩, h3⟩, h4⟩, h5⟩, h6⟩, h7⟩, h8⟩ := h
      have hb := blkOk_by h5
      refine Good.val (pe_Comp (pe_CompW G (chkSrc_ok src G Sx Lx h1) (BlkOk.rel Sx hb) blk_ix h4 (fun s H C cl fp => patB_pg (G.blk (scope := scope)) Sc.blk h3) (fun s H C cl fp => ?_) (fun s H C cl fp => (chk_ok elt (G.blk (scope := scope)) Sc.blk noL h7).pl h8) (fun x => nSet_ok h2 _ _))) rfl rfl
      split at h6
      · split at h6
        · exact pts_yes (X := X.blk s H scope (compEnvC scope cl C X.env) fp)
        · cases h6
      · rw [Bool.and_eq_true] at h6
        exact pts_one ((chk_ok tst (G.blk (scope := scope)) Sc.blk noL h6.1).pt h6.2)
      · cases h6
    · cases h
  | .comp2 _ _ _ _ _ _ _, _, _, _, _, _, _, _, h => nomatch h
  | .srtK i a key, X, sc, lm, e, G, Sx, Lx, h => by
    unfold chk at h
    split at h
    · rename_i f fp ea nm params body lscope lp kp q
      rw [Bool.and_eq_true, Bool.and_eq_true, Bool.and_eq_true, Bool.and_eq_true, Bool.and_eq_true, Bool.and_eq_true, decide_eq_true_eq, decide_eq_true_eq] at h
      obtain ⟨⟨⟨⟨⟨⟨h1, rfl⟩, rfl⟩, h4⟩, h5⟩, h6⟩, h7⟩ := h
      split at h7
      · rename_i y hy
        rw [Bool.and_eq_true, Bool.and_eq_true, Bool.and_eq_true] at h7
        obtain ⟨⟨⟨k1, k2⟩, k3⟩, k4⟩ := h7
        have S := scB_ok k2
        refine Good.val (pe_SrtK G Sx (Lx h1) (glB_ok h4) (chk_ok a G Sx Lx h6).bw h5 S k1 fun s1 H1 f c' hr => ?_) rfl rfl
        have G' : Gd pg T k (lamC X X.A.in1.in1 s1 H1 y.arg lscope f c') := ⟨rfl, hr, S.nd, G.fns, G.blt, G.cs⟩
        exact (chk_ok key G' (sc := lscope) (lm := false) ⟨.inl rfl, fun _ _ => rfl⟩ noL k3).pl k4
      · cases h7
    · cases h
  | .srtF _ _, _, _, _, _, _, _, _, h => nomatch h
  | .minK _ _ _, _, _, _, _, _, _, _, h => nomatch h
  | .minF _ _, _, _, _, _, _, _, _, h => nomatch h
  | .gen _ _ _ _ _, _, _, _, _, _, _, _, h => nomatch h
theorem chks_ok : ∀ (es : Exs) {X : Cx} {sc : Scope} {lm : Bool} {l : List Expr}, Gd pg T k X → Sc X sc → (lm = true → LamOk T k X) → chks pg ⟨X.N, sc, lm⟩ es l = true → PA X l (tA X.K T (fnS pg k) es)
  | .nil, X, sc, lm, l, G, Sx, Lx, h => by
    have h : l.isEmpty = true := h
    rw [List.isEmpty_iff] at h
    subst h
    exact pa_Nil
  | .cons a es, X, sc, lm, l, G, Sx, Lx, h => by
    unfold chks at h
    split at h
    · rw [Bool.and_eq_true, Bool.and_eq_true, Bool.and_eq_true] at h
      exact pa_Cons ((chk_ok a G Sx Lx h.1.1.1).pl h.1.1.2) (chks_ok es G Sx Lx h.2) h.1.2
    · cases h
theorem chkSrc_ok : ∀ (src : Src) {X : Cx} {sc : Scope} {lm : Bool} {e tg : Expr}, Gd pg T k X → Sc X sc → (lm = true → LamOk T k X) → chkSrc pg ⟨X.N, sc, lm⟩ src e = true → PI X tg e (tI X.K T (fnS pg k) true src)
  | .seq a, X, sc, lm, e, tg, G, Sx, Lx, h => pi_Seq (chk_ok a G Sx Lx h).bw
  | .rng1 a, X, sc, lm, e, tg, G, Sx, Lx, h => by
    unfold chkSrc at h
    split at h
    · rw [Bool.and_eq_true] at h
      exact pi_Rng1 G Sx ‹_› ((chk_ok a G Sx Lx h.1).pl h.2)
    · cases h
  | .rng2 a b, X, sc, lm, e, tg, G, Sx, Lx, h => by
    unfold chkSrc at h
    split at h
    · rw [Bool.and_eq_true, Bool.and_eq_true, Bool.and_eq_true] at h
      exact pi_Rng2 G Sx ‹_› ((chk_ok a G Sx Lx h.1.1.1).pl h.1.2) ((chk_ok b G Sx Lx h.1.1.2).pl h.2)
    · cases h
end
end Ev

/-! Ev16: statements, one by one. -/
namespace Ev
open PySem PySem.Spec PyProof.Rows L2

section
variable (F : Fx)
/-- what is wanted behind a statement -/
def EndO (α : List Addr) (P : Hp) (D : Ends) (r : Rs) : Prop := ∀ α' P' O' σ' H', Pre α α' → Sub P P' → SR F α' P' O' r.en r.st σ' H' → match r.fl with
  | .nx => D.nx σ' H'
  | .bk => D.bk σ' H'
  | .ct => D.ct σ' H'
  | .rt d => ∀ v, Rep F.K α' P' d v → D.rt v H'
end
theorem EndO.mono {F : Fx} {α α1 : List Addr} {P P1 : Hp} {D : Ends} {r : Rs} (h : EndO F α P D r) (e : Pre α α1) (s : Sub P P1) : EndO F α1 P1 D r := fun α' P' O' σ' H' e1 s1 sr => h α' P' O' σ' H' (e.trans e1) (s.trans s1) sr
section
variable (K : PySem.W.Frag) (T : List (Addr × Str)) (S : Sm)
def tSt (st : St) : TS := fun D σ H => ∃ F α P O ρ w, F.K = K ∧ F.T = T ∧ SR F α P O ρ w σ H ∧ wdS S st ρ w ∧ EndO F α P D (xs S st ρ w)
def tBk (b : Blk) : TS := fun D σ H => ∃ F α P O ρ w, F.K = K ∧ F.T = T ∧ SR F α P O ρ w σ H ∧ wdB S b ρ w ∧ EndO F α P D (xb S b ρ w)
end
theorem PSsimp {X : Cx} {st : List Stmt} {t t' : TS} (h : PSs X st t) (i : ∀ D σ H, t' D σ H → t D σ H) : PSs X st t' := ⟨fun pins s σ H D I q => h.run pins s σ H D I (i D σ H q)⟩
theorem PSsP {X : Cx} {st : List Stmt} {t : TS} (h : PSs X st t) {t' : TS} {A : TS → Prop} (i : ∀ D σ H, t' D σ H → t D σ H) : PSs X st t' := PSsimp h i

section
variable {pg : Pg} {T : List (Addr × Str)} {k : Nat} {X : Cx} {sc : Scope} {S : Sm}
variable {e ea eb ec : Expr} {x a b c : Ex} {pos pos' : Pos} {i : Nat}

theorem setAt_len {ρ : En} {s : Sl} (h : ¬ i < ρ.length) : ρ.set i s = ρ := List.set_eq_of_length_le (Nat.le_of_not_lt h)
/-- what stands in the slot behind name = e -/
theorem tSet_plain (hf : x.fresh = false) {D : Ends} {σ : L2.St} {H : Hp} (h : tSt X.K T S (.set i x) D σ H) : tAsg (tO X.K T S .pl x) (gName i) D σ H := by
  obtain ⟨F, α, P, O, ρ, w, hK, hT, sr, wx, out⟩ := h
  have out : EndO F α P D ⟨.nx, ρ.set i (mk x.fresh (ev S x ρ w).1), (ev S x ρ w).2⟩ := out
  refine ⟨F, α, P, O, ρ, w, hK, hT, sr, wx, fun α1 P1 H1 v e1 s1 sr1 r1 => ?_⟩
  rw [hf] at out
  exact out α1 P1 O _ H1 e1 s1 (sr1.setVal r1)
theorem tSet_fresh (hf : x.fresh = true) {D : Ends} {σ : L2.St} {H : Hp} (h : tSt X.K T S (.set i x) D σ H) : tAsg (tO X.K T S .fr x) (gName i) D σ H := by
  obtain ⟨F, α, P, O, ρ, w, hK, hT, sr, wx, out⟩ := h
  have out : EndO F α P D ⟨.nx, ρ.set i (mk x.fresh (ev S x ρ w).1), (ev S x ρ w).2⟩ := out
  refine ⟨F, α, P, O, ρ, w, hK, hT, sr, wx, fun α1 P1 H1 v e1 s1 sr1 r1 => ?_⟩
  rw [hf] at out
  rcases r1 with ⟨r1, hn⟩ | ⟨ds, a, vs, hd, rfl, h1, h2, h3, h4, h5, h6, h7⟩
  · have hm : mk true (ev S x ρ w).1 = .val (ev S x ρ w).1 := by
      revert hn
      generalize (ev S x ρ w).1 = d
      intro hn
      unfold mk
      split
      · exact absurd rfl (hn _)
      · rfl
    rw [hm] at out
    exact out α1 P1 O _ H1 e1 s1 (sr1.setVal r1)
  · rw [hd] at out
    exact out α1 P1 _ _ H1 e1 s1 (sr1.setOwn (i := i) h1 h2 h3 h4 h5 h6 h7)
def nTup : Expr → Bool
  | .Tuple _ _ _ => false
  | .ListComp _ _ _ _ => false
  | .SetComp _ _ _ _ => false
  | .DictComp _ _ _ _ _ => false
  | _ => true
theorem nTup_comp (h : nTup e = true) : nComp e = true := by
  cases e <;> first | rfl | exact nomatch h
theorem nTup_swT (h : nTup e = true) (es : List Expr) (k : Nat) (p : Pos) (env : Env) : swappedStores [.Tuple es k p] e env = pure none := by
  cases e <;> first | rfl | exact nomatch h
theorem nTup_swS (h : nTup e = true) (a b : Expr) (p : Pos) (env : Env) : swappedStores [.Subscript a b p] e env = pure none := by
  cases e <;> first | rfl | exact nomatch h
theorem nTup_sole (h : nTup e = true) (t : Expr) (l : Nat) (env : Env) : swapsWithSole [t] e l env = pure false := nComp_ok (nTup_comp h) _ _ _
theorem ps_SetT {is : List Nat} {es : List Expr} {kk : Nat} {p : Pos} (G : Gd pg T k X) (Sx : Sc X sc) (h : namesAt X.N sc is es = true) (he : PE X e (tO X.K T S .pl x)) (hn : nTup e = true) : PS X (.Assign [.Tuple es kk p] e pos) (tSt X.K T S (.setT is x)) := by
  obtain ⟨p2, l2, f2⟩ := namesAt_pg G.nd Sx h
  refine PSimp (ps_asg he (pg_tup G.calm p2 l2 f2) (nTup_sole hn _ _ _) (nTup_swT hn _ _ _ _) rfl) fun D σ H h => ?_
  obtain ⟨F, α, P, O, ρ, w, hK, hT, sr, wx, out⟩ := h
  obtain ⟨wa, l, hl, hlen⟩ := wx
  have out : EndO F α P D ⟨.nx, setVs ρ is (its (ev S x ρ w).1), (ev S x ρ w).2⟩ := out
  refine ⟨F, α, P, O, ρ, w, hK, hT, sr, wa, fun α1 P1 H1 v e1 s1 sr1 r1 => ?_⟩
  have r1 : Rep F.K α1 P1 (ev S x ρ w).1 v := r1
  rw [hl] at out r1
  exact gOf_ok (p := .tup is) hK sr1 r1 ⟨l, rfl, hlen⟩ fun σ' sr' _ => out α1 P1 O σ' H1 e1 s1 sr'
/-- name op= e, on integers -/
def P2.iop : P2 → Bool
  | .add => true
  | .sub => true
  | .mul => true
  | .fdiv => true
  | .mod => true
  | _ => false
theorem ip_int {o : P2} {op : Operator} (h : o.bin = some op) (hi : o.iop = true) : PIp X op (fun x y H Q => ∃ i j w, x = .int i ∧ y = .int j ∧ d2 o (.int i) (.int j) w ∧ Q (.int (toI (v2 o (.int i) (.int j) w))) H) := by
  intro pins s σ H x y v u Q I rx ry hh
  obtain ⟨i, j, w, rfl, rfl, hd, q⟩ := hh
  cases o with
  | add => cases h; exact iop_add pins s σ H _ _ v u Q I rx ry ⟨i, j, rfl, rfl, q⟩
  | sub => cases h; exact iop_sub pins s σ H _ _ v u Q I rx ry ⟨i, j, rfl, rfl, q⟩
  | mul =>
    cases h
    rcases hd with ⟨i', j', e1, e2, c⟩ | ⟨_, _, e, _⟩
    · cases e1; cases e2; exact iop_mul pins s σ H _ _ v u Q I rx ry ⟨i, j, rfl, rfl, c, q⟩
    · cases e
  | fdiv =>
    cases h
    obtain ⟨i', j', e1, e2, c⟩ := hd
    cases e1; cases e2; exact iop_fdiv pins s σ H _ _ v u Q I rx ry ⟨i, j, rfl, rfl, c, q⟩
  | mod =>
    cases h
    obtain ⟨i', j', e1, e2, c⟩ := hd
    cases e1; cases e2; exact iop_mod pins s σ H _ _ v u Q I rx ry ⟨i, j, rfl, rfl, c, q⟩
  | _ => exact nomatch hi
theorem aug_v {o : P2} (hi : o.iop = true) (i j : Int) (w : W) : v2 o (.int i) (.int j) w = .int (toI (v2 o (.int i) (.int j) w)) := by
  cases o <;> first | rfl | exact nomatch hi
theorem ps_Aug {o : P2} {op : Operator} {y : Str} {py : Pos} (G : Gd pg T k X) (h : o.bin = some op) (hi : o.iop = true) (hN : X.N[i]? = some y) (hl : Loc X.env.scope y) (hf : X.fn y = true ∨ X.env.scope.names.lookup y = some .local) (he : PE X e (tO X.K T S .pl x)) :
    PS X (.AugAssign (.Name y py) op e pos) (tSt X.K T S (.aug i o x)) :=
  PSimp (ps_aug G.nd hN hl he (ip_int h hi) hf) fun D σ H h => by
    obtain ⟨F, α, P, O, ρ, w, hK, hT, sr, ⟨wv, wa, wd', ⟨i', hi'⟩, ⟨j', hj'⟩⟩, out⟩ := h
    have out : EndO F α P D ⟨.nx, setV ρ i (v2 o (rd ρ i) (ev S x ρ w).1 (ev S x ρ w).2), (ev S x ρ w).2⟩ := out
    have wd' : d2 o (rd ρ i) (ev S x ρ w).1 (ev S x ρ w).2 := wd'
    have hj' : (ev S x ρ w).1 = .int j' := hj'
    obtain ⟨v, ev', rv⟩ := sr.val wv
    rw [hi'] at rv out wd'
    rw [hj'] at out wd'
    refine ⟨v, ev', F, α, P, O, ρ, w, hK, hT, sr, wa, fun α1 P1 H1 u e1 s1 sr1 r1 => ?_⟩
    rw [hj'] at r1
    rw [aug_v hi] at out
    exact ⟨i', j', _, rv, r1, wd', out α1 P1 O _ H1 e1 s1 (sr1.setVal (show Rep F.K α1 P1 (.int _) (.int _) from rfl))⟩
theorem SR.own {F : Fx} {α : List Addr} {P O : Hp} {ρ : En} {w : W} {σ : L2.St} {H : Hp} (sr : SR F α P O ρ w σ H) (h : isOwn ρ i) : ∃ a vs, ρ[i]? = some (.own (ownL ρ i)) ∧ σ[i]? = some (some (.ref a)) ∧ O a = some (.lst vs) ∧ (ownL ρ i).length ≤ sizeLine ∧ Reps F.K α P (ownL ρ i) vs := by
  unfold isOwn at h
  unfold ownL
  cases e : ρ[i]? with
  | none => rw [e] at h; exact h.elim
  | some s =>
    rw [e] at h
    cases s with
    | un => exact h.elim
    | val _ => exact h.elim
    | own ds =>
      obtain ⟨x, e1, a, vs, rfl, r1, r2, r3⟩ := sr.en.at_ i _ e
      exact ⟨a, vs, rfl, e1, r1, r2, r3⟩
theorem ps_Ext {y : Str} {py : Pos} (G : Gd pg T k X) (hN : X.N[i]? = some y) (hl : Loc X.env.scope y) (hf : X.fn y = true ∨ X.env.scope.names.lookup y = some .local) (he : PE X e (tO X.K T S .fr x)) :
    PS X (.AugAssign (.Name y py) .Add e pos) (tSt X.K T S (.ext i x)) :=
  PSimp (ps_aug G.nd hN hl he (show PIp X .Add rExt2 from iop_ext) hf) fun D σ H h => by
    obtain ⟨F, α, P, O, ρ, w, hK, hT, sr, ⟨wo, wa, l, hl, hz⟩, out⟩ := h
    have out : EndO F α P D ⟨.nx, setO ρ i (ownL ρ i ++ its (ev S x ρ w).1), (ev S x ρ w).2⟩ := out
    have hl : (ev S x ρ w).1 = .list l := hl
    obtain ⟨a, vs, e0, es, _, _, _⟩ := sr.own wo
    refine ⟨_, es, F, α, P, O, ρ, w, hK, hT, sr, wa, fun α1 P1 H1 v e1 s1 sr1 r1 => ?_⟩
    rw [hl] at r1 out
    rcases r1 with ⟨_, hn⟩ | ⟨ds, b, us, hd, rfl, h1, h2, h3, h4, h5, h6, h7⟩
    · exact absurd rfl (hn l)
    · cases hd
      obtain ⟨a', vs', _, es', q1, q2, q3⟩ := sr1.own wo
      rw [es] at es'
      cases es'
      refine ⟨a, b, vs', us, rfl, rfl, sr1.oH _ _ q1, h1, by rw [q3.length, h7.length]; exact hz, ?_⟩
      have sr2 := sr1.putOwn (ds' := ownL ρ i ++ l) (vs' := vs' ++ us) e0 es (by rw [List.length_append]; exact hz) (q3.append h7)
      have hset : σ.set i (some (.ref a)) = σ := by
        have hi := (List.getElem?_eq_some_iff.mp es).1
        apply List.ext_getElem?
        intro n
        by_cases hn : i = n
        · subst hn; rw [List.getElem?_set_self hi, es]
        · rw [List.getElem?_set_ne hn]
      show D.nx (σ.set i (some (.ref a))) _
      rw [hset]
      exact out α1 P1 _ σ _ e1 s1 sr2
def appOf : Expr → Option (Expr × Expr)
  | .Call (.Attribute o m p) [b] [] q => if m = ("append" : Str) ∧ nCall o = true ∧ nStar b = true ∧ (p.endLine == q.line) = true then some (o, b) else none
  | _ => none
theorem appOf_ok (h : appOf e = some (ea, eb)) : (∃ p q, e = .Call (.Attribute ea "append" p) [eb] [] q ∧ (p.endLine == q.line) = true) ∧ nCall ea = true ∧ nStar eb = true := by
  unfold appOf at h
  split at h
  · split at h
    · rename_i c
      obtain ⟨rfl, c1, c2, c3⟩ := c
      cases h
      exact ⟨⟨_, _, rfl, c3⟩, c1, c2⟩
    · cases h
  · cases h
theorem ps_App (h : appOf e = some (ea, eb)) (hv : PE X ea (tVar i)) (hb : PE X eb (tO X.K T S .pl x)) : PS X (.Expr e pos) (tSt X.K T S (.app i x)) := by
  obtain ⟨⟨p, q, rfl, hl⟩, hc, hs⟩ := appOf_ok h
  refine PSimp (ps_expr (pe_bm (r := rAppend) PySem.F.plainAttrs_list PySem.F.slot_list_append PySem.F.type_list_append mt_append hv (pa1 hb hs) (nCall_ok hc _ _) (popFew q hs) hl (nStar_ok hs _ _) rfl) (nComp_ok rfl _ _ _)) fun D σ H h => ?_
  obtain ⟨F, α, P, O, ρ, w, hK, hT, sr, ⟨wo, wa, hz⟩, out⟩ := h
  have out : EndO F α P D ⟨.nx, setO ρ i (ownL ρ i ++ [(ev S x ρ w).1]), (ev S x ρ w).2⟩ := out
  obtain ⟨a, vs, e0, es, q1, _, _⟩ := sr.own wo
  refine ⟨_, es, .inl ⟨rfl, vs, .inl (.inl (sr.oH _ _ q1))⟩, F, α, P, O, ρ, w, hK, hT, sr, wa, fun α1 P1 H1 v e1 s1 sr1 r1 => ?_⟩
  obtain ⟨a', vs', _, es', q1, q2, q3⟩ := sr1.own wo
  rw [es] at es'
  cases es'
  refine ⟨a, vs', v, rfl, rfl, sr1.oH _ _ q1, by rw [q3.length]; exact hz, ?_⟩
  exact out α1 P1 _ σ _ e1 s1 (sr1.putOwn e0 es (by rw [List.length_append]; exact hz) (q3.append (Reps.one r1)))
theorem nSlice_asg {o i : Expr} {p : Pos} (h : nSlice i = true) (env : Env) (v : Value) : assign (.Subscript o i p) env v = (do
      let ov ← holding [v] (eval o env)
      let iv ← holding [v, ov] (eval i env)
      standAt p
      holding [v, ov, iv] (setItem ov iv v)
      release [v, ov, iv] []) := by
  cases i <;> first | rfl | exact nomatch h
theorem ps_Six {p : Pos} {ek : Expr} {kx : Ex} (hs : nSlice ek = true) (hn : nTup e = true) (hv : PE X ea (tVar i)) (hk : PE X ek (tO X.K T S .pl kx)) (he : PE X e (tO X.K T S .pl x)) : PS X (.Assign [.Subscript ea ek p] e pos) (tSt X.K T S (.six i kx x)) := by
  refine PSimp (ps_asg he (pg_sub hv hk set_list fun v => nSlice_asg hs _ _) (nTup_sole hn _ _ _) (nTup_swS hn _ _ _ _) rfl) fun D σ H h => ?_
  obtain ⟨F, α, P, O, ρ, w, hK, hT, sr, ⟨wo, wa, wk, ⟨j, hj⟩, hx⟩, out⟩ := h
  have out : EndO F α P D ⟨.nx, setO ρ i (setAtN (ownL ρ i) (toI (ev S kx ρ (ev S x ρ w).2).1) (ev S x ρ w).1), (ev S kx ρ (ev S x ρ w).2).2⟩ := out
  have hj : (ev S kx ρ (ev S x ρ w).2).1 = .int j := hj
  have hx : (L2.ixN (ownL ρ i).length (toI (ev S kx ρ (ev S x ρ w).2).1)).isSome := hx
  rw [hj] at hx out
  refine ⟨F, α, P, O, ρ, w, hK, hT, sr, wa, fun α1 P1 H1 v e1 s1 sr1 r1 => ?_⟩
  obtain ⟨a, vs, e0, es, q1, _, _⟩ := sr1.own wo
  refine ⟨_, es, F, α1, P1, O, ρ, _, hK, hT, sr1, wk, fun α2 P2 H2 u e2 s2 sr2 r2 => ?_⟩
  rw [hj] at r2
  obtain ⟨a', vs', _, es', q1, q2, q3⟩ := sr2.own wo
  rw [es] at es'
  cases es'
  obtain ⟨n, hn'⟩ := Option.isSome_iff_exists.mp hx
  have hn' : L2.ixN (ownL ρ i).length j = some n := hn'
  have hset : setAtN (ownL ρ i) j (ev S x ρ w).1 = (ownL ρ i).set n (ev S x ρ w).1 := by
    unfold setAtN
    rw [hn']
  have out : EndO F α P D ⟨.nx, setO ρ i (setAtN (ownL ρ i) j (ev S x ρ w).1), (ev S kx ρ (ev S x ρ w).2).2⟩ := out
  rw [hset] at out
  refine ⟨a, vs', j, n, rfl, r2, sr2.oH _ _ q1, by rw [q3.length]; exact hn', ?_⟩
  exact out α2 P2 _ σ _ (e1.trans e2) (s1.trans s2) (sr2.putOwn e0 es (by rw [List.length_set]; exact q2) (Reps.set (Rep.mono e2 s2 _ _ r1) n q3))
theorem ps_Rsix {p : Pos} {ek : Expr} {ox kx : Ex} (hs : nSlice ek = true) (hn : nTup e = true) (ho : PE X ea (tO X.K T S .pl ox)) (hk : PE X ek (tO X.K T S .pl kx)) (he : PE X e (tO X.K T S .pl x)) : PS X (.Assign [.Subscript ea ek p] e pos) (tSt X.K T S (.rsix ox kx x)) := by
  refine PSimp (ps_asg he (pg_sub ho hk set_list fun v => nSlice_asg hs _ _) (nTup_sole hn _ _ _) (nTup_swS hn _ _ _ _) rfl) fun D σ H h => ?_
  obtain ⟨F, α, P, O, ρ, w, hK, hT, sr, ⟨wa, wo, wk, ⟨j, hj⟩, ⟨n, ds, hr, hw⟩, hx⟩, out⟩ := h
  have out : EndO F α P D ⟨.nx, ρ, match rfN (ev S ox ρ (ev S x ρ w).2).1 with
      | some n => (ev S kx ρ (ev S ox ρ (ev S x ρ w).2).2).2.set n (.lst (setAtN (wlst (ev S kx ρ (ev S ox ρ (ev S x ρ w).2).2).2 n) (toI (ev S kx ρ (ev S ox ρ (ev S x ρ w).2).2).1) (ev S x ρ w).1))
      | none => (ev S kx ρ (ev S ox ρ (ev S x ρ w).2).2).2⟩ := out
  have hj : (ev S kx ρ (ev S ox ρ (ev S x ρ w).2).2).1 = .int j := hj
  have hr : (ev S ox ρ (ev S x ρ w).2).1 = rf n := hr
  have hx : (L2.ixN (itsW (ev S ox ρ (ev S x ρ w).2).1 (ev S kx ρ (ev S ox ρ (ev S x ρ w).2).2).2).length (toI (ev S kx ρ (ev S ox ρ (ev S x ρ w).2).2).1)).isSome := hx
  rw [hr, hj, itsW_rf, wlst_of hw] at hx
  rw [hr, hj, rfN_rf] at out
  dsimp only at out
  rw [wlst_of hw] at out
  obtain ⟨m, hm⟩ := Option.isSome_iff_exists.mp hx
  have hm : L2.ixN ds.length j = some m := hm
  have hset : setAtN ds j (ev S x ρ w).1 = ds.set m (ev S x ρ w).1 := by
    unfold setAtN
    rw [hm]
  have out : EndO F α P D ⟨.nx, ρ, (ev S kx ρ (ev S ox ρ (ev S x ρ w).2).2).2.set n (.lst (setAtN ds j (ev S x ρ w).1))⟩ := out
  rw [hset] at out
  refine ⟨F, α, P, O, ρ, w, hK, hT, sr, wa, fun α1 P1 H1 v e1 s1 sr1 r1 => ?_⟩
  refine ⟨F, α1, P1, O, ρ, _, hK, hT, sr1, wo, fun α2 P2 H2 u e2 s2 sr2 r2 => ?_⟩
  refine ⟨F, α2, P2, O, ρ, _, hK, hT, sr2, wk, fun α3 P3 H3 t e3 s3 sr3 r3 => ?_⟩
  rw [hr] at r2
  rw [hj] at r3
  have r2' : RB F.K α3 P3 O (rf n) u := .inl (Rep.mono e3 s3 _ _ r2)
  obtain ⟨l, vs, rfl, hα, s, z, r⟩ := sr3.lookR r2' hw
  refine ⟨l, vs, j, m, rfl, r3, s, by rw [r.length]; exact hm, ?_⟩
  exact out α3 P3 O σ _ ((e1.trans e2).trans e3) ((s1.trans s2).trans s3) (sr3.putW hα (by rw [List.length_set]; exact z) (Reps.set (Rep.mono (e2.trans e3) (s2.trans s3) _ _ r1) m r))
theorem ps_ExprS (hn : nComp e = true) (he : PE X e (tO X.K T S x.knd x)) : PS X (.Expr e pos) (tSt X.K T S (.expr x)) :=
  PSimp (ps_expr he (nComp_ok hn _ _ _)) fun D σ H ⟨F, α, P, O, ρ, w, hK, hT, sr, wx, out⟩ => ⟨F, α, P, O, ρ, w, hK, hT, sr, wx, fun α1 P1 H1 v e1 s1 sr1 r1 => out α1 P1 O σ H1 e1 s1 sr1⟩
theorem ps_Ret (he : PE X e (tO X.K T S .pl x)) : PS X (.Return (some e) pos) (tSt X.K T S (.ret x)) :=
  PSimp (ps_ret he) fun D σ H ⟨F, α, P, O, ρ, w, hK, hT, sr, wx, out⟩ => ⟨F, α, P, O, ρ, w, hK, hT, sr, wx, fun α1 P1 H1 v e1 s1 sr1 r1 => out α1 P1 O σ H1 e1 s1 sr1 v r1⟩
theorem ps_RetN : PS X (.Return none pos) (tSt X.K T S .retN) :=
  PSimp ps_retN fun D σ H ⟨F, α, P, O, ρ, w, hK, hT, sr, wx, out⟩ => out α P O σ H (Pre.refl _) (Sub.refl _) sr .non rfl
theorem ps_Brk : PS X (.Break pos) (tSt X.K T S .brk) :=
  PSimp ps_break fun D σ H ⟨F, α, P, O, ρ, w, hK, hT, sr, wx, out⟩ => out α P O σ H (Pre.refl _) (Sub.refl _) sr
theorem ps_Cnt : PS X (.Continue pos) (tSt X.K T S .cnt) :=
  PSimp ps_continue fun D σ H ⟨F, α, P, O, ρ, w, hK, hT, sr, wx, out⟩ => out α P O σ H (Pre.refl _) (Sub.refl _) sr
theorem ps_Pass : PS X (.Pass pos) (tSt X.K T S .pass) :=
  PSimp ps_pass fun D σ H ⟨F, α, P, O, ρ, w, hK, hT, sr, wx, out⟩ => out α P O σ H (Pre.refl _) (Sub.refl _) sr
theorem ps_If {la lb : List Stmt} {A B : Blk} (hc : PT X e (tT X.K T S c)) (ha : PSs X la (tBk X.K T S A)) (hb : PSs X lb (tBk X.K T S B)) : PS X (.If e la lb pos) (tSt X.K T S (.ifs c A B)) :=
  PSimp (ps_if hc ha hb) fun D σ H ⟨F, α, P, O, ρ, w, hK, hT, sr, wx, out⟩ => by
    obtain ⟨wc, ⟨bb, hb⟩, wa, wb⟩ := wx
    have hb : (ev S c ρ w).1 = .bool bb := hb
    have wa : tr (ev S c ρ w).1 = true → wdB S A ρ (ev S c ρ w).2 := wa
    have wb : tr (ev S c ρ w).1 = false → wdB S B ρ (ev S c ρ w).2 := wb
    have out : EndO F α P D (if tr (ev S c ρ w).1 = true then xb S A ρ (ev S c ρ w).2 else xb S B ρ (ev S c ρ w).2) := out
    refine ⟨F, α, P, O, ρ, w, hK, hT, sr, wc, ⟨bb, hb⟩, fun α1 P1 H1 e1 s1 sr1 => ?_⟩
    rw [hb] at wa wb out ⊢
    cases bb with
    | true => exact ⟨F, α1, P1, O, ρ, _, hK, hT, sr1, wa rfl, out.mono e1 s1⟩
    | false => exact ⟨F, α1, P1, O, ρ, _, hK, hT, sr1, wb rfl, out.mono e1 s1⟩
theorem ps_For {tg iter : Expr} {l : List Stmt} {p : Pat} {src : Src} {B : Blk} (G : Gd pg T k X) (hp : PassesOwn (model X.prog X.w) X.A X.env X.xe) (hi : PI X tg iter (tI X.K T S false src)) (hg : PG X tg (gOf X.K p)) (hb : PSs X l (tBk X.K T S B)) (hs : nSet iter = true) :
    PS X (.For tg iter l [] pos) (tSt X.K T S (.for p src B)) :=
  PSimp (ps_for hp G.calm hi hg hb fun x => nSet_ok hs _ _) fun D σ H ⟨F, α, P, O, ρ, w, hK, hT, sr, wx, out⟩ => by
    obtain ⟨ws, wf⟩ := wx
    have wf : forP (fun d ρ' w' => p.ok d ∧ wdB S B (p.bind ρ' d) w') (fun d ρ' w' => xb S B (p.bind ρ' d) w') (evSrc S src ρ w).1 ρ (evSrc S src ρ w).2 := wf
    have out : EndO F α P D (forR (fun d ρ' w' => xb S B (p.bind ρ' d) w') (evSrc S src ρ w).1 ρ (evSrc S src ρ w).2) := out
    refine ⟨F, α, P, O, ρ, w, hK, hT, sr, ws, fun α1 P1 H1 J e1 s1 sr1 ⟨vs, rv, hz, wk⟩ => ?_⟩
    generalize (evSrc S src ρ w).1 = xs at wf out rv hz
    generalize (evSrc S src ρ w).2 = w1 at wf out sr1
    have hlen := rv.length
    refine for_it wk (fun i σ H => ∃ α2 P2 O2 ρ2 w2, Pre α1 α2 ∧ Sub P1 P2 ∧ SR F α2 P2 O2 ρ2 w2 σ H ∧ forP (fun d ρ' w' => p.ok d ∧ wdB S B (p.bind ρ' d) w') (fun d ρ' w' => xb S B (p.bind ρ' d) w') (xs.drop i) ρ2 w2 ∧
      EndO F α2 P2 D (forR (fun d ρ' w' => xb S B (p.bind ρ' d) w') (xs.drop i) ρ2 w2)) ?_ ?_ ?_ ?_
    · exact ⟨α1, P1, O, ρ, w1, Pre.refl _, Sub.refl _, sr1, by rw [List.drop_zero]; exact wf, by rw [List.drop_zero]; exact out.mono e1 s1⟩
    · rintro i σ H _ ⟨α2, P2, O2, ρ2, w2, e2, s2, sr2, _⟩
      exact ⟨s2.trans sr2.pH, fun b x q => by cases q⟩
    · rintro i x σ H _ hlt ⟨α2, P2, O2, ρ2, w2, e2, s2, sr2, wf2, out2⟩ ⟨rfl, hx⟩
      obtain ⟨d, hd, rd'⟩ := rv.getV hx
      rw [← hK] at rd'
      have hdr : xs.drop i = d :: xs.drop (i + 1) := by
        obtain ⟨hi, he⟩ := List.getElem?_eq_some_iff.mp hd
        rw [List.drop_eq_getElem_cons hi, he]
      rw [hdr] at wf2 out2
      unfold forP at wf2
      unfold forR at out2
      obtain ⟨⟨hpo, wb⟩, wn⟩ := wf2
      refine gOf_ok hK sr2 (Rep.mono e2 s2 _ _ rd') hpo fun σ2 sr3 _ => ?_
      refine ⟨F, α2, P2, O2, _, w2, hK, hT, sr3, wb, fun α3 P3 O3 σ3 H3 e3 s3 sr4 => ?_⟩
      generalize xb S B (p.bind ρ2 d) w2 = r at wn out2 sr4
      obtain ⟨fl, ρ3, w3⟩ := r
      cases fl with
      | nx => exact ⟨α3, P3, O3, ρ3, w3, e2.trans e3, s2.trans s3, sr4, wn, out2.mono e3 s3⟩
      | ct => exact ⟨α3, P3, O3, ρ3, w3, e2.trans e3, s2.trans s3, sr4, wn, out2.mono e3 s3⟩
      | bk => exact out2 α3 P3 O3 σ3 H3 e3 s3 sr4
      | rt d' => exact out2 α3 P3 O3 σ3 H3 e3 s3 sr4
    · rintro σ H ⟨α2, P2, O2, ρ2, w2, e2, s2, sr2, wf2, out2⟩
      rw [List.drop_eq_nil_of_le (by omega)] at out2
      exact out2 α2 P2 O2 σ H (Pre.refl _) (Sub.refl _) sr2
theorem ps_Whl {l : List Stmt} {B : Blk} (hp : PassesOwn (model X.prog X.w) X.A X.env X.xe) (hc : PT X e (tT X.K T S c)) (hb : PSs X l (tBk X.K T S B)) : PS X (.While e l [] pos) (tSt X.K T S (.whl c B)) :=
  PSimp (ps_while hp hc hb) fun D σ H ⟨F, α, P, O, ρ, w, hK, hT, sr, wx, out⟩ => by
    have wx : whlP (fun ρ' w' => wd S c ρ' w') (fun ρ' w' => ev S c ρ' w') (fun ρ' w' => wdB S B ρ' w') (fun ρ' w' => xb S B ρ' w') S.fuel ρ w := wx
    have out : EndO F α P D (whlR (fun ρ' w' => ev S c ρ' w') (fun ρ' w' => xb S B ρ' w') S.fuel ρ w) := out
    refine ⟨fun m σ H => ∃ α2 P2 O2 ρ2 w2, SR F α2 P2 O2 ρ2 w2 σ H ∧ whlP (fun ρ' w' => wd S c ρ' w') (fun ρ' w' => ev S c ρ' w') (fun ρ' w' => wdB S B ρ' w') (fun ρ' w' => xb S B ρ' w') m ρ2 w2 ∧
      EndO F α2 P2 D (whlR (fun ρ' w' => ev S c ρ' w') (fun ρ' w' => xb S B ρ' w') m ρ2 w2), ⟨S.fuel, α, P, O, ρ, w, sr, wx, out⟩, ?_⟩
    rintro m σ H ⟨α2, P2, O2, ρ2, w2, sr2, wp, out2⟩
    cases m with
    | zero => exact wp.elim
    | succ m =>
      unfold whlP at wp
      unfold whlR at out2
      obtain ⟨wc, ⟨bb, hbb⟩, wn⟩ := wp
      have hbb : (ev S c ρ2 w2).1 = .bool bb := hbb
      refine ⟨F, α2, P2, O2, ρ2, w2, hK, hT, sr2, wc, ⟨bb, hbb⟩, fun α3 P3 H3 e3 s3 sr3 => ?_⟩
      unfold andThen at out2
      dsimp only at out2
      rw [hbb] at wn out2 ⊢
      cases bb with
      | false => exact out2 α3 P3 O2 σ H3 e3 s3 sr3
      | true =>
        obtain ⟨wb, wn⟩ := wn rfl
        rw [if_pos (show tr (.bool true) = true from rfl)] at out2 ⊢
        refine ⟨fun σ' H' => ∃ α2 P2 O2 ρ2 w2, SR F α2 P2 O2 ρ2 w2 σ' H' ∧ whlP (fun ρ' w' => wd S c ρ' w') (fun ρ' w' => ev S c ρ' w') (fun ρ' w' => wdB S B ρ' w') (fun ρ' w' => xb S B ρ' w') m ρ2 w2 ∧
          EndO F α2 P2 D (whlR (fun ρ' w' => ev S c ρ' w') (fun ρ' w' => xb S B ρ' w') m ρ2 w2), fun σ' H' h => ⟨m, Nat.lt_succ_self m, h⟩, F, α3, P3, O2, ρ2, _, hK, hT, sr3, wb, fun α4 P4 O4 σ4 H4 e4 s4 sr4 => ?_⟩
        generalize xb S B ρ2 (ev S c ρ2 w2).2 = r at wn out2 sr4
        obtain ⟨fl, ρ3, w3⟩ := r
        cases fl with
        | nx => exact ⟨α4, P4, O4, ρ3, w3, sr4, wn, out2.mono (e3.trans e4) (s3.trans s4)⟩
        | ct => exact ⟨α4, P4, O4, ρ3, w3, sr4, wn, out2.mono (e3.trans e4) (s3.trans s4)⟩
        | bk => exact out2 α4 P4 O4 σ4 H4 (e3.trans e4) (s3.trans s4) sr4
        | rt d' => exact out2 α4 P4 O4 σ4 H4 (e3.trans e4) (s3.trans s4) sr4
/-! ### blocks -/
theorem pss_Nil : PSs X [] (tBk X.K T S .nil) := PSsimp pss_nil fun D σ H ⟨F, α, P, O, ρ, w, hK, hT, sr, wx, out⟩ => out α P O σ H (Pre.refl _) (Sub.refl _) sr
theorem pss_Cons {st : Stmt} {l : List Stmt} {s : St} {B : Blk} (h1 : PS X st (tSt X.K T S s)) (h2 : PSs X l (tBk X.K T S B)) : PSs X (st :: l) (tBk X.K T S (.cons s B)) :=
  PSsimp (pss_cons h1 h2) fun D σ H ⟨F, α, P, O, ρ, w, hK, hT, sr, wx, out⟩ => by
    obtain ⟨ws, wb⟩ := wx
    have out : EndO F α P D (sq (xs S s ρ w) fun ρ' w' => xb S B ρ' w') := out
    refine ⟨F, α, P, O, ρ, w, hK, hT, sr, ws, fun α1 P1 O1 σ1 H1 e1 s1 sr1 => ?_⟩
    generalize xs S s ρ w = r at wb out sr1
    obtain ⟨fl, ρ1, w1⟩ := r
    cases fl with
    | nx => exact ⟨F, α1, P1, O1, ρ1, w1, hK, hT, sr1, wb, out.mono e1 s1⟩
    | bk => exact out α1 P1 O1 σ1 H1 e1 s1 sr1
    | ct => exact out α1 P1 O1 σ1 H1 e1 s1 sr1
    | rt d => exact out α1 P1 O1 σ1 H1 e1 s1 sr1
theorem pss_Frz {l : List Stmt} {B : Blk} (h2 : PSs X l (tBk X.K T S B)) : PSs X l (tBk X.K T S (.cons (.frz i) B)) :=
  PSsimp h2 fun D σ H ⟨F, α, P, O, ρ, w, hK, hT, sr, wx, out⟩ => by
    obtain ⟨P', O', s', sr'⟩ := sr.frz i
    exact ⟨F, α, P', O', frzE ρ i, w, hK, hT, sr', wx.2, EndO.mono (show EndO F α P D (xb S B (frzE ρ i) w) from out) (Pre.refl _) s'⟩
end
end Ev

/-! Ev17: the checker of statements is sound. -/
namespace Ev
open PySem PySem.Spec PyProof.Rows L2

/-- the context of a def's body -/
structure ScD (X : Cx) (sc : Scope) : Prop where
  eq : X.env.scope = sc
  kind : sc.kind = .function
  fn : ∀ x, sc.names.lookup x = some .cell → X.fn x = true
  own : PassesOwn (model X.prog X.w) X.A X.env X.xe
theorem ScD.sc {X : Cx} {sc : Scope} (h : ScD X sc) : Sc X sc := ⟨.inl h.eq, h.fn⟩
/-- is a comprehension's list stored while the block's frame still stands -/
def swB (sc : Scope) (y : Str) (py : Pos) : Expr → Bool
  | .ListComp _ _ s p => (sc.names.lookup y == some .local) && (py.line == p.line) && !(s.names.any fun (n, k) => n == y && (k == .local || k == .cell))
  | _ => false
theorem swB_ok {X : Cx} {sc : Scope} (h : ScD X sc) (y : Str) (py : Pos) (elt : Expr) (g : List Comprehension) (s : Scope) (p : Pos) (l : Nat) :
    swapsWith (.ListComp elt g s p) (some (.Name y py)) l X.env = pure (swB sc y py (.ListComp elt g s p)) := by
  have hb : X.env.blockKind = .function := by
    unfold Env.blockKind
    rw [h.eq, h.kind]; rfl
  have hk : X.env.kindOf y = sc.names.lookup y := by
    show X.env.scope.names.lookup y = _
    rw [h.eq]
  show (pure (X.env.blockKind == .function && X.env.kindOf y == some .local && py.line == p.line && !(s.names.any fun (n, k) => n == y && (k == .local || k == .cell))) : Sem Bool) = _
  rw [hb, hk]
  rfl
def isLC : Expr → Bool
  | .ListComp _ _ _ _ => true
  | _ => false
mutual
def chkS (pg : Pg) (κ : Cc) : St → Stmt → Bool
  | .set i x, st => match st with
    | .Assign [.Name y py] e _ => nameAt κ.N κ.sc i (.Name y py) && chk pg κ x e && nbw x && (nComp e || isLC e)
    | _ => false
  | .setT is x, st => match st with
    | .Assign [.Tuple es _ _] e _ => namesAt κ.N κ.sc is es && chk pg κ x e && nbw x && nTup e
    | _ => false
  | .par .., _ => false
  | .aug i o x, st => match st with
    | .AugAssign (.Name y py) op e _ => nameAt κ.N κ.sc i (.Name y py) && chk pg κ x e && nbw x && decide (o.bin = some op) && o.iop
    | _ => false
  | .ext i x, st => match st with
    | .AugAssign (.Name y py) .Add e _ => nameAt κ.N κ.sc i (.Name y py) && chk pg κ x e && x.fresh
    | _ => false
  | .app i x, st => match st with
    | .Expr e _ => (match appOf e with
      | some (ea, eb) => varE κ.N κ.sc i ea && chk pg κ x eb && nbw x
      | none => false)
    | _ => false
  | .six i kx x, st => match st with
    | .Assign [.Subscript ea ek _] e _ => nSlice ek && nTup e && varE κ.N κ.sc i ea && chk pg κ kx ek && nbw kx && chk pg κ x e && nbw x
    | _ => false
  | .rsix ox kx x, st => match st with
    | .Assign [.Subscript ea ek _] e _ => nSlice ek && nTup e && chk pg κ ox ea && nbw ox && chk pg κ kx ek && nbw kx && chk pg κ x e && nbw x
    | _ => false
  | .expr x, st => match st with
    | .Expr e _ => nComp e && chk pg κ x e
    | _ => false
  | .ret x, st => match st with
    | .Return (some e) _ => chk pg κ x e && nbw x
    | _ => false
  | .retN, st => match st with
    | .Return none _ => true
    | _ => false
  | .ifs c A B, st => match st with
    | .If e la lb _ => chk pg κ c e && tstB e && chkB pg κ A la && chkB pg κ B lb
    | _ => false
  | .for p src B, st => match st with
    | .For tg iter l [] _ => patB κ.N κ.sc p tg && nSet iter && chkB pg κ B l && (match src with
      | .seq a => chk pg κ a iter && nbw a
      | .rng1 a => chkSrc pg κ (.rng1 a) iter
      | .rng2 a b => chkSrc pg κ (.rng2 a b) iter)
    | _ => false
  | .whl c B, st => match st with
    | .While e l [] _ => chk pg κ c e && tstB e && chkB pg κ B l
    | _ => false
  | .brk, st => match st with
    | .Break _ => true
    | _ => false
  | .cnt, st => match st with
    | .Continue _ => true
    | _ => false
  | .pass, st => match st with
    | .Pass _ => true
    | .Expr (.Constant (.str _) _ _) _ => true
    | _ => false
  | .frz _, _ => false
def chkB (pg : Pg) (κ : Cc) : Blk → List Stmt → Bool
  | .nil, l => l.isEmpty
  | .cons s B, l => match s with
    | .frz _ => chkB pg κ B l
    | s => (match l with
      | st :: l => chkS pg κ s st && chkB pg κ B l
      | [] => false)
end
variable {pg : Pg} {T : List (Addr × Str)} {k : Nat} {X : Cx} {sc : Scope} {lm : Bool}
theorem nameAt_ok {i : Nat} {y : Str} {py : Pos} (Sx : Sc X sc) (h : nameAt X.N sc i (.Name y py) = true) : X.N[i]? = some y ∧ Loc X.env.scope y ∧ (X.fn y = true ∨ X.env.scope.names.lookup y = some .local) := by
  have h : (decide (X.N[i]? = some y) && locB sc y) = true := h
  rw [Bool.and_eq_true, decide_eq_true_eq] at h
  exact ⟨h.1, Sx.loc (locB_ok h.2)⟩
theorem srcP_ok {src : Src} {e tg : Expr} (G : Gd pg T k X) (Sx : Sc X sc) (Lx : lm = true → LamOk T k X) (h : (match src with
      | .seq a => chk pg ⟨X.N, sc, lm⟩ a e && nbw a
      | .rng1 a => chkSrc pg ⟨X.N, sc, lm⟩ (.rng1 a) e
      | .rng2 a b => chkSrc pg ⟨X.N, sc, lm⟩ (.rng2 a b) e) = true) : PI X tg e (tI X.K T (fnS pg k) false src) := by
  cases src with
  | seq a =>
    have h : (chk pg ⟨X.N, sc, lm⟩ a e && nbw a) = true := h
    rw [Bool.and_eq_true] at h
    exact pi_SeqP ((chk_ok a G Sx Lx h.1).pl h.2)
  | rng1 a =>
    have h : chkSrc pg ⟨X.N, sc, lm⟩ (.rng1 a) e = true := h
    unfold chkSrc at h
    split at h
    · rw [Bool.and_eq_true] at h
      exact pi_Rng1 G Sx ‹_› ((chk_ok a G Sx Lx h.1).pl h.2)
    · cases h
  | rng2 a b =>
    have h : chkSrc pg ⟨X.N, sc, lm⟩ (.rng2 a b) e = true := h
    unfold chkSrc at h
    split at h
    · rw [Bool.and_eq_true, Bool.and_eq_true, Bool.and_eq_true] at h
      exact pi_Rng2 G Sx ‹_› ((chk_ok a G Sx Lx h.1.1.1).pl h.1.2) ((chk_ok b G Sx Lx h.1.1.2).pl h.2)
    · cases h
theorem set_ok {i : Nat} {x : Ex} {y : Str} {py pos : Pos} {e : Expr} (G : Gd pg T k X) (Sd : ScD X sc) (Lx : lm = true → LamOk T k X) (hn : nameAt X.N sc i (.Name y py) = true) (h : chk pg ⟨X.N, sc, lm⟩ x e = true) (hb : nbw x = true) (hs : swapsWith e (some (.Name y py)) pos.line X.env = pure false) :
    PS X (.Assign [.Name y py] e pos) (tSt X.K T (fnS pg k) (.set i x)) := by
  obtain ⟨h1, h2, h3⟩ := nameAt_ok Sd.sc hn
  have g := chk_ok (T := T) (k := k) x G Sd.sc Lx h
  cases hf : x.fresh with
  | false => exact PSimp (ps_set G.nd h1 h2 (g.pl hb) hs h3) fun D σ H z => tSet_plain hf z
  | true =>
    have pe := g.pe
    rw [fresh_knd hf] at pe
    exact PSimp (ps_set G.nd h1 h2 pe hs h3) fun D σ H z => tSet_fresh hf z
theorem setLc_ok {i : Nat} {x : Ex} {y : Str} {py pos p : Pos} {elt : Expr} {gens : List Comprehension} {scp : Scope} (G : Gd pg T k X) (Sd : ScD X sc) (Lx : lm = true → LamOk T k X) (hn : nameAt X.N sc i (.Name y py) = true) (h : chk pg ⟨X.N, sc, lm⟩ x (.ListComp elt gens scp p) = true) :
    PS X (.Assign [.Name y py] (.ListComp elt gens scp p) pos) (tSt X.K T (fnS pg k) (.set i x)) := by
  have hb : nbw x = true := by
    cases x <;> first | rfl | exact nomatch h
  cases hsw : swB sc y py (.ListComp elt gens scp p) with
  | false =>
    have hs := swB_ok Sd y py elt gens scp p pos.line
    rw [hsw] at hs
    exact set_ok G Sd Lx hn h hb hs
  | true =>
    have hs := swB_ok Sd y py elt gens scp p pos.line
    rw [hsw] at hs
    have hl : X.env.scope.names.lookup y = some .local := by
      have q : ((sc.names.lookup y == some .local) && (py.line == p.line) && !(scp.names.any fun (n, k) => n == y && (k == .local || k == .cell))) = true := hsw
      rw [Bool.and_eq_true, Bool.and_eq_true] at q
      rw [Sd.eq]
      exact beq_iff_eq.mp q.1.1
    obtain ⟨h1, h2, h3⟩ := nameAt_ok Sd.sc hn
    cases x with
    | comp eff pt src tst el =>
      unfold chk at h
      split at h
      · rename_i eelt tg iter ifs scope pos' q
        cases q
        rw [Bool.and_eq_true, Bool.and_eq_true, Bool.and_eq_true, Bool.and_eq_true, Bool.and_eq_true, Bool.and_eq_true, Bool.and_eq_true, decide_eq_true_eq] at h
        obtain ⟨⟨⟨⟨⟨⟨⟨k1, k2⟩, k3⟩, k4⟩, k5⟩, k6⟩, k7⟩, k8⟩ := h
        have hb := blkOk_by k5
        refine PSimp (ps_setLc (te := tO X.K T (fnS pg k) .pl el) (tt := tT X.K T (fnS pg k) tst) (g := gOf X.K pt) G.calm G.nd h1 hl hs (chkSrc_ok src G Sd.sc Lx k1) (BlkOk.rel Sd.sc hb) (fun s H C cl fp => patB_pg (G.blk (scope := scp)) Sc.blk k3) (fun s H C cl fp => ?_) (fun s H C cl fp => (chk_ok el (G.blk (scope := scp)) Sc.blk noL k7).pl k8) (fun x => nSet_ok k2 _ _)) fun D σ H z => tLc_of blk_ix k4 (tCW_of (tSet_fresh rfl z))
        split at k6
        · split at k6
          · exact pts_yes (X := X.blk s H scp (compEnvC scp cl C X.env) fp)
          · cases k6
        · rw [Bool.and_eq_true] at k6
          exact pts_one ((chk_ok tst (G.blk (scope := scp)) Sc.blk noL k6.1).pt k6.2)
        · cases k6
      · cases h
    | lit d => cases d <;> exact nomatch h
    | p1 o a => cases o <;> exact nomatch h
    | p2 o a b => cases o <;> exact nomatch h
    | _ => exact nomatch h
mutual
theorem chkS_ok : ∀ (s : St) {st : Stmt}, Gd pg T k X → ScD X sc → (lm = true → LamOk T k X) → chkS pg ⟨X.N, sc, lm⟩ s st = true → PS X st (tSt X.K T (fnS pg k) s)
  | .set i x, st, G, Sd, Lx, h => by
    unfold chkS at h
    split at h
    · rw [Bool.and_eq_true, Bool.and_eq_true, Bool.and_eq_true, Bool.or_eq_true] at h
      obtain ⟨⟨⟨h1, h2⟩, h3⟩, h4⟩ := h
      rcases h4 with h4 | h4
      · exact set_ok G Sd Lx h1 h2 h3 (nComp_ok h4 _ _ _)
      · unfold isLC at h4
        split at h4
        · exact setLc_ok G Sd Lx h1 h2
        · cases h4
    · cases h
  | .setT is x, st, G, Sd, Lx, h => by
    unfold chkS at h
    split at h
    · rw [Bool.and_eq_true, Bool.and_eq_true, Bool.and_eq_true] at h
      exact ps_SetT G Sd.sc h.1.1.1 ((chk_ok x G Sd.sc Lx h.1.1.2).pl h.1.2) h.2
    · cases h
  | .par _ _ _ _, _, _, _, _, h => nomatch h
  | .aug i o x, st, G, Sd, Lx, h => by
    unfold chkS at h
    split at h
    · rw [Bool.and_eq_true, Bool.and_eq_true, Bool.and_eq_true, Bool.and_eq_true, decide_eq_true_eq] at h
      obtain ⟨⟨⟨⟨h1, h2⟩, h3⟩, h4⟩, h5⟩ := h
      obtain ⟨q1, q2, q3⟩ := nameAt_ok Sd.sc h1
      exact ps_Aug G h4 h5 q1 q2 q3 ((chk_ok x G Sd.sc Lx h2).pl h3)
    · cases h
  | .ext i x, st, G, Sd, Lx, h => by
    unfold chkS at h
    split at h
    · rw [Bool.and_eq_true, Bool.and_eq_true] at h
      obtain ⟨⟨h1, h2⟩, h3⟩ := h
      obtain ⟨q1, q2, q3⟩ := nameAt_ok Sd.sc h1
      have pe := (chk_ok (T := T) (k := k) x G Sd.sc Lx h2).pe
      rw [fresh_knd h3] at pe
      exact ps_Ext G q1 q2 q3 pe
    · cases h
  | .app i x, st, G, Sd, Lx, h => by
    unfold chkS at h
    split at h
    · split at h
      · rw [Bool.and_eq_true, Bool.and_eq_true] at h
        exact ps_App ‹_› (varE_ok Sd.sc h.1.1) ((chk_ok x G Sd.sc Lx h.1.2).pl h.2)
      · cases h
    · cases h
  | .six i kx x, st, G, Sd, Lx, h => by
    unfold chkS at h
    split at h
    · rw [Bool.and_eq_true, Bool.and_eq_true, Bool.and_eq_true, Bool.and_eq_true, Bool.and_eq_true, Bool.and_eq_true] at h
      obtain ⟨⟨⟨⟨⟨⟨h1, h2⟩, h3⟩, h4⟩, h5⟩, h6⟩, h7⟩ := h
      exact ps_Six h1 h2 (varE_ok Sd.sc h3) ((chk_ok kx G Sd.sc Lx h4).pl h5) ((chk_ok x G Sd.sc Lx h6).pl h7)
    · cases h
  | .rsix ox kx x, st, G, Sd, Lx, h => by
    unfold chkS at h
    split at h
    · rw [Bool.and_eq_true, Bool.and_eq_true, Bool.and_eq_true, Bool.and_eq_true, Bool.and_eq_true, Bool.and_eq_true, Bool.and_eq_true] at h
      obtain ⟨⟨⟨⟨⟨⟨⟨h1, h2⟩, h3⟩, h3'⟩, h4⟩, h5⟩, h6⟩, h7⟩ := h
      exact ps_Rsix h1 h2 ((chk_ok ox G Sd.sc Lx h3).pl h3') ((chk_ok kx G Sd.sc Lx h4).pl h5) ((chk_ok x G Sd.sc Lx h6).pl h7)
    · cases h
  | .expr x, st, G, Sd, Lx, h => by
    unfold chkS at h
    split at h
    · rw [Bool.and_eq_true] at h
      exact ps_ExprS h.1 (chk_ok x G Sd.sc Lx h.2).pe
    · cases h
  | .ret x, st, G, Sd, Lx, h => by
    unfold chkS at h
    split at h
    · rw [Bool.and_eq_true] at h
      exact ps_Ret ((chk_ok x G Sd.sc Lx h.1).pl h.2)
    · cases h
  | .retN, st, G, Sd, Lx, h => by
    unfold chkS at h
    split at h
    · exact ps_RetN
    · cases h
  | .ifs c A B, st, G, Sd, Lx, h => by
    unfold chkS at h
    split at h
    · rw [Bool.and_eq_true, Bool.and_eq_true, Bool.and_eq_true] at h
      exact ps_If ((chk_ok c G Sd.sc Lx h.1.1.1).pt h.1.1.2) (chkB_ok A G Sd Lx h.1.2) (chkB_ok B G Sd Lx h.2)
    · cases h
  | .for p src B, st, G, Sd, Lx, h => by
    unfold chkS at h
    split at h
    · rw [Bool.and_eq_true, Bool.and_eq_true, Bool.and_eq_true] at h
      exact ps_For G Sd.own (srcP_ok G Sd.sc Lx h.2) (patB_pg G Sd.sc h.1.1.1) (chkB_ok B G Sd Lx h.1.2) h.1.1.2
    · cases h
  | .whl c B, st, G, Sd, Lx, h => by
    unfold chkS at h
    split at h
    · rw [Bool.and_eq_true, Bool.and_eq_true] at h
      exact ps_Whl Sd.own ((chk_ok c G Sd.sc Lx h.1.1).pt h.1.2) (chkB_ok B G Sd Lx h.2)
    · cases h
  | .brk, st, G, Sd, Lx, h => by
    unfold chkS at h
    split at h
    · exact ps_Brk
    · cases h
  | .cnt, st, G, Sd, Lx, h => by
    unfold chkS at h
    split at h
    · exact ps_Cnt
    · cases h
  | .pass, st, G, Sd, Lx, h => by
    unfold chkS at h
    split at h
    · exact ps_Pass
    · exact PSimp ps_doc fun D σ H ⟨F, α, P, O, ρ, w, hK, hT, sr, wx, out⟩ => out α P O σ H (Pre.refl _) (Sub.refl _) sr
    · cases h
  | .frz _, _, _, _, _, h => nomatch h
theorem chkB_ok : ∀ (B : Blk) {l : List Stmt}, Gd pg T k X → ScD X sc → (lm = true → LamOk T k X) → chkB pg ⟨X.N, sc, lm⟩ B l = true → PSs X l (tBk X.K T (fnS pg k) B)
  | .nil, l, G, Sd, Lx, h => by
    have h : l.isEmpty = true := h
    rw [List.isEmpty_iff] at h
    subst h
    exact pss_Nil
  | .cons s B, l, G, Sd, Lx, h => by
    unfold chkB at h
    split at h
    · exact pss_Frz (chkB_ok B G Sd Lx h)
    · split at h
      · rw [Bool.and_eq_true] at h
        exact pss_Cons (chkS_ok s G Sd Lx h.1) (chkB_ok B G Sd Lx h.2)
      · cases h
end
end Ev

/-! Ev18: defs, the whole program. -/
namespace Ev
open PySem PySem.Spec PyProof.Rows L2

def chkD (pg : Pg) (d : Def) (st : Stmt) : Bool := scB d.N d.ps (defScope st) && chkB pg ⟨d.N, defScope st, d.lm⟩ d.body (defBody st) && d.body.nb
/-- a def of the text as it stands behind the top -/
structure FunV (K : PySem.W.Frag) (x : Str) (st : Stmt) (f : Addr) (fd : FuncData) (cdv : Value) : Prop where
  ex : ∃ (oc : Value) (od : Option Addr) (kV doc pm : Value) (an : Option Addr) (ct : Value) (osl : Array (Option Value)),
    fd = PySem.W.fnOf x x (defArgs st) (defBody st) (defScope st) .none kV doc pm an cdv ct ∧ K.lookup f = some ⟨oc, od, .func fd, osl⟩ ∧ PySem.W.codeIn K cdv x = true
  kp : PySem.W.keepIn K (.ref f) = true
section
variable {P : Program} {w : World} {K : PySem.W.Frag} {mg : Str → Option Value} {base : Heap} {pg : Pg} {T : List (Addr × Str)}
theorem def_ok {k i : Nat} {x : Str} {d : Def} {st : Stmt} {f : Addr} {fd : FuncData} {cdv : Value} (Fn : FunV K x st f fd cdv) (hi : pg.fns[i]? = some (x, d)) (hc : chkD pg d st = true)
    (hL : d.lm = true → ∃ c Pt, cdv = .ref c ∧ LamX.TabB base mg c Pt ∧ (Pt, (x ++ ".<locals>.") ++ "<lambda>") ∈ T ∧ ∀ p ∈ T, p.1 = Pt → p.2 = (x ++ ".<locals>.") ++ "<lambda>")
    (hG : ∀ X : Cx, X.prog = P → X.w = w → X.K = K → X.mg = mg → X.base = base → X.calm = true → Room (2 * k + 1) X.A → X.N.Nodup → Gd pg T k X) :
    FnOk P w K mg base CX0 (2 * (k + 1)) f fd d.ps (spF K T (fnS pg (k + 1)) i) := by
  unfold chkD at hc
  rw [Bool.and_eq_true, Bool.and_eq_true] at hc
  obtain ⟨⟨h1, h2⟩, h3⟩ := hc
  have S := scB_ok h1
  obtain ⟨oc, od, kV, doc, pm, an, ct, osl, rfl, lk, hcd⟩ := Fn.ex
  have wdI : ∀ {ds : List D} {w : W}, (fnS pg (k + 1)).wd i ds w → ds.length = d.ps.length ∧ wdB (fnS pg k) d.body (d.start ds) w := fun {ds w} h => by
    have h : (match pg.fns[i]? with
      | some d => ds.length = d.2.ps.length ∧ wdB (fnS pg k) d.2.body (d.2.start ds) w
      | none => False) := h
    rw [hi] at h
    exact h
  have vlI : ∀ {ds : List D} {w : W}, (fnS pg (k + 1)).val i ds w = runD (fnS pg k) d ds w := fun {ds w} => by
    show (match pg.fns[i]? with
      | some d => runD (fnS pg k) d.2 ds w
      | none => (.none, w)) = _
    rw [hi]
  refine fn_of lk hcd S (fun vs H Q E h => ?_) fun A outer s H vs Q E hr h => ?_
  · obtain ⟨F, α, P', O, ρ, w', σ, ds, hK, hT, sr, r, hw, _⟩ := h
    rw [r.length, (wdI hw).1]
  · obtain ⟨F, α, P', O, ρ, w', σ, ds, hK, hT, sr, r, hw, out⟩ := h
    obtain ⟨hl, wb⟩ := wdI hw
    rw [vlI] at out
    have Sd : ScD (cxOf CX0 P w K mg base d.N x (defScope st) f cdv A outer s H E).nox (defScope st) := ⟨rfl, S.kind, fun _ _ => rfl, PassesOwn.never⟩
    have G := hG (cxOf CX0 P w K mg base d.N x (defScope st) f cdv A outer s H E).nox rfl rfl rfl rfl rfl rfl hr S.nd
    refine ⟨_, (chkB_ok (T := T) (k := k) (lm := d.lm) d.body G Sd (fun z => ⟨hL z, hr⟩) h2).nox, ?_⟩
    rw [← hK] at r
    have hen : EnR F.K α P' (fun _ => none) (d.start ds) (L2.start d.N vs) := by
      unfold Def.start L2.start
      rw [r.length]
      exact en_start (N := d.N) r
    refine ⟨⟨F.K, noT H, P', α, F.T⟩, α, P', fun _ => none, d.start ds, w', hK, hT, sr.enter hen, wb, ?_⟩
    intro α1 P1 O1 σ1 H1 e1 s1 sr1
    have hcalm := xb_calm (fnS pg k) d.body (d.start ds) w' h3
    unfold runD at out
    generalize xb (fnS pg k) d.body (d.start ds) w' = r at sr1 out hcalm
    obtain ⟨fl, ρ1, w1⟩ := r
    cases fl with
    | nx => exact out α1 P1 H1 .non e1 s1 (sr.leave sr1 e1 s1) rfl
    | bk => exact hcalm.elim
    | ct => exact hcalm.elim
    | rt x => exact fun v rv => out α1 P1 H1 v e1 s1 (sr.leave sr1 e1 s1) rv
/-- the lambdas' tables -/
def LamAt (cs : List (Addr × Addr)) (T : List (Addr × Str)) (x : Str) (cdv : Value) : Prop := ∃ c Pt, cdv = .ref c ∧ (c, Pt) ∈ cs ∧ (Pt, (x ++ ".<locals>.") ++ "<lambda>") ∈ T ∧ ∀ p ∈ T, p.1 = Pt → p.2 = (x ++ ".<locals>.") ++ "<lambda>"
/-- what is known of the program behind its top -/
structure Wld (K : PySem.W.Frag) (mg : Str → Option Value) (pg : Pg) (st : Nat → Stmt) (cs : List (Addr × Addr)) (T : List (Addr × Str)) : Prop where
  fns : ∀ (i : Nat) (x : Str) (d : Def), pg.fns[i]? = some (x, d) → ∃ f fd cdv, mg x = some (.ref f) ∧ FunV K x (st i) f fd cdv ∧ L2.Binds K fd d.ps [] ∧ (d.lm = true → LamAt cs T x cdv)
  chk : ∀ (i : Nat) (x : Str) (d : Def), pg.fns[i]? = some (x, d) → chkD pg d (st i) = true
  blt : ∀ x ∈ bltNames, mg x = none
  cs : ∀ (x : Str) (d : D), (x, d) ∈ pg.cs → ∃ u v, mg x = some u ∧ RelV v u ∧ (∀ α P, Rep K α P d v)
theorem fns_ok {st : Nat → Stmt} {cs : List (Addr × Addr)} (W : Wld K mg pg st cs T) (hB : ∀ p ∈ cs, LamX.TabB base mg p.1 p.2) : ∀ (k i : Nat) (x : Str) (d : Def), pg.fns[i]? = some (x, d) → ∀ (f : Addr) (fd : FuncData) (cdv : Value), mg x = some (.ref f) → FunV K x (st i) f fd cdv → (d.lm = true → LamAt cs T x cdv) →
    FnOk P w K mg base CX0 (2 * k) f fd d.ps (spF K T (fnS pg k) i)
  | 0, i, x, d, hi, f, fd, cdv, hm, hf, hl => ⟨fun vs H Q E ⟨_, _, _, _, _, _, _, _, _, _, _, _, h, _⟩ => h.elim, fun A outer s H args us vs Q E _ _ _ _ ⟨_, _, _, _, _, _, _, _, _, _, _, _, h, _⟩ => h.elim⟩
  | k + 1, i, x, d, hi, f, fd, cdv, hm, hf, hl => by
    refine def_ok hf hi (W.chk i x d hi) (fun z => ?_) fun X e1 e2 e3 e4 e5 hc hr hn => ⟨hc, hr.mono (Nat.le_succ _), hn, fun j y d' hj => ?_, ?_, ?_⟩
    · obtain ⟨c, Pt, q1, q2, q3, q4⟩ := hl z
      exact ⟨c, Pt, q1, hB _ q2, q3, q4⟩
    · obtain ⟨f', fd', cdv', q1, q2, q3, q4⟩ := W.fns j y d' hj
      rw [e1, e2, e3, e4, e5]
      exact ⟨f', fd', q1, q2.kp, q3, fns_ok W hB k j y d' hj f' fd' cdv' q1 q2 q4⟩
    · rw [e4]; exact W.blt
    · rw [e3, e4]; exact W.cs
end
end Ev

/-! Ev26: the law. -/
namespace Ev
open PySem PySem.Spec PyProof.Rows L2

/-- a def as the top has left it -/
structure DefAt (K : PySem.W.Frag) (x : Str) (st : Stmt) (f : Addr) (cd : Value) : Prop where
  ns : PySem.W.nsIn K mainGlobals x = some (some (.ref f))
  lk : ∃ (oc : Value) (od : Option Addr) (kV dc pm : Value) (an : Option Addr) (ct : Value) (sl : Array (Option Value)), K.lookup f = some ⟨oc, od, .func (PySem.W.fnOf x x (defArgs st) (defBody st) (defScope st) .none kV dc pm an cd ct), sl⟩
  cd : PySem.W.codeIn K cd x = true
  kp : PySem.W.keepIn K (.ref f) = true
theorem defAt {K : PySem.W.Frag} {x : Str} {st : Stmt} {f : Addr} {cd oc kV dc pm ct : Value} {od an : Option Addr} {sl : Array (Option Value)} (a : PySem.W.nsIn K mainGlobals x = some (some (.ref f)))
    (l : K.lookup f = some ⟨oc, od, .func (PySem.W.fnOf x x (defArgs st) (defBody st) (defScope st) .none kV dc pm an cd ct), sl⟩) (c : PySem.W.codeIn K cd x = true) (k : PySem.W.keepIn K (.ref f) = true) : DefAt K x st f cd := ⟨a, ⟨_, _, _, _, _, _, _, _, l⟩, c, k⟩
/-- how it binds -/
def BindsAs (x : Str) (st : Stmt) (ps : List Str) : Prop := ∀ (kV doc pm : Value) (an : Option Addr) (cdv ct : Value) (us : List Value), us.length = ps.length → bindArgs (PySem.W.fnOf x x (defArgs st) (defBody st) (defScope st) .none kV doc pm an cdv ct) ⟨us, []⟩ = pure (ps.zip us)
def Each (Q : Nat → Str → Def → Prop) : Nat → List (Str × Def) → Prop
  | _, [] => True
  | n, e :: r => Q n e.1 e.2 ∧ Each Q (n + 1) r
theorem Each.get {Q : Nat → Str → Def → Prop} : ∀ {l : List (Str × Def)} {n : Nat}, Each Q n l → ∀ {i : Nat} {x : Str} {d : Def}, l[i]? = some (x, d) → Q (n + i) x d
  | [], _, _, i, x, d, h => by simp at h
  | e :: r, n, ⟨h1, h2⟩, 0, x, d, h => by
    simp only [List.getElem?_cons_zero, Option.some.injEq] at h
    subst h
    exact h1
  | e :: r, n, ⟨h1, h2⟩, i + 1, x, d, h => by
    simp only [List.getElem?_cons_succ] at h
    have := Each.get h2 h
    rw [show n + (i + 1) = n + 1 + i by omega]
    exact this
section
variable {l : PySem.W.OpenLaw} {w : World} {K : PySem.W.Frag} {h : Heap} {mg : Str → Option Value} {fa : Addr} {pg : Pg} {st : Nat → Stmt} {cs : List (Addr × Addr)} {T : List (Addr × Str)}
theorem wld (KX : K.In h) (G : h.Ns mainGlobals mg) (hf : Each (fun i x d => ∃ f cd, DefAt K x (st i) f cd ∧ (d.lm = true → LamAt cs T x cd)) 0 pg.fns) (hb : Each (fun i x d => BindsAs x (st i) d.ps) 0 pg.fns)
    (hc : Each (fun i _ d => chkD pg d (st i) = true) 0 pg.fns) (hn : ∀ x ∈ bltNames, PySem.W.nsIn K mainGlobals x = some none)
    (hs : ∀ (x : Str) (d : D), (x, d) ∈ pg.cs → ∃ u v, PySem.W.nsIn K mainGlobals x = some (some u) ∧ RelV v u ∧ (∀ α P, Rep K α P d v)) : Wld K mg pg st cs T where
  fns := fun i x d hi => by
    obtain ⟨f, cd, D, L⟩ := hf.get hi
    have B := hb.get hi
    rw [Nat.zero_add] at D B
    obtain ⟨oc, od, kV, dc, pm, an, ct, sl, lk⟩ := D.lk
    refine ⟨f, _, cd, PySem.W.mg_of KX G D.ns, ⟨⟨oc, od, kV, dc, pm, an, ct, sl, rfl, lk, D.cd⟩, D.kp⟩, .all (B kV dc pm an cd ct), L⟩
  chk := fun i x d hi => by
    have := hc.get hi
    rw [Nat.zero_add] at this
    exact this
  blt := fun x hx => PySem.W.mg_none_of KX G (hn x hx)
  cs := fun x d hx => by
    obtain ⟨u, v, q1, q2, q3⟩ := hs x d hx
    exact ⟨u, v, PySem.W.mg_of KX G q1, q2, q3⟩
/-- the law's promise, from a plain law about the evaluator -/
theorem law_at (W : Wld K mg pg st cs T) (KX : K.In h) {k i : Nat} {x : Str} {d : Def} (hi : pg.fns[i]? = some (x, d)) (hps : d.ps = [("script" : Str)]) (hfa : mg x = some (.ref fa)) (hbl : BindsAs x (st i) [("script" : Str)])
    (hT : ∀ p ∈ cs, h.get? p.2 = some { cls := .none, data := .fields #[] }) (nT : ∀ p ∈ cs, K.lookup p.2 = none) (hC : ∀ p ∈ cs, PySem.W.codeHdIn K p.1 p.2 = true) (hTc : ∀ p ∈ T, ∃ q ∈ cs, q.2 = p.1)
    (plain : ∀ ns : List Int, ns.length ≤ 63 → (∀ z ∈ ns, Builtin.Int.intBits z ≤ 1048576) → (fnS pg k).wd i [.list (ns.map .int)] [] ∧ ((fnS pg k).val i [.list (ns.map .int)] []).1 = .bool true) : LamX.LawAtS l w K CX0 (2 * k) 63 "script" mg fa h := by
  obtain ⟨f, fd, cdv, q1, q2, q3, q4⟩ := W.fns i x d hi
  rw [hfa] at q1
  cases q1
  refine ⟨fd, cs, spF K T (fnS pg k) i, hT, nT, fun p hp => PySem.W.codeHd_of_K KX (hC p hp), fun s u => ?_, fun H a ns hl hbits hH hS => ?_, fun base KB GB hB => ?_⟩
  · obtain ⟨oc, od, kV, doc, pm, an, ct, osl, rfl, _⟩ := q2.ex
    exact .of_eq (hbl kV doc pm an cdv ct [u] rfl)
  · obtain ⟨hw, hv⟩ := plain ns hl hbits
    have rI : ∀ {α : List Addr} {P : Hp}, Reps K α P (ns.map PyData.int) (ns.map V.int) := fun {α P} => by
      clear hl hbits hS hw hv
      induction ns with
      | nil => rfl
      | cons n ns ih => exact ⟨.int n, _, rfl, rfl, ih⟩
    obtain ⟨P, hP, sP, tP⟩ : ∃ P : Hp, Sub P H ∧ SqL K P a (ns.map V.int) ∧ ∀ b ps, P b = some (.tbl ps) → False := by
      rcases hS with (hS | ⟨o, hS⟩) | hS
      · refine ⟨fun b => if b = a then some (.lst (ns.map V.int)) else none, fun b o e => ?_, .inl (.inl (if_pos rfl)), fun b ps e => ?_⟩
        · dsimp only at e
          by_cases hb : b = a
          · rw [if_pos hb] at e; rw [hb, hS]; exact e
          · rw [if_neg hb] at e; cases e
        · dsimp only at e
          by_cases hb : b = a
          · rw [if_pos hb] at e; cases e
          · rw [if_neg hb] at e; cases e
      · refine ⟨fun b => if b = a then some (.frz o (.lst (ns.map V.int))) else none, fun b o e => ?_, .inl (.inr ⟨o, if_pos rfl⟩), fun b ps e => ?_⟩
        · dsimp only at e
          by_cases hb : b = a
          · rw [if_pos hb] at e; rw [hb, hS]; exact e
          · rw [if_neg hb] at e; cases e
        · dsimp only at e
          by_cases hb : b = a
          · rw [if_pos hb] at e; cases e
          · rw [if_neg hb] at e; cases e
      · exact ⟨fun _ => none, fun b o e => (by cases e), .inr hS, fun b ps e => (by cases e)⟩
    refine ⟨⟨K, fun _ => none, P, [], T⟩, [], P, fun _ => none, [], [], [], [.list (ns.map .int)], rfl, rfl, ?_, ⟨.ref a, [], rfl, ⟨a, ns.map V.int, rfl, sP, ?_, rI⟩, rfl⟩, hw, fun α' P' H' v e1 s1 sr r => ?_⟩
    · refine ⟨hP, fun b o e => (by cases e), fun b o e => (by cases e), fun b o e => (by cases e), List.nodup_nil, fun b hb => (by cases hb), fun b hb => (by cases hb), fun b o e => (by cases e), rfl, fun n o b e => (by simp at e), ⟨rfl, fun n o e => (by simp at e), fun n m ds es b e => (by simp at e)⟩, fun p hp => ?_, fun b hb => (by cases hb), fun b ps e => (by cases e), tP, fun b o e => (by cases e), fun b o e => .inl e⟩
      obtain ⟨q, hq, e⟩ := hTc p hp
      rw [← e]
      exact LamX.TabS.nil (hH q hq)
    · rw [List.length_map, sizeLine_eq]; omega
    · rw [hv] at r
      exact r
  · have := fns_ok (P := l.prog) (w := w) (base := base) W hB k i x d hi fa fd cdv hfa q2 q4
    rw [hps] at this
    exact this
end
end Ev

/-! Pl: plain values, for reading what the evaluator says. -/
namespace Ev
open PySem L2
theorem ltOk_int (a b : Int) : ltOk (.int a) (.int b) ↔ True := by
  simp [ltOk, plainD, SeqAt.shaped, PyData.canLay0, PyData.depth, PySem.W.alike]
theorem plainD_int (a : Int) : plainD (.int a) ↔ True := by
  simp [plainD, SeqAt.shaped, PyData.canLay0, PyData.depth]
theorem plainD_none : plainD .none ↔ True := by
  simp [plainD, SeqAt.shaped, PyData.canLay0, PyData.depth]
theorem plainD_bool (a : Bool) : plainD (.bool a) ↔ True := by
  simp [plainD, SeqAt.shaped, PyData.canLay0, PyData.depth]
theorem eqv_int (a b : Int) : PyData.eqv (.int a) (.int b) = decide (a = b) := by
  show (a == b) = decide (a = b)
  rw [Bool.eq_iff_iff]; simp
theorem lay_ints (ns : List Int) : PyData.canLayAll0 (ns.map .int) = true ∧ PyData.depthAll (ns.map .int) ≤ 1 := by
  induction ns with
  | nil => simp [PyData.canLayAll0, PyData.depthAll]
  | cons n ns ih => simp [PyData.canLayAll0, PyData.canLay0, PyData.depthAll, PyData.depth, ih]
theorem plainD_row (ns : List Int) : plainD (.tuple (ns.map .int)) ↔ True := by
  have h := lay_ints ns
  simp [plainD, SeqAt.shaped, PyData.canLay0, PyData.depth, h.1]
  omega
theorem eqv_row (xs ys : List Int) : PyData.eqv (.tuple (xs.map .int)) (.tuple (ys.map .int)) = decide (xs = ys) := by
  rw [← eqv_rows]; simp [PyData.eqv]
theorem inD_int (a : Int) (ns : List Int) : inD (.int a) (ns.map .int) = decide (a ∈ ns) := by
  simp [inD, eqv_int, List.any_map, Function.comp_def, List.any_eq_true]
  rw [Bool.eq_iff_iff]; simp [List.any_eq_true]
theorem inD_row (a : List Int) (ns : List (List Int)) : inD (.tuple (a.map .int)) (ns.map fun x => .tuple (x.map .int)) = decide (a ∈ ns) := by
  simp only [inD, List.any_map, Function.comp_def, eqv_row]
  rw [Bool.eq_iff_iff]; simp [List.any_eq_true]
theorem ixD_tup (xs : List D) (i : Int) (w : W) : ixD (.tuple xs) i w = (L2.atI xs i).getD .none := rfl
theorem ixD_list (xs : List D) (i : Int) (w : W) : ixD (.list xs) i w = (L2.atI xs i).getD .none := rfl
theorem ixD_rf (n : Nat) (i : Int) (w : W) : ixD (rf n) i w = (L2.atI (wlst w n) i).getD .none := rfl
theorem lenD_tup (xs : List D) (w : W) : lenD (.tuple xs) w = xs.length := rfl
theorem lenD_list (xs : List D) (w : W) : lenD (.list xs) w = xs.length := rfl
theorem lenD_rf (n : Nat) (w : W) : lenD (rf n) w = (wlst w n).length := rfl
theorem ite_pairW {c : Prop} [Decidable c] {α : Type} (a b : α) (w : W) : (if c then (a, w) else (b, w)) = (if c then a else b, w) := by split <;> rfl
theorem ite_boolD {c : Prop} [Decidable c] (a b : Bool) : (if c then PyData.bool a else .bool b) = .bool (if c then a else b) := by split <;> rfl
theorem ite_intD {c : Prop} [Decidable c] (a b : Int) : (if c then PyData.int a else .int b) = .int (if c then a else b) := by split <;> rfl
theorem refD_rf (n : Nat) (w : W) : refD (rf n) w ↔ ∃ xs, w[n]? = some (.lst xs) :=
  ⟨fun ⟨m, xs, e, h⟩ => ⟨xs, by rw [rf_inj e]; exact h⟩, fun ⟨xs, h⟩ => ⟨n, xs, rfl, h⟩⟩
theorem isStr_rf (n : Nat) : isStr (rf n) ↔ False := ⟨fun ⟨x, e⟩ => (by cases e), False.elim⟩
theorem its_tup (xs : List D) : its (.tuple xs) = xs := rfl
theorem its_lst (xs : List D) : its (.list xs) = xs := rfl
theorem isSeq_tup (xs : List D) : isSeq (.tuple xs) ↔ True := ⟨fun _ => trivial, fun _ => .inl ⟨xs, rfl⟩⟩
theorem isSeq_lst (xs : List D) : isSeq (.list xs) ↔ True := ⟨fun _ => trivial, fun _ => .inr ⟨xs, rfl⟩⟩
theorem filt_true {α : Type} (l : List α) : l.filter (fun _ => true) = l := by simp
theorem isInt_int (x : Int) : isInt (.int x) ↔ True := ⟨fun _ => trivial, fun _ => ⟨x, rfl⟩⟩
theorem isInt_bool (x : Bool) : isInt (.bool x) ↔ False := ⟨fun ⟨_, e⟩ => (nomatch e), False.elim⟩
theorem isInt_none  : isInt .none ↔ False := ⟨fun ⟨_, e⟩ => (nomatch e), False.elim⟩
theorem isInt_str (x : Str) : isInt (.str x) ↔ False := ⟨fun ⟨_, e⟩ => (nomatch e), False.elim⟩
theorem isInt_lst (x : List D) : isInt (.list x) ↔ False := ⟨fun ⟨_, e⟩ => (nomatch e), False.elim⟩
theorem isInt_tup (x : List D) : isInt (.tuple x) ↔ False := ⟨fun ⟨_, e⟩ => (nomatch e), False.elim⟩
theorem isBool_int (x : Int) : isBool (.int x) ↔ False := ⟨fun ⟨_, e⟩ => (nomatch e), False.elim⟩
theorem isBool_bool (x : Bool) : isBool (.bool x) ↔ True := ⟨fun _ => trivial, fun _ => ⟨x, rfl⟩⟩
theorem isBool_none  : isBool .none ↔ False := ⟨fun ⟨_, e⟩ => (nomatch e), False.elim⟩
theorem isBool_str (x : Str) : isBool (.str x) ↔ False := ⟨fun ⟨_, e⟩ => (nomatch e), False.elim⟩
theorem isBool_lst (x : List D) : isBool (.list x) ↔ False := ⟨fun ⟨_, e⟩ => (nomatch e), False.elim⟩
theorem isBool_tup (x : List D) : isBool (.tuple x) ↔ False := ⟨fun ⟨_, e⟩ => (nomatch e), False.elim⟩
theorem isStr_int (x : Int) : isStr (.int x) ↔ False := ⟨fun ⟨_, e⟩ => (nomatch e), False.elim⟩
theorem isStr_bool (x : Bool) : isStr (.bool x) ↔ False := ⟨fun ⟨_, e⟩ => (nomatch e), False.elim⟩
theorem isStr_none  : isStr .none ↔ False := ⟨fun ⟨_, e⟩ => (nomatch e), False.elim⟩
theorem isStr_str (x : Str) : isStr (.str x) ↔ True := ⟨fun _ => trivial, fun _ => ⟨x, rfl⟩⟩
theorem isStr_lst (x : List D) : isStr (.list x) ↔ False := ⟨fun ⟨_, e⟩ => (nomatch e), False.elim⟩
theorem isStr_tup (x : List D) : isStr (.tuple x) ↔ False := ⟨fun ⟨_, e⟩ => (nomatch e), False.elim⟩
theorem boolsD_map {α : Type} (l : List α) (f : α → Bool) : boolsD (l.map fun x => .bool (f x)) ↔ True := ⟨fun _ => trivial, fun _ x h => by
  obtain ⟨i, _, rfl⟩ := List.mem_map.mp h
  exact ⟨_, rfl⟩⟩
theorem intsD_map2 {α : Type} (l : List α) (f : α → Int) : intsD (l.map fun x => .int (f x)) ↔ True := ⟨fun _ => trivial, fun _ x h => by
  obtain ⟨i, _, rfl⟩ := List.mem_map.mp h
  exact ⟨_, rfl⟩⟩
theorem boolsD_nil : boolsD [] ↔ True := ⟨fun _ => trivial, fun _ x h => nomatch h⟩
theorem intsD_nil : intsD [] ↔ True := ⟨fun _ => trivial, fun _ x h => nomatch h⟩
theorem intsD_map3 (l : List Int) : intsD (l.map PyData.int) ↔ True := intsD_map2 l id
theorem boolsD_map3 (l : List Bool) : boolsD (l.map PyData.bool) ↔ True := boolsD_map l id
theorem addD_int (x y : Int) : addD (.int x) (.int y) = .int (x + y) := rfl
theorem addD_str (x y : Str) : addD (.str x) (.str y) = .str (x ++ y) := rfl
theorem addD_tup (x y : List D) : addD (.tuple x) (.tuple y) = .tuple (x ++ y) := rfl
theorem addD_lst (x y : List D) : addD (.list x) (.list y) = .list (x ++ y) := rfl
end Ev

/-! Pl2: loops. -/
namespace Ev
open PySem L2
theorem for_find {α : Type} (enc : α → D) {f : D → En → W → Rs} {ok : D → En → W → Prop} (I : En → W → Prop) (g : α → Option D) :
    ∀ {ds : List α} {ρ : En} {w : W}, I ρ w →
    (∀ d ∈ ds, ∀ ρ w, I ρ w → ok (enc d) ρ w ∧ match g d with
      | some x => ∃ ρ' w', f (enc d) ρ w = ⟨.rt x, ρ', w'⟩ ∧ I ρ' w'
      | none => ∃ ρ' w', f (enc d) ρ w = ⟨.nx, ρ', w'⟩ ∧ I ρ' w') →
    forP ok f (ds.map enc) ρ w ∧ match ds.findSome? g with
      | some x => ∃ ρ' w', forR f (ds.map enc) ρ w = ⟨.rt x, ρ', w'⟩ ∧ I ρ' w'
      | none => ∃ ρ' w', forR f (ds.map enc) ρ w = ⟨.nx, ρ', w'⟩ ∧ I ρ' w'
  | [], ρ, w, hI, _ => ⟨trivial, ρ, w, rfl, hI⟩
  | d :: ds, ρ, w, hI, h => by
    obtain ⟨h1, h2⟩ := h d (List.mem_cons_self ..) ρ w hI
    simp only [List.findSome?_cons, List.map_cons, forP, forR]
    cases hg : g d with
    | some x =>
      rw [hg] at h2
      obtain ⟨ρ', w', e, i⟩ := h2
      rw [e]
      exact ⟨⟨h1, trivial⟩, ρ', w', rfl, i⟩
    | none =>
      rw [hg] at h2
      obtain ⟨ρ', w', e, i⟩ := h2
      rw [e]
      have := for_find enc I g (ds := ds) i fun d m => h d (List.mem_cons_of_mem _ m)
      exact ⟨⟨h1, this.1⟩, this.2⟩
theorem for_each {α : Type} (enc : α → D) {f : D → En → W → Rs} {ok : D → En → W → Prop} (I : List α → En → W → Prop) :
    ∀ (ds done : List α) {ρ : En} {w : W}, I done ρ w →
    (∀ pre d post, ds = pre ++ d :: post → ∀ ρ w, I (done ++ pre) ρ w → ok (enc d) ρ w ∧ ∃ ρ' w', f (enc d) ρ w = ⟨.nx, ρ', w'⟩ ∧ I (done ++ pre ++ [d]) ρ' w') →
    forP ok f (ds.map enc) ρ w ∧ ∃ ρ' w', forR f (ds.map enc) ρ w = ⟨.nx, ρ', w'⟩ ∧ I (done ++ ds) ρ' w'
  | [], done, ρ, w, hI, _ => ⟨trivial, ρ, w, rfl, by simpa using hI⟩
  | d :: ds, done, ρ, w, hI, h => by
    obtain ⟨h1, ρ', w', e, i⟩ := h [] d ds rfl ρ w (by simpa using hI)
    simp only [List.map_cons, forP, forR, e]
    have := for_each enc I ds (done ++ [d]) (by simpa using i) fun pre x post q ρ w z => by
      have := h (d :: pre) x post (by rw [q]; rfl) ρ w (by simpa using z)
      simpa using this
    refine ⟨⟨h1, this.1⟩, ?_⟩
    obtain ⟨ρ2, w2, e2, i2⟩ := this.2
    exact ⟨ρ2, w2, e2, by simpa using i2⟩
/-! ### blocks -/
def BK (S : Sm) (b : Blk) (ρ : En) (w : W) (Q : Rs → Prop) : Prop := wdB S b ρ w ∧ Q (xb S b ρ w)
def Kont (S : Sm) (r : Blk) (Q : Rs → Prop) (x : Rs) : Prop := sqP x (fun ρ w => wdB S r ρ w) ∧ Q (sq x fun ρ w => xb S r ρ w)
theorem BK_cons (S : Sm) (s : St) (b : Blk) (ρ : En) (w : W) (Q : Rs → Prop) : BK S (.cons s b) ρ w Q ↔ wdS S s ρ w ∧ Kont S b Q (xs S s ρ w) := by
  simp only [BK, Kont, wdB, xb, and_assoc]
theorem BK_nil (S : Sm) (ρ : En) (w : W) (Q : Rs → Prop) : BK S .nil ρ w Q ↔ Q ⟨.nx, ρ, w⟩ := by simp [BK, wdB, xb]
theorem Kont_nx (S : Sm) (r : Blk) (Q : Rs → Prop) (ρ : En) (w : W) : Kont S r Q ⟨.nx, ρ, w⟩ ↔ BK S r ρ w Q := by simp [Kont, BK, sqP, sq]
theorem Kont_rt (S : Sm) (r : Blk) (Q : Rs → Prop) (d : D) (ρ : En) (w : W) : Kont S r Q ⟨.rt d, ρ, w⟩ ↔ Q ⟨.rt d, ρ, w⟩ := by simp [Kont, sqP, sq]
theorem Kont_bk (S : Sm) (r : Blk) (Q : Rs → Prop) (ρ : En) (w : W) : Kont S r Q ⟨.bk, ρ, w⟩ ↔ Q ⟨.bk, ρ, w⟩ := by simp [Kont, sqP, sq]
theorem Kont_ct (S : Sm) (r : Blk) (Q : Rs → Prop) (ρ : En) (w : W) : Kont S r Q ⟨.ct, ρ, w⟩ ↔ Q ⟨.ct, ρ, w⟩ := by simp [Kont, sqP, sq]
section
variable (S : Sm) (b : Blk) (ρ : En) (w : W) (Q : Rs → Prop)
theorem BK_set (i : Nat) (e : Ex) : BK S (.cons (.set i e) b) ρ w Q ↔ wd S e ρ w ∧ andThen (ev S e ρ w) fun x w1 => BK S b (ρ.set i (mk e.fresh x)) w1 Q := by
  simp only [BK_cons, wdS, xs, andThen, Kont_nx]
theorem BK_setT (is : List Nat) (e : Ex) : BK S (.cons (.setT is e) b) ρ w Q ↔ wdS S (.setT is e) ρ w ∧ andThen (ev S e ρ w) fun x w1 => BK S b (setVs ρ is (its x)) w1 Q := by
  simp only [BK_cons, xs, andThen, Kont_nx]
theorem BK_aug (i : Nat) (o : P2) (e : Ex) : BK S (.cons (.aug i o e) b) ρ w Q ↔ wdS S (.aug i o e) ρ w ∧ andThen (ev S e ρ w) fun x w1 => BK S b (setV ρ i (augV ρ i o x w1)) w1 Q := by
  simp only [BK_cons, xs, andThen, Kont_nx]
theorem BK_ext (i : Nat) (e : Ex) : BK S (.cons (.ext i e) b) ρ w Q ↔ wdS S (.ext i e) ρ w ∧ andThen (ev S e ρ w) fun x w1 => BK S b (setO ρ i (ownL ρ i ++ its x)) w1 Q := by
  simp only [BK_cons, xs, andThen, Kont_nx]
theorem BK_app (i : Nat) (e : Ex) : BK S (.cons (.app i e) b) ρ w Q ↔ wdS S (.app i e) ρ w ∧ andThen (ev S e ρ w) fun x w1 => BK S b (setO ρ i (ownL ρ i ++ [x])) w1 Q := by
  simp only [BK_cons, xs, andThen, Kont_nx]
theorem BK_six (i : Nat) (k e : Ex) : BK S (.cons (.six i k e) b) ρ w Q ↔ wdS S (.six i k e) ρ w ∧ andThen (ev S e ρ w) fun x w1 => andThen (ev S k ρ w1) fun y w2' => BK S b (setO ρ i (setAtN (ownL ρ i) (toI y) x)) w2' Q := by
  simp only [BK_cons, xs, andThen, Kont_nx]
theorem BK_expr (e : Ex) : BK S (.cons (.expr e) b) ρ w Q ↔ wd S e ρ w ∧ andThen (ev S e ρ w) fun x w1 => BK S b ρ w1 Q := by
  simp only [BK_cons, wdS, xs, andThen, Kont_nx]
theorem BK_ret (e : Ex) : BK S (.cons (.ret e) b) ρ w Q ↔ wd S e ρ w ∧ andThen (ev S e ρ w) fun x w1 => Q ⟨.rt x, ρ, w1⟩ := by
  simp only [BK_cons, wdS, xs, andThen, Kont_rt]
theorem BK_retN : BK S (.cons .retN b) ρ w Q ↔ Q ⟨.rt .none, ρ, w⟩ := by
  simp only [BK_cons, wdS, xs, andThen, Kont_rt, true_and]
theorem BK_brk : BK S (.cons .brk b) ρ w Q ↔ Q ⟨.bk, ρ, w⟩ := by
  simp only [BK_cons, wdS, xs, andThen, Kont_bk, true_and]
theorem BK_cnt : BK S (.cons .cnt b) ρ w Q ↔ Q ⟨.ct, ρ, w⟩ := by
  simp only [BK_cons, wdS, xs, andThen, Kont_ct, true_and]
theorem BK_pass : BK S (.cons .pass b) ρ w Q ↔ BK S b ρ w Q := by
  simp only [BK_cons, wdS, xs, andThen, Kont_nx, true_and]
theorem BK_frz (i : Nat) : BK S (.cons (.frz i) b) ρ w Q ↔ BK S b (frzE ρ i) w Q := by
  simp only [BK_cons, wdS, xs, andThen, Kont_nx, true_and]
theorem BK_ifs (c : Ex) (a a' : Blk) : BK S (.cons (.ifs c a a') b) ρ w Q ↔ wd S c ρ w ∧ andThen (ev S c ρ w) fun x w1 => isBool x ∧ (tr x = true → BK S a ρ w1 (Kont S b Q)) ∧ (tr x = false → BK S a' ρ w1 (Kont S b Q)) := by
  rw [BK_cons]
  simp only [wdS, xs, andThen, BK]
  cases h : tr (ev S c ρ w).1 <;> simp [Kont, and_assoc] <;> rfl
end
/-- a loop that runs to its end -/
theorem bk_for {S : Sm} {p : Pat} {src : Src} {b r : Blk} {ρ : En} {w : W} {Q : Rs → Prop} (h1 : wdSrc S src ρ w) {α : Type} {enc : α → D} (l : List α) {w1 : W} (h2 : evSrc S src ρ w = (l.map enc, w1)) (I : List α → En → W → Prop) (h3 : I [] ρ w1)
    (h4 : ∀ pre d post, l = pre ++ d :: post → ∀ ρ' w', I pre ρ' w' → p.ok (enc d) ∧ BK S b (p.bind ρ' (enc d)) w' fun rs => match rs with
      | ⟨.nx, ρ2, w2⟩ => I (pre ++ [d]) ρ2 w2
      | _ => False)
    (h5 : ∀ ρ' w', I l ρ' w' → BK S r ρ' w' Q) : BK S (.cons (.for p src b) r) ρ w Q := by
  rw [BK_cons]
  have := for_each enc (f := fun d ρ' w' => xb S b (p.bind ρ' d) w') (ok := fun d ρ' w' => p.ok d ∧ wdB S b (p.bind ρ' d) w') I l [] h3 fun pre d post e ρ' w' i => by
    obtain ⟨a1, a2, a3⟩ := h4 pre d post e ρ' w' i
    refine ⟨⟨a1, a2⟩, ?_⟩
    revert a3
    generalize xb S b (p.bind ρ' (enc d)) w' = rs
    obtain ⟨fl, ρ2, w2⟩ := rs
    cases fl <;> intro a3 <;> first | exact ⟨ρ2, w2, rfl, a3⟩ | exact a3.elim
  obtain ⟨q1, ρ', w', q2, q3⟩ := this
  refine ⟨⟨h1, by rw [h2]; exact q1⟩, ?_⟩
  simp only [xs, h2, andThen]
  rw [q2, Kont_nx]
  exact h5 ρ' w' q3
/-- a loop that looks for something and returns -/
theorem bk_find {S : Sm} {p : Pat} {src : Src} {b r : Blk} {ρ : En} {w : W} {Q : Rs → Prop} (h1 : wdSrc S src ρ w) {α : Type} {enc : α → D} (l : List α) {w1 : W} (h2 : evSrc S src ρ w = (l.map enc, w1)) (I : En → W → Prop) (g : α → Option D) (h3 : I ρ w1)
    (h4 : ∀ d ∈ l, ∀ ρ' w', I ρ' w' → p.ok (enc d) ∧ BK S b (p.bind ρ' (enc d)) w' fun rs => match rs with
      | ⟨.nx, ρ2, w2⟩ => g d = none ∧ I ρ2 w2
      | ⟨.rt x, ρ2, w2⟩ => g d = some x ∧ I ρ2 w2
      | _ => False)
    (h5 : l.findSome? g = none → ∀ ρ' w', I ρ' w' → BK S r ρ' w' Q)
    (h6 : ∀ x, l.findSome? g = some x → ∀ ρ' w', I ρ' w' → Q ⟨.rt x, ρ', w'⟩) : BK S (.cons (.for p src b) r) ρ w Q := by
  rw [BK_cons]
  have := for_find enc (f := fun d ρ' w' => xb S b (p.bind ρ' d) w') (ok := fun d ρ' w' => p.ok d ∧ wdB S b (p.bind ρ' d) w') I g (ds := l) h3 fun d m ρ' w' i => by
    obtain ⟨a1, a2, a3⟩ := h4 d m ρ' w' i
    refine ⟨⟨a1, a2⟩, ?_⟩
    revert a3
    generalize xb S b (p.bind ρ' (enc d)) w' = rs
    obtain ⟨fl, ρ2, w2⟩ := rs
    cases fl <;> intro a3 <;> first | (rw [a3.1]; exact ⟨ρ2, w2, rfl, a3.2⟩) | exact a3.elim
  obtain ⟨q1, q2⟩ := this
  refine ⟨⟨h1, by rw [h2]; exact q1⟩, ?_⟩
  simp only [xs, h2, andThen]
  cases hf : l.findSome? g with
  | none =>
    rw [hf] at q2
    obtain ⟨ρ', w', e, i⟩ := q2
    rw [e, Kont_nx]
    exact h5 hf ρ' w' i
  | some x =>
    rw [hf] at q2
    obtain ⟨ρ', w', e, i⟩ := q2
    rw [e, Kont_rt]
    exact h6 x hf ρ' w' i
/-! ### defs -/
def RQ (Q : D → W → Prop) (r : Rs) : Prop := match r with
  | ⟨.rt x, _, w⟩ => Q x w
  | ⟨_, _, w⟩ => Q .none w
theorem RQ_rt (Q : D → W → Prop) (x : D) (ρ : En) (w : W) : RQ Q ⟨.rt x, ρ, w⟩ ↔ Q x w := Iff.rfl
theorem RQ_nx (Q : D → W → Prop) (ρ : En) (w : W) : RQ Q ⟨.nx, ρ, w⟩ ↔ Q .none w := Iff.rfl
/-- what a function's call does -/
def Does (S : Sm) (f : Nat) (ds : List D) (w : W) (Q : D → W → Prop) : Prop := S.wd f ds w ∧ Q (S.val f ds w).1 (S.val f ds w).2
theorem does_of {pg : Pg} {k f : Nat} {nm : Str} {d : Def} {ds : List D} {w : W} {Q : D → W → Prop} (h : pg.fns[f]? = some (nm, d)) (hl : ds.length = d.ps.length) (hb : BK (fnS pg k) d.body (d.start ds) w (RQ Q)) : Does (fnS pg (k + 1)) f ds w Q := by
  obtain ⟨h1, h2⟩ := hb
  simp only [Does, fnS, h]
  refine ⟨⟨hl, h1⟩, ?_⟩
  revert h2
  unfold runD
  generalize xb (fnS pg k) d.body (d.start ds) w = rs
  obtain ⟨fl, ρ2, w2⟩ := rs
  cases fl <;> exact id
theorem Does.eq {S : Sm} {f : Nat} {ds : List D} {w w' : W} {d : D} (h : Does S f ds w fun x w2 => x = d ∧ w2 = w') : S.wd f ds w ∧ S.val f ds w = (d, w') := ⟨h.1, Prod.ext h.2.1 h.2.2⟩
theorem Does.ex {S : Sm} {f : Nat} {ds : List D} {w : W} {Q : D → W → Prop} (h : Does S f ds w Q) : ∃ d w', S.wd f ds w ∧ S.val f ds w = (d, w') ∧ Q d w' := ⟨_, _, h.1, rfl, h.2⟩
/-! ### cuts -/
def NxQ (J : En → W → Prop) (r : Rs) : Prop := match r with
  | ⟨.nx, ρ, w⟩ => J ρ w
  | _ => False
theorem NxQ_nx (J : En → W → Prop) (ρ : En) (w : W) : NxQ J ⟨.nx, ρ, w⟩ ↔ J ρ w := Iff.rfl
theorem bk_cut {S : Sm} {s : St} {r : Blk} {ρ : En} {w : W} {Q : Rs → Prop} (J : En → W → Prop) (h : BK S (.cons s .nil) ρ w (NxQ J)) (k : ∀ ρ' w', J ρ' w' → BK S r ρ' w' Q) : BK S (.cons s r) ρ w Q := by
  rw [BK_cons] at h ⊢
  refine ⟨h.1, ?_⟩
  have h2 := h.2
  revert h2
  generalize xs S s ρ w = rs
  obtain ⟨fl, ρ2, w2⟩ := rs
  cases fl with
  | nx => intro h2; rw [Kont_nx, BK_nil] at h2; rw [Kont_nx]; exact k ρ2 w2 h2
  | bk => intro h2; rw [Kont_bk] at h2; exact h2.elim
  | ct => intro h2; rw [Kont_ct] at h2; exact h2.elim
  | rt d => intro h2; rw [Kont_rt] at h2; exact h2.elim
theorem bk_peel {S : Sm} {s : St} {r : Blk} {ρ : En} {w : W} {Q : Rs → Prop} (h : ∀ r', r' = r → BK S (.cons s r') ρ w Q) : BK S (.cons s r) ρ w Q := h r rfl
/-- a list made by a comprehension that hands the store on -/
theorem compW_inv {f : D → W → Option D × W} {ok : D → W → Prop} {nx : D → W → W} (I : W → Prop) (P : D → Prop) : ∀ {l : List D} {w : W},
    (∀ x ∈ l, ∀ w, I w → ok x w ∧ ∃ d w', f x w = (some d, w') ∧ nx x w = w' ∧ P d ∧ I w') → I w →
    wdCW ok nx l w ∧ ∃ ds w', compW f l w = (ds, w') ∧ ds.length = l.length ∧ (∀ d ∈ ds, P d) ∧ I w'
  | [], w, _, hI => ⟨trivial, [], w, rfl, rfl, (fun _ h => nomatch h), hI⟩
  | x :: l, w, h, hI => by
    obtain ⟨h1, d, w', e1, e2, hp, hi⟩ := h x (List.mem_cons_self ..) w hI
    obtain ⟨h3, ds, w2', e3, hl, hP, hI2⟩ := compW_inv I P (l := l) (fun y hy => h y (List.mem_cons_of_mem _ hy)) hi
    refine ⟨⟨h1, by rw [e2]; exact h3⟩, d :: ds, w2', ?_, by simp [hl], ?_, hI2⟩
    · simp only [compW, e1, e3]
      rfl
    · intro y hy
      rcases List.mem_cons.mp hy with e | hy
      · rw [e]; exact hp
      · exact hP y hy
theorem bk_compW {S : Sm} {i : Nat} {p : Pat} {src : Src} {elt : Ex} {r : Blk} {ρ : En} {w : W} {Q : Rs → Prop} (h1 : wdSrc S src ρ w) {l : List D} {w1 : W} (h2 : evSrc S src ρ w = (l, w1)) (I : W → Prop) (P : D → Prop) (h3 : I w1)
    (h4 : ∀ x ∈ l, ∀ w', I w' → p.ok x ∧ wd S elt (p.bind ρ x) w' ∧ P (ev S elt (p.bind ρ x) w').1 ∧ I (ev S elt (p.bind ρ x) w').2)
    (h5 : ∀ ds w', ds.length = l.length → (∀ d ∈ ds, P d) → I w' → BK S r (ρ.set i (.own ds)) w' Q) : BK S (.cons (.set i (.comp true p src (.lit (.bool true)) elt)) r) ρ w Q := by
  rw [BK_set]
  have := compW_inv (f := fun x w2' => andThen (ev S (.lit (.bool true)) (p.bind ρ x) w2') fun c w3 => if tr c = true then andThen (ev S elt (p.bind ρ x) w3) fun d w4 => (some d, w4) else (none, w3))
    (ok := fun x w2' => p.ok x ∧ wd S (.lit (.bool true)) (p.bind ρ x) w2' ∧ andThen (ev S (.lit (.bool true)) (p.bind ρ x) w2') fun c w3 => isBool c ∧ (tr c = true → wd S elt (p.bind ρ x) w3))
    (nx := fun x w2' => andThen (ev S (.lit (.bool true)) (p.bind ρ x) w2') fun c w3 => if tr c = true then (ev S elt (p.bind ρ x) w3).2 else w3) I P (l := l) (w := w1) (fun x hx w' hI => by
      obtain ⟨a1, a2, a3, a4⟩ := h4 x hx w' hI
      exact ⟨⟨a1, trivial, ⟨true, rfl⟩, fun _ => a2⟩, _, _, rfl, rfl, a3, a4⟩) h3
  obtain ⟨q1, ds, w', q2, q3, q4, q5⟩ := this
  refine ⟨⟨h1, by rw [h2]; exact q1⟩, ?_⟩
  have e : ev S (.comp true p src (.lit (.bool true)) elt) ρ w = (.list ds, w') := by
    simp only [ev]
    rw [h2]
    simp only [andThen]
    have q2' := q2
    simp only [andThen] at q2'
    rw [show (ev S (.lit (.bool true))) = fun ρ w => (PyData.bool true, w) from by funext ρ w; rfl] at q2'
    rw [q2']
  rw [e]
  exact h5 ds w' q3 q4 q5
end Ev

/-! Pl3: sorted sets of ints. -/
namespace Ev
open PySem L2
/-- sorted(set(..)) of ints -/
def sI (l : List Int) : List Int := (sortD (dedup (l.map .int))).map toI
theorem intsD_map (l : List Int) : intsD (l.map .int) := fun x h => by
  obtain ⟨i, _, rfl⟩ := List.mem_map.mp h
  exact ⟨i, rfl⟩
theorem mem_srtS {l : List D} (h : oneK l) {x : D} : x ∈ sortD (dedup l) ↔ x ∈ l := by
  rw [(sortD_perm _).mem_iff, mem_dedup h]
theorem sI_eq (l : List Int) : sortD (dedup (l.map .int)) = (sI l).map .int := by
  have h : ∀ x ∈ sortD (dedup (l.map .int)), ∃ i, x = PyData.int i := fun x hx => intsD_map l x ((mem_srtS (.inl (intsD_map l))).mp hx)
  unfold sI
  rw [List.map_map]
  have : ∀ (m : List D), (∀ x ∈ m, ∃ i, x = PyData.int i) → m = m.map (PyData.int ∘ toI) := by
    intro m hm
    induction m with
    | nil => rfl
    | cons a m ih =>
      obtain ⟨i, rfl⟩ := hm a (List.mem_cons_self ..)
      rw [List.map_cons, ← ih fun x hx => hm x (List.mem_cons_of_mem _ hx)]
      rfl
  exact this _ h
theorem mem_sI {l : List Int} {i : Int} : i ∈ sI l ↔ i ∈ l := by
  have h := mem_srtS (.inl (intsD_map l)) (x := PyData.int i)
  rw [sI_eq] at h
  have e : ∀ m : List Int, PyData.int i ∈ m.map PyData.int ↔ i ∈ m := fun m =>
    ⟨fun z => by obtain ⟨j, h1, h2⟩ := List.mem_map.mp z; cases h2; exact h1, fun z => List.mem_map_of_mem z⟩
  rw [e, e] at h
  exact h
theorem sI_sorted (l : List Int) : (sI l).Pairwise fun a b => a ≤ b := by
  have h := sortD_sorted (dedup (l.map .int))
  rw [sI_eq, List.pairwise_map] at h
  refine h.imp fun {a b} z => ?_
  have : ltD (.int b) (.int a) = decide (b < a) := PySem.W.dataLt_int ..
  simp only [leK, this] at z
  simpa [Int.not_lt] using z
theorem sizeLine_big : 1000000 ≤ sizeLine := by decide
theorem alike_ints : ∀ xs ys : List Int, PySem.W.alikeAll (xs.map .int) (ys.map .int) = true
  | [], _ => by simp [PySem.W.alikeAll]
  | _ :: _, [] => by simp [PySem.W.alikeAll]
  | x :: xs, y :: ys => by simp [PySem.W.alikeAll, PySem.W.alike, alike_ints xs ys]
/-- keys of an int and a row -/
theorem keys_lenrow {α : Type} (l : List α) (f : α → Int) (g : α → List Int) : keysOk (l.map fun x => .tuple [.int (f x), .tuple ((g x).map .int)]) := by
  refine ⟨?_, ?_, .inl ?_⟩
  · intro x hx y hy
    obtain ⟨a, _, rfl⟩ := List.mem_map.mp hx
    obtain ⟨b, _, rfl⟩ := List.mem_map.mp hy
    simp [PySem.W.alike, PySem.W.alikeAll, alike_ints]
  · intro x hx
    obtain ⟨a, _, rfl⟩ := List.mem_map.mp hx
    have h := lay_ints (g a)
    simp [PyData.depth, PyData.depthAll, PyData.canLay0, PyData.canLayAll0, h.1]
    omega
  · intro x hx
    obtain ⟨a, _, rfl⟩ := List.mem_map.mp hx
    exact ⟨_, rfl⟩
theorem sortByK_perm (k : D → D) (l : List D) : (sortByK k l).Perm l := List.mergeSort_perm _ _
/-- a permutation of coded things is a coding of a permutation -/
theorem perm_map {α : Type} {f : α → D} : ∀ {m : List α} {l : List D}, l.Perm (m.map f) → ∃ m' : List α, m'.Perm m ∧ l = m'.map f
  | [], l, h => ⟨[], List.Perm.refl _, by simpa using h⟩
  | a :: m, l, h => by
    have ha : f a ∈ l := h.mem_iff.mpr (by simp)
    obtain ⟨l1, l2, rfl⟩ := List.append_of_mem ha
    have h2 : (l1 ++ l2).Perm (m.map f) := (List.Perm.cons_inv (List.perm_middle.symm.trans h))
    obtain ⟨m', p, e⟩ := perm_map h2
    obtain ⟨p1, p2, rfl, rfl, rfl⟩ := List.map_eq_append_iff.mp e.symm
    exact ⟨p1 ++ a :: p2, List.perm_middle.trans (p.cons a), by simp⟩
end Ev

/-! K53a: the text of law_k53 as the evaluator's terms (printed by gen.py). -/
namespace K53
open PySem PySem.Spec PyProof.Rows L2 Ev
def d_is_in : Def := ⟨["rows", "begin", "end"], ["rows", "begin", "end", "pair"],
  (.cons (.ret (.p1 .any (.comp false (.one 3) (.seq (.var 0)) (.lit (.bool true)) (.and (.p2 .le (.p2 .ix (.var 3) (.lit (.int 0))) (.var 1)) (.p2 .le (.var 2) (.p2 .ix (.var 3) (.lit (.int 1)))))))) .nil), false⟩
def d_first_ceremony : Def := ⟨["council", "times", "moment", "length"], ["council", "times", "moment", "length", "begins", "rows", "begin", "quorum", "pair", "member"],
  (.cons (.set 4 (.lst (.cons (.var 2) .nil))) (.cons (.for (.one 5) (.seq (.var 1)) (.cons (.ext 4 (.comp false (.one 8) (.seq (.var 5)) (.p2 .gt (.p2 .ix (.var 8) (.lit (.int 0))) (.var 2)) (.p2 .ix (.var 8) (.lit (.int 0))))) .nil)) (.cons (.for (.one 6) (.seq (.p1 .srtS (.brw 4))) (.cons (.ifs (.p2 .le (.p2 .add (.var 6) (.var 3)) (.lit (.int 10000))) (.cons (.for (.one 7) (.seq (.var 0)) (.cons (.ifs (.p1 .all (.comp false (.one 9) (.seq (.var 7)) (.lit (.bool true)) (.call 0 (.cons (.p2 .ix (.var 1) (.var 9)) (.cons (.var 6) (.cons (.p2 .add (.var 6) (.var 3)) .nil)))))) (.cons (.ret (.tup (.cons (.var 6) (.cons (.var 7) .nil)))) .nil) .nil) .nil)) .nil) .nil) .nil)) (.cons (.ret (.lit .none)) .nil)))), false⟩
def d__law_box : Def := ⟨["script"], ["script"],
  (.cons (.ret (.nlst (.cons (.stor (.p1 .lst1 (.slh (.var 0) (.lit (.int 63))))) (.cons (.lit (.int 0)) (.cons (.p2 .add (.lit (.int 4711)) (.p1 .len (.var 0))) .nil))))) .nil), false⟩
def d__law_load : Def := ⟨["box"], ["box", "cells", "first", "second", "cell", "size"],
  (.cons (.set 1 (.p2 .ix (.var 0) (.lit (.int 0)))) (.cons (.ifs (.p2 .gt (.p1 .len (.var 1)) (.lit (.int 0))) (.cons (.set 4 (.p1 .int1 (.p2 .rpop (.var 1) (.lit (.int 0))))) (.cons (.set 5 (.ite (.p2 .ge (.var 4) (.lit (.int 0))) (.p2 .mul (.lit (.int 2)) (.var 4)) (.p2 .sub (.p2 .mul (.p1 .neg (.lit (.int 2))) (.var 4)) (.lit (.int 1))))) (.cons (.ifs (.p2 .ge (.var 5) (.lit (.int 1000000000000000000))) (.cons (.ret (.var 5)) .nil) .nil) (.cons (.rsix (.var 0) (.lit (.int 2)) (.p2 .mod (.p1 .int1 (.p2 .add (.p2 .add (.p2 .mul (.p2 .ix (.var 0) (.lit (.int 2))) (.lit (.int 69621))) (.p2 .mul (.var 5) (.lit (.int 48271)))) (.lit (.int 11)))) (.lit (.int 2147483647)))) .nil)))) .nil) (.cons (.set 2 (.p2 .mod (.p1 .int1 (.p2 .add (.p2 .mul (.p2 .ix (.var 0) (.lit (.int 2))) (.lit (.int 48271))) (.lit (.int 17)))) (.lit (.int 2147483629)))) (.cons (.set 3 (.p2 .mod (.p1 .int1 (.p2 .add (.p2 .mul (.var 2) (.lit (.int 69621))) (.lit (.int 5)))) (.lit (.int 2147483587)))) (.cons (.rsix (.var 0) (.lit (.int 2)) (.p2 .mod (.p1 .int1 (.p2 .add (.p2 .mul (.var 3) (.lit (.int 40692))) (.lit (.int 3)))) (.lit (.int 2147483563)))) (.cons (.ret (.p2 .add (.p2 .add (.p2 .mul (.var 2) (.lit (.int 4611686014132420609))) (.p2 .mul (.var 3) (.lit (.int 2147483647)))) (.p2 .ix (.var 0) (.lit (.int 2))))) .nil)))))), false⟩
def d__law_draw : Def := ⟨["box", "many"], ["box", "many", "digit"],
  (.cons (.ifs (.p2 .lt (.p2 .ix (.var 0) (.lit (.int 1))) (.var 1)) (.cons (.rsix (.var 0) (.lit (.int 1)) (.call 3 (.cons (.var 0) .nil))) .nil) .nil) (.cons (.set 2 (.p2 .mod (.p1 .int1 (.p2 .ix (.var 0) (.lit (.int 1)))) (.var 1))) (.cons (.rsix (.var 0) (.lit (.int 1)) (.p2 .fdiv (.p2 .ix (.var 0) (.lit (.int 1))) (.var 1))) (.cons (.ret (.var 2)) .nil)))), false⟩
def d__law_same : Def := ⟨["a", "b"], ["a", "b", "k"],
  (.cons (.ifs (.or (.and (.p1 (.isi "tuple") (.var 0)) (.p1 (.isi "tuple") (.var 1))) (.and (.p1 (.isi "list") (.var 0)) (.p1 (.isi "list") (.var 1)))) (.cons (.ret (.and (.p2 .eq (.p1 .len (.var 0)) (.p1 .len (.var 1))) (.p1 .all (.comp false (.one 2) (.rng1 (.p1 .len (.var 0))) (.lit (.bool true)) (.call 5 (.cons (.p2 .ix (.var 0) (.var 2)) (.cons (.p2 .ix (.var 1) (.var 2)) .nil))))))) .nil) .nil) (.cons (.ifs (.or (.p1 (.isi "bool") (.var 0)) (.p1 (.isi "bool") (.var 1))) (.cons (.ret (.and (.p1 (.isi "bool") (.var 0)) (.and (.p1 (.isi "bool") (.var 1)) (.p2 .eq (.var 0) (.var 1))))) .nil) .nil) (.cons (.ifs (.or (.and (.p1 (.isi "int") (.var 0)) (.p1 (.isi "int") (.var 1))) (.and (.p1 (.isi "str") (.var 0)) (.p1 (.isi "str") (.var 1)))) (.cons (.ret (.p2 .eq (.var 0) (.var 1))) .nil) .nil) (.cons (.ret (.and (.p2 .is (.var 0) (.lit .none)) (.p2 .is (.var 1) (.lit .none)))) .nil)))), false⟩
def d__law_all : Def := ⟨["n"], ["n", "rows", "member", "row"],
  (.cons (.set 1 (.lst (.cons (.tup .nil) .nil))) (.cons (.for (.one 2) (.rng1 (.var 0)) (.cons (.set 1 (.p2 .add (.brw 1) (.comp false (.one 3) (.seq (.brw 1)) (.lit (.bool true)) (.p2 .add (.var 3) (.tup (.cons (.var 2) .nil)))))) .nil)) (.cons (.ret (.srtK 0 (.brw 1) (.tup (.cons (.p1 .len (.var 0)) (.cons (.var 0) .nil))))) .nil))), true⟩
def d__law_least : Def := ⟨["groups"], ["groups", "rows", "one", "other", "k"],
  (.cons (.set 1 (.p1 .srtS (.var 0))) (.cons (.ret (.p1 .tup1 (.comp false (.one 2) (.seq (.brw 1)) (.not (.p1 .any (.comp false (.one 3) (.seq (.brw 1)) (.lit (.bool true)) (.and (.p2 .ne (.var 3) (.var 2)) (.p1 .all (.comp false (.one 4) (.seq (.var 3)) (.lit (.bool true)) (.p2 .inn (.var 4) (.var 2)))))))) (.var 2)))) .nil)), false⟩
def d__law_council : Def := ⟨["box", "n", "one"], ["box", "n", "one", "every", "kind", "groups", "at", "found", "group", "k", "other"],
  (.cons (.set 3 (.call 6 (.cons (.var 1) .nil))) (.cons (.set 4 (.call 4 (.cons (.var 0) (.cons (.lit (.int 4)) .nil)))) (.cons (.set 5 (.comp true (.one 9) (.rng1 (.p2 .add (.lit (.int 1)) (.call 4 (.cons (.var 0) (.cons (.lit (.int 6)) .nil))))) (.lit (.bool true)) (.p2 .ix (.var 3) (.call 4 (.cons (.var 0) (.cons (.p1 .len (.var 3)) .nil)))))) (.cons (.ifs (.p2 .eq (.var 4) (.lit (.int 0))) (.cons (.set 5 (.comp false (.one 8) (.seq (.var 3)) (.p2 .eq (.p1 .len (.var 8)) (.p2 .add (.p2 .fdiv (.var 1) (.lit (.int 2))) (.lit (.int 1)))) (.var 8))) .nil) .nil) (.cons (.ifs (.p2 .eq (.var 4) (.lit (.int 1))) (.cons (.set 6 (.call 4 (.cons (.var 0) (.cons (.var 1) .nil)))) (.cons (.set 5 (.comp false (.one 8) (.seq (.brw 5)) (.lit (.bool true)) (.p1 .tup1 (.p1 .srtS (.p2 .add (.var 8) (.tup (.cons (.var 6) .nil))))))) .nil)) .nil) (.cons (.ifs (.var 2) (.cons (.set 7 (.lst .nil)) (.cons (.for (.one 8) (.seq (.p2 .add (.brw 5) (.lst (.cons (.p1 .rngT (.var 1)) .nil)))) (.cons (.ifs (.and (.p2 .ne (.var 8) (.tup .nil)) (.p1 .all (.comp false (.one 10) (.seq (.brw 7)) (.lit (.bool true)) (.p1 .any (.comp false (.one 9) (.seq (.var 8)) (.lit (.bool true)) (.p2 .inn (.var 9) (.var 10))))))) (.cons (.app 7 (.var 8)) .nil) .nil) .nil)) (.cons (.frz 7) (.cons (.set 5 (.var 7)) .nil)))) .nil) (.cons (.frz 5) (.cons (.ret (.call 7 (.cons (.var 5) .nil))) .nil)))))))), false⟩
def d__law_decides : Def := ⟨["council", "group"], ["council", "group", "quorum", "k"],
  (.cons (.ret (.p1 .any (.comp false (.one 2) (.seq (.var 0)) (.lit (.bool true)) (.p1 .all (.comp false (.one 3) (.seq (.var 2)) (.lit (.bool true)) (.p2 .inn (.var 3) (.var 1))))))) .nil), false⟩
def d__law_blocks : Def := ⟨["n", "council"], ["n", "council", "group", "quorum", "k"],
  (.cons (.ret (.call 7 (.cons (.comp false (.one 2) (.seq (.call 6 (.cons (.var 0) .nil))) (.not (.p1 .any (.comp false (.one 3) (.seq (.var 1)) (.lit (.bool true)) (.not (.p1 .any (.comp false (.one 4) (.seq (.var 3)) (.lit (.bool true)) (.p2 .inn (.var 4) (.var 2)))))))) (.var 2)) .nil))) .nil), false⟩
def d__law_times : Def := ⟨["box", "n", "late"], ["box", "n", "late", "found", "member", "rows", "at", "turn", "end"],
  (.cons (.set 3 (.lst .nil)) (.cons (.for (.one 4) (.rng1 (.var 1)) (.cons (.set 5 (.lst .nil)) (.cons (.set 6 (.p2 .add (.var 2) (.call 4 (.cons (.var 0) (.cons (.lit (.int 12)) .nil))))) (.cons (.for (.one 7) (.rng1 (.call 4 (.cons (.var 0) (.cons (.lit (.int 4)) .nil)))) (.cons (.set 8 (.p2 .add (.var 6) (.call 4 (.cons (.var 0) (.cons (.p2 .ix (.lst (.cons (.lit (.int 3)) (.cons (.lit (.int 20)) .nil))) (.call 4 (.cons (.var 0) (.cons (.lit (.int 2)) .nil)))) .nil))))) (.cons (.ifs (.p2 .le (.var 8) (.lit (.int 10000))) (.cons (.app 5 (.tup (.cons (.var 6) (.cons (.var 8) .nil)))) .nil) .nil) (.cons (.set 6 (.p2 .add (.p2 .add (.var 8) (.lit (.int 2))) (.call 4 (.cons (.var 0) (.cons (.lit (.int 6)) .nil))))) .nil)))) (.cons (.app 3 (.p1 .tup1 (.brw 5))) .nil))))) (.cons (.ret (.p1 .tup1 (.brw 3))) .nil))), false⟩
def d_law : Def := ⟨["script"], ["script", "box", "n", "council", "late", "times", "moment", "length", "due", "begin", "told", "again", "quorum", "fine", "member", "pair"],
  (.cons (.set 1 (.call 2 (.cons (.var 0) .nil))) (.cons (.set 2 (.p2 .add (.lit (.int 1)) (.call 4 (.cons (.var 1) (.cons (.lit (.int 5)) .nil))))) (.cons (.set 3 (.call 8 (.cons (.var 1) (.cons (.var 2) (.cons (.p2 .eq (.call 4 (.cons (.var 1) (.cons (.lit (.int 2)) .nil))) (.lit (.int 0))) .nil))))) (.cons (.set 4 (.ite (.p2 .eq (.call 4 (.cons (.var 1) (.cons (.lit (.int 4)) .nil))) (.lit (.int 0))) (.lit (.int 9960)) (.lit (.int 0)))) (.cons (.set 5 (.call 11 (.cons (.var 1) (.cons (.var 2) (.cons (.var 4) .nil))))) (.cons (.set 6 (.p2 .add (.var 4) (.call 4 (.cons (.var 1) (.cons (.lit (.int 40)) .nil))))) (.cons (.set 7 (.p2 .ix (.lst (.cons (.lit (.int 0)) (.cons (.call 4 (.cons (.var 1) (.cons (.lit (.int 8)) .nil))) (.cons (.call 4 (.cons (.var 1) (.cons (.lit (.int 30)) .nil))) .nil)))) (.call 4 (.cons (.var 1) (.cons (.lit (.int 3)) .nil))))) (.cons (.set 8 (.lit .none)) (.cons (.for (.one 9) (.rng2 (.var 6) (.p2 .add (.p2 .min2 (.p2 .add (.var 6) (.lit (.int 120))) (.p2 .sub (.lit (.int 10000)) (.var 7))) (.lit (.int 1)))) (.cons (.for (.one 12) (.seq (.var 3)) (.cons (.set 13 (.comp false (.one 14) (.seq (.var 12)) (.lit (.bool true)) (.p1 .any (.comp false (.one 15) (.seq (.p2 .ix (.var 5) (.var 14))) (.lit (.bool true)) (.and (.p2 .le (.p2 .ix (.var 15) (.lit (.int 0))) (.var 9)) (.p2 .le (.p2 .add (.var 9) (.var 7)) (.p2 .ix (.var 15) (.lit (.int 1))))))))) (.cons (.ifs (.and (.p2 .is (.var 8) (.lit .none)) (.p1 .all (.brw 13))) (.cons (.set 8 (.tup (.cons (.var 9) (.cons (.var 12) .nil)))) .nil) .nil) .nil))) .nil)) (.cons (.set 10 (.call 1 (.cons (.var 3) (.cons (.var 5) (.cons (.var 6) (.cons (.var 7) .nil)))))) (.cons (.ifs (.not (.call 5 (.cons (.var 10) (.cons (.var 8) .nil)))) (.cons (.ret (.lit (.bool false))) .nil) .nil) (.cons (.ifs (.p2 .is (.var 10) (.lit .none)) (.cons (.ret (.lit (.bool true))) .nil) .nil) (.cons (.set 11 (.call 1 (.cons (.var 3) (.cons (.var 5) (.cons (.p2 .ix (.var 10) (.lit (.int 0))) (.cons (.var 7) .nil)))))) (.cons (.ret (.and (.call 5 (.cons (.var 11) (.cons (.var 10) .nil))) (.and (.p2 .eq (.call 1 (.cons (.tup (.cons (.tup .nil) .nil)) (.cons (.var 5) (.cons (.lit (.int 10000)) (.cons (.lit (.int 0)) .nil))))) (.tup (.cons (.lit (.int 10000)) (.cons (.tup .nil) .nil)))) (.p2 .is (.call 1 (.cons (.var 3) (.cons (.var 5) (.cons (.lit (.int 10000)) (.cons (.lit (.int 1)) .nil))))) (.lit .none))))) .nil)))))))))))))), false⟩
def pgm : Pg := ⟨[("is_in", d_is_in), ("first_ceremony", d_first_ceremony), ("_law_box", d__law_box), ("_law_load", d__law_load), ("_law_draw", d__law_draw), ("_law_same", d__law_same), ("_law_all", d__law_all), ("_law_least", d__law_least), ("_law_council", d__law_council), ("_law_decides", d__law_decides), ("_law_blocks", d__law_blocks), ("_law_times", d__law_times), ("law", d_law)],
  [("MAX_TIME", (.int 10000))]⟩
def stm (i : Nat) : Stmt := PySem.Challenge.pw_neverdark_k53_ceremonies.main.body.getD (([2, 3, 5, 6, 7, 8, 9, 10, 11, 12, 13, 14, 15] : List Nat).getD i 0) (.Pass ⟨0, 0, 0, 0⟩)
theorem chk_is_in : chkD pgm d_is_in (stm 0) = true := by decide +kernel
theorem bnd_is_in : BindsAs "is_in" (stm 0) d_is_in.ps := fun _ _ _ _ _ _ us hl => match us, hl with | [_, _, _], _ => rfl
theorem chk_first_ceremony : chkD pgm d_first_ceremony (stm 1) = true := by decide +kernel
theorem bnd_first_ceremony : BindsAs "first_ceremony" (stm 1) d_first_ceremony.ps := fun _ _ _ _ _ _ us hl => match us, hl with | [_, _, _, _], _ => rfl
theorem chk__law_box : chkD pgm d__law_box (stm 2) = true := by decide +kernel
theorem bnd__law_box : BindsAs "_law_box" (stm 2) d__law_box.ps := fun _ _ _ _ _ _ us hl => match us, hl with | [_], _ => rfl
theorem chk__law_load : chkD pgm d__law_load (stm 3) = true := by decide +kernel
theorem bnd__law_load : BindsAs "_law_load" (stm 3) d__law_load.ps := fun _ _ _ _ _ _ us hl => match us, hl with | [_], _ => rfl
theorem chk__law_draw : chkD pgm d__law_draw (stm 4) = true := by decide +kernel
theorem bnd__law_draw : BindsAs "_law_draw" (stm 4) d__law_draw.ps := fun _ _ _ _ _ _ us hl => match us, hl with | [_, _], _ => rfl
theorem chk__law_same : chkD pgm d__law_same (stm 5) = true := by decide +kernel
theorem bnd__law_same : BindsAs "_law_same" (stm 5) d__law_same.ps := fun _ _ _ _ _ _ us hl => match us, hl with | [_, _], _ => rfl
theorem chk__law_all : chkD pgm d__law_all (stm 6) = true := by decide +kernel
theorem bnd__law_all : BindsAs "_law_all" (stm 6) d__law_all.ps := fun _ _ _ _ _ _ us hl => match us, hl with | [_], _ => rfl
theorem chk__law_least : chkD pgm d__law_least (stm 7) = true := by decide +kernel
theorem bnd__law_least : BindsAs "_law_least" (stm 7) d__law_least.ps := fun _ _ _ _ _ _ us hl => match us, hl with | [_], _ => rfl
theorem chk__law_council : chkD pgm d__law_council (stm 8) = true := by decide +kernel
theorem bnd__law_council : BindsAs "_law_council" (stm 8) d__law_council.ps := fun _ _ _ _ _ _ us hl => match us, hl with | [_, _, _], _ => rfl
theorem chk__law_decides : chkD pgm d__law_decides (stm 9) = true := by decide +kernel
theorem bnd__law_decides : BindsAs "_law_decides" (stm 9) d__law_decides.ps := fun _ _ _ _ _ _ us hl => match us, hl with | [_, _], _ => rfl
theorem chk__law_blocks : chkD pgm d__law_blocks (stm 10) = true := by decide +kernel
theorem bnd__law_blocks : BindsAs "_law_blocks" (stm 10) d__law_blocks.ps := fun _ _ _ _ _ _ us hl => match us, hl with | [_, _], _ => rfl
theorem chk__law_times : chkD pgm d__law_times (stm 11) = true := by decide +kernel
theorem bnd__law_times : BindsAs "_law_times" (stm 11) d__law_times.ps := fun _ _ _ _ _ _ us hl => match us, hl with | [_, _, _], _ => rfl
theorem chk_law : chkD pgm d_law (stm 12) = true := by decide +kernel
theorem bnd_law : BindsAs "law" (stm 12) d_law.ps := fun _ _ _ _ _ _ us hl => match us, hl with | [_], _ => rfl
end K53

/-! K53b: the box of a script: loads and draws. -/
namespace K53
open PySem Ev
def mkW (cells : List Int) (b1 b2 : Int) : W := [.lst (cells.map .int), .lst [rf 0, .int b1, .int b2]]
theorem box_val (k : Nat) (ns : List Int) : (fnS pgm (k + 1)).val 2 [.list (ns.map .int)] [] = (rf 1, mkW (ns.take 63) 0 (4711 + ns.length)) := by
  show runD (fnS pgm k) d__law_box [.list (ns.map .int)] [] = _
  have e0 : HT.sIx ns.length 0 none = 0 := by simp [HT.sIx]
  simp [xb, xs, ev, evs, evSrc, wd, wds, wdSrc, wdB, wdS, andThen, sq, sqP, Def.start, isVal, isBound, v1, v2, w2, toI, its, lenD, itsW, rfN, wlst, d1, d2, isInt, isBool, isSeq, mk, Ex.fresh, P1.fresh, P2.fresh, ixD, L2.atI, L2.ixN, addD, mulD, ltD, leD, tr, PySem.W.dataLt_int, setAtN, L2.CMul, L2.CDiv, rd, setV, Pat.bind, Pat.ok, isD, refD_rf, isStr_rf, isOwn, ownL, setO, frzE, runD, d__law_box, slcD, cutD, mkW, e0]
  simp [HT.sIx]
theorem box_wd (k : Nat) (ns : List Int) : (fnS pgm (k + 1)).wd 2 [.list (ns.map .int)] [] := by
  show [PyData.list (ns.map .int)].length = 1 ∧ wdB (fnS pgm k) d__law_box.body (d__law_box.start [.list (ns.map .int)]) []
  refine ⟨rfl, ?_⟩
  simp [xb, xs, ev, evs, evSrc, wd, wds, wdSrc, wdB, wdS, andThen, sq, sqP, Def.start, isVal, isBound, v1, v2, w2, toI, its, lenD, itsW, rfN, wlst, d1, d2, isInt, isBool, isSeq, mk, Ex.fresh, P1.fresh, P2.fresh, ixD, L2.atI, L2.ixN, addD, mulD, ltD, leD, tr, PySem.W.dataLt_int, setAtN, L2.CMul, L2.CDiv, rd, setV, Pat.bind, Pat.ok, isD, refD_rf, isStr_rf, isOwn, ownL, setO, frzE, d__law_box, slcD, cutD, slcOk, isStr]
/-- a box -/
def Good (b1 b2 : Int) : Prop := 0 ≤ b1 ∧ 0 ≤ b2 ∧ b2 < 2147483648
def lg1 (b : Int) : Int := (b * 48271 + 17) % 2147483629
def lg2 (b : Int) : Int := (lg1 b * 69621 + 5) % 2147483587
def lg3 (b : Int) : Int := (lg2 b * 40692 + 3) % 2147483563
def lgs (b : Int) : Int := lg1 b * 4611686014132420609 + lg2 b * 2147483647 + lg3 b
theorem lg_ok (b : Int) : 0 ≤ lgs b ∧ 0 ≤ lg3 b ∧ lg3 b < 2147483648 := by
  simp only [lgs, lg3, lg2, lg1]
  omega
def sizeI (c : Int) : Int := if 0 ≤ c then 2 * c else -2 * c - 1
theorem load_ok (S : Sm) (cells : List Int) (b1 b2 : Int) (h : Good b1 b2) : wdB S d__law_load.body (d__law_load.start [rf 1]) (mkW cells b1 b2) ∧ ∃ s cells' b2', runD S d__law_load [rf 1] (mkW cells b1 b2) = (.int s, mkW cells' b1 b2') ∧ 0 ≤ s ∧ 0 ≤ b2' ∧ b2' < 2147483648 := by
  obtain ⟨h1, h2, h3⟩ := h
  cases cells with
  | nil =>
    constructor
    · simp [xb, xs, ev, evs, evSrc, wd, wds, wdSrc, wdB, wdS, andThen, sq, sqP, Def.start, isVal, isBound, v1, v2, w2, toI, its, lenD, itsW, rfN, wlst, d1, d2, isInt, isBool, isSeq, mk, Ex.fresh, P1.fresh, P2.fresh, ixD, L2.atI, L2.ixN, addD, mulD, ltD, leD, tr, PySem.W.dataLt_int, setAtN, L2.CMul, L2.CDiv, rd, setV, Pat.bind, Pat.ok, isD, refD_rf, isStr_rf, isOwn, ownL, setO, frzE, d__law_load, mkW]
    · refine ⟨lgs b2, [], lg3 b2, ?_, lg_ok b2⟩
      simp [xb, xs, ev, evs, evSrc, wd, wds, wdSrc, wdB, wdS, andThen, sq, sqP, Def.start, isVal, isBound, v1, v2, w2, toI, its, lenD, itsW, rfN, wlst, d1, d2, isInt, isBool, isSeq, mk, Ex.fresh, P1.fresh, P2.fresh, ixD, L2.atI, L2.ixN, addD, mulD, ltD, leD, tr, PySem.W.dataLt_int, setAtN, L2.CMul, L2.CDiv, rd, setV, Pat.bind, Pat.ok, isD, refD_rf, isStr_rf, isOwn, ownL, setO, frzE, runD, d__law_load, mkW, lgs, lg1, lg2, lg3]
  | cons c cs =>
    by_cases hc : 0 ≤ c
    · by_cases hb : 1000000000000000000 ≤ 2 * c
      · constructor
        · simp [xb, xs, ev, evs, evSrc, wd, wds, wdSrc, wdB, wdS, andThen, sq, sqP, Def.start, isVal, isBound, v1, v2, w2, toI, its, lenD, itsW, rfN, wlst, d1, d2, isInt, isBool, isSeq, mk, Ex.fresh, P1.fresh, P2.fresh, ixD, L2.atI, L2.ixN, addD, mulD, ltD, leD, tr, PySem.W.dataLt_int, setAtN, L2.CMul, L2.CDiv, rd, setV, Pat.bind, Pat.ok, isD, refD_rf, isStr_rf, isOwn, ownL, setO, frzE, d__law_load, mkW, hc, hb]
          try omega
        · refine ⟨(2 * c), cs, b2, ?_, ?_, ?_, ?_⟩
          · simp [xb, xs, ev, evs, evSrc, wd, wds, wdSrc, wdB, wdS, andThen, sq, sqP, Def.start, isVal, isBound, v1, v2, w2, toI, its, lenD, itsW, rfN, wlst, d1, d2, isInt, isBool, isSeq, mk, Ex.fresh, P1.fresh, P2.fresh, ixD, L2.atI, L2.ixN, addD, mulD, ltD, leD, tr, PySem.W.dataLt_int, setAtN, L2.CMul, L2.CDiv, rd, setV, Pat.bind, Pat.ok, isD, refD_rf, isStr_rf, isOwn, ownL, setO, frzE, runD, d__law_load, mkW, hc, hb]
          all_goals omega
      · constructor
        · simp [xb, xs, ev, evs, evSrc, wd, wds, wdSrc, wdB, wdS, andThen, sq, sqP, Def.start, isVal, isBound, v1, v2, w2, toI, its, lenD, itsW, rfN, wlst, d1, d2, isInt, isBool, isSeq, mk, Ex.fresh, P1.fresh, P2.fresh, ixD, L2.atI, L2.ixN, addD, mulD, ltD, leD, tr, PySem.W.dataLt_int, setAtN, L2.CMul, L2.CDiv, rd, setV, Pat.bind, Pat.ok, isD, refD_rf, isStr_rf, isOwn, ownL, setO, frzE, d__law_load, mkW, hc, hb]
          try omega
        · refine ⟨lgs ((b2 * 69621 + (2 * c) * 48271 + 11) % 2147483647), cs, lg3 ((b2 * 69621 + (2 * c) * 48271 + 11) % 2147483647), ?_, lg_ok _⟩
          simp [xb, xs, ev, evs, evSrc, wd, wds, wdSrc, wdB, wdS, andThen, sq, sqP, Def.start, isVal, isBound, v1, v2, w2, toI, its, lenD, itsW, rfN, wlst, d1, d2, isInt, isBool, isSeq, mk, Ex.fresh, P1.fresh, P2.fresh, ixD, L2.atI, L2.ixN, addD, mulD, ltD, leD, tr, PySem.W.dataLt_int, setAtN, L2.CMul, L2.CDiv, rd, setV, Pat.bind, Pat.ok, isD, refD_rf, isStr_rf, isOwn, ownL, setO, frzE, runD, d__law_load, mkW, hc, hb, lgs, lg1, lg2, lg3]
    · by_cases hb : 1000000000000000000 ≤ -2 * c - 1
      · constructor
        · simp [xb, xs, ev, evs, evSrc, wd, wds, wdSrc, wdB, wdS, andThen, sq, sqP, Def.start, isVal, isBound, v1, v2, w2, toI, its, lenD, itsW, rfN, wlst, d1, d2, isInt, isBool, isSeq, mk, Ex.fresh, P1.fresh, P2.fresh, ixD, L2.atI, L2.ixN, addD, mulD, ltD, leD, tr, PySem.W.dataLt_int, setAtN, L2.CMul, L2.CDiv, rd, setV, Pat.bind, Pat.ok, isD, refD_rf, isStr_rf, isOwn, ownL, setO, frzE, d__law_load, mkW, hc, hb]
          try omega
        · refine ⟨(-2 * c - 1), cs, b2, ?_, ?_, ?_, ?_⟩
          · simp [xb, xs, ev, evs, evSrc, wd, wds, wdSrc, wdB, wdS, andThen, sq, sqP, Def.start, isVal, isBound, v1, v2, w2, toI, its, lenD, itsW, rfN, wlst, d1, d2, isInt, isBool, isSeq, mk, Ex.fresh, P1.fresh, P2.fresh, ixD, L2.atI, L2.ixN, addD, mulD, ltD, leD, tr, PySem.W.dataLt_int, setAtN, L2.CMul, L2.CDiv, rd, setV, Pat.bind, Pat.ok, isD, refD_rf, isStr_rf, isOwn, ownL, setO, frzE, runD, d__law_load, mkW, hc, hb]
          all_goals omega
      · constructor
        · simp [xb, xs, ev, evs, evSrc, wd, wds, wdSrc, wdB, wdS, andThen, sq, sqP, Def.start, isVal, isBound, v1, v2, w2, toI, its, lenD, itsW, rfN, wlst, d1, d2, isInt, isBool, isSeq, mk, Ex.fresh, P1.fresh, P2.fresh, ixD, L2.atI, L2.ixN, addD, mulD, ltD, leD, tr, PySem.W.dataLt_int, setAtN, L2.CMul, L2.CDiv, rd, setV, Pat.bind, Pat.ok, isD, refD_rf, isStr_rf, isOwn, ownL, setO, frzE, d__law_load, mkW, hc, hb]
          try omega
        · refine ⟨lgs ((b2 * 69621 + (-2 * c - 1) * 48271 + 11) % 2147483647), cs, lg3 ((b2 * 69621 + (-2 * c - 1) * 48271 + 11) % 2147483647), ?_, lg_ok _⟩
          simp [xb, xs, ev, evs, evSrc, wd, wds, wdSrc, wdB, wdS, andThen, sq, sqP, Def.start, isVal, isBound, v1, v2, w2, toI, its, lenD, itsW, rfN, wlst, d1, d2, isInt, isBool, isSeq, mk, Ex.fresh, P1.fresh, P2.fresh, ixD, L2.atI, L2.ixN, addD, mulD, ltD, leD, tr, PySem.W.dataLt_int, setAtN, L2.CMul, L2.CDiv, rd, setV, Pat.bind, Pat.ok, isD, refD_rf, isStr_rf, isOwn, ownL, setO, frzE, runD, d__law_load, mkW, hc, hb, lgs, lg1, lg2, lg3]
end K53

/-! K53c: draws. -/
namespace K53
open PySem Ev
def Box (w : W) : Prop := ∃ cells b1 b2, w = mkW cells b1 b2 ∧ Good b1 b2
def LoadS (S : Sm) : Prop := ∀ cells b1 b2, Good b1 b2 → S.wd 3 [rf 1] (mkW cells b1 b2) ∧ ∃ s cells' b2', S.val 3 [rf 1] (mkW cells b1 b2) = (.int s, mkW cells' b1 b2') ∧ 0 ≤ s ∧ 0 ≤ b2' ∧ b2' < 2147483648
theorem loadS (k : Nat) : LoadS (fnS pgm (k + 1)) := fun cells b1 b2 h =>
  have h' := load_ok (fnS pgm k) cells b1 b2 h
  ⟨⟨rfl, h'.1⟩, h'.2⟩
def Digit (many : Int) (d : D) (w : W) : Prop := ∃ i, d = .int i ∧ 0 ≤ i ∧ i < many ∧ Box w
theorem draw_ok (S : Sm) (hS : LoadS S) (w : W) (hw : Box w) (many : Int) (h1 : 0 < many) (h2 : many < 1073741824) :
    wdB S d__law_draw.body (d__law_draw.start [rf 1, .int many]) w ∧ ∃ d w', runD S d__law_draw [rf 1, .int many] w = (d, w') ∧ Digit many d w' := by
  obtain ⟨cells, b1, b2, rfl, hg⟩ := hw
  by_cases hb : b1 < many
  · obtain ⟨g, s, cells', b2', e, e1, e2, e3⟩ := hS cells b1 b2 hg
    simp only [mkW] at g e
    constructor
    · simp [xb, xs, ev, evs, evSrc, wd, wds, wdSrc, wdB, wdS, ↓andThen, sq, sqP, Def.start, isVal, isBound, v1, v2, w2, toI, its_tup, its_lst, wlst, d1, d2, isInt_int, isInt_bool, isInt_none, isInt_str, isInt_lst, isInt_tup, isBool_bool, isBool_int, isBool_none, isBool_str, isBool_lst, isBool_tup, isSeq_tup, isSeq_lst, mk, Ex.fresh, P1.fresh, P2.fresh, ixD_tup, ixD_list, ixD_rf, itsW_tuple, itsW_list, itsW_rf, rfN_rf, lenD_tup, lenD_list, lenD_rf, ite_pairW, ite_boolD, ite_intD, boolsD_map, intsD_map2, intsD_map3, boolsD_map3, boolsD_nil, intsD_nil, Function.comp_def, List.filter_map, L2.atI, L2.ixN, addD_int, addD_str, addD_tup, addD_lst, mulD, ltD, leD, tr, PySem.W.dataLt_int, setAtN, L2.CMul, L2.CDiv, rd, setV, Pat.bind, Pat.ok, isD, refD_rf, isStr_rf, isStr_int, isStr_bool, isStr_none, isStr_str, isStr_lst, isStr_tup, isOwn, ownL, setO, frzE, List.forall_mem_map, -List.mem_map, ltOk_int, plainD_int, plainD_none, plainD_bool, eqv_int, cmpOk, filt_true, BK_set, BK_setT, BK_aug, BK_ext, BK_app, BK_six, BK_expr, BK_ret, BK_retN, BK_brk, BK_cnt, BK_pass, BK_frz, BK_ifs, BK_nil, Kont_nx, Kont_rt, Kont_bk, Kont_ct, RQ_rt, RQ_nx, d__law_draw, mkW, hb, g, e, h1, h2]
    · refine ⟨.int (s % many), mkW cells' (s / many) b2', ?_, s % many, rfl, Int.emod_nonneg _ (by omega), Int.emod_lt_of_pos _ h1, cells', _, _, rfl, Int.ediv_nonneg e1 (by omega), e2, e3⟩
      simp [xb, xs, ev, evs, evSrc, wd, wds, wdSrc, wdB, wdS, ↓andThen, sq, sqP, Def.start, isVal, isBound, v1, v2, w2, toI, its_tup, its_lst, wlst, d1, d2, isInt_int, isInt_bool, isInt_none, isInt_str, isInt_lst, isInt_tup, isBool_bool, isBool_int, isBool_none, isBool_str, isBool_lst, isBool_tup, isSeq_tup, isSeq_lst, mk, Ex.fresh, P1.fresh, P2.fresh, ixD_tup, ixD_list, ixD_rf, itsW_tuple, itsW_list, itsW_rf, rfN_rf, lenD_tup, lenD_list, lenD_rf, ite_pairW, ite_boolD, ite_intD, boolsD_map, intsD_map2, intsD_map3, boolsD_map3, boolsD_nil, intsD_nil, Function.comp_def, List.filter_map, L2.atI, L2.ixN, addD_int, addD_str, addD_tup, addD_lst, mulD, ltD, leD, tr, PySem.W.dataLt_int, setAtN, L2.CMul, L2.CDiv, rd, setV, Pat.bind, Pat.ok, isD, refD_rf, isStr_rf, isStr_int, isStr_bool, isStr_none, isStr_str, isStr_lst, isStr_tup, isOwn, ownL, setO, frzE, List.forall_mem_map, -List.mem_map, ltOk_int, plainD_int, plainD_none, plainD_bool, eqv_int, cmpOk, filt_true, BK_set, BK_setT, BK_aug, BK_ext, BK_app, BK_six, BK_expr, BK_ret, BK_retN, BK_brk, BK_cnt, BK_pass, BK_frz, BK_ifs, BK_nil, Kont_nx, Kont_rt, Kont_bk, Kont_ct, RQ_rt, RQ_nx, runD, d__law_draw, mkW, hb, g, e, h1, h2]
  · constructor
    · simp [xb, xs, ev, evs, evSrc, wd, wds, wdSrc, wdB, wdS, ↓andThen, sq, sqP, Def.start, isVal, isBound, v1, v2, w2, toI, its_tup, its_lst, wlst, d1, d2, isInt_int, isInt_bool, isInt_none, isInt_str, isInt_lst, isInt_tup, isBool_bool, isBool_int, isBool_none, isBool_str, isBool_lst, isBool_tup, isSeq_tup, isSeq_lst, mk, Ex.fresh, P1.fresh, P2.fresh, ixD_tup, ixD_list, ixD_rf, itsW_tuple, itsW_list, itsW_rf, rfN_rf, lenD_tup, lenD_list, lenD_rf, ite_pairW, ite_boolD, ite_intD, boolsD_map, intsD_map2, intsD_map3, boolsD_map3, boolsD_nil, intsD_nil, Function.comp_def, List.filter_map, L2.atI, L2.ixN, addD_int, addD_str, addD_tup, addD_lst, mulD, ltD, leD, tr, PySem.W.dataLt_int, setAtN, L2.CMul, L2.CDiv, rd, setV, Pat.bind, Pat.ok, isD, refD_rf, isStr_rf, isStr_int, isStr_bool, isStr_none, isStr_str, isStr_lst, isStr_tup, isOwn, ownL, setO, frzE, List.forall_mem_map, -List.mem_map, ltOk_int, plainD_int, plainD_none, plainD_bool, eqv_int, cmpOk, filt_true, BK_set, BK_setT, BK_aug, BK_ext, BK_app, BK_six, BK_expr, BK_ret, BK_retN, BK_brk, BK_cnt, BK_pass, BK_frz, BK_ifs, BK_nil, Kont_nx, Kont_rt, Kont_bk, Kont_ct, RQ_rt, RQ_nx, d__law_draw, mkW, hb, h1, h2]
    · refine ⟨.int (b1 % many), mkW cells (b1 / many) b2, ?_, b1 % many, rfl, Int.emod_nonneg _ (by omega), Int.emod_lt_of_pos _ h1, cells, _, _, rfl, Int.ediv_nonneg hg.1 (by omega), hg.2⟩
      simp [xb, xs, ev, evs, evSrc, wd, wds, wdSrc, wdB, wdS, ↓andThen, sq, sqP, Def.start, isVal, isBound, v1, v2, w2, toI, its_tup, its_lst, wlst, d1, d2, isInt_int, isInt_bool, isInt_none, isInt_str, isInt_lst, isInt_tup, isBool_bool, isBool_int, isBool_none, isBool_str, isBool_lst, isBool_tup, isSeq_tup, isSeq_lst, mk, Ex.fresh, P1.fresh, P2.fresh, ixD_tup, ixD_list, ixD_rf, itsW_tuple, itsW_list, itsW_rf, rfN_rf, lenD_tup, lenD_list, lenD_rf, ite_pairW, ite_boolD, ite_intD, boolsD_map, intsD_map2, intsD_map3, boolsD_map3, boolsD_nil, intsD_nil, Function.comp_def, List.filter_map, L2.atI, L2.ixN, addD_int, addD_str, addD_tup, addD_lst, mulD, ltD, leD, tr, PySem.W.dataLt_int, setAtN, L2.CMul, L2.CDiv, rd, setV, Pat.bind, Pat.ok, isD, refD_rf, isStr_rf, isStr_int, isStr_bool, isStr_none, isStr_str, isStr_lst, isStr_tup, isOwn, ownL, setO, frzE, List.forall_mem_map, -List.mem_map, ltOk_int, plainD_int, plainD_none, plainD_bool, eqv_int, cmpOk, filt_true, BK_set, BK_setT, BK_aug, BK_ext, BK_app, BK_six, BK_expr, BK_ret, BK_retN, BK_brk, BK_cnt, BK_pass, BK_frz, BK_ifs, BK_nil, Kont_nx, Kont_rt, Kont_bk, Kont_ct, RQ_rt, RQ_nx, runD, d__law_draw, mkW, hb, h1, h2]
def DrawS (S : Sm) : Prop := ∀ w, Box w → ∀ many : Int, 0 < many → many < 1073741824 → Does S 4 [rf 1, .int many] w (Digit many)
theorem drawS (k : Nat) : DrawS (fnS pgm (k + 2)) := fun w hw many h1 h2 => by
  obtain ⟨h, d, w', e, q⟩ := draw_ok (fnS pgm (k + 1)) (loadS k) w hw many h1 h2
  refine ⟨⟨rfl, h⟩, ?_⟩
  show Digit many (runD (fnS pgm (k + 1)) d__law_draw [rf 1, .int many] w).1 (runD (fnS pgm (k + 1)) d__law_draw [rf 1, .int many] w).2
  rw [e]
  exact q
end K53

/-! K53d: is_in. -/
namespace K53
open PySem Ev
abbrev P2 := Int × Int
def encP (p : Int × Int) : D := .tuple [.int p.1, .int p.2]
def encR (ps : List (Int × Int)) : D := .tuple (ps.map encP)
def encT (ts : List (List (Int × Int))) : D := .tuple (ts.map encR)
def encG (g : List Int) : D := .tuple (g.map .int)
def encC (c : List (List Int)) : D := .tuple (c.map encG)
def inR (ps : List (Int × Int)) (b e : Int) : Bool := ps.any fun p => decide (p.1 ≤ b) && decide (e ≤ p.2)
theorem isin_ok (S : Sm) (ps : List (Int × Int)) (b e : Int) (w : W) :
    wdB S d_is_in.body (d_is_in.start [encR ps, .int b, .int e]) w ∧ runD S d_is_in [encR ps, .int b, .int e] w = (.bool (inR ps b e), w) := by
  constructor
  · simp [xb, xs, ev, evs, evSrc, wd, wds, wdSrc, wdB, wdS, ↓andThen, sq, sqP, Def.start, isVal, isBound, v1, v2, w2, toI, its_tup, its_lst, wlst, d1, d2, isInt_int, isInt_bool, isInt_none, isInt_str, isInt_lst, isInt_tup, isBool_bool, isBool_int, isBool_none, isBool_str, isBool_lst, isBool_tup, isSeq_tup, isSeq_lst, mk, Ex.fresh, P1.fresh, P2.fresh, ixD_tup, ixD_list, ixD_rf, itsW_tuple, itsW_list, itsW_rf, rfN_rf, lenD_tup, lenD_list, lenD_rf, ite_pairW, ite_boolD, ite_intD, boolsD_map, intsD_map2, intsD_map3, boolsD_map3, boolsD_nil, intsD_nil, Function.comp_def, List.filter_map, L2.atI, L2.ixN, addD_int, addD_str, addD_tup, addD_lst, mulD, ltD, leD, tr, PySem.W.dataLt_int, setAtN, L2.CMul, L2.CDiv, rd, setV, Pat.bind, Pat.ok, isD, refD_rf, isStr_rf, isStr_int, isStr_bool, isStr_none, isStr_str, isStr_lst, isStr_tup, isOwn, ownL, setO, frzE, List.forall_mem_map, -List.mem_map, ltOk_int, plainD_int, plainD_none, plainD_bool, eqv_int, cmpOk, filt_true, BK_set, BK_setT, BK_aug, BK_ext, BK_app, BK_six, BK_expr, BK_ret, BK_retN, BK_brk, BK_cnt, BK_pass, BK_frz, BK_ifs, BK_nil, Kont_nx, Kont_rt, Kont_bk, Kont_ct, RQ_rt, RQ_nx, d_is_in, encR, encP]
  · simp [xb, xs, ev, evs, evSrc, wd, wds, wdSrc, wdB, wdS, ↓andThen, sq, sqP, Def.start, isVal, isBound, v1, v2, w2, toI, its_tup, its_lst, wlst, d1, d2, isInt_int, isInt_bool, isInt_none, isInt_str, isInt_lst, isInt_tup, isBool_bool, isBool_int, isBool_none, isBool_str, isBool_lst, isBool_tup, isSeq_tup, isSeq_lst, mk, Ex.fresh, P1.fresh, P2.fresh, ixD_tup, ixD_list, ixD_rf, itsW_tuple, itsW_list, itsW_rf, rfN_rf, lenD_tup, lenD_list, lenD_rf, ite_pairW, ite_boolD, ite_intD, boolsD_map, intsD_map2, intsD_map3, boolsD_map3, boolsD_nil, intsD_nil, Function.comp_def, List.filter_map, L2.atI, L2.ixN, addD_int, addD_str, addD_tup, addD_lst, mulD, ltD, leD, tr, PySem.W.dataLt_int, setAtN, L2.CMul, L2.CDiv, rd, setV, Pat.bind, Pat.ok, isD, refD_rf, isStr_rf, isStr_int, isStr_bool, isStr_none, isStr_str, isStr_lst, isStr_tup, isOwn, ownL, setO, frzE, List.forall_mem_map, -List.mem_map, ltOk_int, plainD_int, plainD_none, plainD_bool, eqv_int, cmpOk, filt_true, BK_set, BK_setT, BK_aug, BK_ext, BK_app, BK_six, BK_expr, BK_ret, BK_retN, BK_brk, BK_cnt, BK_pass, BK_frz, BK_ifs, BK_nil, Kont_nx, Kont_rt, Kont_bk, Kont_ct, RQ_rt, RQ_nx, runD, d_is_in, encR, encP, inR]
    congr 1
    funext p
    rw [Bool.eq_iff_iff]
    by_cases h : p.1 ≤ b <;> by_cases h2 : e ≤ p.2 <;> simp [h, h2] <;> omega
end K53

/-! K53e: first_ceremony. -/
namespace K53
open PySem Ev
/-- groups of members of a town of n -/
def encF {n : Nat} (g : List (Fin n)) : D := .tuple (g.map fun k => .int (k.1 : Int))
def encCF {n : Nat} (c : List (List (Fin n))) : D := .tuple (c.map encF)
def encTF {n : Nat} (t : Fin n → List (Int × Int)) : D := .tuple ((List.finRange n).map fun k => encR (t k))
theorem atI_fin {n : Nat} {α : Type} (f : Fin n → α) (k : Fin n) : L2.atI ((List.finRange n).map f) (k.1 : Int) = some (f k) := by
  have h : L2.ixN n (k.1 : Int) = some k.1 := by
    simp [L2.ixN]
  simp [L2.atI, h]
theorem isinS (k : Nat) (ps : List (Int × Int)) (b e : Int) (w : W) : (fnS pgm (k + 1)).wd 0 [encR ps, .int b, .int e] w ∧ (fnS pgm (k + 1)).val 0 [encR ps, .int b, .int e] w = (.bool (inR ps b e), w) :=
  have h := isin_ok (fnS pgm k) ps b e w
  ⟨⟨rfl, h.1⟩, h.2⟩
variable {n : Nat} (C : List (List (Fin n))) (T : Fin n → List (Int × Int)) (m ℓ : Int)
def okQ (b : Int) (q : List (Fin n)) : Bool := q.all fun k => inR (T k) b (b + ℓ)
def starts : List Int := m :: ((List.finRange n).flatMap fun k => ((T k).filter fun p => decide (p.1 > m)).map (·.1))
def tryQ (b : Int) (q : List (Fin n)) : Option D := if okQ T ℓ b q = true then some (.tuple [.int b, encF q]) else none
def tryB (b : Int) : Option D := if b + ℓ ≤ 10000 then C.findSome? (tryQ T ℓ b) else none
def firstC : D := ((sI (starts T m)).findSome? (tryB C T ℓ)).getD .none
theorem first_body (k : Nat) (hn : (starts T m).length < 64) (w : W) :
    BK (fnS pgm (k + 1)) d_first_ceremony.body (d_first_ceremony.start [encCF C, encTF T, .int m, .int ℓ]) w (RQ fun d w' => d = firstC C T m ℓ ∧ w' = w) := by
  have hI := isinS k
  generalize fnS pgm (k + 1) = S at hI
  have hI1 := fun ps b e w => (hI ps b e w).1
  have hI2 := fun ps b e w => (hI ps b e w).2
  clear hI
  simp only [d_first_ceremony]
  simp [xb, xs, ev, evs, evSrc, wd, wds, wdSrc, wdB, wdS, ↓andThen, sq, sqP, Def.start, isVal, isBound, v1, v2, w2, toI, its_tup, its_lst, wlst, d1, d2, isInt_int, isInt_bool, isInt_none, isInt_str, isInt_lst, isInt_tup, isBool_bool, isBool_int, isBool_none, isBool_str, isBool_lst, isBool_tup, isSeq_tup, isSeq_lst, mk, Ex.fresh, P1.fresh, P2.fresh, ixD_tup, ixD_list, ixD_rf, itsW_tuple, itsW_list, itsW_rf, rfN_rf, lenD_tup, lenD_list, lenD_rf, ite_pairW, ite_boolD, ite_intD, boolsD_map, intsD_map2, intsD_map3, boolsD_map3, boolsD_nil, intsD_nil, Function.comp_def, List.filter_map, L2.atI, L2.ixN, addD_int, addD_str, addD_tup, addD_lst, mulD, ltD, leD, tr, PySem.W.dataLt_int, setAtN, L2.CMul, L2.CDiv, rd, setV, Pat.bind, Pat.ok, isD, refD_rf, isStr_rf, isStr_int, isStr_bool, isStr_none, isStr_str, isStr_lst, isStr_tup, isOwn, ownL, setO, frzE, List.forall_mem_map, -List.mem_map, ltOk_int, plainD_int, plainD_none, plainD_bool, eqv_int, cmpOk, filt_true, BK_set, BK_setT, BK_aug, BK_ext, BK_app, BK_six, BK_expr, BK_ret, BK_retN, BK_brk, BK_cnt, BK_pass, BK_frz, BK_ifs, BK_nil, Kont_nx, Kont_rt, Kont_bk, Kont_ct, RQ_rt, RQ_nx]
  refine bk_for (enc := fun k => encR (T k)) (l := List.finRange n) (w1 := w) ?_ ?_ (fun pr ρ' w' => ∃ b5 b8, w' = w ∧ ρ' = [.val (encCF C), .val (encTF T), .val (.int m), .val (.int ℓ), .own ((m :: (pr.flatMap fun k => ((T k).filter fun p => decide (p.1 > m)).map (·.1))).map .int), b5, .un, .un, b8, .un]) ?_ ?_ ?_
  · simp [xb, xs, ev, evs, evSrc, wd, wds, wdSrc, wdB, wdS, ↓andThen, sq, sqP, Def.start, isVal, isBound, v1, v2, w2, toI, its_tup, its_lst, wlst, d1, d2, isInt_int, isInt_bool, isInt_none, isInt_str, isInt_lst, isInt_tup, isBool_bool, isBool_int, isBool_none, isBool_str, isBool_lst, isBool_tup, isSeq_tup, isSeq_lst, mk, Ex.fresh, P1.fresh, P2.fresh, ixD_tup, ixD_list, ixD_rf, itsW_tuple, itsW_list, itsW_rf, rfN_rf, lenD_tup, lenD_list, lenD_rf, ite_pairW, ite_boolD, ite_intD, boolsD_map, intsD_map2, intsD_map3, boolsD_map3, boolsD_nil, intsD_nil, Function.comp_def, List.filter_map, L2.atI, L2.ixN, addD_int, addD_str, addD_tup, addD_lst, mulD, ltD, leD, tr, PySem.W.dataLt_int, setAtN, L2.CMul, L2.CDiv, rd, setV, Pat.bind, Pat.ok, isD, refD_rf, isStr_rf, isStr_int, isStr_bool, isStr_none, isStr_str, isStr_lst, isStr_tup, isOwn, ownL, setO, frzE, List.forall_mem_map, -List.mem_map, ltOk_int, plainD_int, plainD_none, plainD_bool, eqv_int, cmpOk, filt_true, BK_set, BK_setT, BK_aug, BK_ext, BK_app, BK_six, BK_expr, BK_ret, BK_retN, BK_brk, BK_cnt, BK_pass, BK_frz, BK_ifs, BK_nil, Kont_nx, Kont_rt, Kont_bk, Kont_ct, RQ_rt, RQ_nx, encTF]
  · simp [xb, xs, ev, evs, evSrc, wd, wds, wdSrc, wdB, wdS, ↓andThen, sq, sqP, Def.start, isVal, isBound, v1, v2, w2, toI, its_tup, its_lst, wlst, d1, d2, isInt_int, isInt_bool, isInt_none, isInt_str, isInt_lst, isInt_tup, isBool_bool, isBool_int, isBool_none, isBool_str, isBool_lst, isBool_tup, isSeq_tup, isSeq_lst, mk, Ex.fresh, P1.fresh, P2.fresh, ixD_tup, ixD_list, ixD_rf, itsW_tuple, itsW_list, itsW_rf, rfN_rf, lenD_tup, lenD_list, lenD_rf, ite_pairW, ite_boolD, ite_intD, boolsD_map, intsD_map2, intsD_map3, boolsD_map3, boolsD_nil, intsD_nil, Function.comp_def, List.filter_map, L2.atI, L2.ixN, addD_int, addD_str, addD_tup, addD_lst, mulD, ltD, leD, tr, PySem.W.dataLt_int, setAtN, L2.CMul, L2.CDiv, rd, setV, Pat.bind, Pat.ok, isD, refD_rf, isStr_rf, isStr_int, isStr_bool, isStr_none, isStr_str, isStr_lst, isStr_tup, isOwn, ownL, setO, frzE, List.forall_mem_map, -List.mem_map, ltOk_int, plainD_int, plainD_none, plainD_bool, eqv_int, cmpOk, filt_true, BK_set, BK_setT, BK_aug, BK_ext, BK_app, BK_six, BK_expr, BK_ret, BK_retN, BK_brk, BK_cnt, BK_pass, BK_frz, BK_ifs, BK_nil, Kont_nx, Kont_rt, Kont_bk, Kont_ct, RQ_rt, RQ_nx, encTF]
  · simp
  · rintro pr x post e ρ' w' ⟨b5, b8, rfl, rfl⟩
    simp [xb, xs, ev, evs, evSrc, wd, wds, wdSrc, wdB, wdS, ↓andThen, sq, sqP, Def.start, isVal, isBound, v1, v2, w2, toI, its_tup, its_lst, wlst, d1, d2, isInt_int, isInt_bool, isInt_none, isInt_str, isInt_lst, isInt_tup, isBool_bool, isBool_int, isBool_none, isBool_str, isBool_lst, isBool_tup, isSeq_tup, isSeq_lst, mk, Ex.fresh, P1.fresh, P2.fresh, ixD_tup, ixD_list, ixD_rf, itsW_tuple, itsW_list, itsW_rf, rfN_rf, lenD_tup, lenD_list, lenD_rf, ite_pairW, ite_boolD, ite_intD, boolsD_map, intsD_map2, intsD_map3, boolsD_map3, boolsD_nil, intsD_nil, Function.comp_def, List.filter_map, L2.atI, L2.ixN, addD_int, addD_str, addD_tup, addD_lst, mulD, ltD, leD, tr, PySem.W.dataLt_int, setAtN, L2.CMul, L2.CDiv, rd, setV, Pat.bind, Pat.ok, isD, refD_rf, isStr_rf, isStr_int, isStr_bool, isStr_none, isStr_str, isStr_lst, isStr_tup, isOwn, ownL, setO, frzE, List.forall_mem_map, -List.mem_map, ltOk_int, plainD_int, plainD_none, plainD_bool, eqv_int, cmpOk, filt_true, BK_set, BK_setT, BK_aug, BK_ext, BK_app, BK_six, BK_expr, BK_ret, BK_retN, BK_brk, BK_cnt, BK_pass, BK_frz, BK_ifs, BK_nil, Kont_nx, Kont_rt, Kont_bk, Kont_ct, RQ_rt, RQ_nx, encR, encP]
    have h := hn
    rw [starts, e] at h
    simp at h
    have := sizeLine_big
    omega
  · rintro ρ' w' ⟨b5, b8, rfl, rfl⟩
    change BK S _ [_, _, _, _, .own ((starts T m).map .int), _, _, _, _, _] w' _
    refine bk_find (enc := PyData.int) (l := sI (starts T m)) (w1 := w') ?_ ?_ (fun ρ2 wa => ∃ b6 b7 b9, wa = w' ∧ ρ2 = [.val (encCF C), .val (encTF T), .val (.int m), .val (.int ℓ), .own ((starts T m).map .int), b5, b6, b7, b8, b9]) (tryB C T ℓ) ?_ ?_ ?_ ?_
    · simp [xb, xs, ev, evs, evSrc, wd, wds, wdSrc, wdB, wdS, ↓andThen, sq, sqP, Def.start, isVal, isBound, v1, v2, w2, toI, its_tup, its_lst, wlst, d1, d2, isInt_int, isInt_bool, isInt_none, isInt_str, isInt_lst, isInt_tup, isBool_bool, isBool_int, isBool_none, isBool_str, isBool_lst, isBool_tup, isSeq_tup, isSeq_lst, mk, Ex.fresh, P1.fresh, P2.fresh, ixD_tup, ixD_list, ixD_rf, itsW_tuple, itsW_list, itsW_rf, rfN_rf, lenD_tup, lenD_list, lenD_rf, ite_pairW, ite_boolD, ite_intD, boolsD_map, intsD_map2, intsD_map3, boolsD_map3, boolsD_nil, intsD_nil, Function.comp_def, List.filter_map, L2.atI, L2.ixN, addD_int, addD_str, addD_tup, addD_lst, mulD, ltD, leD, tr, PySem.W.dataLt_int, setAtN, L2.CMul, L2.CDiv, rd, setV, Pat.bind, Pat.ok, isD, refD_rf, isStr_rf, isStr_int, isStr_bool, isStr_none, isStr_str, isStr_lst, isStr_tup, isOwn, ownL, setO, frzE, List.forall_mem_map, -List.mem_map, ltOk_int, plainD_int, plainD_none, plainD_bool, eqv_int, cmpOk, filt_true, BK_set, BK_setT, BK_aug, BK_ext, BK_app, BK_six, BK_expr, BK_ret, BK_retN, BK_brk, BK_cnt, BK_pass, BK_frz, BK_ifs, BK_nil, Kont_nx, Kont_rt, Kont_bk, Kont_ct, RQ_rt, RQ_nx, hn]
    · simp [xb, xs, ev, evs, evSrc, wd, wds, wdSrc, wdB, wdS, ↓andThen, sq, sqP, Def.start, isVal, isBound, v1, v2, w2, toI, its_tup, its_lst, wlst, d1, d2, isInt_int, isInt_bool, isInt_none, isInt_str, isInt_lst, isInt_tup, isBool_bool, isBool_int, isBool_none, isBool_str, isBool_lst, isBool_tup, isSeq_tup, isSeq_lst, mk, Ex.fresh, P1.fresh, P2.fresh, ixD_tup, ixD_list, ixD_rf, itsW_tuple, itsW_list, itsW_rf, rfN_rf, lenD_tup, lenD_list, lenD_rf, ite_pairW, ite_boolD, ite_intD, boolsD_map, intsD_map2, intsD_map3, boolsD_map3, boolsD_nil, intsD_nil, Function.comp_def, List.filter_map, L2.atI, L2.ixN, addD_int, addD_str, addD_tup, addD_lst, mulD, ltD, leD, tr, PySem.W.dataLt_int, setAtN, L2.CMul, L2.CDiv, rd, setV, Pat.bind, Pat.ok, isD, refD_rf, isStr_rf, isStr_int, isStr_bool, isStr_none, isStr_str, isStr_lst, isStr_tup, isOwn, ownL, setO, frzE, List.forall_mem_map, -List.mem_map, ltOk_int, plainD_int, plainD_none, plainD_bool, eqv_int, cmpOk, filt_true, BK_set, BK_setT, BK_aug, BK_ext, BK_app, BK_six, BK_expr, BK_ret, BK_retN, BK_brk, BK_cnt, BK_pass, BK_frz, BK_ifs, BK_nil, Kont_nx, Kont_rt, Kont_bk, Kont_ct, RQ_rt, RQ_nx, sI_eq]
    · exact ⟨_, _, _, rfl, rfl⟩
    · rintro b hb ρ2 wa ⟨b6, b7, b9, rfl, rfl⟩
      simp [xb, xs, ev, evs, evSrc, wd, wds, wdSrc, wdB, wdS, ↓andThen, sq, sqP, Def.start, isVal, isBound, v1, v2, w2, toI, its_tup, its_lst, wlst, d1, d2, isInt_int, isInt_bool, isInt_none, isInt_str, isInt_lst, isInt_tup, isBool_bool, isBool_int, isBool_none, isBool_str, isBool_lst, isBool_tup, isSeq_tup, isSeq_lst, mk, Ex.fresh, P1.fresh, P2.fresh, ixD_tup, ixD_list, ixD_rf, itsW_tuple, itsW_list, itsW_rf, rfN_rf, lenD_tup, lenD_list, lenD_rf, ite_pairW, ite_boolD, ite_intD, boolsD_map, intsD_map2, intsD_map3, boolsD_map3, boolsD_nil, intsD_nil, Function.comp_def, List.filter_map, L2.atI, L2.ixN, addD_int, addD_str, addD_tup, addD_lst, mulD, ltD, leD, tr, PySem.W.dataLt_int, setAtN, L2.CMul, L2.CDiv, rd, setV, Pat.bind, Pat.ok, isD, refD_rf, isStr_rf, isStr_int, isStr_bool, isStr_none, isStr_str, isStr_lst, isStr_tup, isOwn, ownL, setO, frzE, List.forall_mem_map, -List.mem_map, ltOk_int, plainD_int, plainD_none, plainD_bool, eqv_int, cmpOk, filt_true, BK_set, BK_setT, BK_aug, BK_ext, BK_app, BK_six, BK_expr, BK_ret, BK_retN, BK_brk, BK_cnt, BK_pass, BK_frz, BK_ifs, BK_nil, Kont_nx, Kont_rt, Kont_bk, Kont_ct, RQ_rt, RQ_nx]
      refine ⟨fun hb => ?_, fun hb => by simp [tryB]; omega⟩
      refine bk_find (enc := encF) (l := C) (w1 := wa) ?_ ?_ (fun ρ3 wb => ∃ b7 b9, wb = wa ∧ ρ3 = [.val (encCF C), .val (encTF T), .val (.int m), .val (.int ℓ), .own ((starts T m).map .int), b5, .val (.int b), b7, b8, b9]) (tryQ T ℓ b) ?_ ?_ ?_ ?_
      · simp [xb, xs, ev, evs, evSrc, wd, wds, wdSrc, wdB, wdS, ↓andThen, sq, sqP, Def.start, isVal, isBound, v1, v2, w2, toI, its_tup, its_lst, wlst, d1, d2, isInt_int, isInt_bool, isInt_none, isInt_str, isInt_lst, isInt_tup, isBool_bool, isBool_int, isBool_none, isBool_str, isBool_lst, isBool_tup, isSeq_tup, isSeq_lst, mk, Ex.fresh, P1.fresh, P2.fresh, ixD_tup, ixD_list, ixD_rf, itsW_tuple, itsW_list, itsW_rf, rfN_rf, lenD_tup, lenD_list, lenD_rf, ite_pairW, ite_boolD, ite_intD, boolsD_map, intsD_map2, intsD_map3, boolsD_map3, boolsD_nil, intsD_nil, Function.comp_def, List.filter_map, L2.atI, L2.ixN, addD_int, addD_str, addD_tup, addD_lst, mulD, ltD, leD, tr, PySem.W.dataLt_int, setAtN, L2.CMul, L2.CDiv, rd, setV, Pat.bind, Pat.ok, isD, refD_rf, isStr_rf, isStr_int, isStr_bool, isStr_none, isStr_str, isStr_lst, isStr_tup, isOwn, ownL, setO, frzE, List.forall_mem_map, -List.mem_map, ltOk_int, plainD_int, plainD_none, plainD_bool, eqv_int, cmpOk, filt_true, BK_set, BK_setT, BK_aug, BK_ext, BK_app, BK_six, BK_expr, BK_ret, BK_retN, BK_brk, BK_cnt, BK_pass, BK_frz, BK_ifs, BK_nil, Kont_nx, Kont_rt, Kont_bk, Kont_ct, RQ_rt, RQ_nx, encCF]
      · simp [xb, xs, ev, evs, evSrc, wd, wds, wdSrc, wdB, wdS, ↓andThen, sq, sqP, Def.start, isVal, isBound, v1, v2, w2, toI, its_tup, its_lst, wlst, d1, d2, isInt_int, isInt_bool, isInt_none, isInt_str, isInt_lst, isInt_tup, isBool_bool, isBool_int, isBool_none, isBool_str, isBool_lst, isBool_tup, isSeq_tup, isSeq_lst, mk, Ex.fresh, P1.fresh, P2.fresh, ixD_tup, ixD_list, ixD_rf, itsW_tuple, itsW_list, itsW_rf, rfN_rf, lenD_tup, lenD_list, lenD_rf, ite_pairW, ite_boolD, ite_intD, boolsD_map, intsD_map2, intsD_map3, boolsD_map3, boolsD_nil, intsD_nil, Function.comp_def, List.filter_map, L2.atI, L2.ixN, addD_int, addD_str, addD_tup, addD_lst, mulD, ltD, leD, tr, PySem.W.dataLt_int, setAtN, L2.CMul, L2.CDiv, rd, setV, Pat.bind, Pat.ok, isD, refD_rf, isStr_rf, isStr_int, isStr_bool, isStr_none, isStr_str, isStr_lst, isStr_tup, isOwn, ownL, setO, frzE, List.forall_mem_map, -List.mem_map, ltOk_int, plainD_int, plainD_none, plainD_bool, eqv_int, cmpOk, filt_true, BK_set, BK_setT, BK_aug, BK_ext, BK_app, BK_six, BK_expr, BK_ret, BK_retN, BK_brk, BK_cnt, BK_pass, BK_frz, BK_ifs, BK_nil, Kont_nx, Kont_rt, Kont_bk, Kont_ct, RQ_rt, RQ_nx, encCF]
      · exact ⟨_, _, rfl, rfl⟩
      · rintro q hq ρ3 wb ⟨b7, b9, rfl, rfl⟩
        simp [xb, xs, ev, evs, evSrc, wd, wds, wdSrc, wdB, wdS, ↓andThen, sq, sqP, Def.start, isVal, isBound, v1, v2, w2, toI, its_tup, its_lst, wlst, d1, d2, isInt_int, isInt_bool, isInt_none, isInt_str, isInt_lst, isInt_tup, isBool_bool, isBool_int, isBool_none, isBool_str, isBool_lst, isBool_tup, isSeq_tup, isSeq_lst, mk, Ex.fresh, P1.fresh, P2.fresh, ixD_tup, ixD_list, ixD_rf, itsW_tuple, itsW_list, itsW_rf, rfN_rf, lenD_tup, lenD_list, lenD_rf, ite_pairW, ite_boolD, ite_intD, boolsD_map, intsD_map2, intsD_map3, boolsD_map3, boolsD_nil, intsD_nil, Function.comp_def, List.filter_map, L2.atI, L2.ixN, addD_int, addD_str, addD_tup, addD_lst, mulD, ltD, leD, tr, PySem.W.dataLt_int, setAtN, L2.CMul, L2.CDiv, rd, setV, Pat.bind, Pat.ok, isD, refD_rf, isStr_rf, isStr_int, isStr_bool, isStr_none, isStr_str, isStr_lst, isStr_tup, isOwn, ownL, setO, frzE, List.forall_mem_map, -List.mem_map, ltOk_int, plainD_int, plainD_none, plainD_bool, eqv_int, cmpOk, filt_true, BK_set, BK_setT, BK_aug, BK_ext, BK_app, BK_six, BK_expr, BK_ret, BK_retN, BK_brk, BK_cnt, BK_pass, BK_frz, BK_ifs, BK_nil, Kont_nx, Kont_rt, Kont_bk, Kont_ct, RQ_rt, RQ_nx, encF, encTF, atI_fin, hI1, hI2]
        refine ⟨fun h => ?_, fun x hx h => ?_⟩
        · have : okQ T ℓ b q = true := by simpa [okQ] using h
          simp [tryQ, this, encF]
        · have : okQ T ℓ b q = false := by
            simp only [okQ, List.all_eq_false]
            exact ⟨x, hx, by simp [h]⟩
          simp [tryQ, this]
      · rintro hz ρ3 wb ⟨b7, b9, rfl, rfl⟩
        simp [xb, xs, ev, evs, evSrc, wd, wds, wdSrc, wdB, wdS, ↓andThen, sq, sqP, Def.start, isVal, isBound, v1, v2, w2, toI, its_tup, its_lst, wlst, d1, d2, isInt_int, isInt_bool, isInt_none, isInt_str, isInt_lst, isInt_tup, isBool_bool, isBool_int, isBool_none, isBool_str, isBool_lst, isBool_tup, isSeq_tup, isSeq_lst, mk, Ex.fresh, P1.fresh, P2.fresh, ixD_tup, ixD_list, ixD_rf, itsW_tuple, itsW_list, itsW_rf, rfN_rf, lenD_tup, lenD_list, lenD_rf, ite_pairW, ite_boolD, ite_intD, boolsD_map, intsD_map2, intsD_map3, boolsD_map3, boolsD_nil, intsD_nil, Function.comp_def, List.filter_map, L2.atI, L2.ixN, addD_int, addD_str, addD_tup, addD_lst, mulD, ltD, leD, tr, PySem.W.dataLt_int, setAtN, L2.CMul, L2.CDiv, rd, setV, Pat.bind, Pat.ok, isD, refD_rf, isStr_rf, isStr_int, isStr_bool, isStr_none, isStr_str, isStr_lst, isStr_tup, isOwn, ownL, setO, frzE, List.forall_mem_map, -List.mem_map, ltOk_int, plainD_int, plainD_none, plainD_bool, eqv_int, cmpOk, filt_true, BK_set, BK_setT, BK_aug, BK_ext, BK_app, BK_six, BK_expr, BK_ret, BK_retN, BK_brk, BK_cnt, BK_pass, BK_frz, BK_ifs, BK_nil, Kont_nx, Kont_rt, Kont_bk, Kont_ct, RQ_rt, RQ_nx, tryB, hb, hz]
      · rintro x hz ρ3 wb ⟨b7, b9, rfl, rfl⟩
        simp [xb, xs, ev, evs, evSrc, wd, wds, wdSrc, wdB, wdS, ↓andThen, sq, sqP, Def.start, isVal, isBound, v1, v2, w2, toI, its_tup, its_lst, wlst, d1, d2, isInt_int, isInt_bool, isInt_none, isInt_str, isInt_lst, isInt_tup, isBool_bool, isBool_int, isBool_none, isBool_str, isBool_lst, isBool_tup, isSeq_tup, isSeq_lst, mk, Ex.fresh, P1.fresh, P2.fresh, ixD_tup, ixD_list, ixD_rf, itsW_tuple, itsW_list, itsW_rf, rfN_rf, lenD_tup, lenD_list, lenD_rf, ite_pairW, ite_boolD, ite_intD, boolsD_map, intsD_map2, intsD_map3, boolsD_map3, boolsD_nil, intsD_nil, Function.comp_def, List.filter_map, L2.atI, L2.ixN, addD_int, addD_str, addD_tup, addD_lst, mulD, ltD, leD, tr, PySem.W.dataLt_int, setAtN, L2.CMul, L2.CDiv, rd, setV, Pat.bind, Pat.ok, isD, refD_rf, isStr_rf, isStr_int, isStr_bool, isStr_none, isStr_str, isStr_lst, isStr_tup, isOwn, ownL, setO, frzE, List.forall_mem_map, -List.mem_map, ltOk_int, plainD_int, plainD_none, plainD_bool, eqv_int, cmpOk, filt_true, BK_set, BK_setT, BK_aug, BK_ext, BK_app, BK_six, BK_expr, BK_ret, BK_retN, BK_brk, BK_cnt, BK_pass, BK_frz, BK_ifs, BK_nil, Kont_nx, Kont_rt, Kont_bk, Kont_ct, RQ_rt, RQ_nx, tryB, hb, hz]
    · rintro hz ρ2 wa ⟨b6, b7, b9, rfl, rfl⟩
      simp [xb, xs, ev, evs, evSrc, wd, wds, wdSrc, wdB, wdS, ↓andThen, sq, sqP, Def.start, isVal, isBound, v1, v2, w2, toI, its_tup, its_lst, wlst, d1, d2, isInt_int, isInt_bool, isInt_none, isInt_str, isInt_lst, isInt_tup, isBool_bool, isBool_int, isBool_none, isBool_str, isBool_lst, isBool_tup, isSeq_tup, isSeq_lst, mk, Ex.fresh, P1.fresh, P2.fresh, ixD_tup, ixD_list, ixD_rf, itsW_tuple, itsW_list, itsW_rf, rfN_rf, lenD_tup, lenD_list, lenD_rf, ite_pairW, ite_boolD, ite_intD, boolsD_map, intsD_map2, intsD_map3, boolsD_map3, boolsD_nil, intsD_nil, Function.comp_def, List.filter_map, L2.atI, L2.ixN, addD_int, addD_str, addD_tup, addD_lst, mulD, ltD, leD, tr, PySem.W.dataLt_int, setAtN, L2.CMul, L2.CDiv, rd, setV, Pat.bind, Pat.ok, isD, refD_rf, isStr_rf, isStr_int, isStr_bool, isStr_none, isStr_str, isStr_lst, isStr_tup, isOwn, ownL, setO, frzE, List.forall_mem_map, -List.mem_map, ltOk_int, plainD_int, plainD_none, plainD_bool, eqv_int, cmpOk, filt_true, BK_set, BK_setT, BK_aug, BK_ext, BK_app, BK_six, BK_expr, BK_ret, BK_retN, BK_brk, BK_cnt, BK_pass, BK_frz, BK_ifs, BK_nil, Kont_nx, Kont_rt, Kont_bk, Kont_ct, RQ_rt, RQ_nx, firstC, hz]
    · rintro x hz ρ2 wa ⟨b6, b7, b9, rfl, rfl⟩
      simp [xb, xs, ev, evs, evSrc, wd, wds, wdSrc, wdB, wdS, ↓andThen, sq, sqP, Def.start, isVal, isBound, v1, v2, w2, toI, its_tup, its_lst, wlst, d1, d2, isInt_int, isInt_bool, isInt_none, isInt_str, isInt_lst, isInt_tup, isBool_bool, isBool_int, isBool_none, isBool_str, isBool_lst, isBool_tup, isSeq_tup, isSeq_lst, mk, Ex.fresh, P1.fresh, P2.fresh, ixD_tup, ixD_list, ixD_rf, itsW_tuple, itsW_list, itsW_rf, rfN_rf, lenD_tup, lenD_list, lenD_rf, ite_pairW, ite_boolD, ite_intD, boolsD_map, intsD_map2, intsD_map3, boolsD_map3, boolsD_nil, intsD_nil, Function.comp_def, List.filter_map, L2.atI, L2.ixN, addD_int, addD_str, addD_tup, addD_lst, mulD, ltD, leD, tr, PySem.W.dataLt_int, setAtN, L2.CMul, L2.CDiv, rd, setV, Pat.bind, Pat.ok, isD, refD_rf, isStr_rf, isStr_int, isStr_bool, isStr_none, isStr_str, isStr_lst, isStr_tup, isOwn, ownL, setO, frzE, List.forall_mem_map, -List.mem_map, ltOk_int, plainD_int, plainD_none, plainD_bool, eqv_int, cmpOk, filt_true, BK_set, BK_setT, BK_aug, BK_ext, BK_app, BK_six, BK_expr, BK_ret, BK_retN, BK_brk, BK_cnt, BK_pass, BK_frz, BK_ifs, BK_nil, Kont_nx, Kont_rt, Kont_bk, Kont_ct, RQ_rt, RQ_nx, firstC, hz]
theorem firstS (k : Nat) (hn : (starts T m).length < 64) (w : W) :
    (fnS pgm (k + 2)).wd 1 [encCF C, encTF T, .int m, .int ℓ] w ∧ (fnS pgm (k + 2)).val 1 [encCF C, encTF T, .int m, .int ℓ] w = (firstC C T m ℓ, w) :=
  (does_of (f := 1) rfl rfl (first_body C T m ℓ k hn w)).eq
end K53

/-! K53f: _law_all, _law_least. -/
namespace K53
open PySem Ev
variable {n : Nat}
def rowsOf (pr : List (Fin n)) : List (List (Fin n)) := pr.foldl (fun rows k => rows ++ rows.map (· ++ [k])) [[]]
theorem rowsOf_len (pr : List (Fin n)) : (rowsOf pr).length = 2 ^ pr.length := by
  have : ∀ (pr : List (Fin n)) (r : List (List (Fin n))), (pr.foldl (fun rows k => rows ++ rows.map (· ++ [k])) r).length = r.length * 2 ^ pr.length := by
    intro pr
    induction pr with
    | nil => intro r; simp
    | cons a pr ih => intro r; rw [List.foldl_cons, ih, List.length_append, List.length_map, List.length_cons, Nat.pow_succ, Nat.mul_comm (2 ^ pr.length) 2, ← Nat.mul_assoc, Nat.mul_two]
  simp [rowsOf, this]
theorem rowsOf_snoc (pr : List (Fin n)) (x : Fin n) : rowsOf (pr ++ [x]) = rowsOf pr ++ (rowsOf pr).map (· ++ [x]) := by
  simp [rowsOf, List.foldl_append]
theorem mem_rowsOf {g pr : List (Fin n)} : g ∈ rowsOf pr ↔ g.Sublist pr := by
  rcases List.eq_nil_or_concat pr with rfl | ⟨p, x, rfl⟩
  · simp [rowsOf]
  · rw [List.concat_eq_append, rowsOf_snoc, List.mem_append, List.mem_map, mem_rowsOf]
    constructor
    · rintro (h | ⟨h, h1, rfl⟩)
      · exact h.trans (List.sublist_append_left _ _)
      · exact (mem_rowsOf.mp h1).append (List.Sublist.refl _)
    · intro h
      obtain ⟨g1, g2, rfl, h1, h2⟩ := List.sublist_append_iff.mp h
      cases h2 with
      | cons _ h2 =>
        have := List.sublist_nil.mp h2
        subst this
        exact .inl (by simpa using h1)
      | cons_cons _ h2 =>
        have := List.sublist_nil.mp h2
        subst this
        exact .inr ⟨g1, mem_rowsOf.mpr h1, rfl⟩
termination_by pr.length
decreasing_by all_goals (subst_vars; simp)
theorem rng_fin (n : Nat) : rngL 0 (n : Int) = (List.finRange n).map fun k => PyData.int (k.1 : Int) := by
  simp only [rngL]
  have : ((n : Int) - 0).toNat = n := by omega
  rw [this]
  apply List.ext_getElem
  · simp
  · intro i h1 h2
    simp
theorem all_body (S : Sm) (hn : n ≤ 5) (w : W) :
    BK S d__law_all.body (d__law_all.start [.int (n : Int)]) w (RQ fun d w' => (∃ m : List (List (Fin n)), m.Perm (rowsOf (List.finRange n)) ∧ d = .list (m.map encF)) ∧ w' = w) := by
  simp only [d__law_all]
  simp [xb, xs, ev, evs, evSrc, wd, wds, wdSrc, wdB, wdS, ↓andThen, sq, sqP, Def.start, isVal, isBound, v1, v2, w2, toI, its_tup, its_lst, wlst, d1, d2, isInt_int, isInt_bool, isInt_none, isInt_str, isInt_lst, isInt_tup, isBool_bool, isBool_int, isBool_none, isBool_str, isBool_lst, isBool_tup, isSeq_tup, isSeq_lst, mk, Ex.fresh, P1.fresh, P2.fresh, ixD_tup, ixD_list, ixD_rf, itsW_tuple, itsW_list, itsW_rf, rfN_rf, lenD_tup, lenD_list, lenD_rf, ite_pairW, ite_boolD, ite_intD, boolsD_map, intsD_map2, intsD_map3, boolsD_map3, boolsD_nil, intsD_nil, Function.comp_def, List.filter_map, L2.atI, L2.ixN, addD_int, addD_str, addD_tup, addD_lst, mulD, ltD, leD, tr, PySem.W.dataLt_int, setAtN, L2.CMul, L2.CDiv, rd, setV, Pat.bind, Pat.ok, isD, refD_rf, isStr_rf, isStr_int, isStr_bool, isStr_none, isStr_str, isStr_lst, isStr_tup, isOwn, ownL, setO, frzE, List.forall_mem_map, -List.mem_map, ltOk_int, plainD_int, plainD_none, plainD_bool, eqv_int, cmpOk, filt_true, BK_set, BK_setT, BK_aug, BK_ext, BK_app, BK_six, BK_expr, BK_ret, BK_retN, BK_brk, BK_cnt, BK_pass, BK_frz, BK_ifs, BK_nil, Kont_nx, Kont_rt, Kont_bk, Kont_ct, RQ_rt, RQ_nx]
  refine bk_for (enc := fun (k : Fin n) => PyData.int (k.1 : Int)) (l := List.finRange n) (w1 := w) ?_ ?_ (fun pr ρ' w' => ∃ b2 b3, w' = w ∧ ρ' = [.val (.int (n : Int)), .own ((rowsOf pr).map encF), b2, b3]) ?_ ?_ ?_
  · simp [xb, xs, ev, evs, evSrc, wd, wds, wdSrc, wdB, wdS, ↓andThen, sq, sqP, Def.start, isVal, isBound, v1, v2, w2, toI, its_tup, its_lst, wlst, d1, d2, isInt_int, isInt_bool, isInt_none, isInt_str, isInt_lst, isInt_tup, isBool_bool, isBool_int, isBool_none, isBool_str, isBool_lst, isBool_tup, isSeq_tup, isSeq_lst, mk, Ex.fresh, P1.fresh, P2.fresh, ixD_tup, ixD_list, ixD_rf, itsW_tuple, itsW_list, itsW_rf, rfN_rf, lenD_tup, lenD_list, lenD_rf, ite_pairW, ite_boolD, ite_intD, boolsD_map, intsD_map2, intsD_map3, boolsD_map3, boolsD_nil, intsD_nil, Function.comp_def, List.filter_map, L2.atI, L2.ixN, addD_int, addD_str, addD_tup, addD_lst, mulD, ltD, leD, tr, PySem.W.dataLt_int, setAtN, L2.CMul, L2.CDiv, rd, setV, Pat.bind, Pat.ok, isD, refD_rf, isStr_rf, isStr_int, isStr_bool, isStr_none, isStr_str, isStr_lst, isStr_tup, isOwn, ownL, setO, frzE, List.forall_mem_map, -List.mem_map, ltOk_int, plainD_int, plainD_none, plainD_bool, eqv_int, cmpOk, filt_true, BK_set, BK_setT, BK_aug, BK_ext, BK_app, BK_six, BK_expr, BK_ret, BK_retN, BK_brk, BK_cnt, BK_pass, BK_frz, BK_ifs, BK_nil, Kont_nx, Kont_rt, Kont_bk, Kont_ct, RQ_rt, RQ_nx]
    omega
  · simp [xb, xs, ev, evs, evSrc, wd, wds, wdSrc, wdB, wdS, ↓andThen, sq, sqP, Def.start, isVal, isBound, v1, v2, w2, toI, its_tup, its_lst, wlst, d1, d2, isInt_int, isInt_bool, isInt_none, isInt_str, isInt_lst, isInt_tup, isBool_bool, isBool_int, isBool_none, isBool_str, isBool_lst, isBool_tup, isSeq_tup, isSeq_lst, mk, Ex.fresh, P1.fresh, P2.fresh, ixD_tup, ixD_list, ixD_rf, itsW_tuple, itsW_list, itsW_rf, rfN_rf, lenD_tup, lenD_list, lenD_rf, ite_pairW, ite_boolD, ite_intD, boolsD_map, intsD_map2, intsD_map3, boolsD_map3, boolsD_nil, intsD_nil, Function.comp_def, List.filter_map, L2.atI, L2.ixN, addD_int, addD_str, addD_tup, addD_lst, mulD, ltD, leD, tr, PySem.W.dataLt_int, setAtN, L2.CMul, L2.CDiv, rd, setV, Pat.bind, Pat.ok, isD, refD_rf, isStr_rf, isStr_int, isStr_bool, isStr_none, isStr_str, isStr_lst, isStr_tup, isOwn, ownL, setO, frzE, List.forall_mem_map, -List.mem_map, ltOk_int, plainD_int, plainD_none, plainD_bool, eqv_int, cmpOk, filt_true, BK_set, BK_setT, BK_aug, BK_ext, BK_app, BK_six, BK_expr, BK_ret, BK_retN, BK_brk, BK_cnt, BK_pass, BK_frz, BK_ifs, BK_nil, Kont_nx, Kont_rt, Kont_bk, Kont_ct, RQ_rt, RQ_nx, rng_fin]
  · simp [rowsOf, encF]
  · rintro pr x post e ρ' wa ⟨b2, b3, rfl, rfl⟩
    have e2 : rowsOf (pr ++ [x]) = rowsOf pr ++ (rowsOf pr).map (· ++ [x]) := rowsOf_snoc pr x
    have hl : pr.length < 5 := by
      have := congrArg List.length e
      simp at this
      omega
    have hs := sizeLine_big
    have h2 : (rowsOf pr).length ≤ 16 := by
      rw [rowsOf_len]
      calc 2 ^ pr.length ≤ 2 ^ 4 := Nat.pow_le_pow_right (by omega) (by omega)
        _ = 16 := rfl
    simp [xb, xs, ev, evs, evSrc, wd, wds, wdSrc, wdB, wdS, ↓andThen, sq, sqP, Def.start, isVal, isBound, v1, v2, w2, toI, its_tup, its_lst, wlst, d1, d2, isInt_int, isInt_bool, isInt_none, isInt_str, isInt_lst, isInt_tup, isBool_bool, isBool_int, isBool_none, isBool_str, isBool_lst, isBool_tup, isSeq_tup, isSeq_lst, mk, Ex.fresh, P1.fresh, P2.fresh, ixD_tup, ixD_list, ixD_rf, itsW_tuple, itsW_list, itsW_rf, rfN_rf, lenD_tup, lenD_list, lenD_rf, ite_pairW, ite_boolD, ite_intD, boolsD_map, intsD_map2, intsD_map3, boolsD_map3, boolsD_nil, intsD_nil, Function.comp_def, List.filter_map, L2.atI, L2.ixN, addD_int, addD_str, addD_tup, addD_lst, mulD, ltD, leD, tr, PySem.W.dataLt_int, setAtN, L2.CMul, L2.CDiv, rd, setV, Pat.bind, Pat.ok, isD, refD_rf, isStr_rf, isStr_int, isStr_bool, isStr_none, isStr_str, isStr_lst, isStr_tup, isOwn, ownL, setO, frzE, List.forall_mem_map, -List.mem_map, ltOk_int, plainD_int, plainD_none, plainD_bool, eqv_int, cmpOk, filt_true, BK_set, BK_setT, BK_aug, BK_ext, BK_app, BK_six, BK_expr, BK_ret, BK_retN, BK_brk, BK_cnt, BK_pass, BK_frz, BK_ifs, BK_nil, Kont_nx, Kont_rt, Kont_bk, Kont_ct, RQ_rt, RQ_nx, encF, e2]
    refine ⟨fun j hj => ?_, by omega⟩
    have := (mem_rowsOf.mp hj).length_le
    omega
  · rintro ρ' wa ⟨b2, b3, rfl, rfl⟩
    simp [xb, xs, ev, evs, evSrc, wd, wds, wdSrc, wdB, wdS, ↓andThen, sq, sqP, Def.start, isVal, isBound, v1, v2, w2, toI, its_tup, its_lst, wlst, d1, d2, isInt_int, isInt_bool, isInt_none, isInt_str, isInt_lst, isInt_tup, isBool_bool, isBool_int, isBool_none, isBool_str, isBool_lst, isBool_tup, isSeq_tup, isSeq_lst, mk, Ex.fresh, P1.fresh, P2.fresh, ixD_tup, ixD_list, ixD_rf, itsW_tuple, itsW_list, itsW_rf, rfN_rf, lenD_tup, lenD_list, lenD_rf, ite_pairW, ite_boolD, ite_intD, boolsD_map, intsD_map2, intsD_map3, boolsD_map3, boolsD_nil, intsD_nil, Function.comp_def, List.filter_map, L2.atI, L2.ixN, addD_int, addD_str, addD_tup, addD_lst, mulD, ltD, leD, tr, PySem.W.dataLt_int, setAtN, L2.CMul, L2.CDiv, rd, setV, Pat.bind, Pat.ok, isD, refD_rf, isStr_rf, isStr_int, isStr_bool, isStr_none, isStr_str, isStr_lst, isStr_tup, isOwn, ownL, setO, frzE, List.forall_mem_map, -List.mem_map, ltOk_int, plainD_int, plainD_none, plainD_bool, eqv_int, cmpOk, filt_true, BK_set, BK_setT, BK_aug, BK_ext, BK_app, BK_six, BK_expr, BK_ret, BK_retN, BK_brk, BK_cnt, BK_pass, BK_frz, BK_ifs, BK_nil, Kont_nx, Kont_rt, Kont_bk, Kont_ct, RQ_rt, RQ_nx, encF]
    have := keys_lenrow (rowsOf (List.finRange n)) (fun j => (j.length : Int)) (fun j => j.map fun k => (k.1 : Int))
    simp [Function.comp_def] at this
    refine ⟨this, ?_⟩
    obtain ⟨m', h1, h2⟩ := perm_map (sortByK_perm (fun d => PyData.tuple [PyData.int ↑(lenD d wa), d]) (List.map encF (rowsOf (List.finRange n))))
    exact ⟨m', h1, h2⟩
theorem allS (k : Nat) (hn : n ≤ 5) (w : W) : ∃ m : List (List (Fin n)), m.Perm (rowsOf (List.finRange n)) ∧
    (fnS pgm (k + 1)).wd 6 [.int (n : Int)] w ∧ (fnS pgm (k + 1)).val 6 [.int (n : Int)] w = (.list (m.map encF), w) := by
  have h : Does (fnS pgm (k + 1)) 6 [.int (n : Int)] w _ := does_of rfl rfl (all_body (fnS pgm k) hn w)
  obtain ⟨h1, ⟨m, h2, h3⟩, h4⟩ := h
  exact ⟨m, h2, h1, Prod.ext h3 h4⟩
theorem encF_eq (g : List (Fin n)) : encF g = .tuple ((g.map fun k => (k.1 : Int)).map .int) := by simp [encF]
theorem fin_inj {g h : List (Fin n)} : (g.map fun k => (k.1 : Int)) = (h.map fun k => (k.1 : Int)) ↔ g = h :=
  ⟨fun e => List.map_inj_right (fun x y q => Fin.ext (by omega)) |>.mp e, fun e => by rw [e]⟩
theorem plainD_F (g : List (Fin n)) : plainD (encF g) ↔ True := by rw [encF_eq]; exact plainD_row _
theorem isSeq_F (g : List (Fin n)) : isSeq (encF g) ↔ True := by simp [encF, isSeq]
theorem its_F (g : List (Fin n)) : its (encF g) = g.map fun k => .int (k.1 : Int) := rfl
theorem eqv_F (g h : List (Fin n)) : PyData.eqv (encF g) (encF h) = decide (g = h) := by
  rw [encF_eq, encF_eq, eqv_row]
  simp only [fin_inj]
theorem inD_F (k : Fin n) (g : List (Fin n)) : inD (.int (k.1 : Int)) (g.map fun k => .int (k.1 : Int)) = decide (k ∈ g) := by
  have := inD_int (k.1 : Int) (g.map fun k => (k.1 : Int))
  rw [List.map_map] at this
  refine this.trans ?_
  rw [Bool.eq_iff_iff]
  simp only [decide_eq_true_eq, List.mem_map]
  exact ⟨fun ⟨a, h1, h2⟩ => by rwa [show k = a from Fin.ext (by omega)], fun h => ⟨k, h, rfl⟩⟩
theorem rowD_F (g : List (Fin n)) : rowD (encF g) := ⟨_, encF_eq g⟩
theorem sub_F {G : List (List (Fin n))} : ∀ (l : List D), (∀ x ∈ l, x ∈ G.map encF) → ∃ R : List (List (Fin n)), (∀ r ∈ R, r ∈ G) ∧ l = R.map encF
  | [], _ => ⟨[], by simp⟩
  | x :: l, h => by
    obtain ⟨R, h1, rfl⟩ := sub_F l fun y hy => h y (List.mem_cons_of_mem _ hy)
    obtain ⟨r, h2, rfl⟩ := List.mem_map.mp (h x (List.mem_cons_self ..))
    exact ⟨r :: R, (fun y hy => (List.mem_cons.mp hy).elim (fun e => e ▸ h2) (h1 y)), rfl⟩
def leastF (R : List (List (Fin n))) : List (List (Fin n)) := R.filter fun one => !(R.any fun other => !decide (other = one) && other.all fun k => decide (k ∈ one))
theorem least_body (S : Sm) (G : List (List (Fin n))) (hG : G.length < 64) (w : W) :
    BK S d__law_least.body (d__law_least.start [.list (G.map encF)]) w (RQ fun d w' => (∃ R : List (List (Fin n)), (∀ r ∈ R, r ∈ G) ∧ sortD (dedup (G.map encF)) = R.map encF ∧ d = encCF (leastF R)) ∧ w' = w) := by
  have ho : oneK (G.map encF) := .inr fun x hx => by
    obtain ⟨g, _, rfl⟩ := List.mem_map.mp hx
    exact rowD_F g
  obtain ⟨R, h1, h2⟩ := sub_F (G := G) (sortD (dedup (G.map encF))) fun x hx => (mem_srtS ho).mp hx
  simp only [d__law_least]
  simp [xb, xs, ev, evs, evSrc, wd, wds, wdSrc, wdB, wdS, ↓andThen, sq, sqP, Def.start, isVal, isBound, v1, v2, w2, toI, its_tup, its_lst, wlst, d1, d2, isInt_int, isInt_bool, isInt_none, isInt_str, isInt_lst, isInt_tup, isBool_bool, isBool_int, isBool_none, isBool_str, isBool_lst, isBool_tup, isSeq_tup, isSeq_lst, mk, Ex.fresh, P1.fresh, P2.fresh, ixD_tup, ixD_list, ixD_rf, itsW_tuple, itsW_list, itsW_rf, rfN_rf, lenD_tup, lenD_list, lenD_rf, ite_pairW, ite_boolD, ite_intD, boolsD_map, intsD_map2, intsD_map3, boolsD_map3, boolsD_nil, intsD_nil, Function.comp_def, List.filter_map, L2.atI, L2.ixN, addD_int, addD_str, addD_tup, addD_lst, mulD, ltD, leD, tr, PySem.W.dataLt_int, setAtN, L2.CMul, L2.CDiv, rd, setV, Pat.bind, Pat.ok, isD, refD_rf, isStr_rf, isStr_int, isStr_bool, isStr_none, isStr_str, isStr_lst, isStr_tup, isOwn, ownL, setO, frzE, List.forall_mem_map, -List.mem_map, ltOk_int, plainD_int, plainD_none, plainD_bool, eqv_int, cmpOk, filt_true, BK_set, BK_setT, BK_aug, BK_ext, BK_app, BK_six, BK_expr, BK_ret, BK_retN, BK_brk, BK_cnt, BK_pass, BK_frz, BK_ifs, BK_nil, Kont_nx, Kont_rt, Kont_bk, Kont_ct, RQ_rt, RQ_nx, hG, rowD_F, h2, plainD_F, isSeq_F, its_F, eqv_F, inD_F]
  exact ⟨R, h1, rfl, rfl⟩
theorem leastS (k : Nat) (G : List (List (Fin n))) (hG : G.length < 64) (w : W) : ∃ R : List (List (Fin n)), (∀ r ∈ R, r ∈ G) ∧ sortD (dedup (G.map encF)) = R.map encF ∧
    (fnS pgm (k + 1)).wd 7 [.list (G.map encF)] w ∧ (fnS pgm (k + 1)).val 7 [.list (G.map encF)] w = (encCF (leastF R), w) := by
  have h : Does (fnS pgm (k + 1)) 7 [.list (G.map encF)] w _ := does_of rfl rfl (least_body (fnS pgm k) G hG w)
  obtain ⟨h1, ⟨R, h2, h3, h4⟩, h5⟩ := h
  exact ⟨R, h2, h3, h1, Prod.ext h4 h5⟩
end K53

/-! K53g: _law_council. -/
namespace K53
open PySem Ev
variable {n : Nat}
def GoodG (G : List (List (Fin n))) : Prop := G.length ≤ 32 ∧ ∀ g ∈ G, g.length ≤ 5
def AllS (S : Sm) : Prop := ∀ n w, n ≤ 5 → ∃ m : List (List (Fin n)), m.Perm (rowsOf (List.finRange n)) ∧ S.wd 6 [.int (n : Int)] w ∧ S.val 6 [.int (n : Int)] w = (.list (m.map encF), w)
def LeastS (S : Sm) : Prop := ∀ (n : Nat) (G : List (List (Fin n))) (w : W), G.length < 64 → ∃ R : List (List (Fin n)), (∀ r ∈ R, r ∈ G) ∧ S.wd 7 [.list (G.map encF)] w ∧ S.val 7 [.list (G.map encF)] w = (encCF (leastF R), w)
theorem sub_I {g : List (Fin n)} : ∀ (l : List D), (∀ x ∈ l, x ∈ g.map fun k => PyData.int (k.1 : Int)) → ∃ R : List (Fin n), l = R.map fun k => PyData.int (k.1 : Int)
  | [], _ => ⟨[], rfl⟩
  | x :: l, h => by
    obtain ⟨R, rfl⟩ := sub_I l fun y hy => h y (List.mem_cons_of_mem _ hy)
    obtain ⟨r, h2, rfl⟩ := List.mem_map.mp (h x (List.mem_cons_self ..))
    exact ⟨r :: R, rfl⟩
theorem atI_mem {α : Type} {l : List α} {f : α → D} {i : Int} (h1 : 0 ≤ i) (h2 : i < l.length) : ∃ a ∈ l, L2.atI (l.map f) i = some (f a) := by
  obtain ⟨k, rfl⟩ := Int.eq_ofNat_of_zero_le h1
  have hk : k < l.length := by omega
  refine ⟨l[k], List.getElem_mem hk, ?_⟩
  have h : L2.ixN l.length (k : Int) = some k := by simp [L2.ixN]; omega
  simp [L2.atI, h, hk]
theorem addS (at' : Int) (h1 : 0 ≤ at') (h2 : at' < n) : ∃ F : List (Fin n) → List (Fin n), ∀ g, PyData.tuple (sortD (dedup ((g.map fun k => PyData.int (k.1 : Int)) ++ [.int at']))) = .tuple ((F g).map fun k => .int (k.1 : Int)) ∧ (F g).length ≤ g.length + 1 := by
  obtain ⟨k, rfl⟩ := Int.eq_ofNat_of_zero_le h1
  have hk : k < n := by omega
  have : ∀ g : List (Fin n), ∃ R : List (Fin n), PyData.tuple (sortD (dedup ((g.map fun k => PyData.int (k.1 : Int)) ++ [.int (k : Int)]))) = .tuple (R.map fun k => .int (k.1 : Int)) ∧ R.length ≤ g.length + 1 := by
    intro g
    have e : (g.map fun k => PyData.int (k.1 : Int)) ++ [.int (k : Int)] = (g ++ [(⟨k, hk⟩ : Fin n)]).map fun k => PyData.int (k.1 : Int) := by simp
    rw [e]
    obtain ⟨R, hR⟩ := sub_I (g := g ++ [(⟨k, hk⟩ : Fin n)]) (sortD (dedup ((g ++ [(⟨k, hk⟩ : Fin n)]).map fun k => PyData.int (k.1 : Int)))) fun x hx =>
      (mem_srtS (.inl fun y hy => by obtain ⟨i, _, rfl⟩ := List.mem_map.mp hy; exact ⟨_, rfl⟩)).mp hx
    refine ⟨R, by rw [hR], ?_⟩
    have h1 := congrArg List.length hR
    rw [List.length_map, (sortD_perm _).length_eq] at h1
    have h2 := dedup_len ((g ++ [(⟨k, hk⟩ : Fin n)]).map fun k => PyData.int (k.1 : Int))
    rw [List.length_map, List.length_append, List.length_singleton] at h2
    omega
  exact ⟨fun g => Classical.choose (this g), fun g => Classical.choose_spec (this g)⟩
def cEnv (one : Bool) (E : List (List (Fin n))) (kind : Int) (G : List (List (Fin n))) (b6 b7 b8 b9 b10 : Sl) : En :=
  [.val (rf 1), .val (.int (n : Int)), .val (.bool one), .val (.list (E.map encF)), .val (.int kind), .own (G.map encF), b6, b7, b8, b9, b10]
def cI (one : Bool) (E : List (List (Fin n))) (kind : Int) (ρ : En) (w : W) : Prop := Box w ∧ ∃ G : List (List (Fin n)), GoodG G ∧ ∃ b6 b7 b8 b9 b10, ρ = cEnv one E kind G b6 b7 b8 b9 b10
theorem council_body (S : Sm) (hD : DrawS S) (hA : AllS S) (hL : LeastS S) (h1 : 1 ≤ n) (hn : n ≤ 5) (one : Bool) (w : W) (hw : Box w) :
    BK S d__law_council.body (d__law_council.start [rf 1, .int (n : Int), .bool one]) w (RQ fun d w' => (∃ C : List (List (Fin n)), (∀ g ∈ C, g.length ≤ 6) ∧ d = encCF C) ∧ Box w') := by
  obtain ⟨E, hE, a1, a2⟩ := hA n w hn
  have hE2 : ∀ g ∈ E, g.length ≤ 5 := fun g hg => by
    have := (mem_rowsOf.mp (hE.mem_iff.mp hg)).length_le
    simp at this
    omega
  have hE3 : E.length ≤ 32 ∧ 0 < E.length := by
    rw [hE.length_eq, rowsOf_len, List.length_finRange]
    exact ⟨Nat.le_trans (Nat.pow_le_pow_right (by omega) hn) (by decide : 2 ^ 5 ≤ 32), Nat.pow_pos (by omega)⟩
  obtain ⟨d4, w4, e1, e2, kind, rfl, k1, k2, hw4⟩ := (hD w hw 4 (by omega) (by omega)).ex
  simp only [d__law_council]
  refine bk_cut (fun ρ' w' => w' = w ∧ ρ' = [.val (rf 1), .val (.int (n : Int)), .val (.bool one), .val (.list (E.map encF)), .un, .un, .un, .un, .un, .un, .un]) (by simp [xb, xs, ev, evs, evSrc, wd, wds, wdSrc, wdB, wdS, ↓andThen, sq, sqP, Def.start, isVal, isBound, v1, v2, w2, toI, its_tup, its_lst, wlst, d1, d2, isInt_int, isInt_bool, isInt_none, isInt_str, isInt_lst, isInt_tup, isBool_bool, isBool_int, isBool_none, isBool_str, isBool_lst, isBool_tup, isSeq_tup, isSeq_lst, mk, Ex.fresh, P1.fresh, P2.fresh, ixD_tup, ixD_list, ixD_rf, itsW_tuple, itsW_list, itsW_rf, rfN_rf, lenD_tup, lenD_list, lenD_rf, ite_pairW, ite_boolD, ite_intD, boolsD_map, intsD_map2, intsD_map3, boolsD_map3, boolsD_nil, intsD_nil, Function.comp_def, List.filter_map, L2.atI, L2.ixN, addD_int, addD_str, addD_tup, addD_lst, mulD, ltD, leD, tr, PySem.W.dataLt_int, setAtN, L2.CMul, L2.CDiv, rd, setV, Pat.bind, Pat.ok, isD, refD_rf, isStr_rf, isStr_int, isStr_bool, isStr_none, isStr_str, isStr_lst, isStr_tup, isOwn, ownL, setO, frzE, List.forall_mem_map, -List.mem_map, ltOk_int, plainD_int, plainD_none, plainD_bool, eqv_int, cmpOk, filt_true, BK_set, BK_setT, BK_aug, BK_ext, BK_app, BK_six, BK_expr, BK_ret, BK_retN, BK_brk, BK_cnt, BK_pass, BK_frz, BK_ifs, BK_nil, Kont_nx, Kont_rt, Kont_bk, Kont_ct, RQ_rt, RQ_nx, NxQ_nx, a1, a2]) ?_
  rintro _ _ ⟨rfl, rfl⟩
  refine bk_cut (fun ρ' w' => w' = w4 ∧ ρ' = [.val (rf 1), .val (.int (n : Int)), .val (.bool one), .val (.list (E.map encF)), .val (.int kind), .un, .un, .un, .un, .un, .un]) (by simp [xb, xs, ev, evs, evSrc, wd, wds, wdSrc, wdB, wdS, ↓andThen, sq, sqP, Def.start, isVal, isBound, v1, v2, w2, toI, its_tup, its_lst, wlst, d1, d2, isInt_int, isInt_bool, isInt_none, isInt_str, isInt_lst, isInt_tup, isBool_bool, isBool_int, isBool_none, isBool_str, isBool_lst, isBool_tup, isSeq_tup, isSeq_lst, mk, Ex.fresh, P1.fresh, P2.fresh, ixD_tup, ixD_list, ixD_rf, itsW_tuple, itsW_list, itsW_rf, rfN_rf, lenD_tup, lenD_list, lenD_rf, ite_pairW, ite_boolD, ite_intD, boolsD_map, intsD_map2, intsD_map3, boolsD_map3, boolsD_nil, intsD_nil, Function.comp_def, List.filter_map, L2.atI, L2.ixN, addD_int, addD_str, addD_tup, addD_lst, mulD, ltD, leD, tr, PySem.W.dataLt_int, setAtN, L2.CMul, L2.CDiv, rd, setV, Pat.bind, Pat.ok, isD, refD_rf, isStr_rf, isStr_int, isStr_bool, isStr_none, isStr_str, isStr_lst, isStr_tup, isOwn, ownL, setO, frzE, List.forall_mem_map, -List.mem_map, ltOk_int, plainD_int, plainD_none, plainD_bool, eqv_int, cmpOk, filt_true, BK_set, BK_setT, BK_aug, BK_ext, BK_app, BK_six, BK_expr, BK_ret, BK_retN, BK_brk, BK_cnt, BK_pass, BK_frz, BK_ifs, BK_nil, Kont_nx, Kont_rt, Kont_bk, Kont_ct, RQ_rt, RQ_nx, NxQ_nx, e1, e2]) ?_
  rintro _ _ ⟨rfl, rfl⟩
  obtain ⟨d5, w5, f1, f2, cnt, rfl, c1, c2, hw5⟩ := (hD _ hw4 6 (by omega) (by omega)).ex
  refine bk_compW (l := rngL 0 (1 + cnt)) (w1 := w5) ?_ ?_ Box (fun d => d ∈ E.map encF) hw5 ?_ ?_
  · simp [xb, xs, ev, evs, evSrc, wd, wds, wdSrc, wdB, wdS, ↓andThen, sq, sqP, Def.start, isVal, isBound, v1, v2, w2, toI, its_tup, its_lst, wlst, d1, d2, isInt_int, isInt_bool, isInt_none, isInt_str, isInt_lst, isInt_tup, isBool_bool, isBool_int, isBool_none, isBool_str, isBool_lst, isBool_tup, isSeq_tup, isSeq_lst, mk, Ex.fresh, P1.fresh, P2.fresh, ixD_tup, ixD_list, ixD_rf, itsW_tuple, itsW_list, itsW_rf, rfN_rf, lenD_tup, lenD_list, lenD_rf, ite_pairW, ite_boolD, ite_intD, boolsD_map, intsD_map2, intsD_map3, boolsD_map3, boolsD_nil, intsD_nil, Function.comp_def, List.filter_map, L2.atI, L2.ixN, addD_int, addD_str, addD_tup, addD_lst, mulD, ltD, leD, tr, PySem.W.dataLt_int, setAtN, L2.CMul, L2.CDiv, rd, setV, Pat.bind, Pat.ok, isD, refD_rf, isStr_rf, isStr_int, isStr_bool, isStr_none, isStr_str, isStr_lst, isStr_tup, isOwn, ownL, setO, frzE, List.forall_mem_map, -List.mem_map, ltOk_int, plainD_int, plainD_none, plainD_bool, eqv_int, cmpOk, filt_true, BK_set, BK_setT, BK_aug, BK_ext, BK_app, BK_six, BK_expr, BK_ret, BK_retN, BK_brk, BK_cnt, BK_pass, BK_frz, BK_ifs, BK_nil, Kont_nx, Kont_rt, Kont_bk, Kont_ct, RQ_rt, RQ_nx, f1, f2]
    omega
  · simp [xb, xs, ev, evs, evSrc, wd, wds, wdSrc, wdB, wdS, ↓andThen, sq, sqP, Def.start, isVal, isBound, v1, v2, w2, toI, its_tup, its_lst, wlst, d1, d2, isInt_int, isInt_bool, isInt_none, isInt_str, isInt_lst, isInt_tup, isBool_bool, isBool_int, isBool_none, isBool_str, isBool_lst, isBool_tup, isSeq_tup, isSeq_lst, mk, Ex.fresh, P1.fresh, P2.fresh, ixD_tup, ixD_list, ixD_rf, itsW_tuple, itsW_list, itsW_rf, rfN_rf, lenD_tup, lenD_list, lenD_rf, ite_pairW, ite_boolD, ite_intD, boolsD_map, intsD_map2, intsD_map3, boolsD_map3, boolsD_nil, intsD_nil, Function.comp_def, List.filter_map, L2.atI, L2.ixN, addD_int, addD_str, addD_tup, addD_lst, mulD, ltD, leD, tr, PySem.W.dataLt_int, setAtN, L2.CMul, L2.CDiv, rd, setV, Pat.bind, Pat.ok, isD, refD_rf, isStr_rf, isStr_int, isStr_bool, isStr_none, isStr_str, isStr_lst, isStr_tup, isOwn, ownL, setO, frzE, List.forall_mem_map, -List.mem_map, ltOk_int, plainD_int, plainD_none, plainD_bool, eqv_int, cmpOk, filt_true, BK_set, BK_setT, BK_aug, BK_ext, BK_app, BK_six, BK_expr, BK_ret, BK_retN, BK_brk, BK_cnt, BK_pass, BK_frz, BK_ifs, BK_nil, Kont_nx, Kont_rt, Kont_bk, Kont_ct, RQ_rt, RQ_nx, f1, f2]
  · intro x hx w6 hw6
    obtain ⟨d7, w7, g1, g2, j, rfl, j1, j2, hw7⟩ := (hD w6 hw6 E.length (by omega) (by omega)).ex
    obtain ⟨g, m1, m2⟩ := atI_mem (f := encF) j1 j2
    have m3 := m2
    simp [L2.atI, L2.ixN] at m3
    simp [xb, xs, ev, evs, evSrc, wd, wds, wdSrc, wdB, wdS, ↓andThen, sq, sqP, Def.start, isVal, isBound, v1, v2, w2, toI, its_tup, its_lst, wlst, d1, d2, isInt_int, isInt_bool, isInt_none, isInt_str, isInt_lst, isInt_tup, isBool_bool, isBool_int, isBool_none, isBool_str, isBool_lst, isBool_tup, isSeq_tup, isSeq_lst, mk, Ex.fresh, P1.fresh, P2.fresh, ixD_tup, ixD_list, ixD_rf, itsW_tuple, itsW_list, itsW_rf, rfN_rf, lenD_tup, lenD_list, lenD_rf, ite_pairW, ite_boolD, ite_intD, boolsD_map, intsD_map2, intsD_map3, boolsD_map3, boolsD_nil, intsD_nil, Function.comp_def, List.filter_map, L2.atI, L2.ixN, addD_int, addD_str, addD_tup, addD_lst, mulD, ltD, leD, tr, PySem.W.dataLt_int, setAtN, L2.CMul, L2.CDiv, rd, setV, Pat.bind, Pat.ok, isD, refD_rf, isStr_rf, isStr_int, isStr_bool, isStr_none, isStr_str, isStr_lst, isStr_tup, isOwn, ownL, setO, frzE, List.forall_mem_map, -List.mem_map, ltOk_int, plainD_int, plainD_none, plainD_bool, eqv_int, cmpOk, filt_true, BK_set, BK_setT, BK_aug, BK_ext, BK_app, BK_six, BK_expr, BK_ret, BK_retN, BK_brk, BK_cnt, BK_pass, BK_frz, BK_ifs, BK_nil, Kont_nx, Kont_rt, Kont_bk, Kont_ct, RQ_rt, RQ_nx, g1, g2, m3, hw7]
    exact List.mem_map_of_mem m1
  intro ds w6 hl hm hw6
  obtain ⟨G, m1, rfl⟩ := sub_F ds hm
  have hG : GoodG G := by
    refine ⟨?_, fun g hg => hE2 g (m1 g hg)⟩
    simp [rngL] at hl
    omega
  refine bk_cut (cI one E kind) ?_ ?_
  · simp [xb, xs, ev, evs, evSrc, wd, wds, wdSrc, wdB, wdS, ↓andThen, sq, sqP, Def.start, isVal, isBound, v1, v2, w2, toI, its_tup, its_lst, wlst, d1, d2, isInt_int, isInt_bool, isInt_none, isInt_str, isInt_lst, isInt_tup, isBool_bool, isBool_int, isBool_none, isBool_str, isBool_lst, isBool_tup, isSeq_tup, isSeq_lst, mk, Ex.fresh, P1.fresh, P2.fresh, ixD_tup, ixD_list, ixD_rf, itsW_tuple, itsW_list, itsW_rf, rfN_rf, lenD_tup, lenD_list, lenD_rf, ite_pairW, ite_boolD, ite_intD, boolsD_map, intsD_map2, intsD_map3, boolsD_map3, boolsD_nil, intsD_nil, Function.comp_def, List.filter_map, L2.atI, L2.ixN, addD_int, addD_str, addD_tup, addD_lst, mulD, ltD, leD, tr, PySem.W.dataLt_int, setAtN, L2.CMul, L2.CDiv, rd, setV, Pat.bind, Pat.ok, isD, refD_rf, isStr_rf, isStr_int, isStr_bool, isStr_none, isStr_str, isStr_lst, isStr_tup, isOwn, ownL, setO, frzE, List.forall_mem_map, -List.mem_map, ltOk_int, plainD_int, plainD_none, plainD_bool, eqv_int, cmpOk, filt_true, BK_set, BK_setT, BK_aug, BK_ext, BK_app, BK_six, BK_expr, BK_ret, BK_retN, BK_brk, BK_cnt, BK_pass, BK_frz, BK_ifs, BK_nil, Kont_nx, Kont_rt, Kont_bk, Kont_ct, RQ_rt, RQ_nx, NxQ_nx, isSeq_F]
    refine ⟨fun _ => ?_, fun _ => ⟨hw6, G, hG, _, _, _, _, _, rfl⟩⟩
    exact ⟨hw6, _, ⟨Nat.le_trans (List.length_filter_le _ _) hE3.1, fun g hg => hE2 g (List.mem_filter.mp hg).1⟩, _, _, _, _, _, rfl⟩
  rintro ρ7 w7 ⟨hw7, G7, hG7, b6, b7, b8, b9, b10, rfl⟩
  refine bk_cut (fun ρ w => Box w ∧ ∃ G : List (List (Fin n)), G.length ≤ 32 ∧ (∀ g ∈ G, g.length ≤ 6) ∧ ∃ b6 b7 b8 b9 b10, ρ = cEnv one E kind G b6 b7 b8 b9 b10) ?_ ?_
  · obtain ⟨d8, w8, g1, g2, at', rfl, t1, t2, hw8⟩ := (hD w7 hw7 n (by omega) (by omega)).ex
    obtain ⟨F, hF⟩ := addS (n := n) at' t1 t2
    have hs := sizeLine_big
    simp [xb, xs, ev, evs, evSrc, wd, wds, wdSrc, wdB, wdS, ↓andThen, sq, sqP, Def.start, isVal, isBound, v1, v2, w2, toI, its_tup, its_lst, wlst, d1, d2, isInt_int, isInt_bool, isInt_none, isInt_str, isInt_lst, isInt_tup, isBool_bool, isBool_int, isBool_none, isBool_str, isBool_lst, isBool_tup, isSeq_tup, isSeq_lst, mk, Ex.fresh, P1.fresh, P2.fresh, ixD_tup, ixD_list, ixD_rf, itsW_tuple, itsW_list, itsW_rf, rfN_rf, lenD_tup, lenD_list, lenD_rf, ite_pairW, ite_boolD, ite_intD, boolsD_map, intsD_map2, intsD_map3, boolsD_map3, boolsD_nil, intsD_nil, Function.comp_def, List.filter_map, L2.atI, L2.ixN, addD_int, addD_str, addD_tup, addD_lst, mulD, ltD, leD, tr, PySem.W.dataLt_int, setAtN, L2.CMul, L2.CDiv, rd, setV, Pat.bind, Pat.ok, isD, refD_rf, isStr_rf, isStr_int, isStr_bool, isStr_none, isStr_str, isStr_lst, isStr_tup, isOwn, ownL, setO, frzE, List.forall_mem_map, -List.mem_map, ltOk_int, plainD_int, plainD_none, plainD_bool, eqv_int, cmpOk, filt_true, BK_set, BK_setT, BK_aug, BK_ext, BK_app, BK_six, BK_expr, BK_ret, BK_retN, BK_brk, BK_cnt, BK_pass, BK_frz, BK_ifs, BK_nil, Kont_nx, Kont_rt, Kont_bk, Kont_ct, RQ_rt, RQ_nx, NxQ_nx, cEnv, g1, g2, encF]
    refine ⟨fun _ => ?_, fun _ => ⟨hw7, G7, hG7.1, fun g hg => Nat.le_succ_of_le (hG7.2 g hg), ?_⟩⟩
    · refine ⟨fun j hj => ?_, hw8, G7.map F, by simpa using hG7.1, ?_, ?_⟩
      · have := hG7.2 j hj
        refine ⟨by omega, fun x hx => ?_, by omega⟩
        rcases List.mem_append.mp hx with hx | hx
        · obtain ⟨i, _, rfl⟩ := List.mem_map.mp hx
          exact ⟨_, rfl⟩
        · exact ⟨_, List.mem_singleton.mp hx⟩
      · intro g hg
        obtain ⟨g0, h0, rfl⟩ := List.mem_map.mp hg
        have := (hF g0).2
        have := hG7.2 g0 h0
        omega
      · simp [Function.comp_def]
        exact fun a _ => (hF a).1
    · rfl
  rintro ρ8 w8 ⟨hw8, G8, hG8, hL8, b6, b7, b8, b9, b10, rfl⟩
  refine bk_cut (fun ρ w => Box w ∧ ∃ G : List (List (Fin n)), G.length ≤ 33 ∧ (∀ g ∈ G, g.length ≤ 6) ∧ ∃ b5 b6 b7 b8 b9 b10, (b5 = Sl.own (G.map encF) ∨ b5 = .val (.list (G.map encF))) ∧ ρ = [.val (rf 1), .val (.int (n : Int)), .val (.bool one), .val (.list (E.map encF)), .val (.int kind), b5, b6, b7, b8, b9, b10]) ?_ ?_
  · cases one with
    | false =>
      simp [xb, xs, ev, evs, evSrc, wd, wds, wdSrc, wdB, wdS, ↓andThen, sq, sqP, Def.start, isVal, isBound, v1, v2, w2, toI, its_tup, its_lst, wlst, d1, d2, isInt_int, isInt_bool, isInt_none, isInt_str, isInt_lst, isInt_tup, isBool_bool, isBool_int, isBool_none, isBool_str, isBool_lst, isBool_tup, isSeq_tup, isSeq_lst, mk, Ex.fresh, P1.fresh, P2.fresh, ixD_tup, ixD_list, ixD_rf, itsW_tuple, itsW_list, itsW_rf, rfN_rf, lenD_tup, lenD_list, lenD_rf, ite_pairW, ite_boolD, ite_intD, boolsD_map, intsD_map2, intsD_map3, boolsD_map3, boolsD_nil, intsD_nil, Function.comp_def, List.filter_map, L2.atI, L2.ixN, addD_int, addD_str, addD_tup, addD_lst, mulD, ltD, leD, tr, PySem.W.dataLt_int, setAtN, L2.CMul, L2.CDiv, rd, setV, Pat.bind, Pat.ok, isD, refD_rf, isStr_rf, isStr_int, isStr_bool, isStr_none, isStr_str, isStr_lst, isStr_tup, isOwn, ownL, setO, frzE, List.forall_mem_map, -List.mem_map, ltOk_int, plainD_int, plainD_none, plainD_bool, eqv_int, cmpOk, filt_true, BK_set, BK_setT, BK_aug, BK_ext, BK_app, BK_six, BK_expr, BK_ret, BK_retN, BK_brk, BK_cnt, BK_pass, BK_frz, BK_ifs, BK_nil, Kont_nx, Kont_rt, Kont_bk, Kont_ct, RQ_rt, RQ_nx, NxQ_nx, cEnv]
      exact ⟨hw8, G8, by omega, hL8, rfl⟩
    | true =>
      simp only [BK_ifs]
      have hs := sizeLine_big
      simp [xb, xs, ev, evs, evSrc, wd, wds, wdSrc, wdB, wdS, ↓andThen, sq, sqP, Def.start, isVal, isBound, v1, v2, w2, toI, its_tup, its_lst, wlst, d1, d2, isInt_int, isInt_bool, isInt_none, isInt_str, isInt_lst, isInt_tup, isBool_bool, isBool_int, isBool_none, isBool_str, isBool_lst, isBool_tup, isSeq_tup, isSeq_lst, mk, Ex.fresh, P1.fresh, P2.fresh, ixD_tup, ixD_list, ixD_rf, itsW_tuple, itsW_list, itsW_rf, rfN_rf, lenD_tup, lenD_list, lenD_rf, ite_pairW, ite_boolD, ite_intD, boolsD_map, intsD_map2, intsD_map3, boolsD_map3, boolsD_nil, intsD_nil, Function.comp_def, List.filter_map, L2.atI, L2.ixN, addD_int, addD_str, addD_tup, addD_lst, mulD, ltD, leD, tr, PySem.W.dataLt_int, setAtN, L2.CMul, L2.CDiv, rd, setV, Pat.bind, Pat.ok, isD, refD_rf, isStr_rf, isStr_int, isStr_bool, isStr_none, isStr_str, isStr_lst, isStr_tup, isOwn, ownL, setO, frzE, List.forall_mem_map, -List.mem_map, ltOk_int, plainD_int, plainD_none, plainD_bool, eqv_int, cmpOk, filt_true, BK_set, BK_setT, BK_aug, BK_ext, BK_app, BK_six, BK_expr, BK_ret, BK_retN, BK_brk, BK_cnt, BK_pass, BK_frz, BK_ifs, BK_nil, Kont_nx, Kont_rt, Kont_bk, Kont_ct, RQ_rt, RQ_nx, NxQ_nx, cEnv]
      refine bk_for (enc := encF) (l := G8 ++ [List.finRange n]) (w1 := w8) ?_ ?_ (fun pr ρ w => w = w8 ∧ ∃ F : List (List (Fin n)), F.length ≤ pr.length ∧ (∀ g ∈ F, g.length ≤ 6) ∧ ∃ b8 b9 b10, ρ = [.val (rf 1), .val (.int (n : Int)), .val (.bool true), .val (.list (E.map encF)), .val (.int kind), .own (G8.map encF), b6, .own (F.map encF), b8, b9, b10]) ?_ ?_ ?_
      · simp [xb, xs, ev, evs, evSrc, wd, wds, wdSrc, wdB, wdS, ↓andThen, sq, sqP, Def.start, isVal, isBound, v1, v2, w2, toI, its_tup, its_lst, wlst, d1, d2, isInt_int, isInt_bool, isInt_none, isInt_str, isInt_lst, isInt_tup, isBool_bool, isBool_int, isBool_none, isBool_str, isBool_lst, isBool_tup, isSeq_tup, isSeq_lst, mk, Ex.fresh, P1.fresh, P2.fresh, ixD_tup, ixD_list, ixD_rf, itsW_tuple, itsW_list, itsW_rf, rfN_rf, lenD_tup, lenD_list, lenD_rf, ite_pairW, ite_boolD, ite_intD, boolsD_map, intsD_map2, intsD_map3, boolsD_map3, boolsD_nil, intsD_nil, Function.comp_def, List.filter_map, L2.atI, L2.ixN, addD_int, addD_str, addD_tup, addD_lst, mulD, ltD, leD, tr, PySem.W.dataLt_int, setAtN, L2.CMul, L2.CDiv, rd, setV, Pat.bind, Pat.ok, isD, refD_rf, isStr_rf, isStr_int, isStr_bool, isStr_none, isStr_str, isStr_lst, isStr_tup, isOwn, ownL, setO, frzE, List.forall_mem_map, -List.mem_map, ltOk_int, plainD_int, plainD_none, plainD_bool, eqv_int, cmpOk, filt_true, BK_set, BK_setT, BK_aug, BK_ext, BK_app, BK_six, BK_expr, BK_ret, BK_retN, BK_brk, BK_cnt, BK_pass, BK_frz, BK_ifs, BK_nil, Kont_nx, Kont_rt, Kont_bk, Kont_ct, RQ_rt, RQ_nx]
        omega
      · simp [xb, xs, ev, evs, evSrc, wd, wds, wdSrc, wdB, wdS, ↓andThen, sq, sqP, Def.start, isVal, isBound, v1, v2, w2, toI, its_tup, its_lst, wlst, d1, d2, isInt_int, isInt_bool, isInt_none, isInt_str, isInt_lst, isInt_tup, isBool_bool, isBool_int, isBool_none, isBool_str, isBool_lst, isBool_tup, isSeq_tup, isSeq_lst, mk, Ex.fresh, P1.fresh, P2.fresh, ixD_tup, ixD_list, ixD_rf, itsW_tuple, itsW_list, itsW_rf, rfN_rf, lenD_tup, lenD_list, lenD_rf, ite_pairW, ite_boolD, ite_intD, boolsD_map, intsD_map2, intsD_map3, boolsD_map3, boolsD_nil, intsD_nil, Function.comp_def, List.filter_map, L2.atI, L2.ixN, addD_int, addD_str, addD_tup, addD_lst, mulD, ltD, leD, tr, PySem.W.dataLt_int, setAtN, L2.CMul, L2.CDiv, rd, setV, Pat.bind, Pat.ok, isD, refD_rf, isStr_rf, isStr_int, isStr_bool, isStr_none, isStr_str, isStr_lst, isStr_tup, isOwn, ownL, setO, frzE, List.forall_mem_map, -List.mem_map, ltOk_int, plainD_int, plainD_none, plainD_bool, eqv_int, cmpOk, filt_true, BK_set, BK_setT, BK_aug, BK_ext, BK_app, BK_six, BK_expr, BK_ret, BK_retN, BK_brk, BK_cnt, BK_pass, BK_frz, BK_ifs, BK_nil, Kont_nx, Kont_rt, Kont_bk, Kont_ct, RQ_rt, RQ_nx, rng_fin, encF]
      · exact ⟨rfl, [], by simp, by simp, _, _, _, rfl⟩
      · rintro pr g post e ρ wa ⟨rfl, F, hF, hLF, b8, b9, b10, rfl⟩
        have hpl : pr.length ≤ 33 := by
          have := congrArg List.length e
          simp at this
          omega
        have e0 : PyData.tuple [] = encF ([] : List (Fin n)) := rfl
        simp [xb, xs, ev, evs, evSrc, wd, wds, wdSrc, wdB, wdS, ↓andThen, sq, sqP, Def.start, isVal, isBound, v1, v2, w2, toI, its_tup, its_lst, wlst, d1, d2, isInt_int, isInt_bool, isInt_none, isInt_str, isInt_lst, isInt_tup, isBool_bool, isBool_int, isBool_none, isBool_str, isBool_lst, isBool_tup, isSeq_tup, isSeq_lst, mk, Ex.fresh, P1.fresh, P2.fresh, ixD_tup, ixD_list, ixD_rf, itsW_tuple, itsW_list, itsW_rf, rfN_rf, lenD_tup, lenD_list, lenD_rf, ite_pairW, ite_boolD, ite_intD, boolsD_map, intsD_map2, intsD_map3, boolsD_map3, boolsD_nil, intsD_nil, Function.comp_def, List.filter_map, L2.atI, L2.ixN, addD_int, addD_str, addD_tup, addD_lst, mulD, ltD, leD, tr, PySem.W.dataLt_int, setAtN, L2.CMul, L2.CDiv, rd, setV, Pat.bind, Pat.ok, isD, refD_rf, isStr_rf, isStr_int, isStr_bool, isStr_none, isStr_str, isStr_lst, isStr_tup, isOwn, ownL, setO, frzE, List.forall_mem_map, -List.mem_map, ltOk_int, plainD_int, plainD_none, plainD_bool, eqv_int, cmpOk, filt_true, BK_set, BK_setT, BK_aug, BK_ext, BK_app, BK_six, BK_expr, BK_ret, BK_retN, BK_brk, BK_cnt, BK_pass, BK_frz, BK_ifs, BK_nil, Kont_nx, Kont_rt, Kont_bk, Kont_ct, RQ_rt, RQ_nx, e0, isSeq_F, its_F, plainD_F, eqv_F, inD_F]
        have hg6 : g.length ≤ 6 := by
          have : g ∈ G8 ++ [List.finRange n] := by rw [e]; simp
          rcases List.mem_append.mp this with h | h
          · exact hL8 g h
          · rw [List.mem_singleton.mp h, List.length_finRange]; omega
        refine ⟨fun _ _ => ⟨by omega, F ++ [g], by simp; omega, ?_, by simp⟩, fun _ => ⟨F, by omega, hLF, rfl⟩⟩
        intro q hq
        rcases List.mem_append.mp hq with h | h
        · exact hLF q h
        · rw [List.mem_singleton.mp h]; exact hg6
      · rintro ρ wa ⟨rfl, F, hF, hLF, b8, b9, b10, rfl⟩
        simp at hF
        simp [xb, xs, ev, evs, evSrc, wd, wds, wdSrc, wdB, wdS, ↓andThen, sq, sqP, Def.start, isVal, isBound, v1, v2, w2, toI, its_tup, its_lst, wlst, d1, d2, isInt_int, isInt_bool, isInt_none, isInt_str, isInt_lst, isInt_tup, isBool_bool, isBool_int, isBool_none, isBool_str, isBool_lst, isBool_tup, isSeq_tup, isSeq_lst, mk, Ex.fresh, P1.fresh, P2.fresh, ixD_tup, ixD_list, ixD_rf, itsW_tuple, itsW_list, itsW_rf, rfN_rf, lenD_tup, lenD_list, lenD_rf, ite_pairW, ite_boolD, ite_intD, boolsD_map, intsD_map2, intsD_map3, boolsD_map3, boolsD_nil, intsD_nil, Function.comp_def, List.filter_map, L2.atI, L2.ixN, addD_int, addD_str, addD_tup, addD_lst, mulD, ltD, leD, tr, PySem.W.dataLt_int, setAtN, L2.CMul, L2.CDiv, rd, setV, Pat.bind, Pat.ok, isD, refD_rf, isStr_rf, isStr_int, isStr_bool, isStr_none, isStr_str, isStr_lst, isStr_tup, isOwn, ownL, setO, frzE, List.forall_mem_map, -List.mem_map, ltOk_int, plainD_int, plainD_none, plainD_bool, eqv_int, cmpOk, filt_true, BK_set, BK_setT, BK_aug, BK_ext, BK_app, BK_six, BK_expr, BK_ret, BK_retN, BK_brk, BK_cnt, BK_pass, BK_frz, BK_ifs, BK_nil, Kont_nx, Kont_rt, Kont_bk, Kont_ct, RQ_rt, RQ_nx, NxQ_nx]
        exact ⟨hw8, F, by omega, hLF, rfl⟩
  rintro ρ9 w9 ⟨hw9, G9, hG9, hL9, b5, b6, b7, b8, b9, b10, hb, rfl⟩
  obtain ⟨R, r1, r2, r3⟩ := hL n G9 w9 (by omega)
  rcases hb with rfl | rfl
  · simp [xb, xs, ev, evs, evSrc, wd, wds, wdSrc, wdB, wdS, ↓andThen, sq, sqP, Def.start, isVal, isBound, v1, v2, w2, toI, its_tup, its_lst, wlst, d1, d2, isInt_int, isInt_bool, isInt_none, isInt_str, isInt_lst, isInt_tup, isBool_bool, isBool_int, isBool_none, isBool_str, isBool_lst, isBool_tup, isSeq_tup, isSeq_lst, mk, Ex.fresh, P1.fresh, P2.fresh, ixD_tup, ixD_list, ixD_rf, itsW_tuple, itsW_list, itsW_rf, rfN_rf, lenD_tup, lenD_list, lenD_rf, ite_pairW, ite_boolD, ite_intD, boolsD_map, intsD_map2, intsD_map3, boolsD_map3, boolsD_nil, intsD_nil, Function.comp_def, List.filter_map, L2.atI, L2.ixN, addD_int, addD_str, addD_tup, addD_lst, mulD, ltD, leD, tr, PySem.W.dataLt_int, setAtN, L2.CMul, L2.CDiv, rd, setV, Pat.bind, Pat.ok, isD, refD_rf, isStr_rf, isStr_int, isStr_bool, isStr_none, isStr_str, isStr_lst, isStr_tup, isOwn, ownL, setO, frzE, List.forall_mem_map, -List.mem_map, ltOk_int, plainD_int, plainD_none, plainD_bool, eqv_int, cmpOk, filt_true, BK_set, BK_setT, BK_aug, BK_ext, BK_app, BK_six, BK_expr, BK_ret, BK_retN, BK_brk, BK_cnt, BK_pass, BK_frz, BK_ifs, BK_nil, Kont_nx, Kont_rt, Kont_bk, Kont_ct, RQ_rt, RQ_nx, cEnv, r2, r3, hw9]
    exact ⟨_, fun g hg => hL9 g (r1 g (List.mem_filter.mp hg).1), rfl⟩
  · simp [xb, xs, ev, evs, evSrc, wd, wds, wdSrc, wdB, wdS, ↓andThen, sq, sqP, Def.start, isVal, isBound, v1, v2, w2, toI, its_tup, its_lst, wlst, d1, d2, isInt_int, isInt_bool, isInt_none, isInt_str, isInt_lst, isInt_tup, isBool_bool, isBool_int, isBool_none, isBool_str, isBool_lst, isBool_tup, isSeq_tup, isSeq_lst, mk, Ex.fresh, P1.fresh, P2.fresh, ixD_tup, ixD_list, ixD_rf, itsW_tuple, itsW_list, itsW_rf, rfN_rf, lenD_tup, lenD_list, lenD_rf, ite_pairW, ite_boolD, ite_intD, boolsD_map, intsD_map2, intsD_map3, boolsD_map3, boolsD_nil, intsD_nil, Function.comp_def, List.filter_map, L2.atI, L2.ixN, addD_int, addD_str, addD_tup, addD_lst, mulD, ltD, leD, tr, PySem.W.dataLt_int, setAtN, L2.CMul, L2.CDiv, rd, setV, Pat.bind, Pat.ok, isD, refD_rf, isStr_rf, isStr_int, isStr_bool, isStr_none, isStr_str, isStr_lst, isStr_tup, isOwn, ownL, setO, frzE, List.forall_mem_map, -List.mem_map, ltOk_int, plainD_int, plainD_none, plainD_bool, eqv_int, cmpOk, filt_true, BK_set, BK_setT, BK_aug, BK_ext, BK_app, BK_six, BK_expr, BK_ret, BK_retN, BK_brk, BK_cnt, BK_pass, BK_frz, BK_ifs, BK_nil, Kont_nx, Kont_rt, Kont_bk, Kont_ct, RQ_rt, RQ_nx, cEnv, r2, r3, hw9]
    exact ⟨_, fun g hg => hL9 g (r1 g (List.mem_filter.mp hg).1), rfl⟩
theorem allSk (k : Nat) : AllS (fnS pgm (k + 1)) := fun n w hn => allS k hn w
theorem leastSk (k : Nat) : LeastS (fnS pgm (k + 1)) := fun n G w hG => by
  obtain ⟨R, h1, _, h3, h4⟩ := leastS k G hG w
  exact ⟨R, h1, h3, h4⟩
def CouncilS (S : Sm) : Prop := ∀ (n : Nat) (one : Bool) (w : W), 1 ≤ n → n ≤ 5 → Box w → Does S 8 [rf 1, .int (n : Int), .bool one] w fun d w' => (∃ C : List (List (Fin n)), (∀ g ∈ C, g.length ≤ 6) ∧ d = encCF C) ∧ Box w'
theorem councilS (k : Nat) : CouncilS (fnS pgm (k + 3)) := fun n one w h1 hn hw =>
  does_of rfl rfl (council_body (fnS pgm (k + 2)) (drawS k) (allSk (k + 1)) (leastSk (k + 1)) h1 hn one w hw)
end K53

/-! K53h: _law_times. -/
namespace K53
open PySem Ev
/-- a member's hours: at most m of them, begun after lo and at most hi, ended by 10000 -/
def RowsOk (lo hi : Int) (m : Nat) (ps : List (Int × Int)) : Prop := ps.length ≤ m ∧ ∀ p ∈ ps, lo ≤ p.1 ∧ p.1 ≤ hi ∧ p.1 ≤ p.2 ∧ p.2 ≤ 10000
theorem RowsOk.snoc {lo hi : Int} {m : Nat} {ps : List (Int × Int)} (h : RowsOk lo hi m ps) {a b : Int} (h1 : lo ≤ a) (h2 : a ≤ hi) (h3 : a ≤ b) (h4 : b ≤ 10000) : RowsOk lo hi (m + 1) (ps ++ [(a, b)]) := by
  refine ⟨by have := h.1; simp; omega, fun p hp => ?_⟩
  rcases List.mem_append.mp hp with hp | hp
  · exact h.2 p hp
  · rw [List.mem_singleton.mp hp]; exact ⟨h1, h2, h3, h4⟩
theorem RowsOk.mono {lo hi : Int} {m m' : Nat} {ps : List (Int × Int)} (h : RowsOk lo hi m ps) (hm : m ≤ m') : RowsOk lo hi m' ps := ⟨Nat.le_trans h.1 hm, h.2⟩
def encRs (ts : List (List (Int × Int))) : List D := ts.map encR
theorem times_body (S : Sm) (hD : DrawS S) (n : Nat) (hn : n ≤ 5) (late : Int) (w : W) (hw : Box w) :
    BK S d__law_times.body (d__law_times.start [rf 1, .int (n : Int), .int late]) w (RQ fun d w' => (∃ ts : List (List (Int × Int)), d = .tuple (ts.map encR) ∧ ts.length = n ∧ ∀ t ∈ ts, RowsOk late (late + 63) 3 t) ∧ Box w') := by
  simp only [d__law_times]
  have hs := sizeLine_big
  refine bk_cut (fun ρ' w' => w' = w ∧ ρ' = [.val (rf 1), .val (.int (n : Int)), .val (.int late), .own [], .un, .un, .un, .un, .un]) (by simp [xb, xs, ev, evs, evSrc, wd, wds, wdSrc, wdB, wdS, ↓andThen, sq, sqP, Def.start, isVal, isBound, v1, v2, w2, toI, its_tup, its_lst, wlst, d1, d2, isInt_int, isInt_bool, isInt_none, isInt_str, isInt_lst, isInt_tup, isBool_bool, isBool_int, isBool_none, isBool_str, isBool_lst, isBool_tup, isSeq_tup, isSeq_lst, mk, Ex.fresh, P1.fresh, P2.fresh, ixD_tup, ixD_list, ixD_rf, itsW_tuple, itsW_list, itsW_rf, rfN_rf, lenD_tup, lenD_list, lenD_rf, ite_pairW, ite_boolD, ite_intD, boolsD_map, intsD_map2, intsD_map3, boolsD_map3, boolsD_nil, intsD_nil, Function.comp_def, List.filter_map, L2.atI, L2.ixN, addD_int, addD_str, addD_tup, addD_lst, mulD, ltD, leD, tr, PySem.W.dataLt_int, setAtN, L2.CMul, L2.CDiv, rd, setV, Pat.bind, Pat.ok, isD, refD_rf, isStr_rf, isStr_int, isStr_bool, isStr_none, isStr_str, isStr_lst, isStr_tup, isOwn, ownL, setO, frzE, List.forall_mem_map, -List.mem_map, ltOk_int, plainD_int, plainD_none, plainD_bool, eqv_int, cmpOk, filt_true, BK_set, BK_setT, BK_aug, BK_ext, BK_app, BK_six, BK_expr, BK_ret, BK_retN, BK_brk, BK_cnt, BK_pass, BK_frz, BK_ifs, BK_nil, Kont_nx, Kont_rt, Kont_bk, Kont_ct, RQ_rt, RQ_nx, NxQ_nx]) ?_
  rintro _ w0 ⟨rfl, rfl⟩
  refine bk_for (enc := fun (k : Fin n) => PyData.int (k.1 : Int)) (l := List.finRange n) (w1 := w0) ?_ ?_ (fun pr ρ' w' => Box w' ∧ ∃ ts : List (List (Int × Int)), ts.length = pr.length ∧ (∀ t ∈ ts, RowsOk late (late + 63) 3 t) ∧ ∃ b4 b5 b6 b7 b8, ρ' = [.val (rf 1), .val (.int (n : Int)), .val (.int late), .own (ts.map encR), b4, b5, b6, b7, b8]) ?_ ?_ ?_
  · simp [xb, xs, ev, evs, evSrc, wd, wds, wdSrc, wdB, wdS, ↓andThen, sq, sqP, Def.start, isVal, isBound, v1, v2, w2, toI, its_tup, its_lst, wlst, d1, d2, isInt_int, isInt_bool, isInt_none, isInt_str, isInt_lst, isInt_tup, isBool_bool, isBool_int, isBool_none, isBool_str, isBool_lst, isBool_tup, isSeq_tup, isSeq_lst, mk, Ex.fresh, P1.fresh, P2.fresh, ixD_tup, ixD_list, ixD_rf, itsW_tuple, itsW_list, itsW_rf, rfN_rf, lenD_tup, lenD_list, lenD_rf, ite_pairW, ite_boolD, ite_intD, boolsD_map, intsD_map2, intsD_map3, boolsD_map3, boolsD_nil, intsD_nil, Function.comp_def, List.filter_map, L2.atI, L2.ixN, addD_int, addD_str, addD_tup, addD_lst, mulD, ltD, leD, tr, PySem.W.dataLt_int, setAtN, L2.CMul, L2.CDiv, rd, setV, Pat.bind, Pat.ok, isD, refD_rf, isStr_rf, isStr_int, isStr_bool, isStr_none, isStr_str, isStr_lst, isStr_tup, isOwn, ownL, setO, frzE, List.forall_mem_map, -List.mem_map, ltOk_int, plainD_int, plainD_none, plainD_bool, eqv_int, cmpOk, filt_true, BK_set, BK_setT, BK_aug, BK_ext, BK_app, BK_six, BK_expr, BK_ret, BK_retN, BK_brk, BK_cnt, BK_pass, BK_frz, BK_ifs, BK_nil, Kont_nx, Kont_rt, Kont_bk, Kont_ct, RQ_rt, RQ_nx]
    omega
  · simp [xb, xs, ev, evs, evSrc, wd, wds, wdSrc, wdB, wdS, ↓andThen, sq, sqP, Def.start, isVal, isBound, v1, v2, w2, toI, its_tup, its_lst, wlst, d1, d2, isInt_int, isInt_bool, isInt_none, isInt_str, isInt_lst, isInt_tup, isBool_bool, isBool_int, isBool_none, isBool_str, isBool_lst, isBool_tup, isSeq_tup, isSeq_lst, mk, Ex.fresh, P1.fresh, P2.fresh, ixD_tup, ixD_list, ixD_rf, itsW_tuple, itsW_list, itsW_rf, rfN_rf, lenD_tup, lenD_list, lenD_rf, ite_pairW, ite_boolD, ite_intD, boolsD_map, intsD_map2, intsD_map3, boolsD_map3, boolsD_nil, intsD_nil, Function.comp_def, List.filter_map, L2.atI, L2.ixN, addD_int, addD_str, addD_tup, addD_lst, mulD, ltD, leD, tr, PySem.W.dataLt_int, setAtN, L2.CMul, L2.CDiv, rd, setV, Pat.bind, Pat.ok, isD, refD_rf, isStr_rf, isStr_int, isStr_bool, isStr_none, isStr_str, isStr_lst, isStr_tup, isOwn, ownL, setO, frzE, List.forall_mem_map, -List.mem_map, ltOk_int, plainD_int, plainD_none, plainD_bool, eqv_int, cmpOk, filt_true, BK_set, BK_setT, BK_aug, BK_ext, BK_app, BK_six, BK_expr, BK_ret, BK_retN, BK_brk, BK_cnt, BK_pass, BK_frz, BK_ifs, BK_nil, Kont_nx, Kont_rt, Kont_bk, Kont_ct, RQ_rt, RQ_nx, rng_fin]
  · exact ⟨hw, [], by simp, by simp, _, _, _, _, _, rfl⟩
  · rintro pr x post e ρ' wa ⟨hwa, ts, ht1, ht2, b4, b5, b6, b7, b8, rfl⟩
    have hpl : pr.length < 5 := by
      have := congrArg List.length e
      simp at this
      omega
    refine ⟨trivial, ?_⟩
    obtain ⟨d1, w1, e1, e2, a, rfl, a1, a2, hw1⟩ := (hD wa hwa 12 (by omega) (by omega)).ex
    refine bk_cut (fun ρ' w' => w' = wa ∧ ρ' = [.val (rf 1), .val (.int (n : Int)), .val (.int late), .own (ts.map encR), .val (.int (x.1 : Int)), .own [], b6, b7, b8]) (by simp [xb, xs, ev, evs, evSrc, wd, wds, wdSrc, wdB, wdS, ↓andThen, sq, sqP, Def.start, isVal, isBound, v1, v2, w2, toI, its_tup, its_lst, wlst, d1, d2, isInt_int, isInt_bool, isInt_none, isInt_str, isInt_lst, isInt_tup, isBool_bool, isBool_int, isBool_none, isBool_str, isBool_lst, isBool_tup, isSeq_tup, isSeq_lst, mk, Ex.fresh, P1.fresh, P2.fresh, ixD_tup, ixD_list, ixD_rf, itsW_tuple, itsW_list, itsW_rf, rfN_rf, lenD_tup, lenD_list, lenD_rf, ite_pairW, ite_boolD, ite_intD, boolsD_map, intsD_map2, intsD_map3, boolsD_map3, boolsD_nil, intsD_nil, Function.comp_def, List.filter_map, L2.atI, L2.ixN, addD_int, addD_str, addD_tup, addD_lst, mulD, ltD, leD, tr, PySem.W.dataLt_int, setAtN, L2.CMul, L2.CDiv, rd, setV, Pat.bind, Pat.ok, isD, refD_rf, isStr_rf, isStr_int, isStr_bool, isStr_none, isStr_str, isStr_lst, isStr_tup, isOwn, ownL, setO, frzE, List.forall_mem_map, -List.mem_map, ltOk_int, plainD_int, plainD_none, plainD_bool, eqv_int, cmpOk, filt_true, BK_set, BK_setT, BK_aug, BK_ext, BK_app, BK_six, BK_expr, BK_ret, BK_retN, BK_brk, BK_cnt, BK_pass, BK_frz, BK_ifs, BK_nil, Kont_nx, Kont_rt, Kont_bk, Kont_ct, RQ_rt, RQ_nx, NxQ_nx]) ?_
    rintro _ _ ⟨rfl, rfl⟩
    refine bk_cut (fun ρ' w' => w' = w1 ∧ ρ' = [.val (rf 1), .val (.int (n : Int)), .val (.int late), .own (ts.map encR), .val (.int (x.1 : Int)), .own [], .val (.int (late + a)), b7, b8]) (by simp [xb, xs, ev, evs, evSrc, wd, wds, wdSrc, wdB, wdS, ↓andThen, sq, sqP, Def.start, isVal, isBound, v1, v2, w2, toI, its_tup, its_lst, wlst, d1, d2, isInt_int, isInt_bool, isInt_none, isInt_str, isInt_lst, isInt_tup, isBool_bool, isBool_int, isBool_none, isBool_str, isBool_lst, isBool_tup, isSeq_tup, isSeq_lst, mk, Ex.fresh, P1.fresh, P2.fresh, ixD_tup, ixD_list, ixD_rf, itsW_tuple, itsW_list, itsW_rf, rfN_rf, lenD_tup, lenD_list, lenD_rf, ite_pairW, ite_boolD, ite_intD, boolsD_map, intsD_map2, intsD_map3, boolsD_map3, boolsD_nil, intsD_nil, Function.comp_def, List.filter_map, L2.atI, L2.ixN, addD_int, addD_str, addD_tup, addD_lst, mulD, ltD, leD, tr, PySem.W.dataLt_int, setAtN, L2.CMul, L2.CDiv, rd, setV, Pat.bind, Pat.ok, isD, refD_rf, isStr_rf, isStr_int, isStr_bool, isStr_none, isStr_str, isStr_lst, isStr_tup, isOwn, ownL, setO, frzE, List.forall_mem_map, -List.mem_map, ltOk_int, plainD_int, plainD_none, plainD_bool, eqv_int, cmpOk, filt_true, BK_set, BK_setT, BK_aug, BK_ext, BK_app, BK_six, BK_expr, BK_ret, BK_retN, BK_brk, BK_cnt, BK_pass, BK_frz, BK_ifs, BK_nil, Kont_nx, Kont_rt, Kont_bk, Kont_ct, RQ_rt, RQ_nx, NxQ_nx, e1, e2]) ?_
    rintro _ _ ⟨rfl, rfl⟩
    obtain ⟨d2, w2', e3, e4, c, rfl, c1, c2, hw2⟩ := (hD _ hw1 4 (by omega) (by omega)).ex
    have hrng : rngL 0 c = (List.finRange c.toNat).map fun k => PyData.int (k.1 : Int) := by
      rw [← rng_fin, Int.toNat_of_nonneg c1]
    refine bk_for (enc := fun (k : Fin c.toNat) => PyData.int (k.1 : Int)) (l := List.finRange c.toNat) (w1 := w2') ?_ ?_ (fun pr ρ' w' => Box w' ∧ ∃ (ps : List (Int × Int)) (at' : Int), RowsOk late (late + 63) pr.length ps ∧ late ≤ at' ∧ at' ≤ late + 11 + 26 * pr.length ∧ ∃ b7 b8, ρ' = [.val (rf 1), .val (.int (n : Int)), .val (.int late), .own (ts.map encR), .val (.int (x.1 : Int)), .own (ps.map encP), .val (.int at'), b7, b8]) ?_ ?_ ?_
    · simp [xb, xs, ev, evs, evSrc, wd, wds, wdSrc, wdB, wdS, ↓andThen, sq, sqP, Def.start, isVal, isBound, v1, v2, w2, toI, its_tup, its_lst, wlst, d1, d2, isInt_int, isInt_bool, isInt_none, isInt_str, isInt_lst, isInt_tup, isBool_bool, isBool_int, isBool_none, isBool_str, isBool_lst, isBool_tup, isSeq_tup, isSeq_lst, mk, Ex.fresh, P1.fresh, P2.fresh, ixD_tup, ixD_list, ixD_rf, itsW_tuple, itsW_list, itsW_rf, rfN_rf, lenD_tup, lenD_list, lenD_rf, ite_pairW, ite_boolD, ite_intD, boolsD_map, intsD_map2, intsD_map3, boolsD_map3, boolsD_nil, intsD_nil, Function.comp_def, List.filter_map, L2.atI, L2.ixN, addD_int, addD_str, addD_tup, addD_lst, mulD, ltD, leD, tr, PySem.W.dataLt_int, setAtN, L2.CMul, L2.CDiv, rd, setV, Pat.bind, Pat.ok, isD, refD_rf, isStr_rf, isStr_int, isStr_bool, isStr_none, isStr_str, isStr_lst, isStr_tup, isOwn, ownL, setO, frzE, List.forall_mem_map, -List.mem_map, ltOk_int, plainD_int, plainD_none, plainD_bool, eqv_int, cmpOk, filt_true, BK_set, BK_setT, BK_aug, BK_ext, BK_app, BK_six, BK_expr, BK_ret, BK_retN, BK_brk, BK_cnt, BK_pass, BK_frz, BK_ifs, BK_nil, Kont_nx, Kont_rt, Kont_bk, Kont_ct, RQ_rt, RQ_nx, e3, e4]
      omega
    · simp [xb, xs, ev, evs, evSrc, wd, wds, wdSrc, wdB, wdS, ↓andThen, sq, sqP, Def.start, isVal, isBound, v1, v2, w2, toI, its_tup, its_lst, wlst, d1, d2, isInt_int, isInt_bool, isInt_none, isInt_str, isInt_lst, isInt_tup, isBool_bool, isBool_int, isBool_none, isBool_str, isBool_lst, isBool_tup, isSeq_tup, isSeq_lst, mk, Ex.fresh, P1.fresh, P2.fresh, ixD_tup, ixD_list, ixD_rf, itsW_tuple, itsW_list, itsW_rf, rfN_rf, lenD_tup, lenD_list, lenD_rf, ite_pairW, ite_boolD, ite_intD, boolsD_map, intsD_map2, intsD_map3, boolsD_map3, boolsD_nil, intsD_nil, Function.comp_def, List.filter_map, L2.atI, L2.ixN, addD_int, addD_str, addD_tup, addD_lst, mulD, ltD, leD, tr, PySem.W.dataLt_int, setAtN, L2.CMul, L2.CDiv, rd, setV, Pat.bind, Pat.ok, isD, refD_rf, isStr_rf, isStr_int, isStr_bool, isStr_none, isStr_str, isStr_lst, isStr_tup, isOwn, ownL, setO, frzE, List.forall_mem_map, -List.mem_map, ltOk_int, plainD_int, plainD_none, plainD_bool, eqv_int, cmpOk, filt_true, BK_set, BK_setT, BK_aug, BK_ext, BK_app, BK_six, BK_expr, BK_ret, BK_retN, BK_brk, BK_cnt, BK_pass, BK_frz, BK_ifs, BK_nil, Kont_nx, Kont_rt, Kont_bk, Kont_ct, RQ_rt, RQ_nx, e3, e4, hrng]
    · exact ⟨hw2, [], late + a, ⟨by simp, by simp⟩, by omega, by simp; omega, _, _, rfl⟩
    · rintro pr2 y post2 q ρ' wb ⟨hwb, ps, at', hps, t1, t2, b7, b8, rfl⟩
      have hpl2 : pr2.length < 3 := by
        have := congrArg List.length q
        simp at this
        omega
      obtain ⟨d3, w3, f1, f2, i, rfl, i1, i2, hw3⟩ := (hD _ hwb 2 (by omega) (by omega)).ex
      have hi : i = 0 ∨ i = 1 := by omega
      refine ⟨trivial, ?_⟩
      have hps2 := hps.1
      rcases hi with rfl | rfl
      · obtain ⟨d4, w4, f3, f4, j, rfl, j1, j2, hw4⟩ := (hD _ hw3 3 (by omega) (by omega)).ex
        obtain ⟨d5, w5, f5, f6, u, rfl, u1, u2, hw5⟩ := (hD _ hw4 6 (by omega) (by omega)).ex
        simp [xb, xs, ev, evs, evSrc, wd, wds, wdSrc, wdB, wdS, ↓andThen, sq, sqP, Def.start, isVal, isBound, v1, v2, w2, toI, its_tup, its_lst, wlst, d1, d2, isInt_int, isInt_bool, isInt_none, isInt_str, isInt_lst, isInt_tup, isBool_bool, isBool_int, isBool_none, isBool_str, isBool_lst, isBool_tup, isSeq_tup, isSeq_lst, mk, Ex.fresh, P1.fresh, P2.fresh, ixD_tup, ixD_list, ixD_rf, itsW_tuple, itsW_list, itsW_rf, rfN_rf, lenD_tup, lenD_list, lenD_rf, ite_pairW, ite_boolD, ite_intD, boolsD_map, intsD_map2, intsD_map3, boolsD_map3, boolsD_nil, intsD_nil, Function.comp_def, List.filter_map, L2.atI, L2.ixN, addD_int, addD_str, addD_tup, addD_lst, mulD, ltD, leD, tr, PySem.W.dataLt_int, setAtN, L2.CMul, L2.CDiv, rd, setV, Pat.bind, Pat.ok, isD, refD_rf, isStr_rf, isStr_int, isStr_bool, isStr_none, isStr_str, isStr_lst, isStr_tup, isOwn, ownL, setO, frzE, List.forall_mem_map, -List.mem_map, ltOk_int, plainD_int, plainD_none, plainD_bool, eqv_int, cmpOk, filt_true, BK_set, BK_setT, BK_aug, BK_ext, BK_app, BK_six, BK_expr, BK_ret, BK_retN, BK_brk, BK_cnt, BK_pass, BK_frz, BK_ifs, BK_nil, Kont_nx, Kont_rt, Kont_bk, Kont_ct, RQ_rt, RQ_nx, f1, f2, f3, f4, f5, f6]
        refine ⟨fun hle => ⟨by omega, hw5, ps ++ [(at', at' + j)], ?_⟩, fun hle => ⟨hw5, ps, ?_⟩⟩
        · exact ⟨hps.snoc t1 (by omega) (by omega) hle, _, by omega, by omega, by simp [encP], rfl⟩
        · exact ⟨hps.mono (by omega), _, by omega, by omega, rfl, rfl⟩
      · obtain ⟨d4, w4, f3, f4, j, rfl, j1, j2, hw4⟩ := (hD _ hw3 20 (by omega) (by omega)).ex
        obtain ⟨d5, w5, f5, f6, u, rfl, u1, u2, hw5⟩ := (hD _ hw4 6 (by omega) (by omega)).ex
        simp [xb, xs, ev, evs, evSrc, wd, wds, wdSrc, wdB, wdS, ↓andThen, sq, sqP, Def.start, isVal, isBound, v1, v2, w2, toI, its_tup, its_lst, wlst, d1, d2, isInt_int, isInt_bool, isInt_none, isInt_str, isInt_lst, isInt_tup, isBool_bool, isBool_int, isBool_none, isBool_str, isBool_lst, isBool_tup, isSeq_tup, isSeq_lst, mk, Ex.fresh, P1.fresh, P2.fresh, ixD_tup, ixD_list, ixD_rf, itsW_tuple, itsW_list, itsW_rf, rfN_rf, lenD_tup, lenD_list, lenD_rf, ite_pairW, ite_boolD, ite_intD, boolsD_map, intsD_map2, intsD_map3, boolsD_map3, boolsD_nil, intsD_nil, Function.comp_def, List.filter_map, L2.atI, L2.ixN, addD_int, addD_str, addD_tup, addD_lst, mulD, ltD, leD, tr, PySem.W.dataLt_int, setAtN, L2.CMul, L2.CDiv, rd, setV, Pat.bind, Pat.ok, isD, refD_rf, isStr_rf, isStr_int, isStr_bool, isStr_none, isStr_str, isStr_lst, isStr_tup, isOwn, ownL, setO, frzE, List.forall_mem_map, -List.mem_map, ltOk_int, plainD_int, plainD_none, plainD_bool, eqv_int, cmpOk, filt_true, BK_set, BK_setT, BK_aug, BK_ext, BK_app, BK_six, BK_expr, BK_ret, BK_retN, BK_brk, BK_cnt, BK_pass, BK_frz, BK_ifs, BK_nil, Kont_nx, Kont_rt, Kont_bk, Kont_ct, RQ_rt, RQ_nx, f1, f2, f3, f4, f5, f6]
        refine ⟨fun hle => ⟨by omega, hw5, ps ++ [(at', at' + j)], ?_⟩, fun hle => ⟨hw5, ps, ?_⟩⟩
        · exact ⟨hps.snoc t1 (by omega) (by omega) hle, _, by omega, by omega, by simp [encP], rfl⟩
        · exact ⟨hps.mono (by omega), _, by omega, by omega, rfl, rfl⟩
    · rintro ρ' wb ⟨hwb, ps, at', hps, t1, t2, b7, b8, rfl⟩
      simp [xb, xs, ev, evs, evSrc, wd, wds, wdSrc, wdB, wdS, ↓andThen, sq, sqP, Def.start, isVal, isBound, v1, v2, w2, toI, its_tup, its_lst, wlst, d1, d2, isInt_int, isInt_bool, isInt_none, isInt_str, isInt_lst, isInt_tup, isBool_bool, isBool_int, isBool_none, isBool_str, isBool_lst, isBool_tup, isSeq_tup, isSeq_lst, mk, Ex.fresh, P1.fresh, P2.fresh, ixD_tup, ixD_list, ixD_rf, itsW_tuple, itsW_list, itsW_rf, rfN_rf, lenD_tup, lenD_list, lenD_rf, ite_pairW, ite_boolD, ite_intD, boolsD_map, intsD_map2, intsD_map3, boolsD_map3, boolsD_nil, intsD_nil, Function.comp_def, List.filter_map, L2.atI, L2.ixN, addD_int, addD_str, addD_tup, addD_lst, mulD, ltD, leD, tr, PySem.W.dataLt_int, setAtN, L2.CMul, L2.CDiv, rd, setV, Pat.bind, Pat.ok, isD, refD_rf, isStr_rf, isStr_int, isStr_bool, isStr_none, isStr_str, isStr_lst, isStr_tup, isOwn, ownL, setO, frzE, List.forall_mem_map, -List.mem_map, ltOk_int, plainD_int, plainD_none, plainD_bool, eqv_int, cmpOk, filt_true, BK_set, BK_setT, BK_aug, BK_ext, BK_app, BK_six, BK_expr, BK_ret, BK_retN, BK_brk, BK_cnt, BK_pass, BK_frz, BK_ifs, BK_nil, Kont_nx, Kont_rt, Kont_bk, Kont_ct, RQ_rt, RQ_nx, encR]
      simp at hps
      refine ⟨by omega, hwb, ts ++ [ps], by simp [ht1], ?_, by simp [encR]⟩
      intro t ht
      rcases List.mem_append.mp ht with ht | ht
      · exact ht2 t ht
      · rw [List.mem_singleton.mp ht]; exact hps.mono (by omega)
  · rintro ρ' wa ⟨hwa, ts, ht1, ht2, b4, b5, b6, b7, b8, rfl⟩
    simp [xb, xs, ev, evs, evSrc, wd, wds, wdSrc, wdB, wdS, ↓andThen, sq, sqP, Def.start, isVal, isBound, v1, v2, w2, toI, its_tup, its_lst, wlst, d1, d2, isInt_int, isInt_bool, isInt_none, isInt_str, isInt_lst, isInt_tup, isBool_bool, isBool_int, isBool_none, isBool_str, isBool_lst, isBool_tup, isSeq_tup, isSeq_lst, mk, Ex.fresh, P1.fresh, P2.fresh, ixD_tup, ixD_list, ixD_rf, itsW_tuple, itsW_list, itsW_rf, rfN_rf, lenD_tup, lenD_list, lenD_rf, ite_pairW, ite_boolD, ite_intD, boolsD_map, intsD_map2, intsD_map3, boolsD_map3, boolsD_nil, intsD_nil, Function.comp_def, List.filter_map, L2.atI, L2.ixN, addD_int, addD_str, addD_tup, addD_lst, mulD, ltD, leD, tr, PySem.W.dataLt_int, setAtN, L2.CMul, L2.CDiv, rd, setV, Pat.bind, Pat.ok, isD, refD_rf, isStr_rf, isStr_int, isStr_bool, isStr_none, isStr_str, isStr_lst, isStr_tup, isOwn, ownL, setO, frzE, List.forall_mem_map, -List.mem_map, ltOk_int, plainD_int, plainD_none, plainD_bool, eqv_int, cmpOk, filt_true, BK_set, BK_setT, BK_aug, BK_ext, BK_app, BK_six, BK_expr, BK_ret, BK_retN, BK_brk, BK_cnt, BK_pass, BK_frz, BK_ifs, BK_nil, Kont_nx, Kont_rt, Kont_bk, Kont_ct, RQ_rt, RQ_nx]
    exact ⟨⟨ts, rfl, by simpa using ht1, ht2⟩, hwa⟩
def TimesS (S : Sm) : Prop := ∀ (n : Nat) (late : Int) (w : W), n ≤ 5 → Box w → Does S 11 [rf 1, .int (n : Int), .int late] w fun d w' => (∃ ts : List (List (Int × Int)), d = .tuple (ts.map encR) ∧ ts.length = n ∧ ∀ t ∈ ts, RowsOk late (late + 63) 3 t) ∧ Box w'
theorem timesS (k : Nat) : TimesS (fnS pgm (k + 3)) := fun n late w hn hw =>
  does_of rfl rfl (times_body (fnS pgm (k + 2)) (drawS k) n hn late w hw)
end K53

/-! K53m: the plain law of k53: the first moment is the first of all moments. -/
namespace K53
open PySem Ev
variable {n : Nat} (C : List (List (Fin n))) (T : Fin n → List (Int × Int)) (m ℓ : Int)
def iRng (a b : Int) : List Int := (List.range (b - a).toNat).map fun (k : Nat) => a + (k : Int)
theorem mem_iRng {a b x : Int} : x ∈ iRng a b ↔ a ≤ x ∧ x < b := by
  simp only [iRng, List.mem_map, List.mem_range]
  exact ⟨fun ⟨k, h1, h2⟩ => by omega, fun h => ⟨(x - a).toNat, by omega, by omega⟩⟩
theorem iRng_lt (a b : Int) : (iRng a b).Pairwise fun x y => x < y := by
  rw [iRng, List.pairwise_map]
  exact List.pairwise_lt_range.imp fun h => by omega
theorem find_first {β : Type} {h : Int → Option β} {x : β} : ∀ {L : List Int}, (L.Pairwise fun a b => a ≤ b) → ∀ {b : Int}, b ∈ L → h b = some x → (∀ c ∈ L, c < b → h c = none) → L.findSome? h = some x
  | a :: L, hp, b, hb, hx, hn => by
    rw [List.findSome?_cons]
    cases ha : h a with
    | some y =>
      have : ¬ a < b := fun q => by have := hn a (List.mem_cons_self ..) q; rw [ha] at this; cases this
      rcases List.mem_cons.mp hb with e | hb
      · rw [← e, hx] at ha; exact ha.symm ▸ rfl
      · have h2 := (List.pairwise_cons.mp hp).1 b hb
        have : a = b := by omega
        rw [this, hx] at ha
        exact ha.symm ▸ rfl
    | none =>
      rcases List.mem_cons.mp hb with e | hb
      · rw [← e, hx] at ha; cases ha
      · exact find_first (List.pairwise_cons.mp hp).2 hb hx fun c hc => hn c (List.mem_cons_of_mem _ hc)
theorem find_least {β : Type} {h : Int → Option β} {x : β} {L : List Int} (hp : L.Pairwise fun a b => a ≤ b) (hf : L.findSome? h = some x) : ∃ b ∈ L, h b = some x ∧ ∀ c ∈ L, c < b → h c = none := by
  induction L with
  | nil => cases hf
  | cons a L ih =>
    rw [List.findSome?_cons] at hf
    cases ha : h a with
    | some y =>
      rw [ha] at hf
      refine ⟨a, List.mem_cons_self .., by rw [ha]; exact hf, fun c hc q => ?_⟩
      rcases List.mem_cons.mp hc with e | hc
      · omega
      · have := (List.pairwise_cons.mp hp).1 c hc; omega
    | none =>
      rw [ha] at hf
      obtain ⟨b, h1, h2, h3⟩ := ih (List.pairwise_cons.mp hp).2 hf
      refine ⟨b, List.mem_cons_of_mem _ h1, h2, fun c hc q => ?_⟩
      rcases List.mem_cons.mp hc with e | hc
      · rw [e]; exact ha
      · exact h3 c hc q
theorem mem_starts {b : Int} : b ∈ starts T m ↔ b = m ∨ ∃ k, ∃ p ∈ T k, m < p.1 ∧ p.1 = b := by
  simp [starts]
def gB (b : Int) : Option D := C.findSome? (tryQ T ℓ b)
theorem gB_none {b : Int} : gB C T ℓ b = none ↔ ∀ q ∈ C, okQ T ℓ b q = false := by
  simp [gB, tryQ, List.findSome?_eq_none_iff]
theorem first_eq {late : Int} (h1 : late ≤ m) (hT : ∀ k, RowsOk late (late + 63) 3 (T k)) :
    (sI (starts T m)).findSome? (tryB C T ℓ) = (iRng m ((if 10000 - ℓ < m + 120 then 10000 - ℓ else m + 120) + 1)).findSome? (gB C T ℓ) := by
  generalize hs : (if 10000 - ℓ < m + 120 then 10000 - ℓ else m + 120) + 1 = stop
  have hst : stop = 10000 - ℓ + 1 ∧ 10000 - ℓ < m + 120 ∨ stop = m + 120 + 1 ∧ m + 120 ≤ 10000 - ℓ := by
    by_cases h : 10000 - ℓ < m + 120
    · rw [if_pos h] at hs; omega
    · rw [if_neg h] at hs; omega
  have hb : ∀ b ∈ starts T m, m ≤ b ∧ b ≤ m + 63 := by
    intro b hb
    rcases (mem_starts T m).mp hb with rfl | ⟨k, p, hp, h3, rfl⟩
    · omega
    · have := (hT k).2 p hp; omega
  have htry : ∀ b, tryB C T ℓ b = if b + ℓ ≤ 10000 then gB C T ℓ b else none := fun b => rfl
  cases hf : (iRng m stop).findSome? (gB C T ℓ) with
  | none =>
    rw [List.findSome?_eq_none_iff] at hf ⊢
    intro b hbm
    have := hb b (mem_sI.mp hbm)
    rw [htry]
    split
    · exact hf b (mem_iRng.mpr (by omega))
    · rfl
  | some x =>
    obtain ⟨b, m1, m2, m3⟩ := find_least ((iRng_lt m stop).imp fun h => by omega) hf
    have hbr := mem_iRng.mp m1
    have hbs : b ∈ starts T m := by
      rw [mem_starts]
      by_cases e : b = m
      · exact .inl e
      · right
        by_cases hc : ∃ k, ∃ p ∈ T k, m < p.1 ∧ p.1 = b
        · exact hc
        · exfalso
          have h0 := (gB_none C T ℓ).mp (m3 (b - 1) (mem_iRng.mpr (by omega)) (by omega))
          have : gB C T ℓ b = none := by
            rw [gB_none]
            intro q hq
            have hq0 := h0 q hq
            rw [okQ, List.all_eq_false] at hq0 ⊢
            obtain ⟨k, hk, hk2⟩ := hq0
            refine ⟨k, hk, fun hin => hk2 ?_⟩
            simp only [inR, List.any_eq_true, Bool.and_eq_true, decide_eq_true_eq] at hin ⊢
            obtain ⟨p, hp, p1, p2⟩ := hin
            refine ⟨p, hp, ?_, by omega⟩
            have : p.1 ≠ b := fun e2 => hc ⟨k, p, hp, by omega, e2⟩
            omega
          rw [this] at m2; cases m2
    refine find_first (sI_sorted _) (mem_sI.mpr hbs) ?_ ?_
    · rw [htry, if_pos (by omega)]; exact m2
    · intro c hc hcb
      have := hb c (mem_sI.mp hc)
      rw [htry]
      split
      · exact m3 c (mem_iRng.mpr (by omega)) hcb
      · rfl
theorem first_some {x : D} (h : (sI (starts T m)).findSome? (tryB C T ℓ) = some x) : ∃ (b : Int) (q : List (Fin n)), x = .tuple [.int b, encF q] ∧ firstC C T b ℓ = x := by
  obtain ⟨b, h1, h2, _⟩ := find_least (sI_sorted _) h
  have h3 := h2
  unfold tryB at h3
  split at h3
  · obtain ⟨q, _, hq⟩ := List.exists_of_findSome?_eq_some h3
    unfold tryQ at hq
    split at hq
    · refine ⟨b, q, (Option.some.inj hq).symm, ?_⟩
      have : (sI (starts T b)).findSome? (tryB C T ℓ) = some x := find_first (sI_sorted _) (mem_sI.mpr ((mem_starts T b).mpr (.inl rfl))) h2 fun c hc hcb => by
        rcases (mem_starts T b).mp (mem_sI.mp hc) with e | ⟨k, p, _, h5, h6⟩ <;> omega
      simp [firstC, this]
    · cases hq
  · cases h3
theorem first_end : firstC [[]] T 10000 0 = .tuple [.int 10000, .tuple []] := by
  have : (sI (starts T 10000)).findSome? (tryB [[]] T 0) = some (.tuple [.int 10000, .tuple []]) := find_first (sI_sorted _) (b := 10000) (mem_sI.mpr ((mem_starts T 10000).mpr (.inl rfl))) (by simp [tryB, tryQ, okQ, encF]) fun c hc hcb => by
    rcases (mem_starts T 10000).mp (mem_sI.mp hc) with e | ⟨k, p, _, h5, h6⟩ <;> omega
  simp [firstC, this]
theorem first_over {late : Int} (hT : ∀ k, RowsOk late (late + 63) 3 (T k)) : firstC C T 10000 1 = .none := by
  have : (sI (starts T 10000)).findSome? (tryB C T 1) = none := by
    rw [List.findSome?_eq_none_iff]
    intro b hb
    rcases (mem_starts T 10000).mp (mem_sI.mp hb) with rfl | ⟨k, p, h4, h5, h6⟩
    · rfl
    · have := (hT k).2 p h4; omega
  simp [firstC, this]
theorem starts_len {late : Int} (hn : n ≤ 5) (hT : ∀ k, RowsOk late (late + 63) 3 (T k)) : (starts T m).length < 64 := by
  have : ∀ l : List (Fin n), (l.flatMap fun k => ((T k).filter fun p => decide (p.1 > m)).map (·.1)).length ≤ 3 * l.length := by
    intro l
    induction l with
    | nil => simp
    | cons a l ih =>
      rw [List.flatMap_cons, List.length_append, List.length_map, List.length_cons]
      have h1 := (hT a).1
      have h2 := List.length_filter_le (fun p : Int × Int => decide (p.1 > m)) (T a)
      omega
  have := this (List.finRange n)
  simp only [List.length_finRange] at this
  simp only [starts, List.length_cons]
  omega
end K53

/-! K53i: _law_same. -/
namespace K53
open PySem Ev
def SameAt (S : Sm) (d : D) : Prop := ∀ w, S.wd 5 [d, d] w ∧ S.val 5 [d, d] w = (.bool true, w)
theorem same_none (k : Nat) : SameAt (fnS pgm (k + 1)) .none := fun w => by
  have h : Does (fnS pgm (k + 1)) 5 [.none, .none] w fun x wx => x = .bool true ∧ wx = w := by
    refine does_of rfl rfl ?_
    simp only [d__law_same]
    simp [xb, xs, ev, evs, evSrc, wd, wds, wdSrc, wdB, wdS, ↓andThen, sq, sqP, Def.start, isVal, isBound, v1, v2, w2, toI, its_tup, its_lst, wlst, d1, d2, isInt_int, isInt_bool, isInt_none, isInt_str, isInt_lst, isInt_tup, isBool_bool, isBool_int, isBool_none, isBool_str, isBool_lst, isBool_tup, isSeq_tup, isSeq_lst, mk, Ex.fresh, P1.fresh, P2.fresh, ixD_tup, ixD_list, ixD_rf, itsW_tuple, itsW_list, itsW_rf, rfN_rf, lenD_tup, lenD_list, lenD_rf, ite_pairW, ite_boolD, ite_intD, boolsD_map, intsD_map2, intsD_map3, boolsD_map3, boolsD_nil, intsD_nil, Function.comp_def, List.filter_map, L2.atI, L2.ixN, addD_int, addD_str, addD_tup, addD_lst, mulD, ltD, leD, tr, PySem.W.dataLt_int, setAtN, L2.CMul, L2.CDiv, rd, setV, Pat.bind, Pat.ok, isD, refD_rf, isStr_rf, isStr_int, isStr_bool, isStr_none, isStr_str, isStr_lst, isStr_tup, isOwn, ownL, setO, frzE, List.forall_mem_map, -List.mem_map, ltOk_int, plainD_int, plainD_none, plainD_bool, eqv_int, cmpOk, filt_true, BK_set, BK_setT, BK_aug, BK_ext, BK_app, BK_six, BK_expr, BK_ret, BK_retN, BK_brk, BK_cnt, BK_pass, BK_frz, BK_ifs, BK_nil, Kont_nx, Kont_rt, Kont_bk, Kont_ct, RQ_rt, RQ_nx, rfN, tyD]
  exact h.eq
theorem same_int (k : Nat) (i : Int) : SameAt (fnS pgm (k + 1)) (.int i) := fun w => by
  have h : Does (fnS pgm (k + 1)) 5 [.int i, .int i] w fun x wx => x = .bool true ∧ wx = w := by
    refine does_of rfl rfl ?_
    simp only [d__law_same]
    simp [xb, xs, ev, evs, evSrc, wd, wds, wdSrc, wdB, wdS, ↓andThen, sq, sqP, Def.start, isVal, isBound, v1, v2, w2, toI, its_tup, its_lst, wlst, d1, d2, isInt_int, isInt_bool, isInt_none, isInt_str, isInt_lst, isInt_tup, isBool_bool, isBool_int, isBool_none, isBool_str, isBool_lst, isBool_tup, isSeq_tup, isSeq_lst, mk, Ex.fresh, P1.fresh, P2.fresh, ixD_tup, ixD_list, ixD_rf, itsW_tuple, itsW_list, itsW_rf, rfN_rf, lenD_tup, lenD_list, lenD_rf, ite_pairW, ite_boolD, ite_intD, boolsD_map, intsD_map2, intsD_map3, boolsD_map3, boolsD_nil, intsD_nil, Function.comp_def, List.filter_map, L2.atI, L2.ixN, addD_int, addD_str, addD_tup, addD_lst, mulD, ltD, leD, tr, PySem.W.dataLt_int, setAtN, L2.CMul, L2.CDiv, rd, setV, Pat.bind, Pat.ok, isD, refD_rf, isStr_rf, isStr_int, isStr_bool, isStr_none, isStr_str, isStr_lst, isStr_tup, isOwn, ownL, setO, frzE, List.forall_mem_map, -List.mem_map, ltOk_int, plainD_int, plainD_none, plainD_bool, eqv_int, cmpOk, filt_true, BK_set, BK_setT, BK_aug, BK_ext, BK_app, BK_six, BK_expr, BK_ret, BK_retN, BK_brk, BK_cnt, BK_pass, BK_frz, BK_ifs, BK_nil, Kont_nx, Kont_rt, Kont_bk, Kont_ct, RQ_rt, RQ_nx, rfN, tyD]
  exact h.eq
theorem same_tup (k : Nat) (yl : List D) (hl : yl.length ≤ 1000000) (hx : ∀ x ∈ yl, SameAt (fnS pgm k) x) : SameAt (fnS pgm (k + 1)) (.tuple yl) := fun w => by
  have h : Does (fnS pgm (k + 1)) 5 [.tuple yl, .tuple yl] w fun x wx => x = .bool true ∧ wx = w := by
    refine does_of rfl rfl ?_
    have h1 : ∀ (j : Nat) (hj : j < yl.length) w, (fnS pgm k).wd 5 [yl[j], yl[j]] w := fun j hj w => (hx _ (List.getElem_mem hj) w).1
    have h2 : ∀ (j : Nat) (hj : j < yl.length) w, (fnS pgm k).val 5 [yl[j], yl[j]] w = (.bool true, w) := fun j hj w => (hx _ (List.getElem_mem hj) w).2
    generalize fnS pgm k = S at h1 h2
    simp only [d__law_same]
    simp [xb, xs, ev, evs, evSrc, wd, wds, wdSrc, wdB, wdS, ↓andThen, sq, sqP, Def.start, isVal, isBound, v1, v2, w2, toI, its_tup, its_lst, wlst, d1, d2, isInt_int, isInt_bool, isInt_none, isInt_str, isInt_lst, isInt_tup, isBool_bool, isBool_int, isBool_none, isBool_str, isBool_lst, isBool_tup, isSeq_tup, isSeq_lst, mk, Ex.fresh, P1.fresh, P2.fresh, ixD_tup, ixD_list, ixD_rf, itsW_tuple, itsW_list, itsW_rf, rfN_rf, lenD_tup, lenD_list, lenD_rf, ite_pairW, ite_boolD, ite_intD, boolsD_map, intsD_map2, intsD_map3, boolsD_map3, boolsD_nil, intsD_nil, Function.comp_def, List.filter_map, L2.atI, L2.ixN, addD_int, addD_str, addD_tup, addD_lst, mulD, ltD, leD, tr, PySem.W.dataLt_int, setAtN, L2.CMul, L2.CDiv, rd, setV, Pat.bind, Pat.ok, isD, refD_rf, isStr_rf, isStr_int, isStr_bool, isStr_none, isStr_str, isStr_lst, isStr_tup, isOwn, ownL, setO, frzE, List.forall_mem_map, -List.mem_map, ltOk_int, plainD_int, plainD_none, plainD_bool, eqv_int, cmpOk, filt_true, BK_set, BK_setT, BK_aug, BK_ext, BK_app, BK_six, BK_expr, BK_ret, BK_retN, BK_brk, BK_cnt, BK_pass, BK_frz, BK_ifs, BK_nil, Kont_nx, Kont_rt, Kont_bk, Kont_ct, RQ_rt, RQ_nx, rfN, tyD, rng_fin, h1, h2]
    omega
  exact h.eq
end K53

/-! K53j: the law. -/
namespace K53
open PySem Ev
def FirstS (S : Sm) : Prop := ∀ (n : Nat) (C : List (List (Fin n))) (T : Fin n → List (Int × Int)) (m ℓ : Int) (w : W), (starts T m).length < 64 → S.wd 1 [encCF C, encTF T, .int m, .int ℓ] w ∧ S.val 1 [encCF C, encTF T, .int m, .int ℓ] w = (firstC C T m ℓ, w)
theorem firstSk (k : Nat) : FirstS (fnS pgm (k + 2)) := fun n C T m ℓ w h => firstS C T m ℓ k h w
def SameS (S : Sm) : Prop := SameAt S .none ∧ ∀ (n : Nat) (b : Int) (q : List (Fin n)), q.length ≤ 6 → SameAt S (.tuple [.int b, encF q])
theorem sameSk (k : Nat) : SameS (fnS pgm (k + 3)) := by
  refine ⟨same_none _, fun n b q hq => same_tup _ _ (by simp) fun x hx => ?_⟩
  rcases List.mem_cons.mp hx with rfl | hx
  · exact same_int _ _
  · rw [List.mem_singleton.mp hx]
    refine same_tup _ _ (by simp; omega) fun y hy => ?_
    obtain ⟨i, _, rfl⟩ := List.mem_map.mp hy
    exact same_int _ _
theorem encTF_of (ts : List (List (Int × Int))) : PyData.tuple (ts.map encR) = encTF fun k : Fin ts.length => ts[k] := by
  simp only [encTF]
  congr 1
  apply List.ext_getElem
  · simp
  · intro i h1 h2
    simp
def lEnv {n : Nat} (script : D) (C : List (List (Fin n))) (late : Int) (T : Fin n → List (Int × Int)) (m ℓ : Int) (due : D) (b9 b10 b11 b12 b13 b14 b15 : Sl) : En :=
  [.val script, .val (rf 1), .val (.int (n : Int)), .val (encCF C), .val (.int late), .val (encTF T), .val (.int m), .val (.int ℓ), .val due, b9, b10, b11, b12, b13, b14, b15]
theorem isD_getD (o : Option D) (h : ∀ x, o = some x → x ≠ .none) : isD (o.getD .none) .none = o.isNone := by
  cases o with
  | none => rfl
  | some x =>
    have := h x rfl
    cases x <;> first | rfl | exact (this rfl).elim
/-- from where all is drawn -/
theorem law_end (S : Sm) (hF : FirstS S) (hSm : SameS S) {n : Nat} (hn : n ≤ 5) (script : D) (C : List (List (Fin n))) (hC : ∀ g ∈ C, g.length ≤ 6) (late : Int) (T : Fin n → List (Int × Int)) (hT : ∀ k, RowsOk late (late + 63) 3 (T k)) (m ℓ : Int) (hm : late ≤ m) (hm2 : 0 ≤ m) (hm3 : m ≤ 20000) (hl : 0 ≤ ℓ) (hl2 : ℓ ≤ 100) (w : W)
    (b9 b10 b11 b12 b13 b14 b15 : Sl) (due : D) (hd : due = firstC C T m ℓ) :
    BK S (.cons (.set 10 (.call 1 (.cons (.var 3) (.cons (.var 5) (.cons (.var 6) (.cons (.var 7) .nil)))))) (.cons (.ifs (.not (.call 5 (.cons (.var 10) (.cons (.var 8) .nil)))) (.cons (.ret (.lit (.bool false))) .nil) .nil) (.cons (.ifs (.p2 .is (.var 10) (.lit .none)) (.cons (.ret (.lit (.bool true))) .nil) .nil) (.cons (.set 11 (.call 1 (.cons (.var 3) (.cons (.var 5) (.cons (.p2 .ix (.var 10) (.lit (.int 0))) (.cons (.var 7) .nil)))))) (.cons (.ret (.and (.call 5 (.cons (.var 11) (.cons (.var 10) .nil))) (.and (.p2 .eq (.call 1 (.cons (.tup (.cons (.tup .nil) .nil)) (.cons (.var 5) (.cons (.lit (.int 10000)) (.cons (.lit (.int 0)) .nil))))) (.tup (.cons (.lit (.int 10000)) (.cons (.tup .nil) .nil)))) (.p2 .is (.call 1 (.cons (.var 3) (.cons (.var 5) (.cons (.lit (.int 10000)) (.cons (.lit (.int 1)) .nil))))) (.lit .none))))) .nil)))))
      (lEnv script C late T m ℓ due b9 b10 b11 b12 b13 b14 b15) w (RQ fun d _ => d = .bool true) := by
  subst hd
  have hF1 := fun m ℓ w => (hF n C T m ℓ w (starts_len T m hn hT)).1
  have hF2 := fun m ℓ w => (hF n C T m ℓ w (starts_len T m hn hT)).2
  have hG1 := fun m ℓ w => (hF n [[]] T m ℓ w (starts_len T m hn hT)).1
  have hG2 := fun m ℓ w => (hF n [[]] T m ℓ w (starts_len T m hn hT)).2
  have e0 : PyData.tuple [PyData.tuple []] = encCF ([[]] : List (List (Fin n))) := rfl
  have hov := first_over C T hT
  have hen := first_end T
  have eeq : PyData.eqv (PyData.tuple [PyData.int 10000, PyData.tuple []]) (PyData.tuple [PyData.int 10000, PyData.tuple []]) = true := by decide
  have epl : plainD (PyData.tuple [PyData.int 10000, PyData.tuple []]) := by unfold plainD; decide
  cases hf : (sI (starts T m)).findSome? (tryB C T ℓ) with
  | none =>
    have e1 : firstC C T m ℓ = .none := by simp [firstC, hf]
    have s1 := fun w => (hSm.1 w).1
    have s2 := fun w => (hSm.1 w).2
    simp [xb, xs, ev, evs, evSrc, wd, wds, wdSrc, wdB, wdS, ↓andThen, sq, sqP, Def.start, isVal, isBound, v1, v2, w2, toI, its_tup, its_lst, wlst, d1, d2, isInt_int, isInt_bool, isInt_none, isInt_str, isInt_lst, isInt_tup, isBool_bool, isBool_int, isBool_none, isBool_str, isBool_lst, isBool_tup, isSeq_tup, isSeq_lst, mk, Ex.fresh, P1.fresh, P2.fresh, ixD_tup, ixD_list, ixD_rf, itsW_tuple, itsW_list, itsW_rf, rfN_rf, lenD_tup, lenD_list, lenD_rf, ite_pairW, ite_boolD, ite_intD, boolsD_map, intsD_map2, intsD_map3, boolsD_map3, boolsD_nil, intsD_nil, Function.comp_def, List.filter_map, L2.atI, L2.ixN, addD_int, addD_str, addD_tup, addD_lst, mulD, ltD, leD, tr, PySem.W.dataLt_int, setAtN, L2.CMul, L2.CDiv, rd, setV, Pat.bind, Pat.ok, isD, refD_rf, isStr_rf, isStr_int, isStr_bool, isStr_none, isStr_str, isStr_lst, isStr_tup, isOwn, ownL, setO, frzE, List.forall_mem_map, -List.mem_map, ltOk_int, plainD_int, plainD_none, plainD_bool, eqv_int, cmpOk, filt_true, BK_set, BK_setT, BK_aug, BK_ext, BK_app, BK_six, BK_expr, BK_ret, BK_retN, BK_brk, BK_cnt, BK_pass, BK_frz, BK_ifs, BK_nil, Kont_nx, Kont_rt, Kont_bk, Kont_ct, RQ_rt, RQ_nx, lEnv, hF1, hF2, e1, s1, s2]
  | some x =>
    obtain ⟨b, q, rfl, hag⟩ := first_some C T m ℓ hf
    have e1 : firstC C T m ℓ = .tuple [.int b, encF q] := by simp [firstC, hf]
    have hq : q.length ≤ 6 := by
      obtain ⟨b', _, h2⟩ := List.exists_of_findSome?_eq_some hf
      unfold tryB at h2
      split at h2
      · obtain ⟨q', hq', h3⟩ := List.exists_of_findSome?_eq_some h2
        unfold tryQ at h3
        split at h3
        · have h4 := congrArg its (Option.some.inj h3)
          simp [its_tup, encF] at h4
          have h5 := congrArg List.length h4.2
          simp at h5
          have := hC q' hq'
          omega
        · cases h3
      · cases h2
    have s1 := fun w => (hSm.2 n b q hq w).1
    have s2 := fun w => (hSm.2 n b q hq w).2
    simp [xb, xs, ev, evs, evSrc, wd, wds, wdSrc, wdB, wdS, ↓andThen, sq, sqP, Def.start, isVal, isBound, v1, v2, w2, toI, its_tup, its_lst, wlst, d1, d2, isInt_int, isInt_bool, isInt_none, isInt_str, isInt_lst, isInt_tup, isBool_bool, isBool_int, isBool_none, isBool_str, isBool_lst, isBool_tup, isSeq_tup, isSeq_lst, mk, Ex.fresh, P1.fresh, P2.fresh, ixD_tup, ixD_list, ixD_rf, itsW_tuple, itsW_list, itsW_rf, rfN_rf, lenD_tup, lenD_list, lenD_rf, ite_pairW, ite_boolD, ite_intD, boolsD_map, intsD_map2, intsD_map3, boolsD_map3, boolsD_nil, intsD_nil, Function.comp_def, List.filter_map, L2.atI, L2.ixN, addD_int, addD_str, addD_tup, addD_lst, mulD, ltD, leD, tr, PySem.W.dataLt_int, setAtN, L2.CMul, L2.CDiv, rd, setV, Pat.bind, Pat.ok, isD, refD_rf, isStr_rf, isStr_int, isStr_bool, isStr_none, isStr_str, isStr_lst, isStr_tup, isOwn, ownL, setO, frzE, List.forall_mem_map, -List.mem_map, ltOk_int, plainD_int, plainD_none, plainD_bool, eqv_int, cmpOk, filt_true, BK_set, BK_setT, BK_aug, BK_ext, BK_app, BK_six, BK_expr, BK_ret, BK_retN, BK_brk, BK_cnt, BK_pass, BK_frz, BK_ifs, BK_nil, Kont_nx, Kont_rt, Kont_bk, Kont_ct, RQ_rt, RQ_nx, lEnv, hF1, hF2, hG1, hG2, e0, e1, s1, s2, hag, hov, hen, eeq, epl]
end K53

/-! K53k: the law's walk. -/
namespace K53
open PySem Ev
theorem tryQ_tup {n : Nat} {T : Fin n → List (Int × Int)} {ℓ b : Int} {q : List (Fin n)} {x : D} (h : tryQ T ℓ b q = some x) : ∃ yl, x = .tuple yl := by
  unfold tryQ at h
  split at h
  · exact ⟨_, (Option.some.inj h).symm⟩
  · cases h
theorem law_body (k : Nat) (ns : List Int) (hns : ns.length ≤ 63) :
    BK (fnS pgm (k + 4)) d_law.body (d_law.start [.list (ns.map .int)]) [] (RQ fun d _ => d = .bool true) := by
  have hB1 := box_wd (k + 3) ns
  have hB2 := box_val (k + 3) ns
  have hD := drawS (k + 2)
  have hC := councilS (k + 1)
  have hTm := timesS (k + 1)
  have hF := firstSk (k + 2)
  have hSm := sameSk (k + 1)
  generalize hS : fnS pgm (k + 4) = S
  rw [show k + 3 + 1 = k + 4 from rfl, hS] at hB1 hB2
  rw [show k + 2 + 2 = k + 4 from rfl, hS] at hD hF
  rw [show k + 1 + 3 = k + 4 from rfl, hS] at hC hTm hSm
  have hw0 : Box (mkW (ns.take 63) 0 (4711 + ns.length)) := ⟨_, _, _, rfl, by omega, by omega, by omega⟩
  generalize mkW (ns.take 63) 0 (4711 + ns.length) = w0 at hB2 hw0
  generalize PyData.list (ns.map .int) = script at hB1 hB2
  simp only [d_law]
  refine bk_cut (fun ρ' w' => w' = w0 ∧ ρ' = [.val script, .val (rf 1), .un, .un, .un, .un, .un, .un, .un, .un, .un, .un, .un, .un, .un, .un]) (by simp [xb, xs, ev, evs, evSrc, wd, wds, wdSrc, wdB, wdS, ↓andThen, sq, sqP, Def.start, isVal, isBound, v1, v2, w2, toI, its_tup, its_lst, wlst, d1, d2, isInt_int, isInt_bool, isInt_none, isInt_str, isInt_lst, isInt_tup, isBool_bool, isBool_int, isBool_none, isBool_str, isBool_lst, isBool_tup, isSeq_tup, isSeq_lst, mk, Ex.fresh, P1.fresh, P2.fresh, ixD_tup, ixD_list, ixD_rf, itsW_tuple, itsW_list, itsW_rf, rfN_rf, lenD_tup, lenD_list, lenD_rf, ite_pairW, ite_boolD, ite_intD, boolsD_map, intsD_map2, intsD_map3, boolsD_map3, boolsD_nil, intsD_nil, Function.comp_def, List.filter_map, L2.atI, L2.ixN, addD_int, addD_str, addD_tup, addD_lst, mulD, ltD, leD, tr, PySem.W.dataLt_int, setAtN, L2.CMul, L2.CDiv, rd, setV, Pat.bind, Pat.ok, isD, refD_rf, isStr_rf, isStr_int, isStr_bool, isStr_none, isStr_str, isStr_lst, isStr_tup, isOwn, ownL, setO, frzE, List.forall_mem_map, -List.mem_map, ltOk_int, plainD_int, plainD_none, plainD_bool, eqv_int, cmpOk, filt_true, BK_set, BK_setT, BK_aug, BK_ext, BK_app, BK_six, BK_expr, BK_ret, BK_retN, BK_brk, BK_cnt, BK_pass, BK_frz, BK_ifs, BK_nil, Kont_nx, Kont_rt, Kont_bk, Kont_ct, RQ_rt, RQ_nx, NxQ_nx, hB1, hB2]) ?_
  rintro _ w0 ⟨rfl, rfl⟩
  obtain ⟨_, w1, e1, e2, n', rfl, n1, n2, hw1⟩ := (hD w0 hw0 5 (by omega) (by omega)).ex
  obtain ⟨n, hn⟩ : ∃ n : Nat, 1 + n' = n := ⟨(1 + n').toNat, by omega⟩
  refine bk_cut (fun ρ' w' => w' = w1 ∧ ρ' = [.val script, .val (rf 1), .val (.int (n : Int)), .un, .un, .un, .un, .un, .un, .un, .un, .un, .un, .un, .un, .un]) (by simp [xb, xs, ev, evs, evSrc, wd, wds, wdSrc, wdB, wdS, ↓andThen, sq, sqP, Def.start, isVal, isBound, v1, v2, w2, toI, its_tup, its_lst, wlst, d1, d2, isInt_int, isInt_bool, isInt_none, isInt_str, isInt_lst, isInt_tup, isBool_bool, isBool_int, isBool_none, isBool_str, isBool_lst, isBool_tup, isSeq_tup, isSeq_lst, mk, Ex.fresh, P1.fresh, P2.fresh, ixD_tup, ixD_list, ixD_rf, itsW_tuple, itsW_list, itsW_rf, rfN_rf, lenD_tup, lenD_list, lenD_rf, ite_pairW, ite_boolD, ite_intD, boolsD_map, intsD_map2, intsD_map3, boolsD_map3, boolsD_nil, intsD_nil, Function.comp_def, List.filter_map, L2.atI, L2.ixN, addD_int, addD_str, addD_tup, addD_lst, mulD, ltD, leD, tr, PySem.W.dataLt_int, setAtN, L2.CMul, L2.CDiv, rd, setV, Pat.bind, Pat.ok, isD, refD_rf, isStr_rf, isStr_int, isStr_bool, isStr_none, isStr_str, isStr_lst, isStr_tup, isOwn, ownL, setO, frzE, List.forall_mem_map, -List.mem_map, ltOk_int, plainD_int, plainD_none, plainD_bool, eqv_int, cmpOk, filt_true, BK_set, BK_setT, BK_aug, BK_ext, BK_app, BK_six, BK_expr, BK_ret, BK_retN, BK_brk, BK_cnt, BK_pass, BK_frz, BK_ifs, BK_nil, Kont_nx, Kont_rt, Kont_bk, Kont_ct, RQ_rt, RQ_nx, NxQ_nx, e1, e2, hn]) ?_
  rintro _ w1 ⟨rfl, rfl⟩
  obtain ⟨_, w2', e3, e4, c2, rfl, _, _, hw2⟩ := (hD w1 hw1 2 (by omega) (by omega)).ex
  obtain ⟨_, w3, e5, e6, ⟨C, hC6, rfl⟩, hw3⟩ := (hC n (decide (c2 = 0)) w2' (by omega) (by omega) hw2).ex
  refine bk_cut (fun ρ' w' => w' = w3 ∧ ρ' = [.val script, .val (rf 1), .val (.int (n : Int)), .val (encCF C), .un, .un, .un, .un, .un, .un, .un, .un, .un, .un, .un, .un]) (by simp [xb, xs, ev, evs, evSrc, wd, wds, wdSrc, wdB, wdS, ↓andThen, sq, sqP, Def.start, isVal, isBound, v1, v2, w2, toI, its_tup, its_lst, wlst, d1, d2, isInt_int, isInt_bool, isInt_none, isInt_str, isInt_lst, isInt_tup, isBool_bool, isBool_int, isBool_none, isBool_str, isBool_lst, isBool_tup, isSeq_tup, isSeq_lst, mk, Ex.fresh, P1.fresh, P2.fresh, ixD_tup, ixD_list, ixD_rf, itsW_tuple, itsW_list, itsW_rf, rfN_rf, lenD_tup, lenD_list, lenD_rf, ite_pairW, ite_boolD, ite_intD, boolsD_map, intsD_map2, intsD_map3, boolsD_map3, boolsD_nil, intsD_nil, Function.comp_def, List.filter_map, L2.atI, L2.ixN, addD_int, addD_str, addD_tup, addD_lst, mulD, ltD, leD, tr, PySem.W.dataLt_int, setAtN, L2.CMul, L2.CDiv, rd, setV, Pat.bind, Pat.ok, isD, refD_rf, isStr_rf, isStr_int, isStr_bool, isStr_none, isStr_str, isStr_lst, isStr_tup, isOwn, ownL, setO, frzE, List.forall_mem_map, -List.mem_map, ltOk_int, plainD_int, plainD_none, plainD_bool, eqv_int, cmpOk, filt_true, BK_set, BK_setT, BK_aug, BK_ext, BK_app, BK_six, BK_expr, BK_ret, BK_retN, BK_brk, BK_cnt, BK_pass, BK_frz, BK_ifs, BK_nil, Kont_nx, Kont_rt, Kont_bk, Kont_ct, RQ_rt, RQ_nx, NxQ_nx, e3, e4, e5, e6]) ?_
  rintro _ w3 ⟨rfl, rfl⟩
  obtain ⟨_, w4, e7, e8, c3, rfl, _, _, hw4⟩ := (hD w3 hw3 4 (by omega) (by omega)).ex
  refine bk_cut (fun ρ' w' => w' = w4 ∧ ∃ late : Int, (late = 9960 ∨ late = 0) ∧ ρ' = [.val script, .val (rf 1), .val (.int (n : Int)), .val (encCF C), .val (.int late), .un, .un, .un, .un, .un, .un, .un, .un, .un, .un, .un]) (by
    by_cases h : c3 = 0 <;> simp [xb, xs, ev, evs, evSrc, wd, wds, wdSrc, wdB, wdS, ↓andThen, sq, sqP, Def.start, isVal, isBound, v1, v2, w2, toI, its_tup, its_lst, wlst, d1, d2, isInt_int, isInt_bool, isInt_none, isInt_str, isInt_lst, isInt_tup, isBool_bool, isBool_int, isBool_none, isBool_str, isBool_lst, isBool_tup, isSeq_tup, isSeq_lst, mk, Ex.fresh, P1.fresh, P2.fresh, ixD_tup, ixD_list, ixD_rf, itsW_tuple, itsW_list, itsW_rf, rfN_rf, lenD_tup, lenD_list, lenD_rf, ite_pairW, ite_boolD, ite_intD, boolsD_map, intsD_map2, intsD_map3, boolsD_map3, boolsD_nil, intsD_nil, Function.comp_def, List.filter_map, L2.atI, L2.ixN, addD_int, addD_str, addD_tup, addD_lst, mulD, ltD, leD, tr, PySem.W.dataLt_int, setAtN, L2.CMul, L2.CDiv, rd, setV, Pat.bind, Pat.ok, isD, refD_rf, isStr_rf, isStr_int, isStr_bool, isStr_none, isStr_str, isStr_lst, isStr_tup, isOwn, ownL, setO, frzE, List.forall_mem_map, -List.mem_map, ltOk_int, plainD_int, plainD_none, plainD_bool, eqv_int, cmpOk, filt_true, BK_set, BK_setT, BK_aug, BK_ext, BK_app, BK_six, BK_expr, BK_ret, BK_retN, BK_brk, BK_cnt, BK_pass, BK_frz, BK_ifs, BK_nil, Kont_nx, Kont_rt, Kont_bk, Kont_ct, RQ_rt, RQ_nx, NxQ_nx, e7, e8, h]) ?_
  rintro _ w4 ⟨rfl, late, hlate, rfl⟩
  obtain ⟨_, w5, e9, e10, ⟨ts, rfl, ht1, ht2⟩, hw5⟩ := (hTm n late w4 (by omega) hw4).ex
  subst ht1
  refine bk_cut (fun ρ' w' => w' = w5 ∧ ρ' = [.val script, .val (rf 1), .val (.int (ts.length : Int)), .val (encCF C), .val (.int late), .val (.tuple (ts.map encR)), .un, .un, .un, .un, .un, .un, .un, .un, .un, .un]) (by simp [xb, xs, ev, evs, evSrc, wd, wds, wdSrc, wdB, wdS, ↓andThen, sq, sqP, Def.start, isVal, isBound, v1, v2, w2, toI, its_tup, its_lst, wlst, d1, d2, isInt_int, isInt_bool, isInt_none, isInt_str, isInt_lst, isInt_tup, isBool_bool, isBool_int, isBool_none, isBool_str, isBool_lst, isBool_tup, isSeq_tup, isSeq_lst, mk, Ex.fresh, P1.fresh, P2.fresh, ixD_tup, ixD_list, ixD_rf, itsW_tuple, itsW_list, itsW_rf, rfN_rf, lenD_tup, lenD_list, lenD_rf, ite_pairW, ite_boolD, ite_intD, boolsD_map, intsD_map2, intsD_map3, boolsD_map3, boolsD_nil, intsD_nil, Function.comp_def, List.filter_map, L2.atI, L2.ixN, addD_int, addD_str, addD_tup, addD_lst, mulD, ltD, leD, tr, PySem.W.dataLt_int, setAtN, L2.CMul, L2.CDiv, rd, setV, Pat.bind, Pat.ok, isD, refD_rf, isStr_rf, isStr_int, isStr_bool, isStr_none, isStr_str, isStr_lst, isStr_tup, isOwn, ownL, setO, frzE, List.forall_mem_map, -List.mem_map, ltOk_int, plainD_int, plainD_none, plainD_bool, eqv_int, cmpOk, filt_true, BK_set, BK_setT, BK_aug, BK_ext, BK_app, BK_six, BK_expr, BK_ret, BK_retN, BK_brk, BK_cnt, BK_pass, BK_frz, BK_ifs, BK_nil, Kont_nx, Kont_rt, Kont_bk, Kont_ct, RQ_rt, RQ_nx, NxQ_nx, e9, e10]) ?_
  rintro _ w5 ⟨rfl, rfl⟩
  rw [encTF_of]
  have hT : ∀ k : Fin ts.length, RowsOk late (late + 63) 3 (ts[k]) := fun k => ht2 _ (List.getElem_mem _)
  generalize hTT : (fun k : Fin ts.length => ts[k]) = T
  replace hT : ∀ k, RowsOk late (late + 63) 3 (T k) := by rw [← hTT]; exact hT
  obtain ⟨_, w6, e11, e12, a, rfl, a1, a2, hw6⟩ := (hD w5 hw5 40 (by omega) (by omega)).ex
  refine bk_cut (fun ρ' w' => w' = w6 ∧ ρ' = [.val script, .val (rf 1), .val (.int (ts.length : Int)), .val (encCF C), .val (.int late), .val (encTF T), .val (.int (late + a)), .un, .un, .un, .un, .un, .un, .un, .un, .un]) (by simp [xb, xs, ev, evs, evSrc, wd, wds, wdSrc, wdB, wdS, ↓andThen, sq, sqP, Def.start, isVal, isBound, v1, v2, w2, toI, its_tup, its_lst, wlst, d1, d2, isInt_int, isInt_bool, isInt_none, isInt_str, isInt_lst, isInt_tup, isBool_bool, isBool_int, isBool_none, isBool_str, isBool_lst, isBool_tup, isSeq_tup, isSeq_lst, mk, Ex.fresh, P1.fresh, P2.fresh, ixD_tup, ixD_list, ixD_rf, itsW_tuple, itsW_list, itsW_rf, rfN_rf, lenD_tup, lenD_list, lenD_rf, ite_pairW, ite_boolD, ite_intD, boolsD_map, intsD_map2, intsD_map3, boolsD_map3, boolsD_nil, intsD_nil, Function.comp_def, List.filter_map, L2.atI, L2.ixN, addD_int, addD_str, addD_tup, addD_lst, mulD, ltD, leD, tr, PySem.W.dataLt_int, setAtN, L2.CMul, L2.CDiv, rd, setV, Pat.bind, Pat.ok, isD, refD_rf, isStr_rf, isStr_int, isStr_bool, isStr_none, isStr_str, isStr_lst, isStr_tup, isOwn, ownL, setO, frzE, List.forall_mem_map, -List.mem_map, ltOk_int, plainD_int, plainD_none, plainD_bool, eqv_int, cmpOk, filt_true, BK_set, BK_setT, BK_aug, BK_ext, BK_app, BK_six, BK_expr, BK_ret, BK_retN, BK_brk, BK_cnt, BK_pass, BK_frz, BK_ifs, BK_nil, Kont_nx, Kont_rt, Kont_bk, Kont_ct, RQ_rt, RQ_nx, NxQ_nx, e11, e12]) ?_
  rintro _ w6 ⟨rfl, rfl⟩
  obtain ⟨_, w7, e13, e14, l1, rfl, l1a, l1b, hw7⟩ := (hD w6 hw6 8 (by omega) (by omega)).ex
  obtain ⟨_, w8, e15, e16, l2, rfl, l2a, l2b, hw8⟩ := (hD w7 hw7 30 (by omega) (by omega)).ex
  obtain ⟨_, w9, e17, e18, l3, rfl, l3a, l3b, hw9⟩ := (hD w8 hw8 3 (by omega) (by omega)).ex
  refine bk_cut (fun ρ' w' => w' = w9 ∧ ∃ ℓ : Int, 0 ≤ ℓ ∧ ℓ ≤ 100 ∧ ρ' = [.val script, .val (rf 1), .val (.int (ts.length : Int)), .val (encCF C), .val (.int late), .val (encTF T), .val (.int (late + a)), .val (.int ℓ), .un, .un, .un, .un, .un, .un, .un, .un]) (by
    have : l3 = 0 ∨ l3 = 1 ∨ l3 = 2 := by omega
    rcases this with rfl | rfl | rfl <;> simp [xb, xs, ev, evs, evSrc, wd, wds, wdSrc, wdB, wdS, ↓andThen, sq, sqP, Def.start, isVal, isBound, v1, v2, w2, toI, its_tup, its_lst, wlst, d1, d2, isInt_int, isInt_bool, isInt_none, isInt_str, isInt_lst, isInt_tup, isBool_bool, isBool_int, isBool_none, isBool_str, isBool_lst, isBool_tup, isSeq_tup, isSeq_lst, mk, Ex.fresh, P1.fresh, P2.fresh, ixD_tup, ixD_list, ixD_rf, itsW_tuple, itsW_list, itsW_rf, rfN_rf, lenD_tup, lenD_list, lenD_rf, ite_pairW, ite_boolD, ite_intD, boolsD_map, intsD_map2, intsD_map3, boolsD_map3, boolsD_nil, intsD_nil, Function.comp_def, List.filter_map, L2.atI, L2.ixN, addD_int, addD_str, addD_tup, addD_lst, mulD, ltD, leD, tr, PySem.W.dataLt_int, setAtN, L2.CMul, L2.CDiv, rd, setV, Pat.bind, Pat.ok, isD, refD_rf, isStr_rf, isStr_int, isStr_bool, isStr_none, isStr_str, isStr_lst, isStr_tup, isOwn, ownL, setO, frzE, List.forall_mem_map, -List.mem_map, ltOk_int, plainD_int, plainD_none, plainD_bool, eqv_int, cmpOk, filt_true, BK_set, BK_setT, BK_aug, BK_ext, BK_app, BK_six, BK_expr, BK_ret, BK_retN, BK_brk, BK_cnt, BK_pass, BK_frz, BK_ifs, BK_nil, Kont_nx, Kont_rt, Kont_bk, Kont_ct, RQ_rt, RQ_nx, NxQ_nx, e13, e14, e15, e16, e17, e18] <;> omega) ?_
  rintro _ w9 ⟨rfl, ℓ, hl1, hl2, rfl⟩
  obtain ⟨m, hm⟩ : ∃ m, late + a = m := ⟨_, rfl⟩
  rw [hm]
  refine bk_cut (fun ρ' w' => w' = w9 ∧ ρ' = [.val script, .val (rf 1), .val (.int (ts.length : Int)), .val (encCF C), .val (.int late), .val (encTF T), .val (.int m), .val (.int ℓ), .val .none, .un, .un, .un, .un, .un, .un, .un]) (by simp [xb, xs, ev, evs, evSrc, wd, wds, wdSrc, wdB, wdS, ↓andThen, sq, sqP, Def.start, isVal, isBound, v1, v2, w2, toI, its_tup, its_lst, wlst, d1, d2, isInt_int, isInt_bool, isInt_none, isInt_str, isInt_lst, isInt_tup, isBool_bool, isBool_int, isBool_none, isBool_str, isBool_lst, isBool_tup, isSeq_tup, isSeq_lst, mk, Ex.fresh, P1.fresh, P2.fresh, ixD_tup, ixD_list, ixD_rf, itsW_tuple, itsW_list, itsW_rf, rfN_rf, lenD_tup, lenD_list, lenD_rf, ite_pairW, ite_boolD, ite_intD, boolsD_map, intsD_map2, intsD_map3, boolsD_map3, boolsD_nil, intsD_nil, Function.comp_def, List.filter_map, L2.atI, L2.ixN, addD_int, addD_str, addD_tup, addD_lst, mulD, ltD, leD, tr, PySem.W.dataLt_int, setAtN, L2.CMul, L2.CDiv, rd, setV, Pat.bind, Pat.ok, isD, refD_rf, isStr_rf, isStr_int, isStr_bool, isStr_none, isStr_str, isStr_lst, isStr_tup, isOwn, ownL, setO, frzE, List.forall_mem_map, -List.mem_map, ltOk_int, plainD_int, plainD_none, plainD_bool, eqv_int, cmpOk, filt_true, BK_set, BK_setT, BK_aug, BK_ext, BK_app, BK_six, BK_expr, BK_ret, BK_retN, BK_brk, BK_cnt, BK_pass, BK_frz, BK_ifs, BK_nil, Kont_nx, Kont_rt, Kont_bk, Kont_ct, RQ_rt, RQ_nx, NxQ_nx]) ?_
  rintro _ w9 ⟨rfl, rfl⟩
  refine bk_for (enc := PyData.int) (l := iRng m ((if 10000 - ℓ < m + 120 then 10000 - ℓ else m + 120) + 1)) (w1 := w9) ?_ ?_ (fun pr ρ' w' => w' = w9 ∧ ∃ b9 b12 b13 b14 b15, ρ' = lEnv script C late T m ℓ ((pr.findSome? (gB C T ℓ)).getD .none) b9 .un .un b12 b13 b14 b15) ?_ ?_ ?_
  · simp [xb, xs, ev, evs, evSrc, wd, wds, wdSrc, wdB, wdS, ↓andThen, sq, sqP, Def.start, isVal, isBound, v1, v2, w2, toI, its_tup, its_lst, wlst, d1, d2, isInt_int, isInt_bool, isInt_none, isInt_str, isInt_lst, isInt_tup, isBool_bool, isBool_int, isBool_none, isBool_str, isBool_lst, isBool_tup, isSeq_tup, isSeq_lst, mk, Ex.fresh, P1.fresh, P2.fresh, ixD_tup, ixD_list, ixD_rf, itsW_tuple, itsW_list, itsW_rf, rfN_rf, lenD_tup, lenD_list, lenD_rf, ite_pairW, ite_boolD, ite_intD, boolsD_map, intsD_map2, intsD_map3, boolsD_map3, boolsD_nil, intsD_nil, Function.comp_def, List.filter_map, L2.atI, L2.ixN, addD_int, addD_str, addD_tup, addD_lst, mulD, ltD, leD, tr, PySem.W.dataLt_int, setAtN, L2.CMul, L2.CDiv, rd, setV, Pat.bind, Pat.ok, isD, refD_rf, isStr_rf, isStr_int, isStr_bool, isStr_none, isStr_str, isStr_lst, isStr_tup, isOwn, ownL, setO, frzE, List.forall_mem_map, -List.mem_map, ltOk_int, plainD_int, plainD_none, plainD_bool, eqv_int, cmpOk, filt_true, BK_set, BK_setT, BK_aug, BK_ext, BK_app, BK_six, BK_expr, BK_ret, BK_retN, BK_brk, BK_cnt, BK_pass, BK_frz, BK_ifs, BK_nil, Kont_nx, Kont_rt, Kont_bk, Kont_ct, RQ_rt, RQ_nx]
    by_cases h : 10000 - ℓ < m + 120
    · simp only [if_pos h]; omega
    · simp only [if_neg h]; omega
  · simp [xb, xs, ev, evs, evSrc, wd, wds, wdSrc, wdB, wdS, ↓andThen, sq, sqP, Def.start, isVal, isBound, v1, v2, w2, toI, its_tup, its_lst, wlst, d1, d2, isInt_int, isInt_bool, isInt_none, isInt_str, isInt_lst, isInt_tup, isBool_bool, isBool_int, isBool_none, isBool_str, isBool_lst, isBool_tup, isSeq_tup, isSeq_lst, mk, Ex.fresh, P1.fresh, P2.fresh, ixD_tup, ixD_list, ixD_rf, itsW_tuple, itsW_list, itsW_rf, rfN_rf, lenD_tup, lenD_list, lenD_rf, ite_pairW, ite_boolD, ite_intD, boolsD_map, intsD_map2, intsD_map3, boolsD_map3, boolsD_nil, intsD_nil, Function.comp_def, List.filter_map, L2.atI, L2.ixN, addD_int, addD_str, addD_tup, addD_lst, mulD, ltD, leD, tr, PySem.W.dataLt_int, setAtN, L2.CMul, L2.CDiv, rd, setV, Pat.bind, Pat.ok, isD, refD_rf, isStr_rf, isStr_int, isStr_bool, isStr_none, isStr_str, isStr_lst, isStr_tup, isOwn, ownL, setO, frzE, List.forall_mem_map, -List.mem_map, ltOk_int, plainD_int, plainD_none, plainD_bool, eqv_int, cmpOk, filt_true, BK_set, BK_setT, BK_aug, BK_ext, BK_app, BK_six, BK_expr, BK_ret, BK_retN, BK_brk, BK_cnt, BK_pass, BK_frz, BK_ifs, BK_nil, Kont_nx, Kont_rt, Kont_bk, Kont_ct, RQ_rt, RQ_nx]
    simp [rngL, iRng]
  · exact ⟨rfl, _, _, _, _, _, rfl⟩
  · rintro pr b post e ρ' wa ⟨rfl, b9, b12, b13, b14, b15, rfl⟩
    refine ⟨trivial, ?_⟩
    simp [lEnv]
    refine bk_for (enc := encF) (l := C) (w1 := wa) ?_ ?_ (fun pq ρ' w' => w' = wa ∧ ∃ b12 b13 b14 b15, ρ' = lEnv script C late T m ℓ (((pr.findSome? (gB C T ℓ)).or (pq.findSome? (tryQ T ℓ b))).getD .none) (.val (.int b)) .un .un b12 b13 b14 b15) ?_ ?_ ?_
    · simp [xb, xs, ev, evs, evSrc, wd, wds, wdSrc, wdB, wdS, ↓andThen, sq, sqP, Def.start, isVal, isBound, v1, v2, w2, toI, its_tup, its_lst, wlst, d1, d2, isInt_int, isInt_bool, isInt_none, isInt_str, isInt_lst, isInt_tup, isBool_bool, isBool_int, isBool_none, isBool_str, isBool_lst, isBool_tup, isSeq_tup, isSeq_lst, mk, Ex.fresh, P1.fresh, P2.fresh, ixD_tup, ixD_list, ixD_rf, itsW_tuple, itsW_list, itsW_rf, rfN_rf, lenD_tup, lenD_list, lenD_rf, ite_pairW, ite_boolD, ite_intD, boolsD_map, intsD_map2, intsD_map3, boolsD_map3, boolsD_nil, intsD_nil, Function.comp_def, List.filter_map, L2.atI, L2.ixN, addD_int, addD_str, addD_tup, addD_lst, mulD, ltD, leD, tr, PySem.W.dataLt_int, setAtN, L2.CMul, L2.CDiv, rd, setV, Pat.bind, Pat.ok, isD, refD_rf, isStr_rf, isStr_int, isStr_bool, isStr_none, isStr_str, isStr_lst, isStr_tup, isOwn, ownL, setO, frzE, List.forall_mem_map, -List.mem_map, ltOk_int, plainD_int, plainD_none, plainD_bool, eqv_int, cmpOk, filt_true, BK_set, BK_setT, BK_aug, BK_ext, BK_app, BK_six, BK_expr, BK_ret, BK_retN, BK_brk, BK_cnt, BK_pass, BK_frz, BK_ifs, BK_nil, Kont_nx, Kont_rt, Kont_bk, Kont_ct, RQ_rt, RQ_nx, encCF]
    · simp [xb, xs, ev, evs, evSrc, wd, wds, wdSrc, wdB, wdS, ↓andThen, sq, sqP, Def.start, isVal, isBound, v1, v2, w2, toI, its_tup, its_lst, wlst, d1, d2, isInt_int, isInt_bool, isInt_none, isInt_str, isInt_lst, isInt_tup, isBool_bool, isBool_int, isBool_none, isBool_str, isBool_lst, isBool_tup, isSeq_tup, isSeq_lst, mk, Ex.fresh, P1.fresh, P2.fresh, ixD_tup, ixD_list, ixD_rf, itsW_tuple, itsW_list, itsW_rf, rfN_rf, lenD_tup, lenD_list, lenD_rf, ite_pairW, ite_boolD, ite_intD, boolsD_map, intsD_map2, intsD_map3, boolsD_map3, boolsD_nil, intsD_nil, Function.comp_def, List.filter_map, L2.atI, L2.ixN, addD_int, addD_str, addD_tup, addD_lst, mulD, ltD, leD, tr, PySem.W.dataLt_int, setAtN, L2.CMul, L2.CDiv, rd, setV, Pat.bind, Pat.ok, isD, refD_rf, isStr_rf, isStr_int, isStr_bool, isStr_none, isStr_str, isStr_lst, isStr_tup, isOwn, ownL, setO, frzE, List.forall_mem_map, -List.mem_map, ltOk_int, plainD_int, plainD_none, plainD_bool, eqv_int, cmpOk, filt_true, BK_set, BK_setT, BK_aug, BK_ext, BK_app, BK_six, BK_expr, BK_ret, BK_retN, BK_brk, BK_cnt, BK_pass, BK_frz, BK_ifs, BK_nil, Kont_nx, Kont_rt, Kont_bk, Kont_ct, RQ_rt, RQ_nx, encCF]
    · exact ⟨rfl, _, _, _, _, by simp [lEnv, Pat.bind, setV]; exact ⟨rfl, rfl, rfl, rfl⟩⟩
    · rintro pq q post e ρ' wb ⟨rfl, b12, b13, b14, b15, rfl⟩
      refine ⟨trivial, ?_⟩
      generalize ho : (List.findSome? (gB C T ℓ) pr).or (List.findSome? (tryQ T ℓ b) pq) = o
      have e2 : (List.findSome? (gB C T ℓ) pr).or (List.findSome? (tryQ T ℓ b) (pq ++ [q])) = o.or (tryQ T ℓ b q) := by
        rw [← ho, List.findSome?_append, Option.or_assoc]
        simp
      have htup : ∀ x, o = some x → ∃ yl, x = .tuple yl := by
        intro x hx
        subst ho
        rcases Option.or_eq_some_iff.mp hx with h | ⟨_, h⟩
        · obtain ⟨c, _, h2⟩ := List.exists_of_findSome?_eq_some h
          obtain ⟨q2, _, h3⟩ := List.exists_of_findSome?_eq_some h2
          exact tryQ_tup h3
        · obtain ⟨q2, _, h3⟩ := List.exists_of_findSome?_eq_some h
          exact tryQ_tup h3
      rw [e2]
      clear e2 ho hTT
      cases o with
      | none =>
        simp [xb, xs, ev, evs, evSrc, wd, wds, wdSrc, wdB, wdS, ↓andThen, sq, sqP, Def.start, isVal, isBound, v1, v2, w2, toI, its_tup, its_lst, wlst, d1, d2, isInt_int, isInt_bool, isInt_none, isInt_str, isInt_lst, isInt_tup, isBool_bool, isBool_int, isBool_none, isBool_str, isBool_lst, isBool_tup, isSeq_tup, isSeq_lst, mk, Ex.fresh, P1.fresh, P2.fresh, ixD_tup, ixD_list, ixD_rf, itsW_tuple, itsW_list, itsW_rf, rfN_rf, lenD_tup, lenD_list, lenD_rf, ite_pairW, ite_boolD, ite_intD, boolsD_map, intsD_map2, intsD_map3, boolsD_map3, boolsD_nil, intsD_nil, Function.comp_def, List.filter_map, L2.atI, L2.ixN, addD_int, addD_str, addD_tup, addD_lst, mulD, ltD, leD, tr, PySem.W.dataLt_int, setAtN, L2.CMul, L2.CDiv, rd, setV, Pat.bind, Pat.ok, isD, refD_rf, isStr_rf, isStr_int, isStr_bool, isStr_none, isStr_str, isStr_lst, isStr_tup, isOwn, ownL, setO, frzE, List.forall_mem_map, -List.mem_map, ltOk_int, plainD_int, plainD_none, plainD_bool, eqv_int, cmpOk, filt_true, BK_set, BK_setT, BK_aug, BK_ext, BK_app, BK_six, BK_expr, BK_ret, BK_retN, BK_brk, BK_cnt, BK_pass, BK_frz, BK_ifs, BK_nil, Kont_nx, Kont_rt, Kont_bk, Kont_ct, RQ_rt, RQ_nx, lEnv, isSeq_F, its_F, encTF, encR, encP]
        refine ⟨fun h => ?_, fun x hx h => ?_⟩
        · have : okQ T ℓ b q = true := by simpa [okQ, inR] using h
          simp [tryQ, this]
        · have : okQ T ℓ b q = false := by
            simp only [okQ, List.all_eq_false]
            exact ⟨x, hx, by simpa [inR] using h⟩
          simp [tryQ, this]
      | some x =>
        obtain ⟨yl, rfl⟩ := htup x rfl
        simp [xb, xs, ev, evs, evSrc, wd, wds, wdSrc, wdB, wdS, ↓andThen, sq, sqP, Def.start, isVal, isBound, v1, v2, w2, toI, its_tup, its_lst, wlst, d1, d2, isInt_int, isInt_bool, isInt_none, isInt_str, isInt_lst, isInt_tup, isBool_bool, isBool_int, isBool_none, isBool_str, isBool_lst, isBool_tup, isSeq_tup, isSeq_lst, mk, Ex.fresh, P1.fresh, P2.fresh, ixD_tup, ixD_list, ixD_rf, itsW_tuple, itsW_list, itsW_rf, rfN_rf, lenD_tup, lenD_list, lenD_rf, ite_pairW, ite_boolD, ite_intD, boolsD_map, intsD_map2, intsD_map3, boolsD_map3, boolsD_nil, intsD_nil, Function.comp_def, List.filter_map, L2.atI, L2.ixN, addD_int, addD_str, addD_tup, addD_lst, mulD, ltD, leD, tr, PySem.W.dataLt_int, setAtN, L2.CMul, L2.CDiv, rd, setV, Pat.bind, Pat.ok, isD, refD_rf, isStr_rf, isStr_int, isStr_bool, isStr_none, isStr_str, isStr_lst, isStr_tup, isOwn, ownL, setO, frzE, List.forall_mem_map, -List.mem_map, ltOk_int, plainD_int, plainD_none, plainD_bool, eqv_int, cmpOk, filt_true, BK_set, BK_setT, BK_aug, BK_ext, BK_app, BK_six, BK_expr, BK_ret, BK_retN, BK_brk, BK_cnt, BK_pass, BK_frz, BK_ifs, BK_nil, Kont_nx, Kont_rt, Kont_bk, Kont_ct, RQ_rt, RQ_nx, lEnv, isSeq_F, its_F, encTF, encR, encP]
    · rintro ρ' wb ⟨rfl, b12, b13, b14, b15, rfl⟩
      simp [BK_nil, gB]
      exact ⟨_, _, _, _, _, rfl⟩
  · rintro ρ' wa ⟨rfl, b9, b12, b13, b14, b15, rfl⟩
    exact law_end S hF hSm (by omega) script C hC6 late T hT m ℓ (by omega) (by omega) (by omega) hl1 hl2 wa _ _ _ _ _ _ _ _ (by rw [firstC, first_eq C T m ℓ (by omega) hT])
theorem plain (ns : List Int) (hns : ns.length ≤ 63) : (fnS pgm 100).wd 12 [.list (ns.map .int)] [] ∧ ((fnS pgm 100).val 12 [.list (ns.map .int)] []).1 = .bool true :=
  (does_of (k := 99) (f := 12) rfl rfl (law_body 95 ns hns) : Does (fnS pgm 100) 12 [.list (ns.map .int)] [] fun d _ => d = .bool true)
end K53

namespace K53
open PySem PySem.Spec PyProof.Rows L2 Ev
section
variable {l : PySem.W.OpenLaw} {w : World} {K : PySem.W.Frag} {h : Heap} {mg : Str → Option Value} {fa : Addr}
theorem all_mk (KX : K.In h) (G : h.Ns mainGlobals mg) (hfa : mg "law" = some (.ref fa)) (hT : ∀ P ∈ ([52] : List Addr), h.get? P = some { cls := .none, data := .fields #[] })
    {f0 : Addr} {od0 an0 : Option Addr} {sl0 : Array (Option Value)} {oc0 kV0 dc0 pm0 ct0 : Value} {cd0 : Value}
    {f1 : Addr} {od1 an1 : Option Addr} {sl1 : Array (Option Value)} {oc1 kV1 dc1 pm1 ct1 : Value} {cd1 : Value}
    {f2 : Addr} {od2 an2 : Option Addr} {sl2 : Array (Option Value)} {oc2 kV2 dc2 pm2 ct2 : Value} {cd2 : Value}
    {f3 : Addr} {od3 an3 : Option Addr} {sl3 : Array (Option Value)} {oc3 kV3 dc3 pm3 ct3 : Value} {cd3 : Value}
    {f4 : Addr} {od4 an4 : Option Addr} {sl4 : Array (Option Value)} {oc4 kV4 dc4 pm4 ct4 : Value} {cd4 : Value}
    {f5 : Addr} {od5 an5 : Option Addr} {sl5 : Array (Option Value)} {oc5 kV5 dc5 pm5 ct5 : Value} {cd5 : Value}
    {f6 : Addr} {od6 an6 : Option Addr} {sl6 : Array (Option Value)} {oc6 kV6 dc6 pm6 ct6 : Value} {c6 : Addr}
    {f7 : Addr} {od7 an7 : Option Addr} {sl7 : Array (Option Value)} {oc7 kV7 dc7 pm7 ct7 : Value} {cd7 : Value}
    {f8 : Addr} {od8 an8 : Option Addr} {sl8 : Array (Option Value)} {oc8 kV8 dc8 pm8 ct8 : Value} {cd8 : Value}
    {f9 : Addr} {od9 an9 : Option Addr} {sl9 : Array (Option Value)} {oc9 kV9 dc9 pm9 ct9 : Value} {cd9 : Value}
    {f10 : Addr} {od10 an10 : Option Addr} {sl10 : Array (Option Value)} {oc10 kV10 dc10 pm10 ct10 : Value} {cd10 : Value}
    {f11 : Addr} {od11 an11 : Option Addr} {sl11 : Array (Option Value)} {oc11 kV11 dc11 pm11 ct11 : Value} {cd11 : Value}
    {f12 : Addr} {od12 an12 : Option Addr} {sl12 : Array (Option Value)} {oc12 kV12 dc12 pm12 ct12 : Value} {cd12 : Value}
    {t0 : Tok}
    (a0 : PySem.W.nsIn K mainGlobals "is_in" = some (some (.ref f0)))
    (l0 : K.lookup f0 = some ⟨oc0, od0, .func (PySem.W.fnOf "is_in" "is_in" (defArgs (stm 0)) (defBody (stm 0)) (defScope (stm 0)) .none kV0 dc0 pm0 an0 cd0 ct0), sl0⟩)
    (e0 : PySem.W.codeIn K cd0 "is_in" = true)
    (k0 : PySem.W.keepIn K (.ref f0) = true)
    (a1 : PySem.W.nsIn K mainGlobals "first_ceremony" = some (some (.ref f1)))
    (l1 : K.lookup f1 = some ⟨oc1, od1, .func (PySem.W.fnOf "first_ceremony" "first_ceremony" (defArgs (stm 1)) (defBody (stm 1)) (defScope (stm 1)) .none kV1 dc1 pm1 an1 cd1 ct1), sl1⟩)
    (e1 : PySem.W.codeIn K cd1 "first_ceremony" = true)
    (k1 : PySem.W.keepIn K (.ref f1) = true)
    (a2 : PySem.W.nsIn K mainGlobals "_law_box" = some (some (.ref f2)))
    (l2 : K.lookup f2 = some ⟨oc2, od2, .func (PySem.W.fnOf "_law_box" "_law_box" (defArgs (stm 2)) (defBody (stm 2)) (defScope (stm 2)) .none kV2 dc2 pm2 an2 cd2 ct2), sl2⟩)
    (e2 : PySem.W.codeIn K cd2 "_law_box" = true)
    (k2 : PySem.W.keepIn K (.ref f2) = true)
    (a3 : PySem.W.nsIn K mainGlobals "_law_load" = some (some (.ref f3)))
    (l3 : K.lookup f3 = some ⟨oc3, od3, .func (PySem.W.fnOf "_law_load" "_law_load" (defArgs (stm 3)) (defBody (stm 3)) (defScope (stm 3)) .none kV3 dc3 pm3 an3 cd3 ct3), sl3⟩)
    (e3 : PySem.W.codeIn K cd3 "_law_load" = true)
    (k3 : PySem.W.keepIn K (.ref f3) = true)
    (a4 : PySem.W.nsIn K mainGlobals "_law_draw" = some (some (.ref f4)))
    (l4 : K.lookup f4 = some ⟨oc4, od4, .func (PySem.W.fnOf "_law_draw" "_law_draw" (defArgs (stm 4)) (defBody (stm 4)) (defScope (stm 4)) .none kV4 dc4 pm4 an4 cd4 ct4), sl4⟩)
    (e4 : PySem.W.codeIn K cd4 "_law_draw" = true)
    (k4 : PySem.W.keepIn K (.ref f4) = true)
    (a5 : PySem.W.nsIn K mainGlobals "_law_same" = some (some (.ref f5)))
    (l5 : K.lookup f5 = some ⟨oc5, od5, .func (PySem.W.fnOf "_law_same" "_law_same" (defArgs (stm 5)) (defBody (stm 5)) (defScope (stm 5)) .none kV5 dc5 pm5 an5 cd5 ct5), sl5⟩)
    (e5 : PySem.W.codeIn K cd5 "_law_same" = true)
    (k5 : PySem.W.keepIn K (.ref f5) = true)
    (a6 : PySem.W.nsIn K mainGlobals "_law_all" = some (some (.ref f6)))
    (l6 : K.lookup f6 = some ⟨oc6, od6, .func (PySem.W.fnOf "_law_all" "_law_all" (defArgs (stm 6)) (defBody (stm 6)) (defScope (stm 6)) .none kV6 dc6 pm6 an6 (.ref c6) ct6), sl6⟩)
    (e6 : PySem.W.codeIn K (.ref c6) "_law_all" = true)
    (k6 : PySem.W.keepIn K (.ref f6) = true)
    (h6 : PySem.W.codeHdIn K c6 52 = true)
    (n6 : K.lookup 52 = none)
    (a7 : PySem.W.nsIn K mainGlobals "_law_least" = some (some (.ref f7)))
    (l7 : K.lookup f7 = some ⟨oc7, od7, .func (PySem.W.fnOf "_law_least" "_law_least" (defArgs (stm 7)) (defBody (stm 7)) (defScope (stm 7)) .none kV7 dc7 pm7 an7 cd7 ct7), sl7⟩)
    (e7 : PySem.W.codeIn K cd7 "_law_least" = true)
    (k7 : PySem.W.keepIn K (.ref f7) = true)
    (a8 : PySem.W.nsIn K mainGlobals "_law_council" = some (some (.ref f8)))
    (l8 : K.lookup f8 = some ⟨oc8, od8, .func (PySem.W.fnOf "_law_council" "_law_council" (defArgs (stm 8)) (defBody (stm 8)) (defScope (stm 8)) .none kV8 dc8 pm8 an8 cd8 ct8), sl8⟩)
    (e8 : PySem.W.codeIn K cd8 "_law_council" = true)
    (k8 : PySem.W.keepIn K (.ref f8) = true)
    (a9 : PySem.W.nsIn K mainGlobals "_law_decides" = some (some (.ref f9)))
    (l9 : K.lookup f9 = some ⟨oc9, od9, .func (PySem.W.fnOf "_law_decides" "_law_decides" (defArgs (stm 9)) (defBody (stm 9)) (defScope (stm 9)) .none kV9 dc9 pm9 an9 cd9 ct9), sl9⟩)
    (e9 : PySem.W.codeIn K cd9 "_law_decides" = true)
    (k9 : PySem.W.keepIn K (.ref f9) = true)
    (a10 : PySem.W.nsIn K mainGlobals "_law_blocks" = some (some (.ref f10)))
    (l10 : K.lookup f10 = some ⟨oc10, od10, .func (PySem.W.fnOf "_law_blocks" "_law_blocks" (defArgs (stm 10)) (defBody (stm 10)) (defScope (stm 10)) .none kV10 dc10 pm10 an10 cd10 ct10), sl10⟩)
    (e10 : PySem.W.codeIn K cd10 "_law_blocks" = true)
    (k10 : PySem.W.keepIn K (.ref f10) = true)
    (a11 : PySem.W.nsIn K mainGlobals "_law_times" = some (some (.ref f11)))
    (l11 : K.lookup f11 = some ⟨oc11, od11, .func (PySem.W.fnOf "_law_times" "_law_times" (defArgs (stm 11)) (defBody (stm 11)) (defScope (stm 11)) .none kV11 dc11 pm11 an11 cd11 ct11), sl11⟩)
    (e11 : PySem.W.codeIn K cd11 "_law_times" = true)
    (k11 : PySem.W.keepIn K (.ref f11) = true)
    (a12 : PySem.W.nsIn K mainGlobals "law" = some (some (.ref f12)))
    (l12 : K.lookup f12 = some ⟨oc12, od12, .func (PySem.W.fnOf "law" "law" (defArgs (stm 12)) (defBody (stm 12)) (defScope (stm 12)) .none kV12 dc12 pm12 an12 cd12 ct12), sl12⟩)
    (e12 : PySem.W.codeIn K cd12 "law" = true)
    (k12 : PySem.W.keepIn K (.ref f12) = true)
    (z_len : PySem.W.nsIn K mainGlobals "len" = some none)
    (z_all : PySem.W.nsIn K mainGlobals "all" = some none)
    (z_any : PySem.W.nsIn K mainGlobals "any" = some none)
    (z_sum : PySem.W.nsIn K mainGlobals "sum" = some none)
    (z_max : PySem.W.nsIn K mainGlobals "max" = some none)
    (z_min : PySem.W.nsIn K mainGlobals "min" = some none)
    (z_abs : PySem.W.nsIn K mainGlobals "abs" = some none)
    (z_int : PySem.W.nsIn K mainGlobals "int" = some none)
    (z_str : PySem.W.nsIn K mainGlobals "str" = some none)
    (z_tuple : PySem.W.nsIn K mainGlobals "tuple" = some none)
    (z_list : PySem.W.nsIn K mainGlobals "list" = some none)
    (z_sorted : PySem.W.nsIn K mainGlobals "sorted" = some none)
    (z_set : PySem.W.nsIn K mainGlobals "set" = some none)
    (z_range : PySem.W.nsIn K mainGlobals "range" = some none)
    (z_isinstance : PySem.W.nsIn K mainGlobals "isinstance" = some none)
    (z_bool : PySem.W.nsIn K mainGlobals "bool" = some none)
    (z_dict : PySem.W.nsIn K mainGlobals "dict" = some none)
    (z_enumerate : PySem.W.nsIn K mainGlobals "enumerate" = some none)
    (z_zip : PySem.W.nsIn K mainGlobals "zip" = some none)
    (m0 : PySem.W.nsIn K mainGlobals "MAX_TIME" = some (some (.int 10000 t0)))
    : LamX.LawAtS l w K CX0 (2 * 100) 63 "script" mg fa h := by
  have W : Wld K mg pgm stm [(c6, 52)] [(52, (("_law_all" : Str) ++ ".<locals>.") ++ "<lambda>")] := wld KX G
    (⟨⟨f0, cd0, defAt a0 l0 e0 k0, fun z => nomatch z⟩, ⟨⟨f1, cd1, defAt a1 l1 e1 k1, fun z => nomatch z⟩, ⟨⟨f2, cd2, defAt a2 l2 e2 k2, fun z => nomatch z⟩, ⟨⟨f3, cd3, defAt a3 l3 e3 k3, fun z => nomatch z⟩, ⟨⟨f4, cd4, defAt a4 l4 e4 k4, fun z => nomatch z⟩, ⟨⟨f5, cd5, defAt a5 l5 e5 k5, fun z => nomatch z⟩, ⟨⟨f6, (.ref c6), defAt a6 l6 e6 k6, fun _ => ⟨c6, 52, rfl, by simp, by simp, by decide +kernel⟩⟩, ⟨⟨f7, cd7, defAt a7 l7 e7 k7, fun z => nomatch z⟩, ⟨⟨f8, cd8, defAt a8 l8 e8 k8, fun z => nomatch z⟩, ⟨⟨f9, cd9, defAt a9 l9 e9 k9, fun z => nomatch z⟩, ⟨⟨f10, cd10, defAt a10 l10 e10 k10, fun z => nomatch z⟩, ⟨⟨f11, cd11, defAt a11 l11 e11 k11, fun z => nomatch z⟩, ⟨⟨f12, cd12, defAt a12 l12 e12 k12, fun z => nomatch z⟩, trivial⟩⟩⟩⟩⟩⟩⟩⟩⟩⟩⟩⟩⟩)
    (⟨bnd_is_in, ⟨bnd_first_ceremony, ⟨bnd__law_box, ⟨bnd__law_load, ⟨bnd__law_draw, ⟨bnd__law_same, ⟨bnd__law_all, ⟨bnd__law_least, ⟨bnd__law_council, ⟨bnd__law_decides, ⟨bnd__law_blocks, ⟨bnd__law_times, ⟨bnd_law, trivial⟩⟩⟩⟩⟩⟩⟩⟩⟩⟩⟩⟩⟩)
    (⟨chk_is_in, ⟨chk_first_ceremony, ⟨chk__law_box, ⟨chk__law_load, ⟨chk__law_draw, ⟨chk__law_same, ⟨chk__law_all, ⟨chk__law_least, ⟨chk__law_council, ⟨chk__law_decides, ⟨chk__law_blocks, ⟨chk__law_times, ⟨chk_law, trivial⟩⟩⟩⟩⟩⟩⟩⟩⟩⟩⟩⟩⟩)
    (fun x hx => by
      simp only [bltNames, List.mem_cons, List.not_mem_nil, or_false] at hx
      rcases hx with rfl | rfl | rfl | rfl | rfl | rfl | rfl | rfl | rfl | rfl | rfl | rfl | rfl | rfl | rfl | rfl | rfl | rfl | rfl <;> assumption)
    (fun x d hx => by
      simp only [pgm, List.mem_cons, List.not_mem_nil, or_false, Prod.mk.injEq] at hx
      rcases hx with ⟨rfl, rfl⟩
      · exact ⟨_, .int 10000, m0, ⟨_, rfl⟩, fun _ _ => rfl⟩)
  refine law_at W KX (i := 12) (d := d_law) rfl rfl hfa bnd_law ?_ ?_ ?_ ?_ fun ns h _ => plain ns h
  · intro p hp; simp only [List.mem_cons, List.not_mem_nil, or_false] at hp; rcases hp with rfl <;> exact hT _ (by simp)
  · intro p hp; simp only [List.mem_cons, List.not_mem_nil, or_false] at hp; rcases hp with rfl <;> assumption
  · intro p hp; simp only [List.mem_cons, List.not_mem_nil, or_false] at hp; rcases hp with rfl <;> assumption
  · intro p hp; simp only [List.mem_cons, List.not_mem_nil, or_false] at hp; rcases hp with rfl <;> exact ⟨_, List.mem_cons_self, rfl⟩
end
end K53
open PySem PySem.W PyProof.Rows in
set_option maxRecDepth 100000 in
set_option maxHeartbeats 0 in
theorem PySem.Challenge.cw_neverdark_k53_ceremonies_holds : PySem.Challenge.rw_neverdark_k53_ceremonies.Holds := by
  w_on; o_law; k_head; (case hw => w_witness2)
  k_fill
  refine LamX.walk_ofTs (n := 63) (k := 2 * 100) (x := ("script" : Str)) (CX := fun _ => L2.CX0) rfl (by decide) rfl ⟨rfl, by decide, by decide⟩ (fun w h Y => km_in_of Y) ?F (fun _ _ _ _ _ z => z)
  case F =>
    intro w mg fa h Y KX G hmg
    refine' K53.all_mk KX G hmg (km_tabs_of Y) ?a0 ?l0 ?e0 ?k0 ?a1 ?l1 ?e1 ?k1 ?a2 ?l2 ?e2 ?k2 ?a3 ?l3 ?e3 ?k3 ?a4 ?l4 ?e4 ?k4 ?a5 ?l5 ?e5 ?k5 ?a6 ?l6 ?e6 ?k6 ?h6 ?n6 ?a7 ?l7 ?e7 ?k7 ?a8 ?l8 ?e8 ?k8 ?a9 ?l9 ?e9 ?k9 ?a10 ?l10 ?e10 ?k10 ?a11 ?l11 ?e11 ?k11 ?a12 ?l12 ?e12 ?k12 ?z_len ?z_all ?z_any ?z_sum ?z_max ?z_min ?z_abs ?z_int ?z_str ?z_tuple ?z_list ?z_sorted ?z_set ?z_range ?z_isinstance ?z_bool ?z_dict ?z_enumerate ?z_zip ?m0
    (case a0 => k_is)
    (case l0 => k_is)
    (case e0 => k_is)
    (case k0 => k_is)
    (case a1 => k_is)
    (case l1 => k_is)
    (case e1 => k_is)
    (case k1 => k_is)
    (case a2 => k_is)
    (case l2 => k_is)
    (case e2 => k_is)
    (case k2 => k_is)
    (case a3 => k_is)
    (case l3 => k_is)
    (case e3 => k_is)
    (case k3 => k_is)
    (case a4 => k_is)
    (case l4 => k_is)
    (case e4 => k_is)
    (case k4 => k_is)
    (case a5 => k_is)
    (case l5 => k_is)
    (case e5 => k_is)
    (case k5 => k_is)
    (case a6 => k_is)
    (case l6 => k_is)
    (case e6 => k_is)
    (case k6 => k_is)
    (case h6 => kernel_rfl)
    (case n6 => kernel_rfl)
    (case a7 => k_is)
    (case l7 => k_is)
    (case e7 => k_is)
    (case k7 => k_is)
    (case a8 => k_is)
    (case l8 => k_is)
    (case e8 => k_is)
    (case k8 => k_is)
    (case a9 => k_is)
    (case l9 => k_is)
    (case e9 => k_is)
    (case k9 => k_is)
    (case a10 => k_is)
    (case l10 => k_is)
    (case e10 => k_is)
    (case k10 => k_is)
    (case a11 => k_is)
    (case l11 => k_is)
    (case e11 => k_is)
    (case k11 => k_is)
    (case a12 => k_is)
    (case l12 => k_is)
    (case e12 => k_is)
    (case k12 => k_is)
    (case z_len => k_is)
    (case z_all => k_is)
    (case z_any => k_is)
    (case z_sum => k_is)
    (case z_max => k_is)
    (case z_min => k_is)
    (case z_abs => k_is)
    (case z_int => k_is)
    (case z_str => k_is)
    (case z_tuple => k_is)
    (case z_list => k_is)
    (case z_sorted => k_is)
    (case z_set => k_is)
    (case z_range => k_is)
    (case z_isinstance => k_is)
    (case z_bool => k_is)
    (case z_dict => k_is)
    (case z_enumerate => k_is)
    (case z_zip => k_is)
    (case m0 => k_is)
#print axioms PySem.Challenge.cw_neverdark_k53_ceremonies_holds

