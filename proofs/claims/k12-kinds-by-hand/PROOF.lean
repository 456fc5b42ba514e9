import PyProof.Rows.All
import Wide.All
import OpenK.AllK
import Wide.FinOn
import PySem.Syntax
import HandS.ForMost
import KE.KDictKeyed
import HandS.TupAny
import HandS.TupMul
import KE.KDictCopyH
import HandS.DictEq
import PyProof.DictFindH
import PyProof.EqKinds
import PyProof.NeKinds
import HandS.Text
import HandS.Conv
import HandS.Comp
import HandS.Iter
import KE.GoesMore
import HandS.DictComp
import KE.KDictDisplayH
import HandS.IsInst
import HandS.Style
import HandS.SortRule
import HandS.TupLen
import PyProof.Rows.SortShellAny
import HandS.Strs
import HandS.SetFor
import HandS.Codes
import HandS.Defaults
import HandS.HeadHook4
import HandS.Ends
import HandS.More
import HandS.Words
import HandS.WordsExc
import HandS.Head0
import HandS.Head1
import HandS.Head2
import HandS.HeadEnd
import HandS.HeadHook1
import HandS.HeadHook2
import KE.KStateDown
import PySem.Challenge.RW_movedframes_k12_kinds_by_hand
set_option maxRecDepth 100000
set_option linter.all false
/-! Pz: a small evaluator for the Python that the laws' texts are written in, over a store of its own. -/
namespace Pz
open PySem (Str)

inductive IB where | add | sub | mul | fdv | mod | pow
inductive IC where | eq | lt | le

/-- the whole numbers of a run: known ones, or letters with what is known of them -/
class IOps (I : Type) where
  lit : Int → I
  val : I → Option Int
  bin : IB → I → I → Option I
  cmp : IC → I → I → Option Bool

def big64 (i : Int) : Bool := (-18446744073709551616 : Int) < i && i < 18446744073709551616
def intBin : IB → Int → Int → Option Int
  | .add, a, b => some (a + b)
  | .sub, a, b => some (a - b)
  | .mul, a, b => if big64 a || big64 b then some (a * b) else none
  | .fdv, a, b => if 0 < b && b < 1073741824 then some (a / b) else none
  | .mod, a, b => if 0 < b then some (a % b) else none
  | .pow, a, b => if 0 ≤ b && b ≤ 1000000 && big64 a then some (a ^ b.toNat) else none
def intCmp : IC → Int → Int → Bool
  | .eq, a, b => decide (a = b)
  | .lt, a, b => decide (a < b)
  | .le, a, b => decide (a ≤ b)
instance : IOps Int := ⟨fun i => i, some, intBin, fun c a b => some (intCmp c a b)⟩

inductive Val (I : Type) where
  | non | bl (b : Bool) | int (i : I) | str (s : Str) | tup (xs : List (Val I)) | ref (a : Nat)

inductive Ob (I : Type) where
  | lst (xs : List (Val I))
  | fls (xs : List (Val I))
  | dic (kvs : List (Val I × Val I)) (lk : Nat)
  | ins (c : Nat) (fs : List (Str × Val I))

/-- a tree by places -/
inductive Tr (A : Type) where
  | lf | nd (v : Option A) (l r : Tr A)
namespace Tr
variable {A : Type}
def get : Tr A → Nat → Option A
  | .lf, _ => none
  | .nd v _ _, 0 => v
  | .nd _ l r, j + 1 => if Nat.beq (j % 2) 0 then l.get (j / 2) else r.get (j / 2)
def set : Nat → Tr A → Nat → A → Tr A
  | 0, t, _, _ => t
  | _ + 1, .lf, 0, a => .nd (some a) .lf .lf
  | _ + 1, .nd _ l r, 0, a => .nd (some a) l r
  | k + 1, .lf, j + 1, a => if Nat.beq (j % 2) 0 then .nd none (set k .lf (j / 2) a) .lf else .nd none .lf (set k .lf (j / 2) a)
  | k + 1, .nd v l r, j + 1, a => if Nat.beq (j % 2) 0 then .nd v (set k l (j / 2) a) r else .nd v l (set k r (j / 2) a)
end Tr

structure Sto (I : Type) where
  next : Nat
  tr : Tr (Ob I)
namespace Sto
variable {I : Type}
def get (S : Sto I) (a : Nat) : Option (Ob I) := S.tr.get a
def set (S : Sto I) (a : Nat) (o : Ob I) : Sto I := ⟨S.next, S.tr.set 40 a o⟩
def new (S : Sto I) (o : Ob I) : Sto I := ⟨S.next + 1, S.tr.set 40 S.next o⟩
def empty : Sto I := ⟨0, .lf⟩
end Sto

inductive Rs (I A : Type) where
  | ok (a : A) (S : Sto I)
  | ex (c : Nat) (S : Sto I)
  | bad
@[inline] def Rs.bind {I A B : Type} (r : Rs I A) (f : A → Sto I → Rs I B) : Rs I B := match r with
  | .ok a S => f a S
  | .ex c S => .ex c S
  | .bad => .bad
/-- a step that may not be had -/
@[inline] def opt {I A B : Type} (o : Option A) (f : A → Rs I B) : Rs I B := match o with
  | some a => f a
  | none => .bad

/-! ### the program's form -/
inductive Ty where | int | bool | str | tuple | list | dict | cls (c n : Nat)
inductive DT where | non | bool | int | str | tuple | list | dict | cls (c : Nat)
inductive Cop where | eq | ne | lt | le | gt | ge | is | isnot | in | notin
inductive Bop where | add | sub | mul | fdv | mod | pow
inductive BF where
  | len | list | tuple | int | sorted | sortedSet | all | any | max | min | sum | dict | repr | set
inductive BM where
  | append | pop | get | setdefault | index | extend | update | clear | insert | count | values | items
inductive Tg where
  | nm (i : Nat) | tup (ts : List Tg)
mutual
inductive Ex (I : Type) where
  | cst (v : Val I)
  | var (i : Nat)
  | tup (es : List (Ex I))
  | lst (es : List (Ex I))
  | dic (kvs : List (Ex I))
  | bin (o : Bop) (a b : Ex I)
  | neg (a : Ex I)
  | not (a : Ex I)
  | cmp (o : Cop) (a b : Ex I)
  | chn (o1 o2 : Cop) (a b c : Ex I)
  | and (a b : Ex I)
  | or (a b : Ex I)
  | ite (c a b : Ex I)
  | idx (a i : Ex I)
  | slc (a : Ex I) (lo hi st : Option (Ex I))
  | fld (a : Ex I) (f : Str)
  | call (f : Nat) (es : List (Ex I)) (perm : Option (List Nat))
  | new (c : Nat) (es : List (Ex I)) (perm : Option (List Nat))
  | mth (a : Ex I) (m : Str) (es : List (Ex I)) (perm : Option (List Nat))
  | bmt (a : Ex I) (m : BM) (es : List (Ex I))
  | bif (b : BF) (es : List (Ex I))
  | isi (a : Ex I) (ts : List Ty)
  | lc (e : Ex I) (t : Tg) (it : Sr I) (c : Option (Ex I)) (own : List Nat)
  | lc2 (e : Ex I) (t : Tg) (it : Sr I) (t2 : Tg) (it2 : Sr I) (c : Option (Ex I)) (own : List Nat)
  | dc (k v : Ex I) (t : Tg) (it : Sr I) (own : List Nat)
  | tin (a : Ex I)
  | tix (a : Ex I)
  | bad
inductive Sr (I : Type) where
  | ex (e : Ex I) | rng (es : List (Ex I)) | enu (e : Ex I) | zip (a b : Ex I) | itm (e : Ex I)
end
inductive St (I : Type) where
  | set (i : Nat) (e : Ex I)
  | setT (t : Tg) (e : Ex I)
  | par (is : List Nat) (es : List (Ex I))
  | setF (a : Ex I) (f : Str) (e : Ex I)
  | setI (a i : Ex I) (e : Ex I)
  | setI2 (a i b j : Ex I) (e f : Ex I)
  | augF (a : Ex I) (f : Str) (o : Bop) (e : Ex I)
  | augN (x : Nat) (o : Bop) (e : Ex I)
  | augI (a i : Ex I) (o : Bop) (e : Ex I)
  | expr (e : Ex I)
  | ifs (c : Ex I) (a b : List (St I))
  | for (t : Tg) (it : Sr I) (b : List (St I))
  | whl (c : Ex I) (b : List (St I))
  | ret (e : Ex I)
  | retN
  | rais (c : Nat)
  | pass
  | cont
  | try (b : List (St I)) (c : Nat) (h : List (St I))

structure Fn (I : Type) where
  np : Nat
  ns : Nat
  body : List (St I)
structure Cl where
  init : Nat
  ms : List (Str × Nat)
structure Pg (I : Type) where
  fns : List (Fn I)
  cls : List Cl
  tab : List (Str × Int)

/-! ### values -/
def nlBeq : List Nat → List Nat → Bool
  | [], [] => true
  | a :: l, b :: m => match Nat.beq a b with
    | true => nlBeq l m
    | false => false
  | _, _ => false
def sBeq (a b : Str) : Bool := nlBeq a.cps.toList b.cps.toList
def nlLt : List Nat → List Nat → Bool
  | [], [] => false
  | [], _ :: _ => true
  | _ :: _, [] => false
  | a :: l, b :: m => match Nat.beq a b with
    | true => nlLt l m
    | false => Nat.blt a b

section
variable {I : Type} [IOps I]
abbrev lit (i : Int) : Val I := .int (IOps.lit i)
def asInt : Val I → Option I
  | .int i => some i
  | _ => none
def asI : Val I → Option Int
  | .int i => IOps.val i
  | _ => none
def asBl : Val I → Option Bool
  | .bl b => some b
  | _ => none
-- keys of a dict: whole numbers, texts, tuples of such
mutual
def kBeq : Val I → Val I → Option Bool
  | .int i, .int j => IOps.cmp .eq i j
  | .str s, .str t => some (sBeq s t)
  | .int _, .str _ => some false
  | .str _, .int _ => some false
  | .tup xs, .tup ys => kBeqs xs ys
  | _, _ => none
def kBeqs : List (Val I) → List (Val I) → Option Bool
  | [], [] => some true
  | x :: xs, y :: ys => match kBeq x y with
    | some true => kBeqs xs ys
    | some false => some false
    | none => none
  | [], _ :: _ => some false
  | _ :: _, [] => some false
end
-- what may be a key, so deep at most
mutual
def kOk : Nat → Val I → Bool
  | _, .int _ => true
  | _, .str _ => true
  | n + 1, .tup xs => kOks n xs
  | _, _ => false
def kOks : Nat → List (Val I) → Bool
  | _, [] => true
  | n, x :: xs => match kOk n x with
    | true => kOks n xs
    | false => false
end
def kFind (k : Val I) : List (Val I × Val I) → Option (Option (Val I))
  | [] => match kOk 8 k with
    | true => some none
    | false => none
  | (k', v) :: r => match kBeq k' k with
    | some true => some (some v)
    | some false => kFind k r
    | none => none
def kPut (k v : Val I) : List (Val I × Val I) → Option (List (Val I × Val I))
  | [] => match kOk 8 k with
    | true => some [(k, v)]
    | false => none
  | (k', u) :: r => match kBeq k' k with
    | some true => some ((k', v) :: r)
    | some false => (kPut k v r).map ((k', u) :: ·)
    | none => none
def kDel (k : Val I) : List (Val I × Val I) → Option (List (Val I × Val I))
  | [] => some []
  | (k', u) :: r => match kBeq k' k with
    | some true => some r
    | some false => (kDel k r).map ((k', u) :: ·)
    | none => none

def isLeaf : Val I → Bool
  | .int _ => true
  | .str _ => true
  | _ => false
/-- item by item -/
def eqL (f : Val I → Val I → Option Bool) : List (Val I) → List (Val I) → Option Bool
  | [], [] => some true
  | x :: xs, y :: ys => match f x y, eqL f xs ys with
    | some a, some b => some (a && b)
    | _, _ => none
  | [], _ :: _ => some false
  | _ :: _, [] => some false
def eqD (f : Val I → Val I → Option Bool) : List (Val I × Val I) → List (Val I × Val I) → Option Bool
  | [], _ => some true
  | (.tup ks, v) :: r, lvs => match kFind (.tup ks) lvs with
    | some (some u) => match f v u, eqD f r lvs with
      | some a, some b => some (a && b)
      | _, _ => none
    | some none => some false
    | none => none
  | _ :: _, _ => none
/-- x == y, at most so deep -/
def eqF : Nat → Sto I → Val I → Val I → Option Bool
  | 0, _, _, _ => none
  | n + 1, S, x, y => match x, y with
    | .non, .non => some true
    | .bl a, .bl b => some (a == b)
    | .int i, .int j => IOps.cmp .eq i j
    | .bl a, .int j => IOps.cmp .eq (IOps.lit (if a then 1 else 0)) j
    | .int i, .bl b => IOps.cmp .eq i (IOps.lit (if b then 1 else 0))
    | .str s, .str t => some (sBeq s t)
    | .tup xs, .tup ys => eqL (eqF n S) xs ys
    | .ref a, .ref b => match S.get a, S.get b with
      | some (.lst xs), some (.lst ys) => match Nat.beq xs.length ys.length with
        | true => eqL (eqF n S) xs ys
        | false => some false
      | some (.ins _ _), some (.ins _ _) => match Nat.beq a b with
        | true => some true
        | false => none
      | _, _ => none
    | .ref a, .tup _ => match S.get a with
      | some (.lst _) => some false
      | _ => none
    | .tup _, .ref b => match S.get b with
      | some (.lst _) => some false
      | _ => none
    | .ref a, _ => match S.get a with
      | some (.lst _) => some false
      | _ => none
    | _, .ref b => match S.get b with
      | some (.lst _) => some false
      | _ => none
    | _, _ => some false
/-- keys are tuples (as the first says) -/
def tupHead : List (Val I × Val I) → Bool
  | [] => true
  | (.tup _, _) :: _ => true
  | _ => false
def eqV (S : Sto I) (x y : Val I) : Option Bool := match x, y with
  | .ref a, .ref b => match S.get a, S.get b with
    | some (.lst xs), some (.lst ys) => match Nat.beq xs.length ys.length with
      | true => eqL (eqF 40 S) xs ys
      | false => some false
    | some (.dic kvs _), some (.dic lvs _) => match tupHead kvs, tupHead lvs, Nat.beq kvs.length lvs.length with
      | true, true, true => eqD (eqF 40 S) kvs lvs
      | true, true, false => some false
      | _, _, _ => none
    | _, _ => none
  | _, _ => eqF 41 S x y
def ltL (f : Val I → Val I → Option Bool) : List (Val I) → List (Val I) → Option Bool
  | [], [] => some false
  | [], _ :: _ => some true
  | _ :: _, [] => some false
  | x :: xs, y :: ys => match kBeq x y with
    | some true => ltL f xs ys
    | some false => f x y
    | none => none
/-- x < y -/
def ltF : Nat → Val I → Val I → Option Bool
  | 0, _, _ => none
  | n + 1, x, y => match x, y with
    | .int i, .int j => IOps.cmp .lt i j
    | .str s, .str t => some (nlLt s.cps.toList t.cps.toList)
    | .tup xs, .tup ys => ltL (ltF n) xs ys
    | _, _ => none
def ltV (x y : Val I) : Option Bool := ltF 40 x y
def inIns (x : Val I) : List (Val I) → Option (List (Val I))
  | [] => some [x]
  | y :: r => match ltV x y with
    | some true => some (x :: y :: r)
    | some false => (inIns x r).map (y :: ·)
    | none => none
def sortV : List (Val I) → Option (List (Val I))
  | [] => some []
  | x :: r => match sortV r with
    | some l => inIns x l
    | none => none
def memV (S : Sto I) (x : Val I) : List (Val I) → Option Bool
  | [] => some false
  | y :: r => match eqF 40 S y x, memV S x r with
    | some a, some b => some (a || b)
    | _, _ => none
def idxV (S : Sto I) (x : Val I) : List (Val I) → Nat → Option Nat
  | [], _ => none
  | y :: r, i => match eqF 40 S y x with
    | some true => some i
    | some false => idxV S x r (i + 1)
    | none => none
def cntV (S : Sto I) (x : Val I) : List (Val I) → Option Nat
  | [] => some 0
  | y :: r => match eqF 40 S y x, cntV S x r with
    | some true, some n => some (n + 1)
    | some false, some n => some n
    | _, _ => none
/-- the first of each, in order of their first places -/
def dedup : List (Val I) → List (Val I) → Option (List (Val I))
  | [], acc => some acc
  | x :: r, acc => match kFind x (acc.map fun y => (y, y)) with
    | some (some _) => dedup r acc
    | some none => dedup r (acc ++ [x])
    | none => none
def place (n : Nat) (i : Int) : Option Nat :=
  if 0 ≤ i then (if i < n then some i.toNat else none) else (if 0 ≤ i + n then some (i + n).toNat else none)
def clip (n : Nat) (i : Int) : Nat := if 0 ≤ i then min i.toNat n else (i + n).toNat
def cutL (xs : List (Val I)) (lo hi : Nat) : List (Val I) := (xs.drop lo).take (hi - lo)
def lookS (f : Str) : List (Str × Val I) → Option (Val I)
  | [] => none
  | (g, v) :: r => match sBeq g f with
    | true => some v
    | false => lookS f r
def putS (f : Str) (v : Val I) : List (Str × Val I) → List (Str × Val I)
  | [] => [(f, v)]
  | (g, u) :: r => match sBeq g f with
    | true => (g, v) :: r
    | false => (g, u) :: putS f v r
def lookM (f : Str) : List (Str × Nat) → Option Nat
  | [] => none
  | (g, v) :: r => match sBeq g f with
    | true => some v
    | false => lookM f r
def chrsV (s : Str) : List (Val I) := s.cps.toList.map fun c => .str ⟨#[c]⟩
def rep (xs : List (Val I)) : Nat → List (Val I)
  | 0 => []
  | n + 1 => xs ++ rep xs n
def sumV : List (Val I) → I → Option I
  | [], a => some a
  | x :: r, a => match asInt x with
    | some i => match IOps.bin .add a i with
      | some b => sumV r b
      | none => none
    | none => none
def maxV : List (Val I) → I → Option I
  | [], a => some a
  | x :: r, a => match asInt x with
    | some i => match IOps.cmp .lt a i with
      | some true => maxV r i
      | some false => maxV r a
      | none => none
    | none => none
def minV : List (Val I) → I → Option I
  | [], a => some a
  | x :: r, a => match asInt x with
    | some i => match IOps.cmp .lt i a with
      | some true => minV r i
      | some false => minV r a
      | none => none
    | none => none
def dty (S : Sto I) (v : Val I) : Option DT := match v with
  | .non => some .non
  | .bl _ => some .bool
  | .int _ => some .int
  | .str _ => some .str
  | .tup _ => some .tuple
  | .ref a => match S.get a with
    | some (.lst _) => some .list
    | some (.fls _) => some .list
    | some (.dic _ _) => some .dict
    | some (.ins c _) => some (.cls c)
    | none => none
def DT.sub : DT → Ty → Option Bool
  | .bool, .int => some true
  | .bool, .bool => some true
  | .int, .int => some true
  | .str, .str => some true
  | .tuple, .tuple => some true
  | .list, .list => some true
  | .dict, .dict => some true
  | .cls c, .cls d n => match Nat.blt c n, Nat.blt d n with
    | true, true => some (Nat.beq c d)
    | _, _ => none
  | _, .cls d n => match Nat.blt d n with
    | true => some false
    | _ => none
  | _, _ => some false
def DT.subs (t : DT) : List Ty → Option Bool
  | [] => some false
  | T :: r => match t.sub T with
    | some true => some true
    | some false => t.subs r
    | none => none
def isTys (S : Sto I) (v : Val I) (ts : List Ty) : Option Bool := match dty S v with
  | some t => t.subs ts
  | none => none
def items (S : Sto I) : Val I → Option (List (Val I))
  | .tup xs => some xs
  | .ref a => match S.get a with
    | some (.lst xs) => some xs
    | some (.fls xs) => some xs
    | _ => none
  | _ => none
def fresh (S : Sto I) (o : Ob I) : Rs I (Val I) := match Nat.blt S.next 1000000000 with
  | true => .ok (.ref S.next) (S.new o)
  | false => .bad

/-- short enough -/
def okL {A : Type} (xs : List A) : Bool := Nat.blt xs.length 16000000
def ibOf : Bop → IB
  | .add => .add | .sub => .sub | .mul => .mul | .fdv => .fdv | .mod => .mod | .pow => .pow
def binV (o : Bop) (x y : Val I) (S : Sto I) : Rs I (Val I) := match x, y with
  | .int i, .int j => opt (IOps.bin (ibOf o) i j) fun k => .ok (.int k) S
  | .tup xs, .tup ys => match o, okL (xs ++ ys) with
    | .add, true => .ok (.tup (xs ++ ys)) S
    | _, _ => .bad
  | .str s, .str t => match o, okL (s.cps.toList ++ t.cps.toList) with
    | .add, true => .ok (.str ⟨⟨s.cps.toList ++ t.cps.toList⟩⟩) S
    | _, _ => .bad
  | .tup xs, .int j => match o, xs with
    | .mul, _ :: _ => opt (IOps.val j) fun n => match decide (2 ≤ n) && decide (n ≤ 1000) && Nat.ble xs.length 1000 with
      | true => .ok (.tup (rep xs n.toNat)) S
      | false => .bad
    | _, _ => .bad
  | .ref a, .ref b => match o, S.get a, S.get b with
    | .add, some (.lst xs), some (.lst ys) => match okL (xs ++ ys) with
      | true => fresh S (.lst (xs ++ ys))
      | false => .bad
    | _, _, _ => .bad
  | .ref a, .int j => match o, S.get a with
    | .mul, some (.lst xs) => opt (IOps.val j) fun n => match decide (0 ≤ n) && decide (n ≤ 1000000) && okL (rep xs n.toNat) with
      | true => fresh S (.lst (rep xs n.toNat))
      | false => .bad
    | _, _ => .bad
  | _, _ => .bad
def inV (S : Sto I) (x y : Val I) : Option Bool := match y with
  | .tup ys => memV S x ys
  | .str t => match x with
    | .str s => match s.cps.toList with
      | [c] => some (t.cps.toList.any (Nat.beq c))
      | _ => none
    | _ => none
  | .ref a => match S.get a with
    | some (.lst ys) => memV S x ys
    | some (.dic kvs _) => (kFind x kvs).map Option.isSome
    | _ => none
  | _ => none
def cmpV (S : Sto I) (o : Cop) (x y : Val I) : Option Bool := match o with
  | .eq => eqV S x y
  | .ne => (eqV S x y).map (!·)
  | .lt => match x, y with
    | .int i, .int j => IOps.cmp .lt i j
    | _, _ => none
  | .le => match x, y with
    | .int i, .int j => IOps.cmp .le i j
    | _, _ => none
  | .gt => match x, y with
    | .int i, .int j => IOps.cmp .lt j i
    | _, _ => none
  | .ge => match x, y with
    | .int i, .int j => IOps.cmp .le j i
    | _, _ => none
  | .is => match y with
    | .non => some (match x with | .non => true | _ => false)
    | _ => none
  | .isnot => match y with
    | .non => some (match x with | .non => false | _ => true)
    | _ => none
  | .in => inV S x y
  | .notin => (inV S x y).map (!·)
def getV (S : Sto I) (x i : Val I) : Option (Val I) := match x with
  | .tup xs => match asI i with
    | some k => match place xs.length k with
      | some j => xs[j]?
      | none => none
    | none => none
  | .str s => match asI i, okL s.cps.toList with
    | some k, true => match place s.cps.size k with
      | some j => (s.cps.toList[j]?).map fun c => .str ⟨#[c]⟩
      | none => none
    | _, _ => none
  | .ref a => match S.get a with
    | some (.lst xs) => match asI i with
      | some k => match place xs.length k with
        | some j => xs[j]?
        | none => none
      | none => none
    | some (.dic kvs _) => match kFind i kvs with
      | some (some v) => some v
      | _ => none
    | _ => none
  | _ => none
def putV (S : Sto I) (x i v : Val I) : Option (Sto I) := match x with
  | .ref a => match S.get a with
    | some (.lst xs) => match asI i with
      | some k => match place xs.length k with
        | some j => some (S.set a (.lst (xs.set j v)))
        | none => none
      | none => none
    | some (.dic kvs 0) => match kPut i v kvs, okL kvs with
      | some kvs', true => some (S.set a (.dic kvs' 0))
      | _, _ => none
    | _ => none
  | _ => none
def sliceV (S : Sto I) (x : Val I) (lo hi st : Option Int) : Rs I (Val I) :=
  let cut (xs : List (Val I)) : Option (List (Val I)) := match st with
    | none => some (cutL xs (match lo with | none => 0 | some i => clip xs.length i) (match hi with | none => xs.length | some i => clip xs.length i))
    | some (-1) => match lo, hi with
      | none, none => some xs.reverse
      | _, _ => none
    | _ => none
  match x with
  | .tup xs => opt (cut xs) fun ys => .ok (.tup ys) S
  | .ref a => match S.get a with
    | some (.lst xs) => opt (cut xs) fun ys => fresh S (.lst ys)
    | some (.fls xs) => opt (cut xs) fun ys => fresh S (.lst ys)
    | _ => .bad
  | _ => .bad
/-- the method is one of a list; or of a dict -/
def BM.isL : BM → Bool
  | .append | .pop | .index | .extend | .insert | .count | .clear => true
  | .get | .setdefault | .update | .values | .items => false
def rcv (m : BM) (x : Val I) (S : Sto I) : Bool := match x with
  | .ref a => match S.get a with
    | some (.lst _) => m.isL
    | some (.dic _ _) => !m.isL
    | _ => false
  | _ => false
def lstAt (x : Val I) (S : Sto I) : Option (Nat × List (Val I)) := match x with
  | .ref a => match S.get a with
    | some (.lst xs) => some (a, xs)
    | _ => none
  | _ => none
def dicAt (x : Val I) (S : Sto I) : Option (Nat × List (Val I × Val I) × Nat) := match x with
  | .ref a => match S.get a with
    | some (.dic kvs lk) => some (a, kvs, lk)
    | _ => none
  | _ => none
def arg1 : List (Val I) → Option (Val I)
  | [v] => some v
  | _ => none
def arg2 : List (Val I) → Option (Val I × Val I)
  | [v, u] => some (v, u)
  | _ => none
def guard (b : Bool) {A : Type} (r : Rs I A) : Rs I A := match b with
  | true => r
  | false => .bad
def asTup : Val I → Option (List (Val I))
  | .tup xs => some xs
  | _ => none
def m_append (x : Val I) (vs : List (Val I)) (S : Sto I) : Rs I (Val I) := opt (lstAt x S) fun p => opt (arg1 vs) fun v => guard (okL p.2) (.ok .non (S.set p.1 (.lst (p.2 ++ [v]))))
def m_pop0 (x : Val I) (S : Sto I) : Rs I (Val I) := opt (lstAt x S) fun p => match p.2.reverse with
  | v :: r => .ok v (S.set p.1 (.lst r.reverse))
  | [] => .bad
def m_popAt (x i : Val I) (S : Sto I) : Rs I (Val I) := opt (lstAt x S) fun p => opt (asI i) fun k => opt (place p.2.length k) fun j => opt p.2[j]? fun v => .ok v (S.set p.1 (.lst (p.2.eraseIdx j)))
def m_pop (x : Val I) (vs : List (Val I)) (S : Sto I) : Rs I (Val I) := match vs with
  | [] => m_pop0 x S
  | [i] => m_popAt x i S
  | _ => .bad
/-- a list's items, a tuple's -/
def seqAt (x : Val I) (S : Sto I) : Option (List (Val I)) := match x with
  | .tup xs => some xs
  | x => match lstAt x S with
    | some p => some p.2
    | none => none
def m_extend (x : Val I) (vs : List (Val I)) (S : Sto I) : Rs I (Val I) := opt (lstAt x S) fun p => opt (arg1 vs) fun v => opt (seqAt v S) fun ys => guard (okL (p.2 ++ ys)) (.ok .non (S.set p.1 (.lst (p.2 ++ ys))))
def m_index (x : Val I) (vs : List (Val I)) (S : Sto I) : Rs I (Val I) := opt (lstAt x S) fun p => opt (arg1 vs) fun v => opt (memV S v p.2) fun _ => match p.2 with
  | y :: _ => (match eqF 40 S y v with
    | some true => .ok (lit 0) S
    | _ => .bad)
  | [] => .bad
def m_get (x : Val I) (vs : List (Val I)) (S : Sto I) : Rs I (Val I) := opt (dicAt x S) fun p => match vs with
  | [k] => opt (kFind k p.2.1) fun o => .ok (o.getD .non) S
  | [k, d] => opt (kFind k p.2.1) fun o => .ok (o.getD d) S
  | _ => .bad
def m_setdef (x : Val I) (vs : List (Val I)) (S : Sto I) : Rs I (Val I) := opt (dicAt x S) fun p => opt (arg2 vs) fun q => opt (asTup q.1) fun ks => guard (okL p.2.1) (opt (kFind (.tup ks) p.2.1) fun o => match o with
  | some v => .ok v S
  | none => guard (Nat.beq p.2.2 0) (.ok q.2 (S.set p.1 (.dic (p.2.1 ++ [(.tup ks, q.2)]) 0))))
def bmV (m : BM) (x : Val I) (vs : List (Val I)) (S : Sto I) : Rs I (Val I) := match m with
  | .append => m_append x vs S
  | .pop => m_pop x vs S
  | .extend => m_extend x vs S
  | .index => m_index x vs S
  | .get => m_get x vs S
  | .setdefault => m_setdef x vs S
  | _ => .bad
def allB : List (Val I) → Option Bool
  | [] => some true
  | x :: r => match asBl x with
    | some true => allB r
    | some false => some false
    | none => none
def anyB : List (Val I) → Option Bool
  | [] => some false
  | x :: r => match asBl x with
    | some true => some true
    | some false => anyB r
    | none => none
def lenV (S : Sto I) : Val I → Option Nat
  | .tup xs => some xs.length
  | .str s => some s.cps.size
  | .ref a => match S.get a with
    | some (.lst xs) => some xs.length
    | some (.fls xs) => some xs.length
    | some (.dic kvs _) => some kvs.length
    | _ => none
  | _ => none
def pairsV : List (Val I) → Option (List (Val I × Val I))
  | [] => some []
  | .tup [k, v] :: r => (pairsV r).map ((k, v) :: ·)
  | _ :: _ => none
def keysOf (kvs : List (Val I × Val I)) : List (Val I) := kvs.map (·.1)
def b_len (v : Val I) (S : Sto I) : Rs I (Val I) := match v with
  | .tup xs => .ok (lit xs.length) S
  | .str s => guard (okL s.cps.toList) (.ok (lit s.cps.toList.length) S)
  | .ref a => match S.get a with
    | some (.lst xs) => .ok (lit xs.length) S
    | some (.fls xs) => .ok (lit xs.length) S
    | some (.dic kvs _) => .ok (lit kvs.length) S
    | _ => .bad
  | _ => .bad
def b_list (v : Val I) (S : Sto I) : Rs I (Val I) := match v with
  | .tup xs => fresh S (.lst xs)
  | .ref a => match S.get a with
    | some (.lst xs) => fresh S (.lst xs)
    | some (.fls xs) => fresh S (.lst xs)
    | some (.dic kvs _) => fresh S (.lst (keysOf kvs))
    | _ => .bad
  | _ => .bad
def b_tuple (v : Val I) (S : Sto I) : Rs I (Val I) := match v with
  | .tup xs => .ok (.tup xs) S
  | .ref a => match S.get a with
    | some (.lst xs) => .ok (.tup xs) S
    | _ => .bad
  | _ => .bad
def b_int (v : Val I) (S : Sto I) : Rs I (Val I) := match v with
  | .int i => .ok (.int i) S
  | .bl k => .ok (lit (if k then 1 else 0)) S
  | _ => .bad
def allBl : List (Val I) → Option (List Bool)
  | [] => some []
  | .bl b :: r => match allBl r with
    | some l => some (b :: l)
    | none => none
  | _ :: _ => none
def allI : List (Val I) → Option (List I)
  | [] => some []
  | .int b :: r => match allI r with
    | some l => some (b :: l)
    | none => none
  | _ :: _ => none
def allS : List (Val I) → Option (List Str)
  | [] => some []
  | .str b :: r => match allS r with
    | some l => some (b :: l)
    | none => none
  | _ :: _ => none
def b_all (v : Val I) (S : Sto I) : Rs I (Val I) := opt (lstAt v S) fun p => opt (allBl p.2) fun bs => .ok (.bl (bs.all id)) S
def b_any (v : Val I) (S : Sto I) : Rs I (Val I) := opt (lstAt v S) fun p => opt (allBl p.2) fun bs => .ok (.bl (bs.any id)) S
def b_max (v u : Val I) (S : Sto I) : Rs I (Val I) := opt (asInt v) fun i => opt (asInt u) fun j => opt (IOps.cmp .lt i j) fun b => match b with
  | true => .ok (.int j) S
  | false => .ok (.int i) S
def insI (x : I) : List I → Option (List I)
  | [] => some [x]
  | y :: r => match IOps.cmp .le x y with
    | some true => some (x :: y :: r)
    | some false => (insI x r).map (y :: ·)
    | none => none
def sortI : List I → Option (List I)
  | [] => some []
  | x :: r => match sortI r with
    | some l => insI x l
    | none => none
def insS (x : Str) : List Str → List Str
  | [] => [x]
  | y :: r => match nlLt y.cps.toList x.cps.toList with
    | true => y :: insS x r
    | false => x :: y :: r
def sortS : List Str → List Str
  | [] => []
  | x :: r => insS x (sortS r)
/-- pairs of numbers -/
def allP : List (Val I) → Option (List (I × I))
  | [] => some []
  | .tup [.int i, .int j] :: r => match allP r with
    | some l => some ((i, j) :: l)
    | none => none
  | _ :: _ => none
def insP (x : I × I) : List (I × I) → Option (List (I × I))
  | [] => some [x]
  | y :: r => match IOps.cmp .lt x.1 y.1 with
    | some true => some (x :: y :: r)
    | some false => match IOps.cmp .eq x.1 y.1 with
      | some true => match IOps.cmp .le x.2 y.2 with
        | some true => some (x :: y :: r)
        | some false => (insP x r).map (y :: ·)
        | none => none
      | some false => (insP x r).map (y :: ·)
      | none => none
    | none => none
def sortP : List (I × I) → Option (List (I × I))
  | [] => some []
  | x :: r => match sortP r with
    | some l => insP x l
    | none => none
def pairV (p : I × I) : Val I := .tup [.int p.1, .int p.2]
def b_sortedL (xs : List (Val I)) (S : Sto I) : Rs I (Val I) := guard (Nat.blt xs.length 64) (match allI xs with
  | some is => opt (sortI is) fun js => fresh S (.lst (js.map .int))
  | none => opt (allP xs) fun ps => opt (sortP ps) fun qs => fresh S (.lst (qs.map pairV)))
def b_sortedD (kvs : List (Val I × Val I)) (S : Sto I) : Rs I (Val I) := guard (Nat.blt kvs.length 4000) (opt (allP (kvs.map (·.1))) fun ps => guard (!ps.isEmpty) (opt (sortP ps) fun qs => fresh S (.lst (qs.map pairV))))
def b_sorted (v : Val I) (S : Sto I) : Rs I (Val I) := match dicAt v S with
  | some p => b_sortedD p.2.1 S
  | none => opt (lstAt v S) fun p => b_sortedL p.2 S
/-- into a rising row, once -/
def uqI (x : I) : List I → Option (List I)
  | [] => some [x]
  | y :: r => match IOps.cmp .lt x y with
    | some true => some (x :: y :: r)
    | some false => match IOps.cmp .eq x y with
      | some true => some (y :: r)
      | some false => (uqI x r).map (y :: ·)
      | none => none
    | none => none
def setsI : List I → Option (List I)
  | [] => some []
  | x :: r => match setsI r with
    | some l => uqI x l
    | none => none
def uqS (x : Str) : List Str → List Str
  | [] => [x]
  | y :: r => match nlLt x.cps.toList y.cps.toList with
    | true => x :: y :: r
    | false => match sBeq x y with
      | true => y :: r
      | false => y :: uqS x r
def setsS : List Str → List Str
  | [] => []
  | x :: r => uqS x (setsS r)
def b_sset (v : Val I) (S : Sto I) : Rs I (Val I) := opt (lstAt v S) fun p => guard (Nat.blt p.2.length 4000) (match allI p.2 with
  | some is => opt (setsI is) fun js => fresh S (.lst (js.map .int))
  | none => match allS p.2 with
    | some ss => fresh S (.lst ((setsS ss).map .str))
    | none => .bad)
def bfV (b : BF) (vs : List (Val I)) (S : Sto I) : Rs I (Val I) := match b with
  | .len => opt (arg1 vs) fun v => b_len v S
  | .list => opt (arg1 vs) fun v => b_list v S
  | .tuple => opt (arg1 vs) fun v => b_tuple v S
  | .int => opt (arg1 vs) fun v => b_int v S
  | .all => opt (arg1 vs) fun v => b_all v S
  | .any => opt (arg1 vs) fun v => b_any v S
  | .max => opt (arg2 vs) fun p => b_max p.1 p.2 S
  | .sorted => opt (arg1 vs) fun v => b_sorted v S
  | .sortedSet => opt (arg1 vs) fun v => b_sset v S
  | _ => .bad
end

/-! ### what a loop walks -/
inductive Src (I : Type) where
  | lst (a : Nat) | tup (xs : List (Val I)) | rng (lo c : Int) (n : Nat) | enu (s : Src I) | zip (s t : Src I)
section
variable {I : Type} [IOps I]
/-- none: it can't be told; some none: the end -/
def Src.at (S : Sto I) : Src I → Nat → Option (Option (Val I))
  | .lst a, i => match S.get a with
    | some (.lst xs) => some xs[i]?
    | some (.fls xs) => some xs[i]?
    | _ => none
  | .tup xs, i => some xs[i]?
  | .rng lo c n, i => some (if i < n then some (lit (lo + i * c)) else none)
  | .enu s, i => match s.at S i with
    | some (some v) => some (some (.tup [lit i, v]))
    | r => r
  | .zip s t, i => match s.at S i with
    | some (some v) => match t.at S i with
      | some (some u) => some (some (.tup [v, u]))
      | r => r
    | r => r
abbrev Env (I : Type) := List (Option (Val I))
def wipe (own : List Nat) (t : Env I) : Env I := own.foldl (fun t i => t.set i none) t
mutual
def slots : Tg → List Nat
  | .nm i => [i]
  | .tup ts => slotss ts
def slotss : List Tg → List Nat
  | [] => []
  | t :: ts => slots t ++ slotss ts
end
mutual
def bindT : Tg → Val I → Env I → Option (Env I)
  | .nm i, v, t => some (t.set i (some v))
  | .tup ts, v, t => match v with
    | .tup xs => bindTs ts xs t
    | _ => none
def bindTs : List Tg → List (Val I) → Env I → Option (Env I)
  | [], [], t => some t
  | g :: gs, x :: xs, t => match bindT g x t with
    | some t' => bindTs gs xs t'
    | none => none
  | _, _, _ => none
end
def permute (vs : List (Val I)) : Option (List Nat) → Option (List (Val I))
  | none => some vs
  | some p => p.foldr (fun i acc => match vs[i]?, acc with | some v, some l => some (v :: l) | _, _ => none) (some [])

inductive Fl (I : Type) where | nx | ct | rt (v : Val I)

/-- a dict's lock; and back -/
def lockD (S : Sto I) (a : Nat) : Option (Sto I × Nat) := match S.get a with
  | some (.dic kvs lk) => some (S.set a (.dic kvs (lk + 1)), lk)
  | _ => none
def unlockD (S : Sto I) (a lk : Nat) : Option (Sto I) := match S.get a with
  | some (.dic kvs k) => match Nat.beq k (lk + 1) with
    | true => some (S.set a (.dic kvs lk))
    | false => none
  | _ => none

structure Ev (I : Type) where
  e : Nat → Ex I → Env I → Sto I → Rs I (Val I)
  es : Nat → List (Ex I) → Env I → Sto I → Rs I (List (Val I))
  s : Nat → St I → Env I → Sto I → Rs I (Fl I × Env I)
  ss : Nat → List (St I) → Env I → Sto I → Rs I (Fl I × Env I)
  lp : Nat → Src I → Nat → Tg → List (St I) → Env I → Sto I → Rs I (Fl I × Env I)
  cp : Nat → Src I → Nat → Tg → Option (Ex I) → Ex I → Env I → List (Val I) → Sto I → Rs I (List (Val I))
  cp2 : Nat → Src I → Nat → Tg → Tg → Sr I → Option (Ex I) → Ex I → Env I → List (Val I) → Sto I → Rs I (List (Val I))
  dp : Nat → Src I → Nat → Tg → Ex I → Ex I → Env I → Val I → Sto I → Rs I Unit
  call : Nat → Nat → List (Val I) → Sto I → Rs I (Val I)

def Ev.none : Ev I := ⟨fun _ _ _ _ => .bad, fun _ _ _ _ => .bad, fun _ _ _ _ => .bad, fun _ _ _ _ => .bad, fun _ _ _ _ _ _ _ => .bad, fun _ _ _ _ _ _ _ _ _ => .bad, fun _ _ _ _ _ _ _ _ _ _ _ => .bad, fun _ _ _ _ _ _ _ _ _ => .bad, fun _ _ _ _ => .bad⟩

variable (G : Pg I) (V : Ev I)
/-- an iterable: what is walked, the dict that is locked meanwhile -/
def sm62 (i : Int) : Bool := (-4611686018427387904 : Int) ≤ i && i < 4611686018427387904
def rngV (vs : List (Val I)) : Option (Src I) := match vs with
  | [b] => match asI b with
    | some hi => match sm62 hi with
      | true => some (.rng 0 1 hi.toNat)
      | false => .none
    | .none => .none
  | [a, b] => match asI a, asI b with
    | some lo, some hi => match sm62 lo, sm62 hi with
      | true, true => some (.rng lo 1 (hi - lo).toNat)
      | _, _ => .none
    | _, _ => .none
  | [a, b, c] => match asI a, asI b, asI c with
    | some lo, some hi, some (-1) => match sm62 lo, sm62 hi with
      | true, true => some (.rng lo (-1) (lo - hi).toNat)
      | _, _ => .none
    | _, _, _ => .none
  | _ => .none
def seqV (v : Val I) (S : Sto I) : Option (Src I) := match v with
  | .tup xs => some (.tup xs)
  | .ref a => match S.get a with
    | some (.lst _) => some (.lst a)
    | _ => .none
  | _ => .none
def srcV (v : Val I) (S : Sto I) : Rs I (Src I × Option (Nat × Nat)) := match v with
  | .tup xs => .ok (.tup xs, .none) S
  | .str s => .ok (.tup (chrsV s), .none) S
  | .ref a => match S.get a with
    | some (.lst _) => .ok (.lst a, .none) S
    | some (.fls _) => .ok (.lst a, .none) S
    | some (.dic kvs _) => opt (lockD S a) fun p => .ok (.tup (keysOf kvs), some (a, p.2)) p.1
    | _ => .bad
  | _ => .bad
def srcOf (d : Nat) (it : Sr I) (t : Env I) (S : Sto I) : Rs I (Src I × Option (Nat × Nat)) := match it with
  | .ex x => (V.e d x t S).bind fun v S1 => srcV v S1
  | .rng xs => (V.es d xs t S).bind fun vs S1 => opt (rngV vs) fun s => .ok (s, .none) S1
  | .enu x => (V.es d [x] t S).bind fun vs S1 => opt (arg1 vs) fun v => opt (seqV v S1) fun s => .ok (.enu s, .none) S1
  | .zip x y => (V.es d [x, y] t S).bind fun vs S1 => opt (arg2 vs) fun p => opt (seqV p.1 S1) fun s => opt (seqV p.2 S1) fun r => .ok (.zip s r, .none) S1
  | .itm x => (V.e d x t S).bind fun v S1 => opt (dicAt v S1) fun p => guard (p.2.1.all (fun kv => isLeaf kv.1) && (Nat.beq p.2.2 0 || !p.2.1.isEmpty)) <| opt (lockD S1 p.1) fun q => .ok (.tup (p.2.1.map fun kv => .tup [kv.1, kv.2]), some (p.1, q.2)) q.1
def nolock {A : Type} (o : Option (Nat × Nat)) (r : Rs I A) : Rs I A := match o with
  | .none => r
  | some _ => .bad
def unlock {A : Type} (o : Option (Nat × Nat)) (r : Rs I A) : Rs I A := match o with
  | .none => r
  | some p => r.bind fun x S => opt (unlockD S p.1 p.2) fun S' => .ok x S'

def optE (d : Nat) (o : Option (Ex I)) (t : Env I) (S : Sto I) : Rs I (Option Int) := match o with
  | .none => .ok .none S
  | some x => (V.e d x t S).bind fun v S1 => opt (asI v) fun i => .ok (some i) S1

def e_cst (d : Nat) (v : Val I) (t : Env I) (S : Sto I) : Rs I (Val I) := .ok v S
def e_var (d : Nat) (i : Nat) (t : Env I) (S : Sto I) : Rs I (Val I) := match t[i]? with
    | some (some v) => .ok v S
    | _ => .bad
def e_tup (d : Nat) (xs : List (Ex I)) (t : Env I) (S : Sto I) : Rs I (Val I) := (V.es d xs t S).bind fun vs S1 => guard (okL vs) (.ok (.tup vs) S1)
def e_lst (d : Nat) (xs : List (Ex I)) (t : Env I) (S : Sto I) : Rs I (Val I) := (V.es d xs t S).bind fun vs S1 => guard (okL vs) (fresh S1 (.lst vs))
def putD (S : Sto I) (x k v : Val I) : Option (Sto I) := match dicAt x S with
  | some _ => putV S x k v
  | .none => .none
def putsV (x : Val I) : List (Val I) → Sto I → Option (Sto I)
  | [], S => some S
  | [_], _ => .none
  | k :: v :: r, S => match putD S x k v with
    | some S' => putsV x r S'
    | .none => .none
def e_dic (d : Nat) (kvs : List (Ex I)) (t : Env I) (S : Sto I) : Rs I (Val I) := (fresh S (.dic [] 0)).bind fun x S1 => (V.es d kvs t S1).bind fun vs S2 => opt (putsV x vs S2) fun S3 => .ok x S3
def e_bin (d : Nat) (o : Bop) (a b : Ex I) (t : Env I) (S : Sto I) : Rs I (Val I) := (V.e d a t S).bind fun v S1 => (V.e d b t S1).bind fun u S2 => binV o v u S2
def e_neg (d : Nat) (a : Ex I) (t : Env I) (S : Sto I) : Rs I (Val I) := (V.e d a t S).bind fun v S1 => opt (asInt v) fun i => opt (IOps.bin .sub (IOps.lit 0) i) fun j => .ok (.int j) S1
def e_not (d : Nat) (a : Ex I) (t : Env I) (S : Sto I) : Rs I (Val I) := (V.e d a t S).bind fun v S1 => opt (asBl v) fun b => .ok (.bl (!b)) S1
def e_cmp (d : Nat) (o : Cop) (a b : Ex I) (t : Env I) (S : Sto I) : Rs I (Val I) := (V.e d a t S).bind fun v S1 => (V.e d b t S1).bind fun u S2 => opt (cmpV S2 o v u) fun k => .ok (.bl k) S2
def e_chn (d : Nat) (o p : Cop) (a b c : Ex I) (t : Env I) (S : Sto I) : Rs I (Val I) := (V.e d a t S).bind fun v S1 => (V.e d b t S1).bind fun u S2 => opt (cmpV S2 o v u) fun k => match k with
    | true => (V.e d c t S2).bind fun w S3 => opt (cmpV S3 p u w) fun k2 => .ok (.bl k2) S3
    | false => .ok (.bl false) S2
def e_and (d : Nat) (a b : Ex I) (t : Env I) (S : Sto I) : Rs I (Val I) := (V.e d a t S).bind fun v S1 => opt (asBl v) fun k => match k with
    | true => V.e d b t S1
    | false => .ok (.bl false) S1
def e_or (d : Nat) (a b : Ex I) (t : Env I) (S : Sto I) : Rs I (Val I) := (V.e d a t S).bind fun v S1 => opt (asBl v) fun k => match k with
    | true => .ok (.bl true) S1
    | false => V.e d b t S1
def e_ite (d : Nat) (c a b : Ex I) (t : Env I) (S : Sto I) : Rs I (Val I) := (V.e d c t S).bind fun v S1 => opt (asBl v) fun k => match k with
    | true => V.e d a t S1
    | false => V.e d b t S1
def e_idx (d : Nat) (a i : Ex I) (t : Env I) (S : Sto I) : Rs I (Val I) := (V.e d a t S).bind fun v S1 => (V.e d i t S1).bind fun u S2 => opt (getV S2 v u) fun w => .ok w S2
def e_slc (d : Nat) (a : Ex I) (lo hi st : Option (Ex I)) (t : Env I) (S : Sto I) : Rs I (Val I) := (V.e d a t S).bind fun v S1 => (optE V d lo t S1).bind fun l S2 => (optE V d hi t S2).bind fun h S3 => (optE V d st t S3).bind fun c S4 => sliceV S4 v l h c
def e_fld (d : Nat) (a : Ex I) (f : Str) (t : Env I) (S : Sto I) : Rs I (Val I) := (V.e d a t S).bind fun v S1 => match v with
    | .ref p => match S1.get p with
      | some (.ins _ fs) => opt (lookS f fs) fun w => .ok w S1
      | _ => .bad
    | _ => .bad
def e_call (d : Nat) (f : Nat) (xs : List (Ex I)) (p : Option (List Nat)) (t : Env I) (S : Sto I) : Rs I (Val I) := (V.es d xs t S).bind fun vs S1 => opt (permute vs p) fun us => V.call d f us S1
def asNon : Val I → Option Unit
  | .non => some ()
  | _ => none
def e_new (d : Nat) (c : Nat) (xs : List (Ex I)) (p : Option (List Nat)) (t : Env I) (S : Sto I) : Rs I (Val I) := (V.es d xs t S).bind fun vs S1 => opt (permute vs p) fun us => opt G.cls[c]? fun cl =>
      (fresh S1 (.ins c [])).bind fun x S2 => (V.call (d - 1) cl.init (x :: us) S2).bind fun u S3 => opt (asNon u) fun _ => .ok x S3
def e_mth (d : Nat) (a : Ex I) (m : Str) (xs : List (Ex I)) (p : Option (List Nat)) (t : Env I) (S : Sto I) : Rs I (Val I) := (V.e d a t S).bind fun v S1 => match v with
    | .ref q => match S1.get q with
      | some (.ins c fs) => match lookS m fs with
        | some _ => .bad
        | none => (V.es d xs t S1).bind fun vs S2 => opt (permute vs p) fun us => opt G.cls[c]? fun cl => opt (lookM m cl.ms) fun f => V.call d f (.ref q :: us) S2
      | _ => .bad
    | _ => .bad
def e_bmt (d : Nat) (a : Ex I) (m : BM) (xs : List (Ex I)) (t : Env I) (S : Sto I) : Rs I (Val I) := (V.e d a t S).bind fun v S1 => match rcv m v S1 with
  | true => (V.es d xs t S1).bind fun vs S2 => bmV m v vs S2
  | false => .bad
def e_bif (d : Nat) (b : BF) (xs : List (Ex I)) (t : Env I) (S : Sto I) : Rs I (Val I) := (V.es d xs t S).bind fun vs S1 => bfV b vs S1
def e_isi (d : Nat) (a : Ex I) (ts : List Ty) (t : Env I) (S : Sto I) : Rs I (Val I) := (V.e d a t S).bind fun v S1 => opt (isTys S1 v ts) fun k => .ok (.bl k) S1
def e_lc (d : Nat) (x : Ex I) (tg : Tg) (it : Sr I) (c : Option (Ex I)) (own : List Nat) (t : Env I) (S : Sto I) : Rs I (Val I) := (srcOf V d it t S).bind fun s S1 => (unlock s.2 (V.cp d s.1 0 tg c x (wipe own t) [] S1)).bind fun vs S2 => fresh S2 (.lst vs)
def e_lc2 (d : Nat) (x : Ex I) (tg : Tg) (it : Sr I) (t2 : Tg) (it2 : Sr I) (c : Option (Ex I)) (own : List Nat) (t : Env I) (S : Sto I) : Rs I (Val I) := (srcOf V d it t S).bind fun s S1 => (nolock s.2 (V.cp2 d s.1 0 tg t2 it2 c x (wipe own t) [] S1)).bind fun vs S2 => fresh S2 (.lst vs)
def e_dc (d : Nat) (k x : Ex I) (tg : Tg) (it : Sr I) (own : List Nat) (t : Env I) (S : Sto I) : Rs I (Val I) := (srcOf V d it t S).bind fun s S1 => (fresh S1 (.dic [] 0)).bind fun D S2 => (unlock s.2 (V.dp d s.1 0 tg k x (wipe own t) D S2)).bind fun _ S3 => .ok D S3
def lookI (f : Str) : List (Str × Int) → Option Int
  | [] => none
  | (g, v) :: r => match sBeq g f with
    | true => some v
    | false => lookI f r
def asStr : Val I → Option Str
  | .str s => some s
  | _ => none
def e_tin (d : Nat) (a : Ex I) (t : Env I) (S : Sto I) : Rs I (Val I) := (V.e d a t S).bind fun v S1 => opt (asStr v) fun s => .ok (.bl (lookI s G.tab).isSome) S1
def e_tix (d : Nat) (a : Ex I) (t : Env I) (S : Sto I) : Rs I (Val I) := (V.e d a t S).bind fun v S1 => opt (asStr v) fun s => opt (lookI s G.tab) fun i => .ok (lit i) S1
def stepE (d : Nat) (x : Ex I) (t : Env I) (S : Sto I) : Rs I (Val I) := match x with
  | .cst v => e_cst d v t S
  | .var i => e_var d i t S
  | .tup xs => e_tup V d xs t S
  | .lst xs => e_lst V d xs t S
  | .dic kvs => e_dic V d kvs t S
  | .bin o a b => e_bin V d o a b t S
  | .neg a => e_neg V d a t S
  | .not a => e_not V d a t S
  | .cmp o a b => e_cmp V d o a b t S
  | .chn o p a b c => e_chn V d o p a b c t S
  | .and a b => e_and V d a b t S
  | .or a b => e_or V d a b t S
  | .ite c a b => e_ite V d c a b t S
  | .idx a i => e_idx V d a i t S
  | .slc a lo hi st => e_slc V d a lo hi st t S
  | .fld a f => e_fld V d a f t S
  | .call f xs p => e_call V d f xs p t S
  | .new c xs p => e_new G V d c xs p t S
  | .mth a m xs p => e_mth G V d a m xs p t S
  | .bmt a m xs => e_bmt V d a m xs t S
  | .bif b xs => e_bif V d b xs t S
  | .isi a ts => e_isi V d a ts t S
  | .lc x tg it c own => e_lc V d x tg it c own t S
  | .lc2 x tg it t2 it2 c own => e_lc2 V d x tg it t2 it2 c own t S
  | .dc k x tg it own => e_dc V d k x tg it own t S
  | .tin a => e_tin G V d a t S
  | .tix a => e_tix G V d a t S
  | .bad => .bad
def stepEs (d : Nat) (xs : List (Ex I)) (t : Env I) (S : Sto I) : Rs I (List (Val I)) := match xs with
  | [] => .ok [] S
  | x :: r => (V.e d x t S).bind fun v S1 => (V.es d r t S1).bind fun vs S2 => .ok (v :: vs) S2
def s_set (d : Nat) (i : Nat) (e : Ex I) (t : Env I) (S : Sto I) : Rs I (Fl I × Env I) := (V.e d e t S).bind fun v S1 => .ok (.nx, t.set i (some v)) S1
def s_setT (d : Nat) (g : Tg) (e : Ex I) (t : Env I) (S : Sto I) : Rs I (Fl I × Env I) := (V.e d e t S).bind fun v S1 => opt (bindT g v t) fun t' => .ok (.nx, t') S1
def s_par (d : Nat) (is : List Nat) (es : List (Ex I)) (t : Env I) (S : Sto I) : Rs I (Fl I × Env I) := (V.es d es t S).bind fun vs S1 => opt (bindTs (is.map .nm) vs t) fun t' => .ok (.nx, t') S1
def s_setF (d : Nat) (a : Ex I) (f : Str) (e : Ex I) (t : Env I) (S : Sto I) : Rs I (Fl I × Env I) := (V.e d e t S).bind fun v S1 => (V.e d a t S1).bind fun o S2 => match o with
    | .ref p => match S2.get p with
      | some (.ins c fs) => guard (Nat.blt fs.length 1000) (.ok (.nx, t) (S2.set p (.ins c (putS f v fs))))
      | _ => .bad
    | _ => .bad
def s_setI (d : Nat) (a i e : Ex I) (t : Env I) (S : Sto I) : Rs I (Fl I × Env I) := (V.e d e t S).bind fun v S1 => (V.e d a t S1).bind fun o S2 => (V.e d i t S2).bind fun k S3 => opt (putV S3 o k v) fun S4 => .ok (.nx, t) S4
def s_setI2 (d : Nat) (a i b j e f : Ex I) (t : Env I) (S : Sto I) : Rs I (Fl I × Env I) := (V.e d e t S).bind fun v S1 => (V.e d f t S1).bind fun w S2 => (V.e d a t S2).bind fun o S3 => (V.e d i t S3).bind fun k S4 => opt (putV S4 o k v) fun S5 =>
      (V.e d b t S5).bind fun q S6 => (V.e d j t S6).bind fun l S7 => opt (putV S7 q l w) fun S8 => .ok (.nx, t) S8
def augV (o : Bop) (x y : Val I) : Option (Val I) := match x, y with
  | .int i, .int j => match o with
    | .add => (IOps.bin .add i j).map .int
    | .sub => (IOps.bin .sub i j).map .int
    | _ => none
  | _, _ => none
def s_augF (d : Nat) (a : Ex I) (f : Str) (o : Bop) (e : Ex I) (t : Env I) (S : Sto I) : Rs I (Fl I × Env I) := (V.e d a t S).bind fun q S1 => match q with
    | .ref p => match S1.get p with
      | some (.ins c fs) => opt (lookS f fs) fun x => (V.e d e t S1).bind fun y S2 => opt (augV o x y) fun z => match S2.get p with
        | some (.ins c' fs') => guard (Nat.blt fs'.length 1000 && Nat.beq c c') (.ok (.nx, t) (S2.set p (.ins c' (putS f z fs'))))
        | _ => .bad
      | _ => .bad
    | _ => .bad
def s_augN (d : Nat) (i : Nat) (o : Bop) (e : Ex I) (t : Env I) (S : Sto I) : Rs I (Fl I × Env I) := match t[i]? with
    | some (some x) => (V.e d e t S).bind fun y S1 => opt (augV o x y) fun z => .ok (.nx, t.set i (some z)) S1
    | _ => .bad
def s_augI (d : Nat) (a i : Ex I) (o : Bop) (e : Ex I) (t : Env I) (S : Sto I) : Rs I (Fl I × Env I) := (V.e d a t S).bind fun q S1 => (V.e d i t S1).bind fun k S2 => opt (getV S2 q k) fun x => (V.e d e t S2).bind fun y S3 => opt (augV o x y) fun z => opt (putV S3 q k z) fun S4 => .ok (.nx, t) S4
def s_expr (d : Nat) (e : Ex I) (t : Env I) (S : Sto I) : Rs I (Fl I × Env I) := (V.e d e t S).bind fun _ S1 => .ok (.nx, t) S1
def s_ifs (d : Nat) (c : Ex I) (a b : List (St I)) (t : Env I) (S : Sto I) : Rs I (Fl I × Env I) := (V.e d c t S).bind fun v S1 => opt (asBl v) fun k => match k with
    | true => V.ss d a t S1
    | false => V.ss d b t S1
def s_for (d : Nat) (g : Tg) (it : Sr I) (b : List (St I)) (t : Env I) (S : Sto I) : Rs I (Fl I × Env I) := (srcOf V d it t S).bind fun s S1 => unlock s.2 (V.lp d s.1 0 g b t S1)
def s_whl (d : Nat) (c : Ex I) (b : List (St I)) (t : Env I) (S : Sto I) : Rs I (Fl I × Env I) := (V.e d c t S).bind fun v S1 => opt (asBl v) fun k => match k with
    | true => (V.ss d b t S1).bind fun r S2 => match r with
      | (.rt v, t') => .ok (.rt v, t') S2
      | (_, t') => V.s d (.whl c b) t' S2
    | false => .ok (.nx, t) S1
def s_ret (d : Nat) (e : Ex I) (t : Env I) (S : Sto I) : Rs I (Fl I × Env I) := (V.e d e t S).bind fun v S1 => .ok (.rt v, t) S1
def s_retN (d : Nat)  (t : Env I) (S : Sto I) : Rs I (Fl I × Env I) := .ok (.rt .non, t) S
def s_rais (d : Nat) (c : Nat) (t : Env I) (S : Sto I) : Rs I (Fl I × Env I) := .ex c S
def s_pass (d : Nat)  (t : Env I) (S : Sto I) : Rs I (Fl I × Env I) := .ok (.nx, t) S
def s_cont (d : Nat)  (t : Env I) (S : Sto I) : Rs I (Fl I × Env I) := .ok (.ct, t) S
def s_try (d : Nat) (b : List (St I)) (c : Nat) (h : List (St I)) (t : Env I) (S : Sto I) : Rs I (Fl I × Env I) := match V.ss d b t S with
    | .ex c' S1 => if Nat.beq c c' then V.ss d h t S1 else .ex c' S1
    | r => r
def stepS (d : Nat) (x : St I) (t : Env I) (S : Sto I) : Rs I (Fl I × Env I) := match x with
  | .set i e => s_set V d i e t S
  | .setT g e => s_setT V d g e t S
  | .par is es => s_par V d is es t S
  | .setF a f e => s_setF V d a f e t S
  | .setI a i e => s_setI V d a i e t S
  | .setI2 a i b j e f => s_setI2 V d a i b j e f t S
  | .augF a f o e => s_augF V d a f o e t S
  | .augN i o e => s_augN V d i o e t S
  | .augI a i o e => s_augI V d a i o e t S
  | .expr e => s_expr V d e t S
  | .ifs c a b => s_ifs V d c a b t S
  | .for g it b => s_for V d g it b t S
  | .whl c b => s_whl V d c b t S
  | .ret e => s_ret V d e t S
  | .retN  => s_retN d  t S
  | .rais c => s_rais d c t S
  | .pass  => s_pass d  t S
  | .cont  => s_cont d  t S
  | .try b c h => s_try V d b c h t S
def stepSs (d : Nat) (xs : List (St I)) (t : Env I) (S : Sto I) : Rs I (Fl I × Env I) := match xs with
  | [] => .ok (.nx, t) S
  | x :: r => (V.s d x t S).bind fun q S1 => match q with
    | (.nx, t') => V.ss d r t' S1
    | (f, t') => .ok (f, t') S1
def stepLp (d : Nat) (s : Src I) (i : Nat) (g : Tg) (b : List (St I)) (t : Env I) (S : Sto I) : Rs I (Fl I × Env I) := opt (s.at S i) fun o => match o with
  | .none => .ok (.nx, t) S
  | some v => opt (bindT g v t) fun t1 => (V.ss d b t1 S).bind fun r S2 => match r with
    | (.rt v, t') => .ok (.rt v, t') S2
    | (_, t') => V.lp d s (i + 1) g b t' S2
def condE (d : Nat) (c : Option (Ex I)) (t : Env I) (S : Sto I) : Rs I Bool := match c with
  | .none => .ok true S
  | some x => (V.e d x t S).bind fun v S1 => opt (asBl v) fun k => .ok k S1
def stepCp (d : Nat) (s : Src I) (i : Nat) (g : Tg) (c : Option (Ex I)) (x : Ex I) (t : Env I) (acc : List (Val I)) (S : Sto I) : Rs I (List (Val I)) := opt (s.at S i) fun o => match o with
  | .none => .ok acc S
  | some v => opt (bindT g v t) fun t1 => (condE V d c t1 S).bind fun k S1 => match k with
    | true => (V.e d x t1 S1).bind fun u S2 => match okL acc with
      | true => V.cp d s (i + 1) g c x t (acc ++ [u]) S2
      | false => .bad
    | false => V.cp d s (i + 1) g c x t acc S1
def stepCp2 (d : Nat) (s : Src I) (i : Nat) (g g2 : Tg) (it2 : Sr I) (c : Option (Ex I)) (x : Ex I) (t : Env I) (acc : List (Val I)) (S : Sto I) : Rs I (List (Val I)) := opt (s.at S i) fun o => match o with
  | .none => .ok acc S
  | some v => opt (bindT g v t) fun t1 => (srcOf V d it2 t1 S).bind fun s2 S1 => (nolock s2.2 (V.cp d s2.1 0 g2 c x (wipe (slots g2) t1) acc S1)).bind fun acc' S2 =>
      V.cp2 d s (i + 1) g g2 it2 c x t acc' S2
def stepDp (d : Nat) (s : Src I) (i : Nat) (g : Tg) (k x : Ex I) (t : Env I) (D : Val I) (S : Sto I) : Rs I Unit := opt (s.at S i) fun o => match o with
  | .none => .ok () S
  | some v => opt (bindT g v t) fun t1 => (V.e d k t1 S).bind fun kv S1 => (V.e d x t1 S1).bind fun u S2 => opt (putD S2 D kv u) fun S3 => V.dp d s (i + 1) g k x t D S3
def stepCall (d f : Nat) (vs : List (Val I)) (S : Sto I) : Rs I (Val I) := match d with
  | 0 => .bad
  | d' + 1 => opt G.fns[f]? fun fn => if Nat.beq vs.length fn.np then
      (V.ss d' fn.body (vs.map some ++ List.replicate (fn.ns - fn.np) .none) S).bind fun r S1 => match r with
        | (.rt v, _) => .ok v S1
        | (.nx, _) => .ok .non S1
        | (.ct, _) => .bad
    else .bad
def stepV : Ev I := ⟨stepE G V, stepEs V, stepS V, stepSs V, stepLp V, stepCp V, stepCp2 V, stepDp V, stepCall G V⟩
noncomputable def evN (G : Pg I) (n : Nat) : Ev I := Nat.rec (motive := fun _ => Ev I) Ev.none (fun _ V => stepV G V) n
end
end Pz
set_option maxRecDepth 100000
set_option linter.all false
namespace Pz
open PySem (Str)
theorem Tr.get_lf {A : Type} (j : Nat) : (Tr.lf : Tr A).get j = none := by cases j <;> rfl
theorem Tr.get_set {A : Type} : ∀ (k : Nat) (t : Tr A) (i j : Nat) (a : A), i + 1 < 2 ^ k → (Tr.set k t i a).get j = if j = i then some a else t.get j
  | 0, _, i, _, _, h => by simp at h
  | k + 1, .lf, 0, 0, a, _ => rfl
  | k + 1, .lf, 0, j + 1, a, _ => by
    show (if Nat.beq (j % 2) 0 then (Tr.lf : Tr A).get (j / 2) else (Tr.lf : Tr A).get (j / 2)) = _
    rw [Tr.get_lf]
    simp [Tr.get_lf]
  | k + 1, .nd v l r, 0, 0, a, _ => rfl
  | k + 1, .nd v l r, 0, j + 1, a, _ => by simp [Tr.set, Tr.get]
  | k + 1, .lf, i + 1, 0, a, _ => by
    unfold Tr.set
    split <;> rfl
  | k + 1, .lf, i + 1, j + 1, a, h => by
    have hk : i / 2 + 1 < 2 ^ k := by rw [Nat.pow_succ] at h; omega
    have ih := fun j => Tr.get_set k .lf (i / 2) j a hk
    unfold Tr.set
    by_cases e : Nat.beq (i % 2) 0 = true
    · rw [if_pos e]
      show (if Nat.beq (j % 2) 0 then (Tr.set k .lf (i / 2) a).get (j / 2) else (Tr.lf : Tr A).get (j / 2)) = _
      rw [ih, Tr.get_lf, Tr.get_lf]
      have e' := Nat.eq_of_beq_eq_true e
      by_cases f : Nat.beq (j % 2) 0 = true
      · have f' := Nat.eq_of_beq_eq_true f
        rw [if_pos f]
        by_cases g : j = i
        · subst g; simp
        · rw [if_neg (by omega), if_neg (by omega)]
      · have f' : j % 2 ≠ 0 := fun z => f (by rw [z]; rfl)
        rw [if_neg f, if_neg (by omega)]
    · rw [if_neg e]
      show (if Nat.beq (j % 2) 0 then (Tr.lf : Tr A).get (j / 2) else (Tr.set k .lf (i / 2) a).get (j / 2)) = _
      rw [ih, Tr.get_lf, Tr.get_lf]
      have e' : i % 2 ≠ 0 := fun z => e (by rw [z]; rfl)
      by_cases f : Nat.beq (j % 2) 0 = true
      · have f' := Nat.eq_of_beq_eq_true f
        rw [if_pos f, if_neg (by omega)]
      · have f' : j % 2 ≠ 0 := fun z => f (by rw [z]; rfl)
        rw [if_neg f]
        by_cases g : j = i
        · subst g; simp
        · rw [if_neg (by omega), if_neg (by omega)]
  | k + 1, .nd v l r, i + 1, 0, a, _ => by
    unfold Tr.set
    split <;> rfl
  | k + 1, .nd v l r, i + 1, j + 1, a, h => by
    have hk : i / 2 + 1 < 2 ^ k := by rw [Nat.pow_succ] at h; omega
    have ihl := fun j => Tr.get_set k l (i / 2) j a hk
    have ihr := fun j => Tr.get_set k r (i / 2) j a hk
    unfold Tr.set
    by_cases e : Nat.beq (i % 2) 0 = true
    · rw [if_pos e]
      show (if Nat.beq (j % 2) 0 then (Tr.set k l (i / 2) a).get (j / 2) else r.get (j / 2)) = if j + 1 = i + 1 then some a else (if Nat.beq (j % 2) 0 then l.get (j / 2) else r.get (j / 2))
      rw [ihl]
      have e' := Nat.eq_of_beq_eq_true e
      by_cases f : Nat.beq (j % 2) 0 = true
      · have f' := Nat.eq_of_beq_eq_true f
        rw [if_pos f, if_pos f]
        by_cases g : j = i
        · subst g; simp
        · rw [if_neg (by omega), if_neg (by omega)]
      · have f' : j % 2 ≠ 0 := fun z => f (by rw [z]; rfl)
        rw [if_neg f, if_neg f, if_neg (by omega)]
    · rw [if_neg e]
      show (if Nat.beq (j % 2) 0 then l.get (j / 2) else (Tr.set k r (i / 2) a).get (j / 2)) = if j + 1 = i + 1 then some a else (if Nat.beq (j % 2) 0 then l.get (j / 2) else r.get (j / 2))
      rw [ihr]
      have e' : i % 2 ≠ 0 := fun z => e (by rw [z]; rfl)
      by_cases f : Nat.beq (j % 2) 0 = true
      · have f' := Nat.eq_of_beq_eq_true f
        rw [if_pos f, if_pos f, if_neg (by omega)]
      · have f' : j % 2 ≠ 0 := fun z => f (by rw [z]; rfl)
        rw [if_neg f, if_neg f]
        by_cases g : j = i
        · subst g; simp
        · rw [if_neg (by omega), if_neg (by omega)]
variable {I : Type}
theorem Sto.get_set {S : Sto I} {a b : Nat} {o : Ob I} (h : a < 1000000000) : (S.set a o).get b = if b = a then some o else S.get b :=
  Tr.get_set 40 S.tr a b o (by omega)
theorem Sto.get_new {S : Sto I} {b : Nat} {o : Ob I} (h : S.next < 1000000000) : (S.new o).get b = if b = S.next then some o else S.get b :=
  Tr.get_set 40 S.tr S.next b o (by omega)
theorem nlBeq_iff : ∀ {a b : List Nat}, nlBeq a b = true ↔ a = b
  | [], [] => by simp [nlBeq]
  | [], _ :: _ => by simp [nlBeq]
  | _ :: _, [] => by simp [nlBeq]
  | x :: l, y :: m => by
    have ih := @nlBeq_iff l m
    unfold nlBeq
    cases e : Nat.beq x y with
    | true =>
      have := Nat.eq_of_beq_eq_true e
      subst this
      simpa using ih
    | false =>
      have : x ≠ y := fun z => by subst z; simp at e
      simp [this]
theorem sBeq_iff {a b : Str} : sBeq a b = true ↔ a = b := by
  unfold sBeq
  rw [nlBeq_iff]
  cases a with | mk a => cases b with | mk b =>
  simp
end Pz
set_option Elab.async false
set_option linter.all false
set_option maxRecDepth 100000
set_option maxHeartbeats 4000000
namespace Pz
open PySem L2

structure Lawful (I : Type) [IOps I] (den : I → Int) : Prop where
  lit : ∀ i, den (IOps.lit i) = i
  val : ∀ a i, IOps.val a = some i → den a = i
  bin : ∀ o a b c, IOps.bin o a b = some c → intBin o (den a) (den b) = some (den c)
  cmp : ∀ o a b r, IOps.cmp o a b = some r → intCmp o (den a) (den b) = r

/-- where the evaluator's objects lie -/
abbrev Rho := Nat → Option Addr

section
variable {I : Type} [IOps I] (den : I → Int)
mutual
/-- the evaluator's value v is the layer's value y -/
inductive VR (r : Rho) (H : Hp) : Val I → V → Prop
  | non : VR r H .non .non
  | bl (b : Bool) : VR r H (.bl b) (.bl b)
  | int (i : I) : VR r H (.int i) (.int (den i))
  | str (s : Str) : VR r H (.str s) (.str s)
  | tup {xs : List (Val I)} {a : Addr} {ys : List V} : H a = some (.tup ys) → VRs r H xs ys → VR r H (.tup xs) (.ref a)
  | ref {a : Nat} {b : Addr} : r a = some b → VR r H (.ref a) (.ref b)
inductive VRs (r : Rho) (H : Hp) : List (Val I) → List V → Prop
  | nil : VRs r H [] []
  | cons {x : Val I} {y : V} {xs : List (Val I)} {ys : List V} : VR r H x y → VRs r H xs ys → VRs r H (x :: xs) (y :: ys)
end
mutual
def toNK : Val I → NestedKey
  | .non => .none
  | .bl b => .num (if b then 1 else 0)
  | .int i => .num (den i)
  | .str s => .text s
  | .tup xs => .tup (toNKs xs)
  | .ref _ => .none
def toNKs : List (Val I) → List NestedKey
  | [] => []
  | x :: xs => toNK x :: toNKs xs
end
def keyL : Val I → Option Key
  | .int i => some (.inl (den i))
  | .str s => some (.inr s)
  | _ => none
end

/-- the entries of a dict with tuple keys, as they lie -/
def rawD (P : Program) (w : World) (d : Addr) (xs : List (NestedKey × Addr × Value)) : Heap → Prop := fun h =>
  ∃ o es ep, h.get? d = some o ∧ o.ExactDict ∧ o.data = .dict es ep ∧ es.toList = xs.map (entryOfKey (nestedKind P w)) ∧ (xs.map (·.1)).Nodup ∧ (d == sysModules) = false ∧ xs.length ≤ sizeLine

/-- locked or not -/
def Lk (lk : Nat) (H : Hp) (b : Addr) (u : HO) : Prop := match lk with
  | 0 => H b = some u
  | _ => ∃ o, H b = some (.frz o u)

section
variable {I : Type} [IOps I] (den : I → Int) (P : Program) (w : World) (ca : Nat → Addr)
/-- an entry of a dict with tuple keys -/
def EN (r : Rho) (H : Hp) (kv : Val I × Val I) (x : NestedKey × Addr × Value) : Prop :=
  kOk 8 kv.1 = true ∧ toNK den kv.1 = x.1 ∧ VR den r H kv.1 (.ref x.2.1) ∧ ∃ y, RelV y x.2.2 ∧ VR den r H kv.2 y
def EL (r : Rho) (H : Hp) (kv : Val I × Val I) (x : Key × V) : Prop := keyL den kv.1 = some x.1 ∧ VR den r H kv.2 x.2
def FR (r : Rho) (H : Hp) (x : Str × Val I) (y : Str × V) : Prop := x.1 = y.1 ∧ VR den r H x.2 y.2
/-- the evaluator's object o is what stands at b -/
def ObR (r : Rho) (H : Hp) (b : Addr) : Ob I → Prop
  | .lst xs => ∃ ys, H b = some (.lst ys) ∧ VRs den r H xs ys
  | .fls xs => ∃ o ys, H b = some (.frz o (.lst ys)) ∧ VRs den r H xs ys
  | .dic kvs lk => (∃ ws, Lk lk H b (.dK ws) ∧ Paired (EL den r H) kvs ws) ∨ ∃ xs, Lk lk H b (.ext (rawD P w b xs)) ∧ Paired (EN den r H) kvs xs
  | .ins c fs => ∃ dx gs, H b = some (.ins (ca c) dx gs) ∧ Paired (FR den r H) fs gs
structure Sim (r : Rho) (S : Sto I) (H : Hp) : Prop where
  ob : ∀ a o, S.get a = some o → ∃ b, r a = some b ∧ ObR den P w ca r H b o
  inj : ∀ a a' b, r a = some b → r a' = some b → a = a'
  dom : ∀ a b, r a = some b → a < S.next
  live : ∀ a b, r a = some b → H b ≠ none
  nt : ∀ a b ys, r a = some b → H b ≠ some (.tup ys)
  nx : S.next ≤ 1000000000
/-- what is kept of the heap behind a step -/
structure Ext (r : Rho) (H : Hp) (r' : Rho) (H' : Hp) : Prop where
  sub : ∀ a b, r a = some b → r' a = some b
  frame : ∀ b o, H b = some o → (∀ a, r a ≠ some b) → H' b = some o
  new : ∀ a b, r' a = some b → r a = some b ∨ H b = none
  there : ∀ b, H b ≠ none → H' b ≠ none
  tup : ∀ b ys, H b = some (.tup ys) → H' b = some (.tup ys)
  frz : ∀ b o u, H b = some (.frz o u) → H' b = some (.frz o u)
end
/-- not locked -/
def NotFrz (H : Hp) (b : Addr) : Prop := ∀ o u, H b ≠ some (.frz o u)
theorem NotFrz.of {H : Hp} {b : Addr} {v : HO} (h : H b = some v) (n : ∀ o u, v ≠ .frz o u) : NotFrz H b := fun o u z => by rw [h] at z; exact n o u (Option.some.inj z)
theorem NotFrz.none {H : Hp} {b : Addr} (h : H b = none) : NotFrz H b := fun o u z => by rw [h] at z; cases z
theorem frz_upd {H : Hp} {b c : Addr} {v : HO} (n : NotFrz H b) {o : Obj} {u : HO} (h : H c = some (.frz o u)) : upd H b v c = some (.frz o u) := by
  rw [upd_ne (fun e => n o u (by rw [← e]; exact h))]; exact h

section
variable {I : Type} [IOps I] {den : I → Int} {P : Program} {w : World} {ca : Nat → Addr} {r r' r'' : Rho} {H H' H'' : Hp}
theorem Ext.refl : Ext r H r H := ⟨fun _ _ h => h, fun _ _ h _ => h, fun _ _ h => .inl h, fun _ h => h, fun _ _ h => h, fun _ _ _ h => h⟩
theorem Ext.trans (e : Ext r H r' H') (f : Ext r' H' r'' H'') (lv : ∀ a b, r a = some b → H b ≠ none) : Ext r H r'' H'' where
  sub := fun a b h => f.sub a b (e.sub a b h)
  frame := fun b o h n => f.frame b o (e.frame b o h n) fun a q => by
    rcases e.new a b q with z | z
    · exact n a z
    · rw [z] at h; cases h
  new := fun a b h => by
    rcases f.new a b h with z | z
    · exact e.new a b z
    · right
      cases q : H b with
      | none => rfl
      | some o => exact absurd z (e.there b (by rw [q]; exact fun z => nomatch z))
  there := fun b h => f.there b (e.there b h)
  tup := fun b ys h => f.tup b ys (e.tup b ys h)
  frz := fun b o u h => f.frz b o u (e.frz b o u h)
mutual
theorem VR.mono (e : Ext r H r' H') : ∀ {v : Val I} {y : V}, VR den r H v y → VR den r' H' v y
  | _, _, .non => .non
  | _, _, .bl b => .bl b
  | _, _, .int i => .int i
  | _, _, .str s => .str s
  | _, _, .tup h hs => .tup (e.tup _ _ h) (VRs.mono e hs)
  | _, _, .ref h => .ref (e.sub _ _ h)
theorem VRs.mono (e : Ext r H r' H') : ∀ {v : List (Val I)} {y : List V}, VRs den r H v y → VRs den r' H' v y
  | _, _, .nil => .nil
  | _, _, .cons h hs => .cons (VR.mono e h) (VRs.mono e hs)
end
theorem VRs.length : ∀ {xs : List (Val I)} {ys : List V}, VRs den r H xs ys → xs.length = ys.length
  | _, _, .nil => rfl
  | _, _, .cons _ h => by simp [VRs.length h]
theorem VRs.get : ∀ {xs : List (Val I)} {ys : List V} {i : Nat} {x : Val I}, VRs den r H xs ys → xs[i]? = some x → ∃ y, ys[i]? = some y ∧ VR den r H x y
  | _, _, _, _, .nil, e => by simp at e
  | _, _, 0, _, .cons h _, e => by simp at e; subst e; exact ⟨_, rfl, h⟩
  | _, _, i + 1, x, .cons _ t, e => by
    obtain ⟨y, h1, h2⟩ := VRs.get (i := i) (x := x) t (by simpa using e)
    exact ⟨y, by simpa using h1, h2⟩
theorem VRs.append : ∀ {xs xs' : List (Val I)} {ys ys' : List V}, VRs den r H xs ys → VRs den r H xs' ys' → VRs den r H (xs ++ xs') (ys ++ ys')
  | _, _, _, _, .nil, s => s
  | _, _, _, _, .cons q t, s => .cons q (VRs.append t s)
theorem VRs.set : ∀ {xs : List (Val I)} {ys : List V} {x : Val I} {y : V} (i : Nat), VRs den r H xs ys → VR den r H x y → VRs den r H (xs.set i x) (ys.set i y)
  | _, _, _, _, _, .nil, _ => .nil
  | _, _, _, _, 0, .cons _ t, q => .cons q t
  | _, _, _, _, i + 1, .cons p t, q => .cons p (VRs.set i t q)
theorem VRs.take : ∀ {xs : List (Val I)} {ys : List V} (n : Nat), VRs den r H xs ys → VRs den r H (xs.take n) (ys.take n)
  | _, _, 0, _ => by simpa using VRs.nil
  | _, _, _ + 1, .nil => .nil
  | _, _, n + 1, .cons q t => .cons q (VRs.take n t)
theorem VRs.drop : ∀ {xs : List (Val I)} {ys : List V} (n : Nat), VRs den r H xs ys → VRs den r H (xs.drop n) (ys.drop n)
  | _, _, 0, h => by simpa using h
  | _, _, _ + 1, .nil => .nil
  | _, _, n + 1, .cons _ t => VRs.drop n t
theorem VRs.eraseIdx : ∀ {xs : List (Val I)} {ys : List V} (n : Nat), VRs den r H xs ys → VRs den r H (xs.eraseIdx n) (ys.eraseIdx n)
  | _, _, _, .nil => .nil
  | _, _, 0, .cons _ t => t
  | _, _, n + 1, .cons q t => .cons q (VRs.eraseIdx n t)
theorem VRs.reverse : ∀ {xs : List (Val I)} {ys : List V}, VRs den r H xs ys → VRs den r H xs.reverse ys.reverse
  | _, _, .nil => .nil
  | _, _, .cons q t => by
    rw [List.reverse_cons, List.reverse_cons]
    exact VRs.append (VRs.reverse t) (.cons q .nil)
theorem Paired.mono {A B : Type} {F G : A → B → Prop} (f : ∀ a b, F a b → G a b) : ∀ {l : List A} {m : List B}, Paired F l m → Paired G l m
  | _, _, .nil => .nil
  | _, _, .cons q t => .cons (f _ _ q) (Paired.mono f t)
theorem Lk.at {lk : Nat} {b : Addr} {u : HO} (h : Lk lk H b u) (e : H' b = H b) : Lk lk H' b u := by
  unfold Lk at h ⊢
  cases lk with
  | zero => exact e.trans h
  | succ n => obtain ⟨o, h⟩ := h; exact ⟨o, e.trans h⟩
/-- an object that stays, where values stay -/
theorem ObR.stay {b : Addr} {o : Ob I} (h : ObR den P w ca r H b o) (e : H' b = H b) (m : ∀ v y, VR den r H v y → VR den r' H' v y) (ms : ∀ v y, VRs den r H v y → VRs den r' H' v y) : ObR den P w ca r' H' b o := by
  cases o with
  | lst xs => obtain ⟨ys, h1, h2⟩ := h; exact ⟨ys, e.trans h1, ms _ _ h2⟩
  | fls xs => obtain ⟨o, ys, h1, h2⟩ := h; exact ⟨o, ys, e.trans h1, ms _ _ h2⟩
  | dic kvs lk =>
    rcases h with ⟨ws, h1, h2⟩ | ⟨xs, h1, h2⟩
    · exact .inl ⟨ws, h1.at e, Paired.mono (fun a b q => ⟨q.1, m _ _ q.2⟩) h2⟩
    · exact .inr ⟨xs, h1.at e, Paired.mono (fun a b q => ⟨q.1, q.2.1, m _ _ q.2.2.1, let ⟨y, q1, q2⟩ := q.2.2.2; ⟨y, q1, m _ _ q2⟩⟩) h2⟩
  | ins c fs => obtain ⟨dx, gs, h1, h2⟩ := h; exact ⟨dx, gs, e.trans h1, Paired.mono (fun a b q => ⟨q.1, m _ _ q.2⟩) h2⟩
/-- no tuple -/
def NoTup (o : HO) : Prop := ∀ ys, o ≠ .tup ys
theorem tup_upd {b c : Addr} {o : HO} {ys : List V} (h : H c = some (.tup ys)) (n : ∀ zs, H b ≠ some (.tup zs)) : upd H b o c = some (.tup ys) := by
  rw [upd_ne (fun e => n ys (by rw [← e]; exact h))]; exact h
/-- a new object -/
theorem Sim.laid {S : Sto I} (m : Sim den P w ca r S H) {b : Addr} {u : HO} {o : Ob I} (hb : H b = none) (hz : S.next < 1000000000) (nt : NoTup u)
    (ho : ∀ r' H', H' = upd H b u → (∀ a c, r a = some c → r' a = some c) → (∀ v y, VR den r H v y → VR den r' H' v y) → (∀ v y, VRs den r H v y → VRs den r' H' v y) → ObR den P w ca r' H' b o) :
    ∃ r', Sim den P w ca r' (S.new o) (upd H b u) ∧ Ext r H r' (upd H b u) ∧ r' S.next = some b := by
  have hS : r S.next = none := by
    cases q : r S.next with
    | none => rfl
    | some c => exact absurd (m.dom _ _ q) (Nat.lt_irrefl _)
  have nb : ∀ a, r a ≠ some b := fun a q => m.live a b q hb
  let r' : Rho := fun a => if a = S.next then some b else r a
  have sub : ∀ a c, r a = some c → r' a = some c := fun a c q => by
    show (if a = S.next then some b else r a) = some c
    rw [if_neg (fun e => by rw [e, hS] at q; cases q)]; exact q
  have ext : Ext r H r' (upd H b u) := by
    refine ⟨sub, fun c o' q n => ?_, fun a c q => ?_, fun c q => ?_, fun c ys q => tup_upd q fun zs => (by rw [hb]; exact fun z => (nomatch z)), fun c o u q => frz_upd (.none hb) q⟩
    · rw [upd_ne (fun e => by rw [e, hb] at q; cases q)]; exact q
    · have q : (if a = S.next then some b else r a) = some c := q
      by_cases e : a = S.next
      · rw [if_pos e] at q; cases q; exact .inr hb
      · rw [if_neg e] at q; exact .inl q
    · by_cases e : c = b
      · rw [e, upd_same]; exact fun z => nomatch z
      · rw [upd_ne e]; exact q
  have rn : r' S.next = some b := if_pos rfl
  refine ⟨r', ⟨fun a o' q => ?_, fun a a' c p q => ?_, fun a c q => ?_, fun a c q => ?_, fun a c ys q => ?_, Nat.succ_le_of_lt hz⟩, ext, rn⟩
  · rw [Sto.get_new hz] at q
    by_cases e : a = S.next
    · rw [if_pos e] at q
      cases q
      subst e
      exact ⟨b, rn, ho r' _ rfl sub (fun _ _ z => z.mono ext) fun _ _ z => z.mono ext⟩
    · rw [if_neg e] at q
      obtain ⟨c, h1, h2⟩ := m.ob a o' q
      have ne : c ≠ b := fun z => nb a (z ▸ h1)
      exact ⟨c, sub a c h1, h2.stay (upd_ne ne) (fun _ _ z => z.mono ext) fun _ _ z => z.mono ext⟩
  · have p : (if a = S.next then some b else r a) = some c := p
    have q : (if a' = S.next then some b else r a') = some c := q
    by_cases e : a = S.next <;> by_cases f : a' = S.next
    · rw [e, f]
    · rw [if_pos e] at p; rw [if_neg f] at q; cases p; exact absurd q (nb a')
    · rw [if_neg e] at p; rw [if_pos f] at q; cases q; exact absurd p (nb a)
    · rw [if_neg e] at p; rw [if_neg f] at q; exact m.inj a a' c p q
  · have q : (if a = S.next then some b else r a) = some c := q
    show a < S.next + 1
    by_cases e : a = S.next
    · omega
    · rw [if_neg e] at q; exact Nat.lt_succ_of_lt (m.dom a c q)
  · rcases ext.new a c q with z | z
    · exact ext.there c (m.live a c z)
    · have q : (if a = S.next then some b else r a) = some c := q
      by_cases e : a = S.next
      · rw [if_pos e] at q; cases q; rw [upd_same]; exact fun z => nomatch z
      · rw [if_neg e] at q; exact absurd z (m.live a c q)
  · have q : (if a = S.next then some b else r a) = some c := q
    by_cases e : a = S.next
    · rw [if_pos e] at q; cases q; rw [upd_same]; exact fun z => nt ys (Option.some.inj z)
    · rw [if_neg e] at q; rw [upd_ne (fun z : c = b => nb a (by rw [← z]; exact q))]; exact m.nt a c ys q
/-- an object changed -/
theorem Sim.put {S : Sto I} (m : Sim den P w ca r S H) {a : Nat} {b : Addr} {u : HO} {o : Ob I} (hr : r a = some b) (nf : NotFrz H b) (nt : NoTup u)
    (ho : ∀ H', H' = upd H b u → (∀ v y, VR den r H v y → VR den r H' v y) → (∀ v y, VRs den r H v y → VRs den r H' v y) → ObR den P w ca r H' b o) :
    Sim den P w ca r (S.set a o) (upd H b u) ∧ Ext r H r (upd H b u) := by
  have hz : a < 1000000000 := Nat.lt_of_lt_of_le (m.dom a b hr) m.nx
  have ext : Ext r H r (upd H b u) := by
    refine ⟨fun _ _ q => q, fun c o' q n => ?_, fun _ _ q => .inl q, fun c q => ?_, fun c ys q => tup_upd q fun zs => m.nt a b zs hr, fun c o u q => frz_upd nf q⟩
    · rw [upd_ne (fun e => n a (by rw [e]; exact hr))]; exact q
    · by_cases e : c = b
      · rw [e, upd_same]; exact fun z => nomatch z
      · rw [upd_ne e]; exact q
  refine ⟨⟨fun c o' q => ?_, m.inj, m.dom, fun c d q => ext.there d (m.live c d q), fun c d ys q => ?_, m.nx⟩, ext⟩
  · rw [Sto.get_set hz] at q
    by_cases e : c = a
    · rw [if_pos e] at q
      cases q
      subst e
      exact ⟨b, hr, ho _ rfl (fun _ _ z => z.mono ext) fun _ _ z => z.mono ext⟩
    · rw [if_neg e] at q
      obtain ⟨d, h1, h2⟩ := m.ob c o' q
      have ne : d ≠ b := fun z => e (m.inj c a b (z ▸ h1) hr)
      exact ⟨d, h1, h2.stay (upd_ne ne) (fun _ _ z => z.mono ext) fun _ _ z => z.mono ext⟩
  · by_cases e : d = b
    · rw [e, upd_same]; exact fun z => nt ys (Option.some.inj z)
    · rw [upd_ne e]; exact m.nt c d ys q
/-- something that the evaluator doesn't know is laid (a tuple) -/
theorem Sim.aside {S : Sto I} (m : Sim den P w ca r S H) {b : Addr} {u : HO} (hb : H b = none) : Sim den P w ca r S (upd H b u) ∧ Ext r H r (upd H b u) := by
  have nb : ∀ a, r a ≠ some b := fun a q => m.live a b q hb
  have ext : Ext r H r (upd H b u) := by
    refine ⟨fun _ _ q => q, fun c o' q n => ?_, fun _ _ q => .inl q, fun c q => ?_, fun c ys q => tup_upd q fun zs => (by rw [hb]; exact fun z => (nomatch z)), fun c o u q => frz_upd (.none hb) q⟩
    · rw [upd_ne (fun e => by rw [e, hb] at q; cases q)]; exact q
    · by_cases e : c = b
      · rw [e, upd_same]; exact fun z => nomatch z
      · rw [upd_ne e]; exact q
  have ne : ∀ a d, r a = some d → d ≠ b := fun a d q e => nb a (e ▸ q)
  refine ⟨⟨fun c o' q => ?_, m.inj, m.dom, fun c d q => ext.there d (m.live c d q), fun c d ys q => by rw [upd_ne (ne c d q)]; exact m.nt c d ys q, m.nx⟩, ext⟩
  obtain ⟨d, h1, h2⟩ := m.ob c o' q
  exact ⟨d, h1, h2.stay (upd_ne (ne c d h1)) (fun _ _ z => z.mono ext) fun _ _ z => z.mono ext⟩

/-- the values by slots -/
def ER (den : I → Int) (r : Rho) (H : Hp) (t : Env I) (s : L2.St) : Prop := t.length ≤ s.length ∧ ∀ (i : Nat) (v : Val I), t[i]? = some (some v) → ∃ y, s[i]? = some (some y) ∧ VR den r H v y
theorem ER.mono {t : Env I} {s : L2.St} (h : ER den r H t s) (e : Ext r H r' H') : ER den r' H' t s := ⟨h.1, fun i v q => by
  obtain ⟨y, h1, h2⟩ := h.2 i v q
  exact ⟨y, h1, h2.mono e⟩⟩
theorem ER.set {t : Env I} {s : L2.St} {v : Val I} {y : V} (h : ER den r H t s) (q : VR den r H v y) (i : Nat) : ER den r H (t.set i (some v)) (s.set i (some y)) := ⟨by simpa using h.1, fun j u e => by
  by_cases ej : i = j
  · subst ej
    by_cases hi : i < t.length
    · rw [List.getElem?_set_self hi] at e
      cases e
      exact ⟨y, List.getElem?_set_self (Nat.lt_of_lt_of_le hi h.1), q⟩
    · rw [List.getElem?_eq_none (by simpa using hi)] at e; cases e
  · rw [List.getElem?_set_ne ej] at e
    obtain ⟨z, h1, h2⟩ := h.2 j u e
    exact ⟨z, by rw [List.getElem?_set_ne ej]; exact h1, h2⟩⟩
end
end Pz
set_option Elab.async false
set_option linter.all false
set_option maxRecDepth 100000
set_option maxHeartbeats 4000000
namespace Pz
open PySem L2
section
variable {I : Type} [IOps I] {den : I → Int} {ca : Nat → Addr} {X : Cx}
/-- what is wanted of what the evaluator comes to -/
def Fin (den : I → Int) (X : Cx) (ca : Nat → Addr) (r : Rho) (H : Hp) (v : Val I) (S' : Sto I) (Q : VK) : Prop :=
  ∀ r' H' z, Ext r H r' H' → Sim den X.prog X.w ca r' S' H' → VR den r' H' v z → Q z H'
abbrev SimX (den : I → Int) (X : Cx) (ca : Nat → Addr) := Sim den X.prog X.w ca
theorem Fin.same {r : Rho} {H : Hp} {v : Val I} {S : Sto I} {Q : VK} {z : V} (f : Fin den X ca r H v S Q) (m : SimX den X ca r S H) (h : VR den r H v z) : Q z H := f r H z Ext.refl m h
theorem blt_lt {a b : Nat} (h : Nat.blt a b = true) : a < b := Nat.le_of_ble_eq_true h
theorem noTup_lst (xs : List V) : NoTup (.lst xs) := fun _ z => nomatch z
theorem Fin.lst {r : Rho} {H : Hp} {S S' : Sto I} {xs : List (Val I)} {ys : List V} {v : Val I} {Q : VK} (f : Fin den X ca r H v S' Q) (m : SimX den X ca r S H) (h : VRs den r H xs ys) (e : fresh S (.lst xs) = .ok v S') : ∀ p, H p = none → Q (.ref p) (upd H p (.lst ys)) := fun p hp => by
  unfold fresh at e
  split at e
  · rename_i hz
    cases e
    obtain ⟨r', m', x, rn⟩ := m.laid (o := .lst xs) hp (blt_lt hz) (noTup_lst ys) fun r' H' eH sub _ ms => ⟨ys, by rw [eH, upd_same], ms _ _ h⟩
    exact f _ _ _ x m' (.ref rn)
  · cases e
theorem Fin.tup {r : Rho} {H : Hp} {S : Sto I} {xs : List (Val I)} {ys : List V} {Q : VK} (f : Fin den X ca r H (.tup xs) S Q) (m : SimX den X ca r S H) (h : VRs den r H xs ys) : ∀ p, H p = none → Q (.ref p) (upd H p (.tup ys)) := fun p hp => by
  obtain ⟨m', x⟩ := m.aside (u := .tup ys) hp
  exact f _ _ _ x m' (.tup upd_same (h.mono x))

/-- the universal reading of an operation of two values -/
def uBin (den : I → Int) (X : Cx) (ca : Nat → Addr) (o : Bop) : R2 := fun x y H Q => ∃ (r : Rho) (S : Sto I) (va vb v : Val I) (S' : Sto I), SimX den X ca r S H ∧ VR den r H va x ∧ VR den r H vb y ∧ binV o va vb S = .ok v S' ∧ Fin den X ca r H v S' Q
def opOf : Bop → Operator
  | .add => .Add | .sub => .Sub | .mul => .Mult | .fdv => .FloorDiv | .mod => .Mod | .pow => .Pow
theorem opt_ok {A : Type} {o : Option A} {B : Type} {f : A → Rs I B} {v : B} {S : Sto I} (h : opt o f = .ok v S) : ∃ a, o = some a ∧ f a = .ok v S := by
  cases o with
  | none => cases h
  | some a => exact ⟨a, rfl, h⟩
theorem bind_ok {A B : Type} {x : Rs I A} {f : A → Sto I → Rs I B} {v : B} {S : Sto I} (h : x.bind f = .ok v S) : ∃ a S1, x = .ok a S1 ∧ f a S1 = .ok v S := by
  cases x with
  | ok a S1 => exact ⟨a, S1, rfl, h⟩
  | ex c S1 => cases h
  | bad => cases h
theorem okL_le {A : Type} {xs : List A} (h : okL xs = true) : xs.length < 16000000 := blt_lt h
theorem line16 : 16000000 ≤ sizeLine := by rw [sizeLine_eq]; decide
theorem big64_iff {i : Int} : big64 i = true ↔ -(2 ^ 64) < i ∧ i < 2 ^ 64 := by
  unfold big64
  rw [Bool.and_eq_true, decide_eq_true_eq, decide_eq_true_eq]
  constructor <;> intro h <;> simpa using h
theorem rep_flat {A B : Type} (xs : List (Val I)) : ∀ n, rep xs n = (List.replicate n xs).flatten
  | 0 => rfl
  | n + 1 => by rw [rep, rep_flat (A := A) (B := B) xs n]; simp [List.replicate_succ]
theorem VRs.rep {r : Rho} {H : Hp} {xs : List (Val I)} {ys : List V} (h : VRs den r H xs ys) : ∀ n, VRs den r H (Pz.rep xs n) ((List.replicate n ys).flatten)
  | 0 => .nil
  | n + 1 => by
    rw [List.replicate_succ, List.flatten_cons]
    exact VRs.append h (VRs.rep h n)
theorem u_int {o : Bop} {i j k : Int} (h : intBin (ibOf o) i j = some k) : OpR X (binaryOp (opOf o)) (fun x y H Q => x = .int i ∧ y = .int j ∧ Q (.int k) H) := by
  rintro pins s σ H x y v u Q I rx ry ⟨rfl, rfl, q⟩
  cases o with
  | add => have h : some (i + j) = some k := h; cases h; exact op_add pins s σ H _ _ v u Q I rx ry ⟨i, j, rfl, rfl, q⟩
  | sub => have h : some (i - j) = some k := h; cases h; exact op_sub pins s σ H _ _ v u Q I rx ry ⟨i, j, rfl, rfl, q⟩
  | mul =>
    have h : (if (big64 i || big64 j) = true then some (i * j) else none) = some k := h
    split at h
    · rename_i hb
      cases h
      refine op_mul pins s σ H _ _ v u Q I rx ry ⟨i, j, rfl, rfl, ?_, q⟩
      rcases Bool.or_eq_true _ _ ▸ hb with z | z
      · exact .inl (big64_iff.mp z)
      · exact .inr (big64_iff.mp z)
    · cases h
  | fdv =>
    have h : (if (decide (0 < j) && decide (j < 1073741824)) = true then some (i / j) else none) = some k := h
    split at h
    · rename_i hb
      rw [Bool.and_eq_true, decide_eq_true_eq, decide_eq_true_eq] at hb
      cases h
      exact op_fdiv pins s σ H _ _ v u Q I rx ry ⟨i, j, rfl, rfl, hb, q⟩
    · cases h
  | mod =>
    have h : (if 0 < j then some (i % j) else none) = some k := h
    split at h
    · rename_i hb
      cases h
      exact op_mod pins s σ H _ _ v u Q I rx ry ⟨i, j, rfl, rfl, hb, q⟩
    · cases h
  | pow =>
    have h : (if (decide (0 ≤ j) && decide (j ≤ 1000000) && big64 i) = true then some (i ^ j.toNat) else none) = some k := h
    split at h
    · rename_i hb
      rw [Bool.and_eq_true, Bool.and_eq_true, decide_eq_true_eq, decide_eq_true_eq] at hb
      cases h
      have b64 := big64_iff.mp hb.2
      exact op_pow pins s σ H _ _ v u Q I rx ry ⟨i, j, rfl, rfl, ⟨hb.1.1, hb.1.2, by omega⟩, q⟩
    · cases h
theorem u_bin (L : Lawful I den) (o : Bop) : OpR X (binaryOp (opOf o)) (uBin den X ca o) := by
  rintro pins s σ H x y v u Q I rx ry ⟨r, S, va, vb, w, S', m, hx, hy, e, f⟩
  unfold binV at e
  split at e
  · -- int, int
    obtain ⟨k, hk, e⟩ := opt_ok e
    cases e
    cases hx
    cases hy
    exact u_int (L.bin _ _ _ _ hk) pins s σ H _ _ v u Q I rx ry ⟨rfl, rfl, f.same m (.int k)⟩
  · -- tuples
    rename_i xs ys
    split at e
    · rename_i hl
      cases e
      cases hx with
      | tup h1 h2 =>
        cases hy with
        | tup h3 h4 =>
          have hz := okL_le hl
          rw [List.length_append, h2.length, h4.length] at hz
          refine op_catA pins s σ H _ _ v u Q I rx ry ⟨_, _, _, _, rfl, rfl, SqT.of h1, SqT.of h3, Nat.le_trans (Nat.le_of_lt hz) line16, fun z => ?_, fun z1 z2 => ?_, fun _ _ => f.tup m (VRs.append h2 h4)⟩
          · subst z
            cases h2
            exact f.same m (.tup h3 h4)
          · subst z2
            cases h4
            exact f.same m (.tup h1 (by simpa using h2))
    · cases e
  · -- texts
    rename_i a b
    split at e
    · rename_i hl
      cases e
      cases hx
      cases hy
      have hz := okL_le hl
      rw [List.length_append] at hz
      have ez : (a ++ b : Str) = ⟨⟨a.cps.toList ++ b.cps.toList⟩⟩ := by
        show (⟨a.cps ++ b.cps⟩ : Str) = _
        congr 1
        apply Array.ext'
        simp
      refine op_add_str pins s σ H _ _ v u Q I rx ry ⟨a, b, rfl, rfl, ?_, ?_⟩
      · have e1 : a.length = a.cps.toList.length := by simp [Str.length]
        have e2 : b.length = b.cps.toList.length := by simp [Str.length]
        rw [e1, e2]
        exact Nat.le_trans (Nat.le_of_lt hz) line16
      · rw [ez]
        exact f.same m (.str _)
    · cases e
  · -- tuple * int
    rename_i xs j
    split at e
    · rename_i x0 xr
      obtain ⟨n, hn, e⟩ := opt_ok e
      split at e
      · rename_i hc
        cases e
        rw [Bool.and_eq_true, Bool.and_eq_true, decide_eq_true_eq, decide_eq_true_eq] at hc
        cases hx with
        | tup h1 h2 =>
          cases hy
          have := L.val _ _ hn
          subst this
          have hl := Nat.le_of_ble_eq_true hc.2
          rw [h2.length] at hl
          refine op_repT pins s σ H _ _ v u Q I rx ry ⟨_, _, _, rfl, rfl, SqT.of h1, ?_, hc.1.1, hc.1.2, hl, f.tup m (h2.rep _)⟩
          intro z
          subst z
          cases h2
      · cases e
    · cases e
  · -- lists
    rename_i a b
    split at e
    · rename_i xs ys h1 h2
      split at e
      · rename_i hl
        cases hx with
        | ref q1 =>
          cases hy with
          | ref q2 =>
            obtain ⟨b1, z1, o1⟩ := m.ob _ _ h1
            obtain ⟨b2, z2, o2⟩ := m.ob _ _ h2
            rw [q1] at z1; cases z1
            rw [q2] at z2; cases z2
            obtain ⟨us, g1, g2⟩ := o1
            obtain ⟨ws, g3, g4⟩ := o2
            have hz := okL_le hl
            rw [List.length_append, g2.length, g4.length] at hz
            exact op_cat pins s σ H _ _ v u Q I rx ry ⟨_, _, _, _, rfl, rfl, g1, g3, Nat.le_trans (Nat.le_of_lt hz) line16, f.lst m (VRs.append g2 g4) e⟩
      · cases e
    · cases e
  · -- list * int
    rename_i a j
    split at e
    · rename_i xs h1
      obtain ⟨n, hn, e⟩ := opt_ok e
      split at e
      · rename_i hc
        rw [Bool.and_eq_true, Bool.and_eq_true, decide_eq_true_eq, decide_eq_true_eq] at hc
        cases hx with
        | ref q1 =>
          cases hy
          have := L.val _ _ hn
          subst this
          obtain ⟨b1, z1, o1⟩ := m.ob _ _ h1
          rw [q1] at z1; cases z1
          obtain ⟨us, g1, g2⟩ := o1
          have hr := g2.rep (den j).toNat
          have hz := okL_le hc.2
          rw [hr.length] at hz
          have e3 : us.length * (den j).toNat = ((List.replicate (den j).toNat us).flatten).length := by simp [Nat.mul_comm]
          refine op_rep pins s σ H _ _ v u Q I rx ry ⟨_, _, _, rfl, rfl, g1, by omega, by omega, by rw [e3]; exact Nat.le_trans (Nat.le_of_lt hz) line16, f.lst m hr e⟩
      · cases e
    · cases e
  · cases e
end
end Pz
set_option Elab.async false
set_option linter.all false
set_option maxRecDepth 100000
set_option maxHeartbeats 4000000
namespace Pz
open PySem PySem.Calls PyProof.Rows
section
variable {prog : Program} {w : World} {K : Type} [DecidableEq K] {knd : HeapKind prog w K} {A : Around} {E : Value → Shared → Prop} {s : Shared}
/-- the entries of a, looked up in b -/
inductive HitsH {K : Type} [DecidableEq K] (prog : Program) (w : World) (A : Around) (s : Shared) (kb : List (K × Addr × Value)) : List (K × Addr × Value) → Bool → Prop
  | nil : HitsH prog w A s kb [] true
  | miss {k : K} {a : Addr} {v : Value} {r : List (K × Addr × Value)} : atKey kb k = none → HitsH prog w A s kb ((k, a, v) :: r) false
  | hit {k : K} {a : Addr} {v : Value} {p : Addr × Value} {r : List (K × Addr × Value)} {e b : Bool} : atKey kb k = some p → SeqAt.EqP prog w A s v p.2 e → (e = true → HitsH prog w A s kb r b) → HitsH prog w A s kb ((k, a, v) :: r) (e && b)
theorem HitsH.inv {kb : List (K × Addr × Value)} {k : K} {a : Addr} {v : Value} {r : List (K × Addr × Value)} {b : Bool} (h : HitsH prog w A s kb ((k, a, v) :: r) b) :
    (atKey kb k = none ∧ b = false) ∨ ∃ p e b', atKey kb k = some p ∧ SeqAt.EqP prog w A s v p.2 e ∧ (e = true → HitsH prog w A s kb r b') ∧ b = (e && b') := by
  cases h with
  | miss hn => exact .inl ⟨hn, rfl⟩
  | hit hy he hr => exact .inr ⟨_, _, _, hy, he, hr, rfl⟩
theorem samePairsH {nm : String} {a b : Addr} {ka kb : List (K × Addr × Value)} {r : Bool} {Q : Bool → Shared → Prop} (hu : knd.room A) (ha : (a == sysModules) = false) (hb : (b == sysModules) = false)
    (da : s.heap.DictOfH knd a ka) (db : s.heap.DictOfH knd b kb) (hits : ka.length = kb.length → HitsH prog w A s kb ka r) (h : Q (ka.length == kb.length && r) s) :
    wpAny (model prog w) A (Builtin.Dict.samePairs nm a b) Q E s := by
  obtain ⟨oa, es, ep, hoa, _, hda, hka, hia, hna⟩ := da
  obtain ⟨ob, es', ep', hob, _, hdb, hkb, hib, hnb⟩ := db
  have hla : ka.length = es.size := (size_of_entries hka).symm
  have hlb : kb.length = es'.size := (size_of_entries hkb).symm
  rw [hla, hlb] at h
  unfold Builtin.Dict.samePairs Builtin.Dict.showsAll
  rw [if_neg (show ¬ (a == sysModules) = true by rw [ha]; exact Bool.false_ne_true), if_neg (show ¬ (b == sysModules) = true by rw [hb]; exact Bool.false_ne_true)]
  refine wpAny_bind (wpAny_pure (wpAny_bind (wpAny_pure ?_)))
  refine wpAny_bind (wpAny_dictEntries hoa hda ?_)
  dsimp only
  refine wpAny_bind (wpAny_dictEntries hob hdb ?_)
  by_cases hsz : es.size = es'.size
  case neg =>
    rw [if_pos (by simpa using hsz)]
    have hbf : (es.size == es'.size) = false := by simpa using hsz
    rw [hbf, Bool.false_and] at h
    exact wpAny_bind (wpAny_rule (wpAny_pure h))
  case pos =>
    have h' : Q r s := by simpa [hsz] using h
    have hits' := hits (by rw [hla, hlb]; exact hsz)
    rw [if_neg (by rw [hsz]; simp)]
    refine wpAny_bind (wpAny_dictEpoch hoa hda ?_)
    refine wpAny_bind ?_
    rw [Std.Legacy.Range.forIn_eq_forIn_range']
    simp only [Std.Legacy.Range.size, Nat.sub_zero, Nat.add_sub_cancel, Nat.div_one]
    refine wpAny_forIn_list _
      (fun rest q s' => s' = s ∧ q = (none, ()) ∧ ∃ i, rest = List.range' i (es.size - i) ∧ i ≤ es.size ∧ HitsH prog w A s kb (ka.drop i) r)
      _ ?_ ?_ _ _ ⟨rfl, rfl, 0, by simp, Nat.zero_le _, hits'⟩
    · rintro x rest q s' ⟨rfl, rfl, i, hr, hi, hpre⟩
      have hlt : i < es.size := by
        rcases Nat.lt_or_ge i es.size with h | h
        · exact h
        · rw [Nat.sub_eq_zero_of_le h] at hr; simp at hr
      obtain ⟨rfl, hrest⟩ : x = i ∧ rest = List.range' (i + 1) (es.size - (i + 1)) := by
        have e : es.size - i = (es.size - (i + 1)) + 1 := by omega
        rw [e, List.range'_succ] at hr
        injection hr with h1 h2
        exact ⟨h1, h2⟩
      refine wpAny_bind (wpAny_dictEntries hoa hda ?_)
      have hlt' : x < ka.length := by rw [hla]; exact hlt
      obtain ⟨k, ad, v, hkv⟩ : ∃ k ad v, ka[x] = (k, ad, v) := ⟨_, _, _, rfl⟩
      have hg : ka[x]? = some (k, ad, v) := by rw [List.getElem?_eq_getElem hlt', hkv]
      rw [entry_at hka x, hg]
      have hdrop : ka.drop x = (k, ad, v) :: ka.drop (x + 1) := by rw [← hkv]; exact List.drop_eq_getElem_cons hlt'
      have hkey : knd.is s'.heap k ad := hia (k, ad, v) (List.mem_of_getElem? hg)
      rw [hdrop] at hpre
      show wpAny _ _ (holding [Value.ref ad, v] _ >>= _) _ _ _
      refine wpAny_bind (wpAny_holding (wpAny_bind (wpAny_dictFind_heap hu hkey hob hdb hkb hib hnb ?_ ?_)))
      · intro hno
        have hn : atKey kb k = none := atKey_none_of_get hno
        rcases hpre.inv with ⟨_, er⟩ | ⟨y, _, _, hy, _⟩
        · rw [er] at h'
          refine wpAny_pure ?_
          show wpAny _ _ (if (!false) = true then _ else _) _ _ _
          rw [if_pos (by decide)]
          exact wpAny_pure (wpAny_pure h')
        · rw [hn] at hy; exact nomatch hy
      · intro j p hj
        have hv' : atKey kb k = some p := atKey_of_get hnb hj
        refine wpAny_bind (wpAny_dictEntries hob hdb ?_)
        rw [entry_at hkb j, hj]
        rcases hpre.inv with ⟨hn, _⟩ | ⟨y, e, b', hy, he, hrr, er⟩
        · rw [hv'] at hn; exact nomatch hn
        · have ey : p = y := Option.some.inj (hv'.symm.trans hy)
          subst ey
          refine wpAny_holding (he _ _ ?_)
          cases e with
          | false =>
            rw [er, Bool.false_and] at h'
            show wpAny _ _ (if (!false) = true then _ else _) _ _ _
            rw [if_pos (by decide)]
            exact wpAny_pure (wpAny_pure h')
          | true =>
            rw [Bool.true_and] at er
            rw [← er] at hrr
            show wpAny _ _ (if (!true) = true then _ else _) _ _ _
            rw [if_neg (by decide)]
            refine wpAny_bind (wpAny_dictEpoch hoa hda ?_)
            rw [if_neg (by simp)]
            exact wpAny_pure ⟨rfl, rfl, x + 1, hrest, hlt, hrr rfl⟩
    · rintro q s' ⟨rfl, rfl, i, hr, hi, hpre⟩
      have hin : i = es.size := by
        rcases Nat.lt_or_ge i es.size with h | h
        · have e : es.size - i = (es.size - (i + 1)) + 1 := by omega
          rw [e, List.range'_succ] at hr; exact nomatch hr
        · exact Nat.le_antisymm hi h
      refine wpAny_pure ?_
      rw [hin, ← hla, List.drop_length] at hpre
      cases hpre
      exact h'
theorem rcP_dictsH {a b : Addr} {ka kb : List (K × Addr × Value)} {r : Bool} (hk : knd.room A.in1) (ha : (a == sysModules) = false) (hb : (b == sysModules) = false)
    (da : s.heap.DictOfH knd a ka) (db : s.heap.DictOfH knd b kb) (hu : A.units < cLine) (hits : ka.length = kb.length → HitsH prog w A.in1 s kb ka r) (E Q : Value → Shared → Prop) (h : Q (.bool (ka.length == kb.length && r)) s) : wpAny (model prog w) A (richCompare .Eq (.ref a) (.ref b)) Q E s := by
  refine wpAny_richCompare_same_room (op := .Eq) da.typeIs db.typeIs PySem.F.slot_dict_eq (wpAny_call_entry PySem.F.slot_dict_eq da.typeIs PySem.F.entry_dict_eq ?_ (PySem.F.args_dict_eq_2 _ _)) hu
  show wpAny _ _ (Builtin.Dict.dictSlotArgs "__eq__" ⟨[.ref a, .ref b], []⟩ >>= _) _ _ s
  refine wpAny_bind ?_
  unfold Builtin.Dict.dictSlotArgs
  refine wpAny_bind (wpAny_notOrdered_dict da.typeIs ?_)
  show wpAny _ _ (pure (Value.ref a, Value.ref b)) _ _ s
  refine wpAny_pure ?_
  refine wpAny_bind (wpAny_isInstance (T := "dict") db.typeIs PySem.F.sub_dict_dict ?_)
  simp only [Bool.not_true, Bool.false_eq_true, if_false]
  refine wpAny_bind (wpAny_pure (wpAny_bind (wpAny_pure ?_)))
  refine wpAny_bind (samePairsH hk ha hb da db hits ?_)
  refine wpAny_pure ⟨_, rfl, ?_, ?_⟩
  · exact fun x => nomatch x
  · simpa using h
end
end Pz
set_option Elab.async false
set_option linter.all false
set_option maxRecDepth 100000
set_option maxHeartbeats 4000000
namespace Pz
open PySem L2
section
variable {I : Type} [IOps I] {den : I → Int} {ca : Nat → Addr} {X : Cx} {pins : List (Addr × Obj)} {σ : L2.St} {H : Hp} {s : Shared} {r : Rho} {S : Sto I}
theorem icmp_eq (L : Lawful I den) {i j : I} {b : Bool} (h : IOps.cmp .eq i j = some b) : (den i == den j) = b := by
  have := L.cmp _ _ _ _ h
  rw [← this]
  show (den i == den j) = decide (den i = den j)
  exact Bool.beq_eq_decide_eq _ _
theorem lst_ob (m : SimX den X ca r S H) {a : Nat} {b : Addr} {xs : List (Val I)} (h : S.get a = some (.lst xs)) (q : r a = some b) : ∃ ys, H b = some (.lst ys) ∧ VRs den r H xs ys := by
  obtain ⟨c, z, o⟩ := m.ob _ _ h
  rw [q] at z; cases z
  exact o
theorem ins_ob (m : SimX den X ca r S H) {a : Nat} {b : Addr} {c : Nat} {fs : List (Str × Val I)} (h : S.get a = some (.ins c fs)) (q : r a = some b) : ∃ dx gs, H b = some (.ins (ca c) dx gs) ∧ Paired (FR den r H) fs gs := by
  obtain ⟨c, z, o⟩ := m.ob _ _ h
  rw [q] at z; cases z
  exact o
theorem eqL_same {f : Val I → Val I → Option Bool} (ih : ∀ x y z b, VR den r H x z → VR den r H y z → f x y = some b → b = true) : ∀ (xs ys : List (Val I)) (zs : List V) (b : Bool), VRs den r H xs zs → VRs den r H ys zs → eqL f xs ys = some b → b = true
  | [], [], _, b, _, _, e => by cases e; rfl
  | [], y :: ys, _, _, h1, h2, _ => by cases h1; cases h2
  | x :: xs, [], _, _, h1, h2, _ => by cases h1; cases h2
  | x :: xs, y :: ys, _, b, h1, h2, e => by
    cases h1 with
    | cons p1 q1 =>
      cases h2 with
      | cons p2 q2 =>
        unfold eqL at e
        split at e
        · rename_i a c e1 e2
          cases e
          rw [ih _ _ _ _ p1 p2 e1, eqL_same ih _ _ _ _ q1 q2 e2]
          rfl
        · cases e
theorem VR.inv_int {i : Int} {y : Val I} (h : VR den r H y (.int i)) : ∃ j, y = .int j ∧ den j = i := by
  generalize e : V.int i = z at h
  cases h with
  | int j => injection e with e; exact ⟨j, rfl, e.symm⟩
  | _ => cases e
theorem VR.inv_ref {a : Addr} {y : Val I} (h : VR den r H y (.ref a)) : (∃ xs ys, y = .tup xs ∧ H a = some (.tup ys) ∧ VRs den r H xs ys) ∨ ∃ b, y = .ref b ∧ r b = some a := by
  cases h with
  | tup h1 h2 => exact .inl ⟨_, _, rfl, h1, h2⟩
  | ref h => exact .inr ⟨_, rfl, h⟩
/-- one value, said twice -/
theorem eqF_same (L : Lawful I den) (m : SimX den X ca r S H) : ∀ (n : Nat) (x y : Val I) (z : V) (b : Bool), VR den r H x z → VR den r H y z → eqF n S x y = some b → b = true
  | 0, _, _, _, _, _, _, e => by cases e
  | n + 1, x, y, z, b, h1, h2, e => by
    have ih := eqF_same L m n
    cases h1 with
    | non => cases h2; cases e; rfl
    | bl k =>
      cases h2
      have e : some (k == k) = some b := e
      cases e; simp
    | int i =>
      obtain ⟨j, rfl, q⟩ := h2.inv_int
      have e : IOps.cmp .eq i j = some b := e
      have := icmp_eq L e
      rw [q] at this
      rw [← this]; simp
    | str k =>
      cases h2
      have e : some (sBeq k k) = some b := e
      cases e
      exact sBeq_iff.mpr rfl
    | tup g1 g2 =>
      rcases h2.inv_ref with ⟨xs, ys, rfl, g3, g4⟩ | ⟨c, rfl, q⟩
      · rw [g1] at g3
        cases g3
        exact eqL_same ih _ _ _ _ g2 g4 e
      · exact absurd g1 (m.nt _ _ _ q)
    | ref p =>
      rcases h2.inv_ref with ⟨xs, ys, rfl, g3, g4⟩ | ⟨c, rfl, q⟩
      · exact absurd g3 (m.nt _ _ _ p)
      · have := m.inj _ _ _ p q
        subst this
        rename_i a1 _
        have e : (match S.get a1, S.get a1 with
          | some (.lst xs), some (.lst ys) => match Nat.beq xs.length ys.length with
            | true => eqL (eqF n S) xs ys
            | false => some false
          | some (.ins _ _), some (.ins _ _) => match Nat.beq a1 a1 with
            | true => some true
            | false => none
          | _, _ => none) = some b := e
        cases q1 : S.get a1 with
        | none => rw [q1] at e; cases e
        | some o =>
          rw [q1] at e
          cases o with
          | lst xs =>
            obtain ⟨ys, o1, o2⟩ := lst_ob m q1 p
            simp only [Nat.beq_refl] at e
            exact eqL_same ih _ _ _ _ o2 o2 e
          | ins c fs =>
            simp only [Nat.beq_refl] at e
            cases e; rfl
          | fls xs => cases e
          | dic kvs lk => cases e
theorem eqL_len {f : Val I → Val I → Option Bool} : ∀ (xs ys : List (Val I)) (b : Bool), eqL f xs ys = some b → (∀ (j : Nat) (x y : Val I), xs[j]? = some x → ys[j]? = some y → ∃ c, f x y = some c) ∧
    b = ((List.range (min xs.length ys.length)).all (fun j => match xs[j]?, ys[j]? with | some x, some y => (f x y).getD true | _, _ => true) && xs.length == ys.length)
  | [], [], b, e => by cases e; exact ⟨fun j x y h => by simp at h, rfl⟩
  | [], y :: ys, b, e => by cases e; exact ⟨fun j x y h => by simp at h, by simp⟩
  | x :: xs, [], b, e => by cases e; exact ⟨fun j x y _ h => by simp at h, by simp⟩
  | x :: xs, y :: ys, b, e => by
    unfold eqL at e
    split at e
    · rename_i a c e1 e2
      cases e
      obtain ⟨g1, g2⟩ := eqL_len xs ys c e2
      refine ⟨fun j u v h1 h2 => ?_, ?_⟩
      · cases j with
        | zero =>
          simp at h1 h2
          subst h1 h2
          exact ⟨a, e1⟩
        | succ j => exact g1 j u v (by simpa using h1) (by simpa using h2)
      · rw [g2]
        have hm : min (x :: xs).length (y :: ys).length = min xs.length ys.length + 1 := by simp [Nat.succ_min_succ]
        rw [hm, List.range_succ_eq_map, List.all_cons, List.all_map]
        simp only [List.getElem?_cons_zero, e1, Option.getD_some, Function.comp_def, List.getElem?_cons_succ, List.length_cons]
        rw [Bool.and_assoc]
        congr 2
        simp
    · cases e
/-- the items of two sequences -/
theorem items_at {A : Around} {f : Val I → Val I → Option Bool} {xs ys : List (Val I)} {us ws : List V} {its its2 : List Value} (h1 : VRs den r H xs us) (h2 : VRs den r H ys ws) (r1 : Vals us its) (r2 : Vals ws its2)
    (hd : ∀ (j : Nat) (x y : Val I), xs[j]? = some x → ys[j]? = some y → ∃ c, f x y = some c)
    (ih : ∀ x y z z' v u b, VR den r H x z → VR den r H y z' → RelV z v → RelV z' u → f x y = some b → SeqAt.EqAt A s v u b) (j : Nat) (q1 : j < its.toArray.size) (q2 : j < its2.toArray.size) :
    SeqAt.EqAt A s its.toArray[j] its2.toArray[j] (match xs[j]?, ys[j]? with | some x, some y => (f x y).getD true | _, _ => true) := by
  have e1 := r1.length
  have e2 := r2.length
  have e3 := h1.length
  have e4 := h2.length
  simp only [List.size_toArray] at q1 q2
  obtain ⟨x, hx⟩ : ∃ x, xs[j]? = some x := ⟨_, List.getElem?_eq_getElem (by omega)⟩
  obtain ⟨y, hy⟩ : ∃ y, ys[j]? = some y := ⟨_, List.getElem?_eq_getElem (by omega)⟩
  obtain ⟨z, hz, vz⟩ := h1.get hx
  obtain ⟨z', hz', vz'⟩ := h2.get hy
  obtain ⟨v, hv, rv⟩ := r1.get hz
  obtain ⟨u, hu, ru⟩ := r2.get hz'
  obtain ⟨c, hc⟩ := hd j x y hx hy
  rw [hx, hy]
  show SeqAt.EqAt A s its.toArray[j] its2.toArray[j] ((f x y).getD true)
  rw [hc]
  have g1 : its[j] = v := by rw [List.getElem?_eq_getElem q1] at hv; exact Option.some.inj hv
  have g2 : its2[j] = u := by rw [List.getElem?_eq_getElem q2] at hu; exact Option.some.inj hu
  simp only [List.getElem_toArray, g1, g2]
  exact ih x y z z' v u c vz vz' rv ru hc
theorem isTup_of (I0 : L2.Inv X pins σ H s) {a : Addr} {ys : List V} (h : H a = some (.tup ys)) : ∃ its : List Value, Vals ys its ∧ s.heap.IsTuple a its.toArray := by
  obtain ⟨its, rv, p, _⟩ := I0.tuple (SqT.of h)
  exact ⟨its, rv, p⟩
theorem isLst_of (I0 : L2.Inv X pins σ H s) {a : Addr} {ys : List V} (h : H a = some (.lst ys)) : ∃ its : List Value, Vals ys its ∧ s.heap.IsList a its.toArray := by
  obtain ⟨its, rv, p, _⟩ := I0.list (SqL.of h)
  exact ⟨its, rv, p.isList⟩
set_option maxHeartbeats 8000000 in
theorem eq_run (I0 : L2.Inv X pins σ H s) (L : Lawful I den) (m : SimX den X ca r S H) : ∀ (n : Nat) (A : Around), A.units + n < cLine → ∀ (x y : Val I) (z z' : V) (v u : Value) (b : Bool),
    VR den r H x z → VR den r H y z' → RelV z v → RelV z' u → eqF n S x y = some b → SeqAt.EqAt A s v u b
  | 0, _, _, _, _, _, _, _, _, _, _, _, _, _, e => by cases e
  | n + 1, A, hu, x, y, z, z', v, u, b, h1, h2, r1, r2, e => by
    have ih := eq_run I0 L m n A.in1 (by show A.units + 1 + n < cLine; omega)
    have same := fun (q : z = z') => eqF_same L m (n + 1) x y z b h1 (q ▸ h2) e
    have hA : A.units < cLine := by omega
    cases h1 with
    | non =>
      cases r1
      cases h2 with
      | non => cases r2; cases e; exact .same _
      | bl k => cases r2; cases e; exact .none_bool _
      | int i => obtain ⟨t, rfl⟩ := r2; cases e; exact .none_int _ _
      | str i => obtain ⟨t, rfl⟩ := r2; cases e; exact .none_str _ _
      | tup g1 g2 => cases r2; cases e; obtain ⟨its, _, p⟩ := isTup_of I0 g1; exact .none_tuple p hA
      | ref q =>
        cases r2
        rename_i a1 _
        cases q1 : S.get a1 with
        | none => unfold eqF at e; simp only [q1] at e; cases e
        | some o =>
          unfold eqF at e
          cases o <;> simp only [q1] at e <;> try (cases e; done)
          obtain ⟨ys, o1, o2⟩ := lst_ob m q1 q
          obtain ⟨its, _, p⟩ := isLst_of I0 o1
          cases e; exact .none_list p hA
    | bl k =>
      cases r1
      cases h2 with
      | non => cases r2; cases e; exact .bool_none _
      | bl k' => cases r2; have e : some (k == k') = some b := e; cases e; exact .bool_bool _ _
      | int i =>
        obtain ⟨t, rfl⟩ := r2
        have e : IOps.cmp .eq (IOps.lit (if k then 1 else 0)) i = some b := e
        rw [← icmp_eq L e, L.lit]; exact .bool_int _ _ _
      | str i => obtain ⟨t, rfl⟩ := r2; cases e; exact .bool_str _ _ _
      | tup g1 g2 => cases r2; cases e; obtain ⟨its, _, p⟩ := isTup_of I0 g1; exact .bool_tuple _ p hA
      | ref q =>
        cases r2
        rename_i a1 _
        cases q1 : S.get a1 with
        | none => unfold eqF at e; simp only [q1] at e; cases e
        | some o =>
          unfold eqF at e
          cases o <;> simp only [q1] at e <;> try (cases e; done)
          obtain ⟨ys, o1, o2⟩ := lst_ob m q1 q
          obtain ⟨its, _, p⟩ := isLst_of I0 o1
          cases e; exact .bool_list _ p hA
    | int k =>
      obtain ⟨t0, rfl⟩ := r1
      cases h2 with
      | non => cases r2; cases e; exact .int_none _ _
      | bl k' =>
        cases r2
        have e : IOps.cmp .eq k (IOps.lit (if k' then 1 else 0)) = some b := e
        rw [← icmp_eq L e, L.lit]; exact .int_bool _ _ _
      | int i =>
        obtain ⟨t, rfl⟩ := r2
        have e : IOps.cmp .eq k i = some b := e
        rw [← icmp_eq L e]; exact .int_int _ _ _ _
      | str i => obtain ⟨t, rfl⟩ := r2; cases e; exact .int_str _ _ _ _
      | tup g1 g2 => cases r2; cases e; obtain ⟨its, _, p⟩ := isTup_of I0 g1; exact .int_tuple _ _ p hA
      | ref q =>
        cases r2
        rename_i a1 _
        cases q1 : S.get a1 with
        | none => unfold eqF at e; simp only [q1] at e; cases e
        | some o =>
          unfold eqF at e
          cases o <;> simp only [q1] at e <;> try (cases e; done)
          obtain ⟨ys, o1, o2⟩ := lst_ob m q1 q
          obtain ⟨its, _, p⟩ := isLst_of I0 o1
          cases e; exact .int_list _ _ p hA
    | str k =>
      obtain ⟨t0, rfl⟩ := r1
      cases h2 with
      | non => cases r2; cases e; exact .str_none _ _
      | bl k' => cases r2; cases e; exact .str_bool _ _ _
      | int i => obtain ⟨t, rfl⟩ := r2; cases e; exact .str_int _ _ _ _
      | str i =>
        obtain ⟨t, rfl⟩ := r2
        have e : some (sBeq k i) = some b := e
        cases e
        have : sBeq k i = (k == i) := by
          rw [Bool.eq_iff_iff, sBeq_iff, beq_iff_eq]
        rw [this]; exact .str_str _ _ _ _
      | tup g1 g2 => cases r2; cases e; obtain ⟨its, _, p⟩ := isTup_of I0 g1; exact .str_tuple _ _ p hA
      | ref q =>
        cases r2
        rename_i a1 _
        cases q1 : S.get a1 with
        | none => unfold eqF at e; simp only [q1] at e; cases e
        | some o =>
          unfold eqF at e
          cases o <;> simp only [q1] at e <;> try (cases e; done)
          obtain ⟨ys, o1, o2⟩ := lst_ob m q1 q
          obtain ⟨its, _, p⟩ := isLst_of I0 o1
          cases e; exact .str_list _ _ p hA
    | tup g1 g2 =>
      cases r1
      obtain ⟨its, rv, p⟩ := isTup_of I0 g1
      cases h2 with
      | non => cases r2; cases e; exact .tuple_none p hA
      | bl k' => cases r2; cases e; exact .tuple_bool _ p hA
      | int i => obtain ⟨t, rfl⟩ := r2; cases e; exact .tuple_int _ _ p hA
      | str i => obtain ⟨t, rfl⟩ := r2; cases e; exact .tuple_str _ _ p hA
      | tup g3 g4 =>
        cases r2
        rename_i xs a ys xs' a' ys'
        by_cases ne : a = a'
        · subst ne
          rw [same rfl]; exact .same _
        · obtain ⟨its2, rv2, p2⟩ := isTup_of I0 g3
          obtain ⟨hd, hb⟩ := eqL_len _ _ _ (show eqL (eqF n S) xs xs' = some b from e)
          rw [hb]
          have := SeqAt.EqAt.of_refs ne (SeqAt.RcAt.tuples p p2 hA (items_at g2 g4 rv rv2 hd ih))
          have l1 : its.toArray.size = xs.length := by rw [List.size_toArray, ← rv.length, g2.length]
          have l2 : its2.toArray.size = xs'.length := by rw [List.size_toArray, ← rv2.length, g4.length]
          rw [l1, l2] at this
          exact this
      | ref q =>
        cases r2
        rename_i a1 _
        cases q1 : S.get a1 with
        | none => unfold eqF at e; simp only [q1] at e; cases e
        | some o =>
          unfold eqF at e
          cases o <;> simp only [q1] at e <;> try (cases e; done)
          obtain ⟨ys, o1, o2⟩ := lst_ob m q1 q
          obtain ⟨its2, _, p2⟩ := isLst_of I0 o1
          cases e; exact .tuple_list p p2 hA
    | ref q0 =>
      cases r1
      rename_i a0 b0
      cases q0' : S.get a0 with
      | none => unfold eqF at e; cases h2 <;> simp only [q0'] at e <;> cases e
      | some o0 =>
        cases o0 with
        | lst xs =>
          obtain ⟨ws, o1, o2⟩ := lst_ob m q0' q0
          obtain ⟨its, rv, p⟩ := isLst_of I0 o1
          cases h2 with
          | non => cases r2; unfold eqF at e; simp only [q0'] at e; cases e; exact .list_none p hA
          | bl k' => cases r2; unfold eqF at e; simp only [q0'] at e; cases e; exact .list_bool _ p hA
          | int i => obtain ⟨t, rfl⟩ := r2; unfold eqF at e; simp only [q0'] at e; cases e; exact .list_int _ _ p hA
          | str i => obtain ⟨t, rfl⟩ := r2; unfold eqF at e; simp only [q0'] at e; cases e; exact .list_str _ _ p hA
          | tup g1 g2 => cases r2; unfold eqF at e; simp only [q0'] at e; cases e; obtain ⟨its2, _, p2⟩ := isTup_of I0 g1; exact .list_tuple p p2 hA
          | ref q =>
            cases r2
            rename_i a1 b1
            by_cases ne : b0 = b1
            · subst ne
              rw [same rfl]; exact .same _
            · unfold eqF at e
              cases q1 : S.get a1 with
              | none => simp only [q0', q1] at e; cases e
              | some o =>
                cases o <;> simp only [q0', q1] at e <;> try (cases e; done)
                rename_i ys
                obtain ⟨ws2, o3, o4⟩ := lst_ob m q1 q
                obtain ⟨its2, rv2, p2⟩ := isLst_of I0 o3
                have l1 : its.toArray.size = xs.length := by rw [List.size_toArray, ← rv.length, o2.length]
                have l2 : its2.toArray.size = ys.length := by rw [List.size_toArray, ← rv2.length, o4.length]
                split at e
                · rename_i hl
                  have hl := Nat.eq_of_beq_eq_true hl
                  obtain ⟨hd, hb⟩ := eqL_len _ _ _ e
                  have := SeqAt.EqAt.of_refs ne (SeqAt.RcAt.lists p p2 (by rw [l1, l2]; exact hl) hA (items_at o2 o4 rv rv2 hd ih))
                  rw [l1] at this
                  rw [hb, ← hl, Nat.min_self, beq_self_eq_true, Bool.and_true]
                  exact this
                · rename_i hl
                  cases e
                  refine .of_refs ne (.lists_lengths p p2 ?_ hA)
                  rw [l1, l2]
                  rw [bne_iff_ne]
                  intro z
                  rw [z, Nat.beq_refl] at hl
                  cases hl
        | ins c fs =>
          cases h2 with
          | ref q =>
            cases r2
            rename_i a1 b1
            unfold eqF at e
            cases q1 : S.get a1 with
            | none => simp only [q0', q1] at e; cases e
            | some o =>
              cases o <;> simp only [q0', q1] at e <;> try (cases e; done)
              split at e
              · rename_i hb
                have hb := Nat.eq_of_beq_eq_true hb
                subst hb
                rw [q0] at q
                cases q
                cases e
                exact .same _
              · cases e
          | _ => unfold eqF at e; simp only [q0'] at e; cases e
        | fls xs => unfold eqF at e; cases h2 <;> simp only [q0'] at e <;> try (cases e; done)
        | dic kvs lk => unfold eqF at e; cases h2 <;> simp only [q0'] at e <;> try (cases e; done)
end
end Pz
set_option Elab.async false
set_option linter.all false
set_option maxRecDepth 100000
set_option maxHeartbeats 4000000
namespace Pz
open PySem L2
section
variable {I : Type} [IOps I] {den : I → Int} {ca : Nat → Addr} {X : Cx} {pins : List (Addr × Obj)} {σ : L2.St} {H : Hp} {s : Shared} {r : Rho} {S : Sto I}
set_option maxHeartbeats 8000000 in
theorem rcEq_run (I0 : L2.Inv X pins σ H s) (L : Lawful I den) (m : SimX den X ca r S H) {A : Around} (hu : A.units + 50 < cLine) {x y : Val I} {z z' : V} {v u : Value} {b : Bool}
    (h1 : VR den r H x z) (h2 : VR den r H y z') (r1 : RelV z v) (r2 : RelV z' u) (e : eqV S x y = some b) (nd : ∀ a c kvs lk, x = .ref a → y = .ref c → S.get a ≠ some (.dic kvs lk)) : SeqAt.RcAt A s v u (b) := by
  have ih := eq_run I0 L m 40 A.in1 (by show A.units + 1 + 40 < cLine; omega)
  have hA : A.units < cLine := by omega
  cases h1 with
  | non =>
    cases r1
    cases h2 with
    | non =>
      cases r2
      cases e; exact .none_none
    | bl k1 =>
      cases r2
      cases e; exact .none_bool _
    | int k1 =>
      obtain ⟨t1, rfl⟩ := r2
      cases e; exact .none_int _ _
    | str k1 =>
      obtain ⟨t1, rfl⟩ := r2
      cases e; exact .none_str _ _
    | tup g1 g2 => cases r2; cases e; obtain ⟨its, _, p⟩ := isTup_of I0 g1; exact .none_tuple p hA
    | ref q =>
      cases r2
      rename_i a1 _
      have e : (match S.get a1 with | some (.lst _) => some false | _ => none) = some b := e
      cases q1 : S.get a1 with
      | none => rw [q1] at e; cases e
      | some o =>
        rw [q1] at e
        cases o <;> try (cases e; done)
        obtain ⟨ys, o1, o2⟩ := lst_ob m q1 q
        obtain ⟨its, _, p⟩ := isLst_of I0 o1
        cases e; exact .none_list p hA
  | bl k0 =>
    cases r1
    cases h2 with
    | non =>
      cases r2
      cases e; exact .bool_none _
    | bl k1 =>
      cases r2
      have e : some (k0 == k1) = some b := e
      cases e; exact .bool_bool _ _
    | int k1 =>
      obtain ⟨t1, rfl⟩ := r2
      have e : IOps.cmp .eq (IOps.lit (if k0 then 1 else 0)) k1 = some b := e
      rw [← icmp_eq L e, L.lit]; exact .bool_int _ _ _
    | str k1 =>
      obtain ⟨t1, rfl⟩ := r2
      cases e; exact .bool_str _ _ _
    | tup g1 g2 => cases r2; cases e; obtain ⟨its, _, p⟩ := isTup_of I0 g1; exact .bool_tuple _ p hA
    | ref q =>
      cases r2
      rename_i a1 _
      have e : (match S.get a1 with | some (.lst _) => some false | _ => none) = some b := e
      cases q1 : S.get a1 with
      | none => rw [q1] at e; cases e
      | some o =>
        rw [q1] at e
        cases o <;> try (cases e; done)
        obtain ⟨ys, o1, o2⟩ := lst_ob m q1 q
        obtain ⟨its, _, p⟩ := isLst_of I0 o1
        cases e; exact .bool_list _ p hA
  | int k0 =>
    obtain ⟨t0, rfl⟩ := r1
    cases h2 with
    | non =>
      cases r2
      cases e; exact .int_none _ _
    | bl k1 =>
      cases r2
      have e : IOps.cmp .eq k0 (IOps.lit (if k1 then 1 else 0)) = some b := e
      rw [← icmp_eq L e, L.lit]; exact .int_bool _ _ _
    | int k1 =>
      obtain ⟨t1, rfl⟩ := r2
      have e : IOps.cmp .eq k0 k1 = some b := e
      rw [← icmp_eq L e]; exact .int_int _ _ _ _
    | str k1 =>
      obtain ⟨t1, rfl⟩ := r2
      cases e; exact .int_str _ _ _ _
    | tup g1 g2 => cases r2; cases e; obtain ⟨its, _, p⟩ := isTup_of I0 g1; exact .int_tuple _ _ p hA
    | ref q =>
      cases r2
      rename_i a1 _
      have e : (match S.get a1 with | some (.lst _) => some false | _ => none) = some b := e
      cases q1 : S.get a1 with
      | none => rw [q1] at e; cases e
      | some o =>
        rw [q1] at e
        cases o <;> try (cases e; done)
        obtain ⟨ys, o1, o2⟩ := lst_ob m q1 q
        obtain ⟨its, _, p⟩ := isLst_of I0 o1
        cases e; exact .int_list _ _ p hA
  | str k0 =>
    obtain ⟨t0, rfl⟩ := r1
    cases h2 with
    | non =>
      cases r2
      cases e; exact .str_none _ _
    | bl k1 =>
      cases r2
      cases e; exact .str_bool _ _ _
    | int k1 =>
      obtain ⟨t1, rfl⟩ := r2
      cases e; exact .str_int _ _ _ _
    | str k1 =>
      obtain ⟨t1, rfl⟩ := r2
      have e : some (sBeq k0 k1) = some b := e
      cases e
      have q : sBeq k0 k1 = (k0 == k1) := by rw [Bool.eq_iff_iff, sBeq_iff, beq_iff_eq]
      rw [q]; exact .str_str _ _ _ _
    | tup g1 g2 => cases r2; cases e; obtain ⟨its, _, p⟩ := isTup_of I0 g1; exact .str_tuple _ _ p hA
    | ref q =>
      cases r2
      rename_i a1 _
      have e : (match S.get a1 with | some (.lst _) => some false | _ => none) = some b := e
      cases q1 : S.get a1 with
      | none => rw [q1] at e; cases e
      | some o =>
        rw [q1] at e
        cases o <;> try (cases e; done)
        obtain ⟨ys, o1, o2⟩ := lst_ob m q1 q
        obtain ⟨its, _, p⟩ := isLst_of I0 o1
        cases e; exact .str_list _ _ p hA
  | tup g1 g2 =>
    cases r1
    obtain ⟨its, rv, p⟩ := isTup_of I0 g1
    cases h2 with
    | non => cases r2; cases e; exact .tuple_none p hA
    | bl k' => cases r2; cases e; exact .tuple_bool _ p hA
    | int i => obtain ⟨t, rfl⟩ := r2; cases e; exact .tuple_int _ _ p hA
    | str i => obtain ⟨t, rfl⟩ := r2; cases e; exact .tuple_str _ _ p hA
    | tup g3 g4 =>
      cases r2
      rename_i xs a ys xs' a' ys'
      obtain ⟨its2, rv2, p2⟩ := isTup_of I0 g3
      obtain ⟨hd, hb⟩ := eqL_len _ _ _ (show eqL (eqF 40 S) xs xs' = some b from e)
      rw [hb]
      have := SeqAt.RcAt.tuples p p2 hA (items_at g2 g4 rv rv2 hd ih)
      have l1 : its.toArray.size = xs.length := by rw [List.size_toArray, ← rv.length, g2.length]
      have l2 : its2.toArray.size = xs'.length := by rw [List.size_toArray, ← rv2.length, g4.length]
      rw [l1, l2] at this
      exact this
    | ref q =>
      cases r2
      rename_i a1 _
      have e : (match S.get a1 with | some (.lst _) => some false | _ => none) = some b := e
      cases q1 : S.get a1 with
      | none => rw [q1] at e; cases e
      | some o =>
        rw [q1] at e
        cases o <;> try (cases e; done)
        obtain ⟨ys, o1, o2⟩ := lst_ob m q1 q
        obtain ⟨its2, _, p2⟩ := isLst_of I0 o1
        cases e; exact .tuple_list p p2 hA
  | ref q0 =>
    cases r1
    rename_i a0 b0
    cases h2 with
    | ref q =>
      cases r2
      rename_i a1 b1
      cases q0' : S.get a0 with
      | none => unfold eqV at e; simp only [q0'] at e; cases e
      | some o0 =>
        cases q1 : S.get a1 with
        | none => unfold eqV at e; cases o0 <;> simp only [q0', q1] at e <;> cases e
        | some o =>
          unfold eqV at e
          cases o0 <;> cases o <;> simp only [q0', q1] at e <;> try (cases e; done)
          · rename_i xs ys
            obtain ⟨ws, o1, o2⟩ := lst_ob m q0' q0
            obtain ⟨its, rv, p⟩ := isLst_of I0 o1
            obtain ⟨ws2, o3, o4⟩ := lst_ob m q1 q
            obtain ⟨its2, rv2, p2⟩ := isLst_of I0 o3
            have l1 : its.toArray.size = xs.length := by rw [List.size_toArray, ← rv.length, o2.length]
            have l2 : its2.toArray.size = ys.length := by rw [List.size_toArray, ← rv2.length, o4.length]
            split at e
            · rename_i hl
              have hl := Nat.eq_of_beq_eq_true hl
              obtain ⟨hd, hb⟩ := eqL_len _ _ _ e
              have := SeqAt.RcAt.lists p p2 (by rw [l1, l2]; exact hl) hA (items_at o2 o4 rv rv2 hd ih)
              rw [l1] at this
              rw [hb, ← hl, Nat.min_self, beq_self_eq_true, Bool.and_true]
              exact this
            · rename_i hl
              cases e
              refine .lists_lengths p p2 ?_ hA
              rw [l1, l2]
              rw [bne_iff_ne]
              intro z
              rw [z, Nat.beq_refl] at hl
              cases hl
          · exact absurd q0' (nd _ _ _ _ rfl rfl)
    | non =>
      cases r2
      have e : (match S.get a0 with | some (.lst _) => some false | _ => none) = some b := e
      cases q1 : S.get a0 with
      | none => rw [q1] at e; cases e
      | some o =>
        rw [q1] at e
        cases o <;> try (cases e; done)
        obtain ⟨ys, o1, o2⟩ := lst_ob m q1 q0
        obtain ⟨its, _, p⟩ := isLst_of I0 o1
        cases e; exact .list_none p hA
    | bl k' =>
      cases r2
      have e : (match S.get a0 with | some (.lst _) => some false | _ => none) = some b := e
      cases q1 : S.get a0 with
      | none => rw [q1] at e; cases e
      | some o =>
        rw [q1] at e
        cases o <;> try (cases e; done)
        obtain ⟨ys, o1, o2⟩ := lst_ob m q1 q0
        obtain ⟨its, _, p⟩ := isLst_of I0 o1
        cases e; exact .list_bool _ p hA
    | int i =>
      obtain ⟨t, rfl⟩ := r2
      have e : (match S.get a0 with | some (.lst _) => some false | _ => none) = some b := e
      cases q1 : S.get a0 with
      | none => rw [q1] at e; cases e
      | some o =>
        rw [q1] at e
        cases o <;> try (cases e; done)
        obtain ⟨ys, o1, o2⟩ := lst_ob m q1 q0
        obtain ⟨its, _, p⟩ := isLst_of I0 o1
        cases e; exact .list_int _ _ p hA
    | str i =>
      obtain ⟨t, rfl⟩ := r2
      have e : (match S.get a0 with | some (.lst _) => some false | _ => none) = some b := e
      cases q1 : S.get a0 with
      | none => rw [q1] at e; cases e
      | some o =>
        rw [q1] at e
        cases o <;> try (cases e; done)
        obtain ⟨ys, o1, o2⟩ := lst_ob m q1 q0
        obtain ⟨its, _, p⟩ := isLst_of I0 o1
        cases e; exact .list_str _ _ p hA
    | tup g1 g2 =>
      cases r2; obtain ⟨its2, _, p2⟩ := isTup_of I0 g1
      have e : (match S.get a0 with | some (.lst _) => some false | _ => none) = some b := e
      cases q1 : S.get a0 with
      | none => rw [q1] at e; cases e
      | some o =>
        rw [q1] at e
        cases o <;> try (cases e; done)
        obtain ⟨ys, o1, o2⟩ := lst_ob m q1 q0
        obtain ⟨its, _, p⟩ := isLst_of I0 o1
        cases e; exact .list_tuple p p2 hA
set_option maxHeartbeats 8000000 in
theorem rcNe_run (I0 : L2.Inv X pins σ H s) (L : Lawful I den) (m : SimX den X ca r S H) {A : Around} (hu : A.units + 50 < cLine) {x y : Val I} {z z' : V} {v u : Value} {b : Bool}
    (h1 : VR den r H x z) (h2 : VR den r H y z') (r1 : RelV z v) (r2 : RelV z' u) (e : eqV S x y = some b) (nd : ∀ a c kvs lk, x = .ref a → y = .ref c → S.get a ≠ some (.dic kvs lk)) : SeqAt.RcNeAt A s v u (!b) := by
  have ih := eq_run I0 L m 40 A.in1 (by show A.units + 1 + 40 < cLine; omega)
  have hA : A.units < cLine := by omega
  cases h1 with
  | non =>
    cases r1
    cases h2 with
    | non =>
      cases r2
      cases e; exact .none_none
    | bl k1 =>
      cases r2
      cases e; exact .none_bool _
    | int k1 =>
      obtain ⟨t1, rfl⟩ := r2
      cases e; exact .none_int _ _
    | str k1 =>
      obtain ⟨t1, rfl⟩ := r2
      cases e; exact .none_str _ _
    | tup g1 g2 => cases r2; cases e; obtain ⟨its, _, p⟩ := isTup_of I0 g1; exact .none_tuple p hA
    | ref q =>
      cases r2
      rename_i a1 _
      have e : (match S.get a1 with | some (.lst _) => some false | _ => none) = some b := e
      cases q1 : S.get a1 with
      | none => rw [q1] at e; cases e
      | some o =>
        rw [q1] at e
        cases o <;> try (cases e; done)
        obtain ⟨ys, o1, o2⟩ := lst_ob m q1 q
        obtain ⟨its, _, p⟩ := isLst_of I0 o1
        cases e; exact .none_list p hA
  | bl k0 =>
    cases r1
    cases h2 with
    | non =>
      cases r2
      cases e; exact .bool_none _
    | bl k1 =>
      cases r2
      have e : some (k0 == k1) = some b := e
      cases e; exact .bool_bool _ _
    | int k1 =>
      obtain ⟨t1, rfl⟩ := r2
      have e : IOps.cmp .eq (IOps.lit (if k0 then 1 else 0)) k1 = some b := e
      rw [← icmp_eq L e, L.lit]; exact .bool_int _ _ _
    | str k1 =>
      obtain ⟨t1, rfl⟩ := r2
      cases e; exact .bool_str _ _ _
    | tup g1 g2 => cases r2; cases e; obtain ⟨its, _, p⟩ := isTup_of I0 g1; exact .bool_tuple _ p hA
    | ref q =>
      cases r2
      rename_i a1 _
      have e : (match S.get a1 with | some (.lst _) => some false | _ => none) = some b := e
      cases q1 : S.get a1 with
      | none => rw [q1] at e; cases e
      | some o =>
        rw [q1] at e
        cases o <;> try (cases e; done)
        obtain ⟨ys, o1, o2⟩ := lst_ob m q1 q
        obtain ⟨its, _, p⟩ := isLst_of I0 o1
        cases e; exact .bool_list _ p hA
  | int k0 =>
    obtain ⟨t0, rfl⟩ := r1
    cases h2 with
    | non =>
      cases r2
      cases e; exact .int_none _ _
    | bl k1 =>
      cases r2
      have e : IOps.cmp .eq k0 (IOps.lit (if k1 then 1 else 0)) = some b := e
      rw [← icmp_eq L e, L.lit]; exact .int_bool _ _ _
    | int k1 =>
      obtain ⟨t1, rfl⟩ := r2
      have e : IOps.cmp .eq k0 k1 = some b := e
      rw [← icmp_eq L e]; exact .int_int _ _ _ _
    | str k1 =>
      obtain ⟨t1, rfl⟩ := r2
      cases e; exact .int_str _ _ _ _
    | tup g1 g2 => cases r2; cases e; obtain ⟨its, _, p⟩ := isTup_of I0 g1; exact .int_tuple _ _ p hA
    | ref q =>
      cases r2
      rename_i a1 _
      have e : (match S.get a1 with | some (.lst _) => some false | _ => none) = some b := e
      cases q1 : S.get a1 with
      | none => rw [q1] at e; cases e
      | some o =>
        rw [q1] at e
        cases o <;> try (cases e; done)
        obtain ⟨ys, o1, o2⟩ := lst_ob m q1 q
        obtain ⟨its, _, p⟩ := isLst_of I0 o1
        cases e; exact .int_list _ _ p hA
  | str k0 =>
    obtain ⟨t0, rfl⟩ := r1
    cases h2 with
    | non =>
      cases r2
      cases e; exact .str_none _ _
    | bl k1 =>
      cases r2
      cases e; exact .str_bool _ _ _
    | int k1 =>
      obtain ⟨t1, rfl⟩ := r2
      cases e; exact .str_int _ _ _ _
    | str k1 =>
      obtain ⟨t1, rfl⟩ := r2
      have e : some (sBeq k0 k1) = some b := e
      cases e
      have q : sBeq k0 k1 = (k0 == k1) := by rw [Bool.eq_iff_iff, sBeq_iff, beq_iff_eq]
      rw [q]; exact .str_str _ _ _ _
    | tup g1 g2 => cases r2; cases e; obtain ⟨its, _, p⟩ := isTup_of I0 g1; exact .str_tuple _ _ p hA
    | ref q =>
      cases r2
      rename_i a1 _
      have e : (match S.get a1 with | some (.lst _) => some false | _ => none) = some b := e
      cases q1 : S.get a1 with
      | none => rw [q1] at e; cases e
      | some o =>
        rw [q1] at e
        cases o <;> try (cases e; done)
        obtain ⟨ys, o1, o2⟩ := lst_ob m q1 q
        obtain ⟨its, _, p⟩ := isLst_of I0 o1
        cases e; exact .str_list _ _ p hA
  | tup g1 g2 =>
    cases r1
    obtain ⟨its, rv, p⟩ := isTup_of I0 g1
    cases h2 with
    | non => cases r2; cases e; exact .tuple_none p hA
    | bl k' => cases r2; cases e; exact .tuple_bool _ p hA
    | int i => obtain ⟨t, rfl⟩ := r2; cases e; exact .tuple_int _ _ p hA
    | str i => obtain ⟨t, rfl⟩ := r2; cases e; exact .tuple_str _ _ p hA
    | tup g3 g4 =>
      cases r2
      rename_i xs a ys xs' a' ys'
      obtain ⟨its2, rv2, p2⟩ := isTup_of I0 g3
      obtain ⟨hd, hb⟩ := eqL_len _ _ _ (show eqL (eqF 40 S) xs xs' = some b from e)
      rw [hb]
      have := SeqAt.RcNeAt.tuples p p2 hA (items_at g2 g4 rv rv2 hd ih)
      have l1 : its.toArray.size = xs.length := by rw [List.size_toArray, ← rv.length, g2.length]
      have l2 : its2.toArray.size = xs'.length := by rw [List.size_toArray, ← rv2.length, g4.length]
      rw [l1, l2] at this
      exact this
    | ref q =>
      cases r2
      rename_i a1 _
      have e : (match S.get a1 with | some (.lst _) => some false | _ => none) = some b := e
      cases q1 : S.get a1 with
      | none => rw [q1] at e; cases e
      | some o =>
        rw [q1] at e
        cases o <;> try (cases e; done)
        obtain ⟨ys, o1, o2⟩ := lst_ob m q1 q
        obtain ⟨its2, _, p2⟩ := isLst_of I0 o1
        cases e; exact .tuple_list p p2 hA
  | ref q0 =>
    cases r1
    rename_i a0 b0
    cases h2 with
    | ref q =>
      cases r2
      rename_i a1 b1
      cases q0' : S.get a0 with
      | none => unfold eqV at e; simp only [q0'] at e; cases e
      | some o0 =>
        cases q1 : S.get a1 with
        | none => unfold eqV at e; cases o0 <;> simp only [q0', q1] at e <;> cases e
        | some o =>
          unfold eqV at e
          cases o0 <;> cases o <;> simp only [q0', q1] at e <;> try (cases e; done)
          · rename_i xs ys
            obtain ⟨ws, o1, o2⟩ := lst_ob m q0' q0
            obtain ⟨its, rv, p⟩ := isLst_of I0 o1
            obtain ⟨ws2, o3, o4⟩ := lst_ob m q1 q
            obtain ⟨its2, rv2, p2⟩ := isLst_of I0 o3
            have l1 : its.toArray.size = xs.length := by rw [List.size_toArray, ← rv.length, o2.length]
            have l2 : its2.toArray.size = ys.length := by rw [List.size_toArray, ← rv2.length, o4.length]
            split at e
            · rename_i hl
              have hl := Nat.eq_of_beq_eq_true hl
              obtain ⟨hd, hb⟩ := eqL_len _ _ _ e
              have := SeqAt.RcNeAt.lists p p2 (by rw [l1, l2]; exact hl) hA (items_at o2 o4 rv rv2 hd ih)
              rw [l1] at this
              rw [hb, ← hl, Nat.min_self, beq_self_eq_true, Bool.and_true]
              exact this
            · rename_i hl
              cases e
              refine .lists_lengths p p2 ?_ hA
              rw [l1, l2]
              rw [bne_iff_ne]
              intro z
              rw [z, Nat.beq_refl] at hl
              cases hl
          · exact absurd q0' (nd _ _ _ _ rfl rfl)
    | non =>
      cases r2
      have e : (match S.get a0 with | some (.lst _) => some false | _ => none) = some b := e
      cases q1 : S.get a0 with
      | none => rw [q1] at e; cases e
      | some o =>
        rw [q1] at e
        cases o <;> try (cases e; done)
        obtain ⟨ys, o1, o2⟩ := lst_ob m q1 q0
        obtain ⟨its, _, p⟩ := isLst_of I0 o1
        cases e; exact .list_none p hA
    | bl k' =>
      cases r2
      have e : (match S.get a0 with | some (.lst _) => some false | _ => none) = some b := e
      cases q1 : S.get a0 with
      | none => rw [q1] at e; cases e
      | some o =>
        rw [q1] at e
        cases o <;> try (cases e; done)
        obtain ⟨ys, o1, o2⟩ := lst_ob m q1 q0
        obtain ⟨its, _, p⟩ := isLst_of I0 o1
        cases e; exact .list_bool _ p hA
    | int i =>
      obtain ⟨t, rfl⟩ := r2
      have e : (match S.get a0 with | some (.lst _) => some false | _ => none) = some b := e
      cases q1 : S.get a0 with
      | none => rw [q1] at e; cases e
      | some o =>
        rw [q1] at e
        cases o <;> try (cases e; done)
        obtain ⟨ys, o1, o2⟩ := lst_ob m q1 q0
        obtain ⟨its, _, p⟩ := isLst_of I0 o1
        cases e; exact .list_int _ _ p hA
    | str i =>
      obtain ⟨t, rfl⟩ := r2
      have e : (match S.get a0 with | some (.lst _) => some false | _ => none) = some b := e
      cases q1 : S.get a0 with
      | none => rw [q1] at e; cases e
      | some o =>
        rw [q1] at e
        cases o <;> try (cases e; done)
        obtain ⟨ys, o1, o2⟩ := lst_ob m q1 q0
        obtain ⟨its, _, p⟩ := isLst_of I0 o1
        cases e; exact .list_str _ _ p hA
    | tup g1 g2 =>
      cases r2; obtain ⟨its2, _, p2⟩ := isTup_of I0 g1
      have e : (match S.get a0 with | some (.lst _) => some false | _ => none) = some b := e
      cases q1 : S.get a0 with
      | none => rw [q1] at e; cases e
      | some o =>
        rw [q1] at e
        cases o <;> try (cases e; done)
        obtain ⟨ys, o1, o2⟩ := lst_ob m q1 q0
        obtain ⟨its, _, p⟩ := isLst_of I0 o1
        cases e; exact .list_tuple p p2 hA
end
end Pz
set_option Elab.async false
set_option linter.all false
set_option maxRecDepth 100000
set_option maxHeartbeats 4000000
namespace Pz
open PySem L2
section
variable {I : Type} [IOps I] {den : I → Int}
mutual
theorem kBeq_nk (L : Lawful I den) : ∀ (x y : Val I) (b : Bool), kBeq x y = some b → (b = true ↔ toNK den x = toNK den y)
  | .int i, .int j, b, e => by
    have e : IOps.cmp .eq i j = some b := e
    rw [← icmp_eq L e, beq_iff_eq]
    show _ ↔ NestedKey.num (den i) = NestedKey.num (den j)
    constructor
    · intro h; rw [h]
    · intro h; injection h
  | .str s, .str t, b, e => by
    have e : some (sBeq s t) = some b := e
    cases e
    rw [sBeq_iff]
    show _ ↔ NestedKey.text s = NestedKey.text t
    constructor
    · intro h; rw [h]
    · intro h; injection h
  | .tup xs, .tup ys, b, e => by
    have e : kBeqs xs ys = some b := e
    rw [kBeqs_nk L xs ys b e]
    show _ ↔ NestedKey.tup (toNKs den xs) = NestedKey.tup (toNKs den ys)
    constructor
    · intro h; rw [h]
    · intro h; injection h
  | .int _, .str _, _, e | .str _, .int _, _, e => by
    have e := Option.some.inj e
    subst e
    simp [toNK]
  | .non, y, _, e | .bl _, y, _, e | .ref _, y, _, e => by cases y <;> cases e
  | .int _, .non, _, e | .int _, .bl _, _, e | .int _, .ref _, _, e | .int _, .tup _, _, e => by cases e
  | .str _, .non, _, e | .str _, .bl _, _, e | .str _, .ref _, _, e | .str _, .tup _, _, e => by cases e
  | .tup _, .non, _, e | .tup _, .bl _, _, e | .tup _, .ref _, _, e | .tup _, .int _, _, e | .tup _, .str _, _, e => by cases e
theorem kBeqs_nk (L : Lawful I den) : ∀ (xs ys : List (Val I)) (b : Bool), kBeqs xs ys = some b → (b = true ↔ toNKs den xs = toNKs den ys)
  | [], [], b, e => by cases e; simp [toNKs]
  | [], _ :: _, b, e => by cases e; simp [toNKs]
  | _ :: _, [], b, e => by cases e; simp [toNKs]
  | x :: xs, y :: ys, b, e => by
    unfold kBeqs at e
    split at e
    · rename_i h
      have h1 := (kBeq_nk L x y true h).mp rfl
      rw [kBeqs_nk L xs ys b e]
      simp [toNKs, h1]
    · rename_i h
      have h1 : ¬ toNK den x = toNK den y := fun z => by
        have := (kBeq_nk L x y false h).mpr z
        cases this
      cases e
      simp [toNKs, h1]
    · cases e
end
mutual
theorem kOk_depth : ∀ (n : Nat) (x : Val I), kOk n x = true → (toNK den x).depth ≤ n
  | n, .int i, _ => by simp [toNK, NestedKey.depth]
  | n, .str i, _ => by simp [toNK, NestedKey.depth]
  | n + 1, .tup xs, h => by
    have h : kOks n xs = true := h
    have := kOks_depth n xs h
    simp [toNK, NestedKey.depth]; omega
  | 0, .tup _, h => by cases h
  | 0, .non, h | _ + 1, .non, h => by cases h
  | 0, .bl _, h | _ + 1, .bl _, h => by cases h
  | 0, .ref _, h | _ + 1, .ref _, h => by cases h
theorem kOks_depth : ∀ (n : Nat) (xs : List (Val I)), kOks n xs = true → NestedKey.depthAll (toNKs den xs) ≤ n
  | n, [], _ => by simp [toNKs, NestedKey.depthAll]
  | n, x :: xs, h => by
    unfold kOks at h
    split at h
    · rename_i h1
      have a := kOk_depth n x h1
      have b := kOks_depth n xs h
      simp [toNKs, NestedKey.depthAll]; omega
    · cases h
end
/-- what leaf it is -/
theorem keyL_of {k : Val I} (h : isLeaf k = true) : ∃ kk, keyL den k = some kk := by
  cases k <;> first | exact ⟨_, rfl⟩ | cases h
theorem leaf_of {k : Val I} {kk : Key} (h : keyL den k = some kk) : isLeaf k = true := by
  cases k <;> first | rfl | cases h
theorem kBeq_leaf {x y : Val I} {b : Bool} (h : kBeq x y = some b) : isLeaf x = isLeaf y ∧ ((isLeaf x = true) ∨ ∃ xs ys, x = .tup xs ∧ y = .tup ys) := by
  cases x <;> cases y <;> first | exact ⟨rfl, .inl rfl⟩ | exact ⟨rfl, .inr ⟨_, _, rfl, rfl⟩⟩ | cases h
theorem keyL_nk {x y : Val I} {a b : Key} (h1 : keyL den x = some a) (h2 : keyL den y = some b) : toNK den x = toNK den y ↔ a = b := by
  cases x <;> cases y <;> cases h1 <;> cases h2 <;> simp [toNK]
end
section
variable {I : Type} [IOps I] {den : I → Int} {ca : Nat → Addr} {X : Cx} {pins : List (Addr × Obj)} {σ : L2.St} {H : Hp} {s : Shared} {r : Rho} {S : Sto I}
mutual
theorem nested_is (I0 : L2.Inv X pins σ H s) : ∀ (n : Nat) (k : Val I) (y : V) (u : Value), kOk n k = true → VR den r H k y → RelV y u → NestedIs s.heap (toNK den k) u
  | n, .int i, _, _, _, h, q => by cases h; obtain ⟨t, rfl⟩ := q; exact .int _ _
  | n, .str i, _, _, _, h, q => by cases h; obtain ⟨t, rfl⟩ := q; exact .text _ _
  | n + 1, .tup xs, _, _, ok, h, q => by
    have ok : kOks n xs = true := ok
    cases h with
    | tup h1 h2 =>
      cases q
      obtain ⟨its, rv, ⟨o, ho, hc, m, hd⟩, _⟩ := I0.tuple (SqT.of h1)
      exact .tup ho hc hd (by simpa using nested_all I0 n xs _ its ok h2 rv)
  | 0, .tup _, _, _, h, _, _ => by cases h
  | 0, .non, _, _, h, _, _ | _ + 1, .non, _, _, h, _, _ => by cases h
  | 0, .bl _, _, _, h, _, _ | _ + 1, .bl _, _, _, h, _, _ => by cases h
  | 0, .ref _, _, _, h, _, _ | _ + 1, .ref _, _, _, h, _, _ => by cases h
theorem nested_all (I0 : L2.Inv X pins σ H s) : ∀ (n : Nat) (xs : List (Val I)) (ys : List V) (us : List Value), kOks n xs = true → VRs den r H xs ys → Vals ys us → NestedAll s.heap (toNKs den xs) us
  | n, [], _, _, _, h, q => by cases h; cases q; exact .nil
  | n, x :: xs, _, _, ok, h, q => by
    cases h with
    | cons h1 h2 =>
      cases q with
      | cons q1 q2 =>
        unfold kOks at ok
        split at ok
        · rename_i ok1
          exact .cons (nested_is I0 n x _ _ ok1 h1 q1) (nested_all I0 n xs _ _ ok h2 q2)
        · cases ok
end
theorem kis_of (I0 : L2.Inv X pins σ H s) {k : Val I} {a : Addr} (ok : kOk 8 k = true) (h : VR den r H k (.ref a)) : (nestedKind X.prog X.w).is s.heap (toNK den k) a :=
  ⟨nested_is I0 8 k _ _ ok h rfl, kOk_depth 8 k ok⟩
/-- an entry of a dict with leaves as keys, in the heap's values -/
def ELV (den : I → Int) (r : Rho) (H : Hp) (kv : Val I × Val I) (x : Key × Value) : Prop := keyL den kv.1 = some x.1 ∧ ∃ y, RelV y x.2 ∧ VR den r H kv.2 y
theorem elv_of : ∀ {kvs : List (Val I × Val I)} {ws : List (Key × V)} {vs : List (Key × Value)}, Paired (EL den r H) kvs ws → KV ws vs → Paired (ELV den r H) kvs vs
  | _, _, _, .nil, q => by cases q; exact .nil
  | _, _, _, .cons h t, q => by
    cases q with
    | cons q1 q2 => exact .cons ⟨by rw [h.1, q1.1], _, q1.2, h.2⟩ (elv_of t q2)
/-- the two forms in which a dict lies -/
inductive DAt (den : I → Int) (X : Cx) (r : Rho) (H : Hp) (s : Shared) (b : Addr) (kvs : List (Val I × Val I)) : Prop
  | leaf (ws : List (Key × V)) (vs : List (Key × Value)) : Paired (EL den r H) kvs ws → KV ws vs → s.heap.DictOf (mixKind X.prog X.w) b vs → (b == sysModules) = false → ws.length ≤ sizeLine → DAt den X r H s b kvs
  | tree (xs : List (NestedKey × Addr × Value)) : Paired (EN den r H) kvs xs → s.heap.DictOfH (nestedKind X.prog X.w) b xs → (b == sysModules) = false → xs.length ≤ sizeLine → DAt den X r H s b kvs
theorem dic_ob (m : SimX den X ca r S H) {a : Nat} {b : Addr} {kvs : List (Val I × Val I)} {lk : Nat} (h : S.get a = some (.dic kvs lk)) (q : r a = some b) :
    (∃ ws, Lk lk H b (.dK ws) ∧ Paired (EL den r H) kvs ws) ∨ ∃ xs, Lk lk H b (.ext (rawD X.prog X.w b xs)) ∧ Paired (EN den r H) kvs xs := by
  obtain ⟨c, z, o⟩ := m.ob _ _ h
  rw [q] at z; cases z
  exact o
theorem Lk.rd {lk : Nat} {b : Addr} {u : HO} (h : Lk lk H b u) : Rd H b u := by
  unfold Lk at h
  cases lk with
  | zero => exact .inl h
  | succ n => exact .inr h
theorem paired_mem {A B : Type} {F : A → B → Prop} : ∀ {l : List A} {m : List B}, Paired F l m → ∀ y ∈ m, ∃ x ∈ l, F x y
  | _, _, .nil, _, h => nomatch h
  | _, _, .cons q t, y, h => by
    rcases List.mem_cons.mp h with rfl | h
    · exact ⟨_, List.mem_cons_self, q⟩
    · obtain ⟨x, hx, f⟩ := paired_mem t y h
      exact ⟨x, List.mem_cons_of_mem _ hx, f⟩
theorem dat_of (I0 : L2.Inv X pins σ H s) (m : SimX den X ca r S H) {a : Nat} {b : Addr} {kvs : List (Val I × Val I)} {lk : Nat} (h : S.get a = some (.dic kvs lk)) (q : r a = some b) : DAt den X r H s b kvs := by
  rcases dic_ob m h q with ⟨ws, h1, h2⟩ | ⟨xs, h1, h2⟩
  · obtain ⟨z, y, vs, rel, dd⟩ := dk_rd I0.hok h1.rd
    exact .leaf ws vs h2 rel dd y z
  · obtain ⟨⟨o, es, ep, g1, g2, g3, g4, g5, g6, g7⟩, _⟩ := h1.rd.ok I0.hok
    refine .tree xs h2 ⟨o, es, ep, g1, g2, g3, g4, fun x hx => ?_, g5⟩ g6 g7
    obtain ⟨kv, _, ok, e, vr, _⟩ := paired_mem h2 x hx
    rw [← e]
    exact kis_of I0 ok vr
/-- an empty dict lies in both forms -/
theorem dat_nil_tree {b : Addr} (h : DAt den X r H s b ([] : List (Val I × Val I))) : s.heap.DictOfH (nestedKind X.prog X.w) b [] ∧ (b == sysModules) = false := by
  cases h with
  | leaf ws vs h1 h2 h3 h4 h5 =>
    cases h1
    cases h2
    obtain ⟨o, es, ep, g1, g2, g3, g4, g5, g6⟩ := h3
    refine ⟨⟨o, es, ep, g1, g2, g3, ?_, (fun _ z => nomatch z), List.nodup_nil⟩, h4⟩
    generalize hl : es.toList = l at g5
    cases g5
    rfl
  | tree xs h1 h2 h3 h4 =>
    cases h1
    exact ⟨h2, h3⟩
theorem dat_nil_leaf {b : Addr} (h : DAt den X r H s b ([] : List (Val I × Val I))) : s.heap.DictOf (mixKind X.prog X.w) b [] ∧ (b == sysModules) = false := by
  cases h with
  | leaf ws vs h1 h2 h3 h4 h5 =>
    cases h1
    cases h2
    exact ⟨h3, h4⟩
  | tree xs h1 h2 h3 h4 =>
    cases h1
    obtain ⟨o, es, ep, g1, g2, g3, g4, g5, g6⟩ := h2
    have e0 : es = #[] := by
      rw [List.map_nil] at g4
      exact Array.toList_eq_nil_iff.mp g4
    subst e0
    refine ⟨⟨o, #[], ep, g1, g2, g3, ?_, ?_, List.nodup_nil⟩, h3⟩
    · intro e he
      simp at he
    · exact .nil
/-- what a key that the evaluator looked for says of the form -/
theorem find_sort {k : Val I} : ∀ {kvs : List (Val I × Val I)} {o : Option (Val I)}, kFind k kvs = some o → (kvs = [] ∧ kOk 8 k = true) ∨ ∃ k' v, (k', v) ∈ kvs ∧ isLeaf k' = isLeaf k ∧ (isLeaf k = true ∨ ∃ xs, k = .tup xs)
  | [], o, e => by
    unfold kFind at e
    split at e
    · rename_i h; exact .inl ⟨rfl, h⟩
    · cases e
  | (k', v) :: r, o, e => by
    unfold kFind at e
    split at e
    · rename_i h
      obtain ⟨h1, h2⟩ := kBeq_leaf h
      refine .inr ⟨k', v, List.mem_cons_self, h1, ?_⟩
      rcases h2 with h2 | ⟨xs, ys, rfl, rfl⟩
      · exact .inl (h1 ▸ h2)
      · exact .inr ⟨ys, rfl⟩
    · rename_i h
      obtain ⟨h1, h2⟩ := kBeq_leaf h
      refine .inr ⟨k', v, List.mem_cons_self, h1, ?_⟩
      rcases h2 with h2 | ⟨xs, ys, rfl, rfl⟩
      · exact .inl (h1 ▸ h2)
      · exact .inr ⟨ys, rfl⟩
    · cases e
/-- a look-up by leaves -/
theorem find_leaf (L : Lawful I den) {k : Val I} {kk : Key} (hk : keyL den k = some kk) : ∀ {kvs : List (Val I × Val I)} {vs : List (Key × Value)} {o : Option (Val I)}, Paired (ELV den r H) kvs vs → kFind k kvs = some o →
    (o = none ∧ valueAt vs kk = none) ∨ ∃ v y u, o = some v ∧ valueAt vs kk = some u ∧ RelV y u ∧ VR den r H v y
  | _, _, o, .nil, e => by
    unfold kFind at e
    split at e
    · cases e; exact .inl ⟨rfl, rfl⟩
    · cases e
  | _, _, o, .cons (a := kv) (b := x) h t, e => by
    obtain ⟨k', v⟩ := kv
    obtain ⟨xk, xv⟩ := x
    obtain ⟨h1, y, h2, h3⟩ := h
    unfold kFind at e
    split at e
    · rename_i hb
      have := (keyL_nk h1 hk).mp ((kBeq_nk L _ _ _ hb).mp rfl)
      cases e
      refine .inr ⟨v, y, xv, rfl, ?_, h2, h3⟩
      simp only at this
      simp [valueAt, this]
    · rename_i hb
      have : ¬ xk = kk := fun z => by
        have := (kBeq_nk L _ _ _ hb).mpr ((keyL_nk h1 hk).mpr z)
        cases this
      have e2 : ∀ l, valueAt ((xk, xv) :: l) kk = valueAt l kk := fun l => by simp [valueAt, List.find?_cons, this]
      rw [e2]
      exact find_leaf L hk t e
    · cases e
/-- a look-up by tuples -/
theorem find_tree (L : Lawful I den) {k : Val I} : ∀ {kvs : List (Val I × Val I)} {xs : List (NestedKey × Addr × Value)} {o : Option (Val I)}, Paired (EN den r H) kvs xs → kFind k kvs = some o →
    (o = none ∧ atKey xs (toNK den k) = none ∧ kOk 8 k = true) ∨ ∃ v y p, o = some v ∧ atKey xs (toNK den k) = some p ∧ RelV y p.2 ∧ VR den r H v y
  | _, _, o, .nil, e => by
    unfold kFind at e
    split at e
    · rename_i hk; cases e; exact .inl ⟨rfl, rfl, hk⟩
    · cases e
  | _, _, o, .cons (a := kv) (b := x) h t, e => by
    obtain ⟨k', v⟩ := kv
    obtain ⟨xk, xa, xv⟩ := x
    obtain ⟨_, h1, _, y, h2, h3⟩ := h
    unfold kFind at e
    split at e
    · rename_i hb
      have := (kBeq_nk L _ _ _ hb).mp rfl
      have q : xk = toNK den k := h1.symm.trans this
      cases e
      refine .inr ⟨v, y, (xa, xv), rfl, ?_, h2, h3⟩
      simp [atKey, q]
    · rename_i hb
      have : ¬ xk = toNK den k := fun z => by
        have := (kBeq_nk L _ _ _ hb).mpr (h1.trans z)
        cases this
      have e2 : ∀ l, atKey ((xk, xa, xv) :: l) (toNK den k) = atKey l (toNK den k) := fun l => by simp [atKey, List.find?_cons, this]
      rw [e2]
      exact find_tree L t e
    · cases e
/-- a key that was found (or not) is a key -/
theorem nk_ok : ∀ (n m : Nat) (x y : Val I), kOk n x = true → kBeq x y = some true → kOk n y = true
  | n, m, .int i, .int j, h, e => by cases n <;> rfl
  | n, m, .str i, .str j, h, e => by cases n <;> rfl
  | n + 1, m, .tup xs, .tup ys, h, e => by
    have h : kOks n xs = true := h
    have e : kBeqs xs ys = some true := e
    show kOks n ys = true
    have go : ∀ (xs ys : List (Val I)), kOks n xs = true → kBeqs xs ys = some true → kOks n ys = true := by
      intro xs
      induction xs with
      | nil => intro ys _ e; cases ys <;> first | rfl | cases e
      | cons x xs ih =>
        intro ys h e
        cases ys with
        | nil => cases e
        | cons y ys =>
          unfold kOks at h
          split at h
          · rename_i h1
            unfold kBeqs at e
            split at e
            · rename_i e1
              unfold kOks
              rw [nk_ok n m x y h1 e1]
              exact ih ys h e
            · cases e
            · cases e
          · cases h
    exact go xs ys h e
  | 0, _, .tup _, _, h, _ => by cases h
  | n, _, .non, _, h, _ => by cases n <;> cases h
  | n, _, .bl _, _, h, _ => by cases n <;> cases h
  | n, _, .ref _, _, h, _ => by cases n <;> cases h
  | n, _, .int _, .str _, _, e | n, _, .str _, .int _, _, e => by cases e
  | n, _, .int _, .non, _, e | n, _, .int _, .bl _, _, e | n, _, .int _, .ref _, _, e | n, _, .int _, .tup _, _, e => by cases e
  | n, _, .str _, .non, _, e | n, _, .str _, .bl _, _, e | n, _, .str _, .ref _, _, e | n, _, .str _, .tup _, _, e => by cases e
  | n, _, .tup _, .non, _, e | n, _, .tup _, .bl _, _, e | n, _, .tup _, .ref _, _, e | n, _, .tup _, .int _, _, e | n, _, .tup _, .str _, _, e => by cases e
end
end Pz
set_option Elab.async false
set_option linter.all false
set_option maxRecDepth 100000
set_option maxHeartbeats 4000000
namespace Pz
open PySem L2
section
variable {I : Type} [IOps I] {den : I → Int} {ca : Nat → Addr} {X : Cx} {pins : List (Addr × Obj)} {σ : L2.St} {H : Hp} {s : Shared} {r : Rho} {S : Sto I}
theorem find_ok (L : Lawful I den) {k : Val I} : ∀ {kvs : List (Val I × Val I)} {xs : List (NestedKey × Addr × Value)} {o : Option (Val I)}, Paired (EN den r H) kvs xs → kFind k kvs = some o → kOk 8 k = true
  | _, _, o, .nil, e => by
    unfold kFind at e
    split at e
    · rename_i hk; exact hk
    · cases e
  | _, _, o, .cons (a := kv) h t, e => by
    obtain ⟨k', v⟩ := kv
    unfold kFind at e
    split at e
    · rename_i hb; exact nk_ok 8 0 _ _ h.1 hb
    · exact find_ok L t e
    · cases e
theorem en_tup {kv : Val I × Val I} {x : NestedKey × Addr × Value} (m : SimX den X ca r S H) (h : EN den r H kv x) : ∃ ts, kv.1 = .tup ts := by
  obtain ⟨h1, _, h2, _⟩ := h
  rcases h2.inv_ref with ⟨xs, ys, e, _⟩ | ⟨b, e, _⟩
  · exact ⟨xs, e⟩
  · rw [e] at h1; cases h1
/-- the form that a key asks for -/
inductive DSort (den : I → Int) (X : Cx) (r : Rho) (H : Hp) (s : Shared) (b : Addr) (kvs : List (Val I × Val I)) (k : Val I) : Prop
  | leaf (kk : Key) (ws : List (Key × V)) (vs : List (Key × Value)) : keyL den k = some kk → Paired (EL den r H) kvs ws → KV ws vs → s.heap.DictOf (mixKind X.prog X.w) b vs → (b == sysModules) = false → ws.length ≤ sizeLine → DSort den X r H s b kvs k
  | tree (xs : List (NestedKey × Addr × Value)) : (∃ ts, k = .tup ts) → kOk 8 k = true → Paired (EN den r H) kvs xs → s.heap.DictOfH (nestedKind X.prog X.w) b xs → (b == sysModules) = false → xs.length ≤ sizeLine → DSort den X r H s b kvs k
theorem dsort_of (L : Lawful I den) (m : SimX den X ca r S H) {b : Addr} {kvs : List (Val I × Val I)} {k : Val I} {o : Option (Val I)} (d : DAt den X r H s b kvs) (e : kFind k kvs = some o) : DSort den X r H s b kvs k := by
  rcases find_sort e with ⟨rfl, hk⟩ | ⟨k', v, hm, hl, hs⟩
  · cases k with
    | int i => obtain ⟨d1, d2⟩ := dat_nil_leaf d; exact .leaf _ [] [] rfl .nil .nil d1 d2 (Nat.zero_le _)
    | str i => obtain ⟨d1, d2⟩ := dat_nil_leaf d; exact .leaf _ [] [] rfl .nil .nil d1 d2 (Nat.zero_le _)
    | tup ts => obtain ⟨d1, d2⟩ := dat_nil_tree d; exact .tree [] ⟨_, rfl⟩ hk .nil d1 d2 (Nat.zero_le _)
    | non => cases hk
    | bl _ => cases hk
    | ref _ => cases hk
  · cases d with
    | leaf ws vs h1 h2 h3 h4 h5 =>
      have lk : isLeaf k' = true := by
        have go : ∀ {l : List (Val I × Val I)} {mm : List (Key × V)}, Paired (EL den r H) l mm → (k', v) ∈ l → ∃ x, EL den r H (k', v) x := by
          intro l mm p
          induction p with
          | nil => intro h; cases h
          | cons q t ih =>
            intro h
            rcases List.mem_cons.mp h with e1 | h
            · subst e1; exact ⟨_, q⟩
            · exact ih h
        obtain ⟨x, f⟩ := go h1 hm
        exact leaf_of f.1
      rw [hl] at lk
      obtain ⟨kk, hkk⟩ := keyL_of (den := den) lk
      exact .leaf kk ws vs hkk h1 h2 h3 h4 h5
    | tree xs h1 h2 h3 h4 =>
      have go : ∀ {l : List (Val I × Val I)} {mm : List (NestedKey × Addr × Value)}, Paired (EN den r H) l mm → (k', v) ∈ l → ∃ x, EN den r H (k', v) x := by
        intro l mm p
        induction p with
        | nil => intro h; cases h
        | cons q t ih =>
          intro h
          rcases List.mem_cons.mp h with e1 | h
          · subst e1; exact ⟨_, q⟩
          · exact ih h
      obtain ⟨x, hx⟩ := go h1 hm
      obtain ⟨ts, e1⟩ := en_tup m hx
      simp only at e1
      subst e1
      rcases hs with hs | hs
      · rw [← hl] at hs; cases hs
      · exact .tree xs hs (find_ok L h1 e) h1 h2 h3 h4
theorem tup_ref {ts : List (Val I)} {y : V} (h : VR den r H (.tup ts) y) : ∃ a, y = .ref a := by
  cases h with
  | tup h1 h2 => exact ⟨_, rfl⟩
theorem key_rel {k : Val I} {kk : Key} {y : V} (hk : keyL den k = some kk) (h : VR den r H k y) : y = kV kk := by
  cases k <;> cases hk <;> cases h <;> rfl
theorem nroom {A : Around} (hu : A.units + 40 < cLine) : (nestedKind X.prog X.w).room A.in1 := by
  show A.units + 1 + 8 < cLine
  omega
/-- d[k], there -/
theorem run_get (I0 : L2.Inv X pins σ H s) (L : Lawful I den) (m : SimX den X ca r S H) {A : Around} (hu : A.units + 40 < cLine) {a : Nat} {b : Addr} {kvs : List (Val I × Val I)} {lk : Nat} {k v : Val I} {y : V} {u : Value} {E Q : Value → Shared → Prop}
    (h : S.get a = some (.dic kvs lk)) (q : r a = some b) (hk : VR den r H k y) (ry : RelV y u) (e : kFind k kvs = some (some v)) (hQ : ∀ s' z w', L2.Inv X pins σ H s' → VR den r H v z → RelV z w' → Q w' s') : wpAny (model X.prog X.w) A (getItem (.ref b) u) Q E s := by
  cases dsort_of L m (dat_of I0 m h q) e with
  | leaf kk ws vs h1 h2 h3 h4 h5 h6 =>
    rcases find_leaf L h1 (elv_of h2 h3) e with ⟨z, _⟩ | ⟨v', z, w', e1, e2, e3, e4⟩
    · cases z
    · cases e1
      exact wpAny_getItem_of (kV_is (by rw [← key_rel h1 hk]; exact ry)) h4.mapOf e2 (hQ _ _ _ (I0.tok _) e4 e3)
  | tree xs h1 h2 h3 h4 h5 h6 =>
    obtain ⟨ts, rfl⟩ := h1
    obtain ⟨c, rfl⟩ := tup_ref hk
    cases ry
    rcases find_tree L h3 e with ⟨z, _⟩ | ⟨v', z, p, e1, e2, e3, e4⟩
    · cases z
    · cases e1
      exact wpAny_getItem_heap (nroom hu) (kis_of I0 h2 hk) h4 e2 (hQ _ _ _ (I0.tok _) e4 e3)
/-- k in d -/
theorem run_in (I0 : L2.Inv X pins σ H s) (L : Lawful I den) (m : SimX den X ca r S H) {A : Around} (hu : A.units + 40 < cLine) {a : Nat} {b : Addr} {kvs : List (Val I × Val I)} {lk : Nat} {k : Val I} {o : Option (Val I)} {y : V} {u : Value} {E Q : Value → Shared → Prop}
    (h : S.get a = some (.dic kvs lk)) (q : r a = some b) (hk : VR den r H k y) (ry : RelV y u) (e : kFind k kvs = some o) (hQ : ∀ s', L2.Inv X pins σ H s' → Q (.bool o.isSome) s') : wpAny (model X.prog X.w) A (compareOp .In u (.ref b)) Q E s := by
  cases dsort_of L m (dat_of I0 m h q) e with
  | leaf kk ws vs h1 h2 h3 h4 h5 h6 =>
    refine wpAny_in_of (kV_is (by rw [← key_rel h1 hk]; exact ry)) h5 h4.mapOf ?_
    rcases find_leaf L h1 (elv_of h2 h3) e with ⟨rfl, z⟩ | ⟨v', z, w', rfl, e2, e3, e4⟩
    · rw [z]; exact hQ _ (I0.tok _)
    · rw [e2]; exact hQ _ (I0.tok _)
  | tree xs h1 h2 h3 h4 h5 h6 =>
    obtain ⟨ts, rfl⟩ := h1
    obtain ⟨c, rfl⟩ := tup_ref hk
    cases ry
    refine wpAny_in_heap (nroom hu) (kis_of I0 h2 hk) h5 h4 ?_
    rcases find_tree L h3 e with ⟨rfl, z, _⟩ | ⟨v', z, p, rfl, e2, e3, e4⟩
    · rw [z]; exact hQ _ (I0.tok _)
    · rw [e2]; exact hQ _ (I0.tok _)
theorem run_notin (I0 : L2.Inv X pins σ H s) (L : Lawful I den) (m : SimX den X ca r S H) {A : Around} (hu : A.units + 40 < cLine) {a : Nat} {b : Addr} {kvs : List (Val I × Val I)} {lk : Nat} {k : Val I} {o : Option (Val I)} {y : V} {u : Value} {E Q : Value → Shared → Prop}
    (h : S.get a = some (.dic kvs lk)) (q : r a = some b) (hk : VR den r H k y) (ry : RelV y u) (e : kFind k kvs = some o) (hQ : ∀ s', L2.Inv X pins σ H s' → Q (.bool (!o.isSome)) s') : wpAny (model X.prog X.w) A (compareOp .NotIn u (.ref b)) Q E s := by
  cases dsort_of L m (dat_of I0 m h q) e with
  | leaf kk ws vs h1 h2 h3 h4 h5 h6 =>
    refine wpAny_notIn_of (kV_is (by rw [← key_rel h1 hk]; exact ry)) h5 h4.mapOf ?_
    rcases find_leaf L h1 (elv_of h2 h3) e with ⟨rfl, z⟩ | ⟨v', z, w', rfl, e2, e3, e4⟩
    · rw [z]; exact hQ _ (I0.tok _)
    · rw [e2]; exact hQ _ (I0.tok _)
  | tree xs h1 h2 h3 h4 h5 h6 =>
    obtain ⟨ts, rfl⟩ := h1
    obtain ⟨c, rfl⟩ := tup_ref hk
    cases ry
    show wpAny _ _ (do return .bool (!(← contains (.ref b) (.ref c)))) Q E s
    refine wpAny_bind (wpAny_contains_heap (nroom hu) (kis_of I0 h2 hk) h5 h4 (wpAny_pure ?_))
    rcases find_tree L h3 e with ⟨rfl, z, _⟩ | ⟨v', z, p, rfl, e2, e3, e4⟩
    · rw [z]; exact hQ _ (I0.tok _)
    · rw [e2]; exact hQ _ (I0.tok _)
/-- d.get(k, x) -/
theorem run_getOr (I0 : L2.Inv X pins σ H s) (L : Lawful I den) (m : SimX den X ca r S H) {A : Around} (hu : A.units + 40 < cLine) {a : Nat} {b : Addr} {kvs : List (Val I × Val I)} {lk : Nat} {k x : Val I} {o : Option (Val I)} {y yd : V} {u ud : Value} {E Q : Value → Shared → Prop}
    (h : S.get a = some (.dic kvs lk)) (q : r a = some b) (hk : VR den r H k y) (ry : RelV y u) (hx : VR den r H x yd) (rx : RelV yd ud) (e : kFind k kvs = some o)
    (hQ : ∀ s' z w', L2.Inv X pins σ H s' → VR den r H (o.getD x) z → RelV z w' → Q w' s') : wpAny (model X.prog X.w) A (call (.builtin "dict.get") [.ref b, u, ud]) Q E s := by
  cases dsort_of L m (dat_of I0 m h q) e with
  | leaf kk ws vs h1 h2 h3 h4 h5 h6 =>
    refine call_meetsIn PySem.F.slot_dict_get h4.typeIs PySem.F.entry_dict_get (PySem.F.args_dict_get_3 _ _ _) (meets_dict_get_default (mixKind X.prog X.w) b (kV_is (by rw [← key_rel h1 hk]; exact ry)) h5 ud) ⟨_, h4.mapOf, ?_⟩
    rcases find_leaf L h1 (elv_of h2 h3) e with ⟨rfl, z⟩ | ⟨v', z, w', rfl, e2, e3, e4⟩
    · rw [z]; exact hQ _ _ _ (I0.tok _) hx rx
    · rw [e2]; exact hQ _ _ _ (I0.tok _) e4 e3
  | tree xs h1 h2 h3 h4 h5 h6 =>
    obtain ⟨ts, rfl⟩ := h1
    obtain ⟨c, rfl⟩ := tup_ref hk
    cases ry
    refine call_meetsIn PySem.F.slot_dict_get h4.typeIs PySem.F.entry_dict_get (PySem.F.args_dict_get_3 _ _ _) (meetsH_dict_get_default (nestedKind X.prog X.w) b c h5 ud) ⟨nroom hu, _, xs, kis_of I0 h2 hk, h4, ?_⟩
    rcases find_tree L h3 e with ⟨rfl, z, _⟩ | ⟨v', z, p, rfl, e2, e3, e4⟩
    · rw [z]; exact hQ _ _ _ (I0.tok _) hx rx
    · rw [e2]; exact hQ _ _ _ (I0.tok _) e4 e3
/-! ### storing -/
theorem putK_cons {kk : Key} {y : V} {p : Key × V} {l : List (Key × V)} (h : ¬ p.1 = kk) : putK (p :: l) kk y = p :: putK l kk y := by
  unfold putK
  simp only [List.any_cons, decide_eq_false h, Bool.false_or, List.map_cons, if_neg h]
  split <;> rfl
theorem putK_hit {kk : Key} {y z : V} : ∀ {l : List (Key × V)}, kk ∉ l.map (·.1) → putK ((kk, z) :: l) kk y = (kk, y) :: l := fun {l} h => by
  unfold putK
  rw [if_pos (by simp), List.map_cons, if_pos rfl]
  congr 1
  induction l with
  | nil => rfl
  | cons p l ih =>
    have h1 : ¬ kk = p.1 := fun e => h (by rw [e]; exact List.mem_cons_self)
    have h2 : kk ∉ l.map (·.1) := fun e => h (List.mem_cons_of_mem _ e)
    rw [List.map_cons, if_neg (fun e => h1 e.symm), ih h2]
theorem put_leaf (L : Lawful I den) {k v : Val I} {kk : Key} {y : V} (hk : keyL den k = some kk) (hv : VR den r H v y) : ∀ {kvs kvs' : List (Val I × Val I)} {ws : List (Key × V)}, Paired (EL den r H) kvs ws → (ws.map (·.1)).Nodup → kPut k v kvs = some kvs' → Paired (EL den r H) kvs' (putK ws kk y)
  | _, _, _, .nil, _, e => by
    unfold kPut at e
    split at e
    · cases e; exact .cons ⟨hk, hv⟩ .nil
    · cases e
  | _, _, _, .cons (a := kv) (b := x) h t, nd, e => by
    obtain ⟨k', u⟩ := kv
    obtain ⟨xk, xv⟩ := x
    obtain ⟨h1, h2⟩ := h
    rw [List.map_cons, List.nodup_cons] at nd
    unfold kPut at e
    split at e
    · rename_i hb
      have := (keyL_nk h1 hk).mp ((kBeq_nk L _ _ _ hb).mp rfl)
      simp only at this
      subst this
      cases e
      rw [putK_hit nd.1]
      exact .cons ⟨h1, hv⟩ t
    · rename_i hb
      have ne : ¬ xk = kk := fun z => by
        have := (kBeq_nk L _ _ _ hb).mpr ((keyL_nk h1 hk).mpr z)
        cases this
      obtain ⟨l, hl, e⟩ := Option.map_eq_some_iff.mp e
      subst e
      rw [putK_cons (p := (xk, xv)) ne]
      exact .cons ⟨h1, h2⟩ (put_leaf L hk hv t nd.2 hl)
    · cases e
theorem storedH_cons {K : Type} [DecidableEq K] {k : K} {a : Addr} {u : Value} {p : K × Addr × Value} {l : List (K × Addr × Value)} (h : ¬ p.1 = k) : storedH (p :: l) k a u = p :: storedH l k a u := by
  have e : atKey (p :: l) k = atKey l k := by simp [atKey, List.find?_cons, h]
  unfold storedH
  rw [e]
  split
  · rw [List.map_cons]
    congr 1
    unfold putAt
    rw [if_neg h]
  · rfl
theorem storedH_hit {K : Type} [DecidableEq K] {k : K} {a c : Addr} {u z : Value} {l : List (K × Addr × Value)} (h : k ∉ l.map (·.1)) : storedH ((k, c, z) :: l) k a u = (k, c, u) :: l := by
  have e : (atKey ((k, c, z) :: l) k).isSome = true := by simp [atKey]
  unfold storedH
  rw [if_pos e, List.map_cons, map_putAt_of_not_mem l k u h]
  congr 1
  unfold putAt
  rw [if_pos rfl]
theorem put_tree (L : Lawful I den) {k v : Val I} {a : Addr} {u : Value} {y : V} (hk : VR den r H k (.ref a)) (ok : kOk 8 k = true) (hv : VR den r H v y) (ry : RelV y u) : ∀ {kvs kvs' : List (Val I × Val I)} {xs : List (NestedKey × Addr × Value)}, Paired (EN den r H) kvs xs → (xs.map (·.1)).Nodup → kPut k v kvs = some kvs' →
    Paired (EN den r H) kvs' (storedH xs (toNK den k) a u)
  | _, _, _, .nil, _, e => by
    unfold kPut at e
    split at e
    · cases e; exact .cons ⟨ok, rfl, hk, y, ry, hv⟩ .nil
    · cases e
  | _, _, _, .cons (a := kv) (b := x) h t, nd, e => by
    obtain ⟨k', v0⟩ := kv
    obtain ⟨xk, xa, xv⟩ := x
    obtain ⟨h0, h1, h2, h3⟩ := h
    rw [List.map_cons, List.nodup_cons] at nd
    unfold kPut at e
    split at e
    · rename_i hb
      have q : xk = toNK den k := h1.symm.trans ((kBeq_nk L _ _ _ hb).mp rfl)
      subst q
      cases e
      rw [storedH_hit nd.1]
      exact .cons ⟨h0, h1, h2, y, ry, hv⟩ t
    · rename_i hb
      have ne : ¬ xk = toNK den k := fun z => by
        have := (kBeq_nk L _ _ _ hb).mpr (h1.trans z)
        cases this
      obtain ⟨l, hl, e⟩ := Option.map_eq_some_iff.mp e
      subst e
      rw [storedH_cons (p := (xk, xa, xv)) ne]
      exact .cons ⟨h0, h1, h2, h3⟩ (put_tree L hk ok hv ry t nd.2 hl)
    · cases e
theorem put_find {k v : Val I} : ∀ {kvs kvs' : List (Val I × Val I)}, kPut k v kvs = some kvs' → ∃ o, kFind k kvs = some o
  | [], _, e => by
    unfold kPut at e
    unfold kFind
    split at e
    · exact ⟨_, rfl⟩
    · cases e
  | (k', u) :: l, _, e => by
    unfold kPut at e
    unfold kFind
    split at e
    · exact ⟨_, rfl⟩
    · obtain ⟨l', hl, _⟩ := Option.map_eq_some_iff.mp e
      exact put_find hl
    · cases e
theorem put_len {k v : Val I} : ∀ {kvs kvs' : List (Val I × Val I)}, kPut k v kvs = some kvs' → kvs'.length ≤ kvs.length + 1
  | [], _, e => by
    unfold kPut at e
    split at e
    · cases e; simp
    · cases e
  | (k', u) :: l, _, e => by
    unfold kPut at e
    split at e
    · cases e; simp
    · obtain ⟨l', hl, e⟩ := Option.map_eq_some_iff.mp e
      subst e
      have := put_len hl
      simp; omega
    · cases e
theorem noTup_dK (ws : List (Key × V)) : NoTup (.dK ws) := fun _ z => nomatch z
theorem noTup_ext (f : Heap → Prop) : NoTup (.ext f) := fun _ z => nomatch z
theorem rawD_ok {P : Program} {w : World} {d : Addr} {h : Heap} {H' : Hp} {xs : List (NestedKey × Addr × Value)} (dd : h.DictOfH (nestedKind P w) d xs) (hd : (d == sysModules) = false) (hz : xs.length ≤ sizeLine) : ObjOk P w H' h d (.ext (rawD P w d xs)) := by
  obtain ⟨o, es, ep, g1, g2, g3, g4, g5, g6⟩ := dd
  refine ⟨⟨o, es, ep, g1, g2, g3, g4, g6, hd, hz⟩, ⟨o, g1⟩, ?_⟩
  rintro h1 h2 ⟨o', es', ep', k1, k2⟩ k
  exact ⟨o', es', ep', k _ k1, k2⟩
theorem mut_dic (m : SimX den X ca r S H) {a : Nat} {b : Addr} {kvs : List (Val I × Val I)} (h : S.get a = some (.dic kvs 0)) (q : r a = some b) : Mut (H b) := by
  rcases dic_ob m h q with ⟨ws, h1, _⟩ | ⟨xs, h1, _⟩
  · have h1 : H b = some _ := h1
    rw [h1]; trivial
  · have h1 : H b = some _ := h1
    rw [h1]; trivial
/-- behind a store the dict has the form that its new entries say -/
theorem mut_nf {H : Hp} {b : Addr} (h : Mut (H b)) : NotFrz H b := fun o u z => by rw [z] at h; exact h
theorem dic_put (m : SimX den X ca r S H) {a : Nat} {b : Addr} {kvs' : List (Val I × Val I)} (q : r a = some b) (mu : Mut (H b)) {u : HO} (nt : NoTup u)
    (hu : (∃ ws, u = .dK ws ∧ Paired (EL den r H) kvs' ws) ∨ ∃ xs, u = .ext (rawD X.prog X.w b xs) ∧ Paired (EN den r H) kvs' xs) :
    SimX den X ca r (S.set a (.dic kvs' 0)) (upd H b u) ∧ Ext r H r (upd H b u) := by
  refine m.put q (mut_nf mu) nt fun H' eH mv ms => ?_
  rcases hu with ⟨ws, rfl, p⟩ | ⟨xs, rfl, p⟩
  · exact .inl ⟨ws, by show H' b = _; rw [eH, upd_same], Paired.mono (fun a b q => ⟨q.1, mv _ _ q.2⟩) p⟩
  · exact .inr ⟨xs, by show H' b = _; rw [eH, upd_same], Paired.mono (fun a b q => ⟨q.1, q.2.1, mv _ _ q.2.2.1, let ⟨y, q1, q2⟩ := q.2.2.2; ⟨y, q1, mv _ _ q2⟩⟩) p⟩
theorem paired_len {A B : Type} {F : A → B → Prop} {l : List A} {m : List B} (h : Paired F l m) : l.length = m.length := Paired.length h
/-- d[k] = v -/
theorem run_set (I0 : L2.Inv X pins σ H s) (L : Lawful I den) (m : SimX den X ca r S H) {A : Around} (hu : A.units + 40 < cLine) {a : Nat} {b : Addr} {kvs kvs' : List (Val I × Val I)} {k v : Val I} {y z : V} {u w' : Value} {E : Value → Shared → Prop} {Q : Unit → Shared → Prop}
    (h : S.get a = some (.dic kvs 0)) (q : r a = some b) (hk : VR den r H k y) (ry : RelV y u) (hv : VR den r H v z) (rz : RelV z w') (e : kPut k v kvs = some kvs') (hl : kvs.length < 16000000)
    (hQ : ∀ s' H', L2.Inv X pins σ H' s' → SimX den X ca r (S.set a (.dic kvs' 0)) H' → Ext r H r H' → Q () s') : wpAny (model X.prog X.w) A (setItem (.ref b) u w') Q E s := by
  obtain ⟨o, eo⟩ := put_find e
  have mu := mut_dic m h q
  cases dsort_of L m (dat_of I0 m h q) eo with
  | leaf kk ws vs h1 h2 h3 h4 h5 h6 =>
    have hz : vs.length ≤ sizeLine := by rw [← h3.length]; exact h6
    have l1 : ws.length < 16000000 := by rw [← paired_len h2]; exact hl
    have hlen : (putK ws kk z).length ≤ sizeLine := by have := length_putK ws kk z; have := line16; omega
    have nd : (ws.map (·.1)).Nodup := by
      rw [h3.keys]
      obtain ⟨_, _, _, _, _, _, _, _, nd⟩ := h4
      exact nd
    refine wpAny_setItem_pairs (hsz := hz) (kV_is (by rw [← key_rel h1 hk]; exact ry)) h4 fun h' dd' hs => ?_
    have he : ∃ q, h'.get? b = some q := let ⟨q, _, _, hq, _⟩ := dd'; ⟨q, hq⟩
    obtain ⟨m', x⟩ := dic_put m (kvs' := kvs') (u := .dK (putK ws kk z)) q mu (noTup_dK _) (.inl ⟨_, rfl, put_leaf L h1 hv h2 nd e⟩)
    exact hQ _ _ (d_write I0 mu hs he (dk_new hlen h5 (h3.put kk rz) dd')) m' x
  | tree xs h1 h2 h3 h4 h5 h6 =>
    obtain ⟨ts, rfl⟩ := h1
    obtain ⟨c, rfl⟩ := tup_ref hk
    cases ry
    have nd : (xs.map (·.1)).Nodup := by
      obtain ⟨_, _, _, _, _, _, _, _, nd⟩ := h4
      exact nd
    have l1 : xs.length < 16000000 := by rw [← paired_len h3]; exact hl
    have p := put_tree L hk h2 hv rz h3 nd e
    have hlen : (storedH xs (toNK den (.tup ts)) c w').length ≤ sizeLine := by
      rw [← paired_len p]
      have := put_len e
      have := line16
      rw [paired_len h3] at *
      omega
    refine wpAny_setItem_heap (hsz := h6) (nroom hu) (kis_of I0 h2 hk) h4 fun h' dd' hs => ?_
    have he : ∃ q, h'.get? b = some q := let ⟨q, _, _, hq, _⟩ := dd'; ⟨q, hq⟩
    obtain ⟨m', x⟩ := dic_put m (kvs' := kvs') (u := .ext (rawD X.prog X.w b (storedH xs (toNK den (.tup ts)) c w'))) q mu (noTup_ext _) (.inr ⟨_, rfl, p⟩)
    exact hQ _ _ (d_write I0 mu hs he (rawD_ok dd' h5 hlen)) m' x
theorem put_new {k v : Val I} : ∀ {kvs : List (Val I × Val I)}, kFind k kvs = some none → kPut k v kvs = some (kvs ++ [(k, v)])
  | [], e => by
    unfold kFind at e
    unfold kPut
    split at e
    · rfl
    · cases e
  | (k', u) :: l, e => by
    unfold kFind at e
    unfold kPut
    split at e
    · cases e
    · rw [put_new e]; rfl
    · cases e
/-- d.setdefault(k, x) -/
theorem run_setdef (I0 : L2.Inv X pins σ H s) (L : Lawful I den) (m : SimX den X ca r S H) {A : Around} (hu : A.units + 40 < cLine) {a : Nat} {b : Addr} {kvs : List (Val I × Val I)} {lk : Nat} {ks : List (Val I)} {x : Val I} {o : Option (Val I)} {y yd : V} {u ud : Value} {E Q : Value → Shared → Prop}
    (h : S.get a = some (.dic kvs lk)) (q : r a = some b) (hk : VR den r H (.tup ks) y) (ry : RelV y u) (hx : VR den r H x yd) (rx : RelV yd ud) (e : kFind (.tup ks) kvs = some o) (hl : kvs.length < 16000000) (hlk : o = none → lk = 0)
    (h1 : ∀ v s' z w', o = some v → L2.Inv X pins σ H s' → VR den r H v z → RelV z w' → Q w' s')
    (h2 : o = none → ∀ s' H', L2.Inv X pins σ H' s' → SimX den X ca r (S.set a (.dic (kvs ++ [(.tup ks, x)]) 0)) H' → Ext r H r H' → Q ud s') : wpAny (model X.prog X.w) A (call (.builtin "dict.setdefault") [.ref b, u, ud]) Q E s := by
  cases dsort_of L m (dat_of I0 m h q) e with
  | leaf kk ws vs g1 g2 g3 g4 g5 g6 =>
    cases hk
    cases g1
  | tree xs g1 g2 g3 g4 g5 g6 =>
    obtain ⟨c, rfl⟩ := tup_ref hk
    cases ry
    refine call_setdefault_heap (hsz := g6) (nroom hu) (kis_of I0 g2 hk) g5 g4 (fun p hp => ?_) fun hn h' dd' hs => ?_
    · rcases find_tree L g3 e with ⟨_, z, _⟩ | ⟨v', z, p', e1, e2, e3, e4⟩
      · rw [z] at hp; cases hp
      · rw [hp] at e2
        cases e2
        exact h1 _ _ _ _ e1 (I0.tok _) e4 e3
    · rcases find_tree L g3 e with ⟨eo, z, _⟩ | ⟨v', z, p', e1, e2, e3, e4⟩
      · subst eo
        have := hlk rfl
        subst this
        have mu := mut_dic m h q
        have nd : (xs.map (·.1)).Nodup := by
          obtain ⟨_, _, _, _, _, _, _, _, nd⟩ := g4
          exact nd
        have p := put_tree L hk g2 hx rx g3 nd (put_new e)
        have hlen : (storedH xs (toNK den (.tup ks)) c ud).length ≤ sizeLine := by
          rw [← paired_len p]
          have := line16
          simp; omega
        have he : ∃ q, h'.get? b = some q := let ⟨q, _, _, hq, _⟩ := dd'; ⟨q, hq⟩
        obtain ⟨m', x'⟩ := dic_put m (kvs' := kvs ++ [(.tup ks, x)]) (u := .ext (rawD X.prog X.w b (storedH xs (toNK den (.tup ks)) c ud))) q mu (noTup_ext _) (.inr ⟨_, rfl, p⟩)
        exact h2 rfl _ _ (d_write I0 mu hs he (rawD_ok dd' g5 hlen)) m' x'
      · rw [hn] at e2; cases e2
end
end Pz
set_option Elab.async false
set_option linter.all false
set_option maxRecDepth 100000
set_option maxHeartbeats 4000000
namespace Pz
open PySem L2
section
variable {I : Type} [IOps I] {den : I → Int} {ca : Nat → Addr} {X : Cx} {pins : List (Addr × Obj)} {σ : L2.St} {H : Hp} {s : Shared} {r : Rho} {S : Sto I}
theorem hits_of (I0 : L2.Inv X pins σ H s) (L : Lawful I den) (m : SimX den X ca r S H) {A : Around} (hu : A.units + 45 < cLine) {lvs : List (Val I × Val I)} {kb : List (NestedKey × Addr × Value)} (hb : Paired (EN den r H) lvs kb) :
    ∀ {kvs : List (Val I × Val I)} {ka : List (NestedKey × Addr × Value)} {b : Bool}, Paired (EN den r H) kvs ka → eqD (eqF 40 S) kvs lvs = some b → HitsH X.prog X.w A s kb ka b
  | _, _, b, .nil, e => by cases e; exact .nil
  | _, _, b, .cons (a := kv) (b := x) h t, e => by
    obtain ⟨k, v⟩ := kv
    obtain ⟨xk, xa, xv⟩ := x
    obtain ⟨h0, h1, h2, y, h3, h4⟩ := h
    cases k with
    | tup ks =>
      unfold eqD at e
      split at e
      · rename_i u hf
        split at e
        · rename_i a c e1 e2
          cases e
          rcases find_tree L hb hf with ⟨z, _⟩ | ⟨v', z, p, q1, q2, q3, q4⟩
          · cases z
          · cases q1
            rw [show toNK den (.tup ks) = xk from h1] at q2
            refine .hit q2 ?_ fun _ => hits_of I0 L m hu hb t e2
            exact (eq_run I0 L m 40 A (by omega) v u y z xv p.2 a h4 q4 h3 q3 e1).eqP
        · cases e
      · rename_i hf
        cases e
        rcases find_tree L hb hf with ⟨_, z, _⟩ | ⟨v', z, p, q1, _⟩
        · rw [show toNK den (.tup ks) = xk from h1] at z
          exact .miss z
        · cases q1
      · cases e
    | _ => cases e
/-- a dict with tuples as keys -/
theorem tree_of {b : Addr} {kvs : List (Val I × Val I)} (d : DAt den X r H s b kvs) (h : tupHead kvs = true) : ∃ ka, Paired (EN den r H) kvs ka ∧ s.heap.DictOfH (nestedKind X.prog X.w) b ka ∧ (b == sysModules) = false := by
  cases kvs with
  | nil => obtain ⟨t1, t2⟩ := dat_nil_tree d; exact ⟨[], .nil, t1, t2⟩
  | cons p l =>
    obtain ⟨k0, v0⟩ := p
    cases k0 with
    | tup ks =>
      cases d with
      | leaf ws vs h1 h2 h3 h4 h5 => cases h1 with | cons q t => cases q.1
      | tree ka h1 h2 h3 h4 => exact ⟨ka, h1, h2, h3⟩
    | _ => cases h
theorem rcP_dictsNe {prog : Program} {w : World} {K : Type} [DecidableEq K] {knd : HeapKind prog w K} {A : Around} {s : Shared} {a b : Addr} {ka kb : List (K × Addr × Value)} {r : Bool} (hk : knd.room A.in1) (ha : (a == sysModules) = false) (hb : (b == sysModules) = false)
    (da : s.heap.DictOfH knd a ka) (db : s.heap.DictOfH knd b kb) (hu : A.units < cLine) (hits : ka.length = kb.length → HitsH prog w A.in1 s kb ka r) (E Q : Value → Shared → Prop) (h : Q (.bool (!(ka.length == kb.length && r))) s) : wpAny (model prog w) A (richCompare .NotEq (.ref a) (.ref b)) Q E s := by
  refine wpAny_richCompare_same_room (op := .NotEq) da.typeIs db.typeIs PySem.F.slot_dict_ne (wpAny_call_entry PySem.F.slot_dict_ne da.typeIs PySem.F.entry_dict_ne ?_ (PySem.F.args_dict_ne_2 _ _)) hu
  show wpAny _ _ (Builtin.Dict.dictSlotArgs "__ne__" ⟨[.ref a, .ref b], []⟩ >>= _) _ _ s
  refine wpAny_bind ?_
  unfold Builtin.Dict.dictSlotArgs
  refine wpAny_bind (wpAny_notOrdered_dict da.typeIs ?_)
  show wpAny _ _ (pure (Value.ref a, Value.ref b)) _ _ s
  refine wpAny_pure ?_
  refine wpAny_bind (wpAny_isInstance (T := "dict") db.typeIs PySem.F.sub_dict_dict ?_)
  simp only [Bool.not_true, Bool.false_eq_true, if_false]
  refine wpAny_bind (wpAny_pure (wpAny_bind (wpAny_pure ?_)))
  refine wpAny_bind (samePairsH hk ha hb da db hits ?_)
  refine wpAny_pure ⟨_, rfl, ?_, ?_⟩
  · exact fun x => nomatch x
  · simpa using h
/-! ### comparisons -/
def cmpOf : Cop → CmpOp
  | .eq => .Eq | .ne => .NotEq | .lt => .Lt | .le => .LtE | .gt => .Gt | .ge => .GtE | .is => .Is | .isnot => .IsNot | .in => .In | .notin => .NotIn
def uCmp (den : I → Int) (X : Cx) (ca : Nat → Addr) (o : Cop) : R2 := fun x y H Q => ∃ (r : Rho) (S : Sto I) (va vb : Val I) (b : Bool), SimX den X ca r S H ∧ VR den r H va x ∧ VR den r H vb y ∧ cmpV S o va vb = some b ∧ Q (.bl b) H
theorem is_dic (S : Sto I) (x y : Val I) : (∃ a c kvs lk, x = .ref a ∧ y = .ref c ∧ S.get a = some (.dic kvs lk)) ∨ ∀ a c kvs lk, x = .ref a → y = .ref c → S.get a ≠ some (.dic kvs lk) := by
  cases x with
  | ref a =>
    cases y with
    | ref c =>
      cases h : S.get a with
      | none => exact .inr fun a' c' kvs lk e _ => by cases e; rw [h]; exact fun z => nomatch z
      | some o =>
        cases o with
        | dic kvs lk => exact .inl ⟨a, c, kvs, lk, rfl, rfl, h⟩
        | lst _ => exact .inr fun a' c' kvs lk e _ => by cases e; rw [h]; exact fun z => nomatch z
        | fls _ => exact .inr fun a' c' kvs lk e _ => by cases e; rw [h]; exact fun z => nomatch z
        | ins _ _ => exact .inr fun a' c' kvs lk e _ => by cases e; rw [h]; exact fun z => nomatch z
    | _ => exact .inr fun _ _ _ _ _ e => nomatch e
  | _ => exact .inr fun _ _ _ _ e => nomatch e
theorem cmp_eq (I0 : L2.Inv X pins σ H s) (L : Lawful I den) (m : SimX den X ca r S H) {A : Around} (hu : A.units + 60 < cLine) {x y : Val I} {z z' : V} {v u : Value} {b : Bool}
    (h1 : VR den r H x z) (h2 : VR den r H y z') (r1 : RelV z v) (r2 : RelV z' u) (e : eqV S x y = some b) {E Q : Value → Shared → Prop} :
    (Q (.bool b) s → wpAny (model X.prog X.w) A (compareOp .Eq v u) Q E s) ∧ (Q (.bool (!b)) s → wpAny (model X.prog X.w) A (compareOp .NotEq v u) Q E s) := by
  rcases is_dic S x y with ⟨a, c, kvs, lk, rfl, rfl, h⟩ | nd
  · cases h1 with
    | ref q1 =>
      cases h2 with
      | ref q2 =>
        cases r1
        cases r2
        unfold eqV at e
        simp only [h] at e
        cases g : S.get c with
        | none => rw [g] at e; cases e
        | some o =>
          rw [g] at e
          cases o with
          | dic lvs lk2 =>
            simp only at e
            split at e
            · rename_i th1 th2 hl
              have hl := Nat.eq_of_beq_eq_true hl
              obtain ⟨ka, p1, t1, s1⟩ := tree_of (dat_of I0 m h q1) th1
              obtain ⟨kb, p2, t2, s2⟩ := tree_of (dat_of I0 m g q2) th2
              have l1 : ka.length = kb.length := by rw [← paired_len p1, ← paired_len p2]; exact hl
              have hits : HitsH X.prog X.w A.in1 s kb ka b := hits_of I0 L m (by show A.units + 1 + 45 < cLine; omega) p2 p1 e
              constructor
              · intro hq
                exact rcP_dictsH (nroom (by omega)) s1 s2 t1 t2 (by omega) (fun _ => hits) E Q (by rw [l1]; simpa using hq)
              · intro hq
                exact rcP_dictsNe (nroom (by omega)) s1 s2 t1 t2 (by omega) (fun _ => hits) E Q (by rw [l1]; simpa using hq)
            · rename_i th1 th2 hl
              cases e
              have hl : kvs.length ≠ lvs.length := fun z => by rw [z, Nat.beq_refl] at hl; cases hl
              obtain ⟨ka, p1, t1, s1⟩ := tree_of (dat_of I0 m h q1) th1
              obtain ⟨kb, p2, t2, s2⟩ := tree_of (dat_of I0 m g q2) th2
              have l1 : (ka.length == kb.length) = false := by rw [← paired_len p1, ← paired_len p2]; simpa using hl
              constructor
              · intro hq
                exact rcP_dictsH (r := true) (nroom (by omega)) s1 s2 t1 t2 (by omega) (fun z => by rw [z] at l1; simp at l1) E Q (by rw [l1]; exact hq)
              · intro hq
                exact rcP_dictsNe (r := true) (nroom (by omega)) s1 s2 t1 t2 (by omega) (fun z => by rw [z] at l1; simp at l1) E Q (by rw [l1]; exact hq)
            · cases e
          | _ => cases e
  · exact ⟨fun hq => rcEq_run I0 L m (by omega) h1 h2 r1 r2 e nd X.prog X.w E Q hq, fun hq => rcNe_run I0 L m (by omega) h1 h2 r1 r2 e nd X.prog X.w E Q hq⟩
theorem memV_items {x : Val I} : ∀ {ys : List (Val I)} {b : Bool}, memV S x ys = some b → (∀ (j : Nat) (y : Val I), ys[j]? = some y → ∃ c, eqF 40 S y x = some c) ∧ (b = true ↔ ∃ (j : Nat) (y : Val I), ys[j]? = some y ∧ eqF 40 S y x = some true)
  | [], b, e => by
    cases e
    exact ⟨fun j y h => by simp at h, by simp⟩
  | y :: ys, b, e => by
    unfold memV at e
    split at e
    · rename_i a c e1 e2
      cases e
      obtain ⟨g1, g2⟩ := memV_items e2
      refine ⟨fun j z h => ?_, ?_⟩
      · cases j with
        | zero => simp at h; subst h; exact ⟨a, e1⟩
        | succ j => exact g1 j z (by simpa using h)
      · rw [Bool.or_eq_true, g2]
        constructor
        · rintro (z | ⟨j, z, h1, h2⟩)
          · subst z; exact ⟨0, y, rfl, e1⟩
          · exact ⟨j + 1, z, by simpa using h1, h2⟩
        · rintro ⟨j, z, h1, h2⟩
          cases j with
          | zero => simp at h1; subst h1; rw [e1] at h2; exact .inl (Option.some.inj h2)
          | succ j => exact .inr ⟨j, z, by simpa using h1, h2⟩
    · cases e
/-- x in a sequence: which of its items are x -/
theorem mem_at (I0 : L2.Inv X pins σ H s) (L : Lawful I den) (m : SimX den X ca r S H) {A : Around} (hu : A.units + 60 < cLine) {x : Val I} {z : V} {v : Value} {ys : List (Val I)} {ws : List V} {its : List Value} {b : Bool}
    (h1 : VR den r H x z) (r1 : RelV z v) (h2 : VRs den r H ys ws) (r2 : Vals ws its) (e : memV S x ys = some b) :
    ∃ f : Value → Bool, (∀ y, y ∈ its.toArray → SeqAt.EqAt A.in1 s y v (f y)) ∧ its.toArray.any f = b := by
  obtain ⟨g1, g2⟩ := memV_items e
  have at_ : ∀ (j : Nat) (u : Value), its[j]? = some u → ∃ y c, ys[j]? = some y ∧ eqF 40 S y x = some c ∧ SeqAt.EqAt A.in1 s u v c := by
    intro j u hu'
    have l1 := r2.length
    have l2 := h2.length
    have hj : j < its.length := (List.getElem?_eq_some_iff.mp hu').1
    obtain ⟨y, hy⟩ : ∃ y, ys[j]? = some y := ⟨_, List.getElem?_eq_getElem (by omega)⟩
    obtain ⟨w0, hw, vw⟩ := h2.get hy
    obtain ⟨u', hu2, ru⟩ := r2.get hw
    rw [hu'] at hu2; cases hu2
    obtain ⟨c, hc⟩ := g1 j y hy
    exact ⟨y, c, hy, hc, eq_run I0 L m 40 A.in1 (by show A.units + 1 + 40 < cLine; omega) y x w0 z u v c vw h1 ru r1 hc⟩
  classical
  let f : Value → Bool := fun u => decide (∃ (j : Nat) (y : Val I), its[j]? = some u ∧ ys[j]? = some y ∧ eqF 40 S y x = some true)
  refine ⟨f, fun u hm => ?_, ?_⟩
  · have hm : u ∈ its := by simpa using hm
    obtain ⟨j, hj⟩ := List.mem_iff_getElem?.mp hm
    by_cases q : ∃ (j : Nat) (y : Val I), its[j]? = some u ∧ ys[j]? = some y ∧ eqF 40 S y x = some true
    · rw [show f u = true from decide_eq_true q]
      obtain ⟨i, y, i1, i2, i3⟩ := q
      obtain ⟨y', c, y1, y2, y3⟩ := at_ i u i1
      rw [i2] at y1; cases y1
      rw [i3] at y2; cases y2
      exact y3
    · rw [show f u = false from decide_eq_false q]
      obtain ⟨y', c, y1, y2, y3⟩ := at_ j u hj
      cases c with
      | false => exact y3
      | true => exact absurd ⟨j, y', hj, y1, y2⟩ q
  · rw [Bool.eq_iff_iff, g2]
    rw [show its.toArray.any f = its.any f by simp, List.any_eq_true]
    constructor
    · rintro ⟨u, hm, q⟩
      obtain ⟨j, y, _, q2, q3⟩ := of_decide_eq_true q
      exact ⟨j, y, q2, q3⟩
    · rintro ⟨j, y, q2, q3⟩
      have l1 := r2.length
      have l2 := h2.length
      have hj : j < ys.length := (List.getElem?_eq_some_iff.mp q2).1
      have hi : its[j]? = some its[j] := List.getElem?_eq_getElem (by omega)
      exact ⟨_, List.mem_of_getElem? hi, decide_eq_true ⟨j, y, hi, q2, q3⟩⟩
theorem cmp_in (I0 : L2.Inv X pins σ H s) (L : Lawful I den) (m : SimX den X ca r S H) {A : Around} (hu : A.units + 60 < cLine) {x y : Val I} {z z' : V} {v u : Value} {b : Bool}
    (h1 : VR den r H x z) (h2 : VR den r H y z') (r1 : RelV z v) (r2 : RelV z' u) (e : inV S x y = some b) {E Q : Value → Shared → Prop} :
    ((∀ s', L2.Inv X pins σ H s' → Q (.bool b) s') → wpAny (model X.prog X.w) A (compareOp .In v u) Q E s) ∧ ((∀ s', L2.Inv X pins σ H s' → Q (.bool (!b)) s') → wpAny (model X.prog X.w) A (compareOp .NotIn v u) Q E s) := by
  cases h2 with
  | tup g1 g2 =>
    cases r2
    obtain ⟨its, rv, p⟩ := isTup_of I0 g1
    obtain ⟨f, f1, f2⟩ := mem_at I0 L m hu h1 r1 g2 rv (show memV S x _ = some b from e)
    exact ⟨fun hq => SeqAt.in_tupleAt f p f1 (by rw [f2]; exact hq _ I0), fun hq => SeqAt.notIn_tupleAt f p f1 (by rw [f2]; exact hq _ I0)⟩
  | str t =>
    obtain ⟨tk, rfl⟩ := r2
    cases h1 with
    | str c =>
      obtain ⟨tk2, rfl⟩ := r1
      have e : (match c.cps.toList with | [c] => some (t.cps.toList.any (Nat.beq c)) | _ => none) = some b := e
      split at e
      · rename_i n hn
        cases e
        have hc : c = ⟨#[n]⟩ := by
          obtain ⟨⟨l⟩⟩ := c
          simp only at hn
          subst hn
          rfl
        subst hc
        have hd : decide (n ∈ t.cps.toList) = t.cps.toList.any (Nat.beq n) := by
          rw [Bool.eq_iff_iff, decide_eq_true_eq, List.any_eq_true]
          constructor
          · intro h; exact ⟨n, h, Nat.beq_refl n⟩
          · rintro ⟨k, h, q⟩; rw [Nat.eq_of_beq_eq_true q]; exact h
        have fo := StrLaws.found_one t n
        rw [hd] at fo
        exact ⟨fun hq => PyProof.Rows.in_str (by rw [fo]; exact hq _ I0), fun hq => PyProof.Rows.notIn_str (by rw [fo]; exact hq _ I0)⟩
      · cases e
    | non => cases e
    | bl _ => cases e
    | int _ => cases e
    | tup _ _ => cases e
    | ref _ => cases e
  | ref q =>
    cases r2
    rename_i a1 b1
    have e : (match S.get a1 with | some (.lst ys) => memV S x ys | some (.dic kvs _) => (kFind x kvs).map Option.isSome | _ => none) = some b := e
    cases g : S.get a1 with
    | none => rw [g] at e; cases e
    | some o =>
      rw [g] at e
      cases o with
      | lst ys =>
        obtain ⟨ws, o1, o2⟩ := lst_ob m g q
        obtain ⟨its, rv, p⟩ := isLst_of I0 o1
        obtain ⟨f, f1, f2⟩ := mem_at I0 L m hu h1 r1 o2 rv e
        exact ⟨fun hq => SeqAt.in_listAt f p f1 (by rw [f2]; exact hq _ I0), fun hq => SeqAt.notIn_listAt f p f1 (by rw [f2]; exact hq _ I0)⟩
      | dic kvs lk =>
        obtain ⟨o', e1, e2⟩ := Option.map_eq_some_iff.mp e
        subst e2
        exact ⟨fun hq => run_in I0 L m (by omega) g q h1 r1 e1 hq, fun hq => run_notin I0 L m (by omega) g q h1 r1 e1 hq⟩
      | fls _ => cases e
      | ins _ _ => cases e
  | non => cases e
  | bl _ => cases e
  | int _ => cases e
theorem icmp_lt (L : Lawful I den) {i j : I} {b : Bool} (h : IOps.cmp .lt i j = some b) : decide (den i < den j) = b := L.cmp _ _ _ _ h
theorem icmp_le (L : Lawful I den) {i j : I} {b : Bool} (h : IOps.cmp .le i j = some b) : decide (den i ≤ den j) = b := L.cmp _ _ _ _ h
theorem u_cmp (L : Lawful I den) (hu : X.A.units + 60 < cLine) (o : Cop) : OpR X (compareOp (cmpOf o)) (uCmp den X ca o) := by
  rintro pins s σ H x y v u Q I0 rx ry ⟨r, S, va, vb, b, m, hx, hy, e, q⟩
  cases o with
  | eq => exact (cmp_eq I0 L m hu hx hy rx ry e).1 ⟨.bl b, H, I0, rfl, q⟩
  | ne =>
    obtain ⟨c, e1, rfl⟩ := Option.map_eq_some_iff.mp (show (eqV S va vb).map (!·) = some b from e)
    exact (cmp_eq I0 L m hu hx hy rx ry e1).2 ⟨.bl (!c), H, I0, rfl, q⟩
  | lt =>
    cases va <;> cases vb <;> try (cases e; done)
    cases hx; cases hy
    exact op_lt pins s σ H _ _ v u Q I0 rx ry ⟨_, _, rfl, rfl, by have q' := q; rw [← icmp_lt L e] at q'; exact q'⟩
  | le =>
    cases va <;> cases vb <;> try (cases e; done)
    cases hx; cases hy
    exact op_le pins s σ H _ _ v u Q I0 rx ry ⟨_, _, rfl, rfl, by have q' := q; rw [← icmp_le L e] at q'; exact q'⟩
  | gt =>
    cases va <;> cases vb <;> try (cases e; done)
    cases hx; cases hy
    exact op_gt pins s σ H _ _ v u Q I0 rx ry ⟨_, _, rfl, rfl, by have q' := q; rw [← icmp_lt L e] at q'; exact q'⟩
  | ge =>
    cases va <;> cases vb <;> try (cases e; done)
    cases hx; cases hy
    exact op_ge pins s σ H _ _ v u Q I0 rx ry ⟨_, _, rfl, rfl, by have q' := q; rw [← icmp_le L e] at q'; exact q'⟩
  | is =>
    cases vb <;> try (cases e; done)
    cases hy
    refine op_isN pins s σ H _ _ v u Q I0 rx ry ⟨rfl, ?_⟩
    cases va <;> cases hx <;> cases e <;> exact q
  | isnot =>
    cases vb <;> try (cases e; done)
    cases hy
    refine op_notN pins s σ H _ _ v u Q I0 rx ry ⟨rfl, ?_⟩
    cases va <;> cases hx <;> cases e <;> exact q
  | «in» => exact (cmp_in I0 L m hu hx hy rx ry e).1 fun s' I' => ⟨.bl b, H, I', rfl, q⟩
  | notin =>
    obtain ⟨c, e1, rfl⟩ := Option.map_eq_some_iff.mp (show (inV S va vb).map (!·) = some b from e)
    exact (cmp_in I0 L m hu hx hy rx ry e1).2 fun s' I' => ⟨.bl (!c), H, I', rfl, q⟩
end
end Pz
set_option Elab.async false
set_option linter.all false
set_option maxRecDepth 100000
set_option maxHeartbeats 4000000
namespace Pz
open PySem L2
section
variable {I : Type} [IOps I] {den : I → Int} {ca : Nat → Addr} {X : Cx}
theorem place_ixN {n j : Nat} {i : Int} (h : place n i = some j) : ixN n i = some j := by
  unfold place at h
  unfold ixN
  split at h
  · rename_i h0
    rw [if_pos h0]; exact h
  · rename_i h0
    rw [if_neg h0]
    split at h
    · rename_i h1
      rw [if_pos (by omega)]; exact h
    · cases h
theorem asI_den (L : Lawful I den) {v : Val I} {i : Int} (h : asI v = some i) : ∃ j, v = .int j ∧ den j = i := by
  cases v with
  | int j => exact ⟨j, rfl, L.val _ _ h⟩
  | _ => cases h
def uGet (den : I → Int) (X : Cx) (ca : Nat → Addr) : R2 := fun x y H Q => ∃ (r : Rho) (S : Sto I) (va vi v : Val I), SimX den X ca r S H ∧ VR den r H va x ∧ VR den r H vi y ∧ getV S va vi = some v ∧ ∀ z, VR den r H v z → Q z H
theorem seq_at {r : Rho} {H : Hp} {xs : List (Val I)} {ys : List V} {k : Int} {v : Val I} (h : VRs den r H xs ys) (e : (match place xs.length k with | some j => xs[j]? | none => none) = some v) : ∃ z, atI ys k = some z ∧ VR den r H v z := by
  split at e
  · rename_i j hj
    obtain ⟨z, h1, h2⟩ := h.get e
    refine ⟨z, ?_, h2⟩
    unfold atI
    rw [← h.length, place_ixN hj]
    exact h1
  · cases e
theorem u_get (L : Lawful I den) (hu : X.A.units + 60 < cLine) : IxR X (uGet den X ca) := by
  intro value slice pins s σ H x y v u Q I0 rx ry ⟨r, S, va, vi, w, m, hx, hy, e, q⟩ hs
  cases hx with
  | tup h1 h2 =>
    have e : (match asI vi with | some k => (match place _ k with | some j => _ | none => none) | none => none) = some w := e
    split at e
    · rename_i k hk
      obtain ⟨j, rfl, rfl⟩ := asI_den L hk
      cases hy
      obtain ⟨z, e1, e2⟩ := seq_at h2 e
      exact ix_tup value slice pins s σ H _ _ v u Q I0 rx ry ⟨_, _, _, z, rfl, rfl, SqT.of h1, e1, q z e2⟩ hs
    · cases e
  | str t =>
    unfold getV at e
    simp only at e
    split at e
    · rename_i k hk e'
      obtain ⟨j, rfl, rfl⟩ := asI_den L hk
      cases hy
      split at e
      · rename_i j hj
        obtain ⟨c, e1, e2⟩ := Option.map_eq_some_iff.mp e
        subst e2
        have hl : t.cps.toList.length = t.cps.size := by simp
        refine ix_str value slice pins s σ H _ _ v u Q I0 rx ry ⟨t, _, c, rfl, rfl, ?_, ?_, q _ (.str _)⟩ hs
        · have := okL_le e'
          rw [hl] at this
          exact Nat.le_trans (Nat.le_of_lt this) line16
        · unfold atI
          rw [hl, place_ixN hj]
          exact e1
      · cases e
    · cases e
  | ref q1 =>
    rename_i a b
    have e : (match S.get a with
      | some (.lst xs) => match asI vi with
        | some k => match place xs.length k with
          | some j => xs[j]?
          | none => none
        | none => none
      | some (.dic kvs _) => match kFind vi kvs with
        | some (some v) => some v
        | _ => none
      | _ => none) = some w := e
    cases g : S.get a with
    | none => rw [g] at e; cases e
    | some o =>
      rw [g] at e
      cases o with
      | lst xs =>
        simp only at e
        obtain ⟨ys, o1, o2⟩ := lst_ob m g q1
        split at e
        · rename_i k hk
          obtain ⟨j, rfl, rfl⟩ := asI_den L hk
          cases hy
          obtain ⟨z, e1, e2⟩ := seq_at o2 e
          exact ix_list value slice pins s σ H _ _ v u Q I0 rx ry ⟨_, _, _, z, rfl, rfl, SqL.of o1, e1, q z e2⟩ hs
        · cases e
      | dic kvs lk =>
        simp only at e
        split at e
        · rename_i v' hv
          cases e
          cases rx
          refine PyProof.Rows.tail_any ?_ PySem.F.slot_dict_getitem.lookup (run_get I0 L m (by omega) g q1 hy ry hv fun s' z w' I' hz rz => ⟨z, H, I', rz, q z hz⟩) hs
          rcases dat_of I0 m g q1 with ⟨ws, vs, h1, h2, h3, h4, h5⟩ | ⟨ka, h1, h2, h3, h4⟩
          · exact h3.typeIs
          · exact h2.typeIs
        · cases e
      | fls _ => cases e
      | ins _ _ => cases e
  | non => cases e
  | bl _ => cases e
  | int _ => cases e
/-- o[i] = v -/
def uSet (den : I → Int) (X : Cx) (ca : Nat → Addr) : TSet := fun o i v H Q => ∃ (r : Rho) (S : Sto I) (va vi vv : Val I) (S' : Sto I), SimX den X ca r S H ∧ VR den r H va o ∧ VR den r H vi i ∧ VR den r H vv v ∧ putV S va vi vv = some S' ∧ ∀ H', Ext r H r H' → SimX den X ca r S' H' → Q H'
theorem u_set (L : Lawful I den) (hu : X.A.units + 60 < cLine) : PSet X (uSet den X ca) := by
  intro pins s σ H o i v ov iv u Q I0 ro ri rv ⟨r, S, va, vi, vv, S', m, ho, hi, hv, e, q⟩
  cases ho with
  | ref q1 =>
    rename_i a b
    cases ro
    have e : (match S.get a with
      | some (.lst xs) => match asI vi with
        | some k => match place xs.length k with
          | some j => some (S.set a (.lst (xs.set j vv)))
          | none => none
        | none => none
      | some (.dic kvs 0) => match kPut vi vv kvs, okL kvs with
        | some kvs', true => some (S.set a (.dic kvs' 0))
        | _, _ => none
      | _ => none) = some S' := e
    cases g : S.get a with
    | none => rw [g] at e; cases e
    | some ob =>
      rw [g] at e
      cases ob with
      | lst xs =>
        simp only at e
        obtain ⟨ys, o1, o2⟩ := lst_ob m g q1
        split at e
        · rename_i k hk
          obtain ⟨j, rfl, rfl⟩ := asI_den L hk
          cases hi
          split at e
          · rename_i j' hj
            cases e
            obtain ⟨m', x⟩ := m.put (u := .lst (ys.set j' v)) (o := .lst (xs.set j' vv)) q1 (.of o1 fun _ _ z => nomatch z) (noTup_lst _) fun H' eH mo ms => ⟨_, by rw [eH, upd_same], (ms _ _ o2).set j' (mo _ _ hv)⟩
            exact set_list pins s σ H (.ref b) _ v _ iv u Q I0 rfl ri rv ⟨_, _, _, j', rfl, rfl, o1, by rw [← o2.length]; exact place_ixN hj, q _ x m'⟩
          · cases e
        · cases e
      | dic kvs lk =>
        cases lk with
        | succ n => cases e
        | zero =>
          simp only at e
          split at e
          · rename_i kvs' hp hl
            cases e
            exact run_set I0 L m (by omega) g q1 hi ri hv rv hp (okL_le hl) fun s' H' I' m' x => ⟨H', I', q H' x m'⟩
          · cases e
      | fls _ => cases e
      | ins _ _ => cases e
  | tup _ _ => cases e
  | str _ => cases e
  | non => cases e
  | bl _ => cases e
  | int _ => cases e
/-- x[lo:hi] -/
theorem clip_sIx (n d : Nat) (o : Option Int) : HT.sIx n d o = match o with | none => d | some i => clip n i := by
  cases o with
  | none => rfl
  | some i =>
    unfold HT.sIx clip
    simp only
    split <;> split <;> first | rfl | omega
theorem VRs.cut {r : Rho} {H : Hp} {xs : List (Val I)} {ys : List V} (h : VRs den r H xs ys) (lo hi : Option Int) :
    VRs den r H (cutL xs (match lo with | none => 0 | some i => clip xs.length i) (match hi with | none => xs.length | some i => clip xs.length i)) (cutV ys lo hi) := by
  unfold cutL cutV
  rw [← h.length, clip_sIx, clip_sIx]
  exact (h.drop _).take _
theorem cut_whole (xs : List V) (lo hi : Option Int) (h : HT.sIx xs.length 0 lo = 0 ∧ HT.sIx xs.length xs.length hi = xs.length) : cutV xs lo hi = xs := by
  unfold cutV
  rw [h.1, h.2]
  simp
def uSl (den : I → Int) (X : Cx) (ca : Nat → Addr) : V → Option Int → Option Int → Hp → VK → Prop := fun x lo hi H Q => ∃ (r : Rho) (S : Sto I) (va v : Val I) (S' : Sto I), SimX den X ca r S H ∧ VR den r H va x ∧ sliceV S va lo hi none = .ok v S' ∧ Fin den X ca r H v S' Q
theorem u_sl : SlR X (uSl den X ca) := by
  intro pins s σ H x v vl vu lo hi sl Q I0 rx hs pl pu ⟨r, S, va, w, S', m, hx, e, f⟩
  cases hx with
  | tup h1 h2 =>
    have e : opt (some _) (fun ys => Rs.ok (Val.tup ys) S) = .ok w S' := e
    cases e
    have hc := h2.cut lo hi
    refine sl_tupA pins s σ H _ v vl vu lo hi sl Q I0 rx hs pl pu ⟨_, _, rfl, SqT.of h1, fun z => ?_, fun z => f.tup m hc⟩
    rw [cut_whole _ _ _ z] at hc
    exact f.same m (.tup h1 hc)
  | ref q1 =>
    rename_i a b
    unfold sliceV at e
    simp only at e
    split at e
    · rename_i xs g
      have e : fresh S (.lst _) = .ok w S' := e
      obtain ⟨ys, o1, o2⟩ := lst_ob m g q1
      exact sl_list pins s σ H _ v vl vu lo hi sl Q I0 rx hs pl pu ⟨_, _, rfl, SqL.of o1, f.lst m (o2.cut lo hi) e⟩
    · rename_i xs g
      have e : fresh S (.lst _) = .ok w S' := e
      obtain ⟨b1, z1, ob⟩ := m.ob _ _ g
      rw [q1] at z1; cases z1
      obtain ⟨o, ys, g1, g2⟩ := ob
      exact sl_list pins s σ H _ v vl vu lo hi sl Q I0 rx hs pl pu ⟨_, _, rfl, .inl (.inr ⟨o, g1⟩), f.lst m (g2.cut lo hi) e⟩
    · cases e
  | non => cases e
  | bl _ => cases e
  | int _ => cases e
  | str _ => cases e
end
end Pz
set_option Elab.async false
set_option linter.all false
set_option maxRecDepth 100000
set_option maxHeartbeats 4000000
namespace Pz
open PySem L2
section
variable {I : Type} [IOps I] {den : I → Int} {ca : Nat → Addr} {X : Cx} {pins : List (Addr × Obj)} {σ : L2.St} {H : Hp} {s : Shared} {r : Rho} {S : Sto I}
/-- what is called: a method of lists, of dicts -/
def mtyp (m : BM) : String := if m.isL then "list" else "dict"
theorem rcv_type (I0 : L2.Inv X pins σ H s) (m : SimX den X ca r S H) {k : BM} {v : Val I} {x : V} {u : Value} (hv : VR den r H v x) (rx : RelV x u) (h : rcv k v S = true) :
    ∃ p, u = .ref p ∧ s.TypeIs u (mtyp k) ∧ ∀ a, u = .ref a → ∃ ob, s.heap.get? a = some ob ∧ ob.dict = none := by
  cases hv with
  | ref q =>
    rename_i a b
    cases rx
    refine ⟨b, rfl, ?_⟩
    have h : (match S.get a with | some (.lst _) => k.isL | some (.dic _ _) => !k.isL | _ => false) = true := h
    cases g : S.get a with
    | none => rw [g] at h; cases h
    | some o =>
      rw [g] at h
      cases o with
      | lst xs =>
        have h : k.isL = true := h
        obtain ⟨ys, o1, o2⟩ := lst_ob m g q
        obtain ⟨its, _, pl, _⟩ := I0.list (SqL.of o1)
        unfold mtyp
        rw [h, if_pos rfl]
        refine ⟨pl.isList.typeIs, fun a e => ?_⟩
        cases e
        obtain ⟨o, n, e, c, hd, _⟩ := pl
        exact ⟨o, e, hd⟩
      | dic kvs lk =>
        have h : (!k.isL) = true := h
        have h : k.isL = false := by simpa using h
        unfold mtyp
        rw [h, if_neg Bool.false_ne_true]
        have z : ∃ o, s.heap.get? b = some o ∧ o.ExactDict := by
          rcases dat_of I0 m g q with ⟨ws, vs, h1, h2, h3, h4, h5⟩ | ⟨ka, h1, h2, h3, h4⟩
          · obtain ⟨o, _, _, e, ex, _⟩ := h3; exact ⟨o, e, ex⟩
          · obtain ⟨o, _, _, e, ex, _⟩ := h2; exact ⟨o, e, ex⟩
        obtain ⟨o, e, ex⟩ := z
        refine ⟨⟨o, e, ex.1⟩, fun a e2 => ?_⟩
        cases e2
        exact ⟨o, e, ex.2.1⟩
      | fls _ => cases h
      | ins _ _ => cases h
  | _ => cases h
/-- a method's call, by values -/
def uBM (den : I → Int) (X : Cx) (ca : Nat → Addr) (k : BM) : V → List V → Hp → VK → Prop := fun x xs H Q => ∃ (r : Rho) (S : Sto I) (va v : Val I) (vs : List (Val I)) (S' : Sto I), SimX den X ca r S H ∧ VR den r H va x ∧ VRs den r H vs xs ∧ bmV k va vs S = .ok v S' ∧ Fin den X ca r H v S' Q
theorem vr_ref {a : Nat} {x : V} (h : VR den r H (.ref a : Val I) x) : ∃ b, x = .ref b ∧ r a = some b := by cases h with | ref q => exact ⟨_, rfl, q⟩
theorem Fin.put {a : Nat} {b : Addr} {u : HO} {o : Ob I} {v : Val I} {z : V} {Q : VK} (f : Fin den X ca r H v (S.set a o) Q) (m : SimX den X ca r S H) (q : r a = some b) (nf : NotFrz H b) (nt : NoTup u)
    (ho : ∀ H', H' = upd H b u → (∀ v y, VR den r H v y → VR den r H' v y) → (∀ v y, VRs den r H v y → VRs den r H' v y) → ObR den X.prog X.w ca r H' b o) (hv : VR den r H v z) : Q z (upd H b u) := by
  obtain ⟨m', x⟩ := m.put q nf nt ho
  exact f r _ z x m' (hv.mono x)
theorem run_get1 (I0 : L2.Inv X pins σ H s) (L : Lawful I den) (m : SimX den X ca r S H) {A : Around} (hu : A.units + 40 < cLine) {a : Nat} {b : Addr} {kvs : List (Val I × Val I)} {lk : Nat} {k : Val I} {o : Option (Val I)} {y : V} {u : Value} {E Q : Value → Shared → Prop}
    (h : S.get a = some (.dic kvs lk)) (q : r a = some b) (hk : VR den r H k y) (ry : RelV y u) (e : kFind k kvs = some o)
    (hQ : ∀ s' z w', L2.Inv X pins σ H s' → VR den r H (o.getD .non) z → RelV z w' → Q w' s') : wpAny (model X.prog X.w) A (call (.builtin "dict.get") [.ref b, u]) Q E s := by
  cases dsort_of L m (dat_of I0 m h q) e with
  | leaf kk ws vs h1 h2 h3 h4 h5 h6 =>
    refine call_meetsIn PySem.F.slot_dict_get h4.typeIs PySem.F.entry_dict_get (PySem.F.args_dict_get_2 _ _) (meets_dict_get (mixKind X.prog X.w) b (kV_is (by rw [← key_rel h1 hk]; exact ry)) h5) ⟨_, h4.mapOf, ?_⟩
    rcases find_leaf L h1 (elv_of h2 h3) e with ⟨rfl, z⟩ | ⟨v', z, w', rfl, e2, e3, e4⟩
    · rw [z]; exact hQ _ _ _ (I0.tok _) .non rfl
    · rw [e2]; exact hQ _ _ _ (I0.tok _) e4 e3
  | tree xs h1 h2 h3 h4 h5 h6 =>
    obtain ⟨ts, rfl⟩ := h1
    obtain ⟨c, rfl⟩ := tup_ref hk
    cases ry
    refine call_meetsIn PySem.F.slot_dict_get h4.typeIs PySem.F.entry_dict_get (PySem.F.args_dict_get_2 _ _) (meetsH_dict_get (nestedKind X.prog X.w) b c h5) ⟨nroom hu, _, xs, kis_of I0 h2 hk, h4, ?_⟩
    rcases find_tree L h3 e with ⟨rfl, z, _⟩ | ⟨v', z, p, rfl, e2, e3, e4⟩
    · rw [z]; exact hQ _ _ _ (I0.tok _) .non rfl
    · rw [e2]; exact hQ _ _ _ (I0.tok _) e4 e3
theorem lstAt_ok {x : Val I} {a : Nat} {ys : List (Val I)} (e : lstAt x S = some (a, ys)) : x = .ref a ∧ S.get a = some (.lst ys) := by
  unfold lstAt at e
  split at e
  · split at e
    · rename_i h
      cases e
      exact ⟨rfl, h⟩
    · cases e
  · cases e
theorem dicAt_ok {x : Val I} {a lk : Nat} {kvs : List (Val I × Val I)} (e : dicAt x S = some (a, kvs, lk)) : x = .ref a ∧ S.get a = some (.dic kvs lk) := by
  unfold dicAt at e
  split at e
  · split at e
    · rename_i h
      cases e
      exact ⟨rfl, h⟩
    · cases e
  · cases e
theorem arg1_ok {vs : List (Val I)} {v : Val I} (e : arg1 vs = some v) : vs = [v] := by
  unfold arg1 at e
  split at e
  · cases e; rfl
  · cases e
theorem arg2_ok {vs : List (Val I)} {v u : Val I} (e : arg2 vs = some (v, u)) : vs = [v, u] := by
  unfold arg2 at e
  split at e
  · cases e; rfl
  · cases e
theorem asTup_ok {v : Val I} {xs : List (Val I)} (e : asTup v = some xs) : v = .tup xs := by
  cases v with
  | tup ys => cases e; rfl
  | _ => cases e
theorem guard_ok {b : Bool} {A : Type} {x : Rs I A} {v : A} {S' : Sto I} (e : guard b x = .ok v S') : b = true ∧ x = .ok v S' := by
  cases b with
  | true => exact ⟨rfl, e⟩
  | false => cases e
theorem VRs.one {v : Val I} {xs : List V} (h : VRs den r H [v] xs) : ∃ y, xs = [y] ∧ VR den r H v y := by
  cases h with
  | cons a t => cases t; exact ⟨_, rfl, a⟩
theorem VRs.two {v u : Val I} {xs : List V} (h : VRs den r H [v, u] xs) : ∃ y z, xs = [y, z] ∧ VR den r H v y ∧ VR den r H u z := by
  cases h with
  | cons a t => cases t with | cons b t => cases t; exact ⟨_, _, rfl, a, b⟩
theorem u_append : MtR X "list.append" (uBM den X ca .append) := by
  intro pins s σ H x xs v us Q I0 rx rs ⟨r, S, va, w, vs, S', m, hx, hs, e, f⟩
  obtain ⟨⟨a, ys⟩, e1, e⟩ := opt_ok (show m_append va vs S = .ok w S' from e)
  obtain ⟨u, e2, e⟩ := opt_ok e
  obtain ⟨hl, e⟩ := guard_ok e
  cases e
  obtain ⟨rfl, g⟩ := lstAt_ok e1
  cases arg1_ok e2
  obtain ⟨b, rfl, q⟩ := vr_ref hx
  obtain ⟨y, rfl, h1⟩ := hs.one
  obtain ⟨ws, o1, o2⟩ := lst_ob m g q
  have hz := okL_le hl
  have hz : ws.length < 16000000 := by rw [← o2.length]; exact hz
  exact mt_append pins s σ H _ _ v us Q I0 rx rs ⟨b, ws, _, rfl, rfl, o1, Nat.lt_of_lt_of_le hz line16, f.put m q (.of o1 fun _ _ z => nomatch z) (noTup_lst _) (fun H' eH mo ms => ⟨_, by rw [eH, upd_same], (ms _ _ o2).append (.cons (mo _ _ h1) .nil)⟩) .non⟩
theorem u_pop (L : Lawful I den) : MtR X "list.pop" (uBM den X ca .pop) := by
  intro pins s σ H x xs v us Q I0 rx rs ⟨r, S, va, w, vs, S', m, hx, hs, e, f⟩
  have e : m_pop va vs S = .ok w S' := e
  unfold m_pop at e
  split at e
  · obtain ⟨⟨a, ys⟩, e1, e9⟩ := opt_ok e
    clear e
    obtain ⟨rfl, g⟩ := lstAt_ok e1
    obtain ⟨b, rfl, q⟩ := vr_ref hx
    cases hs
    obtain ⟨ws, o1, o2⟩ := lst_ob m g q
    split at e9
    · rename_i y yr hy
      cases e9
      have hy' : ys = yr.reverse ++ [w] := by rw [← List.reverse_reverse ys, hy]; simp
      subst hy'
      have o3 := o2.get (i := yr.length) (x := w) (by simp)
      obtain ⟨z, z1, z2⟩ := o3
      have l1 := o2.length
      simp at l1
      have o4 : VRs den r H yr.reverse ws.dropLast := by
        have := o2.take yr.length
        rw [List.take_left' (by simp)] at this
        rw [List.dropLast_eq_take, ← l1]
        simpa using this
      exact mt_pop pins s σ H _ _ v us Q I0 rx rs ⟨b, ws, z, rfl, rfl, o1, by rw [← l1]; simpa using z1, f.put m q (.of o1 fun _ _ z => nomatch z) (noTup_lst _) (fun H' eH mo ms => ⟨_, by rw [eH, upd_same], ms _ _ o4⟩) z2⟩
    · cases e9
  · rename_i i
    obtain ⟨⟨a, ys⟩, e1, e⟩ := opt_ok e
    obtain ⟨k, e2, e⟩ := opt_ok e
    obtain ⟨j, e3, e⟩ := opt_ok e
    obtain ⟨u, e4, e⟩ := opt_ok e
    cases e
    obtain ⟨rfl, g⟩ := lstAt_ok e1
    obtain ⟨b, rfl, q⟩ := vr_ref hx
    obtain ⟨y, rfl, h1⟩ := hs.one
    obtain ⟨i', rfl, rfl⟩ := asI_den L e2
    cases h1
    obtain ⟨ws, o1, o2⟩ := lst_ob m g q
    obtain ⟨n1, n2, n3, n4⟩ := ixN_seq (place_ixN e3)
    obtain ⟨z, z1, z2⟩ := o2.get e4
    have hz : ws.length ≤ sizeLine := (I0.hok b _ o1).1
    have l1 := o2.length
    have l2 := line63
    simp only at n3 n4
    exact mt_popAt pins s σ H _ _ v us Q I0 rx rs ⟨b, ws, _, j, z, rfl, rfl, o1, by omega, by omega, by rw [← l1]; exact n1, z1, f.put m q (.of o1 fun _ _ z => nomatch z) (noTup_lst _) (fun H' eH mo ms => ⟨_, by rw [eH, upd_same], (ms _ _ o2).eraseIdx j⟩) z2⟩
  · cases e
theorem seqAt_ok {v : Val I} {S : Sto I} {ys : List (Val I)} (h : seqAt v S = some ys) : v = .tup ys ∨ ∃ c, v = .ref c ∧ S.get c = some (.lst ys) := by
  cases v with
  | tup xs => cases h; exact .inl rfl
  | ref c =>
    have h : (match lstAt (.ref c : Val I) S with | some p => some p.2 | none => none) = some ys := h
    split at h
    · rename_i p e
      cases h
      obtain ⟨p1, p2⟩ := p
      obtain ⟨e1, g⟩ := lstAt_ok e
      cases e1
      exact .inr ⟨c, rfl, g⟩
    · cases h
  | _ => cases h
theorem extend_tup (l : Addr) (items : Array Value) (n : Nat) (b : Addr) (items2 : Array Value) (n2 : Nat) (dd : Option Addr) (sl : Array (Option Value)) (hs0 : ¬(!items.isEmpty && Builtin.List.listTooLong (items.size + items2.size)) = true) (hs1 : items.size ≤ sizeLine) (hs2 : items.size + items2.size ≤ sizeLine + 1) :
    Meets (Builtin.«list.extend» ⟨[.ref l, .ref b], []⟩) (fun _ R s => s.heap.get? l = some { cls := .type "list", dict := none, data := .seq items n, slots := #[] } ∧ s.heap.get? b = some { cls := .type "tuple", dict := dd, data := .seq items2 n2, slots := sl } ∧ R (.ok (.ret Value.none)) { s with heap := s.heap.update l (Obj.mapSeq fun x => x ++ items2), toks := s.toks }) :=
  .of_wp fun prog w A R s h => by
    obtain ⟨hp, g, d, tk, os⟩ := s; obtain ⟨hl, hb, h⟩ := h; have f1 := PySem.F.sub_tuple_tuple; have f3 := PySem.F.sub_list_list; have f4 := PySem.F.sub_tuple_list; have f5 := PySem.F.sub_list_tuple
    have hz' : (items ++ items2).size ≤ sizeLine + 1 := by rw [Array.size_append]; exact hs2
    wp_walk using (wpAny_updateSeq hl rfl (hz := hs1) (_hz' := hz')), wpAny_loadPart' hl, wpAny_loadPart' hb; exact ⟨_, rfl, h⟩
theorem mt_extendT : MtM X "list.extend" (fun x vs H Q => ∃ l b xs zs, x = .ref l ∧ vs = [.ref b] ∧ H l = some (.lst xs) ∧ H b = some (.tup zs) ∧ xs.length + zs.length ≤ sizeLine ∧ Q .non (upd H l (.lst (xs ++ zs)))) := by
  intro pins s σ H x vs v us Q I0 rx rv h
  obtain ⟨l, b, xs, zs, rfl, rfl, hH, hB, hz, q⟩ := h
  cases rx
  obtain ⟨u, rfl, ru⟩ := rv.one
  cases ru
  obtain ⟨z, its, n, r, hl, e⟩ := I0.lstM hH
  obtain ⟨its2, r2, ⟨⟨cls, dd, data, sl⟩, ho, hc, n2, hd⟩, hz2⟩ := I0.tuple (SqT.of (K := X.K) hB)
  simp only at hc hd
  subst hc hd
  have l1 := r.length
  have l2 := r2.length
  have hsz : its.toArray.size + its2.toArray.size ≤ sizeLine := by rw [List.size_toArray, List.size_toArray]; omega
  have hlong : ¬ (!its.toArray.isEmpty && Builtin.List.listTooLong (its.toArray.size + its2.toArray.size)) = true := by
    rw [notLongL hsz, Bool.and_false]
    exact Bool.false_ne_true
  refine call_meets PySem.F.slot_list_extend ⟨_, e, rfl⟩ PySem.F.entry_list_extend (PySem.F.args_list_extend_2 _ _)
    (extend_tup l its.toArray n b its2.toArray n2 dd sl hlong (by rw [List.size_toArray]; omega) (by omega)) ⟨e, ho, ?_⟩
  refine ⟨.non, _, I0.lset (its' := its ++ its2) hH e (by simp) (r.append r2) ?_, rfl, q⟩
  rw [List.length_append]
  omega
theorem u_extend : MtR X "list.extend" (uBM den X ca .extend) := by
  intro pins s σ H x xs v us Q I0 rx rs ⟨r, S, va, w, vs, S', m, hx, hs, e, f⟩
  obtain ⟨⟨a, ys⟩, e1, e⟩ := opt_ok (show m_extend va vs S = .ok w S' from e)
  obtain ⟨u, e2, e⟩ := opt_ok e
  obtain ⟨zs, e3, e⟩ := opt_ok e
  obtain ⟨hl, e⟩ := guard_ok e
  cases e
  obtain ⟨rfl, g⟩ := lstAt_ok e1
  cases arg1_ok e2
  obtain ⟨b, rfl, q⟩ := vr_ref hx
  obtain ⟨y, rfl, h1⟩ := hs.one
  obtain ⟨ws, o1, o2⟩ := lst_ob m g q
  have hz := okL_le hl
  simp only [List.length_append] at hz
  rcases seqAt_ok e3 with rfl | ⟨c, rfl, g2⟩
  · cases h1 with
    | tup t1 t2 =>
      rw [o2.length, t2.length] at hz
      exact mt_extendT pins s σ H _ _ v us Q I0 rx rs ⟨b, _, ws, _, rfl, rfl, o1, t1, Nat.le_trans (Nat.le_of_lt hz) line16, f.put m q (.of o1 fun _ _ z => nomatch z) (noTup_lst _) (fun H' eH mo ms => ⟨_, by rw [eH, upd_same], (ms _ _ o2).append (ms _ _ t2)⟩) .non⟩
  · obtain ⟨b2, rfl, q2⟩ := vr_ref h1
    obtain ⟨ws2, o3, o4⟩ := lst_ob m g2 q2
    rw [o2.length, o4.length] at hz
    exact mt_extend pins s σ H _ _ v us Q I0 rx rs ⟨b, b2, ws, ws2, rfl, rfl, o1, o3, Nat.le_trans (Nat.le_of_lt hz) line16, f.put m q (.of o1 fun _ _ z => nomatch z) (noTup_lst _) (fun H' eH mo ms => ⟨_, by rw [eH, upd_same], (ms _ _ o2).append (ms _ _ o4)⟩) .non⟩
theorem u_mget (L : Lawful I den) (hu : X.A.units + 60 < cLine) : MtR X "dict.get" (uBM den X ca .get) := by
  intro pins s σ H x xs v us Q I0 rx rs ⟨r, S, va, w, vs, S', m, hx, hs, e, f⟩
  obtain ⟨⟨a, kvs, lk⟩, e1, e9⟩ := opt_ok (show m_get va vs S = .ok w S' from e)
  clear e
  obtain ⟨rfl, g⟩ := dicAt_ok e1
  obtain ⟨b, rfl, q⟩ := vr_ref hx
  cases rx
  split at e9
  · rename_i k
    obtain ⟨o, e2, e⟩ := opt_ok e9
    cases e
    obtain ⟨y, rfl, h1⟩ := hs.one
    obtain ⟨u, rfl, ru⟩ := rs.one
    exact run_get1 I0 L m (by omega) g q h1 ru e2 fun s' z w' I' hz rz => ⟨z, H, I', rz, f.same m hz⟩
  · rename_i k d
    obtain ⟨o, e2, e⟩ := opt_ok e9
    cases e
    obtain ⟨y, z, rfl, h1, h2⟩ := hs.two
    obtain ⟨u, u2, rfl, ru, ru2⟩ := rs.two
    exact run_getOr I0 L m (by omega) g q h1 ru h2 ru2 e2 fun s' z w' I' hz rz => ⟨z, H, I', rz, f.same m hz⟩
  · cases e9
theorem u_msetdef (L : Lawful I den) (hu : X.A.units + 60 < cLine) : MtR X "dict.setdefault" (uBM den X ca .setdefault) := by
  intro pins s σ H x xs v us Q I0 rx rs ⟨r, S, va, w, vs, S', m, hx, hs, e, f⟩
  obtain ⟨⟨a, kvs, lk⟩, e1, e⟩ := opt_ok (show m_setdef va vs S = .ok w S' from e)
  obtain ⟨⟨k, d⟩, e2, e⟩ := opt_ok e
  obtain ⟨ks, e3, e⟩ := opt_ok e
  obtain ⟨hl, e⟩ := guard_ok e
  obtain ⟨o, e4, e⟩ := opt_ok e
  obtain ⟨rfl, g⟩ := dicAt_ok e1
  cases arg2_ok e2
  cases asTup_ok e3
  obtain ⟨b, rfl, q⟩ := vr_ref hx
  cases rx
  obtain ⟨y, z, rfl, h1, h2⟩ := hs.two
  obtain ⟨u, u2, rfl, ru, ru2⟩ := rs.two
  cases o with
  | some v0 =>
    cases e
    refine run_setdef I0 L m (by omega) g q h1 ru h2 ru2 e4 (okL_le hl) (fun z => nomatch z) (fun v s' z w' ev I' hz rz => ?_) fun z => nomatch z
    cases ev
    exact ⟨z, H, I', rz, f.same m hz⟩
  | none =>
    obtain ⟨h0, e⟩ := guard_ok e
    cases e
    have h0 := Nat.eq_of_beq_eq_true h0
    simp only at h0
    subst h0
    exact run_setdef I0 L m (by omega) g q h1 ru h2 ru2 e4 (okL_le hl) (fun _ => rfl) (fun v s' z w' ev => nomatch ev) fun _ s' H' I' m' x => ⟨z, H', I', ru2, f _ _ _ x m' (h2.mono x)⟩
end
end Pz
set_option Elab.async false
set_option linter.all false
set_option maxRecDepth 100000
set_option maxHeartbeats 4000000
namespace Pz
open PySem L2
section
variable {I : Type} [IOps I] {den : I → Int} {ca : Nat → Addr} {X : Cx} {G : Pg I}
theorem pe_imp {e : Expr} {t t' : TE} (h : PE X e t') (w : ∀ σ H Q, t σ H Q → t' σ H Q) : PE X e t := ⟨fun pins s σ H Q I q => h.run pins s σ H Q I (w _ _ _ q)⟩
theorem pt_imp {e : Expr} {t t' : TT} (h : PT X e t') (w : ∀ σ H Q, t σ H Q → t' σ H Q) : PT X e t := ⟨fun pins s σ H Q I q => h.run pins s σ H Q I (w _ _ _ q)⟩
theorem pw_imp {e : Expr} {t t' : TT} (h : PW X e t') (w : ∀ σ H Q, t σ H Q → t' σ H Q) : PW X e t := ⟨fun wh pins s σ H Q I q => h.run wh pins s σ H Q I (w _ _ _ q)⟩
theorem pa_imp {es : List Expr} {t t' : TA} (h : PA X es t') (w : ∀ σ H Q, t σ H Q → t' σ H Q) : PA X es t := ⟨fun pos pins s σ H Q I q => h.run pos pins s σ H Q I (w _ _ _ q)⟩
theorem ps_imp {e : Stmt} {t t' : TS} (h : PS X e t') (w : ∀ D σ H, t D σ H → t' D σ H) : PS X e t := ⟨fun pins s σ H D I q => h.run pins s σ H D I (w _ _ _ q)⟩
theorem pss_imp {e : List Stmt} {t t' : TS} (h : PSs X e t') (w : ∀ D σ H, t D σ H → t' D σ H) : PSs X e t := ⟨fun pins s σ H D I q => h.run pins s σ H D I (w _ _ _ q)⟩
/-- what is wanted of values; of a bool -/
def FinA (den : I → Int) (X : Cx) (ca : Nat → Addr) (r : Rho) (H : Hp) (vs : List (Val I)) (S' : Sto I) (Q : List V → Hp → Prop) : Prop :=
  ∀ r' H' zs, Ext r H r' H' → SimX den X ca r' S' H' → VRs den r' H' vs zs → Q zs H'
def FinT (den : I → Int) (X : Cx) (ca : Nat → Addr) (r : Rho) (H : Hp) (b : Bool) (S' : Sto I) (Q : Bool → Hp → Prop) : Prop :=
  ∀ r' H', Ext r H r' H' → SimX den X ca r' S' H' → Q b H'
theorem Fin.ext {r r' : Rho} {H H' : Hp} {v : Val I} {S S' : Sto I} {Q : VK} (f : Fin den X ca r H v S' Q) (x : Ext r H r' H') (m : SimX den X ca r S H) : Fin den X ca r' H' v S' Q := fun r2 H2 z x2 m2 h2 => f r2 H2 z (x.trans x2 m.live) m2 h2
theorem FinA.ext {r r' : Rho} {H H' : Hp} {v : List (Val I)} {S S' : Sto I} {Q : List V → Hp → Prop} (f : FinA den X ca r H v S' Q) (x : Ext r H r' H') (m : SimX den X ca r S H) : FinA den X ca r' H' v S' Q := fun r2 H2 z x2 m2 h2 => f r2 H2 z (x.trans x2 m.live) m2 h2
theorem FinT.ext {r r' : Rho} {H H' : Hp} {v : Bool} {S S' : Sto I} {Q : Bool → Hp → Prop} (f : FinT den X ca r H v S' Q) (x : Ext r H r' H') (m : SimX den X ca r S H) : FinT den X ca r' H' v S' Q := fun r2 H2 x2 m2 => f r2 H2 (x.trans x2 m.live) m2
/-- the universal readings -/
def uE (G : Pg I) (den : I → Int) (X : Cx) (ca : Nat → Addr) (d : Nat) (ir : Ex I) : TE := fun σ H Q => ∃ (n : Nat) (r : Rho) (S : Sto I) (τ : Env I) (v : Val I) (S' : Sto I),
  SimX den X ca r S H ∧ ER den r H τ σ ∧ (evN G n).e d ir τ S = .ok v S' ∧ Fin den X ca r H v S' Q
def uT (G : Pg I) (den : I → Int) (X : Cx) (ca : Nat → Addr) (d : Nat) (ir : Ex I) : TT := fun σ H Q => ∃ (n : Nat) (r : Rho) (S : Sto I) (τ : Env I) (v : Val I) (b : Bool) (S' : Sto I),
  SimX den X ca r S H ∧ ER den r H τ σ ∧ (evN G n).e d ir τ S = .ok v S' ∧ asBl v = some b ∧ FinT den X ca r H b S' Q
def uA (G : Pg I) (den : I → Int) (X : Cx) (ca : Nat → Addr) (d : Nat) (irs : List (Ex I)) : TA := fun σ H Q => ∃ (n : Nat) (r : Rho) (S : Sto I) (τ : Env I) (vs : List (Val I)) (S' : Sto I),
  SimX den X ca r S H ∧ ER den r H τ σ ∧ (evN G n).es d irs τ S = .ok vs S' ∧ FinA den X ca r H vs S' Q
theorem asBl_ok {v : Val I} {b : Bool} (h : asBl v = some b) : v = .bl b := by
  cases v with
  | bl c => cases h; rfl
  | _ => cases h
theorem vr_bl {r : Rho} {H : Hp} {b : Bool} {z : V} (h : VR den r H (.bl b : Val I) z) : z = .bl b := by cases h; rfl
theorem vr_int {r : Rho} {H : Hp} {i : I} {z : V} (h : VR den r H (.int i : Val I) z) : z = .int (den i) := by cases h; rfl
theorem vr_str {r : Rho} {H : Hp} {x : Str} {z : V} (h : VR den r H (.str x : Val I) z) : z = .str x := by cases h; rfl
/-- an expression, as a value and as a test -/
structure OkE (G : Pg I) (den : I → Int) (X : Cx) (ca : Nat → Addr) (d : Nat) (e : Expr) (ir : Ex I) : Prop where
  pe : PE X e (uE G den X ca d ir)
  pt : PT X e (uT G den X ca d ir)
  pw : ∀ op es p, e = .BoolOp op es p → PW X e (uT G den X ca d ir)
/-- a value that is no and, or, not, comparison -/
theorem ok_val {d : Nat} {e : Expr} {ir : Ex I} (h : PE X e (uE G den X ca d ir)) (he : ∀ whole, isTrue e X.env whole = (do let v ← whole; standAt e.pos; holding [v] (truthy v))) (hb : ∀ op es p, e ≠ .BoolOp op es p) : OkE G den X ca d e ir :=
  ⟨h, pt_imp (pt_val h he) fun σ H Q ⟨n, r, S, τ, v, b, S', m, er, e, eb, f⟩ => ⟨n, r, S, τ, v, S', m, er, e, fun r' H' z x m' hv => by
    cases asBl_ok eb
    cases vr_bl hv
    exact ⟨b, rfl, f r' H' x m'⟩⟩, fun op es p h => absurd h (hb op es p)⟩
/-! ### constants, names -/
theorem uE_cst {d : Nat} {v : Val I} {z : V} (hz : ∀ (r : Rho) (H : Hp), VR den r H v z) : ∀ σ H Q, uE G den X ca d (.cst v) σ H Q → tC z σ H Q := by
  rintro σ H Q ⟨n, r, S, τ, w, S', m, er, e, f⟩
  cases n with
  | zero => cases e
  | succ n =>
    cases e
    exact f.same m (hz r H)
theorem ok_int (L : Lawful I den) {d : Nat} {i : Int} {j : Nat} {pos : Pos} : OkE G den X ca d (.Constant (.int i) j pos) (.cst (lit i)) :=
  ok_val (pe_imp pe_int (uE_cst fun r H => by have := VR.int (den := den) (r := r) (H := H) (IOps.lit i); rwa [L.lit] at this)) (fun _ => rfl) (fun _ _ _ h => nomatch h)
theorem ok_bl {d : Nat} {i : Bool} {j : Nat} {pos : Pos} : OkE G den X ca d (.Constant (.bool i) j pos) (.cst (.bl i)) :=
  ok_val (pe_imp pe_bl (uE_cst fun r H => .bl i)) (fun _ => rfl) (fun _ _ _ h => nomatch h)
theorem ok_non {d : Nat} {j : Nat} {pos : Pos} : OkE G den X ca d (.Constant .none j pos) (.cst .non) :=
  ok_val (pe_imp pe_non (uE_cst fun r H => .non)) (fun _ => rfl) (fun _ _ _ h => nomatch h)
theorem ok_str {d : Nat} {x : Str} {j : Nat} {pos : Pos} : OkE G den X ca d (.Constant (.str x) j pos) (.cst (.str x)) :=
  ok_val (pe_imp pe_str (uE_cst fun r H => .str x)) (fun _ => rfl) (fun _ _ _ h => nomatch h)
theorem ok_gint (L : Lawful I den) {d : Nat} {x : Str} {i : Int} {t : Tok} {pos : Pos} (hg : Gl X x) (hm : X.mg x = some (.int i t)) (hd : (x == ("__debug__" : Str)) = false) : OkE G den X ca d (.Name x pos) (.cst (lit i)) :=
  ok_val (pe_imp (pe_glob (v := .int i) hg hm ⟨t, rfl⟩ hd) (uE_cst fun r H => by have := VR.int (den := den) (r := r) (H := H) (IOps.lit i); rwa [L.lit] at this)) (fun _ => rfl) (fun _ _ _ h => nomatch h)
theorem ok_gstr {d : Nat} {x y : Str} {t : Tok} {pos : Pos} (hg : Gl X x) (hm : X.mg x = some (.str y t)) (hd : (x == ("__debug__" : Str)) = false) : OkE G den X ca d (.Name x pos) (.cst (.str y)) :=
  ok_val (pe_imp (pe_glob (v := .str y) hg hm ⟨t, rfl⟩ hd) (uE_cst fun r H => .str y)) (fun _ => rfl) (fun _ _ _ h => nomatch h)
theorem ok_var {d : Nat} {i : Nat} {x : Str} {pos : Pos} (hN : X.N[i]? = some x) (hv : Vis X.env.scope x) (hd : (x == ("__debug__" : Str)) = false) (hcd : (x == ("__classdict__" : Str)) = false) : OkE G den X ca d (.Name x pos) (.var i) := by
  refine ok_val (pe_imp (pe_var hN hv hd hcd) ?_) (fun _ => rfl) (fun _ _ _ h => nomatch h)
  rintro σ H Q ⟨n, r, S, τ, w, S', m, er, e, f⟩
  cases n with
  | zero => cases e
  | succ n =>
    have e : (match τ[i]? with | some (some v) => Rs.ok v S | _ => .bad) = Rs.ok w S' := e
    split at e
    · rename_i v hv
      cases e
      obtain ⟨y, h1, h2⟩ := er.2 i _ hv
      exact ⟨y, h1, f.same m h2⟩
    · cases e
/-! ### operations -/
theorem ok_bin (L : Lawful I den) {d : Nat} {a b : Expr} {ia ib : Ex I} {o : Bop} {pos : Pos} (ha : PE X a (uE G den X ca d ia)) (hb : PE X b (uE G den X ca d ib)) : OkE G den X ca d (.BinOp a (opOf o) b pos) (.bin o ia ib) := by
  refine ok_val (pe_imp (pe_op (u_bin (ca := ca) L o) ha hb) ?_) (fun _ => rfl) (fun _ _ _ h => nomatch h)
  rintro σ H Q ⟨n, r, S, τ, w, S', m, er, e, f⟩
  cases n with
  | zero => cases e
  | succ n =>
    obtain ⟨x, S1, e1, e⟩ := bind_ok (show e_bin (evN G n) d o ia ib τ S = .ok w S' from e)
    obtain ⟨y, S2, e2, e⟩ := bind_ok e
    exact ⟨n, r, S, τ, x, S1, m, er, e1, fun r1 H1 z x1 m1 h1 => ⟨n, r1, S1, τ, y, S2, m1, er.mono x1, e2, fun r2 H2 z2 x2 m2 h2 => ⟨r2, S2, x, y, w, S', m2, h1.mono x2, h2, e, (f.ext x1 m).ext x2 m1⟩⟩⟩
theorem ok_neg (L : Lawful I den) {d : Nat} {a : Expr} {ia : Ex I} {pos : Pos} (ha : PE X a (uE G den X ca d ia)) (hun : UnR X (unaryOp .USub) (rU fun i => .int (-i))) : OkE G den X ca d (.UnaryOp .USub a pos) (.neg ia) := by
  refine ok_val (pe_imp (pe_un hun ha) ?_) (fun _ => rfl) (fun _ _ _ h => nomatch h)
  rintro σ H Q ⟨n, r, S, τ, w, S', m, er, e, f⟩
  cases n with
  | zero => cases e
  | succ n =>
    obtain ⟨x, S1, e1, e⟩ := bind_ok (show e_neg (evN G n) d ia τ S = .ok w S' from e)
    obtain ⟨i, e2, e⟩ := opt_ok e
    obtain ⟨j, e3, e⟩ := opt_ok e
    cases e
    refine ⟨n, r, S, τ, x, _, m, er, e1, fun r1 H1 z x1 m1 h1 => ?_⟩
    cases x with
    | int i' =>
      have e2 : i' = i := Option.some.inj e2
      subst e2
      cases vr_int h1
      refine ⟨den i', rfl, ?_⟩
      have h3 : den j = - den i' := by
        have := L.bin _ _ _ _ e3
        rw [L.lit] at this
        have h4 : some (0 - den i') = some (den j) := this
        have := Option.some.inj h4
        omega
      show Q (.int (-den i')) H1
      rw [← h3]
      exact f _ _ _ x1 m1 (.int j)
    | _ => cases e2
theorem ok_not {d : Nat} {a : Expr} {ia : Ex I} {pos : Pos} (ha : OkE G den X ca d a ia) : OkE G den X ca d (.UnaryOp .Not a pos) (.not ia) := by
  have go : ∀ {n : Nat} {τ : Env I} {S S' : Sto I} {w : Val I}, (evN G n).e d (.not ia) τ S = .ok w S' → ∃ k c, n = k + 1 ∧ (evN G k).e d ia τ S = .ok (.bl c) S' ∧ w = .bl (!c) := by
    intro n τ S S' w e
    cases n with
    | zero => cases e
    | succ n =>
      obtain ⟨x, S1, e1, e⟩ := bind_ok (show e_not (evN G n) d ia τ S = .ok w S' from e)
      obtain ⟨b, e2, e⟩ := opt_ok e
      cases e
      cases asBl_ok e2
      exact ⟨n, b, rfl, e1, rfl⟩
  refine ⟨pe_imp (pe_not ha.pe) ?_, pt_imp (pt_not ha.pt) ?_, fun _ _ _ h => nomatch h⟩
  · rintro σ H Q ⟨n, r, S, τ, w, S', m, er, e, f⟩
    obtain ⟨k, c, rfl, e1, rfl⟩ := go e
    refine ⟨k, r, S, τ, _, S', m, er, e1, fun r1 H1 z x1 m1 h1 => ?_⟩
    cases vr_bl h1
    exact ⟨c, rfl, f _ _ _ x1 m1 (.bl _)⟩
  · rintro σ H Q ⟨n, r, S, τ, w, b, S', m, er, e, eb, f⟩
    obtain ⟨k, c, rfl, e1, rfl⟩ := go e
    cases eb
    exact ⟨k, r, S, τ, _, c, S', m, er, e1, rfl, f⟩
theorem go_cmp {d : Nat} {ia ib : Ex I} {o : Cop} {n : Nat} {τ : Env I} {S S' : Sto I} {w : Val I} (e : (evN G n).e d (.cmp o ia ib) τ S = .ok w S') :
    ∃ k x S1 y c, n = k + 1 ∧ (evN G k).e d ia τ S = .ok x S1 ∧ (evN G k).e d ib τ S1 = .ok y S' ∧ cmpV S' o x y = some c ∧ w = .bl c := by
  cases n with
  | zero => cases e
  | succ n =>
    obtain ⟨x, S1, e1, e⟩ := bind_ok (show e_cmp (evN G n) d o ia ib τ S = .ok w S' from e)
    obtain ⟨y, S2, e2, e⟩ := bind_ok e
    obtain ⟨c, e3, e⟩ := opt_ok e
    cases e
    exact ⟨n, x, S1, y, c, rfl, e1, e2, e3, rfl⟩
theorem ok_cmp (L : Lawful I den) (hu : X.A.units + 60 < cLine) {d : Nat} {a b : Expr} {ia ib : Ex I} {o : Cop} {pos : Pos} (ha : PE X a (uE G den X ca d ia)) (hb : PE X b (uE G den X ca d ib)) (hm : behindInMarks (cmpOf o) b = false) : OkE G den X ca d (.Compare a [cmpOf o] [b] pos) (.cmp o ia ib) := by
  refine ⟨pe_imp (pe_cmpR (u_cmp (ca := ca) L hu o) ha hb hm) ?_, pt_imp (pt_cmpR (u_cmp (ca := ca) L hu o) ha hb hm) ?_, fun _ _ _ h => nomatch h⟩
  · rintro σ H Q ⟨n, r, S, τ, w, S', m, er, e, f⟩
    obtain ⟨k, x, S1, y, c, rfl, e1, e2, e3, rfl⟩ := go_cmp e
    exact ⟨k, r, S, τ, x, S1, m, er, e1, fun r1 H1 z x1 m1 h1 => ⟨k, r1, S1, τ, y, S', m1, er.mono x1, e2, fun r2 H2 z2 x2 m2 h2 => ⟨r2, S', x, y, c, m2, h1.mono x2, h2, e3, f _ _ _ (x1.trans x2 m.live) m2 (.bl c)⟩⟩⟩
  · rintro σ H Q ⟨n, r, S, τ, w, b, S', m, er, e, eb, f⟩
    obtain ⟨k, x, S1, y, c, rfl, e1, e2, e3, rfl⟩ := go_cmp e
    obtain rfl : c = b := Option.some.inj eb
    exact ⟨k, r, S, τ, x, S1, m, er, e1, fun r1 H1 z x1 m1 h1 => ⟨k, r1, S1, τ, y, S', m1, er.mono x1, e2, fun r2 H2 z2 x2 m2 h2 => ⟨r2, S', x, y, c, m2, h1.mono x2, h2, e3, c, rfl, f _ _ (x1.trans x2 m.live) m2⟩⟩⟩
theorem ok_chn (L : Lawful I den) (hu : X.A.units + 60 < cLine) {d : Nat} {a b c : Expr} {ia ib ic : Ex I} {o p : Cop} {pos : Pos} (ha : PE X a (uE G den X ca d ia)) (hb : PE X b (uE G den X ca d ib)) (hc : PE X c (uE G den X ca d ic)) (hm : lastMarks [cmpOf o, cmpOf p] [b, c] = false) : OkE G den X ca d (.Compare a [cmpOf o, cmpOf p] [b, c] pos) (.chn o p ia ib ic) := by
  have go : ∀ {n : Nat} {τ : Env I} {S S' : Sto I} {w : Val I}, (evN G n).e d (.chn o p ia ib ic) τ S = .ok w S' → ∃ k x S1 y S2 t, n = k + 1 ∧ (evN G k).e d ia τ S = .ok x S1 ∧ (evN G k).e d ib τ S1 = .ok y S2 ∧ cmpV S2 o x y = some t ∧
      ((t = false ∧ S' = S2 ∧ w = .bl false) ∨ (t = true ∧ ∃ z q, (evN G k).e d ic τ S2 = .ok z S' ∧ cmpV S' p y z = some q ∧ w = .bl q)) := by
    intro n τ S S' w e
    cases n with
    | zero => cases e
    | succ n =>
      obtain ⟨x, S1, e1, e⟩ := bind_ok (show e_chn (evN G n) d o p ia ib ic τ S = .ok w S' from e)
      obtain ⟨y, S2, e2, e⟩ := bind_ok e
      obtain ⟨t, e3, e⟩ := opt_ok e
      refine ⟨n, x, S1, y, S2, t, rfl, e1, e2, e3, ?_⟩
      cases t with
      | false => cases e; exact .inl ⟨rfl, rfl, rfl⟩
      | true =>
        obtain ⟨z, S3, e4, e⟩ := bind_ok e
        obtain ⟨q, e5, e⟩ := opt_ok e
        cases e
        exact .inr ⟨rfl, z, q, e4, e5, rfl⟩
  refine ⟨pe_imp (pe_chain (u_cmp (ca := ca) L hu o) (u_cmp (ca := ca) L hu p) ha hb hc hm) ?_, pt_imp (pt_chain (u_cmp (ca := ca) L hu o) (u_cmp (ca := ca) L hu p) ha hb hc hm) ?_, fun _ _ _ h => nomatch h⟩
  · rintro σ H Q ⟨n, r, S, τ, w, S', m, er, e, f⟩
    obtain ⟨k, x, S1, y, S2, t, rfl, e1, e2, e3, e4⟩ := go e
    refine ⟨k, r, S, τ, x, S1, m, er, e1, fun r1 H1 z x1 m1 h1 => ⟨k, r1, S1, τ, y, S2, m1, er.mono x1, e2, fun r2 H2 z2 x2 m2 h2 => ⟨r2, S2, x, y, t, m2, h1.mono x2, h2, e3, t, rfl, ?_⟩⟩⟩
    rcases e4 with ⟨rfl, rfl, rfl⟩ | ⟨rfl, u, q, e4, e5, rfl⟩
    · rw [if_neg Bool.false_ne_true]
      exact f _ _ _ (x1.trans x2 m.live) m2 (.bl false)
    · rw [if_pos rfl]
      exact ⟨k, r2, S2, τ, u, S', m2, (er.mono x1).mono x2, e4, fun r3 H3 z3 x3 m3 h3 => ⟨r3, S', y, u, q, m3, h2.mono x3, h3, e5, f _ _ _ ((x1.trans x2 m.live).trans x3 m.live) m3 (.bl q)⟩⟩
  · rintro σ H Q ⟨n, r, S, τ, w, b, S', m, er, e, eb, f⟩
    obtain ⟨k, x, S1, y, S2, t, rfl, e1, e2, e3, e4⟩ := go e
    refine ⟨k, r, S, τ, x, S1, m, er, e1, fun r1 H1 z x1 m1 h1 => ⟨k, r1, S1, τ, y, S2, m1, er.mono x1, e2, fun r2 H2 z2 x2 m2 h2 => ⟨r2, S2, x, y, t, m2, h1.mono x2, h2, e3, t, rfl, ?_⟩⟩⟩
    rcases e4 with ⟨rfl, rfl, rfl⟩ | ⟨rfl, u, q, e4, e5, rfl⟩
    · rw [if_neg Bool.false_ne_true]
      cases eb
      exact ⟨false, rfl, f _ _ (x1.trans x2 m.live) m2⟩
    · rw [if_pos rfl]
      obtain rfl : q = b := Option.some.inj eb
      exact ⟨k, r2, S2, τ, u, S', m2, (er.mono x1).mono x2, e4, fun r3 H3 z3 x3 m3 h3 => ⟨r3, S', y, u, q, m3, h2.mono x3, h3, e5, q, rfl, f _ _ ((x1.trans x2 m.live).trans x3 m.live) m3⟩⟩
end
end Pz
set_option Elab.async false
set_option linter.all false
set_option maxRecDepth 100000
set_option maxHeartbeats 4000000
namespace Pz
open PySem L2
section
variable {I : Type} [IOps I] {den : I → Int} {ca : Nat → Addr} {X : Cx} {G : Pg I}
/-! ### and, or, if-else -/
theorem ok_one {d : Nat} {a : Expr} {ia : Ex I} {op : BoolOp} {pos : Pos} (ha : OkE G den X ca d a ia) : OkE G den X ca d (.BoolOp op [a] pos) ia := by
  have pw : PW X (.BoolOp op [a] pos) (uT G den X ca d ia) := by
    cases op with
    | And => exact pw_and1 ha.pt
    | Or => exact pw_or1 ha.pt
  exact ⟨pe_one ha.pe, pw.pt, fun _ _ _ _ => pw⟩
theorem go_and {d : Nat} {ia ib : Ex I} {n : Nat} {τ : Env I} {S S' : Sto I} {w : Val I} (e : (evN G n).e d (.and ia ib) τ S = .ok w S') :
    ∃ k c S1, n = k + 1 ∧ (evN G k).e d ia τ S = .ok (.bl c) S1 ∧ ((c = false ∧ S' = S1 ∧ w = .bl false) ∨ (c = true ∧ (evN G k).e d ib τ S1 = .ok w S')) := by
  cases n with
  | zero => cases e
  | succ n =>
    obtain ⟨x, S1, e1, e⟩ := bind_ok (show e_and (evN G n) d ia ib τ S = .ok w S' from e)
    obtain ⟨c, e2, e⟩ := opt_ok e
    cases asBl_ok e2
    refine ⟨n, c, S1, rfl, e1, ?_⟩
    cases c with
    | false => cases e; exact .inl ⟨rfl, rfl, rfl⟩
    | true => exact .inr ⟨rfl, e⟩
theorem go_or {d : Nat} {ia ib : Ex I} {n : Nat} {τ : Env I} {S S' : Sto I} {w : Val I} (e : (evN G n).e d (.or ia ib) τ S = .ok w S') :
    ∃ k c S1, n = k + 1 ∧ (evN G k).e d ia τ S = .ok (.bl c) S1 ∧ ((c = true ∧ S' = S1 ∧ w = .bl true) ∨ (c = false ∧ (evN G k).e d ib τ S1 = .ok w S')) := by
  cases n with
  | zero => cases e
  | succ n =>
    obtain ⟨x, S1, e1, e⟩ := bind_ok (show e_or (evN G n) d ia ib τ S = .ok w S' from e)
    obtain ⟨c, e2, e⟩ := opt_ok e
    cases asBl_ok e2
    refine ⟨n, c, S1, rfl, e1, ?_⟩
    cases c with
    | true => cases e; exact .inl ⟨rfl, rfl, rfl⟩
    | false => exact .inr ⟨rfl, e⟩
theorem ok_and {d : Nat} {a b : Expr} {rest : List Expr} {ia ib : Ex I} {pos : Pos} (ha : OkE G den X ca d a ia) (hb : OkE G den X ca d (.BoolOp .And (b :: rest) pos) ib) : OkE G den X ca d (.BoolOp .And (a :: b :: rest) pos) (.and ia ib) := by
  have tt : ∀ σ H Q, uT G den X ca d (.and ia ib) σ H Q → tAnd (uT G den X ca d ia) (uT G den X ca d ib) σ H Q := by
    rintro σ H Q ⟨n, r, S, τ, w, q, S', m, er, e, eb, f⟩
    obtain ⟨k, c, S1, rfl, e1, e2⟩ := go_and e
    refine ⟨k, r, S, τ, _, c, S1, m, er, e1, rfl, fun r1 H1 x1 m1 => ?_⟩
    rcases e2 with ⟨rfl, rfl, rfl⟩ | ⟨rfl, e2⟩
    · rw [if_neg Bool.false_ne_true]
      obtain rfl : false = q := Option.some.inj eb
      exact f _ _ x1 m1
    · rw [if_pos rfl]
      exact ⟨k, r1, S1, τ, w, q, S', m1, er.mono x1, e2, eb, f.ext x1 m⟩
  have pw : PW X (.BoolOp .And (a :: b :: rest) pos) (uT G den X ca d (.and ia ib)) := pw_imp (pw_and ha.pt (hb.pw _ _ _ rfl)) tt
  refine ⟨pe_imp (pe_and ha.pe hb.pe) ?_, pw.pt, fun _ _ _ _ => pw⟩
  rintro σ H Q ⟨n, r, S, τ, w, S', m, er, e, f⟩
  obtain ⟨k, c, S1, rfl, e1, e2⟩ := go_and e
  refine ⟨k, r, S, τ, _, S1, m, er, e1, fun r1 H1 z x1 m1 h1 => ?_⟩
  cases vr_bl h1
  refine ⟨c, rfl, ?_⟩
  rcases e2 with ⟨rfl, rfl, rfl⟩ | ⟨rfl, e2⟩
  · rw [if_neg Bool.false_ne_true]
    exact f _ _ _ x1 m1 (.bl false)
  · rw [if_pos rfl]
    exact ⟨k, r1, S1, τ, w, S', m1, er.mono x1, e2, f.ext x1 m⟩
theorem ok_or {d : Nat} {a b : Expr} {rest : List Expr} {ia ib : Ex I} {pos : Pos} (ha : OkE G den X ca d a ia) (hb : OkE G den X ca d (.BoolOp .Or (b :: rest) pos) ib) : OkE G den X ca d (.BoolOp .Or (a :: b :: rest) pos) (.or ia ib) := by
  have tt : ∀ σ H Q, uT G den X ca d (.or ia ib) σ H Q → tOr (uT G den X ca d ia) (uT G den X ca d ib) σ H Q := by
    rintro σ H Q ⟨n, r, S, τ, w, q, S', m, er, e, eb, f⟩
    obtain ⟨k, c, S1, rfl, e1, e2⟩ := go_or e
    refine ⟨k, r, S, τ, _, c, S1, m, er, e1, rfl, fun r1 H1 x1 m1 => ?_⟩
    rcases e2 with ⟨rfl, rfl, rfl⟩ | ⟨rfl, e2⟩
    · rw [if_pos rfl]
      obtain rfl : true = q := Option.some.inj eb
      exact f _ _ x1 m1
    · rw [if_neg Bool.false_ne_true]
      exact ⟨k, r1, S1, τ, w, q, S', m1, er.mono x1, e2, eb, f.ext x1 m⟩
  have pw : PW X (.BoolOp .Or (a :: b :: rest) pos) (uT G den X ca d (.or ia ib)) := pw_imp (pw_or ha.pt (hb.pw _ _ _ rfl)) tt
  refine ⟨pe_imp (pe_or ha.pe hb.pe) ?_, pw.pt, fun _ _ _ _ => pw⟩
  rintro σ H Q ⟨n, r, S, τ, w, S', m, er, e, f⟩
  obtain ⟨k, c, S1, rfl, e1, e2⟩ := go_or e
  refine ⟨k, r, S, τ, _, S1, m, er, e1, fun r1 H1 z x1 m1 h1 => ?_⟩
  cases vr_bl h1
  refine ⟨c, rfl, ?_⟩
  rcases e2 with ⟨rfl, rfl, rfl⟩ | ⟨rfl, e2⟩
  · rw [if_pos rfl]
    exact f _ _ _ x1 m1 (.bl true)
  · rw [if_neg Bool.false_ne_true]
    exact ⟨k, r1, S1, τ, w, S', m1, er.mono x1, e2, f.ext x1 m⟩
/-- a if c else b, as a value (as a test where it's one: not needed) -/
theorem pe_ite {d : Nat} {c a b : Expr} {ic ia ib : Ex I} {pos : Pos} (hc : PT X c (uT G den X ca d ic)) (ha : PE X a (uE G den X ca d ia)) (hb : PE X b (uE G den X ca d ib)) : PE X (.IfExp c a b pos) (uE G den X ca d (.ite ic ia ib)) := by
  refine pe_imp (pe_ifExp hc ha hb) ?_
  rintro σ H Q ⟨n, r, S, τ, w, S', m, er, e, f⟩
  cases n with
  | zero => cases e
  | succ n =>
    obtain ⟨x, S1, e1, e⟩ := bind_ok (show e_ite (evN G n) d ic ia ib τ S = .ok w S' from e)
    obtain ⟨k, e2, e⟩ := opt_ok e
    refine ⟨n, r, S, τ, _, k, S1, m, er, e1, e2, fun r1 H1 x1 m1 => ?_⟩
    cases k with
    | true =>
      rw [if_pos rfl]
      exact ⟨n, r1, S1, τ, w, S', m1, er.mono x1, e, f.ext x1 m⟩
    | false =>
      rw [if_neg Bool.false_ne_true]
      exact ⟨n, r1, S1, τ, w, S', m1, er.mono x1, e, f.ext x1 m⟩
/-! ### lists of expressions -/
theorem ua_nil {d : Nat} : PA X [] (uA G den X ca d []) := pa_imp pa_nil fun σ H Q ⟨n, r, S, τ, vs, S', m, er, e, f⟩ => by
  cases n with
  | zero => cases e
  | succ n =>
    cases e
    exact f _ _ _ Ext.refl m .nil
theorem ua_cons {d : Nat} {e : Expr} {es : List Expr} {ie : Ex I} {ies : List (Ex I)} (he : PE X e (uE G den X ca d ie)) (hes : PA X es (uA G den X ca d ies)) (hs : starEach (e :: es) X.env = (false, eval e X.env) :: starEach es X.env) : PA X (e :: es) (uA G den X ca d (ie :: ies)) := by
  refine pa_imp (pa_cons he hes hs) ?_
  rintro σ H Q ⟨n, r, S, τ, vs, S', m, er, e, f⟩
  cases n with
  | zero => cases e
  | succ n =>
    obtain ⟨x, S1, e1, e⟩ := bind_ok (show ((evN G n).e d ie τ S).bind _ = .ok vs S' from e)
    obtain ⟨us, S2, e2, e⟩ := bind_ok e
    cases e
    exact ⟨n, r, S, τ, x, S1, m, er, e1, fun r1 H1 z x1 m1 h1 => ⟨n, r1, S1, τ, us, _, m1, er.mono x1, e2, fun r2 H2 zs x2 m2 h2 => f _ _ _ (x1.trans x2 m.live) m2 (.cons (h1.mono x2) h2)⟩⟩
theorem ok_tup {d : Nat} {es : List Expr} {ies : List (Ex I)} {k : Nat} {pos : Pos} (h : PA X es (uA G den X ca d ies)) : OkE G den X ca d (.Tuple es k pos) (.tup ies) := by
  refine ok_val (pe_imp (pe_tup h) ?_) (fun _ => rfl) (fun _ _ _ h => nomatch h)
  rintro σ H Q ⟨n, r, S, τ, w, S', m, er, e, f⟩
  cases n with
  | zero => cases e
  | succ n =>
    obtain ⟨vs, S1, e1, e⟩ := bind_ok (show e_tup (evN G n) d ies τ S = .ok w S' from e)
    obtain ⟨hz, e⟩ := guard_ok e
    cases e
    refine ⟨n, r, S, τ, vs, _, m, er, e1, fun r1 H1 zs x1 m1 h1 => ⟨?_, (f.ext x1 m).tup m1 h1⟩⟩
    have := okL_le hz
    rw [h1.length] at this
    exact Nat.le_trans (Nat.le_of_lt this) line16
theorem ok_lst {d : Nat} {es : List Expr} {ies : List (Ex I)} {pos : Pos} (h : PA X es (uA G den X ca d ies)) : OkE G den X ca d (.List es pos) (.lst ies) := by
  refine ok_val (pe_imp (pe_lst h) ?_) (fun _ => rfl) (fun _ _ _ h => nomatch h)
  rintro σ H Q ⟨n, r, S, τ, w, S', m, er, e, f⟩
  cases n with
  | zero => cases e
  | succ n =>
    obtain ⟨vs, S1, e1, e⟩ := bind_ok (show e_lst (evN G n) d ies τ S = .ok w S' from e)
    obtain ⟨hz, e⟩ := guard_ok e
    refine ⟨n, r, S, τ, vs, _, m, er, e1, fun r1 H1 zs x1 m1 h1 => ⟨?_, (f.ext x1 m).lst m1 h1 e⟩⟩
    have := okL_le hz
    rw [h1.length] at this
    exact Nat.le_trans (Nat.le_of_lt this) line16
/-! ### subscripts, slices -/
theorem ok_idx (L : Lawful I den) (hu : X.A.units + 60 < cLine) {d : Nat} {a b : Expr} {ia ib : Ex I} {pos : Pos} (ha : PE X a (uE G den X ca d ia)) (hb : PE X b (uE G den X ca d ib)) (hs : PlainIx b) : OkE G den X ca d (.Subscript a b pos) (.idx ia ib) := by
  refine ok_val (pe_imp (pe_ix (u_get (ca := ca) L hu) ha hb hs) ?_) (fun _ => rfl) (fun _ _ _ h => nomatch h)
  rintro σ H Q ⟨n, r, S, τ, w, S', m, er, e, f⟩
  cases n with
  | zero => cases e
  | succ n =>
    obtain ⟨x, S1, e1, e⟩ := bind_ok (show e_idx (evN G n) d ia ib τ S = .ok w S' from e)
    obtain ⟨y, S2, e2, e⟩ := bind_ok e
    obtain ⟨z, e3, e⟩ := opt_ok e
    cases e
    exact ⟨n, r, S, τ, x, S1, m, er, e1, fun r1 H1 z x1 m1 h1 => ⟨n, r1, S1, τ, y, S', m1, er.mono x1, e2, fun r2 H2 z2 x2 m2 h2 => ⟨r2, S', x, y, w, m2, h1.mono x2, h2, e3, fun z3 h3 => f _ _ _ (x1.trans x2 m.live) m2 h3⟩⟩⟩
/-- the reading of a slice's part -/
def uO (G : Pg I) (den : I → Int) (X : Cx) (ca : Nat → Addr) (d : Nat) (ir : Option (Ex I)) : TO := fun σ H Q => ∃ (n : Nat) (r : Rho) (S : Sto I) (τ : Env I) (v : Option Int) (S' : Sto I),
  SimX den X ca r S H ∧ ER den r H τ σ ∧ optE (evN G n) d ir τ S = .ok v S' ∧ ∀ r' H', Ext r H r' H' → SimX den X ca r' S' H' → Q v H'
theorem po_imp {e : Option Expr} {t t' : TO} (h : PO X e t') (w : ∀ σ H Q, t σ H Q → t' σ H Q) : PO X e t := ⟨fun pins s σ H Q I q => h.run pins s σ H Q I (w _ _ _ q)⟩
theorem uo_none {d : Nat} : PO X none (uO G den X ca d (none : Option (Ex I))) := po_imp po_none fun σ H Q ⟨n, r, S, τ, v, S', m, er, e, f⟩ => by
  cases e
  exact f _ _ Ext.refl m
theorem uo_some (L : Lawful I den) {d : Nat} {e : Expr} {ie : Ex I} (h : PE X e (uE G den X ca d ie)) : PO X (some e) (uO G den X ca d (some ie)) := po_imp (po_some h) fun σ H Q ⟨n, r, S, τ, v, S', m, er, e, f⟩ => by
  obtain ⟨x, S1, e1, e⟩ := bind_ok (show ((evN G n).e d ie τ S).bind _ = .ok v S' from e)
  obtain ⟨i, e2, e⟩ := opt_ok e
  cases e
  refine ⟨n, r, S, τ, x, _, m, er, e1, fun r1 H1 z x1 m1 h1 => ?_⟩
  obtain ⟨j, rfl, rfl⟩ := asI_den L e2
  cases vr_int h1
  exact ⟨_, rfl, f _ _ x1 m1⟩
theorem ok_slc {d : Nat} {a : Expr} {lo hi : Option Expr} {ia : Ex I} {il ih : Option (Ex I)} {p2 pos : Pos} (ha : PE X a (uE G den X ca d ia)) (hl : PO X lo (uO G den X ca d il)) (hh : PO X hi (uO G den X ca d ih)) : OkE G den X ca d (.Subscript a (.Slice lo hi none p2) pos) (.slc ia il ih none) := by
  refine ok_val (pe_imp (pe_slice (u_sl (ca := ca) (den := den)) ha hl hh) ?_) (fun _ => rfl) (fun _ _ _ h => nomatch h)
  rintro σ H Q ⟨n, r, S, τ, w, S', m, er, e, f⟩
  cases n with
  | zero => cases e
  | succ n =>
    obtain ⟨x, S1, e1, e⟩ := bind_ok (show e_slc (evN G n) d ia il ih none τ S = .ok w S' from e)
    obtain ⟨l, S2, e2, e⟩ := bind_ok e
    obtain ⟨h, S3, e3, e⟩ := bind_ok e
    obtain ⟨c, S4, e4, e⟩ := bind_ok e
    cases e4
    exact ⟨n, r, S, τ, x, S1, m, er, e1, fun r1 H1 z x1 m1 h1 => ⟨n, r1, S1, τ, l, S2, m1, er.mono x1, e2, fun r2 H2 x2 m2 => ⟨n, r2, S2, τ, h, S3, m2, (er.mono x1).mono x2, e3, fun r3 H3 x3 m3 =>
      ⟨r3, S3, x, w, S', m3, (h1.mono x2).mono x3, e, ((f.ext x1 m).ext x2 m1).ext x3 m2⟩⟩⟩⟩
/-! ### calls of built-ins -/
def uCB (den : I → Int) (X : Cx) (ca : Nat → Addr) (b : BF) : List V → Hp → VK → Prop := fun xs H Q => ∃ (r : Rho) (S : Sto I) (vs : List (Val I)) (v : Val I) (S' : Sto I), SimX den X ca r S H ∧ VRs den r H vs xs ∧ bfV b vs S = .ok v S' ∧ Fin den X ca r H v S' Q
theorem uE_bif {d : Nat} {b : BF} {ies : List (Ex I)} : ∀ σ H Q, uE G den X ca d (.bif b ies) σ H Q → tCB (uCB den X ca b) (uA G den X ca d ies) σ H Q := by
  rintro σ H Q ⟨n, r, S, τ, w, S', m, er, e, f⟩
  cases n with
  | zero => cases e
  | succ n =>
    obtain ⟨vs, S1, e1, e⟩ := bind_ok (show e_bif (evN G n) d b ies τ S = .ok w S' from e)
    exact ⟨n, r, S, τ, vs, _, m, er, e1, fun r1 H1 zs x1 m1 h1 => ⟨r1, S1, vs, w, S', m1, h1, e, f.ext x1 m⟩⟩
theorem ok_callB {d : Nat} {b : BF} {x : Str} {id : String} {e : Expr} {es : List Expr} {ies : List (Ex I)} {p pos : Pos} (hc : CallR X (.builtin id) (uCB den X ca b)) (hg : Gl X x) (hm : X.mg x = none) (hv : bootBuiltins x = some (.builtin id)) (ha : PA X (e :: es) (uA G den X ca d ies))
    (hn : x ≠ "__name__") (hdb : (x == ("__debug__" : Str)) = false) (he : starEach (e :: es) X.env = (false, eval e X.env) :: starEach es X.env) (hpl : (backTo pos (starEach es X.env)).any (·.1) = false) : OkE G den X ca d (.Call (.Name x p) (e :: es) [] pos) (.bif b ies) :=
  ok_val (pe_imp (pe_callB hc hg hm hv ha hn hdb he hpl) uE_bif) (fun _ => rfl) (fun _ _ _ h => nomatch h)
theorem ok_callTy {d : Nat} {b : BF} {x : Str} {T : String} {e : Expr} {es : List Expr} {ies : List (Ex I)} {p pos : Pos} (hc : CallR X (.type T) (uCB den X ca b)) (hg : Gl X x) (hm : X.mg x = none) (hv : bootBuiltins x = some (.type T)) (ha : PA X (e :: es) (uA G den X ca d ies))
    (hn : x ≠ "__name__") (hdb : (x == ("__debug__" : Str)) = false) (he : starEach (e :: es) X.env = (false, eval e X.env) :: starEach es X.env) (hpl : (backTo pos (starEach es X.env)).any (·.1) = false) : OkE G den X ca d (.Call (.Name x p) (e :: es) [] pos) (.bif b ies) :=
  ok_val (pe_imp (pe_callTy hc hg hm hv ha hn hdb he hpl) uE_bif) (fun _ => rfl) (fun _ _ _ h => nomatch h)
/-! ### methods of lists, dicts -/
theorem ok_bmt {d : Nat} {k : BM} {o : Expr} {name : Str} {id : String} {e0 : Expr} {es : List Expr} {io : Ex I} {ies : List (Ex I)} {apos cpos : Pos} (pa : PlainAttrs (mtyp k)) (slot : Slot (mtyp k) name id) (hty : typeOf (.builtin id) = pure (.type "method_descriptor")) (hm : MtR X id (uBM den X ca k))
    (ho : PE X o (uE G den X ca d io)) (ha : PA X (e0 :: es) (uA G den X ca d ies))
    (hbase : attributeBase o name X.env (eval o X.env) = eval o X.env) (hfew : ((backTo cpos (starEach (e0 :: es) X.env)).all (fun x => !x.1) && (backToKw cpos (keywordEach [] X.env)).all (fun x => x.1.isSome)
      && decide ((e0 :: es).length + ([] : List Keyword).length + (if ([] : List Keyword).isEmpty then 0 else 1) < 30)) = true) (hline : (apos.endLine == cpos.line) = true) (hs : starEach (e0 :: es) X.env = (false, eval e0 X.env) :: starEach es X.env) (hpl : (backTo cpos (starEach es X.env)).any (·.1) = false) :
    OkE G den X ca d (.Call (.Attribute o name apos) (e0 :: es) [] cpos) (.bmt io k ies) := by
  refine ok_val ⟨fun pins s σ H Q I0 h => ?_⟩ (fun _ => rfl) (fun _ _ _ h => nomatch h)
  obtain ⟨n, r, S, τ, w, S', m, er, e, f⟩ := h
  cases n with
  | zero => cases e
  | succ n =>
    obtain ⟨x, S1, e1, e⟩ := bind_ok (show e_bmt (evN G n) d io k ies τ S = .ok w S' from e)
    split at e
    · rename_i hr
      obtain ⟨vs, S2, e2, e⟩ := bind_ok e
      refine wpAny_Call_method_late hbase hfew hline rfl (thn (ho.run pins s σ H (fun z H1 => ∃ r1, SimX den X ca r1 S1 H1 ∧ Ext r H r1 H1 ∧ VR den r1 H1 x z) I0 ⟨n, r, S, τ, x, S1, m, er, e1, fun r1 H1 z x1 m1 h1 => ⟨r1, m1, x1, h1⟩⟩) fun v s1 ⟨z, H1, I1, rz, r1, m1, x1, h1⟩ => ?_)
      obtain ⟨p, _, hT, hd⟩ := rcv_type I1 m1 h1 rz hr
      refine ⟨mtyp k, id, pa, slot, hty, hT, hd, ?_⟩
      have hA := ha.run cpos pins s1 σ H1 (fun zs H2 => uBM den X ca k z zs H2 Q) I1 ⟨n, r1, S1, τ, vs, S2, m1, er.mono x1, e2, fun r2 H2 zs x2 m2 h2 => ⟨r2, S2, x, w, vs, S', m2, h1.mono x2, h2, e, (f.ext x1 m).ext x2 m1⟩⟩
      rw [hs] at hA ⊢
      refine Calls.callWith_builtin (by show (false || (backTo cpos (starEach es X.env)).any (·.1)) = false; rw [hpl] <;> rfl) (Calls.evalArgs_plain ?_)
      exact thn hA fun us s2 ⟨zs, H2, I2, r2, q2⟩ => hm pins s2 σ H2 z zs v us Q I2 rz r2 q2
    · cases e
theorem ok_bmt0 {d : Nat} {k : BM} {o : Expr} {name : Str} {id : String} {io : Ex I} {apos cpos : Pos} (pa : PlainAttrs (mtyp k)) (slot : Slot (mtyp k) name id) (hty : typeOf (.builtin id) = pure (.type "method_descriptor")) (hm : MtR X id (uBM den X ca k))
    (ho : PE X o (uE G den X ca d io))
    (hbase : attributeBase o name X.env (eval o X.env) = eval o X.env) (hline : (apos.endLine == cpos.line) = true) :
    OkE G den X ca d (.Call (.Attribute o name apos) [] [] cpos) (.bmt io k []) := by
  refine ok_val ⟨fun pins s σ H Q I0 h => ?_⟩ (fun _ => rfl) (fun _ _ _ h => nomatch h)
  obtain ⟨n, r, S, τ, w, S', m, er, e, f⟩ := h
  cases n with
  | zero => cases e
  | succ n =>
    obtain ⟨x, S1, e1, e⟩ := bind_ok (show e_bmt (evN G n) d io k [] τ S = .ok w S' from e)
    split at e
    · rename_i hr
      obtain ⟨vs, S2, e2, e⟩ := bind_ok e
      refine wpAny_Call_method0_late hbase hline (thn (ho.run pins s σ H (fun z H1 => ∃ r1, SimX den X ca r1 S1 H1 ∧ Ext r H r1 H1 ∧ VR den r1 H1 x z) I0 ⟨n, r, S, τ, x, S1, m, er, e1, fun r1 H1 z x1 m1 h1 => ⟨r1, m1, x1, h1⟩⟩) fun v s1 ⟨z, H1, I1, rz, r1, m1, x1, h1⟩ => ?_)
      obtain ⟨p, _, hT, hd⟩ := rcv_type I1 m1 h1 rz hr
      refine ⟨mtyp k, id, pa, slot, hty, hT, hd, ?_⟩
      cases n with
      | zero => cases e2
      | succ n =>
        cases e2
        exact Calls.callWith_builtin rfl (PySem.evalArgs_none (hm pins s1 σ H1 z [] v [] Q I1 rz .nil ⟨r1, _, x, w, [], S', m1, h1, .nil, e, f.ext x1 m⟩))
    · cases e
end
end Pz
set_option Elab.async false
set_option linter.all false
set_option maxRecDepth 100000
set_option maxHeartbeats 4000000
namespace Pz
open PySem L2
section
variable {I : Type} [IOps I] {den : I → Int} {ca : Nat → Addr} {X : Cx} {G : Pg I}
/-! ### fields -/
theorem fr_lookS {r : Rho} {H : Hp} {f : Str} : ∀ {fs : List (Str × Val I)} {gs : List (Str × V)}, Paired (FR den r H) fs gs → (∀ v, lookS f fs = some v → ∃ z, gs.lookup f = some z ∧ VR den r H v z) ∧ (lookS f fs = none → gs.lookup f = none)
  | _, _, .nil => ⟨fun v h => (nomatch (show (none : Option (Val I)) = some v from h)), fun _ => rfl⟩
  | _, _, .cons (a := p) (b := q) h t => by
    obtain ⟨g, v⟩ := p
    obtain ⟨g2, z⟩ := q
    obtain ⟨e1, e2⟩ := h
    have e1 : g = g2 := e1
    subst e1
    obtain ⟨t1, t2⟩ := fr_lookS (f := f) t
    unfold lookS
    cases hb : sBeq g f with
    | true =>
      have := sBeq_iff.mp hb
      subst this
      refine ⟨fun v' h => ?_, fun h => nomatch h⟩
      cases h
      exact ⟨z, by simp [List.lookup], e2⟩
    | false =>
      have ne : ¬ f = g := fun e => by
        subst e
        rw [sBeq_iff.mpr rfl] at hb
        cases hb
      have e3 : (f == g) = false := beq_eq_false_iff_ne.mpr ne
      refine ⟨fun v' h => ?_, fun h => ?_⟩
      · obtain ⟨z', h1, h2⟩ := t1 v' h
        exact ⟨z', by simp only [List.lookup, e3]; exact h1, h2⟩
      · simp only [List.lookup, e3]; exact t2 h
theorem fr_putS {r : Rho} {H : Hp} {f : Str} {v : Val I} {z : V} (hv : VR den r H v z) : ∀ {fs : List (Str × Val I)} {gs : List (Str × V)}, Paired (FR den r H) fs gs → Paired (FR den r H) (putS f v fs) (putF f z gs)
  | _, _, .nil => .cons ⟨rfl, hv⟩ .nil
  | _, _, .cons (a := p) (b := q) h t => by
    obtain ⟨g, v'⟩ := p
    obtain ⟨g2, z'⟩ := q
    obtain ⟨e1, e2⟩ := h
    have e1 : g = g2 := e1
    subst e1
    unfold putS putF
    cases hb : sBeq g f with
    | true =>
      rw [if_pos (sBeq_iff.mp hb)]
      exact .cons ⟨rfl, hv⟩ t
    | false =>
      rw [if_neg fun e => by rw [sBeq_iff.mpr e] at hb; cases hb]
      exact .cons ⟨rfl, e2⟩ (fr_putS hv t)
theorem ok_fld {d : Nat} {a : Expr} {f : Str} {ia : Ex I} {pos : Pos} (hc : ∀ c, Cls X.K (ca c) ∧ NoAttr X.K (ca c) f) (ha : PE X a (uE G den X ca d ia)) (hb : attributeBase a f X.env (eval a X.env) = eval a X.env) : OkE G den X ca d (.Attribute a f pos) (.fld ia f) := by
  refine ok_val (pe_imp (pe_fld ha hb) ?_) (fun _ => rfl) (fun _ _ _ h => nomatch h)
  rintro σ H Q ⟨n, r, S, τ, w, S', m, er, e, fi⟩
  cases n with
  | zero => cases e
  | succ n =>
    obtain ⟨x, S1, e1, e⟩ := bind_ok (show e_fld (evN G n) d ia f τ S = .ok w S' from e)
    split at e
    · rename_i p
      split at e
      · rename_i c fs g
        obtain ⟨v, e2, e⟩ := opt_ok e
        cases e
        refine ⟨n, r, S, τ, _, _, m, er, e1, fun r1 H1 z x1 m1 h1 => ?_⟩
        obtain ⟨b, rfl, q⟩ := vr_ref h1
        obtain ⟨dx, gs, o1, o2⟩ := ins_ob m1 g q
        obtain ⟨z, z1, z2⟩ := (fr_lookS o2).1 _ e2
        exact ⟨b, ca c, dx, gs, z, rfl, o1, (hc c).1, (hc c).2, z1, fi _ _ _ x1 m1 z2⟩
      · cases e
    · cases e
/-! ### calls of one's own -/
def CXF : CXT := fun _ _ _ _ _ _ => False
def uSp (G : Pg I) (den : I → Int) (P : Program) (w : World) (ca : Nat → Addr) (d i : Nat) : Sp := fun vs H Q _ => ∃ (n : Nat) (r : Rho) (S : Sto I) (xs : List (Val I)) (v : Val I) (S' : Sto I),
  Sim den P w ca r S H ∧ VRs den r H xs vs ∧ (evN G n).call d i xs S = .ok v S' ∧ ∀ r' H' z, Ext r H r' H' → Sim den P w ca r' S' H' → VR den r' H' v z → Q z H'
theorem pass_f {E : XK} : Passes CXF X E := fun _ _ _ _ _ _ _ h => h.elim
/-- a function that is known -/
structure FnK (G : Pg I) (den : I → Int) (X : Cx) (ca : Nat → Addr) (d i : Nat) (f : Addr) : Prop where
  ok : ∃ fd ps, Binds X.K fd ps [] ∧ FnOk X.prog X.w X.K X.mg X.base CXF d f fd ps (uSp G den X.prog X.w ca d i)
theorem uE_call {d i : Nat} {ies : List (Ex I)} : ∀ σ H Q, uE G den X ca d (.call i ies none) σ H Q → tCall (uSp G den X.prog X.w ca d i) [] (fun _ _ _ => False) (uA G den X ca d ies) σ H Q := by
  rintro σ H Q ⟨n, r, S, τ, w, S', m, er, e, f⟩
  cases n with
  | zero => cases e
  | succ n =>
    obtain ⟨vs, S1, e1, e⟩ := bind_ok (show e_call (evN G n) d i ies none τ S = .ok w S' from e)
    obtain ⟨us, e2, e⟩ := opt_ok e
    cases e2
    refine ⟨n, r, S, τ, vs, S1, m, er, e1, fun r1 H1 zs x1 m1 h1 => ?_⟩
    show uSp G den X.prog X.w ca d i (zs ++ []) H1 Q _
    rw [List.append_nil]
    exact ⟨n, r1, S1, vs, w, S', m1, h1, e, f.ext x1 m⟩
theorem ok_call {d i : Nat} {x : Str} {f : Addr} {e : Expr} {es : List Expr} {ies : List (Ex I)} {p pos : Pos} (F : FnK G den X ca d i f) (hr : Room d X.A) (hg : Gl X x) (hm : X.mg x = some (.ref f)) (hk : PySem.W.keepIn X.K (.ref f) = true)
    (ha : PA X (e :: es) (uA G den X ca d ies)) (hdb : (x == ("__debug__" : Str)) = false) (he : starEach (e :: es) X.env = (false, eval e X.env) :: starEach es X.env) (hpl : (backTo pos (starEach es X.env)).any (·.1) = false) : OkE G den X ca d (.Call (.Name x p) (e :: es) [] pos) (.call i ies none) := by
  obtain ⟨fd, ps, hb, ok⟩ := F.ok
  exact ok_val (pe_imp (pe_call (E := fun _ _ _ => False) ok hr hg hm hk hb .nil pass_f ha hdb he hpl) uE_call) (fun _ => rfl) (fun _ _ _ h => nomatch h)
theorem ok_call0 {d i : Nat} {x : Str} {f : Addr} {p pos : Pos} (F : FnK G den X ca d i f) (hr : Room d X.A) (hg : Gl X x) (hm : X.mg x = some (.ref f)) (hk : PySem.W.keepIn X.K (.ref f) = true) (hdb : (x == ("__debug__" : Str)) = false) : OkE G den X ca d (.Call (.Name x p) [] [] pos) (.call i [] none) := by
  obtain ⟨fd, ps, hb, ok⟩ := F.ok
  refine ok_val (pe_imp (pe_call0 (E := fun _ _ _ => False) ok hr hg hm hk hb .nil pass_f hdb) fun σ H Q h => ?_) (fun _ => rfl) (fun _ _ _ h => nomatch h)
  obtain ⟨n, r, S, τ, vs, S1, m, er, e, f⟩ := uE_call σ H Q h
  cases n with
  | zero => cases e
  | succ n =>
    cases e
    exact f _ _ _ Ext.refl m .nil
/-- a new instance -/
theorem noTup_own (x : Addr) : NoTup (.own x) := fun _ z => nomatch z
theorem noTup_ins (c dx : Addr) (fs : List (Str × V)) : NoTup (.ins c dx fs) := fun _ z => nomatch z
theorem uE_new {d c : Nat} {cl : Cl} {ies : List (Ex I)} (hcl : G.cls[c]? = some cl) : ∀ σ H Q, uE G den X ca (d + 1) (.new c ies none) σ H Q → tMake (ca c) (uSp G den X.prog X.w ca d cl.init) [] (fun _ _ _ => False) (uA G den X ca (d + 1) ies) σ H Q := by
  rintro σ H Q ⟨n, r, S, τ, w, S', m, er, e, f⟩
  cases n with
  | zero => cases e
  | succ n =>
    obtain ⟨vs, S1, e1, e⟩ := bind_ok (show e_new G (evN G n) (d + 1) c ies none τ S = .ok w S' from e)
    obtain ⟨us, e2, e⟩ := opt_ok e
    cases e2
    obtain ⟨cl', e3, e⟩ := opt_ok e
    rw [hcl] at e3
    cases e3
    obtain ⟨y, S2, e4, e⟩ := bind_ok e
    obtain ⟨u, S3, e5, e⟩ := bind_ok e
    obtain ⟨k, e6, e⟩ := opt_ok e
    cases e
    have e7 : u = .non := by
      cases u with
      | non => rfl
      | _ => cases e6
    subst e7
    refine ⟨n, r, S, τ, vs, S1, m, er, e1, fun r1 H1 zs x1 m1 h1 x dx hx hdx ne => ?_⟩
    unfold fresh at e4
    split at e4
    · rename_i hz
      cases e4
      obtain ⟨m2, x2⟩ := m1.aside (u := .own x) hdx
      have hx2 : (upd H1 dx (.own x)) x = none := by rw [upd_ne (Ne.symm ne)]; exact hx
      obtain ⟨r3, m3, x3, rn⟩ := m2.laid (o := .ins c []) hx2 (blt_lt hz) (noTup_ins (ca c) dx []) fun r' H' eH sub _ ms => ⟨dx, [], by rw [eH, upd_same], .nil⟩
      have x12 := x1.trans x2 m.live
      have x13 := x12.trans x3 m.live
      show uSp G den X.prog X.w ca d cl.init (.ref x :: (zs ++ [])) _ _ _
      rw [List.append_nil]
      refine ⟨n, r3, _, .ref S1.next :: vs, .non, _, m3, .cons (.ref rn) ((h1.mono x2).mono x3), e5, fun r4 H4 z x4 m4 h4 => ?_⟩
      cases h4
      refine ⟨rfl, ?_⟩
      exact f _ _ _ (x13.trans x4 m.live) m4 (.ref (x4.sub _ _ rn))
    · cases e4
theorem ok_new {d c : Nat} {cl : Cl} {x : Str} {f : Addr} {e : Expr} {es : List Expr} {ies : List (Ex I)} {p pos : Pos} (hcl : G.cls[c]? = some cl) (M : Mk X.K (ca c) f) (F : FnK G den X ca d cl.init f) (hr : Room (d + 1) X.A) (hg : Gl X x) (hm : X.mg x = some (.ref (ca c)))
    (ha : PA X (e :: es) (uA G den X ca (d + 1) ies)) (hdb : (x == ("__debug__" : Str)) = false) (he : starEach (e :: es) X.env = (false, eval e X.env) :: starEach es X.env) (hpl : (backTo pos (starEach es X.env)).any (·.1) = false) : OkE G den X ca (d + 1) (.Call (.Name x p) (e :: es) [] pos) (.new c ies none) := by
  obtain ⟨fd, ps, hb, ok⟩ := F.ok
  exact ok_val (pe_imp (pe_make (E := fun _ _ _ => False) M ok hr hg hm hb .nil pass_f ha hdb he hpl) (uE_new hcl)) (fun _ => rfl) (fun _ _ _ h => nomatch h)
theorem ok_new0 {d c : Nat} {cl : Cl} {x : Str} {f : Addr} {p pos : Pos} (hcl : G.cls[c]? = some cl) (M : Mk X.K (ca c) f) (F : FnK G den X ca d cl.init f) (hr : Room (d + 1) X.A) (hg : Gl X x) (hm : X.mg x = some (.ref (ca c)))
    (hdb : (x == ("__debug__" : Str)) = false) : OkE G den X ca (d + 1) (.Call (.Name x p) [] [] pos) (.new c [] none) := by
  obtain ⟨fd, ps, hb, ok⟩ := F.ok
  refine ok_val (pe_imp (pe_make0 (E := fun _ _ _ => False) M ok hr hg hm hb .nil pass_f hdb) fun σ H Q h => ?_) (fun _ => rfl) (fun _ _ _ h => nomatch h)
  obtain ⟨n, r, S, τ, vs, S1, m, er, e, f⟩ := uE_new hcl σ H Q h
  cases n with
  | zero => cases e
  | succ n =>
    cases e
    exact f _ _ _ Ext.refl m .nil
/-- a method of one's own -/
theorem ok_mth {d : Nat} {o : Expr} {m : Str} {io : Ex I} {es : List Expr} {ies : List (Ex I)} {apos pos : Pos} (hm : ∀ c cl i, G.cls[c]? = some cl → lookM m cl.ms = some i → Cls X.K (ca c) ∧ ∃ f, Meth X.K (ca c) m f ∧ FnK G den X ca d i f) (hr : Room d X.A)
    (ho : PE X o (uE G den X ca d io)) (ha : PA X es (uA G den X ca d ies)) (hz : es = [] → ies = []) (hst : ∀ e r, es = e :: r → starEach (e :: r) X.env = (false, eval e X.env) :: starEach r X.env ∧ (backTo pos (starEach r X.env)).any (·.1) = false) {pl : Sem Bool}
    (ht : eval (.Call (.Attribute o m apos) es [] pos) X.env = (do
      let ov ← eval o X.env
      standAt apos.atName
      let (f, first) ← holding [ov] (getMethod ov m pl)
      callWith pos f first (backTo pos (starEach es X.env)) (backToKw pos (keywordEach [] X.env)))) :
    OkE G den X ca d (.Call (.Attribute o m apos) es [] pos) (.mth io m ies none) := by
  refine ok_val ⟨fun pins s σ H Q I0 h => ?_⟩ (fun _ => rfl) (fun _ _ _ h => nomatch h)
  obtain ⟨n, r, S, τ, w, S', m0, er, e, f⟩ := h
  cases n with
  | zero => cases e
  | succ n =>
    obtain ⟨x, S1, e1, e⟩ := bind_ok (show e_mth G (evN G n) d io m ies none τ S = .ok w S' from e)
    split at e
    · rename_i q
      split at e
      · rename_i c fs g
        split at e
        · cases e
        · rename_i hno
          obtain ⟨vs, S2, e2, e⟩ := bind_ok e
          obtain ⟨us, e3, e⟩ := opt_ok e
          cases e3
          obtain ⟨cl, e4, e⟩ := opt_ok e
          obtain ⟨i, e5, e⟩ := opt_ok e
          obtain ⟨cls, fa, hmt, F⟩ := hm c cl i e4 e5
          obtain ⟨fd, ps, hb, ok⟩ := F.ok
          refine PySem.W.methodCall_KW (pl := pl) (thn (ho.run pins s σ H (fun z H1 => ∃ r1, SimX den X ca r1 S1 H1 ∧ Ext r H r1 H1 ∧ VR den r1 H1 (.ref q : Val I) z) I0 ⟨n, r, S, τ, _, S1, m0, er, e1, fun r1 H1 z x1 m1 h1 => ⟨r1, m1, x1, h1⟩⟩) fun u s1 ⟨z, H1, I1, rz, r1, m1, x1, h1⟩ => ?_) ht
          obtain ⟨b, rfl, hq⟩ := vr_ref h1
          obtain ⟨dx, gs, o1, o2⟩ := ins_ob m1 g hq
          obtain rfl : u = Value.ref b := rz
          refine getmeth_ok I1 o1 cls hmt ((fr_lookS o2).2 hno) ?_
          have fin : ∀ r2 H2 zs, Ext r1 H1 r2 H2 → SimX den X ca r2 S2 H2 → VRs den r2 H2 vs zs → uSp G den X.prog X.w ca d i (.ref b :: zs ++ []) H2 Q (fun _ _ _ => False) := fun r2 H2 zs x2 m2 h2 => by
            rw [List.append_nil]
            exact ⟨n, r2, S2, .ref q :: vs, w, S', m2, .cons (.ref (x2.sub _ _ hq)) h2, e, (f.ext x1 m0).ext x2 m1⟩
          cases es with
          | nil =>
            have hz := hz rfl
            subst hz
            cases n with
            | zero => cases e2
            | succ n =>
              cases e2
              exact PySem.W.callWith_K0 (first := [.ref b]) I1.kIn hmt.kp (run_fn (us := [.ref b]) (vs := [.ref b]) ok hr hb .nil pass_f I1 (.cons rfl .nil) (fin _ _ [] Ext.refl m1 .nil))
          | cons e0 er0 =>
            obtain ⟨h5, h6⟩ := hst e0 er0 rfl
            refine PySem.W.callWith_K (first := [.ref b]) (h₀ := X.base) I1.ok.mod.kin hmt.kp (thn (ha.run pos pins s1 σ H1 (fun zs H2 => uSp G den X.prog X.w ca d i (.ref b :: zs ++ []) H2 Q (fun _ _ _ => False)) I1 ⟨n, r1, S1, τ, vs, S2, m1, er.mono x1, e2, fin⟩) fun us s2 ⟨zs, H2, I2, r2, q2⟩ => ⟨I2.kIn, ?_⟩) h5 h6
            exact run_fn (us := .ref b :: us) (vs := .ref b :: zs) ok hr hb .nil pass_f I2 (.cons rfl r2) q2
      · cases e
    · cases e
end
end Pz
set_option Elab.async false
set_option linter.all false
set_option maxRecDepth 100000
set_option maxHeartbeats 4000000
namespace PzEnum
open PySem PySem.Spec PyProof.Rows
open Sem (wp)
open AutoSeq1 (wpAny_loadPart')
theorem meets_new (l : Addr) (items : Array Value) (n : Nat) (dct : Option Addr) (sl : Array (Option Value)) :
    Meets (Builtin.«enumerate.__new__» ⟨[.type "enumerate", .ref l], []⟩) (fun _ R s => s.heap.get? l = some { cls := .type "tuple", data := .seq items n, dict := dct, slots := sl } ∧
      R (.ok (.ret (.ref (s.heap.push { cls := .type "tuple_iterator", data := .fields #[.ref l, .int 0 0] }).objs.size)))
        { s with heap := (s.heap.push { cls := .type "tuple_iterator", data := .fields #[.ref l, .int 0 0] }).push { cls := .type "enumerate", data := .fields #[.none, .bool false, .ref s.heap.objs.size, rawInt 0, .none, .none] } }) :=
  .of_wp fun prog w A R s h => by
    obtain ⟨hp, g, d, tk, os⟩ := s; obtain ⟨hl, h⟩ := h
    have hsub := sub_enumerate
    have hL : Heap.IsTuple (Shared.heap ⟨hp, g, d, tk, os⟩) l items := ⟨_, hl, rfl, n, rfl⟩
    wp_walk using wpAny_loadPart' hl
    refine wpAny_stack_any fun st => wpAny_pure ?_
    split
    · rename_i c _ _ _ _ _
      cases (c == Value.type "enumerate")
      · wp_walk using wpAny_loadPart' hl, wpAny_pyIter_tuple hL
        exact ⟨_, rfl, h⟩
      · wp_walk using wpAny_loadPart' hl, wpAny_pyIter_tuple hL
        exact ⟨_, rfl, h⟩
    · wp_walk using wpAny_loadPart' hl, wpAny_pyIter_tuple hL
      exact ⟨_, rfl, h⟩
section
variable {prog : Program} {w : World} {A : Around} {E : Value → Shared → Prop} {s : Shared}
theorem call_tuple {l : Addr} {items : Array Value} {Q : Value → Shared → Prop} (hL : s.heap.IsTuple l items)
    (h : ∀ h', IsEnum h' (s.heap.objs.size + 1) s.heap.objs.size 0 .none → h'.IsTupleIter s.heap.objs.size l 0 → h'.objs.size = s.heap.objs.size + 2 →
      (∀ b o, s.heap.get? b = some o → h'.get? b = some o) → Q (.ref (s.heap.objs.size + 1)) { s with heap := h' }) :
    wpAny (model prog w) A (call (.type "enumerate") [.ref l]) Q E s := by
  obtain ⟨⟨c, dct, dt, sl⟩, hl, hc, n, hd⟩ := hL
  replace hc : c = .type "tuple" := hc
  replace hd : dt = .seq items n := hd
  subst hc hd
  refine callType_new F.called_enumerate (by decide) (F.typeCall_enumerate_1 _) (F.newCall_enumerate_1 _) (fun obj => F.args_object_init_2 obj _) F.entry_enumerate_new
    (meets_new l items n dct sl) ⟨hl, ?_⟩
  have hz : (s.heap.push { cls := .type "tuple_iterator", data := .fields #[.ref l, .int 0 0] }).objs.size = s.heap.objs.size + 1 := Heap.size_push ..
  show _ ∧ _
  rw [hz]
  have he : IsEnum ((s.heap.push { cls := .type "tuple_iterator", data := .fields #[.ref l, .int 0 0] }).push
      { cls := .type "enumerate", data := .fields #[.none, .bool false, .ref s.heap.objs.size, rawInt 0, .none, .none] }) (s.heap.objs.size + 1) s.heap.objs.size 0 .none := by
    have := Heap.get?_push_size (s.heap.push { cls := .type "tuple_iterator", data := .fields #[.ref l, .int 0 0] })
      (o := { cls := .type "enumerate", data := .fields #[.none, .bool false, .ref s.heap.objs.size, rawInt 0, .none, .none] }) rfl
    rw [hz] at this; exact this
  refine ⟨⟨_, he, rfl⟩, h _ he ⟨_, Heap.get?_push_of_some _ (Heap.get?_push_size _ rfl), rfl, rfl⟩ (by rw [Heap.size_push, hz]) fun b o x => Heap.get?_push_of_some _ (Heap.get?_push_of_some _ x)⟩
end
end PzEnum
namespace L2
open PySem PySem.Spec PyProof.Rows
/-- the tuple at a, each item in a new pair -/
def Itet (K : PySem.W.Frag) (a : Addr) : It :=
  ⟨fun i H => ∃ (xs : List V) (x : V), SqT K H a xs ∧ xs[i]? = some x, fun i H v H' => ∃ T x, v = .ref T ∧ H T = none ∧ H' = upd H T (.tup [.int (i : Nat), x]) ∧ ∀ xs, SqT K H a xs → xs[i]? = some x, fun i H => ∃ xs : List V, SqT K H a xs ∧ xs.length ≤ i⟩
theorem turn_enumT {P : Program} {w : World} {K : PySem.W.Frag} {elts : List Expr} {kk : Nat} {tpos : Pos} (a e it : Addr) :
    Turn P w K (.Tuple elts kk tpos) (Itet K a) [e, it] e (fun i h => (∃ old, IsEnum h e it ((i : Nat) : Int) old) ∧ h.IsTupleIter it a i ∧ e ≠ it) where
  mem := by simp
  obj := fun i h st b hb => by
    obtain ⟨⟨old, he⟩, ⟨o, ho, hc, hd⟩, _⟩ := st
    have e' : b = e ∨ b = it := by simpa using hb
    rcases e' with z | z
    · rw [z]; exact ⟨_, he, fun v q => nomatch q⟩
    · rw [z]; exact ⟨o, ho, fun v q => by rw [hd] at q; cases q⟩
  keep := fun i h h' st k => let ⟨⟨old, he⟩, hi, hne⟩ := st; ⟨⟨old, k e (by simp) _ he⟩, hi.at fun o q => k it (by simp) o q, hne⟩
  item := by
    intro X hP hw hK hc i pins s σ H E I hf st hg
    subst hP hw hK
    obtain ⟨⟨old, he⟩, hit, hne⟩ := st
    obtain ⟨xs, x, hq, hx⟩ := hg
    obtain ⟨its, rv, p, hz⟩ := I.tuple hq
    obtain ⟨u, hu, ru⟩ := rv.get hx
    have hel : e < s.heap.objs.size := Heap.lt_size he
    have hil : it < s.heap.objs.size := by obtain ⟨_, q, _⟩ := hit; exact Heap.lt_size q
    have hae : a ≠ e := fun z => by
      obtain ⟨o, h1, h2, _⟩ := p
      rw [z, he] at h1
      cases h1
      have h2 : Value.type "enumerate" = Value.type "tuple" := h2
      injection h2 with h2
      exact absurd h2 (by decide)
    have hai : a ≠ it := fun z => by
      obtain ⟨o, h1, h2, _⟩ := p
      obtain ⟨o', h3, h4, _⟩ := hit
      rw [z, h3] at h1
      cases h1
      rw [h4] at h2
      injection h2 with h2
      exact absurd h2 (by decide)
    have hlt : i < its.toArray.size := by
      have := (List.getElem?_eq_some_iff.mp hu).1
      simpa using this
    refine wpAny_pyNext_enum_itemD (Draws.tuple (prog := X.prog) (w := X.w) (A := X.A.in1) (I.ok.hd hc) it a hai its.toArray) he ⟨hit, p⟩ hlt hne (by simp; exact ⟨hne, fun z => hae z.symm⟩) fun x' h' tk hP ho st' hT hsz hk => ?_
    have ex : x' = u := by
      have hP : its.toArray[i]? = some x' := hP
      have : its[i]? = some x' := by simpa using hP
      rw [hu] at this
      exact (Option.some.inj this).symm
    subst ex
    refine ⟨_, rfl, wpAny_letOwnedTupleGo_enum (s := { s with heap := h', toks := tk + 1 }) ho fun h'' he' sb => ?_⟩
    have hT2 : h''.get? s.heap.objs.size = some { cls := .type "tuple", data := .seq #[.int i tk, x'] } := (sb.2 _ (Nat.ne_of_gt hel)).trans hT
    have new : ObjOk X.prog X.w (upd H s.heap.objs.size (.tup [.int (i : Nat), x])) h'' s.heap.objs.size (.tup [.int (i : Nat), x]) :=
      ⟨by show 2 ≤ sizeLine; decide, [.int i tk, x'], .cons ⟨_, rfl⟩ (.cons ru .nil), ⟨_, hT2, rfl, _, rfl⟩⟩
    have I1 : Inv X pins σ (upd H s.heap.objs.size (.tup [.int (i : Nat), x])) { s with heap := h'', toks := tk + 1 } :=
      I.turnedNew (ch := [e, it]) (fun b ob hb q => (sb.2 b (fun z => hb (by simp [z]))).trans (hk b ob (fun z => hb (by simp [z])) (fun z => hb (by simp [z])) q)) hf (Nat.le_refl _) new
    refine ⟨.ref s.heap.objs.size, _, I1, rfl, ⟨_, x, rfl, I.hok.fresh (Nat.le_refl _), rfl, fun ys hy => by rw [I.tuple_inj hy hq]; exact hx⟩, ⟨⟨x', ?_⟩, st'.1.at fun o q => (sb.2 it (Ne.symm hne)).trans q, hne⟩, fun b hb => ?_⟩
    · have e1 : ((i + 1 : Nat) : Int) = (i : Int) + 1 := by omega
      rw [e1]; exact he'
    · have hb' : b < s.heap.objs.size := by
        have e' : b = e ∨ b = it := by simpa using hb
        rcases e' with z | z
        · rw [z]; exact hel
        · rw [z]; exact hil
      rw [upd_ne (Nat.ne_of_lt hb')]
      exact (hf b hb).1
  done := by
    intro X hP hw hK hc i pins s σ H E I hf st hg
    subst hP hw hK
    obtain ⟨⟨old, he⟩, hit, hne⟩ := st
    obtain ⟨xs, hq, hx⟩ := hg
    obtain ⟨its, rv, p, hz⟩ := I.tuple hq
    obtain ⟨f0, f1, f2, f3, f4, f5⟩ := hf it (by simp)
    have hl := rv.length
    have hT : s.TypeIs (.ref e) "enumerate" := ⟨_, he, rfl⟩
    unfold pyNext
    refine wpAny_bind (wpAny_attempt (wpAny_callSpecial?_slot (name := Str.ofString "__next__") hT F.slot_enumerate_next
      (wpAny_call_entry F.slot_enumerate_next hT F.entry_enumerate_next ?_ (F.args_enumerate_next_1 _))))
    show wpAny _ _ (field (.ref e) 2 >>= _) _ _ _
    refine wpAny_bind (wpAny_field he rfl (x := .ref it) rfl ?_)
    refine wpAny_bind (wpAny_nextOf_tuple_end (show X.A.in1.handled = none from I.ok.hd hc) hit (show s.heap.IsTuple a its.toArray from p) (by simp; omega) fun h' x he' hx' => ?_)
    obtain ⟨o, ho, hc⟩ := hx'
    refine wpAny_bind (wpAny_isInstance (T := "StopIteration") (b := true) ⟨o, ho, hc⟩ isSubtype_stop ?_)
    exact wpAny_pure ⟨rfl, I.turned (t' := s.toks) (fun b o hb q => he' b o hb q) f0 f1 f3 f4 f5⟩
  self := fun A i s Q E st h => let ⟨⟨_, he⟩, _⟩ := st; wpAny_pyIter_enum he h
def iEnumA (K : PySem.W.Frag) (ta : TA) : TI := fun σ H R => ta σ H fun vs H1 => ∃ a xs, vs = [.ref a] ∧ ((SqL K H1 a xs ∧ R (Ite K a) H1) ∨ (SqT K H1 a xs ∧ R (Itet K a) H1))
theorem pi_enumA {X : Cx} {e : Expr} {ta : TA} {p pos tpos : Pos} {elts : List Expr} {kk : Nat} (hg : Gl X "enumerate") (hm : X.mg "enumerate" = none) (ha : PA X [e] ta) (hs : starEach [e] X.env = [(false, eval e X.env)]) :
    PI X (.Tuple elts kk tpos) (.Call (.Name "enumerate" p) [e] [] pos) (iEnumA X.K ta) := by
  refine ⟨fun pins s σ H R I h => ?_⟩
  refine Call_ (ld_blt I hg hm boot_enumerate (PyProof.Rows.callWith_type1 (thn (ha.run pos pins s σ H _ I h) fun us s1 ⟨vs, H1, I1, r1, q1⟩ => ?_) hs rfl))
  obtain ⟨a, xs, ex, q⟩ := q1
  subst ex
  cases r1 with
  | cons r rr =>
    cases rr
    cases r
    have hle : ∀ b, b ∈ [s1.heap.objs.size + 1, s1.heap.objs.size] → FpOk X pins H1 b := fun b hb => by
      have e' : b = s1.heap.objs.size + 1 ∨ b = s1.heap.objs.size := by simpa using hb
      have hle : s1.heap.objs.size ≤ b := by
        rcases e' with z | z
        · rw [z]; exact Nat.le_add_right _ _
        · rw [z]; exact Nat.le_refl _
      exact I1.fpOk hle (I1.hok.fresh hle)
    rcases q with ⟨hq, q⟩ | ⟨hq, q⟩
    · obtain ⟨its, rv, p', hz⟩ := I1.list hq
      refine call_enumerate_list p'.isList fun h' he hit hsz hk => wpAny_pyIter_enum he ?_
      have I2 : Inv X pins σ H1 { s1 with heap := h' } := I1.kept (t' := s1.toks) hk
      exact ⟨s1.heap.objs.size + 1, [s1.heap.objs.size + 1, s1.heap.objs.size], _, _, H1, rfl, I2, turn_enum a (s1.heap.objs.size + 1) s1.heap.objs.size, ⟨⟨.none, he⟩, hit, Nat.succ_ne_self _⟩, hle, q⟩
    · obtain ⟨its, rv, p', hz⟩ := I1.tuple hq
      refine PzEnum.call_tuple (show s1.heap.IsTuple a its.toArray from p') fun h' he hit hsz hk => wpAny_pyIter_enum he ?_
      have I2 : Inv X pins σ H1 { s1 with heap := h' } := I1.kept (t' := s1.toks) hk
      exact ⟨s1.heap.objs.size + 1, [s1.heap.objs.size + 1, s1.heap.objs.size], _, _, H1, rfl, I2, turn_enumT a (s1.heap.objs.size + 1) s1.heap.objs.size, ⟨⟨.none, he⟩, hit, Nat.succ_ne_self _⟩, hle, q⟩
end L2
set_option Elab.async false
set_option linter.all false
set_option maxRecDepth 100000
set_option maxHeartbeats 4000000
namespace Pz
open PySem L2
section
variable {I : Type} [IOps I] {den : I → Int} {ca : Nat → Addr} {X : Cx} {G : Pg I}
/-! ### locked dicts -/
theorem VR.upd {r : Rho} {H : Hp} {D : Addr} {u : HO} (nt : ∀ ys, H D ≠ some (.tup ys)) {v : Val I} {y : V} (h : VR den r H v y) : VR den r (L2.upd H D u) v y := by
  have tp : ∀ b ys, H b = some (.tup ys) → L2.upd H D u b = some (.tup ys) := fun b ys q => by
    rw [upd_ne (fun e => nt ys (by rw [← e]; exact q))]; exact q
  exact VR.rec (motive_1 := fun v y _ => VR den r (L2.upd H D u) v y) (motive_2 := fun v y _ => VRs den r (L2.upd H D u) v y) .non (fun b => .bl b) (fun i => .int i) (fun s => .str s) (fun h _ ih => .tup (tp _ _ h) ih) (fun h => .ref h) .nil (fun _ _ a b => .cons a b) h
theorem VRs.upd {r : Rho} {H : Hp} {D : Addr} {u : HO} (nt : ∀ ys, H D ≠ some (.tup ys)) {v : List (Val I)} {y : List V} (h : VRs den r H v y) : VRs den r (L2.upd H D u) v y := by
  have tp : ∀ b ys, H b = some (.tup ys) → L2.upd H D u b = some (.tup ys) := fun b ys q => by
    rw [upd_ne (fun e => nt ys (by rw [← e]; exact q))]; exact q
  exact VRs.rec (motive_1 := fun v y _ => VR den r (L2.upd H D u) v y) (motive_2 := fun v y _ => VRs den r (L2.upd H D u) v y) .non (fun b => .bl b) (fun i => .int i) (fun s => .str s) (fun h _ ih => .tup (tp _ _ h) ih) (fun h => .ref h) .nil (fun _ _ a b => .cons a b) h
/-- the store says the same of an object in other words -/
theorem Sim.reset {P : Program} {w : World} {r : Rho} {S : Sto I} {H : Hp} (m : Sim den P w ca r S H) {a : Nat} {b : Addr} {o : Ob I} (hr : r a = some b) (ho : ObR den P w ca r H b o) : Sim den P w ca r (S.set a o) H := by
  have hz : a < 1000000000 := Nat.lt_of_lt_of_le (m.dom a b hr) m.nx
  refine ⟨fun c o' q => ?_, m.inj, m.dom, m.live, m.nt, m.nx⟩
  rw [Sto.get_set hz] at q
  by_cases e : c = a
  · rw [if_pos e] at q
    cases q
    subst e
    exact ⟨b, hr, ho⟩
  · rw [if_neg e] at q
    exact m.ob c o' q
/-- .. and the heap's object at b is another one (locked, or no more) -/
theorem Sim.relay {P : Program} {w : World} {r : Rho} {S : Sto I} {H : Hp} (m : Sim den P w ca r S H) {a : Nat} {b : Addr} {u : HO} {o : Ob I} (hr : r a = some b) (nt : NoTup u) (ho : ObR den P w ca r (L2.upd H b u) b o) : Sim den P w ca r (S.set a o) (L2.upd H b u) := by
  have hz : a < 1000000000 := Nat.lt_of_lt_of_le (m.dom a b hr) m.nx
  refine ⟨fun c o' q => ?_, m.inj, m.dom, fun c d q => ?_, fun c d ys q => ?_, m.nx⟩
  · rw [Sto.get_set hz] at q
    by_cases e : c = a
    · rw [if_pos e] at q
      cases q
      subst e
      exact ⟨b, hr, ho⟩
    · rw [if_neg e] at q
      obtain ⟨d, h1, h2⟩ := m.ob c o' q
      have ne : d ≠ b := fun z => e (m.inj c a b (z ▸ h1) hr)
      exact ⟨d, h1, h2.stay (upd_ne ne) (fun _ _ z => z.upd fun ys => m.nt a b ys hr) fun _ _ z => z.upd fun ys => m.nt a b ys hr⟩
  · by_cases e : d = b
    · rw [e, upd_same]; exact fun z => nomatch z
    · rw [upd_ne e]; exact m.live c d q
  · by_cases e : d = b
    · rw [e, upd_same]; exact fun z => nt ys (Option.some.inj z)
    · rw [upd_ne e]; exact m.nt c d ys q
theorem VRs.imp {r r' : Rho} {H H' : Hp} (f : ∀ (v : Val I) (y : V), VR den r H v y → VR den r' H' v y) : ∀ {xs : List (Val I)} {ys : List V}, VRs den r H xs ys → VRs den r' H' xs ys
  | _, _, .nil => .nil
  | _, _, .cons h t => .cons (f _ _ h) (VRs.imp f t)
/-- not locked when the code was entered -/
def NoF (X : Cx) (d : Addr) : Prop := ∀ o' u', X.H_0 d ≠ some (.frz o' u')
/-- as it is, or with one lock taken off -/
def UnH (X : Cx) (H : Hp) (N : Hp → Prop) : Prop := N H ∨ ∃ d od u, H d = some (.frz od u) ∧ NoF X d ∧ N (upd H d u)
def unE (X : Cx) (D : Ends) : Ends := ⟨fun σ H => UnH X H (D.nx σ), fun v H => UnH X H (D.rt v), fun σ H => UnH X H (D.bk σ), fun σ H => UnH X H (D.ct σ)⟩
theorem UnH.inv {pins : List (Addr × Obj)} {σ : L2.St} {H : Hp} {s : Shared} {N : Hp → Prop} (I0 : L2.Inv X pins σ H s) (h : UnH X H N) : ∃ H', L2.Inv X pins σ H' s ∧ N H' := by
  rcases h with h | ⟨d, od, u, h1, h2, h3⟩
  · exact ⟨H, I0, h⟩
  · exact ⟨_, I0.unlock h1 h2, h3⟩
theorem ps_un {st : Stmt} {t : TS} (h : PS X st t) : PS X st (fun D σ H => t (unE X D) σ H) := by
  refine ⟨fun pins s σ H D I0 q => ?_⟩
  refine thn (h.run pins s σ H (unE X D) I0 q) fun f s1 q1 => ?_
  cases f with
  | next => obtain ⟨σ', H', I1, q⟩ := q1; obtain ⟨H2, I2, q2⟩ := UnH.inv I1 q; exact ⟨σ', H2, I2, q2⟩
  | brk => obtain ⟨σ', H', I1, q⟩ := q1; obtain ⟨H2, I2, q2⟩ := UnH.inv I1 q; exact ⟨σ', H2, I2, q2⟩
  | cont => obtain ⟨σ', H', I1, q⟩ := q1; obtain ⟨H2, I2, q2⟩ := UnH.inv I1 q; exact ⟨σ', H2, I2, q2⟩
  | ret v => obtain ⟨x, σ', H', I1, r, q⟩ := q1; obtain ⟨H2, I2, q2⟩ := UnH.inv I1 q; exact ⟨x, σ', H2, I2, r, q2⟩
theorem pe_un {e : Expr} {t : TE} (h : PE X e t) : PE X e (fun σ H Q => t σ H fun v H' => UnH X H' (Q v)) := by
  refine ⟨fun pins s σ H Q I0 q => ?_⟩
  refine thn (h.run pins s σ H _ I0 q) fun v s1 ⟨x, H1, I1, r, q1⟩ => ?_
  obtain ⟨H2, I2, q2⟩ := UnH.inv I1 q1
  exact ⟨x, H2, I2, r, q2⟩
/-- how the walked dict was locked -/
def LkF (X : Cx) (r : Rho) (H : Hp) (r' : Rho) (H' : Hp) : Option (Nat × Nat) → Prop
  | none => True
  | some (a, 0) => ∃ (D : Addr) (H1 : Hp) (z : Obj × HO), H' = upd H1 D (.frz z.1 z.2) ∧ r' a = some D ∧ NotFrz H1 D ∧ NoF X D ∧ (∀ ys, H1 D ≠ some (.tup ys)) ∧ H1 D ≠ none ∧ Ext r H r' H1
  | some (_, _ + 1) => True
/-- the store with the lock taken off -/
def UnS (lk : Option (Nat × Nat)) (S2 S' : Sto I) : Prop := match lk with
  | none => S2 = S'
  | some p => unlockD S2 p.1 p.2 = some S'
/-- the lock taken off -/
theorem un_fin {r r1 r' : Rho} {H H2 H' : Hp} {S2 S' : Sto I} {lk : Option (Nat × Nat)} (lv : ∀ a b, r a = some b → H b ≠ none) (x : Ext r H r1 H2) (k : LkF X r H r1 H2 lk) (x' : Ext r1 H2 r' H') (m : SimX den X ca r' S2 H') (e : UnS lk S2 S') {N : Hp → Prop} (f : ∀ H3, Ext r H r' H3 → SimX den X ca r' S' H3 → (∀ (v : Val I) (y : V), VR den r' H' v y → VR den r' H3 v y) → (∀ c o, H' c = some o → (∀ a, r' a ≠ some c) → H3 c = some o) → N H3) : UnH X H' N := by
  cases lk with
  | none =>
    have e : S2 = S' := e
    subst e
    exact .inl (f H' (x.trans x' lv) m (fun _ _ h => h) fun _ _ h _ => h)
  | some p =>
    obtain ⟨a, c⟩ := p
    have e : unlockD S2 a c = some S' := e
    unfold unlockD at e
    split at e
    · rename_i kvs k' g
      split at e
      · rename_i hk
        have hk := Nat.eq_of_beq_eq_true hk
        subst hk
        cases e
        obtain ⟨b, q, ob⟩ := m.ob _ _ g
        cases c with
        | succ c =>
          refine .inl (f H' (x.trans x' lv) (Sim.reset m q ?_) (fun _ _ h => h) fun _ _ h _ => h)
          rcases ob with ⟨ws, h1, h2⟩ | ⟨xs, h1, h2⟩
          · exact .inl ⟨ws, h1, h2⟩
          · exact .inr ⟨xs, h1, h2⟩
        | zero =>
          obtain ⟨D, H1, z, rfl, hD, nf, nof, nt, nn, x0⟩ := k
          have hb : b = D := by
            have := x'.sub _ _ hD
            rw [q] at this
            exact Option.some.inj this
          subst hb
          have ntp : ∀ ys, H' b ≠ some (.tup ys) := fun ys => m.nt a b ys q
          have ext : ∀ u, NoTup u → Ext r H r' (upd H' b u) := fun u nu => by
            refine x0.trans (⟨x'.sub, fun c o e n => ?_, fun a' c e => ?_, fun c e => ?_, fun c ys e => ?_, fun c o v e => ?_⟩ : Ext r1 H1 r' (upd H' b u)) lv
            · have ne : c ≠ b := fun z => n a (z ▸ hD)
              rw [upd_ne ne]
              exact x'.frame c o (by rw [upd_ne ne]; exact e) n
            · rcases x'.new a' c e with y | y
              · exact .inl y
              · by_cases ne : c = b
                · rw [ne, upd_same] at y; cases y
                · rw [upd_ne ne] at y; exact .inr y
            · by_cases ne : c = b
              · rw [ne, upd_same]; exact fun z => nomatch z
              · rw [upd_ne ne]; exact x'.there c (by rw [upd_ne ne]; exact e)
            · have ne : c ≠ b := fun z => nt ys (z ▸ e)
              rw [upd_ne ne]
              exact x'.tup c ys (by rw [upd_ne ne]; exact e)
            · have ne : c ≠ b := fun z => nf o v (z ▸ e)
              rw [upd_ne ne]
              exact x'.frz c o v (by rw [upd_ne ne]; exact e)
          have kp : ∀ {u : HO} (c : Addr) (o : HO), H' c = some o → (∀ a, r' a ≠ some c) → upd H' b u c = some o := fun {u} c o h n => by
            rw [upd_ne fun z => n a (by rw [z]; exact q)]; exact h
          rcases ob with ⟨ws, ⟨o, h1⟩, h2⟩ | ⟨xs, ⟨o, h1⟩, h2⟩
          · exact .inr ⟨b, o, _, h1, nof, f _ (ext _ (noTup_dK ws)) (Sim.relay m q (noTup_dK ws) (.inl ⟨ws, upd_same, Paired.mono (fun a b q => ⟨q.1, q.2.upd ntp⟩) h2⟩)) (fun _ _ h => h.upd ntp) kp⟩
          · exact .inr ⟨b, o, _, h1, nof, f _ (ext _ (noTup_ext _)) (Sim.relay m q (noTup_ext _) (.inr ⟨xs, upd_same, Paired.mono (fun a b q => ⟨q.1, q.2.1, q.2.2.1.upd ntp, let ⟨y, q1, q2⟩ := q.2.2.2; ⟨y, q1, q2.upd ntp⟩⟩) h2⟩)) (fun _ _ h => h.upd ntp) kp⟩
      · cases e
    · cases e
/-- the keys of a locked dict with tuples as keys -/
def Itx (P : Program) (w : World) (d : Addr) (o : Obj) (xs : List (NestedKey × Addr × Value)) : It :=
  ⟨fun i H => H d = some (.frz o (.ext (rawD P w d xs))) ∧ i < xs.length, fun i H x H' => H' = H ∧ ∃ k, xs[i]? = some k ∧ x = .ref k.2.1, fun i H => H d = some (.frz o (.ext (rawD P w d xs))) ∧ xs.length ≤ i⟩
theorem frzX {pins : List (Addr × Obj)} {σ : L2.St} {H : Hp} {s : Shared} {d : Addr} {o : Obj} {xs : List (NestedKey × Addr × Value)} (I : L2.Inv X pins σ H s) (h : H d = some (.frz o (.ext (rawD X.prog X.w d xs)))) :
    (d == sysModules) = false ∧ s.heap.get? d = some o ∧ o.ExactDict ∧ ∃ (es : Array DictEntry) (ep : Nat), o.data = .dict es ep ∧ es.size = xs.length ∧ es.toList = xs.map (entryOfKey (nestedKind X.prog X.w)) := by
  obtain ⟨hd, ⟨o', es, ep, g1, g2, g3, g4, g5, g6, g7⟩, _⟩ := I.hok d _ h
  rw [hd] at g1
  cases g1
  exact ⟨g6, hd, g2, es, ep, g3, size_of_entries g4, g4⟩
theorem turn_keysX {P : Program} {w : World} {K : PySem.W.Frag} {tg : Expr} {d : Addr} {o : Obj} {es : Array DictEntry} {ep : Nat} {xs : List (NestedKey × Addr × Value)} (it : Addr) (hod : o.data = .dict es ep) : Turn P w K tg (Itx P w d o xs) [it] it (fun i h => h.IsKeyIter it d i xs.length ep) where
  mem := by simp
  obj := fun i h st b hb => by
    have e : b = it := by simpa using hb
    subst e
    obtain ⟨oi, e, c, dd⟩ := st
    exact ⟨oi, e, fun v z => by rw [dd] at z; cases z⟩
  keep := fun i h h' st k => st.at fun oi e => k it (by simp) oi e
  item := by
    intro X hP hw hK hc i pins s σ H E I hf st hg
    subst hP hw hK
    obtain ⟨hd, hi⟩ := hg
    obtain ⟨f0, f1, f2, f3, f4, f5⟩ := hf it (by simp)
    obtain ⟨hs, hgd, hx, es', ep', hdt, hsz, ent⟩ := frzX I hd
    obtain ⟨rfl, rfl⟩ := dict_ep hod hdt
    obtain ⟨k, hkv⟩ : ∃ p, xs[i]? = some p := ⟨xs[i], List.getElem?_eq_getElem hi⟩
    have hen := entry_at ent i
    rw [hkv] at hen
    refine next_key_item st hgd hdt hsz hen fun h' st' sb => ?_
    have I1 : L2.Inv X pins σ H { s with heap := h' } := I.turned (t' := s.toks) (fun b ob hb e => (sb.2 b hb).trans e) f0 f1 f3 f4 f5
    obtain ⟨oi, e, c, dd⟩ := id st'
    exact ⟨_, rfl, go_of (s := { s with heap := h' }) e c dd (by decide) ⟨.ref k.2.1, H, I1, rfl, ⟨rfl, k, hkv, rfl⟩, st', fun b hb => (hf b hb).1⟩⟩
  done := by
    intro X hP hw hK hc i pins s σ H E I hf st hg
    subst hP hw hK
    obtain ⟨hd, hi⟩ := hg
    obtain ⟨f0, f1, f2, f3, f4, f5⟩ := hf it (by simp)
    obtain ⟨hs, hgd, hx, es', ep', hdt, hsz, ent⟩ := frzX I hd
    obtain ⟨rfl, rfl⟩ := dict_ep hod hdt
    exact next_key_end (I.ok.hd hc) st hgd hdt hsz hi fun h' eb => ⟨rfl, I.turned (t' := s.toks) (fun b ob hb e => eb b ob hb e) f0 f1 f3 f4 f5⟩
  self := fun A i s Q E st h => by
    refine wpAny_pyIter_slot st.typeIs PySem.F.slot_dict_keyiterator_iter (wpAny_call_entry PySem.F.slot_dict_keyiterator_iter st.typeIs PySem.F.entry_dict_keyiterator_iter ?_ (PySem.F.args_dict_keyiterator_iter_1 _))
    show wpAny _ _ (ret (.ref it)) _ _ s
    exact wpAny_pure ⟨_, rfl, "dict_keyiterator", _, st.typeIs, PySem.F.slot_dict_keyiterator_next.lookup, h⟩
/-! ### what is walked -/
/-- a source of the evaluator is an iterator's -/
inductive SrcIt (P : Program) (w : World) (K : PySem.W.Frag) (den : I → Int) (r : Rho) (H : Hp) : Src I → It → Prop
  | lst {a : Nat} {b : Addr} : r a = some b → SrcIt P w K den r H (.lst a) (Itl K b)
  | tup {xs : List (Val I)} {b : Addr} {ys : List V} : H b = some (.tup ys) → VRs den r H xs ys → SrcIt P w K den r H (.tup xs) (Itt K b)
  | str (x : Str) : SrcIt P w K den r H (.tup (chrsV x)) (Its x)
  | rng (lo : Int) (n : Nat) : SrcIt P w K den r H (.rng lo 1 n) (Itr lo n)
  | rngC (lo c : Int) (n : Nat) : SrcIt P w K den r H (.rng lo c n) (Itc lo c n)
  | enuL {a : Nat} {b : Addr} : r a = some b → SrcIt P w K den r H (.enu (.lst a)) (Ite K b)
  | enuT {xs : List (Val I)} {b : Addr} {ys : List V} : H b = some (.tup ys) → VRs den r H xs ys → SrcIt P w K den r H (.enu (.tup xs)) (Itet K b)
  | keysL {kvs : List (Val I × Val I)} {d : Addr} {o : Obj} {ws : List (Key × V)} : H d = some (.frz o (.dK ws)) → Paired (EL den r H) kvs ws → SrcIt P w K den r H (.tup (keysOf kvs)) (Itk d o ws)
  | keysX {kvs : List (Val I × Val I)} {d : Addr} {o : Obj} {xs : List (NestedKey × Addr × Value)} : H d = some (.frz o (.ext (rawD P w d xs))) → Paired (EN den r H) kvs xs → SrcIt P w K den r H (.tup (keysOf kvs)) (Itx P w d o xs)
  | itms {kvs : List (Val I × Val I)} {d : Addr} {o : Obj} {ws : List (Key × V)} : H d = some (.frz o (.dK ws)) → Paired (EL den r H) kvs ws → SrcIt P w K den r H (.tup (kvs.map fun kv => .tup [kv.1, kv.2])) (Iti d o ws)
theorem SrcIt.mono {P : Program} {w : World} {K : PySem.W.Frag} {r r' : Rho} {H H' : Hp} {s : Src I} {J : It} (h : SrcIt P w K den r H s J) (x : Ext r H r' H') : SrcIt P w K den r' H' s J := by
  cases h with
  | lst q => exact .lst (x.sub _ _ q)
  | tup q vs => exact .tup (x.tup _ _ q) (vs.mono x)
  | str z => exact .str z
  | rng lo n => exact .rng lo n
  | rngC lo c n => exact .rngC lo c n
  | enuL q => exact .enuL (x.sub _ _ q)
  | enuT q vs => exact .enuT (x.tup _ _ q) (vs.mono x)
  | keysL q vs => exact .keysL (x.frz _ _ _ q) (Paired.mono (fun a b q => ⟨q.1, q.2.mono x⟩) vs)
  | keysX q vs => exact .keysX (x.frz _ _ _ q) (Paired.mono (fun a b q => ⟨q.1, q.2.1, q.2.2.1.mono x, let ⟨y, q1, q2⟩ := q.2.2.2; ⟨y, q1, q2.mono x⟩⟩) vs)
  | itms q vs => exact .itms (x.frz _ _ _ q) (Paired.mono (fun a b q => ⟨q.1, q.2.mono x⟩) vs)
theorem lst_rd {r : Rho} {S : Sto I} {H : Hp} {P : Program} {w : World} (m : Sim den P w ca r S H) {a : Nat} {b : Addr} {xs : List (Val I)} (q : r a = some b) (h : S.get a = some (.lst xs) ∨ S.get a = some (.fls xs)) (K : PySem.W.Frag) : ∃ ys, SqL K H b ys ∧ VRs den r H xs ys := by
  rcases h with h | h
  · obtain ⟨b1, z1, ob⟩ := m.ob _ _ h
    rw [q] at z1; cases z1
    obtain ⟨ys, g1, g2⟩ := ob
    exact ⟨ys, SqL.of g1, g2⟩
  · obtain ⟨b1, z1, ob⟩ := m.ob _ _ h
    rw [q] at z1; cases z1
    obtain ⟨o, ys, g1, g2⟩ := ob
    exact ⟨ys, .inl (.inr ⟨o, g1⟩), g2⟩
theorem SqL_uniq {K : PySem.W.Frag} {pins : List (Addr × Obj)} {σ : L2.St} {H : Hp} {s : Shared} {a : Addr} {xs ys : List V} (hK : X.K = K) (I0 : L2.Inv X pins σ H s) (h : SqL K H a xs) (h' : SqL K H a ys) : xs = ys := by
  subst hK
  exact I0.list_inj h h'
theorem at_lst {S : Sto I} {a i : Nat} {o : Option (Val I)} (e : (Src.lst a : Src I).at S i = some o) : ∃ xs, (S.get a = some (.lst xs) ∨ S.get a = some (.fls xs)) ∧ o = xs[i]? := by
  have e : (match S.get a with
    | some (.lst xs) => some xs[i]?
    | some (.fls xs) => some xs[i]?
    | _ => none) = some o := e
  split at e
  · rename_i xs h; cases e; exact ⟨xs, .inl h, rfl⟩
  · rename_i xs h; cases e; exact ⟨xs, .inr h, rfl⟩
  · cases e
theorem at_enu {S : Sto I} {s : Src I} {i : Nat} {o : Option (Val I)} (e : (Src.enu s).at S i = some o) : (o = none ∧ s.at S i = some none) ∨ ∃ v, s.at S i = some (some v) ∧ o = some (.tup [lit i, v]) := by
  have e : (match s.at S i with
    | some (some v) => some (some (.tup [lit i, v]))
    | r => r) = some o := e
  split at e
  · rename_i v h
    cases e
    exact .inr ⟨v, h, rfl⟩
  · rename_i r h
    cases o with
    | none => exact .inl ⟨rfl, e⟩
    | some v => exact absurd e (h v)
theorem strs_get (x : Str) (i : Nat) : (chrsV x : List (Val I))[i]? = (x.cps[i]?).map fun c => .str ⟨#[c]⟩ := by
  unfold chrsV
  rw [List.getElem?_map, Array.getElem?_toList]
theorem key_vr {r : Rho} {H : Hp} {k : Val I} {kk : Key} (h : keyL den k = some kk) : VR den r H k (kV kk) := by
  cases k <;> cases h
  · exact .int _
  · exact .str _
/-- the end is the end -/
theorem src_stop {K : PySem.W.Frag} {P : Program} {w : World} {r : Rho} {S : Sto I} {H : Hp} {s : Src I} {J : It} {i : Nat} (m : Sim den P w ca r S H) (h : SrcIt P w K den r H s J) (e : s.at S i = some none) : J.stop i H := by
  cases h with
  | lst q =>
    obtain ⟨xs, h1, h2⟩ := at_lst e
    obtain ⟨ys, g1, g2⟩ := lst_rd m q h1 K
    exact ⟨ys, g1, by rw [← g2.length]; exact List.getElem?_eq_none_iff.mp h2.symm⟩
  | tup q vs =>
    rename_i xs b ys
    have e : xs[i]? = none := Option.some.inj e
    exact ⟨ys, SqT.of q, by rw [← vs.length]; exact List.getElem?_eq_none_iff.mp e⟩
  | str z =>
    have e : (chrsV z : List (Val I))[i]? = none := Option.some.inj e
    rw [strs_get] at e
    have e : z.cps[i]? = none := by
      cases h : z.cps[i]? with
      | none => rfl
      | some c => rw [h] at e; cases e
    exact Array.getElem?_eq_none_iff.mp e
  | rng lo n =>
    have e : (if i < n then some (lit (lo + i * 1)) else none : Option (Val I)) = none := Option.some.inj e
    show n ≤ i
    split at e
    · cases e
    · omega
  | rngC lo c n =>
    have e : (if i < n then some (lit (lo + i * c)) else none : Option (Val I)) = none := Option.some.inj e
    show n ≤ i
    split at e
    · cases e
    · omega
  | enuL q =>
    rcases at_enu e with ⟨_, e⟩ | ⟨v, _, z⟩
    · obtain ⟨xs, h1, h2⟩ := at_lst e
      obtain ⟨ys, g1, g2⟩ := lst_rd m q h1 K
      exact ⟨ys, g1, by rw [← g2.length]; exact List.getElem?_eq_none_iff.mp h2.symm⟩
    · cases z
  | enuT q vs =>
    rename_i xs b ys
    rcases at_enu e with ⟨_, e⟩ | ⟨v, _, z⟩
    · have e : xs[i]? = none := Option.some.inj e
      exact ⟨ys, SqT.of q, by rw [← vs.length]; exact List.getElem?_eq_none_iff.mp e⟩
    · cases z
  | keysL q vs =>
    rename_i kvs d o ws
    have e : (keysOf kvs)[i]? = none := Option.some.inj e
    have := List.getElem?_eq_none_iff.mp e
    have l := Paired.length vs
    exact ⟨q, by simp [keysOf] at this; omega⟩
  | keysX q vs =>
    rename_i kvs d o xs
    have e : (keysOf kvs)[i]? = none := Option.some.inj e
    have := List.getElem?_eq_none_iff.mp e
    have l := Paired.length vs
    exact ⟨q, by simp [keysOf] at this; omega⟩
  | itms q vs =>
    rename_i kvs d o ws
    have e : (kvs.map fun kv => (Val.tup [kv.1, kv.2] : Val I))[i]? = none := Option.some.inj e
    have := List.getElem?_eq_none_iff.mp e
    have l := Paired.length vs
    exact ⟨q, by simp at this; omega⟩
/-- an item is an item -/
theorem src_item (L : Lawful I den) {K : PySem.W.Frag} {P : Program} {w : World} {r : Rho} {S : Sto I} {H : Hp} {s : Src I} {J : It} {i : Nat} {v : Val I} (m : Sim den P w ca r S H) (h : SrcIt P w K den r H s J) (e : s.at S i = some (some v)) :
    J.go i H ∧ ∀ x H', J.yld i H x H' → Sim den P w ca r S H' ∧ Ext r H r H' ∧ VR den r H' v x := by
  cases h with
  | lst q =>
    obtain ⟨xs, h1, h2⟩ := at_lst e
    obtain ⟨ys, g1, g2⟩ := lst_rd m q h1 K
    obtain ⟨y, y1, y2⟩ := g2.get h2.symm
    refine ⟨⟨ys, y, g1, y1⟩, fun x H' hy => ?_⟩
    obtain ⟨rfl, hy⟩ := hy
    have := hy ys g1
    rw [y1] at this; cases this
    exact ⟨m, Ext.refl, y2⟩
  | tup q vs =>
    rename_i xs b ys
    have e : xs[i]? = some v := Option.some.inj e
    obtain ⟨y, y1, y2⟩ := vs.get e
    refine ⟨⟨ys, y, SqT.of q, y1⟩, fun x H' hy => ?_⟩
    obtain ⟨rfl, hy⟩ := hy
    have := hy ys (SqT.of q)
    rw [y1] at this; cases this
    exact ⟨m, Ext.refl, y2⟩
  | str z =>
    have e : (chrsV z : List (Val I))[i]? = some v := Option.some.inj e
    rw [strs_get] at e
    obtain ⟨c, hc, rfl⟩ := Option.map_eq_some_iff.mp e
    refine ⟨(Array.getElem?_eq_some_iff.mp hc).1, fun x H' hy => ?_⟩
    obtain ⟨rfl, c', h1, rfl⟩ := hy
    rw [hc] at h1; cases h1
    exact ⟨m, Ext.refl, .str _⟩
  | rng lo n =>
    have e : (if i < n then some (lit (lo + i * 1)) else none : Option (Val I)) = some v := Option.some.inj e
    split at e
    · rename_i hi
      cases e
      refine ⟨hi, fun x H' hy => ?_⟩
      obtain ⟨rfl, rfl⟩ := hy
      refine ⟨m, Ext.refl, ?_⟩
      have := VR.int (den := den) (r := r) (H := H') (IOps.lit (I := I) (lo + i * 1))
      rw [L.lit, Int.mul_one] at this
      rw [Int.mul_one]
      exact this
    · cases e
  | rngC lo c n =>
    have e : (if i < n then some (lit (lo + i * c)) else none : Option (Val I)) = some v := Option.some.inj e
    split at e
    · rename_i hi
      cases e
      refine ⟨hi, fun x H' hy => ?_⟩
      obtain ⟨rfl, rfl⟩ := hy
      refine ⟨m, Ext.refl, ?_⟩
      have := VR.int (den := den) (r := r) (H := H') (IOps.lit (I := I) (lo + i * c))
      rw [L.lit] at this
      exact this
    · cases e
  | enuL q =>
    rcases at_enu e with ⟨z, _⟩ | ⟨u, e9, z⟩
    · cases z
    · cases z
      obtain ⟨xs, h1, h2⟩ := at_lst e9
      obtain ⟨ys, g1, g2⟩ := lst_rd m q h1 K
      obtain ⟨y, y1, y2⟩ := g2.get h2.symm
      refine ⟨⟨ys, y, g1, y1⟩, fun x H' hy => ?_⟩
      obtain ⟨T, x', rfl, hT, rfl, hy⟩ := hy
      have := hy ys g1
      rw [y1] at this; cases this
      obtain ⟨m', x⟩ := m.aside (u := .tup [.int (i : Nat), y]) hT
      refine ⟨m', x, .tup upd_same (.cons ?_ (.cons (y2.mono x) .nil))⟩
      have := VR.int (den := den) (r := r) (H := upd H T (.tup [.int (i : Nat), y])) (IOps.lit (I := I) (i : Nat))
      rwa [L.lit] at this
  | enuT q vs =>
    rename_i xs b ys
    rcases at_enu e with ⟨z, _⟩ | ⟨u, e9, z⟩
    · cases z
    · cases z
      have e : xs[i]? = some u := Option.some.inj e9
      obtain ⟨y, y1, y2⟩ := vs.get e
      refine ⟨⟨ys, y, SqT.of q, y1⟩, fun x H' hy => ?_⟩
      obtain ⟨T, x', rfl, hT, rfl, hy⟩ := hy
      have := hy ys (SqT.of q)
      rw [y1] at this; cases this
      obtain ⟨m', x⟩ := m.aside (u := .tup [.int (i : Nat), y]) hT
      refine ⟨m', x, .tup upd_same (.cons ?_ (.cons (y2.mono x) .nil))⟩
      have := VR.int (den := den) (r := r) (H := upd H T (.tup [.int (i : Nat), y])) (IOps.lit (I := I) (i : Nat))
      rwa [L.lit] at this
  | keysL q vs =>
    rename_i kvs d o ws
    have e : (keysOf kvs)[i]? = some v := Option.some.inj e
    unfold keysOf at e
    rw [List.getElem?_map] at e
    obtain ⟨kv, e1, rfl⟩ := Option.map_eq_some_iff.mp e
    obtain ⟨wv, w1, w2⟩ := paired_get vs e1
    refine ⟨⟨q, (List.getElem?_eq_some_iff.mp w1).1⟩, fun x H' hy => ?_⟩
    obtain ⟨rfl, k, v', h1, rfl⟩ := hy
    rw [w1] at h1
    cases h1
    exact ⟨m, Ext.refl, key_vr w2.1⟩
  | keysX q vs =>
    rename_i kvs d o xs
    have e : (keysOf kvs)[i]? = some v := Option.some.inj e
    unfold keysOf at e
    rw [List.getElem?_map] at e
    obtain ⟨kv, e1, rfl⟩ := Option.map_eq_some_iff.mp e
    obtain ⟨wv, w1, w2⟩ := paired_get vs e1
    refine ⟨⟨q, (List.getElem?_eq_some_iff.mp w1).1⟩, fun x H' hy => ?_⟩
    obtain ⟨rfl, k, h1, rfl⟩ := hy
    rw [w1] at h1
    cases h1
    exact ⟨m, Ext.refl, w2.2.2.1⟩
  | itms q vs =>
    rename_i kvs d o ws
    have e : (kvs.map fun kv => (Val.tup [kv.1, kv.2] : Val I))[i]? = some v := Option.some.inj e
    rw [List.getElem?_map] at e
    obtain ⟨kv, e1, rfl⟩ := Option.map_eq_some_iff.mp e
    obtain ⟨wv, w1, w2⟩ := paired_get vs e1
    refine ⟨⟨q, (List.getElem?_eq_some_iff.mp w1).1⟩, fun x H' hy => ?_⟩
    obtain ⟨T, k, v', h1, rfl, hT, rfl⟩ := hy
    rw [w1] at h1
    cases h1
    obtain ⟨m', x⟩ := m.aside (u := .tup [kV k, v']) hT
    exact ⟨m', x, .tup upd_same (.cons (key_vr w2.1) (.cons (w2.2.mono x) .nil))⟩
/-! ### the readings of what is walked -/
def uI (G : Pg I) (den : I → Int) (X : Cx) (ca : Nat → Addr) (d : Nat) (it : Sr I) : TI := fun σ H R => ∃ (n : Nat) (r : Rho) (S : Sto I) (τ : Env I) (s : Src I) (lk : Option (Nat × Nat)) (S' : Sto I),
  SimX den X ca r S H ∧ ER den r H τ σ ∧ srcOf (evN G n) d it τ S = .ok (s, lk) S' ∧ ∀ r' H' J, Ext r H r' H' → SimX den X ca r' S' H' → SrcIt X.prog X.w X.K den r' H' s J → LkF X r H r' H' lk → R J H'
theorem pi_imp {tg e : Expr} {t t' : TI} (h : PI X tg e t') (w : ∀ σ H R, t σ H R → t' σ H R) : PI X tg e t := ⟨fun pins s σ H R I q => h.run pins s σ H R I (w _ _ _ q)⟩
def iAny (X : Cx) (te : TE) : TI := fun σ H R => te σ H fun x H1 => (∃ a xs, x = .ref a ∧ SqL X.K H1 a xs ∧ R (Itl X.K a) H1) ∨ (∃ a xs, x = .ref a ∧ SqT X.K H1 a xs ∧ R (Itt X.K a) H1) ∨ (∃ z, x = .str z ∧ R (Its z) H1) ∨
  (∃ d ws, x = .ref d ∧ H1 d = some (.dK ws) ∧ ∀ od, NoF X d → R (Itk d od ws) (upd H1 d (.frz od (.dK ws)))) ∨ (∃ d o ws, x = .ref d ∧ H1 d = some (.frz o (.dK ws)) ∧ R (Itk d o ws) H1) ∨
  (∃ d xs, x = .ref d ∧ H1 d = some (.ext (rawD X.prog X.w d xs)) ∧ ∀ od, NoF X d → R (Itx X.prog X.w d od xs) (upd H1 d (.frz od (.ext (rawD X.prog X.w d xs))))) ∨ ∃ d o xs, x = .ref d ∧ H1 d = some (.frz o (.ext (rawD X.prog X.w d xs))) ∧ R (Itx X.prog X.w d o xs) H1
theorem pie_keysL {tg : Expr} {pins : List (Addr × Obj)} {σ : L2.St} {H : Hp} {s : Shared} {R : It → Hp → Prop} {d : Addr} {o : Obj} {ws : List (Key × V)} {E : Value → Shared → Prop} (I1 : L2.Inv X pins σ H s) (hd : H d = some (.frz o (.dK ws))) (q : R (Itk d o ws) H) : wpAny (model X.prog X.w) X.A (pyIter (.ref d)) (PIE X pins σ tg R) E s := by
  obtain ⟨hs, hgd, hx, es, ep, vs, hdt, hsz, kv, hm⟩ := I1.frzK hd
  refine iter_keys hs hgd hx hdt (pi_one (tk := s.toks) I1 _ (turn_keys _ hdt) ⟨_, Heap.get?_push_size _ rfl, rfl, ?_⟩ q)
  rw [hsz] <;> rfl
theorem pie_keysX {tg : Expr} {pins : List (Addr × Obj)} {σ : L2.St} {H : Hp} {s : Shared} {R : It → Hp → Prop} {d : Addr} {o : Obj} {xs : List (NestedKey × Addr × Value)} {E : Value → Shared → Prop} (I1 : L2.Inv X pins σ H s) (hd : H d = some (.frz o (.ext (rawD X.prog X.w d xs)))) (q : R (Itx X.prog X.w d o xs) H) : wpAny (model X.prog X.w) X.A (pyIter (.ref d)) (PIE X pins σ tg R) E s := by
  obtain ⟨hs, hgd, hx, es, ep, hdt, hsz, ent⟩ := frzX I1 hd
  refine iter_keys hs hgd hx hdt (pi_one (tk := s.toks) I1 _ (turn_keysX _ hdt) ⟨_, Heap.get?_push_size _ rfl, rfl, ?_⟩ q)
  rw [hsz] <;> rfl
theorem pi_any {tg e : Expr} {te : TE} (he : PE X e te) : PI X tg e (iAny X te) := by
  refine ⟨fun pins s σ H R I h => ?_⟩
  refine thn (he.run pins s σ H _ I h) fun v s1 ⟨x, H1, I1, r1, q1⟩ => ?_
  rcases q1 with ⟨a, xs, rfl, hq, q⟩ | ⟨a, xs, rfl, hq, q⟩ | ⟨z, rfl, q⟩ | ⟨d, ws, rfl, hd, q⟩ | ⟨d, o, ws, rfl, hd, q⟩ | ⟨d, xs, rfl, hd, q⟩ | ⟨d, o, xs, rfl, hd, q⟩
  · cases r1
    obtain ⟨its, rv, p, hz⟩ := I1.list hq
    exact wpAny_pyIter_list p.isList (pi_one (tk := s1.toks) I1 _ (turn_list a _) ⟨_, Heap.get?_push_size _ rfl, rfl, rfl⟩ q)
  · cases r1
    obtain ⟨its, rv, p, hz⟩ := I1.tuple hq
    exact wpAny_pyIter_tuple (show s1.heap.IsTuple a its.toArray from p) (pi_one (tk := s1.toks) I1 _ (turn_tuple a _) ⟨_, Heap.get?_push_size _ rfl, rfl, rfl⟩ q)
  · obtain ⟨t, rfl⟩ := r1
    cases ha : z.cps.all (· < 128)
    · exact wpAny_pyIter_wide ha (pi_one (tk := s1.toks) I1 _ (turn_str _ z t "str_iterator" (.inr rfl)) ⟨_, Heap.get?_push_size _ rfl, rfl, rfl⟩ q)
    · exact wpAny_pyIter_ascii ha (pi_one (tk := s1.toks) I1 _ (turn_str _ z t "str_ascii_iterator" (.inl rfl)) ⟨_, Heap.get?_push_size _ rfl, rfl, rfl⟩ q)
  · cases r1
    obtain ⟨od, I2⟩ := I1.lock hd trivial
    exact pie_keysL I2 upd_same (q od (I1.nofrz hd trivial))
  · cases r1
    exact pie_keysL I1 hd q
  · cases r1
    obtain ⟨od, I2⟩ := I1.lock hd trivial
    exact pie_keysX I2 upd_same (q od (I1.nofrz hd trivial))
  · cases r1
    exact pie_keysX I1 hd q
theorem ui_ex {d : Nat} {tg e : Expr} {ie : Ex I} (he : PE X e (uE G den X ca d ie)) : PI X tg e (uI G den X ca d (.ex ie)) := by
  refine pi_imp (pi_any he) ?_
  rintro σ H R ⟨n, r, S, τ, s, lk, S', m, er, e, f⟩
  obtain ⟨x, S1, e1, e⟩ := bind_ok (show ((evN G n).e d ie τ S).bind _ = .ok (s, lk) S' from e)
  refine ⟨n, r, S, τ, x, S1, m, er, e1, fun r1 H1 z x1 m1 h1 => ?_⟩
  cases h1 with
  | tup h1 h2 => cases e; exact .inr (.inl ⟨_, _, rfl, SqT.of h1, f _ _ _ x1 m1 (.tup h1 h2) trivial⟩)
  | str t => cases e; exact .inr (.inr (.inl ⟨t, rfl, f _ _ _ x1 m1 (.str t) trivial⟩))
  | ref q =>
    rename_i a0 b
    unfold srcV at e
    simp only at e
    split at e
    · rename_i xs g
      cases e
      obtain ⟨ys, g1, g2⟩ := lst_rd m1 q (.inl g) X.K
      exact .inl ⟨_, ys, rfl, g1, f _ _ _ x1 m1 (.lst q) trivial⟩
    · rename_i xs g
      cases e
      obtain ⟨ys, g1, g2⟩ := lst_rd m1 q (.inr g) X.K
      exact .inl ⟨_, ys, rfl, g1, f _ _ _ x1 m1 (.lst q) trivial⟩
    · rename_i kvs k g
      obtain ⟨⟨S2, c⟩, e2, e⟩ := opt_ok e
      cases e
      unfold lockD at e2
      rw [g] at e2
      cases e2
      rcases dic_ob m1 g q with ⟨ws, h1, h2⟩ | ⟨xs, h1, h2⟩
      · cases k with
        | zero =>
          have h1 : H1 b = some (.dK ws) := h1
          refine .inr (.inr (.inr (.inl ⟨b, ws, rfl, h1, fun od nof => ?_⟩)))
          have nt : ∀ ys, H1 b ≠ some (.tup ys) := fun ys => m1.nt _ b ys q
          have nf : NotFrz H1 b := .of h1 fun _ _ z => nomatch z
          obtain ⟨m2, x2⟩ := m1.put (u := .frz od (.dK ws)) (o := .dic kvs 1) q nf (fun _ z => nomatch z) fun H' eH mo ms => .inl ⟨ws, ⟨od, by rw [eH]; exact upd_same⟩, Paired.mono (fun a b q => ⟨q.1, mo _ _ q.2⟩) h2⟩
          exact f _ _ _ (x1.trans x2 m.live) m2 (.keysL upd_same (Paired.mono (fun a b q => ⟨q.1, q.2.mono x2⟩) h2)) ⟨b, H1, (od, .dK ws), rfl, q, nf, nof, nt, (by rw [h1]; exact fun z => (nomatch z)), x1⟩
        | succ k =>
          obtain ⟨o, h1⟩ := h1
          exact .inr (.inr (.inr (.inr (.inl ⟨b, o, ws, rfl, h1, f _ _ _ x1 (Sim.reset m1 q (.inl ⟨ws, ⟨o, h1⟩, h2⟩)) (.keysL h1 h2) trivial⟩))))
      · cases k with
        | zero =>
          have h1 : H1 b = some (.ext (rawD X.prog X.w b xs)) := h1
          refine .inr (.inr (.inr (.inr (.inr (.inl ⟨b, xs, rfl, h1, fun od nof => ?_⟩)))))
          have nt : ∀ ys, H1 b ≠ some (.tup ys) := fun ys => m1.nt _ b ys q
          have nf : NotFrz H1 b := .of h1 fun _ _ z => nomatch z
          obtain ⟨m2, x2⟩ := m1.put (u := .frz od (.ext (rawD X.prog X.w b xs))) (o := .dic kvs 1) q nf (fun _ z => nomatch z) fun H' eH mo ms => .inr ⟨xs, ⟨od, by rw [eH]; exact upd_same⟩, Paired.mono (fun a b q => ⟨q.1, q.2.1, mo _ _ q.2.2.1, let ⟨y, q1, q2⟩ := q.2.2.2; ⟨y, q1, mo _ _ q2⟩⟩) h2⟩
          exact f _ _ _ (x1.trans x2 m.live) m2 (.keysX upd_same (Paired.mono (fun a b q => ⟨q.1, q.2.1, q.2.2.1.mono x2, let ⟨y, q1, q2⟩ := q.2.2.2; ⟨y, q1, q2.mono x2⟩⟩) h2)) ⟨b, H1, (od, _), rfl, q, nf, nof, nt, (by rw [h1]; exact fun z => (nomatch z)), x1⟩
        | succ k =>
          obtain ⟨o, h1⟩ := h1
          exact .inr (.inr (.inr (.inr (.inr (.inr ⟨b, o, xs, rfl, h1, f _ _ _ x1 (Sim.reset m1 q (.inr ⟨xs, ⟨o, h1⟩, h2⟩)) (.keysX h1 h2) trivial⟩)))))
    · cases e
  | non => cases e
  | bl _ => cases e
  | int _ => cases e
theorem sm62_ok {i : Int} (h : sm62 i = true) : -(2 ^ 62) ≤ i ∧ i < 2 ^ 62 := by
  unfold sm62 at h
  rw [Bool.and_eq_true, decide_eq_true_eq, decide_eq_true_eq] at h
  omega
theorem evEs_len {d : Nat} : ∀ {irs : List (Ex I)} {n : Nat} {τ : Env I} {S S' : Sto I} {vs : List (Val I)}, (evN G n).es d irs τ S = .ok vs S' → vs.length = irs.length
  | [], 0, _, _, _, _, e => by cases e
  | [], n + 1, _, _, _, _, e => by cases e; rfl
  | x :: irs, 0, _, _, _, _, e => by cases e
  | x :: irs, n + 1, τ, S, S', vs, e => by
    obtain ⟨v, S1, e1, e⟩ := bind_ok (show ((evN G n).e d x τ S).bind _ = .ok vs S' from e)
    obtain ⟨us, S2, e2, e⟩ := bind_ok e
    cases e
    simp [evEs_len e2]
theorem ui_rng1 (L : Lawful I den) {d : Nat} {tg a : Expr} {ia : Ex I} {p pos : Pos} (hg : Gl X "range") (hm : X.mg "range" = none) (ha : PA X [a] (uA G den X ca d [ia])) (hs : starEach [a] X.env = [(false, eval a X.env)]) : PI X tg (.Call (.Name "range" p) [a] [] pos) (uI G den X ca d (.rng [ia])) := by
  refine pi_imp (pi_range1 hg hm ha hs) ?_
  rintro σ H R ⟨n, r, S, τ, s, lk, S', m, er, e, f⟩
  obtain ⟨vs, S1, e1, e⟩ := bind_ok (show ((evN G n).es d [ia] τ S).bind _ = .ok (s, lk) S' from e)
  obtain ⟨s', e2, e⟩ := opt_ok e
  cases e
  refine ⟨n, r, S, τ, vs, _, m, er, e1, fun r1 H1 zs x1 m1 h1 => ?_⟩
  have hl := evEs_len e1
  match vs, hl with
  | [v], _ =>
    obtain ⟨z, rfl, hv⟩ := h1.one
    unfold rngV at e2
    simp only at e2
    split at e2
    · rename_i hi hh
      obtain ⟨j, rfl, rfl⟩ := asI_den L hh
      cases hv
      split at e2
      · rename_i h62
        cases e2
        obtain ⟨q1, q2⟩ := sm62_ok h62
        exact ⟨_, rfl, q1, q2, f _ _ _ x1 m1 (.rng 0 _) trivial⟩
      · cases e2
    · cases e2
theorem ui_rng2 (L : Lawful I den) {d : Nat} {tg a b : Expr} {ia ib : Ex I} {p pos : Pos} (hg : Gl X "range") (hm : X.mg "range" = none) (ha : PA X [a, b] (uA G den X ca d [ia, ib])) (hs : starEach [a, b] X.env = [(false, eval a X.env), (false, eval b X.env)]) (hs2 : starEach [b] X.env = [(false, eval b X.env)]) : PI X tg (.Call (.Name "range" p) [a, b] [] pos) (uI G den X ca d (.rng [ia, ib])) := by
  refine pi_imp (pi_range2 hg hm ha hs hs2) ?_
  rintro σ H R ⟨n, r, S, τ, s, lk, S', m, er, e, f⟩
  obtain ⟨vs, S1, e1, e⟩ := bind_ok (show ((evN G n).es d [ia, ib] τ S).bind _ = .ok (s, lk) S' from e)
  obtain ⟨s', e2, e⟩ := opt_ok e
  cases e
  refine ⟨n, r, S, τ, vs, _, m, er, e1, fun r1 H1 zs x1 m1 h1 => ?_⟩
  have hl := evEs_len e1
  match vs, hl with
  | [v, u], _ =>
    obtain ⟨z, y, rfl, hv, hu⟩ := h1.two
    unfold rngV at e2
    simp only at e2
    split at e2
    · rename_i lo hi h1' h2'
      obtain ⟨j, rfl, rfl⟩ := asI_den L h1'
      obtain ⟨k, rfl, rfl⟩ := asI_den L h2'
      cases hv
      cases hu
      split at e2
      · rename_i q1 q2
        cases e2
        exact ⟨_, _, rfl, ⟨(sm62_ok q1).1, (sm62_ok q1).2, (sm62_ok q2).1, (sm62_ok q2).2⟩, f _ _ _ x1 m1 (.rng _ _) trivial⟩
      · cases e2
    · cases e2
theorem ui_enu {d : Nat} {e : Expr} {ie : Ex I} {p pos tpos : Pos} {elts : List Expr} {kk : Nat} (hg : Gl X "enumerate") (hm : X.mg "enumerate" = none) (ha : PA X [e] (uA G den X ca d [ie])) (hs : starEach [e] X.env = [(false, eval e X.env)]) : PI X (.Tuple elts kk tpos) (.Call (.Name "enumerate" p) [e] [] pos) (uI G den X ca d (.enu ie)) := by
  refine pi_imp (pi_enumA hg hm ha hs) ?_
  rintro σ H R ⟨n, r, S, τ, s, lk, S', m, er, e, f⟩
  obtain ⟨vs, S1, e1, e⟩ := bind_ok (show ((evN G n).es d [ie] τ S).bind _ = .ok (s, lk) S' from e)
  obtain ⟨v, e2, e⟩ := opt_ok e
  obtain ⟨s', e3, e⟩ := opt_ok e
  cases e
  cases arg1_ok e2
  refine ⟨n, r, S, τ, _, _, m, er, e1, fun r1 H1 zs x1 m1 h1 => ?_⟩
  obtain ⟨z, rfl, hv⟩ := h1.one
  unfold seqV at e3
  split at e3
  · cases e3
    cases hv with
    | tup g1 g2 => exact ⟨_, _, rfl, .inr ⟨SqT.of g1, f _ _ _ x1 m1 (.enuT g1 g2) trivial⟩⟩
  · split at e3
    · rename_i xs g
      cases e3
      cases hv with
      | ref q =>
        obtain ⟨ys, g1, g2⟩ := lst_rd m1 q (.inl g) X.K
        exact ⟨_, ys, rfl, .inl ⟨g1, f _ _ _ x1 m1 (.enuL q) trivial⟩⟩
    · cases e3
  · cases e3
def iItemsL (X : Cx) (te : TE) : TI := fun σ H R => te σ H fun x H1 => (∃ d ws, x = .ref d ∧ H1 d = some (.dK ws) ∧ ∀ od, NoF X d → R (Iti d od ws) (upd H1 d (.frz od (.dK ws)))) ∨ (∃ d o ws, x = .ref d ∧ H1 d = some (.frz o (.dK ws)) ∧ R (Iti d o ws) H1) ∨ ∃ d, x = .ref d ∧ H1 d = some (.ext (rawD X.prog X.w d [])) ∧ ∀ od, NoF X d → R (Iti d od []) (upd H1 d (.frz od (.dK [])))
theorem rd_type {pins : List (Addr × Obj)} {σ : L2.St} {H : Hp} {s : Shared} {d : Addr} {ws : List (Key × V)} (I : L2.Inv X pins σ H s) (h : Rd H d (.dK ws)) : s.TypeIs (.ref d) "dict" ∧ ∀ a, Value.ref d = .ref a → ∃ ob, s.heap.get? a = some ob ∧ ob.dict = none := by
  obtain ⟨z, y, vs, rel, o, es, ep, ho, hx, r⟩ := dk_rd I.hok h
  refine ⟨⟨o, ho, hx.1⟩, fun a e => ?_⟩
  cases e
  exact ⟨o, ho, hx.2.1⟩
theorem pi_itemsL {e : Expr} {td : TE} {apos cpos tpos : Pos} {elts : List Expr} {kk : Nat} (he : PE X e td) (hbase : attributeBase e "items" X.env (eval e X.env) = eval e X.env) (hline : (apos.endLine == cpos.line) = true) :
    PI X (.Tuple elts kk tpos) (.Call (.Attribute e "items" apos) [] [] cpos) (iItemsL X td) := by
  refine ⟨fun pins s σ H R I h => ?_⟩
  refine wpAny_Call_method (T := "dict") (id := "dict.items") hbase rfl hline PySem.F.plainAttrs_dict PySem.F.slot_dict_items PySem.F.type_dict_items (thn (he.run pins s σ H _ I h) fun u s1 ⟨x, H1, I1, rx, q⟩ => ?_)
  have go : ∀ (d : Addr) (o : Obj) (ws : List (Key × V)) (H2 : Hp), L2.Inv X pins σ H2 s1 → H2 d = some (.frz o (.dK ws)) → R (Iti d o ws) H2 → s1.TypeIs (.ref d) "dict" ∧ (∀ a, Value.ref d = .ref a → ∃ ob, s1.heap.get? a = some ob ∧ ob.dict = none) ∧
      wpAny (model X.prog X.w) X.A (callWith cpos (.builtin "dict.items") [.ref d] [] []) (fun v s2 => wpAny (model X.prog X.w) X.A (pyIter v) (PIE X pins σ (.Tuple elts kk tpos) R) X.xe s2) X.xe s1 := by
    intro d o ws H2 J hd q
    obtain ⟨hs, hgd, hx, es, ep, vs, hdt, hsz, kv, hm⟩ := J.frzK hd
    have hl : ws.length = vs.length := Paired.length kv
    refine ⟨hm.dictOf.typeIs, hm.dictOf.mapOf.noDict, ?_⟩
    have I2 : L2.Inv X pins σ H2 { s1 with heap := s1.heap.push { cls := .type "dict_items", data := .fields #[.ref d] } } := J.kept (t' := s1.toks) fun b ob q => Heap.get?_push_of_some _ q
    have fin : wpAny (model X.prog X.w) X.A (pyIter (.ref s1.heap.objs.size)) (PIE X pins σ (.Tuple elts kk tpos) R) X.xe { s1 with heap := s1.heap.push { cls := .type "dict_items", data := .fields #[.ref d] } } := by
      refine wpAny_pyIter_items (d := d) (knd := mixKind X.prog X.w) ⟨_, Heap.get?_push_size _ rfl, rfl, rfl⟩ (hm.push _) (pi_one (tk := s1.toks) I2 _ (turn_items _ hdt) ⟨.none, .none, ?_⟩ q)
      rw [hl]
      exact Heap.get?_push_size _ rfl
    exact method_meetsIn PySem.F.slot_dict_items PySem.F.entry_dict_items rfl (PySem.evalArgs_none ⟨rfl, hm.dictOf.typeIs, PySem.F.args_dict_items_1 _, _, meets_dict_items (mixKind X.prog X.w) d hs, ⟨vs, hm.dictOf⟩, fin⟩)
  rcases q with ⟨d, ws, rfl, hd, q⟩ | ⟨d, o, ws, rfl, hd, q⟩ | ⟨d, rfl, hd, q⟩
  · cases rx
    obtain ⟨od, I2⟩ := I1.lock hd trivial
    exact go d od ws _ I2 upd_same (q od (I1.nofrz hd trivial))
  · cases rx
    exact go d o ws _ I1 hd q
  · cases rx
    obtain ⟨⟨o, es, ep, g1, g2, g3, g4, g5, g6, g7⟩, _⟩ := I1.hok d _ hd
    have e0 : es = #[] := by
      rw [List.map_nil] at g4
      exact Array.toList_eq_nil_iff.mp g4
    subst e0
    have new : ObjOk X.prog X.w (upd H1 d (.frz o (.dK []))) s1.heap d (.frz o (.dK [])) := ⟨g1, Nat.zero_le _, g6, [], .nil, o, #[], ep, g1, g2, g3, by intro e he; simp at he, .nil, List.nodup_nil⟩
    have I2 := I1.write (x := d) (e := d) (t' := s1.toks) (h' := s1.heap) (by rw [hd]; trivial) (.inl rfl) (fun b v _ q => q) ⟨o, g1⟩ new
    exact go d o [] _ I2 upd_same (q o (I1.nofrz hd trivial))
theorem ui_itm {d : Nat} {e : Expr} {ie : Ex I} {apos cpos tpos : Pos} {elts : List Expr} {kk : Nat} (he : PE X e (uE G den X ca d ie)) (hbase : attributeBase e "items" X.env (eval e X.env) = eval e X.env) (hline : (apos.endLine == cpos.line) = true) : PI X (.Tuple elts kk tpos) (.Call (.Attribute e "items" apos) [] [] cpos) (uI G den X ca d (.itm ie)) := by
  refine pi_imp (pi_itemsL he hbase hline) ?_
  rintro σ H R ⟨n, r, S, τ, s, lk, S', m, er, e, f⟩
  obtain ⟨x, S1, e1, e⟩ := bind_ok (show ((evN G n).e d ie τ S).bind _ = .ok (s, lk) S' from e)
  obtain ⟨⟨a, kvs, k⟩, e2, e⟩ := opt_ok e
  obtain ⟨hgu, e⟩ := guard_ok e
  obtain ⟨⟨S2, c⟩, e3, e⟩ := opt_ok e
  cases e
  rw [Bool.and_eq_true] at hgu
  obtain ⟨rfl, g⟩ := dicAt_ok e2
  unfold lockD at e3
  simp only at e3
  rw [g] at e3
  cases e3
  refine ⟨n, r, S, τ, _, S1, m, er, e1, fun r1 H1 z x1 m1 h1 => ?_⟩
  obtain ⟨b, rfl, q⟩ := vr_ref h1
  rcases dic_ob m1 g q with ⟨ws, h1, h2⟩ | ⟨xs, h1, h2⟩
  · cases k with
    | zero =>
      have h1 : H1 b = some (.dK ws) := h1
      refine .inl ⟨b, ws, rfl, h1, fun od nof => ?_⟩
      have nt : ∀ ys, H1 b ≠ some (.tup ys) := fun ys => m1.nt _ b ys q
      have nf : NotFrz H1 b := .of h1 fun _ _ z => nomatch z
      obtain ⟨m2, x2⟩ := m1.put (u := .frz od (.dK ws)) (o := .dic kvs 1) q nf (fun _ z => nomatch z) fun H' eH mo ms => .inl ⟨ws, ⟨od, by rw [eH]; exact upd_same⟩, Paired.mono (fun a b q => ⟨q.1, mo _ _ q.2⟩) h2⟩
      exact f _ _ _ (x1.trans x2 m.live) m2 (.itms upd_same (Paired.mono (fun a b q => ⟨q.1, q.2.mono x2⟩) h2)) ⟨b, H1, (od, .dK ws), rfl, q, nf, nof, nt, (by rw [h1]; exact fun z => (nomatch z)), x1⟩
    | succ k =>
      obtain ⟨o, h1⟩ := h1
      exact .inr (.inl ⟨b, o, ws, rfl, h1, f _ _ _ x1 (Sim.reset m1 q (.inl ⟨ws, ⟨o, h1⟩, h2⟩)) (.itms h1 h2) trivial⟩)
  · cases h2 with
    | cons p t =>
      exfalso
      have h := List.all_eq_true.mp hgu.1 _ (List.mem_cons_self ..)
      obtain ⟨ts, h5⟩ := en_tup m1 p
      rw [h5] at h
      cases h
    | nil =>
      cases k with
      | succ k => simp at hgu
      | zero =>
        have h1 : H1 b = some (.ext (rawD X.prog X.w b [])) := h1
        refine .inr (.inr ⟨b, rfl, h1, fun od nof => ?_⟩)
        have nt : ∀ ys, H1 b ≠ some (.tup ys) := fun ys => m1.nt _ b ys q
        have nf : NotFrz H1 b := .of h1 fun _ _ z => nomatch z
        obtain ⟨m2, x2⟩ := m1.put (u := .frz od (.dK [])) (o := .dic [] 1) q nf (fun _ z => nomatch z) fun H' eH mo ms => .inl ⟨[], ⟨od, by rw [eH]; exact upd_same⟩, .nil⟩
        exact f _ _ _ (x1.trans x2 m.live) m2 (.itms upd_same .nil) ⟨b, H1, (od, .dK []), rfl, q, nf, nof, nt, (by rw [h1]; exact fun z => (nomatch z)), x1⟩
/-- .. where nothing is locked -/
def uI0 (G : Pg I) (den : I → Int) (X : Cx) (ca : Nat → Addr) (d : Nat) (it : Sr I) : TI := fun σ H R => ∃ (n : Nat) (r : Rho) (S : Sto I) (τ : Env I) (s : Src I) (S' : Sto I),
  SimX den X ca r S H ∧ ER den r H τ σ ∧ srcOf (evN G n) d it τ S = .ok (s, none) S' ∧ ∀ r' H' J, Ext r H r' H' → SimX den X ca r' S' H' → SrcIt X.prog X.w X.K den r' H' s J → R J H'
theorem ui_0 {d : Nat} {tg e : Expr} {it : Sr I} (h : PI X tg e (uI G den X ca d it)) : PI X tg e (uI0 G den X ca d it) := pi_imp h fun σ H R ⟨n, r, S, τ, s, S', m, er, e, f⟩ => ⟨n, r, S, τ, s, none, S', m, er, e, fun r1 H1 J x1 m1 hJ _ => f r1 H1 J x1 m1 hJ⟩
end
end Pz
set_option Elab.async false
set_option linter.all false
set_option maxRecDepth 100000
set_option maxHeartbeats 4000000
namespace Pz
open PySem L2
section
variable {I : Type} [IOps I] {den : I → Int} {ca : Nat → Addr} {X : Cx} {G : Pg I}
/-! ### targets -/
theorem wipe_at {σ : L2.St} {vs : List Nat} {i : Nat} (h : i ∈ vs) : (L2.wipe σ vs)[i]? = none ∨ (L2.wipe σ vs)[i]? = some none := by
  induction vs with
  | nil => cases h
  | cons v vs ih =>
    unfold L2.wipe
    by_cases e : v = i
    · subst e
      by_cases hl : v < (L2.wipe σ vs).length
      · right; exact List.getElem?_set_self hl
      · left; exact List.getElem?_eq_none (by rw [List.length_set]; omega)
    · rw [List.getElem?_set_ne e]
      rcases List.mem_cons.mp h with z | z
      · exact absurd z.symm e
      · exact ih z
theorem wipe_ext {σ σ2 : L2.St} {vs : List Nat} (hl : σ2.length = σ.length) (h : ∀ i, i ∉ vs → σ2[i]? = σ[i]?) : L2.wipe σ2 vs = L2.wipe σ vs := by
  apply List.ext_getElem?
  intro i
  by_cases hi : i ∈ vs
  · have l1 := wipe_length σ vs
    have l2 := wipe_length σ2 vs
    by_cases hb : i < σ.length
    · have g1 : i < (L2.wipe σ vs).length := by omega
      have g2 : i < (L2.wipe σ2 vs).length := by omega
      rcases wipe_at (σ := σ) hi with z | z
      · rw [List.getElem?_eq_getElem g1] at z; cases z
      · rcases wipe_at (σ := σ2) hi with y | y
        · rw [List.getElem?_eq_getElem g2] at y; cases y
        · rw [z, y]
    · rw [List.getElem?_eq_none (by omega), List.getElem?_eq_none (by omega)]
  · rw [wipe_out hi, wipe_out hi, h i hi]
/-- a target's reading: the names of the slots alone are set -/
def uG (den : I → Int) (X : Cx) (ca : Nat → Addr) (g : Tg) : TG := fun z σ H Q => ∃ (r : Rho) (S : Sto I) (τ τ' : Env I) (v : Val I), SimX den X ca r S H ∧ ER den r H τ σ ∧ VR den r H v z ∧ bindT g v τ = some τ' ∧
  ∀ σ', ER den r H τ' σ' → σ'.length = σ.length → (∀ i, i ∉ slots g → σ'[i]? = σ[i]?) → Q σ' H
def uGs (den : I → Int) (X : Cx) (ca : Nat → Addr) (gs : List Tg) : TGs := fun zs σ H Q => ∃ (r : Rho) (S : Sto I) (τ τ' : Env I) (vs : List (Val I)), SimX den X ca r S H ∧ ER den r H τ σ ∧ VRs den r H vs zs ∧ bindTs gs vs τ = some τ' ∧
  ∀ σ', ER den r H τ' σ' → σ'.length = σ.length → (∀ i, i ∉ slotss gs → σ'[i]? = σ[i]?) → Q σ' H
theorem pg_imp {e : Expr} {t t' : TG} (h : PG X e t') (w : ∀ v σ H Q, t v σ H Q → t' v σ H Q) : PG X e t := ⟨fun pins s σ H v u Q I r q => h.run pins s σ H v u Q I r (w _ _ _ _ q)⟩
theorem pgs_imp {e : List Expr} {t t' : TGs} (h : PGs X e t') (w : ∀ v σ H Q, t v σ H Q → t' v σ H Q) : PGs X e t := ⟨fun pins s σ H v u Q I r q => h.run pins s σ H v u Q I r (w _ _ _ _ q)⟩
theorem ug_name {i : Nat} {x : Str} {pos : Pos} (hN : X.N.Nodup) (hi : X.N[i]? = some x) (hx : Loc X.env.scope x) (hf : X.fn x = true ∨ X.env.scope.names.lookup x = some .local) : PG X (.Name x pos) (uG den X ca (.nm i)) := by
  refine pg_imp (pg_name hN hi hx hf) ?_
  rintro z σ H Q ⟨r, S, τ, τ', v, m, er, hv, e, q⟩
  cases e
  refine q _ (er.set hv i) (by simp) fun j hj => ?_
  rw [List.getElem?_set_ne]
  intro e
  exact hj (by rw [e]; simp [slots])
theorem ugs_nil : PGs X [] (uGs den X ca []) := by
  refine pgs_imp pgs_nil ?_
  rintro zs σ H Q ⟨r, S, τ, τ', vs, m, er, hv, e, q⟩
  cases vs with
  | nil =>
    cases hv
    cases e
    exact ⟨rfl, q σ er rfl fun _ _ => rfl⟩
  | cons _ _ => cases e
theorem ugs_cons {e : Expr} {es : List Expr} {g : Tg} {gs : List Tg} (h1 : PG X e (uG den X ca g)) (h2 : PGs X es (uGs den X ca gs)) (hs : (assignEach (e :: es) X.env).map (·.2) = assign e X.env :: (assignEach es X.env).map (·.2)) : PGs X (e :: es) (uGs den X ca (g :: gs)) := by
  refine pgs_imp (pgs_cons h1 h2 hs) ?_
  rintro zs σ H Q ⟨r, S, τ, τ', vs, m, er, hv, e, q⟩
  cases vs with
  | nil => cases e
  | cons v vs =>
    cases hv with
    | cons a b =>
      have e : (match bindT g v τ with | some t' => bindTs gs vs t' | none => none) = some τ' := e
      split at e
      · rename_i t1 e1
        refine ⟨_, _, rfl, r, S, τ, t1, v, m, er, a, e1, fun σ1 er1 l1 k1 => ⟨r, S, t1, τ', vs, m, er1, b, e, fun σ2 er2 l2 k2 => q σ2 er2 (l2.trans l1) fun i hi => ?_⟩⟩
        have hi : i ∉ slots g ++ slotss gs := hi
        rw [k2 i fun z => hi (List.mem_append_right _ z), k1 i fun z => hi (List.mem_append_left _ z)]
      · cases e
theorem bindTs_len : ∀ {gs : List Tg} {vs : List (Val I)} {τ τ' : Env I}, bindTs gs vs τ = some τ' → vs.length = gs.length
  | [], [], _, _, _ => rfl
  | [], _ :: _, _, _, e => by cases e
  | _ :: _, [], _, _, e => by cases e
  | g :: gs, v :: vs, τ, τ', e => by
    have e : (match bindT g v τ with | some t' => bindTs gs vs t' | none => none) = some τ' := e
    split at e
    · simp [bindTs_len e]
    · cases e
theorem ug_tup {es : List Expr} {k : Nat} {gs : List Tg} {pos : Pos} (hc : X.calm = true) (h : PGs X es (uGs den X ca gs)) (hn : (assignEach es X.env).length = gs.length) (hst : (assignEach es X.env).findIdx? (·.1) = none) : PG X (.Tuple es k pos) (uG den X ca (.tup gs)) := by
  refine pg_imp (pg_tup (n := gs.length) hc h hn hst) ?_
  rintro z σ H Q ⟨r, S, τ, τ', v, m, er, hv, e, q⟩
  cases hv with
  | tup h1 h2 =>
    rename_i xs a ys
    have e : bindTs gs xs τ = some τ' := e
    exact ⟨a, ys, rfl, SqT.of h1, by rw [← h2.length]; exact bindTs_len e, r, S, τ, τ', xs, m, er, h2, e, q⟩
  | _ => cases e
/-! ### statements -/
def FinS (den : I → Int) (X : Cx) (ca : Nat → Addr) (r : Rho) (H : Hp) (fl : Fl I) (τ' : Env I) (S' : Sto I) (D : Ends) : Prop := match fl with
  | .nx => ∀ r' H' σ', Ext r H r' H' → SimX den X ca r' S' H' → ER den r' H' τ' σ' → D.nx σ' H'
  | .ct => ∀ r' H' σ', Ext r H r' H' → SimX den X ca r' S' H' → ER den r' H' τ' σ' → D.ct σ' H'
  | .rt v => ∀ r' H' z, Ext r H r' H' → SimX den X ca r' S' H' → VR den r' H' v z → D.rt z H'
theorem FinS.ext {r r' : Rho} {H H' : Hp} {fl : Fl I} {τ' : Env I} {S S' : Sto I} {D : Ends} (f : FinS den X ca r H fl τ' S' D) (x : Ext r H r' H') (m : SimX den X ca r S H) : FinS den X ca r' H' fl τ' S' D := by
  cases fl with
  | nx => exact fun r2 H2 σ2 x2 m2 h2 => f r2 H2 σ2 (x.trans x2 m.live) m2 h2
  | ct => exact fun r2 H2 σ2 x2 m2 h2 => f r2 H2 σ2 (x.trans x2 m.live) m2 h2
  | rt v => exact fun r2 H2 z x2 m2 h2 => f r2 H2 z (x.trans x2 m.live) m2 h2
def uS (G : Pg I) (den : I → Int) (X : Cx) (ca : Nat → Addr) (d : Nat) (ir : St I) : TS := fun D σ H => ∃ (n : Nat) (r : Rho) (S : Sto I) (τ : Env I) (fl : Fl I) (τ' : Env I) (S' : Sto I),
  SimX den X ca r S H ∧ ER den r H τ σ ∧ (evN G n).s d ir τ S = .ok (fl, τ') S' ∧ FinS den X ca r H fl τ' S' D
def uSs (G : Pg I) (den : I → Int) (X : Cx) (ca : Nat → Addr) (d : Nat) (irs : List (St I)) : TS := fun D σ H => ∃ (n : Nat) (r : Rho) (S : Sto I) (τ : Env I) (fl : Fl I) (τ' : Env I) (S' : Sto I),
  SimX den X ca r S H ∧ ER den r H τ σ ∧ (evN G n).ss d irs τ S = .ok (fl, τ') S' ∧ FinS den X ca r H fl τ' S' D
theorem us_nil {d : Nat} : PSs X [] (uSs G den X ca d []) := by
  refine pss_imp pss_nil ?_
  rintro D σ H ⟨n, r, S, τ, fl, τ', S', m, er, e, f⟩
  cases n with
  | zero => cases e
  | succ n =>
    cases e
    exact f _ _ _ Ext.refl m er
theorem us_cons {d : Nat} {st : Stmt} {sts : List Stmt} {ir : St I} {irs : List (St I)} (h1 : PS X st (uS G den X ca d ir)) (h2 : PSs X sts (uSs G den X ca d irs)) : PSs X (st :: sts) (uSs G den X ca d (ir :: irs)) := by
  refine pss_imp (pss_cons h1 h2) ?_
  rintro D σ H ⟨n, r, S, τ, fl, τ', S', m, er, e, f⟩
  cases n with
  | zero => cases e
  | succ n =>
    obtain ⟨⟨f1, t1⟩, S1, e1, e⟩ := bind_ok (show ((evN G n).s d ir τ S).bind _ = .ok (fl, τ') S' from e)
    refine ⟨n, r, S, τ, f1, t1, S1, m, er, e1, ?_⟩
    cases f1 with
    | nx => exact fun r1 H1 σ1 x1 m1 er1 => ⟨n, r1, S1, t1, fl, τ', S', m1, er1, e, f.ext x1 m⟩
    | ct => cases e; exact f
    | rt v => cases e; exact f
theorem us_set {d i : Nat} {x : Str} {e : Expr} {ie : Ex I} {pos pos' : Pos} (hN : X.N.Nodup) (hi : X.N[i]? = some x) (hx : Loc X.env.scope x) (he : PE X e (uE G den X ca d ie)) (hs : swapsWith e (some (.Name x pos')) pos.line X.env = pure false) (hf : X.fn x = true ∨ X.env.scope.names.lookup x = some .local) : PS X (.Assign [.Name x pos'] e pos) (uS G den X ca d (.set i ie)) := by
  refine ps_imp (ps_set hN hi hx he hs hf) ?_
  rintro D σ H ⟨n, r, S, τ, fl, τ', S', m, er, e, f⟩
  cases n with
  | zero => cases e
  | succ n =>
    obtain ⟨v, S1, e1, e⟩ := bind_ok (show s_set (evN G n) d i ie τ S = .ok (fl, τ') S' from e)
    cases e
    exact ⟨n, r, S, τ, v, _, m, er, e1, fun r1 H1 z x1 m1 h1 => f _ _ _ x1 m1 ((er.mono x1).set h1 i)⟩
theorem us_setT {d : Nat} {g : Tg} {tg e : Expr} {ie : Ex I} {pos : Pos} (he : PE X e (uE G den X ca d ie)) (hg : PG X tg (uG den X ca g)) (hs : swapsWithSole [tg] e pos.line X.env = pure false) (hw : swappedStores [tg] e X.env = pure none) (h1 : (assignEach [tg] X.env).map (·.2) = [assign tg X.env]) : PS X (.Assign [tg] e pos) (uS G den X ca d (.setT g ie)) := by
  refine ps_imp (ps_asg he hg hs hw h1) ?_
  rintro D σ H ⟨n, r, S, τ, fl, τ', S', m, er, e, f⟩
  cases n with
  | zero => cases e
  | succ n =>
    obtain ⟨v, S1, e1, e⟩ := bind_ok (show s_setT (evN G n) d g ie τ S = .ok (fl, τ') S' from e)
    obtain ⟨t, e2, e⟩ := opt_ok e
    cases e
    exact ⟨n, r, S, τ, v, _, m, er, e1, fun r1 H1 z x1 m1 h1 => ⟨r1, _, τ, _, v, m1, er.mono x1, h1, e2, fun σ' er' _ _ => f _ _ _ x1 m1 er'⟩⟩
theorem us_expr {d : Nat} {e : Expr} {ie : Ex I} {pos : Pos} (he : PE X e (uE G den X ca d ie)) (hs : swapsWith e none pos.line X.env = pure false) : PS X (.Expr e pos) (uS G den X ca d (.expr ie)) := by
  refine ps_imp (ps_expr he hs) ?_
  rintro D σ H ⟨n, r, S, τ, fl, τ', S', m, er, e, f⟩
  cases n with
  | zero => cases e
  | succ n =>
    obtain ⟨v, S1, e1, e⟩ := bind_ok (show s_expr (evN G n) d ie τ S = .ok (fl, τ') S' from e)
    cases e
    exact ⟨n, r, S, τ, v, _, m, er, e1, fun r1 H1 z x1 m1 h1 => f _ _ _ x1 m1 (er.mono x1)⟩
theorem us_ret {d : Nat} {e : Expr} {ie : Ex I} {pos : Pos} (he : PE X e (uE G den X ca d ie)) : PS X (.Return (some e) pos) (uS G den X ca d (.ret ie)) := by
  refine ps_imp (ps_ret he) ?_
  rintro D σ H ⟨n, r, S, τ, fl, τ', S', m, er, e, f⟩
  cases n with
  | zero => cases e
  | succ n =>
    obtain ⟨v, S1, e1, e⟩ := bind_ok (show s_ret (evN G n) d ie τ S = .ok (fl, τ') S' from e)
    cases e
    exact ⟨n, r, S, τ, v, _, m, er, e1, fun r1 H1 z x1 m1 h1 => f _ _ _ x1 m1 h1⟩
theorem us_retN {d : Nat} {pos : Pos} : PS X (.Return none pos) (uS G den X ca d .retN) := by
  refine ps_imp ps_retN ?_
  rintro D σ H ⟨n, r, S, τ, fl, τ', S', m, er, e, f⟩
  cases n with
  | zero => cases e
  | succ n =>
    cases e
    exact f _ _ _ Ext.refl m .non
theorem us_pass {d : Nat} {pos : Pos} : PS X (.Pass pos) (uS G den X ca d .pass) := by
  refine ps_imp ps_pass ?_
  rintro D σ H ⟨n, r, S, τ, fl, τ', S', m, er, e, f⟩
  cases n with
  | zero => cases e
  | succ n =>
    cases e
    exact f _ _ _ Ext.refl m er
theorem us_cont {d : Nat} {pos : Pos} : PS X (.Continue pos) (uS G den X ca d .cont) := by
  refine ps_imp ps_continue ?_
  rintro D σ H ⟨n, r, S, τ, fl, τ', S', m, er, e, f⟩
  cases n with
  | zero => cases e
  | succ n =>
    cases e
    exact f _ _ _ Ext.refl m er
theorem us_doc {d : Nat} {x : Str} {j : Nat} {pos pos' : Pos} : PS X (.Expr (.Constant (.str x) j pos) pos') (uS G den X ca d .pass) := by
  refine ps_imp ps_doc ?_
  rintro D σ H ⟨n, r, S, τ, fl, τ', S', m, er, e, f⟩
  cases n with
  | zero => cases e
  | succ n =>
    cases e
    exact f _ _ _ Ext.refl m er
/-- raise: not come to -/
theorem us_rais {d c : Nat} {st : Stmt} : PS X st (uS G den X ca d (.rais c)) := by
  refine ps_imp ps_never ?_
  rintro D σ H ⟨n, r, S, τ, fl, τ', S', m, er, e, f⟩
  cases n with
  | zero => cases e
  | succ n => cases e
theorem us_if {d : Nat} {c : Expr} {a b : List Stmt} {ic : Ex I} {ia ib : List (St I)} {pos : Pos} (hc : PT X c (uT G den X ca d ic)) (ha : PSs X a (uSs G den X ca d ia)) (hb : PSs X b (uSs G den X ca d ib)) : PS X (.If c a b pos) (uS G den X ca d (.ifs ic ia ib)) := by
  refine ps_imp (ps_if hc ha hb) ?_
  rintro D σ H ⟨n, r, S, τ, fl, τ', S', m, er, e, f⟩
  cases n with
  | zero => cases e
  | succ n =>
    obtain ⟨v, S1, e1, e⟩ := bind_ok (show s_ifs (evN G n) d ic ia ib τ S = .ok (fl, τ') S' from e)
    obtain ⟨k, e2, e⟩ := opt_ok e
    refine ⟨n, r, S, τ, v, k, S1, m, er, e1, e2, fun r1 H1 x1 m1 => ?_⟩
    cases k with
    | true => exact (if_pos (rfl : true = true)).symm ▸ ⟨n, r1, S1, τ, fl, τ', S', m1, er.mono x1, e, f.ext x1 m⟩
    | false => exact (if_neg Bool.false_ne_true).symm ▸ ⟨n, r1, S1, τ, fl, τ', S', m1, er.mono x1, e, f.ext x1 m⟩
theorem us_while {d : Nat} {c : Expr} {b : List Stmt} {ic : Ex I} {ib : List (St I)} {pos : Pos} (hp : PassesOwn (model X.prog X.w) X.A X.env X.xe) (hc : PT X c (uT G den X ca d ic)) (hb : PSs X b (uSs G den X ca d ib)) : PS X (.While c b [] pos) (uS G den X ca d (.whl ic ib)) := by
  refine ps_imp (ps_while hp hc hb) ?_
  rintro D σ H ⟨n, r, S, τ, fl, τ', S', m, er, e, f⟩
  refine ⟨fun k σ1 H1 => ∃ r1 S1 t1, SimX den X ca r1 S1 H1 ∧ ER den r1 H1 t1 σ1 ∧ (evN G k).s d (.whl ic ib) t1 S1 = .ok (fl, τ') S' ∧ FinS den X ca r1 H1 fl τ' S' D, ⟨n, r, S, τ, m, er, e, f⟩, ?_⟩
  rintro k σ1 H1 ⟨r1, S1, t1, m1, er1, e1, f1⟩
  cases k with
  | zero => cases e1
  | succ k =>
    obtain ⟨v, S2, e2, e1⟩ := bind_ok (show s_whl (evN G k) d ic ib t1 S1 = .ok (fl, τ') S' from e1)
    obtain ⟨q, e3, e1⟩ := opt_ok e1
    refine ⟨k, r1, S1, t1, v, q, S2, m1, er1, e2, e3, fun r2 H2 x2 m2 => ?_⟩
    cases q with
    | false =>
      cases e1
      rw [if_neg Bool.false_ne_true]
      exact f1 _ _ _ x2 m2 (er1.mono x2)
    | true =>
      rw [if_pos rfl]
      obtain ⟨⟨f3, t3⟩, S3, e4, e1⟩ := bind_ok e1
      refine ⟨fun σ3 H3 => ∃ r1 S1 t1, SimX den X ca r1 S1 H3 ∧ ER den r1 H3 t1 σ3 ∧ (evN G k).s d (.whl ic ib) t1 S1 = .ok (fl, τ') S' ∧ FinS den X ca r1 H3 fl τ' S' D, fun σ3 H3 h3 => ⟨k, Nat.lt_succ_self k, h3⟩, ?_⟩
      refine ⟨k, r2, S2, t1, f3, t3, S3, m2, er1.mono x2, e4, ?_⟩
      cases f3 with
      | nx => exact fun r4 H4 σ4 x4 m4 er4 => ⟨r4, S3, t3, m4, er4, e1, (f1.ext x2 m1).ext x4 m2⟩
      | ct => exact fun r4 H4 σ4 x4 m4 er4 => ⟨r4, S3, t3, m4, er4, e1, (f1.ext x2 m1).ext x4 m2⟩
      | rt v =>
        cases e1
        exact f1.ext x2 m1
/-- what is wanted behind a walk, while its dict is still locked -/
theorem FinS.un {r r1 : Rho} {H H1 : Hp} {S S2 S' : Sto I} {fl : Fl I} {τ' : Env I} {D : Ends} {lk : Option (Nat × Nat)} (f : FinS den X ca r H fl τ' S' D) (m : SimX den X ca r S H) (x : Ext r H r1 H1) (k : LkF X r H r1 H1 lk) (e : UnS lk S2 S') : FinS den X ca r1 H1 fl τ' S2 (unE X D) := by
  cases fl with
  | nx => exact fun r' H' σ' x' m' er => un_fin m.live x k x' m' e fun H3 x3 m3 vm _ => f r' H3 σ' x3 m3 ⟨er.1, fun i v q => let ⟨y, h1, h2⟩ := er.2 i v q; ⟨y, h1, vm _ _ h2⟩⟩
  | ct => exact fun r' H' σ' x' m' er => un_fin m.live x k x' m' e fun H3 x3 m3 vm _ => f r' H3 σ' x3 m3 ⟨er.1, fun i v q => let ⟨y, h1, h2⟩ := er.2 i v q; ⟨y, h1, vm _ _ h2⟩⟩
  | rt v => exact fun r' H' z x' m' hv => un_fin m.live x k x' m' e fun H3 x3 m3 vm _ => f r' H3 z x3 m3 (vm _ _ hv)
theorem unlock_ok {A : Type} {lk : Option (Nat × Nat)} {x : Rs I A} {v : A} {S' : Sto I} (e : unlock lk x = .ok v S') : ∃ S2, x = .ok v S2 ∧ UnS lk S2 S' := by
  cases lk with
  | none => exact ⟨S', e, rfl⟩
  | some p =>
    obtain ⟨v', S2, e1, e⟩ := bind_ok (show x.bind (fun x S => opt (unlockD S p.1 p.2) fun S' => .ok x S') = .ok v S' from e)
    obtain ⟨S3, e2, e⟩ := opt_ok e
    cases e
    exact ⟨S2, e1, e2⟩
theorem us_for (L : Lawful I den) {d : Nat} {tg iter : Expr} {b : List Stmt} {g : Tg} {it : Sr I} {ib : List (St I)} {pos : Pos} (hp : PassesOwn (model X.prog X.w) X.A X.env X.xe) (hc : X.calm = true) (hi : PI X tg iter (uI G den X ca d it)) (hg : PG X tg (uG den X ca g)) (hb : PSs X b (uSs G den X ca d ib))
    (hs : ∀ x, foldedSetIterable iter X.env x = pure x) : PS X (.For tg iter b [] pos) (uS G den X ca d (.for g it ib)) := by
  refine ps_imp (ps_un (ps_for hp hc hi hg hb hs)) ?_
  rintro D σ H ⟨n, r, S, τ, fl, τ', S', m, er, e, f⟩
  cases n with
  | zero => cases e
  | succ n =>
    obtain ⟨⟨s, lk⟩, S1, e1, e⟩ := bind_ok (show s_for (evN G n) d g it ib τ S = .ok (fl, τ') S' from e)
    obtain ⟨S9, e, eu⟩ := unlock_ok e
    have e : (evN G n).lp d s 0 g ib τ S1 = .ok (fl, τ') S9 := e
    refine ⟨n, r, S, τ, s, lk, S1, m, er, e1, fun r1 H1 J x1 m1 hJ hk => ?_⟩
    have f9 : FinS den X ca r1 H1 fl τ' S9 (unE X D) := f.un m x1 hk eu
    generalize unE X D = D9 at f9 ⊢
    refine ⟨fun i k σ2 H2 => ∃ r2 S2 t2, SimX den X ca r2 S2 H2 ∧ ER den r2 H2 t2 σ2 ∧ SrcIt X.prog X.w X.K den r2 H2 s J ∧ (evN G k).lp d s i g ib t2 S2 = .ok (fl, τ') S9 ∧ FinS den X ca r2 H2 fl τ' S9 D9, ⟨n, r1, S1, τ, m1, er.mono x1, hJ, e, f9⟩, ?_⟩
    rintro i k σ2 H2 ⟨r2, S2, t2, m2, er2, hJ2, e2, f2⟩
    cases k with
    | zero => cases e2
    | succ k =>
      obtain ⟨o, e3, e2⟩ := opt_ok (show opt (s.at S2 i) _ = .ok (fl, τ') S9 from e2)
      cases o with
      | none =>
        cases e2
        exact .inl ⟨src_stop m2 hJ2 e3, f2 _ _ _ Ext.refl m2 er2⟩
      | some v =>
        obtain ⟨t3, e4, e2⟩ := opt_ok e2
        obtain ⟨⟨f5, t5⟩, S5, e5, e2⟩ := bind_ok e2
        obtain ⟨hgo, hy⟩ := src_item L m2 hJ2 e3
        refine .inr ⟨hgo, fun σ6 H6 => ∃ r2 S2 t2, SimX den X ca r2 S2 H6 ∧ ER den r2 H6 t2 σ6 ∧ SrcIt X.prog X.w X.K den r2 H6 s J ∧ (evN G k).lp d s (i + 1) g ib t2 S2 = .ok (fl, τ') S9 ∧ FinS den X ca r2 H6 fl τ' S9 D9, fun σ6 H6 h6 => ⟨k, Nat.lt_succ_self k, h6⟩, fun x H3 hx => ?_⟩
        obtain ⟨m3, x3, hv⟩ := hy x H3 hx
        refine ⟨r2, S2, t2, t3, v, m3, er2.mono x3, hv, e4, fun σ4 er4 _ _ => ?_⟩
        refine ⟨k, r2, S2, t3, f5, t5, S5, m3, er4, e5, ?_⟩
        cases f5 with
        | nx => exact fun r6 H6 σ6 x6 m6 er6 => ⟨r6, S5, t5, m6, er6, (hJ2.mono x3).mono x6, e2, (f2.ext x3 m2).ext x6 m3⟩
        | ct => exact fun r6 H6 σ6 x6 m6 er6 => ⟨r6, S5, t5, m6, er6, (hJ2.mono x3).mono x6, e2, (f2.ext x3 m2).ext x6 m3⟩
        | rt v =>
          cases e2
          exact f2.ext x3 m2
end
end Pz
set_option Elab.async false
set_option linter.all false
set_option maxRecDepth 100000
set_option maxHeartbeats 4000000
namespace Pz
open PySem L2
section
variable {I : Type} [IOps I] {den : I → Int} {ca : Nat → Addr} {X : Cx} {G : Pg I} {P : Program} {w : World}
/-! ### an object that the evaluator does not know yet -/
/-- something at D that no place of the evaluator's stands for is made anew: what was there behind (r0, H0), where D was free, is kept -/
theorem over {r0 r : Rho} {H0 H : Hp} {S : Sto I} {D : Addr} {u : HO} (x : Ext r0 H0 r H) (m : Sim den P w ca r S H) (h0 : H0 D = none) (lv : ∀ a b, r0 a = some b → H0 b ≠ none) (hD : ∀ a, r a ≠ some D) (nt : ∀ ys, H D ≠ some (.tup ys)) (hn : H D ≠ none) (nf : NotFrz H D) :
    Sim den P w ca r S (upd H D u) ∧ Ext r0 H0 r (upd H D u) ∧ (∀ {v : Val I} {y : V}, VR den r H v y → VR den r (upd H D u) v y) ∧ (∀ {v : List (Val I)} {y : List V}, VRs den r H v y → VRs den r (upd H D u) v y) := by
  have e0 : Ext r H r (upd H D u) ∨ True := .inr trivial
  have tp : ∀ b ys, H b = some (.tup ys) → upd H D u b = some (.tup ys) := fun b ys q => by
    rw [upd_ne (fun e => nt ys (by rw [← e]; exact q))]; exact q
  have there : ∀ b, H b ≠ none → upd H D u b ≠ none := fun b q => by
    by_cases e : b = D
    · rw [e, upd_same]; exact fun z => nomatch z
    · rw [upd_ne e]; exact q
  -- values stay: they lean on places and tuples alone
  have vm : ∀ {v : Val I} {y : V}, VR den r H v y → VR den r (upd H D u) v y := by
    intro v y h
    have E : Ext r H r (upd (upd H D u) D (u)) ∨ True := .inr trivial
    exact VR.rec (motive_1 := fun v y _ => VR den r (upd H D u) v y) (motive_2 := fun v y _ => VRs den r (upd H D u) v y) .non (fun b => .bl b) (fun i => .int i) (fun s => .str s) (fun h _ ih => .tup (tp _ _ h) ih) (fun h => .ref h) .nil (fun _ _ a b => .cons a b) h
  have vms : ∀ {v : List (Val I)} {y : List V}, VRs den r H v y → VRs den r (upd H D u) v y := by
    intro v y h
    exact VRs.rec (motive_1 := fun v y _ => VR den r (upd H D u) v y) (motive_2 := fun v y _ => VRs den r (upd H D u) v y) .non (fun b => .bl b) (fun i => .int i) (fun s => .str s) (fun h _ ih => .tup (tp _ _ h) ih) (fun h => .ref h) .nil (fun _ _ a b => .cons a b) h
  have ne : ∀ a b, r a = some b → b ≠ D := fun a b q e => hD a (e ▸ q)
  refine ⟨⟨fun c o' q => ?_, m.inj, m.dom, fun c b q => there b (m.live c b q), fun c b ys q => by rw [upd_ne (ne c b q)]; exact m.nt c b ys q, m.nx⟩, ⟨x.sub, fun b o q n => ?_, x.new, fun b q => there b (x.there b q), fun b ys q => tp b ys (x.tup b ys q), fun b o u q => frz_upd nf (x.frz b o u q)⟩, vm, vms⟩
  · obtain ⟨b, h1, h2⟩ := m.ob c o' q
    exact ⟨b, h1, h2.stay (upd_ne (ne c b h1)) (fun _ _ z => vm z) fun _ _ z => vms z⟩
  · rw [upd_ne (fun e => by rw [e, h0] at q; cases q)]
    exact x.frame b o q n
/-- .. and at the end it becomes the evaluator's newest -/
theorem adopt {r0 r : Rho} {H0 H : Hp} {S : Sto I} {D : Addr} {o : Ob I} (x : Ext r0 H0 r H) (m : Sim den P w ca r S H) (h0 : H0 D = none) (hD : ∀ a, r a ≠ some D) (hn : H D ≠ none) (nt : ∀ ys, H D ≠ some (.tup ys)) (hz : S.next < 1000000000)
    (ho : ∀ r', (∀ v y, VR den r H v y → VR den r' H v y) → (∀ v y, VRs den r H v y → VRs den r' H v y) → ObR den P w ca r' H D o) : ∃ r', Sim den P w ca r' (S.new o) H ∧ Ext r0 H0 r' H ∧ r' S.next = some D := by
  have hS : r S.next = none := by
    cases q : r S.next with
    | none => rfl
    | some c => exact absurd (m.dom _ _ q) (Nat.lt_irrefl _)
  let r' : Rho := fun a => if a = S.next then some D else r a
  have rn : r' S.next = some D := if_pos rfl
  have ro : ∀ a, a ≠ S.next → r' a = r a := fun a e => if_neg e
  have sub : ∀ a c, r a = some c → r' a = some c := fun a c q => by
    rw [ro a (fun e => by rw [e, hS] at q; cases q)]; exact q
  have vm : ∀ (v : Val I) (y : V), VR den r H v y → VR den r' H v y := fun v y h =>
    VR.rec (motive_1 := fun v y _ => VR den r' H v y) (motive_2 := fun v y _ => VRs den r' H v y) .non (fun b => .bl b) (fun i => .int i) (fun s => .str s) (fun h _ ih => .tup h ih) (fun h => .ref (sub _ _ h)) .nil (fun _ _ a b => .cons a b) h
  have vms : ∀ (v : List (Val I)) (y : List V), VRs den r H v y → VRs den r' H v y := fun v y h =>
    VRs.rec (motive_1 := fun v y _ => VR den r' H v y) (motive_2 := fun v y _ => VRs den r' H v y) .non (fun b => .bl b) (fun i => .int i) (fun s => .str s) (fun h _ ih => .tup h ih) (fun h => .ref (sub _ _ h)) .nil (fun _ _ a b => .cons a b) h
  refine ⟨r', ⟨fun a o' q => ?_, fun a a' c p q => ?_, fun a c q => ?_, fun a c q => ?_, fun a c ys q => ?_, Nat.succ_le_of_lt hz⟩, ⟨fun a b q => sub a b (x.sub a b q), x.frame, fun a b q => ?_, x.there, x.tup, x.frz⟩, rn⟩
  · rw [Sto.get_new hz] at q
    by_cases e : a = S.next
    · rw [if_pos e] at q
      cases q
      subst e
      exact ⟨D, rn, ho r' vm vms⟩
    · rw [if_neg e] at q
      obtain ⟨c, h1, h2⟩ := m.ob a o' q
      exact ⟨c, sub a c h1, h2.stay rfl vm vms⟩
  · by_cases e : a = S.next <;> by_cases f : a' = S.next
    · rw [e, f]
    · subst e; rw [rn] at p; rw [ro _ f] at q; cases p; exact absurd q (hD a')
    · subst f; rw [rn] at q; rw [ro _ e] at p; cases q; exact absurd p (hD a)
    · rw [ro _ e] at p; rw [ro _ f] at q; exact m.inj a a' c p q
  · show a < S.next + 1
    by_cases e : a = S.next
    · omega
    · rw [ro _ e] at q; exact Nat.lt_succ_of_lt (m.dom a c q)
  · by_cases e : a = S.next
    · subst e; rw [rn] at q; cases q; exact hn
    · rw [ro _ e] at q; exact m.live a c q
  · by_cases e : a = S.next
    · subst e; rw [rn] at q; cases q; exact nt ys
    · rw [ro _ e] at q; exact m.nt a c ys q
  · by_cases e : a = S.next
    · subst e; rw [rn] at q; cases q; exact .inr h0
    · rw [ro _ e] at q; exact x.new a b q
theorem SrcIt.over {P : Program} {w : World} {K : PySem.W.Frag} {r : Rho} {H : Hp} {D : Addr} {u : HO} {s : Src I} {J : It} (h : SrcIt P w K den r H s J) (nt : ∀ ys, H D ≠ some (.tup ys)) (nf : NotFrz H D) (vm : ∀ {v : Val I} {y : V}, VR den r H v y → VR den r (upd H D u) v y) (vms : ∀ {v : List (Val I)} {y : List V}, VRs den r H v y → VRs den r (upd H D u) v y) : SrcIt P w K den r (upd H D u) s J := by
  have tp : ∀ b ys, H b = some (.tup ys) → upd H D u b = some (.tup ys) := fun b ys q => by
    rw [upd_ne (fun e => nt ys (by rw [← e]; exact q))]; exact q
  cases h with
  | lst q => exact .lst q
  | tup q vs => exact .tup (tp _ _ q) (vms vs)
  | str z => exact .str z
  | rng lo n => exact .rng lo n
  | rngC lo c n => exact .rngC lo c n
  | enuL q => exact .enuL q
  | enuT q vs => exact .enuT (tp _ _ q) (vms vs)
  | keysL q vs => exact .keysL (frz_upd nf q) (Paired.mono (fun a b q => ⟨q.1, vm q.2⟩) vs)
  | keysX q vs => exact .keysX (frz_upd nf q) (Paired.mono (fun a b q => ⟨q.1, q.2.1, vm q.2.2.1, let ⟨y, q1, q2⟩ := q.2.2.2; ⟨y, q1, vm q2⟩⟩) vs)
  | itms q vs => exact .itms (frz_upd nf q) (Paired.mono (fun a b q => ⟨q.1, vm q.2⟩) vs)
/-! ### environments of a block -/
theorem pwipe_some {own : List Nat} : ∀ {t : Env I} {i : Nat} {v : Val I}, (Pz.wipe own t)[i]? = some (some v) → t[i]? = some (some v) ∧ i ∉ own := by
  unfold Pz.wipe
  induction own with
  | nil => exact fun h => ⟨h, by simp⟩
  | cons o own ih =>
    intro t i v h
    obtain ⟨h1, h2⟩ := ih (t := t.set o none) h
    by_cases e : o = i
    · subst e
      by_cases hl : o < t.length
      · rw [List.getElem?_set_self hl] at h1; cases h1
      · rw [List.getElem?_eq_none (by rw [List.length_set]; omega)] at h1; cases h1
    · rw [List.getElem?_set_ne e] at h1
      exact ⟨h1, fun z => (List.mem_cons.mp z).elim (fun q => e q.symm) h2⟩
theorem pwipe_length {own : List Nat} : ∀ {t : Env I}, (Pz.wipe own t).length = t.length := by
  unfold Pz.wipe
  induction own with
  | nil => exact rfl
  | cons o own ih =>
    intro t
    show (List.foldl _ (t.set o none) own).length = _
    rw [ih, List.length_set]
theorem ER.wipe {r : Rho} {H : Hp} {t : Env I} {σ : L2.St} (h : ER den r H t σ) (own : List Nat) : ER den r H (Pz.wipe own t) (L2.wipe σ own) := by
  refine ⟨by rw [pwipe_length, wipe_length]; exact h.1, fun i v e => ?_⟩
  obtain ⟨e1, e2⟩ := pwipe_some e
  obtain ⟨y, h1, h2⟩ := h.2 i v e1
  exact ⟨y, by rw [wipe_out e2]; exact h1, h2⟩
theorem wipe_wipe (σ : L2.St) (vs : List Nat) : L2.wipe (L2.wipe σ vs) vs = L2.wipe σ vs := wipe_ext (wipe_length _ _) fun i hi => wipe_out hi
theorem wipe_in {σ : L2.St} {vs ws : List Nat} (h : ∀ i ∈ ws, i ∈ vs) {σ2 : L2.St} (hl : σ2.length = (L2.wipe σ vs).length) (k : ∀ i, i ∉ ws → σ2[i]? = (L2.wipe σ vs)[i]?) : L2.wipe σ2 vs = L2.wipe σ vs := by
  rw [← wipe_wipe σ vs]
  exact wipe_ext hl fun i hi => k i fun z => hi (h i z)
/-! ### a comprehension's tests -/
def uC (G : Pg I) (den : I → Int) (X : Cx) (ca : Nat → Addr) (d : Nat) (c : Option (Ex I)) : TT := fun σ H Q => ∃ (n : Nat) (r : Rho) (S : Sto I) (τ : Env I) (b : Bool) (S' : Sto I),
  SimX den X ca r S H ∧ ER den r H τ σ ∧ condE (evN G n) d c τ S = .ok b S' ∧ FinT den X ca r H b S' Q
theorem pts_imp {es : List Expr} {t t' : TT} (h : PTs X es t') (w : ∀ σ H Q, t σ H Q → t' σ H Q) : PTs X es t := ⟨fun pins s σ H Q I q => h.run pins s σ H Q I (w _ _ _ q)⟩
theorem uc_none {d : Nat} : PTs X [] (uC G den X ca d none) := pts_imp pts_nil fun σ H Q ⟨n, r, S, τ, b, S', m, er, e, f⟩ => by
  cases e
  exact f _ _ Ext.refl m
theorem uc_some {d : Nat} {c : Expr} {ic : Ex I} (h : PT X c (uT G den X ca d ic)) : PTs X [c] (uC G den X ca d (some ic)) := pts_imp (pts_one h) fun σ H Q ⟨n, r, S, τ, b, S', m, er, e, f⟩ => by
  obtain ⟨v, S1, e1, e⟩ := bind_ok (show ((evN G n).e d ic τ S).bind _ = .ok b S' from e)
  obtain ⟨k, e2, e⟩ := opt_ok e
  cases e
  exact ⟨n, r, S, τ, v, b, _, m, er, e1, e2, f⟩
/-! ### [x for g in it if c] -/
/-- the reading of a block's parts: whatever the block's context -/
theorem uE_lc (L : Lawful I den) {d : Nat} {ix : Ex I} {g : Tg} {it : Sr I} {c : Option (Ex I)} {own : List Nat} (hg : ∀ i ∈ slots g, i ∈ own) {Xb : Cx} (hXb : Xb.prog = X.prog ∧ Xb.w = X.w) : ∀ σ H Q, uE G den X ca d (.lc ix g it c own) σ H Q →
    tLc (uI G den X ca d it) (uG den Xb ca g) (uC G den Xb ca d c) (uE G den Xb ca d ix) own σ H (fun v H' => UnH X H' (Q v)) := by
  have sX : ∀ r (S : Sto I) H, SimX den Xb ca r S H ↔ SimX den X ca r S H := fun r S H => by
    unfold SimX; rw [hXb.1, hXb.2]
  rintro σ H Q ⟨n, r, S, τ, v, SF, m, er, e, f⟩
  cases n with
  | zero => cases e
  | succ n =>
    obtain ⟨⟨s, lk⟩, S1, e1, e⟩ := bind_ok (show e_lc (evN G n) d ix g it c own τ S = .ok v SF from e)
    obtain ⟨vs, S8, e2, e9⟩ := bind_ok e
    obtain ⟨S2, e2, eu⟩ := unlock_ok e2
    · have e2 : (evN G n).cp d s 0 g c ix (Pz.wipe own τ) [] S1 = .ok vs S2 := e2
      refine ⟨n, r, S, τ, s, lk, S1, m, er, e1, fun r1 H1 J x1 m1 hJ hk D hD => ?_⟩
      have nD : ∀ a, r1 a ≠ some D := fun a q => m1.live a D q hD
      have er1 := (er.mono x1).wipe own
      refine ⟨fun i k H' => ∃ (r' : Rho) (S' : Sto I) (acc : List (Val I)) (ys : List V), SimX den X ca r' S' H' ∧ Ext r1 H1 r' H' ∧ (∀ a, r' a ≠ some D) ∧ H' D = some (.lst ys) ∧ VRs den r' H' acc ys ∧ SrcIt X.prog X.w X.K den r' H' s J ∧ (evN G k).cp d s i g c ix (Pz.wipe own τ) acc S' = .ok vs S2, ?_, ?_⟩
      · obtain ⟨m2, x2⟩ := m1.aside (u := .lst []) hD
        exact ⟨n, r1, S1, [], [], m2, x2, nD, upd_same, .nil, hJ.mono x2, e2⟩
      · rintro i k H' ⟨r', S', acc, ys, m', x', nD', hD', ha, hJ', e3⟩
        cases k with
        | zero => cases e3
        | succ k =>
          obtain ⟨o, e4, e3⟩ := opt_ok (show opt (s.at S' i) _ = .ok vs S2 from e3)
          cases o with
          | none =>
            cases e3
            refine .inl ⟨src_stop m' hJ' e4, ?_⟩
            unfold fresh at e9
            split at e9
            · rename_i hz
              cases e9
              refine un_fin m.live x1 hk x' m' eu fun H3 x3 m3 vm3 kp => ?_
              have hD3 : H3 D = some (.lst ys) := kp D _ hD' nD'
              have hD0 : H D = none := by
                cases z : H D with
                | none => rfl
                | some o => exact absurd hD (x1.there D (by rw [z]; exact fun q => nomatch q))
              obtain ⟨r5, m5, x5, rn⟩ := adopt (o := .lst vs) x3 m3 hD0 nD' (by rw [hD3]; exact fun z => nomatch z) (fun zs z => by rw [hD3] at z; cases z) (blt_lt hz) fun r' vm vms => ⟨ys, hD3, vms _ _ (ha.imp vm3)⟩
              exact f _ _ _ x5 m5 (.ref rn)
            · cases e9
          | some y =>
            obtain ⟨t1, e5, e3⟩ := opt_ok e3
            obtain ⟨b, S3, e6, e3⟩ := bind_ok e3
            obtain ⟨hgo, hy⟩ := src_item L m' hJ' e4
            refine .inr ⟨hgo, fun H9 => ∃ (r' : Rho) (S' : Sto I) (acc : List (Val I)) (ys : List V), SimX den X ca r' S' H9 ∧ Ext r1 H1 r' H9 ∧ (∀ a, r' a ≠ some D) ∧ H9 D = some (.lst ys) ∧ VRs den r' H9 acc ys ∧ SrcIt X.prog X.w X.K den r' H9 s J ∧ (evN G k).cp d s (i + 1) g c ix (Pz.wipe own τ) acc S' = .ok vs S2, fun H9 h9 => ⟨k, Nat.lt_succ_self k, h9⟩, fun x H3 hx => ?_⟩
            obtain ⟨m3, x3, hv⟩ := hy x H3 hx
            have x13 := x'.trans x3 m1.live
            refine ⟨r', S', Pz.wipe own τ, t1, y, (sX _ _ _).mpr m3, er1.mono x13, hv, e5, fun σ2 er2 l2 k2 => ⟨wipe_in hg l2 k2, ?_⟩⟩
            refine ⟨k, r', S', t1, b, S3, (sX _ _ _).mpr m3, er2, e6, fun r4 H4 x4 m4 => ?_⟩
            have m4 := (sX _ _ _).mp m4
            have x34 := x3.trans x4 m'.live
            have hD4 : H4 D = some (.lst ys) := x34.frame D _ hD' nD'
            have nD4 : ∀ a, r4 a ≠ some D := fun a q => by
              rcases x34.new a D q with z | z
              · exact nD' a z
              · rw [hD'] at z; cases z
            cases b with
            | false =>
              simp only [Bool.false_eq_true, if_false]
              exact ⟨r4, S3, acc, ys, m4, x'.trans x34 m1.live, nD4, hD4, ha.mono x34, hJ'.mono x34, e3⟩
            | true =>
              simp only [if_true]
              obtain ⟨u, S5, e7, e3⟩ := bind_ok e3
              refine ⟨k, r4, S3, t1, u, S5, (sX _ _ _).mpr m4, er2.mono x4, e7, fun r5 H5 z x5 m5 h5 => ?_⟩
              have m5 := (sX _ _ _).mp m5
              split at e3
              · rename_i hl
                have x35 := x34.trans x5 m'.live
                have hD5 : H5 D = some (.lst ys) := x35.frame D _ hD' nD'
                have nD5 : ∀ a, r5 a ≠ some D := fun a q => by
                  rcases x35.new a D q with z | z
                  · exact nD' a z
                  · rw [hD'] at z; cases z
                have hz := okL_le hl
                rw [ha.length] at hz
                obtain ⟨m6, x6, vm, vms⟩ := over (u := .lst (ys ++ [z])) (x'.trans x35 m1.live) m5 hD m1.live nD5 (fun zs q => by rw [hD5] at q; cases q) (by rw [hD5]; exact fun q => nomatch q) (.of hD5 fun _ _ z => nomatch z)
                refine ⟨ys, hD5, Nat.lt_of_lt_of_le hz line16, r5, S5, acc ++ [u], ys ++ [z], m6, x6, nD5, upd_same, (vms (ha.mono x35)).append (.cons (vm h5) .nil), ?_, e3⟩
                exact hJ.mono x6
              · cases e3
theorem ok_lc (L : Lawful I den) {d : Nat} {elt tg iter : Expr} {ifs : List Expr} {scope : Scope} {own : List (Str × Nat)} {pos : Pos} {ix : Ex I} {g : Tg} {it : Sr I} {c : Option (Ex I)} (hc : X.calm = true) (hN : X.N.Nodup) (hi : PI X tg iter (uI G den X ca d it)) (ok : BlkOk X.N X.env.scope scope own) (hsl : ∀ i ∈ slots g, i ∈ own.map (·.2))
    (hg : ∀ (s : Shared) (H : Hp) (C : Addr) (cl : List (Str × Addr)) (fp : List Addr), PG (X.blk s H scope (compEnvC scope cl C X.env) fp) tg (uG den (X.blk s H scope (compEnvC scope cl C X.env) fp) ca g))
    (ht : ∀ (s : Shared) (H : Hp) (C : Addr) (cl : List (Str × Addr)) (fp : List Addr), PTs (X.blk s H scope (compEnvC scope cl C X.env) fp) ifs (uC G den (X.blk s H scope (compEnvC scope cl C X.env) fp) ca d c))
    (he : ∀ (s : Shared) (H : Hp) (C : Addr) (cl : List (Str × Addr)) (fp : List Addr), PE (X.blk s H scope (compEnvC scope cl C X.env) fp) elt (uE G den (X.blk s H scope (compEnvC scope cl C X.env) fp) ca d ix)) (hs : ∀ x, foldedSetIterable iter X.env x = pure x) :
    OkE G den X ca d (.ListComp elt [⟨tg, iter, ifs, 0⟩] scope pos) (.lc ix g it c (own.map (·.2))) :=
  ok_val (pe_imp (pe_un (pe_lc (te := uE G den X ca d ix) (tt := uC G den X ca d c) (g := uG den X ca g) hc hN hi ok hg ht he hs)) (uE_lc L hsl ⟨rfl, rfl⟩)) (fun _ => rfl) (fun _ _ _ h => nomatch h)
/-- name = [..] on one line -/
theorem us_setLc (L : Lawful I den) {d i : Nat} {y : Str} {py : Pos} {elt tg iter : Expr} {ifs : List Expr} {scope : Scope} {own : List (Str × Nat)} {pos spos : Pos} {ix : Ex I} {g : Tg} {it : Sr I} {c : Option (Ex I)} (hc : X.calm = true) (hN : X.N.Nodup) (hy : X.N[i]? = some y) (hyl : X.env.scope.names.lookup y = some .local)
    (hsw : swapsWith (.ListComp elt [⟨tg, iter, ifs, 0⟩] scope pos) (some (.Name y py)) spos.line X.env = pure true) (hi : PI X tg iter (uI G den X ca d it)) (ok : BlkOk X.N X.env.scope scope own) (hsl : ∀ i ∈ slots g, i ∈ own.map (·.2))
    (hg : ∀ (s : Shared) (H : Hp) (C : Addr) (cl : List (Str × Addr)) (fp : List Addr), PG (X.blk s H scope (compEnvC scope cl C X.env) fp) tg (uG den (X.blk s H scope (compEnvC scope cl C X.env) fp) ca g))
    (ht : ∀ (s : Shared) (H : Hp) (C : Addr) (cl : List (Str × Addr)) (fp : List Addr), PTs (X.blk s H scope (compEnvC scope cl C X.env) fp) ifs (uC G den (X.blk s H scope (compEnvC scope cl C X.env) fp) ca d c))
    (he : ∀ (s : Shared) (H : Hp) (C : Addr) (cl : List (Str × Addr)) (fp : List Addr), PE (X.blk s H scope (compEnvC scope cl C X.env) fp) elt (uE G den (X.blk s H scope (compEnvC scope cl C X.env) fp) ca d ix)) (hs : ∀ x, foldedSetIterable iter X.env x = pure x) :
    PS X (.Assign [.Name y py] (.ListComp elt [⟨tg, iter, ifs, 0⟩] scope pos) spos) (uS G den X ca d (.set i (.lc ix g it c (own.map (·.2))))) := by
  refine ps_imp (ps_un (ps_setLc (te := uE G den X ca d ix) (tt := uC G den X ca d c) (g := uG den X ca g) hc hN hy hyl hsw hi ok hg ht he hs)) ?_
  rintro D σ H ⟨n, r, S, τ, fl, τ', S', m, er, e, f⟩
  cases n with
  | zero => cases e
  | succ n =>
    obtain ⟨v, S1, e1, e⟩ := bind_ok (show s_set (evN G n) d i _ τ S = .ok (fl, τ') S' from e)
    cases e
    exact uE_lc (X := X) L hsl ⟨rfl, rfl⟩ σ H _ ⟨n, r, S, τ, v, _, m, er, e1, fun r1 H1 z x1 m1 h1 => f _ _ _ x1 m1 ((er.mono x1).set h1 i)⟩
end
end Pz
set_option Elab.async false
set_option linter.all false
set_option maxRecDepth 100000
set_option maxHeartbeats 4000000
namespace Pz
open PySem L2
section
variable {I : Type} [IOps I] {den : I → Int} {ca : Nat → Addr} {X : Cx} {G : Pg I} {P : Program} {w : World}
theorem uE_lc2 (L : Lawful I den) {d : Nat} {ix : Ex I} {g g2 : Tg} {it it2 : Sr I} {c : Option (Ex I)} {own : List Nat} (hg : ∀ i ∈ slots g, i ∈ own) : ∀ σ H Q, uE G den X ca d (.lc2 ix g it g2 it2 c own) σ H Q →
    tLc2 (uI G den X ca d it) (uG den X ca g) tYes (uI0 G den X ca d it2) (uG den X ca g2) (uC G den X ca d c) (uE G den X ca d ix) own (slots g2) σ H Q := by
  rintro σ H Q ⟨n, r, S, τ, v, SF, m, er, e, f⟩
  cases n with
  | zero => cases e
  | succ n =>
    obtain ⟨⟨s, lk⟩, S1, e1, e⟩ := bind_ok (show e_lc2 (evN G n) d ix g it g2 it2 c own τ S = .ok v SF from e)
    obtain ⟨vs, S2, e2, e9⟩ := bind_ok e
    cases lk with
    | some a => cases e2
    | none =>
      have e2 : (evN G n).cp2 d s 0 g g2 it2 c ix (Pz.wipe own τ) [] S1 = .ok vs S2 := e2
      refine ⟨n, r, S, τ, s, none, S1, m, er, e1, fun r1 H1 J x1 m1 hJ _ D hD => ?_⟩
      have nD : ∀ a, r1 a ≠ some D := fun a q => m1.live a D q hD
      have er1 := (er.mono x1).wipe own
      refine ⟨fun i k H' => ∃ (r' : Rho) (S' : Sto I) (acc : List (Val I)) (ys : List V), SimX den X ca r' S' H' ∧ Ext r1 H1 r' H' ∧ (∀ a, r' a ≠ some D) ∧ H' D = some (.lst ys) ∧ VRs den r' H' acc ys ∧ SrcIt X.prog X.w X.K den r' H' s J ∧ (evN G k).cp2 d s i g g2 it2 c ix (Pz.wipe own τ) acc S' = .ok vs S2, ?_, ?_⟩
      · obtain ⟨m2, x2⟩ := m1.aside (u := .lst []) hD
        exact ⟨n, r1, S1, [], [], m2, x2, nD, upd_same, .nil, hJ.mono x2, e2⟩
      · rintro i k H' ⟨r', S', acc, ys, m', x', nD', hD', ha, hJ', e3⟩
        cases k with
        | zero => cases e3
        | succ k =>
          obtain ⟨o, e4, e3⟩ := opt_ok (show opt (s.at S' i) _ = .ok vs S2 from e3)
          cases o with
          | none =>
            cases e3
            refine .inl ⟨src_stop m' hJ' e4, ?_⟩
            unfold fresh at e9
            split at e9
            · rename_i hz
              cases e9
              obtain ⟨r5, m5, x5, rn⟩ := adopt (o := .lst vs) x' m' hD nD' (by rw [hD']; exact fun z => nomatch z) (fun zs z => by rw [hD'] at z; cases z) (blt_lt hz) fun r' vm vms => ⟨ys, hD', vms _ _ ha⟩
              exact f _ _ _ (x1.trans x5 m.live) m5 (.ref rn)
            · cases e9
          | some y =>
            obtain ⟨t1, e5, e3⟩ := opt_ok e3
            obtain ⟨⟨s2, lk2⟩, S3, e6, e3⟩ := bind_ok e3
            obtain ⟨acc2, S4, e7, e8⟩ := bind_ok e3
            cases lk2 with
            | some a => cases e7
            | none =>
              have e7 : (evN G k).cp d s2 0 g2 c ix (Pz.wipe (slots g2) t1) acc S3 = .ok acc2 S4 := e7
              have e8 : (evN G k).cp2 d s (i + 1) g g2 it2 c ix (Pz.wipe own τ) acc2 S4 = .ok vs S2 := e8
              obtain ⟨hgo, hy⟩ := src_item L m' hJ' e4
              refine .inr ⟨hgo, fun H9 => ∃ (r' : Rho) (ys : List V), SimX den X ca r' S4 H9 ∧ Ext r1 H1 r' H9 ∧ (∀ a, r' a ≠ some D) ∧ H9 D = some (.lst ys) ∧ VRs den r' H9 acc2 ys ∧ SrcIt X.prog X.w X.K den r' H9 s J, ?_, fun x H3 hx => ?_⟩
              · rintro H9 ⟨r9, ys9, m9, x9, n9, d9, a9, j9⟩
                exact ⟨k, Nat.lt_succ_self k, r9, S4, acc2, ys9, m9, x9, n9, d9, a9, j9, e8⟩
              obtain ⟨m3, x3, hv⟩ := hy x H3 hx
              have x13 := x'.trans x3 m1.live
              refine ⟨r', S', Pz.wipe own τ, t1, y, m3, er1.mono x13, hv, e5, fun σ2 er2 l2 k2 => ⟨wipe_in hg l2 k2, ?_⟩⟩
              unfold tYes
              simp only [if_true]
              refine ⟨k, r', S', t1, s2, S3, m3, er2, e6, fun r4 H4 J1 x4 m4 hJ1 => ?_⟩
              have x34 := x3.trans x4 m'.live
              have hD4 : H4 D = some (.lst ys) := x34.frame D _ hD' nD'
              have nD4 : ∀ a, r4 a ≠ some D := fun a q => by
                rcases x34.new a D q with z | z
                · exact nD' a z
                · rw [hD'] at z; cases z
              have er4 := (er2.mono x4).wipe (slots g2)
              refine ⟨fun j k' H5 => ∃ (r5 : Rho) (S5 : Sto I) (acc5 : List (Val I)) (ys5 : List V), SimX den X ca r5 S5 H5 ∧ Ext r1 H1 r5 H5 ∧ (∀ q : Env I, ∀ z : L2.St, ER den r4 H4 q z → ER den r5 H5 q z) ∧ (∀ a, r5 a ≠ some D) ∧ H5 D = some (.lst ys5) ∧ VRs den r5 H5 acc5 ys5 ∧ SrcIt X.prog X.w X.K den r5 H5 s2 J1 ∧ SrcIt X.prog X.w X.K den r5 H5 s J ∧ (evN G k').cp d s2 j g2 c ix (Pz.wipe (slots g2) t1) acc5 S5 = .ok acc2 S4,
                ⟨k, r4, S3, acc, ys, m4, x'.trans x34 m1.live, fun _ _ q => q, nD4, hD4, ha.mono x34, hJ1, hJ'.mono x34, e7⟩, ?_⟩
              rintro j k' H5 ⟨r5, S5, acc5, ys5, m5, x5, ek5, nD5, hD5, ha5, hJ5, hJs5, e10⟩
              cases k' with
              | zero => cases e10
              | succ k' =>
                obtain ⟨o2, e11, e10⟩ := opt_ok (show opt (s2.at S5 j) _ = .ok acc2 S4 from e10)
                cases o2 with
                | none =>
                  cases e10
                  exact .inl ⟨src_stop m5 hJ5 e11, r5, ys5, m5, x5, nD5, hD5, ha5, hJs5⟩
                | some y2 =>
                  obtain ⟨t6, e12, e10⟩ := opt_ok e10
                  obtain ⟨b, S6, e13, e10⟩ := bind_ok e10
                  obtain ⟨hgo2, hy2⟩ := src_item L m5 hJ5 e11
                  refine .inr ⟨hgo2, fun H9 => ∃ (r5 : Rho) (S5 : Sto I) (acc5 : List (Val I)) (ys5 : List V), SimX den X ca r5 S5 H9 ∧ Ext r1 H1 r5 H9 ∧ (∀ q : Env I, ∀ z : L2.St, ER den r4 H4 q z → ER den r5 H9 q z) ∧ (∀ a, r5 a ≠ some D) ∧ H9 D = some (.lst ys5) ∧ VRs den r5 H9 acc5 ys5 ∧ SrcIt X.prog X.w X.K den r5 H9 s2 J1 ∧ SrcIt X.prog X.w X.K den r5 H9 s J ∧ (evN G k').cp d s2 (j + 1) g2 c ix (Pz.wipe (slots g2) t1) acc5 S5 = .ok acc2 S4, fun H9 h9 => ⟨k', Nat.lt_succ_self k', h9⟩, fun x6 H6 hx6 => ?_⟩
                  obtain ⟨m6, x6', hv6⟩ := hy2 x6 H6 hx6
                  refine ⟨r5, S5, Pz.wipe (slots g2) t1, t6, y2, m6, (ek5 _ _ er4).mono x6', hv6, e12, fun σ3 er3 l3 k3 => ⟨wipe_in (fun i hi => hi) l3 k3, ?_⟩⟩
                  refine ⟨k', r5, S5, t6, b, S6, m6, er3, e13, fun r7 H7 x7 m7 => ?_⟩
                  have x57 := x6'.trans x7 m5.live
                  have hD7 : H7 D = some (.lst ys5) := x57.frame D _ hD5 nD5
                  have nD7 : ∀ a, r7 a ≠ some D := fun a q => by
                    rcases x57.new a D q with z | z
                    · exact nD5 a z
                    · rw [hD5] at z; cases z
                  cases b with
                  | false =>
                    simp only [Bool.false_eq_true, if_false]
                    exact ⟨r7, S6, acc5, ys5, m7, x5.trans x57 m1.live, fun q z h => (ek5 q z h).mono x57, nD7, hD7, ha5.mono x57, hJ5.mono x57, hJs5.mono x57, e10⟩
                  | true =>
                    simp only [if_true]
                    obtain ⟨u, S8, e14, e10⟩ := bind_ok e10
                    refine ⟨k', r7, S6, t6, u, S8, m7, er3.mono x7, e14, fun r8 H8 z8 x8 m8 h8 => ?_⟩
                    split at e10
                    · rename_i hl
                      have x58 := x57.trans x8 m5.live
                      have hD8 : H8 D = some (.lst ys5) := x58.frame D _ hD5 nD5
                      have nD8 : ∀ a, r8 a ≠ some D := fun a q => by
                        rcases x58.new a D q with z | z
                        · exact nD5 a z
                        · rw [hD5] at z; cases z
                      have hz := okL_le hl
                      rw [ha5.length] at hz
                      have x18 := x5.trans x58 m1.live
                      obtain ⟨m9, x9, vm, vms⟩ := over (u := .lst (ys5 ++ [z8])) x18 m8 hD m1.live nD8 (fun zs q => by rw [hD8] at q; cases q) (by rw [hD8]; exact fun q => nomatch q) (.of hD8 fun _ _ z => nomatch z)
                      have ek9 : ∀ q : Env I, ∀ z : L2.St, ER den r4 H4 q z → ER den r8 (upd H8 D (.lst (ys5 ++ [z8]))) q z := fun q z h => by
                        obtain ⟨l9, h9⟩ := (ek5 q z h).mono x58
                        exact ⟨l9, fun i v hv => let ⟨y, h1, h2⟩ := h9 i v hv; ⟨y, h1, vm h2⟩⟩
                      refine ⟨ys5, hD8, Nat.lt_of_lt_of_le hz line16, r8, S8, acc5 ++ [u], ys5 ++ [z8], m9, x9, ek9, nD8, upd_same, (vms (ha5.mono x58)).append (.cons (vm h8) .nil), ?_, ?_, e10⟩
                      · have q := hJ5.mono x58
                        exact q.over (fun zs z => by rw [hD8] at z; cases z) (.of hD8 fun _ _ z => nomatch z) vm vms
                      · exact hJ.mono x9
                    · cases e10
end
end Pz
set_option Elab.async false
set_option linter.all false
set_option maxRecDepth 100000
set_option maxHeartbeats 4000000
namespace Pz
open PySem L2
section
variable {I : Type} [IOps I] {den : I → Int} {ca : Nat → Addr} {X : Cx} {G : Pg I} {P : Program} {w : World}
theorem nroom0 {A : Around} (hu : A.units + 40 < cLine) : (nestedKind X.prog X.w).room A := by
  show A.units + 8 < cLine
  omega
theorem run_dset {pins : List (Addr × Obj)} {σ : L2.St} {H : Hp} {s : Shared} {r : Rho} {S : Sto I} (I0 : L2.Inv X pins σ H s) (L : Lawful I den) (m : SimX den X ca r S H) {A : Around} (hu : A.units + 40 < cLine) {a : Nat} {b : Addr} {kvs kvs' : List (Val I × Val I)} {k v : Val I} {y z : V} {u w' : Value} {E : Value → Shared → Prop} {Q : Unit → Shared → Prop}
    (h : S.get a = some (.dic kvs 0)) (q : r a = some b) (hk : VR den r H k y) (ry : RelV y u) (hv : VR den r H v z) (rz : RelV z w') (e : kPut k v kvs = some kvs') (hl : kvs.length < 16000000)
    (hQ : ∀ s' H', L2.Inv X pins σ H' s' → SimX den X ca r (S.set a (.dic kvs' 0)) H' → Ext r H r H' → Q () s') : wpAny (model X.prog X.w) A (dictSet b u w') Q E s := by
  obtain ⟨o, eo⟩ := put_find e
  have mu := mut_dic m h q
  cases dsort_of L m (dat_of I0 m h q) eo with
  | leaf kk ws vs h1 h2 h3 h4 h5 h6 =>
    have hz : vs.length ≤ sizeLine := by rw [← h3.length]; exact h6
    have l1 : ws.length < 16000000 := by rw [← paired_len h2]; exact hl
    have hlen : (putK ws kk z).length ≤ sizeLine := by have := length_putK ws kk z; have := line16; omega
    have nd : (ws.map (·.1)).Nodup := by
      rw [h3.keys]
      obtain ⟨_, _, _, _, _, _, _, _, nd⟩ := h4
      exact nd
    refine wpAny_dictSet_pairs (hsz := hz) (kV_is (by rw [← key_rel h1 hk]; exact ry)) h4 fun h' dd' hs => ?_
    have he : ∃ q, h'.get? b = some q := let ⟨q, _, _, hq, _⟩ := dd'; ⟨q, hq⟩
    obtain ⟨m', x⟩ := dic_put m (kvs' := kvs') (u := .dK (putK ws kk z)) q mu (noTup_dK _) (.inl ⟨_, rfl, put_leaf L h1 hv h2 nd e⟩)
    exact hQ _ _ (d_write I0 mu hs he (dk_new hlen h5 (h3.put kk rz) dd')) m' x
  | tree xs h1 h2 h3 h4 h5 h6 =>
    obtain ⟨ts, rfl⟩ := h1
    obtain ⟨c, rfl⟩ := tup_ref hk
    cases ry
    have nd : (xs.map (·.1)).Nodup := by
      obtain ⟨_, _, _, _, _, _, _, _, nd⟩ := h4
      exact nd
    have l1 : xs.length < 16000000 := by rw [← paired_len h3]; exact hl
    have p := put_tree L hk h2 hv rz h3 nd e
    have hlen : (storedH xs (toNK den (.tup ts)) c w').length ≤ sizeLine := by
      rw [← paired_len p]
      have := put_len e
      have := line16
      rw [paired_len h3] at *
      omega
    refine wpAny_dictSet_heap (hsz := h6) (nroom0 hu) (kis_of I0 h2 hk) h4 fun h' dd' hs => ?_
    have he : ∃ q, h'.get? b = some q := let ⟨q, _, _, hq, _⟩ := dd'; ⟨q, hq⟩
    obtain ⟨m', x⟩ := dic_put m (kvs' := kvs') (u := .ext (rawD X.prog X.w b (storedH xs (toNK den (.tup ts)) c w'))) q mu (noTup_ext _) (.inr ⟨_, rfl, p⟩)
    exact hQ _ _ (d_write I0 mu hs he (rawD_ok dd' h5 hlen)) m' x

abbrev DSetR := Addr → V → V → Hp → (Hp → Prop) → Prop
/-- the dict at D is given an entry -/
structure DSetOk (X : Cx) (ds : DSetR) : Prop where
  run : ∀ (pins : List (Addr × Obj)) (s : Shared) (σ : L2.St) (H : Hp) (D : Addr) (y z : V) (u w : Value) (N : Hp → Prop), L2.Inv X pins σ H s → RelV y u → RelV z w → ds D y z H N → wpAny (model X.prog X.w) X.A (dictSet D u w) (fun _ s' => ∃ H', L2.Inv X pins σ H' s' ∧ N H') (fun _ _ => False) s
def tDg (wi : TI) (g : TG) (tt : TT) (tk tv : TE) (ds : DSetR) (vs : List Nat) : TE := fun σ H Q => wi σ H fun J H1 => ∀ D, H1 D = none → ∃ W : Nat → Nat → Hp → Prop, (∃ m, W 0 m (upd H1 D (.dK []))) ∧ ∀ i m H, W i m H →
  (J.stop i H ∧ Q (.ref D) H) ∨ (J.go i H ∧ ∃ Nx : Hp → Prop, (∀ H', Nx H' → ∃ m', m' < m ∧ W (i + 1) m' H') ∧ ∀ x H', J.yld i H x H' → g x (L2.wipe σ vs) H' fun σ2 H2 => L2.wipe σ2 vs = L2.wipe σ vs ∧ tt σ2 H2 fun b H3 =>
    if b = true then tk σ2 H3 fun y H4 => tv σ2 H4 fun z H5 => ds D y z H5 Nx else Nx H3)
theorem dcg_core {pins : List (Addr × Obj)} {s : Shared} {σ : L2.St} {H : Hp} {Q : VK} {kx vx tg iter : Expr} {ifs : List Expr} {scope : Scope} {own : List (Str × Nat)} {pos pos' : Pos} {wi : TI} {g : TG} {tt : TT} {tk tv : TE} {ds : DSetR} {use : Option (Value → Sem Unit)} {Qf : Value → Shared → Prop}
    (hc : X.calm = true) (hN : X.N.Nodup) (hds : ∀ (s : Shared) (H : Hp) (C : Addr) (cl : List (Str × Addr)) (fp : List Addr), DSetOk (X.blk s H scope (compEnvC scope cl C X.env) fp) ds) (I : L2.Inv X pins σ H s) (hi : PI X tg iter wi) (ok : BlkOk X.N X.env.scope scope own)
    (hg : ∀ (s : Shared) (H : Hp) (C : Addr) (cl : List (Str × Addr)) (fp : List Addr), PG (X.blk s H scope (compEnvC scope cl C X.env) fp) tg g) (ht : ∀ (s : Shared) (H : Hp) (C : Addr) (cl : List (Str × Addr)) (fp : List Addr), PTs (X.blk s H scope (compEnvC scope cl C X.env) fp) ifs tt)
    (hk : ∀ (s : Shared) (H : Hp) (C : Addr) (cl : List (Str × Addr)) (fp : List Addr), PE (X.blk s H scope (compEnvC scope cl C X.env) fp) kx tk)
    (he : ∀ (s : Shared) (H : Hp) (C : Addr) (cl : List (Str × Addr)) (fp : List Addr), PE (X.blk s H scope (compEnvC scope cl C X.env) fp) vx tv) (hs : ∀ x, foldedSetIterable iter X.env x = pure x)
    (h : tDg wi g tt tk tv ds (own.map (·.2)) σ H Q)
    (hRR : ∀ D C s' m H', L2.Inv X pins σ H' s' → Q (.ref D) H' → s'.heap.Ns C m → FpOk X pins H' C → compPost (model X.prog X.w) X.A X.xe use Qf (.ref D) C (.ok .next) s') :
    wpAny (model X.prog X.w) X.A (comprehension (.DictComp kx vx [⟨tg, iter, ifs, 0⟩] scope pos) scope X.env pos' newDict false (eval iter X.env) use) Qf X.xe s := by
  have hfree : ∀ y ∈ scope.names, y.2 = .free → ∃ c, X.env.cells.lookup y.1 = some c := fun y hy e => by
    rcases ok.free y hy e with k | k
    · exact I.ok.has _ (.inl k)
    · exact I.ok.has _ (.inr k)
  refine wpAny_comprehension_free (use := use) rfl hs (closure_ok hfree) ok.kind (fun y hy e => by rw [ok.uniq y hy, e])
    (thn (hi.run pins s σ H _ I h) fun xv s1 hx => thn hx fun itv s2 h2 => ?_)
  obtain ⟨it, fp, tn, J, H2, e, I2, T, st2, f2, q⟩ := h2
  subst e
  refine wpAny_newObj_type (newEnv_comp ?_)
  generalize hD : s2.heap.objs.size = D
  have hDn : H2 D = none := I2.hok.fresh (Nat.le_of_eq hD)
  obtain ⟨W, ⟨m0, w0⟩, turn⟩ := q D hDn
  -- the new list
  generalize hs3 : ({ s2 with heap := s2.heap.push { cls := .type "dict", data := .dict #[] } } : Shared) = s3
  have I3 : L2.Inv X pins σ (upd H2 D (.dK [])) s3 := by
    rw [← hs3]
    refine I2.laid (t' := s2.toks) (fun b o e => Heap.get?_push_of_some _ e) (Nat.le_of_eq hD) ?_
    rw [← hD]
    exact dk_empty s2.heap I2.big
  have h3 : s3.heap = s2.heap.push { cls := .type "dict", data := .dict #[] } := by rw [← hs3]
  have sz : ∀ b ∈ fp, b < s2.heap.objs.size := fun b hb => by
    obtain ⟨o, e, _⟩ := T.obj _ _ st2 b hb
    exact Heap.lt_size e
  have f3 : ∀ b ∈ fp, FpOk X pins (upd H2 D (.dK [])) b ∧ b < s3.heap.objs.size := fun b hb => by
    have hlt := sz b hb
    refine ⟨⟨?_, (f2 b hb).2⟩, by rw [h3, Heap.size_push]; exact Nat.lt_succ_of_lt hlt⟩
    rw [upd_ne (by rw [← hD]; exact Nat.ne_of_lt hlt)]
    exact (f2 b hb).1
  have st3 : tn 0 s3.heap := T.keep _ _ _ st2 fun b _ o e => by rw [h3]; exact Heap.get?_push_of_some _ e
  have I4 := block_start I3 ok hN f3
  have pg := hg s3 (upd H2 D (.dK [])) s3.heap.objs.size (cellsFrom (s3.heap.objs.size + 1) scope.names (cloFrom X.env.cells scope.names [])) fp
  have pt := ht s3 (upd H2 D (.dK [])) s3.heap.objs.size (cellsFrom (s3.heap.objs.size + 1) scope.names (cloFrom X.env.cells scope.names [])) fp
  have pk := hk s3 (upd H2 D (.dK [])) s3.heap.objs.size (cellsFrom (s3.heap.objs.size + 1) scope.names (cloFrom X.env.cells scope.names [])) fp
  have pd := hds s3 (upd H2 D (.dK [])) s3.heap.objs.size (cellsFrom (s3.heap.objs.size + 1) scope.names (cloFrom X.env.cells scope.names [])) fp
  have pe := he s3 (upd H2 D (.dK [])) s3.heap.objs.size (cellsFrom (s3.heap.objs.size + 1) scope.names (cloFrom X.env.cells scope.names [])) fp
  show codeAny _ _ (.compStart (.DictComp kx vx [⟨tg, iter, ifs, 0⟩] scope pos) 0 (.ref it) (.ref D) (compEnvC scope (cellsFrom (s3.heap.objs.size + 1) scope.names (cloFrom X.env.cells scope.names [])) s3.heap.objs.size X.env)) (compPost (model X.prog X.w) X.A X.xe use Qf (.ref D) s3.heap.objs.size) { s3 with heap := pushCells (s3.heap.push { cls := .type "dict", data := .dict #[] }) scope.names }
  have nfp : ∀ b ∈ fp, (upd H2 D (.dK [])) b = none := fun b hb => (f3 b hb).1.1
  generalize hce : compEnvC scope (cellsFrom (s3.heap.objs.size + 1) scope.names (cloFrom X.env.cells scope.names [])) s3.heap.objs.size X.env = ce at I4 pg pt pk pe pd ⊢
  have cL : ce.locals = s3.heap.objs.size := by subst hce; rfl
  generalize hH3 : upd H2 D (.dK []) = H3 at I3 I4 pg pt pk pe pd w0 nfp f3
  generalize hs4 : ({ s3 with heap := pushCells (s3.heap.push { cls := .type "dict", data := .dict #[] }) scope.names } : Shared) = s4 at I4 ⊢
  have st4 : tn 0 s4.heap := T.keep _ _ _ st3 fun b _ o e => by rw [← hs4]; exact pushCells_keeps _ _ _ _ (Heap.get?_push_of_some _ e)
  have stat : ∀ {σ' : L2.St} {H' : Hp} {s' : Shared}, Inv (X.blk s3 H3 scope ce fp) [] σ' H' s' → (∀ b ∈ fp, H' b = none) → ∀ b ∈ fp, FpOk (X.blk s3 H3 scope ce fp) [] H' b := fun {σ' H' s'} I' hn b hb =>
    ⟨hn b hb, (I'.ok.exf b hb).1, I'.ok.exfs b hb, .inl hb, fun x c e => (I'.ok.exf b hb).2 x c e, fun p hp => absurd (show p ∈ ([] : List (Addr × Obj)) ++ [] from hp) (by simp)⟩
  have loop : codeAny (model X.prog X.w) X.A (.compLoop (.DictComp kx vx [⟨tg, iter, ifs, 0⟩] scope pos) 0 (.ref it) (.ref D) ce) (compPost (model X.prog X.w) X.A X.xe use Qf (.ref D) s3.heap.objs.size) s4 := by
    refine compLoop_anyD (fun n s' => ∃ i H', Inv (X.blk s3 H3 scope ce fp) [] (L2.wipe σ (own.map (·.2))) H' s' ∧ tn i s'.heap ∧ (∀ b ∈ fp, H' b = none) ∧ W i n H') ?_ m0 ⟨0, H3, I4, st4, nfp, w0⟩
    rintro n s5 ⟨i, H5, I5, st5, n5, w5⟩
    rcases turn i n H5 w5 with ⟨stop, qq⟩ | ⟨go, Nx, hNx, step⟩
    · have td := T.done (X.blk s3 H3 scope ce fp) rfl rfl rfl hc i [] s5 _ H5 (fun _ _ => False) I5 (stat I5 n5) st5 stop
      refine thnF td fun r s6 ⟨hr, I6⟩ => ?_
      subst hr
      -- back in the def's context
      have I7 : L2.Inv X pins σ H5 s6 := I3.call' (ch := fp) I6.os I6.base I6.hok I6.bare fun b hb => ⟨(f3 b hb).1.2.2.2.1, (f3 b hb).1.2.1, (f3 b hb).1.2.2.2.2.1, (f3 b hb).1.2.2.2.2.2⟩
      have nC : H5 s3.heap.objs.size = none := by
        have z : H5 ce.locals = none := I6.free
        rw [cL] at z
        exact z
      obtain ⟨m, hn, _⟩ := I6.loc
      have hn : s6.heap.Ns ce.locals m := hn
      rw [cL] at hn
      exact hRR D s3.heap.objs.size s6 m H5 I7 qq hn (I3.fpOk (Nat.le_refl _) nC)
    · have ti := T.item (X.blk s3 H3 scope ce fp) rfl rfl rfl hc i [] s5 _ H5 (fun _ _ => False) I5 (stat I5 n5) st5 go
      refine thnF ti fun r s6 ⟨u, hr, h6⟩ => ?_
      subst hr
      refine thnF h6 fun _ s7 ⟨x, H7, I7, r7, y7, st7, n7⟩ => ?_
      have I7' := I7.pinned (stat I7 n7) (T.obj _ _ st7)
      refine thnF (pg.run _ s7 _ H7 x u _ I7' r7 (step x H7 y7)) fun _ s8 ⟨σ8, H8, I8, hw8, q8⟩ => ?_
      refine thnF (pt.run _ s8 σ8 H8 _ I8 q8) fun b s9 ⟨H9, I9, q9⟩ => ?_
      -- the turn's end
      have fin : ∀ {s' : Shared} {H' : Hp}, Inv (X.blk s3 H3 scope ce fp) ([] ++ pinsAt fp s7.heap) σ8 H' s' → Nx H' → ∃ m, m < n ∧ ∃ i H', Inv (X.blk s3 H3 scope ce fp) [] (L2.wipe σ (own.map (·.2))) H' s' ∧ tn i s'.heap ∧ (∀ b ∈ fp, H' b = none) ∧ W i m H' := fun {s' H'} I' nx => by
        obtain ⟨m', hm, w'⟩ := hNx H' nx
        have pin' : ∀ b ∈ fp, ∀ o, s7.heap.get? b = some o → s'.heap.get? b = some o ∧ H' b = none := fun b hb o e =>
          let z := I'.pin (b, o) (List.mem_append_right _ (List.mem_append_right _ (mem_pinsAt hb e)))
          ⟨z.1, z.2.1⟩
        have hl : (L2.wipe σ (own.map (·.2))).length = σ8.length := by rw [← hw8, L2.wipe_length]
        refine ⟨m', hm, i + 1, H', (I'.unpinned (pins := [])).weak hl (fun j v e => ?_), T.keep _ _ _ st7 fun b hb o e => (pin' b hb o e).1, fun b hb => ?_, w'⟩
        · rw [← hw8] at e
          exact (L2.wipe_some e).1
        · obtain ⟨o, e, _⟩ := T.obj _ _ st7 b hb
          exact (pin' b hb o e).2
      cases b with
      | false =>
        simp only [Bool.false_eq_true, if_false] at q9 ⊢
        exact fin I9 q9
      | true =>
        simp only [if_true] at q9 ⊢
        refine thnF (pk.run _ s9 σ8 H9 _ I9 q9) fun z s10 ⟨yk, H10, I10, r10, q10⟩ => ?_
        refine thnF (pe.run _ s10 σ8 H10 _ I10 q10) fun z2 s11 ⟨yv, H11, I11, r11, q11⟩ => ?_
        exact thnF (pd.run _ s11 σ8 H11 D yk yv z z2 _ I11 r10 r11 q11) fun _ s12 ⟨H12, I12, nx⟩ => fin I12 nx
  exact codeAny_compStart_dict loop (T.self X.A 0 _ _ _ st4 loop)
/-- as a value -/
theorem pe_dcg {kx vx tg iter : Expr} {ifs : List Expr} {scope : Scope} {own : List (Str × Nat)} {pos : Pos} {wi : TI} {g : TG} {tt : TT} {tk tv : TE} {ds : DSetR} (hc : X.calm = true) (hN : X.N.Nodup) (hds : ∀ (s : Shared) (H : Hp) (C : Addr) (cl : List (Str × Addr)) (fp : List Addr), DSetOk (X.blk s H scope (compEnvC scope cl C X.env) fp) ds) (hi : PI X tg iter wi) (ok : BlkOk X.N X.env.scope scope own)
    (hg : ∀ (s : Shared) (H : Hp) (C : Addr) (cl : List (Str × Addr)) (fp : List Addr), PG (X.blk s H scope (compEnvC scope cl C X.env) fp) tg g) (ht : ∀ (s : Shared) (H : Hp) (C : Addr) (cl : List (Str × Addr)) (fp : List Addr), PTs (X.blk s H scope (compEnvC scope cl C X.env) fp) ifs tt)
    (hk : ∀ (s : Shared) (H : Hp) (C : Addr) (cl : List (Str × Addr)) (fp : List Addr), PE (X.blk s H scope (compEnvC scope cl C X.env) fp) kx tk)
    (he : ∀ (s : Shared) (H : Hp) (C : Addr) (cl : List (Str × Addr)) (fp : List Addr), PE (X.blk s H scope (compEnvC scope cl C X.env) fp) vx tv) (hs : ∀ x, foldedSetIterable iter X.env x = pure x := by intro _; rfl) :
    PE X (.DictComp kx vx [⟨tg, iter, ifs, 0⟩] scope pos) (tDg wi g tt tk tv ds (own.map (·.2))) := by
  refine ⟨fun pins s σ H Q I h => ?_⟩
  rw [arm_eval_DictComp]
  refine dcg_core hc hN hds I hi ok hg ht hk he hs h fun D C s' m H' I' q hn f => ⟨m, hn, fun h'' sb => ?_⟩
  obtain ⟨f0, f1, f2, f3, f4, f5⟩ := f
  exact ⟨.ref D, H', I'.turned (t' := s'.toks) (fun b o hb e => (sb.2 b hb).trans e) f0 f1 f3 f4 f5, rfl, q⟩

def uDS (den : I → Int) (X : Cx) (ca : Nat → Addr) : DSetR := fun D y z H N => ∃ (r : Rho) (S : Sto I) (a : Nat) (va vv : Val I) (S' : Sto I), SimX den X ca r S H ∧ r a = some D ∧ (∃ kvs lk, S.get a = some (.dic kvs lk)) ∧ VR den r H va y ∧ VR den r H vv z ∧ putD S (.ref a) va vv = some S' ∧ ∀ H', Ext r H r H' → SimX den X ca r S' H' → N H'
theorem putD_ok {S S' : Sto I} {a : Nat} {k v : Val I} (e : putD S (.ref a) k v = some S') : ∃ kvs lk, S.get a = some (.dic kvs lk) ∧ putV S (.ref a) k v = some S' := by
  unfold putD at e
  split at e
  · rename_i p h
    obtain ⟨b, kvs, lk⟩ := p
    obtain ⟨e1, g⟩ := dicAt_ok h
    cases e1
    exact ⟨kvs, lk, g, e⟩
  · cases e
theorem uds_ok (L : Lawful I den) {Y : Cx} (hp : Y.prog = X.prog) (hw : Y.w = X.w) (hu : Y.A.units + 60 < cLine) : DSetOk Y (uDS den X ca) := by
  refine ⟨fun pins s σ H D y z u w' N I0 ry rz h => ?_⟩
  obtain ⟨r, S, a, va, vv, S', m, q, ⟨kvs, lk, g⟩, h1, h2, e, f⟩ := h
  have m' : SimX den Y ca r S H := by unfold SimX; rw [hp, hw]; exact m
  obtain ⟨_, _, _, e⟩ := putD_ok e
  unfold putV at e
  simp only [g] at e
  cases lk with
  | succ n => cases e
  | zero =>
    simp only at e
    split at e
    · rename_i kvs' e1 hl
      cases e
      refine run_dset I0 L m' (by omega) g q h1 ry h2 rz e1 (okL_le hl) fun s' H' I' m2 x => ⟨H', I', f H' x ?_⟩
      unfold SimX at m2; rw [hp, hw] at m2; exact m2
    · cases e
theorem uE_dc (L : Lawful I den) {d : Nat} {ik ix : Ex I} {g : Tg} {it : Sr I} {own : List Nat} (hg : ∀ i ∈ slots g, i ∈ own) : ∀ σ H Q, uE G den X ca d (.dc ik ix g it own) σ H Q →
    tDg (uI G den X ca d it) (uG den X ca g) tYes (uE G den X ca d ik) (uE G den X ca d ix) (uDS den X ca) own σ H (fun v H' => UnH X H' (Q v)) := by
  rintro σ H Q ⟨n, r, S, τ, v, SF, m, er, e, f⟩
  cases n with
  | zero => cases e
  | succ n =>
    obtain ⟨⟨s, lk⟩, S1, e1, e⟩ := bind_ok (show e_dc (evN G n) d ik ix g it own τ S = .ok v SF from e)
    obtain ⟨D0, S2, e2, e⟩ := bind_ok e
    obtain ⟨u0, S3, e3, e⟩ := bind_ok e
    cases e
    obtain ⟨S9, e3, eu⟩ := unlock_ok e3
    · have e3 : (evN G n).dp d s 0 g ik ix (Pz.wipe own τ) v S2 = .ok u0 S9 := e3
      refine ⟨n, r, S, τ, s, lk, S1, m, er, e1, fun r1 H1 J x1 m1 hJ hk D hD => ?_⟩
      have er1 := (er.mono x1).wipe own
      unfold fresh at e2
      split at e2
      · rename_i hz
        cases e2
        have hlt := blt_lt hz
        obtain ⟨r2, m2, x2, rn⟩ := m1.laid (o := .dic [] 0) (u := .dK []) hD hlt (noTup_dK []) fun r' H' eH sub _ ms => .inl ⟨[], by rw [eH]; exact upd_same, .nil⟩
        have g2 : (S1.new (.dic [] 0)).get S1.next = some (Ob.dic [] 0 : Ob I) := by rw [Sto.get_new hlt, if_pos rfl]
        have x12 := x1.trans x2 m.live
        refine ⟨fun i k H' => ∃ (r' : Rho) (S' : Sto I), SimX den X ca r' S' H' ∧ Ext r2 (upd H1 D (.dK [])) r' H' ∧ SrcIt X.prog X.w X.K den r' H' s J ∧ (evN G k).dp d s i g ik ix (Pz.wipe own τ) (.ref S1.next) S' = .ok u0 S9, ⟨n, r2, _, m2, Ext.refl, hJ.mono x2, e3⟩, ?_⟩
        rintro i k H' ⟨r', S', m', x', hJ', e3⟩
        cases k with
        | zero => cases e3
        | succ k =>
          obtain ⟨o, e4, e3⟩ := opt_ok (show opt (s.at S' i) _ = .ok u0 S9 from e3)
          cases o with
          | none =>
            cases e3
            exact .inl ⟨src_stop m' hJ' e4, un_fin m.live x1 hk (x2.trans x' m1.live) m' eu fun H3 x3 m3 vm _ => f _ _ _ x3 m3 (.ref (x'.sub _ _ rn))⟩
          | some y =>
            obtain ⟨t1, e5, e3⟩ := opt_ok e3
            obtain ⟨kv, S4, e6, e3⟩ := bind_ok e3
            obtain ⟨u, S5, e7, e3⟩ := bind_ok e3
            obtain ⟨S6, e8, e3⟩ := opt_ok e3
            obtain ⟨hgo, hy⟩ := src_item L m' hJ' e4
            refine .inr ⟨hgo, fun H9 => ∃ (r' : Rho), SimX den X ca r' S6 H9 ∧ Ext r2 (upd H1 D (.dK [])) r' H9 ∧ SrcIt X.prog X.w X.K den r' H9 s J, fun H9 h9 => ?_, fun x H3 hx => ?_⟩
            · obtain ⟨r9, a1, a2, a3⟩ := h9
              exact ⟨k, Nat.lt_succ_self k, r9, S6, a1, a2, a3, e3⟩
            obtain ⟨m3, x3, hv⟩ := hy x H3 hx
            have x13 := x'.trans x3 m2.live
            refine ⟨r', S', Pz.wipe own τ, t1, y, m3, (er1.mono x2).mono x13, hv, e5, fun σ2 er2 l2 k2 => ⟨wipe_in hg l2 k2, ?_⟩⟩
            unfold tYes
            simp only [if_true]
            refine ⟨k, r', S', t1, kv, S4, m3, er2, e6, fun r4 H4 z4 x4 m4 h4 => ⟨k, r4, S4, t1, u, S5, m4, er2.mono x4, e7, fun r5 H5 z x5 m5 h5 => ?_⟩⟩
            have x35 := (x3.trans x4 m'.live).trans x5 m'.live
            have x25 := x'.trans x35 m2.live
            refine ⟨r5, S5, S1.next, kv, u, S6, m5, x25.sub _ _ rn, ?_, h4.mono x5, h5, e8, fun H6 x6 m6 => ⟨r5, m6, x25.trans x6 m2.live, hJ.mono ((x2.trans x25 m1.live).trans x6 m1.live)⟩⟩
            obtain ⟨kvs, lk, g8, _⟩ := putD_ok e8
            exact ⟨kvs, lk, g8⟩
      · cases e2
section
variable {d : Nat} {elt tg iter : Expr} {scope : Scope} {own : List (Str × Nat)} {pos : Pos} {ix : Ex I} {g : Tg} {it : Sr I}
theorem ok_dc (L : Lawful I den) (hu : X.A.units + 60 < cLine) {kx : Expr} {ik : Ex I} (hc : X.calm = true) (hN : X.N.Nodup) (hi : PI X tg iter (uI G den X ca d it)) (ok : BlkOk X.N X.env.scope scope own) (hsl : ∀ i ∈ slots g, i ∈ own.map (·.2))
    (hg : ∀ (s : Shared) (H : Hp) (C : Addr) (cl : List (Str × Addr)) (fp : List Addr), PG (X.blk s H scope (compEnvC scope cl C X.env) fp) tg (uG den (X.blk s H scope (compEnvC scope cl C X.env) fp) ca g))
    (hk : ∀ (s : Shared) (H : Hp) (C : Addr) (cl : List (Str × Addr)) (fp : List Addr), PE (X.blk s H scope (compEnvC scope cl C X.env) fp) kx (uE G den (X.blk s H scope (compEnvC scope cl C X.env) fp) ca d ik))
    (he : ∀ (s : Shared) (H : Hp) (C : Addr) (cl : List (Str × Addr)) (fp : List Addr), PE (X.blk s H scope (compEnvC scope cl C X.env) fp) elt (uE G den (X.blk s H scope (compEnvC scope cl C X.env) fp) ca d ix)) (hs : ∀ x, foldedSetIterable iter X.env x = pure x) :
    OkE G den X ca d (.DictComp kx elt [⟨tg, iter, [], 0⟩] scope pos) (.dc ik ix g it (own.map (·.2))) :=
  ok_val (pe_imp (pe_un (pe_dcg (ds := uDS den X ca) (tk := uE G den X ca d ik) (tv := uE G den X ca d ix) (g := uG den X ca g) hc hN (fun _ _ _ _ _ => uds_ok L rfl rfl hu) hi ok hg (fun _ _ _ _ _ => pts_nil) hk he hs)) (uE_dc L hsl)) (fun _ => rfl) (fun _ _ _ h => nomatch h)
theorem ok_lc2 (L : Lawful I den) {tg2 iter2 : Expr} {ifs : List Expr} {g2 : Tg} {it2 : Sr I} {c : Option (Ex I)} (hc : X.calm = true) (hN : X.N.Nodup) (hi : PI X tg iter (uI G den X ca d it)) (ok : BlkOk X.N X.env.scope scope own) (hsl : ∀ i ∈ slots g, i ∈ own.map (·.2)) (hv : ∀ i ∈ slots g2, i ∈ own.map (·.2))
    (hg : ∀ (s : Shared) (H : Hp) (C : Addr) (cl : List (Str × Addr)) (fp : List Addr), PG (X.blk s H scope (compEnvC scope cl C X.env) fp) tg (uG den (X.blk s H scope (compEnvC scope cl C X.env) fp) ca g))
    (hi2 : ∀ (s : Shared) (H : Hp) (C : Addr) (cl : List (Str × Addr)) (fp : List Addr), PI (X.blk s H scope (compEnvC scope cl C X.env) fp) tg2 iter2 (uI G den (X.blk s H scope (compEnvC scope cl C X.env) fp) ca d it2))
    (hg2 : ∀ (s : Shared) (H : Hp) (C : Addr) (cl : List (Str × Addr)) (fp : List Addr), PG (X.blk s H scope (compEnvC scope cl C X.env) fp) tg2 (uG den (X.blk s H scope (compEnvC scope cl C X.env) fp) ca g2))
    (ht : ∀ (s : Shared) (H : Hp) (C : Addr) (cl : List (Str × Addr)) (fp : List Addr), PTs (X.blk s H scope (compEnvC scope cl C X.env) fp) ifs (uC G den (X.blk s H scope (compEnvC scope cl C X.env) fp) ca d c))
    (he : ∀ (s : Shared) (H : Hp) (C : Addr) (cl : List (Str × Addr)) (fp : List Addr), PE (X.blk s H scope (compEnvC scope cl C X.env) fp) elt (uE G den (X.blk s H scope (compEnvC scope cl C X.env) fp) ca d ix)) (hs : ∀ x, foldedSetIterable iter X.env x = pure x) (hs2 : ∀ env x, foldedSetIterable iter2 env x = pure x) :
    OkE G den X ca d (.ListComp elt [⟨tg, iter, [], 0⟩, ⟨tg2, iter2, ifs, 0⟩] scope pos) (.lc2 ix g it g2 it2 c (own.map (·.2))) :=
  ok_val (pe_imp (pe_lc2 (te := uE G den X ca d ix) (tt1 := uC G den X ca d c) (g := uG den X ca g) (g1 := uG den X ca g2) (wi1 := uI0 G den X ca d it2) hc hN hi ok hv hg (fun _ _ _ _ _ => pts_nil) (fun s H C cl fp => ui_0 (hi2 s H C cl fp)) hg2 ht he hs hs2) (uE_lc2 L hsl)) (fun _ => rfl) (fun _ _ _ h => nomatch h)
theorem us_setLc2 (L : Lawful I den) {i : Nat} {y : Str} {py spos : Pos} {tg2 iter2 : Expr} {ifs : List Expr} {g2 : Tg} {it2 : Sr I} {c : Option (Ex I)} (hc : X.calm = true) (hN : X.N.Nodup) (hy : X.N[i]? = some y) (hyl : X.env.scope.names.lookup y = some .local)
    (hsw : swapsWith (.ListComp elt [⟨tg, iter, [], 0⟩, ⟨tg2, iter2, ifs, 0⟩] scope pos) (some (.Name y py)) spos.line X.env = pure true) (hi : PI X tg iter (uI G den X ca d it)) (ok : BlkOk X.N X.env.scope scope own) (hsl : ∀ i ∈ slots g, i ∈ own.map (·.2)) (hv : ∀ i ∈ slots g2, i ∈ own.map (·.2))
    (hg : ∀ (s : Shared) (H : Hp) (C : Addr) (cl : List (Str × Addr)) (fp : List Addr), PG (X.blk s H scope (compEnvC scope cl C X.env) fp) tg (uG den (X.blk s H scope (compEnvC scope cl C X.env) fp) ca g))
    (hi2 : ∀ (s : Shared) (H : Hp) (C : Addr) (cl : List (Str × Addr)) (fp : List Addr), PI (X.blk s H scope (compEnvC scope cl C X.env) fp) tg2 iter2 (uI G den (X.blk s H scope (compEnvC scope cl C X.env) fp) ca d it2))
    (hg2 : ∀ (s : Shared) (H : Hp) (C : Addr) (cl : List (Str × Addr)) (fp : List Addr), PG (X.blk s H scope (compEnvC scope cl C X.env) fp) tg2 (uG den (X.blk s H scope (compEnvC scope cl C X.env) fp) ca g2))
    (ht : ∀ (s : Shared) (H : Hp) (C : Addr) (cl : List (Str × Addr)) (fp : List Addr), PTs (X.blk s H scope (compEnvC scope cl C X.env) fp) ifs (uC G den (X.blk s H scope (compEnvC scope cl C X.env) fp) ca d c))
    (he : ∀ (s : Shared) (H : Hp) (C : Addr) (cl : List (Str × Addr)) (fp : List Addr), PE (X.blk s H scope (compEnvC scope cl C X.env) fp) elt (uE G den (X.blk s H scope (compEnvC scope cl C X.env) fp) ca d ix)) (hs : ∀ x, foldedSetIterable iter X.env x = pure x) (hs2 : ∀ env x, foldedSetIterable iter2 env x = pure x) :
    PS X (.Assign [.Name y py] (.ListComp elt [⟨tg, iter, [], 0⟩, ⟨tg2, iter2, ifs, 0⟩] scope pos) spos) (uS G den X ca d (.set i (.lc2 ix g it g2 it2 c (own.map (·.2))))) := by
  refine ps_imp (ps_setLc2 (te := uE G den X ca d ix) (tt1 := uC G den X ca d c) (g := uG den X ca g) (g1 := uG den X ca g2) (wi1 := uI0 G den X ca d it2) hc hN hy hyl hsw hi ok hv hg (fun _ _ _ _ _ => pts_nil) (fun s H C cl fp => ui_0 (hi2 s H C cl fp)) hg2 ht he hs hs2) ?_
  rintro D σ H ⟨n, r, S, τ, fl, τ', S', m, er, e, f⟩
  cases n with
  | zero => cases e
  | succ n =>
    obtain ⟨v, S1, e1, e⟩ := bind_ok (show s_set (evN G n) d i _ τ S = .ok (fl, τ') S' from e)
    cases e
    exact uE_lc2 (X := X) L hsl σ H _ ⟨n, r, S, τ, v, _, m, er, e1, fun r1 H1 z x1 m1 h1 => f _ _ _ x1 m1 ((er.mono x1).set h1 i)⟩
end
end
end Pz
set_option Elab.async false
set_option linter.all false
set_option maxRecDepth 100000
set_option maxHeartbeats 4000000
namespace Pz
open PySem L2
section
variable {I : Type} [IOps I] {den : I → Int} {ca : Nat → Addr} {X : Cx} {G : Pg I} {P : Program} {w : World}
/-! ### name = {k: v for ..} on one line -/
theorem ps_setDc {i : Nat} {y : Str} {py : Pos} {kx vx tg iter : Expr} {ifs : List Expr} {scope : Scope} {own : List (Str × Nat)} {pos spos : Pos} {wi : TI} {g : TG} {tt : TT} {tk tv : TE} {ds : DSetR} (hc : X.calm = true) (hN : X.N.Nodup) (hds : ∀ (s : Shared) (H : Hp) (C : Addr) (cl : List (Str × Addr)) (fp : List Addr), DSetOk (X.blk s H scope (compEnvC scope cl C X.env) fp) ds) (hy : X.N[i]? = some y) (hyl : X.env.scope.names.lookup y = some .local)
    (hsw : swapsWith (.DictComp kx vx [⟨tg, iter, ifs, 0⟩] scope pos) (some (.Name y py)) spos.line X.env = pure true) (hi : PI X tg iter wi) (ok : BlkOk X.N X.env.scope scope own)
    (hg : ∀ (s : Shared) (H : Hp) (C : Addr) (cl : List (Str × Addr)) (fp : List Addr), PG (X.blk s H scope (compEnvC scope cl C X.env) fp) tg g) (ht : ∀ (s : Shared) (H : Hp) (C : Addr) (cl : List (Str × Addr)) (fp : List Addr), PTs (X.blk s H scope (compEnvC scope cl C X.env) fp) ifs tt)
    (hk : ∀ (s : Shared) (H : Hp) (C : Addr) (cl : List (Str × Addr)) (fp : List Addr), PE (X.blk s H scope (compEnvC scope cl C X.env) fp) kx tk)
    (he : ∀ (s : Shared) (H : Hp) (C : Addr) (cl : List (Str × Addr)) (fp : List Addr), PE (X.blk s H scope (compEnvC scope cl C X.env) fp) vx tv) (hs : ∀ x, foldedSetIterable iter X.env x = pure x) :
    PS X (.Assign [.Name y py] (.DictComp kx vx [⟨tg, iter, ifs, 0⟩] scope pos) spos) (tAsg (tDg wi g tt tk tv ds (own.map (·.2))) (gName i)) := by
  refine ⟨fun pins s σ H D I h => ?_⟩
  rw [exec_Assign_Name_used _ _ _ _ hsw]
  refine wpAny_bind (wpAny_standAt (wpAny_bind ?_))
  show wpAny _ X.A (do let _ ← comprehension (.DictComp kx vx [⟨tg, iter, ifs, 0⟩] scope pos) scope X.env (firstIterPos [⟨tg, iter, ifs, 0⟩] pos) newDict false (eval iter X.env) (some (assign (.Name y py) X.env))) _ _ s
  have h : tDg wi g tt tk tv ds (own.map (·.2)) σ H (fun x H1 => gName i x σ H1 D.nx) := h
  refine wpAny_bind (thn (dcg_core (Qf := fun _ s' => SP X pins D .next s') hc hN hds I hi ok hg ht hk he hs h fun L C s' m H' I' q hn f => ?_) fun _ s' hq => wpAny_pure (wpAny_pure hq))
  show wpAny _ _ (assign (.Name y py) X.env (.ref L)) _ _ _
  refine wpAny_assign_Name (store_ok2 (v := V.ref L) I' hN hy (.inl hyl) rfl (fun s2 I2 ⟨a, sb, ha⟩ => ?_) (.inr hyl))
  obtain ⟨f0, f1, f2, f3, f4, f5⟩ := f
  have haC : C ≠ a := by
    rcases ha with z | z
    · rw [z]; exact f1
    · exact fun e => f4 y a z e.symm
  refine ⟨m, hn.sameBut sb haC, fun h3 sb3 => ?_⟩
  exact ⟨_, H', I2.turned (t' := s2.toks) (fun b o hb e => (sb3.2 b hb).trans e) f0 f1 f3 f4 f5, q⟩
theorem us_setDc (L : Lawful I den) (hu : X.A.units + 60 < cLine) {d i : Nat} {y : Str} {py : Pos} {elt tg iter : Expr} {scope : Scope} {own : List (Str × Nat)} {pos spos : Pos} {ix : Ex I} {g : Tg} {it : Sr I} {kx : Expr} {ik : Ex I} (hc : X.calm = true) (hN : X.N.Nodup) (hy : X.N[i]? = some y) (hyl : X.env.scope.names.lookup y = some .local)
    (hsw : swapsWith (.DictComp kx elt [⟨tg, iter, [], 0⟩] scope pos) (some (.Name y py)) spos.line X.env = pure true) (hi : PI X tg iter (uI G den X ca d it)) (ok : BlkOk X.N X.env.scope scope own) (hsl : ∀ i ∈ slots g, i ∈ own.map (·.2))
    (hg : ∀ (s : Shared) (H : Hp) (C : Addr) (cl : List (Str × Addr)) (fp : List Addr), PG (X.blk s H scope (compEnvC scope cl C X.env) fp) tg (uG den (X.blk s H scope (compEnvC scope cl C X.env) fp) ca g))
    (hk : ∀ (s : Shared) (H : Hp) (C : Addr) (cl : List (Str × Addr)) (fp : List Addr), PE (X.blk s H scope (compEnvC scope cl C X.env) fp) kx (uE G den (X.blk s H scope (compEnvC scope cl C X.env) fp) ca d ik))
    (he : ∀ (s : Shared) (H : Hp) (C : Addr) (cl : List (Str × Addr)) (fp : List Addr), PE (X.blk s H scope (compEnvC scope cl C X.env) fp) elt (uE G den (X.blk s H scope (compEnvC scope cl C X.env) fp) ca d ix)) (hs : ∀ x, foldedSetIterable iter X.env x = pure x) :
    PS X (.Assign [.Name y py] (.DictComp kx elt [⟨tg, iter, [], 0⟩] scope pos) spos) (uS G den X ca d (.set i (.dc ik ix g it (own.map (·.2))))) := by
  refine ps_imp (ps_un (ps_setDc (ds := uDS den X ca) (tk := uE G den X ca d ik) (tv := uE G den X ca d ix) (g := uG den X ca g) hc hN (fun _ _ _ _ _ => uds_ok L rfl rfl hu) hy hyl hsw hi ok hg (fun _ _ _ _ _ => pts_nil) hk he hs)) ?_
  rintro D σ H ⟨n, r, S, τ, fl, τ', S', m, er, e, f⟩
  cases n with
  | zero => cases e
  | succ n =>
    obtain ⟨v, S1, e1, e⟩ := bind_ok (show s_set (evN G n) d i _ τ S = .ok (fl, τ') S' from e)
    cases e
    exact uE_dc (X := X) L hsl σ H _ ⟨n, r, S, τ, v, _, m, er, e1, fun r1 H1 z x1 m1 h1 => f _ _ _ x1 m1 ((er.mono x1).set h1 i)⟩
/-! ### a, b = x, y -/
theorem us_par2 {d i j : Nat} {x y : Str} {a b : Expr} {ia ib : Ex I} {px py pt : Pos} {kt k2 : Nat} {pt2 pos : Pos} (hc : X.calm = true) (hN : X.N.Nodup) (hi : X.N[i]? = some x) (hj : X.N[j]? = some y) (hij : i ≠ j)
    (hx : X.env.scope.names.lookup x = some .local) (hy : X.env.scope.names.lookup y = some .local) (ha : PA X [a, b] (uA G den X ca d [ia, ib]))
    (hw : swappedStores [.Tuple [.Name x px, .Name y py] kt pt] (.Tuple [a, b] k2 pt2) X.env = pure (some [x, y]))
    (hs : swapsWithSole [.Tuple [.Name x px, .Name y py] kt pt] (.Tuple [a, b] k2 pt2) pos.line X.env = pure false) :
    PS X (.Assign [.Tuple [.Name x px, .Name y py] kt pt] (.Tuple [a, b] k2 pt2) pos) (uS G den X ca d (.par [i, j] [ia, ib])) := by
  refine ps_imp (ps_par hc hN hi hj hij hx hy ha hw hs) ?_
  rintro D σ H ⟨n, r, S, τ, fl, τ', S', m, er, e, f⟩
  cases n with
  | zero => cases e
  | succ n =>
    obtain ⟨vs, S1, e1, e⟩ := bind_ok (show s_par (evN G n) d [i, j] [ia, ib] τ S = .ok (fl, τ') S' from e)
    obtain ⟨t, e2, e⟩ := opt_ok e
    cases e
    refine ⟨n, r, S, τ, vs, _, m, er, e1, fun r1 H1 zs x1 m1 h1 => ?_⟩
    have hl := evEs_len e1
    match vs, hl with
    | [v, u], _ =>
      obtain ⟨z1, z2, rfl, g1, g2⟩ := h1.two
      cases e2
      exact ⟨z1, z2, rfl, f _ _ _ x1 m1 (((er.mono x1).set g1 i).set g2 j)⟩
theorem VRs.three {r : Rho} {H : Hp} {v u t : Val I} {xs : List V} (h : VRs den r H [v, u, t] xs) : ∃ y z a, xs = [y, z, a] ∧ VR den r H v y ∧ VR den r H u z ∧ VR den r H t a := by
  cases h with
  | cons a h => cases h with | cons b h => cases h with | cons c h => cases h; exact ⟨_, _, _, rfl, a, b, c⟩
theorem us_par3 {d i j l : Nat} {x y z : Str} {a b c : Expr} {ia ib ic : Ex I} {px py pz pt : Pos} {kt k2 : Nat} {pt2 pos : Pos} (hc : X.calm = true) (hN : X.N.Nodup) (hi : X.N[i]? = some x) (hj : X.N[j]? = some y) (hl : X.N[l]? = some z) (hij : i ≠ j) (hil : i ≠ l) (hjl : j ≠ l)
    (hx : X.env.scope.names.lookup x = some .local) (hy : X.env.scope.names.lookup y = some .local) (hz : X.env.scope.names.lookup z = some .local) (ha : PA X [a, b, c] (uA G den X ca d [ia, ib, ic]))
    (hw : swappedStores [.Tuple [.Name x px, .Name y py, .Name z pz] kt pt] (.Tuple [a, b, c] k2 pt2) X.env = pure (some [x, y, z]))
    (hs : swapsWithSole [.Tuple [.Name x px, .Name y py, .Name z pz] kt pt] (.Tuple [a, b, c] k2 pt2) pos.line X.env = pure false) :
    PS X (.Assign [.Tuple [.Name x px, .Name y py, .Name z pz] kt pt] (.Tuple [a, b, c] k2 pt2) pos) (uS G den X ca d (.par [i, j, l] [ia, ib, ic])) := by
  refine ps_imp (ps_par3 hc hN hi hj hl hij hil hjl hx hy hz ha hw hs) ?_
  rintro D σ H ⟨n, r, S, τ, fl, τ', S', m, er, e, f⟩
  cases n with
  | zero => cases e
  | succ n =>
    obtain ⟨vs, S1, e1, e⟩ := bind_ok (show s_par (evN G n) d [i, j, l] [ia, ib, ic] τ S = .ok (fl, τ') S' from e)
    obtain ⟨t, e2, e⟩ := opt_ok e
    cases e
    refine ⟨n, r, S, τ, vs, _, m, er, e1, fun r1 H1 zs x1 m1 h1 => ?_⟩
    have hl := evEs_len e1
    match vs, hl with
    | [v, u, t], _ =>
      obtain ⟨z1, z2, z3, rfl, g1, g2, g3⟩ := h1.three
      cases e2
      exact ⟨z1, z2, z3, rfl, f _ _ _ x1 m1 ((((er.mono x1).set g1 i).set g2 j).set g3 l)⟩
/-! ### stores -/
theorem us_setI (L : Lawful I den) (hu : X.A.units + 60 < cLine) {d : Nat} {o i e : Expr} {io ii ie : Ex I} {tpos pos : Pos} (ho : PE X o (uE G den X ca d io)) (hi : PE X i (uE G den X ca d ii)) (he : PE X e (uE G den X ca d ie)) (ha : ∀ v, assign (.Subscript o i tpos) X.env v = (do
      let ov ← holding [v] (eval o X.env)
      let iv ← holding [v, ov] (eval i X.env)
      standAt tpos
      holding [v, ov, iv] (setItem ov iv v)
      release [v, ov, iv] []))
    (hs : swapsWithSole [.Subscript o i tpos] e pos.line X.env = pure false) (hw : swappedStores [.Subscript o i tpos] e X.env = pure none) (h1 : (assignEach [.Subscript o i tpos] X.env).map (·.2) = [assign (.Subscript o i tpos) X.env]) : PS X (.Assign [.Subscript o i tpos] e pos) (uS G den X ca d (.setI io ii ie)) := by
  refine ps_imp (ps_asg he (pg_sub ho hi (u_set (ca := ca) L hu) ha) hs hw h1) ?_
  rintro D σ H ⟨n, r, S, τ, fl, τ', S', m, er, e, f⟩
  cases n with
  | zero => cases e
  | succ n =>
    obtain ⟨v, S1, e1, e⟩ := bind_ok (show s_setI (evN G n) d io ii ie τ S = .ok (fl, τ') S' from e)
    obtain ⟨q, S2, e2, e⟩ := bind_ok e
    obtain ⟨k, S3, e3, e⟩ := bind_ok e
    obtain ⟨S4, e4, e⟩ := opt_ok e
    cases e
    exact ⟨n, r, S, τ, v, S1, m, er, e1, fun r1 H1 z x1 m1 h1 => ⟨n, r1, S1, τ, q, S2, m1, er.mono x1, e2, fun r2 H2 z2 x2 m2 h2 => ⟨n, r2, S2, τ, k, S3, m2, (er.mono x1).mono x2, e3, fun r3 H3 z3 x3 m3 h3 =>
      ⟨r3, S3, q, k, v, _, m3, h2.mono x3, h3, (h1.mono x2).mono x3, e4, fun H4 x4 m4 => f _ _ _ (((x1.trans x2 m.live).trans x3 m.live).trans x4 m.live) m4 (((er.mono x1).mono x2).mono x3 |>.mono x4)⟩⟩⟩⟩
theorem us_setF {d : Nat} {o e : Expr} {f : Str} {io ie : Ex I} {pos' pos : Pos} (hc : ∀ c, Cls X.K (ca c) ∧ NoAttr X.K (ca c) f) (ho : PE X o (uE G den X ca d io)) (he : PE X e (uE G den X ca d ie)) (hs : swapsWith e (some (.Attribute o f pos')) pos.line X.env = pure false) : PS X (.Assign [.Attribute o f pos'] e pos) (uS G den X ca d (.setF io f ie)) := by
  refine ps_imp (ps_fld ho he hs) ?_
  rintro D σ H ⟨n, r, S, τ, fl, τ', S', m, er, e, fi⟩
  cases n with
  | zero => cases e
  | succ n =>
    obtain ⟨v, S1, e1, e⟩ := bind_ok (show s_setF (evN G n) d io f ie τ S = .ok (fl, τ') S' from e)
    obtain ⟨q, S2, e2, e⟩ := bind_ok e
    split at e
    · rename_i p
      split at e
      · rename_i c fs g
        obtain ⟨hl, e⟩ := guard_ok e
        cases e
        refine ⟨n, r, S, τ, v, S1, m, er, e1, fun r1 H1 z x1 m1 h1 => ⟨n, r1, S1, τ, _, S2, m1, er.mono x1, e2, fun r2 H2 z2 x2 m2 h2 => ?_⟩⟩
        obtain ⟨b, rfl, hq⟩ := vr_ref h2
        obtain ⟨dx, gs, o1, o2⟩ := ins_ob m2 g hq
        have hz := blt_lt hl
        rw [paired_len o2] at hz
        refine ⟨b, ca c, dx, gs, rfl, o1, (hc c).1, (hc c).2, hz, ?_⟩
        obtain ⟨m3, x3⟩ := m2.put (u := .ins (ca c) dx (putF f z gs)) (o := .ins c (putS f v fs)) hq (.of o1 fun _ _ z => nomatch z) (noTup_ins _ _ _) fun H' eH mo ms => ⟨dx, putF f z gs, by rw [eH, upd_same], Paired.mono (fun a b q => ⟨q.1, mo _ _ q.2⟩) (fr_putS (h1.mono x2) o2)⟩
        exact fi _ _ _ ((x1.trans x2 m.live).trans x3 m.live) m3 (((er.mono x1).mono x2).mono x3)
      · cases e
    · cases e
def uAug (den : I → Int) (X : Cx) (ca : Nat → Addr) (o : Bop) : V → V → Hp → VK → Prop := fun x y H Q => ∃ (r : Rho) (va vb v : Val I), VR den r H va x ∧ VR den r H vb y ∧ augV o va vb = some v ∧ ∀ z, VR den r H v z → Q z H
theorem in_aug (L : Lawful I den) (o : Bop) : InOp X (opOf o) (uAug den X ca o) := by
  rintro pins s σ H x y u v Q I0 rx ry ⟨r, va, vb, t, h1, h2, e, q⟩
  cases va <;> cases vb <;> try (cases e; done)
  rename_i i j
  cases h1
  cases h2
  cases o with
  | add =>
    obtain ⟨k, e1, e2⟩ := Option.map_eq_some_iff.mp (show (IOps.bin .add i j).map Val.int = some t from e)
    subst e2
    have h := Option.some.inj (L.bin _ _ _ _ e1)
    exact in_add pins s σ H _ _ u v Q I0 rx ry ⟨_, _, rfl, rfl, by rw [h]; exact q _ (.int k)⟩
  | sub =>
    obtain ⟨k, e1, e2⟩ := Option.map_eq_some_iff.mp (show (IOps.bin .sub i j).map Val.int = some t from e)
    subst e2
    have h := Option.some.inj (L.bin _ _ _ _ e1)
    exact in_sub pins s σ H _ _ u v Q I0 rx ry ⟨_, _, rfl, rfl, by rw [h]; exact q _ (.int k)⟩
  | _ => cases e
theorem us_augF (L : Lawful I den) {d : Nat} {o e : Expr} {f : Str} {b : Bop} {io ie : Ex I} {pos' pos : Pos} (hc : ∀ c, Cls X.K (ca c) ∧ NoAttr X.K (ca c) f) (ho : PE X o (uE G den X ca d io)) (he : PE X e (uE G den X ca d ie)) : PS X (.AugAssign (.Attribute o f pos') (opOf b) e pos) (uS G den X ca d (.augF io f b ie)) := by
  refine ps_imp (ps_fldaug ho he (in_aug (ca := ca) L b)) ?_
  rintro D σ H ⟨n, r, S, τ, fl, τ', S', m, er, e, fi⟩
  cases n with
  | zero => cases e
  | succ n =>
    obtain ⟨v, S1, e1, e⟩ := bind_ok (show s_augF (evN G n) d io f b ie τ S = .ok (fl, τ') S' from e)
    split at e
    · rename_i p
      split at e
      · rename_i c fs g
        obtain ⟨x, e2, e⟩ := opt_ok e
        obtain ⟨y, S2, e3, e⟩ := bind_ok e
        obtain ⟨t, e4, e⟩ := opt_ok e
        split at e
        · rename_i c' fs' g'
          obtain ⟨hl, e⟩ := guard_ok e
          cases e
          rw [Bool.and_eq_true] at hl
          obtain rfl : c = c' := Nat.eq_of_beq_eq_true hl.2
          refine ⟨n, r, S, τ, _, S1, m, er, e1, fun r1 H1 z x1 m1 h1 => ?_⟩
          obtain ⟨b', rfl, hq⟩ := vr_ref h1
          obtain ⟨dx, gs, o1, o2⟩ := ins_ob m1 g hq
          obtain ⟨zx, z1, z2⟩ := (fr_lookS o2).1 _ e2
          refine ⟨b', ca c, dx, gs, zx, rfl, o1, (hc c).1, (hc c).2, z1, n, r1, S1, τ, y, S2, m1, er.mono x1, e3, fun r2 H2 zy x2 m2 h2 => ⟨r2, x, y, t, z2.mono x2, h2, e4, fun zt h3 => ?_⟩⟩
          have hq2 := x2.sub _ _ hq
          obtain ⟨dx', gs', o3, o4⟩ := ins_ob m2 g' hq2
          have hz := blt_lt hl.1
          rw [paired_len o4] at hz
          obtain ⟨m3, x3⟩ := m2.put (u := .ins (ca c) dx' (putF f zt gs')) (o := .ins c (putS f t fs')) hq2 (.of o3 fun _ _ z => nomatch z) (noTup_ins _ _ _) fun H' eH mo ms => ⟨dx', putF f zt gs', by rw [eH, upd_same], Paired.mono (fun a b q => ⟨q.1, mo _ _ q.2⟩) (fr_putS h3 o4)⟩
          exact ⟨dx', gs', o3, hz, fi _ _ _ ((x1.trans x2 m.live).trans x3 m.live) m3 (((er.mono x1).mono x2).mono x3)⟩
        · cases e
      · cases e
    · cases e
end
end Pz
set_option Elab.async false
set_option linter.all false
set_option maxRecDepth 100000
set_option maxHeartbeats 4000000
/-! sorted: pairs of ints, of a list, of a dict's keys -/
namespace Pz
open PySem L2
section
variable {X : Cx} {pins : List (Addr × Obj)} {σ : L2.St} {H : Hp} {s : Shared} {Q : VK}
theorem sorted_treeP (I : L2.Inv X pins σ H s) (hc : X.calm = true) {d : Addr} {ks : List (NestedKey × Addr × Value)} {o : Obj} {es : Array DictEntry} {ep : Nat} (ho : s.heap.get? d = some o) (hx : o.ExactDict) (hdt : o.data = .dict es ep) (he : es.toList = ks.map (entryOfKey (nestedKind X.prog X.w))) (hs : (d == sysModules) = false) (hz0 : ks.length ≤ sizeLine)
    (k : Value → Int × Int) (hp : ∀ x ∈ ks, Srt.IsPair s.heap (.ref x.2.1) (k (.ref x.2.1)).1 (k (.ref x.2.1)).2)
    (q : ∀ (out : List Value) (p : Addr), SrtO.Srtd (fun v u => SrtO.lexB (k v) (k u)) out → out.Perm (ks.map fun x => Value.ref x.2.1) → H p = none → Q (.ref p) (upd H p (.lst (out.map backV)))) : wpAny (model X.prog X.w) X.A (call (.builtin "sorted") [.ref d]) (EP X pins σ Q) X.xe s := by
  have l1 : es.size = ks.length := size_of_entries he
  refine Calls.call_function_entry PyProof.Rows.kind_sorted PyProof.Rows.plain_sorted PyProof.Rows.entry_sorted (PyProof.Rows.args_sorted1 _) ?_
  unfold Builtin.«sorted»
  refine wpAny_bind (m := checkCount "sorted" 1 1 _) (wpAny_pure ?_)
  refine wpAny_bind (PySem.W.kdu_collect (A := X.A.in1) (kdl_raw hs hx hdt) (I.ok.hd hc) ho (by omega) fun h' tk acc hk it => ?_)
  have ea : acc.toList = ks.map fun x => Value.ref x.2.1 := by
    have hl : acc.toList.length = ks.length := by rw [Array.length_toList, it.1]; exact l1
    apply List.ext_getElem?
    intro j
    rw [List.getElem?_map]
    cases hj : acc.toList[j]? with
    | none =>
      have h1 := List.getElem?_eq_none_iff.mp hj
      rw [List.getElem?_eq_none (by omega)]
      all_goals rfl
    | some v =>
      obtain ⟨en, hen, hv⟩ := it.2 j v (by rw [← Array.getElem?_toList]; exact hj)
      have qe := entry_at he j
      rw [hen] at qe
      cases hb : ks[j]? with
      | none =>
        rw [hb] at qe
        exact nomatch (show some en = none from qe)
      | some b =>
        rw [hb] at qe
        have e2 : en = entryOfKey (nestedKind X.prog X.w) b := Option.some.inj qe
        rw [hv, e2]
        all_goals rfl
  have hvl : acc.toList.length = ks.length := by rw [ea, List.length_map]
  have I2 : L2.Inv X pins σ H { s with heap := h', toks := tk } := I.kept hk
  refine wpAny_bind (wpAny_newList ?_ (by omega))
  have hoL : (h'.push (PyProof.Rows.seqObj "list" acc.toList.toArray 0)).get? h'.objs.size = some (PyProof.Rows.seqObj "list" acc.toList.toArray 0) := Heap.get?_push_size _ rfl
  refine wpAny_bind (wpAny_holding (wpAny_call_entry PyProof.Rows.slot_list_sort ⟨_, hoL, rfl⟩ PyProof.Rows.entry_list_sort (SrtO.list_sort_ord (SrtO.swo_lex k) hoL (by omega) (fun h2 => SrtO.pairs_sortableO (by omega) (fun v hm => ?_) fun ob e => ?_) fun out h1 h2 => ⟨_, rfl, ?_⟩) (PyProof.Rows.args_list_sort _)))
  · rw [ea] at hm
    obtain ⟨x, hxm, rfl⟩ := List.mem_map.mp hm
    exact (hp x hxm).keeps fun b ob e _ => Heap.get?_push_of_some _ (hk b ob e)
  · have e' : some ob = some (PyProof.Rows.seqObj "list" acc.toList.toArray 0) := e.symm.trans hoL
    cases e'
    intro c
    exact absurd (Value.type.inj c) (by decide)
  · obtain ⟨c, hcat⟩ := PyProof.Rows.sortedHeap_at (vs := acc.toList) (out := out.toArray) hoL
    have hpm : out.Perm (ks.map fun x => Value.ref x.2.1) := by rw [← ea]; exact h2.perm
    have hol : out.length = ks.length := by rw [hpm.length_eq, List.length_map]
    have h3 : ∀ u ∈ out, ∃ a, u = Value.ref a := fun u hu => by
      obtain ⟨x, _, e⟩ := List.mem_map.mp (hpm.mem_iff.mp hu)
      exact ⟨_, e.symm⟩
    refine wpAny_pure ⟨_, rfl, .ref h'.objs.size, upd H h'.objs.size (.lst (out.map backV)), I2.laid (t' := tk) (fun b u e => ?_) (Nat.le_refl _) ⟨by rw [List.length_map]; omega, out, c, vals_back h3, hcat⟩, rfl, q out _ h1 hpm (I2.hok.fresh (Nat.le_refl _))⟩
    have hlt := Heap.lt_size e
    show (PyProof.Rows.sortedHeap (h'.push (PyProof.Rows.seqObj "list" acc.toList.toArray 0)) h'.objs.size acc.toList out.toArray).get? b = some u
    rw [PyProof.Rows.sortedHeap_old (Nat.ne_of_lt hlt) (by rw [PyProof.Rows.size_push']; exact Nat.lt_succ_of_lt hlt)]
    exact Heap.get?_push_of_some _ e
end
end Pz
set_option Elab.async false
set_option linter.all false
set_option maxRecDepth 100000
set_option maxHeartbeats 4000000
namespace Pz
open PySem L2
section
variable {I : Type} [IOps I] {den : I → Int} {ca : Nat → Addr} {X : Cx} {G : Pg I} {P : Program} {w : World}
theorem cb1 {b : BF} {g : Val I → Sto I → Rs I (Val I)} (hb : ∀ vs (S : Sto I), bfV b vs S = opt (arg1 vs) fun v => g v S) {xs : List V} {H : Hp} {Q : VK} (h : uCB den X ca b xs H Q) :
    ∃ (r : Rho) (S : Sto I) (va v : Val I) (z : V) (S' : Sto I), xs = [z] ∧ SimX den X ca r S H ∧ VR den r H va z ∧ g va S = .ok v S' ∧ Fin den X ca r H v S' Q := by
  obtain ⟨r, S, vs, v, S', m, hs, e, f⟩ := h
  rw [hb] at e
  obtain ⟨va, e1, e⟩ := opt_ok e
  cases arg1_ok e1
  obtain ⟨z, rfl, h1⟩ := hs.one
  exact ⟨r, S, va, v, z, S', rfl, m, h1, e, f⟩
theorem vr_lit (L : Lawful I den) {r : Rho} {H : Hp} (i : Int) : VR den r H (lit i : Val I) (.int i) := by
  have := VR.int (den := den) (r := r) (H := H) (IOps.lit (I := I) i)
  rwa [L.lit] at this
theorem elv_len {r : Rho} {H : Hp} {kvs : List (Val I × Val I)} {ws : List (Key × V)} (h : Paired (EL den r H) kvs ws) : kvs.length = ws.length := paired_len h
theorem c_len (L : Lawful I den) : CallR X (.builtin "len") (uCB den X ca .len) := by
  intro pins s σ H xs us Q I0 r h
  obtain ⟨ρ, S, va, v, z, S', rfl, m, h1, e, f⟩ := cb1 (g := b_len) (fun _ _ => rfl) h
  unfold b_len at e
  split at e
  · cases e
    cases h1 with
    | tup g1 g2 => exact call_len pins s σ H _ us Q I0 r ⟨_, _, rfl, .inr ⟨_, SqT.of g1, rfl⟩, by rw [← g2.length]; exact f.same m (vr_lit L _)⟩
  · rename_i t
    obtain ⟨hl, e⟩ := guard_ok e
    cases e
    cases h1
    have hz := okL_le hl
    have el : t.length = t.cps.toList.length := by simp [Str.length]
    exact call_len pins s σ H _ us Q I0 r ⟨_, t.length, rfl, ⟨by rw [el]; exact Nat.le_trans (Nat.le_of_lt hz) line16, rfl⟩, by rw [el]; exact f.same m (vr_lit L _)⟩
  · rename_i a
    obtain ⟨b, rfl, q⟩ := vr_ref h1
    split at e
    · rename_i ys g
      cases e
      obtain ⟨ws, o1, o2⟩ := lst_rd m q (.inl g) X.K
      exact call_len pins s σ H _ us Q I0 r ⟨_, _, rfl, .inl ⟨_, o1, rfl⟩, by rw [← o2.length]; exact f.same m (vr_lit L _)⟩
    · rename_i ys g
      cases e
      obtain ⟨ws, o1, o2⟩ := lst_rd m q (.inr g) X.K
      exact call_len pins s σ H _ us Q I0 r ⟨_, _, rfl, .inl ⟨_, o1, rfl⟩, by rw [← o2.length]; exact f.same m (vr_lit L _)⟩
    · rename_i kvs lk g
      cases e
      obtain ⟨u, rfl, ru⟩ := r.one
      cases ru
      have l63 := line63
      rcases dat_of I0 m g q with ⟨ws, vs, h1, h2, h3, h4, h5⟩ | ⟨ka, h1, h2, h3, h4⟩
      · have l1 := paired_len h1
        have l2 := h2.length
        have hl : vs.length = kvs.length := by omega
        have hz : vs.length ≤ sizeLine := by rw [← l2]; exact h5
        refine call_len_dict h4 h3 (by omega) ?_
        rw [hl]
        exact ⟨.int _, H, I0.tok _, ⟨_, rfl⟩, f.same m (vr_lit L _)⟩
      · have l1 := paired_len h1
        refine call_len_dictH h3 h2 (by omega) ?_
        rw [← l1]
        exact ⟨.int _, H, I0.tok _, ⟨_, rfl⟩, f.same m (vr_lit L _)⟩
    · cases e
  · cases e
theorem keys_leaf {r : Rho} {H : Hp} : ∀ {kvs : List (Val I × Val I)} {ws : List (Key × V)}, Paired (EL den r H) kvs ws → VRs den r H (keysOf kvs) (ws.map fun kv => kV kv.1)
  | _, _, .nil => .nil
  | _, _, .cons (a := p) (b := q) h t => by
    refine .cons ?_ (keys_leaf t)
    obtain ⟨h1, _⟩ := h
    obtain ⟨pk, pv⟩ := p
    obtain ⟨qk, qv⟩ := q
    show VR den r H pk (kV qk)
    cases pk with
    | int i => cases h1; exact .int i
    | str x => cases h1; exact .str x
    | _ => cases h1
theorem keys_tree {r : Rho} {H : Hp} : ∀ {kvs : List (Val I × Val I)} {ks : List (NestedKey × Addr × Value)}, Paired (EN den r H) kvs ks → VRs den r H (keysOf kvs) ((ks.map fun x => x.2.1).map V.ref)
  | _, _, .nil => .nil
  | _, _, .cons h t => .cons h.2.2.1 (keys_tree t)
theorem list_tree {pins : List (Addr × Obj)} {σ : L2.St} {H : Hp} {s : Shared} {Q : VK} (I : L2.Inv X pins σ H s) (hc : X.calm = true) {d : Addr} {ks : List (NestedKey × Addr × Value)} (h2 : s.heap.DictOfH (nestedKind X.prog X.w) d ks) (hs : (d == sysModules) = false) (hz0 : ks.length ≤ sizeLine)
    (q : ∀ p, H p = none → Q (.ref p) (upd H p (.lst ((ks.map fun x => x.2.1).map V.ref)))) : wpAny (model X.prog X.w) X.A (call (.type "list") [.ref d]) (EP X pins σ Q) X.xe s := by
  obtain ⟨o, es, ep, ho, hx, hdt, he, hn⟩ := h2
  have l1 : es.size = ks.length := size_of_entries he
  refine PySem.W.kdl_call (kdl_raw hs hx hdt) (I.ok.hd hc) ho (by omega) fun h' tk acc' c' kp e it => ?_
  have ea : acc'.toList = ks.map fun x => Value.ref x.2.1 := by
    have hl : acc'.toList.length = ks.length := by rw [Array.length_toList, it.1]; exact l1
    apply List.ext_getElem?
    intro j
    rw [List.getElem?_map]
    cases hj : acc'.toList[j]? with
    | none =>
      have h1 := List.getElem?_eq_none_iff.mp hj
      rw [List.getElem?_eq_none (by omega)]
      all_goals rfl
    | some v =>
      obtain ⟨en, hen, hv⟩ := it.2 j v (by rw [← Array.getElem?_toList]; exact hj)
      have qe := entry_at he j
      rw [hen] at qe
      cases hb : ks[j]? with
      | none =>
        rw [hb] at qe
        exact nomatch (show some en = none from qe)
      | some b =>
        rw [hb] at qe
        have e2 : en = entryOfKey (nestedKind X.prog X.w) b := Option.some.inj qe
        rw [hv, e2]
        all_goals rfl
  have eb : acc'.toList = (ks.map fun x => x.2.1).map Value.ref := by rw [ea, List.map_map]; all_goals rfl
  have rv : Vals ((ks.map fun x => x.2.1).map V.ref) acc'.toList := by rw [eb]; exact vals_refs _
  have hz : ((ks.map fun x => x.2.1).map V.ref).length ≤ sizeLine := by rw [List.length_map, List.length_map]; omega
  refine ⟨.ref s.heap.objs.size, _, I.laid (t' := tk) (o := .lst ((ks.map fun x => x.2.1).map V.ref)) kp (Nat.le_refl _) ?_, rfl, q _ (I.hok.fresh (Nat.le_refl _))⟩
  exact ⟨hz, acc'.toList, c', rv, by rw [Array.toArray_toList]; exact e⟩
theorem c_list (hc : X.calm = true) : CallR X (.type "list") (uCB den X ca .list) := by
  intro pins s σ H xs us Q I0 r h
  obtain ⟨ρ, S, va, v, z, S', rfl, m, h1, e9, f⟩ := cb1 (g := b_list) (fun _ _ => rfl) h
  unfold b_list at e9
  split at e9
  · cases h1 with
    | tup g1 g2 => exact call_list_of pins s σ H _ us Q I0 r ⟨_, _, rfl, .inr (SqT.of g1), f.lst m g2 e9⟩
  · rename_i a
    obtain ⟨b, rfl, q⟩ := vr_ref h1
    split at e9
    · rename_i ys g
      obtain ⟨ws, o1, o2⟩ := lst_rd m q (.inl g) X.K
      exact call_list_of pins s σ H _ us Q I0 r ⟨_, _, rfl, .inl o1, f.lst m o2 e9⟩
    · rename_i ys g
      obtain ⟨ws, o1, o2⟩ := lst_rd m q (.inr g) X.K
      exact call_list_of pins s σ H _ us Q I0 r ⟨_, _, rfl, .inl o1, f.lst m o2 e9⟩
    · rename_i kvs lk g
      rcases dic_ob m g q with ⟨ws, h1, h2⟩ | ⟨ka, h1, h2⟩
      · exact call_listD hc pins s σ H _ us Q I0 r ⟨b, ws, rfl, h1.rd, f.lst m (keys_leaf h2) e9⟩
      · obtain ⟨u, rfl, ru⟩ := r.one
        cases ru
        obtain ⟨⟨o, es, ep, g1, g2, g3, g4, g5, g6, g7⟩, _⟩ := h1.rd.ok I0.hok
        have dd : s.heap.DictOfH (nestedKind X.prog X.w) b ka := ⟨o, es, ep, g1, g2, g3, g4, fun x hx => by
          obtain ⟨kv, _, ok, e, vr, _⟩ := paired_mem h2 x hx
          rw [← e]
          exact kis_of I0 ok vr, g5⟩
        exact list_tree I0 hc dd g6 g7 (f.lst m (keys_tree h2) e9)
    · cases e9
  · cases e9
theorem c_int (L : Lawful I den) : CallR X (.type "int") (uCB den X ca .int) := by
  intro pins s σ H xs us Q I0 r h
  obtain ⟨ρ, S, va, v, z, S', rfl, m, h1, e, f⟩ := cb1 (g := b_int) (fun _ _ => rfl) h
  cases va with
  | int i => cases e; cases h1; exact call_int1 pins s σ H _ us Q I0 r (.inl ⟨_, rfl, f.same m (.int i)⟩)
  | bl k => cases e; cases h1; exact call_int1 pins s σ H _ us Q I0 r (.inr ⟨k, rfl, f.same m (vr_lit L _)⟩)
  | _ => cases e
theorem c_tuple : CallR X (.type "tuple") (uCB den X ca .tuple) := by
  intro pins s σ H xs us Q I0 r h
  obtain ⟨ρ, S, va, v, z, S', rfl, m, h1, e, f⟩ := cb1 (g := b_tuple) (fun _ _ => rfl) h
  unfold b_tuple at e
  split at e
  · cases e
    cases h1 with
    | tup g1 g2 => exact call_tuple_of pins s σ H _ us Q I0 r ⟨_, _, rfl, .inr ⟨SqT.of g1, f.same m (.tup g1 g2)⟩⟩
  · split at e
    · rename_i ys g
      cases e
      obtain ⟨b, rfl, q⟩ := vr_ref h1
      obtain ⟨ws, o1, o2⟩ := lst_ob m g q
      exact call_tuple_of pins s σ H _ us Q I0 r ⟨b, ws, rfl, .inl ⟨SqL.of o1, f.tup m o2⟩⟩
    · cases e
  · cases e
theorem c_max (L : Lawful I den) (hc : X.calm = true) : CallR X (.builtin "max") (uCB den X ca .max) := by
  intro pins s σ H xs us Q I0 r ⟨ρ, S, vs, v, S', m, hs, e, f⟩
  obtain ⟨⟨a, b⟩, e1, e⟩ := opt_ok (show (opt (arg2 vs) fun p => b_max p.1 p.2 S) = .ok v S' from e)
  cases arg2_ok e1
  obtain ⟨y, z, rfl, h1, h2⟩ := hs.two
  obtain ⟨i, e2, e⟩ := opt_ok (show b_max a b S = .ok v S' from e)
  obtain ⟨j, e3, e⟩ := opt_ok e
  obtain ⟨k, e4, e⟩ := opt_ok e
  cases a with
  | int i' =>
    obtain rfl : i' = i := Option.some.inj e2
    cases b with
    | int j' =>
      obtain rfl : j' = j := Option.some.inj e3
      cases h1
      cases h2
      refine call_max2 hc pins s σ H _ us Q I0 r ⟨_, _, rfl, ?_⟩
      have q := L.cmp _ _ _ _ e4
      have q : decide (den i' < den j') = k := q
      cases k with
      | true =>
        cases e
        rw [if_pos (of_decide_eq_true q)]
        exact f.same m (.int j')
      | false =>
        cases e
        rw [if_neg (of_decide_eq_false q)]
        exact f.same m (.int i')
    | _ => cases e3
  | _ => cases e2
theorem allBl_ok {r : Rho} {H : Hp} : ∀ {xs : List (Val I)} {bs : List Bool} {ys : List V}, allBl xs = some bs → VRs den r H xs ys → ys = bs.map V.bl
  | [], _, _, e, .nil => by cases e; rfl
  | .bl b :: xs, bs, _, e, .cons h t => by
    unfold allBl at e
    split at e
    · rename_i l hl
      cases e
      cases h
      rw [allBl_ok hl t]
      rfl
    · cases e
  | .non :: _, _, _, e, _ => by cases e
  | .int _ :: _, _, _, e, _ => by cases e
  | .str _ :: _, _, _, e, _ => by cases e
  | .tup _ :: _, _, _, e, _ => by cases e
  | .ref _ :: _, _, _, e, _ => by cases e
theorem allI_ok {r : Rho} {H : Hp} : ∀ {xs : List (Val I)} {bs : List I} {ys : List V}, allI xs = some bs → VRs den r H xs ys → ys = (bs.map den).map V.int
  | [], _, _, e, .nil => by cases e; rfl
  | .int b :: xs, bs, _, e, .cons h t => by
    unfold allI at e
    split at e
    · rename_i l hl
      cases e
      cases h
      rw [allI_ok hl t]
      rfl
    · cases e
  | .non :: _, _, _, e, _ => by cases e
  | .bl _ :: _, _, _, e, _ => by cases e
  | .str _ :: _, _, _, e, _ => by cases e
  | .tup _ :: _, _, _, e, _ => by cases e
  | .ref _ :: _, _, _, e, _ => by cases e
theorem c_all (hc : X.calm = true) : CallR X (.builtin "all") (uCB den X ca .all) := by
  intro pins s σ H xs us Q I0 r h
  obtain ⟨ρ, S, va, v, z, S', rfl, m, h1, e, f⟩ := cb1 (g := b_all) (fun _ _ => rfl) h
  obtain ⟨⟨a, ys⟩, e1, e⟩ := opt_ok (show b_all va S = .ok v S' from e)
  obtain ⟨bs, e2, e⟩ := opt_ok e
  cases e
  obtain ⟨rfl, g⟩ := lstAt_ok e1
  obtain ⟨b, rfl, q⟩ := vr_ref h1
  obtain ⟨ws, o1, o2⟩ := lst_ob m g q
  have := allBl_ok e2 o2
  subst this
  exact cr_all hc pins s σ H _ us Q I0 r ⟨b, bs, rfl, SqL.of o1, f.same m (.bl _)⟩
theorem c_any (hc : X.calm = true) : CallR X (.builtin "any") (uCB den X ca .any) := by
  intro pins s σ H xs us Q I0 r h
  obtain ⟨ρ, S, va, v, z, S', rfl, m, h1, e, f⟩ := cb1 (g := b_any) (fun _ _ => rfl) h
  obtain ⟨⟨a, ys⟩, e1, e⟩ := opt_ok (show b_any va S = .ok v S' from e)
  obtain ⟨bs, e2, e⟩ := opt_ok e
  cases e
  obtain ⟨rfl, g⟩ := lstAt_ok e1
  obtain ⟨b, rfl, q⟩ := vr_ref h1
  obtain ⟨ws, o1, o2⟩ := lst_ob m g q
  have := allBl_ok e2 o2
  subst this
  exact cr_any hc pins s σ H _ us Q I0 r ⟨b, bs, rfl, SqL.of o1, f.same m (.bl _)⟩
theorem insI_ok (L : Lawful I den) {x : I} : ∀ {l l' : List I}, insI x l = some l' → (l.map den).Pairwise (· ≤ ·) → (l'.map den).Perm (den x :: l.map den) ∧ (l'.map den).Pairwise (· ≤ ·)
  | [], _, e, _ => by cases e; exact ⟨.refl _, by simp⟩
  | y :: r, l', e, p => by
    unfold insI at e
    have p' : (den y :: r.map den).Pairwise (· ≤ ·) := p
    obtain ⟨p1, p2⟩ := List.pairwise_cons.mp p'
    split at e
    · rename_i h
      cases e
      have h : decide (den x ≤ den y) = true := L.cmp _ _ _ _ h
      have h := of_decide_eq_true h
      refine ⟨.refl _, ?_⟩
      show (den x :: den y :: r.map den).Pairwise (· ≤ ·)
      refine List.pairwise_cons.mpr ⟨fun z hz => ?_, p'⟩
      rcases List.mem_cons.mp hz with rfl | hz
      · exact h
      · exact Int.le_trans h (p1 z hz)
    · rename_i h
      have h : decide (den x ≤ den y) = false := L.cmp _ _ _ _ h
      have h := of_decide_eq_false h
      obtain ⟨l2, e1, rfl⟩ := Option.map_eq_some_iff.mp e
      obtain ⟨a, b⟩ := insI_ok L e1 p2
      refine ⟨?_, ?_⟩
      · show (den y :: l2.map den).Perm _
        exact (List.Perm.cons _ a).trans (List.Perm.swap _ _ _)
      · show (den y :: l2.map den).Pairwise (· ≤ ·)
        refine List.pairwise_cons.mpr ⟨fun z hz => ?_, b⟩
        rcases List.mem_cons.mp (a.mem_iff.mp hz) with rfl | hz
        · omega
        · exact p1 z hz
    · cases e
theorem sortI_ok (L : Lawful I den) : ∀ {l l' : List I}, sortI l = some l' → (l'.map den).Perm (l.map den) ∧ (l'.map den).Pairwise (· ≤ ·)
  | [], _, e => by cases e; exact ⟨.refl _, by simp⟩
  | x :: r, l', e => by
    unfold sortI at e
    split at e
    · rename_i l2 h
      obtain ⟨a, b⟩ := sortI_ok L h
      obtain ⟨c, d⟩ := insI_ok L e b
      exact ⟨c.trans (List.Perm.cons _ a), d⟩
    · cases e
theorem ints_vr {r : Rho} {H : Hp} : ∀ l : List I, VRs den r H (l.map Val.int) ((l.map den).map V.int)
  | [] => .nil
  | x :: l => .cons (.int x) (ints_vr l)
/-! pairs -/
def dP (den : I → Int) (p : I × I) : Int × Int := (den p.1, den p.2)
def LeP (p q : Int × Int) : Prop := SrtO.lexB q p = false
theorem leP_anti {p q : Int × Int} (h1 : LeP p q) (h2 : LeP q p) : p = q := by
  have a := SrtO.lexB_no.mp h1
  have b := SrtO.lexB_no.mp h2
  apply Prod.ext <;> omega
theorem leP_iff {p q : Int × Int} : LeP p q ↔ p.1 < q.1 ∨ (p.1 = q.1 ∧ p.2 ≤ q.2) := by
  unfold LeP
  rw [SrtO.lexB_no]
  omega
theorem insP_ok (L : Lawful I den) {x : I × I} : ∀ {l l' : List (I × I)}, insP x l = some l' → (l.map (dP den)).Pairwise LeP → (l'.map (dP den)).Perm (dP den x :: l.map (dP den)) ∧ (l'.map (dP den)).Pairwise LeP
  | [], _, e, _ => by cases e; exact ⟨.refl _, by simp⟩
  | y :: r, l', e, p => by
    unfold insP at e
    have p' : (dP den y :: r.map (dP den)).Pairwise LeP := p
    obtain ⟨p1, p2⟩ := List.pairwise_cons.mp p'
    have front : LeP (dP den x) (dP den y) → ((x :: y :: r).map (dP den)).Pairwise LeP := fun h => by
      show (dP den x :: dP den y :: r.map (dP den)).Pairwise LeP
      refine List.pairwise_cons.mpr ⟨fun z hz => ?_, p'⟩
      rcases List.mem_cons.mp hz with rfl | hz
      · exact h
      · have a := leP_iff.mp h
        have b := leP_iff.mp (p1 z hz)
        exact leP_iff.mpr (by omega)
    have back : ∀ {l2 : List (I × I)}, insP x r = some l2 → LeP (dP den y) (dP den x) → ((y :: l2).map (dP den)).Perm (dP den x :: (y :: r).map (dP den)) ∧ ((y :: l2).map (dP den)).Pairwise LeP := fun {l2} e1 h => by
      obtain ⟨a, b⟩ := insP_ok L e1 p2
      refine ⟨(List.Perm.cons (dP den y) a).trans (List.Perm.swap _ _ _), ?_⟩
      show (dP den y :: l2.map (dP den)).Pairwise LeP
      refine List.pairwise_cons.mpr ⟨fun z hz => ?_, b⟩
      rcases List.mem_cons.mp (a.mem_iff.mp hz) with rfl | hz
      · exact h
      · exact p1 z hz
    split at e
    · rename_i h
      cases e
      have h : decide (den x.1 < den y.1) = true := L.cmp _ _ _ _ h
      exact ⟨.refl _, front (leP_iff.mpr (.inl (of_decide_eq_true h)))⟩
    · rename_i h
      have h : decide (den x.1 < den y.1) = false := L.cmp _ _ _ _ h
      have h := of_decide_eq_false h
      split at e
      · rename_i h2
        have h2 : decide (den x.1 = den y.1) = true := L.cmp _ _ _ _ h2
        have h2 := of_decide_eq_true h2
        split at e
        · rename_i h3
          cases e
          have h3 : decide (den x.2 ≤ den y.2) = true := L.cmp _ _ _ _ h3
          exact ⟨.refl _, front (leP_iff.mpr (.inr ⟨h2, of_decide_eq_true h3⟩))⟩
        · rename_i h3
          have h3 : decide (den x.2 ≤ den y.2) = false := L.cmp _ _ _ _ h3
          have h3 := of_decide_eq_false h3
          obtain ⟨l2, e1, rfl⟩ := Option.map_eq_some_iff.mp e
          exact back e1 (leP_iff.mpr (.inr ⟨h2.symm, by show den y.2 ≤ den x.2; omega⟩))
        · cases e
      · rename_i h2
        have h2 : decide (den x.1 = den y.1) = false := L.cmp _ _ _ _ h2
        have h2 := of_decide_eq_false h2
        obtain ⟨l2, e1, rfl⟩ := Option.map_eq_some_iff.mp e
        exact back e1 (leP_iff.mpr (.inl (by show den y.1 < den x.1; omega)))
      · cases e
    · cases e
theorem sortP_ok (L : Lawful I den) : ∀ {l l' : List (I × I)}, sortP l = some l' → (l'.map (dP den)).Perm (l.map (dP den)) ∧ (l'.map (dP den)).Pairwise LeP
  | [], _, e => by cases e; exact ⟨.refl _, by simp⟩
  | x :: r, l', e => by
    unfold sortP at e
    split at e
    · rename_i l2 h
      obtain ⟨a, b⟩ := sortP_ok L h
      obtain ⟨c, d⟩ := insP_ok L e b
      exact ⟨c.trans (List.Perm.cons _ a), d⟩
    · cases e
/-- the pair that a value stands for -/
def keyH (H : Hp) (x : V) : Int × Int := match x with
  | .ref t => (match H t with
    | some (.tup [.int i, .int j]) => (i, j)
    | _ => (0, 0))
  | _ => (0, 0)
def IsP (H : Hp) (y : V) : Prop := ∃ t, y = .ref t ∧ H t = some (.tup [.int (keyH H y).1, .int (keyH H y).2])
theorem isP_of {t : Addr} {i j : Int} {H : Hp} (h : H t = some (.tup [.int i, .int j])) : keyH H (.ref t) = (i, j) ∧ IsP H (.ref t) := by
  have e : keyH H (.ref t) = (i, j) := by
    unfold keyH
    simp only [h]
  exact ⟨e, t, rfl, by rw [e]; exact h⟩
theorem allP_ok {r : Rho} {H : Hp} : ∀ {xs : List (Val I)} {ps : List (I × I)} {ys : List V}, allP xs = some ps → VRs den r H xs ys → (∀ y ∈ ys, IsP H y) ∧ ys.map (keyH H) = ps.map (dP den)
  | [], _, _, e, .nil => by cases e; exact ⟨fun y h => (by cases h), rfl⟩
  | x :: xs, ps, y :: ys, e, .cons h t => by
    unfold allP at e
    split at e
    · rename_i heq
      cases heq
    · rename_i i j rest heq
      cases heq
      split at e
      · rename_i l hl
        cases e
        obtain ⟨q1, q2⟩ := allP_ok hl t
        cases h with
        | tup g hs =>
          cases hs with
          | cons a1 b1 =>
            cases b1 with
            | cons a2 b2 =>
              cases b2
              cases a1
              cases a2
              obtain ⟨e1, e2⟩ := isP_of g
              refine ⟨fun z hz => ?_, by rw [List.map_cons, e1, q2]; rfl⟩
              rcases List.mem_cons.mp hz with rfl | hz
              · exact e2
              · exact q1 z hz
      · cases e
    · cases e
theorem pair_row {r : Rho} {H : Hp} : ∀ {qs : List (I × I)} {ys : List V}, (∀ y ∈ ys, IsP H y) → ys.map (keyH H) = qs.map (dP den) → VRs den r H (qs.map pairV) ys
  | [], [], _, _ => .nil
  | [], y :: ys, _, e => by cases e
  | q :: qs, [], _, e => by cases e
  | q :: qs, y :: ys, h, e => by
    rw [List.map_cons, List.map_cons] at e
    injection e with e1 e2
    obtain ⟨t, rfl, g⟩ := h y (List.mem_cons_self ..)
    rw [e1] at g
    exact .cons (.tup g (.cons (.int q.1) (.cons (.int q.2) .nil))) (pair_row (fun z hz => h z (List.mem_cons_of_mem _ hz)) e2)
theorem pairs_same {l m : List (Int × Int)} (hp : l.Perm m) (h1 : l.Pairwise LeP) (h2 : m.Pairwise LeP) : l = m := List.Perm.eq_of_pairwise (le := LeP) (fun _ _ _ _ => leP_anti) h1 h2 hp
theorem lt_srtd {k : V → Int × Int} {ys : List V} (h : SrtO.Srtd (ltP k) ys) : (ys.map k).Pairwise LeP := List.pairwise_map.mpr h
theorem c_sorted (L : Lawful I den) (hc : X.calm = true) : CallR X (.builtin "sorted") (uCB den X ca .sorted) := by
  intro pins s σ H xs us Q I0 r h
  obtain ⟨ρ, S, va, v, z, S', rfl, m, h1, e, f⟩ := cb1 (g := b_sorted) (fun _ _ => rfl) h
  replace e : (match dicAt va S with | some p => b_sortedD p.2.1 S | none => opt (lstAt va S) fun p => b_sortedL p.2 S) = .ok v S' := e
  split at e
  · rename_i p hd
    obtain ⟨a, kvs, lk⟩ := p
    obtain ⟨rfl, g⟩ := dicAt_ok hd
    obtain ⟨hl, e5⟩ := guard_ok (show guard (Nat.blt kvs.length 4000) (opt (allP (kvs.map (·.1))) fun ps => guard (!ps.isEmpty) (opt (sortP ps) fun qs => fresh S (.lst (qs.map pairV)))) = .ok v S' from e)
    obtain ⟨ps, e1, e6⟩ := opt_ok e5
    obtain ⟨hne, e7⟩ := guard_ok e6
    obtain ⟨qs, e2, e9⟩ := opt_ok e7
    have hl := blt_lt hl
    obtain ⟨b, rfl, q⟩ := vr_ref h1
    obtain ⟨u, rfl, ru⟩ := r.one
    cases ru
    rcases dic_ob m g q with ⟨ws, g1, g2⟩ | ⟨ka, g1, g2⟩
    · exfalso
      cases g2 with
      | nil =>
        cases e1
        cases hne
      | @cons kv w0 _ _ hkv ht =>
        have : ∃ i j, kv.1 = (.tup [.int i, .int j] : Val I) := by
          rw [List.map_cons] at e1
          unfold allP at e1
          split at e1
          · rename_i heq
            cases heq
          · rename_i i j rest heq
            injection heq with h1 h2
            exact ⟨i, j, h1⟩
          · cases e1
        obtain ⟨i, j, hk⟩ := this
        have := hkv.1
        rw [hk] at this
        cases this
    · obtain ⟨⟨o, es, ep, a1, a2, a3, a4, a5, a6, a7⟩, _⟩ := g1.rd.ok I0.hok
      obtain ⟨k1, k2⟩ := allP_ok e1 (keys_tree g2)
      refine sorted_treeP I0 hc a1 a2 a3 a4 a6 a7 (fun u => keyH H (backV u)) (fun x hx => ?_) fun out p o1 o2 hp => ?_
      · have hm : V.ref x.2.1 ∈ (ka.map fun x => x.2.1).map V.ref := List.mem_map_of_mem (f := V.ref) (List.mem_map_of_mem (f := fun x : NestedKey × Addr × Value => x.2.1) hx)
        obtain ⟨t, et, ht⟩ := k1 _ hm
        cases et
        obtain ⟨_, its2, r2, o', ho', hc', n', hd'⟩ := I0.hok _ _ ht
        obtain ⟨u1, u2, rfl, ri, rj⟩ := vals2 r2
        obtain ⟨t1, rfl⟩ := ri
        obtain ⟨t2, rfl⟩ := rj
        exact ⟨_, o', t1, t2, n', rfl, ho', hc', hd'⟩
      · obtain ⟨s1, s2⟩ := sortP_ok L e2
        have hb : (out.map backV).Perm ((ka.map fun x => x.2.1).map V.ref) := by
          have := o2.map backV
          rw [List.map_map] at this
          rw [List.map_map]
          exact this
        have hk : (out.map backV).map (keyH H) = qs.map (dP den) := by
          refine pairs_same (((hb.map (keyH H)).trans (by rw [k2])).trans s1.symm) ?_ s2
          rw [List.map_map]
          exact List.pairwise_map.mpr o1
        exact f.lst m (pair_row (fun y hy => k1 y (hb.mem_iff.mp hy)) hk) e9 p hp
  · obtain ⟨⟨a, ys⟩, e1, e5⟩ := opt_ok e
    clear e
    obtain ⟨hl, e⟩ := guard_ok (show guard (Nat.blt ys.length 64) _ = .ok v S' from e5)
    clear e5
    obtain ⟨rfl, g⟩ := lstAt_ok e1
    obtain ⟨b, rfl, q⟩ := vr_ref h1
    obtain ⟨ws, o1, o2⟩ := lst_ob m g q
    have hl := blt_lt hl
    have l1 := o2.length
    split at e
    · rename_i is e2
      obtain ⟨js, e3, e9⟩ := opt_ok e
      have hw := allI_ok e2 o2
      subst hw
      obtain ⟨p1, p2⟩ := sortI_ok L e3
      refine cr_sorted pins s σ H _ us Q I0 r ⟨b, is.map den, rfl, SqL.of o1, by simp at l1 ⊢; omega, fun ns' p q1 q2 hp => ?_⟩
      have : ns' = js.map den := List.Perm.eq_of_pairwise (le := (· ≤ ·)) (fun a b _ _ h1 h2 => Int.le_antisymm h1 h2) q2 p2 (q1.trans p1.symm)
      subst this
      exact f.lst m (ints_vr js) e9 p hp
    · obtain ⟨ps, e2, e⟩ := opt_ok e
      obtain ⟨qs, e3, e9⟩ := opt_ok e
      obtain ⟨k1, k2⟩ := allP_ok e2 o2
      obtain ⟨s1, s2⟩ := sortP_ok L e3
      refine cr_sortedPO pins s σ H _ us Q I0 r ⟨b, ws, keyH H, rfl, SqL.of o1, k1, fun zs p q1 q2 hp => ?_⟩
      have hk : zs.map (keyH H) = qs.map (dP den) := pairs_same (((q2.perm.map (keyH H)).trans (by rw [k2])).trans s1.symm) (lt_srtd q1) s2
      exact f.lst m (pair_row (fun y hy => k1 y (q2.perm.mem_iff.mp hy)) hk) e9 p hp
end
end Pz
set_option Elab.async false
set_option linter.all false
set_option maxRecDepth 100000
set_option maxHeartbeats 4000000
/-! sets of keys of a kind: set(list), sorted(set) -/
namespace Pz
open PySem PySem.Spec PyProof.Rows L2
/-- a kind of keys, with each value's key -/
structure Kyd (P : Program) (w : World) (J : Type) [DecidableEq J] where
  kd : PySem.KeyKind P w J
  ky : Value → J
  gd : Value → Prop
  fits : ∀ v, gd v → ∀ k, kd.is k v = true ↔ ky v = k
  scan : ∀ v, gd v → v.scannable = true
def kyI (P : Program) (w : World) : Kyd P w Int where
  kd := PySem.intKind P w
  ky := fun v => match v with | .int k _ => k | _ => 0
  gd := fun v => ∃ k t, v = .int k t
  fits := fun v ⟨k, t, e⟩ j => by
    subst e
    show ((k == j) = true) ↔ k = j
    exact beq_iff_eq
  scan := fun v ⟨k, t, e⟩ => by subst e; rfl
def kyS (P : Program) (w : World) : Kyd P w Str where
  kd := PySem.strKind P w
  ky := fun v => match v with | .str k _ => k | _ => Str.empty
  gd := fun v => ∃ k t, v = .str k t
  fits := fun v ⟨k, t, e⟩ j => by
    subst e
    show (Value.isStrOf j (.str k t) = true) ↔ k = j
    simp only [Value.isStrOf]
    exact ⟨fun h => by simpa using h, fun h => by simpa using h⟩
  scan := fun v ⟨k, t, e⟩ => by subst e; rfl
section
variable {P : Program} {w : World} {J : Type} [DecidableEq J] (D : Kyd P w J)
def Kyd.keys (l : List (Int × Value)) : List J := l.map fun e => D.ky e.2
/-- the set at a: its members, their number; it can be walked -/
def SetG (h : Heap) (a : Addr) (M : J → Bool) (n : Nat) : Prop :=
  ∃ o es ep t, h.get? a = some o ∧ o.ExactSet ∧ o.data = .set es ep t ∧ (∀ e ∈ es.toList, D.gd e.2 ∧ e.1 = D.kd.hash (D.ky e.2)) ∧ (D.keys es.toList).Nodup ∧ (∀ k, M k = true ↔ k ∈ D.keys es.toList) ∧
    es.size < scanBound ∧ t.fits es.size = true ∧ es.size = n ∧ Ris t.place.toList ∧ (w.params.followText "set-order" = true ∨ t.led = true)
variable {D}
theorem SetG.kept {h h' : Heap} {a : Addr} {M : J → Bool} {n : Nat} (R : SetG D h a M n) (k : ∀ o, h.get? a = some o → h'.get? a = some o) : SetG D h' a M n := by
  obtain ⟨o, es, ep, t, ho, r⟩ := R
  exact ⟨o, es, ep, t, k o ho, r⟩
theorem SetG.same {h : Heap} {a : Addr} {M M' : J → Bool} {n : Nat} (R : SetG D h a M n) (e : ∀ k, M' k = M k) : SetG D h a M' n := by
  have q : M' = M := funext e
  rw [q]; exact R
theorem Kyd.elems {l : List (Int × Value)} (g : ∀ e ∈ l, D.gd e.2 ∧ e.1 = D.kd.hash (D.ky e.2)) : ElemsOf D.kd l := fun e he => by
  obtain ⟨h1, h2⟩ := g e he
  exact ⟨⟨D.ky e.2, (D.fits _ h1 _).2 rfl, h2⟩, D.scan _ h1⟩
theorem Kyd.mem {l : List (Int × Value)} (g : ∀ e ∈ l, D.gd e.2 ∧ e.1 = D.kd.hash (D.ky e.2)) (k : J) : k ∈ D.keys l ↔ ∃ e ∈ l, D.kd.is k e.2 = true := by
  unfold Kyd.keys
  rw [List.mem_map]
  constructor
  · rintro ⟨e, he, q⟩
    exact ⟨e, he, (D.fits _ (g e he).1 k).2 q⟩
  · rintro ⟨e, he, q⟩
    exact ⟨e, he, (D.fits _ (g e he).1 k).1 q⟩
section
variable {A : Around} {E : Value → Shared → Prop} {s : Shared} {a : Addr} {M : J → Bool} {n : Nat}
theorem setG_end {g : Bool → Sem Unit} (hg : ∀ (b : Bool) (s₁ : Shared) (Q' : Unit → Shared → Prop), Q' () s₁ → wpAny (model P w) A (g b) Q' E s₁)
    {o : Obj} {es : Array (Int × Value)} {ep : Nat} {t : SetTable} (ho : s.heap.get? a = some o) (hex : o.ExactSet) (hd : o.data = .set es ep t)
    {fs : Array (Int × Value)} {u : SetTable} {M' : J → Bool} (g1 : ∀ e ∈ fs.toList, D.gd e.2 ∧ e.1 = D.kd.hash (D.ky e.2)) (nd1 : (D.keys fs.toList).Nodup) (m1 : ∀ k, M' k = true ↔ k ∈ D.keys fs.toList)
    (hb1 : fs.size < scanBound) (hf2 : u.fits fs.size = true) (hr : Ris u.place.toList) (hl : w.params.followText "set-order" = true ∨ u.led = true) {dum : Bool} {R : Option Bool → Shared → Prop}
    (hR : ∀ h', Heap.SameBut a s.heap h' → SetG D h' a M' fs.size → R (some true) { s with heap := h' }) :
    wpAny (model P w) A (do
        storeSet a fs u
        if (!dum && u.tooFull) = true then do
            g (relayAll u fs (SetTable.grown fs.size)).2.2
            storeSet a (relayAll u fs (SetTable.grown fs.size)).1 (relayAll u fs (SetTable.grown fs.size)).2.1
            pure (some true)
          else pure (some true)) R E s := by
  refine wpAny_bind (wpAny_storeSet_of ho hd ?_ (fits_of_scanBound hb1))
  have ho1 := store_at (es' := fs) (t' := u) ho hd
  have sb1 := Heap.SameBut.update s.heap a (Obj.putSet fs u)
  split
  · have pm := relayAll_perm u fs (SetTable.grown fs.size)
    have hf3 := relayAll_fits u fs (SetTable.grown fs.size)
    have hr3 := relayAll_ris u fs (SetTable.grown fs.size)
    have hl3 := relayAll_led u fs (SetTable.grown fs.size)
    generalize relayAll u fs (SetTable.grown fs.size) = Z at pm hf3 hr3 hl3 ⊢
    obtain ⟨gs, v, gave⟩ := Z
    dsimp only at pm hf3 hr3 hl3 ⊢
    have hsz : gs.size = fs.size := by rw [← Array.length_toList, pm.length_eq, Array.length_toList]
    have hb2 : gs.size < scanBound := by rw [hsz]; exact hb1
    refine wpAny_bind (hg _ _ _ ?_)
    refine wpAny_bind (wpAny_storeSet_of ho1 rfl ?_ (fits_of_scanBound hb2))
    have ho2 := store_at (es' := gs) (t' := v) ho1 rfl
    have pk : (D.keys gs.toList).Perm (D.keys fs.toList) := pm.map _
    exact wpAny_pure (hR _ (sb1.trans (Heap.SameBut.update _ a _)) ⟨_, gs, _, v, ho2, hex, rfl, fun e he => g1 e (pm.mem_iff.mp he), pk.nodup_iff.mpr nd1, fun k => (m1 k).trans pk.mem_iff.symm, hb2, hf3, hsz, hr3,
      hl.imp id fun z => by rw [hl3]; exact z⟩)
  · exact wpAny_pure (hR _ sb1 ⟨_, fs, _, u, ho1, hex, rfl, g1, nd1, m1, hb1, hf2, rfl, hr, hl⟩)
theorem setG_put {x : Value} {Q : Bool → Shared → Prop} (gx : D.gd x) (R : SetG D s.heap a M n) (room : n + 1 < scanBound)
    (hQ : ∀ h' b, Heap.SameBut a s.heap h' → SetG D h' a (fun j => M j || decide (j = D.ky x)) (if M (D.ky x) = true then n else n + 1) → Q b { s with heap := h' }) :
    wpAny (model P w) A (setAddHashed a x (D.kd.hash (D.ky x))) Q E s := by
  obtain ⟨o, es, ep, t, ho, hex, hd, g, nd, hm, hb, hf, hn, hr, hl⟩ := R
  have hkey : D.kd.is (D.ky x) x = true := (D.fits _ gx _).2 rfl
  have hsc : x.scannable = true := D.scan _ gx
  have hel : ElemsOf D.kd es.toList := Kyd.elems g
  unfold setAddHashed setAddHashedIn
  refine wpAny_holding (wpAny_bind (wpAny_setState_of ho hd hf ?_))
  dsimp only
  rw [byScan_of hsc hb hel]
  simp only [↓reduceIte]
  unfold setAddByScan
  refine wpAny_bind ?_
  refine wpAny_bind (wpAny_rule ?_)
  refine wpAny_bind (wpAny_setScan_of hkey ho hd hf hel ?_)
  cases hfi : List.findIdx? (fun e => D.kd.is (D.ky x) e.2) es.toList with
  | some j =>
    dsimp only
    obtain ⟨hj, pj, _⟩ := List.findIdx?_eq_some_iff_getElem.mp hfi
    have hSk : M (D.ky x) = true := (hm _).2 ((Kyd.mem g _).2 ⟨es.toList[j], List.getElem_mem hj, pj⟩)
    refine wpAny_pure (wpAny_pure ?_)
    exact hQ s.heap _ (Heap.SameBut.refl a s.heap) ⟨o, es, ep, t, ho, hex, hd, g, nd, fun i => by
      rw [Bool.or_eq_true, decide_eq_true_eq, ← hm i]
      exact ⟨fun z => z.elim id (fun e => e ▸ hSk), .inl⟩, hb, hf, by rw [if_pos hSk]; exact hn, hr, hl⟩
  | none =>
    dsimp only
    have hnk : D.ky x ∉ D.keys es.toList := fun z => by
      obtain ⟨e, he, q⟩ := (Kyd.mem g _).1 z
      have c := List.findIdx?_eq_none_iff.mp hfi e he
      rw [q] at c
      cases c
    have hSk : M (D.ky x) = false := by
      cases q : M (D.ky x) with
      | false => rfl
      | true => exact absurd ((hm _).1 q) hnk
    have hgw : ∀ (b : Bool) {s₁ : Shared} {Q' : Unit → Shared → Prop}, Q' () s₁ → wpAny (model P w) A (match b with | true => rule "set.scan.the-table-gave-way" | false => pure ()) Q' E s₁ :=
      fun b s₁ Q' q => by cases b <;> first | exact wpAny_pure q | exact wpAny_rule q
    have pm := layNew_perm t es (D.kd.hash (D.ky x)) x
    have hf1 := layNew_fits t es (D.kd.hash (D.ky x)) x
    have hr1 := layNew_ris t es (D.kd.hash (D.ky x)) x hr
    have hl1 := layNew_led t es (D.kd.hash (D.ky x)) x
    generalize layNew t es (D.kd.hash (D.ky x)) x = Z at pm hf1 hr1 hl1 ⊢
    obtain ⟨fs, u, dum, gave⟩ := Z
    dsimp only at pm hf1 hr1 hl1 ⊢
    rw [Array.toList_push] at pm
    have pc : fs.toList.Perm ((D.kd.hash (D.ky x), x) :: es.toList) := pm.trans (List.perm_append_singleton _ _)
    have pk : (D.keys fs.toList).Perm (D.ky x :: D.keys es.toList) := pc.map _
    have g1 : ∀ e ∈ fs.toList, D.gd e.2 ∧ e.1 = D.kd.hash (D.ky e.2) := fun e he => by
      rcases List.mem_cons.mp (pc.mem_iff.mp he) with z | z
      · rw [z]; exact ⟨gx, rfl⟩
      · exact g e z
    have nd1 : (D.keys fs.toList).Nodup := pk.nodup_iff.mpr (List.nodup_cons.mpr ⟨hnk, nd⟩)
    have m1 : ∀ i, (M i || decide (i = D.ky x)) = true ↔ i ∈ D.keys fs.toList := fun i => by
      rw [Bool.or_eq_true, decide_eq_true_eq, hm i, pk.mem_iff, List.mem_cons]
      exact Or.comm
    have hsz : fs.size = n + 1 := by rw [← Array.length_toList, pc.length_eq, List.length_cons, Array.length_toList, hn]
    have hb1 : fs.size < scanBound := by rw [hsz]; exact room
    have hled : w.params.followText "set-order" = true ∨ u.led = true := hl.imp id fun z => by rw [hl1]; exact z
    have fin : ∀ h', Heap.SameBut a s.heap h' → SetG D h' a (fun j => M j || decide (j = D.ky x)) fs.size → Q true { s with heap := h' } := fun h' sb r => by
      refine hQ h' _ sb ?_
      rw [hSk, if_neg Bool.false_ne_true, ← hsz]
      exact r
    refine wpAny_bind (hgw _ ?_)
    split
    · refine wpAny_bind ?_
      rw [hashByValue_scannable 8 hsc]
      refine wpAny_pure ?_
      refine setG_end (D := D) ?_ ho hex hd g1 nd1 m1 hb1 ?_ ?_ ?_ ?_
      · intro b s₁ Q' q; cases b <;> first | exact wpAny_pure q | exact wpAny_rule q
      · first | (split <;> first | exact hf1 | exact SetTable.fits_plain_off hf1) | exact hf1
      · first | (split <;> exact hr1) | exact hr1
      · first | (split <;> exact hled) | exact hled
      · intro h' sb r; dsimp only; exact wpAny_pure (fin h' sb r)
    · refine wpAny_bind (wpAny_pure ?_)
      simp only [↓reduceIte]
      refine setG_end (D := D) ?_ ho hex hd g1 nd1 m1 hb1 hf1 hr1 hled ?_
      · intro b s₁ Q' q; cases b <;> first | exact wpAny_pure q | exact wpAny_rule q
      · intro h' sb r; dsimp only; exact wpAny_pure (fin h' sb r)
theorem setG_empty {h : Heap} {a : Addr} (ho : h.get? a = some { cls := .type "set", dict := none, data := .set #[] 0 (.fresh 0 0 (!w.params.followText "set-order")) }) : SetG D h a (fun _ => false) 0 :=
  ⟨_, #[], 0, _, ho, ⟨rfl, rfl, rfl⟩, rfl, (fun e he => by simp at he), (by simp [Kyd.keys]), (fun k => by simp [Kyd.keys]), (by decide), (by rfl), rfl, List.Pairwise.nil, by
    show _ ∨ (!w.params.followText "set-order") = true
    cases w.params.followText "set-order"
    · exact .inr rfl
    · exact .inl rfl⟩

theorem setG_loop {R : Result → Shared → Prop} {it : Addr} {fp wr : List Addr} {G : Array GenState → Array GenState → Prop} {m : Nat} {Pv : Nat → Value → Prop} {St : Nat → Shared → Prop}
    (W : WalksS P w A.in1 it fp wr G m Pv St) (B : Addr) (hBf : B ∉ fp) (ks : List J) (hm : m = ks.length) (room : ks.length + 1 < scanBound) (hval : ∀ i v, Pv i v → D.gd v ∧ ks[i]? = some (D.ky v)) :
    ∀ (k i : Nat) (s : Shared), m - i = k → i ≤ m → St i s → (∃ c, c ≤ i ∧ SetG D s.heap B (fun j => decide (j ∈ ks.take i)) c) →
      (∀ s' c, Moved (B :: wr) G s s' → c ≤ m → SetG D s'.heap B (fun j => decide (j ∈ ks)) c → R (.ok (.ret .none)) s') →
      codeAny (model P w) A (.builtin "set.update.loop" ⟨[.ref B, .ref it], []⟩) R s := by
  have hBw : B ∉ wr := fun h => hBf (W.sub _ h)
  have sub : ∀ b ∈ wr, b ∈ B :: wr := fun b hb => List.mem_cons_of_mem _ hb
  intro k
  induction k with
  | zero =>
    intro i s hk hi hst ⟨c, hc, hS⟩ hR
    obtain rfl : i = m := by omega
    refine codeAny_builtin F.entry_set_update_loop ?_
    rw [Around.under_plainId F.plain_set_update_loop _]
    show wpAny _ A.in1 (pyNext (.ref it) >>= _) _ _ s
    refine wpAny_bind (W.done s _ _ hst fun s' mv => ?_)
    show wpAny _ A.in1 (ret Value.none) _ _ s'
    rw [List.take_of_length_le (show ks.length ≤ i by omega)] at hS
    exact wpAny_pure (hR s' c (mv.mono sub) hc (hS.kept fun o e => mv.heap B o hBw e))
  | succ k ih =>
    intro i s hk hi hst ⟨c, hc, hS⟩ hR
    have lt : i < m := by omega
    refine codeAny_builtin F.entry_set_update_loop ?_
    rw [Around.under_plainId F.plain_set_update_loop _]
    show wpAny _ A.in1 (pyNext (.ref it) >>= _) _ _ s
    refine wpAny_bind (W.item i s _ _ lt hst fun v s' hP hst' mv => ?_)
    obtain ⟨gv, hz⟩ := hval i v hP
    have hS1 : SetG D s'.heap B (fun j => decide (j ∈ ks.take i)) c := hS.kept fun o e => mv.heap B o hBw e
    show wpAny _ A.in1 (holding [v] (setAdd B v) >>= _) _ _ s'
    refine wpAny_bind (wpAny_holding ?_)
    unfold setAdd
    refine wpAny_holding ?_
    refine wpAny_bind (D.kd.pyHash ((D.fits _ gv _).2 rfl) ?_)
    refine setG_put (D := D) (s := { s' with toks := s'.toks + 1 }) gv hS1 (by omega) fun h' b hsb hS2 => ?_
    have hS3 : SetG D h' B (fun j => decide (j ∈ ks.take (i + 1))) (if decide (D.ky v ∈ ks.take i) = true then c else c + 1) := hS2.same fun j => by
      rw [List.take_add_one, hz]
      simp [List.mem_append]
    have hc3 : (if decide (D.ky v ∈ ks.take i) = true then c else c + 1) ≤ i + 1 := by split <;> omega
    refine wpAny_pure ⟨plainId_quiet F.plain_set_update_loop _, ih (i + 1) _ (by omega) lt (W.frame _ s' _ _ hst' (Nat.le_succ _) fun b hb o e => ?_) ⟨_, hc3, hS3⟩ fun s2 c2 mv2 hc2 hS4 => ?_⟩
    · rw [hsb.2 b (fun h : b = B => hBf (by rw [← h]; exact hb))]; exact e
    · refine hR s2 c2 (Moved.trans W.gtrans ((mv.mono sub).then_heap (Nat.le_succ _) fun b o hb e => ?_) mv2) hc2 hS4
      rw [hsb.2 b (fun h : b = B => hb (by rw [h]; exact List.mem_cons_self))]; exact e
set_option maxHeartbeats 6400000 in
theorem setG_of {l : Addr} {its : Array Value} (ks : List J) {Q : Value → Shared → Prop} (hh : A.handled = none) (hl : s.heap.IsList l its) (hz : its.size = ks.length) (hval : ∀ (i : Nat) (v : Value), its[i]? = some v → D.gd v ∧ ks[i]? = some (D.ky v)) (hb : ks.length + 1 < scanBound)
    (fin : ∀ (h' : Heap) (tk c : Nat), SetG D h' s.heap.objs.size (fun j => decide (j ∈ ks)) c → c ≤ ks.length → (∀ b o, s.heap.get? b = some o → h'.get? b = some o) → Q (.ref s.heap.objs.size) { s with heap := h', toks := tk }) :
    wpAny (model P w) A (call (.type "set") [.ref l]) Q E s := by
  generalize hS0 : (s.heap.push { cls := .type "set", dict := none, data := .set #[] 0 (.fresh 0 0 (!w.params.followText "set-order")) }) = H0
  have hSize : H0.objs.size = s.heap.objs.size + 1 := by rw [← hS0]; exact Heap.size_push ..
  obtain ⟨c, tl, hmro⟩ := F.called_set.mro
  have hmade := F.called_set.made
  have hsub := F.called_set.sub
  refine wpAny_call (codeAny_of_tree ?_)
  show wpAny _ _ (callAny (.type "set") _) _ _ _
  refine wpAny_pure ⟨Code.quiet_builtin _ (by decide +kernel), codeAny_builtin F.entry_type_call ?_⟩
  rw [Around.under_plain (weight_type_call_type "set" [.ref l] []) rfl]
  have h1 := F.called_set.notType
  have h2 := F.called_set.canCreate
  have hct := F.typeCall_set_1 (.ref l)
  repeat (any_goals (first | assumption | wp_step))
  refine codeAny_mono (code_set_led1 (.ref l) (E := E) (Q₁ := fun obj s₁ => obj = .ref s.heap.objs.size ∧ s₁ = { s with heap := H0 }) ⟨rfl, by rw [← hS0]⟩) fun r s₁ hr => ?_
  cases r with
  | error e => exact hr
  | ok fl =>
    cases fl with
    | ret obj =>
      obtain ⟨rfl, rfl⟩ := hr
      have hS : H0.get? s.heap.objs.size = some { cls := .type "set", dict := none, data := .set #[] 0 (.fresh 0 0 (!w.params.followText "set-order")) } := by rw [← hS0]; exact Heap.get?_push_size _ rfl
      have hT : Shared.TypeIs { s with heap := H0 } (.ref s.heap.objs.size) "set" := ⟨_, hS, rfl⟩
      have hli := F.called_set.init.lookup
      have hbi := F.called_set.init.bind (.ref s.heap.objs.size)
      repeat (any_goals (first | assumption | wp_step))
      refine codeAny_mono (codeAny_call_builtin (R := wants (fun r s₂ => r = .none ∧ ∃ h' tk c, s₂ = { s with heap := h', toks := tk } ∧ SetG D h' s.heap.objs.size (fun j => decide (j ∈ ks)) c ∧ c ≤ ks.length ∧
          (∀ b o, s.heap.get? b = some o → h'.get? b = some o)) E) F.called_set.init.plain F.entry_set_init (check_set_init_1 hT ?_)) fun r₂ s₂ hr₂ => ?_
      · obtain ⟨ol, hol, hcl, nl, hdl⟩ := hl
        obtain ⟨ocls, odict, odata, oslots⟩ := ol
        simp only at hcl hdl
        subst hcl; subst hdl
        have old : ∀ b o, s.heap.get? b = some o → H0.get? b = some o := fun b o e => by rw [← hS0]; exact Heap.get?_push_of_some _ e
        have hol' : H0.get? l = some { cls := .type "list", dict := odict, data := .seq its nl, slots := oslots } := old _ _ hol
        have hsls := F.sub_list_set
        have hslf := F.sub_list_frozenset
        have hne : (Value.type "list" == Value.type "dict") = false := by decide
        have hl1 : H0.IsList l its := ⟨_, hol', rfl, nl, rfl⟩
        unfold Builtin.«set.__init__» noKeywords Builtin.Frozenset.updateFrom
        generalize hPI : pyIter = PI
        wp_walk
        subst hPI
        refine wpAny_pyIter_list hl1 ?_
        refine wpAny_bind (wpAny_runValue ?_)
        have hlS : l < s.heap.objs.size := Heap.lt_size hol
        have hh3 : A.in1.in1.in1.handled = none := by simp [hh]
        have hneI : l ≠ H0.objs.size := by rw [hSize]; exact Nat.ne_of_lt (Nat.lt_succ_of_lt hlS)
        have hSf : s.heap.objs.size ∉ [H0.objs.size, l] := by
          rw [hSize]; simp only [List.mem_cons, List.mem_singleton, List.not_mem_nil, or_false, not_or]
          exact ⟨Nat.ne_of_lt (Nat.lt_succ_self _), Nat.ne_of_gt hlS⟩
        refine setG_loop (D := D) ((Walks.list hh3 _ l hneI its).toS) s.heap.objs.size hSf ks hz hb hval (its.size - 0) 0 _ (by omega) (Nat.zero_le _)
          ⟨⟨_, Heap.get?_push_size _ rfl, rfl, rfl⟩, (hl1.push _)⟩ ⟨0, Nat.le_refl 0, (setG_empty (Heap.get?_push_of_some _ hS)).same fun j => by simp⟩ ?_
        intro s' c' hm hc' hS'
        obtain ⟨h', g2, d', tk', os'⟩ := s'
        have eg : g2 = s.gens := hm.gens
        have ed : d' = s.drawn := hm.drawn
        have eo : os' = s.os := hm.os
        subst eg; subst ed; subst eo
        show wpAny _ _ _ _ _ _
        refine wpAny_pure ?_
        show wpAny _ _ (ret Value.none) _ _ _
        rw [hz] at hc'
        refine wpAny_pure ⟨rfl, h', tk', c', rfl, hS', hc', fun b o e => ?_⟩
        have hb0 : b < s.heap.objs.size := Heap.lt_size e
        have hb1 : b ≠ s.heap.objs.size := Nat.ne_of_lt hb0
        have hb2 : b ≠ H0.objs.size := by rw [hSize]; exact Nat.ne_of_lt (Nat.lt_succ_of_lt hb0)
        exact hm.heap b o (by simp only [List.mem_cons, List.mem_singleton, List.not_mem_nil, or_false, not_or]; exact ⟨hb1, hb2⟩) (Heap.get?_push_of_some _ (old _ _ e))
      · cases r₂ with
        | error e => exact hr₂
        | ok fl₂ =>
          cases fl₂ with
          | ret r =>
            obtain ⟨rfl, h', tk, c', rfl, hS', hc', hk'⟩ := hr₂
            repeat (any_goals (first | assumption | wp_step))
            exact fin _ _ _ hS' hc' hk'
          | _ => exact hr₂.elim
    | _ => exact hr.elim
/-- sorted(a set), by what list.sort makes of the members -/
theorem setG_sorted {Out : List Value → Array Value → Prop} {Q : Value → Shared → Prop} (R : SetG D s.heap a M n) (hh : A.handled = none)
    (srt : ∀ (B : Around) (T : PySem.Fin → Shared → Prop) (F : Value → Shared → Prop) (s1 : Shared) (b : Addr) (vs : List Value), (∀ v ∈ vs, D.gd v) → vs.length ≤ sizeLine → s1.heap.get? b = some (seqObj "list" vs.toArray 0) →
      (∀ out : Array Value, Out vs out → T (.done (.ret .none)) { s1 with heap := sortedHeap s1.heap b vs out }) → wpAny (model P w) B (Builtin.«list.sort» ⟨[.ref b], []⟩) T F s1)
    (hQ : ∀ s' p (vs : List Value) (out : Array Value) (c : Nat), (∀ b o, s.heap.get? b = some o → s'.heap.get? b = some o) → s'.gens = s.gens → s'.os = s.os → s.heap.objs.size ≤ p → s'.heap.get? p = some (seqObj "list" out c) →
      (∀ v ∈ vs, D.gd v) → (vs.map D.ky).Nodup → (∀ k, M k = true ↔ k ∈ vs.map D.ky) → vs.length = n → vs.length ≤ sizeLine → Out vs out → Q (.ref p) s') :
    wpAny (model P w) A (call (.builtin "sorted") [.ref a]) Q E s := by
  obtain ⟨o, es, ep, t, ho, hex, hd, g, nd, hm, hb, hf, hn, hr, hl⟩ := R
  refine Calls.call_function_entry kind_sorted plain_sorted entry_sorted (args_sorted1 _) ?_
  unfold Builtin.«sorted»
  refine wpAny_bind (m := checkCount "sorted" 1 1 _) (wpAny_pure ?_)
  refine wpAny_bind (collect_set (A := A.in1) hh ⟨o, ho, hex.1, hd⟩ hf hb hr hl fun s1 vs k1 hz g1 o1 pm => ?_)
  have hvl : vs.length = n := by rw [pm.length_eq, List.length_map, Array.length_toList]; exact hn
  have hvs : vs.length ≤ sizeLine := by rw [hvl, ← hn]; exact fits_of_scanBound hb
  have gv : ∀ v ∈ vs, D.gd v := fun v hv => by
    obtain ⟨e, he, q⟩ := List.mem_map.mp (pm.mem_iff.mp hv)
    rw [← q]
    exact (g e he).1
  have pk : (vs.map D.ky).Perm (D.keys es.toList) := by
    have q := pm.map D.ky
    rw [List.map_map] at q
    exact q
  refine wpAny_bind (wpAny_newList ?_ hvs)
  have hoL : (s1.heap.push (seqObj "list" vs.toArray 0)).get? s1.heap.objs.size = some (seqObj "list" vs.toArray 0) := Heap.get?_push_size _ rfl
  refine wpAny_bind (wpAny_holding (wpAny_call_entry slot_list_sort ⟨_, hoL, rfl⟩ entry_list_sort (srt _ _ _ _ _ vs gv hvs hoL fun out hout => ⟨_, rfl, ?_⟩) (args_list_sort _)))
  obtain ⟨c, hc⟩ := sortedHeap_at (vs := vs) (out := out) hoL
  refine wpAny_pure ⟨_, rfl, hQ _ s1.heap.objs.size vs out c (fun b u e => ?_) g1 o1 hz hc gv (pk.nodup_iff.mpr nd) (fun k => (hm k).trans pk.mem_iff.symm) hvl hvs hout⟩
  have q := k1 b u e
  have hlt := Heap.lt_size q
  show (sortedHeap (s1.heap.push (seqObj "list" vs.toArray 0)) s1.heap.objs.size vs out).get? b = some u
  rw [sortedHeap_old (Nat.ne_of_lt hlt) (by rw [size_push']; exact Nat.lt_succ_of_lt hlt)]
  exact Heap.get?_push_of_some _ q
end
end
/-! ### ints, texts -/
def OutI (vs : List Value) (out : Array Value) : Prop := ∃ ns ns' : List Int, IntsAre vs ns ∧ IntsAre out.toList ns' ∧ ns'.Perm ns ∧ ns'.Pairwise (· ≤ ·)
def OutS (vs : List Value) (out : Array Value) : Prop := ∃ ss ss' : List Str, StrsAre vs ss ∧ StrsAre out.toList ss' ∧ ss'.Perm ss ∧ sortedS ss' = true
section
variable {P : Program} {w : World}
theorem ints_gd : ∀ {vs : List Value}, (∀ v ∈ vs, (kyI P w).gd v) → IntsAre vs (vs.map (kyI P w).ky)
  | [], _ => .nil
  | v :: vs, h => by
    obtain ⟨k, t, rfl⟩ := h v (List.mem_cons_self ..)
    exact .cons k t (ints_gd fun u hu => h u (List.mem_cons_of_mem _ hu))
theorem strs_gd : ∀ {vs : List Value}, (∀ v ∈ vs, (kyS P w).gd v) → StrsAre vs (vs.map (kyS P w).ky)
  | [], _ => .nil
  | v :: vs, h => by
    obtain ⟨k, t, rfl⟩ := h v (List.mem_cons_self ..)
    exact .cons k t (strs_gd fun u hu => h u (List.mem_cons_of_mem _ hu))
theorem srtI (B : Around) (T : PySem.Fin → Shared → Prop) (F : Value → Shared → Prop) (s1 : Shared) (b : Addr) (vs : List Value) (gv : ∀ v ∈ vs, (kyI P w).gd v) (hl : vs.length ≤ sizeLine) (ho : s1.heap.get? b = some (seqObj "list" vs.toArray 0))
    (h : ∀ out : Array Value, OutI vs out → T (.done (.ret .none)) { s1 with heap := sortedHeap s1.heap b vs out }) : wpAny (model P w) B (Builtin.«list.sort» ⟨[.ref b], []⟩) T F s1 :=
  list_sort_treeAny ho (ints_gd gv) hl fun out ns' a1 a2 a3 => h out ⟨_, ns', ints_gd gv, a1, a2, a3⟩
theorem srtS (B : Around) (T : PySem.Fin → Shared → Prop) (F : Value → Shared → Prop) (s1 : Shared) (b : Addr) (vs : List Value) (gv : ∀ v ∈ vs, (kyS P w).gd v) (hl : vs.length ≤ sizeLine) (ho : s1.heap.get? b = some (seqObj "list" vs.toArray 0))
    (h : ∀ out : Array Value, OutS vs out → T (.done (.ret .none)) { s1 with heap := sortedHeap s1.heap b vs out }) : wpAny (model P w) B (Builtin.«list.sort» ⟨[.ref b], []⟩) T F s1 := by
  have hS := strs_gd gv
  refine list_sort_treeKAny strKind_oneLt ho hS.keysOf (fun v₁ v₂ rest e => keyKind_strs (by rw [← e]; exact hS)) hl fun st' hp hs => ?_
  obtain ⟨ss', h1, h2, h3⟩ := sorted_out_str hS hp hs
  exact h _ ⟨_, ss', hS, h1, h2, h3⟩
end
end Pz
set_option Elab.async false
set_option linter.all false
set_option maxRecDepth 100000
set_option maxHeartbeats 4000000
namespace Pz
open PySem L2
open PyProof.Rows (IntsAre StrsAre sortedS risingS Call_)
open PySem.Spec (ltCps)
section
variable {X : Cx} {pins : List (Addr × Obj)} {σ : L2.St} {H : Hp} {s : Shared}
/-- sorted(set(xs)) of a list of ints, of texts -/
def tSset (K : PySem.W.Frag) (te : TE) : TE := fun σ H Q => te σ H fun x H1 => ∃ l, x = .ref l ∧
  ((∃ ns : List Int, SqL K H1 l (ns.map V.int) ∧ ns.length < 4000 ∧ ∀ (ns' : List Int) (p : Addr), ns'.Pairwise (· ≤ ·) → ns'.Nodup → (∀ k, k ∈ ns' ↔ k ∈ ns) → H1 p = none → Q (.ref p) (upd H1 p (.lst (ns'.map V.int)))) ∨
   (∃ xs : List Str, SqL K H1 l (xs.map V.str) ∧ xs.length < 4000 ∧ ∀ (ys : List Str) (p : Addr), sortedS ys = true → ys.Nodup → (∀ k, k ∈ ys ↔ k ∈ xs) → H1 p = none → Q (.ref p) (upd H1 p (.lst (ys.map V.str)))))
theorem keys_at {J : Type} {f : Value → J} : ∀ {us : List Value} {ks : List J}, us.map f = ks → ∀ (i : Nat) (v : Value), us[i]? = some v → ks[i]? = some (f v) := by
  intro us ks e i v h
  rw [← e, List.getElem?_map, h]
  rfl
theorem ints_ky {P : Program} {w : World} : ∀ {us : List Value} {ns : List Int}, Vals (ns.map V.int) us → us.map (kyI P w).ky = ns ∧ ∀ v ∈ us, (kyI P w).gd v
  | us, [], h => by cases h; exact ⟨rfl, fun v h => by cases h⟩
  | us, n :: ns, h => by
    cases h with
    | cons a t =>
      obtain ⟨tk, rfl⟩ := a
      obtain ⟨h1, h2⟩ := ints_ky (P := P) (w := w) t
      refine ⟨by rw [List.map_cons, h1]; rfl, fun v hv => ?_⟩
      rcases List.mem_cons.mp hv with rfl | hv
      · exact ⟨n, tk, rfl⟩
      · exact h2 v hv
theorem strs_ky {P : Program} {w : World} : ∀ {us : List Value} {ns : List Str}, Vals (ns.map V.str) us → us.map (kyS P w).ky = ns ∧ ∀ v ∈ us, (kyS P w).gd v
  | us, [], h => by cases h; exact ⟨rfl, fun v h => by cases h⟩
  | us, n :: ns, h => by
    cases h with
    | cons a t =>
      obtain ⟨tk, rfl⟩ := a
      obtain ⟨h1, h2⟩ := strs_ky (P := P) (w := w) t
      refine ⟨by rw [List.map_cons, h1]; rfl, fun v hv => ?_⟩
      rcases List.mem_cons.mp hv with rfl | hv
      · exact ⟨n, tk, rfl⟩
      · exact h2 v hv
theorem ints_map {P : Program} {w : World} : ∀ {vs : List Value} {ns : List Int}, IntsAre vs ns → vs.map (kyI P w).ky = ns
  | _, _, .nil => rfl
  | _, _, .cons n t h => by rw [List.map_cons, ints_map h]; rfl
theorem strs_map {P : Program} {w : World} : ∀ {vs : List Value} {ns : List Str}, StrsAre vs ns → vs.map (kyS P w).ky = ns
  | _, _, .nil => rfl
  | _, _, .cons n t h => by rw [List.map_cons, strs_map h]; rfl
theorem line4000 {n : Nat} (h : n < 4000) : n + 1 < scanBound := by unfold scanBound; omega
/-- behind the sort: a new list -/
theorem sset_fin {Q : VK} {ys : List V} {s' : Shared} {p : Addr} {out : Array Value} {c : Nat} (I : L2.Inv X pins σ H s) (k : ∀ b o, s.heap.get? b = some o → s'.heap.get? b = some o) (g : s'.gens = s.gens) (o : s'.os = s.os) (hp : s.heap.objs.size ≤ p)
    (hg : s'.heap.get? p = some (PyProof.Rows.seqObj "list" out c)) (hz : ys.length ≤ sizeLine) (rv : Vals ys out.toList) (q : H p = none → Q (.ref p) (upd H p (.lst ys))) : EP X pins σ Q (.ref p) s' := by
  have hn : H p = none := I.hok.fresh hp
  have J : L2.Inv X pins σ (upd H p (.lst ys)) { s with heap := s'.heap, gens := s'.gens, drawn := s'.drawn, toks := s'.toks } :=
    I.call (ch := []) (Un.laid k hp hn) (I.hok.laid k hp ⟨hz, out.toList, c, rv, hg⟩) (by rw [g]; exact I.bare) (fun _ z => nomatch z)
  have e : s' = { s with heap := s'.heap, gens := s'.gens, drawn := s'.drawn, toks := s'.toks } := by
    cases s'
    cases s
    cases o
    rfl
  rw [e]
  exact ⟨.ref p, _, J, rfl, q hn⟩
theorem pe_sset {a : Expr} {te : TE} {p p2 q pos : Pos} (hc : X.calm = true) (hg : Gl X "sorted") (hm : X.mg "sorted" = none) (hg2 : Gl X "set") (hm2 : X.mg "set" = none) (ha : PE X a te)
    (na : starEach [a] X.env = (false, eval a X.env) :: starEach [] X.env) : PE X (.Call (.Name "sorted" p) [.Call (.Name "set" p2) [a] [] q] [] pos) (tSset X.K te) := by
  refine ⟨fun pins s σ H Q I h => ?_⟩
  refine Call_ (ld_blt I hg hm (show bootBuiltins "sorted" = some (.builtin "sorted") by decide +kernel) ?_)
  refine PyProof.Rows.callWith_builtin1 (PyProof.Rows.args_cons ?_ rfl) rfl rfl
  refine Call_ (ld_blt I hg2 hm2 (show bootBuiltins "set" = some (.type "set") by decide +kernel) ?_)
  refine PyProof.Rows.callWith_type1 (PyProof.Rows.args_cons (thn (ha.run pins s σ H _ I h) fun v s1 ⟨x, H1, I1, r1, q1⟩ => PyProof.Rows.args_nil ?_) na) na rfl
  obtain ⟨l, rfl, hq⟩ := q1
  cases r1
  rcases hq with ⟨ns, hs, h4, q⟩ | ⟨xs, hs, h4, q⟩
  · obtain ⟨its, rv, hl, hz⟩ := I1.list hs
    obtain ⟨k1, k2⟩ := ints_ky (P := X.prog) (w := X.w) rv
    have hlen : its.length = ns.length := by rw [← rv.length, List.length_map]
    refine setG_of (D := kyI X.prog X.w) ns (I1.ok.hd hc) hl.isList (by rw [List.size_toArray]; exact hlen) (fun i v hv => ?_) (line4000 h4) fun h' tk c hS hcn hk => ?_
    · have hv : its[i]? = some v := by simpa using hv
      exact ⟨k2 v (List.mem_of_getElem? hv), keys_at k1 i v hv⟩
    · refine PyProof.Rows.args_nil ?_
      have I2 : L2.Inv X pins σ H1 { s1 with heap := h', toks := tk } := I1.kept hk
      refine setG_sorted (D := kyI X.prog X.w) hS (I2.ok.hd hc) srtI fun s' p vs out c' k g o hp hg' gv nd mem hvl hvs hout => ?_
      obtain ⟨m1, m2, a1, a2, a3, a4⟩ := hout
      have e1 : vs.map (kyI X.prog X.w).ky = m1 := ints_map a1
      rw [e1] at nd mem
      have l1 := a1.length
      have l2 := a3.length_eq
      refine sset_fin I2 k g o hp hg' (by rw [List.length_map]; omega) (vals_of_ints a2) fun hn => q m2 p a4 (a3.nodup_iff.mpr nd) (fun k => ?_) hn
      rw [a3.mem_iff, ← mem, decide_eq_true_eq]
  · obtain ⟨its, rv, hl, hz⟩ := I1.list hs
    obtain ⟨k1, k2⟩ := strs_ky (P := X.prog) (w := X.w) rv
    have hlen : its.length = xs.length := by rw [← rv.length, List.length_map]
    refine setG_of (D := kyS X.prog X.w) xs (I1.ok.hd hc) hl.isList (by rw [List.size_toArray]; exact hlen) (fun i v hv => ?_) (line4000 h4) fun h' tk c hS hcn hk => ?_
    · have hv : its[i]? = some v := by simpa using hv
      exact ⟨k2 v (List.mem_of_getElem? hv), keys_at k1 i v hv⟩
    · refine PyProof.Rows.args_nil ?_
      have I2 : L2.Inv X pins σ H1 { s1 with heap := h', toks := tk } := I1.kept hk
      refine setG_sorted (D := kyS X.prog X.w) hS (I2.ok.hd hc) srtS fun s' p vs out c' k g o hp hg' gv nd mem hvl hvs hout => ?_
      obtain ⟨m1, m2, a1, a2, a3, a4⟩ := hout
      have e1 : vs.map (kyS X.prog X.w).ky = m1 := strs_map a1
      rw [e1] at nd mem
      have l1 := a1.length
      have l2 := a3.length_eq
      refine sset_fin I2 k g o hp hg' (by rw [List.length_map]; omega) (vals_of_strs a2) fun hn => q m2 p a4 (a3.nodup_iff.mpr nd) (fun k => ?_) hn
      rw [a3.mem_iff, ← mem, decide_eq_true_eq]
end
/-! ### the evaluator's rows -/
section
variable {I : Type} [IOps I] {den : I → Int}
theorem uqI_ok (L : Lawful I den) {x : I} : ∀ {l l' : List I}, uqI x l = some l' → (l.map den).Pairwise (· < ·) → (l'.map den).Pairwise (· < ·) ∧ ∀ k, k ∈ l'.map den ↔ k = den x ∨ k ∈ l.map den
  | [], _, e, _ => by cases e; exact ⟨by simp, fun k => by simp⟩
  | y :: r, l', e, p => by
    unfold uqI at e
    have p' : (den y :: r.map den).Pairwise (· < ·) := p
    obtain ⟨p1, p2⟩ := List.pairwise_cons.mp p'
    split at e
    · rename_i h
      cases e
      have h : decide (den x < den y) = true := L.cmp _ _ _ _ h
      have h := of_decide_eq_true h
      refine ⟨?_, fun k => by simp⟩
      show (den x :: den y :: r.map den).Pairwise (· < ·)
      refine List.pairwise_cons.mpr ⟨fun z hz => ?_, p'⟩
      rcases List.mem_cons.mp hz with rfl | hz
      · exact h
      · exact Int.lt_trans h (p1 z hz)
    · rename_i h
      have h : decide (den x < den y) = false := L.cmp _ _ _ _ h
      have h := of_decide_eq_false h
      split at e
      · rename_i h2
        cases e
        have h2 : decide (den x = den y) = true := L.cmp _ _ _ _ h2
        have h2 := of_decide_eq_true h2
        refine ⟨p, fun k => ?_⟩
        rw [h2]
        simp
      · rename_i h2
        have h2 : decide (den x = den y) = false := L.cmp _ _ _ _ h2
        have h2 := of_decide_eq_false h2
        obtain ⟨l2, e1, rfl⟩ := Option.map_eq_some_iff.mp e
        obtain ⟨a, b⟩ := uqI_ok L e1 p2
        refine ⟨?_, fun k => ?_⟩
        · show (den y :: l2.map den).Pairwise (· < ·)
          refine List.pairwise_cons.mpr ⟨fun z hz => ?_, a⟩
          rcases (b z).mp hz with rfl | hz
          · omega
          · exact p1 z hz
        · show k ∈ den y :: l2.map den ↔ k = den x ∨ k ∈ den y :: r.map den
          rw [List.mem_cons, List.mem_cons, b k]
          constructor
          · rintro (z | z | z)
            · exact .inr (.inl z)
            · exact .inl z
            · exact .inr (.inr z)
          · rintro (z | z | z)
            · exact .inr (.inl z)
            · exact .inl z
            · exact .inr (.inr z)
      · cases e
    · cases e
theorem setsI_ok (L : Lawful I den) : ∀ {l l' : List I}, setsI l = some l' → (l'.map den).Pairwise (· < ·) ∧ ∀ k, k ∈ l'.map den ↔ k ∈ l.map den
  | [], _, e => by cases e; exact ⟨by simp, fun k => by simp⟩
  | x :: r, l', e => by
    unfold setsI at e
    split at e
    · rename_i l2 h
      obtain ⟨a, b⟩ := setsI_ok L h
      obtain ⟨c, d⟩ := uqI_ok L e a
      refine ⟨c, fun k => ?_⟩
      rw [d k, b k, List.map_cons, List.mem_cons]
    · cases e
end
theorem nlLt_eq : ∀ a b : List Nat, nlLt a b = ltCps a b
  | [], [] => rfl
  | [], _ :: _ => rfl
  | _ :: _, [] => rfl
  | x :: l, y :: m => by
    have ih := nlLt_eq l m
    unfold nlLt ltCps
    cases e : Nat.beq x y with
    | true =>
      have := Nat.eq_of_beq_eq_true e
      subst this
      simp [ih]
    | false =>
      have h : x ≠ y := fun z => by subst z; simp at e
      have h2 : (x == y) = false := beq_eq_false_iff_ne.mpr h
      show Nat.blt x y = (decide (x < y) || (x == y && ltCps l m))
      rw [h2, Bool.false_and, Bool.or_false]
      rw [Bool.eq_iff_iff, decide_eq_true_eq, Nat.blt_eq]
/-- a text before another -/
def StLt (a b : Str) : Prop := a.cps.toList < b.cps.toList
theorem nlLt_iff {a b : Str} : nlLt a.cps.toList b.cps.toList = true ↔ StLt a b := by
  rw [nlLt_eq, PyProof.Rows.ltCps_eq, decide_eq_true_eq]
  exact Iff.rfl
theorem str_ext {a b : Str} (h : a.cps.toList = b.cps.toList) : a = b := by
  cases a with | mk a => cases b with | mk b =>
  have : a = b := Array.toList_inj.mp h
  rw [this]
theorem uqS_ok {x : Str} : ∀ {l : List Str}, l.Pairwise StLt → (uqS x l).Pairwise StLt ∧ ∀ k, k ∈ uqS x l ↔ k = x ∨ k ∈ l
  | [], _ => ⟨by simp [uqS], fun k => by simp [uqS]⟩
  | y :: r, p => by
    obtain ⟨p1, p2⟩ := List.pairwise_cons.mp p
    unfold uqS
    split
    · rename_i h
      have h := nlLt_iff.mp h
      refine ⟨List.pairwise_cons.mpr ⟨fun z hz => ?_, p⟩, fun k => by simp⟩
      rcases List.mem_cons.mp hz with rfl | hz
      · exact h
      · exact List.lt_trans h (p1 z hz)
    · rename_i h
      have h : ¬ StLt x y := fun z => by rw [nlLt_iff.mpr z] at h; cases h
      split
      · rename_i h2
        have h2 := sBeq_iff.mp h2
        refine ⟨p, fun k => ?_⟩
        rw [h2]
        simp
      · rename_i h2
        have h2 : x ≠ y := fun z => by rw [sBeq_iff.mpr z] at h2; cases h2
        obtain ⟨a, b⟩ := uqS_ok (x := x) p2
        refine ⟨List.pairwise_cons.mpr ⟨fun z hz => ?_, a⟩, fun k => ?_⟩
        · rcases (b z).mp hz with rfl | hz
          · have h3 : y.cps.toList ≤ z.cps.toList := List.not_lt.mp h
            rcases List.le_iff_lt_or_eq.mp h3 with h4 | h4
            · exact h4
            · exact absurd (str_ext h4).symm h2
          · exact p1 z hz
        · rw [List.mem_cons, List.mem_cons, b k]
          constructor
          · rintro (z | z | z)
            · exact .inr (.inl z)
            · exact .inl z
            · exact .inr (.inr z)
          · rintro (z | z | z)
            · exact .inr (.inl z)
            · exact .inl z
            · exact .inr (.inr z)
theorem setsS_ok : ∀ l : List Str, (setsS l).Pairwise StLt ∧ ∀ k, k ∈ setsS l ↔ k ∈ l
  | [] => ⟨by simp [setsS], fun k => by simp [setsS]⟩
  | x :: r => by
    obtain ⟨a, b⟩ := setsS_ok r
    obtain ⟨c, d⟩ := uqS_ok (x := x) a
    exact ⟨c, fun k => by show k ∈ uqS x (setsS r) ↔ _; rw [d k, b k, List.mem_cons]⟩
theorem rising_le : ∀ {p : Str} {l : List Str}, risingS p l = true → ∀ y ∈ l, p.cps.toList ≤ y.cps.toList
  | _, [], _, y, h => by cases h
  | p, x :: r, h, y, hy => by
    have h : (!ltCps x.cps.toList p.cps.toList && risingS x r) = true := h
    rw [Bool.and_eq_true, PyProof.Rows.ltCps_eq] at h
    have h1 : p.cps.toList ≤ x.cps.toList := List.not_lt.mp (by simpa using h.1)
    rcases List.mem_cons.mp hy with rfl | hy
    · exact h1
    · exact List.le_trans h1 (rising_le h.2 y hy)
theorem rising_pw : ∀ {p : Str} {l : List Str}, risingS p l = true → (p :: l).Pairwise fun a b => a.cps.toList ≤ b.cps.toList
  | p, [], _ => by simp
  | p, x :: r, h => by
    refine List.pairwise_cons.mpr ⟨fun y hy => rising_le h y hy, ?_⟩
    have h : (!ltCps x.cps.toList p.cps.toList && risingS x r) = true := h
    rw [Bool.and_eq_true] at h
    exact rising_pw h.2
theorem sorted_pw : ∀ {l : List Str}, sortedS l = true → l.Pairwise fun a b => a.cps.toList ≤ b.cps.toList
  | [], _ => by simp
  | x :: r, h => rising_pw h
theorem pw_nodup : ∀ {l : List Str}, l.Pairwise StLt → l.Nodup := fun h => h.imp fun {a b} z e => by
  subst e
  exact List.lt_irrefl _ z
theorem rows_same {l m : List Str} (hl : l.Pairwise StLt) (hm : sortedS m = true) (nd : m.Nodup) (mem : ∀ k, k ∈ m ↔ k ∈ l) : m = l := by
  refine List.Perm.eq_of_pairwise (le := fun a b : Str => a.cps.toList ≤ b.cps.toList) (fun a b _ _ h1 h2 => str_ext (List.le_antisymm h1 h2)) (sorted_pw hm) (hl.imp fun {a b} z => List.le_of_lt z) ?_
  exact (List.perm_ext_iff_of_nodup nd (pw_nodup hl)).mpr mem
theorem rows_sameI {l m : List Int} (hl : l.Pairwise (· < ·)) (hm : m.Pairwise (· ≤ ·)) (nd : m.Nodup) (mem : ∀ k, k ∈ m ↔ k ∈ l) : m = l := by
  refine List.Perm.eq_of_pairwise (le := (· ≤ ·)) (fun a b _ _ h1 h2 => Int.le_antisymm h1 h2) hm (hl.imp fun {a b} z => Int.le_of_lt z) ?_
  exact (List.perm_ext_iff_of_nodup nd (hl.imp fun {a b} z e => by subst e; exact Int.lt_irrefl _ z)).mpr mem
section
variable {I : Type} [IOps I] {den : I → Int} {ca : Nat → Addr} {X : Cx} {G : Pg I} {r : Rho} {H : Hp}
theorem allS_ok : ∀ {xs : List (Val I)} {bs : List Str} {ys : List V}, allS xs = some bs → VRs den r H xs ys → ys = bs.map V.str
  | [], _, _, e, .nil => by cases e; rfl
  | .str b :: xs, bs, _, e, .cons h t => by
    unfold allS at e
    split at e
    · rename_i l hl
      cases e
      cases h
      rw [allS_ok hl t]
      rfl
    · cases e
  | .non :: _, _, _, e, _ => by cases e
  | .bl _ :: _, _, _, e, _ => by cases e
  | .int _ :: _, _, _, e, _ => by cases e
  | .tup _ :: _, _, _, e, _ => by cases e
  | .ref _ :: _, _, _, e, _ => by cases e
theorem strs_vr : ∀ l : List Str, VRs den r H (l.map (Val.str (I := I))) (l.map V.str)
  | [] => .nil
  | x :: l => .cons (.str x) (strs_vr l)
theorem ok_sset (L : Lawful I den) {d : Nat} {a : Expr} {ia : Ex I} {p p2 q pos : Pos} (hc : X.calm = true) (hg : Gl X "sorted") (hm : X.mg "sorted" = none) (hg2 : Gl X "set") (hm2 : X.mg "set" = none) (ha : PE X a (uE G den X ca d ia))
    (na : starEach [a] X.env = (false, eval a X.env) :: starEach [] X.env) : OkE G den X ca d (.Call (.Name "sorted" p) [.Call (.Name "set" p2) [a] [] q] [] pos) (.bif .sortedSet [ia]) := by
  refine ok_val (pe_imp (pe_sset hc hg hm hg2 hm2 ha na) ?_) (fun _ => rfl) (fun _ _ _ h => nomatch h)
  rintro σ H Q ⟨n, r, S, τ, w, S', m, er, e, f⟩
  cases n with
  | zero => cases e
  | succ n =>
    obtain ⟨vs, S1, e1, e⟩ := bind_ok (show ((evN G n).es d [ia] τ S).bind (fun vs S1 => bfV .sortedSet vs S1) = .ok w S' from e)
    cases n with
    | zero => cases e1
    | succ n =>
      obtain ⟨v, S2, e2, e1⟩ := bind_ok (show ((evN G n).e d ia τ S).bind _ = .ok vs S1 from e1)
      obtain ⟨us, S3, e3, e1⟩ := bind_ok e1
      cases e1
      cases n with
      | zero => cases e3
      | succ n =>
        cases e3
        refine ⟨n + 1, r, S, τ, v, S1, m, er, e2, fun r1 H1 z x1 m1 h1 => ?_⟩
        obtain ⟨⟨b, ys⟩, e4, e7⟩ := opt_ok (show b_sset v S1 = .ok w S' from e)
        obtain ⟨hl, e8⟩ := guard_ok e7
        clear e e7
        have hl := blt_lt hl
        obtain ⟨rfl, g⟩ := lstAt_ok e4
        obtain ⟨c, rfl, hq⟩ := vr_ref h1
        obtain ⟨ws, o1, o2⟩ := lst_ob m1 g hq
        have l1 := o2.length
        have f1 := f.ext x1 m
        refine ⟨c, rfl, ?_⟩
        split at e8
        · rename_i is e5
          obtain ⟨js, e6, e9⟩ := opt_ok e8
          have hw := allI_ok e5 o2
          subst hw
          obtain ⟨p1, p2⟩ := setsI_ok L e6
          refine .inl ⟨_, SqL.of o1, by simp at l1 ⊢; simp only at hl; omega, fun ns' p q1 q2 q3 hp => ?_⟩
          have : ns' = js.map den := rows_sameI p1 q1 q2 fun k => (q3 k).trans (p2 k).symm
          subst this
          exact f1.lst m1 (ints_vr js) e9 p hp
        · split at e8
          · rename_i ss e5
            have hw := allS_ok e5 o2
            subst hw
            obtain ⟨p1, p2⟩ := setsS_ok ss
            refine .inr ⟨_, SqL.of o1, by simp at l1 ⊢; simp only at hl; omega, fun ys p q1 q2 q3 hp => ?_⟩
            have : ys = setsS ss := rows_same p1 q1 q2 fun k => (q3 k).trans (p2 k).symm
            subst this
            exact f1.lst m1 (strs_vr _) e8 p hp
          · cases e8
section
variable {S : Sto I} {pins : List (Addr × Obj)} {σ : L2.St} {s : Shared}
/-- x in a sequence: which of its items are x -/
theorem mem_at2 (I0 : L2.Inv X pins σ H s) (L : Lawful I den) (m : SimX den X ca r S H) {A : Around} (hu : A.units + 60 < cLine) {x : Val I} {z : V} {v : Value} {ys : List (Val I)} {ws : List V} {its : List Value} {b : Bool}
    (h1 : VR den r H x z) (r1 : RelV z v) (h2 : VRs den r H ys ws) (r2 : Vals ws its) (e : memV S x ys = some b) :
    ∃ f : Value → Bool, (∀ y, y ∈ its.toArray → SeqAt.EqAt A.in1 s y v (f y)) ∧ (∀ (u : Value) (y : Val I), its[0]? = some u → ys[0]? = some y → eqF 40 S y x = some true → f u = true) := by
  obtain ⟨g1, g2⟩ := memV_items e
  have at_ : ∀ (j : Nat) (u : Value), its[j]? = some u → ∃ y c, ys[j]? = some y ∧ eqF 40 S y x = some c ∧ SeqAt.EqAt A.in1 s u v c := by
    intro j u hu'
    have l1 := r2.length
    have l2 := h2.length
    have hj : j < its.length := (List.getElem?_eq_some_iff.mp hu').1
    obtain ⟨y, hy⟩ : ∃ y, ys[j]? = some y := ⟨_, List.getElem?_eq_getElem (by omega)⟩
    obtain ⟨w0, hw, vw⟩ := h2.get hy
    obtain ⟨u', hu2, ru⟩ := r2.get hw
    rw [hu'] at hu2; cases hu2
    obtain ⟨c, hc⟩ := g1 j y hy
    exact ⟨y, c, hy, hc, eq_run I0 L m 40 A.in1 (by show A.units + 1 + 40 < cLine; omega) y x w0 z u v c vw h1 ru r1 hc⟩
  classical
  let f : Value → Bool := fun u => decide (∃ (j : Nat) (y : Val I), its[j]? = some u ∧ ys[j]? = some y ∧ eqF 40 S y x = some true)
  refine ⟨f, fun u hm => ?_, ?_⟩
  · have hm : u ∈ its := by simpa using hm
    obtain ⟨j, hj⟩ := List.mem_iff_getElem?.mp hm
    by_cases q : ∃ (j : Nat) (y : Val I), its[j]? = some u ∧ ys[j]? = some y ∧ eqF 40 S y x = some true
    · rw [show f u = true from decide_eq_true q]
      obtain ⟨i, y, i1, i2, i3⟩ := q
      obtain ⟨y', c, y1, y2, y3⟩ := at_ i u i1
      rw [i2] at y1; cases y1
      rw [i3] at y2; cases y2
      exact y3
    · rw [show f u = false from decide_eq_false q]
      obtain ⟨y', c, y1, y2, y3⟩ := at_ j u hj
      cases c with
      | false => exact y3
      | true => exact absurd ⟨j, y', hj, y1, y2⟩ q
  · exact fun u y h1 h2 h3 => decide_eq_true ⟨0, y, h1, h2, h3⟩
end
/-- xs.index(x), where it's the first -/
theorem u_index (L : Lawful I den) (hu : X.A.units + 60 < cLine) : MtR X "list.index" (uBM den X ca .index) := by
  intro pins s σ H x xs v us Q I0 rx rs ⟨r, S, va, w, vs, S', m, hx, hs, e, f⟩
  obtain ⟨⟨a, ys⟩, e1, e4⟩ := opt_ok (show m_index va vs S = .ok w S' from e)
  clear e
  obtain ⟨u, e2, e5⟩ := opt_ok e4
  clear e4
  obtain ⟨bb, e3, e4⟩ := opt_ok e5
  clear e5
  obtain ⟨rfl, g⟩ := lstAt_ok e1
  cases arg1_ok e2
  obtain ⟨b, rfl, q⟩ := vr_ref hx
  obtain ⟨y, rfl, h1⟩ := hs.one
  obtain ⟨ws, o1, o2⟩ := lst_ob m g q
  cases rx
  obtain ⟨u1, rfl, ru⟩ := rs.one
  cases ys with
  | nil => cases e4
  | cons y0 yr =>
    have e4 : (match eqF 40 S y0 u with
      | some true => Rs.ok (lit 0) S
      | _ => .bad) = .ok w S' := e4
    split at e4
    · rename_i e5
      cases e4
      obtain ⟨its, rv, ⟨⟨cls, dd, data, sl⟩, n, ho, hc2, hdn, hd⟩, hlen⟩ := I0.list (SqL.of (K := X.K) o1)
      simp only at hc2 hd
      subst hc2 hd
      obtain ⟨fn, f1, f2⟩ := mem_at2 (A := X.A) I0 L m hu h1 ru o2 rv e3
      cases o2 with
      | cons z1 z2 =>
        cases rv with
        | cons v1 v2 =>
          rename_i i0 it
          have h0 : fn i0 = true := f2 i0 y0 rfl rfl e5
          refine call_meets PySem.F.slot_list_index ⟨_, ho, rfl⟩ PySem.F.entry_list_index (PySem.F.args_list_index_2 _ _)
            (SeqAt.list_indexAt b (i0 :: it).toArray n dd sl u1 fn 0 (by simp) (by omega) h0 (fun m hm hmj => absurd hmj (Nat.not_lt_zero _))) ⟨ho, f1, ?_⟩
          exact ⟨.int (0 : Nat), H, I0.tok _, ⟨_, rfl⟩, f.same m (vr_lit L 0)⟩
    · cases e4
end
end Pz
set_option Elab.async false
set_option linter.all false
set_option maxRecDepth 100000
set_option maxHeartbeats 4000000
namespace Pz
open PySem L2
section
variable {I : Type} [IOps I] {den : I → Int} {ca : Nat → Addr} {X : Cx} {G : Pg I} {P : Program} {w : World}
/-! ### {k: v, ..} -/
def flatE : List (Ex I × Ex I) → List (Ex I)
  | [] => []
  | (k, v) :: r => k :: v :: flatE r
def flatV : List (V × V) → List V
  | [] => []
  | (k, v) :: r => k :: v :: flatV r
theorem tPairs_of {d : Nat} {σ : L2.St} : ∀ (l : List (Ex I × Ex I)) {n : Nat} {r : Rho} {S S' : Sto I} {τ : Env I} {vs : List (Val I)} {H : Hp} {Q : List (V × V) → Hp → Prop}, SimX den X ca r S H → ER den r H τ σ → (evN G n).es d (flatE l) τ S = .ok vs S' →
    (∀ r' H' ps, Ext r H r' H' → SimX den X ca r' S' H' → VRs den r' H' vs (flatV ps) → Q ps H') → tPairs (l.map fun p => (uE G den X ca d p.1, uE G den X ca d p.2)) σ H Q
  | [], n, r, S, S', τ, vs, H, Q, m, er, e, f => by
    cases n with
    | zero => cases e
    | succ n =>
      cases e
      exact f r H [] Ext.refl m .nil
  | (k, v) :: l, n, r, S, S', τ, vs, H, Q, m, er, e, f => by
    cases n with
    | zero => cases e
    | succ n =>
      obtain ⟨x, S1, e1, e⟩ := bind_ok (show ((evN G n).e d k τ S).bind _ = .ok vs S' from e)
      obtain ⟨us, S2, e2, e⟩ := bind_ok e
      cases e
      cases n with
      | zero => cases e2
      | succ n =>
        obtain ⟨y, S3, e3, e2⟩ := bind_ok (show ((evN G n).e d v τ S1).bind _ = .ok us S' from e2)
        obtain ⟨ws, S4, e4, e2⟩ := bind_ok e2
        cases e2
        refine ⟨n + 1, r, S, τ, x, S1, m, er, e1, fun r1 H1 z1 x1 m1 h1 => ⟨n, r1, S1, τ, y, S3, m1, er.mono x1, e3, fun r2 H2 z2 x2 m2 h2 => ?_⟩⟩
        exact tPairs_of l m2 ((er.mono x1).mono x2) e4 fun r3 H3 ps x3 m3 h3 => f r3 H3 _ ((x1.trans x2 m.live).trans x3 m.live) m3 (.cons ((h1.mono x2).mono x3) (.cons (h2.mono x3) h3))
theorem subDict_u {prog : Program} {w : World} {A : Around} {E : Value → Shared → Prop} {s : Shared} {pairs : List (Sem Value × Sem Value)} {Q : Addr → Shared → Prop} (hlen : pairs.length ≤ 15)
    (h : wpAny (model prog w) A (evalPairs pairs) (fun vs s₁ => wpAny (model prog w) A (forIn vs PUnit.unit fun (x : Value × Value) (_ : PUnit) => (do dictSet s.heap.objs.size x.1 x.2; pure (ForInStep.yield PUnit.unit) : Sem (ForInStep PUnit))) (fun _ s₂ => Q s.heap.objs.size s₂) E s₁) E
      { s with heap := s.heap.push { cls := .type "dict", data := .dict #[] } }) :
    wpAny (model prog w) A (subDict pairs) Q E s := by
  unfold subDict
  refine wpAny_bind (wpAny_alloc ?_)
  refine wpAny_bind (wpAny_holding ?_)
  rw [if_pos hlen]
  refine wpAny_bind (wpAny_mono h (fun vs s₁ h₁ => ?_) fun _ _ e => e)
  refine wpAny_holding ?_
  exact wpAny_bind (wpAny_mono h₁ (fun _ s₂ q => wpAny_pure (wpAny_pure q)) fun _ _ e => e)
theorem puts_u (L : Lawful I den) (hu : X.A.units + 60 < cLine) {a : Nat} {D : Addr} {pins : List (Addr × Obj)} {σ : L2.St} {E : Value → Shared → Prop} : ∀ {ps : List (V × V)} {us : List (Value × Value)} {vs : List (Val I)} {r : Rho} {S S' : Sto I} {H : Hp} {s : Shared} {N : Hp → Prop}, VV ps us → VRs den r H vs (flatV ps) → L2.Inv X pins σ H s → SimX den X ca r S H → r a = some D → putsV (.ref a) vs S = some S' →
    (∀ H', Ext r H r H' → SimX den X ca r S' H' → N H') → wpAny (model X.prog X.w) X.A (forIn us PUnit.unit fun (x : Value × Value) (_ : PUnit) => (do dictSet D x.1 x.2; pure (ForInStep.yield PUnit.unit) : Sem (ForInStep PUnit))) (fun _ s' => ∃ H', L2.Inv X pins σ H' s' ∧ N H') E s
  | [], _, vs, r, S, S', H, s, N, .nil, hv, I0, m, q, e, f => by
    cases hv
    cases e
    rw [List.forIn_nil]
    exact wpAny_pure ⟨H, I0, f H Ext.refl m⟩
  | (y, z) :: ps, (u, w) :: us, vs, r, S, S', H, s, N, .cons hr ht, hv, I0, m, q, e, f => by
    cases hv with
    | cons h1 hv =>
      cases hv with
      | cons h2 hv =>
        rename_i k v vs
        have e : (match putD S (.ref a) k v with | some S' => putsV (.ref a) vs S' | .none => .none) = some S' := e
        split at e
        · rename_i S1 e1
          obtain ⟨kvs, lk, g, e1'⟩ := putD_ok e1
          rw [List.forIn_cons]
          have D1 := uds_ok (den := den) (X := X) (ca := ca) L (Y := X) rfl rfl hu
          have D2 := (uds_ok (den := den) (X := X) (ca := ca) L (Y := X) rfl rfl hu).run pins s σ H D y z u w (fun H1 => Ext r H r H1 ∧ SimX den X ca r S1 H1) I0 hr.1 hr.2 ⟨r, S, a, k, v, S1, m, q, ⟨kvs, lk, g⟩, h1, h2, e1, fun H' x m' => ⟨x, m'⟩⟩
          refine wpAny_bind (wpAny_bind (thnF D2 fun _ s1 ⟨H1, I1, x1, m1⟩ => wpAny_pure ?_))
          exact puts_u L hu ht (hv.mono x1) I1 m1 q e fun H' x' m' => f H' (x1.trans x' m.live) m'
        · cases e
theorem ok_dic0 {d : Nat} {pos : Pos} : OkE G den X ca d (.Dict [] [] pos) (.dic []) := by
  refine ok_val (pe_imp pe_dnewK ?_) (fun _ => rfl) (fun _ _ _ h => nomatch h)
  rintro σ H Q ⟨n, r, S, τ, w, S', m, er, e, f⟩ p hp
  cases n with
  | zero => cases e
  | succ n =>
    obtain ⟨x, S1, e1, e⟩ := bind_ok (show e_dic (evN G n) d [] τ S = .ok w S' from e)
    obtain ⟨vs, S2, e2, e⟩ := bind_ok e
    obtain ⟨S3, e3, e⟩ := opt_ok e
    cases e
    cases n with
    | zero => cases e2
    | succ n =>
      cases e2
      cases e3
      unfold fresh at e1
      split at e1
      · rename_i hz
        cases e1
        obtain ⟨r2, m2, x2, rn⟩ := m.laid (o := .dic [] 0) (u := .dK []) hp (blt_lt hz) (noTup_dK []) fun r' H' eH sub _ ms => .inl ⟨[], by rw [eH]; exact upd_same, .nil⟩
        exact f _ _ _ x2 m2 (.ref rn)
      · cases e1
theorem ok_dic (L : Lawful I den) (hu : X.A.units + 60 < cLine) {d : Nat} {pos : Pos} {keys : List (Option Expr)} {values : List Expr} {l : List (Ex I × Ex I)} (h : PPs X pos keys values (l.map fun p => (uE G den X ca d p.1, uE G den X ca d p.2))) (hall : keys.all (·.isSome) = true) (hl : keys.length = values.length) (h0 : keys ≠ [])
    (h15 : keys.length ≤ 15) : OkE G den X ca d (.Dict keys values pos) (.dic (flatE l)) := by
  refine ok_val ⟨fun pins s σ H Q I0 hq => ?_⟩ (fun _ => rfl) (fun _ _ _ h => nomatch h)
  obtain ⟨n, r, S, τ, w, S', m, er, e, f⟩ := hq
  cases n with
  | zero => cases e
  | succ n =>
    obtain ⟨x, S1, e1, e⟩ := bind_ok (show e_dic (evN G n) d (flatE l) τ S = .ok w S' from e)
    obtain ⟨vs, S2, e2, e⟩ := bind_ok e
    obtain ⟨S3, e3, e⟩ := opt_ok e
    cases e
    unfold fresh at e1
    split at e1
    · rename_i hz
      cases e1
      have hn := pairTrees_length keys values X.env pos hall hl
      have hn0 : pairTrees keys values X.env pos ≠ [] := fun z => by
        rw [z] at hn
        exact h0 (List.length_eq_zero_iff.mp hn.symm)
      have hp := I0.hok.fresh (Nat.le_refl s.heap.objs.size)
      have I1 := I0.laid (a := s.heap.objs.size) (o := .dK []) (h' := s.heap.push { cls := .type "dict", data := .dict #[] }) (t' := s.toks) (fun _ _ q => Heap.get?_push_of_some _ q) (Nat.le_refl _) (dk_empty s.heap I0.big)
      obtain ⟨r2, m2, x2, rn⟩ := m.laid (o := .dic [] 0) (u := .dK []) hp (blt_lt hz) (noTup_dK []) fun r' H' eH sub _ ms => .inl ⟨[], by rw [eH]; exact upd_same, .nil⟩
      rw [arm_eval_Dict, zip_pairTrees keys values X.env pos hall hl, dictDisplay_pairs (pairTrees keys values X.env pos) hn0 (by omega)]
      refine wpAny_bind (wpAny_standAt (wpAny_bind (subDict_u (Q := fun d s' => wpAny (model X.prog X.w) X.A (pure (Value.ref d)) (EP X pins σ Q) X.xe s') (by omega) ?_)))
      refine thn (h.run pins _ σ _ (fun ps H1 => ∃ r1, SimX den X ca r1 S2 H1 ∧ Ext r2 (upd H s.heap.objs.size (.dK [])) r1 H1 ∧ VRs den r1 H1 vs (flatV ps)) I1 (tPairs_of l m2 (er.mono x2) e2 fun r' H' ps x' m' h' => ⟨r', m', x', h'⟩)) fun us s1 ⟨ps, H1, J1, rel, r1, m1, x1, hv⟩ => ?_
      refine thn (puts_u L hu (N := fun H2 => Q (.ref s.heap.objs.size) H2) rel hv J1 m1 (x1.sub _ _ rn) e3 fun H2 x3 m3 => f _ _ _ ((x2.trans x1 m.live).trans x3 m.live) m3 (.ref (x1.sub _ _ rn))) fun _ s2 ⟨H2, J2, q⟩ => wpAny_pure ⟨.ref _, H2, J2, rfl, q⟩
    · cases e1
theorem pps_u {d : Nat} {pos : Pos} {k v : Expr} {ks : List (Option Expr)} {vs : List Expr} {ik iv : Ex I} {l : List (Ex I × Ex I)} (hk : PE X k (uE G den X ca d ik)) (hv : PE X v (uE G den X ca d iv)) (hr : PPs X pos ks vs (l.map fun p => (uE G den X ca d p.1, uE G den X ca d p.2))) :
    PPs X pos (some k :: ks) (v :: vs) (((ik, iv) :: l).map fun p => (uE G den X ca d p.1, uE G den X ca d p.2)) := pps_cons hk hv hr
/-! ### the module's own table -/
structure TabK (K : PySem.W.Frag) (w : World) (a : Addr) (tab : List (Str × Int)) : Prop where
  lo : (a == sysModules) = false
  at_ : ∃ es n, K.lookup a = some ⟨.type "dict", none, .dict es n, #[]⟩ ∧ PySem.W.KeysLit w.params es.toList ∧ (∀ x i, lookI x tab = some i → ∃ t, PySem.W.nsIn K a x = some (some (.int i t))) ∧ ∀ x, lookI x tab = none → PySem.W.nsIn K a x = some none
theorem asStr_ok {v : Val I} {s : Str} (h : asStr v = some s) : v = .str s := by
  cases v with
  | str t => cases h; rfl
  | _ => cases h
theorem ok_tix (L : Lawful I den) {d : Nat} {x : Str} {a : Addr} {b : Expr} {ib : Ex I} {p pos : Pos} (T : TabK X.K X.w a G.tab) (hg : Gl X x) (hm : X.mg x = some (.ref a)) (hd : (x == ("__debug__" : Str)) = false) (hb : PE X b (uE G den X ca d ib)) (hs : PlainIx b) : OkE G den X ca d (.Subscript (.Name x p) b pos) (.tix ib) := by
  refine ok_val (pe_imp (pe_ix ix_kdict (pe_glob (v := .ref a) hg hm rfl hd) hb hs) ?_) (fun _ => rfl) (fun _ _ _ h => nomatch h)
  rintro σ H Q ⟨n, r, S, τ, w, S', m, er, e, f⟩
  cases n with
  | zero => cases e
  | succ n =>
    obtain ⟨v, S1, e1, e⟩ := bind_ok (show e_tix G (evN G n) d ib τ S = .ok w S' from e)
    obtain ⟨z, e2, e⟩ := opt_ok e
    obtain ⟨i, e3, e⟩ := opt_ok e
    cases e
    cases asStr_ok e2
    obtain ⟨es, k, h1, h2, h3, _⟩ := T.at_
    obtain ⟨t, h3⟩ := h3 z i e3
    refine ⟨n, r, S, τ, _, _, m, er, e1, fun r1 H1 zv x1 m1 hv => ?_⟩
    cases hv
    exact ⟨a, z, .int i, rfl, rfl, ⟨es, k, _, h1, h2, h3, ⟨t, rfl⟩⟩, f _ _ _ x1 m1 (vr_lit L i)⟩
theorem op_intab {a : Addr} {tab : List (Str × Int)} (T : TabK X.K X.w a tab) : OpR X (compareOp .In) (fun x y H Q => ∃ z, x = .str z ∧ y = .ref a ∧ Q (.bl (lookI z tab).isSome) H) := by
  rintro pins s σ H x y v u Q I0 rx ry ⟨z, rfl, rfl, q⟩
  obtain ⟨t, rfl⟩ := rx
  cases ry
  obtain ⟨es, k, h1, h2, h3, h4⟩ := T.at_
  have hm := PySem.W.mapOf_K (prog := X.prog) (w := X.w) I0.kIn h1 h2
  refine wpAny_in_of (strKind_is X.prog X.w z t) T.lo hm ?_
  cases h : lookI z tab with
  | none =>
    rw [PySem.W.find_K h1 (h4 z h)]
    rw [h] at q
    exact ⟨.bl false, H, I0.tok _, rfl, q⟩
  | some i =>
    obtain ⟨t', h5⟩ := h3 z i h
    rw [PySem.W.find_K h1 h5]
    rw [h] at q
    exact ⟨.bl true, H, I0.tok _, rfl, q⟩
theorem ok_tin {d : Nat} {x : Str} {a : Addr} {b : Expr} {ib : Ex I} {p pos : Pos} (T : TabK X.K X.w a G.tab) (hg : Gl X x) (hm : X.mg x = some (.ref a)) (hd : (x == ("__debug__" : Str)) = false) (hb : PE X b (uE G den X ca d ib)) : OkE G den X ca d (.Compare b [.In] [.Name x p] pos) (.tin ib) := by
  have go : ∀ {n : Nat} {τ : Env I} {S S' : Sto I} {w : Val I}, (evN G n).e d (.tin ib) τ S = .ok w S' → ∃ k z, n = k + 1 ∧ (evN G k).e d ib τ S = .ok (.str z) S' ∧ w = .bl (lookI z G.tab).isSome := by
    intro n τ S S' w e
    cases n with
    | zero => cases e
    | succ n =>
      obtain ⟨v, S1, e1, e⟩ := bind_ok (show e_tin G (evN G n) d ib τ S = .ok w S' from e)
      obtain ⟨z, e2, e⟩ := opt_ok e
      cases e
      cases asStr_ok e2
      exact ⟨n, z, rfl, e1, rfl⟩
  refine ⟨pe_imp (pe_cmpR (op_intab T) hb (pe_glob (v := .ref a) hg hm rfl hd) rfl) ?_, pt_imp (pt_cmpR (op_intab T) hb (pe_glob (v := .ref a) hg hm rfl hd) rfl) ?_, fun _ _ _ h => nomatch h⟩
  · rintro σ H Q ⟨n, r, S, τ, w, S', m, er, e, f⟩
    obtain ⟨k, z, rfl, e1, rfl⟩ := go e
    refine ⟨k, r, S, τ, _, S', m, er, e1, fun r1 H1 zv x1 m1 hv => ?_⟩
    cases hv
    exact ⟨z, rfl, rfl, f _ _ _ x1 m1 (.bl _)⟩
  · rintro σ H Q ⟨n, r, S, τ, w, b', S', m, er, e, eb, f⟩
    obtain ⟨k, z, rfl, e1, rfl⟩ := go e
    obtain rfl : (lookI z G.tab).isSome = b' := Option.some.inj eb
    refine ⟨k, r, S, τ, _, S', m, er, e1, fun r1 H1 zv x1 m1 hv => ?_⟩
    cases hv
    exact ⟨z, rfl, rfl, _, rfl, f _ _ x1 m1⟩
/-! ### isinstance -/
def dV (ca : Nat → Addr) : DT → Value
  | .non => .type "NoneType" | .bool => .type "bool" | .int => .type "int" | .str => .type "str" | .tuple => .type "tuple" | .list => .type "list" | .dict => .type "dict" | .cls c => .ref (ca c)
def tyN : Ty → Option String
  | .int => some "int" | .bool => some "bool" | .str => some "str" | .tuple => some "tuple" | .list => some "list" | .dict => some "dict" | .cls _ _ => none
def tV (ca : Nat → Addr) : Ty → Value
  | .cls c _ => .ref (ca c)
  | t => .type ((tyN t).getD "")
def tVV (ca : Nat → Addr) : Ty → V
  | .cls c _ => .ref (ca c)
  | t => .ty ((tyN t).getD "")
theorem tv_rel (t : Ty) : RelV (tVV ca t) (tV ca t) := by cases t <;> rfl
structure OwnF (K : PySem.W.Frag) (C : Addr) : Prop where
  cl : Cls K C
  ha : PySem.W.findIn K (.ref C) "__class__" = some (some (.builtin "object.__class__"))
  hn : PySem.W.specialIn K (.builtin "object.__class__") "__get__" = some (some (.builtin "getset_descriptor.__get__"))
  htk : PySem.W.takesIn K (.builtin "object.__class__") = some true
  hm : PySem.W.mroIn K C (.type "object") = some true
def tyFit (nc : Nat) : Ty → Bool
  | .cls _ n => Nat.ble n nc
  | _ => true
structure KitF (K : PySem.W.Frag) (ca : Nat → Addr) (nc : Nat) : Prop where
  own : ∀ c, OwnF K (ca c)
  kit : ∀ t T b, tyFit nc T = true → DT.sub t T = some b → PySem.W.kitOne K (dV ca t) (tV ca T) = some b
theorem kit_u {nc : Nat} {pins : List (Addr × Obj)} {σ : L2.St} {H : Hp} {s : Shared} {r : Rho} {S : Sto I} (F : KitF X.K ca nc) (I0 : L2.Inv X pins σ H s) (m : SimX den X ca r S H) {v : Val I} {z : V} {u : Value} {t : DT} (hv : VR den r H v z) (rz : RelV z u) (e : dty S v = some t) :
    ∃ P : Heap → Prop, PySem.W.KitX X.K u (dV ca t) P ∧ P s.heap ∧ u ≠ .builtin "__main__.__loader__#opaque" := by
  cases hv with
  | non => cases e; exact kit_of I0 rz (.base .non)
  | bl b => cases e; exact kit_of I0 rz (.base (.bl b))
  | int i => cases e; exact kit_of I0 rz (.base (.int _))
  | str x => cases e; exact kit_of I0 rz (.base (.str x))
  | tup h1 h2 => cases e; exact kit_of I0 rz (.base (.tup h1))
  | ref q =>
    rename_i a b
    have e : (match S.get a with
      | some (.lst _) => some .list
      | some (.fls _) => some .list
      | some (.dic _ _) => some .dict
      | some (.ins c _) => some (.cls c)
      | none => none) = some t := e
    cases g : S.get a with
    | none => rw [g] at e; cases e
    | some o =>
      rw [g] at e
      obtain ⟨b1, z1, ob⟩ := m.ob _ _ g
      rw [q] at z1; cases z1
      cases o with
      | lst xs => cases e; obtain ⟨ys, o1, o2⟩ := ob; exact kit_of I0 rz (.base (.lst o1))
      | fls xs => cases e; obtain ⟨o, ys, o1, o2⟩ := ob; exact kit_of I0 rz (.base (.frz o1))
      | dic kvs lk =>
        cases e
        cases rz
        have z : ∃ o, s.heap.get? b = some o ∧ o.cls = .type "dict" := by
          rcases dat_of I0 m g q with ⟨ws, vs, h1, h2, h3, h4, h5⟩ | ⟨ka, h1, h2, h3, h4⟩
          · exact h3.typeIs
          · exact h2.typeIs
        exact ⟨_, PySem.W.kitx_dict, z, fun z => nomatch z⟩
      | ins c fs =>
        cases e
        obtain ⟨dx, gs, o1, o2⟩ := ob
        have O := F.own c
        exact kit_of I0 rz (.base (.ins o1 O.cl O.ha O.hn O.htk O.hm))
def rIsU (den : I → Int) (X : Cx) (ca : Nat → Addr) (T : Ty) : List V → Hp → VK → Prop := fun xs H Q => ∃ (z : V) (r : Rho) (S : Sto I) (v : Val I) (b : Bool), xs = [z, tVV ca T] ∧ SimX den X ca r S H ∧ VR den r H v z ∧ isTys S v [T] = some b ∧ Q (.bl b) H
theorem c_isi {nc : Nat} (F : KitF X.K ca nc) (T : Ty) (hT : tyFit nc T = true) : CallR X (.builtin "isinstance") (rIsU den X ca T) := by
  rintro pins s σ H xs us Q I0 r ⟨z, ρ, S, v, b, rfl, m, hv, e, q⟩
  obtain ⟨u1, u2, rfl, r1, r2⟩ := r.two
  have e2 : u2 = tV ca T := by
    cases T <;> exact r2
  subst e2
  unfold isTys at e
  split at e
  · rename_i t ht
    have e : (match t.sub T with | some true => some true | some false => some false | none => none) = some b := e
    have e3 : t.sub T = some b := by
      cases h : t.sub T with
      | none => rw [h] at e; cases e
      | some c => rw [h] at e; cases c <;> exact e
    obtain ⟨P, Z, p, hx⟩ := kit_u F I0 m hv r1 ht
    exact PySem.W.kia_one Z I0.kIn p (F.kit _ _ _ hT e3) hx fun tk => ⟨.bl b, H, I0.tok tk, rfl, q⟩
  · cases e
theorem ok_isi {nc : Nat} (F : KitF X.K ca nc) {d : Nat} {T : Ty} (hT : tyFit nc T = true) {a c : Expr} {ia : Ex I} {p pos : Pos} (hg : Gl X "isinstance") (hm : X.mg "isinstance" = none) (ha : PE X a (uE G den X ca d ia)) (hc : PE X c (tC (tVV ca T)))
    (he : starEach [a, c] X.env = (false, eval a X.env) :: starEach [c] X.env) (he2 : starEach [c] X.env = (false, eval c X.env) :: starEach [] X.env) : OkE G den X ca d (.Call (.Name "isinstance" p) [a, c] [] pos) (.isi ia [T]) := by
  refine ok_val (pe_imp (pe_callB (c_isi (den := den) F T hT) hg hm (by decide +kernel) (pa_cons ha (pa_cons hc pa_nil he2) he) (by decide) (by decide) he (by rw [he2]; rfl)) ?_) (fun _ => rfl) (fun _ _ _ h => nomatch h)
  rintro σ H Q ⟨n, r, S, τ, w, S', m, er, e, f⟩
  cases n with
  | zero => cases e
  | succ n =>
    obtain ⟨v, S1, e1, e⟩ := bind_ok (show e_isi (evN G n) d ia [T] τ S = .ok w S' from e)
    obtain ⟨k, e2, e⟩ := opt_ok e
    cases e
    exact ⟨n, r, S, τ, v, _, m, er, e1, fun r1 H1 zv x1 m1 hv => ⟨zv, r1, _, v, k, rfl, m1, hv, e2, f _ _ _ x1 m1 (.bl k)⟩⟩
end
end Pz
set_option Elab.async false
set_option linter.all false
set_option maxRecDepth 100000
set_option maxHeartbeats 4000000
namespace Pz
open PySem L2
/-! ### what must be seen of the text -/
def notStar : Expr → Bool
  | .Starred _ _ => false
  | _ => true
theorem star_ne {e : Expr} {es : List Expr} {env : PySem.Env} (h : notStar e = true) : starEach (e :: es) env = (false, eval e env) :: starEach es env := by
  cases e <;> first | rfl | cases h
theorem star_any {pos : Pos} {env : PySem.Env} : ∀ {es : List Expr}, es.all notStar = true → (backTo pos (starEach es env)).any (·.1) = false
  | [], _ => rfl
  | e :: es, h => by
    rw [List.all_cons, Bool.and_eq_true] at h
    rw [star_ne h.1]
    show (false || (backTo pos (starEach es env)).any (·.1)) = false
    rw [star_any h.2]
    rfl
theorem star_all {pos : Pos} {env : PySem.Env} : ∀ {es : List Expr}, es.all notStar = true → (backTo pos (starEach es env)).all (fun x => !x.1) = true
  | [], _ => rfl
  | e :: es, h => by
    rw [List.all_cons, Bool.and_eq_true] at h
    rw [star_ne h.1]
    show (true && (backTo pos (starEach es env)).all (fun x => !x.1)) = true
    rw [star_all h.2]
    rfl
theorem few_ok {pos : Pos} {env : PySem.Env} {es : List Expr} (h : es.all notStar = true) (hl : es.length < 29) : ((backTo pos (starEach es env)).all (fun x => !x.1) && (backToKw pos (keywordEach [] env)).all (fun x => x.1.isSome)
      && decide (es.length + ([] : List Keyword).length + (if ([] : List Keyword).isEmpty then 0 else 1) < 30)) = true := by
  rw [star_all h]
  have : decide (es.length + ([] : List Keyword).length + (if ([] : List Keyword).isEmpty then 0 else 1) < 30) = true := decide_eq_true (by simp; omega)
  rw [this]
  rfl
def attrOk : Expr → Bool
  | .Call (.Name _ _) [] [] _ => false
  | _ => true
theorem attr_ok {o : Expr} {m : Str} {env : PySem.Env} {x : Sem Value} (h : attrOk o = true) : attributeBase o m env x = x := by
  unfold attributeBase
  split
  · cases h
  · rfl
def ixOk : Expr → Bool
  | .Slice _ _ _ _ => false
  | _ => true
theorem plain_ix {b : Expr} (h : ixOk b = true) : PlainIx b := by
  intro o i
  cases b <;> first | rfl | cases h
def noComp : Expr → Bool
  | .ListComp _ _ _ _ => false
  | .SetComp _ _ _ _ => false
  | .DictComp _ _ _ _ _ => false
  | _ => true
theorem swaps_no {e : Expr} {t : Option Expr} {l : Nat} {env : PySem.Env} (h : noComp e = true) : swapsWith e t l env = pure false := by
  cases e <;> first | rfl | cases h
def noSet : Expr → Bool
  | .Set _ _ _ => false
  | _ => true
theorem folded_no {e : Expr} {env : PySem.Env} (h : noSet e = true) : ∀ x, foldedSetIterable e env x = pure x := by
  intro x
  cases e <;> first | rfl | cases h
theorem isTrue_no {e : Expr} {env : PySem.Env} (h1 : ∀ op es p, e ≠ .BoolOp op es p) : True := trivial
/-! ### the program's form from the text -/
inductive GK where | int (i : Int) | str (s : Str) | fn (i : Nat) | cls (c : Nat) | tab
structure Gam where
  names : List Str
  sc : Scope
  inFn : Bool
  glob : List (Str × GK)
  free : List Str
  flds : List Str
  ncls : Nat
  sigs : List (Str × Nat × List Str)
def Gam.kind (Γ : Gam) (x : Str) : Option NameKind := Γ.sc.names.lookup x
def Gam.vis (Γ : Gam) (x : Str) : Bool := match Γ.kind x with
  | some .local => true | some .cell => true | some .free => true | _ => false
/-- what may be stored to -/
def Gam.sto (Γ : Gam) (x : Str) : Bool := match Γ.kind x with
  | some .local => true | some .cell => Γ.inFn | _ => false
def Gam.gl (Γ : Gam) (x : Str) : Bool := match Γ.kind x with
  | some .globalImplicit => true | _ => false
def slotOf (x : Str) : List Str → Nat → Option Nat
  | [], _ => none
  | y :: r, i => match sBeq y x with
    | true => some i
    | false => slotOf x r (i + 1)
theorem slotOf_ok {x : Str} : ∀ {l : List Str} {i j : Nat}, slotOf x l i = some j → ∃ k, j = i + k ∧ l[k]? = some x
  | [], _, _, e => by cases e
  | y :: r, i, j, e => by
    unfold slotOf at e
    split at e
    · rename_i h
      cases e
      exact ⟨0, rfl, by rw [sBeq_iff.mp h]; rfl⟩
    · obtain ⟨k, h1, h2⟩ := slotOf_ok e
      exact ⟨k + 1, by omega, by simpa using h2⟩
def lookG (x : Str) : List (Str × GK) → Option GK
  | [] => none
  | (y, g) :: r => match sBeq y x with
    | true => some g
    | false => lookG x r
theorem lookG_mem {x : Str} {g : GK} : ∀ {l : List (Str × GK)}, lookG x l = some g → (x, g) ∈ l
  | [], e => by cases e
  | (y, h) :: r, e => by
    unfold lookG at e
    split at e
    · rename_i q
      cases e
      rw [sBeq_iff.mp q]
      exact List.mem_cons_self ..
    · exact List.mem_cons_of_mem _ (lookG_mem e)
def hasS (x : Str) (l : List Str) : Bool := l.any fun y => sBeq y x
theorem hasS_mem {x : Str} {l : List Str} (h : hasS x l = true) : x ∈ l := by
  obtain ⟨y, h1, h2⟩ := List.any_eq_true.mp h
  rw [← sBeq_iff.mp h2]
  exact h1
def lookSig (x : Str) : List (Str × Nat × List Str) → Option (Nat × List Str)
  | [] => none
  | (y, q) :: r => match sBeq y x with
    | true => some q
    | false => lookSig x r
theorem lookSig_mem {x : Str} {g : Nat × List Str} : ∀ {l : List (Str × Nat × List Str)}, lookSig x l = some g → (x, g) ∈ l
  | [], e => by cases e
  | (y, h) :: r, e => by
    unfold lookSig at e
    split at e
    · rename_i q
      cases e
      rw [sBeq_iff.mp q]
      exact List.mem_cons_self ..
    · exact List.mem_cons_of_mem _ (lookSig_mem e)
def kwNames : List Keyword → Option (List Str)
  | [] => some []
  | ⟨some x, _, _⟩ :: r => match kwNames r with
    | some l => some (x :: l)
    | none => none
  | ⟨none, _, _⟩ :: _ => none
/-- the a of [set(a)] -/
def setArg : List Expr → Option Expr
  | [.Call (.Name y _) [a] [] _] => match sBeq y "set" with
    | true => some a
    | false => none
  | _ => none
/-- where each parameter stands among the keywords -/
def kwIx : List Str → List Str → Option (List Nat)
  | [], _ => some []
  | p :: ps, ks => match slotOf p ks 0, kwIx ps ks with
    | some j, some l => some (j :: l)
    | _, _ => none
def ndS : List Str → Bool
  | [] => true
  | x :: l => !(hasS x l) && ndS l
def kwPerm (ps ks : List Str) : Option (List Nat) := match ndS ks && (ks.all fun k => hasS k ps) && !ps.isEmpty with
  | true => kwIx ps ks
  | false => none
def pickL {A : Type} (l : List A) (p : List Nat) : List A := p.filterMap fun i => l[i]?
def dbg (x : Str) : Bool := (x == ("__debug__" : Str)) || (x == ("__classdict__" : Str))
theorem dbg_no {x : Str} (h : dbg x = false) : (x == ("__debug__" : Str)) = false ∧ (x == ("__classdict__" : Str)) = false := by
  unfold dbg at h
  rw [Bool.or_eq_false_iff] at h
  exact h
def bopO : Operator → Option Bop
  | .Add => some .add | .Sub => some .sub | .Mult => some .mul | .FloorDiv => some .fdv | .Mod => some .mod | .Pow => some .pow | _ => none
theorem bopO_ok {op : Operator} {o : Bop} (h : bopO op = some o) : op = opOf o := by
  cases op <;> cases h <;> rfl
def copO : CmpOp → Cop
  | .Eq => .eq | .NotEq => .ne | .Lt => .lt | .LtE => .le | .Gt => .gt | .GtE => .ge | .Is => .is | .IsNot => .isnot | .In => .in | .NotIn => .notin
theorem copO_ok (op : CmpOp) : op = cmpOf (copO op) := by cases op <;> rfl
theorem mth_form {o : Expr} {m : Str} {apos pos : Pos} {es : List Expr} {env : PySem.Env} (hbase : attributeBase o m env (eval o env) = eval o env) (hform : methodCallForm (es.length + ([] : List Keyword).length) (backTo pos (starEach es env)) (backToKw pos (keywordEach [] env)) = true) (hline : (apos.endLine == pos.line) = true) :
    eval (.Call (.Attribute o m apos) es [] pos) env = (do
      let ov ← eval o env
      standAt apos.atName
      let (f, first) ← holding [ov] (getMethod ov m (do return (← importBound o env).getD true))
      callWith pos f first (backTo pos (starEach es env)) (backToKw pos (keywordEach [] env))) := by
  rw [arm_eval_Call, hbase]
  unfold methodCall
  rw [hform]
  unfold calleeOf methodCallPos
  rw [hline]
  rfl
section
variable {I : Type} [IOps I]
/-- the block's scope as the text's function sees it -/
def Gam.blk (Γ : Gam) (scope : Scope) : Gam := { Γ with sc := relS scope Γ.sc, inFn := false }
/-- the slots of a block's own names -/
def ownOf (names : List Str) : List (Str × NameKind) → List (Str × Nat)
  | [] => []
  | (x, k) :: r => match (k == .local || k == .cell), slotOf x names 0 with
    | true, some i => (x, i) :: ownOf names r
    | _, _ => ownOf names r
def kindIs (k : Option NameKind) : NameKind → Bool := fun q => match k with | some r => r == q | none => false
/-- what BlkOk asks -/
def blkB (Γ : Gam) (scope : Scope) : Bool :=
  (scope.kind == .function) && (scope.names.all fun y => scope.names.lookup y.1 == some y.2) &&
  (scope.names.all fun y => !(y.2 == .free) || (kindIs (Γ.sc.names.lookup y.1) .cell || kindIs (Γ.sc.names.lookup y.1) .free)) &&
  (scope.names.all fun y => !(y.2 == .local || y.2 == .cell) || hasS y.1 ((ownOf Γ.names scope.names).map (·.1)) || !(hasS y.1 Γ.names))
theorem ownOf_ix {names : List Str} : ∀ {l : List (Str × NameKind)} {p : Str × Nat}, p ∈ ownOf names l → names[p.2]? = some p.1
  | [], _, h => by cases h
  | (x, k) :: r, p, h => by
    unfold ownOf at h
    split at h
    · rename_i i h1 h2
      rcases List.mem_cons.mp h with rfl | h
      · obtain ⟨j, e1, e2⟩ := slotOf_ok h2
        have e1 : i = j := by omega
        rw [e1]
        exact e2
      · exact ownOf_ix h
    · exact ownOf_ix h
theorem hasS_of {x : Str} {l : List Str} (h : x ∈ l) : hasS x l = true := List.any_eq_true.mpr ⟨x, h, sBeq_iff.mpr rfl⟩
theorem kindIs_ok {k : Option NameKind} {q : NameKind} (h : kindIs k q = true) : k = some q := by
  unfold kindIs at h
  split at h
  · rw [beq_iff_eq.mp h]
  · cases h
theorem blkB_ok {Γ : Gam} {scope : Scope} (h : blkB Γ scope = true) : BlkOk Γ.names Γ.sc scope (ownOf Γ.names scope.names) := by
  unfold blkB at h
  simp only [Bool.and_eq_true] at h
  obtain ⟨⟨⟨h1, h2⟩, h3⟩, h4⟩ := h
  refine ⟨beq_iff_eq.mp h1, fun y hy => ?_, fun p hp => ownOf_ix hp, fun y hy e => ?_, fun y hy e => ?_⟩
  · exact beq_iff_eq.mp (List.all_eq_true.mp h2 y hy)
  · have q := List.all_eq_true.mp h3 y hy
    rw [e] at q
    simp only [beq_self_eq_true, Bool.not_true, Bool.false_or, Bool.or_eq_true] at q
    rcases q with q | q
    · exact .inl (kindIs_ok q)
    · exact .inr (kindIs_ok q)
  · have q := List.all_eq_true.mp h4 y hy
    have e2 : (y.2 == NameKind.local || y.2 == NameKind.cell) = true := by
      rcases e with e | e <;> rw [e] <;> rfl
    rw [e2] at q
    simp only [Bool.not_true, Bool.false_or, Bool.or_eq_true] at q
    rcases q with q | q
    · exact .inl (hasS_mem q)
    · right
      intro z
      rw [hasS_of z] at q
      cases q
-- targets
mutual
def cG : Nat → Gam → Expr → Option Tg
  | 0, _, _ => none
  | n + 1, Γ, e => match e with
    | .Name x _ => match Γ.sto x, slotOf x Γ.names 0 with
      | true, some i => some (.nm i)
      | _, _ => none
    | .Tuple es _ _ => match es.all notStar, cGs n Γ es with
      | true, some gs => some (.tup gs)
      | _, _ => none
    | _ => none
def cGs : Nat → Gam → List Expr → Option (List Tg)
  | 0, _, _ => none
  | _ + 1, _, [] => some []
  | n + 1, Γ, e :: es => match cG n Γ e, cGs n Γ es with
    | some g, some gs => some (g :: gs)
    | _, _ => none
end
def bmOf (m : Str) : Option BM :=
  if sBeq m "append" then some .append else if sBeq m "pop" then some .pop else if sBeq m "extend" then some .extend else if sBeq m "get" then some .get else if sBeq m "setdefault" then some .setdefault else if sBeq m "index" then some .index else none
def bfOf (x : Str) : Option BF :=
  if sBeq x "len" then some .len else if sBeq x "list" then some .list else if sBeq x "tuple" then some .tuple else if sBeq x "int" then some .int else if sBeq x "all" then some .all else if sBeq x "any" then some .any else if sBeq x "max" then some .max else if sBeq x "sorted" then some .sorted else none
def tyOf (Γ : Gam) (x : Str) : Option Ty :=
  match Γ.gl x && !(dbg x) with
  | false => none
  | true => if hasS x Γ.free then (if sBeq x "int" then some .int else if sBeq x "bool" then some .bool else if sBeq x "str" then some .str else if sBeq x "tuple" then some .tuple else if sBeq x "list" then some .list else if sBeq x "dict" then some .dict else none) else
    match lookG x Γ.glob with
    | some (.cls c) => some (.cls c Γ.ncls)
    | _ => none
/-- a built-in's name, free in the module -/
def Gam.bi (Γ : Gam) (x : Str) : Bool := Γ.gl x && hasS x Γ.free && !(dbg x)
def isTab (Γ : Gam) : Expr → Bool
  | .Name x _ => !(dbg x) && Γ.gl x && (match lookG x Γ.glob with | some .tab => true | _ => false)
  | _ => false
def cName (Γ : Gam) (x : Str) : Ex I := match dbg x with
  | true => .bad
  | false => match Γ.vis x with
    | true => match slotOf x Γ.names 0 with
      | some i => .var i
      | none => .bad
    | false => match Γ.gl x, lookG x Γ.glob with
      | true, some (.int i) => .cst (lit i)
      | true, some (.str s) => .cst (.str s)
      | _, _ => .bad
mutual
/-- an expression -/
def cE : Nat → Gam → Expr → Ex I
  | 0, _, _ => .bad
  | n + 1, Γ, e => match e with
    | .Constant c _ _ => (match c with
      | .int i => .cst (lit i)
      | .bool b => .cst (.bl b)
      | .str s => .cst (.str s)
      | .none => .cst .non
      | _ => .bad)
    | .Name x _ => cName Γ x
    | .BinOp a op b _ => (match bopO op with
      | some o => .bin o (cE n Γ a) (cE n Γ b)
      | none => .bad)
    | .UnaryOp op a _ => (match op with
      | .Not => .not (cE n Γ a)
      | .USub => .neg (cE n Γ a)
      | _ => .bad)
    | .BoolOp op es p => (match es with
      | [a] => cE n Γ a
      | a :: b :: r => (match op with
        | .And => .and (cE n Γ a) (cE n Γ (.BoolOp .And (b :: r) p))
        | .Or => .or (cE n Γ a) (cE n Γ (.BoolOp .Or (b :: r) p)))
      | [] => .bad)
    | .Compare a ops bs _ => (match ops, bs with
      | [op], [b] => (match (match op with | .In => true | _ => false) && isTab Γ b with
        | true => .tin (cE n Γ a)
        | false => (match behindInMarks op b with
          | false => .cmp (copO op) (cE n Γ a) (cE n Γ b)
          | true => .bad))
      | [o, p], [b, c] => (match lastMarks [o, p] [b, c] with
        | false => .chn (copO o) (copO p) (cE n Γ a) (cE n Γ b) (cE n Γ c)
        | true => .bad)
      | _, _ => .bad)
    | .IfExp c a b _ => .ite (cE n Γ c) (cE n Γ a) (cE n Γ b)
    | .Tuple es _ _ => (match es.all notStar with
      | true => .tup (cEs n Γ es)
      | false => .bad)
    | .List es _ => (match es.all notStar with
      | true => .lst (cEs n Γ es)
      | false => .bad)
    | .Dict keys values _ => (match keys.all (·.isSome) && Nat.beq keys.length values.length && Nat.ble keys.length 15 with
      | true => (match cKV n Γ keys values with
        | some l => .dic (flatE l)
        | none => .bad)
      | false => .bad)
    | .Subscript a b _ => (match b with
      | .Slice lo hi st _ => (match st with
        | none => .slc (cE n Γ a) (cO n Γ lo) (cO n Γ hi) none
        | some _ => .bad)
      | _ => (match isTab Γ a with
        | true => .tix (cE n Γ b)
        | false => .idx (cE n Γ a) (cE n Γ b)))
    | .Attribute a f _ => (match attrOk a && hasS f Γ.flds with
      | true => .fld (cE n Γ a) f
      | false => .bad)
    | .Call f es ks p => (match ks, es.all notStar with
      | [], true => (match f with
        | .Name x _ => cCall n Γ x es
        | .Attribute o m apos => (match attrOk o && (apos.endLine == p.line) && Nat.blt es.length 29 with
          | true => (match bmOf m with
            | some k => .bmt (cE n Γ o) k (cEs n Γ es)
            | none => .mth (cE n Γ o) m (cEs n Γ es) none)
          | false => .bad)
        | _ => .bad)
      | k0 :: kr, true => (match f, es with
        | .Name x _, [] => cKw n Γ x (k0 :: kr)
        | _, _ => .bad)
      | _, _ => .bad)
    | .ListComp elt gens scope _ => (match blkB Γ scope with
      | true => (match gens with
        | [⟨tg, iter, ifs, 0⟩] => (match cG n (Γ.blk scope) tg, cC n (Γ.blk scope) ifs with
          | some g, some c => (match ((slots g).all fun i => (ownOf Γ.names scope.names).any fun q => Nat.beq q.2 i) && noSet iter with
            | true => .lc (cE n (Γ.blk scope) elt) g (cS n Γ tg iter) c ((ownOf Γ.names scope.names).map (·.2))
            | false => .bad)
          | _, _ => .bad)
        | [⟨tg, iter, [], 0⟩, ⟨tg2, iter2, ifs, 0⟩] => (match cG n (Γ.blk scope) tg, cG n (Γ.blk scope) tg2, cC n (Γ.blk scope) ifs with
          | some g, some g2, some c => (match ((slots g ++ slots g2).all fun i => (ownOf Γ.names scope.names).any fun q => Nat.beq q.2 i) && (noSet iter && noSet iter2) with
            | true => .lc2 (cE n (Γ.blk scope) elt) g (cS n Γ tg iter) g2 (cS n (Γ.blk scope) tg2 iter2) c ((ownOf Γ.names scope.names).map (·.2))
            | false => .bad)
          | _, _, _ => .bad)
        | _ => .bad)
      | false => .bad)
    | .DictComp k v gens scope _ => (match blkB Γ scope with
      | true => (match gens with
        | [⟨tg, iter, [], 0⟩] => (match cG n (Γ.blk scope) tg with
          | some g => (match ((slots g).all fun i => (ownOf Γ.names scope.names).any fun q => Nat.beq q.2 i) && noSet iter with
            | true => .dc (cE n (Γ.blk scope) k) (cE n (Γ.blk scope) v) g (cS n Γ tg iter) ((ownOf Γ.names scope.names).map (·.2))
            | false => .bad)
          | none => .bad)
        | _ => .bad)
      | false => .bad)
    | _ => .bad
def cEs : Nat → Gam → List Expr → List (Ex I)
  | 0, _, es => es.map fun _ => .bad
  | _ + 1, _, [] => []
  | n + 1, Γ, e :: es => cE n Γ e :: cEs n Γ es
def cKV : Nat → Gam → List (Option Expr) → List Expr → Option (List (Ex I × Ex I))
  | n + 1, Γ, some k :: ks, v :: vs => (match cKV n Γ ks vs with
    | some l => some ((cE n Γ k, cE n Γ v) :: l)
    | none => none)
  | _, _, [], [] => some []
  | _, _, _, _ => none
def cO : Nat → Gam → Option Expr → Option (Ex I)
  | n + 1, Γ, some e => some (cE n Γ e)
  | 0, _, some _ => some .bad
  | _, _, none => none
/-- a comprehension's tests -/
def cC : Nat → Gam → List Expr → Option (Option (Ex I))
  | n + 1, Γ, [c] => some (some (cE n Γ c))
  | _, _, [] => some none
  | _, _, _ => none
/-- f(k = e, ..) of a name -/
def cKw : Nat → Gam → Str → List Keyword → Ex I
  | 0, _, _, _ => .bad
  | n + 1, Γ, x, ks => match Γ.gl x && !(dbg x), lookSig x Γ.sigs, kwNames ks with
    | true, some (i, ps), some names => (match kwPerm ps names with
      | some ix => .call i (cEs n Γ (ks.map fun k => k.value)) (some ix)
      | none => .bad)
    | _, _, _ => .bad
/-- f(..) of a name -/
def cCall : Nat → Gam → Str → List Expr → Ex I
  | 0, _, _, _ => .bad
  | n + 1, Γ, x, es => match Γ.bi x with
    | true => (match sBeq x "isinstance", es with
      | true, [a, .Name y _] => (match tyOf Γ y with
        | some T => .isi (cE n Γ a) [T]
        | none => .bad)
      | _, _ => (match sBeq x "sorted", setArg es with
        | true, some a => (match Γ.bi "set" && notStar a with
          | true => .bif .sortedSet [cE n Γ a]
          | false => .bad)
        | _, _ => (match bfOf x, es with
          | some b, _ :: _ => .bif b (cEs n Γ es)
          | _, _ => .bad)))
    | false => (match Γ.gl x && !(dbg x), lookG x Γ.glob with
      | true, some (.fn i) => .call i (cEs n Γ es) none
      | true, some (.cls c) => .new c (cEs n Γ es) none
      | _, _ => .bad)
/-- what is walked -/
def cS : Nat → Gam → Expr → Expr → Sr I
  | 0, _, _, _ => .ex .bad
  | n + 1, Γ, tg, e => match e with
    | .Call (.Name x _) es [] _ => (match Γ.bi x, es.all notStar with
      | true, true => (match sBeq x "range", sBeq x "enumerate", es with
        | true, _, [a] => .rng [cE n Γ a]
        | true, _, [a, b] => .rng [cE n Γ a, cE n Γ b]
        | false, true, [a] => (match tg with
          | .Tuple _ _ _ => .enu (cE n Γ a)
          | _ => .ex .bad)
        | _, _, _ => .ex (cE n Γ e))
      | _, _ => .ex (cE n Γ e))
    | .Call (.Attribute o m apos) [] [] p => (match sBeq m "items", tg with
      | true, .Tuple _ _ _ => (match attrOk o && (apos.endLine == p.line) with
        | true => .itm (cE n Γ o)
        | false => .ex .bad)
      | _, _ => .ex (cE n Γ e))
    | .Set _ _ _ => .ex .bad
    | _ => .ex (cE n Γ e)
end
end
end Pz
set_option Elab.async false
set_option linter.all false
set_option maxRecDepth 100000
set_option maxHeartbeats 4000000
namespace Pz
open PySem L2
/-! ### binding by names alone -/
def plainArgs (a : Arguments) (ps : List Str) : Bool := a.posonlyargs.isEmpty && a.kwonlyargs.isEmpty && a.vararg.isNone && a.kwarg.isNone && decide (a.args.map (·.arg) = ps) && decide ps.Nodup
theorem forIn_steps {α β : Type} {body : α → β → Sem (ForInStep β)} {st : β → α → β} : ∀ (l : List α) (s : β), (∀ (pre : List α) (x : α) (post : List α), l = pre ++ x :: post → body x (pre.foldl st s) = pure (.yield (st (pre.foldl st s) x))) → forIn l s body = pure (l.foldl st s)
  | [], s, _ => rfl
  | x :: l, s, h => by
    have h0 : body x s = pure (.yield (st s x)) := h [] x l rfl
    rw [List.forIn_cons, h0, pure_bind]
    show forIn l (st s x) body = _
    rw [forIn_steps l (st s x) fun pre y post e => h (x :: pre) y post (by rw [e]; rfl)]
    rfl
theorem kw_look {ks : List Str} {ws : List Value} : ∀ {p : Str} {i j : Nat}, ws.length = ks.length → slotOf p ks i = some j → ∃ k, j = i + k ∧ ∃ v, ws[k]? = some v ∧ (ks.zip ws).lookup p = some v := by
  induction ks generalizing ws with
  | nil => intro p i j _ e; cases e
  | cons y r ih =>
    cases ws with
    | nil => intro p i j hl; cases hl
    | cons v vs =>
      intro p i j hl e
      unfold slotOf at e
      split at e
      · rename_i h
        cases e
        cases sBeq_iff.mp h
        exact ⟨0, rfl, v, rfl, by rw [List.zip_cons_cons, List.lookup_cons, beq_self_eq_true]⟩
      · rename_i h
        obtain ⟨k, h1, u, h2, h3⟩ := ih (by simpa using hl) e
        refine ⟨k + 1, by omega, u, by simpa using h2, ?_⟩
        have ne : p ≠ y := fun z => by rw [z, sBeq_iff.mpr rfl] at h; cases h
        rw [List.zip_cons_cons, List.lookup_cons, beq_eq_false_iff_ne.mpr ne]
        exact h3
theorem kw_zip {ks : List Str} {ws : List Value} (hl : ws.length = ks.length) : ∀ {ps : List Str} {ix : List Nat}, kwIx ps ks = some ix →
    ps.filterMap (fun n => ((ks.zip ws).lookup n).map fun v => (n, v)) = ps.zip (pickL ws ix) ∧ (pickL ws ix).length = ps.length ∧ ∀ p ∈ ps, ((ks.zip ws).lookup p).isSome = true
  | [], ix, e => by cases e; exact ⟨rfl, rfl, fun p h => by cases h⟩
  | p :: ps, ix, e => by
    unfold kwIx at e
    split at e
    · rename_i j l h1 h2
      cases e
      obtain ⟨k, hk, v, h3, h4⟩ := kw_look hl h1
      obtain rfl : j = k := by omega
      obtain ⟨q1, q2, q3⟩ := kw_zip hl h2
      have e1 : pickL ws (j :: l) = v :: pickL ws l := by
        unfold pickL
        rw [List.filterMap_cons, h3]
      refine ⟨?_, by rw [e1, List.length_cons, q2, List.length_cons], fun x hx => ?_⟩
      · rw [List.filterMap_cons, h4, e1]
        show (p, v) :: _ = _
        rw [q1]
        rfl
      · rcases List.mem_cons.mp hx with rfl | hx
        · rw [h4]; rfl
        · exact q3 x hx
    · cases e
theorem ndS_ok : ∀ {l : List Str}, ndS l = true → l.Nodup
  | [], _ => List.nodup_nil
  | x :: l, h => by
    unfold ndS at h
    rw [Bool.and_eq_true] at h
    refine List.nodup_cons.mpr ⟨fun hm => ?_, ndS_ok h.2⟩
    have : hasS x l = true := List.any_eq_true.mpr ⟨x, hm, sBeq_iff.mpr rfl⟩
    rw [this] at h
    cases h.1
theorem look_none {ks : List (Str × Value)} {k : Str} (h : ∀ q ∈ ks, q.1 ≠ k) : ks.lookup k = none := by
  induction ks with
  | nil => rfl
  | cons q r ih =>
    obtain ⟨a, b⟩ := q
    rw [List.lookup_cons, beq_eq_false_iff_ne.mpr (Ne.symm (h (a, b) (List.mem_cons_self ..)))]
    exact ih fun q hq => h q (List.mem_cons_of_mem _ hq)
theorem foldl_push {α : Type} (l s : List α) : l.foldl (fun s x => s ++ [x]) s = s ++ l := by
  induction l generalizing s with
  | nil => simp
  | cons x l ih => rw [List.foldl_cons, ih]; simp
theorem zip_keys {ks : List Str} {ws : List Value} (hl : ws.length = ks.length) : (ks.zip ws).map (·.1) = ks := by
  exact List.map_fst_zip (by omega)
theorem bind_kw {a : Arguments} {ps ks : List Str} {ix : List Nat} (h : plainArgs a ps = true) (hk : kwPerm ps ks = some ix) {x qual : Str} {body : List Stmt} {scope : Scope} {kV doc pm : Value} {an : Option Addr} {cdv ct : Value} {ws : List Value} (hl : ws.length = ks.length) :
    bindArgs (PySem.W.fnOf x qual a body scope .none kV doc pm an cdv ct) ⟨[], ks.zip ws⟩ = pure (ps.zip (pickL ws ix)) := by
  obtain ⟨po, ar, va, ko, kd, kw, df⟩ := a
  unfold plainArgs at h
  simp only [Bool.and_eq_true, List.isEmpty_iff, Option.isNone_iff_eq_none, decide_eq_true_eq] at h
  obtain ⟨⟨⟨⟨⟨rfl, rfl⟩, rfl⟩, rfl⟩, rfl⟩, nd⟩ := h
  unfold kwPerm at hk
  split at hk
  · rename_i h3
    rw [Bool.and_eq_true, Bool.and_eq_true] at h3
    obtain ⟨⟨h4, h5⟩, _⟩ := h3
    have kn := ndS_ok h4
    obtain ⟨q1, q2, q3⟩ := kw_zip hl hk
    have e1 : (List.filter (fun n => (List.lookup n (ks.zip ws)).isNone) (ar.map (·.arg))) = [] := by
      rw [List.filter_eq_nil_iff]
      intro n hn
      have := q3 n hn
      simp only [Option.isNone_iff_eq_none]
      intro e
      rw [e] at this
      cases this
    have en : (do notAStandIn Value.none; pure none : Sem (Option (Array Value))) = pure none := rfl
    unfold bindArgs
    simp only [PySem.W.fnOf, List.map_nil, List.nil_append, List.append_nil, List.zip_nil_right]
    have fo : ∀ (l s : List (Str × Value)), l.foldl (fun (q : List (Str × Value) × List (Str × Value)) x => (q.1 ++ [x], q.2)) (s, []) = (s ++ l, []) := by
      intro l
      induction l with
      | nil => intro s; simp
      | cons y l ih => intro s; rw [List.foldl_cons, ih]; simp
    rw [forIn_steps (st := fun (q : List (Str × Value) × List (Str × Value)) x => (q.1 ++ [x], q.2)) (ks.zip ws) _ fun pre y post e => ?_]
    · rw [fo, pure_bind]
      simp only [List.nil_append, seqItems?, pure_bind, en]
      have e4 : decide (([] : List Value).length > ar.length) = false := rfl
      simp only [List.length_map, e4, Bool.false_and, Bool.false_eq_true, if_false, Option.getD_none, List.length_nil, Nat.zero_sub, List.drop_nil, Nat.sub_zero, List.take_of_length_le, Nat.le_refl, List.zip_nil_right, List.forIn_nil, pure_bind, e1, List.isEmpty_nil, Bool.not_true]
      rw [q1]
      rfl
    · rw [fo]
      obtain ⟨k, v⟩ := y
      have hm : (k, v) ∈ ks.zip ws := by rw [e]; simp
      have hk1 : k ∈ ks := by
        have : k ∈ (ks.zip ws).map (·.1) := List.mem_map_of_mem (f := (·.1)) hm
        rwa [zip_keys hl] at this
      have hc : (ar.map (·.arg)).contains k = true := by
        have := List.all_eq_true.mp h5 k hk1
        rw [List.contains_iff_mem]
        exact hasS_mem this
      have hn : ([] ++ pre).lookup k = none := look_none fun q hq => by
        have hkn : ((ks.zip ws).map (·.1)).Nodup := by rw [zip_keys hl]; exact kn
        rw [e, List.map_append, List.map_cons] at hkn
        intro z
        have h1 := List.nodup_append.mp hkn
        have hq : q ∈ pre := by simpa using hq
        exact h1.2.2 q.1 (List.mem_map_of_mem (f := fun x : Str × Value => x.1) hq) k (List.mem_cons_self ..) z
      simp only [hc, Bool.true_or, if_true, hn, Option.isSome_none, Bool.false_eq_true, if_false, List.contains_nil, Bool.or_false]
  · cases hk
theorem Vals.at {vs : List V} {us : List Value} (h : Vals vs us) (i : Nat) : (vs[i]? = none ∧ us[i]? = none) ∨ ∃ v u, vs[i]? = some v ∧ us[i]? = some u ∧ RelV v u := by
  cases e : vs[i]? with
  | none =>
    have := List.getElem?_eq_none_iff.mp e
    exact .inl ⟨rfl, List.getElem?_eq_none_iff.mpr (by rw [← h.length]; exact this)⟩
  | some v =>
    obtain ⟨u, h1, h2⟩ := h.get e
    exact .inr ⟨v, u, rfl, h1, h2⟩
theorem pick_vals {vs : List V} {us : List Value} (h : Vals vs us) : ∀ ix : List Nat, Vals (pickL vs ix) (pickL us ix)
  | [] => .nil
  | i :: ix => by
    have ih := pick_vals h ix
    unfold pickL at ih ⊢
    rcases Vals.at h i with ⟨a, b⟩ | ⟨v, u, a, b, c⟩
    · rw [List.filterMap_cons, List.filterMap_cons, a, b]; exact ih
    · rw [List.filterMap_cons, List.filterMap_cons, a, b]; exact .cons c ih
/-- the keywords' values in the parameters' order -/
def kwG {A : Type} (m : Nat) (ix : List Nat) (us ws : List A) : List A := match us, Nat.beq ws.length m with
  | [], true => pickL ws ix
  | _, _ => []
structure KwB (K : PySem.W.Frag) (fd : FuncData) (ps : List Str) : Prop where
  to : ∀ ks ix, kwPerm ps ks = some ix → KBinds K fd ps ks (kwG ks.length ix) (kwG ks.length ix)
theorem kwB_of {K : PySem.W.Frag} {x qual : Str} {params : Arguments} {body : List Stmt} {scope : Scope} {kws : List (Str × V)} {f : Addr} {fd : FuncData} {ps : List Str} (F : FunD K x qual params body scope [] kws f fd) (h : plainArgs params ps = true) : KwB K fd ps := by
  obtain ⟨oc, od, dV, kV, doc, pm, an, cdv, ct, osl, rfl, lk, hcd, hD, hK⟩ := F.ex
  rcases hD with ⟨_, rfl⟩ | ⟨e, _⟩
  · refine ⟨fun ks ix hk => ⟨fun s us ws _ hl => ?_, fun {vs us zs ws} r rz => ?_⟩⟩
    · have hne : ps ≠ [] := by
        unfold kwPerm at hk
        split at hk
        · rename_i z
          rw [Bool.and_eq_true] at z
          intro e
          subst e
          cases z.2
        · cases hk
      have no : ([] : List Value).length = ps.length → False := fun e => hne (List.length_eq_zero_iff.mp e.symm)
      unfold kwG at hl ⊢
      split at hl
      · rename_i z
        exact .of_eq (bind_kw h hk (Nat.eq_of_beq_eq_true z))
      · exact (no hl).elim
    · unfold kwG
      have l := rz.length
      cases r with
      | nil =>
        rw [l]
        cases e : Nat.beq ws.length ks.length with
        | true => exact pick_vals rz ix
        | false => exact .nil
      | cons _ _ => exact .nil
  · exact absurd rfl e
section
variable {I : Type} [IOps I] {den : I → Int} {ca : Nat → Addr} {X : Cx} {G : Pg I} {r : Rho} {H : Hp} {d : Nat}
theorem VRs.at {xs : List (Val I)} {ys : List V} (h : VRs den r H xs ys) (i : Nat) : (xs[i]? = none ∧ ys[i]? = none) ∨ ∃ v u, xs[i]? = some v ∧ ys[i]? = some u ∧ VR den r H v u := by
  cases e : xs[i]? with
  | none =>
    have := List.getElem?_eq_none_iff.mp e
    exact .inl ⟨rfl, List.getElem?_eq_none_iff.mpr (by rw [← h.length]; exact this)⟩
  | some v =>
    obtain ⟨u, h1, h2⟩ := h.get e
    exact .inr ⟨v, u, rfl, h1, h2⟩
theorem pick_vrs {xs : List (Val I)} {ys : List V} (h : VRs den r H xs ys) : ∀ ix : List Nat, VRs den r H (pickL xs ix) (pickL ys ix)
  | [] => .nil
  | i :: ix => by
    have ih := pick_vrs h ix
    unfold pickL at ih ⊢
    rcases VRs.at h i with ⟨a, b⟩ | ⟨v, u, a, b, c⟩
    · rw [List.filterMap_cons, List.filterMap_cons, a, b]; exact ih
    · rw [List.filterMap_cons, List.filterMap_cons, a, b]; exact .cons c ih
theorem permute_ok {vs : List (Val I)} : ∀ {p : List Nat} {us : List (Val I)}, permute vs (some p) = some us → us = pickL vs p
  | [], us, e => by cases e; rfl
  | i :: p, us, e => by
    have e : (match vs[i]?, permute vs (some p) with | some v, some l => some (v :: l) | _, _ => none) = some us := e
    split at e
    · rename_i v l h1 h2
      cases e
      unfold pickL
      rw [List.filterMap_cons, h1, permute_ok h2]
      rfl
    · cases e
theorem es_len : ∀ {n : Nat} {xs : List (Ex I)} {τ : Env I} {S S' : Sto I} {vs : List (Val I)}, (evN G n).es d xs τ S = .ok vs S' → vs.length = xs.length
  | 0, _, _, _, _, _, e => by cases e
  | n + 1, [], _, _, _, _, e => by cases e; rfl
  | n + 1, x :: xs, τ, S, S', vs, e => by
    obtain ⟨v, S1, e1, e⟩ := bind_ok (show ((evN G n).e d x τ S).bind _ = .ok vs S' from e)
    obtain ⟨us, S2, e2, e⟩ := bind_ok e
    cases e
    rw [List.length_cons, es_len e2, List.length_cons]
theorem uk_nil : PK X [] (uA G den X ca d []) := ⟨fun pos pins s σ H Q I0 ⟨n, r, S, τ, vs, S', m, er, e, f⟩ => by
  cases n with
  | zero => cases e
  | succ n =>
    cases e
    exact pk_nil.run pos pins s σ H Q I0 (f _ _ _ Ext.refl m .nil)⟩
theorem uk_cons {k : Keyword} {ks : List Keyword} {ie : Ex I} {ies : List (Ex I)} (he : PE X k.value (uE G den X ca d ie)) (hes : PK X ks (uA G den X ca d ies)) : PK X (k :: ks) (uA G den X ca d (ie :: ies)) := by
  obtain ⟨nm, v, kp⟩ := k
  refine ⟨fun pos pins s σ H Q I0 h => (pk_cons he hes).run pos pins s σ H Q I0 ?_⟩
  obtain ⟨n, r, S, τ, vs, S', m, er, e, f⟩ := h
  cases n with
  | zero => cases e
  | succ n =>
    obtain ⟨x, S1, e1, e⟩ := bind_ok (show ((evN G n).e d ie τ S).bind _ = .ok vs S' from e)
    obtain ⟨us, S2, e2, e⟩ := bind_ok e
    cases e
    exact ⟨n, r, S, τ, x, S1, m, er, e1, fun r1 H1 z x1 m1 h1 => ⟨n, r1, S1, τ, us, _, m1, er.mono x1, e2, fun r2 H2 zs x2 m2 h2 => f _ _ _ (x1.trans x2 m.live) m2 (.cons (h1.mono x2) h2)⟩⟩
theorem kw_names {pos : Pos} {env : PySem.Env} : ∀ {ks : List Keyword} {names : List Str}, kwNames ks = some names → (backToKw pos (keywordEach ks env)).all (·.1.isSome) = true ∧ (backToKw pos (keywordEach ks env)).filterMap (·.1) = names ∧ (backToKw pos (keywordEach ks env)).any (·.1.isNone) = false ∧ names.length = ks.length
  | [], _, e => by cases e; exact ⟨rfl, rfl, rfl, rfl⟩
  | ⟨some x, v, kp⟩ :: r, names, e => by
    unfold kwNames at e
    split at e
    · rename_i l h
      cases e
      obtain ⟨a, b, c, d⟩ := kw_names (pos := pos) (env := env) h
      refine ⟨?_, ?_, ?_, by rw [List.length_cons, d, List.length_cons]⟩
      · show (true && (backToKw pos (keywordEach r env)).all (·.1.isSome)) = true
        rw [a]; rfl
      · show x :: (backToKw pos (keywordEach r env)).filterMap (·.1) = _
        rw [b]
      · show (false || (backToKw pos (keywordEach r env)).any (·.1.isNone)) = false
        rw [c]; rfl
    · cases e
  | ⟨none, _, _⟩ :: _, _, e => by cases e
/-- f(k = e, ..) -/
theorem ok_callKw {i : Nat} {x : Str} {f : Addr} {fd : FuncData} {ps names : List Str} {ix : List Nat} {ks : List Keyword} {ies : List (Ex I)} {p pos : Pos} (F : FnOk X.prog X.w X.K X.mg X.base CXF d f fd ps (uSp G den X.prog X.w ca d i)) (B : KwB X.K fd ps) (hr : Room d X.A) (hg : Gl X x) (hm : X.mg x = some (.ref f)) (hk : PySem.W.keepIn X.K (.ref f) = true)
    (hdb : (x == ("__debug__" : Str)) = false) (hn : kwNames ks = some names) (hp : kwPerm ps names = some ix) (ha : PK X ks (uA G den X ca d ies)) (hl : ies.length = ks.length) : OkE G den X ca d (.Call (.Name x p) [] ks pos) (.call i ies (some ix)) := by
  refine ok_val ⟨fun pins s σ H Q I0 ⟨n, r, S, τ, w, S', m, er, e, fi⟩ => ?_⟩ (fun _ => rfl) (fun _ _ _ h => nomatch h)
  cases n with
  | zero => cases e
  | succ n =>
    obtain ⟨vs, S1, e1, e⟩ := bind_ok (show e_call (evN G n) d i ies (some ix) τ S = .ok w S' from e)
    obtain ⟨us, e2, e⟩ := opt_ok e
    have e2 := permute_ok e2
    obtain ⟨q1, q2, q3, q4⟩ := kw_names (pos := pos) (env := X.env) hn
    refine wpAny_Call_Name_kw (ld_glob I0 hg hm ?_ hdb)
    refine PySem.W.callWith_KW0 (h₀ := X.base) I0.ok.mod.kin hk q1 (thn (ha.run pos pins s σ H (fun zs H1 => ∃ r1, SimX den X ca r1 S1 H1 ∧ Ext r H r1 H1 ∧ VRs den r1 H1 vs zs) I0 ⟨n, r, S, τ, vs, S1, m, er, e1, fun r1 H1 zs x1 m1 h1 => ⟨r1, m1, x1, h1⟩⟩) fun ws s2 ⟨zs, H1, I1, rz, r1, m1, x1, h1⟩ => ⟨I1.kIn, ?_⟩) (by rw [q3]; rfl)
    rw [q2]
    refine run_fnk (vs := []) F hr (B.to _ _ hp) pass_f (E := fun _ _ _ => False) I1 .nil rz ?_
    have l : zs.length = names.length := by rw [← h1.length, es_len e1, hl, q4]
    have eg : kwG names.length ix [] zs = pickL zs ix := by
      unfold kwG
      rw [l, show Nat.beq names.length names.length = true from Nat.beq_refl _]
    rw [eg]
    exact ⟨n, r1, S1, us, w, S', m1, by rw [e2]; exact pick_vrs h1 ix, e, fi.ext x1 m⟩
end
end Pz
set_option Elab.async false
set_option linter.all false
set_option maxRecDepth 100000
set_option maxHeartbeats 4000000
namespace Pz
open PySem L2
section
variable {I : Type} [IOps I]
/-- what a global name stands for -/
def GOk (G : Pg I) (den : I → Int) (ca : Nat → Addr) (d : Nat) (X : Cx) (ncls : Nat) (x : Str) : GK → Prop
  | .int i => ∃ t, X.mg x = some (.int i t)
  | .str s => ∃ t, X.mg x = some (.str s t)
  | .fn i => ∃ f, X.mg x = some (.ref f) ∧ PySem.W.keepIn X.K (.ref f) = true ∧ FnK G den X ca d i f
  | .cls c => X.mg x = some (.ref (ca c)) ∧ c < ncls ∧ ∀ d', d = d' + 1 → ∃ f cl, G.cls[c]? = some cl ∧ Mk X.K (ca c) f ∧ FnK G den X ca d' cl.init f
  | .tab => ∃ a, X.mg x = some (.ref a) ∧ TabK X.K X.w a G.tab
/-- the context fits the names -/
structure Good (G : Pg I) (den : I → Int) (ca : Nat → Addr) (d : Nat) (Γ : Gam) (X : Cx) : Prop where
  names : X.N = Γ.names
  nd : Γ.names.Nodup
  sc : X.env.scope = Γ.sc
  sto : ∀ x, Γ.inFn = true → X.fn x = true
  kind : Γ.sc.kind = .function
  calm : X.calm = true
  room : Room d X.A
  glob : ∀ x g, (x, g) ∈ Γ.glob → GOk G den ca d X Γ.ncls x g
  free : ∀ x ∈ Γ.free, X.mg x = none
  flds : ∀ f ∈ Γ.flds, ∀ c, Cls X.K (ca c) ∧ NoAttr X.K (ca c) f
  mths : ∀ m c cl i, G.cls[c]? = some cl → lookM m cl.ms = some i → Cls X.K (ca c) ∧ ∃ f, Meth X.K (ca c) m f ∧ FnK G den X ca d i f
  kit : KitF X.K ca Γ.ncls
  sig : ∀ x i ps, (x, i, ps) ∈ Γ.sigs → ∃ f fd, X.mg x = some (.ref f) ∧ PySem.W.keepIn X.K (.ref f) = true ∧ KwB X.K fd ps ∧ FnOk X.prog X.w X.K X.mg X.base CXF d f fd ps (uSp G den X.prog X.w ca d i)
variable {G : Pg I} {den : I → Int} {ca : Nat → Addr} {d : Nat} {Γ : Gam} {X : Cx}
theorem Good.hu (g : Good G den ca d Γ X) : X.A.units + 60 < cLine := by have := g.room.units; omega
theorem Good.blk (g : Good G den ca d Γ X) {scope : Scope} (hb : blkB Γ scope = true) (s : Shared) (H : Hp) (C : Addr) (cl : List (Str × Addr)) (fp : List Addr) : Good G den ca d (Γ.blk scope) (X.blk s H scope (compEnvC scope cl C X.env) fp) where
  names := g.names
  nd := g.nd
  sc := by
    show relS scope X.env.scope = relS scope Γ.sc
    rw [g.sc]
  sto := fun x h => by cases h
  kind := (blkB_ok hb).kind
  calm := g.calm
  room := g.room
  glob := fun x q h => by
    have := g.glob x q h
    cases q with
    | int i => exact this
    | str t => exact this
    | fn i => obtain ⟨f, a, b, c⟩ := this; exact ⟨f, a, b, ⟨c.ok⟩⟩
    | cls c =>
      obtain ⟨a, b, c⟩ := this
      exact ⟨a, b, fun d' e => let ⟨f, cl, q1, q2, q3⟩ := c d' e; ⟨f, cl, q1, q2, ⟨q3.ok⟩⟩⟩
    | tab => exact this
  free := g.free
  flds := g.flds
  mths := fun m c cl' i h1 h2 => let ⟨a, f, b, c⟩ := g.mths m c cl' i h1 h2; ⟨a, f, b, ⟨c.ok⟩⟩
  kit := g.kit
  sig := g.sig
theorem Good.vis_ok (g : Good G den ca d Γ X) {x : Str} (h : Γ.vis x = true) : Vis X.env.scope x := by
  unfold Gam.vis Gam.kind at h
  rw [← g.sc] at h
  unfold Vis
  split at h
  · rename_i q; exact .inl q
  · rename_i q; exact .inr (.inl q)
  · rename_i q; exact .inr (.inr q)
  · cases h
theorem Good.sto_ok (g : Good G den ca d Γ X) {x : Str} (h : Γ.sto x = true) : Loc X.env.scope x ∧ (X.fn x = true ∨ X.env.scope.names.lookup x = some .local) := by
  unfold Gam.sto Gam.kind at h
  split at h
  · rename_i q
    rw [← g.sc] at q
    exact ⟨.inl q, .inr q⟩
  · rename_i q
    rw [← g.sc] at q
    exact ⟨.inr q, .inl (g.sto x h)⟩
  · cases h
theorem Good.gl_ok (g : Good G den ca d Γ X) {x : Str} (h : Γ.gl x = true) : Gl X x := by
  unfold Gam.gl Gam.kind at h
  show X.env.scope.names.lookup x = some .globalImplicit
  rw [g.sc]
  split at h
  · rename_i q; exact q
  · cases h
theorem Good.slot (g : Good G den ca d Γ X) {x : Str} {i : Nat} (h : slotOf x Γ.names 0 = some i) : X.N[i]? = some x := by
  obtain ⟨k, e1, e2⟩ := slotOf_ok h
  have e1 : i = k := by omega
  rw [g.names, e1]
  exact e2
theorem ok_bad {e : Expr} : OkE G den X ca d e .bad := by
  have no : ∀ {n : Nat} {τ : Env I} {S S' : Sto I} {w : Val I}, (evN G n).e d .bad τ S = .ok w S' → False := by
    intro n τ S S' w e
    cases n <;> cases e
  refine ⟨⟨fun pins s σ H Q I0 ⟨n, r, S, τ, w, S', m, er, e, f⟩ => (no e).elim⟩, ⟨fun pins s σ H Q I0 ⟨n, r, S, τ, w, b, S', m, er, e, _⟩ => (no e).elim⟩, fun _ _ _ _ => ⟨fun wh pins s σ H Q I0 ⟨n, r, S, τ, w, b, S', m, er, e, _⟩ => (no e).elim⟩⟩
theorem ok_ite {c a b : Expr} {ic ia ib : Ex I} {pos : Pos} (hc : PT X c (uT G den X ca d ic)) (ha : OkE G den X ca d a ia) (hb : OkE G den X ca d b ib) : OkE G den X ca d (.IfExp c a b pos) (.ite ic ia ib) := by
  refine ⟨pe_ite hc ha.pe hb.pe, ⟨fun pins s σ H Q I0 ⟨n, r, S, τ, w, k, S', m, er, e, ek, f⟩ => ?_⟩, fun _ _ _ h => nomatch h⟩
  cases n with
  | zero => cases e
  | succ n =>
    obtain ⟨x, S1, e1, e⟩ := bind_ok (show e_ite (evN G n) d ic ia ib τ S = .ok w S' from e)
    obtain ⟨q, e2, e⟩ := opt_ok e
    show wpAny _ _ (do if ← isTrue c X.env (eval c X.env) then isTrue a X.env (eval a X.env) else isTrue b X.env (eval b X.env)) _ _ s
    refine wpAny_bind (thn (hc.run pins s σ H (fun q' H1 => q' = q ∧ ∃ r1, SimX den X ca r1 S1 H1 ∧ Ext r H r1 H1) I0 ⟨n, r, S, τ, x, q, S1, m, er, e1, e2, fun r1 H1 x1 m1 => ⟨rfl, r1, m1, x1⟩⟩) fun q' s1 ⟨H1, I1, eq, r1, m1, x1⟩ => ?_)
    subst eq
    cases q' with
    | true => exact ha.pt.run pins s1 σ H1 Q I1 ⟨n, r1, S1, τ, w, k, S', m1, er.mono x1, e, ek, f.ext x1 m⟩
    | false => exact hb.pt.run pins s1 σ H1 Q I1 ⟨n, r1, S1, τ, w, k, S', m1, er.mono x1, e, ek, f.ext x1 m⟩
theorem ok_name (L : Lawful I den) (g : Good G den ca d Γ X) {x : Str} {pos : Pos} : OkE G den X ca d (.Name x pos) (cName Γ x) := by
  unfold cName
  split
  · exact ok_bad
  · rename_i hd
    obtain ⟨h1, h2⟩ := dbg_no hd
    split
    · rename_i hv
      split
      · rename_i i hi
        exact ok_var (g.slot hi) (g.vis_ok hv) h1 h2
      · exact ok_bad
    · split
      · rename_i i hg hl
        obtain ⟨t, hm⟩ := g.glob _ _ (lookG_mem hl)
        exact ok_gint L (g.gl_ok hg) hm h1
      · rename_i s hg hl
        obtain ⟨t, hm⟩ := g.glob _ _ (lookG_mem hl)
        exact ok_gstr (g.gl_ok hg) hm h1
      · exact ok_bad
theorem tab_ok (g : Good G den ca d Γ X) {e : Expr} (h : isTab Γ e = true) : ∃ x p a, e = .Name x p ∧ (x == ("__debug__" : Str)) = false ∧ Gl X x ∧ X.mg x = some (.ref a) ∧ TabK X.K X.w a G.tab := by
  unfold isTab at h
  split at h
  · rename_i x p
    rw [Bool.and_eq_true, Bool.and_eq_true] at h
    obtain ⟨⟨h1, h2⟩, h3⟩ := h
    have h1 : dbg x = false := by simpa using h1
    split at h3
    · rename_i hl
      obtain ⟨a, hm, T⟩ := g.glob _ _ (lookG_mem hl)
      exact ⟨x, p, a, rfl, (dbg_no h1).1, g.gl_ok h2, hm, T⟩
    · cases h3
  · cases h
/-! ### targets -/
theorem each_len : ∀ {es : List Expr} {env : PySem.Env}, (assignEach es env).length = es.length
  | [], _ => rfl
  | e :: es, env => by
    have : ∀ e, (assignEach (e :: es) env).length = (assignEach es env).length + 1 := fun e => by cases e <;> rfl
    rw [this, each_len]
    rfl
theorem each_idx : ∀ {es : List Expr} {env : PySem.Env}, es.all notStar = true → (assignEach es env).findIdx? (·.1) = none ∧ (assignEach es env).map (·.2) = es.map fun e => assign e env
  | [], _, _ => ⟨rfl, rfl⟩
  | e :: es, env, h => by
    rw [List.all_cons, Bool.and_eq_true] at h
    have e1 : assignEach (e :: es) env = (false, assign e env) :: assignEach es env := by
      have h1 := h.1
      cases e <;> first | rfl | cases h1
    obtain ⟨a, b⟩ := each_idx (env := env) h.2
    rw [e1]
    refine ⟨?_, ?_⟩
    · rw [List.findIdx?_cons, a]; rfl
    · rw [List.map_cons, List.map_cons, b]
theorem cG_ok (g : Good G den ca d Γ X) : ∀ (n : Nat), (∀ e t, cG n Γ e = some t → PG X e (uG den X ca t)) ∧ (∀ es ts, es.all notStar = true → cGs n Γ es = some ts → PGs X es (uGs den X ca ts) ∧ ts.length = es.length)
  | 0 => ⟨fun e t h => (nomatch (show (none : Option Tg) = some t from h)), fun es ts _ h => (nomatch (show (none : Option (List Tg)) = some ts from h))⟩
  | n + 1 => by
    obtain ⟨ih1, ih2⟩ := cG_ok g n
    refine ⟨fun e t h => ?_, fun es ts hs h => ?_⟩
    · unfold cG at h
      split at h
      · split at h
        · rename_i x p i h1 h2
          cases h
          obtain ⟨a, b⟩ := g.sto_ok h1
          exact ug_name (by rw [g.names]; exact g.nd) (g.slot h2) a b
        · cases h
      · split at h
        · rename_i es k p gs h1 h2
          cases h
          obtain ⟨a, b⟩ := ih2 _ _ h1 h2
          obtain ⟨c, e⟩ := each_idx (env := X.env) h1
          exact ug_tup g.calm a (by rw [each_len, b]) c
        · cases h
      · cases h
    · cases es with
      | nil =>
        cases h
        exact ⟨ugs_nil, rfl⟩
      | cons e es =>
        have h : (match cG n Γ e, cGs n Γ es with | some g, some gs => some (g :: gs) | _, _ => none) = some ts := h
        split at h
        · rename_i t gs h1 h2
          cases h
          rw [List.all_cons, Bool.and_eq_true] at hs
          obtain ⟨a, b⟩ := ih2 _ _ hs.2 h2
          refine ⟨ugs_cons (ih1 _ _ h1) a ?_, by simp [b]⟩
          have hs1 := hs.1
          cases e <;> first | rfl | cases hs1
        · cases h
end
end Pz
set_option Elab.async false
set_option linter.all false
set_option maxRecDepth 100000
set_option maxHeartbeats 4000000
namespace Pz
open PySem L2
section
variable {I : Type} [IOps I] {G : Pg I} {den : I → Int} {ca : Nat → Addr} {d : Nat} {Γ : Gam} {X : Cx}
theorem slots_own {own : List (Str × Nat)} {l : List Nat} (h : (l.all fun i => own.any fun q => Nat.beq q.2 i) = true) : ∀ i ∈ l, i ∈ own.map (·.2) := fun i hi => by
  obtain ⟨q, h1, h2⟩ := List.any_eq_true.mp (List.all_eq_true.mp h i hi)
  rw [← Nat.eq_of_beq_eq_true h2]
  exact List.mem_map_of_mem h1
theorem bi_ok (g : Good G den ca d Γ X) {x : Str} (h : Γ.bi x = true) : Gl X x ∧ X.mg x = none ∧ (x == ("__debug__" : Str)) = false := by
  unfold Gam.bi at h
  rw [Bool.and_eq_true, Bool.and_eq_true] at h
  obtain ⟨⟨h1, h2⟩, h3⟩ := h
  have h3 : dbg x = false := by simpa using h3
  exact ⟨g.gl_ok h1, g.free _ (hasS_mem h2), (dbg_no h3).1⟩
theorem bmt_ok (L : Lawful I den) (g : Good G den ca d Γ X) {m : Str} {k : BM} (h : bmOf m = some k) {o : Expr} {es : List Expr} {io : Ex I} {ies : List (Ex I)} {apos p : Pos} (ho : PE X o (uE G den X ca d io)) (ha : PA X es (uA G den X ca d ies)) (hz : es = [] → ies = []) (hs : es.all notStar = true) (h1 : attrOk o = true) (h2 : (apos.endLine == p.line) = true) (h3 : es.length < 29) :
    OkE G den X ca d (.Call (.Attribute o m apos) es [] p) (.bmt io k ies) := by
  have go : ∀ {id : String} (pa : PlainAttrs (mtyp k)) (slot : Slot (mtyp k) m id) (hty : typeOf (.builtin id) = pure (.type "method_descriptor")) (hm : MtR X id (uBM den X ca k)), OkE G den X ca d (.Call (.Attribute o m apos) es [] p) (.bmt io k ies) := by
    intro id pa slot hty hm
    cases es with
    | nil =>
      have := hz rfl
      subst this
      exact ok_bmt0 pa slot hty hm ho (attr_ok h1) h2
    | cons e0 er =>
      have hs' := hs
      rw [List.all_cons, Bool.and_eq_true] at hs'
      exact ok_bmt pa slot hty hm ho ha (attr_ok h1) (few_ok hs h3) h2 (star_ne hs'.1) (star_any hs'.2)
  unfold bmOf at h
  split at h
  · rename_i q; cases h; cases sBeq_iff.mp q
    exact go PySem.F.plainAttrs_list PySem.F.slot_list_append PySem.F.type_list_append u_append
  split at h
  · rename_i q; cases h; cases sBeq_iff.mp q
    exact go PySem.F.plainAttrs_list PySem.F.slot_list_pop PySem.F.type_list_pop (u_pop L)
  split at h
  · rename_i q; cases h; cases sBeq_iff.mp q
    exact go PySem.F.plainAttrs_list PySem.F.slot_list_extend PySem.F.type_list_extend u_extend
  split at h
  · rename_i q; cases h; cases sBeq_iff.mp q
    exact go PySem.F.plainAttrs_dict PySem.F.slot_dict_get PySem.F.type_dict_get (u_mget L g.hu)
  split at h
  · rename_i q; cases h; cases sBeq_iff.mp q
    exact go PySem.F.plainAttrs_dict PySem.F.slot_dict_setdefault PySem.F.type_dict_setdefault (u_msetdef L g.hu)
  split at h
  · rename_i q; cases h; cases sBeq_iff.mp q
    exact go PySem.F.plainAttrs_list PySem.F.slot_list_index PySem.F.type_list_index (u_index L g.hu)
  cases h
theorem bif_ok (L : Lawful I den) (g : Good G den ca d Γ X) {x : Str} {b : BF} (h : bfOf x = some b) (hb : Γ.bi x = true) (hns : b ≠ .sorted ∨ True) {e : Expr} {es : List Expr} {ies : List (Ex I)} {p q : Pos} (ha : PA X (e :: es) (uA G den X ca d ies)) (hs : (e :: es).all notStar = true) :
    OkE G den X ca d (.Call (.Name x p) (e :: es) [] q) (.bif b ies) := by
  obtain ⟨hg, hm, hd⟩ := bi_ok g hb
  have hs' := hs
  rw [List.all_cons, Bool.and_eq_true] at hs'
  unfold bfOf at h
  split at h
  · rename_i z; cases h; cases sBeq_iff.mp z
    exact ok_callB (c_len L) hg hm (by decide +kernel) ha (by decide) hd (star_ne hs'.1) (star_any hs'.2)
  split at h
  · rename_i z; cases h; cases sBeq_iff.mp z
    exact ok_callTy (c_list g.calm) hg hm (by decide +kernel) ha (by decide) hd (star_ne hs'.1) (star_any hs'.2)
  split at h
  · rename_i z; cases h; cases sBeq_iff.mp z
    exact ok_callTy c_tuple hg hm (by decide +kernel) ha (by decide) hd (star_ne hs'.1) (star_any hs'.2)
  split at h
  · rename_i z; cases h; cases sBeq_iff.mp z
    exact ok_callTy (c_int L) hg hm (by decide +kernel) ha (by decide) hd (star_ne hs'.1) (star_any hs'.2)
  split at h
  · rename_i z; cases h; cases sBeq_iff.mp z
    exact ok_callB (c_all g.calm) hg hm (by decide +kernel) ha (by decide) hd (star_ne hs'.1) (star_any hs'.2)
  split at h
  · rename_i z; cases h; cases sBeq_iff.mp z
    exact ok_callB (c_any g.calm) hg hm (by decide +kernel) ha (by decide) hd (star_ne hs'.1) (star_any hs'.2)
  split at h
  · rename_i z; cases h; cases sBeq_iff.mp z
    exact ok_callB (c_max L g.calm) hg hm (by decide +kernel) ha (by decide) hd (star_ne hs'.1) (star_any hs'.2)
  split at h
  · rename_i z; cases h; cases sBeq_iff.mp z
    exact ok_callB (c_sorted L g.calm) hg hm (by decide +kernel) ha (by decide) hd (star_ne hs'.1) (star_any hs'.2)
  cases h
theorem tyOf_fit {Γ : Gam} {x : Str} {T : Ty} (h : tyOf Γ x = some T) : tyFit Γ.ncls T = true := by
  unfold tyOf at h
  split at h
  · cases h
  · repeat' split at h
    all_goals first | (cases h; rfl) | (cases h; exact Nat.ble_eq_true_of_le (Nat.le_refl _)) | cases h
theorem ty_ok (g : Good G den ca d Γ X) {y : Str} {T : Ty} {p : Pos} (h : tyOf Γ y = some T) : PE X (.Name y p) (tC (tVV ca T)) := by
  unfold tyOf at h
  split at h
  · cases h
  rename_i hg
  rw [Bool.and_eq_true] at hg
  have hd0 : dbg y = false := by simpa using hg.2
  have hg := g.gl_ok hg.1
  split at h
  · rename_i hf
    have hm := g.free _ (hasS_mem hf)
    split at h
    · rename_i z; cases h; cases sBeq_iff.mp z; exact pe_bltn (u := .type "int") hg hm (by decide +kernel) rfl (by decide) (by decide)
    split at h
    · rename_i z; cases h; cases sBeq_iff.mp z; exact pe_bltn (u := .type "bool") hg hm (by decide +kernel) rfl (by decide) (by decide)
    split at h
    · rename_i z; cases h; cases sBeq_iff.mp z; exact pe_bltn (u := .type "str") hg hm (by decide +kernel) rfl (by decide) (by decide)
    split at h
    · rename_i z; cases h; cases sBeq_iff.mp z; exact pe_bltn (u := .type "tuple") hg hm (by decide +kernel) rfl (by decide) (by decide)
    split at h
    · rename_i z; cases h; cases sBeq_iff.mp z; exact pe_bltn (u := .type "list") hg hm (by decide +kernel) rfl (by decide) (by decide)
    split at h
    · rename_i z; cases h; cases sBeq_iff.mp z; exact pe_bltn (u := .type "dict") hg hm (by decide +kernel) rfl (by decide) (by decide)
    cases h
  · split at h
    · rename_i c hl
      cases h
      have := g.glob _ _ (lookG_mem hl)
      obtain ⟨hm, _, _⟩ := this
      exact pe_glob (u := .ref (ca c)) hg hm rfl (dbg_no hd0).1
    · cases h
/-- everything that compiles in n steps is sound -/
structure AllOk (G : Pg I) (den : I → Int) (ca : Nat → Addr) (d n : Nat) : Prop where
  e : ∀ Γ X, Good G den ca d Γ X → ∀ e, OkE G den X ca d e (cE n Γ e)
  es : ∀ Γ X, Good G den ca d Γ X → ∀ es : List Expr, es.all notStar = true → PA X es (uA G den X ca d (cEs n Γ es))
  kv : ∀ Γ X pos, Good G den ca d Γ X → ∀ keys values l, cKV n Γ keys values = some l → PPs X pos keys values (l.map fun p => (uE G den X ca d p.1, uE G den X ca d p.2))
  o : ∀ Γ X, Good G den ca d Γ X → ∀ o, PO X o (uO G den X ca d (cO n Γ o))
  c : ∀ Γ X, Good G den ca d Γ X → ∀ ifs c, cC n Γ ifs = some c → PTs X ifs (uC G den X ca d c)
  ks : ∀ Γ X, Good G den ca d Γ X → ∀ ks : List Keyword, PK X ks (uA G den X ca d (cEs n Γ (ks.map fun k => k.value)))
  kw : ∀ Γ X, Good G den ca d Γ X → ∀ x ks p pos, OkE G den X ca d (.Call (.Name x p) [] ks pos) (cKw n Γ x ks)
  call : ∀ Γ X, Good G den ca d Γ X → ∀ x es p pos, es.all notStar = true → OkE G den X ca d (.Call (.Name x p) es [] pos) (cCall n Γ x es)
  s : ∀ Γ X, Good G den ca d Γ X → ∀ tg e, PI X tg e (uI G den X ca d (cS n Γ tg e))
theorem pi_bad {tg e : Expr} : PI X tg e (uI G den X ca d (.ex .bad)) := ⟨fun pins s σ H R I0 ⟨n, r, S, τ, s', lk, S', m, er, e, f⟩ => by
  cases n <;> cases e⟩
theorem uo_bad {e : Option Expr} : PO X e (uO G den X ca d (some .bad)) := ⟨fun pins s σ H Q I0 ⟨n, r, S, τ, v, S', m, er, e, f⟩ => by
  cases n <;> cases e⟩
theorem allOk0 (L : Lawful I den) : AllOk G den ca d 0 where
  e := fun _ _ _ _ => ok_bad
  es := fun Γ X g es hs => by
    cases es with
    | nil => exact ua_nil
    | cons e es => exact ⟨fun pos pins s σ H Q I0 ⟨n, r, S, τ, vs, S', m, er, e, f⟩ => by
        cases n with
        | zero => cases e
        | succ n => cases n <;> cases e⟩
  kv := fun Γ X pos g keys values l h => by
    unfold cKV at h
    cases keys with
    | nil =>
      cases values with
      | nil => cases h; exact pps_nil
      | cons _ _ => cases h
    | cons _ _ => cases h
  o := fun Γ X g o => by
    cases o with
    | none => exact uo_none
    | some e => exact uo_bad
  c := fun Γ X g ifs c h => by
    unfold cC at h
    cases ifs with
    | nil => cases h; exact uc_none
    | cons _ _ => cases h
  ks := fun Γ X g ks => by
    cases ks with
    | nil => exact uk_nil
    | cons k ks => exact ⟨fun pos pins s σ H Q I0 ⟨n, r, S, τ, vs, S', m, er, e, f⟩ => by
        cases n with
        | zero => cases e
        | succ n => cases n <;> cases e⟩
  kw := fun _ _ _ _ _ _ _ => ok_bad
  call := fun _ _ _ _ _ _ _ _ => ok_bad
  s := fun _ _ _ _ _ => pi_bad
theorem call_ok (L : Lawful I den) {n : Nat} (A : AllOk G den ca d n) (g : Good G den ca d Γ X) {x : Str} {es : List Expr} {p pos : Pos} (hs : es.all notStar = true) : OkE G den X ca d (.Call (.Name x p) es [] pos) (cCall (n + 1) Γ x es) := by
  have ha := A.es Γ X g es hs
  unfold cCall
  split
  · rename_i hb
    split
    · rename_i a y p' hi
      cases sBeq_iff.mp hi
      split
      · rename_i T hT
        obtain ⟨h1, h2, _⟩ := bi_ok g hb
        have hs1 : notStar a = true := by
          rw [List.all_cons, Bool.and_eq_true] at hs
          exact hs.1
        exact ok_isi g.kit (tyOf_fit hT) h1 h2 (A.e Γ X g a).pe (ty_ok g hT) (star_ne hs1) (star_ne rfl)
      · exact ok_bad
    · split
      · rename_i a hx hsa
        cases sBeq_iff.mp hx
        unfold setArg at hsa
        split at hsa
        · rename_i y py a' pq
          split at hsa
          · rename_i hy
            cases hsa
            cases sBeq_iff.mp hy
            split
            · rename_i h2
              rw [Bool.and_eq_true] at h2
              obtain ⟨h3, h4, _⟩ := bi_ok g hb
              obtain ⟨h5, h6, _⟩ := bi_ok g h2.1
              exact ok_sset L g.calm h3 h4 h5 h6 (A.e Γ X g _).pe (star_ne h2.2)
            · exact ok_bad
          · cases hsa
        · cases hsa
      · split
        · rename_i b e es' hbf _ _
          exact bif_ok L g hbf hb (.inr trivial) ha hs
        · exact ok_bad
  · split
    · rename_i i hg hl
      rw [Bool.and_eq_true] at hg
      have hd : dbg x = false := by simpa using hg.2
      obtain ⟨f, hm, hk, F⟩ := g.glob _ _ (lookG_mem hl)
      cases es with
      | nil =>
        have : cEs n Γ [] = ([] : List (Ex I)) := by cases n <;> rfl
        rw [this]
        exact ok_call0 F g.room (g.gl_ok hg.1) hm hk (dbg_no hd).1
      | cons e es =>
        have hs' := hs
        rw [List.all_cons, Bool.and_eq_true] at hs'
        exact ok_call F g.room (g.gl_ok hg.1) hm hk ha (dbg_no hd).1 (star_ne hs'.1) (star_any hs'.2)
    · rename_i c hg hl
      rw [Bool.and_eq_true] at hg
      have hd : dbg x = false := by simpa using hg.2
      obtain ⟨hm, _, hf⟩ := g.glob _ _ (lookG_mem hl)
      cases d with
      | zero =>
        have no : ∀ {k : Nat} {τ : Env I} {S S' : Sto I} {w : Val I} {ies : List (Ex I)}, (evN G k).e 0 (.new c ies none) τ S = .ok w S' → False := by
          intro k τ S S' w ies e
          cases k with
          | zero => cases e
          | succ k =>
            obtain ⟨vs, S1, e1, e⟩ := bind_ok (show e_new G (evN G k) 0 c ies none τ S = .ok w S' from e)
            obtain ⟨us, e2, e⟩ := opt_ok e
            obtain ⟨cl, e3, e⟩ := opt_ok e
            obtain ⟨y, S2, e4, e⟩ := bind_ok e
            obtain ⟨u, S3, e5, e⟩ := bind_ok e
            cases k <;> cases e5
        refine ok_val ⟨fun pins s σ H Q I0 ⟨n, r, S, τ, w, S', m, er, e, f⟩ => (no e).elim⟩ (fun _ => rfl) (fun _ _ _ h => nomatch h)
      | succ d' =>
        obtain ⟨f, cl, h1, M, F⟩ := hf d' rfl
        cases es with
        | nil =>
          have : cEs n Γ [] = ([] : List (Ex I)) := by cases n <;> rfl
          rw [this]
          exact ok_new0 h1 M F g.room (g.gl_ok hg.1) hm (dbg_no hd).1
        | cons e es =>
          have hs' := hs
          rw [List.all_cons, Bool.and_eq_true] at hs'
          exact ok_new h1 M F g.room (g.gl_ok hg.1) hm ha (dbg_no hd).1 (star_ne hs'.1) (star_any hs'.2)
    · exact ok_bad
theorem cEs_len : ∀ {n : Nat} {es : List Expr}, (cEs (I := I) n Γ es).length = es.length
  | 0, es => by unfold cEs; simp
  | n + 1, [] => by unfold cEs; rfl
  | n + 1, e :: es => by unfold cEs; rw [List.length_cons, cEs_len, List.length_cons]
theorem kw_ok {n : Nat} (A : AllOk G den ca d n) (g : Good G den ca d Γ X) {x : Str} {ks : List Keyword} {p pos : Pos} : OkE G den X ca d (.Call (.Name x p) [] ks pos) (cKw (n + 1) Γ x ks) := by
  unfold cKw
  split
  · rename_i i ps names hg hs hn
    rw [Bool.and_eq_true] at hg
    have hd : dbg x = false := by simpa using hg.2
    split
    · rename_i ix hix
      obtain ⟨f, fd, hm, hk, B, F⟩ := g.sig _ _ _ (lookSig_mem hs)
      exact ok_callKw F B g.room (g.gl_ok hg.1) hm hk (dbg_no hd).1 hn hix (A.ks Γ X g ks) (by rw [cEs_len, List.length_map])
    · exact ok_bad
  · exact ok_bad
theorem src_ok (L : Lawful I den) {n : Nat} (A : AllOk G den ca d n) (g : Good G den ca d Γ X) (tg e : Expr) : PI X tg e (uI G den X ca d (cS (n + 1) Γ tg e)) := by
  have ex := fun e => ui_ex (tg := tg) (A.e Γ X g e).pe
  have one : ∀ a, notStar a = true → PA X [a] (uA G den X ca d [cE n Γ a]) := fun a h => ua_cons (A.e Γ X g a).pe ua_nil (star_ne h)
  unfold cS
  split
  · rename_i x p es q
    split
    · rename_i hb hs
      split
      · rename_i a hr
        cases sBeq_iff.mp hr
        obtain ⟨h1, h2, _⟩ := bi_ok g hb
        have hs1 : notStar a = true := by simpa using hs
        exact ui_rng1 L h1 h2 (one a hs1) (by rw [star_ne hs1]; rfl)
      · rename_i a b hr
        cases sBeq_iff.mp hr
        obtain ⟨h1, h2, _⟩ := bi_ok g hb
        have hs1 : notStar a = true ∧ notStar b = true := by simpa using hs
        exact ui_rng2 L h1 h2 (ua_cons (A.e Γ X g a).pe (one b hs1.2) (star_ne hs1.1)) (by rw [star_ne hs1.1, star_ne hs1.2]; rfl) (by rw [star_ne hs1.2]; rfl)
      · rename_i a _ hr
        cases sBeq_iff.mp hr
        obtain ⟨h1, h2, _⟩ := bi_ok g hb
        have hs1 : notStar a = true := by simpa using hs
        split
        · exact ui_enu h1 h2 (one a hs1) (by rw [star_ne hs1]; rfl)
        · exact pi_bad
      · exact ex _
    · exact ex _
  · rename_i o m apos p
    split
    · rename_i hm
      cases sBeq_iff.mp hm
      split
      · rename_i h
        rw [Bool.and_eq_true] at h
        exact ui_itm (A.e Γ X g o).pe (attr_ok h.1) h.2
      · exact pi_bad
    · exact ex _
  · exact pi_bad
  · exact ex _
end
end Pz
set_option Elab.async false
set_option linter.all false
set_option maxRecDepth 100000
set_option maxHeartbeats 8000000
namespace Pz
open PySem L2
section
variable {I : Type} [IOps I] {G : Pg I} {den : I → Int} {ca : Nat → Addr} {d : Nat} {Γ : Gam} {X : Cx}
theorem comp_ok (L : Lawful I den) {n : Nat} (A : AllOk G den ca d n) (g : Good G den ca d Γ X) {elt : Expr} {gens : List Comprehension} {scope : Scope} {pos : Pos} : OkE G den X ca d (.ListComp elt gens scope pos) (cE (n + 1) Γ (.ListComp elt gens scope pos)) := by
  unfold cE
  simp only
  split
  · rename_i hb
    have ok : BlkOk X.N X.env.scope scope (ownOf Γ.names scope.names) := by rw [g.names, g.sc]; exact blkB_ok hb
    have nd : X.N.Nodup := by rw [g.names]; exact g.nd
    split
    · rename_i tg iter ifs
      split
      · rename_i t c ht hc
        split
        · rename_i hsl
          rw [Bool.and_eq_true] at hsl
          have gb := fun s H C cl fp => g.blk hb s H C cl fp
          exact ok_lc L g.calm nd (A.s Γ X g tg iter) ok (slots_own hsl.1) (fun s H C cl fp => (cG_ok (gb s H C cl fp) n).1 _ _ ht) (fun s H C cl fp => A.c _ _ (gb s H C cl fp) _ _ hc) (fun s H C cl fp => (A.e _ _ (gb s H C cl fp) elt).pe) (folded_no hsl.2)
        · exact ok_bad
      · exact ok_bad
    · rename_i tg iter tg2 iter2 ifs
      split
      · rename_i t t2 c ht ht2 hc
        split
        · rename_i hsl
          rw [Bool.and_eq_true, Bool.and_eq_true] at hsl
          have gb := fun s H C cl fp => g.blk hb s H C cl fp
          have so := slots_own hsl.1
          exact ok_lc2 L g.calm nd (A.s Γ X g tg iter) ok (fun i hi => so i (List.mem_append_left _ hi)) (fun i hi => so i (List.mem_append_right _ hi)) (fun s H C cl fp => (cG_ok (gb s H C cl fp) n).1 _ _ ht) (fun s H C cl fp => A.s _ _ (gb s H C cl fp) tg2 iter2) (fun s H C cl fp => (cG_ok (gb s H C cl fp) n).1 _ _ ht2) (fun s H C cl fp => A.c _ _ (gb s H C cl fp) _ _ hc) (fun s H C cl fp => (A.e _ _ (gb s H C cl fp) elt).pe) (folded_no hsl.2.1) (fun env => folded_no hsl.2.2)
        · exact ok_bad
      · exact ok_bad
    · exact ok_bad
  · exact ok_bad
theorem dcomp_ok (L : Lawful I den) {n : Nat} (A : AllOk G den ca d n) (g : Good G den ca d Γ X) {k v : Expr} {gens : List Comprehension} {scope : Scope} {pos : Pos} : OkE G den X ca d (.DictComp k v gens scope pos) (cE (n + 1) Γ (.DictComp k v gens scope pos)) := by
  unfold cE
  simp only
  split
  · rename_i hb
    have ok : BlkOk X.N X.env.scope scope (ownOf Γ.names scope.names) := by rw [g.names, g.sc]; exact blkB_ok hb
    have nd : X.N.Nodup := by rw [g.names]; exact g.nd
    split
    · rename_i tg iter
      split
      · rename_i t ht
        split
        · rename_i hsl
          rw [Bool.and_eq_true] at hsl
          have gb := fun s H C cl fp => g.blk hb s H C cl fp
          exact ok_dc L g.hu g.calm nd (A.s Γ X g tg iter) ok (slots_own hsl.1) (fun s H C cl fp => (cG_ok (gb s H C cl fp) n).1 _ _ ht) (fun s H C cl fp => (A.e _ _ (gb s H C cl fp) k).pe) (fun s H C cl fp => (A.e _ _ (gb s H C cl fp) v).pe) (folded_no hsl.2)
        · exact ok_bad
      · exact ok_bad
    · exact ok_bad
  · exact ok_bad
theorem bool_ok {n : Nat} (A : AllOk G den ca d n) (g : Good G den ca d Γ X) {op : BoolOp} {es : List Expr} {pos : Pos} : OkE G den X ca d (.BoolOp op es pos) (cE (n + 1) Γ (.BoolOp op es pos)) := by
  unfold cE
  simp only
  split
  · exact ok_one (A.e Γ X g _)
  · cases op with
    | And => exact ok_and (A.e Γ X g _) (A.e Γ X g _)
    | Or => exact ok_or (A.e Γ X g _) (A.e Γ X g _)
  · exact ok_bad
theorem comp_cmp (L : Lawful I den) {n : Nat} (A : AllOk G den ca d n) (g : Good G den ca d Γ X) {a : Expr} {ops : List CmpOp} {bs : List Expr} {pos : Pos} : OkE G den X ca d (.Compare a ops bs pos) (cE (n + 1) Γ (.Compare a ops bs pos)) := by
  unfold cE
  simp only
  split
  · rename_i op b
    split
    · rename_i h
      rw [Bool.and_eq_true] at h
      obtain ⟨x, p, t, rfl, h1, h2, h3, T⟩ := tab_ok g h.2
      have : op = .In := by
        cases op <;> first | rfl | (have := h.1; cases this)
      subst this
      exact ok_tin T h2 h3 h1 (A.e Γ X g a).pe
    · split
      · rename_i hm
        have e := copO_ok op
        rw [e] at hm
        have := ok_cmp L g.hu (pos := pos) (o := copO op) (A.e Γ X g a).pe (A.e Γ X g b).pe hm
        rw [← e] at this
        exact this
      · exact ok_bad
  · rename_i o p b c
    split
    · rename_i hm
      have e1 := copO_ok o
      have e2 := copO_ok p
      rw [e1, e2] at hm
      have := ok_chn L g.hu (pos := pos) (o := copO o) (p := copO p) (A.e Γ X g a).pe (A.e Γ X g b).pe (A.e Γ X g c).pe hm
      rw [← e1, ← e2] at this
      exact this
    · exact ok_bad
  · exact ok_bad
theorem callx_ok (L : Lawful I den) {n : Nat} (A : AllOk G den ca d n) (g : Good G den ca d Γ X) {f : Expr} {es : List Expr} {ks : List Keyword} {pos : Pos} : OkE G den X ca d (.Call f es ks pos) (cE (n + 1) Γ (.Call f es ks pos)) := by
  unfold cE
  simp only
  split
  · rename_i hs
    split
    · exact A.call Γ X g _ es _ pos hs
    · rename_i o m apos
      split
      · rename_i h
        rw [Bool.and_eq_true, Bool.and_eq_true] at h
        have hz : es = [] → cEs (I := I) n Γ es = [] := fun e => by subst e; cases n <;> rfl
        have hl := blt_lt h.2
        split
        · rename_i k hk
          exact bmt_ok L g hk (A.e Γ X g o).pe (A.es Γ X g es hs) hz hs h.1.1 h.1.2 hl
        · have few : methodCallForm (es.length + ([] : List Keyword).length) (backTo pos (starEach es X.env)) (backToKw pos (keywordEach [] X.env)) = true := few_ok hs hl
          refine ok_mth (fun c cl i h1 h2 => g.mths m c cl i h1 h2) g.room (A.e Γ X g o).pe (A.es Γ X g es hs) hz (fun e r he => ?_) (mth_form (attr_ok h.1.1) few h.1.2)
          subst he
          rw [List.all_cons, Bool.and_eq_true] at hs
          exact ⟨star_ne hs.1, star_any hs.2⟩
      · exact ok_bad
    · exact ok_bad
  · split
    · exact A.kw Γ X g _ _ _ _
    · exact ok_bad
  · exact ok_bad
theorem expr_ok (L : Lawful I den) {n : Nat} (A : AllOk G den ca d n) (g : Good G den ca d Γ X) (e : Expr) : OkE G den X ca d e (cE (n + 1) Γ e) := by
  cases e with
  | Constant c k pos =>
    unfold cE
    cases c with
    | int i => exact ok_int L
    | bool b => exact ok_bl
    | str s => exact ok_str
    | none => exact ok_non
    | _ => exact ok_bad
  | Name x pos => unfold cE; exact ok_name L g
  | BinOp a op b pos =>
    unfold cE
    simp only
    split
    · rename_i o h
      have := bopO_ok h
      subst this
      exact ok_bin L (A.e Γ X g a).pe (A.e Γ X g b).pe
    · exact ok_bad
  | UnaryOp op a pos =>
    unfold cE
    cases op with
    | Not => exact ok_not (A.e Γ X g a)
    | USub => exact ok_neg L (A.e Γ X g a).pe un_neg
    | _ => exact ok_bad
  | BoolOp op es pos => exact bool_ok A g
  | Compare a ops bs pos => exact comp_cmp L A g
  | IfExp c a b pos => unfold cE; exact ok_ite (A.e Γ X g c).pt (A.e Γ X g a) (A.e Γ X g b)
  | Tuple es k pos =>
    unfold cE
    simp only
    split
    · rename_i hs
      exact ok_tup (A.es Γ X g es hs)
    · exact ok_bad
  | List es pos =>
    unfold cE
    simp only
    split
    · rename_i hs
      exact ok_lst (A.es Γ X g es hs)
    · exact ok_bad
  | Dict keys values pos =>
    unfold cE
    simp only
    split
    · rename_i h
      rw [Bool.and_eq_true, Bool.and_eq_true] at h
      have hl := Nat.eq_of_beq_eq_true h.1.2
      have h15 := Nat.le_of_ble_eq_true h.2
      split
      · rename_i l hk
        have P := A.kv Γ X pos g keys values l hk
        by_cases h0 : keys = []
        · subst h0
          have hv : values = [] := List.length_eq_zero_iff.mp hl.symm
          subst hv
          have : l = [] := by
            cases n <;> (unfold cKV at hk; cases hk; rfl)
          subst this
          exact ok_dic0
        · exact ok_dic L g.hu P h.1.1 hl h0 h15
      · exact ok_bad
    · exact ok_bad
  | Subscript a b pos =>
    unfold cE
    simp only
    split
    · rename_i lo hi st p2
      split
      · exact ok_slc (A.e Γ X g a).pe (A.o Γ X g lo) (A.o Γ X g hi)
      · exact ok_bad
    · rename_i hno
      have hx : ixOk b = true := by
        cases b <;> first | rfl | exact absurd rfl (hno _ _ _ _)
      split
      · rename_i h
        obtain ⟨x, p, t, rfl, h1, h2, h3, T⟩ := tab_ok g h
        exact ok_tix L T h2 h3 h1 (A.e Γ X g b).pe (plain_ix hx)
      · exact ok_idx L g.hu (A.e Γ X g a).pe (A.e Γ X g b).pe (plain_ix hx)
  | Attribute a f pos =>
    unfold cE
    simp only
    split
    · rename_i h
      rw [Bool.and_eq_true] at h
      exact ok_fld (g.flds f (hasS_mem h.2)) (A.e Γ X g a).pe (attr_ok h.1)
    · exact ok_bad
  | Call f es ks pos => exact callx_ok L A g
  | ListComp elt gens scope pos => exact comp_ok L A g
  | DictComp k v gens scope pos => exact dcomp_ok L A g
  | _ => unfold cE; exact ok_bad
theorem allOk_succ (L : Lawful I den) {n : Nat} (A : AllOk G den ca d n) : AllOk G den ca d (n + 1) where
  e := fun Γ X g e => expr_ok L A g e
  es := fun Γ X g es hs => by
    cases es with
    | nil => unfold cEs; exact ua_nil
    | cons e es =>
      rw [List.all_cons, Bool.and_eq_true] at hs
      unfold cEs
      exact ua_cons (A.e Γ X g e).pe (A.es Γ X g es hs.2) (star_ne hs.1)
  kv := fun Γ X pos g keys values l h => by
    unfold cKV at h
    cases keys with
    | nil =>
      cases values with
      | nil => cases h; exact pps_nil
      | cons _ _ => cases h
    | cons k ks =>
      cases k with
      | none => cases values <;> cases h
      | some k =>
        cases values with
        | nil => cases h
        | cons v vs =>
          simp only at h
          split at h
          · rename_i l' h1
            cases h
            exact pps_u (A.e Γ X g k).pe (A.e Γ X g v).pe (A.kv Γ X pos g ks vs l' h1)
          · cases h
  o := fun Γ X g o => by
    cases o with
    | none => unfold cO; exact uo_none
    | some e => unfold cO; exact uo_some L (A.e Γ X g e).pe
  c := fun Γ X g ifs c h => by
    unfold cC at h
    cases ifs with
    | nil => cases h; exact uc_none
    | cons i is =>
      cases is with
      | nil => cases h; exact uc_some (A.e Γ X g i).pt
      | cons _ _ => cases h
  ks := fun Γ X g ks => by
    cases ks with
    | nil => unfold cEs; exact uk_nil
    | cons k ks =>
      show PK X (k :: ks) (uA G den X ca d (cE n Γ k.value :: cEs n Γ (ks.map fun k => k.value)))
      exact uk_cons (A.e Γ X g k.value).pe (A.ks Γ X g ks)
  kw := fun Γ X g x ks p pos => kw_ok A g
  call := fun Γ X g x es p pos hs => call_ok L A g hs
  s := fun Γ X g tg e => src_ok L A g tg e
theorem allOk (L : Lawful I den) : ∀ n, AllOk G den ca d n
  | 0 => allOk0 L
  | n + 1 => allOk_succ L (allOk L n)
end
end Pz
set_option Elab.async false
set_option linter.all false
set_option maxRecDepth 100000
set_option maxHeartbeats 8000000
namespace Pz
open PySem L2
section
variable {I : Type} [IOps I]
/-- is the value a comprehension that is stored as its last step -/
def swB (Γ : Gam) (v : Expr) (t : Str) (p : Pos) : Bool := match v with
  | .ListComp _ _ s vp => kindIs (Γ.kind t) .local && (p.line == vp.line) && !(s.names.any fun (n, k) => n == t && (k == .local || k == .cell))
  | .SetComp _ _ s vp => kindIs (Γ.kind t) .local && (p.line == vp.line) && !(s.names.any fun (n, k) => n == t && (k == .local || k == .cell))
  | .DictComp _ _ _ s vp => kindIs (Γ.kind t) .local && (p.line == vp.line) && !(s.names.any fun (n, k) => n == t && (k == .local || k == .cell))
  | _ => false
theorem kind_is {k : Option NameKind} : (k == some NameKind.local) = kindIs k .local := by
  cases k with
  | none => rfl
  | some q => cases q <;> rfl
theorem swB_ok {Γ : Gam} {env : PySem.Env} (h1 : env.scope = Γ.sc) (h2 : Γ.sc.kind = .function) {v : Expr} {t : Str} {p : Pos} {l : Nat} : swapsWith v (some (.Name t p)) l env = pure (swB Γ v t p) := by
  have hb : env.blockKind = .function := by unfold Env.blockKind; rw [h1, h2]; rfl
  have hk : env.kindOf t = Γ.kind t := by show env.scope.names.lookup t = Γ.sc.names.lookup t; rw [h1]
  unfold swB
  split
  · unfold swapsWith; simp only [hb, hk, Expr.pos, kind_is]; rfl
  · unfold swapsWith; simp only [hb, hk, Expr.pos, kind_is]; rfl
  · unfold swapsWith; simp only [hb, hk, Expr.pos, kind_is]; rfl
  · rename_i h1 h2 h3
    cases v <;> first | rfl | exact absurd rfl (h1 _ _ _ _) | exact absurd rfl (h2 _ _ _ _) | exact absurd rfl (h3 _ _ _ _ _)
def isTupE : Expr → Bool
  | .Tuple _ _ _ => true
  | .List _ _ => true
  | _ => false
theorem sw_none {t v : Expr} {env : PySem.Env} (h : isTupE t = false ∨ isTupE v = false) : swappedStores [t] v env = pure none := by
  rcases h with h | h
  · cases t <;> first | rfl | cases h
  · cases v <;> first | (cases t <;> rfl) | cases h
/-- a, b = x, y: two or three local names on one line -/
def parI (Γ : Gam) (ts : List Expr) : Option (List Nat) := match ts with
  | [] => some []
  | .Name x p :: r => match kindIs (Γ.kind x) .local, slotOf x Γ.names 0, parI Γ r with
    | true, some i, some l => some (i :: l)
    | _, _, _ => none
  | _ => none
def lineEq (ts : List Expr) : Bool := match ts with
  | .Name x p :: r => (.Name x p :: r).all fun e => e.pos.line == p.line
  | _ => false
/-- the program's form of a statement -/
def cT1 (n : Nat) (Γ : Gam) : Stmt → St I
  | .Expr v pos => (match v with
    | .Constant (.str _) _ _ => .pass
    | _ => (match noComp v with
      | true => .expr (cE n Γ v)
      | false => .rais 0))
  | .Return (some v) _ => .ret (cE n Γ v)
  | .Return none _ => .retN
  | .Pass _ => .pass
  | .Continue _ => .cont
  | .Assign ts v _ => (match ts with
    | [.Name x p] => (match Γ.sto x, slotOf x Γ.names 0 with
      | true, some i => .set i (cE n Γ v)
      | _, _ => .rais 0)
    | [.Attribute o f _] => (match noComp v && hasS f Γ.flds with
      | true => .setF (cE n Γ o) f (cE n Γ v)
      | false => .rais 0)
    | [.Subscript o i _] => (match noComp v && ixOk i with
      | true => .setI (cE n Γ o) (cE n Γ i) (cE n Γ v)
      | false => .rais 0)
    | [.Tuple es k p] => (match noComp v && !(isTupE v), cG n Γ (.Tuple es k p) with
      | true, some g => .setT g (cE n Γ v)
      | _, _ => .rais 0)
    | _ => .rais 0)
  | .AugAssign t op v _ => (match t, bopO op with
    | .Attribute o f _, some b => (match hasS f Γ.flds with
      | true => .augF (cE n Γ o) f b (cE n Γ v)
      | false => .rais 0)
    | _, _ => .rais 0)
  | _ => .rais 0
variable {G : Pg I} {den : I → Int} {ca : Nat → Addr} {d : Nat} {Γ : Gam} {X : Cx}
theorem us_setbad {i : Nat} {st : Stmt} : PS X st (uS G den X ca d (.set i .bad)) := by
  refine ⟨fun pins s σ H D I0 ⟨n, r, S, τ, fl, τ', S', m, er, e, f⟩ => ?_⟩
  exfalso
  cases n with
  | zero => cases e
  | succ n =>
    obtain ⟨v, S1, e1, e⟩ := bind_ok (show s_set (evN G n) d i .bad τ S = .ok (fl, τ') S' from e)
    cases n <;> cases e1
theorem set_ok (L : Lawful I den) (g : Good G den ca d Γ X) (n : Nat) {x : Str} {i : Nat} (hx : Γ.sto x = true) (hi : slotOf x Γ.names 0 = some i) {v : Expr} {p pos : Pos} : PS X (.Assign [.Name x p] v pos) (uS G den X ca d (.set i (cE n Γ v))) := by
  have A := allOk (G := G) (ca := ca) (d := d) L
  have nd : X.N.Nodup := by rw [g.names]; exact g.nd
  obtain ⟨h1, h2⟩ := g.sto_ok hx
  have sw := swB_ok (env := X.env) g.sc g.kind (v := v) (t := x) (p := p) (l := pos.line)
  cases hb : swB Γ v x p with
  | false =>
    rw [hb] at sw
    exact us_set nd (g.slot hi) h1 ((A n).e Γ X g v).pe sw h2
  | true =>
    rw [hb] at sw
    cases n with
    | zero => exact us_setbad
    | succ n =>
      unfold swB at hb
      split at hb
      · rename_i elt gens scope vp
        rw [Bool.and_eq_true, Bool.and_eq_true] at hb
        have hyl : X.env.scope.names.lookup x = some .local := by rw [g.sc]; exact kindIs_ok hb.1.1
        unfold cE
        simp only
        split
        · rename_i hbk
          have ok : BlkOk X.N X.env.scope scope (ownOf Γ.names scope.names) := by rw [g.names, g.sc]; exact blkB_ok hbk
          have gb := fun s H C cl fp => g.blk hbk s H C cl fp
          split
          · rename_i tg iter ifs
            split
            · rename_i t c ht hc
              split
              · rename_i hsl
                rw [Bool.and_eq_true] at hsl
                exact us_setLc L g.calm nd (g.slot hi) hyl sw ((A n).s Γ X g tg iter) ok (slots_own hsl.1) (fun s H C cl fp => (cG_ok (gb s H C cl fp) n).1 _ _ ht) (fun s H C cl fp => (A n).c _ _ (gb s H C cl fp) _ _ hc) (fun s H C cl fp => ((A n).e _ _ (gb s H C cl fp) elt).pe) (folded_no hsl.2)
              · exact us_setbad
            · exact us_setbad
          · rename_i tg iter tg2 iter2 ifs
            split
            · rename_i t t2 c ht ht2 hc
              split
              · rename_i hsl
                rw [Bool.and_eq_true, Bool.and_eq_true] at hsl
                have so := slots_own hsl.1
                exact us_setLc2 L g.calm nd (g.slot hi) hyl sw ((A n).s Γ X g tg iter) ok (fun i hi => so i (List.mem_append_left _ hi)) (fun i hi => so i (List.mem_append_right _ hi)) (fun s H C cl fp => (cG_ok (gb s H C cl fp) n).1 _ _ ht) (fun s H C cl fp => (A n).s _ _ (gb s H C cl fp) tg2 iter2) (fun s H C cl fp => (cG_ok (gb s H C cl fp) n).1 _ _ ht2) (fun s H C cl fp => (A n).c _ _ (gb s H C cl fp) _ _ hc) (fun s H C cl fp => ((A n).e _ _ (gb s H C cl fp) elt).pe) (folded_no hsl.2.1) (fun env => folded_no hsl.2.2)
              · exact us_setbad
            · exact us_setbad
          · exact us_setbad
        · exact us_setbad
      · exact us_setbad
      · rename_i k v' gens scope vp
        rw [Bool.and_eq_true, Bool.and_eq_true] at hb
        have hyl : X.env.scope.names.lookup x = some .local := by rw [g.sc]; exact kindIs_ok hb.1.1
        unfold cE
        simp only
        split
        · rename_i hbk
          have ok : BlkOk X.N X.env.scope scope (ownOf Γ.names scope.names) := by rw [g.names, g.sc]; exact blkB_ok hbk
          have gb := fun s H C cl fp => g.blk hbk s H C cl fp
          split
          · rename_i tg iter
            split
            · rename_i t ht
              split
              · rename_i hsl
                rw [Bool.and_eq_true] at hsl
                exact us_setDc L g.hu g.calm nd (g.slot hi) hyl sw ((A n).s Γ X g tg iter) ok (slots_own hsl.1) (fun s H C cl fp => (cG_ok (gb s H C cl fp) n).1 _ _ ht) (fun s H C cl fp => ((A n).e _ _ (gb s H C cl fp) k).pe) (fun s H C cl fp => ((A n).e _ _ (gb s H C cl fp) v').pe) (folded_no hsl.2)
              · exact us_setbad
            · exact us_setbad
          · exact us_setbad
        · exact us_setbad
      · cases hb
end
end Pz
set_option Elab.async false
set_option linter.all false
set_option maxRecDepth 100000
set_option maxHeartbeats 8000000
namespace Pz
open PySem L2
section
variable {I : Type} [IOps I] {G : Pg I} {den : I → Int} {ca : Nat → Addr} {d : Nat} {Γ : Gam} {X : Cx}
theorem asg_sub {o i : Expr} {tpos : Pos} {env : PySem.Env} (h : ixOk i = true) : ∀ v, assign (.Subscript o i tpos) env v = (do
      let ov ← holding [v] (eval o env)
      let iv ← holding [v, ov] (eval i env)
      standAt tpos
      holding [v, ov, iv] (setItem ov iv v)
      release [v, ov, iv] []) := by
  intro v
  cases i <;> first | rfl | cases h
theorem t1_ok (L : Lawful I den) (g : Good G den ca d Γ X) (n : Nat) (st : Stmt) : PS X st (uS G den X ca d (cT1 n Γ st)) := by
  have A := (allOk (G := G) (ca := ca) (d := d) L n).e Γ X g
  cases st with
  | Expr v pos =>
    unfold cT1
    simp only
    split
    · exact us_doc
    · split
      · rename_i h
        exact us_expr (A v).pe (swaps_no h)
      · exact us_rais
  | Return v pos =>
    unfold cT1
    cases v with
    | none => exact us_retN
    | some v => exact us_ret (A v).pe
  | Pass pos => unfold cT1; exact us_pass
  | Continue pos => unfold cT1; exact us_cont
  | Assign ts v pos =>
    unfold cT1
    simp only
    split
    · split
      · rename_i h1 h2
        exact set_ok L g n h1 h2
      · exact us_rais
    · split
      · rename_i h
        rw [Bool.and_eq_true] at h
        exact us_setF (g.flds _ (hasS_mem h.2)) (A _).pe (A v).pe (swaps_no h.1)
      · exact us_rais
    · rename_i o i tp
      split
      · rename_i h
        rw [Bool.and_eq_true] at h
        exact us_setI L g.hu (A _).pe (A _).pe (A v).pe (asg_sub h.2) (by unfold swapsWithSole; exact swaps_no h.1) (sw_none (.inl rfl)) rfl
      · exact us_rais
    · rename_i es k p
      split
      · rename_i t h ht
        rw [Bool.and_eq_true] at h
        have hv : isTupE v = false := by simpa using h.2
        exact us_setT (A v).pe ((cG_ok g n).1 _ _ ht) (by unfold swapsWithSole; exact swaps_no h.1) (sw_none (.inr hv)) rfl
      · exact us_rais
    · exact us_rais
  | AugAssign t op v pos =>
    unfold cT1
    simp only
    split
    · rename_i o f tp b hb
      have := bopO_ok hb
      subst this
      split
      · rename_i h
        exact us_augF L (g.flds _ (hasS_mem h)) (A _).pe (A v).pe
      · exact us_rais
    · exact us_rais
  | _ => unfold cT1; exact us_rais
end
end Pz
set_option Elab.async false
set_option linter.all false
set_option maxRecDepth 100000
set_option maxHeartbeats 8000000
namespace Pz
open PySem L2
def swNone (ts vs : List Expr) : Bool := vs.all (foldedForSure 8) || (!(ts.length == 2 || ts.length == 3) || vs.length != ts.length)
theorem sw_tupnone {ts vs : List Expr} {k1 k2 : Nat} {p1 p2 : Pos} {env : PySem.Env} (h : swNone ts vs = true) : swappedStores [.Tuple ts k1 p1] (.Tuple vs k2 p2) env = pure none := by
  unfold swNone at h
  rw [Bool.or_eq_true] at h
  unfold swappedStores
  simp only
  rcases h with h | h
  · split
    · rfl
    · split
      · rfl
      · split
        · rfl
        · rfl
  · have : (!(ts.length == 2 || ts.length == 3) || vs.length != ts.length || env.blockKind != .function) = true := by
      rw [h]; rfl
    rw [if_pos this]
/-- a target that is no local's name -/
def notLoc (kind : Str → Option NameKind) (t : Expr) : Bool := match t with
  | .Name x _ => !(kindIs (kind x) .local)
  | _ => true
theorem fm_short {f : Expr → Option Str} : ∀ {ts : List Expr}, (ts.any fun t => (f t).isNone) = true → (ts.filterMap f).length < ts.length
  | [], h => by cases h
  | t :: ts, h => by
    rw [List.any_cons, Bool.or_eq_true] at h
    have l := List.length_filterMap_le f ts
    rw [List.filterMap_cons]
    cases e : f t with
    | none => exact Nat.lt_succ_of_le l
    | some x =>
      rcases h with h | h
      · rw [e] at h; cases h
      · have := fm_short h
        show (ts.filterMap f).length + 1 < ts.length + 1
        omega
theorem sw_tupcell {ts vs : List Expr} {k1 k2 : Nat} {p1 p2 : Pos} {env : PySem.Env} (h : ts.any (notLoc env.kindOf) = true) : swappedStores [.Tuple ts k1 p1] (.Tuple vs k2 p2) env = pure none := by
  have key : ∀ line : Nat, (ts.filterMap fun e => match e with
    | .Name id pos => if (env.kindOf id == some .local && pos.line == line) = true then some id else none
    | _ => none).length < ts.length := fun line => fm_short (by
      obtain ⟨t, h1, h2⟩ := List.any_eq_true.mp h
      refine List.any_eq_true.mpr ⟨t, h1, ?_⟩
      cases t with
      | Name x p =>
        have h2 : (!(kindIs (env.kindOf x) .local)) = true := h2
        have h3 : (env.kindOf x == some .local) = false := by
          cases e : env.kindOf x with
          | none => rfl
          | some k =>
            rw [e] at h2
            cases k <;> first | rfl | cases h2
        simp [h3]
      | _ => rfl)
  unfold swappedStores
  simp only
  split
  · rfl
  · split
    · rfl
    · have : (((ts.filterMap fun e => match e with
        | .Name id pos => if (env.kindOf id == some .local && pos.line == (ts.head?.map (·.pos.line)).getD 0) = true then some id else none
        | _ => none).length != ts.length) = true) := by
        have := key ((ts.head?.map (·.pos.line)).getD 0)
        simp only [bne_iff_ne]
        omega
      rw [if_pos (by rw [Bool.or_eq_true]; exact .inl this)]
theorem star_no : ∀ a : Expr, notStar a = true → (match a with | .Starred _ _ => true | _ => false) = false := by
  intro a h
  cases a <;> first | rfl | cases h
theorem sw_two {x y : Str} {px py p1 p2 : Pos} {k1 k2 : Nat} {a b : Expr} {env : PySem.Env} (hb : env.blockKind = .function) (hx : env.kindOf x = some .local) (hy : env.kindOf y = some .local) (hl : (py.line == px.line) = true) (hne : y ≠ x) (ha : notStar a = true) (hb2 : notStar b = true)
    (hf : [a, b].all (foldedForSure 8) = false) (hc : [a, b].all (constantsAlone 8) = false) : swappedStores [.Tuple [.Name x px, .Name y py] k1 p1] (.Tuple [a, b] k2 p2) env = pure (some [x, y]) := by
  unfold swappedStores
  have e1 := star_no a ha
  have e2 := star_no b hb2
  have e3 : ([x, y] : List Str).eraseDups.length = 2 := by
    have : (y == x) = false := beq_eq_false_iff_ne.mpr hne
    simp [List.eraseDups_cons, this]
  simp only [List.any_cons, List.any_nil, List.all_cons, List.all_nil] at hf hc ⊢
  have hl' := beq_iff_eq.mp hl
  simp [e1, e2, hb, hx, hy, hl', List.filterMap_cons, hf, hc, Expr.pos, e3]
  simp at hf hc
  rw [if_neg (by simp; exact ⟨e1, e2⟩), if_neg (by simpa using hf), if_neg (by simpa using hc)]
theorem sw_three {x y z : Str} {px py pz p1 p2 : Pos} {k1 k2 : Nat} {a b c : Expr} {env : PySem.Env} (hb : env.blockKind = .function) (hx : env.kindOf x = some .local) (hy : env.kindOf y = some .local) (hz : env.kindOf z = some .local) (hl : (py.line == px.line) = true) (hl2 : (pz.line == px.line) = true) (h1 : y ≠ x) (h2 : z ≠ x) (h3 : z ≠ y) (ha : notStar a = true) (hb2 : notStar b = true) (hc2 : notStar c = true)
    (hf : [a, b, c].all (foldedForSure 8) = false) (hc : [a, b, c].all (constantsAlone 8) = false) : swappedStores [.Tuple [.Name x px, .Name y py, .Name z pz] k1 p1] (.Tuple [a, b, c] k2 p2) env = pure (some [x, y, z]) := by
  unfold swappedStores
  have e1 := star_no a ha
  have e2 := star_no b hb2
  have e4 := star_no c hc2
  have e3 : ([x, y, z] : List Str).eraseDups.length = 3 := by
    have q1 : (y == x) = false := beq_eq_false_iff_ne.mpr h1
    have q2 : (z == x) = false := beq_eq_false_iff_ne.mpr h2
    have q3 : (z == y) = false := beq_eq_false_iff_ne.mpr h3
    simp [List.eraseDups_cons, q1, q2, q3]
  simp only [List.any_cons, List.any_nil, List.all_cons, List.all_nil] at hf hc ⊢
  have hl' := beq_iff_eq.mp hl
  have hl2' := beq_iff_eq.mp hl2
  simp [e1, e2, e4, hb, hx, hy, hz, hl', hl2', List.filterMap_cons, hf, hc, Expr.pos, e3]
  simp at hf hc
  rw [if_neg (by simp; exact ⟨e1, e2, e4⟩), if_neg (by simpa using hf), if_neg (by simpa using hc)]
section
variable {I : Type} [IOps I] {G : Pg I} {den : I → Int} {ca : Nat → Addr} {d : Nat} {Γ : Gam} {X : Cx}
def plainV (vs : List Expr) : Bool := vs.all notStar && (!(vs.all (foldedForSure 8)) && !(vs.all (constantsAlone 8)))
/-- a local's slot -/
def locSlot (Γ : Gam) (x : Str) : Option Nat := match kindIs (Γ.kind x) .local, slotOf x Γ.names 0 with
  | true, some i => some i
  | _, _ => none
/-- a tuple of targets, a tuple of values -/
def cP (n : Nat) (Γ : Gam) (ts vs : List Expr) (v : Expr) : St I := match swNone ts vs with
  | true => (match cG n Γ (.Tuple ts 0 ⟨0, 0, 0, 0⟩) with
    | some g => .setT g (cE n Γ v)
    | none => .rais 0)
  | false => match ts.any (notLoc Γ.kind) with
    | true => (match cG n Γ (.Tuple ts 0 ⟨0, 0, 0, 0⟩) with
      | some g => .setT g (cE n Γ v)
      | none => .rais 0)
    | false => (match ts, vs with
    | [.Name x px, .Name y py], [a, b] => (match locSlot Γ x, locSlot Γ y, (py.line == px.line) && plainV [a, b] with
      | some i, some j, true => (match Nat.beq i j with
        | false => .par [i, j] [cE n Γ a, cE n Γ b]
        | true => .rais 0)
      | _, _, _ => .rais 0)
    | [.Name x px, .Name y py, .Name z pz], [a, b, c] => (match locSlot Γ x, locSlot Γ y, locSlot Γ z, (py.line == px.line) && (pz.line == px.line) && plainV [a, b, c] with
      | some i, some j, some l, true => (match Nat.beq i j || Nat.beq i l || Nat.beq j l with
        | false => .par [i, j, l] [cE n Γ a, cE n Γ b, cE n Γ c]
        | true => .rais 0)
      | _, _, _, _ => .rais 0)
    | _, _ => .rais 0)
def cT2 (n : Nat) (Γ : Gam) (st : Stmt) : St I := match st with
  | .Assign [.Tuple ts _ _] (.Tuple vs k p) _ => cP n Γ ts vs (.Tuple vs k p)
  | st => cT1 n Γ st
theorem locSlot_ok (g : Good G den ca d Γ X) {x : Str} {i : Nat} (h : locSlot Γ x = some i) : X.N[i]? = some x ∧ X.env.scope.names.lookup x = some .local ∧ X.env.kindOf x = some .local := by
  unfold locSlot at h
  split at h
  · rename_i j h1 h2
    cases h
    have : X.env.scope.names.lookup x = some .local := by rw [g.sc]; exact kindIs_ok h1
    exact ⟨g.slot h2, this, this⟩
  · cases h
theorem cG_pos {n : Nat} {ts : List Expr} {k k' : Nat} {p p' : Pos} : cG n Γ (.Tuple ts k p) = cG n Γ (.Tuple ts k' p') := by
  cases n <;> rfl
theorem Good.blockKind (g : Good G den ca d Γ X) : X.env.blockKind = .function := by unfold Env.blockKind; rw [g.sc, g.kind]; rfl
theorem plainV_ok {vs : List Expr} (h : plainV vs = true) : vs.all notStar = true ∧ vs.all (foldedForSure 8) = false ∧ vs.all (constantsAlone 8) = false := by
  unfold plainV at h
  rw [Bool.and_eq_true, Bool.and_eq_true] at h
  exact ⟨h.1, by simpa using h.2.1, by simpa using h.2.2⟩
theorem t2_ok (L : Lawful I den) (g : Good G den ca d Γ X) (n : Nat) (st : Stmt) : PS X st (uS G den X ca d (cT2 n Γ st)) := by
  have A := (allOk (G := G) (ca := ca) (d := d) L n).e Γ X g
  have nd : X.N.Nodup := by rw [g.names]; exact g.nd
  unfold cT2
  split
  · rename_i ts k1 p1 vs k p pos
    unfold cP
    split
    · rename_i hsw
      split
      · rename_i t ht
        rw [cG_pos (k' := k1) (p' := p1)] at ht
        exact us_setT (A _).pe ((cG_ok g n).1 _ _ ht) rfl (sw_tupnone hsw) rfl
      · exact us_rais
    · split
      · rename_i hcl
        have ek : X.env.kindOf = Γ.kind := by
          funext x
          show X.env.scope.names.lookup x = Γ.sc.names.lookup x
          rw [g.sc]
        split
        · rename_i t ht
          rw [cG_pos (k' := k1) (p' := p1)] at ht
          exact us_setT (A _).pe ((cG_ok g n).1 _ _ ht) rfl (sw_tupcell (by rw [ek]; exact hcl)) rfl
        · exact us_rais
      split
      · rename_i x px y py a b _ _
        split
        · rename_i i j h1 h2 h3
          rw [Bool.and_eq_true] at h3
          obtain ⟨h4, h5, h6⟩ := plainV_ok h3.2
          have hs : notStar a = true ∧ notStar b = true := by simpa using h4
          obtain ⟨a1, a2, a3⟩ := locSlot_ok g h1
          obtain ⟨b1, b2, b3⟩ := locSlot_ok g h2
          split
          · rename_i hij
            have hij : i ≠ j := Nat.ne_of_beq_eq_false hij
            have hne : y ≠ x := fun e => hij (by
              subst e
              rw [h1] at h2
              exact Option.some.inj h2)
            exact us_par2 g.calm nd a1 b1 hij a2 b2 (ua_cons (A a).pe (ua_cons (A b).pe ua_nil (star_ne hs.2)) (star_ne hs.1)) (sw_two g.blockKind a3 b3 h3.1 hne hs.1 hs.2 h5 h6) rfl
          · exact us_rais
        · exact us_rais
      · rename_i x px y py z pz a b c _ _
        split
        · rename_i i j l h1 h2 h7 h3
          rw [Bool.and_eq_true, Bool.and_eq_true] at h3
          obtain ⟨h4, h5, h6⟩ := plainV_ok h3.2
          have hs : notStar a = true ∧ notStar b = true ∧ notStar c = true := by simpa using h4
          obtain ⟨a1, a2, a3⟩ := locSlot_ok g h1
          obtain ⟨b1, b2, b3⟩ := locSlot_ok g h2
          obtain ⟨c1, c2, c3⟩ := locSlot_ok g h7
          split
          · rename_i hij
            rw [Bool.or_eq_false_iff, Bool.or_eq_false_iff] at hij
            have q1 : i ≠ j := Nat.ne_of_beq_eq_false hij.1.1
            have q2 : i ≠ l := Nat.ne_of_beq_eq_false hij.1.2
            have q3 : j ≠ l := Nat.ne_of_beq_eq_false hij.2
            have n1 : y ≠ x := fun e => q1 (by subst e; rw [h1] at h2; exact Option.some.inj h2)
            have n2 : z ≠ x := fun e => q2 (by subst e; rw [h1] at h7; exact Option.some.inj h7)
            have n3 : z ≠ y := fun e => q3 (by subst e; rw [h2] at h7; exact Option.some.inj h7)
            exact us_par3 g.calm nd a1 b1 c1 q1 q2 q3 a2 b2 c2 (ua_cons (A a).pe (ua_cons (A b).pe (ua_cons (A c).pe ua_nil (star_ne hs.2.2)) (star_ne hs.2.1)) (star_ne hs.1)) (sw_three g.blockKind a3 b3 c3 h3.1.1 h3.1.2 n1 n2 n3 hs.1 hs.2.1 hs.2.2 h5 h6) rfl
          · exact us_rais
        · exact us_rais
      · exact us_rais
  · exact t1_ok L g n _
-- all statements
mutual
def cT : Nat → Nat → Gam → Stmt → St I
  | 0, _, _, _ => .rais 0
  | k + 1, n, Γ, st => match st with
    | .If c a b _ => .ifs (cE n Γ c) (cTs k n Γ a) (cTs k n Γ b)
    | .While c b e _ => (match e with
      | [] => .whl (cE n Γ c) (cTs k n Γ b)
      | _ => .rais 0)
    | .For tg it b e _ => (match e, cG n Γ tg, noSet it with
      | [], some g, true => .for g (cS n Γ tg it) (cTs k n Γ b)
      | _, _, _ => .rais 0)
    | st => cT2 n Γ st
def cTs : Nat → Nat → Gam → List Stmt → List (St I)
  | 0, _, _, _ => [.rais 0]
  | _ + 1, _, _, [] => []
  | k + 1, n, Γ, s :: ss => cT k n Γ s :: cTs k n Γ ss
end
theorem uss_bad {sts : List Stmt} : PSs X sts (uSs G den X ca d [.rais 0]) := ⟨fun pins s σ H D I0 ⟨n, r, S, τ, fl, τ', S', m, er, e, f⟩ => by
  exfalso
  cases n with
  | zero => cases e
  | succ n => cases n <;> cases e⟩
theorem stm_ok (L : Lawful I den) (g : Good G den ca d Γ X) (hp : PassesOwn (model X.prog X.w) X.A X.env X.xe) (n : Nat) : ∀ k, (∀ st, PS X st (uS G den X ca d (cT k n Γ st))) ∧ (∀ sts, PSs X sts (uSs G den X ca d (cTs k n Γ sts)))
  | 0 => ⟨fun st => by unfold cT; exact us_rais, fun sts => by unfold cTs; exact uss_bad⟩
  | k + 1 => by
    obtain ⟨ih1, ih2⟩ := stm_ok L g hp n k
    have A := allOk (G := G) (ca := ca) (d := d) L n
    refine ⟨fun st => ?_, fun sts => ?_⟩
    · unfold cT
      split
      · exact us_if (A.e Γ X g _).pt (ih2 _) (ih2 _)
      · split
        · exact us_while hp (A.e Γ X g _).pt (ih2 _)
        · exact us_rais
      · split
        · rename_i t ht hs
          exact us_for L hp g.calm (A.s Γ X g _ _) ((cG_ok g n).1 _ _ ht) (ih2 _) (folded_no hs)
        · exact us_rais
      · exact t2_ok L g n _
    · cases sts with
      | nil => unfold cTs; exact us_nil
      | cons s ss => unfold cTs; exact us_cons (ih1 s) (ih2 ss)
end
end Pz
set_option Elab.async false
set_option linter.all false
set_option maxRecDepth 100000
set_option maxHeartbeats 4000000
namespace Pz
open PySem L2
/-! ### the whole text -/
/-- a def of the text: where it stands, its names (parameters first), its parameters -/
structure FnS where
  at_ : Str × Option Str
  name : Str
  qual : Str
  N : List Str
  ps : List Str
  params : Arguments
  body : List Stmt
  scope : Scope
structure Txt where
  fns : List FnS
  glob : List (Str × GK)
  free : List Str
  flds : List Str
  ncls : Nat
  cls : List Cl
  tab : List (Str × Int)
/-- the parameters of what the globals name -/
def Txt.sigs (T : Txt) : List (Str × Nat × List Str) := T.glob.filterMap fun q => match q.2 with
  | .fn i => (T.fns[i]?).map fun f => (q.1, i, f.ps)
  | _ => none
theorem Txt.sig_mem {T : Txt} {x : Str} {i : Nat} {ps : List Str} (h : (x, i, ps) ∈ T.sigs) : (x, GK.fn i) ∈ T.glob ∧ ∃ f, T.fns[i]? = some f ∧ f.ps = ps := by
  unfold Txt.sigs at h
  obtain ⟨q, hq, e⟩ := List.mem_filterMap.mp h
  obtain ⟨y, g⟩ := q
  cases g with
  | fn j =>
    obtain ⟨f, h1, h2⟩ := Option.map_eq_some_iff.mp (show (T.fns[j]?).map (fun f => (y, j, f.ps)) = some (x, i, ps) from e)
    cases h2
    exact ⟨hq, f, h1, rfl⟩
  | _ => cases e
def Txt.gam (T : Txt) (f : FnS) : Gam := ⟨f.N, f.scope, true, T.glob, T.free, T.flds, T.ncls, T.sigs⟩
def Txt.fn {I : Type} [IOps I] (T : Txt) (k n : Nat) (f : FnS) : Fn I := ⟨f.ps.length, f.N.length, cTs k n (T.gam f) f.body⟩
def Txt.pg {I : Type} [IOps I] (T : Txt) (k n : Nat) : Pg I := ⟨T.fns.map (T.fn k n), T.cls, T.tab⟩
/-- what K holds of it: ca the classes' addresses, fa the defs' -/
structure Wl (T : Txt) (w : World) (K : PySem.W.Frag) (mg : Str → Option Value) (ca fa : Nat → Addr) : Prop where
  fn : ∀ i f, T.fns[i]? = some f → FnScope f.N f.ps f.scope ∧ ∃ fd, FunD K f.name f.qual f.params f.body f.scope [] [] (fa i) fd ∧ Binds K fd f.ps [] ∧ KwB K fd f.ps
  glob : ∀ x g, (x, g) ∈ T.glob → match g with
    | .int i => ∃ t, mg x = some (.int i t)
    | .str s => ∃ t, mg x = some (.str s t)
    | .fn i => mg x = some (.ref (fa i)) ∧ i < T.fns.length
    | .cls c => mg x = some (.ref (ca c)) ∧ c < T.ncls ∧ ∃ cl, T.cls[c]? = some cl ∧ Mk K (ca c) (fa cl.init) ∧ cl.init < T.fns.length
    | .tab => ∃ a, mg x = some (.ref a) ∧ TabK K w a T.tab
  free : ∀ x ∈ T.free, mg x = none
  flds : ∀ f ∈ T.flds, ∀ c, Cls K (ca c) ∧ NoAttr K (ca c) f
  mths : ∀ m c cl i, T.cls[c]? = some cl → lookM m cl.ms = some i → Cls K (ca c) ∧ Meth K (ca c) m (fa i) ∧ i < T.fns.length
  kit : KitF K ca T.ncls
section
variable {I : Type} [IOps I] {den : I → Int} {T : Txt} {P : Program} {w : World} {K : PySem.W.Frag} {mg : Str → Option Value} {base : Heap} {ca fa : Nat → Addr} {k n : Nat}
/-- the promise of the i-th def at depth d -/
def FnP (T : Txt) (G : Pg I) (den : I → Int) (P : Program) (w : World) (K : PySem.W.Frag) (mg : Str → Option Value) (base : Heap) (ca fa : Nat → Addr) (d i : Nat) : Prop :=
  ∃ fd ps, Binds K fd ps [] ∧ FnOk P w K mg base CXF d (fa i) fd ps (uSp G den P w ca d i) ∧ KwB K fd ps ∧ ∀ f, T.fns[i]? = some f → ps = f.ps
theorem Wl.get (W : Wl T w K mg ca fa) {i : Nat} (h : i < T.fns.length) : ∃ f, T.fns[i]? = some f := ⟨_, List.getElem?_eq_getElem h⟩
theorem pg_fn {i : Nat} {f : FnS} (h : T.fns[i]? = some f) : (T.pg (I := I) k n).fns[i]? = some (T.fn k n f) := by
  show (T.fns.map (T.fn k n))[i]? = _
  rw [List.getElem?_map, h]
  rfl
theorem Wl.good (W : Wl T w K mg ca fa) {d : Nat} {f : FnS} {X : Cx} (hN : X.N = f.N) (hsc : X.env.scope = f.scope) (hfn : ∀ x, X.fn x = true) (hc : X.calm = true) (hr : Room d X.A) (hK : X.K = K) (hmg : X.mg = mg) (hw : X.w = w) (S : FnScope f.N f.ps f.scope)
    (hP : ∀ d' ≤ d, ∀ i, i < T.fns.length → ∃ fd ps, Binds X.K fd ps [] ∧ FnOk X.prog X.w X.K X.mg X.base CXF d' (fa i) fd ps (uSp (T.pg k n) den X.prog X.w ca d' i) ∧ KwB X.K fd ps ∧ ∀ f, T.fns[i]? = some f → ps = f.ps) : Good (T.pg (I := I) k n) den ca d (T.gam f) X where
  names := hN
  nd := S.nd
  sc := hsc
  sto := fun x _ => hfn x
  kind := S.kind
  calm := hc
  room := hr
  glob := fun x g h => by
    have q := W.glob x g h
    subst hK hmg hw
    cases g with
    | int i => exact q
    | str s => exact q
    | fn i =>
      obtain ⟨f', hf⟩ := W.get q.2
      obtain ⟨fd, F, _⟩ := (W.fn i f' hf).2
      exact ⟨fa i, q.1, F.kp, ⟨let ⟨fd, ps, a, b, _⟩ := hP d (Nat.le_refl _) i q.2; ⟨fd, ps, a, b⟩⟩⟩
    | cls c =>
      obtain ⟨h1, h2, cl, h3, h4, h5⟩ := q
      exact ⟨h1, h2, fun d' e => ⟨_, cl, h3, h4, ⟨let ⟨fd, ps, a, b, _⟩ := hP d' (by omega) _ h5; ⟨fd, ps, a, b⟩⟩⟩⟩
    | tab => exact q
  free := fun x h => by rw [hmg]; exact W.free x h
  flds := fun f' h c => by rw [hK]; exact W.flds f' h c
  mths := fun m c cl i h1 h2 => by
    obtain ⟨a, b, l⟩ := W.mths m c cl i h1 h2
    subst hK
    exact ⟨a, _, b, ⟨let ⟨fd, ps, a, b, _⟩ := hP d (Nat.le_refl _) i l; ⟨fd, ps, a, b⟩⟩⟩
  kit := by rw [hK]; exact W.kit
  sig := fun x i ps h => by
    obtain ⟨h1, f', hf, rfl⟩ := Txt.sig_mem h
    have q := W.glob _ _ h1
    have q : mg x = some (.ref (fa i)) ∧ i < T.fns.length := q
    subst hK hmg hw
    obtain ⟨fd, F, _⟩ := (W.fn i f' hf).2
    obtain ⟨fd', ps, a, b, c, e⟩ := hP d (Nat.le_refl _) i q.2
    obtain rfl := e f' hf
    exact ⟨fa i, fd', q.1, F.kp, c, b⟩
theorem usp_zero {G : Pg I} {i : Nat} {vs : List V} {H : Hp} {Q : VK} {E : XK} (h : uSp G den P w ca 0 i vs H Q E) : False := by
  obtain ⟨n, r, S, xs, v, S', m, hv, e, f⟩ := h
  cases n with
  | zero => cases e
  | succ n => cases e
theorem usp_open {d i : Nat} {f : FnS} (hf : T.fns[i]? = some f) {vs : List V} {H : Hp} {Q : VK} {E : XK} (h : uSp (T.pg (I := I) k n) den P w ca (d + 1) i vs H Q E) :
    vs.length = f.ps.length ∧ ∃ (m : Nat) (r : Rho) (S : Sto I) (xs : List (Val I)) (fl : Fl I) (τ' : Env I) (S' : Sto I), Sim den P w ca r S H ∧ VRs den r H xs vs ∧
      (evN (T.pg (I := I) k n) m).ss d (cTs k n (T.gam f) f.body) (xs.map some ++ List.replicate (f.N.length - f.ps.length) none) S = .ok (fl, τ') S' ∧
      (match fl with
        | .nx => ∀ r' H', Ext r H r' H' → Sim den P w ca r' S' H' → Q .non H'
        | .ct => False
        | .rt v => ∀ r' H' z, Ext r H r' H' → Sim den P w ca r' S' H' → VR den r' H' v z → Q z H') := by
  obtain ⟨m, r, S, xs, v, S', sm, hv, e, q⟩ := h
  cases m with
  | zero => cases e
  | succ m =>
    have e : (opt (T.pg (I := I) k n).fns[i]? fun fn => if Nat.beq xs.length fn.np then
      ((evN (T.pg (I := I) k n) m).ss d fn.body (xs.map some ++ List.replicate (fn.ns - fn.np) .none) S).bind fun r S1 => match r with
        | (.rt v, _) => .ok v S1
        | (.nx, _) => .ok .non S1
        | (.ct, _) => .bad
      else .bad) = Rs.ok v S' := e
    rw [pg_fn hf] at e
    have e : (if Nat.beq xs.length f.ps.length = true then
      ((evN (T.pg (I := I) k n) m).ss d (cTs k n (T.gam f) f.body) (xs.map some ++ List.replicate (f.N.length - f.ps.length) .none) S).bind fun r S1 => match r with
        | (.rt v, _) => .ok v S1
        | (.nx, _) => .ok .non S1
        | (.ct, _) => .bad
      else .bad) = Rs.ok v S' := e
    split at e
    · rename_i hl
      obtain ⟨⟨fl, τ'⟩, S1, e1, e2⟩ := bind_ok e
      refine ⟨by rw [← hv.length]; exact Nat.eq_of_beq_eq_true hl, m, r, S, xs, fl, τ', S1, sm, hv, e1, ?_⟩
      cases fl with
      | nx => cases e2; exact fun r' H' x' m' => q r' H' _ x' m' .non
      | ct => cases e2
      | rt v => cases e2; exact q
    · cases e
theorem er_start {r : Rho} {H : Hp} {N : List Str} {np : Nat} : ∀ {xs : List (Val I)} {vs : List V}, VRs den r H xs vs → xs.length = np → ER den r H (xs.map some ++ List.replicate (N.length - np) none) (L2.start N vs) := by
  intro xs vs hv hl
  have l := hv.length
  refine ⟨?_, fun i v e => ?_⟩
  · unfold L2.start
    simp only [List.length_append, List.length_map, List.length_replicate]
    omega
  · by_cases hi : i < xs.length
    · rw [List.getElem?_append_left (by simpa using hi), List.getElem?_map] at e
      cases q : xs[i]? with
      | none => rw [q] at e; cases e
      | some y =>
        rw [q] at e
        cases e
        obtain ⟨z, h1, h2⟩ := hv.get q
        refine ⟨z, ?_, h2⟩
        unfold L2.start
        rw [List.getElem?_append_left (by simp; omega), List.getElem?_map, h1]
        rfl
    · rw [List.getElem?_append_right (by simpa using hi), List.getElem?_replicate] at e
      split at e <;> cases e
/-- every def keeps its promise, at every depth -/
theorem Wl.all (L : Lawful I den) (W : Wl T w K mg ca fa) : ∀ d, ∀ d' ≤ d, ∀ i, i < T.fns.length → FnP T (T.pg (I := I) k n) den P w K mg base ca fa d' i
  | 0, d', h, i, hi => by
    have e : d' = 0 := by omega
    subst e
    obtain ⟨f, hf⟩ := W.get hi
    obtain ⟨S, fd, F, B, KB⟩ := W.fn i f hf
    have ef : ∀ f', T.fns[i]? = some f' → f.ps = f'.ps := fun f' h => by rw [hf] at h; cases h; rfl
    exact ⟨fd, f.ps, B, ⟨fun vs H Q E h => (usp_zero h).elim, fun A outer s H args us vs Q E _ _ _ _ h => (usp_zero h).elim⟩, KB, ef⟩
  | d + 1, d', h, i, hi => by
    by_cases hd : d' ≤ d
    · exact Wl.all L W d d' hd i hi
    · have e : d' = d + 1 := by omega
      subst e
      obtain ⟨f, hf⟩ := W.get hi
      obtain ⟨S, fd, F, B, KB⟩ := W.fn i f hf
      refine ⟨fd, f.ps, B, ?_, KB, fun f' h => by rw [hf] at h; cases h; rfl⟩
      refine F.ok S (fun vs H Q E h => (usp_open hf h).1) fun cdv A outer s H vs Q E hr h => ?_
      obtain ⟨hl, m, r, S0, xs, fl, τ', S', sm, hv, e, q⟩ := usp_open hf h
      have g : Good (T.pg (I := I) k n) den ca d (T.gam f) (cxOf CXF P w K mg base f.N f.qual f.scope (fa i) cdv A outer s H E).nox := W.good (f := f) rfl rfl (fun _ => rfl) rfl hr rfl rfl rfl S fun d'' hd'' j hj => Wl.all L W d d'' hd'' j hj
      refine ⟨_, ((stm_ok L g PassesOwn.never n k).2 f.body).nox, m, r, S0, _, fl, τ', S', sm, er_start hv (hv.length.trans hl), e, ?_⟩
      cases fl with
      | nx => exact fun r' H' σ' x' m' _ => q r' H' x' m'
      | ct => exact q.elim
      | rt v => exact q
end
end Pz
set_option Elab.async false
set_option linter.all false
set_option maxRecDepth 100000
set_option maxHeartbeats 4000000
namespace Pz
open PySem L2
/-! ### binding, for any number of plain parameters -/
theorem lookup_zip {ps : List Str} {us : List Value} (nd : ps.Nodup) (hl : us.length = ps.length) : ∀ {x : Str}, x ∈ ps → ((ps.zip us).lookup x).isSome = true := by
  induction ps generalizing us with
  | nil => intro x h; cases h
  | cons p ps ih =>
    cases us with
    | nil => cases hl
    | cons u us =>
      intro x h
      rw [List.zip_cons_cons, List.lookup_cons]
      cases e : x == p with
      | true => rfl
      | false =>
        rcases List.mem_cons.mp h with rfl | h
        · simp at e
        · exact ih (List.nodup_cons.mp nd).2 (by simpa using hl) h
theorem filterMap_same {A B : Type} {f g : A → Option B} : ∀ {l : List A}, (∀ x ∈ l, f x = g x) → l.filterMap f = l.filterMap g
  | [], _ => rfl
  | x :: l, h => by
    rw [List.filterMap_cons, List.filterMap_cons, h x (List.mem_cons_self ..), filterMap_same fun y hy => h y (List.mem_cons_of_mem _ hy)]
theorem filterMap_zip : ∀ {ps : List Str} {us : List Value}, ps.Nodup → us.length = ps.length → ps.filterMap (fun n => ((ps.zip us).lookup n).map fun v => (n, v)) = ps.zip us
  | [], us, _, _ => by cases us <;> rfl
  | p :: ps, [], _, hl => by cases hl
  | p :: ps, u :: us, nd, hl => by
    obtain ⟨h1, h2⟩ := List.nodup_cons.mp nd
    have e0 : (((p :: ps).zip (u :: us)).lookup p).map (fun v => (p, v)) = some (p, u) := by
      rw [List.zip_cons_cons, List.lookup_cons, beq_self_eq_true]
      rfl
    have e1 : (ps.filterMap fun n => (((p :: ps).zip (u :: us)).lookup n).map fun v => (n, v)) = ps.zip us := by
      rw [← filterMap_zip (ps := ps) (us := us) h2 (by simpa using hl)]
      refine filterMap_same fun x hx => ?_
      rw [List.zip_cons_cons, List.lookup_cons, beq_eq_false_iff_ne.mpr fun e : x = p => h1 (e ▸ hx)]
    rw [List.filterMap_cons, e0]
    show (p, u) :: _ = _
    rw [e1]
    rfl
theorem bind_plain {a : Arguments} {ps : List Str} (h : plainArgs a ps = true) {x qual : Str} {body : List Stmt} {scope : Scope} {kV doc pm : Value} {an : Option Addr} {cdv ct : Value} {us : List Value} (hl : us.length = ps.length) :
    bindArgs (PySem.W.fnOf x qual a body scope .none kV doc pm an cdv ct) ⟨us, []⟩ = pure (ps.zip us) := by
  obtain ⟨po, ar, va, ko, kd, kw, df⟩ := a
  unfold plainArgs at h
  simp only [Bool.and_eq_true, List.isEmpty_iff, Option.isNone_iff_eq_none, decide_eq_true_eq] at h
  obtain ⟨⟨⟨⟨⟨rfl, rfl⟩, rfl⟩, rfl⟩, rfl⟩, nd⟩ := h
  have e1 : (List.filter (fun n => (List.lookup n ((ar.map (·.arg)).zip us)).isNone) (ar.map (·.arg))) = [] := by
    rw [List.filter_eq_nil_iff]
    intro n hn
    have := lookup_zip nd hl hn
    simp only [Option.isNone_iff_eq_none]
    intro e
    rw [e] at this
    cases this
  have e2 := filterMap_zip nd hl
  have e3 : us.length = ar.length := by simpa using hl
  unfold bindArgs
  simp only [PySem.W.fnOf, List.map_nil, List.nil_append, List.append_nil, List.forIn_nil, pure_bind, List.length_map, seqItems?, Option.getD_none, List.length_nil, Nat.sub_zero, Nat.zero_sub, List.drop_nil, List.drop_zero, List.zip_nil_right]
  have en : (do notAStandIn Value.none; pure none : Sem (Option (Array Value))) = pure none := rfl
  have e4 : decide (us.length > ar.length) = false := decide_eq_false (by omega)
  rw [en, pure_bind, e4]
  simp only [Bool.false_and, Bool.false_eq_true, if_false, Option.getD_none, List.length_nil, Nat.zero_sub, List.drop_nil, Nat.sub_zero, List.take_of_length_le, List.length_map, Nat.le_refl, List.zip_nil_right, List.forIn_nil, pure_bind, e1, List.isEmpty_nil, Bool.not_true]
  rw [e2]


/-! ### what is looked at behind the top -/
structure Nms where
  cn : List Str
  tb : Str
def Nms.ca (N : Nms) (K : PySem.W.Frag) (c : Nat) : Addr := He.ga K (N.cn.getD c (N.cn.headD ""))
def Txt.fa (T : Txt) (K : PySem.W.Frag) (i : Nat) : Addr := match T.fns[i]? with
  | some f => He.fAd K f.at_
  | none => 0
def FnS.dd (f : FnS) : He.DefD := ⟨f.at_, f.name, f.qual, f.params, f.body, f.scope, [], []⟩
def baseDT : List DT := [.non, .bool, .int, .str, .tuple, .list, .dict]
def baseTy : List Ty := [.int, .bool, .str, .tuple, .list, .dict]
def noCa : Nat → Addr := fun _ => 0
def kitB (K : PySem.W.Frag) (cn : List Str) : Bool :=
  (baseDT.all fun t => baseTy.all fun T => match t.sub T with | some b => decide (PySem.W.kitOne K (dV noCa t) (tV noCa T) = some b) | none => true) &&
  (baseDT.all fun t => cn.all fun x => decide (PySem.W.kitOne K (dV noCa t) (.ref (He.ga K x)) = some false)) &&
  (baseTy.all fun T => cn.all fun x => decide (PySem.W.kitOne K (.ref (He.ga K x)) (tV noCa T) = some false)) &&
  (cn.zipIdx.all fun p => cn.zipIdx.all fun q => decide (PySem.W.kitOne K (.ref (He.ga K p.1)) (.ref (He.ga K q.1)) = some (Nat.beq p.2 q.2)))
def ownB (K : PySem.W.Frag) (cn : List Str) : Bool :=
  cn.all fun x => (He.Fa.cls x).ok K && He.eqO (PySem.W.findIn K (.ref (He.ga K x)) "__class__") (some (some (.builtin "object.__class__"))) &&
    He.eqO (PySem.W.specialIn K (.builtin "object.__class__") "__get__") (some (some (.builtin "getset_descriptor.__get__"))) && decide (PySem.W.takesIn K (.builtin "object.__class__") = some true) && decide (PySem.W.mroIn K (He.ga K x) (.type "object") = some true)
def tabB (K : PySem.W.Frag) (a : Addr) (tab : List (Str × Int)) : Bool := tab.all fun q => match PySem.W.nsIn K a q.1 with
  | some (some (.int j _)) => decide (j = q.2)
  | _ => false
def Txt.atB (T : Txt) (i : Nat) (p : Str × Option Str) : Bool := match T.fns[i]? with
  | some f => decide (f.at_ = p)
  | none => false
def gloB (T : Txt) (N : Nms) (K : PySem.W.Frag) (x : Str) : GK → Bool
  | .int i => (He.Fa.int x i).ok K
  | .str s => (He.Fa.str x s).ok K
  | .fn i => (He.Fa.glo x).ok K && T.atB i (x, none)
  | .cls c => (He.Fa.glo x).ok K && (He.Fa.mkr x).ok K && decide (N.cn[c]? = some x) && (match T.cls[c]? with
    | some cl => T.atB cl.init (x, some "__init__")
    | none => false)
  | .tab => (He.Fa.glo x).ok K && decide (x = N.tb) && !T.tab.isEmpty && tabB K (He.ga K x) T.tab
/-- no list among what is looked at -/
def noLst (K : PySem.W.Frag) : Bool := K.all fun q => match q.2.cls with
  | .type c => !(decide (c = "list"))
  | _ => true
theorem noLst_ok {K : PySem.W.Frag} (h : noLst K = true) {a : Addr} {o : Obj} (e : K.lookup a = some o) : o.cls ≠ .type "list" := by
  intro z
  have hm : (a, o) ∈ K := by
    clear h z
    induction K with
    | nil => cases e
    | cons q r ih =>
      obtain ⟨b, u⟩ := q
      have e : (match a == b with | true => some u | false => r.lookup a) = some o := e
      cases hab : a == b with
      | true =>
        rw [hab] at e
        cases e
        rw [beq_iff_eq.mp hab]
        exact List.mem_cons_self ..
      | false =>
        rw [hab] at e
        exact List.mem_cons_of_mem _ (ih e)
  have q := List.all_eq_true.mp h _ hm
  simp only [z] at q
  cases q
/-- all that is asked of K, besides the defs and the table's keys -/
def chk (T : Txt) (N : Nms) (K : PySem.W.Frag) : Bool :=
  (T.glob.all fun q => gloB T N K q.1 q.2) && (T.free.all fun x => (He.Fa.free x).ok K) && (N.cn.all fun c => T.flds.all fun f => (He.Fa.noat c f).ok K) &&
  (T.cls.zipIdx.all fun q => q.1.ms.all fun r => match N.cn[q.2]? with
    | some x => (He.Fa.meth x r.1).ok K && T.atB r.2 (x, some r.1)
    | none => false) && ownB K N.cn && kitB K N.cn && noLst K
/-- what is asked of the text alone -/
def chk0 (T : Txt) (N : Nms) : Bool := (T.fns.all fun f => C8.scC f.N f.ps f.scope && plainArgs f.params f.ps) && !N.cn.isEmpty && Nat.beq N.cn.length T.ncls
section
variable {T : Txt} {N : Nms} {K : PySem.W.Frag} {w : World} {h : Heap} {mg : Str → Option Value}
theorem Nms.mem (h : N.cn.isEmpty = false) (c : Nat) : N.cn.getD c (N.cn.headD "") ∈ N.cn := by
  rw [List.getD_eq_getElem?_getD]
  cases e : N.cn[c]? with
  | some x => exact List.mem_of_getElem? e
  | none =>
    show N.cn.headD "" ∈ N.cn
    cases q : N.cn with
    | nil => rw [q] at h; cases h
    | cons y l => exact List.mem_cons_self ..
theorem Nms.ca_of {c : Nat} {x : Str} (h : N.cn[c]? = some x) : N.ca K c = He.ga K x := by
  unfold Nms.ca
  rw [List.getD_eq_getElem?_getD, h]
  rfl
theorem at_ok {i : Nat} {p : Str × Option Str} (h : T.atB i p = true) : T.fa K i = He.fAd K p ∧ i < T.fns.length := by
  unfold Txt.atB at h
  unfold Txt.fa
  split at h
  · rename_i f hf
    exact ⟨by rw [← of_decide_eq_true h], (List.getElem?_eq_some_iff.mp hf).1⟩
  · cases h
theorem own_ok (h : ownB K N.cn = true) (hn : N.cn.isEmpty = false) (c : Nat) : OwnF K (N.ca K c) := by
  have q := List.all_eq_true.mp h _ (Nms.mem hn c)
  simp only [Bool.and_eq_true, decide_eq_true_eq] at q
  obtain ⟨⟨⟨⟨h1, h2⟩, h3⟩, h4⟩, h5⟩ := q
  exact ⟨He.cls_ok h1, He.eqO_ok h2, He.eqO_ok h3, h4, h5⟩
theorem dV_no {t : DT} {ca : Nat → Addr} (h : ∀ c, t ≠ .cls c) : dV ca t = dV noCa t := by
  cases t <;> first | rfl | exact absurd rfl (h _)
theorem tV_no {t : Ty} {ca : Nat → Addr} (h : ∀ c n, t ≠ .cls c n) : tV ca t = tV noCa t := by
  cases t <;> first | rfl | exact absurd rfl (h _ _)
theorem mem_dt {t : DT} (h : ∀ c, t ≠ .cls c) : t ∈ baseDT := by
  cases t <;> first | exact absurd rfl (h _) | simp [baseDT]
theorem mem_ty {t : Ty} (h : ∀ c n, t ≠ .cls c n) : t ∈ baseTy := by
  cases t <;> first | exact absurd rfl (h _ _) | simp [baseTy]
theorem kit_ok (h : kitB K N.cn = true) (ho : ownB K N.cn = true) (hn : N.cn.isEmpty = false) : KitF K (N.ca K) N.cn.length where
  own := own_ok ho hn
  kit := fun t T b hf hs => by
    unfold kitB at h
    simp only [Bool.and_eq_true] at h
    obtain ⟨⟨⟨h1, h2⟩, h3⟩, h4⟩ := h
    by_cases ht : ∃ c, t = .cls c
    · obtain ⟨c, rfl⟩ := ht
      by_cases hT : ∃ d n, T = .cls d n
      · obtain ⟨d, n, rfl⟩ := hT
        have hs : (match Nat.blt c n, Nat.blt d n with | true, true => some (Nat.beq c d) | _, _ => none) = some b := hs
        split at hs
        · rename_i e1 e2
          have hf : Nat.ble n N.cn.length = true := hf
          have lc : c < N.cn.length := Nat.lt_of_lt_of_le (Nat.le_of_ble_eq_true e1) (Nat.le_of_ble_eq_true hf)
          have ld : d < N.cn.length := Nat.lt_of_lt_of_le (Nat.le_of_ble_eq_true e2) (Nat.le_of_ble_eq_true hf)
          have gc := List.getElem?_eq_getElem lc
          have gd := List.getElem?_eq_getElem ld
          have q := of_decide_eq_true (List.all_eq_true.mp (List.all_eq_true.mp h4 (N.cn[c], c) (List.mk_mem_zipIdx_iff_getElem?.mpr gc)) (N.cn[d], d) (List.mk_mem_zipIdx_iff_getElem?.mpr gd))
          show PySem.W.kitOne K (.ref (N.ca K c)) (.ref (N.ca K d)) = _
          rw [Nms.ca_of gc, Nms.ca_of gd, q]
          exact hs
        · cases hs
      · have hT' : ∀ d n, T ≠ .cls d n := fun d n e => hT ⟨d, n, e⟩
        have e : b = false := by
          cases T <;> first | exact absurd rfl (hT' _ _) | (exact (Option.some.inj hs).symm)
        subst e
        rw [tV_no hT']
        exact of_decide_eq_true (List.all_eq_true.mp (List.all_eq_true.mp h3 _ (mem_ty hT')) _ (Nms.mem hn c))
    · have ht' : ∀ c, t ≠ .cls c := fun c e => ht ⟨c, e⟩
      by_cases hT : ∃ d n, T = .cls d n
      · obtain ⟨d, n, rfl⟩ := hT
        have e : b = false := by
          cases t <;> first | exact absurd rfl (ht' _) | skip
          all_goals
            have hs : (match Nat.blt d n with | true => some false | _ => none) = some b := hs
            split at hs
            · exact (Option.some.inj hs).symm
            · cases hs
        subst e
        rw [dV_no ht']
        exact of_decide_eq_true (List.all_eq_true.mp (List.all_eq_true.mp h2 _ (mem_dt ht')) _ (Nms.mem hn d))
      · have hT' : ∀ d n, T ≠ .cls d n := fun d n e => hT ⟨d, n, e⟩
        have q := List.all_eq_true.mp (List.all_eq_true.mp h1 _ (mem_dt ht')) _ (mem_ty hT')
        have q : (match t.sub T with | some b => decide (PySem.W.kitOne K (dV noCa t) (tV noCa T) = some b) | none => true) = true := q
        rw [hs] at q
        rw [dV_no ht', tV_no hT']
        exact of_decide_eq_true q
end
end Pz
set_option Elab.async false
set_option linter.all false
set_option maxRecDepth 100000
set_option maxHeartbeats 4000000
namespace Pz
open PySem L2
section
variable {T : Txt} {N : Nms} {K : PySem.W.Frag} {w : World} {h : Heap} {mg : Str → Option Value}
def tsOf (T : Txt) (N : Nms) : List He.Tab := match T.tab with
  | [] => []
  | _ => [(fun K => He.ga K N.tb, T.tab.map (·.1))]
theorem lookI_mem {x : Str} {i : Int} : ∀ {l : List (Str × Int)}, lookI x l = some i → (x, i) ∈ l
  | [], e => by cases e
  | (y, j) :: r, e => by
    unfold lookI at e
    split at e
    · rename_i q
      cases e
      rw [sBeq_iff.mp q]
      exact List.mem_cons_self ..
    · exact List.mem_cons_of_mem _ (lookI_mem e)
theorem lookM_mem {x : Str} {i : Nat} : ∀ {l : List (Str × Nat)}, lookM x l = some i → (x, i) ∈ l
  | [], e => by cases e
  | (y, j) :: r, e => by
    unfold lookM at e
    split at e
    · rename_i q
      cases e
      rw [sBeq_iff.mp q]
      exact List.mem_cons_self ..
    · exact List.mem_cons_of_mem _ (lookM_mem e)
theorem tsOf_ne (h : T.tab.isEmpty = false) : tsOf T N = [(fun K => He.ga K N.tb, T.tab.map (·.1))] := by
  unfold tsOf
  split
  · rename_i q; rw [q] at h; cases h
  · rfl
theorem lookI_none {x : Str} : ∀ {l : List (Str × Int)}, lookI x l = none → x ∉ l.map (·.1)
  | [], _, h => by cases h
  | (y, j) :: r, e, h => by
    unfold lookI at e
    split at e
    · cases e
    · rename_i q
      rcases List.mem_cons.mp h with h | h
      · have h : x = y := h
        subst h
        rw [sBeq_iff.mpr rfl] at q
        cases q
      · exact lookI_none e h
theorem key_str {e : DictEntry} {x : Str} {g : Int} (h : He.keyOf e = some (x, g)) : ∃ t, e.key = .str x t := by
  unfold He.keyOf at h
  split at h
  · rename_i y t q
    cases h
    exact ⟨t, q⟩
  · cases h
theorem find_none {P : Params} {x : Str} : ∀ {l : List DictEntry} {ks : List Str}, l.map He.keyOf = He.keysIn P ks → x ∉ ks → l.find? (·.key.isStr x) = none ∧ l.any (·.refKey) = false
  | [], _, _, _ => ⟨rfl, rfl⟩
  | e :: r, [], h, _ => by cases h
  | e :: r, k :: ks, h, hx => by
    have h1 : He.keyOf e :: r.map He.keyOf = some (k, PyData.keyHash P k) :: He.keysIn P ks := h
    injection h1 with h2 h3
    obtain ⟨t, q⟩ := key_str h2
    obtain ⟨a, b⟩ := find_none h3 (fun z => hx (List.mem_cons_of_mem _ z))
    have ne : k ≠ x := fun z => hx (z ▸ List.mem_cons_self ..)
    have e1 : e.key.isStr x = false := by
      rw [q]
      show (k == x) = false
      exact beq_eq_false_iff_ne.mpr ne
    have e2 : e.refKey = false := by
      unfold DictEntry.refKey
      rw [q]
    exact ⟨by rw [List.find?_cons, e1]; exact a, by rw [List.any_cons, e2, b]; rfl⟩
theorem tabK_ok {a : Addr} {tab : List (Str × Int)} (h1 : He.dicW K a = some (He.keysIn w.params (tab.map (·.1)))) (h2 : tabB K a tab = true) : TabK K w a tab := by
  obtain ⟨es, n, D⟩ := He.dicW_ok h1
  refine ⟨D.low, es, n, D.at_, D.lit, fun x i e => ?_, fun x e => ?_⟩
  · have q := List.all_eq_true.mp h2 _ (lookI_mem e)
    have q : (match PySem.W.nsIn K a x with | some (some (.int j _)) => decide (j = i) | _ => false) = true := q
    split at q
    · rename_i j t hj
      exact ⟨t, by rw [hj, of_decide_eq_true q]⟩
    · cases q
  · have h3 : es.toList.map He.keyOf = He.keysIn w.params (tab.map (·.1)) := by
      unfold He.dicW at h1
      rw [D.at_] at h1
      have h1 : (match decide ("dict" = "dict") && ((#[] : Array (Option Value)).isEmpty && !(a == sysModules)) with
        | true => some (es.toList.map He.keyOf)
        | false => none) = _ := h1
      rw [D.low] at h1
      exact Option.some.inj h1
    obtain ⟨q1, q2⟩ := find_none h3 (lookI_none e)
    unfold PySem.W.nsIn
    rw [D.at_]
    show (match es.toList.find? (·.key.isStr x) with | some e => some (some e.val) | none => if es.toList.any (·.refKey) then none else some none) = _
    rw [q1, q2]
    rfl
/-- a list that is read is a tracked one -/
theorem sql_rd (h : chk T N K = true) {H : Hp} {a : Addr} {xs : List V} (q : SqL K H a xs) : Rd H a (.lst xs) := by
  unfold chk at h
  rw [Bool.and_eq_true] at h
  rcases q with q | ⟨o, its, n, lk, hc, _⟩
  · exact q
  · exact absurd hc (noLst_ok h.2 lk)
/-- the facts of a head are the text's world -/
theorem Wl.of (h0 : chk0 T N = true) (X : K.In h) (G : h.Ns mainGlobals mg) (c : He.SaysX [] (T.fns.map FnS.dd) (tsOf T N) [] (chk T N) w h K) : Wl T w K mg (N.ca K) (T.fa K) := by
  have m := c.more
  unfold chk at m
  simp only [Bool.and_eq_true] at m
  obtain ⟨⟨⟨⟨⟨⟨m1, m2⟩, m3⟩, m4⟩, m5⟩, m6⟩, _⟩ := m
  unfold chk0 at h0
  simp only [Bool.and_eq_true, Bool.not_eq_true'] at h0
  obtain ⟨⟨z1, z2⟩, z3⟩ := h0
  have z3 : N.cn.length = T.ncls := Nat.eq_of_beq_eq_true z3
  have hfa : ∀ i f, T.fns[i]? = some f → T.fa K i = He.fAd K f.at_ := fun i f e => by unfold Txt.fa; rw [e]
  refine ⟨fun i f hf => ?_, fun x g hg => ?_, fun x hx => He.free_ok X G (List.all_eq_true.mp m2 x hx), fun f hf q => ⟨(own_ok m5 z2 q).cl, He.noat_ok (List.all_eq_true.mp (List.all_eq_true.mp m3 _ (Nms.mem z2 q)) f hf)⟩, fun m' q cl i h1 h2 => ?_, by rw [← z3]; exact kit_ok m6 m5 z2⟩
  · have q := List.all_eq_true.mp z1 f (List.mem_of_getElem? hf)
    rw [Bool.and_eq_true] at q
    obtain ⟨fd, F⟩ := He.SaysD.defs c.t.d (d := f.dd) (List.mem_map_of_mem (List.mem_of_getElem? hf))
    have F : FunD K f.name f.qual f.params f.body f.scope [] [] (T.fa K i) fd := by rw [hfa i f hf]; exact F
    exact ⟨C8.fnScope_by q.1, fd, F, F.bindsN fun _ _ _ _ _ _ us hl => bind_plain q.2 hl, kwB_of F q.2⟩
  · have q := List.all_eq_true.mp m1 _ hg
    cases g with
    | int i => exact He.int_ok X G q
    | str s => exact He.str_ok X G q
    | fn i =>
      obtain ⟨q1, q2⟩ := He.ba (show ((He.Fa.glo x).ok K && T.atB i (x, none)) = true from q)
      obtain ⟨e1, e2⟩ := at_ok q2
      exact ⟨by rw [e1]; exact He.glo_ok X G q1, e2⟩
    | cls d =>
      have q : ((He.Fa.glo x).ok K && (He.Fa.mkr x).ok K && decide (N.cn[d]? = some x) && (match T.cls[d]? with
        | some cl => T.atB cl.init (x, some "__init__")
        | none => false)) = true := q
      simp only [Bool.and_eq_true, decide_eq_true_eq] at q
      obtain ⟨⟨⟨q1, q2⟩, q3⟩, q4⟩ := q
      split at q4
      · rename_i cl hcl
        obtain ⟨e1, e2⟩ := at_ok q4
        refine ⟨by rw [Nms.ca_of q3]; exact He.glo_ok X G q1, by rw [← z3]; exact (List.getElem?_eq_some_iff.mp q3).1, cl, hcl, ?_, e2⟩
        rw [Nms.ca_of q3, e1]
        exact He.mkr_ok q2
      · cases q4
    | tab =>
      have q : ((He.Fa.glo x).ok K && decide (x = N.tb) && !T.tab.isEmpty && tabB K (He.ga K x) T.tab) = true := q
      simp only [Bool.and_eq_true, decide_eq_true_eq, Bool.not_eq_true'] at q
      obtain ⟨⟨⟨q1, q2⟩, q0⟩, q3⟩ := q
      subst q2
      refine ⟨_, He.glo_ok X G q1, ?_⟩
      have e : (tsOf T N).map (fun t => He.dicW K (t.1 K)) = (tsOf T N).map fun t => some (He.keysIn w.params t.2) := congrArg (fun z : He.AlT => z.2) c.t
      rw [tsOf_ne q0] at e
      exact tabK_ok (List.cons.inj e).1 q3
  · have z := List.all_eq_true.mp (List.all_eq_true.mp m4 (cl, q) (List.mk_mem_zipIdx_iff_getElem?.mpr h1)) _ (lookM_mem h2)
    have z : (match N.cn[q]? with
      | some x => (He.Fa.meth x m').ok K && T.atB i (x, some m')
      | none => false) = true := z
    split at z
    · rename_i x hx
      obtain ⟨a, b⟩ := He.ba z
      obtain ⟨e1, e2⟩ := at_ok b
      refine ⟨(own_ok m5 z2 q).cl, ?_, e2⟩
      rw [Nms.ca_of hx, e1]
      exact He.meth_ok a
    · cases z
end
end Pz
set_option Elab.async false
set_option linter.all false
set_option maxRecDepth 100000
set_option maxHeartbeats 4000000
namespace Pz
open PySem L2
/-! ### known numbers and one letter -/
inductive SI (lo hi : Int) where | k (i : Int) | x
namespace SI
variable {lo hi : Int}
def val : SI lo hi → Option Int
  | .k i => some i
  | .x => none
def bin (o : IB) : SI lo hi → SI lo hi → Option (SI lo hi)
  | .k a, .k b => match intBin o a b with
    | some c => some (.k c)
    | none => none
  | _, _ => none
def cmp : IC → SI lo hi → SI lo hi → Option Bool
  | c, .k a, .k b => some (intCmp c a b)
  | .eq, .x, .x => some true
  | .lt, .x, .x => some false
  | .le, .x, .x => some true
  | .eq, .x, .k i => match decide (i < lo) || decide (hi < i) with | true => some false | false => none
  | .eq, .k i, .x => match decide (i < lo) || decide (hi < i) with | true => some false | false => none
  | .lt, .x, .k i => match decide (hi < i) with | true => some true | false => (match decide (i ≤ lo) with | true => some false | false => none)
  | .lt, .k i, .x => match decide (i < lo) with | true => some true | false => (match decide (hi ≤ i) with | true => some false | false => none)
  | .le, .x, .k i => match decide (hi ≤ i) with | true => some true | false => (match decide (i < lo) with | true => some false | false => none)
  | .le, .k i, .x => match decide (i ≤ lo) with | true => some true | false => (match decide (hi < i) with | true => some false | false => none)
instance : IOps (SI lo hi) := ⟨.k, val, bin, cmp⟩
/-- the letter stands for v -/
def den (v : Int) : SI lo hi → Int
  | .k i => i
  | .x => v
theorem lawful {v : Int} (h1 : lo ≤ v) (h2 : v ≤ hi) : Lawful (SI lo hi) (den v) where
  lit := fun i => rfl
  val := fun a i e => by
    cases a with
    | k j => exact Option.some.inj e
    | x => cases e
  bin := fun o a b c e => by
    cases a with
    | k i =>
      cases b with
      | k j =>
        have e : (match intBin o i j with | some c => some (SI.k c) | none => none) = some c := e
        split at e
        · rename_i d hd
          cases e
          exact hd
        · cases e
      | x => cases e
    | x => cases e
  cmp := fun o a b r e => by
    cases a with
    | k i =>
      cases b with
      | k j => cases o <;> (cases e; rfl)
      | x =>
        cases o with
        | eq =>
          have e : (match decide (i < lo) || decide (hi < i) with | true => some false | false => none) = some r := e
          split at e
          · rename_i h
            cases e
            rw [Bool.or_eq_true, decide_eq_true_eq, decide_eq_true_eq] at h
            show decide (i = v) = false
            exact decide_eq_false (by omega)
          · cases e
        | lt =>
          have e : (match decide (i < lo) with | true => some true | false => (match decide (hi ≤ i) with | true => some false | false => none)) = some r := e
          show decide (i < v) = r
          split at e
          · rename_i h
            cases e
            have h := of_decide_eq_true h
            exact decide_eq_true (by omega)
          · split at e
            · rename_i h
              cases e
              have h := of_decide_eq_true h
              exact decide_eq_false (by omega)
            · cases e
        | le =>
          have e : (match decide (i ≤ lo) with | true => some true | false => (match decide (hi < i) with | true => some false | false => none)) = some r := e
          show decide (i ≤ v) = r
          split at e
          · rename_i h
            cases e
            have h := of_decide_eq_true h
            exact decide_eq_true (by omega)
          · split at e
            · rename_i h
              cases e
              have h := of_decide_eq_true h
              exact decide_eq_false (by omega)
            · cases e
    | x =>
      cases b with
      | k i =>
        cases o with
        | eq =>
          have e : (match decide (i < lo) || decide (hi < i) with | true => some false | false => none) = some r := e
          split at e
          · rename_i h
            cases e
            rw [Bool.or_eq_true, decide_eq_true_eq, decide_eq_true_eq] at h
            show decide (v = i) = false
            exact decide_eq_false (by omega)
          · cases e
        | lt =>
          have e : (match decide (hi < i) with | true => some true | false => (match decide (i ≤ lo) with | true => some false | false => none)) = some r := e
          show decide (v < i) = r
          split at e
          · rename_i h
            cases e
            have h := of_decide_eq_true h
            exact decide_eq_true (by omega)
          · split at e
            · rename_i h
              cases e
              have h := of_decide_eq_true h
              exact decide_eq_false (by omega)
            · cases e
        | le =>
          have e : (match decide (hi ≤ i) with | true => some true | false => (match decide (i < lo) with | true => some false | false => none)) = some r := e
          show decide (v ≤ i) = r
          split at e
          · rename_i h
            cases e
            have h := of_decide_eq_true h
            exact decide_eq_true (by omega)
          · split at e
            · rename_i h
              cases e
              have h := of_decide_eq_true h
              exact decide_eq_false (by omega)
            · cases e
      | x =>
        cases o with
        | eq => cases e; exact decide_eq_true rfl
        | lt => cases e; exact decide_eq_false (Int.lt_irrefl v)
        | le => cases e; exact decide_eq_true (Int.le_refl v)
end SI
theorem lawful_int : Lawful Int id where
  lit := fun _ => rfl
  val := fun a i e => Option.some.inj e
  bin := fun o a b c e => e
  cmp := fun o a b r e => Option.some.inj e
end Pz
set_option Elab.async false
set_option linter.all false
set_option maxRecDepth 100000
set_option maxHeartbeats 4000000
/-! the evaluator as a relation, whatever the steps: for reasoning by hand -/
namespace Pz
open PySem (Str)
section
variable {I : Type} [IOps I] (G : Pg I)
def EE (d : Nat) (e : Ex I) (t : Env I) (S : Sto I) (v : Val I) (S' : Sto I) : Prop := ∃ n, ∀ m, n ≤ m → (evN G m).e d e t S = .ok v S'
def EEs (d : Nat) (e : List (Ex I)) (t : Env I) (S : Sto I) (v : List (Val I)) (S' : Sto I) : Prop := ∃ n, ∀ m, n ≤ m → (evN G m).es d e t S = .ok v S'
def ES (d : Nat) (e : St I) (t : Env I) (S : Sto I) (v : Fl I × Env I) (S' : Sto I) : Prop := ∃ n, ∀ m, n ≤ m → (evN G m).s d e t S = .ok v S'
def ESs (d : Nat) (e : List (St I)) (t : Env I) (S : Sto I) (v : Fl I × Env I) (S' : Sto I) : Prop := ∃ n, ∀ m, n ≤ m → (evN G m).ss d e t S = .ok v S'
def ELp (d : Nat) (s : Src I) (i : Nat) (g : Tg) (b : List (St I)) (t : Env I) (S : Sto I) (v : Fl I × Env I) (S' : Sto I) : Prop := ∃ n, ∀ m, n ≤ m → (evN G m).lp d s i g b t S = .ok v S'
def ECl (d i : Nat) (vs : List (Val I)) (S : Sto I) (v : Val I) (S' : Sto I) : Prop := ∃ n, ∀ m, n ≤ m → (evN G m).call d i vs S = .ok v S'
variable {G} {d : Nat} {t t' t'' : Env I} {S S1 S2 S3 : Sto I} {v u w : Val I}
theorem EE.mk1 {e : Ex I} (n : Nat) (h : ∀ m, n ≤ m → stepE G (evN G m) d e t S = .ok v S1) : EE G d e t S v S1 := ⟨n + 1, fun m hm => by
  obtain ⟨k, rfl⟩ : ∃ k, m = k + 1 := ⟨m - 1, by omega⟩
  exact h k (by omega)⟩
theorem ES.mk1 {e : St I} {r : Fl I × Env I} (n : Nat) (h : ∀ m, n ≤ m → stepS (evN G m) d e t S = .ok r S1) : ES G d e t S r S1 := ⟨n + 1, fun m hm => by
  obtain ⟨k, rfl⟩ : ∃ k, m = k + 1 := ⟨m - 1, by omega⟩
  exact h k (by omega)⟩
theorem ESs.mk1 {e : List (St I)} {r : Fl I × Env I} (n : Nat) (h : ∀ m, n ≤ m → stepSs (evN G m) d e t S = .ok r S1) : ESs G d e t S r S1 := ⟨n + 1, fun m hm => by
  obtain ⟨k, rfl⟩ : ∃ k, m = k + 1 := ⟨m - 1, by omega⟩
  exact h k (by omega)⟩
theorem EE.cst {v : Val I} : EE G d (.cst v) t S v S := .mk1 0 fun _ _ => rfl
theorem EE.var {i : Nat} (h : t[i]? = some (some v)) : EE G d (.var i) t S v S := .mk1 0 fun _ _ => by
  show (match t[i]? with | some (some v) => Rs.ok v S | _ => .bad) = _
  rw [h]
theorem EEs.nil : EEs G d [] t S [] S := ⟨1, fun m hm => by
  obtain ⟨k, rfl⟩ : ∃ k, m = k + 1 := ⟨m - 1, by omega⟩
  rfl⟩
theorem EEs.cons {e : Ex I} {es : List (Ex I)} {vs : List (Val I)} (h : EE G d e t S v S1) (hs : EEs G d es t S1 vs S2) : EEs G d (e :: es) t S (v :: vs) S2 := by
  obtain ⟨n1, h1⟩ := h
  obtain ⟨n2, h2⟩ := hs
  refine ⟨n1 + n2 + 1, fun m hm => ?_⟩
  obtain ⟨k, rfl⟩ : ∃ k, m = k + 1 := ⟨m - 1, by omega⟩
  show ((evN G k).e d e t S).bind _ = _
  rw [h1 k (by omega)]
  show ((evN G k).es d es t S1).bind _ = _
  rw [h2 k (by omega)]
  rfl
theorem EEs.one {e : Ex I} (h : EE G d e t S v S1) : EEs G d [e] t S [v] S1 := .cons h .nil
theorem EE.bin {o : Bop} {a b : Ex I} (ha : EE G d a t S v S1) (hb : EE G d b t S1 u S2) (h : binV o v u S2 = .ok w S3) : EE G d (.bin o a b) t S w S3 := by
  obtain ⟨n1, h1⟩ := ha
  obtain ⟨n2, h2⟩ := hb
  refine .mk1 (n1 + n2) fun m hm => ?_
  show ((evN G m).e d a t S).bind _ = _
  rw [h1 m (by omega)]
  show ((evN G m).e d b t S1).bind _ = _
  rw [h2 m (by omega)]
  exact h
theorem EE.idx {a b : Ex I} (ha : EE G d a t S v S1) (hb : EE G d b t S1 u S2) (h : getV S2 v u = some w) : EE G d (.idx a b) t S w S2 := by
  obtain ⟨n1, h1⟩ := ha
  obtain ⟨n2, h2⟩ := hb
  refine .mk1 (n1 + n2) fun m hm => ?_
  show ((evN G m).e d a t S).bind _ = _
  rw [h1 m (by omega)]
  show ((evN G m).e d b t S1).bind _ = _
  rw [h2 m (by omega)]
  show opt (getV S2 v u) _ = _
  rw [h]
  rfl
theorem EE.cmp {o : Cop} {a b : Ex I} {k : Bool} (ha : EE G d a t S v S1) (hb : EE G d b t S1 u S2) (h : cmpV S2 o v u = some k) : EE G d (.cmp o a b) t S (.bl k) S2 := by
  obtain ⟨n1, h1⟩ := ha
  obtain ⟨n2, h2⟩ := hb
  refine .mk1 (n1 + n2) fun m hm => ?_
  show ((evN G m).e d a t S).bind _ = _
  rw [h1 m (by omega)]
  show ((evN G m).e d b t S1).bind _ = _
  rw [h2 m (by omega)]
  show opt (cmpV S2 o v u) _ = _
  rw [h]
  rfl
theorem EE.bif {b : BF} {es : List (Ex I)} {vs : List (Val I)} (hs : EEs G d es t S vs S1) (h : bfV b vs S1 = .ok w S2) : EE G d (.bif b es) t S w S2 := by
  obtain ⟨n1, h1⟩ := hs
  refine .mk1 n1 fun m hm => ?_
  show ((evN G m).es d es t S).bind _ = _
  rw [h1 m (by omega)]
  exact h
theorem EE.lst {es : List (Ex I)} {vs : List (Val I)} (hs : EEs G d es t S vs S1) (h : guard (okL vs) (fresh S1 (.lst vs)) = .ok w S2) : EE G d (.lst es) t S w S2 := by
  obtain ⟨n1, h1⟩ := hs
  refine .mk1 n1 fun m hm => ?_
  show ((evN G m).es d es t S).bind _ = _
  rw [h1 m (by omega)]
  exact h
theorem EE.tup {es : List (Ex I)} {vs : List (Val I)} (hs : EEs G d es t S vs S1) (h : okL vs = true) : EE G d (.tup es) t S (.tup vs) S1 := by
  obtain ⟨n1, h1⟩ := hs
  refine .mk1 n1 fun m hm => ?_
  show ((evN G m).es d es t S).bind _ = _
  rw [h1 m (by omega)]
  show guard (okL vs) _ = _
  rw [h]
  rfl
/-- a bound of a slice -/
def EO (G : Pg I) (d : Nat) (o : Option (Ex I)) (t : Env I) (S : Sto I) (i : Option Int) (S' : Sto I) : Prop := ∃ n, ∀ m, n ≤ m → optE (evN G m) d o t S = .ok i S'
theorem EO.none : EO G d .none t S .none S := ⟨0, fun _ _ => rfl⟩
theorem EO.some {e : Ex I} {i : Int} (h : EE G d e t S v S1) (hi : asI v = some i) : EO G d (some e) t S (some i) S1 := by
  obtain ⟨n1, h1⟩ := h
  refine ⟨n1, fun m hm => ?_⟩
  show ((evN G m).e d e t S).bind _ = _
  rw [h1 m hm]
  show opt (asI v) _ = _
  rw [hi]
  rfl
theorem EE.slc {a : Ex I} {lo hi : Option (Ex I)} {i j : Option Int} (ha : EE G d a t S v S1) (h1 : EO G d lo t S1 i S2) (h2 : EO G d hi t S2 j S3) {S4 : Sto I} (h : sliceV S3 v i j none = .ok w S4) : EE G d (.slc a lo hi none) t S w S4 := by
  obtain ⟨n1, k1⟩ := ha
  obtain ⟨n2, k2⟩ := h1
  obtain ⟨n3, k3⟩ := h2
  refine .mk1 (n1 + n2 + n3) fun m hm => ?_
  show ((evN G m).e d a t S).bind _ = _
  rw [k1 m (by omega)]
  show (optE (evN G m) d lo t S1).bind _ = _
  rw [k2 m (by omega)]
  show (optE (evN G m) d hi t S2).bind _ = _
  rw [k3 m (by omega)]
  exact h
theorem EE.call {i : Nat} {es : List (Ex I)} {vs : List (Val I)} (hs : EEs G d es t S vs S1) (h : ECl G d i vs S1 w S2) : EE G d (.call i es none) t S w S2 := by
  obtain ⟨n1, k1⟩ := hs
  obtain ⟨n2, k2⟩ := h
  refine .mk1 (n1 + n2) fun m hm => ?_
  show ((evN G m).es d es t S).bind _ = _
  rw [k1 m (by omega)]
  exact k2 m (by omega)
theorem ECl.rt {i : Nat} {fn : Fn I} {vs : List (Val I)} (hf : G.fns[i]? = some fn) (hl : Nat.beq vs.length fn.np = true) (h : ESs G d fn.body (vs.map some ++ List.replicate (fn.ns - fn.np) none) S (.rt w, t') S1) : ECl G (d + 1) i vs S w S1 := by
  obtain ⟨n1, k1⟩ := h
  refine ⟨n1 + 1, fun m hm => ?_⟩
  obtain ⟨k, rfl⟩ : ∃ k, m = k + 1 := ⟨m - 1, by omega⟩
  show (opt G.fns[i]? fun fn => if Nat.beq vs.length fn.np then
      ((evN G k).ss d fn.body (vs.map some ++ List.replicate (fn.ns - fn.np) .none) S).bind fun r S1 => match r with
        | (.rt v, _) => .ok v S1
        | (.nx, _) => .ok .non S1
        | (.ct, _) => .bad
    else .bad) = _
  rw [hf]
  show (if Nat.beq vs.length fn.np then _ else _) = _
  rw [if_pos hl, k1 k (by omega)]
  rfl
/-! statements -/
theorem ES.set {i : Nat} {e : Ex I} (h : EE G d e t S v S1) : ES G d (.set i e) t S (.nx, t.set i (some v)) S1 := by
  obtain ⟨n1, k1⟩ := h
  refine .mk1 n1 fun m hm => ?_
  show ((evN G m).e d e t S).bind _ = _
  rw [k1 m hm]
  rfl
theorem ES.setI {a i e : Ex I} (h : EE G d e t S v S1) (ha : EE G d a t S1 u S2) (hi : EE G d i t S2 w S3) {S4 : Sto I} (hp : putV S3 u w v = some S4) : ES G d (.setI a i e) t S (.nx, t) S4 := by
  obtain ⟨n1, k1⟩ := h
  obtain ⟨n2, k2⟩ := ha
  obtain ⟨n3, k3⟩ := hi
  refine .mk1 (n1 + n2 + n3) fun m hm => ?_
  show ((evN G m).e d e t S).bind _ = _
  rw [k1 m (by omega)]
  show ((evN G m).e d a t S1).bind _ = _
  rw [k2 m (by omega)]
  show ((evN G m).e d i t S2).bind _ = _
  rw [k3 m (by omega)]
  show opt (putV S3 u w v) _ = _
  rw [hp]
  rfl
theorem ES.ifT {c : Ex I} {a b : List (St I)} {r : Fl I × Env I} (h : EE G d c t S (.bl true) S1) (ha : ESs G d a t S1 r S2) : ES G d (.ifs c a b) t S r S2 := by
  obtain ⟨n1, k1⟩ := h
  obtain ⟨n2, k2⟩ := ha
  refine .mk1 (n1 + n2) fun m hm => ?_
  show ((evN G m).e d c t S).bind _ = _
  rw [k1 m (by omega)]
  exact k2 m (by omega)
theorem ES.ifF {c : Ex I} {a b : List (St I)} {r : Fl I × Env I} (h : EE G d c t S (.bl false) S1) (ha : ESs G d b t S1 r S2) : ES G d (.ifs c a b) t S r S2 := by
  obtain ⟨n1, k1⟩ := h
  obtain ⟨n2, k2⟩ := ha
  refine .mk1 (n1 + n2) fun m hm => ?_
  show ((evN G m).e d c t S).bind _ = _
  rw [k1 m (by omega)]
  exact k2 m (by omega)
theorem ES.ret {e : Ex I} (h : EE G d e t S v S1) : ES G d (.ret e) t S (.rt v, t) S1 := by
  obtain ⟨n1, k1⟩ := h
  refine .mk1 n1 fun m hm => ?_
  show ((evN G m).e d e t S).bind _ = _
  rw [k1 m hm]
  rfl
theorem ESs.nil : ESs G d [] t S (.nx, t) S := .mk1 0 fun _ _ => rfl
theorem ESs.cons {x : St I} {xs : List (St I)} {r : Fl I × Env I} (h : ES G d x t S (.nx, t') S1) (hs : ESs G d xs t' S1 r S2) : ESs G d (x :: xs) t S r S2 := by
  obtain ⟨n1, k1⟩ := h
  obtain ⟨n2, k2⟩ := hs
  refine .mk1 (n1 + n2) fun m hm => ?_
  show ((evN G m).s d x t S).bind _ = _
  rw [k1 m (by omega)]
  exact k2 m (by omega)
theorem ESs.rt {x : St I} {xs : List (St I)} (h : ES G d x t S (.rt v, t') S1) : ESs G d (x :: xs) t S (.rt v, t') S1 := by
  obtain ⟨n1, k1⟩ := h
  refine .mk1 n1 fun m hm => ?_
  show ((evN G m).s d x t S).bind _ = _
  rw [k1 m (by omega)]
  rfl
theorem ES.forEnu {g : Tg} {e : Ex I} {b : List (St I)} {s : Src I} {r : Fl I × Env I} (h : EE G d e t S v S1) (hs : seqV v S1 = some s) (hl : ELp G d (.enu s) 0 g b t S1 r S2) : ES G d (.for g (.enu e) b) t S r S2 := by
  obtain ⟨n1, k1⟩ := EEs.one h
  obtain ⟨n2, k2⟩ := hl
  refine .mk1 (n1 + n2) fun m hm => ?_
  show (((evN G m).es d [e] t S).bind fun vs S1 => opt (arg1 vs) fun v => opt (seqV v S1) fun s => Rs.ok (Src.enu s, none) S1).bind _ = _
  rw [k1 m (by omega)]
  show (opt (seqV v S1) fun s => Rs.ok (Src.enu s, none) S1).bind _ = _
  rw [hs]
  exact k2 m (by omega)
theorem ELp.done {s : Src I} {i : Nat} {g : Tg} {b : List (St I)} (h : s.at S i = some none) : ELp G d s i g b t S (.nx, t) S := ⟨1, fun m hm => by
  obtain ⟨k, rfl⟩ : ∃ k, m = k + 1 := ⟨m - 1, by omega⟩
  show opt (s.at S i) _ = _
  rw [h]
  rfl⟩
theorem ELp.next {s : Src I} {i : Nat} {g : Tg} {b : List (St I)} {r : Fl I × Env I} {f : Fl I} (h : s.at S i = some (some v)) (hb : bindT g v t = some t') (h1 : ESs G d b t' S (f, t'') S1) (hf : ∀ v, f ≠ .rt v) (h2 : ELp G d s (i + 1) g b t'' S1 r S2) : ELp G d s i g b t S r S2 := by
  obtain ⟨n1, k1⟩ := h1
  obtain ⟨n2, k2⟩ := h2
  refine ⟨n1 + n2 + 1, fun m hm => ?_⟩
  obtain ⟨k, rfl⟩ : ∃ k, m = k + 1 := ⟨m - 1, by omega⟩
  show opt (s.at S i) _ = _
  rw [h]
  show opt (bindT g v t) _ = _
  rw [hb]
  show ((evN G k).ss d b t' S).bind _ = _
  rw [k1 k (by omega)]
  cases f with
  | rt v => exact absurd rfl (hf v)
  | nx => exact k2 k (by omega)
  | ct => exact k2 k (by omega)
end
end Pz
set_option Elab.async false
set_option linter.all false
set_option maxRecDepth 100000
set_option maxHeartbeats 4000000
/-! the evaluator as a relation: fields, methods, new, loops -/
namespace Pz
open PySem (Str)
section
variable {I : Type} [IOps I] {G : Pg I} {d : Nat} {t t' t'' : Env I} {S S1 S2 S3 : Sto I} {v u w : Val I}
theorem ECl.mk1 {i : Nat} {vs : List (Val I)} (n : Nat) (h : ∀ m, (evN G (m + n)).call d i vs S = .ok v S1) : ECl G d i vs S v S1 := ⟨n, fun m hm => by
  obtain ⟨k, rfl⟩ : ∃ k, m = k + n := ⟨m - n, by omega⟩
  exact h k⟩
theorem EE.mkN {e : Ex I} (n : Nat) (h : ∀ m, (evN G (m + n)).e d e t S = .ok v S1) : EE G d e t S v S1 := ⟨n, fun m hm => by
  obtain ⟨k, rfl⟩ : ∃ k, m = k + n := ⟨m - n, by omega⟩
  exact h k⟩
theorem ES.mkN {e : St I} {r : Fl I × Env I} (n : Nat) (h : ∀ m, (evN G (m + n)).s d e t S = .ok r S1) : ES G d e t S r S1 := ⟨n, fun m hm => by
  obtain ⟨k, rfl⟩ : ∃ k, m = k + n := ⟨m - n, by omega⟩
  exact h k⟩
theorem EE.fld {a : Ex I} {f : Str} {p c : Nat} {fs : List (Str × Val I)} (ha : EE G d a t S (.ref p) S1) (hp : S1.get p = some (.ins c fs)) (hf : lookS f fs = some w) : EE G d (.fld a f) t S w S1 := by
  obtain ⟨n1, k1⟩ := ha
  refine .mk1 n1 fun m hm => ?_
  show e_fld (evN G m) d a f t S = _
  unfold e_fld
  rw [k1 m hm]
  show (match S1.get p with | some (.ins _ fs) => opt (lookS f fs) fun w => Rs.ok w S1 | _ => .bad) = _
  rw [hp]
  show opt (lookS f fs) _ = _
  rw [hf]
  rfl
theorem EE.not {a : Ex I} {k : Bool} (ha : EE G d a t S (.bl k) S1) : EE G d (.not a) t S (.bl (!k)) S1 := by
  obtain ⟨n1, k1⟩ := ha
  refine .mk1 n1 fun m hm => ?_
  show ((evN G m).e d a t S).bind _ = _
  rw [k1 m hm]
  rfl
theorem EE.andF {a b : Ex I} (ha : EE G d a t S (.bl false) S1) : EE G d (.and a b) t S (.bl false) S1 := by
  obtain ⟨n1, k1⟩ := ha
  refine .mk1 n1 fun m hm => ?_
  show ((evN G m).e d a t S).bind _ = _
  rw [k1 m hm]
  rfl
theorem EE.andT {a b : Ex I} (ha : EE G d a t S (.bl true) S1) (hb : EE G d b t S1 v S2) : EE G d (.and a b) t S v S2 := by
  obtain ⟨n1, k1⟩ := ha
  obtain ⟨n2, k2⟩ := hb
  refine .mk1 (n1 + n2) fun m hm => ?_
  show ((evN G m).e d a t S).bind _ = _
  rw [k1 m (by omega)]
  exact k2 m (by omega)
theorem EE.orT {a b : Ex I} (ha : EE G d a t S (.bl true) S1) : EE G d (.or a b) t S (.bl true) S1 := by
  obtain ⟨n1, k1⟩ := ha
  refine .mk1 n1 fun m hm => ?_
  show ((evN G m).e d a t S).bind _ = _
  rw [k1 m hm]
  rfl
theorem EE.orF {a b : Ex I} (ha : EE G d a t S (.bl false) S1) (hb : EE G d b t S1 v S2) : EE G d (.or a b) t S v S2 := by
  obtain ⟨n1, k1⟩ := ha
  obtain ⟨n2, k2⟩ := hb
  refine .mk1 (n1 + n2) fun m hm => ?_
  show ((evN G m).e d a t S).bind _ = _
  rw [k1 m (by omega)]
  exact k2 m (by omega)
theorem EE.mth {a : Ex I} {f : Str} {p c i : Nat} {fs : List (Str × Val I)} {cl : Cl} {es : List (Ex I)} {vs : List (Val I)} (ha : EE G d a t S (.ref p) S1) (hp : S1.get p = some (.ins c fs)) (hf : lookS f fs = none) (hs : EEs G d es t S1 vs S2)
    (hc : G.cls[c]? = some cl) (hm : lookM f cl.ms = some i) (h : ECl G d i (.ref p :: vs) S2 w S3) : EE G d (.mth a f es none) t S w S3 := by
  obtain ⟨n1, k1⟩ := ha
  obtain ⟨n2, k2⟩ := hs
  obtain ⟨n3, k3⟩ := h
  refine .mk1 (n1 + n2 + n3) fun m hm' => ?_
  show e_mth G (evN G m) d a f es none t S = _
  unfold e_mth
  rw [k1 m (by omega)]
  show (match S1.get p with
      | some (.ins c fs) => (match lookS f fs with
        | some _ => Rs.bad
        | none => ((evN G m).es d es t S1).bind fun vs S2 => opt (permute vs none) fun us => opt G.cls[c]? fun cl => opt (lookM f cl.ms) fun i => (evN G m).call d i (.ref p :: us) S2)
      | _ => .bad) = _
  rw [hp]
  show (match lookS f fs with
        | some _ => Rs.bad
        | none => ((evN G m).es d es t S1).bind fun vs S2 => opt (permute vs none) fun us => opt G.cls[c]? fun cl => opt (lookM f cl.ms) fun i => (evN G m).call d i (.ref p :: us) S2) = _
  rw [hf]
  show ((evN G m).es d es t S1).bind _ = _
  rw [k2 m (by omega)]
  show (opt G.cls[c]? fun cl => opt (lookM f cl.ms) fun i => (evN G m).call d i (.ref p :: vs) S2) = _
  rw [hc]
  show (opt (lookM f cl.ms) fun i => (evN G m).call d i (.ref p :: vs) S2) = _
  rw [hm]
  exact k3 m (by omega)
theorem EE.new {c : Nat} {cl : Cl} {es : List (Ex I)} {vs : List (Val I)} (hs : EEs G (d + 1) es t S vs S1) (hc : G.cls[c]? = some cl) (hz : S1.next < 1000000000) (h : ECl G d cl.init (.ref S1.next :: vs) (S1.new (.ins c [])) .non S2) : EE G (d + 1) (.new c es none) t S (.ref S1.next) S2 := by
  obtain ⟨n1, k1⟩ := hs
  obtain ⟨n2, k2⟩ := h
  refine .mk1 (n1 + n2) fun m hm => ?_
  show ((evN G m).es (d + 1) es t S).bind _ = _
  rw [k1 m (by omega)]
  show (opt G.cls[c]? fun cl => (fresh S1 (.ins c [])).bind fun x S2 => ((evN G m).call d cl.init (x :: vs) S2).bind fun u S3 => opt (asNon u) fun _ => .ok x S3) = _
  rw [hc]
  have : fresh S1 (.ins c []) = .ok (.ref S1.next) (S1.new (.ins c [])) := by
    unfold fresh
    rw [show Nat.blt S1.next 1000000000 = true from Nat.ble_eq_true_of_le hz]
  show (fresh S1 (.ins c [])).bind _ = _
  rw [this]
  show ((evN G m).call d cl.init (.ref S1.next :: vs) (S1.new (.ins c []))).bind _ = _
  rw [k2 m (by omega)]
  rfl
theorem EE.bmt {a : Ex I} {k : BM} {es : List (Ex I)} {vs : List (Val I)} (ha : EE G d a t S v S1) (hr : rcv k v S1 = true) (hs : EEs G d es t S1 vs S2) (h : bmV k v vs S2 = .ok w S3) : EE G d (.bmt a k es) t S w S3 := by
  obtain ⟨n1, k1⟩ := ha
  obtain ⟨n2, k2⟩ := hs
  refine .mk1 (n1 + n2) fun m hm => ?_
  show ((evN G m).e d a t S).bind _ = _
  rw [k1 m (by omega)]
  show (match rcv k v S1 with | true => ((evN G m).es d es t S1).bind fun vs S2 => bmV k v vs S2 | false => .bad) = _
  rw [hr]
  show ((evN G m).es d es t S1).bind _ = _
  rw [k2 m (by omega)]
  exact h
theorem ES.expr {e : Ex I} (h : EE G d e t S v S1) : ES G d (.expr e) t S (.nx, t) S1 := by
  obtain ⟨n1, k1⟩ := h
  refine .mk1 n1 fun m hm => ?_
  show ((evN G m).e d e t S).bind _ = _
  rw [k1 m hm]
  rfl
theorem ES.retN : ES G d .retN t S (.rt .non, t) S := .mk1 0 fun _ _ => rfl
theorem lt1000 {n : Nat} (h : n < 1000) : Nat.blt n 1000 = true := Nat.ble_eq_true_of_le h
theorem ES.setF {a e : Ex I} {f : Str} {p c : Nat} {fs : List (Str × Val I)} (h : EE G d e t S v S1) (ha : EE G d a t S1 (.ref p) S2) (hp : S2.get p = some (.ins c fs)) (hl : fs.length < 1000) : ES G d (.setF a f e) t S (.nx, t) (S2.set p (.ins c (putS f v fs))) := by
  obtain ⟨n1, k1⟩ := h
  obtain ⟨n2, k2⟩ := ha
  refine .mk1 (n1 + n2) fun m hm => ?_
  show s_setF (evN G m) d a f e t S = _
  unfold s_setF
  rw [k1 m (by omega)]
  show ((evN G m).e d a t S1).bind _ = _
  rw [k2 m (by omega)]
  show (match S2.get p with | some (.ins c fs) => guard (Nat.blt fs.length 1000) (Rs.ok (Fl.nx, t) (S2.set p (.ins c (putS f v fs)))) | _ => .bad) = _
  rw [hp]
  show guard (Nat.blt fs.length 1000) _ = _
  rw [lt1000 hl]
  rfl
theorem ES.augF {a e : Ex I} {f : Str} {o : Bop} {p c : Nat} {fs fs' : List (Str × Val I)} {x y z : Val I} (ha : EE G d a t S (.ref p) S1) (hp : S1.get p = some (.ins c fs)) (hf : lookS f fs = some x) (h : EE G d e t S1 y S2) (hz : augV o x y = some z) (hp2 : S2.get p = some (.ins c fs')) (hl : fs'.length < 1000) :
    ES G d (.augF a f o e) t S (.nx, t) (S2.set p (.ins c (putS f z fs'))) := by
  obtain ⟨n1, k1⟩ := ha
  obtain ⟨n2, k2⟩ := h
  refine .mk1 (n1 + n2) fun m hm => ?_
  show s_augF (evN G m) d a f o e t S = _
  unfold s_augF
  rw [k1 m (by omega)]
  show (match S1.get p with
      | some (.ins c fs) => opt (lookS f fs) fun x => ((evN G m).e d e t S1).bind fun y S2 => opt (augV o x y) fun z => match S2.get p with
        | some (.ins c' fs') => guard (Nat.blt fs'.length 1000 && Nat.beq c c') (Rs.ok (Fl.nx, t) (S2.set p (.ins c' (putS f z fs'))))
        | _ => .bad
      | _ => .bad) = _
  rw [hp]
  show (opt (lookS f fs) fun x => ((evN G m).e d e t S1).bind fun y S2 => opt (augV o x y) fun z => match S2.get p with
        | some (.ins c' fs') => guard (Nat.blt fs'.length 1000 && Nat.beq c c') (Rs.ok (Fl.nx, t) (S2.set p (.ins c' (putS f z fs'))))
        | _ => .bad) = _
  rw [hf]
  show (((evN G m).e d e t S1).bind fun y S2 => opt (augV o x y) fun z => match S2.get p with
        | some (.ins c' fs') => guard (Nat.blt fs'.length 1000 && Nat.beq c c') (Rs.ok (Fl.nx, t) (S2.set p (.ins c' (putS f z fs'))))
        | _ => .bad) = _
  rw [k2 m (by omega)]
  show (opt (augV o x y) fun z => match S2.get p with
        | some (.ins c' fs') => guard (Nat.blt fs'.length 1000 && Nat.beq c c') (Rs.ok (Fl.nx, t) (S2.set p (.ins c' (putS f z fs'))))
        | _ => .bad) = _
  rw [hz]
  show (match S2.get p with
        | some (.ins c' fs') => guard (Nat.blt fs'.length 1000 && Nat.beq c c') (Rs.ok (Fl.nx, t) (S2.set p (.ins c' (putS f z fs'))))
        | _ => .bad) = _
  rw [hp2]
  show guard (Nat.blt fs'.length 1000 && Nat.beq c c) _ = _
  rw [lt1000 hl, Nat.beq_refl]
  rfl
theorem ES.whlF {c : Ex I} {b : List (St I)} (h : EE G d c t S (.bl false) S1) : ES G d (.whl c b) t S (.nx, t) S1 := by
  obtain ⟨n1, k1⟩ := h
  refine .mk1 n1 fun m hm => ?_
  show ((evN G m).e d c t S).bind _ = _
  rw [k1 m hm]
  rfl
theorem ES.whlT {c : Ex I} {b : List (St I)} {f : Fl I} {r : Fl I × Env I} (h : EE G d c t S (.bl true) S1) (hb : ESs G d b t S1 (f, t') S2) (hf : ∀ v, f ≠ .rt v) (hn : ES G d (.whl c b) t' S2 r S3) : ES G d (.whl c b) t S r S3 := by
  obtain ⟨n1, k1⟩ := h
  obtain ⟨n2, k2⟩ := hb
  obtain ⟨n3, k3⟩ := hn
  refine .mk1 (n1 + n2 + n3) fun m hm => ?_
  show ((evN G m).e d c t S).bind _ = _
  rw [k1 m (by omega)]
  show ((evN G m).ss d b t S1).bind _ = _
  rw [k2 m (by omega)]
  cases f with
  | rt v => exact absurd rfl (hf v)
  | nx => exact k3 m (by omega)
  | ct => exact k3 m (by omega)
theorem ECl.nx {i : Nat} {fn : Fn I} {vs : List (Val I)} (hf : G.fns[i]? = some fn) (hl : Nat.beq vs.length fn.np = true) (h : ESs G d fn.body (vs.map some ++ List.replicate (fn.ns - fn.np) none) S (.nx, t') S1) : ECl G (d + 1) i vs S .non S1 := by
  obtain ⟨n1, k1⟩ := h
  refine ⟨n1 + 1, fun m hm => ?_⟩
  obtain ⟨k, rfl⟩ : ∃ k, m = k + 1 := ⟨m - 1, by omega⟩
  show (opt G.fns[i]? fun fn => if Nat.beq vs.length fn.np then
      ((evN G k).ss d fn.body (vs.map some ++ List.replicate (fn.ns - fn.np) .none) S).bind fun r S1 => match r with
        | (.rt v, _) => .ok v S1
        | (.nx, _) => .ok .non S1
        | (.ct, _) => .bad
    else .bad) = _
  rw [hf]
  show (if Nat.beq vs.length fn.np then _ else _) = _
  rw [if_pos hl, k1 k (by omega)]
  rfl
end
end Pz
set_option Elab.async false
set_option linter.all false
set_option maxRecDepth 100000
set_option maxHeartbeats 4000000
/-! the pen's three defs -/
namespace Pz
abbrev ii (i : Int) : Val Int := .int i
def gOpen : Fn Int := ⟨1, 4, [(.set 1 (.bif .list [(.slc (.var 0) none (some (.cst (ii 12))) none)])), (.for (.tup [(.nm 2), (.nm 3)]) (.enu (.slc (.var 0) (some (.cst (ii 12))) (some (.cst (ii 63))) none)) [(.setI (.var 1) (.bin .mod (.bif .int [(.var 2)]) (.cst (ii 12))) (.bin .add (.idx (.var 1) (.bin .mod (.bif .int [(.var 2)]) (.cst (ii 12)))) (.var 3)))]), (.ret (.lst [(.var 1), (.cst (ii 0)), (.cst (ii 0))]))]⟩
def gSpread : Fn Int := ⟨2, 6, [(.ifs (.cmp .ge (.var 0) (.bin .pow (.cst (ii 10)) (.cst (ii 18)))) [(.ret (.var 0))] []), (.set 2 (.lst [(.cst (ii 2147483629)), (.cst (ii 2147483587)), (.cst (ii 2147483579)), (.cst (ii 2147483563)), (.cst (ii 2147483549)), (.cst (ii 2147483543)), (.cst (ii 2147483497)), (.cst (ii 2147483489))])), (.set 2 (.bin .add (.var 2) (.lst [(.cst (ii 2147483477)), (.cst (ii 2147483423)), (.cst (ii 2147483399)), (.cst (ii 2147483353)), (.cst (ii 2147483323))]))), (.set 3 (.bin .add (.bin .add (.bin .mul (.bin .mod (.bif .int [(.var 0)]) (.cst (ii 1000000007))) (.bin .add (.bin .mul (.cst (ii 2)) (.var 1)) (.cst (ii 69069)))) (.bin .mul (.var 1) (.cst (ii 40503)))) (.cst (ii 977)))), (.set 3 (.bin .mod (.bif .int [(.bin .pow (.var 3) (.cst (ii 3)))]) (.idx (.var 2) (.bin .mod (.bif .int [(.var 1)]) (.cst (ii 13)))))), (.set 4 (.bin .mod (.bif .int [(.bin .pow (.bin .add (.bin .add (.bin .mul (.var 3) (.bin .add (.var 1) (.cst (ii 3)))) (.bin .mod (.bif .int [(.var 0)]) (.cst (ii 65537)))) (.cst (ii 5))) (.cst (ii 5)))]) (.idx (.var 2) (.bin .mod (.bif .int [(.bin .add (.var 1) (.cst (ii 5)))]) (.cst (ii 13)))))), (.set 5 (.bin .mod (.bif .int [(.bin .pow (.bin .add (.bin .add (.var 4) (.bin .mod (.bif .int [(.var 3)]) (.cst (ii 1009)))) (.var 1)) (.cst (ii 3)))]) (.idx (.var 2) (.bin .mod (.bif .int [(.bin .add (.var 1) (.cst (ii 7)))]) (.cst (ii 13)))))), (.ret (.bin .add (.bin .mul (.bin .add (.bin .mul (.var 3) (.cst (ii 2147483647))) (.var 4)) (.cst (ii 2147483647))) (.var 5)))]⟩
def gTake (isp : Nat) : Fn Int := ⟨2, 5, [(.ifs (.cmp .lt (.idx (.var 0) (.cst (ii 2))) (.var 1)) [(.set 2 (.idx (.var 0) (.cst (ii 1)))), (.set 3 (.cst (ii 0))), (.ifs (.cmp .lt (.var 2) (.bif .len [(.idx (.var 0) (.cst (ii 0)))])) [(.set 3 (.idx (.idx (.var 0) (.cst (ii 0))) (.var 2)))] [(.ifs (.cmp .gt (.bif .len [(.idx (.var 0) (.cst (ii 0)))]) (.cst (ii 0))) [(.set 3 (.bin .mod (.bif .int [(.idx (.idx (.var 0) (.cst (ii 0))) (.bin .mod (.bif .int [(.bin .add (.bin .mul (.var 2) (.cst (ii 5))) (.cst (ii 3)))]) (.bif .len [(.idx (.var 0) (.cst (ii 0)))])))]) (.bin .add (.bin .pow (.cst (ii 10)) (.cst (ii 17))) (.var 2))))] [])]), (.setI (.var 0) (.cst (ii 1)) (.bin .add (.var 2) (.cst (ii 1)))), (.setI (.var 0) (.cst (ii 2)) (.call isp [(.var 3), (.var 2)] none))] []), (.set 4 (.bin .mod (.bif .int [(.idx (.var 0) (.cst (ii 2)))]) (.var 1))), (.setI (.var 0) (.cst (ii 2)) (.bin .fdv (.idx (.var 0) (.cst (ii 2))) (.var 1))), (.ret (.var 4))]⟩
section
variable {S S1 : Sto Int} {a b : Int}
theorem fresh_ok {I : Type} {S : Sto I} {o : Ob I} (h : S.next < 1000000000) : fresh S o = .ok (.ref S.next) (S.new o) := by
  unfold fresh
  rw [show Nat.blt S.next 1000000000 = true from Nat.ble_eq_true_of_le h]
theorem get_new_old {I : Type} {S : Sto I} {o : Ob I} {a : Nat} (h : S.next < 1000000000) (l : a < S.next) : (S.new o).get a = S.get a := by
  rw [Sto.get_new h, if_neg (by omega)]
theorem get_new_at {I : Type} {S : Sto I} {o : Ob I} (h : S.next < 1000000000) : (S.new o).get S.next = some o := by
  rw [Sto.get_new h, if_pos rfl]
theorem badd : binV .add (ii a) (ii b) S = .ok (ii (a + b)) S := rfl
theorem bmod (h : 0 < b) : binV .mod (ii a) (ii b) S = .ok (ii (a % b)) S := by
  show opt (if 0 < b then some (a % b) else none) _ = _
  rw [if_pos h]
  rfl
theorem bmul (h : big64 a = true ∨ big64 b = true) : binV .mul (ii a) (ii b) S = .ok (ii (a * b)) S := by
  show opt (if big64 a || big64 b then some (a * b) else none) _ = _
  rw [if_pos (by rw [Bool.or_eq_true]; exact h)]
  rfl
theorem bpow {k : Int} (h0 : 0 ≤ k) (h1 : k ≤ 1000000) (h : big64 a = true) : binV .pow (ii a) (ii k) S = .ok (ii (a ^ k.toNat)) S := by
  show opt (if 0 ≤ k && k ≤ 1000000 && big64 a then some (a ^ k.toNat) else none) _ = _
  rw [if_pos (by rw [Bool.and_eq_true, Bool.and_eq_true]; exact ⟨⟨decide_eq_true h0, decide_eq_true h1⟩, h⟩)]
  rfl
theorem bfdv (h : 0 < b) (h2 : b < 1073741824) : binV .fdv (ii a) (ii b) S = .ok (ii (a / b)) S := by
  show opt (if 0 < b && b < 1073741824 then some (a / b) else none) _ = _
  rw [if_pos (by rw [Bool.and_eq_true]; exact ⟨decide_eq_true h, decide_eq_true h2⟩)]
  rfl
theorem big_of (h1 : -18446744073709551616 < a) (h2 : a < 18446744073709551616) : big64 a = true := by
  unfold big64
  rw [Bool.and_eq_true]
  exact ⟨decide_eq_true h1, decide_eq_true h2⟩
theorem getL {x : Nat} {xs : List (Val Int)} {v : Val Int} (h : S.get x = some (.lst xs)) (h0 : 0 ≤ a) (h1 : xs[a.toNat]? = some v) : getV S (.ref x) (ii a) = some v := by
  have hl : a.toNat < xs.length := (List.getElem?_eq_some_iff.mp h1).1
  unfold getV
  simp only [h]
  show (match place xs.length a with | some j => xs[j]? | none => none) = _
  have : place xs.length a = some a.toNat := by
    unfold place
    rw [if_pos h0, if_pos (by omega)]
  rw [this]
  exact h1
end
section
variable {G : Pg Int} {d : Nat} {t : Env Int} {S S1 S2 S3 : Sto Int} {e f : Ex Int} {a b : Int}
theorem EE.add (he : EE G d e t S (ii a) S1) (hf : EE G d f t S1 (ii b) S2) : EE G d (.bin .add e f) t S (ii (a + b)) S2 := .bin he hf badd
theorem EE.mod (he : EE G d e t S (ii a) S1) (hf : EE G d f t S1 (ii b) S2) (h : 0 < b) : EE G d (.bin .mod e f) t S (ii (a % b)) S2 := .bin he hf (bmod h)
theorem EE.mul (he : EE G d e t S (ii a) S1) (hf : EE G d f t S1 (ii b) S2) (h : big64 a = true ∨ big64 b = true) : EE G d (.bin .mul e f) t S (ii (a * b)) S2 := .bin he hf (bmul h)
theorem EE.pow (he : EE G d e t S (ii a) S1) (hf : EE G d f t S1 (ii b) S2) (h0 : 0 ≤ b) (h1 : b ≤ 1000000) (h : big64 a = true) : EE G d (.bin .pow e f) t S (ii (a ^ b.toNat)) S2 := .bin he hf (bpow h0 h1 h)
theorem EE.int (he : EE G d e t S (ii a) S1) : EE G d (.bif .int [e]) t S (ii a) S1 := .bif (.one he) rfl
theorem EE.at {x : Nat} {xs : List (Val Int)} {v : Val Int} (he : EE G d e t S (.ref x) S1) (hf : EE G d f t S1 (ii a) S2) (h : S2.get x = some (.lst xs)) (h0 : 0 ≤ a) (h1 : xs[a.toNat]? = some v) : EE G d (.idx e f) t S v S2 := .idx he hf (getL h h0 h1)
theorem EE.len {x : Nat} {xs : List (Val Int)} (he : EE G d e t S (.ref x) S1) (h : S1.get x = some (.lst xs)) : EE G d (.bif .len [e]) t S (ii xs.length) S1 := .bif (.one he) (by
  show b_len (.ref x) S1 = _
  unfold b_len
  simp only [h]
  rfl)
end
def primesA : List (Val Int) := [ii 2147483629, ii 2147483587, ii 2147483579, ii 2147483563, ii 2147483549, ii 2147483543, ii 2147483497, ii 2147483489]
def primesB : List (Val Int) := [ii 2147483477, ii 2147483423, ii 2147483399, ii 2147483353, ii 2147483323]
theorem prime_at : ∀ j : Nat, j < 13 → ∃ p : Int, (primesA ++ primesB)[j]? = some (ii p) ∧ 0 < p ∧ p < 2147483648
  | 0, _ => ⟨_, rfl, by decide, by decide⟩
  | 1, _ => ⟨_, rfl, by decide, by decide⟩
  | 2, _ => ⟨_, rfl, by decide, by decide⟩
  | 3, _ => ⟨_, rfl, by decide, by decide⟩
  | 4, _ => ⟨_, rfl, by decide, by decide⟩
  | 5, _ => ⟨_, rfl, by decide, by decide⟩
  | 6, _ => ⟨_, rfl, by decide, by decide⟩
  | 7, _ => ⟨_, rfl, by decide, by decide⟩
  | 8, _ => ⟨_, rfl, by decide, by decide⟩
  | 9, _ => ⟨_, rfl, by decide, by decide⟩
  | 10, _ => ⟨_, rfl, by decide, by decide⟩
  | 11, _ => ⟨_, rfl, by decide, by decide⟩
  | 12, _ => ⟨_, rfl, by decide, by decide⟩
  | n + 13, h => absurd h (by omega)
theorem prime_ix {x : Int} (h : 0 ≤ x) : ∃ p : Int, (primesA ++ primesB)[(x % 13).toNat]? = some (ii p) ∧ 0 < p ∧ p < 2147483648 := prime_at _ (by omega)
/-- what a step on the store keeps -/
structure Kept (S S' : Sto Int) : Prop where
  le : S.next ≤ S'.next
  up : S'.next ≤ S.next + 3
  old : ∀ a, a < S.next → S'.get a = S.get a
theorem spread_ok {G : Pg Int} {i : Nat} (hG : G.fns[i]? = some gSpread) {d : Nat} {cell p : Int} (h0 : 0 ≤ p) (h1 : p ≤ 1000000) {S : Sto Int} (hz : S.next < 999999990) : ∃ v S', ECl G (d + 1) i [ii cell, ii p] S (ii v) S' ∧ Kept S S' := by
  by_cases hc : (1000000000000000000 : Int) ≤ cell
  · refine ⟨cell, S, .rt hG rfl (ESs.rt (ES.ifT (S1 := S) (EE.cmp (v := ii cell) (u := ii 1000000000000000000) (.var rfl) (EE.pow (.cst) (.cst) (by decide) (by decide) (by decide)) ?_) (ESs.rt (ES.ret (.var rfl))))), Nat.le_refl _, Nat.le_add_right _ _, fun _ _ => rfl⟩
    show some (decide ((1000000000000000000 : Int) ≤ cell)) = _
    rw [decide_eq_true hc]
  · obtain ⟨p1, e1, l1, u1⟩ := prime_ix h0
    obtain ⟨p2, e2, l2, u2⟩ := prime_ix (show 0 ≤ p + 5 by omega)
    obtain ⟨p3, e3, l3, u3⟩ := prime_ix (show 0 ≤ p + 7 by omega)
    have hs1 : S.next < 1000000000 := by omega
    have n1 : (S.new (.lst primesA)).next = S.next + 1 := rfl
    have hs2 : (S.new (.lst primesA)).next < 1000000000 := by omega
    have n2 : ((S.new (.lst primesA)).new (.lst primesB)).next = S.next + 2 := rfl
    have hs3 : ((S.new (.lst primesA)).new (.lst primesB)).next < 1000000000 := by omega
    let T := ((S.new (.lst primesA)).new (.lst primesB)).new (.lst (primesA ++ primesB))
    have gT : T.get (S.next + 2) = some (.lst (primesA ++ primesB)) := get_new_at (S := (S.new (.lst primesA)).new (.lst primesB)) hs3
    have gA : ((S.new (.lst primesA)).new (.lst primesB)).get S.next = some (.lst primesA) := by
      rw [get_new_old hs2 (by rw [n1]; omega)]
      exact get_new_at hs1
    have gB : ((S.new (.lst primesA)).new (.lst primesB)).get (S.next + 1) = some (.lst primesB) := get_new_at (S := S.new (.lst primesA)) hs2
    let one0 : Int := cell % 1000000007 * (2 * p + 69069) + p * 40503 + 977
    let one1 : Int := one0 ^ 3 % p1
    let two0 : Int := one1 * (p + 3) + cell % 65537 + 5
    let two1 : Int := two0 ^ 5 % p2
    let three0 : Int := two1 + one1 % 1009 + p
    let three1 : Int := three0 ^ 3 % p3
    have c0 : 0 ≤ cell % 1000000007 := Int.emod_nonneg _ (by decide)
    have c1 : cell % 1000000007 < 1000000007 := Int.emod_lt_of_pos _ (by decide)
    have c2 : 0 ≤ cell % 65537 := Int.emod_nonneg _ (by decide)
    have c3 : cell % 65537 < 65537 := Int.emod_lt_of_pos _ (by decide)
    have m1 : cell % 1000000007 * (2 * p + 69069) ≤ 1000000007 * 2069069 := Int.mul_le_mul (by omega) (by omega) (by omega) (by decide)
    have m0 : 0 ≤ cell % 1000000007 * (2 * p + 69069) := Int.mul_nonneg c0 (by omega)
    have b1 : big64 one0 = true := big_of (by show _ < cell % 1000000007 * (2 * p + 69069) + p * 40503 + 977; omega) (by show cell % 1000000007 * (2 * p + 69069) + p * 40503 + 977 < _; omega)
    have o0 : 0 ≤ one1 := Int.emod_nonneg _ (by omega)
    have o1 : one1 < p1 := Int.emod_lt_of_pos _ l1
    have m2 : one1 * (p + 3) ≤ 2147483648 * 1000003 := Int.mul_le_mul (by omega) (by omega) (by omega) (by decide)
    have m3 : 0 ≤ one1 * (p + 3) := Int.mul_nonneg o0 (by omega)
    have b2 : big64 two0 = true := big_of (by show _ < one1 * (p + 3) + cell % 65537 + 5; omega) (by show one1 * (p + 3) + cell % 65537 + 5 < _; omega)
    have t0 : 0 ≤ two1 := Int.emod_nonneg _ (by omega)
    have t1 : two1 < p2 := Int.emod_lt_of_pos _ l2
    have r0 : 0 ≤ one1 % 1009 := Int.emod_nonneg _ (by decide)
    have r1 : one1 % 1009 < 1009 := Int.emod_lt_of_pos _ (by decide)
    have b3 : big64 three0 = true := big_of (by show _ < two1 + one1 % 1009 + p; omega) (by show two1 + one1 % 1009 + p < _; omega)
    have bl : ∀ k : Int, -18446744073709551616 < k → k < 18446744073709551616 → big64 k = true := fun k h1 h2 => big_of h1 h2
    refine ⟨(one1 * 2147483647 + two1) * 2147483647 + three1, T, ECl.rt hG rfl (t' := [some (ii cell), some (ii p), some (.ref (S.next + 2)), some (ii one1), some (ii two1), some (ii three1)]) ?_, by show S.next ≤ S.next + 3; omega, Nat.le_refl _, fun x hx => ?_⟩
    · refine ESs.cons (ES.ifF (S1 := S) (EE.cmp (v := ii cell) (u := ii 1000000000000000000) (.var rfl) (EE.pow (.cst) (.cst) (by decide) (by decide) (by decide)) ?_) .nil) ?_
      · show some (decide ((1000000000000000000 : Int) ≤ cell)) = _
        rw [decide_eq_false hc]
      refine ESs.cons (ES.set (EE.lst (vs := primesA) (.cons .cst (.cons .cst (.cons .cst (.cons .cst (.cons .cst (.cons .cst (.cons .cst (.cons .cst .nil)))))))) (show guard true _ = _ from fresh_ok hs1))) ?_
      refine ESs.cons (ES.set (EE.bin (v := .ref S.next) (u := .ref (S.next + 1)) (S3 := T) (w := .ref (S.next + 2)) (.var rfl) (EE.lst (vs := primesB) (.cons .cst (.cons .cst (.cons .cst (.cons .cst (.cons .cst .nil))))) (show guard true _ = _ from fresh_ok hs2)) ?_)) ?_
      · unfold binV
        simp only [gA, gB]
        exact fresh_ok hs3
      refine ESs.cons (ES.set (v := ii one0) (S1 := T) (.add (.add (.mul (.mod (.int (.var rfl)) .cst (by decide)) (.add (.mul .cst (.var rfl) (.inl (by decide))) .cst) (.inl (bl _ (by omega) (by omega)))) (.mul (.var rfl) .cst (.inr (by decide)))) .cst)) ?_
      refine ESs.cons (ES.set (v := ii one1) (S1 := T) (.mod (.int (.pow (.var rfl) .cst (by decide) (by decide) b1)) (.at (.var rfl) (.mod (.int (.var rfl)) .cst (by decide)) gT (Int.emod_nonneg _ (by decide)) e1) l1)) ?_
      refine ESs.cons (ES.set (v := ii two1) (S1 := T) (.mod (.int (.pow (.add (.add (.mul (.var rfl) (.add (.var rfl) .cst) (.inl (bl _ (by omega) (by omega)))) (.mod (.int (.var rfl)) .cst (by decide))) .cst) .cst (by decide) (by decide) b2)) (.at (.var rfl) (.mod (.int (.add (.var rfl) .cst)) .cst (by decide)) gT (Int.emod_nonneg _ (by decide)) e2) l2)) ?_
      refine ESs.cons (ES.set (v := ii three1) (S1 := T) (.mod (.int (.pow (.add (.add (.var rfl) (.mod (.int (.var rfl)) .cst (by decide))) (.var rfl)) .cst (by decide) (by decide) b3)) (.at (.var rfl) (.mod (.int (.add (.var rfl) .cst)) .cst (by decide)) gT (Int.emod_nonneg _ (by decide)) e3) l3)) ?_
      exact ESs.rt (ES.ret (.add (.mul (.add (.mul (.var rfl) .cst (.inr (by decide))) (.var rfl)) .cst (.inr (by decide))) (.var rfl)))
    · show T.get x = _
      rw [get_new_old hs3 (by rw [n2]; omega), get_new_old hs2 (by rw [n1]; omega), get_new_old hs1 hx]
theorem putL {S : Sto Int} {x : Nat} {xs : List (Val Int)} {a : Int} {v : Val Int} (h : S.get x = some (.lst xs)) (h0 : 0 ≤ a) (h1 : a.toNat < xs.length) : putV S (.ref x) (ii a) v = some (S.set x (.lst (xs.set a.toNat v))) := by
  unfold putV
  simp only [h]
  have : place xs.length a = some a.toNat := by
    unfold place
    rw [if_pos h0, if_pos (by omega)]
  show (match place xs.length a with | some j => some (S.set x (.lst (xs.set j v))) | none => none) = _
  rw [this]
/-- the pen, as it lies -/
def penL (c : Nat) (p cur : Int) : Ob Int := .lst [.ref c, ii p, ii cur]
structure PenS (S : Sto Int) (pn c : Nat) (ns : List Int) (p cur : Int) : Prop where
  pen : S.get pn = some (penL c p cur)
  cells : S.get c = some (.lst (ns.map ii))
  ne : c ≠ pn
  lp : pn < S.next
  lc : c < S.next
theorem PenS.put {S : Sto Int} {pn c : Nat} {ns : List Int} {p cur p' cur' : Int} (h : PenS S pn c ns p cur) (hz : S.next < 1000000000) : PenS (S.set pn (penL c p' cur')) pn c ns p' cur' where
  pen := by rw [Sto.get_set (Nat.lt_trans h.lp hz), if_pos rfl]
  cells := by rw [Sto.get_set (Nat.lt_trans h.lp hz), if_neg h.ne]; exact h.cells
  ne := h.ne
  lp := h.lp
  lc := h.lc
theorem PenS.kept {S S' : Sto Int} {pn c : Nat} {ns : List Int} {p cur : Int} (h : PenS S pn c ns p cur) (k : Kept S S') : PenS S' pn c ns p cur where
  pen := by rw [k.old _ h.lp]; exact h.pen
  cells := by rw [k.old _ h.lc]; exact h.cells
  ne := h.ne
  lp := Nat.lt_of_lt_of_le h.lp k.le
  lc := Nat.lt_of_lt_of_le h.lc k.le
/-- all but the pen stays -/
structure KeptP (pn : Nat) (S S' : Sto Int) : Prop where
  le : S.next ≤ S'.next
  up : S'.next ≤ S.next + 3
  old : ∀ a, a < S.next → a ≠ pn → S'.get a = S.get a
theorem ints_at {ns : List Int} {j : Nat} (h : j < ns.length) : ∃ k : Int, (ns.map ii)[j]? = some (ii k) := ⟨ns[j], by rw [List.getElem?_map, List.getElem?_eq_getElem h]; rfl⟩
theorem take_cell {G : Pg Int} {d : Nat} {S : Sto Int} {pn c : Nat} {ns : List Int} {p cur am : Int} (h : PenS S pn c ns p cur) (h0 : 0 ≤ p) (o5 : Option (Val Int)) :
    ∃ k : Int, ES G d (.ifs (.cmp .lt (.var 2) (.bif .len [(.idx (.var 0) (.cst (ii 0)))])) [(.set 3 (.idx (.idx (.var 0) (.cst (ii 0))) (.var 2)))] [(.ifs (.cmp .gt (.bif .len [(.idx (.var 0) (.cst (ii 0)))]) (.cst (ii 0))) [(.set 3 (.bin .mod (.bif .int [(.idx (.idx (.var 0) (.cst (ii 0))) (.bin .mod (.bif .int [(.bin .add (.bin .mul (.var 2) (.cst (ii 5))) (.cst (ii 3)))]) (.bif .len [(.idx (.var 0) (.cst (ii 0)))])))]) (.bin .add (.bin .pow (.cst (ii 10)) (.cst (ii 17))) (.var 2))))] [])])
      [some (.ref pn), some (ii am), some (ii p), some (ii 0), o5] S (.nx, [some (.ref pn), some (ii am), some (ii p), some (ii k), o5]) S := by
  have e0 : ∀ t : Env Int, t[0]? = some (some (.ref pn)) → EE G d (.idx (.var 0) (.cst (ii 0))) t S (.ref c) S := fun t ht => .at (.var ht) .cst h.pen (by decide) rfl
  have el : ∀ t : Env Int, t[0]? = some (some (.ref pn)) → EE G d (.bif .len [(.idx (.var 0) (.cst (ii 0)))]) t S (ii (ns.map ii).length) S := fun t ht => .len (e0 t ht) h.cells
  have ell : ((ns.map ii).length : Int) = ns.length := by rw [List.length_map]
  by_cases hp : p < ns.length
  · obtain ⟨k, hk⟩ := ints_at (ns := ns) (j := p.toNat) (by omega)
    refine ⟨k, .ifT (S1 := S) (.cmp (v := ii p) (u := ii (ns.map ii).length) (.var rfl) (el _ rfl) ?_) (.cons (.set (.at (e0 _ rfl) (.var rfl) h.cells h0 hk)) .nil)⟩
    show some (decide (p < ((ns.map ii).length : Int))) = _
    rw [ell, decide_eq_true hp]
  · by_cases hn : (0 : Int) < ns.length
    · have hi : 0 ≤ (p * 5 + 3) % (ns.length : Int) := Int.emod_nonneg _ (by omega)
      have hj : (p * 5 + 3) % (ns.length : Int) < ns.length := Int.emod_lt_of_pos _ hn
      obtain ⟨k, hk⟩ := ints_at (ns := ns) (j := ((p * 5 + 3) % (ns.length : Int)).toNat) (by omega)
      refine ⟨k % ((10 : Int) ^ ((17 : Int).toNat) + p), .ifF (S1 := S) (.cmp (v := ii p) (u := ii (ns.map ii).length) (.var rfl) (el _ rfl) ?_) (.cons (.ifT (S1 := S) (.cmp (v := ii (ns.map ii).length) (u := ii 0) (el _ rfl) .cst ?_) (.cons (.set (.mod (.int (.at (a := (p * 5 + 3) % (ns.length : Int)) (e0 _ rfl) (.mod (.int (.add (.mul (.var rfl) .cst (.inr (by decide))) .cst)) (by rw [← ell]; exact el _ rfl) hn) h.cells hi hk)) (.add (.pow .cst .cst (by decide) (by decide) (by decide)) (.var rfl)) ?_)) .nil)) .nil)⟩
      · show some (decide (p < ((ns.map ii).length : Int))) = _
        rw [ell, decide_eq_false hp]
      · show some (decide ((0 : Int) < ((ns.map ii).length : Int))) = _
        rw [ell, decide_eq_true hn]
      · have : (0 : Int) < (10 : Int) ^ ((17 : Int).toNat) := by decide
        omega
    · refine ⟨0, .ifF (S1 := S) (.cmp (v := ii p) (u := ii (ns.map ii).length) (.var rfl) (el _ rfl) ?_) (.cons (.ifF (S1 := S) (.cmp (v := ii (ns.map ii).length) (u := ii 0) (el _ rfl) .cst ?_) .nil) .nil)⟩
      · show some (decide (p < ((ns.map ii).length : Int))) = _
        rw [ell, decide_eq_false hp]
      · show some (decide ((0 : Int) < ((ns.map ii).length : Int))) = _
        rw [ell, decide_eq_false hn]
theorem take_ok {G : Pg Int} {i isp : Nat} (hG : G.fns[i]? = some (gTake isp)) (hS : G.fns[isp]? = some gSpread) {d : Nat} {S : Sto Int} {pn c : Nat} {ns : List Int} {p cur am : Int} (h : PenS S pn c ns p cur) (h0 : 0 ≤ p) (h1 : p ≤ 1000000) (a0 : 0 < am) (a1 : am < 1073741824) (hz : S.next < 999999990) :
    ∃ v p' cur' S', ECl G (d + 2) i [.ref pn, ii am] S (ii v) S' ∧ 0 ≤ v ∧ v < am ∧ p ≤ p' ∧ p' ≤ p + 1 ∧ PenS S' pn c ns p' cur' ∧ KeptP pn S S' := by
  -- the draw behind the first if
  suffices hd : ∃ p' cur' S' o3 o4, ES G (d + 1) ((gTake isp).body.headD .pass) [some (.ref pn), some (ii am), none, none, none] S (.nx, [some (.ref pn), some (ii am), o3, o4, none]) S' ∧ p ≤ p' ∧ p' ≤ p + 1 ∧ PenS S' pn c ns p' cur' ∧ KeptP pn S S' by
    obtain ⟨p', cur', S', o3, o4, hes, q1, q2, h', k⟩ := hd
    have hz' : S'.next < 1000000000 := by have := k.up; omega
    refine ⟨cur' % am, p', cur' / am, S'.set pn (penL c p' (cur' / am)), ECl.rt hG rfl (t' := [some (.ref pn), some (ii am), o3, o4, some (ii (cur' % am))]) (.cons hes ?_), Int.emod_nonneg _ (by omega), Int.emod_lt_of_pos _ a0, q1, q2, h'.put hz', ⟨k.le, k.up, fun a ha hn => ?_⟩⟩
    · have e2 : ∀ t : Env Int, t[0]? = some (some (.ref pn)) → EE G (d + 1) (.idx (.var 0) (.cst (ii 2))) t S' (ii cur') S' := fun t ht => .at (.var ht) .cst h'.pen (by decide) rfl
      refine .cons (.set (.mod (.int (e2 _ rfl)) (.var rfl) a0)) ?_
      refine .cons (.setI (S4 := S'.set pn (penL c p' (cur' / am))) (v := ii (cur' / am)) (u := .ref pn) (w := ii 2) (.bin (e2 _ rfl) (.var rfl) (bfdv a0 a1)) (.var rfl) .cst ?_) ?_
      · exact putL h'.pen (by decide) (show (2 : Nat) < 3 by decide)
      · exact .rt (.ret (.var rfl))
    · rw [Sto.get_set (Nat.lt_trans h'.lp hz'), if_neg hn]
      exact k.old a ha hn
  have e2 : EE G (d + 1) (.idx (.var 0) (.cst (ii 2))) [some (.ref pn), some (ii am), none, none, none] S (ii cur) S := .at (.var rfl) .cst h.pen (by decide) rfl
  by_cases hc : cur < am
  · obtain ⟨k, hk⟩ := take_cell (G := G) (d := d + 1) (am := am) h h0 none
    have hz0 : S.next < 1000000000 := by omega
    have h2 : PenS (S.set pn (penL c (p + 1) cur)) pn c ns (p + 1) cur := h.put hz0
    obtain ⟨v, S', hcl, kp⟩ := spread_ok hS (d := d) (cell := k) (p := p) h0 h1 (S := S.set pn (penL c (p + 1) cur)) hz
    have h3 := h2.kept kp
    have hz3 : S'.next < 1000000000 := by
      have := kp.up
      have : (S.set pn (penL c (p + 1) cur)).next = S.next := rfl
      omega
    refine ⟨p + 1, v, S'.set pn (penL c (p + 1) v), some (ii p), some (ii k), .ifT (S1 := S) (.cmp (v := ii cur) (u := ii am) e2 (.var rfl) (by show some (decide (cur < am)) = _; rw [decide_eq_true hc])) ?_, by omega, by omega, h3.put hz3, ⟨kp.le, kp.up, fun a ha hn => ?_⟩⟩
    · refine .cons (.set (.at (v := ii p) (.var rfl) .cst h.pen (by decide) rfl)) ?_
      refine .cons (.set .cst) ?_
      refine .cons hk ?_
      refine .cons (.setI (S4 := S.set pn (penL c (p + 1) cur)) (v := ii (p + 1)) (u := .ref pn) (w := ii 1) (.add (.var rfl) .cst) (.var rfl) .cst (putL h.pen (by decide) (show (1 : Nat) < 3 by decide))) ?_
      refine .cons (.setI (S4 := S'.set pn (penL c (p + 1) v)) (v := ii v) (u := .ref pn) (w := ii 2) (.call (.cons (.var rfl) (.cons (.var rfl) .nil)) hcl) (.var rfl) .cst (putL h3.pen (by decide) (show (2 : Nat) < 3 by decide))) .nil
    · rw [Sto.get_set (Nat.lt_trans h3.lp hz3), if_neg hn, kp.old a ha, Sto.get_set (Nat.lt_trans h.lp hz0), if_neg hn]
  · exact ⟨p, cur, S, none, none, .ifF (S1 := S) (.cmp (v := ii cur) (u := ii am) e2 (.var rfl) (by show some (decide (cur < am)) = _; rw [decide_eq_false hc])) .nil, Int.le_refl _, by omega, h, ⟨Nat.le_refl _, Nat.le_add_right _ _, fun _ _ _ => rfl⟩⟩
/-! ### the pen is opened -/
def opBody : List (St Int) := [(.setI (.var 1) (.bin .mod (.bif .int [(.var 2)]) (.cst (ii 12))) (.bin .add (.idx (.var 1) (.bin .mod (.bif .int [(.var 2)]) (.cst (ii 12)))) (.var 3)))]
theorem ints_set {ks : List Int} {j : Nat} {k : Int} : (ks.map ii).set j (ii k) = (ks.set j k).map ii := by
  rw [List.map_set]
theorem open_loop {G : Pg Int} {d : Nat} {sv : Option (Val Int)} {c e : Nat} {ys : List Int} (hce : c ≠ e) (hc : c < 1000000000) : ∀ (m i : Nat) (ks : List Int) (S : Sto Int) (o2 o3 : Option (Val Int)), ys.length - i = m → S.get c = some (.lst (ks.map ii)) → S.get e = some (.lst (ys.map ii)) → (ys ≠ [] → ks.length = 12) →
    ∃ (ks' : List Int) (S' : Sto Int) (o2' o3' : Option (Val Int)), ELp G d (.enu (.lst e)) i (.tup [.nm 2, .nm 3]) opBody [sv, some (.ref c), o2, o3] S (.nx, [sv, some (.ref c), o2', o3']) S' ∧ S'.get c = some (.lst (ks'.map ii)) ∧ S'.next = S.next ∧ ∀ a, a ≠ c → S'.get a = S.get a := by
  intro m
  induction m with
  | zero =>
    intro i ks S o2 o3 hm h1 h2 h3
    refine ⟨ks, S, o2, o3, .done ?_, h1, rfl, fun _ _ => rfl⟩
    have : (ys.map ii)[i]? = none := List.getElem?_eq_none (by rw [List.length_map]; omega)
    simp only [Src.at, h2, this]
  | succ m ih =>
    intro i ks S o2 o3 hm h1 h2 h3
    have hi : i < ys.length := by omega
    have hk : ks.length = 12 := h3 (fun z => by rw [z] at hi; cases hi)
    have hx : (ys.map ii)[i]? = some (ii ys[i]) := by
      rw [List.getElem?_map, List.getElem?_eq_getElem hi]
      rfl
    have hb : (Src.enu (.lst e)).at S i = some (some (.tup [ii (i : Int), ii ys[i]])) := by
      simp only [Src.at, h2, hx]
      rfl
    have j0 : 0 ≤ (i : Int) % 12 := Int.emod_nonneg _ (by decide)
    have j1 : (i : Int) % 12 < 12 := Int.emod_lt_of_pos _ (by decide)
    obtain ⟨k, hkk⟩ := ints_at (ns := ks) (j := ((i : Int) % 12).toNat) (by omega)
    have g1 : (S.set c (.lst ((ks.map ii).set ((i : Int) % 12).toNat (ii (k + ys[i]))))).get c = some (.lst ((ks.set ((i : Int) % 12).toNat (k + ys[i])).map ii)) := by
      rw [Sto.get_set hc, if_pos rfl, ints_set]
    have g2 : ∀ a, a ≠ c → (S.set c (.lst ((ks.map ii).set ((i : Int) % 12).toNat (ii (k + ys[i]))))).get a = S.get a := fun a ha => by rw [Sto.get_set hc, if_neg ha]
    obtain ⟨ks', S', o2', o3', q1, q2, q3, q4⟩ := ih (i + 1) (ks.set ((i : Int) % 12).toNat (k + ys[i])) _ (some (ii (i : Int))) (some (ii ys[i])) (by omega) g1 (by rw [g2 e (Ne.symm hce)]; exact h2) (fun _ => by rw [List.length_set]; exact hk)
    refine ⟨ks', S', o2', o3', .next (t' := [sv, some (.ref c), some (ii (i : Int)), some (ii ys[i])]) hb rfl (.cons (.setI (v := ii (k + ys[i])) (u := .ref c) (w := ii ((i : Int) % 12)) (.add (.at (.var rfl) (.mod (.int (.var rfl)) .cst (by decide)) h1 j0 hkk) (.var rfl)) (.var rfl) (.mod (.int (.var rfl)) .cst (by decide)) (putL h1 j0 (by rw [List.length_map]; omega))) .nil) (fun v z => nomatch z) q1, q2, q3, fun a ha => (q4 a ha).trans (g2 a ha)⟩
theorem slice_ok {S : Sto Int} {a : Nat} {xs : List (Val Int)} {i j : Option Int} (h : S.get a = some (.lst xs) ∨ S.get a = some (.fls xs)) (hz : S.next < 1000000000) :
    sliceV S (.ref a) i j none = .ok (.ref S.next) (S.new (.lst (cutL xs (match i with | none => 0 | some i => clip xs.length i) (match j with | none => xs.length | some i => clip xs.length i)))) := by
  unfold sliceV
  rcases h with h | h
  · simp only [h]
    exact fresh_ok hz
  · simp only [h]
    exact fresh_ok hz
theorem cut_map (xs : List Int) (lo hi : Nat) : cutL (xs.map ii) lo hi = ((xs.drop lo).take (hi - lo)).map ii := by
  unfold cutL
  rw [← List.map_drop, ← List.map_take]
theorem open_ok {G : Pg Int} {i : Nat} (hG : G.fns[i]? = some gOpen) {d : Nat} {S : Sto Int} {a : Nat} {ns : List Int} (h : S.get a = some (.lst (ns.map ii)) ∨ S.get a = some (.fls (ns.map ii))) (la : a < S.next) (hz : S.next < 999999990) :
    ∃ S' pn c ks, ECl G (d + 1) i [.ref a] S (.ref pn) S' ∧ PenS S' pn c ks 0 0 ∧ S.next ≤ pn ∧ S.next ≤ c ∧ S'.next ≤ S.next + 4 ∧ S.next ≤ S'.next ∧ ∀ x, x < S.next → S'.get x = S.get x := by
  have z0 : S.next < 1000000000 := by omega
  let ks : List Int := (ns.drop 0).take (clip (ns.map ii).length 12 - 0)
  let S1 := S.new (.lst (ks.map ii))
  let S2 := S1.new (.lst (ks.map ii))
  let ys : List Int := (ns.drop (clip (ns.map ii).length 12)).take (clip (ns.map ii).length 63 - clip (ns.map ii).length 12)
  let S3 := S2.new (.lst (ys.map ii))
  have z1 : S1.next < 1000000000 := by show S.next + 1 < _; omega
  have z2 : S2.next < 1000000000 := by show S.next + 2 < _; omega
  have old1 : ∀ x, x < S.next → S1.get x = S.get x := fun x hx => get_new_old z0 hx
  have old2 : ∀ x, x < S.next → S2.get x = S.get x := fun x hx => (get_new_old z1 (by show x < S.next + 1; omega)).trans (old1 x hx)
  have g2 : S2.get (S.next + 1) = some (.lst (ks.map ii)) := get_new_at z1
  have g3 : S3.get (S.next + 1) = some (.lst (ks.map ii)) := (get_new_old z2 (by show S.next + 1 < S.next + 2; omega)).trans g2
  have g3e : S3.get (S.next + 2) = some (.lst (ys.map ii)) := get_new_at z2
  have old3 : ∀ x, x < S.next → S3.get x = S.get x := fun x hx => (get_new_old z2 (by show x < S.next + 2; omega)).trans (old2 x hx)
  have hk12 : ys ≠ [] → ks.length = 12 := fun hy => by
    have hl : 0 < ys.length := List.length_pos_iff.mpr hy
    have e1 : ys.length = min (clip (ns.map ii).length 63 - clip (ns.map ii).length 12) (ns.length - clip (ns.map ii).length 12) := by
      show ((ns.drop _).take _).length = _
      rw [List.length_take, List.length_drop]
    have e2 : ks.length = min (clip (ns.map ii).length 12 - 0) (ns.length - 0) := by
      show ((ns.drop 0).take _).length = _
      rw [List.length_take, List.length_drop]
    have c12 : clip (ns.map ii).length 12 = min 12 ns.length := by unfold clip; rw [if_pos (by decide), List.length_map]; rfl
    have c63 : clip (ns.map ii).length 63 = min 63 ns.length := by unfold clip; rw [if_pos (by decide), List.length_map]; rfl
    rw [c12] at e1 e2
    rw [c63] at e1
    omega
  obtain ⟨ks', S4, o2, o3, q1, q2, q3, q4⟩ := open_loop (G := G) (d := d) (sv := some (.ref a)) (c := S.next + 1) (e := S.next + 2) (ys := ys) (by omega) (by omega) _ 0 ks S3 none none rfl g3 g3e hk12
  have q3 : S4.next = S.next + 3 := q3
  have z4 : S4.next < 1000000000 := by omega
  have h2 : S2.get a = some (.lst (ns.map ii)) ∨ S2.get a = some (.fls (ns.map ii)) := by rw [old2 a la]; exact h
  refine ⟨S4.new (penL (S.next + 1) 0 0), S4.next, S.next + 1, ks', .rt hG rfl (t' := [some (.ref a), some (.ref (S.next + 1)), o2, o3]) ?_, ⟨get_new_at z4, (get_new_old z4 (by omega)).trans q2, by omega, Nat.lt_succ_self _, by show S.next + 1 < S4.next + 1; omega⟩, by omega, by omega, by show S4.next + 1 ≤ _; omega, by show S.next ≤ S4.next + 1; omega, fun x hx => ?_⟩
  · refine .cons (.set (v := .ref (S.next + 1)) (S1 := S2) (.bif (.one (.slc (S4 := S1) (w := .ref S.next) (.var rfl) .none (.some .cst rfl) ?_)) ?_)) ?_
    · rw [slice_ok h z0]
      show Rs.ok _ (S.new (.lst (cutL (ns.map ii) 0 (clip (ns.map ii).length 12)))) = _
      rw [cut_map]
    · show b_list (.ref S.next) S1 = _
      unfold b_list
      have : S1.get S.next = some (.lst (ks.map ii)) := get_new_at z0
      simp only [this]
      exact fresh_ok z1
    refine .cons (.forEnu (v := .ref (S.next + 2)) (S1 := S3) (s := .lst (S.next + 2)) (.slc (S4 := S3) (.var rfl) (.some .cst rfl) (.some .cst rfl) ?_) ?_ q1) ?_
    · rw [slice_ok h2 z2]
      show Rs.ok _ (S2.new (.lst (cutL (ns.map ii) (clip (ns.map ii).length 12) (clip (ns.map ii).length 63)))) = _
      rw [cut_map]
      rfl
    · unfold seqV
      simp only [g3e]
    exact .rt (.ret (.lst (vs := [.ref (S.next + 1), ii 0, ii 0]) (.cons (.var rfl) (.cons .cst (.cons .cst .nil))) (show guard true _ = _ from fresh_ok z4)))
  · rw [get_new_old z4 (by omega), q4 x (by omega), old3 x hx]
end Pz
set_option Elab.async false
set_option linter.all false
set_option maxRecDepth 100000
set_option maxHeartbeats 4000000
/-! a law's own def: pieces under numbers of their own -/
namespace Pz
open PySem L2
/-! ### a store of some objects -/
def stL {I : Type} : List (Ob I) → Sto I
  | [] => Sto.empty
  | o :: os => (stL os).new o
/-- the objects, the last first -/
theorem stL_next {I : Type} : ∀ os : List (Ob I), (stL os).next = os.length
  | [] => rfl
  | o :: os => by show (stL os).next + 1 = _; rw [stL_next os]; rfl
theorem stL_get {I : Type} : ∀ (os : List (Ob I)) (a : Nat), os.length < 1000 → (stL os).get a = if a < os.length then os[os.length - 1 - a]? else none
  | [], a, _ => by
    show Tr.get .lf a = _
    rw [Tr.get_lf]
    exact (if_neg (Nat.not_lt_zero a)).symm
  | o :: os, a, h => by
    have h' : os.length < 1000 := by simp at h; omega
    have hn := stL_next os
    show ((stL os).new o).get a = _
    rw [Sto.get_new (by omega), stL_get os a h', hn]
    by_cases e : a = os.length
    · subst e
      simp
    · rw [if_neg e]
      by_cases l : a < os.length
      · rw [if_pos l, if_pos (by simp; omega)]
        have : (o :: os).length - 1 - a = (os.length - 1 - a) + 1 := by simp; omega
        rw [this]
        rfl
      · rw [if_neg l, if_neg (by simp; omega)]
section
variable {I : Type} [IOps I] {den : I → Int} {P : Program} {w : World} {ca : Nat → Addr} {H : Hp}
/-- where they lie: the last first, too -/
def rL (as : List Addr) : Rho := fun a => if a < as.length then as[as.length - 1 - a]? else none
theorem nodup_at {l : List Addr} (nd : l.Nodup) {i j : Nat} (hi : i < l.length) (hj : j < l.length) (e : l[i] = l[j]) : i = j := by
  have p := List.pairwise_iff_getElem.mp nd
  rcases Nat.lt_trichotomy i j with h | h | h
  · exact absurd e (p i j hi hj h)
  · exact h
  · exact absurd e.symm (p j i hj hi h)
theorem simL {os : List (Ob I)} {as : List Addr} (hl : os.length = as.length) (hz : os.length < 1000) (nd : as.Nodup)
    (h : ∀ (i : Nat) (o : Ob I) (b : Addr), os[i]? = some o → as[i]? = some b → ObR den P w ca (rL as) H b o ∧ H b ≠ none ∧ ∀ ys, H b ≠ some (.tup ys)) : Sim den P w ca (rL as) (stL os) H := by
  have at_ : ∀ a b, rL as a = some b → a < as.length ∧ as[as.length - 1 - a]? = some b := fun a b e => by
    unfold rL at e
    split at e
    · exact ⟨by assumption, e⟩
    · cases e
  have ob : ∀ a b, rL as a = some b → ∃ o, os[as.length - 1 - a]? = some o := fun a b e => by
    obtain ⟨l, _⟩ := at_ a b e
    exact ⟨_, List.getElem?_eq_getElem (by omega)⟩
  refine ⟨fun a o e => ?_, fun a a' b e e' => ?_, fun a b e => ?_, fun a b e => ?_, fun a b ys e => ?_, by rw [stL_next]; omega⟩
  · rw [stL_get os a hz] at e
    split at e
    · rename_i l
      have l2 : as.length - 1 - a < as.length := by omega
      have hb : as[as.length - 1 - a]? = some as[as.length - 1 - a] := List.getElem?_eq_getElem l2
      refine ⟨as[as.length - 1 - a], ?_, (h _ _ _ e (by rw [hl]; exact hb)).1⟩
      unfold rL
      rw [if_pos (by omega)]
      exact hb
    · cases e
  · obtain ⟨l, q⟩ := at_ a b e
    obtain ⟨l', q'⟩ := at_ a' b e'
    obtain ⟨_, p⟩ := List.getElem?_eq_some_iff.mp q
    obtain ⟨_, p'⟩ := List.getElem?_eq_some_iff.mp q'
    have := nodup_at nd (by omega) (by omega) (p.trans p'.symm)
    omega
  · obtain ⟨l, _⟩ := at_ a b e
    rw [stL_next]
    omega
  · obtain ⟨l, q⟩ := at_ a b e
    obtain ⟨o, ho⟩ := ob a b e
    exact (h _ _ _ ho q).2.1
  · obtain ⟨l, q⟩ := at_ a b e
    obtain ⟨o, ho⟩ := ob a b e
    exact (h _ _ _ ho q).2.2 ys
/-! ### from numbers to letters -/
mutual
def mapV {J : Type} (f : J → I) : Val J → Val I
  | .non => .non
  | .bl b => .bl b
  | .int i => .int (f i)
  | .str s => .str s
  | .tup xs => .tup (mapVs f xs)
  | .ref a => .ref a
def mapVs {J : Type} (f : J → I) : List (Val J) → List (Val I)
  | [] => []
  | x :: xs => mapV f x :: mapVs f xs
end
mutual
def noRef : Val I → Bool
  | .tup xs => noRefs xs
  | .ref _ => false
  | _ => true
def noRefs : List (Val I) → Bool
  | [] => true
  | x :: xs => noRef x && noRefs xs
end
mutual
theorem vr_map {r r' : Rho} : ∀ {x : Val I} {y : V}, noRef x = true → VR id r H (mapV den x) y → VR den r' H x y
  | .non, y, _, h => by cases h; exact .non
  | .bl b, y, _, h => by cases h; exact .bl b
  | .int i, y, _, h => by cases h; exact .int i
  | .str s, y, _, h => by cases h; exact .str s
  | .tup xs, y, n, h => by
    cases h with
    | tup g hs => exact .tup g (vrs_map n hs)
  | .ref a, y, n, h => by cases n
theorem vrs_map {r r' : Rho} : ∀ {x : List (Val I)} {y : List V}, noRefs x = true → VRs id r H (mapVs den x) y → VRs den r' H x y
  | [], y, _, h => by cases h; exact .nil
  | x :: xs, y, n, h => by
    have n : (noRef x && noRefs xs) = true := n
    rw [Bool.and_eq_true] at n
    cases h with
    | cons a b => exact .cons (vr_map n.1 a) (vrs_map n.2 b)
end
end
/-! ### the pen on the heap -/
structure PenAt (H : Hp) (pa qa : Addr) (ks : List Int) (p cur : Int) : Prop where
  pen : H pa = some (.lst [.ref qa, .int p, .int cur])
  cells : H qa = some (.lst (ks.map V.int))
  ne : pa ≠ qa
section
variable {P : Program} {w : World} {ca : Nat → Addr} {H : Hp} {pa qa : Addr} {ks : List Int} {p cur : Int}
theorem ints_id {r : Rho} : ∀ l : List Int, VRs (I := Int) id r H (l.map ii) (l.map V.int)
  | [] => .nil
  | x :: l => .cons (.int x) (ints_id l)
theorem PenAt.sim (h : PenAt H pa qa ks p cur) : Sim (I := Int) id P w ca (rL [qa, pa]) (stL [.lst (ks.map ii), penL 1 p cur]) H := by
  refine simL rfl (show 2 < 1000 by decide) (by simp; exact Ne.symm h.ne) fun i o b e1 e2 => ?_
  match i with
  | 0 =>
    cases e1
    cases e2
    exact ⟨⟨_, h.cells, ints_id ks⟩, by rw [h.cells]; exact fun z => (nomatch z), fun ys => by rw [h.cells]; exact fun z => (nomatch z)⟩
  | 1 =>
    cases e1
    cases e2
    exact ⟨⟨_, h.pen, .cons (.ref rfl) (.cons (.int p) (.cons (.int cur) .nil))⟩, by rw [h.pen]; exact fun z => (nomatch z), fun ys => by rw [h.pen]; exact fun z => (nomatch z)⟩
  | i + 2 => cases e1
theorem PenAt.penS : PenS (stL [.lst (ks.map ii), penL 1 p cur]) 0 1 ks p cur := ⟨rfl, rfl, by decide, show 0 < 2 by decide, show 1 < 2 by decide⟩
theorem vrs_ints {r : Rho} : ∀ {l : List Int} {ys : List V}, VRs (I := Int) id r H (l.map ii) ys → ys = l.map V.int
  | [], _, .nil => rfl
  | x :: l, _, .cons a b => by cases a; rw [vrs_ints b]; rfl
/-- a pen in the store is one on the heap -/
theorem penAt_of {S : Sto Int} {r : Rho} {pn c : Nat} (m : Sim (I := Int) id P w ca r S H) (h : PenS S pn c ks p cur) : ∃ pa qa, r pn = some pa ∧ r c = some qa ∧ PenAt H pa qa ks p cur := by
  obtain ⟨pa, r1, ys, g1, v1⟩ := m.ob _ _ h.pen
  obtain ⟨qa, r2, zs, g2, v2⟩ := m.ob _ _ h.cells
  refine ⟨pa, qa, r1, r2, ?_, ?_, fun e => ?_⟩
  · cases v1 with
    | cons a1 b1 =>
      cases b1 with
      | cons a2 b2 =>
        cases b2 with
        | cons a3 b3 =>
          cases b3
          cases a2
          cases a3
          cases a1 with
          | ref q =>
            rw [r2] at q
            cases q
            exact g1
  · rw [g2, vrs_ints v2]
  · rw [e] at r1
    exact h.ne (m.inj _ _ _ r2 r1)
end
/-! ### statements under any numbers -/
section
variable {T : Txt} {k n : Nat} {X : Cx} {ca : Nat → Addr} {d : Nat} {Γ : Gam}
def uAnyS (T : Txt) (k n : Nat) (X : Cx) (ca : Nat → Addr) (d : Nat) (Γ : Gam) (st : Stmt) : TS := fun D σ H => ∃ (I : Type) (i : IOps I) (den : I → Int), Lawful I den ∧ uS (T.pg k n) den X ca d (cT k n Γ st) D σ H
def uAnySs (T : Txt) (k n : Nat) (X : Cx) (ca : Nat → Addr) (d : Nat) (Γ : Gam) (sts : List Stmt) : TS := fun D σ H => ∃ (I : Type) (i : IOps I) (den : I → Int), Lawful I den ∧ uSs (T.pg k n) den X ca d (cTs k n Γ sts) D σ H
/-- the context is good, whatever the numbers -/
def GoodA (T : Txt) (k n : Nat) (X : Cx) (ca : Nat → Addr) (d : Nat) (Γ : Gam) : Prop := ∀ (I : Type) (i : IOps I) (den : I → Int), Lawful I den → Good (T.pg (I := I) k n) den ca d Γ X
theorem anyS (g : GoodA T k n X ca d Γ) (hp : PassesOwn (model X.prog X.w) X.A X.env X.xe) (st : Stmt) : PS X st (uAnyS T k n X ca d Γ st) :=
  ⟨fun pins s σ H D I0 ⟨I, i, den, L, h⟩ => ((stm_ok L (g I i den L) hp n k).1 st).run pins s σ H D I0 h⟩
theorem anySs (g : GoodA T k n X ca d Γ) (hp : PassesOwn (model X.prog X.w) X.A X.env X.xe) (sts : List Stmt) : PSs X sts (uAnySs T k n X ca d Γ sts) :=
  ⟨fun pins s σ H D I0 ⟨I, i, den, L, h⟩ => ((stm_ok L (g I i den L) hp n k).2 sts).run pins s σ H D I0 h⟩
/-- a statement run by hand -/
theorem runS {I : Type} [i : IOps I] {den : I → Int} (L : Lawful I den) {st : Stmt} {D : Ends} {σ : L2.St} {H : Hp} {r : Rho} {S S' : Sto I} {τ τ' : Env I} {fl : Fl I} (m : SimX den X ca r S H) (er : ER den r H τ σ) {ir : St I} (hc : cT k n Γ st = ir) (e : ES (T.pg k n) d ir τ S (fl, τ') S') (f : FinS den X ca r H fl τ' S' D) : uAnyS T k n X ca d Γ st D σ H := by
  obtain ⟨q, hq⟩ := e
  exact ⟨I, i, den, L, q, r, S, τ, fl, τ', S', m, er, by rw [hc]; exact hq q (Nat.le_refl _), f⟩
end
theorem rng_any {I J : Type} [IOps I] [IOps J] {den : I → Int} {den' : J → Int} {P : Program} {w : World} {K : PySem.W.Frag} {r r' : Rho} {H H' : Hp} {lo c : Int} {n : Nat} {It : It} (h : SrcIt P w K den r H (.rng lo c n) It) : SrcIt P w K den' r' H' (.rng lo c n) It := by
  cases h with
  | rng lo n => exact .rng lo n
  | rngC lo c n => exact .rngC lo c n
end Pz
set_option Elab.async false
set_option linter.all false
set_option maxRecDepth 100000
set_option maxHeartbeats 4000000
/-! each def's promise at its own function object, under any numbers -/
namespace Pz
open PySem L2
section
variable {T : Txt} {P : Program} {w : World} {K : PySem.W.Frag} {mg : Str → Option Value} {base : Heap} {ca fa : Nat → Addr} {k n : Nat}
theorem Wl.okAt {I : Type} [IOps I] {den : I → Int} (L : Lawful I den) (W : Wl T w K mg ca fa) {i : Nat} {f : FnS} (hf : T.fns[i]? = some f) {fd : FuncData} (F : FunD K f.name f.qual f.params f.body f.scope [] [] (fa i) fd) : ∀ d, FnOk P w K mg base CXF d (fa i) fd f.ps (uSp (T.pg (I := I) k n) den P w ca d i)
  | 0 => ⟨fun vs H Q E h => (usp_zero h).elim, fun A outer s H args us vs Q E _ _ _ _ h => (usp_zero h).elim⟩
  | d + 1 => by
    obtain ⟨S, _⟩ := W.fn i f hf
    refine F.ok S (fun vs H Q E h => (usp_open hf h).1) fun cdv A outer s H vs Q E hr h => ?_
    obtain ⟨hl, m, r, S0, xs, fl, τ', S', sm, hv, e, q⟩ := usp_open hf h
    have g : Good (T.pg (I := I) k n) den ca d (T.gam f) (cxOf CXF P w K mg base f.N f.qual f.scope (fa i) cdv A outer s H E).nox := W.good (f := f) rfl rfl (fun _ => rfl) rfl hr rfl rfl rfl S fun d'' hd'' j hj => Wl.all L W d d'' hd'' j hj
    refine ⟨_, ((stm_ok L g PassesOwn.never n k).2 f.body).nox, m, r, S0, _, fl, τ', S', sm, er_start hv (hv.length.trans hl), e, ?_⟩
    cases fl with
    | nx => exact fun r' H' σ' x' m' _ => q r' H' x' m'
    | ct => exact q.elim
    | rt v => exact q
/-- a promise under any numbers -/
def spAny (T : Txt) (k n : Nat) (P : Program) (w : World) (ca : Nat → Addr) (d i : Nat) : Sp := fun vs H Q E => ∃ (I : Type) (o : IOps I) (den : I → Int), Lawful I den ∧ uSp (T.pg (I := I) k n) den P w ca d i vs H Q E
theorem Wl.okAny (W : Wl T w K mg ca fa) {i : Nat} {f : FnS} (hf : T.fns[i]? = some f) {fd : FuncData} (F : FunD K f.name f.qual f.params f.body f.scope [] [] (fa i) fd) (d : Nat) : FnOk P w K mg base CXF d (fa i) fd f.ps (spAny T k n P w ca d i) where
  len := fun vs H Q E ⟨I, o, den, L, h⟩ => (Wl.okAt (base := base) L W hf F d).len vs H Q E h
  run := fun A outer s H args us vs Q E h1 h2 h3 h4 ⟨I, o, den, L, h⟩ => (Wl.okAt (base := base) L W hf F d).run A outer s H args us vs Q E h1 h2 h3 h4 h
/-- a weaker promise -/
theorem fnok_imp {d : Nat} {f : Addr} {fd : FuncData} {ps : List Str} {sp sp' : Sp} (F : FnOk P w K mg base CXF d f fd ps sp) (h : ∀ vs H Q E, sp' vs H Q E → sp vs H Q E) : FnOk P w K mg base CXF d f fd ps sp' where
  len := fun vs H Q E q => F.len vs H Q E (h _ _ _ _ q)
  run := fun A outer s H args us vs Q E h1 h2 h3 h4 q => F.run A outer s H args us vs Q E h1 h2 h3 h4 (h _ _ _ _ q)
end
/-! ### expressions under any numbers -/
section
variable {T : Txt} {k n : Nat} {X : Cx} {ca : Nat → Addr} {d : Nat} {Γ : Gam}
def uAnyE (T : Txt) (k n : Nat) (X : Cx) (ca : Nat → Addr) (d : Nat) (Γ : Gam) (e : Expr) : TE := fun σ H Q => ∃ (I : Type) (i : IOps I) (den : I → Int), Lawful I den ∧ uE (T.pg k n) den X ca d (cE n Γ e) σ H Q
def uAnyT (T : Txt) (k n : Nat) (X : Cx) (ca : Nat → Addr) (d : Nat) (Γ : Gam) (e : Expr) : TT := fun σ H Q => ∃ (I : Type) (i : IOps I) (den : I → Int), Lawful I den ∧ uT (T.pg k n) den X ca d (cE n Γ e) σ H Q
theorem anyE (g : GoodA T k n X ca d Γ) (e : Expr) : PE X e (uAnyE T k n X ca d Γ e) :=
  ⟨fun pins s σ H Q I0 ⟨I, i, den, L, h⟩ => ((allOk (G := T.pg (I := I) k n) (ca := ca) (d := d) L n).e Γ X (g I i den L) e).pe.run pins s σ H Q I0 h⟩
theorem anyT (g : GoodA T k n X ca d Γ) (e : Expr) : PT X e (uAnyT T k n X ca d Γ e) :=
  ⟨fun pins s σ H Q I0 ⟨I, i, den, L, h⟩ => ((allOk (G := T.pg (I := I) k n) (ca := ca) (d := d) L n).e Γ X (g I i den L) e).pt.run pins s σ H Q I0 h⟩
/-- an expression run by hand -/
theorem runE {I : Type} [i : IOps I] {den : I → Int} (L : Lawful I den) {e : Expr} {σ : L2.St} {H : Hp} {Q : VK} {r : Rho} {S S' : Sto I} {τ : Env I} {v : Val I} (m : SimX den X ca r S H) (er : ER den r H τ σ) {ir : Ex I} (hc : cE n Γ e = ir) (h : EE (T.pg k n) d ir τ S v S') (f : Fin den X ca r H v S' Q) : uAnyE T k n X ca d Γ e σ H Q := by
  obtain ⟨q, hq⟩ := h
  exact ⟨I, i, den, L, q, r, S, τ, v, S', m, er, by rw [hc]; exact hq q (Nat.le_refl _), f⟩
theorem runT {I : Type} [i : IOps I] {den : I → Int} (L : Lawful I den) {e : Expr} {σ : L2.St} {H : Hp} {Q : Bool → Hp → Prop} {r : Rho} {S S' : Sto I} {τ : Env I} {b : Bool} (m : SimX den X ca r S H) (er : ER den r H τ σ) {ir : Ex I} (hc : cE n Γ e = ir) (h : EE (T.pg k n) d ir τ S (.bl b) S') (f : FinT den X ca r H b S' Q) : uAnyT T k n X ca d Γ e σ H Q := by
  obtain ⟨q, hq⟩ := h
  exact ⟨I, i, den, L, q, r, S, τ, .bl b, b, S', m, er, by rw [hc]; exact hq q (Nat.le_refl _), rfl, f⟩
end
/-! ### a run of some statements, then the rest -/
section
variable {T : Txt} {k n : Nat} {X : Cx} {ca : Nat → Addr} {d : Nat} {Γ : Gam}
def uAnySs2 (T : Txt) (k n : Nat) (X : Cx) (ca : Nat → Addr) (d : Nat) (Γ : Gam) (j : Nat) (sts : List Stmt) : TS := fun D σ H => ∃ (I : Type) (i : IOps I) (den : I → Int), Lawful I den ∧ uSs (T.pg k n) den X ca d (cTs j n Γ sts) D σ H
def uAnyS2 (T : Txt) (k n : Nat) (X : Cx) (ca : Nat → Addr) (d : Nat) (Γ : Gam) (j : Nat) (st : Stmt) : TS := fun D σ H => ∃ (I : Type) (i : IOps I) (den : I → Int), Lawful I den ∧ uS (T.pg k n) den X ca d (cT j n Γ st) D σ H
theorem anyS2 (g : GoodA T k n X ca d Γ) (hp : PassesOwn (model X.prog X.w) X.A X.env X.xe) (j : Nat) (st : Stmt) : PS X st (uAnyS2 T k n X ca d Γ j st) :=
  ⟨fun pins s σ H D I0 ⟨I, i, den, L, h⟩ => ((stm_ok L (g I i den L) hp n j).1 st).run pins s σ H D I0 h⟩
theorem anyApp (g : GoodA T k n X ca d Γ) (hp : PassesOwn (model X.prog X.w) X.A X.env X.xe) {b : List Stmt} {tb : TS} (hb : PSs X b tb) : ∀ (a : List Stmt) (j : Nat), a.length < j → PSs X (a ++ b) (fun D σ H => uAnySs2 T k n X ca d Γ j a { D with nx := tb D } σ H)
  | _, 0, h => absurd h (Nat.not_lt_zero _)
  | [], j + 1, _ => ⟨fun pins s σ H D I0 ⟨I, i, den, L, m, r, S, τ, fl, τ', S', sm, er, e, f⟩ => by
      refine hb.run pins s σ H D I0 ?_
      cases m with
      | zero => cases e
      | succ m =>
        cases e
        exact f r H σ Ext.refl sm er⟩
  | x :: a, j + 1, h => by
    refine pss_imp (pss_cons (anyS2 g hp j x) (anyApp g hp hb a j (by simpa using h))) ?_
    rintro D σ H ⟨I, i, den, L, m, r, S, τ, fl, τ', S', sm, er, e, f⟩
    cases m with
    | zero => cases e
    | succ m =>
      obtain ⟨⟨f1, t1⟩, S1, e1, e2⟩ := bind_ok (show ((evN (T.pg (I := I) k n) m).s d (cT j n Γ x) τ S).bind (fun q S1 => match q with
        | (.nx, t') => (evN (T.pg (I := I) k n) m).ss d (cTs j n Γ a) t' S1
        | (f, t') => .ok (f, t') S1) = .ok (fl, τ') S' from e)
      refine ⟨I, i, den, L, m, r, S, τ, f1, t1, S1, sm, er, e1, ?_⟩
      cases f1 with
      | nx => exact fun r2 H2 σ2 x2 m2 er2 => ⟨I, i, den, L, m, r2, S1, t1, fl, τ', S', m2, er2, e2, f.ext x2 sm⟩
      | ct =>
        cases e2
        exact f
      | rt v =>
        cases e2
        exact f
end
end Pz
set_option Elab.async false
set_option linter.all false
set_option maxRecDepth 100000
set_option maxHeartbeats 4000000
/-! a law's own defs, proved by hand: what is kept, their calls -/
namespace Pz
open PySem L2
/-- all that was there is there -/
def Keeps (H H' : Hp) : Prop := ∀ b o, H b = some o → H' b = some o
theorem Keeps.refl {H : Hp} : Keeps H H := fun _ _ h => h
theorem Keeps.trans {H1 H2 H3 : Hp} (a : Keeps H1 H2) (b : Keeps H2 H3) : Keeps H1 H3 := fun x o h => b x o (a x o h)
theorem Ext.keeps {r' : Rho} {H H' : Hp} (x : Ext (rL []) H r' H') : Keeps H H' := fun b o h => x.frame b o h fun a z => by
  unfold rL at z
  simp at z
/-- new objects may change -/
theorem Ext.keepsN {r r' : Rho} {H0 H H' : Hp} (k : Keeps H0 H) (hr : ∀ a b, r a = some b → H0 b = none) (x : Ext r H r' H') : Keeps H0 H' := fun b o h => x.frame b o (k b o h) fun a z => by
  have := hr a b z
  rw [h] at this
  cases this
section
variable {I : Type} [IOps I] {den : I → Int} {P : Program} {w : World} {ca : Nat → Addr} {H H' : Hp} {r r' : Rho}
mutual
theorem vr_keep (k : Keeps H H') : ∀ {x : Val I} {y : V}, noRef x = true → VR den r H x y → VR den r' H' x y
  | .non, y, _, h => by cases h; exact .non
  | .bl b, y, _, h => by cases h; exact .bl b
  | .int i, y, _, h => by cases h; exact .int i
  | .str s, y, _, h => by cases h; exact .str s
  | .tup xs, y, n, h => by
    cases h with
    | tup g hs => exact .tup (k _ _ g) (vrs_keep k n hs)
  | .ref a, y, n, h => by cases n
theorem vrs_keep (k : Keeps H H') : ∀ {x : List (Val I)} {y : List V}, noRefs x = true → VRs den r H x y → VRs den r' H' x y
  | [], y, _, h => by cases h; exact .nil
  | x :: xs, y, n, h => by
    have n : (noRef x && noRefs xs) = true := n
    rw [Bool.and_eq_true] at n
    cases h with
    | cons a b => exact .cons (vr_keep k n.1 a) (vrs_keep k n.2 b)
end
theorem PenAt.keeps {pa qa : Addr} {ks : List Int} {p cur : Int} (h : PenAt H pa qa ks p cur) (k : Keeps H H') : PenAt H' pa qa ks p cur := ⟨k _ _ h.pen, k _ _ h.cells, h.ne⟩
theorem sim0 : Sim den P w ca (rL []) (Sto.empty : Sto I) H := simL (os := []) rfl (Nat.zero_lt_succ 999) (by simp) fun i o b e1 e2 => by simp at e1
end
/-! ### runs of the kernel, as readings -/
section
variable {I : Type} [i : IOps I] {den : I → Int} {T : Txt} {k n : Nat} {X : Cx} {ca : Nat → Addr} {d : Nat} {Γ : Gam} {H : Hp} {σ : L2.St}
theorem kE (L : Lawful I den) {m : Nat} {e : Expr} {Q : VK} {r : Rho} {S S' : Sto I} {τ : Env I} {v : Val I} (s : SimX den X ca r S H) (er : ER den r H τ σ) {ir : Ex I} (hc : cE n Γ e = ir) (h : (evN (T.pg k n) m).e d ir τ S = .ok v S') (f : Fin den X ca r H v S' Q) : uAnyE T k n X ca d Γ e σ H Q :=
  ⟨I, i, den, L, m, r, S, τ, v, S', s, er, by rw [hc]; exact h, f⟩
theorem kT (L : Lawful I den) {m : Nat} {e : Expr} {Q : Bool → Hp → Prop} {r : Rho} {S S' : Sto I} {τ : Env I} {b : Bool} (s : SimX den X ca r S H) (er : ER den r H τ σ) {ir : Ex I} (hc : cE n Γ e = ir) (h : (evN (T.pg k n) m).e d ir τ S = .ok (.bl b) S') (f : FinT den X ca r H b S' Q) : uAnyT T k n X ca d Γ e σ H Q :=
  ⟨I, i, den, L, m, r, S, τ, .bl b, b, S', s, er, by rw [hc]; exact h, rfl, f⟩
theorem kS (L : Lawful I den) {m : Nat} {st : Stmt} {D : Ends} {r : Rho} {S S' : Sto I} {τ τ' : Env I} {fl : Fl I} (s : SimX den X ca r S H) (er : ER den r H τ σ) {ir : St I} (hc : cT k n Γ st = ir) (h : (evN (T.pg k n) m).s d ir τ S = .ok (fl, τ') S') (f : FinS den X ca r H fl τ' S' D) : uAnyS T k n X ca d Γ st D σ H :=
  ⟨I, i, den, L, m, r, S, τ, fl, τ', S', s, er, by rw [hc]; exact h, f⟩
theorem kSs2 (L : Lawful I den) {m j : Nat} {sts : List Stmt} {D : Ends} {r : Rho} {S S' : Sto I} {τ τ' : Env I} {fl : Fl I} (s : SimX den X ca r S H) (er : ER den r H τ σ) {ir : List (St I)} (hc : cTs j n Γ sts = ir) (h : (evN (T.pg k n) m).ss d ir τ S = .ok (fl, τ') S') (f : FinS den X ca r H fl τ' S' D) : uAnySs2 T k n X ca d Γ j sts D σ H :=
  ⟨I, i, den, L, m, r, S, τ, fl, τ', S', s, er, by rw [hc]; exact h, f⟩
theorem not_call {G : Pg I} {m f j : Nat} {τ : Env I} {S S' : Sto I} {x : Val I} {b : Bool} (hx : τ[j]? = some (some x)) (h : (evN G (m + 2)).call d f [x] S = .ok (.bl b) S') : (evN G (m + 4)).e d (.not (.call f [.var j] none)) τ S = .ok (.bl (!b)) S' := by
  have e1 : (evN G (m + 2)).es d [.var j] τ S = .ok [x] S := by
    show ((evN G (m + 1)).e d (.var j) τ S).bind _ = _
    have : (evN G (m + 1)).e d (.var j) τ S = .ok x S := by
      show (match τ[j]? with | some (some v) => Rs.ok v S | _ => Rs.bad) = _
      rw [hx]
    rw [this]
    rfl
  have e2 : (evN G (m + 3)).e d (.call f [.var j] none) τ S = .ok (.bl b) S' := by
    show ((evN G (m + 2)).es d [.var j] τ S).bind _ = _
    rw [e1]
    exact h
  show ((evN G (m + 3)).e d (.call f [.var j] none) τ S).bind _ = _
  rw [e2]
  rfl
end
/-! ### own defs -/
section
variable {T : Txt} {P : Program} {w : World} {K : PySem.W.Frag} {mg : Str → Option Value} {base : Heap} {ca fa : Nat → Addr} {k n : Nat}
/-- the context of a def's body -/
structure LX (T : Txt) (k n : Nat) (P : Program) (w : World) (K : PySem.W.Frag) (mg : Str → Option Value) (base : Heap) (ca : Nat → Addr) (d : Nat) (Γ : Gam) (X : Cx) : Prop where
  prog : X.prog = P
  w : X.w = w
  K : X.K = K
  mg : X.mg = mg
  base : X.base = base
  g : GoodA T k n X ca d Γ
  hp : PassesOwn (model X.prog X.w) X.A X.env X.xe
theorem own_fn (W : Wl T w K mg ca fa) {i : Nat} {f : FnS} (hf : T.fns[i]? = some f) {fd : FuncData} (F : FunD K f.name f.qual f.params f.body f.scope [] [] (fa i) fd) {d : Nat} {sp : Sp} (hl : ∀ vs H Q E, sp vs H Q E → vs.length = f.ps.length)
    (h : ∀ X, LX T k n P w K mg base ca d (T.gam f) X → ∃ t, PSs X f.body t ∧ ∀ vs H Q E, sp vs H Q E → t { nx := fun _ H' => Q .non H', rt := Q } (L2.start f.N vs) H) : FnOk P w K mg base CXF (d + 1) (fa i) fd f.ps sp := by
  obtain ⟨S, _⟩ := W.fn i f hf
  refine F.ok S hl fun cdv A outer s H vs Q E hr hs => ?_
  have g : GoodA T k n (cxOf CXF P w K mg base f.N f.qual f.scope (fa i) cdv A outer s H E).nox ca d (T.gam f) := fun I o den L => W.good (f := f) rfl rfl (fun _ => rfl) rfl hr rfl rfl rfl S fun d'' hd'' j hj => Wl.all L W d d'' hd'' j hj
  obtain ⟨t, ht, hq⟩ := h _ ⟨rfl, rfl, rfl, rfl, rfl, g, PassesOwn.never⟩
  exact ⟨t, PSs.nox (X := cxOf CXF P w K mg base f.N f.qual f.scope (fa i) cdv A outer s H E) ht, hq vs H Q E hs⟩
/-- a call of an own def, by its promise -/
theorem own_call {Γ : Gam} {d : Nat} {X : Cx} (x : LX T k n P w K mg base ca d Γ X) (W : Wl T w K mg ca fa) {i : Nat} {nm : Str} {f : FnS} (hf : T.fns[i]? = some f) {fd : FuncData} (B : Binds K fd f.ps []) {sp : Sp} (F : FnOk P w K mg base CXF d (fa i) fd f.ps sp) (hg : Γ.gl nm = true) (hl : (nm, GK.fn i) ∈ Γ.glob) (hl2 : (nm, GK.fn i) ∈ T.glob) (hd : (nm == ("__debug__" : Str)) = false) {e : Expr} {es : List Expr} {t : TA} (ha : PA X (e :: es) t) (hs : (e :: es).all notStar = true) {p pos : Pos} :
    PE X (.Call (.Name nm p) (e :: es) [] pos) (tCall sp [] (fun _ _ _ => False) t) := by
  have g := x.g Int _ id lawful_int
  obtain ⟨f', hm, hk, _⟩ := g.glob _ _ hl
  obtain ⟨q, _⟩ := W.glob _ _ hl2
  rw [x.mg, q] at hm
  cases hm
  rw [List.all_cons, Bool.and_eq_true] at hs
  have B' : Binds X.K fd f.ps [] := by rw [x.K]; exact B
  have F' : FnOk X.prog X.w X.K X.mg X.base CXF d (fa i) fd f.ps sp := by rw [x.prog, x.w, x.K, x.mg, x.base]; exact F
  exact L2.pe_call (E := fun _ _ _ => False) F' g.room (g.gl_ok hg) (by rw [x.mg]; exact q) hk B' .nil pass_f ha hd (star_ne hs.1) (star_any hs.2)
end
end Pz
set_option Elab.async false
set_option linter.all false
set_option maxRecDepth 100000
set_option maxHeartbeats 0
namespace Pz
open PySem L2
def clsB (s : Stmt) : List Stmt := match s with
  | .ClassDef _ _ _ b _ _ _ _ _ _ _ => b
  | _ => []
def fS (s : Stmt) (at_ : Str × Option Str) (name qual : Str) (N ps : List Str) : FnS := ⟨at_, name, qual, N, ps, defArgs s, defBody s, defScope s⟩
def gk (s : Str) (g : GK) : Str × GK := (s, g)
def mk (s : Str) (i : Nat) : Str × Nat := (s, i)
def tk (s : Str) (i : Int) : Str × Int := (s, i)
def top (i : Nat) : Stmt := PySem.Challenge.pw_movedframes_k12_kinds_by_hand.main.body.getD i (.Pass ⟨0, 0, 0, 0⟩)
def mth (i j : Nat) : Stmt := (clsB (top i)).getD j (.Pass ⟨0, 0, 0, 0⟩)
def f0 : FnS := fS (top 14) ("is_integer", none) "is_integer" "is_integer" ["thing", "least", "most"] ["thing", "least", "most"]
def f1 : FnS := fS (top 15) ("is_name", none) "is_name" "is_name" ["thing", "sign"] ["thing"]
def f2 : FnS := fS (top 16) ("is_inputs", none) "is_inputs" "is_inputs" ["thing", "one"] ["thing"]
def f3 : FnS := fS (top 17) ("need_inputs", none) "need_inputs" "need_inputs" ["inputs"] ["inputs"]
def f4 : FnS := fS (top 18) ("has_word", none) "has_word" "has_word" ["thing"] ["thing"]
def f5 : FnS := fS (top 19) ("is_instruction", none) "is_instruction" "is_instruction" ["thing", "slots", "many", "word", "slot"] ["thing", "slots", "many"]
def f6 : FnS := fS (top 20) ("is_function", none) "is_function" "is_function" ["thing", "name", "params", "slots", "body", "one"] ["thing"]
def f7 : FnS := fS (top 21) ("taken_slots", none) "taken_slots" "taken_slots" ["function", "one"] ["function"]
def f8 : FnS := fS (top 22) ("keeps_taken", none) "keeps_taken" "keeps_taken" ["function", "some", "written", "one", "slot"] ["function"]
def f9 : FnS := fS (top 23) ("is_program", none) "is_program" "is_program" ["thing", "function", "params", "calls", "one"] ["thing"]
def f10 : FnS := fS (top 24) ("need_program", none) "need_program" "need_program" ["program"] ["program"]
def f11 : FnS := fS (top 25) ("numbers_of", none) "numbers_of" "numbers_of" ["program", "number", "function"] ["program"]
def f12 : FnS := fS (mth 28 0) ("Kinds", some "__init__") "__init__" "Kinds.__init__" ["self", "program", "entry"] ["self", "program"]
def f13 : FnS := fS (mth 28 1) ("Kinds", some "first_frame") "first_frame" "Kinds.first_frame" ["self", "entry", "number", "kinds", "words", "slot", "kind"] ["self", "entry"]
def f14 : FnS := fS (mth 28 2) ("Kinds", some "walk") "walk" "Kinds.walk" ["self", "entry", "start", "found", "row", "place", "frame", "other", "walk"] ["self", "entry"]
def f15 : FnS := fS (mth 28 3) ("Kinds", some "next_frames") "next_frames" "Kinds.next_frames" ["self", "entry", "place", "frame", "walk", "body", "one", "later", "kind"] ["self", "entry", "place", "frame", "walk"]
def f16 : FnS := fS (mth 28 4) ("Kinds", some "call") "call" "Kinds.call" ["self", "entry", "one", "place", "frame", "walk", "other", "found", "result", "more", "kind"] ["self", "entry", "one", "place", "frame", "walk"]
def f17 : FnS := fS (mth 28 5) ("Kinds", some "entry_of") "entry_of" "Kinds.entry_of" ["self", "one", "frame", "kinds", "slot", "kind"] ["self", "one", "frame"]
def f18 : FnS := fS (mth 28 6) ("Kinds", some "note") "note" "Kinds.note" ["self", "some", "key", "walk"] ["self", "some", "key", "walk"]
def f19 : FnS := fS (mth 28 7) ("Kinds", some "first_wrong") "first_wrong" "Kinds.first_wrong" ["self", "best", "entry", "body", "place", "frame", "walk"] ["self"]
def f20 : FnS := fS (top 29) ("joined", none) "joined" "joined" ["walk", "more"] ["walk", "more"]
def f21 : FnS := fS (top 30) ("lengths_of", none) "lengths_of" "lengths_of" ["walks", "key"] ["walks"]
def f22 : FnS := fS (top 31) ("inputs_of", none) "inputs_of" "inputs_of" ["walk", "found", "row", "some"] ["walk"]
def f23 : FnS := fS (top 32) ("put", none) "put" "put" ["frame", "slot", "kind"] ["frame", "slot", "kind"]
def f24 : FnS := fS (top 33) ("is_number_kind", none) "is_number_kind" "is_number_kind" ["kind"] ["kind"]
def f25 : FnS := fS (top 34) ("is_pointer_kind", none) "is_pointer_kind" "is_pointer_kind" ["kind"] ["kind"]
def f26 : FnS := fS (top 35) ("is_bad", none) "is_bad" "is_bad" ["one", "frame"] ["one", "frame"]
def f27 : FnS := fS (top 36) ("behind", none) "behind" "behind" ["one", "frame"] ["one", "frame"]
def f28 : FnS := fS (top 37) ("soundness", none) "soundness" "soundness" ["program", "found"] ["program"]
def f29 : FnS := fS (top 38) ("word_of", none) "word_of" "word_of" ["kind"] ["kind"]
def f30 : FnS := fS (top 39) ("may_be", none) "may_be" "may_be" ["program", "kinds", "found", "entry", "place", "frame", "some", "kind", "slot", "words", "key"] ["program"]
def f31 : FnS := fS (top 40) ("returning", none) "returning" "returning" ["program", "numbers", "found", "many", "number", "function", "one"] ["program"]
def f32 : FnS := fS (top 41) ("comes_back", none) "comes_back" "comes_back" ["function", "names", "body", "seen", "row", "place", "other"] ["function", "names"]
def f33 : FnS := fS (top 42) ("next_places", none) "next_places" "next_places" ["body", "place", "names", "one"] ["body", "place", "names"]
def f34 : FnS := fS (mth 46 0) ("Frame", some "__init__") "__init__" "Frame.__init__" ["self", "number", "words"] ["self", "number", "words"]
def f35 : FnS := fS (mth 47 0) ("Pointer", some "__init__") "__init__" "Pointer.__init__" ["self", "frame", "slot"] ["self", "frame", "slot"]
def f36 : FnS := fS (top 48) ("is_pointer", none) "is_pointer" "is_pointer" ["word"] ["word"]
def f37 : FnS := fS (mth 49 0) ("Run", some "__init__") "__init__" "Run.__init__" ["self", "program", "inputs"] ["self", "program", "inputs"]
def f38 : FnS := fS (mth 49 1) ("Run", some "next_input") "next_input" "Run.next_input" ["self"] ["self"]
def f39 : FnS := fS (mth 49 2) ("Run", some "give_back") "give_back" "Run.give_back" ["self", "word", "frame", "caller"] ["self", "word"]
def f40 : FnS := fS (mth 49 3) ("Run", some "call") "call" "Run.call" ["self", "frame", "one", "number", "words", "slot"] ["self", "frame", "one"]
def f41 : FnS := fS (mth 49 4) ("Run", some "is_wrong") "is_wrong" "Run.is_wrong" ["self", "frame", "one", "word"] ["self", "frame", "one"]
def f42 : FnS := fS (mth 49 5) ("Run", some "simple") "simple" "Run.simple" ["self", "frame", "one", "word", "words", "pointer"] ["self", "frame", "one"]
def f43 : FnS := fS (mth 49 6) ("Run", some "step") "step" "Run.step" ["self", "frame", "body", "one"] ["self"]
def f44 : FnS := fS (mth 49 7) ("Run", some "take_input") "take_input" "Run.take_input" ["self", "frame", "one", "number"] ["self", "frame", "one"]
def f45 : FnS := fS (mth 49 8) ("Run", some "run_on") "run_on" "Run.run_on" ["self"] ["self"]
def f46 : FnS := fS (top 50) ("plain_run", none) "plain_run" "plain_run" ["program", "inputs", "found"] ["program", "inputs"]
def f47 : FnS := fS (top 51) ("run", none) "run" "run" ["program", "inputs", "found"] ["program", "inputs"]
def f48 : FnS := fS (top 53) ("_law_open", none) "_law_open" "_law_open" ["_law_script", "_law_cells", "_law_k", "_law_cell"] ["_law_script"]
def f49 : FnS := fS (top 54) ("_law_spread", none) "_law_spread" "_law_spread" ["_law_cell", "_law_at", "_law_primes", "_law_one", "_law_two", "_law_three"] ["_law_cell", "_law_at"]
def f50 : FnS := fS (top 55) ("_law_take", none) "_law_take" "_law_take" ["_law_pen", "_law_amount", "_law_at", "_law_cell", "_law_found"] ["_law_pen", "_law_amount"]
def f51 : FnS := fS (top 56) ("_law_one_of", none) "_law_one_of" "_law_one_of" ["_law_pen", "_law_some"] ["_law_pen", "_law_some"]
def f52 : FnS := fS (top 57) ("_law_number", none) "_law_number" "_law_number" ["_law_pen"] ["_law_pen"]
def f53 : FnS := fS (top 58) ("_law_through_right", none) "_law_through_right" "_law_through_right" ["_law_c", "_law_main", "_law_through", "_law_program", "_law_found"] ["_law_c"]
def f54 : FnS := fS (top 59) ("_law_gone_right", none) "_law_gone_right" "_law_gone_right" ["_law_c", "_law_body", "_law_program", "_law_told", "_law_harmless"] ["_law_c"]
def f55 : FnS := fS (top 60) ("_law_ways_right", none) "_law_ways_right" "_law_ways_right" ["_law_c", "_law_start", "_law_program"] ["_law_c"]
def f56 : FnS := fS (top 61) ("_law_never_right", none) "_law_never_right" "_law_never_right" ["_law_c", "_law_body", "_law_program"] ["_law_c"]
def f57 : FnS := fS (top 62) ("_law_far_right", none) "_law_far_right" "_law_far_right" ["_law_c", "_law_many", "_law_body", "_law_program", "_law_found"] ["_law_c", "_law_many"]
def f58 : FnS := fS (top 63) ("_law_heavy_right", none) "_law_heavy_right" "_law_heavy_right" ["_law_c", "_law_calls", "_law_name", "_law_program", "_law_found"] ["_law_c"]
def f59 : FnS := fS (top 64) ("law", none) "law" "law" ["_law_script", "_law_pen", "_law_turn", "_law_c"] ["_law_script"]
def T0 : Txt where
  fns := [f0, f1, f2, f3, f4, f5, f6, f7, f8, f9, f10, f11, f12, f13, f14, f15, f16, f17, f18, f19, f20, f21, f22, f23, f24, f25, f26, f27, f28, f29, f30, f31, f32, f33, f34, f35, f36, f37, f38, f39, f40, f41, f42, f43, f44, f45, f46, f47, f48, f49, f50, f51, f52, f53, f54, f55, f56, f57, f58, f59]
  glob := [gk "Frame" (.cls 1), gk "Kinds" (.cls 0), gk "LETTERS" (.str "abcdefghijklmnopqrstuvwxyz"), gk "MOST_BODY" (.int 10), gk "MOST_FRAMES" (.int 1000), gk "MOST_FUNCTIONS" (.int 200), gk "MOST_INPUTS" (.int 1000), gk "MOST_NUMBER" (.int 65535), gk "MOST_PARAMS" (.int 3), gk "MOST_SLOTS" (.int 8), gk "MOST_STEPS" (.int 20000), gk "MOST_WALK" (.int 999), gk "Pointer" (.cls 2), gk "Run" (.cls 3), gk "SIZES" .tab, gk "_law_far_right" (.fn 57), gk "_law_gone_right" (.fn 54), gk "_law_heavy_right" (.fn 58), gk "_law_never_right" (.fn 56), gk "_law_number" (.fn 52), gk "_law_one_of" (.fn 51), gk "_law_open" (.fn 48), gk "_law_spread" (.fn 49), gk "_law_take" (.fn 50), gk "_law_through_right" (.fn 53), gk "_law_ways_right" (.fn 55), gk "behind" (.fn 27), gk "comes_back" (.fn 32), gk "has_word" (.fn 4), gk "inputs_of" (.fn 22), gk "is_bad" (.fn 26), gk "is_function" (.fn 6), gk "is_inputs" (.fn 2), gk "is_instruction" (.fn 5), gk "is_integer" (.fn 0), gk "is_name" (.fn 1), gk "is_number_kind" (.fn 24), gk "is_pointer" (.fn 36), gk "is_pointer_kind" (.fn 25), gk "is_program" (.fn 9), gk "joined" (.fn 20), gk "keeps_taken" (.fn 8), gk "law" (.fn 59), gk "lengths_of" (.fn 21), gk "may_be" (.fn 30), gk "need_inputs" (.fn 3), gk "need_program" (.fn 10), gk "next_places" (.fn 33), gk "numbers_of" (.fn 11), gk "plain_run" (.fn 46), gk "put" (.fn 23), gk "returning" (.fn 31), gk "run" (.fn 47), gk "soundness" (.fn 28), gk "taken_slots" (.fn 7), gk "word_of" (.fn 29)]
  free := ["all", "bool", "enumerate", "int", "isinstance", "len", "list", "max", "range", "set", "sorted", "str", "tuple"]
  flds := ["carried", "end", "frame", "frames", "inputs", "is_new", "is_there", "number", "numbers", "place", "places", "program", "results", "shown", "slot", "starts", "taken", "words", "wrong"]
  ncls := 4
  cls := [⟨12, [mk "first_frame" 13, mk "walk" 14, mk "next_frames" 15, mk "call" 16, mk "entry_of" 17, mk "note" 18, mk "first_wrong" 19]⟩, ⟨34, []⟩, ⟨35, []⟩, ⟨37, [mk "next_input" 38, mk "give_back" 39, mk "call" 40, mk "is_wrong" 41, mk "simple" 42, mk "step" 43, mk "take_input" 44, mk "run_on" 45]⟩]
  tab := [tk "number" 3, tk "input" 2, tk "copy" 3, tk "add" 3, tk "point" 3, tk "load" 3, tk "store" 3, tk "show" 2, tk "turn" 2, tk "call" 4, tk "return" 2, tk "stop" 1]
def N0 : Nms := ⟨["Kinds", "Frame", "Pointer", "Run"], "SIZES"⟩
-- indices: is_integer=0 is_name=1 is_inputs=2 need_inputs=3 has_word=4 is_instruction=5 is_function=6 taken_slots=7 keeps_taken=8 is_program=9 need_program=10 numbers_of=11 Kinds.__init__=12 Kinds.first_frame=13 Kinds.walk=14 Kinds.next_frames=15 Kinds.call=16 Kinds.entry_of=17 Kinds.note=18 Kinds.first_wrong=19 joined=20 lengths_of=21 inputs_of=22 put=23 is_number_kind=24 is_pointer_kind=25 is_bad=26 behind=27 soundness=28 word_of=29 may_be=30 returning=31 comes_back=32 next_places=33 Frame.__init__=34 Pointer.__init__=35 is_pointer=36 Run.__init__=37 Run.next_input=38 Run.give_back=39 Run.call=40 Run.is_wrong=41 Run.simple=42 Run.step=43 Run.take_input=44 Run.run_on=45 plain_run=46 run=47 _law_open=48 _law_spread=49 _law_take=50 _law_one_of=51 _law_number=52 _law_through_right=53 _law_gone_right=54 _law_ways_right=55 _law_never_right=56 _law_far_right=57 _law_heavy_right=58 law=59
-- law names: 0:_law_script 1:_law_pen 2:_law_turn 3:_law_c
end Pz
set_option Elab.async false
set_option linter.all false
set_option maxRecDepth 100000
set_option maxHeartbeats 0
namespace Pz
open PySem PySem.Spec PyProof.Rows L2
abbrev R12 : PySem.W.OpenRow := PySem.W.OpenLaw.row PySem.Challenge.rw_movedframes_k12_kinds_by_hand
abbrev hk12 : PySem.W.Hook := He.hookX 4 [] (T0.fns.map FnS.dd) (tsOf T0 N0) [] (chk T0 N0)
def ob12 (s : PySem.W.SharedT) : He.AlX := He.obsX 4 [] (T0.fns.map FnS.dd) (tsOf T0 N0) [] (chk T0 N0) (HandSHeadRun.getT s)
theorem ob_eq12 (s : PySem.W.SharedT) : ob12 s = hk12.obs s.abs := He.obsX_eq (HandSHeadRun.getT_eq s)
def loose12 : List Str := ((PySem.Challenge.pw_movedframes_k12_kinds_by_hand.main.scope.names.filter fun q => kindIs (some q.2) .local).map (·.1)).filter fun x => !(sBeq x "law")
theorem run12hf (w : World) : HandSHeadRun.RunEq R12 (PySem.W.view R12.prog [64]) hk12 ob12 20000 loose12 (w.withFollow "special-get-raises" false) := by
  intro os
  kernel_rfl
theorem run12ht (w : World) : HandSHeadRun.RunEq R12 (PySem.W.view R12.prog [64]) hk12 ob12 20000 loose12 (w.withFollow "special-get-raises" true) := by
  intro os
  kernel_rfl
theorem run12h (w : World) : HandSHeadRun.RunEq R12 (PySem.W.view R12.prog [64]) hk12 ob12 20000 loose12 w := PySem.W.byRow2 "special-get-raises" (P := fun w => HandSHeadRun.RunEq R12 (PySem.W.view R12.prog [64]) hk12 ob12 20000 loose12 w) run12hf run12ht w
end Pz
set_option Elab.async false
set_option linter.all false
set_option maxRecDepth 100000
set_option maxHeartbeats 0
namespace Pz
open PySem L2
section
variable {lo hi : Int}
abbrev li (i : Int) : Val (SI lo hi) := .int (.k i)
def g0 : Fn (SI lo hi) := ⟨3, 3, [(.ret (.and (.isi (.var 0) [.int]) (.and (.not (.isi (.var 0) [.bool])) (.chn .le .le (.var 1) (.var 0) (.var 2)))))]⟩
def g1 : Fn (SI lo hi) := ⟨1, 2, [(.ret (.and (.isi (.var 0) [.str]) (.and (.chn .le .le (.cst (li 1)) (.bif .len [(.var 0)]) (.cst (li 8))) (.bif .all [(.lc (.cmp .in (.var 1) (.cst (.str ⟨⟨[97, 98, 99, 100, 101, 102, 103, 104, 105, 106, 107, 108, 109, 110, 111, 112, 113, 114, 115, 116, 117, 118, 119, 120, 121, 122]⟩⟩))) (.nm 1) (.ex (.var 0)) none [1])]))))]⟩
def g2 : Fn (SI lo hi) := ⟨1, 2, [(.ifs (.or (.not (.isi (.var 0) [.list])) (.cmp .gt (.bif .len [(.var 0)]) (.cst (li 1000)))) [(.ret (.cst (.bl false)))] []), (.ret (.bif .all [(.lc (.call 0 [(.var 1), (.cst (li 0)), (.cst (li 65535))] none) (.nm 1) (.ex (.var 0)) none [1])]))]⟩
def g3 : Fn (SI lo hi) := ⟨1, 1, [(.ifs (.not (.call 2 [(.var 0)] none)) [(.rais 0)] [])]⟩
def g4 : Fn (SI lo hi) := ⟨1, 1, [(.ifs (.or (.not (.isi (.var 0) [.tuple])) (.or (.cmp .eq (.var 0) (.tup [])) (.not (.isi (.idx (.var 0) (.cst (li 0))) [.str])))) [(.ret (.cst (.bl false)))] []), (.ret (.and (.tin (.idx (.var 0) (.cst (li 0)))) (.cmp .eq (.bif .len [(.var 0)]) (.tix (.idx (.var 0) (.cst (li 0)))))))]⟩
def g5 : Fn (SI lo hi) := ⟨3, 5, [(.ifs (.not (.call 4 [(.var 0)] none)) [(.ret (.cst (.bl false)))] []), (.set 3 (.idx (.var 0) (.cst (li 0)))), (.ifs (.cmp .eq (.var 3) (.cst (.str ⟨⟨[115, 116, 111, 112]⟩⟩))) [(.ret (.cst (.bl true)))] []), (.ifs (.cmp .eq (.var 3) (.cst (.str ⟨⟨[116, 117, 114, 110]⟩⟩))) [(.ret (.call 0 [(.idx (.var 0) (.cst (li 1))), (.cst (li 0)), (.var 2)] none))] []), (.ifs (.not (.call 0 [(.idx (.var 0) (.cst (li 1))), (.cst (li 0)), (.bin .sub (.var 1) (.cst (li 1)))] none)) [(.ret (.cst (.bl false)))] []), (.ifs (.cmp .in (.var 3) (.tup [(.cst (.str ⟨⟨[110, 117, 109, 98, 101, 114]⟩⟩)), (.cst (.str ⟨⟨[97, 100, 100]⟩⟩))])) [(.ret (.call 0 [(.idx (.var 0) (.cst (li 2))), (.cst (li 0)), (.cst (li 65535))] none))] []), (.ifs (.cmp .in (.var 3) (.tup [(.cst (.str ⟨⟨[99, 111, 112, 121]⟩⟩)), (.cst (.str ⟨⟨[112, 111, 105, 110, 116]⟩⟩)), (.cst (.str ⟨⟨[108, 111, 97, 100]⟩⟩)), (.cst (.str ⟨⟨[115, 116, 111, 114, 101]⟩⟩))])) [(.ret (.call 0 [(.idx (.var 0) (.cst (li 2))), (.cst (li 0)), (.bin .sub (.var 1) (.cst (li 1)))] none))] []), (.ifs (.cmp .eq (.var 3) (.cst (.str ⟨⟨[99, 97, 108, 108]⟩⟩))) [(.ret (.and (.isi (.idx (.var 0) (.cst (li 3))) [.tuple]) (.bif .all [(.lc (.call 0 [(.var 4), (.cst (li 0)), (.bin .sub (.var 1) (.cst (li 1)))] none) (.nm 4) (.ex (.idx (.var 0) (.cst (li 3)))) none [4])])))] []), (.ret (.cst (.bl true)))]⟩
def g6 : Fn (SI lo hi) := ⟨1, 6, [(.ifs (.or (.not (.isi (.var 0) [.tuple])) (.or (.cmp .ne (.bif .len [(.var 0)]) (.cst (li 4))) (.not (.call 1 [(.idx (.var 0) (.cst (li 0)))] none)))) [(.ret (.cst (.bl false)))] []), (.setT (.tup [(.nm 1), (.nm 2), (.nm 3), (.nm 4)]) (.var 0)), (.ifs (.or (.not (.call 0 [(.var 2), (.cst (li 0)), (.cst (li 3))] none)) (.not (.call 0 [(.var 3), (.bif .max [(.cst (li 1)), (.var 2)]), (.cst (li 8))] none))) [(.ret (.cst (.bl false)))] []), (.ifs (.or (.not (.isi (.var 4) [.tuple])) (.not (.chn .le .le (.cst (li 1)) (.bif .len [(.var 4)]) (.cst (li 10))))) [(.ret (.cst (.bl false)))] []), (.ret (.bif .all [(.lc (.call 5 [(.var 5), (.var 3), (.bif .len [(.var 4)])] none) (.nm 5) (.ex (.var 4)) none [5])]))]⟩
def g7 : Fn (SI lo hi) := ⟨1, 2, [(.ret (.bif .tuple [(.bif .sortedSet [(.lc (.idx (.var 1) (.cst (li 2))) (.nm 1) (.ex (.idx (.var 0) (.cst (li 3)))) (some (.cmp .eq (.idx (.var 1) (.cst (li 0))) (.cst (.str ⟨⟨[112, 111, 105, 110, 116]⟩⟩)))) [1])])]))]⟩
def g8 : Fn (SI lo hi) := ⟨1, 5, [(.set 1 (.call 7 [(.var 0)] none)), (.set 2 (.lc (.idx (.var 3) (.cst (li 1))) (.nm 3) (.ex (.idx (.var 0) (.cst (li 3)))) (some (.cmp .in (.idx (.var 3) (.cst (li 0))) (.tup [(.cst (.str ⟨⟨[99, 111, 112, 121]⟩⟩)), (.cst (.str ⟨⟨[112, 111, 105, 110, 116]⟩⟩)), (.cst (.str ⟨⟨[99, 97, 108, 108]⟩⟩))]))) [3])), (.ret (.bif .all [(.lc (.and (.cmp .ge (.var 4) (.idx (.var 0) (.cst (li 1)))) (.cmp .notin (.var 4) (.var 2))) (.nm 4) (.ex (.var 1)) none [4])]))]⟩
def g9 : Fn (SI lo hi) := ⟨1, 5, [(.ifs (.or (.not (.isi (.var 0) [.tuple])) (.not (.chn .le .le (.cst (li 1)) (.bif .len [(.var 0)]) (.cst (li 200))))) [(.ret (.cst (.bl false)))] []), (.ifs (.or (.not (.bif .all [(.lc (.call 6 [(.var 1)] none) (.nm 1) (.ex (.var 0)) none [1])])) (.cmp .ne (.idx (.idx (.var 0) (.cst (li 0))) (.cst (li 1))) (.cst (li 0)))) [(.ret (.cst (.bl false)))] []), (.set 2 (.dc (.idx (.var 1) (.cst (li 0))) (.idx (.var 1) (.cst (li 1))) (.nm 1) (.ex (.var 0)) [1])), (.ifs (.cmp .ne (.bif .len [(.var 2)]) (.bif .len [(.var 0)])) [(.ret (.cst (.bl false)))] []), (.set 3 (.lc2 (.var 4) (.nm 1) (.ex (.var 0)) (.nm 4) (.ex (.idx (.var 1) (.cst (li 3)))) (some (.cmp .eq (.idx (.var 4) (.cst (li 0))) (.cst (.str ⟨⟨[99, 97, 108, 108]⟩⟩)))) [1, 4])), (.ifs (.not (.bif .all [(.lc (.and (.isi (.idx (.var 4) (.cst (li 2))) [.str]) (.cmp .eq (.bmt (.var 2) .get [(.idx (.var 4) (.cst (li 2))), (.neg (.cst (li 1)))]) (.bif .len [(.idx (.var 4) (.cst (li 3)))]))) (.nm 4) (.ex (.var 3)) none [4])])) [(.ret (.cst (.bl false)))] []), (.ret (.bif .all [(.lc (.call 8 [(.var 1)] none) (.nm 1) (.ex (.var 0)) none [1])]))]⟩
def g10 : Fn (SI lo hi) := ⟨1, 1, [(.ifs (.not (.call 9 [(.var 0)] none)) [(.rais 0)] [])]⟩
def g11 : Fn (SI lo hi) := ⟨1, 3, [(.ret (.dc (.idx (.var 2) (.cst (li 0))) (.var 1) (.tup [(.nm 1), (.nm 2)]) (.enu (.var 0)) [1, 2]))]⟩
def g12 : Fn (SI lo hi) := ⟨2, 3, [(.setF (.var 0) ⟨⟨[112, 114, 111, 103, 114, 97, 109]⟩⟩ (.var 1)), (.setF (.var 0) ⟨⟨[110, 117, 109, 98, 101, 114, 115]⟩⟩ (.call 11 [(.var 1)] none)), (.setF (.var 0) ⟨⟨[115, 116, 97, 114, 116, 115]⟩⟩ (.dic [(.tup [(.cst (li 0)), (.tup [])]), (.tup [(.cst (li 0)), (.tup [])])])), (.setF (.var 0) ⟨⟨[112, 108, 97, 99, 101, 115]⟩⟩ (.dic [])), (.setF (.var 0) ⟨⟨[114, 101, 115, 117, 108, 116, 115]⟩⟩ (.dic [])), (.setF (.var 0) ⟨⟨[105, 115, 95, 110, 101, 119]⟩⟩ (.cst (.bl true))), (.whl (.fld (.var 0) ⟨⟨[105, 115, 95, 110, 101, 119]⟩⟩) [(.setF (.var 0) ⟨⟨[105, 115, 95, 110, 101, 119]⟩⟩ (.cst (.bl false))), (.for (.nm 2) (.ex (.bif .list [(.fld (.var 0) ⟨⟨[115, 116, 97, 114, 116, 115]⟩⟩)])) [(.expr (.mth (.var 0) ⟨⟨[119, 97, 108, 107]⟩⟩ [(.var 2)] none))])]), (.setF (.var 0) ⟨⟨[119, 114, 111, 110, 103]⟩⟩ (.mth (.var 0) ⟨⟨[102, 105, 114, 115, 116, 95, 119, 114, 111, 110, 103]⟩⟩ [] none))]⟩
def g13 : Fn (SI lo hi) := ⟨2, 7, [(.setT (.tup [(.nm 2), (.nm 3)]) (.var 1)), (.set 4 (.lc (.ite (.cmp .eq (.var 6) (.cst (.str ⟨⟨[98, 101, 108, 111, 119]⟩⟩))) (.var 5) (.var 6)) (.tup [(.nm 5), (.nm 6)]) (.enu (.var 3)) none [5, 6])), (.ret (.bif .tuple [(.bin .add (.var 4) (.bin .mul (.lst [(.cst (.str ⟨⟨[110, 117, 109, 98, 101, 114]⟩⟩))]) (.bin .sub (.idx (.idx (.fld (.var 0) ⟨⟨[112, 114, 111, 103, 114, 97, 109]⟩⟩) (.var 2)) (.cst (li 2))) (.bif .len [(.var 4)]))))]))]⟩
def g14 : Fn (SI lo hi) := ⟨2, 9, [(.set 2 (.tup [(.cst (li 0)), (.mth (.var 0) ⟨⟨[102, 105, 114, 115, 116, 95, 102, 114, 97, 109, 101]⟩⟩ [(.var 1)] none)])), (.par [3, 4] [(.dic [(.var 2), (.tup [(.cst (li 0)), (.tup [])])]), (.lst [(.var 2)])]), (.whl (.cmp .ne (.var 4) (.lst [])) [(.setT (.tup [(.nm 5), (.nm 6)]) (.bmt (.var 4) .pop [(.cst (li 0))])), (.for (.tup [(.nm 7), (.nm 8)]) (.ex (.mth (.var 0) ⟨⟨[110, 101, 120, 116, 95, 102, 114, 97, 109, 101, 115]⟩⟩ [(.var 1), (.var 5), (.var 6), (.idx (.var 3) (.tup [(.var 5), (.var 6)]))] none)) [(.ifs (.or (.cmp .notin (.var 7) (.var 3)) (.cmp .lt (.idx (.var 8) (.cst (li 0))) (.idx (.idx (.var 3) (.var 7)) (.cst (li 0))))) [(.setI (.var 3) (.var 7) (.var 8)), (.expr (.bmt (.var 4) .append [(.var 7)]))] [])])]), (.ifs (.cmp .ne (.call 21 [(.var 3)] none) (.call 21 [(.bmt (.fld (.var 0) ⟨⟨[112, 108, 97, 99, 101, 115]⟩⟩) .get [(.var 1), (.dic [])])] none)) [(.setF (.var 0) ⟨⟨[105, 115, 95, 110, 101, 119]⟩⟩ (.cst (.bl true)))] []), (.setI (.fld (.var 0) ⟨⟨[112, 108, 97, 99, 101, 115]⟩⟩) (.var 1) (.var 3))]⟩
def g15 : Fn (SI lo hi) := ⟨5, 9, [(.set 5 (.idx (.idx (.fld (.var 0) ⟨⟨[112, 114, 111, 103, 114, 97, 109]⟩⟩) (.idx (.var 1) (.cst (li 0)))) (.cst (li 3)))), (.ifs (.cmp .eq (.var 2) (.bif .len [(.var 5)])) [(.expr (.mth (.var 0) ⟨⟨[110, 111, 116, 101]⟩⟩ [(.bmt (.fld (.var 0) ⟨⟨[114, 101, 115, 117, 108, 116, 115]⟩⟩) .setdefault [(.var 1), (.dic [])]), (.cst (.str ⟨⟨[110, 117, 109, 98, 101, 114]⟩⟩)), (.var 4)] none)), (.ret (.lst []))] []), (.par [6, 7] [(.idx (.var 5) (.var 2)), (.tup [(.bin .add (.idx (.var 4) (.cst (li 0))) (.cst (li 1))), (.idx (.var 4) (.cst (li 1)))])]), (.ifs (.call 26 [(.var 6), (.var 3)] none) [(.ret (.lst []))] []), (.ifs (.cmp .eq (.idx (.var 6) (.cst (li 0))) (.cst (.str ⟨⟨[114, 101, 116, 117, 114, 110]⟩⟩))) [(.set 8 (.idx (.var 3) (.idx (.var 6) (.cst (li 1))))), (.expr (.mth (.var 0) ⟨⟨[110, 111, 116, 101]⟩⟩ [(.bmt (.fld (.var 0) ⟨⟨[114, 101, 115, 117, 108, 116, 115]⟩⟩) .setdefault [(.var 1), (.dic [])]), (.ite (.cmp .eq (.var 8) (.cst (.str ⟨⟨[111, 119, 110]⟩⟩))) (.cst (.str ⟨⟨[103, 111, 110, 101]⟩⟩)) (.var 8)), (.var 7)] none)), (.ret (.lst []))] []), (.ifs (.cmp .eq (.idx (.var 6) (.cst (li 0))) (.cst (.str ⟨⟨[116, 117, 114, 110]⟩⟩))) [(.ret (.lst [(.tup [(.tup [(.bin .add (.var 2) (.cst (li 1))), (.var 3)]), (.call 20 [(.var 7), (.tup [(.cst (li 0)), (.tup [(.cst (li 0))])])] none)]), (.tup [(.tup [(.idx (.var 6) (.cst (li 1))), (.var 3)]), (.call 20 [(.var 7), (.tup [(.cst (li 0)), (.tup [(.cst (li 1))])])] none)])]))] []), (.ifs (.cmp .eq (.idx (.var 6) (.cst (li 0))) (.cst (.str ⟨⟨[99, 97, 108, 108]⟩⟩))) [(.ret (.mth (.var 0) ⟨⟨[99, 97, 108, 108]⟩⟩ [(.var 1), (.var 6), (.var 2), (.var 3), (.var 7)] none))] []), (.ret (.lst [(.tup [(.tup [(.bin .add (.var 2) (.cst (li 1))), (.call 27 [(.var 6), (.var 3)] none)]), (.ite (.cmp .eq (.idx (.var 6) (.cst (li 0))) (.cst (.str ⟨⟨[105, 110, 112, 117, 116]⟩⟩))) (.call 20 [(.var 7), (.tup [(.cst (li 0)), (.tup [(.cst (li 0))])])] none) (.var 7))])]))]⟩
def g16 : Fn (SI lo hi) := ⟨6, 11, [(.set 6 (.mth (.var 0) ⟨⟨[101, 110, 116, 114, 121, 95, 111, 102]⟩⟩ [(.var 2), (.var 4)] none)), (.expr (.mth (.var 0) ⟨⟨[110, 111, 116, 101]⟩⟩ [(.fld (.var 0) ⟨⟨[115, 116, 97, 114, 116, 115]⟩⟩), (.var 6), (.call 20 [(.idx (.fld (.var 0) ⟨⟨[115, 116, 97, 114, 116, 115]⟩⟩) (.var 1)), (.var 5)] none)] none)), (.set 7 (.lst [])), (.for (.tup [(.nm 8), (.nm 9)]) (.itm (.bmt (.fld (.var 0) ⟨⟨[114, 101, 115, 117, 108, 116, 115]⟩⟩) .get [(.var 6), (.dic [])])) [(.set 10 (.ite (.isi (.var 8) [.int]) (.idx (.var 4) (.idx (.idx (.var 2) (.cst (li 3))) (.var 8))) (.var 8))), (.expr (.bmt (.var 7) .append [(.tup [(.tup [(.bin .add (.var 3) (.cst (li 1))), (.call 23 [(.var 4), (.idx (.var 2) (.cst (li 1))), (.var 10)] none)]), (.call 20 [(.var 5), (.var 9)] none)])]))]), (.ret (.var 7))]⟩
def g17 : Fn (SI lo hi) := ⟨3, 6, [(.set 3 (.lc (.idx (.var 2) (.var 4)) (.nm 4) (.ex (.idx (.var 1) (.cst (li 3)))) none [4])), (.ret (.tup [(.idx (.fld (.var 0) ⟨⟨[110, 117, 109, 98, 101, 114, 115]⟩⟩) (.idx (.var 1) (.cst (li 2)))), (.bif .tuple [(.lc (.ite (.cmp .in (.var 5) (.tup [(.cst (.str ⟨⟨[110, 117, 109, 98, 101, 114]⟩⟩)), (.cst (.str ⟨⟨[103, 111, 110, 101]⟩⟩))])) (.var 5) (.cst (.str ⟨⟨[98, 101, 108, 111, 119]⟩⟩))) (.nm 5) (.ex (.var 3)) none [5])])]))]⟩
def g18 : Fn (SI lo hi) := ⟨4, 4, [(.ifs (.or (.cmp .notin (.var 2) (.var 1)) (.cmp .lt (.idx (.var 3) (.cst (li 0))) (.idx (.idx (.var 1) (.var 2)) (.cst (li 0))))) [(.setI (.var 1) (.var 2) (.var 3)), (.setF (.var 0) ⟨⟨[105, 115, 95, 110, 101, 119]⟩⟩ (.cst (.bl true)))] [])]⟩
def g19 : Fn (SI lo hi) := ⟨1, 7, [(.set 1 (.cst .non)), (.for (.nm 2) (.ex (.fld (.var 0) ⟨⟨[112, 108, 97, 99, 101, 115]⟩⟩)) [(.set 3 (.idx (.idx (.fld (.var 0) ⟨⟨[112, 114, 111, 103, 114, 97, 109]⟩⟩) (.idx (.var 2) (.cst (li 0)))) (.cst (li 3)))), (.for (.tup [(.nm 4), (.nm 5)]) (.ex (.idx (.fld (.var 0) ⟨⟨[112, 108, 97, 99, 101, 115]⟩⟩) (.var 2))) [(.set 6 (.call 20 [(.idx (.fld (.var 0) ⟨⟨[115, 116, 97, 114, 116, 115]⟩⟩) (.var 2)), (.idx (.idx (.fld (.var 0) ⟨⟨[112, 108, 97, 99, 101, 115]⟩⟩) (.var 2)) (.tup [(.var 4), (.var 5)]))] none)), (.ifs (.and (.cmp .lt (.var 4) (.bif .len [(.var 3)])) (.and (.call 26 [(.idx (.var 3) (.var 4)), (.var 5)] none) (.or (.cmp .is (.var 1) (.cst .non)) (.cmp .lt (.idx (.var 6) (.cst (li 0))) (.idx (.var 1) (.cst (li 0))))))) [(.set 1 (.var 6))] [])])]), (.ret (.var 1))]⟩
def g20 : Fn (SI lo hi) := ⟨2, 2, [(.ret (.tup [(.bin .add (.idx (.var 0) (.cst (li 0))) (.idx (.var 1) (.cst (li 0)))), (.tup [(.cst (.str ⟨⟨[98, 111, 116, 104]⟩⟩)), (.idx (.var 0) (.cst (li 1))), (.idx (.var 1) (.cst (li 1)))])]))]⟩
def g21 : Fn (SI lo hi) := ⟨1, 2, [(.ret (.dc (.var 1) (.idx (.idx (.var 0) (.var 1)) (.cst (li 0))) (.nm 1) (.ex (.var 0)) [1]))]⟩
def g22 : Fn (SI lo hi) := ⟨1, 4, [(.ifs (.cmp .gt (.idx (.var 0) (.cst (li 0))) (.cst (li 999))) [(.rais 0)] []), (.par [1, 2] [(.lst []), (.lst [(.idx (.var 0) (.cst (li 1)))])]), (.whl (.cmp .ne (.var 2) (.lst [])) [(.set 3 (.bmt (.var 2) .pop [])), (.ifs (.and (.cmp .ne (.var 3) (.tup [])) (.cmp .eq (.idx (.var 3) (.cst (li 0))) (.cst (.str ⟨⟨[98, 111, 116, 104]⟩⟩)))) [(.expr (.bmt (.var 2) .extend [(.lst [(.idx (.var 3) (.cst (li 2))), (.idx (.var 3) (.cst (li 1)))])]))] [(.expr (.bmt (.var 1) .extend [(.var 3)]))])]), (.ret (.var 1))]⟩
def g23 : Fn (SI lo hi) := ⟨3, 3, [(.ret (.bin .add (.bin .add (.slc (.var 0) none (some (.var 1)) none) (.tup [(.var 2)])) (.slc (.var 0) (some (.bin .add (.var 1) (.cst (li 1)))) none none)))]⟩
def g24 : Fn (SI lo hi) := ⟨1, 1, [(.ret (.cmp .eq (.var 0) (.cst (.str ⟨⟨[110, 117, 109, 98, 101, 114]⟩⟩))))]⟩
def g25 : Fn (SI lo hi) := ⟨1, 1, [(.ret (.or (.cmp .eq (.var 0) (.cst (.str ⟨⟨[111, 119, 110]⟩⟩))) (.isi (.var 0) [.int])))]⟩
def g26 : Fn (SI lo hi) := ⟨2, 2, [(.ifs (.cmp .in (.idx (.var 0) (.cst (li 0))) (.tup [(.cst (.str ⟨⟨[97, 100, 100]⟩⟩)), (.cst (.str ⟨⟨[115, 104, 111, 119]⟩⟩))])) [(.ret (.not (.call 24 [(.idx (.var 1) (.idx (.var 0) (.cst (li 1))))] none)))] []), (.ifs (.cmp .eq (.idx (.var 0) (.cst (li 0))) (.cst (.str ⟨⟨[115, 116, 111, 114, 101]⟩⟩))) [(.ret (.or (.not (.call 24 [(.idx (.var 1) (.idx (.var 0) (.cst (li 2))))] none)) (.not (.call 25 [(.idx (.var 1) (.idx (.var 0) (.cst (li 1))))] none))))] []), (.ret (.and (.cmp .eq (.idx (.var 0) (.cst (li 0))) (.cst (.str ⟨⟨[108, 111, 97, 100]⟩⟩))) (.not (.call 25 [(.idx (.var 1) (.idx (.var 0) (.cst (li 2))))] none))))]⟩
def g27 : Fn (SI lo hi) := ⟨2, 2, [(.ifs (.cmp .in (.idx (.var 0) (.cst (li 0))) (.tup [(.cst (.str ⟨⟨[110, 117, 109, 98, 101, 114]⟩⟩)), (.cst (.str ⟨⟨[105, 110, 112, 117, 116]⟩⟩)), (.cst (.str ⟨⟨[108, 111, 97, 100]⟩⟩))])) [(.ret (.call 23 [(.var 1), (.idx (.var 0) (.cst (li 1))), (.cst (.str ⟨⟨[110, 117, 109, 98, 101, 114]⟩⟩))] none))] []), (.ifs (.cmp .eq (.idx (.var 0) (.cst (li 0))) (.cst (.str ⟨⟨[99, 111, 112, 121]⟩⟩))) [(.ret (.call 23 [(.var 1), (.idx (.var 0) (.cst (li 1))), (.idx (.var 1) (.idx (.var 0) (.cst (li 2))))] none))] []), (.ifs (.cmp .eq (.idx (.var 0) (.cst (li 0))) (.cst (.str ⟨⟨[112, 111, 105, 110, 116]⟩⟩))) [(.ret (.call 23 [(.var 1), (.idx (.var 0) (.cst (li 1))), (.cst (.str ⟨⟨[111, 119, 110]⟩⟩))] none))] []), (.ret (.var 1))]⟩
def g28 : Fn (SI lo hi) := ⟨1, 2, [(.expr (.call 10 [(.var 0)] none)), (.set 1 (.fld (.new 0 [(.var 0)] none) ⟨⟨[119, 114, 111, 110, 103]⟩⟩)), (.ifs (.cmp .is (.var 1) (.cst .non)) [(.ret (.tup [(.cst (.str ⟨⟨[115, 111, 117, 110, 100]⟩⟩))]))] []), (.ret (.tup [(.cst (.str ⟨⟨[119, 114, 111, 110, 103]⟩⟩)), (.call 22 [(.var 1)] none)]))]⟩
def g29 : Fn (SI lo hi) := ⟨1, 1, [(.ret (.ite (.isi (.var 0) [.int]) (.cst (.str ⟨⟨[98, 101, 108, 111, 119]⟩⟩)) (.var 0)))]⟩
def g30 : Fn (SI lo hi) := ⟨1, 11, [(.expr (.call 10 [(.var 0)] none)), (.setT (.tup [(.nm 1), (.nm 2)]) (.tup [(.new 0 [(.var 0)] none), (.dic [])])), (.for (.nm 3) (.ex (.fld (.var 1) ⟨⟨[112, 108, 97, 99, 101, 115]⟩⟩)) [(.for (.tup [(.nm 4), (.nm 5)]) (.ex (.idx (.fld (.var 1) ⟨⟨[112, 108, 97, 99, 101, 115]⟩⟩) (.var 3))) [(.set 6 (.bmt (.var 2) .setdefault [(.tup [(.idx (.var 3) (.cst (li 0))), (.var 4)]), (.lc (.lst []) (.nm 7) (.ex (.var 5)) none [7])])), (.for (.tup [(.nm 8), (.nm 7)]) (.enu (.var 5)) [(.expr (.bmt (.idx (.var 6) (.var 8)) .append [(.call 29 [(.var 7)] none)]))])])]), (.ret (.dc (.var 10) (.bif .tuple [(.lc (.bif .tuple [(.bif .sortedSet [(.var 9)])]) (.nm 9) (.ex (.idx (.var 2) (.var 10))) none [9])]) (.nm 10) (.ex (.var 2)) [10]))]⟩
def g31 : Fn (SI lo hi) := ⟨1, 7, [(.expr (.call 10 [(.var 0)] none)), (.par [1, 2, 3] [(.call 11 [(.var 0)] none), (.lst []), (.neg (.cst (li 1)))]), (.whl (.cmp .ne (.bif .len [(.var 2)]) (.var 3)) [(.set 3 (.bif .len [(.var 2)])), (.for (.tup [(.nm 4), (.nm 5)]) (.enu (.var 0)) [(.ifs (.and (.cmp .notin (.var 4) (.var 2)) (.call 32 [(.var 5), (.lc (.idx (.idx (.var 0) (.var 6)) (.cst (li 0))) (.nm 6) (.ex (.var 2)) none [6])] none)) [(.expr (.bmt (.var 2) .append [(.var 4)]))] [])])]), (.ret (.bif .tuple [(.bif .sorted [(.var 2)])]))]⟩
def g32 : Fn (SI lo hi) := ⟨2, 7, [(.par [2, 3, 4] [(.idx (.var 0) (.cst (li 3))), (.lst [(.cst (li 0))]), (.lst [(.cst (li 0))])]), (.whl (.cmp .ne (.var 4) (.lst [])) [(.set 5 (.bmt (.var 4) .pop [])), (.ifs (.or (.cmp .eq (.var 5) (.bif .len [(.var 2)])) (.cmp .eq (.idx (.idx (.var 2) (.var 5)) (.cst (li 0))) (.cst (.str ⟨⟨[114, 101, 116, 117, 114, 110]⟩⟩)))) [(.ret (.cst (.bl true)))] []), (.for (.nm 6) (.ex (.call 33 [(.var 2), (.var 5), (.var 1)] none)) [(.ifs (.cmp .notin (.var 6) (.var 3)) [(.expr (.bmt (.var 3) .append [(.var 6)])), (.expr (.bmt (.var 4) .append [(.var 6)]))] [])])]), (.ret (.cst (.bl false)))]⟩
def g33 : Fn (SI lo hi) := ⟨3, 4, [(.set 3 (.idx (.var 0) (.var 1))), (.ifs (.or (.cmp .eq (.idx (.var 3) (.cst (li 0))) (.cst (.str ⟨⟨[114, 101, 116, 117, 114, 110]⟩⟩))) (.and (.cmp .eq (.idx (.var 3) (.cst (li 0))) (.cst (.str ⟨⟨[99, 97, 108, 108]⟩⟩))) (.cmp .notin (.idx (.var 3) (.cst (li 2))) (.var 2)))) [(.ret (.lst []))] []), (.ret (.ite (.cmp .eq (.idx (.var 3) (.cst (li 0))) (.cst (.str ⟨⟨[116, 117, 114, 110]⟩⟩))) (.lst [(.bin .add (.var 1) (.cst (li 1))), (.idx (.var 3) (.cst (li 1)))]) (.lst [(.bin .add (.var 1) (.cst (li 1)))])))]⟩
def g34 : Fn (SI lo hi) := ⟨3, 3, [(.setF (.var 0) ⟨⟨[110, 117, 109, 98, 101, 114]⟩⟩ (.var 1)), (.setF (.var 0) ⟨⟨[119, 111, 114, 100, 115]⟩⟩ (.var 2)), (.setF (.var 0) ⟨⟨[112, 108, 97, 99, 101]⟩⟩ (.cst (li 0))), (.setF (.var 0) ⟨⟨[105, 115, 95, 116, 104, 101, 114, 101]⟩⟩ (.cst (.bl true)))]⟩
def g35 : Fn (SI lo hi) := ⟨3, 3, [(.setF (.var 0) ⟨⟨[102, 114, 97, 109, 101]⟩⟩ (.var 1)), (.setF (.var 0) ⟨⟨[115, 108, 111, 116]⟩⟩ (.var 2))]⟩
def g36 : Fn (SI lo hi) := ⟨1, 1, [(.ret (.isi (.var 0) [(.cls 2 4)]))]⟩
def g37 : Fn (SI lo hi) := ⟨3, 3, [(.setF (.var 0) ⟨⟨[112, 114, 111, 103, 114, 97, 109]⟩⟩ (.var 1)), (.setF (.var 0) ⟨⟨[110, 117, 109, 98, 101, 114, 115]⟩⟩ (.call 11 [(.var 1)] none)), (.setF (.var 0) ⟨⟨[105, 110, 112, 117, 116, 115]⟩⟩ (.bif .list [(.var 2)])), (.setF (.var 0) ⟨⟨[116, 97, 107, 101, 110]⟩⟩ (.cst (li 0))), (.setF (.var 0) ⟨⟨[102, 114, 97, 109, 101, 115]⟩⟩ (.lst [(.new 1 [(.cst (li 0)), (.bin .mul (.lst [(.cst (li 0))]) (.idx (.idx (.var 1) (.cst (li 0))) (.cst (li 2))))] none)])), (.setF (.var 0) ⟨⟨[115, 104, 111, 119, 110]⟩⟩ (.lst [])), (.setF (.var 0) ⟨⟨[99, 97, 114, 114, 105, 101, 100]⟩⟩ (.cst (li 0))), (.setF (.var 0) ⟨⟨[101, 110, 100]⟩⟩ (.cst .non))]⟩
def g38 : Fn (SI lo hi) := ⟨1, 1, [(.ifs (.cmp .eq (.fld (.var 0) ⟨⟨[116, 97, 107, 101, 110]⟩⟩) (.bif .len [(.fld (.var 0) ⟨⟨[105, 110, 112, 117, 116, 115]⟩⟩)])) [(.setF (.var 0) ⟨⟨[101, 110, 100]⟩⟩ (.cst (.str ⟨⟨[119, 97, 105, 116, 115]⟩⟩))), (.ret (.cst .non))] []), (.augF (.var 0) ⟨⟨[116, 97, 107, 101, 110]⟩⟩ .add (.cst (li 1))), (.ret (.idx (.fld (.var 0) ⟨⟨[105, 110, 112, 117, 116, 115]⟩⟩) (.bin .sub (.fld (.var 0) ⟨⟨[116, 97, 107, 101, 110]⟩⟩) (.cst (li 1)))))]⟩
def g39 : Fn (SI lo hi) := ⟨2, 4, [(.set 2 (.bmt (.fld (.var 0) ⟨⟨[102, 114, 97, 109, 101, 115]⟩⟩) .pop [])), (.setF (.var 2) ⟨⟨[105, 115, 95, 116, 104, 101, 114, 101]⟩⟩ (.cst (.bl false))), (.ifs (.cmp .eq (.fld (.var 0) ⟨⟨[102, 114, 97, 109, 101, 115]⟩⟩) (.lst [])) [(.setF (.var 0) ⟨⟨[101, 110, 100]⟩⟩ (.cst (.str ⟨⟨[100, 111, 110, 101]⟩⟩))), .retN] []), (.set 3 (.idx (.fld (.var 0) ⟨⟨[102, 114, 97, 109, 101, 115]⟩⟩) (.neg (.cst (li 1))))), (.setI (.fld (.var 3) ⟨⟨[119, 111, 114, 100, 115]⟩⟩) (.idx (.idx (.idx (.idx (.fld (.var 0) ⟨⟨[112, 114, 111, 103, 114, 97, 109]⟩⟩) (.fld (.var 3) ⟨⟨[110, 117, 109, 98, 101, 114]⟩⟩)) (.cst (li 3))) (.fld (.var 3) ⟨⟨[112, 108, 97, 99, 101]⟩⟩)) (.cst (li 1))) (.var 1)), (.augF (.var 3) ⟨⟨[112, 108, 97, 99, 101]⟩⟩ .add (.cst (li 1)))]⟩
def g40 : Fn (SI lo hi) := ⟨3, 6, [(.ifs (.cmp .eq (.bif .len [(.fld (.var 0) ⟨⟨[102, 114, 97, 109, 101, 115]⟩⟩)]) (.cst (li 1000))) [(.setF (.var 0) ⟨⟨[101, 110, 100]⟩⟩ (.cst (.str ⟨⟨[100, 101, 101, 112]⟩⟩))), .retN] []), (.set 3 (.idx (.fld (.var 0) ⟨⟨[110, 117, 109, 98, 101, 114, 115]⟩⟩) (.idx (.var 2) (.cst (li 2))))), (.set 4 (.lc (.idx (.fld (.var 1) ⟨⟨[119, 111, 114, 100, 115]⟩⟩) (.var 5)) (.nm 5) (.ex (.idx (.var 2) (.cst (li 3)))) none [5])), (.expr (.bmt (.fld (.var 0) ⟨⟨[102, 114, 97, 109, 101, 115]⟩⟩) .append [(.new 1 [(.var 3), (.bin .add (.var 4) (.bin .mul (.lst [(.cst (li 0))]) (.bin .sub (.idx (.idx (.fld (.var 0) ⟨⟨[112, 114, 111, 103, 114, 97, 109]⟩⟩) (.var 3)) (.cst (li 2))) (.bif .len [(.var 4)]))))] none)]))]⟩
def g41 : Fn (SI lo hi) := ⟨3, 4, [(.ifs (.cmp .in (.idx (.var 2) (.cst (li 0))) (.tup [(.cst (.str ⟨⟨[97, 100, 100]⟩⟩)), (.cst (.str ⟨⟨[115, 104, 111, 119]⟩⟩))])) [(.ret (.call 36 [(.idx (.fld (.var 1) ⟨⟨[119, 111, 114, 100, 115]⟩⟩) (.idx (.var 2) (.cst (li 1))))] none))] []), (.ifs (.and (.cmp .eq (.idx (.var 2) (.cst (li 0))) (.cst (.str ⟨⟨[115, 116, 111, 114, 101]⟩⟩))) (.call 36 [(.idx (.fld (.var 1) ⟨⟨[119, 111, 114, 100, 115]⟩⟩) (.idx (.var 2) (.cst (li 2))))] none)) [(.ret (.cst (.bl true)))] []), (.ifs (.cmp .notin (.idx (.var 2) (.cst (li 0))) (.tup [(.cst (.str ⟨⟨[108, 111, 97, 100]⟩⟩)), (.cst (.str ⟨⟨[115, 116, 111, 114, 101]⟩⟩))])) [(.ret (.cst (.bl false)))] []), (.set 3 (.idx (.fld (.var 1) ⟨⟨[119, 111, 114, 100, 115]⟩⟩) (.idx (.var 2) (.ite (.cmp .eq (.idx (.var 2) (.cst (li 0))) (.cst (.str ⟨⟨[108, 111, 97, 100]⟩⟩))) (.cst (li 2)) (.cst (li 1)))))), (.ret (.or (.not (.call 36 [(.var 3)] none)) (.not (.fld (.fld (.var 3) ⟨⟨[102, 114, 97, 109, 101]⟩⟩) ⟨⟨[105, 115, 95, 116, 104, 101, 114, 101]⟩⟩))))]⟩
def g42 : Fn (SI lo hi) := ⟨3, 6, [(.par [3, 4] [(.idx (.var 2) (.cst (li 0))), (.fld (.var 1) ⟨⟨[119, 111, 114, 100, 115]⟩⟩)]), (.ifs (.cmp .eq (.var 3) (.cst (.str ⟨⟨[110, 117, 109, 98, 101, 114]⟩⟩))) [(.setI (.var 4) (.idx (.var 2) (.cst (li 1))) (.idx (.var 2) (.cst (li 2))))] [(.ifs (.cmp .eq (.var 3) (.cst (.str ⟨⟨[99, 111, 112, 121]⟩⟩))) [(.setI (.var 4) (.idx (.var 2) (.cst (li 1))) (.idx (.var 4) (.idx (.var 2) (.cst (li 2)))))] [(.ifs (.cmp .eq (.var 3) (.cst (.str ⟨⟨[97, 100, 100]⟩⟩))) [(.setI (.var 4) (.idx (.var 2) (.cst (li 1))) (.bin .mod (.bin .add (.idx (.var 4) (.idx (.var 2) (.cst (li 1)))) (.idx (.var 2) (.cst (li 2)))) (.cst (li 65536))))] [(.ifs (.cmp .eq (.var 3) (.cst (.str ⟨⟨[112, 111, 105, 110, 116]⟩⟩))) [(.setI (.var 4) (.idx (.var 2) (.cst (li 1))) (.new 2 [(.var 1), (.idx (.var 2) (.cst (li 2)))] none))] [(.ifs (.cmp .eq (.var 3) (.cst (.str ⟨⟨[108, 111, 97, 100]⟩⟩))) [(.set 5 (.idx (.var 4) (.idx (.var 2) (.cst (li 2))))), (.setI (.var 4) (.idx (.var 2) (.cst (li 1))) (.idx (.fld (.fld (.var 5) ⟨⟨[102, 114, 97, 109, 101]⟩⟩) ⟨⟨[119, 111, 114, 100, 115]⟩⟩) (.fld (.var 5) ⟨⟨[115, 108, 111, 116]⟩⟩)))] [(.ifs (.cmp .eq (.var 3) (.cst (.str ⟨⟨[115, 116, 111, 114, 101]⟩⟩))) [(.set 5 (.idx (.var 4) (.idx (.var 2) (.cst (li 1))))), (.setI (.fld (.fld (.var 5) ⟨⟨[102, 114, 97, 109, 101]⟩⟩) ⟨⟨[119, 111, 114, 100, 115]⟩⟩) (.fld (.var 5) ⟨⟨[115, 108, 111, 116]⟩⟩) (.idx (.var 4) (.idx (.var 2) (.cst (li 2))))), (.expr (.bmt (.fld (.var 0) ⟨⟨[115, 104, 111, 119, 110]⟩⟩) .append [(.idx (.var 4) (.idx (.var 2) (.cst (li 2))))]))] [(.ifs (.cmp .eq (.var 3) (.cst (.str ⟨⟨[115, 104, 111, 119]⟩⟩))) [(.expr (.bmt (.fld (.var 0) ⟨⟨[115, 104, 111, 119, 110]⟩⟩) .append [(.idx (.var 4) (.idx (.var 2) (.cst (li 1))))]))] [])])])])])])]), (.augF (.var 1) ⟨⟨[112, 108, 97, 99, 101]⟩⟩ .add (.cst (li 1)))]⟩
def g43 : Fn (SI lo hi) := ⟨1, 4, [(.set 1 (.idx (.fld (.var 0) ⟨⟨[102, 114, 97, 109, 101, 115]⟩⟩) (.neg (.cst (li 1))))), (.set 2 (.idx (.idx (.fld (.var 0) ⟨⟨[112, 114, 111, 103, 114, 97, 109]⟩⟩) (.fld (.var 1) ⟨⟨[110, 117, 109, 98, 101, 114]⟩⟩)) (.cst (li 3)))), (.ifs (.cmp .eq (.fld (.var 1) ⟨⟨[112, 108, 97, 99, 101]⟩⟩) (.bif .len [(.var 2)])) [(.expr (.mth (.var 0) ⟨⟨[103, 105, 118, 101, 95, 98, 97, 99, 107]⟩⟩ [(.cst (li 0))] none)), .retN] []), (.set 3 (.idx (.var 2) (.fld (.var 1) ⟨⟨[112, 108, 97, 99, 101]⟩⟩))), (.ifs (.mth (.var 0) ⟨⟨[105, 115, 95, 119, 114, 111, 110, 103]⟩⟩ [(.var 1), (.var 3)] none) [(.setF (.var 0) ⟨⟨[101, 110, 100]⟩⟩ (.tup [(.cst (.str ⟨⟨[119, 114, 111, 110, 103]⟩⟩)), (.fld (.var 1) ⟨⟨[110, 117, 109, 98, 101, 114]⟩⟩), (.fld (.var 1) ⟨⟨[112, 108, 97, 99, 101]⟩⟩)]))] [(.ifs (.cmp .eq (.fld (.var 0) ⟨⟨[99, 97, 114, 114, 105, 101, 100]⟩⟩) (.cst (li 20000))) [(.setF (.var 0) ⟨⟨[101, 110, 100]⟩⟩ (.cst (.str ⟨⟨[108, 111, 110, 103]⟩⟩)))] [(.ifs (.cmp .in (.idx (.var 3) (.cst (li 0))) (.tup [(.cst (.str ⟨⟨[105, 110, 112, 117, 116]⟩⟩)), (.cst (.str ⟨⟨[116, 117, 114, 110]⟩⟩))])) [(.expr (.mth (.var 0) ⟨⟨[116, 97, 107, 101, 95, 105, 110, 112, 117, 116]⟩⟩ [(.var 1), (.var 3)] none))] [(.augF (.var 0) ⟨⟨[99, 97, 114, 114, 105, 101, 100]⟩⟩ .add (.cst (li 1))), (.ifs (.cmp .eq (.idx (.var 3) (.cst (li 0))) (.cst (.str ⟨⟨[99, 97, 108, 108]⟩⟩))) [(.expr (.mth (.var 0) ⟨⟨[99, 97, 108, 108]⟩⟩ [(.var 1), (.var 3)] none))] [(.ifs (.cmp .eq (.idx (.var 3) (.cst (li 0))) (.cst (.str ⟨⟨[114, 101, 116, 117, 114, 110]⟩⟩))) [(.expr (.mth (.var 0) ⟨⟨[103, 105, 118, 101, 95, 98, 97, 99, 107]⟩⟩ [(.idx (.fld (.var 1) ⟨⟨[119, 111, 114, 100, 115]⟩⟩) (.idx (.var 3) (.cst (li 1))))] none))] [(.expr (.mth (.var 0) ⟨⟨[115, 105, 109, 112, 108, 101]⟩⟩ [(.var 1), (.var 3)] none))])])])])])]⟩
def g44 : Fn (SI lo hi) := ⟨3, 4, [(.set 3 (.mth (.var 0) ⟨⟨[110, 101, 120, 116, 95, 105, 110, 112, 117, 116]⟩⟩ [] none)), (.ifs (.cmp .is (.var 3) (.cst .non)) [.retN] []), (.augF (.var 0) ⟨⟨[99, 97, 114, 114, 105, 101, 100]⟩⟩ .add (.cst (li 1))), (.ifs (.cmp .eq (.idx (.var 2) (.cst (li 0))) (.cst (.str ⟨⟨[105, 110, 112, 117, 116]⟩⟩))) [(.setI (.fld (.var 1) ⟨⟨[119, 111, 114, 100, 115]⟩⟩) (.idx (.var 2) (.cst (li 1))) (.var 3)), (.augF (.var 1) ⟨⟨[112, 108, 97, 99, 101]⟩⟩ .add (.cst (li 1)))] [(.setF (.var 1) ⟨⟨[112, 108, 97, 99, 101]⟩⟩ (.ite (.cmp .ne (.var 3) (.cst (li 0))) (.idx (.var 2) (.cst (li 1))) (.bin .add (.fld (.var 1) ⟨⟨[112, 108, 97, 99, 101]⟩⟩) (.cst (li 1)))))])]⟩
def g45 : Fn (SI lo hi) := ⟨1, 1, [(.whl (.cmp .is (.fld (.var 0) ⟨⟨[101, 110, 100]⟩⟩) (.cst .non)) [(.expr (.mth (.var 0) ⟨⟨[115, 116, 101, 112]⟩⟩ [] none))])]⟩
def g46 : Fn (SI lo hi) := ⟨2, 3, [(.set 2 (.new 3 [(.var 0), (.var 1)] none)), (.expr (.mth (.var 2) ⟨⟨[114, 117, 110, 95, 111, 110]⟩⟩ [] none)), (.ret (.var 2))]⟩
def g47 : Fn (SI lo hi) := ⟨2, 3, [(.expr (.call 10 [(.var 0)] none)), (.expr (.call 3 [(.var 1)] none)), (.set 2 (.call 46 [(.var 0), (.var 1)] none)), (.ret (.tup [(.fld (.var 2) ⟨⟨[101, 110, 100]⟩⟩), (.fld (.var 2) ⟨⟨[115, 104, 111, 119, 110]⟩⟩)]))]⟩
def g48 : Fn (SI lo hi) := ⟨1, 4, [(.set 1 (.bif .list [(.slc (.var 0) none (some (.cst (li 12))) none)])), (.for (.tup [(.nm 2), (.nm 3)]) (.enu (.slc (.var 0) (some (.cst (li 12))) (some (.cst (li 63))) none)) [(.setI (.var 1) (.bin .mod (.bif .int [(.var 2)]) (.cst (li 12))) (.bin .add (.idx (.var 1) (.bin .mod (.bif .int [(.var 2)]) (.cst (li 12)))) (.var 3)))]), (.ret (.lst [(.var 1), (.cst (li 0)), (.cst (li 0))]))]⟩
def g49 : Fn (SI lo hi) := ⟨2, 6, [(.ifs (.cmp .ge (.var 0) (.bin .pow (.cst (li 10)) (.cst (li 18)))) [(.ret (.var 0))] []), (.set 2 (.lst [(.cst (li 2147483629)), (.cst (li 2147483587)), (.cst (li 2147483579)), (.cst (li 2147483563)), (.cst (li 2147483549)), (.cst (li 2147483543)), (.cst (li 2147483497)), (.cst (li 2147483489))])), (.set 2 (.bin .add (.var 2) (.lst [(.cst (li 2147483477)), (.cst (li 2147483423)), (.cst (li 2147483399)), (.cst (li 2147483353)), (.cst (li 2147483323))]))), (.set 3 (.bin .add (.bin .add (.bin .mul (.bin .mod (.bif .int [(.var 0)]) (.cst (li 1000000007))) (.bin .add (.bin .mul (.cst (li 2)) (.var 1)) (.cst (li 69069)))) (.bin .mul (.var 1) (.cst (li 40503)))) (.cst (li 977)))), (.set 3 (.bin .mod (.bif .int [(.bin .pow (.var 3) (.cst (li 3)))]) (.idx (.var 2) (.bin .mod (.bif .int [(.var 1)]) (.cst (li 13)))))), (.set 4 (.bin .mod (.bif .int [(.bin .pow (.bin .add (.bin .add (.bin .mul (.var 3) (.bin .add (.var 1) (.cst (li 3)))) (.bin .mod (.bif .int [(.var 0)]) (.cst (li 65537)))) (.cst (li 5))) (.cst (li 5)))]) (.idx (.var 2) (.bin .mod (.bif .int [(.bin .add (.var 1) (.cst (li 5)))]) (.cst (li 13)))))), (.set 5 (.bin .mod (.bif .int [(.bin .pow (.bin .add (.bin .add (.var 4) (.bin .mod (.bif .int [(.var 3)]) (.cst (li 1009)))) (.var 1)) (.cst (li 3)))]) (.idx (.var 2) (.bin .mod (.bif .int [(.bin .add (.var 1) (.cst (li 7)))]) (.cst (li 13)))))), (.ret (.bin .add (.bin .mul (.bin .add (.bin .mul (.var 3) (.cst (li 2147483647))) (.var 4)) (.cst (li 2147483647))) (.var 5)))]⟩
def g50 : Fn (SI lo hi) := ⟨2, 5, [(.ifs (.cmp .lt (.idx (.var 0) (.cst (li 2))) (.var 1)) [(.set 2 (.idx (.var 0) (.cst (li 1)))), (.set 3 (.cst (li 0))), (.ifs (.cmp .lt (.var 2) (.bif .len [(.idx (.var 0) (.cst (li 0)))])) [(.set 3 (.idx (.idx (.var 0) (.cst (li 0))) (.var 2)))] [(.ifs (.cmp .gt (.bif .len [(.idx (.var 0) (.cst (li 0)))]) (.cst (li 0))) [(.set 3 (.bin .mod (.bif .int [(.idx (.idx (.var 0) (.cst (li 0))) (.bin .mod (.bif .int [(.bin .add (.bin .mul (.var 2) (.cst (li 5))) (.cst (li 3)))]) (.bif .len [(.idx (.var 0) (.cst (li 0)))])))]) (.bin .add (.bin .pow (.cst (li 10)) (.cst (li 17))) (.var 2))))] [])]), (.setI (.var 0) (.cst (li 1)) (.bin .add (.var 2) (.cst (li 1)))), (.setI (.var 0) (.cst (li 2)) (.call 49 [(.var 3), (.var 2)] none))] []), (.set 4 (.bin .mod (.bif .int [(.idx (.var 0) (.cst (li 2)))]) (.var 1))), (.setI (.var 0) (.cst (li 2)) (.bin .fdv (.idx (.var 0) (.cst (li 2))) (.var 1))), (.ret (.var 4))]⟩
def g51 : Fn (SI lo hi) := ⟨2, 2, [(.ret (.idx (.var 1) (.call 50 [(.var 0), (.bif .len [(.var 1)])] none)))]⟩
def g52 : Fn (SI lo hi) := ⟨1, 1, [(.ret (.call 51 [(.var 0), (.lst [(.cst (li 0)), (.cst (li 0)), (.cst (li 1)), (.cst (li 1)), (.cst (li 2)), (.cst (li 7)), (.cst (li 300)), (.cst (li 65535)), (.call 50 [(.var 0), (.cst (li 65536))] none)])] none))]⟩
def g53 : Fn (SI lo hi) := ⟨1, 5, [(.set 1 (.lst [(.tup [(.cst (.str ⟨⟨[112, 111, 105, 110, 116]⟩⟩)), (.cst (li 0)), (.cst (li 2))]), (.tup [(.cst (.str ⟨⟨[110, 117, 109, 98, 101, 114]⟩⟩)), (.cst (li 2)), (.var 0)]), (.tup [(.cst (.str ⟨⟨[99, 97, 108, 108]⟩⟩)), (.cst (li 0)), (.cst (.str ⟨⟨[102]⟩⟩)), (.tup [(.cst (li 0))])]), (.tup [(.cst (.str ⟨⟨[108, 111, 97, 100]⟩⟩)), (.cst (li 1)), (.cst (li 0))]), (.tup [(.cst (.str ⟨⟨[115, 104, 111, 119]⟩⟩)), (.cst (li 1))])])), (.expr (.bmt (.var 1) .append [(.tup [(.cst (.str ⟨⟨[99, 97, 108, 108]⟩⟩)), (.cst (li 1)), (.cst (.str ⟨⟨[102]⟩⟩)), (.tup [(.cst (li 1))])])])), (.set 2 (.tup [(.cst (.str ⟨⟨[102]⟩⟩)), (.cst (li 1)), (.cst (li 1)), (.tup [(.tup [(.cst (.str ⟨⟨[115, 116, 111, 112]⟩⟩))]), (.tup [(.cst (.str ⟨⟨[114, 101, 116, 117, 114, 110]⟩⟩)), (.cst (li 0))])])])), (.set 3 (.tup [(.tup [(.cst (.str ⟨⟨[109, 97, 105, 110]⟩⟩)), (.cst (li 0)), (.cst (li 3)), (.bif .tuple [(.bin .add (.var 1) (.lst [(.tup [(.cst (.str ⟨⟨[115, 104, 111, 119]⟩⟩)), (.cst (li 1))])]))])]), (.var 2)])), (.ifs (.or (.cmp .ne (.call 28 [(.var 3)] none) (.tup [(.cst (.str ⟨⟨[115, 111, 117, 110, 100]⟩⟩))])) (.cmp .ne (.call 47 [(.var 3), (.lst [])] none) (.tup [(.cst (.str ⟨⟨[100, 111, 110, 101]⟩⟩)), (.lst [(.var 0), (.var 0)])]))) [(.ret (.cst (.bl false)))] []), (.set 4 (.call 30 [(.var 3)] none)), (.ret (.and (.cmp .eq (.idx (.var 4) (.tup [(.cst (li 1)), (.cst (li 0))])) (.tup [(.tup [(.cst (.str ⟨⟨[98, 101, 108, 111, 119]⟩⟩)), (.cst (.str ⟨⟨[110, 117, 109, 98, 101, 114]⟩⟩))])])) (.cmp .eq (.idx (.var 4) (.tup [(.cst (li 0)), (.cst (li 3))])) (.tup [(.tup [(.cst (.str ⟨⟨[111, 119, 110]⟩⟩))]), (.tup [(.cst (.str ⟨⟨[110, 117, 109, 98, 101, 114]⟩⟩))]), (.tup [(.cst (.str ⟨⟨[110, 117, 109, 98, 101, 114]⟩⟩))])]))))]⟩
def g54 : Fn (SI lo hi) := ⟨1, 5, [(.set 1 (.tup [(.tup [(.cst (.str ⟨⟨[112, 111, 105, 110, 116]⟩⟩)), (.cst (li 0)), (.cst (li 1))]), (.tup [(.cst (.str ⟨⟨[110, 117, 109, 98, 101, 114]⟩⟩)), (.cst (li 1)), (.var 0)]), (.tup [(.cst (.str ⟨⟨[114, 101, 116, 117, 114, 110]⟩⟩)), (.cst (li 0))])])), (.set 2 (.tup [(.tup [(.cst (.str ⟨⟨[109, 97, 105, 110]⟩⟩)), (.cst (li 0)), (.cst (li 2)), (.tup [(.tup [(.cst (.str ⟨⟨[99, 97, 108, 108]⟩⟩)), (.cst (li 0)), (.cst (.str ⟨⟨[102]⟩⟩)), (.tup [])]), (.tup [(.cst (.str ⟨⟨[108, 111, 97, 100]⟩⟩)), (.cst (li 1)), (.cst (li 0))]), (.tup [(.cst (.str ⟨⟨[115, 104, 111, 119]⟩⟩)), (.cst (li 1))])])]), (.tup [(.cst (.str ⟨⟨[102]⟩⟩)), (.cst (li 0)), (.cst (li 2)), (.var 1)])])), (.set 3 (.call 28 [(.var 2)] none)), (.ifs (.or (.cmp .ne (.idx (.var 3) (.cst (li 0))) (.cst (.str ⟨⟨[119, 114, 111, 110, 103]⟩⟩))) (.cmp .ne (.call 47 [(.var 2), (.idx (.var 3) (.cst (li 1)))] none) (.tup [(.tup [(.cst (.str ⟨⟨[119, 114, 111, 110, 103]⟩⟩)), (.cst (li 0)), (.cst (li 1))]), (.lst [])]))) [(.ret (.cst (.bl false)))] []), (.set 4 (.tup [(.tup [(.cst (.str ⟨⟨[109, 97, 105, 110]⟩⟩)), (.cst (li 0)), (.cst (li 2)), (.tup [(.tup [(.cst (.str ⟨⟨[99, 97, 108, 108]⟩⟩)), (.cst (li 0)), (.cst (.str ⟨⟨[102]⟩⟩)), (.tup [])]), (.tup [(.cst (.str ⟨⟨[99, 111, 112, 121]⟩⟩)), (.cst (li 1)), (.cst (li 0))]), (.tup [(.cst (.str ⟨⟨[115, 116, 111, 112]⟩⟩))])])]), (.tup [(.cst (.str ⟨⟨[102]⟩⟩)), (.cst (li 0)), (.cst (li 2)), (.var 1)])])), (.ifs (.or (.cmp .ne (.call 28 [(.var 4)] none) (.tup [(.cst (.str ⟨⟨[115, 111, 117, 110, 100]⟩⟩))])) (.cmp .ne (.idx (.call 30 [(.var 4)] none) (.tup [(.cst (li 0)), (.cst (li 2))])) (.tup [(.tup [(.cst (.str ⟨⟨[103, 111, 110, 101]⟩⟩))]), (.tup [(.cst (.str ⟨⟨[103, 111, 110, 101]⟩⟩))])]))) [(.ret (.cst (.bl false)))] []), (.ret (.and (.cmp .notin (.tup [(.cst (li 0)), (.cst (li 2))]) (.call 30 [(.var 2)] none)) (.cmp .eq (.call 31 [(.var 2)] none) (.tup [(.cst (li 0)), (.cst (li 1))]))))]⟩
def g55 : Fn (SI lo hi) := ⟨1, 3, [(.set 1 (.lst [(.tup [(.cst (.str ⟨⟨[116, 117, 114, 110]⟩⟩)), (.cst (li 4))]), (.tup [(.cst (.str ⟨⟨[112, 111, 105, 110, 116]⟩⟩)), (.cst (li 0)), (.cst (li 3))]), (.tup [(.cst (.str ⟨⟨[112, 111, 105, 110, 116]⟩⟩)), (.cst (li 1)), (.cst (li 3))]), (.tup [(.cst (.str ⟨⟨[116, 117, 114, 110]⟩⟩)), (.cst (li 4))])])), (.set 2 (.tup [(.tup [(.cst (.str ⟨⟨[109, 97, 105, 110]⟩⟩)), (.cst (li 0)), (.cst (li 4)), (.bif .tuple [(.bin .add (.var 1) (.lst [(.tup [(.cst (.str ⟨⟨[97, 100, 100]⟩⟩)), (.cst (li 0)), (.var 0)]), (.tup [(.cst (.str ⟨⟨[115, 104, 111, 119]⟩⟩)), (.cst (li 1))])]))])])])), (.ifs (.cmp .ne (.idx (.call 30 [(.var 2)] none) (.tup [(.cst (li 0)), (.cst (li 4))])) (.tup [(.tup [(.cst (.str ⟨⟨[110, 117, 109, 98, 101, 114]⟩⟩)), (.cst (.str ⟨⟨[111, 119, 110]⟩⟩))]), (.tup [(.cst (.str ⟨⟨[110, 117, 109, 98, 101, 114]⟩⟩)), (.cst (.str ⟨⟨[111, 119, 110]⟩⟩))]), (.tup [(.cst (.str ⟨⟨[110, 117, 109, 98, 101, 114]⟩⟩))]), (.tup [(.cst (.str ⟨⟨[110, 117, 109, 98, 101, 114]⟩⟩))])])) [(.ret (.cst (.bl false)))] []), (.ifs (.cmp .ne (.idx (.call 30 [(.var 2)] none) (.tup [(.cst (li 0)), (.cst (li 5))])) (.tup [(.tup [(.cst (.str ⟨⟨[110, 117, 109, 98, 101, 114]⟩⟩))]), (.tup [(.cst (.str ⟨⟨[110, 117, 109, 98, 101, 114]⟩⟩))]), (.tup [(.cst (.str ⟨⟨[110, 117, 109, 98, 101, 114]⟩⟩))]), (.tup [(.cst (.str ⟨⟨[110, 117, 109, 98, 101, 114]⟩⟩))])])) [(.ret (.cst (.bl false)))] []), (.ret (.and (.cmp .eq (.idx (.call 28 [(.var 2)] none) (.cst (li 0))) (.cst (.str ⟨⟨[119, 114, 111, 110, 103]⟩⟩))) (.cmp .eq (.call 28 [(.tup [(.tup [(.cst (.str ⟨⟨[109, 97, 105, 110]⟩⟩)), (.cst (li 0)), (.cst (li 4)), (.bif .tuple [(.var 1)])])])] none) (.tup [(.cst (.str ⟨⟨[115, 111, 117, 110, 100]⟩⟩))]))))]⟩
def g56 : Fn (SI lo hi) := ⟨1, 3, [(.set 1 (.tup [(.tup [(.cst (.str ⟨⟨[99, 97, 108, 108]⟩⟩)), (.cst (li 0)), (.cst (.str ⟨⟨[102]⟩⟩)), (.tup [])])])), (.set 2 (.tup [(.tup [(.cst (.str ⟨⟨[109, 97, 105, 110]⟩⟩)), (.cst (li 0)), (.cst (li 2)), (.tup [(.tup [(.cst (.str ⟨⟨[99, 97, 108, 108]⟩⟩)), (.cst (li 0)), (.cst (.str ⟨⟨[102]⟩⟩)), (.tup [])]), (.tup [(.cst (.str ⟨⟨[108, 111, 97, 100]⟩⟩)), (.cst (li 1)), (.cst (li 0))])])]), (.tup [(.cst (.str ⟨⟨[102]⟩⟩)), (.cst (li 0)), (.cst (li 1)), (.var 1)])])), (.ifs (.or (.cmp .ne (.call 28 [(.var 2)] none) (.tup [(.cst (.str ⟨⟨[115, 111, 117, 110, 100]⟩⟩))])) (.or (.cmp .ne (.call 47 [(.var 2), (.lst [])] none) (.tup [(.cst (.str ⟨⟨[100, 101, 101, 112]⟩⟩)), (.lst [])])) (.cmp .ne (.call 31 [(.var 2)] none) (.tup [])))) [(.ret (.cst (.bl false)))] []), (.ret (.and (.cmp .eq (.bif .sorted [(.call 30 [(.var 2)] none)]) (.lst [(.tup [(.cst (li 0)), (.cst (li 0))]), (.tup [(.cst (li 1)), (.cst (li 0))])])) (.cmp .eq (.call 47 [(.tup [(.tup [(.cst (.str ⟨⟨[109, 97, 105, 110]⟩⟩)), (.cst (li 0)), (.cst (li 1)), (.tup [(.tup [(.cst (.str ⟨⟨[115, 104, 111, 119]⟩⟩)), (.cst (li 0))])])])]), (.lst [(.var 0)])] none) (.tup [(.cst (.str ⟨⟨[100, 111, 110, 101]⟩⟩)), (.lst [(.cst (li 0))])]))))]⟩
def g57 : Fn (SI lo hi) := ⟨2, 5, [(.set 2 (.bin .add (.bin .mul (.lst [(.tup [(.cst (.str ⟨⟨[105, 110, 112, 117, 116]⟩⟩)), (.cst (li 1))])]) (.var 1)) (.lst [(.tup [(.cst (.str ⟨⟨[116, 117, 114, 110]⟩⟩)), (.cst (li 0))]), (.tup [(.cst (.str ⟨⟨[108, 111, 97, 100]⟩⟩)), (.cst (li 1)), (.cst (li 1))])]))), (.set 3 (.tup [(.tup [(.cst (.str ⟨⟨[109, 97, 105, 110]⟩⟩)), (.cst (li 0)), (.cst (li 2)), (.bif .tuple [(.var 2)])])])), (.set 4 (.call 28 [(.var 3)] none)), (.ifs (.or (.cmp .ne (.idx (.var 4) (.cst (li 0))) (.cst (.str ⟨⟨[119, 114, 111, 110, 103]⟩⟩))) (.or (.cmp .lt (.bif .len [(.idx (.var 4) (.cst (li 1)))]) (.bin .add (.var 1) (.cst (li 1)))) (.cmp .ne (.idx (.call 47 [(.var 3), (.idx (.var 4) (.cst (li 1)))] none) (.cst (li 0))) (.tup [(.cst (.str ⟨⟨[119, 114, 111, 110, 103]⟩⟩)), (.cst (li 0)), (.bin .add (.var 1) (.cst (li 1)))])))) [(.ret (.cst (.bl false)))] []), (.ret (.cmp .eq (.call 47 [(.var 3), (.bin .mul (.lst [(.var 0)]) (.var 1))] none) (.tup [(.cst (.str ⟨⟨[119, 97, 105, 116, 115]⟩⟩)), (.lst [])])))]⟩
def g58 : Fn (SI lo hi) := ⟨1, 5, [(.set 1 (.lc (.bin .mul (.tup [(.tup [(.cst (.str ⟨⟨[99, 97, 108, 108]⟩⟩)), (.cst (li 0)), (.var 2), (.tup [])])]) (.cst (li 9))) (.nm 2) (.ex (.lst [(.cst (.str ⟨⟨[102]⟩⟩)), (.cst (.str ⟨⟨[103, 103]⟩⟩))])) none [2])), (.set 3 (.tup [(.tup [(.cst (.str ⟨⟨[109, 97, 105, 110]⟩⟩)), (.cst (li 0)), (.cst (li 2)), (.bin .add (.idx (.var 1) (.cst (li 0))) (.tup [(.tup [(.cst (.str ⟨⟨[108, 111, 97, 100]⟩⟩)), (.cst (li 0)), (.cst (li 1))])]))]), (.tup [(.cst (.str ⟨⟨[102]⟩⟩)), (.cst (li 0)), (.cst (li 1)), (.idx (.var 1) (.cst (li 1)))])])), (.set 3 (.bin .add (.var 3) (.tup [(.tup [(.cst (.str ⟨⟨[103, 103]⟩⟩)), (.cst (li 0)), (.cst (li 1)), (.bin .mul (.tup [(.tup [(.cst (.str ⟨⟨[110, 117, 109, 98, 101, 114]⟩⟩)), (.cst (li 0)), (.var 0)])]) (.cst (li 10)))])]))), (.set 4 (.call 28 [(.var 3)] none)), (.ret (.and (.cmp .eq (.idx (.var 4) (.cst (li 0))) (.cst (.str ⟨⟨[119, 114, 111, 110, 103]⟩⟩))) (.cmp .eq (.call 47 [(.var 3), (.idx (.var 4) (.cst (li 1)))] none) (.tup [(.tup [(.cst (.str ⟨⟨[119, 114, 111, 110, 103]⟩⟩)), (.cst (li 0)), (.cst (li 9))]), (.lst [])]))))]⟩
def g59 : Fn (SI lo hi) := ⟨1, 4, [(.set 1 (.call 48 [(.var 0)] none)), (.for (.nm 2) (.rng [(.cst (li 4))]) [(.set 3 (.call 52 [(.var 1)] none)), (.ifs (.or (.not (.call 53 [(.var 3)] none)) (.or (.not (.call 54 [(.var 3)] none)) (.or (.not (.call 55 [(.var 3)] none)) (.not (.call 56 [(.var 3)] none))))) [(.ret (.cst (.bl false)))] []), (.ifs (.not (.call 57 [(.var 3), (.bin .add (.cst (li 1)) (.call 50 [(.var 1), (.cst (li 8))] none))] none)) [(.ret (.cst (.bl false)))] [])]), (.ret (.or (.cmp .gt (.call 50 [(.var 1), (.cst (li 3))] none) (.cst (li 0))) (.call 58 [(.call 52 [(.var 1)] none)] none)))]⟩
def G0 : Pg (SI lo hi) := ⟨[g0, g1, g2, g3, g4, g5, g6, g7, g8, g9, g10, g11, g12, g13, g14, g15, g16, g17, g18, g19, g20, g21, g22, g23, g24, g25, g26, g27, g28, g29, g30, g31, g32, g33, g34, g35, g36, g37, g38, g39, g40, g41, g42, g43, g44, g45, g46, g47, g48, g49, g50, g51, g52, g53, g54, g55, g56, g57, g58, g59], T0.cls, T0.tab⟩
end
theorem pg12 {lo hi : Int} : (T0.pg 80 60 : Pg (SI lo hi)) = G0 := by kernel_rfl
def outB {lo hi : Int} (r : Rs (SI lo hi) (Val (SI lo hi))) : Bool := match r with
  | .ok (.bl true) _ => true
  | _ => false
end Pz
set_option Elab.async false
set_option linter.all false
set_option maxRecDepth 100000
set_option maxHeartbeats 0
namespace Pz
open PySem
section
variable {lo hi : Int}
def nev1 : Ex (SI lo hi) := (.cmp .ne (.call 28 [(.var 2)] none) (.tup [(.cst (.str ⟨⟨[115, 111, 117, 110, 100]⟩⟩))]))
def nev3 : Ex (SI lo hi) := (.cmp .ne (.call 31 [(.var 2)] none) (.tup []))
def nev4 : St (SI lo hi) := (.ret (.and (.cmp .eq (.bif .sorted [(.call 30 [(.var 2)] none)]) (.lst [(.tup [(.cst (li 0)), (.cst (li 0))]), (.tup [(.cst (li 1)), (.cst (li 0))])])) (.cmp .eq (.call 47 [(.tup [(.tup [(.cst (.str ⟨⟨[109, 97, 105, 110]⟩⟩)), (.cst (li 0)), (.cst (li 1)), (.tup [(.tup [(.cst (.str ⟨⟨[115, 104, 111, 119]⟩⟩)), (.cst (li 0))])])])]), (.lst [(.var 0)])] none) (.tup [(.cst (.str ⟨⟨[100, 111, 110, 101]⟩⟩)), (.lst [(.cst (li 0))])]))))
def progS : Val (SI lo hi) := .tup [.tup [.str ⟨⟨[109, 97, 105, 110]⟩⟩, li 0, li 2, .tup [.tup [.str ⟨⟨[99, 97, 108, 108]⟩⟩, li 0, .str ⟨⟨[102]⟩⟩, .tup []], .tup [.str ⟨⟨[108, 111, 97, 100]⟩⟩, li 1, li 0]]], .tup [.str ⟨⟨[102]⟩⟩, li 0, li 1, .tup [.tup [.str ⟨⟨[99, 97, 108, 108]⟩⟩, li 0, .str ⟨⟨[102]⟩⟩, .tup []]]]]
def outF (r : Rs (SI lo hi) (Val (SI lo hi))) : Bool := match r with
  | .ok (.bl false) _ => true
  | _ => false
def outR (r : Rs (SI lo hi) (Fl (SI lo hi) × Env (SI lo hi))) : Bool := match r with
  | .ok (.rt (.bl true), _) _ => true
  | _ => false
end
end Pz
set_option Elab.async false
set_option linter.all false
set_option maxRecDepth 100000
set_option maxHeartbeats 0
namespace Pz
open PySem
theorem run12_t : outB ((evN G0 12000).call 20 53 ([.int .x] : List (Val (SI 0 65535))) Sto.empty) = true := by kernel_rfl
end Pz
set_option Elab.async false
set_option linter.all false
set_option maxRecDepth 100000
set_option maxHeartbeats 0
namespace Pz
open PySem
theorem run12_g : outB ((evN G0 12000).call 20 54 ([.int .x] : List (Val (SI 0 65535))) Sto.empty) = true := by kernel_rfl
end Pz
set_option Elab.async false
set_option linter.all false
set_option maxRecDepth 100000
set_option maxHeartbeats 0
namespace Pz
open PySem
theorem run12_w : outB ((evN G0 12000).call 20 55 ([.int .x] : List (Val (SI 0 65535))) Sto.empty) = true := by kernel_rfl
end Pz
set_option Elab.async false
set_option linter.all false
set_option maxRecDepth 100000
set_option maxHeartbeats 0
namespace Pz
open PySem
theorem run12_f1 : outB ((evN G0 3000).call 20 57 ([.int .x, .int (.k 1)] : List (Val (SI 0 65535))) Sto.empty) = true := by kernel_rfl
end Pz
set_option Elab.async false
set_option linter.all false
set_option maxRecDepth 100000
set_option maxHeartbeats 0
namespace Pz
open PySem
theorem run12_f2 : outB ((evN G0 3000).call 20 57 ([.int .x, .int (.k 2)] : List (Val (SI 0 65535))) Sto.empty) = true := by kernel_rfl
end Pz
set_option Elab.async false
set_option linter.all false
set_option maxRecDepth 100000
set_option maxHeartbeats 0
namespace Pz
open PySem
theorem run12_f3 : outB ((evN G0 3000).call 20 57 ([.int .x, .int (.k 3)] : List (Val (SI 0 65535))) Sto.empty) = true := by kernel_rfl
end Pz
set_option Elab.async false
set_option linter.all false
set_option maxRecDepth 100000
set_option maxHeartbeats 0
namespace Pz
open PySem
theorem run12_f4 : outB ((evN G0 3000).call 20 57 ([.int .x, .int (.k 4)] : List (Val (SI 0 65535))) Sto.empty) = true := by kernel_rfl
end Pz
set_option Elab.async false
set_option linter.all false
set_option maxRecDepth 100000
set_option maxHeartbeats 0
namespace Pz
open PySem
theorem run12_f5 : outB ((evN G0 3000).call 20 57 ([.int .x, .int (.k 5)] : List (Val (SI 0 65535))) Sto.empty) = true := by kernel_rfl
end Pz
set_option Elab.async false
set_option linter.all false
set_option maxRecDepth 100000
set_option maxHeartbeats 0
namespace Pz
open PySem
theorem run12_f6 : outB ((evN G0 3000).call 20 57 ([.int .x, .int (.k 6)] : List (Val (SI 0 65535))) Sto.empty) = true := by kernel_rfl
end Pz
set_option Elab.async false
set_option linter.all false
set_option maxRecDepth 100000
set_option maxHeartbeats 0
namespace Pz
open PySem
theorem run12_f7 : outB ((evN G0 3000).call 20 57 ([.int .x, .int (.k 7)] : List (Val (SI 0 65535))) Sto.empty) = true := by kernel_rfl
end Pz
set_option Elab.async false
set_option linter.all false
set_option maxRecDepth 100000
set_option maxHeartbeats 0
namespace Pz
open PySem
theorem run12_f8 : outB ((evN G0 3000).call 20 57 ([.int .x, .int (.k 8)] : List (Val (SI 0 65535))) Sto.empty) = true := by kernel_rfl
end Pz
set_option Elab.async false
set_option linter.all false
set_option maxRecDepth 100000
set_option maxHeartbeats 0
namespace Pz
open PySem
theorem nev1_ok : outF ((evN G0 3000).e 19 nev1 ([none, none, some progS] : Env (SI 0 65535)) Sto.empty) = true := by kernel_rfl
theorem nev3_ok : outF ((evN G0 3000).e 19 nev3 ([none, none, some progS] : Env (SI 0 65535)) Sto.empty) = true := by kernel_rfl
theorem nev4_ok : outR ((evN G0 3000).s 19 nev4 ([some (.int .x), none, some progS] : Env (SI 0 65535)) Sto.empty) = true := by kernel_rfl
end Pz
set_option Elab.async false
set_option linter.all false
set_option maxRecDepth 100000
set_option maxHeartbeats 0
namespace Pz
open PySem
section
variable {lo hi : Int}
def hcall (s : List Nat) : Val (SI lo hi) := .tup [.str ⟨⟨[99, 97, 108, 108]⟩⟩, li 0, .str ⟨⟨s⟩⟩, .tup []]
def hnum (c : SI lo hi) : Val (SI lo hi) := .tup [.str ⟨⟨[110, 117, 109, 98, 101, 114]⟩⟩, li 0, .int c]
def hload : Val (SI lo hi) := .tup [.str ⟨⟨[108, 111, 97, 100]⟩⟩, li 0, li 1]
def heavyP (c : SI lo hi) : Val (SI lo hi) := .tup [.tup [.str ⟨⟨[109, 97, 105, 110]⟩⟩, li 0, li 2, .tup [hcall [102], hcall [102], hcall [102], hcall [102], hcall [102], hcall [102], hcall [102], hcall [102], hcall [102], hload]], .tup [.str ⟨⟨[102]⟩⟩, li 0, li 1, .tup [hcall [103, 103], hcall [103, 103], hcall [103, 103], hcall [103, 103], hcall [103, 103], hcall [103, 103], hcall [103, 103], hcall [103, 103], hcall [103, 103]]], .tup [.str ⟨⟨[103, 103]⟩⟩, li 0, li 1, .tup [hnum c, hnum c, hnum c, hnum c, hnum c, hnum c, hnum c, hnum c, hnum c, hnum c]]]
def wrongV : Val (SI lo hi) := .str ⟨⟨[119, 114, 111, 110, 103]⟩⟩
def hv012 : List (St (SI lo hi)) := g58.body.take 3
def hv3 : St (SI lo hi) := g58.body.getD 3 .pass
def hv4 : St (SI lo hi) := g58.body.getD 4 .pass
def outHA (r : Rs (SI lo hi) (Fl (SI lo hi) × Env (SI lo hi))) : Option (Option (Val (SI lo hi))) := match r with
  | .ok (.nx, [_, _, _, x, _]) _ => some x
  | _ => none
def isE (o : Option (Ob (SI lo hi))) : Bool := match o with
  | some (.lst []) => true
  | _ => false
def outHB (r : Rs (SI lo hi) (Fl (SI lo hi) × Env (SI lo hi))) : Option (Option (Val (SI lo hi)) × Bool) := match r with
  | .ok (.nx, [_, _, _, v, some (.tup [.str s, .ref a])]) S => some (v, sBeq s ⟨⟨[119, 114, 111, 110, 103]⟩⟩ && isE (S.get a))
  | _ => none
end
theorem heavyA : outHA ((evN G0 3000).ss 19 hv012 ([some (.int .x), none, none, none, none] : Env (SI 0 65535)) Sto.empty) = some (some (heavyP .x)) := by kernel_rfl
end Pz
set_option Elab.async false
set_option linter.all false
set_option maxRecDepth 100000
set_option maxHeartbeats 0
namespace Pz
open PySem
theorem heavyB : outHB ((evN G0 12000).s 19 hv3 ([none, none, none, some (heavyP .x), none] : Env (SI 0 65535)) Sto.empty) = some (some (heavyP .x), true) := by kernel_rfl
end Pz
set_option Elab.async false
set_option linter.all false
set_option maxRecDepth 100000
set_option maxHeartbeats 0
namespace Pz
open PySem
section
variable {lo hi : Int}
def frm (n w p e : Val (SI lo hi)) : Ob (SI lo hi) := .ins 1 [(⟨⟨[110, 117, 109, 98, 101, 114]⟩⟩, n), (⟨⟨[119, 111, 114, 100, 115]⟩⟩, w), (⟨⟨[112, 108, 97, 99, 101]⟩⟩, p), (⟨⟨[105, 115, 95, 116, 104, 101, 114, 101]⟩⟩, e)]
def hsA : List (Ob (SI lo hi)) := [.lst [(.bl true), (.bl true), (.bl true)], .lst [], .lst [], .lst [], .lst [], .lst [], .lst [(li 0), (li 0), (li 0), (li 0), (li 0), (li 0), (li 0), (li 0), (li 0)], .lst [], .lst [], .lst [], .lst [(li 0), (li 0), (li 0), (li 0), (li 0), (li 0), (li 0), (li 0), (li 0)], .lst [], .lst [], .lst [(.bl true), (.bl true), (.bl true), (.bl true), (.bl true), (.bl true), (.bl true), (.bl true), (.bl true), (.bl true), (.bl true), (.bl true), (.bl true), (.bl true), (.bl true), (.bl true), (.bl true), (.bl true)], .lst [(.tup [(.str ⟨⟨[99, 97, 108, 108]⟩⟩), (li 0), (.str ⟨⟨[102]⟩⟩), (.tup [])]), (.tup [(.str ⟨⟨[99, 97, 108, 108]⟩⟩), (li 0), (.str ⟨⟨[102]⟩⟩), (.tup [])]), (.tup [(.str ⟨⟨[99, 97, 108, 108]⟩⟩), (li 0), (.str ⟨⟨[102]⟩⟩), (.tup [])]), (.tup [(.str ⟨⟨[99, 97, 108, 108]⟩⟩), (li 0), (.str ⟨⟨[102]⟩⟩), (.tup [])]), (.tup [(.str ⟨⟨[99, 97, 108, 108]⟩⟩), (li 0), (.str ⟨⟨[102]⟩⟩), (.tup [])]), (.tup [(.str ⟨⟨[99, 97, 108, 108]⟩⟩), (li 0), (.str ⟨⟨[102]⟩⟩), (.tup [])]), (.tup [(.str ⟨⟨[99, 97, 108, 108]⟩⟩), (li 0), (.str ⟨⟨[102]⟩⟩), (.tup [])]), (.tup [(.str ⟨⟨[99, 97, 108, 108]⟩⟩), (li 0), (.str ⟨⟨[102]⟩⟩), (.tup [])]), (.tup [(.str ⟨⟨[99, 97, 108, 108]⟩⟩), (li 0), (.str ⟨⟨[102]⟩⟩), (.tup [])]), (.tup [(.str ⟨⟨[99, 97, 108, 108]⟩⟩), (li 0), (.str ⟨⟨[103, 103]⟩⟩), (.tup [])]), (.tup [(.str ⟨⟨[99, 97, 108, 108]⟩⟩), (li 0), (.str ⟨⟨[103, 103]⟩⟩), (.tup [])]), (.tup [(.str ⟨⟨[99, 97, 108, 108]⟩⟩), (li 0), (.str ⟨⟨[103, 103]⟩⟩), (.tup [])]), (.tup [(.str ⟨⟨[99, 97, 108, 108]⟩⟩), (li 0), (.str ⟨⟨[103, 103]⟩⟩), (.tup [])]), (.tup [(.str ⟨⟨[99, 97, 108, 108]⟩⟩), (li 0), (.str ⟨⟨[103, 103]⟩⟩), (.tup [])]), (.tup [(.str ⟨⟨[99, 97, 108, 108]⟩⟩), (li 0), (.str ⟨⟨[103, 103]⟩⟩), (.tup [])]), (.tup [(.str ⟨⟨[99, 97, 108, 108]⟩⟩), (li 0), (.str ⟨⟨[103, 103]⟩⟩), (.tup [])]), (.tup [(.str ⟨⟨[99, 97, 108, 108]⟩⟩), (li 0), (.str ⟨⟨[103, 103]⟩⟩), (.tup [])]), (.tup [(.str ⟨⟨[99, 97, 108, 108]⟩⟩), (li 0), (.str ⟨⟨[103, 103]⟩⟩), (.tup [])])], .dic [((.str ⟨⟨[109, 97, 105, 110]⟩⟩), (li 0)), ((.str ⟨⟨[102]⟩⟩), (li 0)), ((.str ⟨⟨[103, 103]⟩⟩), (li 0))] 0, .lst [(.bl true), (.bl true), (.bl true)], .lst [(.bl true), (.bl true), (.bl true), (.bl true), (.bl true), (.bl true), (.bl true), (.bl true), (.bl true), (.bl true)], .lst [(.bl true), (.bl true)], .lst [(.bl true), (.bl true), (.bl true), (.bl true), (.bl true), (.bl true), (.bl true), (.bl true), (.bl true)], .lst [], .lst [], .lst [], .lst [], .lst [], .lst [], .lst [], .lst [], .lst [], .lst [(.bl true)], .lst [(.bl true), (.bl true), (.bl true), (.bl true), (.bl true), (.bl true), (.bl true), (.bl true), (.bl true), (.bl true)], .lst [], .lst [], .lst [], .lst [], .lst [], .lst [], .lst [], .lst [], .lst [], .lst [(.bl true), (.bl true), (.bl true), (.bl true)], .lst []]
def hsB : List (Ob (SI lo hi)) := [.lst [], .lst [(.bl true), (.bl true), (.bl true)], .lst [], .lst [], .lst [], .lst [], .lst [], .lst [(li 0), (li 0), (li 0), (li 0), (li 0), (li 0), (li 0), (li 0), (li 0)], .lst [], .lst [], .lst [], .lst [(li 0), (li 0), (li 0), (li 0), (li 0), (li 0), (li 0), (li 0), (li 0)], .lst [], .lst [], .lst [(.bl true), (.bl true), (.bl true), (.bl true), (.bl true), (.bl true), (.bl true), (.bl true), (.bl true), (.bl true), (.bl true), (.bl true), (.bl true), (.bl true), (.bl true), (.bl true), (.bl true), (.bl true)], .lst [(.tup [(.str ⟨⟨[99, 97, 108, 108]⟩⟩), (li 0), (.str ⟨⟨[102]⟩⟩), (.tup [])]), (.tup [(.str ⟨⟨[99, 97, 108, 108]⟩⟩), (li 0), (.str ⟨⟨[102]⟩⟩), (.tup [])]), (.tup [(.str ⟨⟨[99, 97, 108, 108]⟩⟩), (li 0), (.str ⟨⟨[102]⟩⟩), (.tup [])]), (.tup [(.str ⟨⟨[99, 97, 108, 108]⟩⟩), (li 0), (.str ⟨⟨[102]⟩⟩), (.tup [])]), (.tup [(.str ⟨⟨[99, 97, 108, 108]⟩⟩), (li 0), (.str ⟨⟨[102]⟩⟩), (.tup [])]), (.tup [(.str ⟨⟨[99, 97, 108, 108]⟩⟩), (li 0), (.str ⟨⟨[102]⟩⟩), (.tup [])]), (.tup [(.str ⟨⟨[99, 97, 108, 108]⟩⟩), (li 0), (.str ⟨⟨[102]⟩⟩), (.tup [])]), (.tup [(.str ⟨⟨[99, 97, 108, 108]⟩⟩), (li 0), (.str ⟨⟨[102]⟩⟩), (.tup [])]), (.tup [(.str ⟨⟨[99, 97, 108, 108]⟩⟩), (li 0), (.str ⟨⟨[102]⟩⟩), (.tup [])]), (.tup [(.str ⟨⟨[99, 97, 108, 108]⟩⟩), (li 0), (.str ⟨⟨[103, 103]⟩⟩), (.tup [])]), (.tup [(.str ⟨⟨[99, 97, 108, 108]⟩⟩), (li 0), (.str ⟨⟨[103, 103]⟩⟩), (.tup [])]), (.tup [(.str ⟨⟨[99, 97, 108, 108]⟩⟩), (li 0), (.str ⟨⟨[103, 103]⟩⟩), (.tup [])]), (.tup [(.str ⟨⟨[99, 97, 108, 108]⟩⟩), (li 0), (.str ⟨⟨[103, 103]⟩⟩), (.tup [])]), (.tup [(.str ⟨⟨[99, 97, 108, 108]⟩⟩), (li 0), (.str ⟨⟨[103, 103]⟩⟩), (.tup [])]), (.tup [(.str ⟨⟨[99, 97, 108, 108]⟩⟩), (li 0), (.str ⟨⟨[103, 103]⟩⟩), (.tup [])]), (.tup [(.str ⟨⟨[99, 97, 108, 108]⟩⟩), (li 0), (.str ⟨⟨[103, 103]⟩⟩), (.tup [])]), (.tup [(.str ⟨⟨[99, 97, 108, 108]⟩⟩), (li 0), (.str ⟨⟨[103, 103]⟩⟩), (.tup [])]), (.tup [(.str ⟨⟨[99, 97, 108, 108]⟩⟩), (li 0), (.str ⟨⟨[103, 103]⟩⟩), (.tup [])])], .dic [((.str ⟨⟨[109, 97, 105, 110]⟩⟩), (li 0)), ((.str ⟨⟨[102]⟩⟩), (li 0)), ((.str ⟨⟨[103, 103]⟩⟩), (li 0))] 0, .lst [(.bl true), (.bl true), (.bl true)], .lst [(.bl true), (.bl true), (.bl true), (.bl true), (.bl true), (.bl true), (.bl true), (.bl true), (.bl true), (.bl true)], .lst [(.bl true), (.bl true)], .lst [(.bl true), (.bl true), (.bl true), (.bl true), (.bl true), (.bl true), (.bl true), (.bl true), (.bl true)], .lst [], .lst [], .lst [], .lst [], .lst [], .lst [], .lst [], .lst [], .lst [], .lst [(.bl true)], .lst [(.bl true), (.bl true), (.bl true), (.bl true), (.bl true), (.bl true), (.bl true), (.bl true), (.bl true), (.bl true)], .lst [], .lst [], .lst [], .lst [], .lst [], .lst [], .lst [], .lst [], .lst [], .lst [(.bl true), (.bl true), (.bl true), (.bl true)], .lst []]
def hs0 : List (Ob (SI lo hi)) := [.lst [], .lst [(.ref 48)], frm (li 0) (.ref 47) (li 0) (.bl true), .lst [(li 0), (li 0)], .lst [(li 0)], .lst [], .dic [((.str ⟨⟨[109, 97, 105, 110]⟩⟩), (li 0)), ((.str ⟨⟨[102]⟩⟩), (li 1)), ((.str ⟨⟨[103, 103]⟩⟩), (li 2))] 0, .ins 3 [(⟨⟨[112, 114, 111, 103, 114, 97, 109]⟩⟩, (heavyP .x)), (⟨⟨[110, 117, 109, 98, 101, 114, 115]⟩⟩, (.ref 44)), (⟨⟨[105, 110, 112, 117, 116, 115]⟩⟩, (.ref 45)), (⟨⟨[116, 97, 107, 101, 110]⟩⟩, (li 0)), (⟨⟨[102, 114, 97, 109, 101, 115]⟩⟩, (.ref 49)), (⟨⟨[115, 104, 111, 119, 110]⟩⟩, (.ref 50)), (⟨⟨[99, 97, 114, 114, 105, 101, 100]⟩⟩, (li 0)), (⟨⟨[101, 110, 100]⟩⟩, .non)], .lst [], .lst [(.bl true), (.bl true), (.bl true)], .lst [], .lst [], .lst [], .lst [], .lst [], .lst [(li 0), (li 0), (li 0), (li 0), (li 0), (li 0), (li 0), (li 0), (li 0)], .lst [], .lst [], .lst [], .lst [(li 0), (li 0), (li 0), (li 0), (li 0), (li 0), (li 0), (li 0), (li 0)], .lst [], .lst [], .lst [(.bl true), (.bl true), (.bl true), (.bl true), (.bl true), (.bl true), (.bl true), (.bl true), (.bl true), (.bl true), (.bl true), (.bl true), (.bl true), (.bl true), (.bl true), (.bl true), (.bl true), (.bl true)], .lst [(.tup [(.str ⟨⟨[99, 97, 108, 108]⟩⟩), (li 0), (.str ⟨⟨[102]⟩⟩), (.tup [])]), (.tup [(.str ⟨⟨[99, 97, 108, 108]⟩⟩), (li 0), (.str ⟨⟨[102]⟩⟩), (.tup [])]), (.tup [(.str ⟨⟨[99, 97, 108, 108]⟩⟩), (li 0), (.str ⟨⟨[102]⟩⟩), (.tup [])]), (.tup [(.str ⟨⟨[99, 97, 108, 108]⟩⟩), (li 0), (.str ⟨⟨[102]⟩⟩), (.tup [])]), (.tup [(.str ⟨⟨[99, 97, 108, 108]⟩⟩), (li 0), (.str ⟨⟨[102]⟩⟩), (.tup [])]), (.tup [(.str ⟨⟨[99, 97, 108, 108]⟩⟩), (li 0), (.str ⟨⟨[102]⟩⟩), (.tup [])]), (.tup [(.str ⟨⟨[99, 97, 108, 108]⟩⟩), (li 0), (.str ⟨⟨[102]⟩⟩), (.tup [])]), (.tup [(.str ⟨⟨[99, 97, 108, 108]⟩⟩), (li 0), (.str ⟨⟨[102]⟩⟩), (.tup [])]), (.tup [(.str ⟨⟨[99, 97, 108, 108]⟩⟩), (li 0), (.str ⟨⟨[102]⟩⟩), (.tup [])]), (.tup [(.str ⟨⟨[99, 97, 108, 108]⟩⟩), (li 0), (.str ⟨⟨[103, 103]⟩⟩), (.tup [])]), (.tup [(.str ⟨⟨[99, 97, 108, 108]⟩⟩), (li 0), (.str ⟨⟨[103, 103]⟩⟩), (.tup [])]), (.tup [(.str ⟨⟨[99, 97, 108, 108]⟩⟩), (li 0), (.str ⟨⟨[103, 103]⟩⟩), (.tup [])]), (.tup [(.str ⟨⟨[99, 97, 108, 108]⟩⟩), (li 0), (.str ⟨⟨[103, 103]⟩⟩), (.tup [])]), (.tup [(.str ⟨⟨[99, 97, 108, 108]⟩⟩), (li 0), (.str ⟨⟨[103, 103]⟩⟩), (.tup [])]), (.tup [(.str ⟨⟨[99, 97, 108, 108]⟩⟩), (li 0), (.str ⟨⟨[103, 103]⟩⟩), (.tup [])]), (.tup [(.str ⟨⟨[99, 97, 108, 108]⟩⟩), (li 0), (.str ⟨⟨[103, 103]⟩⟩), (.tup [])]), (.tup [(.str ⟨⟨[99, 97, 108, 108]⟩⟩), (li 0), (.str ⟨⟨[103, 103]⟩⟩), (.tup [])]), (.tup [(.str ⟨⟨[99, 97, 108, 108]⟩⟩), (li 0), (.str ⟨⟨[103, 103]⟩⟩), (.tup [])])], .dic [((.str ⟨⟨[109, 97, 105, 110]⟩⟩), (li 0)), ((.str ⟨⟨[102]⟩⟩), (li 0)), ((.str ⟨⟨[103, 103]⟩⟩), (li 0))] 0, .lst [(.bl true), (.bl true), (.bl true)], .lst [(.bl true), (.bl true), (.bl true), (.bl true), (.bl true), (.bl true), (.bl true), (.bl true), (.bl true), (.bl true)], .lst [(.bl true), (.bl true)], .lst [(.bl true), (.bl true), (.bl true), (.bl true), (.bl true), (.bl true), (.bl true), (.bl true), (.bl true)], .lst [], .lst [], .lst [], .lst [], .lst [], .lst [], .lst [], .lst [], .lst [], .lst [(.bl true)], .lst [(.bl true), (.bl true), (.bl true), (.bl true), (.bl true), (.bl true), (.bl true), (.bl true), (.bl true), (.bl true)], .lst [], .lst [], .lst [], .lst [], .lst [], .lst [], .lst [], .lst [], .lst [], .lst [(.bl true), (.bl true), (.bl true), (.bl true)], .lst []]
def hs1 : List (Ob (SI lo hi)) := [.lst [], .lst [], frm (li 2) (.ref 227) (li 10) (.bl false), .lst [(.int .x)], .lst [(li 0)], .lst [(li 0)], .lst [], .lst [], frm (li 2) (.ref 221) (li 10) (.bl false), .lst [(.int .x)], .lst [(li 0)], .lst [(li 0)], .lst [], .lst [], frm (li 2) (.ref 215) (li 10) (.bl false), .lst [(.int .x)], .lst [(li 0)], .lst [(li 0)], .lst [], .lst [], frm (li 2) (.ref 209) (li 10) (.bl false), .lst [(.int .x)], .lst [(li 0)], .lst [(li 0)], .lst [], .lst [], frm (li 2) (.ref 203) (li 10) (.bl false), .lst [(.int .x)], .lst [(li 0)], .lst [(li 0)], .lst [], .lst [], frm (li 2) (.ref 197) (li 10) (.bl false), .lst [(.int .x)], .lst [(li 0)], .lst [(li 0)], .lst [], .lst [], frm (li 2) (.ref 191) (li 10) (.bl false), .lst [(.int .x)], .lst [(li 0)], .lst [(li 0)], .lst [], .lst [], frm (li 2) (.ref 185) (li 10) (.bl false), .lst [(.int .x)], .lst [(li 0)], .lst [(li 0)], .lst [], .lst [], frm (li 2) (.ref 179) (li 10) (.bl false), .lst [(.int .x)], .lst [(li 0)], .lst [(li 0)], .lst [], frm (li 1) (.ref 174) (li 9) (.bl false), .lst [(li 0)], .lst [(li 0)], .lst [(li 0)], .lst [], .lst [], .lst [], frm (li 2) (.ref 167) (li 10) (.bl false), .lst [(.int .x)], .lst [(li 0)], .lst [(li 0)], .lst [], .lst [], frm (li 2) (.ref 161) (li 10) (.bl false), .lst [(.int .x)], .lst [(li 0)], .lst [(li 0)], .lst [], .lst [], frm (li 2) (.ref 155) (li 10) (.bl false), .lst [(.int .x)], .lst [(li 0)], .lst [(li 0)], .lst [], .lst [], frm (li 2) (.ref 149) (li 10) (.bl false), .lst [(.int .x)], .lst [(li 0)], .lst [(li 0)], .lst [], .lst [], frm (li 2) (.ref 143) (li 10) (.bl false), .lst [(.int .x)], .lst [(li 0)], .lst [(li 0)], .lst [], .lst [], frm (li 2) (.ref 137) (li 10) (.bl false), .lst [(.int .x)], .lst [(li 0)], .lst [(li 0)], .lst [], .lst [], frm (li 2) (.ref 131) (li 10) (.bl false), .lst [(.int .x)], .lst [(li 0)], .lst [(li 0)], .lst [], .lst [], frm (li 2) (.ref 125) (li 10) (.bl false), .lst [(.int .x)], .lst [(li 0)], .lst [(li 0)], .lst [], .lst [], frm (li 2) (.ref 119) (li 10) (.bl false), .lst [(.int .x)], .lst [(li 0)], .lst [(li 0)], .lst [], frm (li 1) (.ref 114) (li 9) (.bl false), .lst [(li 0)], .lst [(li 0)], .lst [(li 0)], .lst [], .lst [], .lst [], frm (li 2) (.ref 107) (li 10) (.bl false), .lst [(.int .x)], .lst [(li 0)], .lst [(li 0)], .lst [], .lst [], frm (li 2) (.ref 101) (li 10) (.bl false), .lst [(.int .x)], .lst [(li 0)], .lst [(li 0)], .lst [], .lst [], frm (li 2) (.ref 95) (li 10) (.bl false), .lst [(.int .x)], .lst [(li 0)], .lst [(li 0)], .lst [], .lst [], frm (li 2) (.ref 89) (li 10) (.bl false), .lst [(.int .x)], .lst [(li 0)], .lst [(li 0)], .lst [], .lst [], frm (li 2) (.ref 83) (li 10) (.bl false), .lst [(.int .x)], .lst [(li 0)], .lst [(li 0)], .lst [], .lst [], frm (li 2) (.ref 77) (li 10) (.bl false), .lst [(.int .x)], .lst [(li 0)], .lst [(li 0)], .lst [], .lst [], frm (li 2) (.ref 71) (li 10) (.bl false), .lst [(.int .x)], .lst [(li 0)], .lst [(li 0)], .lst [], .lst [], frm (li 2) (.ref 65) (li 10) (.bl false), .lst [(.int .x)], .lst [(li 0)], .lst [(li 0)], .lst [], .lst [], frm (li 2) (.ref 59) (li 10) (.bl false), .lst [(.int .x)], .lst [(li 0)], .lst [(li 0)], .lst [], frm (li 1) (.ref 54) (li 9) (.bl false), .lst [(li 0)], .lst [(li 0)], .lst [(li 0)], .lst [], .lst [], .lst [(.ref 48)], frm (li 0) (.ref 47) (li 3) (.bl true), .lst [(li 0), (li 0)], .lst [(li 0)], .lst [], .dic [((.str ⟨⟨[109, 97, 105, 110]⟩⟩), (li 0)), ((.str ⟨⟨[102]⟩⟩), (li 1)), ((.str ⟨⟨[103, 103]⟩⟩), (li 2))] 0, .ins 3 [(⟨⟨[112, 114, 111, 103, 114, 97, 109]⟩⟩, (heavyP .x)), (⟨⟨[110, 117, 109, 98, 101, 114, 115]⟩⟩, (.ref 44)), (⟨⟨[105, 110, 112, 117, 116, 115]⟩⟩, (.ref 45)), (⟨⟨[116, 97, 107, 101, 110]⟩⟩, (li 0)), (⟨⟨[102, 114, 97, 109, 101, 115]⟩⟩, (.ref 49)), (⟨⟨[115, 104, 111, 119, 110]⟩⟩, (.ref 50)), (⟨⟨[99, 97, 114, 114, 105, 101, 100]⟩⟩, (li 300)), (⟨⟨[101, 110, 100]⟩⟩, .non)], .lst [], .lst [(.bl true), (.bl true), (.bl true)], .lst [], .lst [], .lst [], .lst [], .lst [], .lst [(li 0), (li 0), (li 0), (li 0), (li 0), (li 0), (li 0), (li 0), (li 0)], .lst [], .lst [], .lst [], .lst [(li 0), (li 0), (li 0), (li 0), (li 0), (li 0), (li 0), (li 0), (li 0)], .lst [], .lst [], .lst [(.bl true), (.bl true), (.bl true), (.bl true), (.bl true), (.bl true), (.bl true), (.bl true), (.bl true), (.bl true), (.bl true), (.bl true), (.bl true), (.bl true), (.bl true), (.bl true), (.bl true), (.bl true)], .lst [(.tup [(.str ⟨⟨[99, 97, 108, 108]⟩⟩), (li 0), (.str ⟨⟨[102]⟩⟩), (.tup [])]), (.tup [(.str ⟨⟨[99, 97, 108, 108]⟩⟩), (li 0), (.str ⟨⟨[102]⟩⟩), (.tup [])]), (.tup [(.str ⟨⟨[99, 97, 108, 108]⟩⟩), (li 0), (.str ⟨⟨[102]⟩⟩), (.tup [])]), (.tup [(.str ⟨⟨[99, 97, 108, 108]⟩⟩), (li 0), (.str ⟨⟨[102]⟩⟩), (.tup [])]), (.tup [(.str ⟨⟨[99, 97, 108, 108]⟩⟩), (li 0), (.str ⟨⟨[102]⟩⟩), (.tup [])]), (.tup [(.str ⟨⟨[99, 97, 108, 108]⟩⟩), (li 0), (.str ⟨⟨[102]⟩⟩), (.tup [])]), (.tup [(.str ⟨⟨[99, 97, 108, 108]⟩⟩), (li 0), (.str ⟨⟨[102]⟩⟩), (.tup [])]), (.tup [(.str ⟨⟨[99, 97, 108, 108]⟩⟩), (li 0), (.str ⟨⟨[102]⟩⟩), (.tup [])]), (.tup [(.str ⟨⟨[99, 97, 108, 108]⟩⟩), (li 0), (.str ⟨⟨[102]⟩⟩), (.tup [])]), (.tup [(.str ⟨⟨[99, 97, 108, 108]⟩⟩), (li 0), (.str ⟨⟨[103, 103]⟩⟩), (.tup [])]), (.tup [(.str ⟨⟨[99, 97, 108, 108]⟩⟩), (li 0), (.str ⟨⟨[103, 103]⟩⟩), (.tup [])]), (.tup [(.str ⟨⟨[99, 97, 108, 108]⟩⟩), (li 0), (.str ⟨⟨[103, 103]⟩⟩), (.tup [])]), (.tup [(.str ⟨⟨[99, 97, 108, 108]⟩⟩), (li 0), (.str ⟨⟨[103, 103]⟩⟩), (.tup [])]), (.tup [(.str ⟨⟨[99, 97, 108, 108]⟩⟩), (li 0), (.str ⟨⟨[103, 103]⟩⟩), (.tup [])]), (.tup [(.str ⟨⟨[99, 97, 108, 108]⟩⟩), (li 0), (.str ⟨⟨[103, 103]⟩⟩), (.tup [])]), (.tup [(.str ⟨⟨[99, 97, 108, 108]⟩⟩), (li 0), (.str ⟨⟨[103, 103]⟩⟩), (.tup [])]), (.tup [(.str ⟨⟨[99, 97, 108, 108]⟩⟩), (li 0), (.str ⟨⟨[103, 103]⟩⟩), (.tup [])]), (.tup [(.str ⟨⟨[99, 97, 108, 108]⟩⟩), (li 0), (.str ⟨⟨[103, 103]⟩⟩), (.tup [])])], .dic [((.str ⟨⟨[109, 97, 105, 110]⟩⟩), (li 0)), ((.str ⟨⟨[102]⟩⟩), (li 0)), ((.str ⟨⟨[103, 103]⟩⟩), (li 0))] 0, .lst [(.bl true), (.bl true), (.bl true)], .lst [(.bl true), (.bl true), (.bl true), (.bl true), (.bl true), (.bl true), (.bl true), (.bl true), (.bl true), (.bl true)], .lst [(.bl true), (.bl true)], .lst [(.bl true), (.bl true), (.bl true), (.bl true), (.bl true), (.bl true), (.bl true), (.bl true), (.bl true)], .lst [], .lst [], .lst [], .lst [], .lst [], .lst [], .lst [], .lst [], .lst [], .lst [(.bl true)], .lst [(.bl true), (.bl true), (.bl true), (.bl true), (.bl true), (.bl true), (.bl true), (.bl true), (.bl true), (.bl true)], .lst [], .lst [], .lst [], .lst [], .lst [], .lst [], .lst [], .lst [], .lst [], .lst [(.bl true), (.bl true), (.bl true), (.bl true)], .lst []]
def hs2 : List (Ob (SI lo hi)) := [.lst [], .lst [], frm (li 2) (.ref 407) (li 10) (.bl false), .lst [(.int .x)], .lst [(li 0)], .lst [(li 0)], .lst [], .lst [], frm (li 2) (.ref 401) (li 10) (.bl false), .lst [(.int .x)], .lst [(li 0)], .lst [(li 0)], .lst [], .lst [], frm (li 2) (.ref 395) (li 10) (.bl false), .lst [(.int .x)], .lst [(li 0)], .lst [(li 0)], .lst [], .lst [], frm (li 2) (.ref 389) (li 10) (.bl false), .lst [(.int .x)], .lst [(li 0)], .lst [(li 0)], .lst [], .lst [], frm (li 2) (.ref 383) (li 10) (.bl false), .lst [(.int .x)], .lst [(li 0)], .lst [(li 0)], .lst [], .lst [], frm (li 2) (.ref 377) (li 10) (.bl false), .lst [(.int .x)], .lst [(li 0)], .lst [(li 0)], .lst [], .lst [], frm (li 2) (.ref 371) (li 10) (.bl false), .lst [(.int .x)], .lst [(li 0)], .lst [(li 0)], .lst [], .lst [], frm (li 2) (.ref 365) (li 10) (.bl false), .lst [(.int .x)], .lst [(li 0)], .lst [(li 0)], .lst [], .lst [], frm (li 2) (.ref 359) (li 10) (.bl false), .lst [(.int .x)], .lst [(li 0)], .lst [(li 0)], .lst [], frm (li 1) (.ref 354) (li 9) (.bl false), .lst [(li 0)], .lst [(li 0)], .lst [(li 0)], .lst [], .lst [], .lst [], frm (li 2) (.ref 347) (li 10) (.bl false), .lst [(.int .x)], .lst [(li 0)], .lst [(li 0)], .lst [], .lst [], frm (li 2) (.ref 341) (li 10) (.bl false), .lst [(.int .x)], .lst [(li 0)], .lst [(li 0)], .lst [], .lst [], frm (li 2) (.ref 335) (li 10) (.bl false), .lst [(.int .x)], .lst [(li 0)], .lst [(li 0)], .lst [], .lst [], frm (li 2) (.ref 329) (li 10) (.bl false), .lst [(.int .x)], .lst [(li 0)], .lst [(li 0)], .lst [], .lst [], frm (li 2) (.ref 323) (li 10) (.bl false), .lst [(.int .x)], .lst [(li 0)], .lst [(li 0)], .lst [], .lst [], frm (li 2) (.ref 317) (li 10) (.bl false), .lst [(.int .x)], .lst [(li 0)], .lst [(li 0)], .lst [], .lst [], frm (li 2) (.ref 311) (li 10) (.bl false), .lst [(.int .x)], .lst [(li 0)], .lst [(li 0)], .lst [], .lst [], frm (li 2) (.ref 305) (li 10) (.bl false), .lst [(.int .x)], .lst [(li 0)], .lst [(li 0)], .lst [], .lst [], frm (li 2) (.ref 299) (li 10) (.bl false), .lst [(.int .x)], .lst [(li 0)], .lst [(li 0)], .lst [], frm (li 1) (.ref 294) (li 9) (.bl false), .lst [(li 0)], .lst [(li 0)], .lst [(li 0)], .lst [], .lst [], .lst [], frm (li 2) (.ref 287) (li 10) (.bl false), .lst [(.int .x)], .lst [(li 0)], .lst [(li 0)], .lst [], .lst [], frm (li 2) (.ref 281) (li 10) (.bl false), .lst [(.int .x)], .lst [(li 0)], .lst [(li 0)], .lst [], .lst [], frm (li 2) (.ref 275) (li 10) (.bl false), .lst [(.int .x)], .lst [(li 0)], .lst [(li 0)], .lst [], .lst [], frm (li 2) (.ref 269) (li 10) (.bl false), .lst [(.int .x)], .lst [(li 0)], .lst [(li 0)], .lst [], .lst [], frm (li 2) (.ref 263) (li 10) (.bl false), .lst [(.int .x)], .lst [(li 0)], .lst [(li 0)], .lst [], .lst [], frm (li 2) (.ref 257) (li 10) (.bl false), .lst [(.int .x)], .lst [(li 0)], .lst [(li 0)], .lst [], .lst [], frm (li 2) (.ref 251) (li 10) (.bl false), .lst [(.int .x)], .lst [(li 0)], .lst [(li 0)], .lst [], .lst [], frm (li 2) (.ref 245) (li 10) (.bl false), .lst [(.int .x)], .lst [(li 0)], .lst [(li 0)], .lst [], .lst [], frm (li 2) (.ref 239) (li 10) (.bl false), .lst [(.int .x)], .lst [(li 0)], .lst [(li 0)], .lst [], frm (li 1) (.ref 234) (li 9) (.bl false), .lst [(li 0)], .lst [(li 0)], .lst [(li 0)], .lst [], .lst [], .lst [], frm (li 2) (.ref 227) (li 10) (.bl false), .lst [(.int .x)], .lst [(li 0)], .lst [(li 0)], .lst [], .lst [], frm (li 2) (.ref 221) (li 10) (.bl false), .lst [(.int .x)], .lst [(li 0)], .lst [(li 0)], .lst [], .lst [], frm (li 2) (.ref 215) (li 10) (.bl false), .lst [(.int .x)], .lst [(li 0)], .lst [(li 0)], .lst [], .lst [], frm (li 2) (.ref 209) (li 10) (.bl false), .lst [(.int .x)], .lst [(li 0)], .lst [(li 0)], .lst [], .lst [], frm (li 2) (.ref 203) (li 10) (.bl false), .lst [(.int .x)], .lst [(li 0)], .lst [(li 0)], .lst [], .lst [], frm (li 2) (.ref 197) (li 10) (.bl false), .lst [(.int .x)], .lst [(li 0)], .lst [(li 0)], .lst [], .lst [], frm (li 2) (.ref 191) (li 10) (.bl false), .lst [(.int .x)], .lst [(li 0)], .lst [(li 0)], .lst [], .lst [], frm (li 2) (.ref 185) (li 10) (.bl false), .lst [(.int .x)], .lst [(li 0)], .lst [(li 0)], .lst [], .lst [], frm (li 2) (.ref 179) (li 10) (.bl false), .lst [(.int .x)], .lst [(li 0)], .lst [(li 0)], .lst [], frm (li 1) (.ref 174) (li 9) (.bl false), .lst [(li 0)], .lst [(li 0)], .lst [(li 0)], .lst [], .lst [], .lst [], frm (li 2) (.ref 167) (li 10) (.bl false), .lst [(.int .x)], .lst [(li 0)], .lst [(li 0)], .lst [], .lst [], frm (li 2) (.ref 161) (li 10) (.bl false), .lst [(.int .x)], .lst [(li 0)], .lst [(li 0)], .lst [], .lst [], frm (li 2) (.ref 155) (li 10) (.bl false), .lst [(.int .x)], .lst [(li 0)], .lst [(li 0)], .lst [], .lst [], frm (li 2) (.ref 149) (li 10) (.bl false), .lst [(.int .x)], .lst [(li 0)], .lst [(li 0)], .lst [], .lst [], frm (li 2) (.ref 143) (li 10) (.bl false), .lst [(.int .x)], .lst [(li 0)], .lst [(li 0)], .lst [], .lst [], frm (li 2) (.ref 137) (li 10) (.bl false), .lst [(.int .x)], .lst [(li 0)], .lst [(li 0)], .lst [], .lst [], frm (li 2) (.ref 131) (li 10) (.bl false), .lst [(.int .x)], .lst [(li 0)], .lst [(li 0)], .lst [], .lst [], frm (li 2) (.ref 125) (li 10) (.bl false), .lst [(.int .x)], .lst [(li 0)], .lst [(li 0)], .lst [], .lst [], frm (li 2) (.ref 119) (li 10) (.bl false), .lst [(.int .x)], .lst [(li 0)], .lst [(li 0)], .lst [], frm (li 1) (.ref 114) (li 9) (.bl false), .lst [(li 0)], .lst [(li 0)], .lst [(li 0)], .lst [], .lst [], .lst [], frm (li 2) (.ref 107) (li 10) (.bl false), .lst [(.int .x)], .lst [(li 0)], .lst [(li 0)], .lst [], .lst [], frm (li 2) (.ref 101) (li 10) (.bl false), .lst [(.int .x)], .lst [(li 0)], .lst [(li 0)], .lst [], .lst [], frm (li 2) (.ref 95) (li 10) (.bl false), .lst [(.int .x)], .lst [(li 0)], .lst [(li 0)], .lst [], .lst [], frm (li 2) (.ref 89) (li 10) (.bl false), .lst [(.int .x)], .lst [(li 0)], .lst [(li 0)], .lst [], .lst [], frm (li 2) (.ref 83) (li 10) (.bl false), .lst [(.int .x)], .lst [(li 0)], .lst [(li 0)], .lst [], .lst [], frm (li 2) (.ref 77) (li 10) (.bl false), .lst [(.int .x)], .lst [(li 0)], .lst [(li 0)], .lst [], .lst [], frm (li 2) (.ref 71) (li 10) (.bl false), .lst [(.int .x)], .lst [(li 0)], .lst [(li 0)], .lst [], .lst [], frm (li 2) (.ref 65) (li 10) (.bl false), .lst [(.int .x)], .lst [(li 0)], .lst [(li 0)], .lst [], .lst [], frm (li 2) (.ref 59) (li 10) (.bl false), .lst [(.int .x)], .lst [(li 0)], .lst [(li 0)], .lst [], frm (li 1) (.ref 54) (li 9) (.bl false), .lst [(li 0)], .lst [(li 0)], .lst [(li 0)], .lst [], .lst [], .lst [(.ref 48)], frm (li 0) (.ref 47) (li 6) (.bl true), .lst [(li 0), (li 0)], .lst [(li 0)], .lst [], .dic [((.str ⟨⟨[109, 97, 105, 110]⟩⟩), (li 0)), ((.str ⟨⟨[102]⟩⟩), (li 1)), ((.str ⟨⟨[103, 103]⟩⟩), (li 2))] 0, .ins 3 [(⟨⟨[112, 114, 111, 103, 114, 97, 109]⟩⟩, (heavyP .x)), (⟨⟨[110, 117, 109, 98, 101, 114, 115]⟩⟩, (.ref 44)), (⟨⟨[105, 110, 112, 117, 116, 115]⟩⟩, (.ref 45)), (⟨⟨[116, 97, 107, 101, 110]⟩⟩, (li 0)), (⟨⟨[102, 114, 97, 109, 101, 115]⟩⟩, (.ref 49)), (⟨⟨[115, 104, 111, 119, 110]⟩⟩, (.ref 50)), (⟨⟨[99, 97, 114, 114, 105, 101, 100]⟩⟩, (li 600)), (⟨⟨[101, 110, 100]⟩⟩, .non)], .lst [], .lst [(.bl true), (.bl true), (.bl true)], .lst [], .lst [], .lst [], .lst [], .lst [], .lst [(li 0), (li 0), (li 0), (li 0), (li 0), (li 0), (li 0), (li 0), (li 0)], .lst [], .lst [], .lst [], .lst [(li 0), (li 0), (li 0), (li 0), (li 0), (li 0), (li 0), (li 0), (li 0)], .lst [], .lst [], .lst [(.bl true), (.bl true), (.bl true), (.bl true), (.bl true), (.bl true), (.bl true), (.bl true), (.bl true), (.bl true), (.bl true), (.bl true), (.bl true), (.bl true), (.bl true), (.bl true), (.bl true), (.bl true)], .lst [(.tup [(.str ⟨⟨[99, 97, 108, 108]⟩⟩), (li 0), (.str ⟨⟨[102]⟩⟩), (.tup [])]), (.tup [(.str ⟨⟨[99, 97, 108, 108]⟩⟩), (li 0), (.str ⟨⟨[102]⟩⟩), (.tup [])]), (.tup [(.str ⟨⟨[99, 97, 108, 108]⟩⟩), (li 0), (.str ⟨⟨[102]⟩⟩), (.tup [])]), (.tup [(.str ⟨⟨[99, 97, 108, 108]⟩⟩), (li 0), (.str ⟨⟨[102]⟩⟩), (.tup [])]), (.tup [(.str ⟨⟨[99, 97, 108, 108]⟩⟩), (li 0), (.str ⟨⟨[102]⟩⟩), (.tup [])]), (.tup [(.str ⟨⟨[99, 97, 108, 108]⟩⟩), (li 0), (.str ⟨⟨[102]⟩⟩), (.tup [])]), (.tup [(.str ⟨⟨[99, 97, 108, 108]⟩⟩), (li 0), (.str ⟨⟨[102]⟩⟩), (.tup [])]), (.tup [(.str ⟨⟨[99, 97, 108, 108]⟩⟩), (li 0), (.str ⟨⟨[102]⟩⟩), (.tup [])]), (.tup [(.str ⟨⟨[99, 97, 108, 108]⟩⟩), (li 0), (.str ⟨⟨[102]⟩⟩), (.tup [])]), (.tup [(.str ⟨⟨[99, 97, 108, 108]⟩⟩), (li 0), (.str ⟨⟨[103, 103]⟩⟩), (.tup [])]), (.tup [(.str ⟨⟨[99, 97, 108, 108]⟩⟩), (li 0), (.str ⟨⟨[103, 103]⟩⟩), (.tup [])]), (.tup [(.str ⟨⟨[99, 97, 108, 108]⟩⟩), (li 0), (.str ⟨⟨[103, 103]⟩⟩), (.tup [])]), (.tup [(.str ⟨⟨[99, 97, 108, 108]⟩⟩), (li 0), (.str ⟨⟨[103, 103]⟩⟩), (.tup [])]), (.tup [(.str ⟨⟨[99, 97, 108, 108]⟩⟩), (li 0), (.str ⟨⟨[103, 103]⟩⟩), (.tup [])]), (.tup [(.str ⟨⟨[99, 97, 108, 108]⟩⟩), (li 0), (.str ⟨⟨[103, 103]⟩⟩), (.tup [])]), (.tup [(.str ⟨⟨[99, 97, 108, 108]⟩⟩), (li 0), (.str ⟨⟨[103, 103]⟩⟩), (.tup [])]), (.tup [(.str ⟨⟨[99, 97, 108, 108]⟩⟩), (li 0), (.str ⟨⟨[103, 103]⟩⟩), (.tup [])]), (.tup [(.str ⟨⟨[99, 97, 108, 108]⟩⟩), (li 0), (.str ⟨⟨[103, 103]⟩⟩), (.tup [])])], .dic [((.str ⟨⟨[109, 97, 105, 110]⟩⟩), (li 0)), ((.str ⟨⟨[102]⟩⟩), (li 0)), ((.str ⟨⟨[103, 103]⟩⟩), (li 0))] 0, .lst [(.bl true), (.bl true), (.bl true)], .lst [(.bl true), (.bl true), (.bl true), (.bl true), (.bl true), (.bl true), (.bl true), (.bl true), (.bl true), (.bl true)], .lst [(.bl true), (.bl true)], .lst [(.bl true), (.bl true), (.bl true), (.bl true), (.bl true), (.bl true), (.bl true), (.bl true), (.bl true)], .lst [], .lst [], .lst [], .lst [], .lst [], .lst [], .lst [], .lst [], .lst [], .lst [(.bl true)], .lst [(.bl true), (.bl true), (.bl true), (.bl true), (.bl true), (.bl true), (.bl true), (.bl true), (.bl true), (.bl true)], .lst [], .lst [], .lst [], .lst [], .lst [], .lst [], .lst [], .lst [], .lst [], .lst [(.bl true), (.bl true), (.bl true), (.bl true)], .lst []]
def hs3 : List (Ob (SI lo hi)) := [.lst [], .lst [], frm (li 2) (.ref 587) (li 10) (.bl false), .lst [(.int .x)], .lst [(li 0)], .lst [(li 0)], .lst [], .lst [], frm (li 2) (.ref 581) (li 10) (.bl false), .lst [(.int .x)], .lst [(li 0)], .lst [(li 0)], .lst [], .lst [], frm (li 2) (.ref 575) (li 10) (.bl false), .lst [(.int .x)], .lst [(li 0)], .lst [(li 0)], .lst [], .lst [], frm (li 2) (.ref 569) (li 10) (.bl false), .lst [(.int .x)], .lst [(li 0)], .lst [(li 0)], .lst [], .lst [], frm (li 2) (.ref 563) (li 10) (.bl false), .lst [(.int .x)], .lst [(li 0)], .lst [(li 0)], .lst [], .lst [], frm (li 2) (.ref 557) (li 10) (.bl false), .lst [(.int .x)], .lst [(li 0)], .lst [(li 0)], .lst [], .lst [], frm (li 2) (.ref 551) (li 10) (.bl false), .lst [(.int .x)], .lst [(li 0)], .lst [(li 0)], .lst [], .lst [], frm (li 2) (.ref 545) (li 10) (.bl false), .lst [(.int .x)], .lst [(li 0)], .lst [(li 0)], .lst [], .lst [], frm (li 2) (.ref 539) (li 10) (.bl false), .lst [(.int .x)], .lst [(li 0)], .lst [(li 0)], .lst [], frm (li 1) (.ref 534) (li 9) (.bl false), .lst [(li 0)], .lst [(li 0)], .lst [(li 0)], .lst [], .lst [], .lst [], frm (li 2) (.ref 527) (li 10) (.bl false), .lst [(.int .x)], .lst [(li 0)], .lst [(li 0)], .lst [], .lst [], frm (li 2) (.ref 521) (li 10) (.bl false), .lst [(.int .x)], .lst [(li 0)], .lst [(li 0)], .lst [], .lst [], frm (li 2) (.ref 515) (li 10) (.bl false), .lst [(.int .x)], .lst [(li 0)], .lst [(li 0)], .lst [], .lst [], frm (li 2) (.ref 509) (li 10) (.bl false), .lst [(.int .x)], .lst [(li 0)], .lst [(li 0)], .lst [], .lst [], frm (li 2) (.ref 503) (li 10) (.bl false), .lst [(.int .x)], .lst [(li 0)], .lst [(li 0)], .lst [], .lst [], frm (li 2) (.ref 497) (li 10) (.bl false), .lst [(.int .x)], .lst [(li 0)], .lst [(li 0)], .lst [], .lst [], frm (li 2) (.ref 491) (li 10) (.bl false), .lst [(.int .x)], .lst [(li 0)], .lst [(li 0)], .lst [], .lst [], frm (li 2) (.ref 485) (li 10) (.bl false), .lst [(.int .x)], .lst [(li 0)], .lst [(li 0)], .lst [], .lst [], frm (li 2) (.ref 479) (li 10) (.bl false), .lst [(.int .x)], .lst [(li 0)], .lst [(li 0)], .lst [], frm (li 1) (.ref 474) (li 9) (.bl false), .lst [(li 0)], .lst [(li 0)], .lst [(li 0)], .lst [], .lst [], .lst [], frm (li 2) (.ref 467) (li 10) (.bl false), .lst [(.int .x)], .lst [(li 0)], .lst [(li 0)], .lst [], .lst [], frm (li 2) (.ref 461) (li 10) (.bl false), .lst [(.int .x)], .lst [(li 0)], .lst [(li 0)], .lst [], .lst [], frm (li 2) (.ref 455) (li 10) (.bl false), .lst [(.int .x)], .lst [(li 0)], .lst [(li 0)], .lst [], .lst [], frm (li 2) (.ref 449) (li 10) (.bl false), .lst [(.int .x)], .lst [(li 0)], .lst [(li 0)], .lst [], .lst [], frm (li 2) (.ref 443) (li 10) (.bl false), .lst [(.int .x)], .lst [(li 0)], .lst [(li 0)], .lst [], .lst [], frm (li 2) (.ref 437) (li 10) (.bl false), .lst [(.int .x)], .lst [(li 0)], .lst [(li 0)], .lst [], .lst [], frm (li 2) (.ref 431) (li 10) (.bl false), .lst [(.int .x)], .lst [(li 0)], .lst [(li 0)], .lst [], .lst [], frm (li 2) (.ref 425) (li 10) (.bl false), .lst [(.int .x)], .lst [(li 0)], .lst [(li 0)], .lst [], .lst [], frm (li 2) (.ref 419) (li 10) (.bl false), .lst [(.int .x)], .lst [(li 0)], .lst [(li 0)], .lst [], frm (li 1) (.ref 414) (li 9) (.bl false), .lst [(li 0)], .lst [(li 0)], .lst [(li 0)], .lst [], .lst [], .lst [], frm (li 2) (.ref 407) (li 10) (.bl false), .lst [(.int .x)], .lst [(li 0)], .lst [(li 0)], .lst [], .lst [], frm (li 2) (.ref 401) (li 10) (.bl false), .lst [(.int .x)], .lst [(li 0)], .lst [(li 0)], .lst [], .lst [], frm (li 2) (.ref 395) (li 10) (.bl false), .lst [(.int .x)], .lst [(li 0)], .lst [(li 0)], .lst [], .lst [], frm (li 2) (.ref 389) (li 10) (.bl false), .lst [(.int .x)], .lst [(li 0)], .lst [(li 0)], .lst [], .lst [], frm (li 2) (.ref 383) (li 10) (.bl false), .lst [(.int .x)], .lst [(li 0)], .lst [(li 0)], .lst [], .lst [], frm (li 2) (.ref 377) (li 10) (.bl false), .lst [(.int .x)], .lst [(li 0)], .lst [(li 0)], .lst [], .lst [], frm (li 2) (.ref 371) (li 10) (.bl false), .lst [(.int .x)], .lst [(li 0)], .lst [(li 0)], .lst [], .lst [], frm (li 2) (.ref 365) (li 10) (.bl false), .lst [(.int .x)], .lst [(li 0)], .lst [(li 0)], .lst [], .lst [], frm (li 2) (.ref 359) (li 10) (.bl false), .lst [(.int .x)], .lst [(li 0)], .lst [(li 0)], .lst [], frm (li 1) (.ref 354) (li 9) (.bl false), .lst [(li 0)], .lst [(li 0)], .lst [(li 0)], .lst [], .lst [], .lst [], frm (li 2) (.ref 347) (li 10) (.bl false), .lst [(.int .x)], .lst [(li 0)], .lst [(li 0)], .lst [], .lst [], frm (li 2) (.ref 341) (li 10) (.bl false), .lst [(.int .x)], .lst [(li 0)], .lst [(li 0)], .lst [], .lst [], frm (li 2) (.ref 335) (li 10) (.bl false), .lst [(.int .x)], .lst [(li 0)], .lst [(li 0)], .lst [], .lst [], frm (li 2) (.ref 329) (li 10) (.bl false), .lst [(.int .x)], .lst [(li 0)], .lst [(li 0)], .lst [], .lst [], frm (li 2) (.ref 323) (li 10) (.bl false), .lst [(.int .x)], .lst [(li 0)], .lst [(li 0)], .lst [], .lst [], frm (li 2) (.ref 317) (li 10) (.bl false), .lst [(.int .x)], .lst [(li 0)], .lst [(li 0)], .lst [], .lst [], frm (li 2) (.ref 311) (li 10) (.bl false), .lst [(.int .x)], .lst [(li 0)], .lst [(li 0)], .lst [], .lst [], frm (li 2) (.ref 305) (li 10) (.bl false), .lst [(.int .x)], .lst [(li 0)], .lst [(li 0)], .lst [], .lst [], frm (li 2) (.ref 299) (li 10) (.bl false), .lst [(.int .x)], .lst [(li 0)], .lst [(li 0)], .lst [], frm (li 1) (.ref 294) (li 9) (.bl false), .lst [(li 0)], .lst [(li 0)], .lst [(li 0)], .lst [], .lst [], .lst [], frm (li 2) (.ref 287) (li 10) (.bl false), .lst [(.int .x)], .lst [(li 0)], .lst [(li 0)], .lst [], .lst [], frm (li 2) (.ref 281) (li 10) (.bl false), .lst [(.int .x)], .lst [(li 0)], .lst [(li 0)], .lst [], .lst [], frm (li 2) (.ref 275) (li 10) (.bl false), .lst [(.int .x)], .lst [(li 0)], .lst [(li 0)], .lst [], .lst [], frm (li 2) (.ref 269) (li 10) (.bl false), .lst [(.int .x)], .lst [(li 0)], .lst [(li 0)], .lst [], .lst [], frm (li 2) (.ref 263) (li 10) (.bl false), .lst [(.int .x)], .lst [(li 0)], .lst [(li 0)], .lst [], .lst [], frm (li 2) (.ref 257) (li 10) (.bl false), .lst [(.int .x)], .lst [(li 0)], .lst [(li 0)], .lst [], .lst [], frm (li 2) (.ref 251) (li 10) (.bl false), .lst [(.int .x)], .lst [(li 0)], .lst [(li 0)], .lst [], .lst [], frm (li 2) (.ref 245) (li 10) (.bl false), .lst [(.int .x)], .lst [(li 0)], .lst [(li 0)], .lst [], .lst [], frm (li 2) (.ref 239) (li 10) (.bl false), .lst [(.int .x)], .lst [(li 0)], .lst [(li 0)], .lst [], frm (li 1) (.ref 234) (li 9) (.bl false), .lst [(li 0)], .lst [(li 0)], .lst [(li 0)], .lst [], .lst [], .lst [], frm (li 2) (.ref 227) (li 10) (.bl false), .lst [(.int .x)], .lst [(li 0)], .lst [(li 0)], .lst [], .lst [], frm (li 2) (.ref 221) (li 10) (.bl false), .lst [(.int .x)], .lst [(li 0)], .lst [(li 0)], .lst [], .lst [], frm (li 2) (.ref 215) (li 10) (.bl false), .lst [(.int .x)], .lst [(li 0)], .lst [(li 0)], .lst [], .lst [], frm (li 2) (.ref 209) (li 10) (.bl false), .lst [(.int .x)], .lst [(li 0)], .lst [(li 0)], .lst [], .lst [], frm (li 2) (.ref 203) (li 10) (.bl false), .lst [(.int .x)], .lst [(li 0)], .lst [(li 0)], .lst [], .lst [], frm (li 2) (.ref 197) (li 10) (.bl false), .lst [(.int .x)], .lst [(li 0)], .lst [(li 0)], .lst [], .lst [], frm (li 2) (.ref 191) (li 10) (.bl false), .lst [(.int .x)], .lst [(li 0)], .lst [(li 0)], .lst [], .lst [], frm (li 2) (.ref 185) (li 10) (.bl false), .lst [(.int .x)], .lst [(li 0)], .lst [(li 0)], .lst [], .lst [], frm (li 2) (.ref 179) (li 10) (.bl false), .lst [(.int .x)], .lst [(li 0)], .lst [(li 0)], .lst [], frm (li 1) (.ref 174) (li 9) (.bl false), .lst [(li 0)], .lst [(li 0)], .lst [(li 0)], .lst [], .lst [], .lst [], frm (li 2) (.ref 167) (li 10) (.bl false), .lst [(.int .x)], .lst [(li 0)], .lst [(li 0)], .lst [], .lst [], frm (li 2) (.ref 161) (li 10) (.bl false), .lst [(.int .x)], .lst [(li 0)], .lst [(li 0)], .lst [], .lst [], frm (li 2) (.ref 155) (li 10) (.bl false), .lst [(.int .x)], .lst [(li 0)], .lst [(li 0)], .lst [], .lst [], frm (li 2) (.ref 149) (li 10) (.bl false), .lst [(.int .x)], .lst [(li 0)], .lst [(li 0)], .lst [], .lst [], frm (li 2) (.ref 143) (li 10) (.bl false), .lst [(.int .x)], .lst [(li 0)], .lst [(li 0)], .lst [], .lst [], frm (li 2) (.ref 137) (li 10) (.bl false), .lst [(.int .x)], .lst [(li 0)], .lst [(li 0)], .lst [], .lst [], frm (li 2) (.ref 131) (li 10) (.bl false), .lst [(.int .x)], .lst [(li 0)], .lst [(li 0)], .lst [], .lst [], frm (li 2) (.ref 125) (li 10) (.bl false), .lst [(.int .x)], .lst [(li 0)], .lst [(li 0)], .lst [], .lst [], frm (li 2) (.ref 119) (li 10) (.bl false), .lst [(.int .x)], .lst [(li 0)], .lst [(li 0)], .lst [], frm (li 1) (.ref 114) (li 9) (.bl false), .lst [(li 0)], .lst [(li 0)], .lst [(li 0)], .lst [], .lst [], .lst [], frm (li 2) (.ref 107) (li 10) (.bl false), .lst [(.int .x)], .lst [(li 0)], .lst [(li 0)], .lst [], .lst [], frm (li 2) (.ref 101) (li 10) (.bl false), .lst [(.int .x)], .lst [(li 0)], .lst [(li 0)], .lst [], .lst [], frm (li 2) (.ref 95) (li 10) (.bl false), .lst [(.int .x)], .lst [(li 0)], .lst [(li 0)], .lst [], .lst [], frm (li 2) (.ref 89) (li 10) (.bl false), .lst [(.int .x)], .lst [(li 0)], .lst [(li 0)], .lst [], .lst [], frm (li 2) (.ref 83) (li 10) (.bl false), .lst [(.int .x)], .lst [(li 0)], .lst [(li 0)], .lst [], .lst [], frm (li 2) (.ref 77) (li 10) (.bl false), .lst [(.int .x)], .lst [(li 0)], .lst [(li 0)], .lst [], .lst [], frm (li 2) (.ref 71) (li 10) (.bl false), .lst [(.int .x)], .lst [(li 0)], .lst [(li 0)], .lst [], .lst [], frm (li 2) (.ref 65) (li 10) (.bl false), .lst [(.int .x)], .lst [(li 0)], .lst [(li 0)], .lst [], .lst [], frm (li 2) (.ref 59) (li 10) (.bl false), .lst [(.int .x)], .lst [(li 0)], .lst [(li 0)], .lst [], frm (li 1) (.ref 54) (li 9) (.bl false), .lst [(li 0)], .lst [(li 0)], .lst [(li 0)], .lst [], .lst [], .lst [(.ref 48)], frm (li 0) (.ref 47) (li 9) (.bl true), .lst [(li 0), (li 0)], .lst [(li 0)], .lst [], .dic [((.str ⟨⟨[109, 97, 105, 110]⟩⟩), (li 0)), ((.str ⟨⟨[102]⟩⟩), (li 1)), ((.str ⟨⟨[103, 103]⟩⟩), (li 2))] 0, .ins 3 [(⟨⟨[112, 114, 111, 103, 114, 97, 109]⟩⟩, (heavyP .x)), (⟨⟨[110, 117, 109, 98, 101, 114, 115]⟩⟩, (.ref 44)), (⟨⟨[105, 110, 112, 117, 116, 115]⟩⟩, (.ref 45)), (⟨⟨[116, 97, 107, 101, 110]⟩⟩, (li 0)), (⟨⟨[102, 114, 97, 109, 101, 115]⟩⟩, (.ref 49)), (⟨⟨[115, 104, 111, 119, 110]⟩⟩, (.ref 50)), (⟨⟨[99, 97, 114, 114, 105, 101, 100]⟩⟩, (li 900)), (⟨⟨[101, 110, 100]⟩⟩, (.tup [(.str ⟨⟨[119, 114, 111, 110, 103]⟩⟩), (li 0), (li 9)]))], .lst [], .lst [(.bl true), (.bl true), (.bl true)], .lst [], .lst [], .lst [], .lst [], .lst [], .lst [(li 0), (li 0), (li 0), (li 0), (li 0), (li 0), (li 0), (li 0), (li 0)], .lst [], .lst [], .lst [], .lst [(li 0), (li 0), (li 0), (li 0), (li 0), (li 0), (li 0), (li 0), (li 0)], .lst [], .lst [], .lst [(.bl true), (.bl true), (.bl true), (.bl true), (.bl true), (.bl true), (.bl true), (.bl true), (.bl true), (.bl true), (.bl true), (.bl true), (.bl true), (.bl true), (.bl true), (.bl true), (.bl true), (.bl true)], .lst [(.tup [(.str ⟨⟨[99, 97, 108, 108]⟩⟩), (li 0), (.str ⟨⟨[102]⟩⟩), (.tup [])]), (.tup [(.str ⟨⟨[99, 97, 108, 108]⟩⟩), (li 0), (.str ⟨⟨[102]⟩⟩), (.tup [])]), (.tup [(.str ⟨⟨[99, 97, 108, 108]⟩⟩), (li 0), (.str ⟨⟨[102]⟩⟩), (.tup [])]), (.tup [(.str ⟨⟨[99, 97, 108, 108]⟩⟩), (li 0), (.str ⟨⟨[102]⟩⟩), (.tup [])]), (.tup [(.str ⟨⟨[99, 97, 108, 108]⟩⟩), (li 0), (.str ⟨⟨[102]⟩⟩), (.tup [])]), (.tup [(.str ⟨⟨[99, 97, 108, 108]⟩⟩), (li 0), (.str ⟨⟨[102]⟩⟩), (.tup [])]), (.tup [(.str ⟨⟨[99, 97, 108, 108]⟩⟩), (li 0), (.str ⟨⟨[102]⟩⟩), (.tup [])]), (.tup [(.str ⟨⟨[99, 97, 108, 108]⟩⟩), (li 0), (.str ⟨⟨[102]⟩⟩), (.tup [])]), (.tup [(.str ⟨⟨[99, 97, 108, 108]⟩⟩), (li 0), (.str ⟨⟨[102]⟩⟩), (.tup [])]), (.tup [(.str ⟨⟨[99, 97, 108, 108]⟩⟩), (li 0), (.str ⟨⟨[103, 103]⟩⟩), (.tup [])]), (.tup [(.str ⟨⟨[99, 97, 108, 108]⟩⟩), (li 0), (.str ⟨⟨[103, 103]⟩⟩), (.tup [])]), (.tup [(.str ⟨⟨[99, 97, 108, 108]⟩⟩), (li 0), (.str ⟨⟨[103, 103]⟩⟩), (.tup [])]), (.tup [(.str ⟨⟨[99, 97, 108, 108]⟩⟩), (li 0), (.str ⟨⟨[103, 103]⟩⟩), (.tup [])]), (.tup [(.str ⟨⟨[99, 97, 108, 108]⟩⟩), (li 0), (.str ⟨⟨[103, 103]⟩⟩), (.tup [])]), (.tup [(.str ⟨⟨[99, 97, 108, 108]⟩⟩), (li 0), (.str ⟨⟨[103, 103]⟩⟩), (.tup [])]), (.tup [(.str ⟨⟨[99, 97, 108, 108]⟩⟩), (li 0), (.str ⟨⟨[103, 103]⟩⟩), (.tup [])]), (.tup [(.str ⟨⟨[99, 97, 108, 108]⟩⟩), (li 0), (.str ⟨⟨[103, 103]⟩⟩), (.tup [])]), (.tup [(.str ⟨⟨[99, 97, 108, 108]⟩⟩), (li 0), (.str ⟨⟨[103, 103]⟩⟩), (.tup [])])], .dic [((.str ⟨⟨[109, 97, 105, 110]⟩⟩), (li 0)), ((.str ⟨⟨[102]⟩⟩), (li 0)), ((.str ⟨⟨[103, 103]⟩⟩), (li 0))] 0, .lst [(.bl true), (.bl true), (.bl true)], .lst [(.bl true), (.bl true), (.bl true), (.bl true), (.bl true), (.bl true), (.bl true), (.bl true), (.bl true), (.bl true)], .lst [(.bl true), (.bl true)], .lst [(.bl true), (.bl true), (.bl true), (.bl true), (.bl true), (.bl true), (.bl true), (.bl true), (.bl true)], .lst [], .lst [], .lst [], .lst [], .lst [], .lst [], .lst [], .lst [], .lst [], .lst [(.bl true)], .lst [(.bl true), (.bl true), (.bl true), (.bl true), (.bl true), (.bl true), (.bl true), (.bl true), (.bl true), (.bl true)], .lst [], .lst [], .lst [], .lst [], .lst [], .lst [], .lst [], .lst [], .lst [], .lst [(.bl true), (.bl true), (.bl true), (.bl true)], .lst []]
end
end Pz
set_option Elab.async false
set_option linter.all false
set_option maxRecDepth 100000
set_option maxHeartbeats 0
namespace Pz
open PySem
/-! a while loop, some turns of it at once -/
section
variable {I : Type} [IOps I] {G : Pg I} {d : Nat} {c : Ex I} {b : List (St I)}
noncomputable def itrF (G : Pg I) (d : Nat) (c : Ex I) (b : List (St I)) : Nat → Nat → Env I → Sto I → Rs I (Env I)
  | 0, _ => fun t S => .ok t S
  | k + 1, m => fun t S => match (evN G (m + k)).e d c t S with
    | .ok (.bl true) S1 => (match (evN G (m + k)).ss d b t S1 with
      | .ok (.nx, t') S2 => itrF G d c b k m t' S2
      | _ => .bad)
    | _ => .bad
theorem itrF_whl {m : Nat} : ∀ {k : Nat} {t t' : Env I} {S S' : Sto I}, itrF G d c b k m t S = .ok t' S' → (evN G (m + k)).s d (.whl c b) t S = (evN G m).s d (.whl c b) t' S'
  | 0, t, t', S, S', h => by cases h; rfl
  | k + 1, t, t', S, S', h => by
    unfold itrF at h
    split at h
    · rename_i S1 h1
      split at h
      · rename_i t2 S2 h2
        rw [← itrF_whl h]
        show s_whl (evN G (m + k)) d c b t S = _
        unfold s_whl
        rw [h1]
        show ((evN G (m + k)).ss d b t S1).bind _ = _
        rw [h2]
        rfl
      · cases h
    · cases h
theorem ES.whlN {N k : Nat} {t t' : Env I} {S S' S2 : Sto I} {r : Fl I × Env I} (h : ∀ m, itrF G d c b k (m + N) t S = .ok t' S') (h2 : ES G d (.whl c b) t' S' r S2) : ES G d (.whl c b) t S r S2 := by
  obtain ⟨q, hq⟩ := h2
  refine ⟨q + N + k, fun m hm => ?_⟩
  obtain ⟨j, rfl⟩ : ∃ j, m = (q + j + N) + k := ⟨m - q - N - k, by omega⟩
  rw [itrF_whl (h (q + j))]
  exact hq _ (by omega)
end
abbrev GS : Pg (SI 0 65535) := G0
def gWc : Ex (SI 0 65535) := (.cmp .is (.fld (.var 0) ⟨⟨[101, 110, 100]⟩⟩) (.cst .non))
def gWb : List (St (SI 0 65535)) := [(.expr (.mth (.var 0) ⟨⟨[115, 116, 101, 112]⟩⟩ [] none))]
def hP : Val (SI 0 65535) := heavyP .x
end Pz
set_option Elab.async false
set_option linter.all false
set_option maxRecDepth 100000
set_option maxHeartbeats 0
namespace Pz
open PySem
theorem hrun1 : ∀ m, itrF GS 16 gWc gWb 330 (m + 3000) [some (.ref 43)] (stL hs0) = .ok [some (.ref 43)] (stL hs1) := fun m => by kernel_rfl
end Pz
set_option Elab.async false
set_option linter.all false
set_option maxRecDepth 100000
set_option maxHeartbeats 0
namespace Pz
open PySem
theorem hrun2 : ∀ m, itrF GS 16 gWc gWb 330 (m + 3000) [some (.ref 43)] (stL hs1) = .ok [some (.ref 43)] (stL hs2) := fun m => by kernel_rfl
end Pz
set_option Elab.async false
set_option linter.all false
set_option maxRecDepth 100000
set_option maxHeartbeats 0
namespace Pz
open PySem
theorem hrun3 : ∀ m, itrF GS 16 gWc gWb 331 (m + 3000) [some (.ref 43)] (stL hs2) = .ok [some (.ref 43)] (stL hs3) := fun m => by kernel_rfl
end Pz
set_option Elab.async false
set_option linter.all false
set_option maxRecDepth 100000
set_option maxHeartbeats 0
namespace Pz
open PySem
section
variable {lo hi : Int}
def clRS : Cl := T0.cls.getD 3 ⟨0, []⟩
theorem hcRS : GS.cls[3]? = some clRS := by kernel_rfl
def hRunF (k : Int) (e : Val (SI 0 65535)) : List (Str × Val (SI 0 65535)) := [(⟨⟨[112, 114, 111, 103, 114, 97, 109]⟩⟩, hP), (⟨⟨[110, 117, 109, 98, 101, 114, 115]⟩⟩, .ref 44), (⟨⟨[105, 110, 112, 117, 116, 115]⟩⟩, .ref 45), (⟨⟨[116, 97, 107, 101, 110]⟩⟩, li 0), (⟨⟨[102, 114, 97, 109, 101, 115]⟩⟩, .ref 49), (⟨⟨[115, 104, 111, 119, 110]⟩⟩, .ref 50), (⟨⟨[99, 97, 114, 114, 105, 101, 100]⟩⟩, li k), (⟨⟨[101, 110, 100]⟩⟩, e)]
def hEnd : Val (SI 0 65535) := .tup [wrongV, li 0, li 9]
def S0h : Sto (SI 0 65535) := stL [.lst []]
theorem q1h : ECl GS 18 10 [hP] S0h .non (stL hsA) := .mk1 3000 fun m => by kernel_rfl
theorem q2h : ECl GS 18 3 [.ref 0] (stL hsA) .non (stL hsB) := .mk1 3000 fun m => by kernel_rfl
theorem q3h : EE GS 17 (.new 3 [.var 0, .var 1] none) [some hP, some (.ref 0), none] (stL hsB) (.ref 43) (stL hs0) := .mkN 3000 fun m => by kernel_rfl
theorem q4h : ∃ fs, (stL (hs0 (lo := 0) (hi := 65535))).get 43 = some (.ins 3 fs) ∧ lookS ⟨⟨[114, 117, 110, 95, 111, 110]⟩⟩ fs = none := ⟨hRunF 0 .non, by kernel_rfl, by kernel_rfl⟩
theorem q5h : ∃ fs, (stL (hs3 (lo := 0) (hi := 65535))).get 43 = some (.ins 3 fs) ∧ lookS ⟨⟨[101, 110, 100]⟩⟩ fs = some hEnd ∧ lookS ⟨⟨[115, 104, 111, 119, 110]⟩⟩ fs = some (.ref 50) := ⟨hRunF 900 hEnd, by kernel_rfl, by kernel_rfl, by kernel_rfl⟩
theorem q6h : (stL (hs3 (lo := 0) (hi := 65535))).next = 591 := by kernel_rfl
theorem q7h : eqV ((stL (hs3 (lo := 0) (hi := 65535))).new (.lst [])) (.tup [hEnd, .ref 50]) (.tup [hEnd, .ref 591]) = some true := by kernel_rfl
theorem f45S : GS.fns[45]? = some g45 := by rfl
theorem f46S : GS.fns[46]? = some g46 := by rfl
theorem f47S : GS.fns[47]? = some g47 := by rfl
theorem loopH : ES GS 16 (.whl gWc gWb) [some (.ref 43)] (stL hs0) (.nx, [some (.ref 43)]) (stL hs3) := by
  obtain ⟨fs, e1, e2, e3⟩ := q5h
  exact .whlN hrun1 (.whlN hrun2 (.whlN hrun3 (.whlF (.cmp (v := hEnd) (u := .non) (.fld (.var rfl) e1 e2) .cst rfl))))
theorem onH : ECl GS 17 45 [.ref 43] (stL hs0) .non (stL hs3) := .nx f45S rfl (t' := [some (.ref 43)]) (.cons loopH .nil)
theorem plainH : ECl GS 18 46 [hP, .ref 0] (stL hsB) (.ref 43) (stL hs3) := by
  obtain ⟨fs, e1, e2⟩ := q4h
  exact .rt f46S rfl (t' := [some hP, some (.ref 0), some (.ref 43)]) (.cons (.set q3h) (.cons (.expr (v := .non) (.mth (cl := clRS) (.var rfl) e1 e2 .nil hcRS rfl onH)) (.rt (.ret (.var rfl)))))
theorem runH : ECl GS 19 47 [hP, .ref 0] S0h (.tup [hEnd, .ref 50]) (stL hs3) := by
  obtain ⟨fs, e1, e2, e3⟩ := q5h
  refine .rt f47S rfl (t' := [some hP, some (.ref 0), some (.ref 43)]) ?_
  refine .cons (.expr (.call (.one (.var rfl)) q1h)) ?_
  refine .cons (.expr (.call (.one (.var rfl)) q2h)) ?_
  refine .cons (.set (.call (.cons (.var rfl) (.one (.var rfl))) plainH)) ?_
  exact .rt (.ret (.tup (vs := [hEnd, .ref 50]) (.cons (.fld (.var rfl) e1 e2) (.one (.fld (.var rfl) e1 e3))) rfl))
theorem retH : ES GS 19 hv4 [none, none, none, some hP, some (.tup [wrongV, .ref 0])] S0h (.rt (.bl true), [none, none, none, some hP, some (.tup [wrongV, .ref 0])]) ((stL hs3).new (.lst [])) := by
  have z : (stL (hs3 (lo := 0) (hi := 65535))).next < 1000000000 := by rw [q6h]; decide
  have fr : guard (I := SI 0 65535) (A := Val (SI 0 65535)) true (fresh (stL hs3) (.lst [])) = .ok (.ref 591) ((stL hs3).new (.lst [])) := by
    show fresh (stL hs3) (.lst []) = _
    rw [fresh_ok z, q6h]
  refine .ret (.andT (S1 := S0h) (.cmp (v := wrongV) (u := wrongV) (.idx (v := .tup [wrongV, .ref 0]) (u := li 0) (.var rfl) .cst rfl) .cst rfl) (.cmp (v := .tup [hEnd, .ref 50]) (u := .tup [hEnd, .ref 591]) (.call (vs := [hP, .ref 0]) (.cons (.var rfl) (.one (.idx (v := .tup [wrongV, .ref 0]) (u := li 1) (.var rfl) .cst rfl))) runH) (.tup (vs := [hEnd, .ref 591]) (.cons (.tup (vs := [wrongV, li 0, li 9]) (.cons .cst (.cons .cst (.one .cst))) rfl) (.one (.lst (vs := []) .nil fr))) rfl) q7h))
end
end Pz
set_option Elab.async false
set_option linter.all false
set_option maxRecDepth 100000
set_option maxHeartbeats 4000000
/-! a run that goes a thousand frames deep, by hand -/
namespace Pz
open PySem (Str)
abbrev G12 : Pg Int := T0.pg 80 60
def gFrame : Fn Int := ⟨3, 3, [(.setF (.var 0) ⟨⟨[110, 117, 109, 98, 101, 114]⟩⟩ (.var 1)), (.setF (.var 0) ⟨⟨[119, 111, 114, 100, 115]⟩⟩ (.var 2)), (.setF (.var 0) ⟨⟨[112, 108, 97, 99, 101]⟩⟩ (.cst (ii 0))), (.setF (.var 0) ⟨⟨[105, 115, 95, 116, 104, 101, 114, 101]⟩⟩ (.cst (.bl true)))]⟩
def gCall : Fn Int := ⟨3, 6, [(.ifs (.cmp .eq (.bif .len [(.fld (.var 0) ⟨⟨[102, 114, 97, 109, 101, 115]⟩⟩)]) (.cst (ii 1000))) [(.setF (.var 0) ⟨⟨[101, 110, 100]⟩⟩ (.cst (.str ⟨⟨[100, 101, 101, 112]⟩⟩))), .retN] []), (.set 3 (.idx (.fld (.var 0) ⟨⟨[110, 117, 109, 98, 101, 114, 115]⟩⟩) (.idx (.var 2) (.cst (ii 2))))), (.set 4 (.lc (.idx (.fld (.var 1) ⟨⟨[119, 111, 114, 100, 115]⟩⟩) (.var 5)) (.nm 5) (.ex (.idx (.var 2) (.cst (ii 3)))) none [5])), (.expr (.bmt (.fld (.var 0) ⟨⟨[102, 114, 97, 109, 101, 115]⟩⟩) .append [(.new 1 [(.var 3), (.bin .add (.var 4) (.bin .mul (.lst [(.cst (ii 0))]) (.bin .sub (.idx (.idx (.fld (.var 0) ⟨⟨[112, 114, 111, 103, 114, 97, 109]⟩⟩) (.var 3)) (.cst (ii 2))) (.bif .len [(.var 4)]))))] none)]))]⟩
def gStep : Fn Int := ⟨1, 4, [(.set 1 (.idx (.fld (.var 0) ⟨⟨[102, 114, 97, 109, 101, 115]⟩⟩) (.neg (.cst (ii 1))))), (.set 2 (.idx (.idx (.fld (.var 0) ⟨⟨[112, 114, 111, 103, 114, 97, 109]⟩⟩) (.fld (.var 1) ⟨⟨[110, 117, 109, 98, 101, 114]⟩⟩)) (.cst (ii 3)))), (.ifs (.cmp .eq (.fld (.var 1) ⟨⟨[112, 108, 97, 99, 101]⟩⟩) (.bif .len [(.var 2)])) [(.expr (.mth (.var 0) ⟨⟨[103, 105, 118, 101, 95, 98, 97, 99, 107]⟩⟩ [(.cst (ii 0))] none)), .retN] []), (.set 3 (.idx (.var 2) (.fld (.var 1) ⟨⟨[112, 108, 97, 99, 101]⟩⟩))), (.ifs (.mth (.var 0) ⟨⟨[105, 115, 95, 119, 114, 111, 110, 103]⟩⟩ [(.var 1), (.var 3)] none) [(.setF (.var 0) ⟨⟨[101, 110, 100]⟩⟩ (.tup [(.cst (.str ⟨⟨[119, 114, 111, 110, 103]⟩⟩)), (.fld (.var 1) ⟨⟨[110, 117, 109, 98, 101, 114]⟩⟩), (.fld (.var 1) ⟨⟨[112, 108, 97, 99, 101]⟩⟩)]))] [(.ifs (.cmp .eq (.fld (.var 0) ⟨⟨[99, 97, 114, 114, 105, 101, 100]⟩⟩) (.cst (ii 20000))) [(.setF (.var 0) ⟨⟨[101, 110, 100]⟩⟩ (.cst (.str ⟨⟨[108, 111, 110, 103]⟩⟩)))] [(.ifs (.cmp .in (.idx (.var 3) (.cst (ii 0))) (.tup [(.cst (.str ⟨⟨[105, 110, 112, 117, 116]⟩⟩)), (.cst (.str ⟨⟨[116, 117, 114, 110]⟩⟩))])) [(.expr (.mth (.var 0) ⟨⟨[116, 97, 107, 101, 95, 105, 110, 112, 117, 116]⟩⟩ [(.var 1), (.var 3)] none))] [(.augF (.var 0) ⟨⟨[99, 97, 114, 114, 105, 101, 100]⟩⟩ .add (.cst (ii 1))), (.ifs (.cmp .eq (.idx (.var 3) (.cst (ii 0))) (.cst (.str ⟨⟨[99, 97, 108, 108]⟩⟩))) [(.expr (.mth (.var 0) ⟨⟨[99, 97, 108, 108]⟩⟩ [(.var 1), (.var 3)] none))] [(.ifs (.cmp .eq (.idx (.var 3) (.cst (ii 0))) (.cst (.str ⟨⟨[114, 101, 116, 117, 114, 110]⟩⟩))) [(.expr (.mth (.var 0) ⟨⟨[103, 105, 118, 101, 95, 98, 97, 99, 107]⟩⟩ [(.idx (.fld (.var 1) ⟨⟨[119, 111, 114, 100, 115]⟩⟩) (.idx (.var 3) (.cst (ii 1))))] none))] [(.expr (.mth (.var 0) ⟨⟨[115, 105, 109, 112, 108, 101]⟩⟩ [(.var 1), (.var 3)] none))])])])])])]⟩
def gOn : Fn Int := ⟨1, 1, [(.whl (.cmp .is (.fld (.var 0) ⟨⟨[101, 110, 100]⟩⟩) (.cst .non)) [(.expr (.mth (.var 0) ⟨⟨[115, 116, 101, 112]⟩⟩ [] none))])]⟩
theorem hFrame : G12.fns[34]? = some gFrame := by kernel_rfl
theorem hCall : G12.fns[40]? = some gCall := by kernel_rfl
theorem hStep : G12.fns[43]? = some gStep := by kernel_rfl
theorem hOn : G12.fns[45]? = some gOn := by kernel_rfl
def clF : Cl := ⟨34, []⟩
theorem hcF : G12.cls[1]? = some clF := by kernel_rfl
def clR : Cl := G12.cls.getD 3 clF
theorem hcR : G12.cls[3]? = some clR := by kernel_rfl
def oneC : Val Int := .tup [.str ⟨⟨[99, 97, 108, 108]⟩⟩, ii 0, .str ⟨⟨[102]⟩⟩, .tup []]
def oneL : Val Int := .tup [.str ⟨⟨[108, 111, 97, 100]⟩⟩, ii 1, ii 0]
def progN : Val Int := .tup [.tup [.str ⟨⟨[109, 97, 105, 110]⟩⟩, ii 0, ii 2, .tup [oneC, oneL]], .tup [.str ⟨⟨[102]⟩⟩, ii 0, ii 1, .tup [oneC]]]
def numL : List (Val Int × Val Int) := [(.str ⟨⟨[109, 97, 105, 110]⟩⟩, ii 0), (.str ⟨⟨[102]⟩⟩, ii 1)]
def runF (N J F sh : Nat) (k : Int) (e : Val Int) : List (Str × Val Int) := [(⟨⟨[112, 114, 111, 103, 114, 97, 109]⟩⟩, progN), (⟨⟨[110, 117, 109, 98, 101, 114, 115]⟩⟩, .ref N), (⟨⟨[105, 110, 112, 117, 116, 115]⟩⟩, .ref J), (⟨⟨[116, 97, 107, 101, 110]⟩⟩, ii 0), (⟨⟨[102, 114, 97, 109, 101, 115]⟩⟩, .ref F), (⟨⟨[115, 104, 111, 119, 110]⟩⟩, .ref sh), (⟨⟨[99, 97, 114, 114, 105, 101, 100]⟩⟩, ii k), (⟨⟨[101, 110, 100]⟩⟩, e)]
def frameF (n : Int) (w : Nat) : List (Str × Val Int) := [(⟨⟨[110, 117, 109, 98, 101, 114]⟩⟩, ii n), (⟨⟨[119, 111, 114, 100, 115]⟩⟩, .ref w), (⟨⟨[112, 108, 97, 99, 101]⟩⟩, ii 0), (⟨⟨[105, 115, 95, 116, 104, 101, 114, 101]⟩⟩, .bl true)]
theorem isw {d : Nat} {S : Sto Int} {R a : Nat} : ECl G12 (d + 2) 41 [.ref R, .ref a, oneC] S (.bl false) S := .mk1 30 fun m => by kernel_rfl
end Pz
set_option Elab.async false
set_option linter.all false
set_option maxRecDepth 100000
set_option maxHeartbeats 4000000
namespace Pz
open PySem (Str)
section
variable {G : Pg Int} {d : Nat} {t : Env Int} {S S1 S2 : Sto Int}
theorem EE.lcNil {g : Tg} {x a : Ex Int} {c : Option (Ex Int)} {own : List Nat} (ha : EE G d a t S (.tup []) S1) (hz : S1.next < 1000000000) : EE G d (.lc x g (.ex a) c own) t S (.ref S1.next) (S1.new (.lst [])) := by
  obtain ⟨n1, k1⟩ := ha
  refine .mk1 (n1 + 1) fun m hm => ?_
  obtain ⟨k, rfl⟩ : ∃ k, m = k + 1 := ⟨m - 1, by omega⟩
  show (((evN G (k + 1)).e d a t S).bind (fun v S1 => srcV v S1)).bind (fun s S1 => (unlock s.2 ((evN G (k + 1)).cp d s.1 0 g c x (wipe own t) [] S1)).bind fun vs S2 => fresh S2 (.lst vs)) = _
  rw [k1 (k + 1) (by omega)]
  show fresh S1 (.lst []) = _
  exact fresh_ok hz
theorem EE.neg1 {e : Ex Int} {i : Int} (h : EE G d e t S (ii i) S1) : EE G d (.neg e) t S (ii (0 - i)) S1 := by
  obtain ⟨n1, k1⟩ := h
  refine .mk1 n1 fun m hm => ?_
  show ((evN G m).e d e t S).bind _ = _
  rw [k1 m hm]
  rfl
theorem EE.sub {e f : Ex Int} {a b : Int} (he : EE G d e t S (ii a) S1) (hf : EE G d f t S1 (ii b) S2) : EE G d (.bin .sub e f) t S (ii (a - b)) S2 := .bin he hf rfl
theorem mul_lst {x : Nat} {xs : List (Val Int)} {j : Int} (h : S.get x = some (.lst xs)) (h0 : 0 ≤ j) (h1 : j ≤ 1000000) (hl : okL (rep xs j.toNat) = true) (hz : S.next < 1000000000) : binV .mul (.ref x) (ii j) S = .ok (.ref S.next) (S.new (.lst (rep xs j.toNat))) := by
  unfold binV
  simp only [h]
  show (match decide (0 ≤ j) && decide (j ≤ 1000000) && okL (rep xs j.toNat) with | true => fresh S (.lst (rep xs j.toNat)) | false => Rs.bad) = _
  rw [decide_eq_true h0, decide_eq_true h1, hl]
  exact fresh_ok hz
theorem add_lst {x y : Nat} {xs ys : List (Val Int)} (h : S.get x = some (.lst xs)) (h2 : S.get y = some (.lst ys)) (hl : okL (xs ++ ys) = true) (hz : S.next < 1000000000) : binV .add (.ref x) (.ref y) S = .ok (.ref S.next) (S.new (.lst (xs ++ ys))) := by
  unfold binV
  simp only [h, h2, hl]
  exact fresh_ok hz
theorem last_at {x : Nat} {xs : List (Val Int)} {v : Val Int} (h : S.get x = some (.lst (xs ++ [v]))) : getV S (.ref x) (ii (0 - 1)) = some v := by
  unfold getV
  simp only [h]
  show (match place (xs ++ [v]).length (0 - 1) with | some j => (xs ++ [v])[j]? | none => none) = _
  have : place (xs ++ [v]).length (0 - 1) = some xs.length := by
    unfold place
    rw [if_neg (by omega), List.length_append, if_pos (by simp; omega)]
    congr 1
    simp
    omega
  rw [this]
  simp
theorem app_ok {x : Nat} {xs : List (Val Int)} {v : Val Int} (h : S.get x = some (.lst xs)) (hl : xs.length < 10000) : bmV .append (.ref x) [v] S = .ok .non (S.set x (.lst (xs ++ [v]))) := by
  show (opt (lstAt (.ref x) S) fun p => opt (arg1 [v]) fun v => guard (okL p.2) (Rs.ok Val.non (S.set p.1 (.lst (p.2 ++ [v]))))) = _
  have : lstAt (.ref x) S = some (x, xs) := by
    unfold lstAt
    simp only [h]
  rw [this]
  show guard (okL xs) _ = _
  have : okL xs = true := Nat.ble_eq_true_of_le (by omega)
  rw [this]
  rfl
end
theorem gset {S : Sto Int} {x y : Nat} {o : Ob Int} (hx : x < S.next) (hz : S.next ≤ 1000000000) (h : y ≠ x) : (S.set x o).get y = S.get y := by
  rw [Sto.get_set (by omega), if_neg h]
theorem gsame {S : Sto Int} {x : Nat} {o : Ob Int} (hx : x < S.next) (hz : S.next ≤ 1000000000) : (S.set x o).get x = some o := by
  rw [Sto.get_set (by omega), if_pos rfl]
/-- Frame(n, words) -/
theorem frame_new {d : Nat} {S : Sto Int} {n : Int} {w p : Nat} (hp : S.get p = some (.ins 1 [])) (lp : p < S.next) (hz : S.next ≤ 1000000000) :
    ∃ S', ECl G12 (d + 1) 34 [.ref p, ii n, .ref w] S .non S' ∧ S'.next = S.next ∧ S'.get p = some (.ins 1 (frameF n w)) ∧ ∀ x, x ≠ p → S'.get x = S.get x := by
  let A := S.set p (.ins 1 (putS ⟨⟨[110, 117, 109, 98, 101, 114]⟩⟩ (ii n) []))
  let B := A.set p (.ins 1 (putS ⟨⟨[119, 111, 114, 100, 115]⟩⟩ (.ref w) (putS ⟨⟨[110, 117, 109, 98, 101, 114]⟩⟩ (ii n) [])))
  let C := B.set p (.ins 1 (putS ⟨⟨[112, 108, 97, 99, 101]⟩⟩ (ii 0) (putS ⟨⟨[119, 111, 114, 100, 115]⟩⟩ (.ref w) (putS ⟨⟨[110, 117, 109, 98, 101, 114]⟩⟩ (ii n) []))))
  let D := C.set p (.ins 1 (frameF n w))
  have a : A.get p = _ := gsame lp hz
  have b : B.get p = _ := gsame (S := A) lp hz
  have c : C.get p = _ := gsame (S := B) lp hz
  have e : D.get p = _ := gsame (S := C) lp hz
  refine ⟨D, .nx hFrame rfl (t' := [some (.ref p), some (ii n), some (.ref w)]) ?_, rfl, e, fun x hx => ?_⟩
  · refine .cons (.setF (.var rfl) (.var rfl) hp (by decide)) ?_
    refine .cons (.setF (.var rfl) (.var rfl) a (show 1 < 1000 by decide)) ?_
    refine .cons (.setF .cst (.var rfl) b (show 2 < 1000 by decide)) ?_
    exact .cons (.setF .cst (.var rfl) c (show 3 < 1000 by decide)) .nil
  · show D.get x = _
    rw [gset (S := C) lp hz hx, gset (S := B) lp hz hx, gset (S := A) lp hz hx, gset lp hz hx]
/-- the run, some frames deep -/
structure DI (S : Sto Int) (R F N J sh : Nat) (k : Nat) : Prop where
  run : S.get R = some (.ins 3 (runF N J F sh k .non))
  fr : ∃ xs a n w, S.get F = some (.lst (xs ++ [.ref a])) ∧ xs.length = k ∧ S.get a = some (.ins 1 (frameF n w)) ∧ (n = 0 ∨ n = 1) ∧ a ≠ R ∧ a ≠ F ∧ a < S.next
  num : S.get N = some (.dic numL 0)
  shn : S.get sh = some (.lst [])
  lR : R < S.next
  lF : F < S.next
  lN : N < S.next
  lS : sh < S.next
  d1 : R ≠ F
  d2 : N ≠ R
  d3 : N ≠ F
  d4 : sh ≠ R
  d5 : sh ≠ F
  nx : S.next ≤ 100000000 + 10 * k
/-- one call more -/
theorem call_more {d : Nat} {S : Sto Int} {R F N J sh k a : Nat} {xs : List (Val Int)} {n : Int} {w : Nat} (run : S.get R = some (.ins 3 (runF N J F sh (k + 1 : Nat) .non))) (hF : S.get F = some (.lst (xs ++ [.ref a]))) (hx : xs.length = k) (ha : S.get a = some (.ins 1 (frameF n w)))
    (num : S.get N = some (.dic numL 0)) (shn : S.get sh = some (.lst [])) (lR : R < S.next) (lF : F < S.next) (lN : N < S.next) (lS : sh < S.next) (d1 : R ≠ F) (d2 : N ≠ R) (d3 : N ≠ F) (d4 : sh ≠ R) (d5 : sh ≠ F) (nx : S.next ≤ 100000000 + 10 * k) (hk : k < 999) :
    ∃ S', ECl G12 (d + 4) 40 [.ref R, .ref a, oneC] S .non S' ∧ DI S' R F N J sh (k + 1) := by
  have z0 : S.next < 1000000000 := by omega
  let A := S.new (.lst [])
  let B := A.new (.lst [ii 0])
  let C := B.new (.lst (rep [ii 0] (1 - 0 : Int).toNat))
  let D := C.new (.lst ([] ++ rep [ii 0] (1 - 0 : Int).toNat))
  let E := D.new (.ins 1 [])
  have nA : A.next = S.next + 1 := rfl
  have nB : B.next = S.next + 2 := rfl
  have nC : C.next = S.next + 3 := rfl
  have nD : D.next = S.next + 4 := rfl
  have nE : E.next = S.next + 5 := rfl
  have oA : ∀ x, x < S.next → A.get x = S.get x := fun x h => get_new_old z0 h
  have oB : ∀ x, x < S.next → B.get x = S.get x := fun x h => (get_new_old (by omega) (by omega)).trans (oA x h)
  have oC : ∀ x, x < S.next → C.get x = S.get x := fun x h => (get_new_old (by omega) (by omega)).trans (oB x h)
  have oD : ∀ x, x < S.next → D.get x = S.get x := fun x h => (get_new_old (by omega) (by omega)).trans (oC x h)
  have oE : ∀ x, x < S.next → E.get x = S.get x := fun x h => (get_new_old (by omega) (by omega)).trans (oD x h)
  have gA : A.get S.next = some (.lst []) := get_new_at z0
  have gB : B.get (S.next + 1) = some (.lst [ii 0]) := get_new_at (S := A) (by omega)
  have gBA : B.get S.next = some (.lst []) := (get_new_old (by omega) (by omega)).trans gA
  have gC : C.get (S.next + 2) = some (.lst (rep [ii 0] (1 - 0 : Int).toNat)) := get_new_at (S := B) (by omega)
  have gCA : C.get S.next = some (.lst []) := (get_new_old (by omega) (by omega)).trans gBA
  have gE : E.get (S.next + 4) = some (.ins 1 []) := get_new_at (S := D) (by omega)
  obtain ⟨S5, hc, n5, g5, o5⟩ := frame_new (d := d + 1) (n := 1) (w := S.next + 3) gE (by omega) (by omega)
  have f5 : S5.get F = some (.lst (xs ++ [.ref a])) := (o5 F (by omega)).trans ((oE F lF).trans hF)
  let T := S5.set F (.lst ((xs ++ [.ref a]) ++ [.ref (S.next + 4)]))
  have lF5 : F < S5.next := by omega
  have gT : ∀ x, x ≠ F → T.get x = S5.get x := fun x h => gset lF5 (by omega) h
  have eR : ∀ t : Env Int, t[0]? = some (some (.ref R)) → ∀ f v, lookS f (runF N J F sh (k + 1 : Nat) .non) = some v → EE G12 (d + 3) (.fld (.var 0) f) t S v S := fun t ht f v hv => .fld (.var ht) run hv
  refine ⟨T, .nx hCall rfl (t' := [some (.ref R), some (.ref a), some oneC, some (ii 1), some (.ref S.next), none]) ?_, ?_⟩
  · refine .cons (.ifF (S1 := S) (.cmp (v := ii ((xs ++ [Val.ref a]).length : Nat)) (u := ii 1000) (.len (eR _ rfl _ _ rfl) hF) .cst ?_) .nil) ?_
    · show some (decide ((((xs ++ [Val.ref a]).length : Nat) : Int) = 1000)) = _
      rw [decide_eq_false]
      simp
      omega
    refine .cons (.set (v := ii 1) (.idx (v := .ref N) (u := .str ⟨⟨[102]⟩⟩) (eR _ rfl _ _ rfl) (.idx (v := oneC) (u := ii 2) (.var rfl) .cst rfl) ?_)) ?_
    · unfold getV
      simp only [num]
      rfl
    refine .cons (.set (v := .ref S.next) (S1 := A) (.lcNil (.idx (v := oneC) (u := ii 3) (.var rfl) .cst rfl) z0)) ?_
    refine .cons (.expr (v := .non) (.bmt (S1 := A) (S2 := S5) (v := .ref F) (vs := [.ref (S.next + 4)]) (.fld (.var rfl) ((oA R lR).trans run) rfl) ?_ (.one (.new (cl := clF) (S1 := D) (vs := [ii 1, .ref (S.next + 3)]) (.cons (.var rfl) (.one (.bin (v := .ref S.next) (u := .ref (S.next + 2)) (S2 := C) (.var rfl) (.bin (v := .ref (S.next + 1)) (u := ii (1 - 0)) (S2 := B) (.lst (vs := [ii 0]) (.one .cst) (show guard true _ = _ from fresh_ok (S := A) (by omega))) (.sub (.idx (v := .tup [.str ⟨⟨[102]⟩⟩, ii 0, ii 1, .tup [oneC]]) (u := ii 2) (.idx (v := progN) (u := ii 1) (.fld (.var rfl) ((oB R lR).trans run) rfl) (.var rfl) rfl) .cst rfl) (.len (.var rfl) gBA)) (mul_lst gB (by decide) (by decide) rfl (by omega))) (add_lst gCA gC rfl (by omega))))) hcF (by omega) hc)) (app_ok f5 (by simp; omega)))) .nil
    have : A.get F = some (.lst (xs ++ [.ref a])) := (oA F lF).trans hF
    unfold rcv
    simp only [this]
    rfl
  · have nT : T.next = S.next + 5 := by show S5.next = _; omega
    refine ⟨by rw [gT R d1, o5 R (by omega), oE R lR]; exact run, ⟨xs ++ [.ref a], S.next + 4, 1, S.next + 3, gsame lF5 (by omega), by simp; omega, by rw [gT _ (by omega)]; exact g5, .inr rfl, by omega, by omega, by omega⟩, by rw [gT N d3, o5 N (by omega), oE N lN]; exact num, by rw [gT sh d5, o5 sh (by omega), oE sh lS]; exact shn, by omega, by omega, by omega, by omega, d1, d2, d3, d4, d5, by omega⟩
end Pz
set_option Elab.async false
set_option linter.all false
set_option maxRecDepth 100000
set_option maxHeartbeats 4000000
namespace Pz
open PySem (Str)
def deepV : Val Int := .str ⟨⟨[100, 101, 101, 112]⟩⟩
theorem put_end {N J F sh : Nat} {k : Int} : putS ⟨⟨[101, 110, 100]⟩⟩ deepV (runF N J F sh k .non) = runF N J F sh k deepV := by rfl
theorem put_car {N J F sh : Nat} {k : Int} {e : Val Int} : putS ⟨⟨[99, 97, 114, 114, 105, 101, 100]⟩⟩ (ii (k + 1)) (runF N J F sh k e) = runF N J F sh (k + 1) e := by rfl
/-- the thousandth frame is there already -/
theorem call_deep {d : Nat} {S : Sto Int} {R F N J sh a : Nat} {xs : List (Val Int)} (run : S.get R = some (.ins 3 (runF N J F sh (1000 : Nat) .non))) (hF : S.get F = some (.lst (xs ++ [.ref a]))) (hx : xs.length = 999) :
    ECl G12 (d + 4) 40 [.ref R, .ref a, oneC] S .non (S.set R (.ins 3 (runF N J F sh (1000 : Nat) deepV))) := by
  have eR : ∀ t : Env Int, t[0]? = some (some (.ref R)) → ∀ f v, lookS f (runF N J F sh (1000 : Nat) .non) = some v → EE G12 (d + 3) (.fld (.var 0) f) t S v S := fun t ht f v hv => .fld (.var ht) run hv
  refine .rt hCall rfl (t' := [some (.ref R), some (.ref a), some oneC, none, none, none]) (.rt (.ifT (S1 := S) (.cmp (v := ii ((xs ++ [Val.ref a]).length : Nat)) (u := ii 1000) (.len (eR _ rfl _ _ rfl) hF) .cst ?_) (.cons (.setF (S1 := S) (v := deepV) .cst (.var rfl) run (show 8 < 1000 by decide)) (.rt .retN))))
  show some (decide ((((xs ++ [Val.ref a]).length : Nat) : Int) = 1000)) = _
  rw [decide_eq_true]
  simp
  omega
/-- a step that calls -/
theorem step_call {d : Nat} {S S2 : Sto Int} {R F N J sh k a : Nat} {xs : List (Val Int)} {n : Int} {w : Nat} (run : S.get R = some (.ins 3 (runF N J F sh (k : Nat) .non))) (hF : S.get F = some (.lst (xs ++ [.ref a]))) (ha : S.get a = some (.ins 1 (frameF n w))) (hn : n = 0 ∨ n = 1) (hk : k < 20000) (lR : R < S.next) (nx : S.next ≤ 1000000000)
    (hc : ECl G12 (d + 4) 40 [.ref R, .ref a, oneC] (S.set R (.ins 3 (runF N J F sh (k + 1 : Nat) .non))) .non S2) : ECl G12 (d + 5) 43 [.ref R] S .non S2 := by
  have eR : ∀ t : Env Int, t[0]? = some (some (.ref R)) → ∀ f v, lookS f (runF N J F sh (k : Nat) .non) = some v → EE G12 (d + 4) (.fld (.var 0) f) t S v S := fun t ht f v hv => .fld (.var ht) run hv
  have eA : ∀ t : Env Int, t[1]? = some (some (.ref a)) → ∀ f v, lookS f (frameF n w) = some v → EE G12 (d + 4) (.fld (.var 1) f) t S v S := fun t ht f v hv => .fld (.var ht) ha hv
  obtain ⟨bd, h1, h2, h3⟩ : ∃ bd : List (Val Int), getV S (.tup [.str ⟨⟨[109, 97, 105, 110]⟩⟩, ii 0, ii 2, .tup [oneC, oneL]]) (ii 3) = getV S (.tup [.str ⟨⟨[109, 97, 105, 110]⟩⟩, ii 0, ii 2, .tup [oneC, oneL]]) (ii 3) ∧ (∃ f, getV S progN (ii n) = some f ∧ getV S f (ii 3) = some (.tup bd)) ∧ bd[0]? = some oneC ∧ 0 < bd.length := by
    rcases hn with rfl | rfl
    · exact ⟨[oneC, oneL], rfl, ⟨_, rfl, rfl⟩, rfl, by decide⟩
    · exact ⟨[oneC], rfl, ⟨_, rfl, rfl⟩, rfl, by decide⟩
  obtain ⟨f, g1, g2⟩ := h2
  obtain ⟨h3, h4⟩ := h3
  have g0 : getV S (.tup bd) (ii 0) = some oneC := by
    show (match place bd.length 0 with | some j => bd[j]? | none => none) = _
    have : place bd.length 0 = some 0 := by
      unfold place
      rw [if_pos (by decide), if_pos (by omega)]
      rfl
    rw [this]
    exact h3
  refine .nx hStep rfl (t' := [some (.ref R), some (.ref a), some (.tup bd), some oneC]) ?_
  refine .cons (.set (v := .ref a) (.idx (v := .ref F) (u := ii (0 - 1)) (eR _ rfl _ _ rfl) (.neg1 .cst) (last_at hF))) ?_
  refine .cons (.set (v := .tup bd) (.idx (v := f) (u := ii 3) (.idx (v := progN) (u := ii n) (eR _ rfl _ _ rfl) (eA _ rfl _ _ rfl) g1) .cst g2)) ?_
  refine .cons (.ifF (S1 := S) (.cmp (v := ii 0) (u := ii (bd.length : Nat)) (eA _ rfl _ _ rfl) (.bif (.one (.var rfl)) rfl) ?_) .nil) ?_
  · show some (decide ((0 : Int) = (bd.length : Nat))) = _
    rw [decide_eq_false (by omega)]
  refine .cons (.set (v := oneC) (.idx (v := .tup bd) (u := ii 0) (.var rfl) (eA _ rfl _ _ rfl) g0)) ?_
  refine .cons (.ifF (S1 := S) (.mth (cl := clR) (.var rfl) run rfl (.cons (.var rfl) (.one (.var rfl))) hcR rfl isw) ?_) .nil
  refine .cons (.ifF (S1 := S) (.cmp (v := ii (k : Nat)) (u := ii 20000) (eR _ rfl _ _ rfl) .cst ?_) ?_) .nil
  · show some (decide ((k : Int) = 20000)) = _
    rw [decide_eq_false (by omega)]
  refine .cons (.ifF (S1 := S) (.cmp (v := .str ⟨⟨[99, 97, 108, 108]⟩⟩) (u := .tup [.str ⟨⟨[105, 110, 112, 117, 116]⟩⟩, .str ⟨⟨[116, 117, 114, 110]⟩⟩]) (.idx (v := oneC) (u := ii 0) (.var rfl) .cst rfl) (.tup (.cons .cst (.one .cst)) rfl) rfl) ?_) .nil
  refine .cons (.augF (S1 := S) (S2 := S) (x := ii (k : Nat)) (y := ii 1) (z := ii ((k : Int) + 1)) (.var rfl) run rfl .cst rfl run (show 8 < 1000 by decide)) ?_
  rw [put_car]
  have gR : (S.set R (.ins 3 (runF N J F sh ((k : Int) + 1) .non))) = (S.set R (.ins 3 (runF N J F sh (k + 1 : Nat) .non))) := by
    congr 2
  rw [gR]
  have run2 := gsame (o := .ins 3 (runF N J F sh (k + 1 : Nat) .non)) lR nx
  exact .cons (.ifT (.cmp (v := .str ⟨⟨[99, 97, 108, 108]⟩⟩) (u := .str ⟨⟨[99, 97, 108, 108]⟩⟩) (.idx (v := oneC) (u := ii 0) (.var rfl) .cst rfl) .cst rfl) (.cons (.expr (v := .non) (.mth (cl := clR) (.var rfl) run2 rfl (.cons (.var rfl) (.one (.var rfl))) hcR rfl hc)) .nil)) .nil
/-- the loop, from k frames above the first on -/
theorem loop_deep {d : Nat} {R F N J sh : Nat} : ∀ (m k : Nat) (S : Sto Int), k + m = 999 → DI S R F N J sh k →
    ∃ S', ES G12 (d + 5) (.whl (.cmp .is (.fld (.var 0) ⟨⟨[101, 110, 100]⟩⟩) (.cst .non)) [(.expr (.mth (.var 0) ⟨⟨[115, 116, 101, 112]⟩⟩ [] none))]) [some (.ref R)] S (.nx, [some (.ref R)]) S' ∧ S'.get R = some (.ins 3 (runF N J F sh (1000 : Nat) deepV)) ∧ S'.get sh = some (.lst []) ∧ S'.next ≤ 200000000 := by
  intro m
  induction m with
  | zero =>
    intro k S hk D
    have hk : k = 999 := by omega
    subst hk
    obtain ⟨xs, a, n, w, f1, f2, f3, f4, f5, f6, f7⟩ := D.fr
    have nx : S.next ≤ 1000000000 := by have := D.nx; omega
    let A := S.set R (.ins 3 (runF N J F sh (999 + 1 : Nat) .non))
    have gA : A.get R = _ := gsame D.lR nx
    have oA : ∀ x, x ≠ R → A.get x = S.get x := fun x h => gset D.lR nx h
    have hc := call_deep (d := d) (S := A) gA ((oA F (Ne.symm D.d1)).trans f1) f2 (a := a)
    have hs := step_call D.run f1 f3 f4 (by decide) D.lR nx hc
    let B := A.set R (.ins 3 (runF N J F sh (1000 : Nat) deepV))
    have gB : B.get R = _ := gsame (S := A) D.lR nx
    refine ⟨B, .whlT (S1 := S) (S2 := B) (f := .nx) (t' := [some (.ref R)]) (.cmp (v := .non) (u := .non) (.fld (.var rfl) D.run rfl) .cst rfl) (.cons (.expr (.mth (cl := clR) (.var rfl) D.run rfl .nil hcR rfl hs)) .nil) (fun v z => nomatch z) (.whlF (.cmp (v := deepV) (u := .non) (.fld (.var rfl) gB rfl) .cst rfl)), gB, ?_, by show S.next ≤ _; have := D.nx; omega⟩
    show B.get sh = _
    rw [gset (S := A) D.lR nx D.d4, oA sh D.d4]
    exact D.shn
  | succ m ih =>
    intro k S hk D
    obtain ⟨xs, a, n, w, f1, f2, f3, f4, f5, f6, f7⟩ := D.fr
    have nx : S.next ≤ 1000000000 := by have := D.nx; omega
    let A := S.set R (.ins 3 (runF N J F sh (k + 1 : Nat) .non))
    have gA : A.get R = _ := gsame D.lR nx
    have oA : ∀ x, x ≠ R → A.get x = S.get x := fun x h => gset D.lR nx h
    obtain ⟨S2, hc, D2⟩ := call_more (d := d) (S := A) gA ((oA F (Ne.symm D.d1)).trans f1) f2 ((oA a f5).trans f3) ((oA N D.d2).trans D.num) ((oA sh D.d4).trans D.shn) D.lR D.lF D.lN D.lS D.d1 D.d2 D.d3 D.d4 D.d5 D.nx (by omega)
    have hs := step_call D.run f1 f3 f4 (by omega) D.lR nx hc
    obtain ⟨S', hw, r1, r2, r3⟩ := ih (k + 1) S2 (by omega) D2
    exact ⟨S', .whlT (S1 := S) (S2 := S2) (f := .nx) (t' := [some (.ref R)]) (.cmp (v := .non) (u := .non) (.fld (.var rfl) D.run rfl) .cst rfl) (.cons (.expr (.mth (cl := clR) (.var rfl) D.run rfl .nil hcR rfl hs)) .nil) (fun v z => nomatch z) hw, r1, r2, r3⟩
theorem on_deep {d : Nat} {S : Sto Int} {R F N J sh : Nat} (D : DI S R F N J sh 0) : ∃ S', ECl G12 (d + 6) 45 [.ref R] S .non S' ∧ S'.get R = some (.ins 3 (runF N J F sh (1000 : Nat) deepV)) ∧ S'.get sh = some (.lst []) ∧ S'.next ≤ 200000000 := by
  obtain ⟨S', h, r1, r2, r3⟩ := loop_deep (d := d) 999 0 S rfl D
  exact ⟨S', .nx hOn rfl (t' := [some (.ref R)]) (.cons h .nil), r1, r2, r3⟩
end Pz
set_option Elab.async false
set_option linter.all false
set_option maxRecDepth 100000
set_option maxHeartbeats 0
namespace Pz
open PySem (Str)
def gPlain : Fn Int := ⟨2, 3, [(.set 2 (.new 3 [(.var 0), (.var 1)] none)), (.expr (.mth (.var 2) ⟨⟨[114, 117, 110, 95, 111, 110]⟩⟩ [] none)), (.ret (.var 2))]⟩
def gRun : Fn Int := ⟨2, 3, [(.expr (.call 10 [(.var 0)] none)), (.expr (.call 3 [(.var 1)] none)), (.set 2 (.call 46 [(.var 0), (.var 1)] none)), (.ret (.tup [(.fld (.var 2) ⟨⟨[101, 110, 100]⟩⟩), (.fld (.var 2) ⟨⟨[115, 104, 111, 119, 110]⟩⟩)]))]⟩
theorem hPlain : G12.fns[46]? = some gPlain := by kernel_rfl
theorem hRun : G12.fns[47]? = some gRun := by kernel_rfl
def okS {A : Type} (r : Rs Int A) (d : Sto Int) : Sto Int := match r with
  | .ok _ S => S
  | _ => d
def S0n : Sto Int := Sto.empty.new (.lst [])
noncomputable def S1n : Sto Int := okS ((evN G12 3000).call 18 10 [progN] S0n) S0n
noncomputable def S2n : Sto Int := okS ((evN G12 3000).call 18 3 [.ref 0] S1n) S0n
noncomputable def S3n : Sto Int := okS ((evN G12 3000).e 17 (.new 3 [.var 0, .var 1] none) [some progN, some (.ref 0), none] S2n) S0n
theorem p1n : ECl G12 18 10 [progN] S0n .non S1n := .mk1 3000 fun m => by kernel_rfl
theorem p2n : ECl G12 18 3 [.ref 0] S1n .non S2n := .mk1 3000 fun m => by kernel_rfl
theorem p3n : EE G12 17 (.new 3 [.var 0, .var 1] none) [some progN, some (.ref 0), none] S2n (.ref 21) S3n := .mkN 3000 fun m => by kernel_rfl
theorem di0 : DI S3n 21 27 22 23 28 0 where
  run := by kernel_rfl
  fr := ⟨[], 26, 0, 25, by kernel_rfl, rfl, by kernel_rfl, .inl rfl, by decide, by decide, by show 26 < S3n.next; rw [show S3n.next = 29 by kernel_rfl]; decide⟩
  num := by kernel_rfl
  shn := by kernel_rfl
  lR := by rw [show S3n.next = 29 by kernel_rfl]; decide
  lF := by rw [show S3n.next = 29 by kernel_rfl]; decide
  lN := by rw [show S3n.next = 29 by kernel_rfl]; decide
  lS := by rw [show S3n.next = 29 by kernel_rfl]; decide
  d1 := by decide
  d2 := by decide
  d3 := by decide
  d4 := by decide
  d5 := by decide
  nx := by rw [show S3n.next = 29 by kernel_rfl]; decide
theorem run_deep : ∃ S', ECl G12 19 47 [progN, .ref 0] S0n (.tup [deepV, .ref 28]) S' ∧ S'.get 28 = some (.lst []) ∧ S'.next ≤ 200000000 := by
  obtain ⟨S4, h, r1, r2, r3⟩ := on_deep (d := 11) di0
  have hpl : ECl G12 18 46 [progN, .ref 0] S2n (.ref 21) S4 := .rt hPlain rfl (t' := [some progN, some (.ref 0), some (.ref 21)]) (.cons (.set p3n) (.cons (.expr (v := .non) (.mth (cl := clR) (.var rfl) di0.run rfl .nil hcR rfl h)) (.rt (.ret (.var rfl)))))
  refine ⟨S4, .rt hRun rfl (t' := [some progN, some (.ref 0), some (.ref 21)]) ?_, r2, r3⟩
  refine .cons (.expr (.call (.one (.var rfl)) p1n)) ?_
  refine .cons (.expr (.call (.one (.var rfl)) p2n)) ?_
  refine .cons (.set (.call (.cons (.var rfl) (.one (.var rfl))) hpl)) ?_
  exact .rt (.ret (.tup (vs := [deepV, .ref 28]) (.cons (.fld (.var rfl) r1 rfl) (.one (.fld (.var rfl) r1 rfl))) rfl))
def nev2 : Ex Int := .cmp .ne (.call 47 [.var 2, .lst []] none) (.tup [.cst deepV, .lst []])
theorem nev2_ok : ∃ S', EE G12 19 nev2 [none, none, some progN] Sto.empty (.bl false) S' := by
  obtain ⟨S4, h, r2, r3⟩ := run_deep
  have z : S4.next < 1000000000 := by omega
  have g1 : (S4.new (.lst [])).get 28 = some (.lst []) := by
    by_cases e : 28 < S4.next
    · rw [get_new_old z e]; exact r2
    · rw [Sto.get_new z]
      split
      · rfl
      · exact r2
  have g2 : (S4.new (.lst [])).get S4.next = some (.lst []) := get_new_at z
  refine ⟨S4.new (.lst []), .cmp (v := .tup [deepV, .ref 28]) (u := .tup [deepV, .ref S4.next]) (S1 := S4) (.call (vs := [progN, .ref 0]) (S1 := S0n) (.cons (.var rfl) (.one (.lst (vs := []) .nil rfl))) h) (.tup (vs := [deepV, .ref S4.next]) (.cons .cst (.one (.lst (vs := []) .nil (show guard true _ = _ from fresh_ok z)))) rfl) ?_⟩
  show (eqV (S4.new (.lst [])) (.tup [deepV, .ref 28]) (.tup [deepV, .ref S4.next])).map (!·) = some false
  have : eqV (S4.new (.lst [])) (.tup [deepV, .ref 28]) (.tup [deepV, .ref S4.next]) = some true := by
    show eqL (eqF 40 (S4.new (.lst []))) [deepV, .ref 28] [deepV, .ref S4.next] = _
    have e1 : eqF 40 (S4.new (.lst [])) deepV deepV = some true := rfl
    have e2 : eqF 40 (S4.new (.lst [])) (.ref 28) (.ref S4.next) = some true := by
      unfold eqF
      simp only [g1, g2]
      rfl
    unfold eqL
    rw [e1]
    unfold eqL
    rw [e2]
    rfl
  rw [this]
  rfl
end Pz
set_option Elab.async false
set_option linter.all false
set_option maxRecDepth 100000
set_option maxHeartbeats 4000000
/-! the drawn number -/
namespace Pz
open PySem (Str)
def gOneOf : Fn Int := ⟨2, 2, [(.ret (.idx (.var 1) (.call 50 [(.var 0), (.bif .len [(.var 1)])] none)))]⟩
def gNumber : Fn Int := ⟨1, 1, [(.ret (.call 51 [(.var 0), (.lst [(.cst (ii 0)), (.cst (ii 0)), (.cst (ii 1)), (.cst (ii 1)), (.cst (ii 2)), (.cst (ii 7)), (.cst (ii 300)), (.cst (ii 65535)), (.call 50 [(.var 0), (.cst (ii 65536))] none)])] none))]⟩
theorem hO12 : G12.fns[48]? = some gOpen := by kernel_rfl
theorem hS12 : G12.fns[49]? = some gSpread := by kernel_rfl
theorem hT12 : G12.fns[50]? = some (gTake 49) := by kernel_rfl
theorem hOne : G12.fns[51]? = some gOneOf := by kernel_rfl
theorem hNum : G12.fns[52]? = some gNumber := by kernel_rfl
def numV (v : Int) : List Int := [0, 0, 1, 1, 2, 7, 300, 65535, v]
theorem numV_ok {v : Int} (h0 : 0 ≤ v) (h1 : v ≤ 65535) {j : Nat} (hj : j < 9) : ∃ c : Int, (numV v)[j]? = some c ∧ 0 ≤ c ∧ c ≤ 65535 := by
  match j, hj with
  | 0, _ => exact ⟨_, rfl, by decide, by decide⟩
  | 1, _ => exact ⟨_, rfl, by decide, by decide⟩
  | 2, _ => exact ⟨_, rfl, by decide, by decide⟩
  | 3, _ => exact ⟨_, rfl, by decide, by decide⟩
  | 4, _ => exact ⟨_, rfl, by decide, by decide⟩
  | 5, _ => exact ⟨_, rfl, by decide, by decide⟩
  | 6, _ => exact ⟨_, rfl, by decide, by decide⟩
  | 7, _ => exact ⟨_, rfl, by decide, by decide⟩
  | 8, _ => exact ⟨_, rfl, h0, h1⟩
  | n + 9, h => omega
theorem number_ok {d : Nat} {S : Sto Int} {pn c : Nat} {ns : List Int} {p cur : Int} (h : PenS S pn c ns p cur) (h0 : 0 ≤ p) (h1 : p ≤ 900000) (hz : S.next < 900000000) :
    ∃ v p' cur' S', ECl G12 (d + 4) 52 [.ref pn] S (ii v) S' ∧ 0 ≤ v ∧ v ≤ 65535 ∧ p ≤ p' ∧ p' ≤ p + 2 ∧ PenS S' pn c ns p' cur' ∧ S'.next ≤ S.next + 10 := by
  obtain ⟨v1, p1, c1, S1, hc1, v0, v1', a1, a2, P1, k1⟩ := take_ok (G := G12) hT12 hS12 (d := d + 1) h h0 (by omega) (am := 65536) (by decide) (by decide) (by omega)
  have n1 : S1.next ≤ S.next + 3 := k1.up
  have z1 : S1.next < 1000000000 := by omega
  let S2 : Sto Int := S1.new (.lst ((numV v1).map ii))
  have n2 : S2.next = S1.next + 1 := rfl
  have K2 : Kept S1 S2 := ⟨Nat.le_succ _, by show S1.next + 1 ≤ S1.next + 3; omega, fun a ha => get_new_old z1 ha⟩
  have P2 := P1.kept K2
  obtain ⟨j, p2, c2, S3, hc2, w0, w1, b1, b2, P3, k3⟩ := take_ok (G := G12) hT12 hS12 (d := d) P2 (by omega) (by omega) (am := 9) (by decide) (by decide) (by omega)
  obtain ⟨j, rfl⟩ : ∃ i : Nat, j = (i : Int) := ⟨j.toNat, by omega⟩
  have n3 : S3.next ≤ S2.next + 3 := k3.up
  obtain ⟨x, hx, x0, x1⟩ := numV_ok (v := v1) v0 (by omega) (j := j) (by omega)
  have g2 : S2.get S1.next = some (.lst ((numV v1).map ii)) := get_new_at z1
  have hne : S1.next ≠ pn := by have := P1.lp; omega
  have g3 : S3.get S1.next = some (.lst ((numV v1).map ii)) := by
    rw [k3.old _ (by omega) hne]
    exact g2
  refine ⟨x, p2, c2, S3, ?_, x0, x1, by omega, by omega, P3, by omega⟩
  refine .rt hNum rfl (t' := [some (.ref pn)]) (.rt (.ret (.call (vs := [.ref pn, .ref S1.next]) (S1 := S2) (.cons (.var rfl) (.one (.lst (vs := (numV v1).map ii) ?_ (show guard true _ = _ from fresh_ok z1)))) ?_)))
  · exact .cons .cst (.cons .cst (.cons .cst (.cons .cst (.cons .cst (.cons .cst (.cons .cst (.cons .cst (.one (.call (.cons (.var rfl) (.one .cst)) hc1)))))))))
  · refine .rt hOne rfl (t' := [some (.ref pn), some (.ref S1.next)]) (.rt (.ret (.at (a := (j : Int)) (.var rfl) (.call (vs := [.ref pn, ii 9]) (.cons (.var rfl) (.one (.len (.var rfl) g2))) hc2) g3 (by omega) ?_)))
    rw [List.getElem?_map]
    show Option.map ii (numV v1)[j]? = _
    rw [hx]
    rfl
end Pz
set_option Elab.async false
set_option linter.all false
set_option maxRecDepth 100000
set_option maxHeartbeats 4000000
namespace Pz
open PySem L2
/-! ### parts of the text -/
def noStm : Stmt := .Pass ⟨0, 0, 0, 0⟩
def noEx : Expr := .Constant .none 0 ⟨0, 0, 0, 0⟩
def stAt (l : List Stmt) (i : Nat) : Stmt := l.getD i noStm
def exAt (l : List Expr) (i : Nat) : Expr := l.getD i noEx
def ifTs : Stmt → Expr
  | .If t _ _ _ => t
  | _ => noEx
def ifBd : Stmt → List Stmt
  | .If _ b _ _ => b
  | _ => []
def ifPs : Stmt → Pos
  | .If _ _ _ p => p
  | _ => ⟨0, 0, 0, 0⟩
def boolVs : Expr → List Expr
  | .BoolOp _ l _ => l
  | _ => []
def boolPs : Expr → Pos
  | .BoolOp _ _ p => p
  | _ => ⟨0, 0, 0, 0⟩
def notA : Expr → Expr
  | .UnaryOp _ a _ => a
  | _ => noEx
def notPs : Expr → Pos
  | .UnaryOp _ _ p => p
  | _ => ⟨0, 0, 0, 0⟩
def callAs : Expr → List Expr
  | .Call _ l _ _ => l
  | _ => []
def callPs : Expr → Pos
  | .Call _ _ _ p => p
  | _ => ⟨0, 0, 0, 0⟩
def callNp : Expr → Pos
  | .Call (.Name _ p) _ _ _ => p
  | _ => ⟨0, 0, 0, 0⟩
def retEx : Stmt → Expr
  | .Return (some e) _ => e
  | _ => noEx
def retPs : Stmt → Pos
  | .Return _ p => p
  | _ => ⟨0, 0, 0, 0⟩
/-! ### what a check promises -/
def spC : Sp := fun vs H Q _ => ∃ c : Int, vs = [.int c] ∧ 0 ≤ c ∧ c ≤ 65535 ∧ ∀ H', Keeps H H' → Q (.bl true) H'
section
variable {lo hi : Int}
theorem outF_ok {r : Rs (SI lo hi) (Val (SI lo hi))} (h : outF r = true) : ∃ S, r = .ok (.bl false) S := by
  unfold outF at h
  split at h
  · exact ⟨_, rfl⟩
  · cases h
theorem outB_ok {r : Rs (SI lo hi) (Val (SI lo hi))} (h : outB r = true) : ∃ S, r = .ok (.bl true) S := by
  unfold outB at h
  split at h
  · exact ⟨_, rfl⟩
  · cases h
theorem outR_ok {r : Rs (SI lo hi) (Fl (SI lo hi) × Env (SI lo hi))} (h : outR r = true) : ∃ τ S, r = .ok (.rt (.bl true), τ) S := by
  unfold outR at h
  split at h
  · exact ⟨_, _, rfl⟩
  · cases h
theorem outHA_ok {r : Rs (SI lo hi) (Fl (SI lo hi) × Env (SI lo hi))} {v : Val (SI lo hi)} (h : outHA r = some (some v)) : ∃ a b c e S, r = .ok (.nx, [a, b, c, some v, e]) S := by
  unfold outHA at h
  split at h
  · cases h
    exact ⟨_, _, _, _, _, rfl⟩
  · cases h
theorem isE_ok {o : Option (Ob (SI lo hi))} (h : isE o = true) : o = some (.lst []) := by
  unfold isE at h
  split at h
  · rfl
  · cases h
theorem outHB_ok {r : Rs (SI lo hi) (Fl (SI lo hi) × Env (SI lo hi))} {v : Val (SI lo hi)} (h : outHB r = some (some v, true)) : ∃ a b c x S, r = .ok (.nx, [a, b, c, some v, some (.tup [wrongV, .ref x])]) S ∧ S.get x = some (.lst []) := by
  unfold outHB at h
  split at h
  · rename_i a b c v' s x S
    have h := Option.some.inj h
    obtain ⟨h1, h2⟩ := Prod.mk.inj h
    subst h1
    rw [Bool.and_eq_true] at h2
    have e := sBeq_iff.mp h2.1
    subst e
    exact ⟨_, _, _, _, _, rfl, isE_ok h2.2⟩
  · cases h
end
/-! ### never -/
def nb : List Stmt := defBody (top 61)
def nTs : Expr := ifTs (stAt nb 2)
def n1 : Expr := exAt (boolVs nTs) 0
def n2 : Expr := exAt (boolVs nTs) 1
def n3 : Expr := exAt (boolVs nTs) 2
theorem nb_eq : nb = [stAt nb 0, stAt nb 1] ++ [.If (.BoolOp .Or [n1, n2, n3] (boolPs nTs)) (ifBd (stAt nb 2)) [] (ifPs (stAt nb 2)), stAt nb 3] := by kernel_rfl
abbrev Γn : Gam := T0.gam f56
def nev01 : List (St Int) := [(.set 1 (.tup [(.tup [(.cst (.str ⟨⟨[99, 97, 108, 108]⟩⟩)), (.cst (ii 0)), (.cst (.str ⟨⟨[102]⟩⟩)), (.tup [])])])), (.set 2 (.tup [(.tup [(.cst (.str ⟨⟨[109, 97, 105, 110]⟩⟩)), (.cst (ii 0)), (.cst (ii 2)), (.tup [(.tup [(.cst (.str ⟨⟨[99, 97, 108, 108]⟩⟩)), (.cst (ii 0)), (.cst (.str ⟨⟨[102]⟩⟩)), (.tup [])]), (.tup [(.cst (.str ⟨⟨[108, 111, 97, 100]⟩⟩)), (.cst (ii 1)), (.cst (ii 0))])])]), (.tup [(.cst (.str ⟨⟨[102]⟩⟩)), (.cst (ii 0)), (.cst (ii 1)), (.var 1)])]))]
theorem cn01 : (cTs 80 60 Γn [stAt nb 0, stAt nb 1] : List (St Int)) = nev01 := by kernel_rfl
theorem cn1 : (cE 60 Γn n1 : Ex (SI 0 65535)) = nev1 := by kernel_rfl
theorem cn2 : (cE 60 Γn n2 : Ex Int) = nev2 := by kernel_rfl
theorem cn3 : (cE 60 Γn n3 : Ex (SI 0 65535)) = nev3 := by kernel_rfl
theorem cn4 : (cT 80 60 Γn (stAt nb 3) : St (SI 0 65535)) = nev4 := by kernel_rfl
theorem run01 (c : Int) : (evN G12 50).ss 19 nev01 [some (ii c), none, none] Sto.empty = .ok (.nx, [some (ii c), some (.tup [oneC]), some progN]) Sto.empty := by kernel_rfl
theorem progS_map (c : Int) : mapV (SI.den (lo := 0) (hi := 65535) c) progS = progN := by rfl
def tNever (X : Cx) (ca : Nat → Addr) : TS := fun D σ H => uAnySs2 T0 80 60 X ca 19 Γn 80 [stAt nb 0, stAt nb 1] { D with nx := (tSeq (tIfS (tOr (uAnyT T0 80 60 X ca 19 Γn n1) (tOr (uAnyT T0 80 60 X ca 19 Γn n2) (uAnyT T0 80 60 X ca 19 Γn n3))) (uAnySs T0 80 60 X ca 19 Γn (ifBd (stAt nb 2))) tNext) (tSeq (uAnyS T0 80 60 X ca 19 Γn (stAt nb 3)) tNext)) D } σ H
section
variable {X : Cx} {ca : Nat → Addr}
theorem never_pss {P : Program} {w : World} {K : PySem.W.Frag} {mg : Str → Option Value} {base : Heap} (x : LX T0 80 60 P w K mg base ca 19 Γn X) : PSs X nb (tNever X ca) := by
  rw [nb_eq]
  exact anyApp x.g x.hp (pss_cons (ps_if (pw_or (anyT x.g _) (pw_or (anyT x.g _) (pw_or1 (anyT x.g _)))).pt (anySs x.g x.hp _) pss_nil) (pss_cons (anyS x.g x.hp _) pss_nil)) _ 80 (by decide)
theorem erV {I : Type} [IOps I] {den : I → Int} {r : Rho} {H : Hp} {σ : L2.St} {n i : Nat} {v : Val I} {mv : V} (hi : i < n) (hl : n ≤ σ.length) (hs : σ[i]? = some (some mv)) (hv : VR den r H v mv) : ER den r H ((List.replicate n none).set i (some v)) σ := by
  refine ⟨by simpa using hl, fun j y hy => ?_⟩
  rw [List.getElem?_set] at hy
  split at hy
  · rename_i e
    subst e
    split at hy
    · cases hy
      exact ⟨mv, hs, hv⟩
    · cases hy
  · rw [List.getElem?_replicate] at hy
    split at hy
    · cases hy
    · cases hy
theorem never_pure {H : Hp} {c : Int} {Q : VK} (h0 : 0 ≤ c) (h1 : c ≤ 65535) (hQ : ∀ H', Keeps H H' → Q (.bl true) H') : tNever X ca { nx := fun _ H' => Q .non H', rt := Q } (L2.start f56.N [.int c]) H := by
  have L := SI.lawful (lo := 0) (hi := 65535) h0 h1
  have e0 : ER (I := Int) id (rL []) H [some (ii c), none, none] (L2.start f56.N [.int c]) := er_start (I := Int) (den := id) (r := rL []) (H := H) (xs := [ii c]) (vs := [.int c]) (N := f56.N) (np := 1) (.cons (.int c) .nil) rfl
  refine kSs2 lawful_int sim0 e0 cn01 (run01 c) fun r1 H1 σ1 x1 m1 er1 => ?_
  have k1 : Keeps H H1 := Ext.keeps x1
  obtain ⟨cv, cs, cr⟩ := er1.2 0 (ii c) rfl
  cases cr
  obtain ⟨mv, ms, mr⟩ := er1.2 2 progN rfl
  have l1 : 3 ≤ σ1.length := er1.1
  have mS : VR (SI.den (lo := 0) (hi := 65535) c) (rL []) H1 progS mv := vr_map (r := r1) rfl (by rw [progS_map]; exact mr)
  have vS : ∀ H', Keeps H1 H' → VR (SI.den (lo := 0) (hi := 65535) c) (rL []) H' progS mv := fun H' k => vr_keep k rfl mS
  have eS : ∀ H', Keeps H1 H' → ER (SI.den (lo := 0) (hi := 65535) c) (rL []) H' [none, none, some progS] σ1 := fun H' k => erV (n := 3) (i := 2) (by decide) l1 ms (vS H' k)
  show uAnyT T0 80 60 X ca 19 Γn n1 σ1 H1 _
  obtain ⟨S1, q1⟩ := outF_ok nev1_ok
  rw [← pg12] at q1
  refine kT L sim0 (eS H1 Keeps.refl) cn1 q1 fun r2 H2 x2 m2 => ?_
  rw [if_neg Bool.false_ne_true]
  have k2 : Keeps H1 H2 := Ext.keeps x2
  obtain ⟨S2, q2⟩ := nev2_ok
  refine runT lawful_int sim0 (erV (n := 3) (i := 2) (by decide) l1 ms (vr_keep (r := r1) (r' := rL []) k2 rfl mr)) cn2 q2 fun r3 H3 x3 m3 => ?_
  rw [if_neg Bool.false_ne_true]
  have k3 : Keeps H1 H3 := k2.trans (Ext.keeps x3)
  obtain ⟨S3, q3⟩ := outF_ok nev3_ok
  rw [← pg12] at q3
  refine kT L sim0 (eS H3 k3) cn3 q3 fun r4 H4 x4 m4 => ?_
  rw [if_neg Bool.false_ne_true]
  have k4 : Keeps H1 H4 := k3.trans (Ext.keeps x4)
  show uAnyS T0 80 60 X ca 19 Γn (stAt nb 3) _ σ1 H4
  obtain ⟨τ5, S5, q5⟩ := outR_ok nev4_ok
  rw [← pg12] at q5
  have e4 : ER (SI.den (lo := 0) (hi := 65535) c) (rL []) H4 [some (.int .x), none, some progS] σ1 := by
    refine ⟨l1, fun i y hy => ?_⟩
    match i with
    | 0 => cases hy; exact ⟨_, cs, .int (SI.x (lo := 0) (hi := 65535))⟩
    | 1 => cases hy
    | 2 => cases hy; exact ⟨mv, ms, vS H4 k4⟩
    | i + 3 => cases hy
  refine kS L sim0 e4 cn4 q5 fun r6 H6 z x6 m6 hz => ?_
  cases hz
  exact hQ H6 (k1.trans (k4.trans (Ext.keeps x6)))
end
/-! ### heavy -/
def vb : List Stmt := defBody (top 63)
abbrev Γv : Gam := T0.gam f58
theorem vb_eq : vb = [stAt vb 0, stAt vb 1, stAt vb 2] ++ [stAt vb 3, stAt vb 4] := by kernel_rfl
theorem cv012 : (cTs 80 60 Γv [stAt vb 0, stAt vb 1, stAt vb 2] : List (St (SI 0 65535))) = hv012 := by kernel_rfl
theorem cv3 : (cT 80 60 Γv (stAt vb 3) : St (SI 0 65535)) = hv3 := by kernel_rfl
theorem cv4 : (cT 80 60 Γv (stAt vb 4) : St (SI 0 65535)) = hv4 := by kernel_rfl
theorem retH' : ES (T0.pg 80 60) 19 hv4 [none, none, none, some hP, some (.tup [wrongV, .ref 0])] S0h (.rt (.bl true), [none, none, none, some hP, some (.tup [wrongV, .ref 0])]) ((stL hs3).new (.lst [])) := by
  rw [pg12]
  exact retH
def tHeavy (X : Cx) (ca : Nat → Addr) : TS := fun D σ H => uAnySs2 T0 80 60 X ca 19 Γv 80 [stAt vb 0, stAt vb 1, stAt vb 2] { D with nx := (tSeq (uAnyS T0 80 60 X ca 19 Γv (stAt vb 3)) (tSeq (uAnyS T0 80 60 X ca 19 Γv (stAt vb 4)) tNext)) D } σ H
section
variable {X : Cx} {ca : Nat → Addr}
theorem heavy_pss {P : Program} {w : World} {K : PySem.W.Frag} {mg : Str → Option Value} {base : Heap} (x : LX T0 80 60 P w K mg base ca 19 Γv X) : PSs X vb (tHeavy X ca) := by
  rw [vb_eq]
  exact anyApp x.g x.hp (pss_cons (anyS x.g x.hp _) (pss_cons (anyS x.g x.hp _) pss_nil)) _ 80 (by decide)
theorem heavy_pure {H : Hp} {c : Int} {Q : VK} (h0 : 0 ≤ c) (h1 : c ≤ 65535) (hQ : ∀ H', Keeps H H' → Q (.bl true) H') : tHeavy X ca { nx := fun _ H' => Q .non H', rt := Q } (L2.start f58.N [.int c]) H := by
  have L := SI.lawful (lo := 0) (hi := 65535) h0 h1
  have e0 : ER (SI.den (lo := 0) (hi := 65535) c) (rL []) H [some (.int .x), none, none, none, none] (L2.start f58.N [.int c]) := er_start (I := SI 0 65535) (den := SI.den c) (r := rL []) (H := H) (xs := [.int .x]) (vs := [.int c]) (N := f58.N) (np := 1) (.cons (.int (SI.x (lo := 0) (hi := 65535))) .nil) rfl
  obtain ⟨a1, b1, c1, d1, S1, q1⟩ := outHA_ok heavyA
  rw [← pg12] at q1
  refine kSs2 L sim0 e0 cv012 q1 fun r1 H1 σ1 x1 m1 er1 => ?_
  have k1 : Keeps H H1 := Ext.keeps x1
  obtain ⟨mv, ms, mr⟩ := er1.2 3 (heavyP .x) rfl
  have l1 : 5 ≤ σ1.length := er1.1
  show uAnyS T0 80 60 X ca 19 Γv (stAt vb 3) _ σ1 H1
  obtain ⟨a2, b2, c2, x2, S2, q2, q3⟩ := outHB_ok heavyB
  rw [← pg12] at q2
  refine kS L sim0 (erV (n := 5) (i := 3) (by decide) l1 ms (vr_keep (r := r1) (r' := rL []) Keeps.refl rfl mr)) cv3 q2 fun r2 H2 σ2 x2 m2 er2 => ?_
  have k2 : Keeps H1 H2 := Ext.keeps x2
  obtain ⟨mv2, ms2, mr2⟩ := er2.2 3 (heavyP .x) rfl
  obtain ⟨tv, ts, tr⟩ := er2.2 4 _ rfl
  obtain ⟨b, hb, ys, hb2, hb3⟩ := m2.ob _ _ q3
  cases hb3
  have l2 : 5 ≤ σ2.length := er2.1
  have nb1 : H1 b = none := by
    rcases x2.new _ _ hb with h | h
    · unfold rL at h
      simp at h
    · exact h
  have nb0 : H b = none := by
    cases e : H b with
    | none => rfl
    | some o => rw [k1 _ _ e] at nb1; cases nb1
  show uAnyS T0 80 60 X ca 19 Γv (stAt vb 4) _ σ2 H2
  have s2 : SimX (SI.den (lo := 0) (hi := 65535) c) X ca (rL [b]) S0h H2 := by
    refine simL rfl (by decide) (by simp) fun i o b' e1 e2 => ?_
    match i with
    | 0 =>
      cases e1
      cases e2
      exact ⟨⟨_, hb2, .nil⟩, by rw [hb2]; exact fun z => (nomatch z), fun ys => by rw [hb2]; exact fun z => (nomatch z)⟩
    | i + 1 => cases e1
  have e2 : ER (SI.den (lo := 0) (hi := 65535) c) (rL [b]) H2 [none, none, none, some hP, some (.tup [wrongV, .ref 0])] σ2 := by
    refine ⟨l2, fun i y hy => ?_⟩
    match i with
    | 0 => cases hy
    | 1 => cases hy
    | 2 => cases hy
    | 3 => cases hy; exact ⟨mv2, ms2, vr_keep (r := r2) Keeps.refl rfl mr2⟩
    | 4 =>
      cases hy
      refine ⟨tv, ts, ?_⟩
      cases tr with
      | tup g hs =>
        refine .tup g ?_
        cases hs with
        | cons a1 b1 =>
          cases b1 with
          | cons a2 b2 =>
            cases b2
            cases a1
            cases a2 with
            | ref z =>
              rw [hb] at z
              cases z
              exact .cons (.str _) (.cons (.ref rfl) .nil)
    | i + 5 => cases hy
  refine runS L s2 e2 cv4 retH' fun r3 H3 z x3 m3 hz => ?_
  cases hz
  refine hQ H3 (Ext.keepsN (k1.trans k2) (fun a b' h => ?_) x3)
  unfold rL at h
  split at h
  · rename_i hl
    have : a = 0 := by simpa using hl
    subst this
    cases h
    exact nb0
  · cases h
end
end Pz
set_option Elab.async false
set_option linter.all false
set_option maxRecDepth 100000
set_option maxHeartbeats 4000000
namespace Pz
open PySem L2
/-! ### the law's own text -/
def forTg : Stmt → Expr
  | .For t _ _ _ _ => t
  | _ => noEx
def forIt : Stmt → Expr
  | .For _ t _ _ _ => t
  | _ => noEx
def forBd : Stmt → List Stmt
  | .For _ _ b _ _ => b
  | _ => []
def forPs : Stmt → Pos
  | .For _ _ _ _ p => p
  | _ => ⟨0, 0, 0, 0⟩
def lb : List Stmt := defBody (top 64)
abbrev Γl : Gam := T0.gam f59
def ls0 : Stmt := stAt lb 0
def lFor : Stmt := stAt lb 1
def lRet : Stmt := stAt lb 2
def rA : Expr := exAt (boolVs (retEx lRet)) 0
def rB : Expr := exAt (boolVs (retEx lRet)) 1
def rArg : Expr := exAt (callAs rB) 0
def fbd : List Stmt := forBd lFor
def fb0 : Stmt := stAt fbd 0
def fI1 : Stmt := stAt fbd 1
def fI2 : Stmt := stAt fbd 2
def tst (i : Nat) : Expr := exAt (boolVs (ifTs fI1)) i
def nvC : Expr := notA (tst 3)
def frC : Expr := notA (ifTs fI2)
theorem lb_eq : lb = [ls0, .For (forTg lFor) (forIt lFor) fbd [] (forPs lFor), .Return (some (.BoolOp .Or [rA, .Call (.Name "_law_heavy_right" (callNp rB)) [rArg] [] (callPs rB)] (boolPs (retEx lRet)))) (retPs lRet)] := by kernel_rfl
theorem fbd_eq : fbd = [fb0, .If (.BoolOp .Or [tst 0, tst 1, tst 2, .UnaryOp .Not (.Call (.Name "_law_never_right" (callNp nvC)) [exAt (callAs nvC) 0] [] (callPs nvC)) (notPs (tst 3))] (boolPs (ifTs fI1))) (ifBd fI1) [] (ifPs fI1), .If (.UnaryOp .Not (.Call (.Name "_law_far_right" (callNp frC)) [exAt (callAs frC) 0, exAt (callAs frC) 1] [] (callPs frC)) (notPs (ifTs fI2))) (ifBd fI2) [] (ifPs fI2)] := by kernel_rfl
theorem cl0 : (cT 80 60 Γl ls0 : St Int) = .set 1 (.call 48 [.var 0] none) := by kernel_rfl
theorem cfit : (cS 60 Γl (forTg lFor) (forIt lFor) : Sr Int) = .rng [.cst (ii 4)] := by kernel_rfl
theorem cftg : cG 60 Γl (forTg lFor) = some (.nm 2) := by kernel_rfl
theorem nsfit : noSet (forIt lFor) = true := by kernel_rfl
theorem cf0 : (cT 80 60 Γl fb0 : St Int) = .set 3 (.call 52 [.var 1] none) := by kernel_rfl
theorem ct0 : (cE 60 Γl (tst 0) : Ex (SI 0 65535)) = .not (.call 53 [.var 3] none) := by kernel_rfl
theorem ct1 : (cE 60 Γl (tst 1) : Ex (SI 0 65535)) = .not (.call 54 [.var 3] none) := by kernel_rfl
theorem ct2 : (cE 60 Γl (tst 2) : Ex (SI 0 65535)) = .not (.call 55 [.var 3] none) := by kernel_rfl
theorem cnA : (cE 60 Γl (exAt (callAs nvC) 0) : Ex Int) = .var 3 := by kernel_rfl
theorem cfA : (cE 60 Γl (exAt (callAs frC) 0) : Ex Int) = .var 3 := by kernel_rfl
theorem cfB : (cE 60 Γl (exAt (callAs frC) 1) : Ex Int) = .bin .add (.cst (ii 1)) (.call 50 [.var 1, .cst (ii 8)] none) := by kernel_rfl
theorem crA : (cE 60 Γl rA : Ex Int) = .cmp .gt (.call 50 [.var 1, .cst (ii 3)] none) (.cst (ii 0)) := by kernel_rfl
theorem crB : (cE 60 Γl rArg : Ex Int) = .call 52 [.var 1] none := by kernel_rfl
/-! ### the runs of the kernel -/
theorem not_run {i : Nat} (h : outB ((evN G0 12000).call 20 i ([.int .x] : List (Val (SI 0 65535))) Sto.empty) = true) : ∃ S, (evN (T0.pg 80 60) 12002).e 20 (.not (.call i [.var 3] none)) ([none, none, none, some (.int .x)] : Env (SI 0 65535)) Sto.empty = .ok (.bl false) S := by
  obtain ⟨S, e⟩ := outB_ok h
  rw [← pg12] at e
  exact ⟨S, not_call (m := 11998) (j := 3) (x := .int (SI.x (lo := 0) (hi := 65535))) rfl e⟩
theorem far_run {m : Int} (h1 : 1 ≤ m) (h2 : m ≤ 8) : ∃ S, (evN (T0.pg 80 60) 3000).call 20 57 ([.int .x, .int (.k m)] : List (Val (SI 0 65535))) Sto.empty = .ok (.bl true) S := by
  rw [pg12]
  apply outB_ok
  have : m = 1 ∨ m = 2 ∨ m = 3 ∨ m = 4 ∨ m = 5 ∨ m = 6 ∨ m = 7 ∨ m = 8 := by omega
  rcases this with rfl | rfl | rfl | rfl | rfl | rfl | rfl | rfl
  · exact run12_f1
  · exact run12_f2
  · exact run12_f3
  · exact run12_f4
  · exact run12_f5
  · exact run12_f6
  · exact run12_f7
  · exact run12_f8
/-! ### the readings -/
abbrev EF : XK := fun _ _ _ => False
def tT1 (X : Cx) (ca : Nat → Addr) : TT := tOr (uAnyT T0 80 60 X ca 20 Γl (tst 0)) (tOr (uAnyT T0 80 60 X ca 20 Γl (tst 1)) (tOr (uAnyT T0 80 60 X ca 20 Γl (tst 2)) (tNot (tB (tCall spC [] EF (tCons (uAnyE T0 80 60 X ca 20 Γl (exAt (callAs nvC) 0)) tNil))))))
def tT2 (P : Program) (w : World) (X : Cx) (ca : Nat → Addr) : TT := tNot (tB (tCall (spAny T0 80 60 P w ca 20 57) [] EF (tCons (uAnyE T0 80 60 X ca 20 Γl (exAt (callAs frC) 0)) (tCons (uAnyE T0 80 60 X ca 20 Γl (exAt (callAs frC) 1)) tNil))))
def tTurn (P : Program) (w : World) (X : Cx) (ca : Nat → Addr) : TS := tSeq (uAnyS T0 80 60 X ca 20 Γl fb0) (tSeq (tIfS (tT1 X ca) (uAnySs T0 80 60 X ca 20 Γl (ifBd fI1)) tNext) (tSeq (tIfS (tT2 P w X ca) (uAnySs T0 80 60 X ca 20 Γl (ifBd fI2)) tNext) tNext))
def tEnd (X : Cx) (ca : Nat → Addr) : TE := tOrV (uAnyE T0 80 60 X ca 20 Γl rA) (tCall spC [] EF (tCons (uAnyE T0 80 60 X ca 20 Γl rArg) tNil))
def tLaw (P : Program) (w : World) (X : Cx) (ca : Nat → Addr) : TS := tSeq (uAnyS T0 80 60 X ca 20 Γl ls0) (tSeq (tFor (uI G12 id X ca 20 (.rng [.cst (ii 4)])) (uG (I := Int) id X ca (.nm 2)) (tTurn P w X ca)) (tSeq (tRet (tEnd X ca)) tNext))
section
variable {P : Program} {w : World} {K : PySem.W.Frag} {mg : Str → Option Value} {base : Heap} {ca fa : Nat → Addr}
theorem never_fn (W : Wl T0 w K mg ca fa) : ∃ fd, Binds K fd f56.ps [] ∧ FnOk P w K mg base CXF 20 (fa 56) fd f56.ps spC := by
  obtain ⟨S, fd, F, B, KB⟩ := W.fn 56 f56 rfl
  refine ⟨fd, B, own_fn (k := 80) (n := 60) (d := 19) W rfl F (fun vs H Q E h => ?_) fun X x => ⟨tNever X ca, never_pss x, fun vs H Q E h => ?_⟩⟩
  · obtain ⟨c, rfl, _⟩ := h
    rfl
  · obtain ⟨c, rfl, h0, h1, hQ⟩ := h
    exact never_pure h0 h1 hQ
theorem heavy_fn (W : Wl T0 w K mg ca fa) : ∃ fd, Binds K fd f58.ps [] ∧ FnOk P w K mg base CXF 20 (fa 58) fd f58.ps spC := by
  obtain ⟨S, fd, F, B, KB⟩ := W.fn 58 f58 rfl
  refine ⟨fd, B, own_fn (k := 80) (n := 60) (d := 19) W rfl F (fun vs H Q E h => ?_) fun X x => ⟨tHeavy X ca, heavy_pss x, fun vs H Q E h => ?_⟩⟩
  · obtain ⟨c, rfl, _⟩ := h
    rfl
  · obtain ⟨c, rfl, h0, h1, hQ⟩ := h
    exact heavy_pure h0 h1 hQ
theorem far_fn (W : Wl T0 w K mg ca fa) : ∃ fd, Binds K fd f57.ps [] ∧ FnOk P w K mg base CXF 20 (fa 57) fd f57.ps (spAny T0 80 60 P w ca 20 57) := by
  obtain ⟨S, fd, F, B, KB⟩ := W.fn 57 f57 rfl
  exact ⟨fd, B, W.okAny rfl F 20⟩
theorem law_pss {X : Cx} (W : Wl T0 w K mg ca fa) (x : LX T0 80 60 P w K mg base ca 20 Γl X) : PSs X lb (tLaw P w X ca) := by
  obtain ⟨fd1, B1, F1⟩ := never_fn (P := P) (base := base) W
  obtain ⟨fd2, B2, F2⟩ := heavy_fn (P := P) (base := base) W
  obtain ⟨fd3, B3, F3⟩ := far_fn (P := P) (base := base) W
  have gi := x.g Int _ id lawful_int
  have pi := (allOk (G := G12) (ca := ca) (d := 20) lawful_int 60).s Γl _ gi (forTg lFor) (forIt lFor)
  rw [cfit] at pi
  have nv := own_call x W (i := 56) (nm := "_law_never_right") (f := f56) rfl B1 F1 (by kernel_rfl) (lookG_mem (by kernel_rfl)) (lookG_mem (by kernel_rfl)) (by decide) (pa_cons (anyE x.g (exAt (callAs nvC) 0)) pa_nil (star_ne (by kernel_rfl))) (by kernel_rfl) (p := callNp nvC) (pos := callPs nvC)
  have hv := own_call x W (i := 58) (nm := "_law_heavy_right") (f := f58) rfl B2 F2 (by kernel_rfl) (lookG_mem (by kernel_rfl)) (lookG_mem (by kernel_rfl)) (by decide) (pa_cons (anyE x.g rArg) pa_nil (star_ne (by kernel_rfl))) (by kernel_rfl) (p := callNp rB) (pos := callPs rB)
  have fr := own_call x W (i := 57) (nm := "_law_far_right") (f := f57) rfl B3 F3 (by kernel_rfl) (lookG_mem (by kernel_rfl)) (lookG_mem (by kernel_rfl)) (by decide) (pa_cons (anyE x.g (exAt (callAs frC) 0)) (pa_cons (anyE x.g (exAt (callAs frC) 1)) pa_nil (star_ne (by kernel_rfl))) (star_ne (by kernel_rfl))) (by kernel_rfl) (p := callNp frC) (pos := callPs frC)
  have hb : PSs X fbd (tTurn P w X ca) := by
    rw [fbd_eq]
    refine pss_cons (anyS x.g x.hp _) (pss_cons (ps_if (PW.pt (pw_or (anyT x.g _) (pw_or (anyT x.g _) (pw_or (anyT x.g _) (pw_or1 (pt_not (pt_val nv))))))) (anySs x.g x.hp _) pss_nil) (pss_cons (ps_if (pt_not (pt_val fr)) (anySs x.g x.hp _) pss_nil) pss_nil))
  rw [lb_eq]
  exact pss_cons (anyS x.g x.hp _) (pss_cons (ps_for x.hp gi.calm pi ((cG_ok gi 60).1 _ _ cftg) hb (folded_no nsfit)) (pss_cons (ps_ret (pe_or (anyE x.g _) (pe_one hv))) pss_nil))
end
end Pz
set_option Elab.async false
set_option linter.all false
set_option maxRecDepth 100000
set_option maxHeartbeats 4000000
namespace Pz
open PySem L2
section
variable {P : Program} {w : World} {X : Cx} {ca : Nat → Addr} {H : Hp} {σ : L2.St} {pa qa : Addr} {ks : List Int} {p cur : Int} {D : Ends}
/-- the pen goes from store to store -/
theorem pen_back {S : Sto Int} {r : Rho} (m : SimX (I := Int) id X ca r S H) (h : PenS S 0 1 ks p cur) (r0 : r 0 = some pa) (r1 : r 1 = some qa) : PenAt H pa qa ks p cur := by
  obtain ⟨a, b, e1, e2, q⟩ := penAt_of m h
  rw [r0] at e1
  rw [r1] at e2
  cases e1
  cases e2
  exact q
theorem er_at {r : Rho} {τ : Env Int} (er : ER (I := Int) id r H τ σ) {i a : Nat} {b : Addr} (h : τ[i]? = some (some (.ref a))) (hr : r a = some b) : σ[i]? = some (some (.ref b)) := by
  obtain ⟨y, y1, y2⟩ := er.2 i _ h
  cases y2 with
  | ref z => rw [hr] at z; cases z; exact y1
theorem erP (l : 4 ≤ σ.length) (s1 : σ[1]? = some (some (.ref pa))) : ER (I := Int) id (rL [qa, pa]) H [none, some (.ref 0), none, none] σ := erV (n := 4) (i := 1) (by decide) l s1 (.ref rfl)
theorem not_go {A B : Prop} (h : B) : (if (!true) = true then A else B) := by
  rw [if_neg (by decide)]
  exact h
/-- one turn -/
theorem turn12 {o2 : Option (Val Int)} (hP : X.prog = P) (hw : X.w = w) (m : SimX (I := Int) id X ca (rL [qa, pa]) (stL [.lst (ks.map ii), penL 1 p cur]) H) (er : ER (I := Int) id (rL [qa, pa]) H [none, some (.ref 0), o2, none] σ)
    (h0 : 0 ≤ p) (h1 : p ≤ 800000) (q : ∀ σ' H' p' cur', p ≤ p' → p' ≤ p + 3 → PenAt H' pa qa ks p' cur' → σ'[1]? = some (some (.ref pa)) → 4 ≤ σ'.length → D.nx σ' H') : tTurn P w X ca D σ H := by
  have P0 : PenS (stL [.lst (ks.map ii), penL 1 p cur]) 0 1 ks p cur := PenAt.penS
  obtain ⟨v, p1, c1, S1, hc1, v0, v1, a1, a2, P1, n1⟩ := number_ok (d := 16) P0 h0 (by omega) (show 2 < 900000000 by decide)
  refine runS lawful_int m er cf0 (.set (.call (.one (.var rfl)) hc1)) fun r1 H1 σ1 x1 m1 er1 => ?_
  have PA1 : PenAt H1 pa qa ks p1 c1 := pen_back m1 P1 (x1.sub _ _ rfl) (x1.sub _ _ rfl)
  have s1 : σ1[1]? = some (some (.ref pa)) := er_at er1 (i := 1) rfl (x1.sub _ _ rfl)
  have l1 : 4 ≤ σ1.length := er1.1
  obtain ⟨cv, s3, cr⟩ := er1.2 3 (ii v) rfl
  cases cr
  have L := SI.lawful (lo := 0) (hi := 65535) v0 v1
  have eX : ∀ H', ER (SI.den (lo := 0) (hi := 65535) v) (rL []) H' [none, none, none, some (.int .x)] σ1 := fun H' => erV (n := 4) (i := 3) (by decide) l1 s3 (.int (SI.x (lo := 0) (hi := 65535)))
  have eI : ∀ H', ER (I := Int) id (rL []) H' [none, none, none, some (ii v)] σ1 := fun H' => erV (n := 4) (i := 3) (by decide) l1 s3 (.int v)
  show uAnyT T0 80 60 X ca 20 Γl (tst 0) σ1 H1 _
  obtain ⟨S2, q2⟩ := not_run run12_t
  refine kT L sim0 (eX H1) ct0 q2 fun r2 H2 x2 m2 => ?_
  rw [if_neg Bool.false_ne_true]
  have k2 : Keeps H1 H2 := Ext.keeps x2
  obtain ⟨S3, q3⟩ := not_run run12_g
  refine kT L sim0 (eX H2) ct1 q3 fun r3 H3 x3 m3 => ?_
  rw [if_neg Bool.false_ne_true]
  have k3 : Keeps H1 H3 := k2.trans (Ext.keeps x3)
  obtain ⟨S4, q4⟩ := not_run run12_w
  refine kT L sim0 (eX H3) ct2 q4 fun r4 H4 x4 m4 => ?_
  rw [if_neg Bool.false_ne_true]
  have k4 : Keeps H1 H4 := k3.trans (Ext.keeps x4)
  refine runE lawful_int sim0 (eI H4) cnA (.var rfl) fun r5 H5 z x5 m5 hz => ?_
  cases hz
  have k5 : Keeps H1 H5 := k4.trans (Ext.keeps x5)
  refine ⟨v, rfl, v0, v1, fun H6 k6' => ⟨true, rfl, ?_⟩⟩
  have k6 : Keeps H1 H6 := k5.trans k6'
  refine not_go ?_
  show tIfS (tT2 P w X ca) (uAnySs T0 80 60 X ca 20 Γl (ifBd fI2)) tNext { nx := tNext D, rt := D.rt, bk := D.bk, ct := D.ct } σ1 H6
  unfold tIfS
  refine runE lawful_int sim0 (eI H6) cfA (.var rfl) fun r7 H7 z x7 m7 hz => ?_
  cases hz
  have PA7 : PenAt H7 pa qa ks p1 c1 := PA1.keeps (k6.trans (Ext.keeps x7))
  obtain ⟨j, p2, c2, S8, hc2, w0, w1, b1, b2, P8, n8⟩ := take_ok (G := G12) hT12 hS12 (d := 18) (PenAt.penS (ks := ks) (p := p1) (cur := c1)) (by omega) (by omega) (am := 8) (by decide) (by decide) (show 2 < 999999990 by decide)
  refine runE lawful_int PA7.sim (erP l1 s1) cfB (.add .cst (.call (.cons (.var rfl) (.one .cst)) hc2)) fun r8 H8 z x8 m8 hz => ?_
  cases hz
  have PA8 : PenAt H8 pa qa ks p2 c2 := pen_back m8 P8 (x8.sub _ _ rfl) (x8.sub _ _ rfl)
  obtain ⟨S9, q9⟩ := far_run (m := 1 + j) (by omega) (by omega)
  refine ⟨SI 0 65535, inferInstance, SI.den v, L, 3000, rL [], Sto.empty, [.int .x, .int (.k (1 + j))], .bl true, S9, sim0, .cons (.int (SI.x (lo := 0) (hi := 65535))) (.cons (.int (SI.k (lo := 0) (hi := 65535) (1 + j))) .nil), q9, fun r9 H9 z x9 m9 hz => ?_⟩
  cases hz
  refine ⟨true, rfl, ?_⟩
  refine not_go ?_
  show D.nx σ1 H9
  exact q σ1 H9 p2 c2 (by omega) (by omega) (PA8.keeps (Ext.keeps x9)) s1 l1
/-- the return -/
theorem end12 {Q : VK} (PA : PenAt H pa qa ks p cur) (l1 : 4 ≤ σ.length) (s1 : σ[1]? = some (some (.ref pa))) (h0 : 0 ≤ p) (h1 : p ≤ 800000) (hQ : ∀ H', Q (.bl true) H') : tEnd X ca σ H Q := by
  obtain ⟨j, p2, c2, S8, hc2, w0, w1, b1, b2, P8, n8⟩ := take_ok (G := G12) hT12 hS12 (d := 18) (PenAt.penS (ks := ks) (p := p) (cur := cur)) h0 (by omega) (am := 3) (by decide) (by decide) (show 2 < 999999990 by decide)
  refine runE lawful_int PA.sim (erP l1 s1) crA (.cmp (k := decide (0 < j)) (.call (.cons (.var rfl) (.one .cst)) hc2) .cst rfl) fun r8 H8 z x8 m8 hz => ?_
  cases hz
  refine ⟨_, rfl, ?_⟩
  split
  · exact hQ H8
  · have PA8 : PenAt H8 pa qa ks p2 c2 := pen_back m8 P8 (x8.sub _ _ rfl) (x8.sub _ _ rfl)
    obtain ⟨v, p3, c3, S9, hc3, v0, v1, a1, a2, P9, n9⟩ := number_ok (d := 16) (PenAt.penS (ks := ks) (p := p2) (cur := c2)) (by omega) (by omega) (show 2 < 900000000 by decide)
    refine runE lawful_int PA8.sim (erP l1 s1) crB (.call (.one (.var rfl)) hc3) fun r9 H9 z x9 m9 hz => ?_
    cases hz
    exact ⟨v, rfl, v0, v1, fun H' _ => hQ H'⟩
/-- the whole law -/
theorem law12_pure {a : Addr} {ns : List Int} (hP : X.prog = P) (hw : X.w = w) (hR : Rd H a (.lst (ns.map V.int))) {Q : VK} (hl : ns.length ≤ 63) (hQ : ∀ H', Q (.bl true) H') : tLaw P w X ca { nx := fun _ H' => Q .non H', rt := Q } (L2.start f59.N [.ref a]) H := by
  obtain ⟨o, ho, m0⟩ : ∃ o, (o = .lst (ns.map ii) ∨ o = .fls (ns.map ii)) ∧ SimX (I := Int) id X ca (rL [a]) (stL [o]) H := by
    rcases hR with h | ⟨u, h⟩
    · refine ⟨_, .inl rfl, simL rfl (show 1 < 1000 by decide) (by simp) fun i o b e1 e2 => ?_⟩
      match i with
      | 0 =>
        cases e1
        cases e2
        exact ⟨⟨_, h, ints_id ns⟩, by rw [h]; exact fun z => (nomatch z), fun ys => by rw [h]; exact fun z => (nomatch z)⟩
      | i + 1 => cases e1
    · refine ⟨_, .inr rfl, simL rfl (show 1 < 1000 by decide) (by simp) fun i o b e1 e2 => ?_⟩
      match i with
      | 0 =>
        cases e1
        cases e2
        exact ⟨⟨_, _, h, ints_id ns⟩, by rw [h]; exact fun z => (nomatch z), fun ys => by rw [h]; exact fun z => (nomatch z)⟩
      | i + 1 => cases e1
  have er0 : ER (I := Int) id (rL [a]) H [some (.ref 0), none, none, none] (L2.start f59.N [.ref a]) := er_start (I := Int) (den := id) (r := rL [a]) (H := H) (xs := [.ref 0]) (vs := [.ref a]) (N := f59.N) (np := 1) (.cons (.ref rfl) .nil) rfl
  have hg : (stL [o]).get 0 = some (.lst (ns.map ii)) ∨ (stL [o]).get 0 = some (.fls (ns.map ii)) := by
    rcases ho with rfl | rfl
    · exact .inl rfl
    · exact .inr rfl
  obtain ⟨S1, pn, c, ks, hcl, P1, _⟩ := open_ok (G := G12) hO12 (d := 19) hg (show 0 < 1 by decide) (show 1 < 999999990 by decide)
  refine runS lawful_int m0 er0 cl0 (.set (.call (.one (.var rfl)) hcl)) fun r1 H1 σ1 x1 m1 er1 => ?_
  obtain ⟨pa, qa, r1p, r1c, PA1⟩ := penAt_of m1 P1
  have s1 : σ1[1]? = some (some (.ref pa)) := er_at er1 (i := 1) rfl r1p
  have l1 : 4 ≤ σ1.length := er1.1
  show uI G12 id X ca 20 (.rng [.cst (ii 4)]) σ1 H1 _
  refine ⟨3, rL [qa, pa], _, [], .rng 0 1 4, none, _, PA1.sim, ⟨Nat.zero_le _, fun i v e => by simp at e⟩, rfl, fun r2 H2 J x2 m2 hJ _ => ?_⟩
  have PA2 : PenAt H2 pa qa ks 0 0 := pen_back m2 PenAt.penS (x2.sub _ _ rfl) (x2.sub _ _ rfl)
  refine ⟨fun i k σ H => ∃ p cur, PenAt H pa qa ks p cur ∧ σ[1]? = some (some (.ref pa)) ∧ 4 ≤ σ.length ∧ 0 ≤ p ∧ p ≤ 3 * i ∧ i + k = 4, ⟨4, 0, 0, PA2, s1, l1, Int.le_refl _, by omega, by omega⟩, ?_⟩
  rintro i k σ2 H3 ⟨p, cur, PA, t1, tl, p0, p1, ik⟩
  have hJ' := rng_any (J := Int) (den' := id) (r' := rL [qa, pa]) (H' := H3) hJ
  cases k with
  | zero =>
    have hi : i = 4 := by omega
    subst hi
    refine .inl ⟨src_stop (ca := ca) PA.sim hJ' rfl, ?_⟩
    exact end12 PA tl t1 p0 (by omega) hQ
  | succ k =>
    have hi : i < 4 := by omega
    have hat : (Src.rng 0 1 4 : Src Int).at (stL [.lst (ks.map ii), penL 1 p cur]) i = some (some (ii (0 + (i : Int) * 1))) := by
      show some (if i < 4 then some (lit (0 + (i : Int) * 1)) else none) = _
      rw [if_pos hi]
      rfl
    obtain ⟨go, yl⟩ := src_item (ca := ca) lawful_int PA.sim hJ' hat
    refine .inr ⟨go, fun σ' H' => ∃ k', k' < k + 1 ∧ ∃ p cur, PenAt H' pa qa ks p cur ∧ σ'[1]? = some (some (.ref pa)) ∧ 4 ≤ σ'.length ∧ 0 ≤ p ∧ p ≤ 3 * ((i + 1 : Nat) : Int) ∧ i + 1 + k' = 4, fun σ' H' h => h, fun x H4 hx => ?_⟩
    obtain ⟨m4, x4, hv⟩ := yl x H4 hx
    refine ⟨rL [qa, pa], _, _, [none, some (.ref 0), some (ii (0 + (i : Int) * 1)), none], _, m4, erP tl t1, hv, rfl, fun σ5 er5 _ _ => ?_⟩
    refine turn12 hP hw (o2 := some (ii (0 + (i : Int) * 1))) m4 er5 p0 (by omega) fun σ' H' p' cur' e1 e2 PA' u1 ul => ?_
    exact ⟨k, Nat.lt_succ_self k, p', cur', PA', u1, ul, by omega, by omega, by omega⟩
end
end Pz
set_option Elab.async false
set_option linter.all false
set_option maxRecDepth 100000
set_option maxHeartbeats 0
namespace Pz
open PySem PySem.Spec PyProof.Rows L2
def spLaw (K : PySem.W.Frag) : Sp := fun vs H Q _ => ∃ (a : Addr) (ns : List Int), vs = [.ref a] ∧ ns.length ≤ 63 ∧ Rd H a (.lst (ns.map V.int)) ∧ ∀ H', Q (.bl true) H'
theorem law12_fn {P : Program} {w : World} {K : PySem.W.Frag} {mg : Str → Option Value} (W : Wl T0 w K mg (N0.ca K) (T0.fa K)) :
    ∃ fd, FunD K f59.name f59.qual f59.params f59.body f59.scope [] [] (T0.fa K 59) fd ∧ ∀ base : Heap, FnOk P w K mg base CXF 21 (T0.fa K 59) fd f59.ps (spLaw K) := by
  obtain ⟨S, fd, F, B, KB⟩ := W.fn 59 f59 (by rfl)
  refine ⟨fd, F, fun base => ?_⟩
  refine own_fn (k := 80) (n := 60) (d := 20) (ca := N0.ca K) W rfl F (fun vs H Q E h => ?_) fun X x => ⟨tLaw P w X (N0.ca K), law_pss W x, fun vs H Q E h => ?_⟩
  · obtain ⟨a, ns, rfl, _⟩ := h
    rfl
  · obtain ⟨a, ns, rfl, hl, hR, hQ⟩ := h
    exact law12_pure x.prog x.w hR hl hQ
end Pz
open PySem PySem.W PySem.Calls PyProof.Rows Pz in
theorem PySem.Challenge.cw_movedframes_k12_kinds_by_hand_holds : PySem.Challenge.rw_movedframes_k12_kinds_by_hand.Holds := by
  w_on; o_law
  refine HandSHeadRun.head_any (r := OpenLaw.row PySem.Challenge.rw_movedframes_k12_kinds_by_hand) (q := view (OpenLaw.row PySem.Challenge.rw_movedframes_k12_kinds_by_hand).prog [64]) (H := hk12) (ob := ob12) (M := 20000) (loose := loose12) (d := HandSHeadRun.topDef (OpenLaw.row PySem.Challenge.rw_movedframes_k12_kinds_by_hand).prog 64) (kwd := []) ob_eq12
    (by kernel_rfl) (fun s => by kernel_rfl) run12h (by kernel_rfl) (by kernel_rfl) (by kernel_rfl) (by rfl) (by first | assumption | decide +kernel) (by decide +kernel) ⟨rfl, rfl, rfl, rfl, rfl, by decide +kernel⟩ ?hw ?hc
  case hw => w_witness2
  case hc =>
    refine L2.walk_ofE (l := PySem.Challenge.rw_movedframes_k12_kinds_by_hand) (n := 63) (k := 21) (x := "_law_script") (CX := CXF) rfl (by decide) (by kernel_rfl) ⟨rfl, by decide, by decide⟩ ?F (fun _ _ _ _ z => z)
    intro w mg fa h Y G hmg0
    obtain ⟨K, KX, c⟩ := Y
    have hmg : mg ("law" : PySem.Str) = some (.ref fa) := by
      have e : (HandSHeadRun.topDef (OpenLaw.row PySem.Challenge.rw_movedframes_k12_kinds_by_hand).prog 64).name = ("law" : PySem.Str) := by kernel_rfl
      rw [← e]
      exact hmg0
    have W : Wl T0 w K mg (N0.ca K) (T0.fa K) := Wl.of (by decide +kernel) KX G c
    obtain ⟨fd, F, hF⟩ := law12_fn (P := (PySem.Challenge.rw_movedframes_k12_kinds_by_hand).prog) W
    have q : mg ("law" : PySem.Str) = some (.ref (T0.fa K 59)) := (W.glob "law" (.fn 59) (lookG_mem (show lookG "law" T0.glob = some (.fn 59) by kernel_rfl))).1
    rw [hmg] at q
    cases q
    have hb := L2.FunD.bindsA (ps := f59.ps) F fun _ _ _ _ _ _ us hl => bind_plain (by decide +kernel) hl
    exact ⟨K, fd, spLaw K, KX, fun s v => hb s [v] rfl, fun H a ns hl _ hS => ⟨a, ns, rfl, hl, sql_rd c.more hS, fun _ => rfl⟩, fun base _ _ => hF base⟩
