import PyProof.Rows.All
import Wide.All
import OpenK.AllK
import Wide.FinOn
import PySem.PyData
import HandS.ForMost
import HandS.Exc
import HandS.TryOnly
import HandS.TryMany
import HandS.ExcOwn
import HandS.ExcIs
import HandS.WordsExc
import HandS.StrMore
import HandS.IsInst
import HandS.TupAny
import HandS.Style
import HandS.Wide
import HandS.Replace
import HandS.Codes
import HandS.Small
import HandS.Iter
import HandS.DictComp
import KE.SortData
import KE.GoesMore
import KE.GoesEnum
import PyProof.TupleOfGen
import PyProof.CollectStr
import KE.LtData
import HandS.Ends
import PySem.Challenge.RW_lettersacross_k51_figures_there_and_back
set_option Elab.async false
set_option linter.all false
set_option autoImplicit true
namespace PL

/-- plain data: what a value is, its lists and tuples and dicts with it -/
inductive Dat where
  | non | bl (b : Bool) | int (i : Int) | str (s : List Nat) | lst (xs : List Dat) | tup (xs : List Dat) | dic (kvs : List (Dat × Dat)) | exc (c : Nat)
  deriving Inhabited

/-- a result: a value, an own error (its class's number), or nothing that is said -/
inductive R (α : Type) where
  | ok (a : α) | exc (c : Nat) | bad

def R.bnd {α β : Type} (r : R α) (f : α → R β) : R β := match r with
  | .ok a => f a
  | .exc c => .exc c
  | .bad => .bad
@[simp] theorem R.bnd_ok {α β : Type} (a : α) (f : α → R β) : (R.ok a).bnd f = f a := Eq.trans rfl rfl
@[simp] theorem R.bnd_exc {α β : Type} (c : Nat) (f : α → R β) : (R.exc c : R α).bnd f = .exc c := Eq.trans rfl rfl
@[simp] theorem R.bnd_bad {α β : Type} (f : α → R β) : (R.bad : R α).bnd f = .bad := Eq.trans rfl rfl
theorem R.bnd_assoc {α β γ : Type} (r : R α) (f : α → R β) (g : β → R γ) : (r.bnd f).bnd g = r.bnd fun a => (f a).bnd g := by cases r <;> rfl

/-- what must hold of a result -/
def Post {α : Type} (r : R α) (p : α → Prop) (x : Nat → Prop) : Prop := match r with
  | .ok a => p a
  | .exc c => x c
  | .bad => False
theorem Post.bnd {α β : Type} {r : R α} {f : α → R β} {p : β → Prop} {x : Nat → Prop} (h : Post (r.bnd f) p x) : Post r (fun a => Post (f a) p x) x := by
  cases r with
  | ok a => exact h
  | exc c => exact h
  | bad => exact h
theorem Post.imp {α : Type} {r : R α} {p q : α → Prop} {x y : Nat → Prop} (h : Post r p x) (hp : ∀ a, p a → q a) (hx : ∀ c, x c → y c) : Post r q y := by
  cases r with
  | ok a => exact hp a h
  | exc c => exact hx c h
  | bad => exact h

/-- the longest list, the longest text -/
def LINE : Nat := 16777216

def guardR {α : Type} (c : Prop) [Decidable c] (a : α) : R α := if c then .ok a else .bad

/-! ### equality -/
def b2i (b : Bool) : Int := if b then 1 else 0
mutual
def eqv : Dat → Dat → Bool
  | .non, .non => true
  | .bl a, .bl b => a == b
  | .bl a, .int j => b2i a == j
  | .int i, .bl b => i == b2i b
  | .int i, .int j => i == j
  | .str x, .str y => x == y
  | .lst xs, .lst ys => eqvL xs ys
  | .tup xs, .tup ys => eqvL xs ys
  | _, _ => false
def eqvL : List Dat → List Dat → Bool
  | [], [] => true
  | x :: xs, y :: ys => eqv x y && eqvL xs ys
  | _, _ => false
end
mutual
/-- data of depth at most n without dicts and errors -/
def shp : Nat → Dat → Bool
  | _, .non => true
  | _, .bl _ => true
  | _, .int _ => true
  | _, .str _ => true
  | n + 1, .lst xs => shpL n xs
  | n + 1, .tup xs => shpL n xs
  | _, _ => false
def shpL : Nat → List Dat → Bool
  | _, [] => true
  | n, x :: xs => shp n x && shpL n xs
end
def DEEP : Nat := 40
def eqD (x y : Dat) : R Dat := if shp DEEP x && shp DEEP y then .ok (.bl (eqv x y)) else .bad
def neD (x y : Dat) : R Dat := if shp DEEP x && shp DEEP y then .ok (.bl (!eqv x y)) else .bad

/-! ### numbers -/
def small64 (i : Int) : Prop := -(2 ^ 64) < i ∧ i < 2 ^ 64
instance (i : Int) : Decidable (small64 i) := by unfold small64; infer_instance
def addD : Dat → Dat → R Dat
  | .int i, .int j => .ok (.int (i + j))
  | .str x, .str y => if x.length + y.length ≤ LINE then .ok (.str (x ++ y)) else .bad
  | .lst x, .lst y => if x.length + y.length ≤ LINE then .ok (.lst (x ++ y)) else .bad
  | .tup x, .tup y => if x.length + y.length ≤ LINE then .ok (.tup (x ++ y)) else .bad
  | _, _ => .bad
/-- of numbers and texts -/
def addF : Dat → Dat → R Dat
  | .int i, .int j => .ok (.int (i + j))
  | .str x, .str y => if x.length + y.length ≤ LINE then .ok (.str (x ++ y)) else .bad
  | _, _ => .bad
def subD : Dat → Dat → R Dat
  | .int i, .int j => .ok (.int (i - j))
  | _, _ => .bad
/-- n times -/
def rep {α : Type} (n : Nat) (xs : List α) : List α := (List.replicate n xs).flatten
def mulN : Dat → Dat → R Dat
  | .int i, .int j => if small64 i ∨ small64 j then .ok (.int (i * j)) else .bad
  | .str x, .int n => if -(2 ^ 63) ≤ n ∧ n < 2 ^ 63 ∧ x.length * n.toNat ≤ LINE then .ok (.str (rep n.toNat x)) else .bad
  | _, _ => .bad
/-- [..] * n -/
def repD : Dat → Dat → R Dat
  | .lst x, .int n => if -(2 ^ 63) ≤ n ∧ n < 2 ^ 63 ∧ x.length * n.toNat ≤ LINE then .ok (.lst (rep n.toNat x)) else .bad
  | _, _ => .bad
/-- *, lists at the left too -/
def mulD (x y : Dat) : R Dat := match x, y with
  | .lst xs, .int n => repD (.lst xs) (.int n)
  | x, y => mulN x y
def fdivD : Dat → Dat → R Dat
  | .int i, .int j => if 0 < j ∧ j < 1073741824 then .ok (.int (i / j)) else .bad
  | _, _ => .bad
def modD : Dat → Dat → R Dat
  | .int i, .int j => if 0 < j then .ok (.int (i % j)) else .bad
  | _, _ => .bad
def powD : Dat → Dat → R Dat
  | .int i, .int j => if 0 ≤ j ∧ j ≤ 1000000 ∧ i.natAbs < 2 ^ 64 then .ok (.int (i ^ j.toNat)) else .bad
  | _, _ => .bad
def negD : Dat → R Dat
  | .int i => .ok (.int (-i))
  | _ => .bad

/-! ### order -/
def ltS (x y : List Nat) : Bool := decide (x < y)
def rank : Dat → Nat
  | .non => 0
  | .bl _ => 1
  | .int _ => 2
  | .str _ => 3
  | .tup _ => 4
  | .lst _ => 5
  | .dic _ => 6
  | .exc _ => 7
/-- before, alike, behind, of texts -/
def cmpS : List Nat → List Nat → Ordering
  | [], [] => .eq
  | [], _ :: _ => .lt
  | _ :: _, [] => .gt
  | a :: x, b :: y => (compare a b).then (cmpS x y)
mutual
/-- a total order (alike: of one kind that is not compared further) -/
def cmpT : Dat → Dat → Ordering
  | .int i, .int j => compare i j
  | .str x, .str y => cmpS x y
  | .tup xs, .tup ys => cmpL xs ys
  | x, y => compare (rank x) (rank y)
def cmpL : List Dat → List Dat → Ordering
  | [], [] => .eq
  | [], _ :: _ => .lt
  | _ :: _, [] => .gt
  | x :: xs, y :: ys => (cmpT x y).then (cmpL xs ys)
end
mutual
/-- the two can be compared, place by place: numbers, texts, tuples of such -/
def alk : Dat → Dat → Bool
  | .int _, .int _ => true
  | .str _, .str _ => true
  | .tup xs, .tup ys => alkL xs ys
  | _, _ => false
def alkL : List Dat → List Dat → Bool
  | x :: xs, y :: ys => alk x y && alkL xs ys
  | [], _ => true
  | _ :: _, [] => true
end
def ltN : Dat → Dat → R Dat
  | .int i, .int j => .ok (.bl (decide (i < j)))
  | .str x, .str y => .ok (.bl (ltS x y))
  | _, _ => .bad
/-- x < y; lists and tuples of numbers, texts and tuples too -/
def ltD : Dat → Dat → R Dat
  | .int i, .int j => .ok (.bl (decide (i < j)))
  | .str x, .str y => .ok (.bl (ltS x y))
  | .lst xs, .lst ys => if shpL DEEP xs && shpL DEEP ys && alkL xs ys then .ok (.bl (cmpL xs ys == .lt)) else .bad
  | .tup xs, .tup ys => if shpL DEEP xs && shpL DEEP ys && alkL xs ys then .ok (.bl (cmpL xs ys == .lt)) else .bad
  | _, _ => .bad
def leD : Dat → Dat → R Dat
  | .int i, .int j => .ok (.bl (decide (i ≤ j)))
  | .str x, .str y => .ok (.bl (!ltS y x))
  | _, _ => .bad
def gtD (x y : Dat) : R Dat := match x, y with
  | .int i, .int j => .ok (.bl (decide (j < i)))
  | .str x, .str y => .ok (.bl (ltS y x))
  | _, _ => .bad
def geD (x y : Dat) : R Dat := match x, y with
  | .int i, .int j => .ok (.bl (decide (j ≤ i)))
  | .str x, .str y => .ok (.bl (!ltS x y))
  | _, _ => .bad

/-! ### is None, not, truth -/
def isN : Dat → R Dat
  | .non => .ok (.bl true)
  | .exc _ => .bad
  | _ => .ok (.bl false)
def notN : Dat → R Dat
  | .non => .ok (.bl false)
  | .exc _ => .bad
  | _ => .ok (.bl true)
/-- truth, of boolsOf alone -/
def tru : Dat → R Bool
  | .bl b => .ok b
  | _ => .bad

/-! ### places -/
/-- the place that an index means in a row of so many -/
def placeOf (i : Int) (n : Nat) : Option Nat := if 0 ≤ i then (if i < n then some i.toNat else none) else if -(n : Int) ≤ i then some (i + n).toNat else none
def atPlace {α : Type} (xs : List α) (i : Int) : Option α := (placeOf i xs.length).bind fun k => xs[k]?
/-- where a slice begins or ends in a row of n -/
def cutAt (n : Nat) (dflt : Nat) : Option Int → Nat
  | none => dflt
  | some i => if i < 0 then (i + (n : Int)).toNat else min i.toNat n
def cut {α : Type} (xs : List α) (lo hi : Option Int) : List α := (xs.drop (cutAt xs.length 0 lo)).take (cutAt xs.length xs.length hi - cutAt xs.length 0 lo)
def keyEq (k : Dat) (p : Dat × Dat) : Bool := eqv p.1 k
def dicGet (kvs : List (Dat × Dat)) (k : Dat) : Option Dat := (kvs.find? (keyEq k)).map (·.2)
/-- keys of dicts: intsOf and texts -/
def isKey : Dat → Bool
  | .int _ => true
  | .str _ => true
  | _ => false
def idxD : Dat → Dat → R Dat
  | .lst xs, .int i => match atPlace xs i with | some d => .ok d | none => .bad
  | .tup xs, .int i => match atPlace xs i with | some d => .ok d | none => .bad
  | .str s, .int i => match atPlace s i with | some c => .ok (.str [c]) | none => .bad
  | .dic kvs, k => if isKey k then (match dicGet kvs k with | some d => .ok d | none => .bad) else .bad
  | _, _ => .bad
def optInt : Dat → R (Option Int)
  | .int i => .ok (some i)
  | _ => .bad
def sliD (lo hi : Option Int) : Dat → R Dat
  | .lst xs => .ok (.lst (cut xs lo hi))
  | .tup xs => .ok (.tup (cut xs lo hi))
  | .str s => .ok (.str (cut s lo hi))
  | _ => .bad
/-- x[::-1] -/
def revD : Dat → R Dat
  | .lst xs => .ok (.lst xs.reverse)
  | .str s => .ok (.str s.reverse)
  | _ => .bad

/-! ### in -/
/-- one row stands within another from a place on -/
def begins {α : Type} [BEq α] : List α → List α → Bool
  | [], _ => true
  | _ :: _, [] => false
  | x :: xs, y :: ys => x == y && begins xs ys
def within : List Nat → List Nat → Bool
  | z, [] => begins z []
  | z, y :: ys => begins z (y :: ys) || within z ys
def inD : Dat → Dat → R Dat
  | x, .lst ys => if shp DEEP x && shpL DEEP ys then .ok (.bl (ys.any fun y => eqv y x)) else .bad
  | x, .tup ys => if shp DEEP x && shpL DEEP ys then .ok (.bl (ys.any fun y => eqv y x)) else .bad
  | .str x, .str y => .ok (.bl (within x y))
  | x, .dic kvs => if isKey x then .ok (.bl (dicGet kvs x).isSome) else .bad
  | _, _ => .bad
def notB : Dat → R Dat
  | .bl b => .ok (.bl (!b))
  | _ => .bad
def notInD (x y : Dat) : R Dat := (inD x y).bnd notB

/-! ### calls -/
def lenD : Dat → R Dat
  | .lst xs => .ok (.int xs.length)
  | .tup xs => .ok (.int xs.length)
  | .str s => .ok (.int s.length)
  | .dic kvs => .ok (.int kvs.length)
  | _ => .bad
/-- int(x) of a number or a bool -/
def intD : Dat → R Dat
  | .int i => .ok (.int i)
  | .bl b => .ok (.int (b2i b))
  | _ => .bad
inductive Ty where | int | str | bool | list | tuple | dict
  deriving DecidableEq
def isTy : Ty → Dat → R Dat
  | _, .exc _ => .bad
  | .int, .int _ => .ok (.bl true)
  | .int, .bl _ => .ok (.bl true)
  | .bool, .bl _ => .ok (.bl true)
  | .str, .str _ => .ok (.bl true)
  | .list, .lst _ => .ok (.bl true)
  | .tuple, .tup _ => .ok (.bl true)
  | .dict, .dic _ => .ok (.bl true)
  | _, _ => .ok (.bl false)
def joinS (sep : List Nat) : List (List Nat) → List Nat
  | [] => []
  | [x] => x
  | x :: y :: r => x ++ sep ++ joinS sep (y :: r)
def strsOf : List Dat → Option (List (List Nat))
  | [] => some []
  | .str s :: r => (strsOf r).map (s :: ·)
  | _ :: _ => none
def joinD : Dat → Dat → R Dat
  | .str sep, .lst xs => match strsOf xs with | some ss => if (ss.map (·.length)).sum + ss.length * sep.length ≤ LINE then .ok (.str (joinS sep ss)) else .bad | none => .bad
  | .str sep, .tup xs => match strsOf xs with | some ss => if (ss.map (·.length)).sum + ss.length * sep.length ≤ LINE then .ok (.str (joinS sep ss)) else .bad | none => .bad
  | _, _ => .bad
def boolsOf : List Dat → Option (List Bool)
  | [] => some []
  | .bl b :: r => (boolsOf r).map (b :: ·)
  | _ :: _ => none
def allD : Dat → R Dat
  | .lst xs => match boolsOf xs with | some bs => .ok (.bl (bs.all id)) | none => .bad
  | _ => .bad
def anyD : Dat → R Dat
  | .lst xs => match boolsOf xs with | some bs => .ok (.bl (bs.any id)) | none => .bad
  | _ => .bad
def intsOf : List Dat → Option (List Int)
  | [] => some []
  | .int b :: r => (intsOf r).map (b :: ·)
  | _ :: _ => none
def minI : Int → List Int → Int
  | x, [] => x
  | x, y :: r => minI (if y < x then y else x) r
def maxI : Int → List Int → Int
  | x, [] => x
  | x, y :: r => maxI (if y > x then y else x) r
def minD : Dat → R Dat
  | .lst xs => match intsOf xs with | some (i :: r) => .ok (.int (minI i r)) | _ => .bad
  | _ => .bad
def maxD : Dat → R Dat
  | .lst xs => match intsOf xs with | some (i :: r) => .ok (.int (maxI i r)) | _ => .bad
  | _ => .bad
def min2 : Dat → Dat → R Dat
  | .int i, .int j => .ok (.int (if j < i then j else i))
  | _, _ => .bad
def max2 : Dat → Dat → R Dat
  | .int i, .int j => .ok (.int (if j > i then j else i))
  | _, _ => .bad
def sumD : Dat → R Dat
  | .lst xs => match intsOf xs with | some is => .ok (.int is.sum) | none => .bad
  | _ => .bad
/-- the number of the first place of a sign in a text; a text without it is not asked -/
def indexD : Dat → Dat → R Dat
  | .str s, .str [c] => match s.findIdx? (· == c) with | some k => .ok (.int k) | none => .bad
  | _, _ => .bad
def startsD : Dat → Dat → R Dat
  | .str x, .str y => .ok (.bl (begins y x))
  | _, _ => .bad
def startsAtD : Dat → Dat → Dat → R Dat
  | .str x, .str y, .int i => if 0 ≤ i then (if i ≤ x.length then .ok (.bl (begins y (x.drop i.toNat))) else .ok (.bl false)) else .bad
  | _, _, _ => .bad
def ordD : Dat → R Dat
  | .str [c] => .ok (.int c)
  | _ => .bad
/-- what is walked -/
def signs (s : List Nat) : List Dat := s.map fun c => .str [c]
def itemsD : Dat → R (List Dat)
  | .lst xs => .ok xs
  | .tup xs => .ok xs
  | .str s => .ok (signs s)
  | _ => .bad
def fits62 (i : Int) : Prop := -(2 ^ 62) ≤ i ∧ i < 2 ^ 62
instance (i : Int) : Decidable (fits62 i) := by unfold fits62; infer_instance
/-- lo, lo + 1, .. below hi -/
def upTo (lo hi : Int) : List Int := (List.range (hi - lo).toNat).map fun k => lo + (k : Nat)
/-- lo, lo + st, .. (st > 0) below hi -/
def stepTo (lo hi st : Int) : List Int := (List.range ((hi - lo + st - 1) / st).toNat).map fun k => lo + (k : Nat) * st
def rng1 : Dat → R (List Dat)
  | .int n => if fits62 n then .ok ((upTo 0 n).map .int) else .bad
  | _ => .bad
def rng2 : Dat → Dat → R (List Dat)
  | .int m, .int n => if fits62 m ∧ fits62 n then .ok ((upTo m n).map .int) else .bad
  | _, _ => .bad
def rng3 : Dat → Dat → Dat → R (List Dat)
  | .int m, .int n, .int st => if fits62 m ∧ fits62 n ∧ 0 < st ∧ st < 2 ^ 30 then .ok ((stepTo m n st).map .int) else .bad
  | _, _, _ => .bad
def enumFrom (k : Nat) : List Dat → List Dat
  | [] => []
  | x :: r => .tup [.int k, x] :: enumFrom (k + 1) r
def zipT : List Dat → List Dat → List Dat
  | x :: r, y :: t => .tup [x, y] :: zipT r t
  | _, _ => []
/-- list(x), tuple(x) -/
def listD : Dat → R Dat
  | .lst xs => .ok (.lst xs)
  | .tup xs => .ok (.lst xs)
  | .str s => .ok (.lst (signs s))
  | _ => .bad
def listLD : Dat → R Dat
  | .lst xs => .ok (.lst xs)
  | .tup xs => .ok (.lst xs)
  | _ => .bad
def tupleLD : Dat → R Dat
  | .lst xs => .ok (.tup xs)
  | .tup xs => .ok (.tup xs)
  | _ => .bad
def tupleD : Dat → R Dat
  | .lst xs => .ok (.tup xs)
  | .tup xs => .ok (.tup xs)
  | .str s => .ok (.tup (signs s))
  | _ => .bad

/-! ### the slots, expressions -/
abbrev Env := List (Option Dat)
abbrev EM := Env → R Dat
abbrev LM := Env → R (List Dat)
abbrev TM := Env → R Bool
def eV (i : Nat) : EM := fun ρ => match ρ[i]? with
  | some (some d) => .ok d
  | _ => .bad
def eC (d : Dat) : EM := fun _ => .ok d
def e1 (f : Dat → R Dat) (a : EM) : EM := fun ρ => (a ρ).bnd f
def e2 (f : Dat → Dat → R Dat) (a b : EM) : EM := fun ρ => (a ρ).bnd fun x => (b ρ).bnd fun y => f x y
def e3 (f : Dat → Dat → Dat → R Dat) (a b c : EM) : EM := fun ρ => (a ρ).bnd fun x => (b ρ).bnd fun y => (c ρ).bnd fun z => f x y z
def eNil : LM := fun _ => .ok []
def eCons (a : EM) (r : LM) : LM := fun ρ => (a ρ).bnd fun x => (r ρ).bnd fun xs => .ok (x :: xs)
def eLst (as : LM) : EM := fun ρ => (as ρ).bnd fun xs => if xs.length ≤ LINE then .ok (.lst xs) else .bad
def eTup (as : LM) : EM := fun ρ => (as ρ).bnd fun xs => if xs.length ≤ LINE then .ok (.tup xs) else .bad
def eDic0 : EM := fun _ => .ok (.dic [])
/-- the pairs of a display -/
def ePrs : List (EM × EM) → Env → R (List (Dat × Dat))
  | [], _ => .ok []
  | (k, v) :: r, ρ => (k ρ).bnd fun x => (v ρ).bnd fun y => (ePrs r ρ).bnd fun t => .ok ((x, y) :: t)
/-- a text's method with one, two arguments -/
def isS : Dat → R Dat
  | .str s => .ok (.str s)
  | _ => .bad
def eM1 (f : Dat → Dat → R Dat) (a b : EM) : EM := fun ρ => (a ρ).bnd fun x => (isS x).bnd fun x => (b ρ).bnd fun y => f x y
def eM2 (f : Dat → Dat → Dat → R Dat) (a b c : EM) : EM := fun ρ => (a ρ).bnd fun x => (isS x).bnd fun x => (b ρ).bnd fun y => (c ρ).bnd fun z => f x y z
/-- a call of a def -/
def eCall (f : List Dat → R Dat) (as : LM) : EM := fun ρ => (as ρ).bnd f
/-- a op1 b op2 c -/
def eChain (f g : Dat → Dat → R Dat) (a b c : EM) : EM := fun ρ => (a ρ).bnd fun x => (b ρ).bnd fun y => (f x y).bnd fun z => match z with
  | .bl true => (c ρ).bnd fun w => g y w
  | .bl false => .ok (.bl false)
  | _ => .bad
def eAnd (a b : EM) : EM := fun ρ => (a ρ).bnd fun x => match x with
  | .bl true => b ρ
  | .bl false => .ok (.bl false)
  | _ => .bad
def eOr (a b : EM) : EM := fun ρ => (a ρ).bnd fun x => match x with
  | .bl true => .ok (.bl true)
  | .bl false => b ρ
  | _ => .bad
def tE (a : EM) : TM := fun ρ => (a ρ).bnd tru
def tNot (t : TM) : TM := fun ρ => (t ρ).bnd fun b => .ok (!b)
def tAnd (t u : TM) : TM := fun ρ => (t ρ).bnd fun b => if b then u ρ else .ok false
def tOr (t u : TM) : TM := fun ρ => (t ρ).bnd fun b => if b then .ok true else u ρ
def eT (t : TM) : EM := fun ρ => (t ρ).bnd fun b => .ok (.bl b)
def eIf (t : TM) (a b : EM) : EM := fun ρ => (t ρ).bnd fun c => if c then a ρ else b ρ
abbrev PM := Env → R (Option Int)
def pN : PM := fun _ => .ok none
def pS (e : EM) : PM := fun ρ => (e ρ).bnd optInt
def eSli (lo hi : PM) (a : EM) : EM := fun ρ => (a ρ).bnd fun x => (lo ρ).bnd fun l => (hi ρ).bnd fun h => sliD l h x

/-! ### what is walked; targets; comprehensions -/
def iOf (a : EM) : LM := fun ρ => (a ρ).bnd itemsD
def iR1 (a : EM) : LM := fun ρ => (a ρ).bnd rng1
def iR2 (a b : EM) : LM := fun ρ => (a ρ).bnd fun x => (b ρ).bnd fun y => rng2 x y
def iR3 (a b c : EM) : LM := fun ρ => (a ρ).bnd fun x => (b ρ).bnd fun y => (c ρ).bnd fun z => rng3 x y z
def lstD : Dat → R (List Dat)
  | .lst xs => .ok xs
  | _ => .bad
def enumN (x : Dat) : R (List Dat) := (lstD x).bnd fun xs => .ok (enumFrom 0 xs)
def enumD : Dat → R (List Dat)
  | .lst xs => .ok (enumFrom 0 xs)
  | .tup xs => .ok (enumFrom 0 xs)
  | _ => .bad
def zipD (x y : Dat) : R (List Dat) := (lstD x).bnd fun xs => (lstD y).bnd fun ys => .ok (zipT xs ys)
def iEnumN (a : EM) : LM := fun ρ => (a ρ).bnd enumN
def iEnum (a : EM) : LM := fun ρ => (a ρ).bnd enumD
def iZip (a b : EM) : LM := fun ρ => (a ρ).bnd fun x => (b ρ).bnd fun y => zipD x y
abbrev GM := Dat → Env → R Env
def gV (i : Nat) : GM := fun d ρ => if i < ρ.length then .ok (ρ.set i (some d)) else .bad
abbrev GsM := List Dat → Env → R Env
def gNil : GsM := fun ds ρ => match ds with | [] => .ok ρ | _ => .bad
def gCons (g : GM) (r : GsM) : GsM := fun ds ρ => match ds with | d :: t => (g d ρ).bnd fun ρ' => r t ρ' | [] => .bad
def gTup (n : Nat) (g : GsM) : GM := fun d ρ => match d with | .tup xs => if xs.length = n then g xs ρ else .bad | _ => .bad

def wipe (ρ : Env) : List Nat → Env
  | [] => ρ
  | v :: vs => (wipe ρ vs).set v none
/-- an own error within a comprehension is not spoken of -/
def noX {α : Type} : R α → R α
  | .ok a => .ok a
  | _ => .bad
/-- the items that a comprehension makes -/
def compL (g : GM) (t : TM) (e : EM) (ρ : Env) : List Dat → R (List Dat)
  | [] => .ok []
  | d :: r => (noX (g d ρ)).bnd fun ρ' => (noX (t ρ')).bnd fun b =>
    if b then (noX (e ρ')).bnd fun y => (compL g t e ρ r).bnd fun ys => .ok (y :: ys) else compL g t e ρ r
def eComp (src : LM) (own : List Nat) (g : GM) (t : TM) (e : EM) : EM := fun ρ => (src ρ).bnd fun ds => (compL g t e (wipe ρ own) ds).bnd fun ys => if ys.length ≤ LINE then .ok (.lst ys) else .bad
def tYes : TM := fun _ => .ok true

/-! ### statements -/
inductive Fl where
  | nx | bk | ct | rt (d : Dat) | ex (c : Nat)
/-- how a statement ends; none: nothing is said -/
abbrev O := Option (Fl × Env)
abbrev SM := Env → O
def lft {α : Type} (r : R α) (ρ : Env) (k : α → O) : O := match r with
  | .ok a => k a
  | .exc c => some (.ex c, ρ)
  | .bad => none
@[simp] theorem lft_ok {α : Type} (a : α) (ρ : Env) (k : α → O) : lft (R.ok a) ρ k = k a := Eq.trans rfl rfl
@[simp] theorem lft_exc {α : Type} (c : Nat) (ρ : Env) (k : α → O) : lft (R.exc c : R α) ρ k = some (.ex c, ρ) := Eq.trans rfl rfl
@[simp] theorem lft_bad {α : Type} (ρ : Env) (k : α → O) : lft (R.bad : R α) ρ k = none := Eq.trans rfl rfl
/-- what a target leaves -/
def gok (r : R Env) (k : Env → O) : O := match r with
  | .ok a => k a
  | _ => none
@[simp] theorem gok_ok (a : Env) (k : Env → O) : gok (R.ok a) k = k a := Eq.trans rfl rfl
@[simp] theorem gok_bad (k : Env → O) : gok R.bad k = none := Eq.trans rfl rfl
def sSkip : SM := fun ρ => some (.nx, ρ)
def sAsg (g : GM) (e : EM) : SM := fun ρ => lft (e ρ) ρ fun d => gok (g d ρ) fun ρ' => some (.nx, ρ')
/-- a new list or dict, the def's own from here on -/
def sNew (i : Nat) (e : EM) : SM := fun ρ => lft (e ρ) ρ fun d => match d with
  | .lst xs => if i < ρ.length then some (.nx, ρ.set i (some (.lst xs))) else none
  | .dic xs => if i < ρ.length then some (.nx, ρ.set i (some (.dic xs))) else none
  | _ => none
def sDrop (e : EM) : SM := fun ρ => lft (e ρ) ρ fun _ => some (.nx, ρ)
def sRet (e : EM) : SM := fun ρ => lft (e ρ) ρ fun d => some (.rt d, ρ)
def sRaise (c : Nat) : SM := fun ρ => some (.ex c, ρ)
def sBrk : SM := fun ρ => some (.bk, ρ)
def sCnt : SM := fun ρ => some (.ct, ρ)
def sSeq (a b : SM) : SM := fun ρ => match a ρ with
  | some (.nx, ρ') => b ρ'
  | r => r
def sIf (t : TM) (a b : SM) : SM := fun ρ => lft (t ρ) ρ fun c => if c then a ρ else b ρ
/-- a op= e at the slot i -/
def sAug (f : Dat → Dat → R Dat) (i : Nat) (e : EM) : SM := sAsg (gV i) (e2 f (eV i) e)
/-- x.append(e), x the list in the slot i -/
def sApp (i : Nat) (e : EM) : SM := fun ρ => match ρ[i]? with
  | some (some (.lst xs)) => lft (e ρ) ρ fun d => if xs.length < LINE then some (.nx, ρ.set i (some (.lst (xs ++ [d])))) else none
  | _ => none
def dicPut (kvs : List (Dat × Dat)) (k v : Dat) : List (Dat × Dat) := if kvs.any (keyEq k) then kvs.map (fun p => if keyEq k p then (p.1, v) else p) else kvs ++ [(k, v)]
/-- .. of two clauses -/
def compL2 (g : GM) (t : TM) (src1 : LM) (own1 : List Nat) (g1 : GM) (t1 : TM) (e : EM) (ρ : Env) : List Dat → R (List Dat)
  | [] => .ok []
  | d :: r => (noX (g d ρ)).bnd fun ρ' => (noX (t ρ')).bnd fun b =>
    if b then (noX (src1 ρ')).bnd fun ds1 => (compL g1 t1 e (wipe ρ' own1) ds1).bnd fun ys => (compL2 g t src1 own1 g1 t1 e ρ r).bnd fun zs => .ok (ys ++ zs) else compL2 g t src1 own1 g1 t1 e ρ r
def eComp2 (src : LM) (own : List Nat) (g : GM) (t : TM) (src1 : LM) (own1 : List Nat) (g1 : GM) (t1 : TM) (e : EM) : EM := fun ρ => (src ρ).bnd fun ds => (compL2 g t src1 own1 g1 t1 e (wipe ρ own) ds).bnd fun ys => if ys.length ≤ LINE then .ok (.lst ys) else .bad
/-- the dict that a comprehension makes -/
def compD (g : GM) (t : TM) (ek ev : EM) (ρ : Env) : List Dat → List (Dat × Dat) → R (List (Dat × Dat))
  | [], acc => .ok acc
  | d :: r, acc => (noX (g d ρ)).bnd fun ρ' => (noX (t ρ')).bnd fun b =>
    if b then (noX (ek ρ')).bnd fun k => (noX (ev ρ')).bnd fun v => if isKey k ∧ acc.length < LINE then compD g t ek ev ρ r (dicPut acc k v) else .bad else compD g t ek ev ρ r acc
def eDComp (src : LM) (own : List Nat) (g : GM) (t : TM) (ek ev : EM) : EM := fun ρ => (src ρ).bnd fun ds => (compD g t ek ev (wipe ρ own) ds []).bnd fun kvs => .ok (.dic kvs)
/-- {k: v, ..} with keys ints and texts -/
def eDisp (ps : List (EM × EM)) : EM := fun ρ => (ePrs ps ρ).bnd fun t => if t.all (fun p => isKey p.1) then .ok (.dic (t.foldl (fun d p => dicPut d p.1 p.2) [])) else .bad
/-- x[k] = e, x the list or dict in the slot i: the value first, then the key -/
def sPut (i : Nat) (k e : EM) : SM := fun ρ => match ρ[i]? with
  | some (some (.lst xs)) => lft (e ρ) ρ fun d => lft (k ρ) ρ fun z => match z with
    | .int j => (match placeOf j xs.length with | some n => some (.nx, ρ.set i (some (.lst (xs.set n d)))) | none => none)
    | _ => none
  | some (some (.dic kvs)) => lft (e ρ) ρ fun d => lft (k ρ) ρ fun z => if isKey z ∧ kvs.length < LINE then some (.nx, ρ.set i (some (.dic (dicPut kvs z d)))) else none
  | _ => none
def forL (g : GM) (b : SM) : List Dat → SM
  | [], ρ => some (.nx, ρ)
  | d :: r, ρ => gok (g d ρ) fun ρ1 => match b ρ1 with
    | some (.nx, ρ2) => forL g b r ρ2
    | some (.ct, ρ2) => forL g b r ρ2
    | some (.bk, ρ2) => some (.nx, ρ2)
    | q => q
def sFor (src : LM) (g : GM) (b : SM) : SM := fun ρ => lft (src ρ) ρ fun ds => forL g b ds ρ
def whlN (t : TM) (b : SM) : Nat → SM
  | 0, _ => none
  | n + 1, ρ => lft (t ρ) ρ fun c => if c then (match b ρ with
    | some (.nx, ρ') => whlN t b n ρ'
    | some (.ct, ρ') => whlN t b n ρ'
    | some (.bk, ρ') => some (.nx, ρ')
    | q => q) else some (.nx, ρ)
open Classical in
noncomputable def sWhl (t : TM) (b : SM) : SM := fun ρ => if h : ∃ n, (whlN t b n ρ).isSome = true then whlN t b h.choose ρ else none
/-- a, b = x, y and a, b, c = x, y, z of plain locals -/
def setAll : List (Nat × Dat) → Env → Env
  | [], ρ => ρ
  | (i, d) :: r, ρ => setAll r (ρ.set i (some d))
def sPar (is : List Nat) (ms : LM) : SM := fun ρ => lft (ms ρ) ρ fun ds => if ds.length = is.length ∧ is.all (· < ρ.length) = true then some (.nx, setAll (is.zip ds) ρ) else none
/-- an own error out of an except suite is not spoken of -/
def noEx : O → O
  | some (.ex _, _) => none
  | o => o
/-- the except clauses: which classes, the error's slot, the suite -/
def hand : List ((Nat → Bool) × Option Nat × SM) → Nat → SM
  | [], c, ρ => some (.ex c, ρ)
  | (p, none, u) :: r, c, ρ => if p c then noEx (u ρ) else hand r c ρ
  | (p, some i, u) :: r, c, ρ => if p c then (if i < ρ.length then (match noEx (u (ρ.set i (some (.exc c)))) with
    | some (f, ρ') => some (f, ρ'.set i none)
    | none => none) else none) else hand r c ρ
def sTry (hs : List ((Nat → Bool) × Option Nat × SM)) (a : SM) : SM := fun ρ => match a ρ with
  | some (.ex c, ρ') => hand hs c ρ'
  | q => q
/-- isinstance(e, X), e an error held by a suite: sub tells which classes lie under which -/
def isX (sub : Nat → Nat → Bool) (n : Nat) : Dat → R Dat
  | .exc c => .ok (.bl (sub c n))
  | _ => .bad
/-- a def: its body from its arguments, N slots in all -/
def run (n : Nat) (b : SM) (as : List Dat) : R Dat := match b (as.map some ++ List.replicate (n - as.length) none) with
  | some (.nx, _) => .ok .non
  | some (.rt d, _) => .ok d
  | some (.ex c, _) => .exc c
  | _ => .bad
end PL

namespace PL
set_option autoImplicit false
theorem cmpS_swap : ∀ x y : List Nat, cmpS y x = (cmpS x y).swap
  | [], [] => rfl
  | [], _ :: _ => rfl
  | _ :: _, [] => rfl
  | a :: x, b :: y => by
    unfold cmpS
    rw [cmpS_swap x y, Ordering.swap_then, Nat.compare_swap]
theorem cmpT_ne {x y : Dat} (h : rank x ≠ rank y) : cmpT x y = compare (rank x) (rank y) := by
  cases x <;> cases y <;> first | exact absurd rfl h | (simp only [cmpT])
mutual
theorem cmpT_swap : ∀ x y : Dat, cmpT y x = (cmpT x y).swap
  | .int i, .int j => by simp only [cmpT]; exact (Int.compare_swap i j).symm
  | .str x, .str y => by simp only [cmpT]; exact cmpS_swap x y
  | .tup xs, .tup ys => by simp only [cmpT]; exact cmpL_swap xs ys
  | .tup xs, .non => by simp only [cmpT, rank]; decide
  | .tup xs, .bl _ => by simp only [cmpT, rank]; decide
  | .tup xs, .int _ => by simp only [cmpT, rank]; decide
  | .tup xs, .str _ => by simp only [cmpT, rank]; decide
  | .tup xs, .lst _ => by simp only [cmpT, rank]; decide
  | .tup xs, .dic _ => by simp only [cmpT, rank]; decide
  | .tup xs, .exc _ => by simp only [cmpT, rank]; decide
  | .non, y => by cases y <;> simp only [cmpT, rank] <;> decide
  | .bl _, y => by cases y <;> simp only [cmpT, rank] <;> decide
  | .lst _, y => by cases y <;> simp only [cmpT, rank] <;> decide
  | .dic _, y => by cases y <;> simp only [cmpT, rank] <;> decide
  | .exc _, y => by cases y <;> simp only [cmpT, rank] <;> decide
  | .int _, .non => by simp only [cmpT, rank]; decide
  | .int _, .bl _ => by simp only [cmpT, rank]; decide
  | .int _, .str _ => by simp only [cmpT, rank]; decide
  | .int _, .tup _ => by simp only [cmpT, rank]; decide
  | .int _, .lst _ => by simp only [cmpT, rank]; decide
  | .int _, .dic _ => by simp only [cmpT, rank]; decide
  | .int _, .exc _ => by simp only [cmpT, rank]; decide
  | .str _, .non => by simp only [cmpT, rank]; decide
  | .str _, .bl _ => by simp only [cmpT, rank]; decide
  | .str _, .int _ => by simp only [cmpT, rank]; decide
  | .str _, .tup _ => by simp only [cmpT, rank]; decide
  | .str _, .lst _ => by simp only [cmpT, rank]; decide
  | .str _, .dic _ => by simp only [cmpT, rank]; decide
  | .str _, .exc _ => by simp only [cmpT, rank]; decide
theorem cmpL_swap : ∀ x y : List Dat, cmpL y x = (cmpL x y).swap
  | [], [] => by simp only [cmpL]; rfl
  | [], _ :: _ => by simp only [cmpL]; rfl
  | _ :: _, [] => by simp only [cmpL]; rfl
  | x :: xs, y :: ys => by
    simp only [cmpL]
    rw [cmpL_swap xs ys, cmpT_swap x y, Ordering.swap_then]
end
/-- what two comparisons say of the third -/
def tri : Ordering → Ordering → Ordering → Bool
  | .lt, .gt, _ => true
  | .gt, .lt, _ => true
  | .lt, _, c => c == .lt
  | .eq, b, c => c == b
  | .gt, _, c => c == .gt
abbrev Tri (a b c : Ordering) : Prop := tri a b c = true
theorem Tri.nat (i j k : Nat) : Tri (compare i j) (compare j k) (compare i k) := by
  rcases Nat.lt_trichotomy i j with h | h | h <;> rcases Nat.lt_trichotomy j k with h2 | h2 | h2
  · rw [Nat.compare_eq_lt.mpr h, Nat.compare_eq_lt.mpr h2, Nat.compare_eq_lt.mpr (by omega)]; rfl
  · rw [Nat.compare_eq_lt.mpr h, Nat.compare_eq_eq.mpr h2, Nat.compare_eq_lt.mpr (by omega)]; rfl
  · rw [Nat.compare_eq_lt.mpr h, Nat.compare_eq_gt.mpr h2]; rfl
  · rw [Nat.compare_eq_eq.mpr h, Nat.compare_eq_lt.mpr h2, Nat.compare_eq_lt.mpr (by omega)]; rfl
  · rw [Nat.compare_eq_eq.mpr h, Nat.compare_eq_eq.mpr h2, Nat.compare_eq_eq.mpr (by omega)]; rfl
  · rw [Nat.compare_eq_eq.mpr h, Nat.compare_eq_gt.mpr h2, Nat.compare_eq_gt.mpr (by omega)]; rfl
  · rw [Nat.compare_eq_gt.mpr h, Nat.compare_eq_lt.mpr h2]; rfl
  · rw [Nat.compare_eq_gt.mpr h, Nat.compare_eq_eq.mpr h2, Nat.compare_eq_gt.mpr (by omega)]; rfl
  · rw [Nat.compare_eq_gt.mpr h, Nat.compare_eq_gt.mpr h2, Nat.compare_eq_gt.mpr (by omega)]; rfl
theorem Tri.int (i j k : Int) : Tri (compare i j) (compare j k) (compare i k) := by
  rcases Int.lt_trichotomy i j with h | h | h <;> rcases Int.lt_trichotomy j k with h2 | h2 | h2
  · rw [Int.compare_eq_lt.mpr h, Int.compare_eq_lt.mpr h2, Int.compare_eq_lt.mpr (by omega)]; rfl
  · rw [Int.compare_eq_lt.mpr h, Int.compare_eq_eq.mpr h2, Int.compare_eq_lt.mpr (by omega)]; rfl
  · rw [Int.compare_eq_lt.mpr h, Int.compare_eq_gt.mpr h2]; rfl
  · rw [Int.compare_eq_eq.mpr h, Int.compare_eq_lt.mpr h2, Int.compare_eq_lt.mpr (by omega)]; rfl
  · rw [Int.compare_eq_eq.mpr h, Int.compare_eq_eq.mpr h2, Int.compare_eq_eq.mpr (by omega)]; rfl
  · rw [Int.compare_eq_eq.mpr h, Int.compare_eq_gt.mpr h2, Int.compare_eq_gt.mpr (by omega)]; rfl
  · rw [Int.compare_eq_gt.mpr h, Int.compare_eq_lt.mpr h2]; rfl
  · rw [Int.compare_eq_gt.mpr h, Int.compare_eq_eq.mpr h2, Int.compare_eq_gt.mpr (by omega)]; rfl
  · rw [Int.compare_eq_gt.mpr h, Int.compare_eq_gt.mpr h2, Int.compare_eq_gt.mpr (by omega)]; rfl
theorem Tri.then' : ∀ {a b c a' b' c' : Ordering}, Tri a b c → Tri a' b' c' → Tri (a.then a') (b.then b') (c.then c') := by
  intro a b c a' b' c' h h'
  revert h h'
  cases a <;> cases b <;> cases c <;> cases a' <;> cases b' <;> cases c' <;> decide
theorem tri_lt : ∀ b, Tri .lt b .lt := by decide
theorem tri_gt : ∀ a, Tri a .gt .gt := by decide
theorem tri_l : ∀ a b, b ≠ .eq → Tri a b b := by decide
theorem tri_r : ∀ a b, a ≠ .eq → Tri a b a := by decide
theorem Tri.ofS : ∀ x y z : List Nat, Tri (cmpS x y) (cmpS y z) (cmpS x z)
  | [], [], [] => by simp only [cmpS]; rfl
  | [], [], _ :: _ => by simp only [cmpS]; rfl
  | [], _ :: _, [] => by simp only [cmpS]; rfl
  | _ :: _, [], [] => by simp only [cmpS]; rfl
  | _ :: _, [], _ :: _ => by simp only [cmpS]; rfl
  | [], _ :: _, _ :: _ => by simp only [cmpS]; exact tri_lt _
  | _ :: _, _ :: _, [] => by simp only [cmpS]; exact tri_gt _
  | a :: x, b :: y, c :: z => by
    simp only [cmpS]
    exact (Tri.nat a b c).then' (Tri.ofS x y z)
theorem cmp_ne_eq {i j : Nat} (h : i ≠ j) : compare i j ≠ .eq := fun e => h (Nat.compare_eq_eq.mp e)
theorem Tri.ranks {x y z : Dat} (h : ¬ (rank x = rank y ∧ rank y = rank z)) : Tri (cmpT x y) (cmpT y z) (cmpT x z) := by
  by_cases h1 : rank x = rank y
  · have h2 : rank y ≠ rank z := fun e => h ⟨h1, e⟩
    have e : cmpT x z = compare (rank y) (rank z) := by rw [cmpT_ne (x := x) (y := z) (by rw [h1]; exact h2), h1]
    rw [cmpT_ne h2, e]
    exact tri_l _ _ (cmp_ne_eq h2)
  · by_cases h2 : rank y = rank z
    · rw [cmpT_ne h1, cmpT_ne (x := x) (y := z) (by rw [← h2]; exact h1), h2]
      exact tri_r _ _ (cmp_ne_eq (by rw [← h2]; exact h1))
    · rw [cmpT_ne h1, cmpT_ne h2]
      by_cases h3 : rank x = rank z
      · rw [h3]
        rcases Nat.lt_trichotomy (rank z) (rank y) with q | q | q
        · rw [Nat.compare_eq_lt.mpr q, Nat.compare_eq_gt.mpr q]; rfl
        · exact absurd q.symm h2
        · rw [Nat.compare_eq_gt.mpr q, Nat.compare_eq_lt.mpr q]; rfl
      · rw [cmpT_ne h3]
        exact Tri.nat _ _ _
mutual
theorem Tri.ofT : ∀ x y z : Dat, Tri (cmpT x y) (cmpT y z) (cmpT x z)
  | .tup xs, y, z => by
    cases y with
    | tup ys =>
      cases z with
      | tup zs => simp only [cmpT]; exact Tri.ofL xs ys zs
      | _ => exact Tri.ranks (by simp [rank])
    | _ => exact Tri.ranks (by simp [rank])
  | .int i, y, z => by
    cases y with
    | int j =>
      cases z with
      | int k => simp only [cmpT]; exact Tri.int i j k
      | _ => exact Tri.ranks (by simp [rank])
    | _ => exact Tri.ranks (by simp [rank])
  | .str x, y, z => by
    cases y with
    | str y =>
      cases z with
      | str z => simp only [cmpT]; exact Tri.ofS x y z
      | _ => exact Tri.ranks (by simp [rank])
    | _ => exact Tri.ranks (by simp [rank])
  | .non, y, z => by cases y <;> cases z <;> first | (simp only [cmpT, rank]; rfl) | (simp only [cmpT, rank]; decide) | exact Tri.ranks (fun h => by have := h.1; simp [rank] at this)
  | .bl _, y, z => by cases y <;> cases z <;> first | (simp only [cmpT, rank]; rfl) | (simp only [cmpT, rank]; decide) | exact Tri.ranks (fun h => by have := h.1; simp [rank] at this)
  | .lst _, y, z => by cases y <;> cases z <;> first | (simp only [cmpT, rank]; rfl) | (simp only [cmpT, rank]; decide) | exact Tri.ranks (fun h => by have := h.1; simp [rank] at this)
  | .dic _, y, z => by cases y <;> cases z <;> first | (simp only [cmpT, rank]; rfl) | (simp only [cmpT, rank]; decide) | exact Tri.ranks (fun h => by have := h.1; simp [rank] at this)
  | .exc _, y, z => by cases y <;> cases z <;> first | (simp only [cmpT, rank]; rfl) | (simp only [cmpT, rank]; decide) | exact Tri.ranks (fun h => by have := h.1; simp [rank] at this)
theorem Tri.ofL : ∀ x y z : List Dat, Tri (cmpL x y) (cmpL y z) (cmpL x z)
  | [], [], [] => by simp only [cmpL]; rfl
  | [], [], _ :: _ => by simp only [cmpL]; rfl
  | [], _ :: _, [] => by simp only [cmpL]; rfl
  | _ :: _, [], [] => by simp only [cmpL]; rfl
  | _ :: _, [], _ :: _ => by simp only [cmpL]; rfl
  | [], _ :: _, _ :: _ => by simp only [cmpL]; exact tri_lt _
  | _ :: _, _ :: _, [] => by simp only [cmpL]; exact tri_gt _
  | a :: x, b :: y, c :: z => by
    simp only [cmpL]
    exact (Tri.ofT a b c).then' (Tri.ofL x y z)
end
def ltT (x y : Dat) : Bool := cmpT x y == .lt
theorem ltT_asym {x y : Dat} (h : ltT x y = true) : ltT y x = false := by
  unfold ltT at *
  rw [cmpT_swap x y, beq_iff_eq.mp h]
  rfl
theorem tri_nlt : ∀ a b c : Ordering, Tri a b c → a ≠ .lt → b ≠ .lt → c ≠ .lt := by decide
theorem ltT_tr {x y z : Dat} (h1 : ltT y x = false) (h2 : ltT z y = false) : ltT z x = false := by
  unfold ltT at *
  rw [beq_eq_false_iff_ne] at *
  exact tri_nlt _ _ _ (Tri.ofT z y x) h2 h1
mutual
/-- data that is wholly told apart by the order: None, numbers, texts, tuples of such -/
def srt : Dat → Bool
  | .non => true
  | .int _ => true
  | .str _ => true
  | .tup xs => srtL xs
  | _ => false
def srtL : List Dat → Bool
  | [] => true
  | x :: xs => srt x && srtL xs
end
theorem cmpS_eq : ∀ x y : List Nat, cmpS x y = .eq → x = y
  | [], [], _ => rfl
  | [], _ :: _, h => by simp [cmpS] at h
  | _ :: _, [], h => by simp [cmpS] at h
  | a :: x, b :: y, h => by
    simp only [cmpS, Ordering.then_eq_eq] at h
    rw [Nat.compare_eq_eq.mp h.1, cmpS_eq x y h.2]
mutual
theorem cmpT_eq : ∀ x y : Dat, srt x = true → srt y = true → cmpT x y = .eq → x = y
  | .non, y, _, hy, h => by cases y <;> first | rfl | (simp [cmpT, rank] at h) | (simp [srt] at hy)
  | .int i, y, _, hy, h => by
    cases y with
    | int j => simp only [cmpT] at h; rw [Int.compare_eq_eq.mp h]
    | _ => first | (simp [srt] at hy; done) | (simp [cmpT, rank] at h; done) | (exact absurd h (by simp only [cmpT, rank]; decide))
  | .str x, y, _, hy, h => by
    cases y with
    | str y => simp only [cmpT] at h; rw [cmpS_eq x y h]
    | _ => first | (simp [srt] at hy; done) | (simp [cmpT, rank] at h; done) | (exact absurd h (by simp only [cmpT, rank]; decide))
  | .tup xs, y, hx, hy, h => by
    cases y with
    | tup ys => simp only [cmpT] at h; rw [cmpL_eq xs ys (by simpa [srt] using hx) (by simpa [srt] using hy) h]
    | _ => first | (simp [srt] at hy; done) | (simp [cmpT, rank] at h; done) | (exact absurd h (by simp only [cmpT, rank]; decide))
  | .bl _, _, hx, _, _ => by simp [srt] at hx
  | .lst _, _, hx, _, _ => by simp [srt] at hx
  | .dic _, _, hx, _, _ => by simp [srt] at hx
  | .exc _, _, hx, _, _ => by simp [srt] at hx
theorem cmpL_eq : ∀ x y : List Dat, srtL x = true → srtL y = true → cmpL x y = .eq → x = y
  | [], [], _, _, _ => rfl
  | [], _ :: _, _, _, h => by simp [cmpL] at h
  | _ :: _, [], _, _, h => by simp [cmpL] at h
  | a :: x, b :: y, hx, hy, h => by
    simp only [cmpL, Ordering.then_eq_eq] at h
    simp only [srtL, Bool.and_eq_true] at hx hy
    rw [cmpT_eq a b hx.1 hy.1 h.1, cmpL_eq x y hx.2 hy.2 h.2]
end

/-! ### sorting -/
def isTupC : Dat → Bool
  | .tup (_ :: _) => true
  | _ => false
def isFlat : Dat → Bool
  | .int _ => true
  | .str _ => true
  | _ => false
def sortable (xs : List Dat) : Bool := xs.all (fun x => xs.all (alk x)) && (xs.all isTupC || xs.all isFlat) && shpL DEEP xs
def leT (x y : Dat) : Bool := !ltT y x
def sortL (xs : List Dat) : List Dat := xs.mergeSort leT
def sortD : Dat → R Dat
  | .lst xs => if sortable xs = true then .ok (.lst (sortL xs)) else .bad
  | .dic kvs => if sortable (kvs.map (·.1)) = true ∧ kvs.length ≤ LINE then .ok (.lst (sortL (kvs.map (·.1)))) else .bad
  | _ => .bad
theorem leT_tr (x y z : Dat) (h1 : leT x y = true) (h2 : leT y z = true) : leT x z = true := by
  unfold leT at *
  rw [Bool.not_eq_true'] at *
  exact ltT_tr h1 h2
theorem leT_total (x y : Dat) : (leT x y || leT y x) = true := by
  unfold leT
  cases h : ltT x y with
  | false => simp
  | true => simp [ltT_asym h]
theorem sortL_perm (xs : List Dat) : (sortL xs).Perm xs := List.mergeSort_perm xs leT
theorem sortL_sorted (xs : List Dat) : (sortL xs).Pairwise (fun a b => leT a b = true) := List.pairwise_mergeSort (le := leT) leT_tr leT_total xs
/-- a row in order that is a row's own in another order is that row sorted -/
theorem sortL_unique {xs ys : List Dat} (hs : ∀ x ∈ xs, srt x = true) (hp : ys.Perm xs) (ho : ys.Pairwise (fun a b => leT a b = true)) : sortL xs = ys := by
  refine List.Perm.eq_of_pairwise (le := fun a b => leT a b = true) (fun a b ha hb h1 h2 => ?_) (sortL_sorted xs) ho ((sortL_perm xs).trans hp.symm)
  have h1' : ltT b a = false := by simpa [leT] using h1
  have h2' : ltT a b = false := by simpa [leT] using h2
  refine cmpT_eq a b (hs a ((sortL_perm xs).mem_iff.mp ha)) (hs b (hp.mem_iff.mp hb)) ?_
  unfold ltT at h1' h2'
  rw [cmpT_swap a b] at h1'
  cases h : cmpT a b with
  | eq => rfl
  | lt => rw [h] at h2'; cases h2'
  | gt => rw [h] at h1'; cases h1'
theorem cmpS_lt : ∀ x y : List Nat, (cmpS x y == .lt) = decide (x < y)
  | [], [] => by simp [cmpS]
  | [], _ :: _ => by simp [cmpS]
  | _ :: _, [] => by simp [cmpS]
  | a :: x, b :: y => by
    have ih := cmpS_lt x y
    rw [Bool.eq_iff_iff, beq_iff_eq, decide_eq_true_iff] at *
    rw [List.cons_lt_cons_iff]
    unfold cmpS
    rcases Nat.lt_trichotomy a b with h | h | h
    · rw [Nat.compare_eq_lt.mpr h]
      simp [h]
    · subst h
      rw [Nat.compare_eq_eq.mpr rfl]
      simpa using ih
    · rw [Nat.compare_eq_gt.mpr h]
      simp [Nat.not_lt_of_gt h]
      omega
theorem cmpS_self : ∀ x : List Nat, cmpS x x = .eq
  | [] => rfl
  | a :: x => by unfold cmpS; rw [Nat.compare_eq_eq.mpr rfl, cmpS_self x]; rfl
theorem ltT_int (i j : Int) : ltT (.int i) (.int j) = decide (i < j) := by
  unfold ltT
  rw [Bool.eq_iff_iff, beq_iff_eq, decide_eq_true_iff]
  simp only [cmpT]
  exact Int.compare_eq_lt
theorem ltT_str (x y : List Nat) : ltT (.str x) (.str y) = decide (x < y) := by
  unfold ltT
  simp only [cmpT]
  exact cmpS_lt x y
/-- dict comprehensions of two clauses -/
def compD2 (g : GM) (t : TM) (src1 : LM) (own1 : List Nat) (g1 : GM) (t1 : TM) (ek ev : EM) (ρ : Env) : List Dat → List (Dat × Dat) → R (List (Dat × Dat))
  | [], acc => .ok acc
  | d :: r, acc => (noX (g d ρ)).bnd fun ρ' => (noX (t ρ')).bnd fun b =>
    if b then (noX (src1 ρ')).bnd fun ds1 => (compD g1 t1 ek ev (wipe ρ' own1) ds1 acc).bnd fun acc' => compD2 g t src1 own1 g1 t1 ek ev ρ r acc' else compD2 g t src1 own1 g1 t1 ek ev ρ r acc
def eDComp2 (src : LM) (own : List Nat) (g : GM) (t : TM) (src1 : LM) (own1 : List Nat) (g1 : GM) (t1 : TM) (ek ev : EM) : EM := fun ρ => (src ρ).bnd fun ds => (compD2 g t src1 own1 g1 t1 ek ev (wipe ρ own) ds []).bnd fun kvs => .ok (.dic kvs)
/-- isinstance(e, ValueError), e an own error -/
def isVE : Dat → R Dat
  | .exc _ => .ok (.bl true)
  | _ => .bad
mutual
/-- no dict within -/
def nodic : Dat → Bool
  | .dic _ => false
  | .lst xs => nodicL xs
  | .tup xs => nodicL xs
  | _ => true
def nodicL : List Dat → Bool
  | [] => true
  | x :: r => nodic x && nodicL r
end
def shutO : Option Dat → Option Dat
  | some d => if nodic d then some d else none
  | none => none
/-- what may be read while a dict is walked: no slot with a dict within -/
def shutD (ρ : Env) : Env := ρ.map shutO
def ownNd (own : List Nat) (ρ : Env) : Bool := own.all fun j => match ρ[j]? with
  | some (some d) => nodic d
  | _ => false
/-- a list comprehension over what a name holds; over a dict, no dict may be read in it -/
def eCompK (i : Nat) (own vs : List Nat) (g : GM) (t : TM) (e : EM) : EM := fun ρ => match eV i ρ with
  | .ok (.dic kvs) => if own.all (fun j => j != i) && ownNd own ρ then eComp (fun _ => .ok (kvs.map (·.1))) vs g t e (shutD ρ) else .bad
  | _ => eComp (iOf (eV i)) vs g t e ρ
/-- try, while the list or dict of the slot i is kept as the def's own; the body does not touch the slot -/
def isE0 : Option (Option Dat) → Bool
  | some (some (.exc 0)) => true
  | _ => false
def keepO (i : Nat) (d : Dat) : O → O
  | some (.nx, ρ') => if isE0 ρ'[i]? then some (.nx, ρ'.set i (some d)) else none
  | some (.ex y, ρ') => if isE0 ρ'[i]? then some (.ex y, ρ'.set i (some d)) else none
  | some (.rt v, ρ') => some (.rt v, ρ')
  | _ => none
def sTryK (i : Nat) (hs : List ((Nat → Bool) × Option Nat × SM)) (a : SM) : SM := fun ρ => match ρ[i]? with
  | some (some d) => (match keepO i d (a (ρ.set i (some (.exc 0)))) with
    | some (.ex y, ρ') => hand hs y ρ'
    | q => q)
  | _ => none
end PL

set_option maxRecDepth 100000
set_option maxHeartbeats 4000000
namespace PL
open PySem PySem.Spec PyProof.Rows L2
set_option autoImplicit false
abbrev St := L2.St

/-! ### data in the heap -/
/-- a list, a tuple of the written part -/
def KLst (K : PySem.W.Frag) (a : Addr) (xs : List V) : Prop := ∃ (o : Obj) (its : Array Value) (n : Nat), K.lookup a = some o ∧ o.cls = .type "list" ∧ o.dict = none ∧ o.data = .seq its n ∧ its.size ≤ sizeLine ∧ Vals xs its.toList
def KTup (K : PySem.W.Frag) (a : Addr) (xs : List V) : Prop := ∃ (o : Obj) (its : Array Value) (n : Nat), K.lookup a = some o ∧ o.cls = .type "tuple" ∧ o.data = .seq its n ∧ its.size ≤ sizeLine ∧ Vals xs its.toList
def kD : Key → Dat
  | .inl i => .int i
  | .inr x => .str x.cps.toList
abbrev ZS := Addr → Prop
/-- code points, not too many -/
def okS (s : List Nat) : Prop := (∀ c ∈ s, c < 1114112) ∧ s.length ≤ LINE
def okK : Key → Prop
  | .inl _ => True
  | .inr x => okS x.cps.toList
mutual
/-- the value v is the data d, all of it settled (Z) -/
inductive Rep (K : PySem.W.Frag) (Z : ZS) (H : Hp) : V → Dat → Prop
  | non : Rep K Z H .non .non
  | bl (b : Bool) : Rep K Z H (.bl b) (.bl b)
  | int (i : Int) : Rep K Z H (.int i) (.int i)
  | str (x : Str) : okS x.cps.toList → Rep K Z H (.str x) (.str x.cps.toList)
  | lst {a : Addr} {xs : List V} {ds : List Dat} : Z a → Rd H a (.lst xs) → RepA K Z H xs ds → Rep K Z H (.ref a) (.lst ds)
  | lstK {a : Addr} {xs : List V} {ds : List Dat} : KLst K a xs → RepA K Z H xs ds → Rep K Z H (.ref a) (.lst ds)
  | tup {a : Addr} {xs : List V} {ds : List Dat} : Z a → Rd H a (.tup xs) → RepA K Z H xs ds → Rep K Z H (.ref a) (.tup ds)
  | tupK {a : Addr} {xs : List V} {ds : List Dat} : KTup K a xs → RepA K Z H xs ds → Rep K Z H (.ref a) (.tup ds)
  | dic {a : Addr} {ks : List (Key × V)} {kvs : List (Dat × Dat)} : Z a → H a = some (.dK ks) → RepD K Z H ks kvs → Rep K Z H (.ref a) (.dic kvs)
inductive RepA (K : PySem.W.Frag) (Z : ZS) (H : Hp) : List V → List Dat → Prop
  | nil : RepA K Z H [] []
  | cons {v : V} {vs : List V} {d : Dat} {ds : List Dat} : Rep K Z H v d → RepA K Z H vs ds → RepA K Z H (v :: vs) (d :: ds)
inductive RepD (K : PySem.W.Frag) (Z : ZS) (H : Hp) : List (Key × V) → List (Dat × Dat) → Prop
  | nil : RepD K Z H [] []
  | cons {k : Key} {v : V} {r : List (Key × V)} {d : Dat} {t : List (Dat × Dat)} : okK k → Rep K Z H v d → RepD K Z H r t → RepD K Z H ((k, v) :: r) ((kD k, d) :: t)
end

/-- what is settled stays -/
def Adv (Z : ZS) (H : Hp) (Z' : ZS) (H' : Hp) : Prop := ∀ a, Z a → Z' a ∧ ∀ o, H a = some o → H' a = some o
theorem Adv.refl {Z : ZS} {H : Hp} : Adv Z H Z H := fun _ h => ⟨h, fun _ e => e⟩
theorem Adv.trans {Z Z1 Z2 : ZS} {H H1 H2 : Hp} (x : Adv Z H Z1 H1) (y : Adv Z1 H1 Z2 H2) : Adv Z H Z2 H2 := fun a h => ⟨(y a (x a h).1).1, fun o e => (y a (x a h).1).2 o ((x a h).2 o e)⟩
theorem Rd.adv {H H' : Hp} {a : Addr} {u : HO} (h : Rd H a u) (k : ∀ o, H a = some o → H' a = some o) : Rd H' a u := by
  rcases h with h | ⟨o, h⟩
  · exact .inl (k _ h)
  · exact .inr ⟨o, k _ h⟩
section
variable {K : PySem.W.Frag} {Z Z' : ZS} {H H' : Hp}
mutual
theorem Rep.adv (x : Adv Z H Z' H') : ∀ {v : V} {d : Dat}, Rep K Z H v d → Rep K Z' H' v d
  | _, _, .non => .non
  | _, _, .bl b => .bl b
  | _, _, .int i => .int i
  | _, _, .str s h => .str s h
  | _, _, .lst z h r => .lst (x _ z).1 (Rd.adv h (x _ z).2) (RepA.adv x r)
  | _, _, .lstK k r => .lstK k (RepA.adv x r)
  | _, _, .tup z h r => .tup (x _ z).1 (Rd.adv h (x _ z).2) (RepA.adv x r)
  | _, _, .tupK k r => .tupK k (RepA.adv x r)
  | _, _, .dic z h r => .dic (x _ z).1 ((x _ z).2 _ h) (RepD.adv x r)
theorem RepA.adv (x : Adv Z H Z' H') : ∀ {v : List V} {d : List Dat}, RepA K Z H v d → RepA K Z' H' v d
  | _, _, .nil => .nil
  | _, _, .cons h r => .cons (Rep.adv x h) (RepA.adv x r)
theorem RepD.adv (x : Adv Z H Z' H') : ∀ {v : List (Key × V)} {d : List (Dat × Dat)}, RepD K Z H v d → RepD K Z' H' v d
  | _, _, .nil => .nil
  | _, _, .cons o h r => .cons o (Rep.adv x h) (RepD.adv x r)
end
theorem RepA.len : ∀ {v : List V} {d : List Dat}, RepA K Z H v d → v.length = d.length
  | _, _, .nil => rfl
  | _, _, .cons _ r => by simp [RepA.len r]
theorem RepA.get : ∀ {v : List V} {d : List Dat} {i : Nat} {x : Dat}, RepA K Z H v d → d[i]? = some x → ∃ u, v[i]? = some u ∧ Rep K Z H u x
  | _, _, _, _, .nil, e => by simp at e
  | _, _, 0, _, .cons h _, e => by simp at e; subst e; exact ⟨_, rfl, h⟩
  | _, _, i + 1, _, .cons _ r, e => by simpa using RepA.get (i := i) r (by simpa using e)
theorem RepA.append : ∀ {v w : List V} {d e : List Dat}, RepA K Z H v d → RepA K Z H w e → RepA K Z H (v ++ w) (d ++ e)
  | _, _, _, _, .nil, s => s
  | _, _, _, _, .cons h r, s => .cons h (RepA.append r s)
theorem RepA.take : ∀ {v : List V} {d : List Dat} (n : Nat), RepA K Z H v d → RepA K Z H (v.take n) (d.take n)
  | _, _, 0, _ => .nil
  | _, _, _ + 1, .nil => .nil
  | _, _, n + 1, .cons h r => .cons h (RepA.take n r)
theorem RepA.drop : ∀ {v : List V} {d : List Dat} (n : Nat), RepA K Z H v d → RepA K Z H (v.drop n) (d.drop n)
  | _, _, 0, r => r
  | _, _, _ + 1, .nil => .nil
  | _, _, n + 1, .cons _ r => RepA.drop n r
theorem RepA.set : ∀ {v : List V} {d : List Dat} (i : Nat) {x : V} {y : Dat}, RepA K Z H v d → Rep K Z H x y → RepA K Z H (v.set i x) (d.set i y)
  | _, _, _, _, _, .nil, _ => .nil
  | _, _, 0, _, _, .cons _ r, q => .cons q r
  | _, _, i + 1, _, _, .cons h r, q => .cons h (RepA.set i r q)
theorem RepD.len : ∀ {v : List (Key × V)} {d : List (Dat × Dat)}, RepD K Z H v d → v.length = d.length
  | _, _, .nil => rfl
  | _, _, .cons _ _ r => by simp [RepD.len r]
end

/-- what an expression may do: lay new objects, settle some of these -/
structure Ext (Z : ZS) (H : Hp) (Z' : ZS) (H' : Hp) : Prop where
  sub : ∀ a, Z a → Z' a
  same : Same H H'
  trk : ∀ a, Z' a → ∃ o, H' a = some o
  new : ∀ a, Z' a → Z a ∨ H a = none
def Trk (Z : ZS) (H : Hp) : Prop := ∀ a, Z a → ∃ o, H a = some o
section
variable {K : PySem.W.Frag} {Z Z1 Z2 Z' : ZS} {H H1 H2 H' Hs : Hp}
theorem Ext.refl (t : Trk Z H) : Ext Z H Z H := ⟨fun _ h => h, fun _ _ e => e, t, fun _ h => .inl h⟩
theorem Ext.adv (x : Ext Z H Z' H') : Adv Z H Z' H' := fun a h => ⟨x.sub a h, fun o e => x.same a o e⟩
theorem Ext.trans (x : Ext Z H Z1 H1) (y : Ext Z1 H1 Z2 H2) : Ext Z H Z2 H2 where
  sub := fun a h => y.sub a (x.sub a h)
  same := x.same.trans y.same
  trk := y.trk
  new := fun a h => by
    rcases y.new a h with h | h
    · exact x.new a h
    · exact .inr (x.same.free h)
/-- a new object at p -/
theorem Ext.laid {p : Addr} {o : HO} (t : Trk Z H) (hp : H p = none) : Ext Z H Z (upd H p o) where
  sub := fun _ h => h
  same := fun b x e => by rw [upd_ne (ne_of_none e hp)]; exact e
  trk := fun a h => by
    obtain ⟨o', e⟩ := t a h
    exact ⟨o', by rw [upd_ne (ne_of_none e hp)]; exact e⟩
  new := fun _ h => .inl h
def Zadd (Z : ZS) (p : Addr) : ZS := fun a => Z a ∨ a = p
/-- .. settled at once -/
theorem Ext.laidZ {p : Addr} {o : HO} (t : Trk Z H) (hp : H p = none) : Ext Z H (Zadd Z p) (upd H p o) where
  sub := fun _ h => .inl h
  same := (Ext.laid (o := o) t hp).same
  trk := fun a h => by
    rcases h with h | h
    · exact (Ext.laid (o := o) t hp).trk a h
    · subst h; exact ⟨o, upd_same⟩
  new := fun a h => by
    rcases h with h | h
    · exact .inl h
    · subst h; exact .inr hp
/-- an object that came since the start is settled -/
theorem Ext.settle {p : Addr} {o : HO} (x : Ext Z H Z' H') (hp : H p = none) (e : H' p = some o) : Ext Z H (Zadd Z' p) H' where
  sub := fun a h => .inl (x.sub a h)
  same := x.same
  trk := fun a h => by
    rcases h with h | h
    · exact x.trk a h
    · subst h; exact ⟨o, e⟩
  new := fun a h => by
    rcases h with h | h
    · exact x.new a h
    · subst h; exact .inr hp
theorem Adv.add {p : Addr} : Adv Z H (Zadd Z p) H := fun _ h => ⟨.inl h, fun _ e => e⟩
end

/-! ### how a value is held -/
/-- settled; new (its top is the caller's own); to be read -/
inductive Kd where | frz | new | sh
/-- the top of a list or dict of one's own -/
def Top (K : PySem.W.Frag) (Z : ZS) (H : Hp) (a : Addr) : Dat → Prop
  | .lst ds => ∃ xs, H a = some (.lst xs) ∧ RepA K Z H xs ds
  | .dic kvs => ∃ ks, H a = some (.dK ks) ∧ RepD K Z H ks kvs
  | _ => False
/-- a settled tuple -/
def STup (K : PySem.W.Frag) (Z : ZS) (H : Hp) (a : Addr) (xs : List V) : Prop := (Z a ∧ Rd H a (.tup xs)) ∨ KTup K a xs
theorem STup.sq {K : PySem.W.Frag} {Z : ZS} {H : Hp} {a : Addr} {xs : List V} (h : STup K Z H a xs) : SqT K H a xs := by
  rcases h with h | h
  · exact .inl h.2
  · exact .inr h
theorem STup.rep {K : PySem.W.Frag} {Z : ZS} {H : Hp} {a : Addr} {xs : List V} {ds : List Dat} (h : STup K Z H a xs) (r : RepA K Z H xs ds) : Rep K Z H (.ref a) (.tup ds) := by
  rcases h with h | h
  · exact .tup h.1 h.2 r
  · exact .tupK h r
theorem STup.adv {K : PySem.W.Frag} {Z Z' : ZS} {H H' : Hp} {a : Addr} {xs : List V} (x : Adv Z H Z' H') (h : STup K Z H a xs) : STup K Z' H' a xs := by
  rcases h with h | h
  · exact .inl ⟨(x _ h.1).1, Rd.adv h.2 (x _ h.1).2⟩
  · exact .inr h
/-- to be read: the top whatever, what is within settled -/
inductive Sh (K : PySem.W.Frag) (Z : ZS) (H : Hp) : V → Dat → Prop
  | non : Sh K Z H .non .non
  | bl (b : Bool) : Sh K Z H (.bl b) (.bl b)
  | int (i : Int) : Sh K Z H (.int i) (.int i)
  | str (x : Str) : okS x.cps.toList → Sh K Z H (.str x) (.str x.cps.toList)
  | lst {a : Addr} {xs : List V} {ds : List Dat} : SqL K H a xs → RepA K Z H xs ds → Sh K Z H (.ref a) (.lst ds)
  | tup {a : Addr} {xs : List V} {ds : List Dat} : STup K Z H a xs → RepA K Z H xs ds → Sh K Z H (.ref a) (.tup ds)
  | dic {a : Addr} {ks : List (Key × V)} {kvs : List (Dat × Dat)} : H a = some (.dK ks) → RepD K Z H ks kvs → Sh K Z H (.ref a) (.dic kvs)
def isBox : Dat → Bool
  | .lst _ => true
  | .dic _ => true
  | _ => false
def Val (K : PySem.W.Frag) (Z : ZS) (H Hs : Hp) : Kd → V → Dat → Prop
  | .frz, v, d => Rep K Z H v d
  | .new, v, d => (isBox d = true → ∃ a, v = .ref a ∧ ¬ Z a ∧ Hs a = none ∧ Top K Z H a d) ∧ (isBox d = false → Rep K Z H v d)
  | .sh, v, d => Sh K Z H v d
section
variable {K : PySem.W.Frag} {Z Z1 Z2 Z' : ZS} {H H1 H2 H' Hs : Hp} {v : V} {d : Dat} {a : Addr}
theorem Rep.sh (h : Rep K Z H v d) : Sh K Z H v d := by
  cases h with
  | non => exact .non
  | bl b => exact .bl b
  | int i => exact .int i
  | str x h => exact .str x h
  | lst z h r => exact .lst (.inl h) r
  | lstK k r => exact .lst (.inr k) r
  | tup z h r => exact .tup (.inl ⟨z, h⟩) r
  | tupK k r => exact .tup (.inr k) r
  | dic z h r => exact .dic h r
theorem Top.sh (h : Top K Z H a d) : Sh K Z H (.ref a) d := by
  cases d with
  | lst ds => obtain ⟨xs, e, r⟩ := h; exact .lst (.inl (.inl e)) r
  | dic kvs => obtain ⟨ks, e, r⟩ := h; exact .dic e r
  | _ => exact h.elim
theorem Top.there (h : Top K Z H a d) : ∃ o, H a = some o := by
  cases d with
  | lst ds => obtain ⟨xs, e, r⟩ := h; exact ⟨_, e⟩
  | dic kvs => obtain ⟨ks, e, r⟩ := h; exact ⟨_, e⟩
  | _ => exact h.elim
theorem Top.ext (x : Ext Z H Z' H') (h : Top K Z H a d) : Top K Z' H' a d := by
  cases d with
  | lst ds => obtain ⟨xs, e, r⟩ := h; exact ⟨xs, x.same _ _ e, r.adv x.adv⟩
  | dic kvs => obtain ⟨ks, e, r⟩ := h; exact ⟨ks, x.same _ _ e, r.adv x.adv⟩
  | _ => exact h.elim
theorem Top.settled (h : Top K Z H a d) : Rep K (Zadd Z a) H (.ref a) d := by
  cases d with
  | lst ds => obtain ⟨xs, e, r⟩ := h; exact .lst (.inr rfl) (.inl e) (r.adv .add)
  | dic kvs => obtain ⟨ks, e, r⟩ := h; exact .dic (.inr rfl) e (r.adv .add)
  | _ => exact h.elim
theorem Sh.ext (x : Ext Z H Z' H') (h : Sh K Z H v d) : Sh K Z' H' v d := by
  cases h with
  | non => exact .non
  | bl b => exact .bl b
  | int i => exact .int i
  | str x h => exact .str x h
  | lst h r =>
    refine .lst ?_ (r.adv x.adv)
    rcases h with h | h
    · exact .inl (Rd.adv h fun o e => x.same _ _ e)
    · exact .inr h
  | tup h r => exact .tup (h.adv x.adv) (r.adv x.adv)
  | dic h r => exact .dic (x.same _ _ h) (r.adv x.adv)
theorem Val.ext {k : Kd} (x : Ext Z H Z' H') (h : Val K Z H Hs k v d) : Val K Z' H' Hs k v d := by
  cases k with
  | frz => exact Rep.adv x.adv h
  | sh => exact Sh.ext x h
  | new =>
    refine ⟨fun b => ?_, fun b => Rep.adv x.adv (h.2 b)⟩
    obtain ⟨a, e, n, q, t⟩ := h.1 b
    refine ⟨a, e, fun z => ?_, q, t.ext x⟩
    obtain ⟨o, ho⟩ := t.there
    rcases x.new a z with z | z
    · exact n z
    · rw [ho] at z; cases z
theorem Val.early {k : Kd} (s : Same Hs H1) (h : Val K Z H H1 k v d) : Val K Z H Hs k v d := by
  cases k with
  | frz => exact h
  | sh => exact h
  | new =>
    refine ⟨fun b => ?_, h.2⟩
    obtain ⟨a, e, n, q, t⟩ := h.1 b
    exact ⟨a, e, n, s.free q, t⟩
theorem Val.sh {k : Kd} (h : Val K Z H Hs k v d) : Sh K Z H v d := by
  cases k with
  | frz => exact Rep.sh h
  | sh => exact h
  | new =>
    cases b : isBox d with
    | true =>
      obtain ⟨a, e, n, q, t⟩ := h.1 b
      subst e
      exact t.sh
    | false => exact Rep.sh (h.2 b)
/-- a value is settled -/
theorem Val.settle {k : Kd} (x : Ext Z H Z' H') (h : Val K Z' H' H k v d) (hk : k ≠ .sh) : ∃ Z'', Ext Z H Z'' H' ∧ Adv Z' H' Z'' H' ∧ Rep K Z'' H' v d := by
  cases k with
  | frz => exact ⟨Z', x, .refl, h⟩
  | sh => exact absurd rfl hk
  | new =>
    cases b : isBox d with
    | false => exact ⟨Z', x, .refl, h.2 b⟩
    | true =>
      obtain ⟨a, e, n, q, t⟩ := h.1 b
      subst e
      obtain ⟨o, ho⟩ := t.there
      exact ⟨Zadd Z' a, x.settle q ho, .add, t.settled⟩
end

/-! ### the slots -/
structure Ct where
  K : PySem.W.Frag
  EC : Nat → Addr
  Z0 : ZS
  H0 : Hp
  xs : Option (Nat × Addr × Nat)
/-- the slots hold the data; own: the slots whose list or dict is the def's own -/
structure SE (c : Ct) (own : List Nat) (Z : ZS) (H : Hp) (σ : St) (ρ : Env) : Prop where
  ext : Ext c.Z0 c.H0 Z H
  len : σ.length = ρ.length
  val : ∀ (i : Nat) (d : Dat), ρ[i]? = some (some d) → i ∉ own → (∀ x, d ≠ .exc x) → ∃ v, σ[i]? = some (some v) ∧ Rep c.K Z H v d
  exc : ∀ (i : Nat) (x : Nat), ρ[i]? = some (some (.exc x)) → ∃ a, c.xs = some (i, a, x) ∧ σ[i]? = some (some (.ref a))
  ow : ∀ i ∈ own, ∃ a d, ρ[i]? = some (some d) ∧ σ[i]? = some (some (.ref a)) ∧ ¬ Z a ∧ c.H0 a = none ∧ Top c.K Z H a d
  inj : ∀ i ∈ own, ∀ j ∈ own, i ≠ j → σ[i]? ≠ σ[j]?
section
variable {c : Ct} {own : List Nat} {Z Z' : ZS} {H H' : Hp} {σ : St} {ρ : Env}
theorem SE.trk (S : SE c own Z H σ ρ) : Trk Z H := S.ext.trk
theorem SE.move (S : SE c own Z H σ ρ) (x : Ext Z H Z' H') : SE c own Z' H' σ ρ where
  ext := S.ext.trans x
  len := S.len
  val := fun i d e n nx => by
    obtain ⟨v, h, r⟩ := S.val i d e n nx
    exact ⟨v, h, r.adv x.adv⟩
  exc := S.exc
  ow := fun i hi => by
    obtain ⟨a, d, e1, e2, nz, h0, t⟩ := S.ow i hi
    refine ⟨a, d, e1, e2, fun z => ?_, h0, t.ext x⟩
    obtain ⟨o, ho⟩ := t.there
    rcases x.new a z with z | z
    · exact nz z
    · rw [ho] at z; cases z
  inj := S.inj
theorem SE.sh (S : SE c own Z H σ ρ) {i : Nat} {d : Dat} (e : ρ[i]? = some (some d)) (nx : ∀ x, d ≠ .exc x) : ∃ v, σ[i]? = some (some v) ∧ Sh c.K Z H v d := by
  by_cases hi : i ∈ own
  · obtain ⟨a, d', e1, e2, _, _, t⟩ := S.ow i hi
    rw [e] at e1
    cases e1
    exact ⟨_, e2, t.sh⟩
  · obtain ⟨v, h, r⟩ := S.val i d e hi nx
    exact ⟨v, h, r.sh⟩
/-- some slots are no longer own: what they hold is settled -/
theorem SE.drop (S : SE c own Z H σ ρ) {own' : List Nat} (h : ∀ i ∈ own', i ∈ own) : ∃ Z', Adv Z H Z' H ∧ SE c own' Z' H σ ρ := by
  let Zn : ZS := fun a => Z a ∨ ∃ i, i ∈ own ∧ i ∉ own' ∧ σ[i]? = some (some (.ref a))
  have ad : Adv Z H Zn H := fun a h => ⟨.inl h, fun _ e => e⟩
  have at0 : ∀ a, Zn a → Z a ∨ (c.H0 a = none ∧ ∃ o, H a = some o) := fun a z => by
    rcases z with z | ⟨i, hi, _, e⟩
    · exact .inl z
    · obtain ⟨b, d, e1, e2, nz, h0, t⟩ := S.ow i hi
      rw [e] at e2
      cases e2
      exact .inr ⟨h0, t.there⟩
  refine ⟨Zn, ad, ⟨⟨fun a z => .inl (S.ext.sub a z), S.ext.same, fun a z => ?_, fun a z => ?_⟩, S.len, fun i d e n nx => ?_, S.exc, fun i hi => ?_, fun i hi j hj => S.inj i (h i hi) j (h j hj)⟩⟩
  · rcases at0 a z with z | ⟨_, z⟩
    · exact S.ext.trk a z
    · exact z
  · rcases at0 a z with z | ⟨z, _⟩
    · exact S.ext.new a z
    · exact .inr z
  · by_cases hi : i ∈ own
    · obtain ⟨a, d', e1, e2, nz, h0, t⟩ := S.ow i hi
      rw [e] at e1
      cases e1
      refine ⟨_, e2, t.settled.adv fun b z => ⟨?_, fun _ q => q⟩⟩
      rcases z with z | z
      · exact .inl z
      · subst z; exact .inr ⟨i, hi, n, e2⟩
    · obtain ⟨v, hv, r⟩ := S.val i d e hi nx
      exact ⟨v, hv, r.adv ad⟩
  · obtain ⟨a, d, e1, e2, nz, h0, t⟩ := S.ow i (h i hi)
    refine ⟨a, d, e1, e2, fun z => ?_, h0, ?_⟩
    · rcases z with z | ⟨j, hj, hj', e⟩
      · exact nz z
      · exact S.inj i (h i hi) j hj (fun q => hj' (q ▸ hi)) (e2.trans e.symm)
    · cases d with
      | lst ds => obtain ⟨xs, e, r⟩ := t; exact ⟨xs, e, r.adv ad⟩
      | dic kvs => obtain ⟨ks, e, r⟩ := t; exact ⟨ks, e, r.adv ad⟩
      | _ => exact t.elim
end

/-! ### the canonical readings -/
abbrev PX (c : Ct) (W : WX) (Z : ZS) (H : Hp) (σ : St) : Nat → Prop := fun x => ∀ Z' H', Ext Z H Z' H' → W (.ref (c.EC x)) none σ H'
def qE (c : Ct) (W : WX) (own : List Nat) (k : Kd) (m : EM) : TE := fun σ H Q => ∃ Z ρ, SE c own Z H σ ρ ∧
  Post (m ρ) (fun d => ∀ v Z' H', Ext Z H Z' H' → Val c.K Z' H' H k v d → Q v H') (PX c W Z H σ)
def qT (c : Ct) (W : WX) (own : List Nat) (m : TM) : TT := fun σ H Q => ∃ Z ρ, SE c own Z H σ ρ ∧
  Post (m ρ) (fun b => ∀ Z' H', Ext Z H Z' H' → Q b H') (PX c W Z H σ)
/-- a row of values, each held so -/
inductive ValA (K : PySem.W.Frag) (Z : ZS) (H Hs : Hp) (k : Kd) : List V → List Dat → Prop
  | nil : ValA K Z H Hs k [] []
  | cons {v : V} {vs : List V} {d : Dat} {ds : List Dat} : Val K Z H Hs k v d → ValA K Z H Hs k vs ds → ValA K Z H Hs k (v :: vs) (d :: ds)
theorem ValA.ext {K : PySem.W.Frag} {Z Z' : ZS} {H H' Hs : Hp} {k : Kd} (x : Ext Z H Z' H') : ∀ {vs : List V} {ds : List Dat}, ValA K Z H Hs k vs ds → ValA K Z' H' Hs k vs ds
  | _, _, .nil => .nil
  | _, _, .cons h r => .cons (h.ext x) (ValA.ext x r)
theorem ValA.early {K : PySem.W.Frag} {Z : ZS} {H H1 Hs : Hp} {k : Kd} (x : Same Hs H1) : ∀ {vs : List V} {ds : List Dat}, ValA K Z H H1 k vs ds → ValA K Z H Hs k vs ds
  | _, _, .nil => .nil
  | _, _, .cons h r => .cons (h.early x) (ValA.early x r)
theorem ValA.rep {K : PySem.W.Frag} {Z : ZS} {H Hs : Hp} : ∀ {vs : List V} {ds : List Dat}, ValA K Z H Hs .frz vs ds → RepA K Z H vs ds
  | _, _, .nil => .nil
  | _, _, .cons h r => .cons h (ValA.rep r)
def qA (c : Ct) (W : WX) (own : List Nat) (k : Kd) (m : LM) : TA := fun σ H Q => ∃ Z ρ, SE c own Z H σ ρ ∧
  Post (m ρ) (fun ds => ∀ vs Z' H', Ext Z H Z' H' → ValA c.K Z' H' H k vs ds → Q vs H') (PX c W Z H σ)

theorem _root_.L2.PE.imp {X : Cx} {e : Expr} {t t' : TE} (h : PE X e t) (f : ∀ σ H Q, t' σ H Q → t σ H Q) : PE X e t' := ⟨fun pins s σ H Q I hw => h.run pins s σ H Q I (f σ H Q hw)⟩
theorem _root_.L2.PT.imp {X : Cx} {e : Expr} {t t' : TT} (h : PT X e t) (f : ∀ σ H Q, t' σ H Q → t σ H Q) : PT X e t' := ⟨fun pins s σ H Q I hw => h.run pins s σ H Q I (f σ H Q hw)⟩
theorem _root_.L2.PW.imp {X : Cx} {e : Expr} {t t' : TT} (h : PW X e t) (f : ∀ σ H Q, t' σ H Q → t σ H Q) : PW X e t' := ⟨fun wh pins s σ H Q I hw => h.run wh pins s σ H Q I (f σ H Q hw)⟩
theorem _root_.L2.PA.imp {X : Cx} {e : List Expr} {t t' : TA} (h : PA X e t) (f : ∀ σ H Q, t' σ H Q → t σ H Q) : PA X e t' := ⟨fun pos pins s σ H Q I hw => h.run pos pins s σ H Q I (f σ H Q hw)⟩
theorem _root_.L2.PS.imp {X : Cx} {e : Stmt} {t t' : TS} (h : PS X e t) (f : ∀ D σ H, t' D σ H → t D σ H) : PS X e t' := ⟨fun pins s σ H D I hw => h.run pins s σ H D I (f D σ H hw)⟩
theorem _root_.L2.PSs.imp {X : Cx} {e : List Stmt} {t t' : TS} (h : PSs X e t) (f : ∀ D σ H, t' D σ H → t D σ H) : PSs X e t' := ⟨fun pins s σ H D I hw => h.run pins s σ H D I (f D σ H hw)⟩

section
variable {X : Cx} {c : Ct} {W : WX} {own : List Nat} {k k1 k2 k3 : Kd} {e a b : Expr} {m m1 m2 m3 : EM} {t : TE} {Z : ZS} {H : Hp} {σ : St} {ρ : Env} {Q : VK}
/-- the reading goes on: what is wanted of the value -/
theorem qE.of (S : SE c own Z H σ ρ) (p : Post (m ρ) (fun d => ∀ v Z' H', Ext Z H Z' H' → Val c.K Z' H' H k v d → Q v H') (PX c W Z H σ)) : qE c W own k m σ H Q := ⟨Z, ρ, S, p⟩
theorem PX.move {Z' : ZS} {H' : Hp} (x : Ext Z H Z' H') {n : Nat} (h : PX c W Z H σ n) : PX c W Z' H' σ n := fun Z2 H2 y => h Z2 H2 (x.trans y)
/-- a new value is settled -/
theorem q_frz (h : PE X e (qE c W own .new m)) : PE X e (qE c W own .frz m) := h.imp fun σ H Q ⟨Z, ρ, S, p⟩ => ⟨Z, ρ, S, p.imp (fun d q v Z' H' x hv => by
  obtain ⟨Z2, x2, _, r⟩ := hv.settle x (by simp)
  exact q v Z2 H' x2 r) fun _ q => q⟩
theorem q_sh (h : PE X e (qE c W own k m)) : PE X e (qE c W own .sh m) := h.imp fun σ H Q ⟨Z, ρ, S, p⟩ => ⟨Z, ρ, S, p.imp (fun d q v Z' H' x hv => q v Z' H' x hv.sh) fun _ q => q⟩
/-- a name that holds what is settled -/
theorem q_var {i : Nat} {x : Str} {pos : Pos} (hi : i ∉ own) (hn : c.xs.all (fun p => p.1 != i) = true) (hN : X.N[i]? = some x) (hv : Vis X.env.scope x) (hd : (x == ("__debug__" : Str)) = false) (hcd : (x == ("__classdict__" : Str)) = false) : PE X (.Name x pos) (qE c W own .frz (eV i)) :=
  (pe_var hN hv hd hcd).imp fun σ H Q ⟨Z, ρ, S, p⟩ => by
    unfold eV at p
    split at p
    · rename_i d e
      have nx : ∀ x, d ≠ .exc x := fun x z => by
        subst z
        obtain ⟨a, e1, _⟩ := S.exc i x e
        rw [e1] at hn
        simp at hn
      obtain ⟨v, h, r⟩ := S.val i d e hi nx
      exact ⟨v, h, p v Z H (.refl S.trk) r⟩
    · exact p.elim
/-- a name, read -/
theorem q_varS {i : Nat} {x : Str} {pos : Pos} (hn : c.xs.all (fun p => p.1 != i) = true) (hN : X.N[i]? = some x) (hv : Vis X.env.scope x) (hd : (x == ("__debug__" : Str)) = false) (hcd : (x == ("__classdict__" : Str)) = false) : PE X (.Name x pos) (qE c W own .sh (eV i)) :=
  (pe_var hN hv hd hcd).imp fun σ H Q ⟨Z, ρ, S, p⟩ => by
    unfold eV at p
    split at p
    · rename_i d e
      have nx : ∀ x, d ≠ .exc x := fun x z => by
        subst z
        obtain ⟨a, e1, _⟩ := S.exc i x e
        rw [e1] at hn
        simp at hn
      obtain ⟨v, h, r⟩ := S.sh e nx
      exact ⟨v, h, p v Z H (.refl S.trk) r⟩
    · exact p.elim
theorem q_const {v : V} {d : Dat} (h : PE X e (tC v)) (r : ∀ K Z H, Rep K Z H v d) : PE X e (qE c W own .frz (eC d)) :=
  h.imp fun σ H Q ⟨Z, ρ, S, p⟩ => p v Z H (.refl S.trk) (r _ _ _)
theorem q_int {i j pos} : PE X (.Constant (.int i) j pos) (qE c W own .frz (eC (.int i))) := q_const pe_int fun _ _ _ => .int i
theorem q_bl {i j pos} : PE X (.Constant (.bool i) j pos) (qE c W own .frz (eC (.bl i))) := q_const pe_bl fun _ _ _ => .bl i
theorem q_non {j pos} : PE X (.Constant .none j pos) (qE c W own .frz (eC .non)) := q_const pe_non fun _ _ _ => .non
theorem q_str {x : Str} {j pos} {s : List Nat} (h : (x.cps.toList == s && s.all (· < 1114112) && decide (s.length ≤ LINE)) = true) : PE X (.Constant (.str x) j pos) (qE c W own .frz (eC (.str s))) := by
  rw [Bool.and_eq_true, Bool.and_eq_true, beq_iff_eq, List.all_eq_true, decide_eq_true_iff] at h
  obtain ⟨⟨h, h2⟩, h3⟩ := h
  subst h
  exact q_const pe_str fun _ _ _ => .str x ⟨fun c hc => by simpa using h2 c hc, h3⟩

/-- a rule for two values -/
def Op2 (K : PySem.W.Frag) (r : R2) (k1 k2 k : Kd) (f : Dat → Dat → R Dat) : Prop := ∀ (Z : ZS) (H Hs : Hp) (v u : V) (d e : Dat) (Q : VK), Trk Z H → Same Hs H → Val K Z H Hs k1 v d → Val K Z H Hs k2 u e →
  Post (f d e) (fun z => ∀ w Z' H', Ext Z H Z' H' → Val K Z' H' Hs k w z → Q w H') (fun _ => False) → r v u H Q
def Op1 (K : PySem.W.Frag) (r : V → Hp → VK → Prop) (k1 k : Kd) (f : Dat → R Dat) : Prop := ∀ (Z : ZS) (H Hs : Hp) (v : V) (d : Dat) (Q : VK), Trk Z H → Same Hs H → Val K Z H Hs k1 v d →
  Post (f d) (fun z => ∀ w Z' H', Ext Z H Z' H' → Val K Z' H' Hs k w z → Q w H') (fun _ => False) → r v H Q
/-- an operation lets no own error out -/
def NoX1 (f : Dat → R Dat) : Prop := ∀ d x, f d ≠ .exc x
def NoX2 (f : Dat → Dat → R Dat) : Prop := ∀ d e x, f d e ≠ .exc x
theorem Post.nox {α : Type} {r : R α} {p : α → Prop} {x : Nat → Prop} (n : ∀ c, r ≠ .exc c) (h : Post r p x) : Post r p (fun _ => False) := by
  cases r with
  | ok a => exact h
  | exc c => exact absurd rfl (n c)
  | bad => exact h
theorem q_bin {r : R2} {f : Dat → Dat → R Dat} (ha : PE X a (qE c W own k1 m1)) (hb : PE X b (qE c W own k2 m2)) (hPE : ∀ ta tb, PE X a ta → PE X b tb → PE X e (tOp r ta tb))
    (ho : Op2 c.K r k1 k2 k f) (nx : NoX2 f) : PE X e (qE c W own k (e2 f m1 m2)) := (hPE _ _ ha hb).imp fun σ H Q ⟨Z, ρ, S, p⟩ => by
  refine ⟨Z, ρ, S, (Post.bnd p).imp (fun d p1 v Z1 H1 x1 hv => ⟨Z1, ρ, S.move x1, (Post.bnd p1).imp (fun d' p2 u Z2 H2 x2 hu => ?_) fun n q => q.move x1⟩) fun _ q => q⟩
  exact ho Z2 H2 H v u d d' Q x2.trk (x1.same.trans x2.same) (hv.ext x2) (hu.early x1.same) ((Post.nox (nx d d') p2).imp (fun z q w Z3 H3 x3 hw => q w Z3 H3 ((x1.trans x2).trans x3) hw) fun _ q => q)
theorem q_un {r : V → Hp → VK → Prop} {f : Dat → R Dat} (ha : PE X a (qE c W own k1 m1)) (hPE : ∀ ta, PE X a ta → PE X e (tUn r ta)) (ho : Op1 c.K r k1 k f) (nx : NoX1 f) : PE X e (qE c W own k (e1 f m1)) := (hPE _ ha).imp fun σ H Q ⟨Z, ρ, S, p⟩ => by
  refine ⟨Z, ρ, S, (Post.bnd p).imp (fun d p1 v Z1 H1 x1 hv => ?_) fun _ q => q⟩
  exact ho Z1 H1 H v d Q x1.trk x1.same hv ((Post.nox (nx d) p1).imp (fun z q w Z3 H3 x3 hw => q w Z3 H3 (x1.trans x3) hw) fun _ q => q)
end
end PL

set_option maxRecDepth 100000
set_option maxHeartbeats 4000000
namespace PL
open PySem PySem.Spec PyProof.Rows L2
set_option autoImplicit false
abbrev KF := PySem.W.Frag

theorem line_eq : LINE = sizeLine := by rw [sizeLine_eq]; rfl
theorem okS_nil : okS [] := ⟨fun _ h => (by cases h), Nat.zero_le _⟩
theorem okS_app {x y : List Nat} (h : okS x) (k : okS y) (hl : x.length + y.length ≤ LINE) : okS (x ++ y) := ⟨fun c hc => by
  rcases List.mem_append.mp hc with h' | h'
  · exact h.1 c h'
  · exact k.1 c h', by rw [List.length_append]; exact hl⟩
theorem okS_sub {x y : List Nat} (h : okS x) (k : ∀ c ∈ y, c ∈ x) (hl : y.length ≤ x.length) : okS y := ⟨fun c hc => h.1 c (k c hc), Nat.le_trans hl h.2⟩
theorem okS_one {x : List Nat} {c : Nat} (h : okS x) (k : c ∈ x) : okS [c] := ⟨fun q hq => (by rw [show q = c by simpa using hq]; exact h.1 c k), by show 1 ≤ LINE; decide⟩
section
variable {K : KF} {Z Z' : ZS} {H H' Hs : Hp} {v u : V} {d e : Dat} {Q : VK} {k : Kd}
theorem Rep.ofS {x : Str} {s : List Nat} (e : x.cps.toList = s) (h : okS s) : Rep K Z H (.str x) (.str s) := by
  subst e
  exact .str x h
theorem Post.ite {α : Type} {b : Prop} [Decidable b] {a : α} {p : α → Prop} {x : Nat → Prop} (h : Post (if b then .ok a else .bad) p x) : b ∧ p a := by
  by_cases hb : b
  · rw [if_pos hb] at h
    exact ⟨hb, h⟩
  · rw [if_neg hb] at h
    exact h.elim
abbrev Wnt (K : KF) (Z : ZS) (H Hs : Hp) (k : Kd) (Q : VK) : Dat → Prop := fun z => ∀ w Z' H', Ext Z H Z' H' → Val K Z' H' Hs k w z → Q w H'
/-- a settled result, here and now -/
theorem Wnt.frz {w : V} {z : Dat} (t : Trk Z H) (p : Wnt K Z H Hs .frz Q z) (r : Rep K Z H w z) : Q w H := p w Z H (.refl t) r
theorem Wnt.new {w : V} {z : Dat} (t : Trk Z H) (p : Wnt K Z H Hs .new Q z) (r : Rep K Z H w z) (b : isBox z = false) : Q w H := p w Z H (.refl t) ⟨fun z => (by rw [b] at z; cases z), fun _ => r⟩
theorem Wnt.newL {p : Addr} {xs : List V} {ds : List Dat} (t : Trk Z H) (s : Same Hs H) (q : Wnt K Z H Hs .new Q (.lst ds)) (r : RepA K Z H xs ds) (hp : H p = none) : Q (.ref p) (upd H p (.lst xs)) :=
  q (.ref p) Z _ (.laid t hp) ⟨fun _ => ⟨p, rfl, fun z => (by obtain ⟨o, e⟩ := t p z; rw [hp] at e; cases e), s.free hp, xs, upd_same, r.adv (Ext.laid t hp).adv⟩, fun z => (by cases z)⟩
theorem Wnt.newD {p : Addr} {ks : List (Key × V)} {kvs : List (Dat × Dat)} (t : Trk Z H) (s : Same Hs H) (q : Wnt K Z H Hs .new Q (.dic kvs)) (r : RepD K Z H ks kvs) (hp : H p = none) : Q (.ref p) (upd H p (.dK ks)) :=
  q (.ref p) Z _ (.laid t hp) ⟨fun _ => ⟨p, rfl, fun z => (by obtain ⟨o, e⟩ := t p z; rw [hp] at e; cases e), s.free hp, ks, upd_same, r.adv (Ext.laid t hp).adv⟩, fun z => (by cases z)⟩
theorem Rep.kd {w : V} {z : Dat} (k : Kd) (r : Rep K Z H w z) (b : isBox z = false) : Val K Z H Hs k w z := by
  cases k with
  | frz => exact r
  | sh => exact Rep.sh r
  | new => exact ⟨fun z => (by rw [b] at z; cases z), fun _ => r⟩
/-- a new tuple, settled -/
theorem Wnt.tup {p : Addr} {xs : List V} {ds : List Dat} (t : Trk Z H) (q : Wnt K Z H Hs k Q (.tup ds)) (r : RepA K Z H xs ds) (hp : H p = none) : Q (.ref p) (upd H p (.tup xs)) :=
  q (.ref p) (Zadd Z p) _ (.laidZ t hp) ((Rep.tup (.inr rfl) (.inl upd_same) (r.adv (Ext.laidZ t hp).adv)).kd k rfl)
theorem Wnt.at {w : V} {z : Dat} (t : Trk Z H) (p : Wnt K Z H Hs k Q z) (r : Rep K Z H w z) (b : isBox z = false) : Q w H := p w Z H (.refl t) (r.kd k b)
theorem Wnt.int (t : Trk Z H) {i : Int} (p : Wnt K Z H Hs k Q (.int i)) : Q (.int i) H := p.at t (.int i) rfl
theorem Wnt.bl (t : Trk Z H) {b : Bool} (p : Wnt K Z H Hs k Q (.bl b)) : Q (.bl b) H := p.at t (.bl b) rfl
theorem Wnt.str (t : Trk Z H) {x : Str} {s : List Nat} (p : Wnt K Z H Hs k Q (.str s)) (e : x.cps.toList = s) (h : okS s) : Q (.str x) H := p.at t (.ofS e h) rfl
end

section
variable {X : Cx}
/-! ### + -/
theorem op_catS : OpR X (binaryOp .Add) (fun x y H Q => ∃ l b xs zs, x = .ref l ∧ y = .ref b ∧ SqL X.K H l xs ∧ SqL X.K H b zs ∧ xs.length + zs.length ≤ sizeLine ∧ ∀ p, H p = none → Q (.ref p) (upd H p (.lst (xs ++ zs)))) := by
  intro pins s σ H x y v u Q I rx ry h
  obtain ⟨l, b, xs, zs, rfl, rfl, hH, hB, hz, q⟩ := h
  cases rx
  cases ry
  obtain ⟨its, r, ⟨⟨c1, d1, t1, s1⟩, n, g1, g2, g3, g4⟩, z⟩ := I.list hH
  obtain ⟨its2, r2, ⟨⟨c2, d2, t2, s2⟩, n2, k1, k2, k3, k4⟩, z2⟩ := I.list hB
  simp only at g2 g3 g4 k2 k3 k4
  subst g2 g3 g4 k2 k3 k4
  have el := r.length
  have el2 := r2.length
  have ea : its.toArray ++ its2.toArray = (its ++ its2).toArray := by simp
  refine concat_meets ⟨_, g1, rfl⟩ ⟨_, k1, rfl⟩ noFill_list_add seq_list_add F.slot_list_add F.entry_list_add (F.args_list_add_2 _ _) (list_addW l b its.toArray its2.toArray n n2 none none s1 s2 (by simp only [List.size_toArray]; omega)) ⟨g1, k1, ?_⟩
  rw [ea]
  exact ⟨.ref _, _, I.lnew (t' := s.toks) (r.append r2) (by rw [List.length_append]; omega), rfl, q _ I.fresh⟩
def rAddU (K : KF) : R2 := fun x y H Q => (∃ i j, x = .int i ∧ y = .int j ∧ Q (.int (i + j)) H) ∨ (∃ i j, x = .str i ∧ y = .str j ∧ i.length + j.length ≤ sizeLine ∧ Q (.str (i ++ j)) H) ∨
  (∃ l b xs zs, x = .ref l ∧ y = .ref b ∧ SqL K H l xs ∧ SqL K H b zs ∧ xs.length + zs.length ≤ sizeLine ∧ ∀ p, H p = none → Q (.ref p) (upd H p (.lst (xs ++ zs)))) ∨ rCatA K x y H Q
theorem opU_add : OpR X (binaryOp .Add) (rAddU X.K) := op_add.or (op_add_str.or (op_catS.or op_catA))
theorem cpsApp (i j : Str) : (i ++ j).cps.toList = i.cps.toList ++ j.cps.toList := by
  show (i.cps ++ j.cps).toList = _
  simp
theorem RepA.nil_iff {K : KF} {Z : ZS} {H : Hp} {xs : List V} {ds : List Dat} (r : RepA K Z H xs ds) : xs = [] → ds = [] := fun e => by
  subst e
  cases r
  rfl
theorem o2_add {K : KF} : Op2 K (rAddU K) .sh .sh .new addD := by
  intro Z H Hs v u d e Q t s hv hu p
  cases hv with
  | int i =>
    cases hu with
    | int j => exact .inl ⟨i, j, rfl, rfl, Wnt.int t p⟩
    | _ => exact False.elim p
  | str x hx =>
    cases hu with
    | str y hy =>
      obtain ⟨hz, p⟩ := Post.ite p
      have hz2 := hz
      rw [line_eq] at hz
      exact .inr (.inl ⟨x, y, rfl, rfl, by simpa [Str.length] using hz, Wnt.str t p (cpsApp x y) (okS_app hx hy hz2)⟩)
    | _ => exact False.elim p
  | lst h r =>
    cases hu with
    | lst h2 r2 =>
      obtain ⟨hz, p⟩ := Post.ite p
      rw [line_eq, ← r.len, ← r2.len] at hz
      exact .inr (.inr (.inl ⟨_, _, _, _, rfl, rfl, h, h2, hz, fun q hq => Wnt.newL t s p (r.append r2) hq⟩))
    | _ => exact False.elim p
  | tup h r =>
    cases hu with
    | tup h2 r2 =>
      obtain ⟨hz, p⟩ := Post.ite p
      rw [line_eq, ← r.len, ← r2.len] at hz
      refine .inr (.inr (.inr ⟨_, _, _, _, rfl, rfl, h.sq, h2.sq, hz, fun z => ?_, fun _ z => ?_, fun _ z q hq => Wnt.tup t p (r.append r2) hq⟩))
      · subst z
        cases r
        exact Wnt.at t p (h2.rep r2) rfl
      · subst z
        cases r2
        rw [List.append_nil] at p
        exact Wnt.at t p (h.rep r) rfl
    | _ => exact False.elim p
  | _ => exact False.elim p

/-! ### numbers -/
/-- a rule of two ints -/
theorem o2_int {K : KF} {C : Int → Int → Prop} {g : Int → Int → V} {f : Dat → Dat → R Dat} (h : ∀ d e (p : Dat → Prop) (x : Nat → Prop), Post (f d e) p x → ∃ i j z, d = .int i ∧ e = .int j ∧ C i j ∧ p z ∧ isBox z = false ∧ ∀ K Z H, Rep K Z H (g i j) z) : Op2 K (rI C g) .sh .sh .new f := by
  intro Z H Hs v u d e Q t s hv hu p
  obtain ⟨i, j, z, rfl, rfl, hc, q, b, r⟩ := h d e _ _ p
  cases hv
  cases hu
  exact ⟨i, j, rfl, rfl, hc, Wnt.at t q (r _ _ _) b⟩
theorem o2_int0 {K : KF} {g : Int → Int → V} {f : Dat → Dat → R Dat} (h : ∀ d e (p : Dat → Prop) (x : Nat → Prop), Post (f d e) p x → ∃ i j z, d = .int i ∧ e = .int j ∧ p z ∧ isBox z = false ∧ ∀ K Z H, Rep K Z H (g i j) z) : Op2 K (rI0 g) .sh .sh .new f := by
  intro Z H Hs v u d e Q t s hv hu p
  obtain ⟨i, j, z, rfl, rfl, q, b, r⟩ := h d e _ _ p
  cases hv
  cases hu
  exact ⟨i, j, rfl, rfl, Wnt.at t q (r _ _ _) b⟩
theorem o2_sub {K : KF} : Op2 K (rI0 fun i j => .int (i - j)) .sh .sh .new subD := o2_int0 fun d e p x h => by
  cases d <;> cases e <;> first | exact ⟨_, _, _, rfl, rfl, h, rfl, fun _ _ _ => .int _⟩ | exact False.elim h
theorem o2_mod {K : KF} : Op2 K (rI (fun _ j => 0 < j) fun i j => .int (i % j)) .sh .sh .new modD := o2_int fun d e p x h => by
  cases d <;> cases e <;> first | exact ⟨_, _, _, rfl, rfl, (Post.ite h).1, (Post.ite h).2, rfl, fun _ _ _ => .int _⟩ | exact False.elim h
theorem o2_fdiv {K : KF} : Op2 K (rI CDiv fun i j => .int (i / j)) .sh .sh .new fdivD := o2_int fun d e p x h => by
  cases d <;> cases e <;> first | exact ⟨_, _, _, rfl, rfl, (Post.ite h).1, (Post.ite h).2, rfl, fun _ _ _ => .int _⟩ | exact False.elim h
theorem o2_pow {K : KF} : Op2 K (rI CPow fun i j => .int (i ^ j.toNat)) .sh .sh .new powD := o2_int fun d e p x h => by
  cases d <;> cases e <;> first | exact ⟨_, _, _, rfl, rfl, (Post.ite h).1, (Post.ite h).2, rfl, fun _ _ _ => .int _⟩ | exact False.elim h
/-! ### order, None -/
def rOrd (p : Int → Int → Bool) (q : List Nat → List Nat → Bool) : R2 := fun x y H Q => (∃ i j, x = .int i ∧ y = .int j ∧ Q (.bl (p i j)) H) ∨ (∃ i j, x = .str i ∧ y = .str j ∧ Q (.bl (q i.cps.toList j.cps.toList)) H)
theorem opU_lt : OpR X (compareOp .Lt) (rOrd (fun i j => decide (i < j)) fun x y => ltS x y) := op_lt.or op_lt_str
theorem opU_le : OpR X (compareOp .LtE) (rOrd (fun i j => decide (i ≤ j)) fun x y => !ltS y x) := op_le.or op_le_str
theorem opU_gt : OpR X (compareOp .Gt) (rOrd (fun i j => decide (j < i)) fun x y => ltS y x) := op_gt.or op_gt_str
theorem opU_ge : OpR X (compareOp .GtE) (rOrd (fun i j => decide (j ≤ i)) fun x y => !ltS x y) := op_ge.or op_ge_str
theorem o2_ord {K : KF} {p : Int → Int → Bool} {q : List Nat → List Nat → Bool} {f : Dat → Dat → R Dat} (hi : ∀ i j, f (.int i) (.int j) = .ok (.bl (p i j))) (hs : ∀ x y, f (.str x) (.str y) = .ok (.bl (q x y)))
    (hn : ∀ d e, (∃ z, f d e = .ok z) → (∃ i j, d = .int i ∧ e = .int j) ∨ ∃ x y, d = .str x ∧ e = .str y) : Op2 K (rOrd p q) .sh .sh .new f := by
  intro Z H Hs v u d e Q t s hv hu pp
  have h0 : ∃ z, f d e = .ok z := by
    cases h : f d e with
    | ok z => exact ⟨z, rfl⟩
    | exc c => rw [h] at pp; exact False.elim pp
    | bad => rw [h] at pp; exact False.elim pp
  rcases hn d e h0 with ⟨i, j, rfl, rfl⟩ | ⟨x, y, rfl, rfl⟩
  · rw [hi] at pp
    cases hv
    cases hu
    exact .inl ⟨i, j, rfl, rfl, Wnt.bl t pp⟩
  · rw [hs] at pp
    cases hv
    cases hu
    exact .inr ⟨_, _, rfl, rfl, Wnt.bl t pp⟩
theorem o2_lt {K : KF} : Op2 K (rOrd (fun i j => decide (i < j)) fun x y => ltS x y) .sh .sh .new ltN := o2_ord (fun _ _ => rfl) (fun _ _ => rfl) fun d e ⟨z, h⟩ => by
  cases d <;> cases e <;> first | exact .inl ⟨_, _, rfl, rfl⟩ | exact .inr ⟨_, _, rfl, rfl⟩ | cases h
theorem o2_le {K : KF} : Op2 K (rOrd (fun i j => decide (i ≤ j)) fun x y => !ltS y x) .sh .sh .new leD := o2_ord (fun _ _ => rfl) (fun _ _ => rfl) fun d e ⟨z, h⟩ => by
  cases d <;> cases e <;> first | exact .inl ⟨_, _, rfl, rfl⟩ | exact .inr ⟨_, _, rfl, rfl⟩ | cases h
theorem o2_gt {K : KF} : Op2 K (rOrd (fun i j => decide (j < i)) fun x y => ltS y x) .sh .sh .new gtD := o2_ord (fun _ _ => rfl) (fun _ _ => rfl) fun d e ⟨z, h⟩ => by
  cases d <;> cases e <;> first | exact .inl ⟨_, _, rfl, rfl⟩ | exact .inr ⟨_, _, rfl, rfl⟩ | cases h
theorem o2_ge {K : KF} : Op2 K (rOrd (fun i j => decide (j ≤ i)) fun x y => !ltS x y) .sh .sh .new geD := o2_ord (fun _ _ => rfl) (fun _ _ => rfl) fun d e ⟨z, h⟩ => by
  cases d <;> cases e <;> first | exact .inl ⟨_, _, rfl, rfl⟩ | exact .inr ⟨_, _, rfl, rfl⟩ | cases h
theorem sh_non {K : KF} {Z : ZS} {H : Hp} {v : V} {d : Dat} (h : Sh K Z H v d) : isN d = .ok (.bl (decide (v = .non))) ∧ notN d = .ok (.bl (!decide (v = .non))) := by
  cases h <;> exact ⟨by simp [isN], by simp [notN]⟩
theorem q_isN {c : Ct} {W : WX} {own : List Nat} {a : Expr} {m : EM} {j : Nat} {p2 pos : Pos} (ha : PE X a (qE c W own .sh m)) : PE X (.Compare a [.Is] [.Constant .none j p2] pos) (qE c W own .new (e1 isN m)) :=
  (pe_cmp (pc_isN ha)).imp fun σ H Q ⟨Z, ρ, S, p⟩ => ⟨Z, ρ, S, (Post.bnd p).imp (fun d p1 v Z1 H1 x1 hv => by
    rw [(sh_non hv).1] at p1
    exact p1 (.bl _) Z1 H1 x1 (Rep.kd .new (.bl _) rfl)) fun _ q => q⟩
theorem q_notN {c : Ct} {W : WX} {own : List Nat} {a : Expr} {m : EM} {j : Nat} {p2 pos : Pos} (ha : PE X a (qE c W own .sh m)) : PE X (.Compare a [.IsNot] [.Constant .none j p2] pos) (qE c W own .new (e1 notN m)) :=
  (pe_cmp (pc_notN ha)).imp fun σ H Q ⟨Z, ρ, S, p⟩ => ⟨Z, ρ, S, (Post.bnd p).imp (fun d p1 v Z1 H1 x1 hv => by
    rw [(sh_non hv).2] at p1
    exact p1 (.bl _) Z1 H1 x1 (Rep.kd .new (.bl _) rfl)) fun _ q => q⟩

/-! ### equality at any depth -/
mutual
def toPy : Dat → PyData
  | .non => .none
  | .bl b => .bool b
  | .int i => .int i
  | .str s => .str ⟨s.toArray⟩
  | .lst xs => .list (toPyL xs)
  | .tup xs => .tuple (toPyL xs)
  | .dic _ => .none
  | .exc _ => .none
def toPyL : List Dat → List PyData
  | [] => []
  | d :: r => toPy d :: toPyL r
end
theorem b2i_eq (b : Bool) : b2i b = (if b then 1 else 0) := rfl
mutual
theorem eqv_py : ∀ (d e : Dat) (n m : Nat), shp n d = true → shp m e = true → PyData.eqv (toPy d) (toPy e) = eqv d e
  | .non, e, n, m, h, k => by cases e <;> first | rfl | (cases m <;> exact absurd k (by simp [shp]))
  | .bl b, e, n, m, h, k => by cases e <;> first | rfl | (cases m <;> exact absurd k (by simp [shp]))
  | .int i, e, n, m, h, k => by cases e <;> first | rfl | (cases m <;> exact absurd k (by simp [shp]))
  | .str s, e, n, m, h, k => by
    cases e with
    | str t =>
      show ((⟨s.toArray⟩ : Str) == ⟨t.toArray⟩) = (s == t)
      rw [Bool.eq_iff_iff, beq_iff_eq, beq_iff_eq]
      constructor
      · intro q
        injection q with q
        simpa using congrArg Array.toList q
      · intro q
        subst q
        rfl
    | _ => first | rfl | (cases m <;> exact absurd k (by simp [shp]))
  | .lst xs, e, n, m, h, k => by
    cases n with
    | zero => exact absurd h (by simp [shp])
    | succ n =>
      cases e with
      | lst ys =>
        cases m with
        | zero => exact absurd k (by simp [shp])
        | succ m => exact eqv_pyL xs ys n m h k
      | _ => first | rfl | (cases m <;> exact absurd k (by simp [shp]))
  | .tup xs, e, n, m, h, k => by
    cases n with
    | zero => exact absurd h (by simp [shp])
    | succ n =>
      cases e with
      | tup ys =>
        cases m with
        | zero => exact absurd k (by simp [shp])
        | succ m => exact eqv_pyL xs ys n m h k
      | _ => first | rfl | (cases m <;> exact absurd k (by simp [shp]))
  | .dic _, e, n, m, h, k => by cases n <;> exact absurd h (by simp [shp])
  | .exc _, e, n, m, h, k => by cases n <;> exact absurd h (by simp [shp])
theorem eqv_pyL : ∀ (d e : List Dat) (n m : Nat), shpL n d = true → shpL m e = true → PyData.eqvAll (toPyL d) (toPyL e) = eqvL d e
  | [], [], _, _, _, _ => rfl
  | [], _ :: _, _, _, _, _ => rfl
  | _ :: _, [], _, _, _, _ => rfl
  | d :: r, e :: t, n, m, h, k => by
    simp only [shpL, Bool.and_eq_true] at h k
    simp only [toPyL, PyData.eqvAll, eqvL, eqv_py d e n m h.1 k.1, eqv_pyL r t n m h.2 k.2]
end
theorem okS_ok {x : Str} (h : okS x.cps.toList) : PyData.strOk x = true := by
  unfold PyData.strOk
  rw [← Array.all_toList, List.all_eq_true]
  intro c hc
  have := h.1 c hc
  simpa using this
section
variable {K : KF} {Z : ZS} {H : Hp}
mutual
theorem Rep.dp : ∀ {v : V} {d : Dat} {n : Nat}, Rep K Z H v d → shp n d = true → Dp K H v (toPy d) ∧ (toPy d).canLay0 = true ∧ (toPy d).depth ≤ n
  | _, _, _, .non, _ => ⟨.non, by simp [toPy, PyData.canLay0], by simp [toPy, PyData.depth]⟩
  | _, _, _, .bl b, _ => ⟨.bl b, by simp [toPy, PyData.canLay0], by simp [toPy, PyData.depth]⟩
  | _, _, _, .int i, _ => ⟨.int i, by simp [toPy, PyData.canLay0], by simp [toPy, PyData.depth]⟩
  | _, _, _, .str x hx, _ => ⟨by simpa [toPy] using Dp.str x, by simpa [toPy, PyData.canLay0] using okS_ok hx, by simp [toPy, PyData.depth]⟩
  | _, _, 0, .lst z h r, s => absurd s (by simp [shp])
  | _, _, n + 1, .lst z h r, s => by
    obtain ⟨h1, h2, h3⟩ := RepA.dp r (show shpL n _ = true from s)
    exact ⟨.lst (.inl h) h1, by simpa [toPy, PyData.canLay0] using h2, by simpa [toPy, PyData.depth] using h3⟩
  | _, _, 0, .lstK h r, s => absurd s (by simp [shp])
  | _, _, n + 1, .lstK h r, s => by
    obtain ⟨h1, h2, h3⟩ := RepA.dp r (show shpL n _ = true from s)
    exact ⟨.lst (.inr h) h1, by simpa [toPy, PyData.canLay0] using h2, by simpa [toPy, PyData.depth] using h3⟩
  | _, _, 0, .tup z h r, s => absurd s (by simp [shp])
  | _, _, n + 1, .tup z h r, s => by
    obtain ⟨h1, h2, h3⟩ := RepA.dp r (show shpL n _ = true from s)
    exact ⟨.tup (.inl h) h1, by simpa [toPy, PyData.canLay0] using h2, by simpa [toPy, PyData.depth] using h3⟩
  | _, _, 0, .tupK h r, s => absurd s (by simp [shp])
  | _, _, n + 1, .tupK h r, s => by
    obtain ⟨h1, h2, h3⟩ := RepA.dp r (show shpL n _ = true from s)
    exact ⟨.tup (.inr h) h1, by simpa [toPy, PyData.canLay0] using h2, by simpa [toPy, PyData.depth] using h3⟩
  | _, _, n, .dic z h r, s => absurd s (by cases n <;> simp [shp])
theorem RepA.dp : ∀ {v : List V} {d : List Dat} {n : Nat}, RepA K Z H v d → shpL n d = true → DpAll K H v (toPyL d) ∧ PyData.canLayAll0 (toPyL d) = true ∧ PyData.depthAll (toPyL d) ≤ n
  | _, _, _, .nil, _ => ⟨.nil, by simp [toPyL, PyData.canLayAll0], by simp [toPyL, PyData.depthAll]⟩
  | _, _, n, .cons h r, s => by
    simp only [shpL, Bool.and_eq_true] at s
    obtain ⟨h1, h2, h3⟩ := Rep.dp h s.1
    obtain ⟨k1, k2, k3⟩ := RepA.dp r s.2
    exact ⟨.cons h1 k1, by simp [toPyL, PyData.canLayAll0, h2, k2], by simp only [toPyL, PyData.depthAll]; omega⟩
end
theorem Sh.dp {v : V} {d : Dat} {n : Nat} (h : Sh K Z H v d) (s : shp n d = true) : Dp K H v (toPy d) ∧ (toPy d).canLay0 = true ∧ (toPy d).depth ≤ n := by
  cases h with
  | non => exact Rep.dp (K := K) (Z := Z) .non s
  | bl b => exact Rep.dp (K := K) (Z := Z) (.bl b) s
  | int i => exact Rep.dp (K := K) (Z := Z) (.int i) s
  | str x hx => exact Rep.dp (K := K) (Z := Z) (.str x hx) s
  | lst h r =>
    cases n with
    | zero => exact absurd s (by simp [shp])
    | succ n =>
      obtain ⟨h1, h2, h3⟩ := RepA.dp r (show shpL n _ = true from s)
      exact ⟨.lst h h1, by simpa [toPy, PyData.canLay0] using h2, by simpa [toPy, PyData.depth] using h3⟩
  | tup h r => exact Rep.dp (h.rep r) s
  | dic h r => exact absurd s (by cases n <;> simp [shp])
theorem shaped_of {d : PyData} (h : d.canLay0 = true) (k : d.depth ≤ DEEP) : SeqAt.shaped d = true := by
  unfold SeqAt.shaped
  rw [h, Bool.true_and]
  exact decide_eq_true (Nat.le_trans k (by decide))
end
theorem post_eq {d e : Dat} {b : Bool} {p : Dat → Prop} {x : Nat → Prop} (h : Post (if (shp DEEP d && shp DEEP e) = true then R.ok (.bl b) else .bad) p x) : shp DEEP d = true ∧ shp DEEP e = true ∧ p (.bl b) := by
  obtain ⟨h, q⟩ := Post.ite h
  rw [Bool.and_eq_true] at h
  exact ⟨h.1, h.2, q⟩
theorem o2_eq {K : KF} : Op2 K (rEqD K) .sh .sh .new eqD := by
  intro Z H Hs v u d e Q t s hv hu p
  obtain ⟨h1, h2, q⟩ := post_eq p
  obtain ⟨a1, a2, a3⟩ := Sh.dp hv h1
  obtain ⟨b1, b2, b3⟩ := Sh.dp hu h2
  exact ⟨_, _, a1, b1, shaped_of a2 a3, shaped_of b2 b3, by rw [eqv_py d e _ _ h1 h2]; exact Wnt.bl t q⟩
theorem o2_ne {K : KF} : Op2 K (rNeD K) .sh .sh .new neD := by
  intro Z H Hs v u d e Q t s hv hu p
  obtain ⟨h1, h2, q⟩ := post_eq p
  obtain ⟨a1, a2, a3⟩ := Sh.dp hv h1
  obtain ⟨b1, b2, b3⟩ := Sh.dp hu h2
  exact ⟨_, _, a1, b1, shaped_of a2 a3, shaped_of b2 b3, by rw [eqv_py d e _ _ h1 h2]; exact Wnt.bl t q⟩
end
end PL

set_option maxRecDepth 100000
set_option maxHeartbeats 4000000
namespace PL
open PySem PySem.Spec PyProof.Rows L2
set_option autoImplicit false

section
variable {X : Cx} {c : Ct} {W : WX} {own own' : List Nat} {k k1 k2 : Kd} {e a b : Expr} {es : List Expr} {m m1 m2 : EM} {t u : TM} {ms : LM} {pos : Pos}

/-! ### argument lists, displays -/
theorem qa_nil : PA X [] (qA c W own k eNil) := pa_nil.imp fun σ H Q ⟨Z, ρ, S, p⟩ => p [] Z H (.refl S.trk) .nil
theorem qa_cons (ha : PE X e (qE c W own k m)) (hr : PA X es (qA c W own k ms)) (hs : starEach (e :: es) X.env = (false, eval e X.env) :: starEach es X.env := by rfl) : PA X (e :: es) (qA c W own k (eCons m ms)) :=
  (pa_cons ha hr hs).imp fun σ H Q ⟨Z, ρ, S, p⟩ => ⟨Z, ρ, S, (Post.bnd p).imp (fun d p1 v Z1 H1 x1 hv => ⟨Z1, ρ, S.move x1, (Post.bnd p1).imp (fun ds p2 vs Z2 H2 x2 hvs =>
    p2 (v :: vs) Z2 H2 (x1.trans x2) (.cons (hv.ext x2) (hvs.early x1.same))) fun n q => q.move x1⟩) fun _ q => q⟩
theorem q_lst (h : PA X es (qA c W own .frz ms)) : PE X (.List es pos) (qE c W own .new (eLst ms)) := (pe_lst h).imp fun σ H Q ⟨Z, ρ, S, p⟩ => ⟨Z, ρ, S, (Post.bnd p).imp (fun ds p1 vs Z1 H1 x1 hv => by
    obtain ⟨hl, p2⟩ := Post.ite p1
    have r := hv.rep
    refine ⟨by rw [← line_eq, r.len]; exact hl, fun q hq => ?_⟩
    exact Wnt.newL (Hs := H) x1.trk x1.same (fun w Z' H' x hw => p2 w Z' H' (x1.trans x) hw) r hq) fun _ q => q⟩
theorem q_tup {x1 : Nat} (h : PA X es (qA c W own .frz ms)) : PE X (.Tuple es x1 pos) (qE c W own .frz (eTup ms)) := (pe_tup h).imp fun σ H Q ⟨Z, ρ, S, p⟩ => ⟨Z, ρ, S, (Post.bnd p).imp (fun ds p1 vs Z1 H1 x1 hv => by
    obtain ⟨hl, p2⟩ := Post.ite p1
    have r := hv.rep
    refine ⟨by rw [← line_eq, r.len]; exact hl, fun q hq => ?_⟩
    exact Wnt.tup (Hs := H) (k := .frz) x1.trk (fun w Z' H' x hw => p2 w Z' H' (x1.trans x) hw) r hq) fun _ q => q⟩
theorem q_dic0 : PE X (.Dict [] [] pos) (qE c W own .new eDic0) := pe_dnewK.imp fun σ H Q ⟨Z, ρ, S, p⟩ => fun d hd => Wnt.newD (Hs := H) S.trk (Same.refl H) p .nil hd

/-! ### tests -/
/-- a bool's reading as a test -/
theorem qt_of (h : ∀ t, PE X e t → PT X e (tB t)) (he : PE X e (qE c W own k m)) : PT X e (qT c W own (tE m)) := (h _ he).imp fun σ H Q ⟨Z, ρ, S, p⟩ => ⟨Z, ρ, S, (Post.bnd p).imp (fun d p1 v Z1 H1 x1 hv => by
    have hs := hv.sh
    cases hs with
    | bl b => exact ⟨b, rfl, p1 Z1 H1 x1⟩
    | _ => exact False.elim p1) fun _ q => q⟩
/-- of a form that is no comparison, and, or, not -/
theorem qt_val (he : PE X e (qE c W own k m)) (hp : ∀ whole, isTrue e X.env whole = (do let v ← whole; standAt e.pos; holding [v] (truthy v)) := by intro _; rfl) : PT X e (qT c W own (tE m)) := qt_of (fun _ h => pt_val h hp) he
theorem qt_cmp {op : CmpOp} {r : R2} {f : Dat → Dat → R Dat} (ha : PE X a (qE c W own k1 m1)) (hb : PE X b (qE c W own k2 m2)) (ho : OpR X (compareOp op) r) (hm : behindInMarks op b = false)
    (h2 : Op2 c.K r k1 k2 k f) (nx : NoX2 f) : PT X (.Compare a [op] [b] pos) (qT c W own (tE (e2 f m1 m2))) := (pt_cmpR ho ha hb hm).imp fun σ H Q ⟨Z, ρ, S, p⟩ => by
  refine ⟨Z, ρ, S, (Post.bnd (Post.bnd p)).imp (fun d p1 v Z1 H1 x1 hv => ⟨Z1, ρ, S.move x1, (Post.bnd p1).imp (fun d' p2 u Z2 H2 x2 hu => ?_) fun n q => q.move x1⟩) fun _ q => q⟩
  refine h2 Z2 H2 H v u d d' _ x2.trk (x1.same.trans x2.same) (hv.ext x2) (hu.early x1.same) ((Post.nox (nx d d') p2).imp (fun z q w Z3 H3 x3 hw => ?_) fun _ q => q)
  have hs := hw.sh
  cases hs with
  | bl b => exact ⟨b, rfl, q Z3 H3 ((x1.trans x2).trans x3)⟩
  | _ => exact False.elim q
theorem qt_not (h : PT X a (qT c W own t)) : PT X (.UnaryOp .Not a pos) (qT c W own (tNot t)) := (pt_not h).imp fun σ H Q ⟨Z, ρ, S, p⟩ => ⟨Z, ρ, S, (Post.bnd p).imp (fun b p1 => p1) fun _ q => q⟩
theorem qw_and1 (h : PT X a (qT c W own t)) : PW X (.BoolOp .And [a] pos) (qT c W own t) := pw_and1 h
theorem qw_or1 (h : PT X a (qT c W own t)) : PW X (.BoolOp .Or [a] pos) (qT c W own t) := pw_or1 h
theorem qw_and (ha : PT X a (qT c W own t)) (hb : PW X (.BoolOp .And (b :: es) pos) (qT c W own u)) : PW X (.BoolOp .And (a :: b :: es) pos) (qT c W own (tAnd t u)) := (pw_and ha hb).imp fun σ H Q ⟨Z, ρ, S, p⟩ =>
  ⟨Z, ρ, S, (Post.bnd p).imp (fun b p1 Z1 H1 x1 => by
    cases b with
    | true => exact ⟨Z1, ρ, S.move x1, Post.imp p1 (fun b q Z2 H2 x2 => q Z2 H2 (x1.trans x2)) fun _ q => q.move x1⟩
    | false => exact p1 Z1 H1 x1) fun _ q => q⟩
theorem qw_or (ha : PT X a (qT c W own t)) (hb : PW X (.BoolOp .Or (b :: es) pos) (qT c W own u)) : PW X (.BoolOp .Or (a :: b :: es) pos) (qT c W own (tOr t u)) := (pw_or ha hb).imp fun σ H Q ⟨Z, ρ, S, p⟩ =>
  ⟨Z, ρ, S, (Post.bnd p).imp (fun b p1 Z1 H1 x1 => by
    cases b with
    | false => exact ⟨Z1, ρ, S.move x1, Post.imp p1 (fun b q Z2 H2 x2 => q Z2 H2 (x1.trans x2)) fun _ q => q.move x1⟩
    | true => exact p1 Z1 H1 x1) fun _ q => q⟩
/-! ### and, or, not, if as values -/
theorem q_one {op} (h : PE X a (qE c W own k m)) : PE X (.BoolOp op [a] pos) (qE c W own k m) := pe_one h
theorem q_and (ha : PE X a (qE c W own k1 m1)) (hb : PE X (.BoolOp .And (b :: es) pos) (qE c W own k m2)) : PE X (.BoolOp .And (a :: b :: es) pos) (qE c W own k (eAnd m1 m2)) := (pe_and ha hb).imp fun σ H Q ⟨Z, ρ, S, p⟩ =>
  ⟨Z, ρ, S, (Post.bnd p).imp (fun d p1 v Z1 H1 x1 hv => by
    have hs := hv.sh
    cases hs with
    | bl b =>
      cases b with
      | true => exact ⟨true, rfl, Z1, ρ, S.move x1, Post.imp p1 (fun b q w Z2 H2 x2 hw => q w Z2 H2 (x1.trans x2) (hw.early x1.same)) fun _ q => q.move x1⟩
      | false => exact ⟨false, rfl, p1 (.bl false) Z1 H1 x1 (Rep.kd k (.bl false) rfl)⟩
    | _ => exact False.elim p1) fun _ q => q⟩
theorem q_or (ha : PE X a (qE c W own k1 m1)) (hb : PE X (.BoolOp .Or (b :: es) pos) (qE c W own k m2)) : PE X (.BoolOp .Or (a :: b :: es) pos) (qE c W own k (eOr m1 m2)) := (pe_or ha hb).imp fun σ H Q ⟨Z, ρ, S, p⟩ =>
  ⟨Z, ρ, S, (Post.bnd p).imp (fun d p1 v Z1 H1 x1 hv => by
    have hs := hv.sh
    cases hs with
    | bl b =>
      cases b with
      | false => exact ⟨false, rfl, Z1, ρ, S.move x1, Post.imp p1 (fun b q w Z2 H2 x2 hw => q w Z2 H2 (x1.trans x2) (hw.early x1.same)) fun _ q => q.move x1⟩
      | true => exact ⟨true, rfl, p1 (.bl true) Z1 H1 x1 (Rep.kd k (.bl true) rfl)⟩
    | _ => exact False.elim p1) fun _ q => q⟩
theorem nx_not : NoX1 notB := fun d x h => by cases d <;> cases h
theorem q_not (ha : PE X a (qE c W own k m)) : PE X (.UnaryOp .Not a pos) (qE c W own .new (e1 notB m)) := (pe_not ha).imp fun σ H Q ⟨Z, ρ, S, p⟩ =>
  ⟨Z, ρ, S, (Post.bnd p).imp (fun d p1 v Z1 H1 x1 hv => by
    have hs := hv.sh
    cases hs with
    | bl b => exact ⟨b, rfl, p1 (.bl (!b)) Z1 H1 x1 (Rep.kd .new (.bl (!b)) rfl)⟩
    | _ => exact False.elim p1) fun _ q => q⟩
theorem q_ifExp {e0 : Expr} (hc : PT X e0 (qT c W own t)) (ha : PE X a (qE c W own k m1)) (hb : PE X b (qE c W own k m2)) : PE X (.IfExp e0 a b pos) (qE c W own k (eIf t m1 m2)) := (pe_ifExp hc ha hb).imp fun σ H Q ⟨Z, ρ, S, p⟩ =>
  ⟨Z, ρ, S, (Post.bnd p).imp (fun d p1 Z1 H1 x1 => by
    cases d with
    | true => exact ⟨Z1, ρ, S.move x1, Post.imp p1 (fun b q w Z2 H2 x2 hw => q w Z2 H2 (x1.trans x2) (hw.early x1.same)) fun _ q => q.move x1⟩
    | false => exact ⟨Z1, ρ, S.move x1, Post.imp p1 (fun b q w Z2 H2 x2 hw => q w Z2 H2 (x1.trans x2) (hw.early x1.same)) fun _ q => q.move x1⟩) fun _ q => q⟩
end

/-! ### a def's promise -/
/-- a def does what its mirror says -/
def spM (K : KF) (EC : Nat → Addr) (n : Nat) (f : List Dat → R Dat) : Sp := fun vs H Q E => vs.length = n ∧ ∃ (Z : ZS) (ds : List Dat), Trk Z H ∧ RepA K Z H vs ds ∧
  Post (f ds) (fun d => ∀ v Z' H', Ext Z H Z' H' → Rep K Z' H' v d → Q v H') (fun x => ∀ Z' H', Ext Z H Z' H' → E (.ref (EC x)) none H')
section
variable {X : Cx} {c : Ct} {W : WX} {own : List Nat} {es : List Expr} {e : Expr} {ms : LM} {pos p : Pos} {x : Str} {f : Addr} {fd : FuncData} {ps : List Str} {F : List Dat → R Dat} {j n : Nat}
/-- a call of a def -/
theorem q_call (G : FnOk X.prog X.w X.K X.mg X.base (L2.CX X.prog X.w) j f fd ps (spM c.K c.EC n F)) (hn : (e :: es).length = n) (hr : Room j X.A) (hg : Gl X x) (hm : X.mg x = some (.ref f)) (hk : PySem.W.keepIn X.K (.ref f) = true) (hb : Binds X.K fd ps []) (tk : Takes X W)
    (ha : PA X (e :: es) (qA c W own .frz ms)) (hlen : ∀ ρ ds, ms ρ = .ok ds → ds.length = n) (hdb : (x == ("__debug__" : Str)) = false) (he : starEach (e :: es) X.env = (false, eval e X.env) :: starEach es X.env := by rfl) (hpl : (backTo pos (starEach es X.env)).any (·.1) = false := by rfl) :
    PE X (.Call (.Name x p) (e :: es) [] pos) (qE c W own .frz (eCall F ms)) := (pe_callS G hr hg hm hk hb (fun σ => passAt tk σ) ha hdb he hpl).imp fun σ H Q ⟨Z, ρ, S, p⟩ => by
  have p := Post.bnd p
  refine ⟨Z, ρ, S, ?_⟩
  cases q : ms ρ with
  | bad => rw [q] at p; exact p.elim
  | exc x => rw [q] at p; exact p
  | ok ds =>
    rw [q] at p
    intro vs Z1 H1 x1 hv
    refine ⟨by rw [hv.rep.len]; exact hlen ρ ds q, Z1, ds, x1.trk, hv.rep, Post.imp p (fun d q2 v Z2 H2 x2 hw => q2 v Z2 H2 (x1.trans x2) hw) fun n q2 Z2 H2 x2 => q2 Z2 H2 (x1.trans x2)⟩
end

/-! ### targets -/
/-- what a target wants: the slots behind it -/
def Tch (ts : List Nat) (σ σ' : St) : Prop := σ'.length = σ.length ∧ ∀ j, j ∉ ts → σ'[j]? = σ[j]?
def qG (c : Ct) (own own' ts : List Nat) (g : GM) : TG := fun v σ H Q => ∃ Z ρ d, SE c own Z H σ ρ ∧ Rep c.K Z H v d ∧ Post (g d ρ) (fun ρ' => ∀ σ', Tch ts σ σ' → SE c own' Z H σ' ρ' → Q σ' H) (fun _ => False)
def qGs (c : Ct) (own own' ts : List Nat) (g : GsM) : TGs := fun vs σ H Q => ∃ Z ρ ds, SE c own Z H σ ρ ∧ RepA c.K Z H vs ds ∧ Post (g ds ρ) (fun ρ' => ∀ σ', Tch ts σ σ' → SE c own' Z H σ' ρ' → Q σ' H) (fun _ => False)
section
variable {c : Ct} {own own' : List Nat} {Z : ZS} {H : Hp} {σ : St} {ρ : Env} {i : Nat} {v : V} {d : Dat}
theorem get_set {α : Type} (l : List α) (i j : Nat) (x : α) : (l.set i x)[j]? = if i = j ∧ j < l.length then some x else l[j]? := by
  rw [List.getElem?_set]
  by_cases h : i = j
  · subst h
    by_cases h2 : i < l.length
    · simp [h2]
    · simp [h2, List.getElem?_eq_none (by omega : l.length ≤ i)]
  · simp [h]
/-- a settled value is stored: the slot is not own -/
theorem SE.set (S : SE c own Z H σ ρ) (r : Rep c.K Z H v d) (hi : i < ρ.length) : SE c (own.filter (· != i)) Z H (σ.set i (some v)) (ρ.set i (some d)) where
  ext := S.ext
  len := by simp [S.len]
  val := fun j d' e n nx => by
    rw [get_set] at e
    rw [get_set, S.len]
    by_cases h : i = j ∧ j < ρ.length
    · rw [if_pos h] at e ⊢
      cases e
      exact ⟨v, rfl, r⟩
    · rw [if_neg h] at e ⊢
      refine S.val j d' e (fun z => n ?_) nx
      rw [List.mem_filter]
      refine ⟨z, ?_⟩
      have : j ≠ i := fun q => h ⟨q.symm, by subst q; exact hi⟩
      simpa using this
  exc := fun j x e => by
    rw [get_set] at e
    rw [get_set, S.len]
    by_cases h : i = j ∧ j < ρ.length
    · rw [if_pos h] at e
      cases e
      cases r
    · rw [if_neg h] at e ⊢
      exact S.exc j x e
  ow := fun j hj => by
    obtain ⟨hj, hne⟩ := List.mem_filter.mp hj
    have hne : j ≠ i := by simpa using hne
    obtain ⟨a, d', e1, e2, q⟩ := S.ow j hj
    refine ⟨a, d', ?_, ?_, q⟩
    · rw [get_set, if_neg (fun z => hne z.1.symm)]; exact e1
    · rw [get_set, if_neg (fun z => hne z.1.symm)]; exact e2
  inj := fun j hj l hl hne => by
    obtain ⟨hj, h1⟩ := List.mem_filter.mp hj
    obtain ⟨hl, h2⟩ := List.mem_filter.mp hl
    have h1 : j ≠ i := by simpa using h1
    have h2 : l ≠ i := by simpa using h2
    rw [get_set, get_set, if_neg (fun z => h1 z.1.symm), if_neg (fun z => h2 z.1.symm)]
    exact S.inj j hj l hl hne
/-- a new list or dict is stored: the slot is own -/
theorem SE.setN {Hs : Hp} (S : SE c own Z H σ ρ) (r : Val c.K Z H Hs .new v d) (b : isBox d = true) (hi : i < ρ.length) (h0 : Same c.H0 Hs) (hs : ∀ j ∈ own, ∀ a, σ[j]? = some (some (.ref a)) → Hs a ≠ none) :
    SE c (i :: own.filter (· != i)) Z H (σ.set i (some v)) (ρ.set i (some d)) where
  ext := S.ext
  len := by simp [S.len]
  val := fun j d' e n nx => by
    have hji : j ≠ i := fun q => n (by subst q; exact List.mem_cons_self)
    rw [get_set, if_neg (fun z => hji z.1.symm)] at e ⊢
    refine S.val j d' e (fun z => n (List.mem_cons_of_mem _ (List.mem_filter.mpr ⟨z, by simpa using hji⟩))) nx
  exc := fun j x e => by
    rw [get_set] at e
    rw [get_set, S.len]
    by_cases h : i = j ∧ j < ρ.length
    · rw [if_pos h] at e
      cases e
      cases b
    · rw [if_neg h] at e ⊢
      exact S.exc j x e
  ow := fun j hj => by
    obtain ⟨a, ev, nz, hn, t⟩ := r.1 b
    by_cases h : j = i
    · subst h
      refine ⟨a, d, ?_, ?_, nz, h0.free hn, t⟩
      · rw [get_set, if_pos ⟨rfl, hi⟩]
      · rw [get_set, if_pos ⟨rfl, by rw [S.len]; exact hi⟩, ev]
    · rcases List.mem_cons.mp hj with hj | hj
      · exact absurd hj h
      · obtain ⟨hj, _⟩ := List.mem_filter.mp hj
        obtain ⟨a', d', e1, e2, q⟩ := S.ow j hj
        refine ⟨a', d', ?_, ?_, q⟩
        · rw [get_set, if_neg (fun z => h z.1.symm)]; exact e1
        · rw [get_set, if_neg (fun z => h z.1.symm)]; exact e2
  inj := fun j hj l hl hne => by
    obtain ⟨a, ev, nz, hn, t⟩ := r.1 b
    have hlt : i < σ.length := by rw [S.len]; exact hi
    have key : ∀ j, j ≠ i → j ∈ i :: own.filter (· != i) → j ∈ own := fun j h z => by
      rcases List.mem_cons.mp z with z | z
      · exact absurd z h
      · exact (List.mem_filter.mp z).1
    by_cases h1 : j = i
    · by_cases h2 : l = i
      · exact absurd (h1.trans h2.symm) hne
      · rw [get_set, get_set, if_pos ⟨h1.symm, by rw [h1]; exact hlt⟩, if_neg (fun z => h2 z.1.symm)]
        intro q
        exact hs l (key l h2 hl) a (by rw [← q, ev]) hn
    · by_cases h2 : l = i
      · rw [get_set, get_set, if_neg (fun z => h1 z.1.symm), if_pos ⟨h2.symm, by rw [h2]; exact hlt⟩]
        intro q
        exact hs j (key j h1 hj) a (by rw [q, ev]) hn
      · rw [get_set, get_set, if_neg (fun z => h1 z.1.symm), if_neg (fun z => h2 z.1.symm)]
        exact S.inj j (key j h1 hj) l (key l h2 hl) hne
end
end PL

set_option maxRecDepth 100000
set_option maxHeartbeats 4000000
namespace PL
open PySem PySem.Spec PyProof.Rows L2
set_option autoImplicit false

/-! ### targets -/
section
variable {X : Cx} {c : Ct} {W : WX} {own own' own1 ownL ts : List Nat} {i n : Nat} {x : Str} {pos : Pos} {e : Expr} {es : List Expr} {g : GM} {gs : GsM}
theorem qg_name (hN : X.N.Nodup) (hi : X.N[i]? = some x) (hx : Loc X.env.scope x) (hf : X.fn x = true ∨ X.env.scope.names.lookup x = some .local) (ho : own' = own.filter (· != i)) (ht : i ∈ ts) : PG X (.Name x pos) (qG c own own' ts (gV i)) := by
  subst ho
  refine ⟨fun pins s σ H v u Q I r h => (pg_name hN hi hx hf).run pins s σ H v u Q I r ?_⟩
  obtain ⟨Z, ρ, d, S, rv, p⟩ := h
  unfold gV at p
  obtain ⟨hl, p⟩ := Post.ite p
  refine p _ ⟨List.length_set, fun j hj => ?_⟩ (S.set rv hl)
  rw [get_set, if_neg (fun z => hj (by rw [← z.1]; exact ht))]
theorem qgs_nil : PGs X [] (qGs c own own ts gNil) := by
  refine ⟨fun pins s σ H vs us Q I r h => pgs_nil.run pins s σ H vs us Q I r ?_⟩
  obtain ⟨Z, ρ, ds, S, rv, p⟩ := h
  cases rv with
  | nil => exact ⟨rfl, p _ ⟨rfl, fun _ _ => rfl⟩ S⟩
  | cons _ _ => exact p.elim
theorem qgs_cons (h1 : PG X e (qG c own own1 ts g)) (h2 : PGs X es (qGs c own1 own' ts gs)) (hst : (assignEach (e :: es) X.env).map (·.2) = assign e X.env :: (assignEach es X.env).map (·.2) := by rfl) : PGs X (e :: es) (qGs c own own' ts (gCons g gs)) := by
  refine ⟨fun pins s σ H vs us Q I r h => (pgs_cons h1 h2 hst).run pins s σ H vs us Q I r ?_⟩
  obtain ⟨Z, ρ, ds, S, rv, p⟩ := h
  cases rv with
  | nil => exact p.elim
  | cons r1 r2 => exact ⟨_, _, rfl, Z, ρ, _, S, r1, (Post.bnd p).imp (fun ρ1 q σ1 t1 S1 => ⟨Z, ρ1, _, S1, r2, Post.imp q (fun ρ2 q2 σ2 t2 S2 => q2 σ2 ⟨t2.1.trans t1.1, fun j hj => (t2.2 j hj).trans (t1.2 j hj)⟩ S2) fun _ q => q⟩) fun _ q => q⟩
theorem qg_tup {k : Nat} (hK : c.K = X.K) (hc : X.calm = true) (h : PGs X es (qGs c own own' ts gs)) (hn : (assignEach es X.env).length = n := by rfl) (hst : (assignEach es X.env).findIdx? (·.1) = none := by rfl) : PG X (.Tuple es k pos) (qG c own own' ts (gTup n gs)) := by
  refine ⟨fun pins s σ H v u Q I r hh => (pg_tup hc h hn hst).run pins s σ H v u Q I r ?_⟩
  obtain ⟨Z, ρ, d, S, rv, p⟩ := hh
  cases rv with
  | @tup a xs ds z e r2 =>
    have p : Post (if ds.length = n then gs ds ρ else .bad) _ _ := p
    by_cases hl : ds.length = n
    · rw [if_pos hl] at p
      exact ⟨_, _, rfl, .inl e, by rw [r2.len]; exact hl, Z, ρ, _, S, r2, p⟩
    · rw [if_neg hl] at p
      exact p.elim
  | @tupK a xs ds e r2 =>
    have p : Post (if ds.length = n then gs ds ρ else .bad) _ _ := p
    by_cases hl : ds.length = n
    · rw [if_pos hl] at p
      exact ⟨_, _, rfl, .inr (by rw [← hK]; exact e), by rw [r2.len]; exact hl, Z, ρ, _, S, r2, p⟩
    · rw [if_neg hl] at p
      exact p.elim
  | _ => exact p.elim
end

/-! ### what is walked -/
/-- J hands out the items -/
def ItOk (K : KF) (J : It) (Z : ZS) (H : Hp) (ds : List Dat) : Prop := ∀ Z1 H1, Adv Z H Z1 H1 → Trk Z1 H1 → ∀ i : Nat, (∀ d, ds[i]? = some d → J.go i H1 ∧ ∀ x H2, J.yld i H1 x H2 → ∃ Z2, Ext Z1 H1 Z2 H2 ∧ Rep K Z2 H2 x d) ∧ (ds.length ≤ i → J.stop i H1)
def qI (c : Ct) (W : WX) (own : List Nat) (m : LM) : TI := fun σ H R => ∃ Z ρ, SE c own Z H σ ρ ∧ Post (m ρ) (fun ds => ∀ J Z' H', Ext Z H Z' H' → ItOk c.K J Z' H' ds → R J H') (PX c W Z H σ)
section
variable {K : KF} {Z : ZS} {H : Hp} {a b : Addr} {xs ys : List V} {ds es : List Dat}
theorem itl_ok (h : ∀ Z1 H1, Adv Z H Z1 H1 → SqL K H1 a xs ∧ RepA K Z1 H1 xs ds) (u : ∀ H1 zs, SqL K H1 a xs → SqL K H1 a zs → zs = xs) : ItOk K (Itl K a) Z H ds := fun Z1 H1 ad t i => by
  obtain ⟨h1, r⟩ := h Z1 H1 ad
  refine ⟨fun d e => ?_, fun hl => ⟨xs, h1, by rw [r.len]; exact hl⟩⟩
  obtain ⟨v, ev, rv⟩ := r.get e
  refine ⟨⟨xs, v, h1, ev⟩, fun x H2 y => ?_⟩
  obtain ⟨rfl, y⟩ := y
  have := y xs h1
  rw [ev] at this
  cases this
  exact ⟨Z1, .refl t, rv⟩
theorem itt_ok (h : ∀ Z1 H1, Adv Z H Z1 H1 → SqT K H1 a xs ∧ RepA K Z1 H1 xs ds) : ItOk K (Itt K a) Z H ds := fun Z1 H1 ad t i => by
  obtain ⟨h1, r⟩ := h Z1 H1 ad
  refine ⟨fun d e => ?_, fun hl => ⟨xs, h1, by rw [r.len]; exact hl⟩⟩
  obtain ⟨v, ev, rv⟩ := r.get e
  refine ⟨⟨xs, v, h1, ev⟩, fun x H2 y => ?_⟩
  obtain ⟨rfl, y⟩ := y
  have := y xs h1
  rw [ev] at this
  cases this
  exact ⟨Z1, .refl t, rv⟩
theorem its_ok {x : Str} (hx : okS x.cps.toList) : ItOk K (Its x) Z H (signs x.cps.toList) := fun Z1 H1 ad t i => by
  refine ⟨fun d e => ?_, fun hl => ?_⟩
  · unfold signs at e
    rw [List.getElem?_map] at e
    obtain ⟨ch, ec, rfl⟩ := Option.map_eq_some_iff.mp e
    have hlt : i < x.cps.size := by
      have := (List.getElem?_eq_some_iff.mp ec).1
      simpa using this
    refine ⟨hlt, fun v H2 y => ?_⟩
    obtain ⟨rfl, c2, e2, rfl⟩ := y
    have e3 : c2 = ch := by
      rw [← Array.getElem?_toList] at e2
      rw [e2] at ec
      exact Option.some.inj ec
    subst e3
    exact ⟨Z1, .refl t, .ofS rfl (okS_one hx (List.mem_of_getElem? ec))⟩
  · show x.cps.size ≤ i
    unfold signs at hl
    simpa using hl
theorem itr_ok {lo : Int} {n : Nat} {zs : List Int} (hz : zs = (List.range n).map fun k => lo + (k : Nat)) : ItOk K (Itr lo n) Z H (zs.map .int) := fun Z1 H1 ad t i => by
  subst hz
  refine ⟨fun d e => ?_, fun hl => (show n ≤ i by simpa using hl)⟩
  rw [List.getElem?_map, List.getElem?_map] at e
  obtain ⟨z, ez, rfl⟩ := Option.map_eq_some_iff.mp e
  obtain ⟨k, ek, rfl⟩ := Option.map_eq_some_iff.mp ez
  obtain ⟨h1, h2⟩ := List.getElem?_eq_some_iff.mp ek
  have hk : k = i := by simpa using h2.symm
  subst hk
  refine ⟨(show k < n by simpa using h1), fun x H2 y => ?_⟩
  obtain ⟨rfl, rfl⟩ := y
  exact ⟨Z1, .refl t, .int _⟩
theorem enumFrom_get : ∀ {ds : List Dat} {k i : Nat} {d : Dat}, (enumFrom k ds)[i]? = some d → ∃ x, ds[i]? = some x ∧ d = .tup [.int ((k + i : Nat) : Int), x]
  | [], _, _, _, h => by simp [enumFrom] at h
  | x :: r, k, 0, d, h => ⟨x, rfl, by simpa [enumFrom] using h.symm⟩
  | x :: r, k, i + 1, d, h => by
    obtain ⟨y, h1, h2⟩ := enumFrom_get (ds := r) (k := k + 1) (i := i) (by simpa [enumFrom] using h)
    exact ⟨y, by simpa using h1, by rw [h2]; congr 3; omega⟩
theorem enumFrom_len : ∀ {ds : List Dat} {k : Nat}, (enumFrom k ds).length = ds.length
  | [], _ => rfl
  | _ :: r, k => by simp [enumFrom, enumFrom_len (ds := r)]
theorem ite_ok (h : ∀ Z1 H1, Adv Z H Z1 H1 → SqL K H1 a xs ∧ RepA K Z1 H1 xs ds) : ItOk K (Ite K a) Z H (enumFrom 0 ds) := fun Z1 H1 ad t i => by
  obtain ⟨h1, r⟩ := h Z1 H1 ad
  refine ⟨fun d e => ?_, fun hl => ⟨xs, h1, by rw [r.len]; rw [enumFrom_len] at hl; exact hl⟩⟩
  obtain ⟨x, ex, rfl⟩ := enumFrom_get e
  obtain ⟨v, ev, rv⟩ := r.get ex
  refine ⟨⟨xs, v, h1, ev⟩, fun w H2 y => ?_⟩
  obtain ⟨T, v2, rfl, hT, rfl, y⟩ := y
  have := y xs h1
  rw [ev] at this
  cases this
  refine ⟨Zadd Z1 T, .laidZ t hT, .tup (.inr rfl) (.inl upd_same) (.cons ?_ (.cons (rv.adv (Ext.laidZ t hT).adv) .nil))⟩
  rw [Nat.zero_add]
  exact .int _
theorem zipT_get : ∀ {ds es : List Dat} {i : Nat} {d : Dat}, (zipT ds es)[i]? = some d → ∃ x y, ds[i]? = some x ∧ es[i]? = some y ∧ d = .tup [x, y]
  | [], _, _, _, h => by simp [zipT] at h
  | _ :: _, [], _, _, h => by simp [zipT] at h
  | x :: r, y :: t, 0, d, h => ⟨x, y, rfl, rfl, by simpa [zipT] using h.symm⟩
  | x :: r, y :: t, i + 1, d, h => by
    obtain ⟨u, v, h1, h2, h3⟩ := zipT_get (ds := r) (es := t) (i := i) (by simpa [zipT] using h)
    exact ⟨u, v, by simpa using h1, by simpa using h2, h3⟩
theorem zipT_len : ∀ {ds es : List Dat}, (zipT ds es).length = min ds.length es.length
  | [], _ => by simp [zipT]
  | _ :: _, [] => by simp [zipT]
  | _ :: r, _ :: t => by simp only [zipT, List.length_cons, zipT_len (ds := r) (es := t)]; omega
theorem itz_ok (h : ∀ Z1 H1, Adv Z H Z1 H1 → SqL K H1 a xs ∧ RepA K Z1 H1 xs ds) (k : ∀ Z1 H1, Adv Z H Z1 H1 → SqL K H1 b ys ∧ RepA K Z1 H1 ys es) : ItOk K (Itz K a b) Z H (zipT ds es) := fun Z1 H1 ad t i => by
  obtain ⟨h1, r⟩ := h Z1 H1 ad
  obtain ⟨k1, q⟩ := k Z1 H1 ad
  refine ⟨fun d e => ?_, fun hl => ⟨xs, ys, h1, k1, by rw [r.len, q.len]; rw [zipT_len] at hl; omega⟩⟩
  obtain ⟨x, y, ex, ey, rfl⟩ := zipT_get e
  obtain ⟨v, ev, rv⟩ := r.get ex
  obtain ⟨w, ew, rw'⟩ := q.get ey
  refine ⟨⟨xs, ys, v, w, h1, k1, ev, ew⟩, fun u H2 yy => ?_⟩
  obtain ⟨T, v2, w2, rfl, hT, rfl, y1, y2⟩ := yy
  have e1 := y1 xs h1
  have e2 := y2 ys k1
  rw [ev] at e1
  rw [ew] at e2
  cases e1
  cases e2
  exact ⟨Zadd Z1 T, .laidZ t hT, .tup (.inr rfl) (.inl upd_same) (.cons (rv.adv (Ext.laidZ t hT).adv) (.cons (rw'.adv (Ext.laidZ t hT).adv) .nil))⟩
/-- a settled list stays to be read -/
theorem Rep.stays {v : V} (h : Rep K Z H v (.lst ds)) : ∃ a xs, v = .ref a ∧ SqL K H a xs ∧ ∀ Z1 H1, Adv Z H Z1 H1 → SqL K H1 a xs ∧ RepA K Z1 H1 xs ds := by
  cases h with
  | lst z e r => exact ⟨_, _, rfl, .inl e, fun Z1 H1 ad => ⟨.inl (Rd.adv e (ad _ z).2), r.adv ad⟩⟩
  | lstK e r => exact ⟨_, _, rfl, .inr e, fun Z1 H1 ad => ⟨.inr e, r.adv ad⟩⟩
theorem Rep.staysT {v : V} (h : Rep K Z H v (.tup ds)) : ∃ a xs, v = .ref a ∧ SqT K H a xs ∧ ∀ Z1 H1, Adv Z H Z1 H1 → SqT K H1 a xs ∧ RepA K Z1 H1 xs ds := by
  cases h with
  | tup z e r => exact ⟨_, _, rfl, .inl e, fun Z1 H1 ad => ⟨.inl (Rd.adv e (ad _ z).2), r.adv ad⟩⟩
  | tupK e r => exact ⟨_, _, rfl, .inr e, fun Z1 H1 ad => ⟨.inr e, r.adv ad⟩⟩
end
section
variable {X : Cx} {c : Ct} {W : WX} {own : List Nat} {tg e e2 e3 : Expr} {m m2 m3 : EM} {pos p tpos : Pos} {k : Kd}
theorem qi_of (hK : c.K = X.K) (he : PE X e (qE c W own .frz m)) : PI X tg e (qI c W own (iOf m)) := by
  refine ⟨fun pins s σ H R I h => ?_⟩
  obtain ⟨Z, ρ, S, p⟩ := h
  have p := Post.bnd p
  cases q : m ρ with
  | bad => rw [q] at p; exact p.elim
  | exc x =>
    rw [q] at p
    exact (pi_list he).run pins s σ H R I ⟨Z, ρ, S, by rw [q]; exact p⟩
  | ok d =>
    rw [q] at p
    cases d with
    | lst ds =>
      refine (pi_list he).run pins s σ H R I ⟨Z, ρ, S, ?_⟩
      rw [q]
      intro v Z1 H1 x1 hv
      obtain ⟨a, xs, rfl, hs, hh⟩ := Rep.stays hv
      rw [hK] at hs hh
      refine ⟨a, rfl, ⟨xs, hs⟩, p _ Z1 H1 x1 ?_⟩
      rw [hK]
      intro Z2 H2 ad t i
      obtain ⟨h1, r⟩ := hh Z2 H2 ad
      refine ⟨fun d e => ?_, fun hl => ⟨xs, h1, by rw [r.len]; exact hl⟩⟩
      obtain ⟨v, ev, rv⟩ := r.get e
      refine ⟨⟨xs, v, h1, ev⟩, fun x H2 y => ?_⟩
      obtain ⟨rfl, y⟩ := y
      have := y xs h1
      rw [ev] at this
      cases this
      exact ⟨Z2, .refl t, rv⟩
    | tup ds =>
      refine (pi_tup he).run pins s σ H R I ⟨Z, ρ, S, ?_⟩
      rw [q]
      intro v Z1 H1 x1 hv
      obtain ⟨a, xs, rfl, hs, hh⟩ := Rep.staysT hv
      rw [hK] at hs hh
      exact ⟨a, rfl, ⟨xs, hs⟩, p _ Z1 H1 x1 (by rw [hK]; exact itt_ok hh)⟩
    | str z =>
      refine (pi_str he).run pins s σ H R I ⟨Z, ρ, S, ?_⟩
      rw [q]
      intro v Z1 H1 x1 hv
      have hv : Rep c.K Z1 H1 v (.str z) := hv
      cases hv with
      | str x hx => exact ⟨x, rfl, p _ Z1 H1 x1 (its_ok hx)⟩
    | _ => exact p.elim
theorem qi_r1 (hg : Gl X "range") (hm : X.mg "range" = none) (ha : PE X e (qE c W own k m)) (hs : starEach [e] X.env = [(false, eval e X.env)] := by rfl) : PI X tg (.Call (.Name "range" p) [e] [] pos) (qI c W own (iR1 m)) := by
  refine ⟨fun pins s σ H R I h => (pi_range1 hg hm (qa_cons ha qa_nil hs) hs).run pins s σ H R I ?_⟩
  obtain ⟨Z, ρ, S, p⟩ := h
  refine ⟨Z, ρ, S, ?_⟩
  have p := Post.bnd p
  unfold eCons eNil
  cases q : m ρ with
  | bad => rw [q] at p; exact p.elim
  | exc x => rw [q] at p; exact p
  | ok d =>
    rw [q] at p
    intro vs Z1 H1 x1 hv
    cases hv with
    | cons h1 h2 =>
      cases h2
      have hs := h1.sh
      cases hs with
      | int j =>
        obtain ⟨hf, p⟩ := Post.ite p
        refine ⟨j, rfl, hf.1, hf.2, p _ Z1 H1 x1 ?_⟩
        refine itr_ok (lo := 0) ?_
        unfold upTo
        rw [Int.sub_zero]
      | _ => exact p.elim
theorem qi_r2 (hg : Gl X "range") (hm : X.mg "range" = none) (ha : PE X e (qE c W own k m)) (hb : PE X e2 (qE c W own k m2)) (hs : starEach [e, e2] X.env = [(false, eval e X.env), (false, eval e2 X.env)] := by rfl) (hs2 : starEach [e2] X.env = [(false, eval e2 X.env)] := by rfl) :
    PI X tg (.Call (.Name "range" p) [e, e2] [] pos) (qI c W own (iR2 m m2)) := by
  refine ⟨fun pins s σ H R I h => (pi_range2 hg hm (qa_cons ha (qa_cons hb qa_nil hs2) (by rw [hs, hs2])) hs hs2).run pins s σ H R I ?_⟩
  obtain ⟨Z, ρ, S, p⟩ := h
  refine ⟨Z, ρ, S, ?_⟩
  have p := Post.bnd p
  unfold eCons eNil
  cases q : m ρ with
  | bad => rw [q] at p; exact p.elim
  | exc x => rw [q] at p; exact p
  | ok d =>
    rw [q] at p
    have p := Post.bnd p
    rw [PL.R.bnd_ok]
    cases q2 : m2 ρ with
    | bad => rw [q2] at p; exact p.elim
    | exc x => rw [q2] at p; exact p
    | ok d2 =>
      rw [q2] at p
      intro vs Z1 H1 x1 hv
      cases hv with
      | cons h1 h2 =>
        cases h2 with
        | cons h2 h3 =>
          cases h3
          have hs := h1.sh
          have hs2 := h2.sh
          cases hs with
          | int i =>
            cases hs2 with
            | int j =>
              obtain ⟨⟨hf, hf2⟩, p⟩ := Post.ite p
              exact ⟨i, j, rfl, ⟨hf.1, hf.2, hf2.1, hf2.2⟩, p _ Z1 H1 x1 (itr_ok rfl)⟩
            | _ => exact p.elim
          | _ => exact p.elim
theorem qi_enum {elts : List Expr} {kk : Nat} (hK : c.K = X.K) (hg : Gl X "enumerate") (hm : X.mg "enumerate" = none) (ha : PE X e (qE c W own .frz m)) (hs : starEach [e] X.env = [(false, eval e X.env)] := by rfl) : PI X (.Tuple elts kk tpos) (.Call (.Name "enumerate" p) [e] [] pos) (qI c W own (iEnumN m)) := by
  refine ⟨fun pins s σ H R I h => (pi_enum hg hm (qa_cons ha qa_nil hs) hs).run pins s σ H R I ?_⟩
  obtain ⟨Z, ρ, S, p⟩ := h
  refine ⟨Z, ρ, S, ?_⟩
  have p := Post.bnd p
  unfold eCons eNil
  cases q : m ρ with
  | bad => rw [q] at p; exact p.elim
  | exc x => rw [q] at p; exact p
  | ok d =>
    rw [q] at p
    intro vs Z1 H1 x1 hv
    cases hv with
    | cons h1 h2 =>
      cases h2
      cases d with
      | lst ds =>
        obtain ⟨a, xs, rfl, hs, hh⟩ := Rep.stays h1
        rw [hK] at hs hh
        exact ⟨a, xs, rfl, hs, p _ Z1 H1 x1 (by rw [hK]; exact ite_ok hh)⟩
      | _ => exact p.elim
theorem qi_zip {elts : List Expr} {kk : Nat} (hK : c.K = X.K) (hg : Gl X "zip") (hm : X.mg "zip" = none) (ha : PE X e (qE c W own .frz m)) (hb : PE X e2 (qE c W own .frz m2)) (hs : starEach [e, e2] X.env = (false, eval e X.env) :: starEach [e2] X.env := by rfl) (hs2 : starEach [e2] X.env = (false, eval e2 X.env) :: starEach [] X.env := by rfl)
    (hpl : (backTo pos (starEach [e2] X.env)).any (·.1) = false := by rfl) : PI X (.Tuple elts kk tpos) (.Call (.Name "zip" p) [e, e2] [] pos) (qI c W own (iZip m m2)) := by
  refine ⟨fun pins s σ H R I h => (pi_zip hg hm (qa_cons ha (qa_cons hb qa_nil hs2) hs) hs hpl).run pins s σ H R I ?_⟩
  obtain ⟨Z, ρ, S, p⟩ := h
  refine ⟨Z, ρ, S, ?_⟩
  have p := Post.bnd p
  unfold eCons eNil
  cases q : m ρ with
  | bad => rw [q] at p; exact p.elim
  | exc x => rw [q] at p; exact p
  | ok d =>
    rw [q] at p
    have p := Post.bnd p
    rw [PL.R.bnd_ok]
    cases q2 : m2 ρ with
    | bad => rw [q2] at p; exact p.elim
    | exc x => rw [q2] at p; exact p
    | ok d2 =>
      rw [q2] at p
      intro vs Z1 H1 x1 hv
      cases hv with
      | cons h1 h2 =>
        cases h2 with
        | cons h2 h3 =>
          cases h3
          cases d with
          | lst ds =>
            cases d2 with
            | lst es =>
              obtain ⟨a, xs, rfl, hs, hh⟩ := Rep.stays h1
              obtain ⟨b, ys, rfl, ks, kk⟩ := Rep.stays h2
              rw [hK] at hs hh ks kk
              exact ⟨a, b, xs, ys, rfl, hs, ks, p _ Z1 H1 x1 (by rw [hK]; exact itz_ok hh kk)⟩
            | _ => exact p.elim
          | _ => exact p.elim
end
end PL

set_option maxRecDepth 100000
set_option maxHeartbeats 4000000
namespace PL
open PySem PySem.Spec PyProof.Rows L2
set_option autoImplicit false

/-- how a statement's end is wanted -/
def PostS (c : Ct) (W : WX) (own' ownL : List Nat) (Z : ZS) (H : Hp) (D : Ends) : O → Prop
  | none => False
  | some (.nx, ρ') => ∀ Z' H' σ', Adv Z H Z' H' → SE c own' Z' H' σ' ρ' → D.nx σ' H'
  | some (.ct, ρ') => ∀ Z' H' σ', Adv Z H Z' H' → SE c ownL Z' H' σ' ρ' → D.ct σ' H'
  | some (.bk, ρ') => ∀ Z' H' σ', Adv Z H Z' H' → SE c ownL Z' H' σ' ρ' → D.bk σ' H'
  | some (.rt d, _) => ∀ v Z' H', Adv Z H Z' H' → Ext c.Z0 c.H0 Z' H' → Rep c.K Z' H' v d → D.rt v H'
  | some (.ex x, ρ') => ∀ Z' H' σ', Adv Z H Z' H' → SE c [] Z' H' σ' ρ' → W (.ref (c.EC x)) none σ' H'
def qS (c : Ct) (W : WX) (own own' ownL : List Nat) (m : SM) : TS := fun D σ H => ∃ Z ρ, SE c own Z H σ ρ ∧ PostS c W own' ownL Z H D (m ρ)

section
variable {c : Ct} {W : WX} {own own' own1 own2 ownL : List Nat} {Z Z' : ZS} {H H' : Hp} {σ : St} {ρ : Env} {D D' : Ends} {o : O}
theorem PostS.move (a : Adv Z H Z' H') (h : PostS c W own' ownL Z H D o) : PostS c W own' ownL Z' H' D o := by
  match o, h with
  | some (.nx, ρ'), h => exact fun Z2 H2 σ2 x S => h Z2 H2 σ2 (a.trans x) S
  | some (.ct, ρ'), h => exact fun Z2 H2 σ2 x S => h Z2 H2 σ2 (a.trans x) S
  | some (.bk, ρ'), h => exact fun Z2 H2 σ2 x S => h Z2 H2 σ2 (a.trans x) S
  | some (.rt d, ρ'), h => exact fun v Z2 H2 x e r => h v Z2 H2 (a.trans x) e r
  | some (.ex y, ρ'), h => exact fun Z2 H2 σ2 x S => h Z2 H2 σ2 (a.trans x) S
/-- an own error out of an expression -/
theorem PostS.exc (S : SE c own Z H σ ρ) {x : Nat} (h : PostS c W own' ownL Z H D (some (.ex x, ρ))) : PX c W Z H σ x := fun Z1 H1 e => by
  obtain ⟨Z2, a2, S2⟩ := (S.move e).drop (own' := []) (fun _ z => absurd z (by simp))
  exact h Z2 H1 σ (e.adv.trans a2) S2
theorem PostS.lft {α : Type} {r : R α} {k : α → O} (S : SE c own Z H σ ρ) (h : PostS c W own' ownL Z H D (lft r ρ k)) : Post r (fun a => PostS c W own' ownL Z H D (k a)) (PX c W Z H σ) := by
  cases r with
  | ok a => exact h
  | exc x => exact PostS.exc S h
  | bad => exact h
theorem PostS.gok {r : R Env} {k : Env → O} (h : PostS c W own' ownL Z H D (gok r k)) : Post r (fun a => PostS c W own' ownL Z H D (k a)) (fun _ => False) := by
  cases r with
  | ok a => exact h
  | exc x => exact h
  | bad => exact h
theorem PostS.nx_of (n : D.nx = D'.nx ∨ True) : True := trivial
end

section
variable {X : Cx} {c : Ct} {W : WX} {own own' own1 own2 ownL ts : List Nat} {e a b tg iter : Expr} {st : Stmt} {sts : List Stmt} {m : EM} {t : TM} {s s1 s2 : SM} {g : GM} {src : LM} {pos : Pos} {k : Kd} {i : Nat} {x : Str}
theorem qs_nil : PSs X [] (qS c W own own ownL sSkip) := pss_nil.imp fun D σ H ⟨Z, ρ, S, p⟩ => p Z H σ .refl S
theorem qs_pass : PS X (.Pass pos) (qS c W own own ownL sSkip) := ps_pass.imp fun D σ H ⟨Z, ρ, S, p⟩ => p Z H σ .refl S
theorem qs_doc {x : Str} {j : Nat} {p2 : Pos} : PS X (.Expr (.Constant (.str x) j p2) pos) (qS c W own own ownL sSkip) := ps_doc.imp fun D σ H ⟨Z, ρ, S, p⟩ => p Z H σ .refl S
theorem qs_cons (h1 : PS X st (qS c W own own1 ownL s1)) (h2 : PSs X sts (qS c W own1 own' ownL s2)) : PSs X (st :: sts) (qS c W own own' ownL (sSeq s1 s2)) := (pss_cons h1 h2).imp fun D σ H ⟨Z, ρ, S, p⟩ => by
  refine ⟨Z, ρ, S, ?_⟩
  unfold sSeq at p
  split at p
  · rename_i ρ1 q
    rw [q]
    exact fun Z1 H1 σ1 ad S1 => ⟨Z1, ρ1, S1, p.move ad⟩
  · rename_i r q
    match hr : s1 ρ with
    | none => rw [hr] at p; exact p
    | some (.nx, ρ') => exact absurd hr (q ρ')
    | some (.ct, ρ') => rw [hr] at p; exact p
    | some (.bk, ρ') => rw [hr] at p; exact p
    | some (.rt d, ρ') => rw [hr] at p; exact p
    | some (.ex y, ρ') => rw [hr] at p; exact p
theorem qs_one (h1 : PS X st (qS c W own own' ownL s1)) : PSs X [st] (qS c W own own' ownL s1) := pss_one h1
/-- fewer own slots behind -/
theorem qs_weak (h : PSs X sts (qS c W own own1 ownL s)) (hs : ∀ i ∈ own', i ∈ own1) : PSs X sts (qS c W own own' ownL s) := h.imp fun D σ H ⟨Z, ρ, S, p⟩ => ⟨Z, ρ, S, by
  match hr : s ρ with
  | none => rw [hr] at p; exact p
  | some (.nx, ρ') =>
    rw [hr] at p
    exact fun Z1 H1 σ1 ad S1 => by
      obtain ⟨Z2, a2, S2⟩ := S1.drop hs
      exact p Z2 H1 σ1 (ad.trans a2) S2
  | some (.ct, ρ') => rw [hr] at p; exact p
  | some (.bk, ρ') => rw [hr] at p; exact p
  | some (.rt d, ρ') => rw [hr] at p; exact p
  | some (.ex y, ρ') => rw [hr] at p; exact p⟩
/-- fewer own slots ahead -/
theorem qs_pre (h : PSs X sts (qS c W own own' ownL s)) (hs : ∀ i ∈ own, i ∈ own1) : PSs X sts (qS c W own1 own' ownL s) := h.imp fun D σ H ⟨Z, ρ, S, p⟩ => by
  obtain ⟨Z2, a2, S2⟩ := S.drop hs
  exact ⟨Z2, ρ, S2, p.move a2⟩
theorem qs_pre1 (h : PS X st (qS c W own own' ownL s)) (hs : ∀ i ∈ own, i ∈ own1) : PS X st (qS c W own1 own' ownL s) := h.imp fun D σ H ⟨Z, ρ, S, p⟩ => by
  obtain ⟨Z2, a2, S2⟩ := S.drop hs
  exact ⟨Z2, ρ, S2, p.move a2⟩
theorem qs_asg (he : PE X e (qE c W own .frz m)) (hg : PG X tg (qG c own own' ts g)) (hs : swapsWithSole [tg] e pos.line X.env = pure false := by rfl) (hw : swappedStores [tg] e X.env = pure none := by rfl) (h1 : (assignEach [tg] X.env).map (·.2) = [assign tg X.env] := by rfl) : PS X (.Assign [tg] e pos) (qS c W own own' ownL (sAsg g m)) := (ps_asg he hg hs hw h1).imp fun D σ H ⟨Z, ρ, S, p⟩ =>
  ⟨Z, ρ, S, (PostS.lft S p).imp (fun d p1 v Z1 H1 x1 hv => ⟨Z1, ρ, d, S.move x1, hv, (PostS.gok p1).imp (fun ρ1 q σ1 _ S1 => q Z1 H1 σ1 x1.adv S1) fun _ q => q⟩) fun _ q => q⟩
theorem own_there {Z : ZS} {H : Hp} {σ : St} {ρ : Env} (S : SE c own Z H σ ρ) : ∀ j ∈ own, ∀ a, σ[j]? = some (some (.ref a)) → H a ≠ none := fun j hj a e => by
  obtain ⟨b, d, e1, e2, _, _, t⟩ := S.ow j hj
  rw [e] at e2
  cases e2
  obtain ⟨o, ho⟩ := t.there
  rw [ho]
  exact fun z => by cases z
theorem qs_new (hN : X.N.Nodup) (hi : X.N[i]? = some x) (hx : Loc X.env.scope x) (hf : X.fn x = true ∨ X.env.scope.names.lookup x = some .local) {p2 : Pos} (he : PE X e (qE c W own .new m)) (hs : swapsWith e (some (.Name x p2)) pos.line X.env = pure false := by rfl) (ho : own' = i :: own.filter (· != i)) :
    PS X (.Assign [.Name x p2] e pos) (qS c W own own' ownL (sNew i m)) := by
  subst ho
  refine (ps_set hN hi hx he hs hf).imp fun D σ H ⟨Z, ρ, S, p⟩ => ⟨Z, ρ, S, (PostS.lft S p).imp (fun d p1 v Z1 H1 x1 hv => ?_) fun _ q => q⟩
  have key : ∀ (hb : isBox d = true) (hl : i < ρ.length), SE c (i :: own.filter (· != i)) Z1 H1 (σ.set i (some v)) (ρ.set i (some d)) := fun hb hl => (S.move x1).setN hv hb hl S.ext.same (own_there S)
  cases d with
  | lst ys =>
    dsimp only at p1
    split at p1
    · rename_i hl; exact p1 Z1 H1 _ x1.adv (key rfl hl)
    · exact p1.elim
  | dic ys =>
    dsimp only at p1
    split at p1
    · rename_i hl; exact p1 Z1 H1 _ x1.adv (key rfl hl)
    · exact p1.elim
  | _ => exact p1.elim
theorem qs_drop (he : PE X e (qE c W own k m)) (hs : swapsWith e none pos.line X.env = pure false := by rfl) : PS X (.Expr e pos) (qS c W own own ownL (sDrop m)) := (ps_expr he hs).imp fun D σ H ⟨Z, ρ, S, p⟩ =>
  ⟨Z, ρ, S, (PostS.lft S p).imp (fun d p1 v Z1 H1 x1 hv => p1 Z1 H1 σ x1.adv (S.move x1)) fun _ q => q⟩
theorem qs_ret (he : PE X e (qE c W own .frz m)) : PS X (.Return (some e) pos) (qS c W own own' ownL (sRet m)) := (ps_ret he).imp fun D σ H ⟨Z, ρ, S, p⟩ =>
  ⟨Z, ρ, S, (PostS.lft S p).imp (fun d p1 v Z1 H1 x1 hv => p1 v Z1 H1 x1.adv (S.ext.trans x1) hv) fun _ q => q⟩
theorem qs_retN : PS X (.Return none pos) (qS c W own own' ownL (sRet (eC .non))) := ps_retN.imp fun D σ H ⟨Z, ρ, S, p⟩ => p .non Z H .refl S.ext .non
theorem qs_brk (h : ∀ i ∈ ownL, i ∈ own) : PS X (.Break pos) (qS c W own own' ownL sBrk) := ps_break.imp fun D σ H ⟨Z, ρ, S, p⟩ => by
  obtain ⟨Z2, a2, S2⟩ := S.drop h
  exact p Z2 H σ a2 S2
theorem qs_cnt (h : ∀ i ∈ ownL, i ∈ own) : PS X (.Continue pos) (qS c W own own' ownL sCnt) := ps_continue.imp fun D σ H ⟨Z, ρ, S, p⟩ => by
  obtain ⟨Z2, a2, S2⟩ := S.drop h
  exact p Z2 H σ a2 S2
theorem qs_if {sa sb : List Stmt} (hc : PT X e (qT c W own t)) (ha : PSs X sa (qS c W own own' ownL s1)) (hb : PSs X sb (qS c W own own' ownL s2)) : PS X (.If e sa sb pos) (qS c W own own' ownL (sIf t s1 s2)) := (ps_if hc ha hb).imp fun D σ H ⟨Z, ρ, S, p⟩ =>
  ⟨Z, ρ, S, (PostS.lft S p).imp (fun b p1 Z1 H1 x1 => by
    cases b with
    | true => exact ⟨Z1, ρ, S.move x1, PostS.move x1.adv p1⟩
    | false => exact ⟨Z1, ρ, S.move x1, PostS.move x1.adv p1⟩) fun _ q => q⟩

/-! ### loops -/
/-- the body's end within the loop, from the loop's end behind the items left -/
theorem loop_body {ownX : List Nat} {Z : ZS} {H : Hp} {D : Ends} {N : St → Hp → Prop} {o : O} {rest : SM} (h : PostS c W own' ownX Z H D (match o with
    | some (.nx, ρ2) => rest ρ2
    | some (.ct, ρ2) => rest ρ2
    | some (.bk, ρ2) => some (.nx, ρ2)
    | q => q)) (hN : ∀ ρ2 Z2 H2 σ2, Adv Z H Z2 H2 → SE c own' Z2 H2 σ2 ρ2 → PostS c W own' ownX Z2 H2 D (rest ρ2) → N σ2 H2) : PostS c W own' own' Z H { D with nx := N, ct := N, bk := D.nx } o := by
  match o, h with
  | some (.nx, ρ'), h => exact fun Z2 H2 σ2 a S => hN ρ' Z2 H2 σ2 a S (PostS.move a h)
  | some (.ct, ρ'), h => exact fun Z2 H2 σ2 a S => hN ρ' Z2 H2 σ2 a S (PostS.move a h)
  | some (.bk, ρ'), h => exact h
  | some (.rt d, ρ'), h => exact h
  | some (.ex y, ρ'), h => exact h
theorem qs_for {ownX : List Nat} {body : List Stmt} (hp : PassesOwn (model X.prog X.w) X.A X.env X.xe) (hc : X.calm = true) (hi : PI X tg iter (qI c W own src)) (hL : ∀ i ∈ own', i ∈ own) (hg : PG X tg (qG c own' own1 ts g)) (hb : PSs X body (qS c W own1 own' own' s))
    (hs : ∀ x, foldedSetIterable iter X.env x = pure x := by intro _; rfl) (hK : c.K = X.K) : PS X (.For tg iter body [] pos) (qS c W own own' ownX (sFor src g s)) := (ps_for hp hc hi hg hb hs).imp fun D σ H ⟨Z, ρ, S, p⟩ => by
  refine ⟨Z, ρ, S, (PostS.lft S p).imp (fun ds p1 J Z1 H1 x1 it => ?_) fun _ q => q⟩
  obtain ⟨Z1', a1, S1⟩ := (S.move x1).drop hL
  have p1 := PostS.move (x1.adv.trans a1) p1
  refine ⟨fun i m σ' H' => ∃ Z' ρ', Adv Z1' H1 Z' H' ∧ SE c own' Z' H' σ' ρ' ∧ i + m = ds.length ∧ PostS c W own' ownX Z' H' D (forL g s (ds.drop i) ρ'), ⟨ds.length, Z1', ρ, .refl, S1, by omega, by rw [List.drop_zero]; exact p1⟩, ?_⟩
  rintro i m σ' H' ⟨Z', ρ', ad, S', hm, p2⟩
  obtain ⟨h1, h2⟩ := it Z' H' (a1.trans ad) S'.trk i
  cases e : ds[i]? with
  | none =>
    have hl : ds.length ≤ i := List.getElem?_eq_none_iff.mp e
    rw [List.drop_of_length_le hl] at p2
    exact .inl ⟨h2 hl, p2 Z' H' σ' .refl S'⟩
  | some d =>
    obtain ⟨hlt, hd⟩ := List.getElem?_eq_some_iff.mp e
    rw [List.drop_eq_getElem_cons hlt, hd] at p2
    obtain ⟨go, yld⟩ := h1 d e
    refine .inr ⟨go, fun σ2 H2 => ∃ Z2 ρ2, Adv Z1' H1 Z2 H2 ∧ SE c own' Z2 H2 σ2 ρ2 ∧ PostS c W own' ownX Z2 H2 D (forL g s (ds.drop (i + 1)) ρ2), fun σ2 H2 ⟨Z2, ρ2, b1, b2, b3⟩ => ⟨m - 1, by omega, Z2, ρ2, b1, b2, by omega, b3⟩, fun x H2 y => ?_⟩
    obtain ⟨Z2, x2, rx⟩ := yld x H2 y
    have p3 : PostS c W own' ownX Z' H' D (gok (g d ρ') fun ρ1 => match s ρ1 with
      | some (.nx, ρ2) => forL g s (ds.drop (i + 1)) ρ2
      | some (.ct, ρ2) => forL g s (ds.drop (i + 1)) ρ2
      | some (.bk, ρ2) => some (.nx, ρ2)
      | q => q) := p2
    refine ⟨Z2, ρ', d, S'.move x2, rx, (PostS.gok p3).imp (fun ρ1 q σ1 _ Sg => ⟨Z2, ρ1, Sg, ?_⟩) fun _ q => q⟩
    refine loop_body (rest := forL g s (ds.drop (i + 1))) (PostS.move x2.adv q) fun ρ2 Z3 H3 σ3 a3 S3 p4 => ⟨Z3, ρ2, (ad.trans x2.adv).trans a3, S3, p4⟩
theorem whlN_more {t : TM} {b : SM} : ∀ (n : Nat) (ρ : Env) (r : Fl × Env), whlN t b n ρ = some r → ∀ k, whlN t b (n + k) ρ = some r
  | 0, ρ, r, h, k => by cases h
  | n + 1, ρ, r, h, k => by
    rw [show n + 1 + k = (n + k) + 1 by omega]
    unfold whlN at h ⊢
    cases q : t ρ with
    | bad => rw [q] at h; exact h
    | exc x => rw [q] at h; exact h
    | ok cd =>
      rw [q] at h
      simp only [lft_ok] at h ⊢
      cases cd with
      | false => exact h
      | true =>
        simp only [if_true] at h ⊢
        match hb : b ρ with
        | none => rw [hb] at h; exact h
        | some (.nx, ρ') => rw [hb] at h; exact whlN_more n ρ' r h k
        | some (.ct, ρ') => rw [hb] at h; exact whlN_more n ρ' r h k
        | some (.bk, ρ') => rw [hb] at h; exact h
        | some (.rt d, ρ') => rw [hb] at h; exact h
        | some (.ex y, ρ') => rw [hb] at h; exact h
theorem sWhl_of {t : TM} {b : SM} {n : Nat} {ρ : Env} {r : Fl × Env} (h : whlN t b n ρ = some r) : sWhl t b ρ = some r := by
  unfold sWhl
  have ex : ∃ n, (whlN t b n ρ).isSome = true := ⟨n, by rw [h]; rfl⟩
  rw [dif_pos ex]
  cases q : whlN t b ex.choose ρ with
  | none =>
    have := ex.choose_spec
    rw [q] at this
    cases this
  | some r' =>
    have h1 := whlN_more n ρ r h ex.choose
    have h2 := whlN_more _ ρ r' q n
    rw [Nat.add_comm] at h1
    rw [h1] at h2
    exact h2.symm
theorem qs_whl {ownX : List Nat} {body : List Stmt} (hp : PassesOwn (model X.prog X.w) X.A X.env X.xe) (hL : ∀ i ∈ own', i ∈ own) (hc : PT X e (qT c W own' t)) (hb : PSs X body (qS c W own' own' own' s)) : PS X (.While e body [] pos) (qS c W own own' ownX (sWhl t s)) := (ps_while hp hc hb).imp fun D σ H ⟨Z, ρ, S, p⟩ => by
  obtain ⟨Z1, a1, S1⟩ := S.drop hL
  have p := PostS.move a1 p
  unfold sWhl at p
  split at p
  · rename_i ex
    refine ⟨fun n σ' H' => ∃ Z' ρ', SE c own' Z' H' σ' ρ' ∧ PostS c W own' ownX Z' H' D (whlN t s n ρ'), ⟨ex.choose, Z1, ρ, S1, p⟩, ?_⟩
    rintro n σ' H' ⟨Z', ρ', S', q⟩
    cases n with
    | zero => exact q.elim
    | succ n =>
      unfold whlN at q
      refine ⟨Z', ρ', S', (PostS.lft S' q).imp (fun b q1 Z2 H2 x2 => ?_) fun _ q => q⟩
      cases b with
      | false =>
        simp only [Bool.false_eq_true, if_false] at q1 ⊢
        exact q1 Z2 H2 σ' x2.adv (S'.move x2)
      | true =>
        simp only [if_true] at q1 ⊢
        refine ⟨fun σ2 H2 => ∃ Z2 ρ2, SE c own' Z2 H2 σ2 ρ2 ∧ PostS c W own' ownX Z2 H2 D (whlN t s n ρ2), fun σ2 H2 ⟨Z2, ρ2, b1, b2⟩ => ⟨n, Nat.lt_succ_self n, Z2, ρ2, b1, b2⟩, Z2, ρ', S'.move x2, ?_⟩
        exact loop_body (rest := whlN t s n) (PostS.move x2.adv q1) fun ρ2 Z3 H3 σ3 a3 S3 p4 => ⟨Z3, ρ2, S3, p4⟩
  · exact p.elim
end
end PL

set_option maxRecDepth 100000
set_option maxHeartbeats 4000000
namespace PL
open PySem PySem.Spec PyProof.Rows L2
set_option autoImplicit false

section
variable {X : Cx} {c : Ct} {W : WX} {own own' own1 own2 ownL ts : List Nat} {e a b tg iter : Expr} {st : Stmt} {sts : List Stmt} {m m2 : EM} {t : TM} {s s1 s2 : SM} {g : GM} {src : LM} {pos : Pos} {k : Kd} {i : Nat} {x : Str}
variable {Z Z' : ZS} {H H' : Hp} {σ : St} {ρ : Env} {p : Addr} {o : HO} {d : Dat}
/-- an own list or dict is changed in its place -/
theorem SE.mut (S : SE c own Z H σ ρ) (hi : i ∈ own) (hp : σ[i]? = some (some (.ref p))) (ht : Top c.K Z (upd H p o) p d) (hd : ∀ y, d ≠ .exc y) : Adv Z H Z (upd H p o) ∧ SE c own Z (upd H p o) σ (ρ.set i (some d)) := by
  obtain ⟨a, d0, e1, e2, nz, h0, t0⟩ := S.ow i hi
  have ea : a = p := by rw [hp] at e2; cases e2; rfl
  subst ea
  have hl : i < ρ.length := (List.getElem?_eq_some_iff.mp e1).1
  have ad : Adv Z H Z (upd H a o) := fun b zb => ⟨zb, fun u q => by rw [upd_ne (fun z : b = a => nz (z ▸ zb))]; exact q⟩
  refine ⟨ad, ⟨⟨S.ext.sub, fun b u q => ?_, fun b zb => ?_, S.ext.new⟩, by simp [S.len], fun j d' e n nx => ?_, fun j y e => ?_, fun j hj => ?_, S.inj⟩⟩
  · rw [upd_ne (fun z => by rw [z, h0] at q; cases q)]
    exact S.ext.same b u q
  · obtain ⟨u, q⟩ := S.ext.trk b zb
    exact ⟨u, (ad b zb).2 u q⟩
  · rw [get_set] at e
    by_cases h : i = j ∧ j < ρ.length
    · exact absurd (h.1 ▸ hi) n
    · rw [if_neg h] at e
      obtain ⟨v, hv, r⟩ := S.val j d' e n nx
      exact ⟨v, hv, r.adv ad⟩
  · rw [get_set] at e
    by_cases h : i = j ∧ j < ρ.length
    · rw [if_pos h] at e
      cases e
      exact absurd rfl (hd y)
    · rw [if_neg h] at e
      exact S.exc j y e
  · by_cases h : j = i
    · subst h
      exact ⟨a, d, by rw [get_set, if_pos ⟨rfl, hl⟩], e2, nz, h0, ht⟩
    · obtain ⟨a', d', f1, f2, g1, g2, tt⟩ := S.ow j hj
      have hne : a' ≠ a := fun z => S.inj j hj i hi h (by rw [f2, e2, z])
      refine ⟨a', d', by rw [get_set, if_neg (fun z => h z.1.symm)]; exact f1, f2, g1, g2, ?_⟩
      cases d' with
      | lst ds => obtain ⟨xs, q, r⟩ := tt; exact ⟨xs, by rw [upd_ne hne]; exact q, r.adv ad⟩
      | dic ds => obtain ⟨xs, q, r⟩ := tt; exact ⟨xs, by rw [upd_ne hne]; exact q, r.adv ad⟩
      | _ => exact tt.elim
theorem qs_app {p0 apos : Pos} (hK : c.K = X.K) (hi : i ∈ own) (hv : PE X (.Name x p0) (tVar i)) (he : PE X e (qE c W own .frz m))
    (hbase : attributeBase (.Name x p0) "append" X.env (eval (.Name x p0) X.env) = eval (.Name x p0) X.env := by rfl)
    (hfew : ((backTo pos (starEach (e :: []) X.env)).all (fun x => !x.1) && (backToKw pos (keywordEach [] X.env)).all (fun x => x.1.isSome)
      && decide ((e :: []).length + ([] : List Keyword).length + (if ([] : List Keyword).isEmpty then 0 else 1) < 30)) = true := by rfl)
    (hline : (apos.endLine == pos.line) = true := by rfl) (hst : starEach (e :: []) X.env = (false, eval e X.env) :: starEach [] X.env := by rfl) (hpl : (backTo pos (starEach [] X.env)).any (·.1) = false := by rfl) {spos : Pos}
    (hsw : swapsWith (.Call (.Attribute (.Name x p0) "append" apos) [e] [] pos) none spos.line X.env = pure false := by rfl) :
    PS X (.Expr (.Call (.Attribute (.Name x p0) "append" apos) [e] [] pos) spos) (qS c W own own ownL (sApp i m)) := (ps_expr (pe_bm PySem.F.plainAttrs_list PySem.F.slot_list_append PySem.F.type_list_append mt_append hv (qa_cons he qa_nil hst) hbase hfew hline hst hpl) hsw).imp fun D σ H ⟨Z, ρ, S, p⟩ => by
  unfold sApp at p
  split at p
  · rename_i ds eρ
    obtain ⟨l, d0, e1, e2, nz, h0, t0⟩ := S.ow i hi
    rw [eρ] at e1
    cases e1
    obtain ⟨xs, hH, hr⟩ := t0
    refine ⟨_, e2, .inl ⟨rfl, xs, .inl (.inl hH)⟩, Z, ρ, S, ?_⟩
    unfold eCons eNil
    have p := PostS.lft S p
    cases q : m ρ with
    | bad => rw [q] at p; exact p.elim
    | exc y => rw [q] at p; exact p
    | ok d =>
      rw [q] at p
      intro vs Z1 H1 x1 hvs
      have p : PostS c W own ownL Z H D (if ds.length < LINE then some (.nx, ρ.set i (some (.lst (ds ++ [d])))) else none) := p
      by_cases hz : ds.length < LINE
      · rw [if_pos hz] at p
        have S1 := S.move x1
        have hr1 := hr.adv x1.adv
        have hvr := hvs.rep
        cases hvr with
        | cons r1 r2 =>
          cases r2
          have hH1 := x1.same _ _ hH
          refine ⟨l, xs, _, rfl, rfl, hH1, by rw [hr.len, ← line_eq]; exact hz, ?_⟩
          have nl : ¬ Z1 l := fun z => by
            rcases x1.new l z with z2 | z2
            · exact nz z2
            · rw [hH] at z2; cases z2
          have ad : ∀ o, Adv Z1 H1 Z1 (upd H1 l o) := fun o b zb => ⟨zb, fun u q => by
            rw [upd_ne (fun z : b = l => nl (z ▸ zb))]
            exact q⟩
          obtain ⟨ad2, S2⟩ := S1.mut (d := .lst (ds ++ [d])) hi e2 ⟨xs ++ [_], upd_same, (hr1.adv (ad _)).append (.cons (r1.adv (ad _)) .nil)⟩ (fun y z => by cases z)
          exact p Z1 _ σ (x1.adv.trans ad2) S2
      · rw [if_neg hz] at p
        exact p.elim
  · exact p.elim
end

/-! ### comprehensions -/
theorem wipe_get : ∀ (ρ : Env) (vs : List Nat) (j : Nat), (wipe ρ vs)[j]? = if j ∈ vs ∧ j < ρ.length then some none else ρ[j]?
  | ρ, [], j => by simp [wipe]
  | ρ, v :: vs, j => by
    have hl : (wipe ρ vs).length = ρ.length := by
      clear j
      induction vs with
      | nil => rfl
      | cons v vs ih => simp [wipe, ih]
    unfold wipe
    rw [get_set, hl, wipe_get ρ vs j]
    by_cases h : v = j
    · subst h
      by_cases h2 : v < ρ.length
      · simp [h2]
      · simp [h2]
    · have h' : ¬ j = v := fun z => h z.symm
      simp [h, h']
theorem wipe_len : ∀ (ρ : Env) (vs : List Nat), (wipe ρ vs).length = ρ.length
  | ρ, [] => rfl
  | ρ, v :: vs => by simp [wipe, wipe_len ρ vs]
theorem wipeS_get : ∀ (σ : St) (vs : List Nat) (j : Nat), (L2.wipe σ vs)[j]? = if j ∈ vs ∧ j < σ.length then some none else σ[j]?
  | σ, [], j => by simp [L2.wipe]
  | σ, v :: vs, j => by
    unfold L2.wipe
    rw [get_set, L2.wipe_length, wipeS_get σ vs j]
    by_cases h : v = j
    · subst h
      by_cases h2 : v < σ.length
      · simp [h2]
      · simp [h2]
    · have h' : ¬ j = v := fun z => h z.symm
      simp [h, h']
theorem wipeS_eq {σ σ' : St} {vs : List Nat} (h : Tch vs (L2.wipe σ vs) σ') : L2.wipe σ' vs = L2.wipe σ vs := by
  obtain ⟨hl, h⟩ := h
  rw [L2.wipe_length] at hl
  apply List.ext_getElem?
  intro j
  rw [wipeS_get, wipeS_get, hl]
  by_cases hj : j ∈ vs
  · by_cases h2 : j < σ.length
    · simp [hj, h2]
    · simp only [hj, h2, and_false, if_false]
      rw [List.getElem?_eq_none (by omega), List.getElem?_eq_none (by omega)]
  · simp only [hj, false_and, if_false]
    rw [h j hj, wipeS_get]
    simp [hj]
section
variable {c : Ct} {own vs : List Nat} {Z Z' : ZS} {H H' : Hp} {σ : St} {ρ : Env} {p : Addr} {o : HO}
theorem SE.wipe (S : SE c own Z H σ ρ) (h : ∀ j ∈ vs, j ∉ own) : SE c own Z H (L2.wipe σ vs) (PL.wipe ρ vs) where
  ext := S.ext
  len := by rw [L2.wipe_length, wipe_len, S.len]
  val := fun j d e n nx => by
    rw [wipe_get] at e
    rw [wipeS_get, S.len]
    by_cases hj : j ∈ vs ∧ j < ρ.length
    · rw [if_pos hj] at e; cases e
    · rw [if_neg hj] at e ⊢; exact S.val j d e n nx
  exc := fun j x e => by
    rw [wipe_get] at e
    rw [wipeS_get, S.len]
    by_cases hj : j ∈ vs ∧ j < ρ.length
    · rw [if_pos hj] at e; cases e
    · rw [if_neg hj] at e ⊢; exact S.exc j x e
  ow := fun j hj => by
    obtain ⟨a, d, e1, e2, q⟩ := S.ow j hj
    have n : ¬ (j ∈ vs ∧ j < ρ.length) := fun z => h j z.1 hj
    refine ⟨a, d, ?_, ?_, q⟩
    · rw [wipe_get, if_neg n]; exact e1
    · rw [wipeS_get, S.len, if_neg n]; exact e2
  inj := fun j hj l hl ne => by
    rw [wipeS_get, wipeS_get, if_neg (fun z => h j z.1 hj), if_neg (fun z => h l z.1 hl)]
    exact S.inj j hj l hl ne
/-- a new object of one's own is changed -/
theorem Ext.chg (x : Ext Z H Z' H') (hp : H p = none) (n : ¬ Z' p) : Ext Z H Z' (upd H' p o) where
  sub := x.sub
  same := fun b u q => by rw [upd_ne (ne_of_none q hp)]; exact x.same b u q
  trk := fun b z => by
    obtain ⟨u, q⟩ := x.trk b z
    exact ⟨u, by rw [upd_ne (fun e : b = p => n (e ▸ z))]; exact q⟩
  new := x.new
theorem Adv.chg (n : ¬ Z p) : Adv Z H Z (upd H p o) := fun b zb => ⟨zb, fun u q => by rw [upd_ne (fun e : b = p => n (e ▸ zb))]; exact q⟩
theorem Ext.not (x : Ext Z H Z' H') (h : H p = some o) (n : ¬ Z p) : ¬ Z' p := fun z => by
  rcases x.new p z with q | q
  · exact n q
  · rw [h] at q; cases q
end
theorem noX_post {α : Type} {r : R α} {p : α → Prop} {x : Nat → Prop} (h : Post (noX r) p x) : Post r p (fun _ => False) := by
  cases r with
  | ok a => exact h
  | exc c => exact h
  | bad => exact h
abbrev W0 : WX := fun _ _ _ _ => False
section
variable {X : Cx} {c : Ct} {W : WX} {own own' vs : List Nat} {elt tg iter : Expr} {ifs : List Expr} {scope : Scope} {ob : List (Str × Nat)} {pos : Pos} {m : EM} {t : TM} {g : GM} {src : LM} {k : Kd}
/-- a clause's tests -/
theorem qts_nil : PTs X [] (qT c W own tYes) := ⟨fun pins s σ H Q I ⟨Z, ρ, S, p⟩ => pts_nil.run pins s σ H Q I (p Z H (.refl S.trk))⟩
theorem lc_read {σ : St} {H : Hp} {Q : VK} (hd : ∀ j ∈ vs, j ∉ own) (h : qE c W own .new (eComp src vs g t m) σ H Q) : tLc (qI c W own src) (qG c own own vs g) (qT c W0 own t) (qE c W0 own .frz m) vs σ H Q := by
  obtain ⟨Z, ρ, S, p⟩ := h
  refine ⟨Z, ρ, S, (Post.bnd p).imp (fun ds p1 J Z1 H1 x1 it D hD => ?_) fun _ q => q⟩
  have S1 := S.move x1
  have hl1 : Ext Z1 H1 Z1 (upd H1 D (.lst [])) := .laid x1.trk hD
  have nD1 : ¬ Z1 D := fun z => by
    obtain ⟨u, q⟩ := x1.trk D z
    rw [hD] at q; cases q
  cases hc : compL g t m (PL.wipe ρ vs) ds with
  | bad => rw [hc] at p1; exact p1.elim
  | exc y =>
    exfalso
    have : ∀ ds, compL g t m (PL.wipe ρ vs) ds ≠ .exc y := by
      intro ds
      induction ds with
      | nil => intro q; cases q
      | cons d r ih =>
        intro q
        unfold compL at q
        cases q1 : g d (PL.wipe ρ vs) with
        | ok ρ1 =>
          rw [q1] at q
          simp only [noX, PL.R.bnd_ok] at q
          cases q2 : t ρ1 with
          | ok bb =>
            rw [q2] at q
            simp only [noX, PL.R.bnd_ok] at q
            cases bb with
            | false => exact ih q
            | true =>
              simp only [if_true] at q
              cases q3 : m ρ1 with
              | ok y1 =>
                rw [q3] at q
                simp only [noX, PL.R.bnd_ok] at q
                cases q4 : compL g t m (PL.wipe ρ vs) r with
                | ok ys => rw [q4] at q; cases q
                | exc z => rw [q4] at q; exact ih (by rw [q4]; exact q)
                | bad => rw [q4] at q; cases q
              | exc z => rw [q3] at q; cases q
              | bad => rw [q3] at q; cases q
          | exc z => rw [q2] at q; cases q
          | bad => rw [q2] at q; cases q
        | exc z => rw [q1] at q; cases q
        | bad => rw [q1] at q; cases q
    exact this ds hc
  | ok total =>
    rw [hc] at p1
    obtain ⟨hlen, p2⟩ := Post.ite (b := total.length ≤ LINE) p1
    refine ⟨fun i mm H' => ∃ Z' acc ys rest, Ext Z1 H1 Z' H' ∧ ¬ Z' D ∧ H' D = some (.lst acc) ∧ RepA c.K Z' H' acc ys ∧ i + mm = ds.length ∧ compL g t m (PL.wipe ρ vs) (ds.drop i) = .ok rest ∧ total = ys ++ rest,
      ⟨ds.length, Z1, [], [], total, hl1, nD1, upd_same, .nil, by omega, by rw [List.drop_zero]; exact hc, rfl⟩, ?_⟩
    rintro i mm H' ⟨Z', acc, ys, rest, x2, nD, hH, hr, hm, hcr, ht⟩
    obtain ⟨h1, h2⟩ := it Z' H' x2.adv x2.trk i
    cases e : ds[i]? with
    | none =>
      have hl : ds.length ≤ i := List.getElem?_eq_none_iff.mp e
      rw [List.drop_of_length_le hl] at hcr
      cases hcr
      rw [List.append_nil] at ht
      subst ht
      refine .inl ⟨h2 hl, p2 (.ref D) Z' H' (x1.trans x2) ⟨fun _ => ⟨D, rfl, nD, x1.same.free hD, acc, hH, hr⟩, fun z => by cases z⟩⟩
    | some d =>
      obtain ⟨hlt, hdd⟩ := List.getElem?_eq_some_iff.mp e
      rw [List.drop_eq_getElem_cons hlt, hdd] at hcr
      obtain ⟨go, yld⟩ := h1 d e
      refine .inr ⟨go, fun H3 => ∃ Z3 acc ys rest, Ext Z1 H1 Z3 H3 ∧ ¬ Z3 D ∧ H3 D = some (.lst acc) ∧ RepA c.K Z3 H3 acc ys ∧ compL g t m (PL.wipe ρ vs) (ds.drop (i + 1)) = .ok rest ∧ total = ys ++ rest,
        fun H3 ⟨Z3, acc3, ys3, rest3, q1, q2, q3, q4, q5, q6⟩ => ⟨mm - 1, by omega, Z3, acc3, ys3, rest3, q1, q2, q3, q4, by omega, q5, q6⟩, fun x H2 y => ?_⟩
      obtain ⟨Z2, xx, rx⟩ := yld x H2 y
      have S2 := ((S1.move x2).move xx).wipe (vs := vs) hd
      have nD2 : ¬ Z2 D := xx.not hH nD
      have hH2 := xx.same _ _ hH
      have hr2 := hr.adv xx.adv
      have x12 := x2.trans xx
      -- the turn of the mirror
      unfold compL at hcr
      have P0 : Post ((noX (g d (PL.wipe ρ vs))).bnd fun ρ' => (noX (t ρ')).bnd fun b => if b then (noX (m ρ')).bnd fun y => (compL g t m (PL.wipe ρ vs) (ds.drop (i + 1))).bnd fun ys => .ok (y :: ys) else compL g t m (PL.wipe ρ vs) (ds.drop (i + 1))) (fun z => z = rest) (fun _ => False) := by
        rw [hcr]
        rfl
      refine ⟨Z2, PL.wipe ρ vs, d, S2, rx, (noX_post (Post.bnd P0)).imp (fun ρ1 P1 σ1 tch Sg => ⟨wipeS_eq tch, ?_⟩) fun _ q => q⟩
      · refine ⟨Z2, ρ1, Sg, (noX_post (Post.bnd P1)).imp (fun b P2 Z4 H4 x4 => ?_) fun _ q => q.elim⟩
        cases b with
        | false =>
          simp only [Bool.false_eq_true, if_false] at P2 ⊢
          cases q : compL g t m (PL.wipe ρ vs) (ds.drop (i + 1)) with
          | ok r2 =>
            rw [q] at P2
            have P2 : r2 = rest := P2
            subst P2
            exact ⟨Z4, acc, ys, r2, x12.trans x4, x4.not hH2 nD2, x4.same _ _ hH2, hr2.adv x4.adv, rfl, ht⟩
          | exc z => rw [q] at P2; exact P2.elim
          | bad => rw [q] at P2; exact P2.elim
        | true =>
          simp only [if_true] at P2 ⊢
          refine ⟨Z4, ρ1, Sg.move x4, (noX_post (Post.bnd P2)).imp (fun y1 P3 v Z5 H5 x5 hv => ?_) fun _ q => q.elim⟩
          have P3 := Post.bnd P3
          cases q : compL g t m (PL.wipe ρ vs) (ds.drop (i + 1)) with
          | ok r2 =>
            rw [q] at P3
            have P3 : y1 :: r2 = rest := P3
            subst P3
            have x45 := x4.trans x5
            have hH5 := x45.same _ _ hH2
            have nD5 := x45.not hH2 nD2
            have al : acc.length < sizeLine := by
              rw [hr.len, ← line_eq]
              have hl2 := congrArg List.length ht
              rw [List.length_append, List.length_cons] at hl2
              omega
            refine ⟨acc, hH5, al, Z5, acc ++ [v], ys ++ [y1], r2, (x12.trans x45).chg hD nD5, nD5, upd_same, ?_, rfl, by rw [ht]; simp⟩
            exact ((hr2.adv x45.adv).adv (.chg nD5)).append (.cons (Rep.adv (.chg nD5) hv) .nil)
          | exc z => rw [q] at P3; exact P3.elim
          | bad => rw [q] at P3; exact P3.elim
theorem q_lc (hc : X.calm = true) (hN : X.N.Nodup) (hi : PI X tg iter (qI c W own src)) (ok : BlkOk X.N X.env.scope scope ob) (hv : ob.map (·.2) = vs) (hd : ∀ j ∈ vs, j ∉ own)
    (hg : ∀ (s : Shared) (H : Hp) (C : Addr) (cl : List (Str × Addr)) (fp : List Addr), PG (X.blk s H scope (compEnvC scope cl C X.env) fp) tg (qG c own own vs g)) (ht : ∀ (s : Shared) (H : Hp) (C : Addr) (cl : List (Str × Addr)) (fp : List Addr), PTs (X.blk s H scope (compEnvC scope cl C X.env) fp) ifs (qT c W0 own t))
    (he : ∀ (s : Shared) (H : Hp) (C : Addr) (cl : List (Str × Addr)) (fp : List Addr), PE (X.blk s H scope (compEnvC scope cl C X.env) fp) elt (qE c W0 own .frz m)) (hs : ∀ x, foldedSetIterable iter X.env x = pure x := by intro _; rfl) :
    PE X (.ListComp elt [⟨tg, iter, ifs, 0⟩] scope pos) (qE c W own .new (eComp src vs g t m)) := by
  have h := pe_lc (pos := pos) hc hN hi ok hg ht he hs
  rw [hv] at h
  exact h.imp fun σ H Q hq => lc_read hd hq
theorem qs_setLc {i : Nat} {y : Str} {py spos : Pos} {ownL : List Nat} (hc : X.calm = true) (hN : X.N.Nodup) (hy : X.N[i]? = some y) (hyl : X.env.scope.names.lookup y = some .local)
    (hsw : swapsWith (.ListComp elt [⟨tg, iter, ifs, 0⟩] scope pos) (some (.Name y py)) spos.line X.env = pure true) (hi : PI X tg iter (qI c W own src)) (ok : BlkOk X.N X.env.scope scope ob) (hv : ob.map (·.2) = vs) (hd : ∀ j ∈ vs, j ∉ own)
    (hg : ∀ (s : Shared) (H : Hp) (C : Addr) (cl : List (Str × Addr)) (fp : List Addr), PG (X.blk s H scope (compEnvC scope cl C X.env) fp) tg (qG c own own vs g)) (ht : ∀ (s : Shared) (H : Hp) (C : Addr) (cl : List (Str × Addr)) (fp : List Addr), PTs (X.blk s H scope (compEnvC scope cl C X.env) fp) ifs (qT c W0 own t))
    (he : ∀ (s : Shared) (H : Hp) (C : Addr) (cl : List (Str × Addr)) (fp : List Addr), PE (X.blk s H scope (compEnvC scope cl C X.env) fp) elt (qE c W0 own .frz m)) (hs : ∀ x, foldedSetIterable iter X.env x = pure x := by intro _; rfl) (ho : own' = i :: own.filter (· != i)) :
    PS X (.Assign [.Name y py] (.ListComp elt [⟨tg, iter, ifs, 0⟩] scope pos) spos) (qS c W own own' ownL (sNew i (eComp src vs g t m))) := by
  subst ho
  have h := ps_setLc (pos := pos) hc hN hy hyl hsw hi ok hg ht he hs
  rw [hv] at h
  refine h.imp fun D σ H ⟨Z, ρ, S, p⟩ => ?_
  show tLc _ _ _ _ _ σ H fun x H1 => gName i x σ H1 D.nx
  refine lc_read hd ⟨Z, ρ, S, (PostS.lft S p).imp (fun d p1 v Z1 H1 x1 hv => ?_) fun _ q => q⟩
  have key : ∀ (hb : isBox d = true) (hl : i < ρ.length), SE c (i :: own.filter (· != i)) Z1 H1 (σ.set i (some v)) (ρ.set i (some d)) := fun hb hl => (S.move x1).setN hv hb hl S.ext.same (own_there S)
  cases d with
  | lst ys =>
    dsimp only at p1
    split at p1
    · rename_i hl; exact p1 Z1 H1 _ x1.adv (key rfl hl)
    · exact p1.elim
  | dic ys =>
    dsimp only at p1
    split at p1
    · rename_i hl; exact p1 Z1 H1 _ x1.adv (key rfl hl)
    · exact p1.elim
  | _ => exact p1.elim
end

/-! ### raise -/
section
variable {X : Cx} {c : Ct} {W : WX} {own own' ownL : List Nat} {n : Nat}
theorem qs_raise {x m : Str} {j : Nat} {p p2 pos pos2 : Pos} {bmB : List Value} {B newId initId : String} (hc : X.calm = true) (tk : Takes X W) (F : ExcBaseFacts B newId initId bmB) (q : PySem.W.excIn X.K (c.EC n) bmB newId = true) (gC : X.mg x = some (.ref (c.EC n))) (kC : PySem.W.keepIn X.K (.ref (c.EC n)) = true) (r : Raises X (.ref (c.EC n))) (hg : Gl X x)
    (hdb : (x == ("__debug__" : Str)) = false) : PS X (.Raise (some (.Call (.Name x p) [.Constant (.str m) j p2] [] pos)) none pos2) (qS c W own own' ownL (sRaise n)) := (ps_raise hc tk (pmk_own F q gC kC r hg hdb)).imp fun D σ H ⟨Z, ρ, S, p⟩ => by
  obtain ⟨Z2, a2, S2⟩ := S.drop (own' := []) (fun _ z => absurd z (by simp))
  exact p Z2 H σ a2 S2
end

/-! ### a def -/
section
variable {P : Program} {w : World} {K : KF} {mg : Str → Option Value} {base : Heap}
theorem start_get {N : List Str} {vs : List V} {ds : List Dat} {Z : ZS} {H : Hp} {K : KF} (r : RepA K Z H vs ds) (hl : vs.length ≤ N.length) (i : Nat) (d : Dat) (e : (ds.map some ++ List.replicate (N.length - ds.length) none)[i]? = some (some d)) : ∃ v, (L2.start N vs)[i]? = some (some v) ∧ Rep K Z H v d := by
  have hl2 := r.len
  by_cases h : i < ds.length
  · rw [List.getElem?_append_left (by simpa using h), List.getElem?_map] at e
    obtain ⟨d', e1, e2⟩ := Option.map_eq_some_iff.mp e
    cases e2
    obtain ⟨v, ev, rv⟩ := r.get e1
    refine ⟨v, ?_, rv⟩
    unfold L2.start
    rw [List.getElem?_append_left (by simp; omega), List.getElem?_map, ev]
    rfl
  · rw [List.getElem?_append_right (by simp; omega), List.getElem?_replicate] at e
    split at e <;> cases e
/-- THE RULE: a def does what its mirror says, if its body does -/
theorem fn_ok {x qual : Str} {st : Stmt} {f : Addr} {fd : FuncData} {N ps : List Str} {k n : Nat} {EC : Nat → Addr} {b : SM} {own' : List Nat} (F : Fun K x qual st f fd) (Sc : FnScope N ps (defScope st)) (hn : ps.length = n) (hN : ps.length ≤ N.length)
    (hb : ∀ (cdv : Value) (A : Around) (outer : List PySem.Env) (s : Shared) (H : Hp) (E : XK) (Z : ZS), Room k (A.deeper (envOfC qual (defScope st) s.heap.objs.size f cdv)) →
      PSs (cxOf (L2.CX P w) P w K mg base N qual (defScope st) f cdv A outer s H E) (defBody st) (qS ⟨K, EC, Z, H, none⟩ (fun cls d _ H' => E cls d H') [] own' [] b)) :
    FnOk P w K mg base (L2.CX P w) (k + 1) f fd ps (spM K EC n (run N.length b)) := by
  refine F.okX Sc (fun vs H Q E h => by rw [hn]; exact h.1) (fun cdv A outer s H vs Q E hr h => ?_)
  obtain ⟨hl, Z, ds, tr, r, p⟩ := h
  refine ⟨_, hb cdv A outer s H E Z hr, Z, ds.map some ++ List.replicate (N.length - ds.length) none, ⟨.refl tr, ?_, fun i d e _ _ => start_get r (by omega) i d e, fun i y e => ?_, fun i hi => absurd hi (by simp), fun i hi => absurd hi (by simp)⟩, ?_⟩
  · have := r.len
    unfold L2.start
    simp
    omega
  · obtain ⟨v, _, rv⟩ := start_get r (by omega) i _ e
    cases rv
  · unfold run at p
    match hq : b (ds.map some ++ List.replicate (N.length - ds.length) none) with
    | none => rw [hq] at p; exact p.elim
    | some (.nx, ρ') =>
      rw [hq] at p
      exact fun Z' H' σ' ad S => p .non Z' H' S.ext .non
    | some (.rt d, ρ') =>
      rw [hq] at p
      exact fun v Z' H' ad e r => p v Z' H' e r
    | some (.ex y, ρ') =>
      rw [hq] at p
      exact fun Z' H' σ' ad S => p Z' H' S.ext
    | some (.bk, ρ') => rw [hq] at p; exact p.elim
    | some (.ct, ρ') => rw [hq] at p; exact p.elim
end
end PL

set_option maxRecDepth 100000
set_option maxHeartbeats 4000000
namespace PL
open PySem PySem.Spec PyProof.Rows L2
set_option autoImplicit false

/-! ### no own error out of these -/
theorem nx_add : NoX2 addD := fun d e x h => by cases d <;> cases e <;> simp only [addD] at h <;> first | cases h | (split at h <;> cases h)
theorem nx_sub : NoX2 subD := fun d e x h => by cases d <;> cases e <;> simp only [subD] at h <;> first | cases h | (split at h <;> cases h)
theorem nx_mul : NoX2 mulN := fun d e x h => by cases d <;> cases e <;> simp only [mulN] at h <;> first | cases h | (split at h <;> cases h)
theorem nx_fdiv : NoX2 fdivD := fun d e x h => by cases d <;> cases e <;> simp only [fdivD] at h <;> first | cases h | (split at h <;> cases h)
theorem nx_mod : NoX2 modD := fun d e x h => by cases d <;> cases e <;> simp only [modD] at h <;> first | cases h | (split at h <;> cases h)
theorem nx_pow : NoX2 powD := fun d e x h => by cases d <;> cases e <;> simp only [powD] at h <;> first | cases h | (split at h <;> cases h)
theorem nx_neg : NoX1 negD := fun d x h => by cases d <;> cases h
theorem nx_lt : NoX2 ltN := fun d e x h => by cases d <;> cases e <;> cases h
theorem nx_le : NoX2 leD := fun d e x h => by cases d <;> cases e <;> cases h
theorem nx_gt : NoX2 gtD := fun d e x h => by cases d <;> cases e <;> cases h
theorem nx_ge : NoX2 geD := fun d e x h => by cases d <;> cases e <;> cases h
theorem nx_eq : NoX2 eqD := fun d e x h => by unfold eqD at h; split at h <;> cases h
theorem nx_ne : NoX2 neD := fun d e x h => by unfold neD at h; split at h <;> cases h
theorem nx_in : NoX2 inD := fun d e x h => by unfold inD at h; split at h <;> first | cases h | (split at h <;> cases h)
theorem nx_notIn : NoX2 notInD := fun d e x h => by
  unfold notInD at h
  cases q : inD d e with
  | ok z => rw [q] at h; exact nx_not z x h
  | exc y => exact nx_in d e y q
  | bad => rw [q] at h; cases h
theorem nx_idx : NoX2 idxD := fun d e x h => by
  unfold idxD at h
  split at h <;> first | cases h | (split at h <;> first | cases h | (split at h <;> cases h))

section
variable {X : Cx} {c : Ct} {W : WX} {own : List Nat} {a b : Expr} {m m1 m2 : EM} {pos : Pos} {k k1 k2 : Kd}
/-! ### the operators -/
theorem q_add (hK : c.K = X.K) (ha : PE X a (qE c W own .sh m1)) (hb : PE X b (qE c W own .sh m2)) : PE X (.BinOp a .Add b pos) (qE c W own .new (e2 addD m1 m2)) := q_bin ha hb (fun _ _ h k => pe_op opU_add h k) (by rw [hK]; exact o2_add) nx_add
theorem q_sub (ha : PE X a (qE c W own .sh m1)) (hb : PE X b (qE c W own .sh m2)) : PE X (.BinOp a .Sub b pos) (qE c W own .new (e2 subD m1 m2)) := q_bin ha hb (fun _ _ h k => pe_op op_sub h k) o2_sub nx_sub
theorem q_fdiv (ha : PE X a (qE c W own .sh m1)) (hb : PE X b (qE c W own .sh m2)) : PE X (.BinOp a .FloorDiv b pos) (qE c W own .new (e2 fdivD m1 m2)) := q_bin ha hb (fun _ _ h k => pe_op op_fdiv h k) o2_fdiv nx_fdiv
theorem q_mod (ha : PE X a (qE c W own .sh m1)) (hb : PE X b (qE c W own .sh m2)) : PE X (.BinOp a .Mod b pos) (qE c W own .new (e2 modD m1 m2)) := q_bin ha hb (fun _ _ h k => pe_op op_mod h k) o2_mod nx_mod
theorem q_pow (ha : PE X a (qE c W own .sh m1)) (hb : PE X b (qE c W own .sh m2)) : PE X (.BinOp a .Pow b pos) (qE c W own .new (e2 powD m1 m2)) := q_bin ha hb (fun _ _ h k => pe_op op_pow h k) o2_pow nx_pow
theorem o1_neg {K : KF} : Op1 K (rU fun i => .int (-i)) .sh .new negD := by
  intro Z H Hs v d Q t s hv p
  cases hv with
  | int i => exact ⟨i, rfl, Wnt.int t p⟩
  | _ => exact False.elim p
theorem q_neg (ha : PE X a (qE c W own .sh m)) : PE X (.UnaryOp .USub a pos) (qE c W own .new (e1 negD m)) := q_un ha (fun _ h => pe_un un_neg h) o1_neg nx_neg
/-! ### comparisons -/
theorem q_cmp {op : CmpOp} {r : R2} {f : Dat → Dat → R Dat} (ha : PE X a (qE c W own k1 m1)) (hb : PE X b (qE c W own k2 m2)) (ho : OpR X (compareOp op) r) (hm : behindInMarks op b = false) (h2 : Op2 c.K r k1 k2 k f) (nx : NoX2 f) : PE X (.Compare a [op] [b] pos) (qE c W own k (e2 f m1 m2)) :=
  q_bin ha hb (fun _ _ h k => pe_cmpR ho h k hm) h2 nx
/-- a comparison: the operator's rule, its meaning -/
structure CmpOk (X : Cx) (K : KF) (op : CmpOp) (f : Dat → Dat → R Dat) : Prop where
  ok : ∃ r, OpR X (compareOp op) r ∧ Op2 K r .sh .sh .new f
  nx : NoX2 f
theorem ck_lt : CmpOk X c.K .Lt ltN := ⟨⟨_, opU_lt, o2_lt⟩, nx_lt⟩
theorem ck_le : CmpOk X c.K .LtE leD := ⟨⟨_, opU_le, o2_le⟩, nx_le⟩
theorem ck_gt : CmpOk X c.K .Gt gtD := ⟨⟨_, opU_gt, o2_gt⟩, nx_gt⟩
theorem ck_ge : CmpOk X c.K .GtE geD := ⟨⟨_, opU_ge, o2_ge⟩, nx_ge⟩
theorem ck_eq (hK : c.K = X.K) (hu : X.A.units + 64 < cLine) : CmpOk X c.K .Eq eqD := ⟨⟨_, op_eqD hu, by rw [hK]; exact o2_eq⟩, nx_eq⟩
theorem ck_ne (hK : c.K = X.K) (hu : X.A.units + 64 < cLine) : CmpOk X c.K .NotEq neD := ⟨⟨_, op_neD hu, by rw [hK]; exact o2_ne⟩, nx_ne⟩
theorem q_cmpO {op : CmpOp} {f : Dat → Dat → R Dat} (ho : CmpOk X c.K op f) (ha : PE X a (qE c W own .sh m1)) (hb : PE X b (qE c W own .sh m2)) (hm : behindInMarks op b = false) : PE X (.Compare a [op] [b] pos) (qE c W own .new (e2 f m1 m2)) := by
  obtain ⟨⟨r, h1, h2⟩, nx⟩ := ho
  exact q_cmp ha hb h1 hm h2 nx
theorem qt_cmpO {op : CmpOp} {f : Dat → Dat → R Dat} (ho : CmpOk X c.K op f) (ha : PE X a (qE c W own .sh m1)) (hb : PE X b (qE c W own .sh m2)) (hm : behindInMarks op b = false) : PT X (.Compare a [op] [b] pos) (qT c W own (tE (e2 f m1 m2))) := by
  obtain ⟨⟨r, h1, h2⟩, nx⟩ := ho
  exact qt_cmp ha hb h1 hm h2 nx
theorem chain_read {σ : St} {H : Hp} {Q : VK} {r r' : R2} {f g : Dat → Dat → R Dat} {m3 : EM} (h2 : Op2 c.K r .sh .sh .new f) (nx : NoX2 f) (h2' : Op2 c.K r' .sh .sh .new g) (nx' : NoX2 g) (h : qE c W own .new (eChain f g m1 m2 m3) σ H Q) :
    tChain r r' (qE c W own .sh m1) (qE c W own .sh m2) (qE c W own .sh m3) σ H Q := by
  obtain ⟨Z, ρ, S, p⟩ := h
  refine ⟨Z, ρ, S, (Post.bnd p).imp (fun d p1 v Z1 H1 x1 hv => ⟨Z1, ρ, S.move x1, (Post.bnd p1).imp (fun d' p2 u Z2 H2 x2 hu => ?_) fun n q => q.move x1⟩) fun _ q => q⟩
  refine h2 Z2 H2 H v u d d' _ x2.trk (x1.same.trans x2.same) (hv.ext x2) (hu.early x1.same) ((Post.nox (nx d d') (Post.bnd p2)).imp (fun z q w Z3 H3 x3 hw => ?_) fun _ q => q)
  have hs := hw.sh
  have x13 := (x1.trans x2).trans x3
  cases hs with
  | bl kk =>
    refine ⟨kk, rfl, ?_⟩
    cases kk with
    | false => exact q (.bl false) Z3 H3 x13 (Rep.kd .new (.bl false) rfl)
    | true =>
      refine ⟨Z3, ρ, S.move x13, (Post.bnd q).imp (fun e q1 w4 Z4 H4 x4 hw4 => ?_) fun _ q => q.move x13⟩
      exact h2' Z4 H4 H u w4 d' e Q x4.trk (x13.same.trans x4.same) (((Val.early (Hs := H) x1.same hu).ext x3).ext x4) hw4 ((Post.nox (nx' d' e) q1).imp (fun z q w5 Z5 H5 x5 hw5 => q w5 Z5 H5 ((x13.trans x4).trans x5) hw5) fun _ q => q)
  | _ => exact False.elim q
theorem q_chain {op op' : CmpOp} {f g : Dat → Dat → R Dat} {e3 : Expr} {m3 : EM} (ho : CmpOk X c.K op f) (ho' : CmpOk X c.K op' g) (ha : PE X a (qE c W own .sh m1)) (hb : PE X b (qE c W own .sh m2)) (hc : PE X e3 (qE c W own .sh m3)) (hm : lastMarks [op, op'] [b, e3] = false := by with_unfolding_all rfl) :
    PE X (.Compare a [op, op'] [b, e3] pos) (qE c W own .new (eChain f g m1 m2 m3)) := by
  obtain ⟨⟨r, h1, h2⟩, nx⟩ := ho
  obtain ⟨⟨r', h1', h2'⟩, nx'⟩ := ho'
  exact (pe_chain h1 h1' ha hb hc hm).imp fun σ H Q h => chain_read h2 nx h2' nx' h
theorem qt_chain {op op' : CmpOp} {f g : Dat → Dat → R Dat} {e3 : Expr} {m3 : EM} (ho : CmpOk X c.K op f) (ho' : CmpOk X c.K op' g) (ha : PE X a (qE c W own .sh m1)) (hb : PE X b (qE c W own .sh m2)) (hc : PE X e3 (qE c W own .sh m3)) (hm : lastMarks [op, op'] [b, e3] = false := by with_unfolding_all rfl) :
    PT X (.Compare a [op, op'] [b, e3] pos) (qT c W own (tE (eChain f g m1 m2 m3))) := by
  obtain ⟨⟨r, h1, h2⟩, nx⟩ := ho
  obtain ⟨⟨r', h1', h2'⟩, nx'⟩ := ho'
  refine (pt_chain h1 h1' ha hb hc hm).imp fun σ H Q ⟨Z, ρ, S, p⟩ => chain_read h2 nx h2' nx' ⟨Z, ρ, S, (Post.bnd p).imp (fun d p1 v Z1 H1 x1 hv => ?_) fun _ q => q⟩
  have hs := hv.sh
  cases hs with
  | bl kk => exact ⟨kk, rfl, p1 Z1 H1 x1⟩
  | _ => exact False.elim p1

/-! ### x[i] -/
theorem kv_rep {K : KF} {Z : ZS} {H : Hp} {v : V} {d : Dat} (h : Sh K Z H v d) (hk : isKey d = true) : ∃ kk, v = kV kk ∧ d = kD kk ∧ okK kk := by
  cases h with
  | int i => exact ⟨.inl i, rfl, rfl, trivial⟩
  | str x hx => exact ⟨.inr x, rfl, rfl, hx⟩
  | _ => cases hk
theorem kD_eq (j l : Key) : eqv (kD j) (kD l) = decide (j = l) := by
  cases j with
  | inl i =>
    cases l with
    | inl i' =>
      show (i == i') = _
      rw [Bool.eq_iff_iff]
      simp
    | inr y => rw [decide_eq_false (fun q => nomatch q)]; rfl
  | inr x =>
    cases l with
    | inl i' => rw [decide_eq_false (fun q => nomatch q)]; rfl
    | inr y =>
      show (x.cps.toList == y.cps.toList) = _
      rw [Bool.eq_iff_iff, beq_iff_eq, decide_eq_true_iff]
      constructor
      · intro q
        have : x.cps = y.cps := Array.toList_inj.mp q
        cases x
        cases y
        simp only at this
        rw [this]
      · intro q
        cases q
        rfl
theorem dic_get {K : KF} {Z : ZS} {H : Hp} {kk : Key} : ∀ {ks : List (Key × V)} {kvs : List (Dat × Dat)}, RepD K Z H ks kvs → (∀ d, dicGet kvs (kD kk) = some d → ∃ v, valV ks kk = some v ∧ Rep K Z H v d) ∧ (dicGet kvs (kD kk) = none → valV ks kk = none)
  | _, _, .nil => ⟨fun d h => (by cases h), fun _ => rfl⟩
  | _, _, @RepD.cons _ _ _ k v r d t ok h rr => by
    have ih := dic_get (kk := kk) rr
    by_cases e : k = kk
    · subst e
      have e1 : dicGet ((kD k, d) :: t) (kD k) = some d := by
        unfold dicGet keyEq
        rw [List.find?_cons_of_pos (by show eqv (kD k) (kD k) = true; rw [kD_eq]; simp)]
        rfl
      have e2 : valV ((k, v) :: r) k = some v := by
        unfold valV
        rw [List.find?_cons_of_pos (by simp)]
        rfl
      exact ⟨fun d' hd => (by rw [e1] at hd; cases hd; exact ⟨v, e2, h⟩), fun hd => (by rw [e1] at hd; cases hd)⟩
    · have e1 : dicGet ((kD k, d) :: t) (kD kk) = dicGet t (kD kk) := by
        unfold dicGet keyEq
        rw [List.find?_cons_of_neg (by show ¬ eqv (kD k) (kD kk) = true; rw [kD_eq]; simpa using e)]
      have e2 : valV ((k, v) :: r) kk = valV r kk := by
        unfold valV
        rw [List.find?_cons_of_neg (by simpa using e)]
      rw [e1, e2]
      exact ih
def rIdxU (K : KF) : R2 := fun x y H Q => rIx K x y H Q ∨ (∃ a v, x = .ref a ∧ DGet H a y (some v) ∧ Q v H)
theorem ix_dict (hu : X.A.units + 1 < cLine) : IxR X (fun x y H Q => ∃ a v, x = .ref a ∧ DGet H a y (some v) ∧ Q v H) := by
  intro value slice pins s σ H x y v u Q I rx ry h hs
  obtain ⟨a, z, rfl, g, q⟩ := h
  cases rx
  exact tail_any (dict_typeIs I g) PySem.F.slot_dict_getitem.lookup (d_getItem hu I g ry fun w' s' I' rw' => ⟨z, H, I', rw', q⟩) hs
theorem ixU (hu : X.A.units + 1 < cLine) : IxR X (rIdxU X.K) := ix_seq.or (ix_dict hu)
theorem atPlace_eq {α : Type} (xs : List α) (i : Int) : atPlace xs i = atI xs i := rfl
theorem RepA.atI {K : KF} {Z : ZS} {H : Hp} {xs : List V} {ds : List Dat} {i : Int} {d : Dat} (r : RepA K Z H xs ds) (h : atPlace ds i = some d) : ∃ v, L2.atI xs i = some v ∧ Rep K Z H v d := by
  unfold atPlace at h
  unfold L2.atI
  have e : ixN xs.length i = placeOf i ds.length := by rw [r.len]; rfl
  rw [e]
  cases q : placeOf i ds.length with
  | none => rw [q] at h; cases h
  | some j =>
    rw [q] at h
    exact r.get h
theorem o2_idx {K : KF} : Op2 K (rIdxU K) .sh .sh .frz idxD := by
  intro Z H Hs v u d e Q t s hv hu p
  cases hv with
  | @lst a xs ds h r =>
    cases e with
    | int i =>
      cases hu
      have p : Post (match atPlace ds i with | some d => R.ok d | none => .bad) (Wnt K Z H Hs .frz Q) (fun _ => False) := p
      cases hz : atPlace ds i with
      | none => rw [hz] at p; exact p.elim
      | some z =>
        rw [hz] at p
        obtain ⟨w, e1, rw'⟩ := r.atI hz
        exact .inl (.inl ⟨_, _, i, w, rfl, rfl, h, e1, Wnt.frz t p rw'⟩)
    | _ => exact False.elim p
  | @tup a xs ds h r =>
    cases e with
    | int i =>
      cases hu
      have p : Post (match atPlace ds i with | some d => R.ok d | none => .bad) (Wnt K Z H Hs .frz Q) (fun _ => False) := p
      cases hz : atPlace ds i with
      | none => rw [hz] at p; exact p.elim
      | some z =>
        rw [hz] at p
        obtain ⟨w, e1, rw'⟩ := r.atI hz
        exact .inl (.inr (.inl ⟨_, _, i, w, rfl, rfl, h.sq, e1, Wnt.frz t p rw'⟩))
    | _ => exact False.elim p
  | str x hx =>
    cases e with
    | int i =>
      cases hu
      have p : Post (match atPlace x.cps.toList i with | some c => R.ok (.str [c]) | none => .bad) (Wnt K Z H Hs .frz Q) (fun _ => False) := p
      cases hz : atPlace x.cps.toList i with
      | none => rw [hz] at p; exact p.elim
      | some ch =>
        rw [hz] at p
        have hm : ch ∈ x.cps.toList := by
          unfold atPlace at hz
          cases q : placeOf i x.cps.toList.length with
          | none => rw [q] at hz; cases hz
          | some j => rw [q] at hz; exact List.mem_of_getElem? hz
        have hl := hx.2
        rw [line_eq] at hl
        exact .inl (.inr (.inr ⟨x, i, ch, rfl, rfl, by simpa [Str.length] using hl, hz, Wnt.frz t p (.ofS rfl (okS_one hx hm))⟩))
    | _ => exact False.elim p
  | @dic a ks kvs h r =>
    have p : Post (if isKey e then (match dicGet kvs e with | some d => R.ok d | none => .bad) else .bad) (Wnt K Z H Hs .frz Q) (fun _ => False) := by
      cases e <;> exact p
    by_cases hk : isKey e = true
    · rw [if_pos hk] at p
      obtain ⟨kk, rfl, rfl, _⟩ := kv_rep hu hk
      cases hz : dicGet kvs (kD kk) with
      | none => rw [hz] at p; exact p.elim
      | some z =>
        rw [hz] at p
        obtain ⟨w, e1, rw'⟩ := (dic_get r).1 z hz
        exact .inr ⟨_, w, rfl, by rw [← e1]; exact DGet.k h, Wnt.frz t p rw'⟩
    · rw [if_neg hk] at p
      exact p.elim
  | _ => exact False.elim p
theorem q_idx (hK : c.K = X.K) (hu : X.A.units + 1 < cLine) (ha : PE X a (qE c W own .sh m1)) (hb : PE X b (qE c W own .sh m2)) (hs : PlainIx b) : PE X (.Subscript a b pos) (qE c W own .frz (e2 idxD m1 m2)) := q_bin ha hb (fun _ _ h k => pe_ix (ixU hu) h k hs) (by rw [hK]; exact o2_idx) nx_idx
end
end PL

set_option maxRecDepth 100000
set_option maxHeartbeats 4000000
namespace PL
open PySem PySem.Spec PyProof.Rows L2
set_option autoImplicit false

section
variable {X : Cx} {c : Ct} {W : WX} {own : List Nat} {a b e : Expr} {es : List Expr} {m m1 m2 : EM} {ms : LM} {pos p p2 : Pos} {k k1 k2 : Kd}
/-! ### x[lo:hi] -/
def qP (c : Ct) (W : WX) (own : List Nat) (m : PM) : TO := fun σ H Q => ∃ Z ρ, SE c own Z H σ ρ ∧ Post (m ρ) (fun o => ∀ Z' H', Ext Z H Z' H' → Q o H') (PX c W Z H σ)
theorem qp_none : PO X none (qP c W own pN) := ⟨fun pins s σ H Q I ⟨Z, ρ, S, p⟩ => po_none.run pins s σ H Q I (p Z H (.refl S.trk))⟩
theorem qp_some (he : PE X e (qE c W own k m)) : PO X (some e) (qP c W own (pS m)) := ⟨fun pins s σ H Q I ⟨Z, ρ, S, p⟩ => (po_some he).run pins s σ H Q I ⟨Z, ρ, S, (Post.bnd p).imp (fun d p1 v Z1 H1 x1 hv => by
  have hs := hv.sh
  cases hs with
  | int i => exact ⟨i, rfl, p1 Z1 H1 x1⟩
  | _ => exact False.elim p1) fun _ q => q⟩⟩
theorem RepA.cutR {K : KF} {Z : ZS} {H : Hp} {xs : List V} {ds : List Dat} {lo hi : Option Int} (r : RepA K Z H xs ds) : RepA K Z H (cutV xs lo hi) (cut ds lo hi) := by
  unfold cutV cut
  rw [r.len]
  exact RepA.take _ (RepA.drop _ r)
theorem cut_whole {ds : List Dat} {lo hi : Option Int} (h1 : HT.sIx ds.length 0 lo = 0) (h2 : HT.sIx ds.length ds.length hi = ds.length) : cut ds lo hi = ds := by
  show (ds.drop (HT.sIx ds.length 0 lo)).take (HT.sIx ds.length ds.length hi - HT.sIx ds.length 0 lo) = ds
  rw [h1, h2]
  simp
theorem cutS_cps (z : Str) (lo hi : Option Int) : (cutS z lo hi).cps.toList = cut z.cps.toList lo hi := by
  unfold cutS cut
  show ((z.cps.toList.drop (HT.sIx z.length 0 lo)).take (HT.sIx z.length z.length hi - HT.sIx z.length 0 lo)).toArray.toList = _
  rw [show z.length = z.cps.toList.length by simp [Str.length]]
  rfl
theorem cut_mem {α : Type} {xs : List α} {lo hi : Option Int} {x : α} (h : x ∈ cut xs lo hi) : x ∈ xs := List.mem_of_mem_drop (List.mem_of_mem_take h)
theorem cut_len {α : Type} {xs : List α} {lo hi : Option Int} : (cut xs lo hi).length ≤ xs.length := by
  unfold cut
  rw [List.length_take, List.length_drop]
  omega
def rSlU (K : KF) : V → Option Int → Option Int → Hp → VK → Prop := fun x lo hi H Q => rSlL K x lo hi H Q ∨ rSlA K x lo hi H Q ∨ rSlS x lo hi H Q
theorem slU : SlR X (rSlU X.K) := sl_list.or (sl_tupA.or sl_str)
theorem sl_read {K : KF} {Z : ZS} {H Hs : Hp} {v : V} {d : Dat} {lo hi : Option Int} {Q : VK} (t : Trk Z H) (s : Same Hs H) (hv : Sh K Z H v d) (p : Post (sliD lo hi d) (Wnt K Z H Hs .new Q) (fun _ => False)) : rSlU K v lo hi H Q := by
  cases hv with
  | lst h r => exact .inl ⟨_, _, rfl, h, fun q hq => Wnt.newL t s p r.cutR hq⟩
  | tup h r =>
    refine .inr (.inl ⟨_, _, rfl, h.sq, fun hw => ?_, fun hw q hq => Wnt.tup t p r.cutR hq⟩)
    have hw2 := hw
    rw [r.len] at hw2
    have p : Wnt K Z H Hs .new Q (.tup (cut _ lo hi)) := p
    rw [cut_whole hw2.1 hw2.2] at p
    exact Wnt.at t p (h.rep r) rfl
  | str x hx =>
    have hl := hx.2
    rw [line_eq] at hl
    exact .inr (.inr ⟨x, rfl, by simpa [Str.length] using hl, Wnt.str t p (cutS_cps x lo hi) (okS_sub hx (fun q hq => cut_mem hq) cut_len)⟩)
  | _ => exact False.elim p
theorem nx_sli {lo hi : Option Int} : NoX1 (sliD lo hi) := fun d x h => by cases d <;> cases h
theorem q_sli {lo hi : Option Expr} {ml mh : PM} (hK : c.K = X.K) (he : PE X e (qE c W own .sh m)) (hl : PO X lo (qP c W own ml)) (hh : PO X hi (qP c W own mh)) : PE X (.Subscript e (.Slice lo hi none p2) pos) (qE c W own .new (eSli ml mh m)) := (pe_slice slU he hl hh).imp fun σ H Q ⟨Z, ρ, S, p⟩ => by
  refine ⟨Z, ρ, S, (Post.bnd p).imp (fun d p1 v Z1 H1 x1 hv => ⟨Z1, ρ, S.move x1, (Post.bnd p1).imp (fun lo p2 Z2 H2 x2 => ⟨Z2, ρ, (S.move x1).move x2, (Post.bnd p2).imp (fun hi p3 Z3 H3 x3 => ?_) fun _ q => (PX.move (x1.trans x2) q)⟩) fun _ q => q.move x1⟩) fun _ q => q⟩
  have x13 := (x1.trans x2).trans x3
  rw [← hK]
  exact sl_read x13.trk x13.same ((hv.sh.ext x2).ext x3) ((Post.nox (nx_sli d) p3).imp (fun z q w Z4 H4 x4 hw => q w Z4 H4 (x13.trans x4) hw) fun _ q => q)
/-- xs[::-1] of a list -/
theorem RepA.reverse {K : KF} {Z : ZS} {H : Hp} : ∀ {xs : List V} {ds : List Dat}, RepA K Z H xs ds → RepA K Z H xs.reverse ds.reverse
  | _, _, .nil => .nil
  | _, _, .cons h r => by
    rw [List.reverse_cons, List.reverse_cons]
    exact (RepA.reverse r).append (.cons h .nil)

/-! ### x[::-1] -/
theorem sliceBy_rev (z : Str) (u : Tok) : (Txt.sliceBy z none none (-1, u)).cps.toList = z.cps.toList.reverse := by
  rw [step_rev_list]
  apply List.ext_getElem
  · simp [Str.length]
  · intro i h1 h2
    have hi : i < z.length := by simpa using h1
    have hi2 : z.length - 1 - i < z.cps.size := by
      have : z.length = z.cps.size := rfl
      omega
    rw [List.getElem_map, List.getElem_range, List.getElem_reverse, Array.getElem_toList]
    rw [Array.getD, dif_pos hi2]
    simp [Str.length]
theorem pe_revS {te : TE} {j : Nat} {q1 q2 q3 : Pos} (he : PE X e te) : PE X (.Subscript e (.Slice none none (some (.UnaryOp .USub (.Constant (.int 1) j q1) q2)) q3) pos)
    (fun σ H Q => te σ H fun x H1 => ∃ z r, x = .str z ∧ z.length ≤ sizeLine ∧ r.cps.toList = z.cps.toList.reverse ∧ Q (.str r) H1) := by
  constructor
  intro pins s σ H Q I h
  apply Subscript_
  apply thn (he.run pins s σ H _ I h)
  rintro v s1 ⟨x, H1, I1, r1, z, r, ex, hz, hr, q⟩
  subst ex
  obtain ⟨tz, ev⟩ := r1
  subst ev
  have one : PO X (some (.UnaryOp .USub (.Constant (.int 1) j q1) q2)) (tPart (tUn (rU fun i => .int (-i)) (tC (.int 1)))) := po_some (pe_un un_neg pe_int)
  apply wpAny_Slice
  apply thn (po_none.run pins s1 σ H1 (fun o G => o = none ∧ G = H1) I1 ⟨rfl, rfl⟩)
  rintro vl s2 ⟨l, H2, I2, pl, el, eH⟩
  subst el eH
  apply thn (po_none.run pins s2 σ H2 (fun o G => o = none ∧ G = H2) I2 ⟨rfl, rfl⟩)
  rintro vu s3 ⟨u, H3, I3, pu, eu, eH⟩
  subst eu eH
  apply thn (one.run pins s3 σ H3 (fun o G => o = some (-1) ∧ G = H3) I3 ⟨1, rfl, -1, rfl, rfl, rfl⟩)
  rintro vs s4 ⟨o, H4, I4, ps, eo, eH⟩
  subst eo eH
  obtain ⟨l0, e1, e2⟩ := IsPart.raw pl
  obtain ⟨u0, e3, e4⟩ := IsPart.raw pu
  obtain ⟨w0, e5, e6⟩ := IsPart.raw ps
  have hl0 : l0 = none := by cases l0 with | none => rfl | some y => cases e2
  have hu0 : u0 = none := by cases u0 with | none => rfl | some y => cases e4
  subst hl0 hu0 e1 e3 e5
  cases w0 with
  | none => cases e6
  | some y =>
    obtain ⟨k0, t0⟩ := y
    cases e6
    show wpAny (model X.prog X.w) X.A (subscriptTail e (.Slice none none (some (.UnaryOp .USub (.Constant (.int 1) j q1) q2)) q3) (.str z tz) (.ref s4.heap.objs.size)) (EP X pins σ Q) X.xe { s4 with heap := s4.heap.push { cls := .type "slice", data := .fields #[.none, .none, .int (-1) t0] } }
    refine tail_any (ops := [.ref s4.heap.objs.size, .str z tz]) (typeIs_str _ _ _) F.slot_str_getitem.lookup ?_ (by with_unfolding_all rfl)
    refine wpAny_getItem_str_slice (l := none) (u := none) (st := some (-1, t0)) ⟨_, Heap.get?_push_size _ rfl, rfl, rfl⟩ rfl ?_
    refine post_val_or_str ⟨Nat.le_trans (Txt.sliceBy_le z _ _ (-1, t0) (show (-1 : Int) ≠ 0 by decide)) hz, fun t' k' => ?_⟩
    refine ⟨.str r, H4, (I4.kept (t' := k') fun b ob g => Heap.get?_push_of_some _ g), ⟨t', ?_⟩, q⟩
    have : Txt.sliceBy z none none (-1, t0) = r := by
      have e9 := (sliceBy_rev z t0).trans hr.symm
      have e10 := Array.toList_inj.mp e9
      cases hq : Txt.sliceBy z none none (-1, t0)
      cases r
      rw [hq] at e10
      simp only at e10
      rw [e10]
    rw [← this]
    rfl
theorem q_rev {j : Nat} {q1 q2 q3 : Pos} (hK : c.K = X.K) (he : PE X e (qE c W own .sh m)) : PE X (.Subscript e (.Slice none none (some (.UnaryOp .USub (.Constant (.int 1) j q1) q2)) q3) pos) (qE c W own .new (e1 revD m)) := by
  refine ⟨fun pins s σ H Q I h => ?_⟩
  obtain ⟨Z, ρ, S, p⟩ := h
  have p := Post.bnd p
  cases q : m ρ with
  | bad => rw [q] at p; exact p.elim
  | exc x =>
    rw [q] at p
    exact (pe_revL he).run pins s σ H Q I ⟨Z, ρ, S, by rw [q]; exact p⟩
  | ok d =>
    rw [q] at p
    cases d with
    | lst ds =>
      refine (pe_revL he).run pins s σ H Q I ⟨Z, ρ, S, ?_⟩
      rw [q]
      intro v Z1 H1 x1 hv
      have hv : Sh c.K Z1 H1 v (.lst ds) := hv
      cases hv with
      | lst h r => exact ⟨_, _, rfl, by rw [← hK]; exact h, fun l hl => Wnt.newL (Hs := H) x1.trk x1.same (fun w Z' H' x hw => p w Z' H' (x1.trans x) hw) r.reverse hl⟩
    | str y =>
      refine (pe_revS he).run pins s σ H Q I ⟨Z, ρ, S, ?_⟩
      rw [q]
      intro v Z1 H1 x1 hv
      have hv : Sh c.K Z1 H1 v (.str y) := hv
      cases hv with
      | str x hx =>
        have hl := hx.2
        rw [line_eq] at hl
        exact ⟨x, ⟨x.cps.toList.reverse.toArray⟩, rfl, by simpa [Str.length] using hl, by simp, Wnt.str (Hs := H) (k := .new) x1.trk (fun w Z' H' x hw => p w Z' H' (x1.trans x) hw) (by simp) (okS_sub hx (fun q hq => by simpa using hq) (by simp))⟩
    | _ => exact p.elim

/-! ### in -/
theorem begins_iff : ∀ (y z : List Nat), begins y z = true ↔ y.length ≤ z.length ∧ z.take y.length = y
  | [], z => by simp [begins]
  | a :: y, [] => by simp [begins]
  | a :: y, b :: z => by
    rw [begins, Bool.and_eq_true, beq_iff_eq, begins_iff y z]
    simp only [List.length_cons, List.take_succ_cons, List.cons.injEq]
    constructor
    · rintro ⟨rfl, h1, h2⟩
      exact ⟨by omega, rfl, h2⟩
    · rintro ⟨h1, rfl, h2⟩
      exact ⟨rfl, by omega, h2⟩
theorem within_iff (y : List Nat) : ∀ (z : List Nat), within y z = true ↔ ∃ i, i + y.length ≤ z.length ∧ (z.drop i).take y.length = y
  | [] => by
    rw [within, begins_iff]
    constructor
    · rintro ⟨h1, h2⟩
      exact ⟨0, by omega, by simpa using h2⟩
    · rintro ⟨i, h1, h2⟩
      exact ⟨by omega, by simpa using h2⟩
  | b :: z => by
    rw [within, Bool.or_eq_true, begins_iff, within_iff y z]
    constructor
    · rintro (⟨h1, h2⟩ | ⟨i, h1, h2⟩)
      · exact ⟨0, by omega, h2⟩
      · exact ⟨i + 1, by simp only [List.length_cons]; omega, by simpa using h2⟩
    · rintro ⟨i, h1, h2⟩
      cases i with
      | zero => exact .inl ⟨by omega, h2⟩
      | succ i => exact .inr ⟨i, by simp only [List.length_cons] at h1; omega, by simpa using h2⟩
theorem sub_iff (x y : Str) (i : Nat) : Builtin.Str.subAt x y i = true ↔ (x.cps.toList.drop i).take y.cps.toList.length = y.cps.toList := by
  rw [StrLaws.subAt_eq, beq_iff_eq]
  simp [Str.length]
theorem within_occ (x y : Str) : (!(Builtin.Str.occurrences x y 0 x.length 1).isEmpty) = within y.cps.toList x.cps.toList := by
  rw [Bool.eq_iff_iff, StrLaws.found_iff, within_iff]
  constructor
  · rintro ⟨i, h1, h2⟩
    exact ⟨i, by simpa [Str.length] using h1, (sub_iff x y i).mp h2⟩
  · rintro ⟨i, h1, h2⟩
    exact ⟨i, by simpa [Str.length] using h1, (sub_iff x y i).mpr h2⟩
/-- x in a list or tuple, at any depth -/
def rInL (K : KF) (neg : Bool) : R2 := fun x y H Q => ∃ d e ds, (e = .list ds ∨ e = .tuple ds) ∧ Dp K H x d ∧ Dp K H y e ∧ d.canLay0 = true ∧ e.canLay0 = true ∧ d.depth ≤ DEEP ∧ Q (.bl (if neg then !(ds.any fun z => PyData.eqv z d) else ds.any fun z => PyData.eqv z d)) H
theorem roomL {A : Around} {d : PyData} {ds : List PyData} (hd : d.depth ≤ DEEP) (hu : A.units + 64 < cLine) : A.units + 1 + min (PyData.depthAll ds) d.depth < cLine := by
  have h2 : min (PyData.depthAll ds) d.depth ≤ d.depth := Nat.min_le_right _ _
  have h3 : DEEP = 40 := rfl
  omega
theorem op_inL (hu : X.A.units + 64 < cLine) : OpR X (compareOp .In) (rInL X.K false) := by
  intro pins s σ H x y v u Q I rx ry h
  obtain ⟨d, e, ds, he, hx, hy, hc, hce, hd, q⟩ := h
  obtain ⟨as, r1⟩ := Dp.reads I d x v hx rx
  obtain ⟨bs, r2⟩ := Dp.reads I e y u hy ry
  rcases he with rfl | rfl
  · exact SeqAt.in_list_reads r2 r1 hce hc (roomL hd hu) ⟨.bl _, H, I, rfl, q⟩
  · exact SeqAt.in_tuple_reads r2 r1 hce hc (roomL hd hu) ⟨.bl _, H, I, rfl, q⟩
theorem op_notInL (hu : X.A.units + 64 < cLine) : OpR X (compareOp .NotIn) (rInL X.K true) := by
  intro pins s σ H x y v u Q I rx ry h
  obtain ⟨d, e, ds, he, hx, hy, hc, hce, hd, q⟩ := h
  obtain ⟨as, r1⟩ := Dp.reads I d x v hx rx
  obtain ⟨bs, r2⟩ := Dp.reads I e y u hy ry
  rcases he with rfl | rfl
  · exact SeqAt.notIn_list_reads r2 r1 hce hc (roomL hd hu) ⟨.bl _, H, I, rfl, q⟩
  · exact SeqAt.notIn_tuple_reads r2 r1 hce hc (roomL hd hu) ⟨.bl _, H, I, rfl, q⟩
def rInU (K : KF) : R2 := fun x y H Q => rInL K false x y H Q ∨ (∃ i j, x = .str i ∧ y = .str j ∧ Q (.bl (!(Builtin.Str.occurrences j i 0 j.length 1).isEmpty)) H) ∨ (∃ a o, y = .ref a ∧ DGet H a x o ∧ Q (.bl o.isSome) H)
def rNotInU (K : KF) : R2 := fun x y H Q => rInL K true x y H Q ∨ (∃ i j, x = .str i ∧ y = .str j ∧ Q (.bl (!(!(Builtin.Str.occurrences j i 0 j.length 1).isEmpty))) H) ∨ (∃ a o, y = .ref a ∧ DGet H a x o ∧ Q (.bl (!o.isSome)) H)
theorem op_inD (hu : X.A.units + 1 < cLine) : OpR X (compareOp .In) (fun x y H Q => ∃ a o, y = .ref a ∧ DGet H a x o ∧ Q (.bl o.isSome) H) := by
  intro pins s σ H x y v u Q I rx ry h
  obtain ⟨a, o, rfl, g, q⟩ := h
  cases ry
  exact d_in hu I g rx fun s' I' => ⟨.bl o.isSome, H, I', rfl, q⟩
theorem op_notInD (hu : X.A.units + 1 < cLine) : OpR X (compareOp .NotIn) (fun x y H Q => ∃ a o, y = .ref a ∧ DGet H a x o ∧ Q (.bl (!o.isSome)) H) := by
  intro pins s σ H x y v u Q I rx ry h
  obtain ⟨a, o, rfl, g, q⟩ := h
  cases ry
  exact d_notIn hu I g rx fun s' I' => ⟨.bl (!o.isSome), H, I', rfl, q⟩
theorem opU_in (hu : X.A.units + 64 < cLine) : OpR X (compareOp .In) (rInU X.K) := (op_inL hu).or (op_in_str.or (op_inD (by omega)))
theorem opU_notIn (hu : X.A.units + 64 < cLine) : OpR X (compareOp .NotIn) (rNotInU X.K) := (op_notInL hu).or (op_notIn_str.or (op_notInD (by omega)))
theorem any_py (d : Dat) (n : Nat) (hd : shp n d = true) : ∀ (ds : List Dat), shpL n ds = true → (toPyL ds).any (fun z => PyData.eqv z (toPy d)) = ds.any fun z => eqv z d
  | [], _ => rfl
  | e :: r, h => by
    simp only [shpL, Bool.and_eq_true] at h
    rw [toPyL, List.any_cons, List.any_cons, eqv_py e d n n h.1 hd, any_py d n hd r h.2]
theorem in_read {K : KF} {Z : ZS} {H : Hp} {v u : V} {d e : Dat} {Q : Bool → Prop} (hv : Sh K Z H v d) (hu : Sh K Z H u e) (p : Post (inD d e) (fun z => ∀ b, z = Dat.bl b → Q b) (fun _ => False)) :
    (∃ d' e' ds, (e' = .list ds ∨ e' = .tuple ds) ∧ Dp K H v d' ∧ Dp K H u e' ∧ d'.canLay0 = true ∧ e'.canLay0 = true ∧ d'.depth ≤ DEEP ∧ Q (ds.any fun z => PyData.eqv z d')) ∨ (∃ i j, v = .str i ∧ u = .str j ∧ Q (!(Builtin.Str.occurrences j i 0 j.length 1).isEmpty)) ∨ (∃ a o, u = .ref a ∧ DGet H a v o ∧ Q o.isSome) := by
  cases hu with
  | @lst a xs ds h r =>
    have p : Post (if (shp DEEP d && shpL DEEP ds) = true then R.ok (.bl (ds.any fun y => eqv y d)) else .bad) (fun z => ∀ b, z = Dat.bl b → Q b) (fun _ => False) := by cases d <;> exact p
    obtain ⟨hs, q⟩ := Post.ite p
    rw [Bool.and_eq_true] at hs
    obtain ⟨h1, h2, h3⟩ := hv.dp hs.1
    obtain ⟨k1, k2, k3⟩ := r.dp hs.2
    refine .inl ⟨_, .list (toPyL ds), toPyL ds, .inl rfl, h1, .lst h k1, h2, by simpa [PyData.canLay0] using k2, h3, ?_⟩
    rw [any_py d DEEP hs.1 ds hs.2]
    exact q _ rfl
  | @tup a xs ds h r =>
    have p : Post (if (shp DEEP d && shpL DEEP ds) = true then R.ok (.bl (ds.any fun y => eqv y d)) else .bad) (fun z => ∀ b, z = Dat.bl b → Q b) (fun _ => False) := by cases d <;> exact p
    obtain ⟨hs, q⟩ := Post.ite p
    rw [Bool.and_eq_true] at hs
    obtain ⟨h1, h2, h3⟩ := hv.dp hs.1
    obtain ⟨k1, k2, k3⟩ := r.dp hs.2
    refine .inl ⟨_, .tuple (toPyL ds), toPyL ds, .inr rfl, h1, .tup h.sq k1, h2, by simpa [PyData.canLay0] using k2, h3, ?_⟩
    rw [any_py d DEEP hs.1 ds hs.2]
    exact q _ rfl
  | str y hy =>
    cases hv with
    | str x hx =>
      refine .inr (.inl ⟨x, y, rfl, rfl, ?_⟩)
      rw [within_occ]
      exact p _ rfl
    | _ => exact False.elim p
  | @dic a ks kvs h r =>
    have p : Post (if isKey d = true then R.ok (.bl (dicGet kvs d).isSome) else .bad) (fun z => ∀ b, z = Dat.bl b → Q b) (fun _ => False) := by cases d <;> exact p
    obtain ⟨hk, q⟩ := Post.ite p
    obtain ⟨kk, rfl, rfl, _⟩ := kv_rep hv hk
    refine .inr (.inr ⟨a, valV ks kk, rfl, DGet.k h, ?_⟩)
    have e : (valV ks kk).isSome = (dicGet kvs (kD kk)).isSome := by
      cases hz : dicGet kvs (kD kk) with
      | none =>
        rw [(dic_get r).2 hz]
        rfl
      | some z =>
        obtain ⟨w, e1, _⟩ := (dic_get r).1 z hz
        rw [e1]
        rfl
    rw [e]
    exact q _ rfl
  | _ => cases d <;> exact False.elim p
theorem in_bl {d e : Dat} {z : Dat} (h : inD d e = .ok z) : ∃ b, z = .bl b := by
  unfold inD at h
  split at h <;> first | (split at h <;> cases h; exact ⟨_, rfl⟩) | (cases h; exact ⟨_, rfl⟩) | cases h
theorem o2_in {K : KF} : Op2 K (rInU K) .sh .sh .new inD := by
  intro Z H Hs v u d e Q t s hv hu p
  have := in_read (Q := fun b => Q (.bl b) H) hv hu (p.imp (fun z q b hz => by subst hz; exact Wnt.bl t q) fun _ q => q)
  rcases this with ⟨d', e', ds, h1, h2, h3, h4, h5, h6, h7⟩ | h | h
  · exact .inl ⟨d', e', ds, h1, h2, h3, h4, h5, h6, h7⟩
  · exact .inr (.inl h)
  · exact .inr (.inr h)
theorem o2_notIn {K : KF} : Op2 K (rNotInU K) .sh .sh .new notInD := by
  intro Z H Hs v u d e Q t s hv hu p
  have := in_read (Q := fun b => Q (.bl (!b)) H) hv hu ((Post.bnd p).imp (fun z q b hz => by subst hz; exact Wnt.bl t q) fun _ q => q)
  rcases this with ⟨d', e', ds, h1, h2, h3, h4, h5, h6, h7⟩ | h | h
  · exact .inl ⟨d', e', ds, h1, h2, h3, h4, h5, h6, h7⟩
  · exact .inr (.inl h)
  · exact .inr (.inr h)
theorem ck_in (hK : c.K = X.K) (hu : X.A.units + 64 < cLine) : CmpOk X c.K .In inD := ⟨⟨_, opU_in hu, by rw [hK]; exact o2_in⟩, nx_in⟩
theorem ck_notIn (hK : c.K = X.K) (hu : X.A.units + 64 < cLine) : CmpOk X c.K .NotIn notInD := ⟨⟨_, opU_notIn hu, by rw [hK]; exact o2_notIn⟩, nx_notIn⟩
end
end PL

set_option maxRecDepth 100000
set_option maxHeartbeats 4000000
namespace PL
open PySem PySem.Spec PyProof.Rows L2
set_option autoImplicit false

section
variable {X : Cx} {c : Ct} {W : WX} {own : List Nat} {a b ee o : Expr} {es : List Expr} {m m1 m2 m3 : EM} {ms : LM} {pos p p2 apos : Pos} {k k1 k2 : Kd} {x : Str} {id T : String}
/-- a built-in's rule for one, two arguments -/
def CallV1 (K : KF) (r : List V → Hp → VK → Prop) (k1 k : Kd) (f : Dat → R Dat) : Prop := ∀ (Z : ZS) (H Hs : Hp) (v : V) (d : Dat) (Q : VK), Trk Z H → Same Hs H → Val K Z H Hs k1 v d → Post (f d) (Wnt K Z H Hs k Q) (fun _ => False) → r [v] H Q
def CallV2 (K : KF) (r : List V → Hp → VK → Prop) (k1 k : Kd) (f : Dat → Dat → R Dat) : Prop := ∀ (Z : ZS) (H Hs : Hp) (v u : V) (d e : Dat) (Q : VK), Trk Z H → Same Hs H → Val K Z H Hs k1 v d → Val K Z H Hs k1 u e → Post (f d e) (Wnt K Z H Hs k Q) (fun _ => False) → r [v, u] H Q
theorem arg1 {r : List V → Hp → VK → Prop} {f : Dat → R Dat} {σ : St} {H : Hp} {Q : VK} (hr : CallV1 c.K r k1 k f) (nx : NoX1 f) (h : qE c W own k (e1 f m) σ H Q) : qA c W own k1 (eCons m eNil) σ H (fun vs H1 => r vs H1 Q) := by
  obtain ⟨Z, ρ, S, p⟩ := h
  have p := Post.bnd p
  refine ⟨Z, ρ, S, ?_⟩
  unfold eCons eNil
  cases q : m ρ with
  | bad => rw [q] at p; exact p.elim
  | exc x => rw [q] at p; exact p
  | ok d =>
    rw [q] at p
    intro vs Z1 H1 x1 hv
    cases hv with
    | cons h1 h2 =>
      cases h2
      exact hr Z1 H1 H _ d Q x1.trk x1.same h1 ((Post.nox (nx d) p).imp (fun z q w Z2 H2 x2 hw => q w Z2 H2 (x1.trans x2) hw) fun _ q => q)
theorem arg2 {r : List V → Hp → VK → Prop} {f : Dat → Dat → R Dat} {σ : St} {H : Hp} {Q : VK} (hr : CallV2 c.K r k1 k f) (nx : NoX2 f) (h : qE c W own k (e2 f m1 m2) σ H Q) : qA c W own k1 (eCons m1 (eCons m2 eNil)) σ H (fun vs H1 => r vs H1 Q) := by
  obtain ⟨Z, ρ, S, p⟩ := h
  have p := Post.bnd p
  refine ⟨Z, ρ, S, ?_⟩
  unfold eCons eNil
  cases q : m1 ρ with
  | bad => rw [q] at p; exact p.elim
  | exc x => rw [q] at p; exact p
  | ok d =>
    rw [q] at p
    have p := Post.bnd p
    rw [PL.R.bnd_ok]
    cases q2 : m2 ρ with
    | bad => rw [q2] at p; exact p.elim
    | exc x => rw [q2] at p; exact p
    | ok d2 =>
      rw [q2] at p
      intro vs Z1 H1 x1 hv
      cases hv with
      | cons h1 h2 =>
        cases h2 with
        | cons h2 h3 =>
          cases h3
          exact hr Z1 H1 H _ _ d d2 Q x1.trk x1.same h1 h2 ((Post.nox (nx d d2) p).imp (fun z q w Z2 H2 x2 hw => q w Z2 H2 (x1.trans x2) hw) fun _ q => q)
theorem q_b1 {r : List V → Hp → VK → Prop} {f : Dat → R Dat} (hc : CallR X (.builtin id) r) (hr : CallV1 c.K r k1 k f) (nx : NoX1 f) (hg : Gl X x) (hm : X.mg x = none) (hv : bootBuiltins x = some (.builtin id)) (ha : PE X a (qE c W own k1 m)) (hn : x ≠ "__name__") (hdb : (x == ("__debug__" : Str)) = false)
    (hs : starEach (a :: []) X.env = (false, eval a X.env) :: starEach [] X.env := by rfl) (hpl : (backTo pos (starEach [] X.env)).any (·.1) = false := by rfl) : PE X (.Call (.Name x p) [a] [] pos) (qE c W own k (e1 f m)) :=
  (pe_callB hc hg hm hv (qa_cons ha qa_nil hs) hn hdb hs hpl).imp fun σ H Q h => arg1 hr nx h
theorem q_t1 {r : List V → Hp → VK → Prop} {f : Dat → R Dat} (hc : CallR X (.type T) r) (hr : CallV1 c.K r k1 k f) (nx : NoX1 f) (hg : Gl X x) (hm : X.mg x = none) (hv : bootBuiltins x = some (.type T)) (ha : PE X a (qE c W own k1 m)) (hn : x ≠ "__name__") (hdb : (x == ("__debug__" : Str)) = false)
    (hs : starEach (a :: []) X.env = (false, eval a X.env) :: starEach [] X.env := by rfl) (hpl : (backTo pos (starEach [] X.env)).any (·.1) = false := by rfl) : PE X (.Call (.Name x p) [a] [] pos) (qE c W own k (e1 f m)) :=
  (pe_callTy hc hg hm hv (qa_cons ha qa_nil hs) hn hdb hs hpl).imp fun σ H Q h => arg1 hr nx h
theorem q_b2 {r : List V → Hp → VK → Prop} {f : Dat → Dat → R Dat} (hc : CallR X (.builtin id) r) (hr : CallV2 c.K r k1 k f) (nx : NoX2 f) (hg : Gl X x) (hm : X.mg x = none) (hv : bootBuiltins x = some (.builtin id)) (ha : PE X a (qE c W own k1 m1)) (hb : PE X b (qE c W own k1 m2)) (hn : x ≠ "__name__") (hdb : (x == ("__debug__" : Str)) = false)
    (hs : starEach (a :: [b]) X.env = (false, eval a X.env) :: starEach [b] X.env := by rfl) (hs2 : starEach (b :: []) X.env = (false, eval b X.env) :: starEach [] X.env := by rfl) (hpl : (backTo pos (starEach [b] X.env)).any (·.1) = false := by rfl) : PE X (.Call (.Name x p) [a, b] [] pos) (qE c W own k (e2 f m1 m2)) :=
  (pe_callB hc hg hm hv (qa_cons ha (qa_cons hb qa_nil hs2) hs) hn hdb hs hpl).imp fun σ H Q h => arg2 hr nx h

/-! ### len, int, all, any, sum .. -/
theorem callR_or {f : Value} {r r' : List V → Hp → VK → Prop} (h : CallR X f r) (h' : CallR X f r') : CallR X f (fun xs H Q => r xs H Q ∨ r' xs H Q) := by
  intro pins s σ H xs us Q I rr q
  rcases q with q | q
  · exact h pins s σ H xs us Q I rr q
  · exact h' pins s σ H xs us Q I rr q
def rLenU (K : KF) : List V → Hp → VK → Prop := fun xs H Q => (∃ x n, xs = [x] ∧ LenV K x H n ∧ Q (.int n) H) ∨ (∃ a kvs, xs = [V.ref a] ∧ H a = some (.dK kvs) ∧ Q (.int kvs.length) H)
theorem cu_len : CallR X (.builtin "len") (rLenU X.K) := callR_or call_len call_lenD
theorem cv_len {K : KF} : CallV1 K (rLenU K) .sh .new lenD := by
  intro Z H Hs v d Q t s hv p
  cases hv with
  | lst h r => exact .inl ⟨_, _, rfl, .inl ⟨_, h, rfl⟩, by rw [r.len]; exact Wnt.int t p⟩
  | tup h r => exact .inl ⟨_, _, rfl, .inr ⟨_, h.sq, rfl⟩, by rw [r.len]; exact Wnt.int t p⟩
  | str x hx =>
    have hl := hx.2
    rw [line_eq] at hl
    refine .inl ⟨_, x.length, rfl, ⟨by simpa [Str.length] using hl, rfl⟩, ?_⟩
    rw [show x.length = x.cps.toList.length by simp [Str.length]]
    exact Wnt.int t p
  | dic h r => exact .inr ⟨_, _, rfl, h, by rw [r.len]; exact Wnt.int t p⟩
  | _ => exact False.elim p
theorem nx_len : NoX1 lenD := fun d x h => by cases d <;> cases h
theorem cv_int {K : KF} : CallV1 K (fun xs H Q => (∃ i, xs = [.int i] ∧ Q (.int i) H) ∨ ∃ k, xs = [.bl k] ∧ Q (.int (if k then 1 else 0)) H) .sh .new intD := by
  intro Z H Hs v d Q t s hv p
  cases hv with
  | int i => exact .inl ⟨i, rfl, Wnt.int t p⟩
  | bl b => exact .inr ⟨b, rfl, Wnt.int t p⟩
  | _ => exact False.elim p
theorem nx_int : NoX1 intD := fun d x h => by cases d <;> cases h
theorem bools_rep {K : KF} {Z : ZS} {H : Hp} : ∀ {ds : List Dat} {bs : List Bool} {xs : List V}, boolsOf ds = some bs → RepA K Z H xs ds → xs = bs.map V.bl
  | [], _, _, h, .nil => by cases h; rfl
  | d :: r, bs, _, h, .cons hd hr => by
    cases d with
    | bl b =>
      unfold boolsOf at h
      obtain ⟨bs', h1, rfl⟩ := Option.map_eq_some_iff.mp h
      cases hd
      rw [bools_rep h1 hr]
      rfl
    | _ => cases h
theorem ints_rep {K : KF} {Z : ZS} {H : Hp} : ∀ {ds : List Dat} {bs : List Int} {xs : List V}, intsOf ds = some bs → RepA K Z H xs ds → xs = bs.map V.int
  | [], _, _, h, .nil => by cases h; rfl
  | d :: r, bs, _, h, .cons hd hr => by
    cases d with
    | int b =>
      unfold intsOf at h
      obtain ⟨bs', h1, rfl⟩ := Option.map_eq_some_iff.mp h
      cases hd
      rw [ints_rep h1 hr]
      rfl
    | _ => cases h
theorem cv_all {K : KF} : CallV1 K (rAll K) .sh .new allD := by
  intro Z H Hs v d Q t s hv p
  cases hv with
  | @lst a xs ds h r =>
    have p : Post (match boolsOf ds with | some bs => R.ok (.bl (bs.all _root_.id)) | none => .bad) (Wnt K Z H Hs .new Q) (fun _ => False) := p
    cases q : boolsOf ds with
    | none => rw [q] at p; exact p.elim
    | some bs =>
      rw [q] at p
      exact ⟨a, bs, rfl, by rw [← bools_rep q r]; exact h, Wnt.bl t p⟩
  | _ => exact False.elim p
theorem nx_all : NoX1 allD := fun d x h => by cases d <;> simp only [allD] at h <;> first | cases h | (split at h <;> cases h)
theorem cv_any {K : KF} : CallV1 K (rAny K) .sh .new anyD := by
  intro Z H Hs v d Q t s hv p
  cases hv with
  | @lst a xs ds h r =>
    have p : Post (match boolsOf ds with | some bs => R.ok (.bl (bs.any _root_.id)) | none => .bad) (Wnt K Z H Hs .new Q) (fun _ => False) := p
    cases q : boolsOf ds with
    | none => rw [q] at p; exact p.elim
    | some bs =>
      rw [q] at p
      exact ⟨a, bs, rfl, by rw [← bools_rep q r]; exact h, Wnt.bl t p⟩
  | _ => exact False.elim p
theorem nx_any : NoX1 anyD := fun d x h => by cases d <;> simp only [anyD] at h <;> first | cases h | (split at h <;> cases h)
theorem cv_sum {K : KF} : CallV1 K (rSum K) .sh .new sumD := by
  intro Z H Hs v d Q t s hv p
  cases hv with
  | @lst a xs ds h r =>
    have p : Post (match intsOf ds with | some bs => R.ok (.int bs.sum) | none => .bad) (Wnt K Z H Hs .new Q) (fun _ => False) := p
    cases q : intsOf ds with
    | none => rw [q] at p; exact p.elim
    | some bs =>
      rw [q] at p
      exact ⟨a, bs, rfl, by rw [← ints_rep q r]; exact h, Wnt.int t p⟩
  | _ => exact False.elim p
theorem nx_sum : NoX1 sumD := fun d x h => by cases d <;> simp only [sumD] at h <;> first | cases h | (split at h <;> cases h)
theorem minI_spec : ∀ (r : List Int) (x : Int), minI x r ∈ x :: r ∧ ∀ y ∈ x :: r, minI x r ≤ y
  | [], x => ⟨List.mem_cons_self, fun y hy => by rw [show y = x by simpa using hy]; exact Int.le_refl _⟩
  | z :: r, x => by
    unfold minI
    by_cases hz : z < x
    · rw [if_pos hz]
      obtain ⟨h1, h2⟩ := minI_spec r z
      refine ⟨List.mem_cons_of_mem _ h1, fun y hy => ?_⟩
      have h3 := h2 z List.mem_cons_self
      rcases List.mem_cons.mp hy with rfl | hy
      · omega
      · exact h2 y hy
    · rw [if_neg hz]
      obtain ⟨h1, h2⟩ := minI_spec r x
      have h3 := h2 x List.mem_cons_self
      refine ⟨?_, fun y hy => ?_⟩
      · rcases List.mem_cons.mp h1 with h | h
        · rw [h]
          exact List.mem_cons_self
        · exact List.mem_cons_of_mem _ (List.mem_cons_of_mem _ h)
      · rcases List.mem_cons.mp hy with rfl | hy
        · exact h3
        · rcases List.mem_cons.mp hy with rfl | hy
          · omega
          · exact h2 y (List.mem_cons_of_mem _ hy)
theorem maxI_spec : ∀ (r : List Int) (x : Int), maxI x r ∈ x :: r ∧ ∀ y ∈ x :: r, y ≤ maxI x r
  | [], x => ⟨List.mem_cons_self, fun y hy => by rw [show y = x by simpa using hy]; exact Int.le_refl _⟩
  | z :: r, x => by
    unfold maxI
    by_cases hz : z > x
    · rw [if_pos hz]
      obtain ⟨h1, h2⟩ := maxI_spec r z
      refine ⟨List.mem_cons_of_mem _ h1, fun y hy => ?_⟩
      have h3 := h2 z List.mem_cons_self
      rcases List.mem_cons.mp hy with rfl | hy
      · omega
      · exact h2 y hy
    · rw [if_neg hz]
      obtain ⟨h1, h2⟩ := maxI_spec r x
      have h3 := h2 x List.mem_cons_self
      refine ⟨?_, fun y hy => ?_⟩
      · rcases List.mem_cons.mp h1 with h | h
        · rw [h]
          exact List.mem_cons_self
        · exact List.mem_cons_of_mem _ (List.mem_cons_of_mem _ h)
      · rcases List.mem_cons.mp hy with rfl | hy
        · exact h3
        · rcases List.mem_cons.mp hy with rfl | hy
          · omega
          · exact h2 y (List.mem_cons_of_mem _ hy)
theorem cv_min {K : KF} : CallV1 K (rMin K) .sh .new minD := by
  intro Z H Hs v d Q t s hv p
  cases hv with
  | @lst a xs ds h r =>
    have p : Post (match intsOf ds with | some (i :: r) => R.ok (.int (minI i r)) | _ => .bad) (Wnt K Z H Hs .new Q) (fun _ => False) := p
    match q : intsOf ds with
    | none => rw [q] at p; exact p.elim
    | some [] => rw [q] at p; exact p.elim
    | some (i :: bs) =>
      rw [q] at p
      obtain ⟨h1, h2⟩ := minI_spec bs i
      refine ⟨a, i :: bs, rfl, by rw [← ints_rep q r]; exact h, by simp, fun mm m1 m2 => ?_⟩
      have e : mm = minI i bs := Int.le_antisymm (m2 _ h1) (h2 _ m1)
      rw [e]
      exact Wnt.int t p
  | _ => exact False.elim p
theorem nx_min : NoX1 minD := fun d x h => by cases d <;> simp only [minD] at h <;> first | cases h | (split at h <;> cases h)
theorem cv_max {K : KF} : CallV1 K (rMax K) .sh .new maxD := by
  intro Z H Hs v d Q t s hv p
  cases hv with
  | @lst a xs ds h r =>
    have p : Post (match intsOf ds with | some (i :: r) => R.ok (.int (maxI i r)) | _ => .bad) (Wnt K Z H Hs .new Q) (fun _ => False) := p
    match q : intsOf ds with
    | none => rw [q] at p; exact p.elim
    | some [] => rw [q] at p; exact p.elim
    | some (i :: bs) =>
      rw [q] at p
      obtain ⟨h1, h2⟩ := maxI_spec bs i
      refine ⟨a, i :: bs, rfl, by rw [← ints_rep q r]; exact h, by simp, fun mm m1 m2 => ?_⟩
      have e : mm = maxI i bs := Int.le_antisymm (h2 _ m1) (m2 _ h1)
      rw [e]
      exact Wnt.int t p
  | _ => exact False.elim p
theorem nx_max : NoX1 maxD := fun d x h => by cases d <;> simp only [maxD] at h <;> first | cases h | (split at h <;> cases h)
theorem cv_min2 {K : KF} : CallV2 K (fun xs H Q => ∃ i j, xs = [.int i, .int j] ∧ Q (.int (if j < i then j else i)) H) .sh .new min2 := by
  intro Z H Hs v u d e Q t s hv hu p
  cases hv with
  | int i =>
    cases hu with
    | int j => exact ⟨i, j, rfl, Wnt.int t p⟩
    | _ => exact False.elim p
  | _ => exact False.elim p
theorem nx_min2 : NoX2 min2 := fun d e x h => by cases d <;> cases e <;> cases h
theorem cv_max2 {K : KF} : CallV2 K (fun xs H Q => ∃ i j, xs = [.int i, .int j] ∧ Q (.int (if j > i then j else i)) H) .sh .new max2 := by
  intro Z H Hs v u d e Q t s hv hu p
  cases hv with
  | int i =>
    cases hu with
    | int j => exact ⟨i, j, rfl, Wnt.int t p⟩
    | _ => exact False.elim p
  | _ => exact False.elim p
theorem nx_max2 : NoX2 max2 := fun d e x h => by cases d <;> cases e <;> cases h
theorem cv_ord {K : KF} : CallV1 K (fun xs H Q => ∃ x : Str, xs = [.str x] ∧ x.length = 1 ∧ Q (.int (x.cps.getD 0 0 : Nat)) H) .sh .new ordD := by
  intro Z H Hs v d Q t s hv p
  cases hv with
  | str x hx =>
    match q : x.cps.toList with
    | [] => rw [q] at p; exact False.elim p
    | [ch] =>
      rw [q] at p
      have hl : x.cps.size = 1 := by rw [← Array.length_toList, q]; rfl
      refine ⟨x, rfl, hl, ?_⟩
      have e : x.cps.getD 0 0 = ch := by
        rw [Array.getD, dif_pos (by omega)]
        have : x.cps[0]? = some ch := by rw [← Array.getElem?_toList, q]; rfl
        simpa [Array.getElem?_eq_getElem (show 0 < x.cps.size by omega)] using this
      rw [e]
      exact Wnt.int t p
    | _ :: _ :: _ => rw [q] at p; exact False.elim p
  | _ => exact False.elim p
theorem nx_ord : NoX1 ordD := fun d x h => by unfold ordD at h; split at h <;> cases h

/-! ### list(x), tuple(x) -/
theorem cv_listL {K : KF} : CallV1 K (fun xs H Q => ∃ p ys, xs = [.ref p] ∧ (SqL K H p ys ∨ SqT K H p ys) ∧ ∀ l, H l = none → Q (.ref l) (upd H l (.lst ys))) .sh .new listLD := by
  intro Z H Hs v d Q t s hv p
  cases hv with
  | lst h r => exact ⟨_, _, rfl, .inl h, fun l hl => Wnt.newL t s p r hl⟩
  | tup h r => exact ⟨_, _, rfl, .inr h.sq, fun l hl => Wnt.newL t s p r hl⟩
  | _ => exact False.elim p
theorem cv_tuple {K : KF} : CallV1 K (fun xs H Q => ∃ p ys, xs = [.ref p] ∧ ((SqL K H p ys ∧ ∀ l, H l = none → Q (.ref l) (upd H l (.tup ys))) ∨ (SqT K H p ys ∧ Q (.ref p) H))) .sh .new tupleLD := by
  intro Z H Hs v d Q t s hv p
  cases hv with
  | lst h r => exact ⟨_, _, rfl, .inl ⟨h, fun l hl => Wnt.tup t p r hl⟩⟩
  | tup h r => exact ⟨_, _, rfl, .inr ⟨h.sq, Wnt.at t p (h.rep r) rfl⟩⟩
  | _ => exact False.elim p
theorem nx_listL : NoX1 listLD := fun d x h => by cases d <;> cases h
theorem nx_tuple : NoX1 tupleLD := fun d x h => by cases d <;> cases h

/-! ### isinstance -/
def tyS : Ty → String
  | .int => "int" | .str => "str" | .bool => "bool" | .list => "list" | .tuple => "tuple" | .dict => "dict"
theorem kit_tab : ∀ T : Ty, kitB "NoneType" (tyS T) = some false ∧ kitB "bool" (tyS T) = some (T == .int || T == .bool) ∧ kitB "int" (tyS T) = some (T == .int) ∧ kitB "str" (tyS T) = some (T == .str) ∧ kitB "list" (tyS T) = some (T == .list) ∧ kitB "tuple" (tyS T) = some (T == .tuple) ∧ kitB "dict" (tyS T) = some (T == .dict)
  | .int => by decide +kernel
  | .str => by decide +kernel
  | .bool => by decide +kernel
  | .list => by decide +kernel
  | .tuple => by decide +kernel
  | .dict => by decide +kernel
theorem isi_read {K : KF} {Z : ZS} {H : Hp} {v : V} {d : Dat} {Q : VK} {T : Ty} (hv : Sh K Z H v d) (p : ∀ b, isTy T d = .ok (.bl b) → Q (.bl b) H) : rIsi K [v, .ty (tyS T)] H Q := by
  obtain ⟨h1, h2, h3, h4, h5, h6, h7⟩ := kit_tab T
  cases hv with
  | non => exact ⟨_, _, _, _, _, rfl, .ty _, .base .non, kit_ty h1, p _ (by cases T <;> rfl)⟩
  | bl b => exact ⟨_, _, _, _, _, rfl, .ty _, .base (.bl b), kit_ty h2, p _ (by cases T <;> rfl)⟩
  | int i => exact ⟨_, _, _, _, _, rfl, .ty _, .base (.int i), kit_ty h3, p _ (by cases T <;> rfl)⟩
  | str x hx => exact ⟨_, _, _, _, _, rfl, .ty _, .base (.str x), kit_ty h4, p _ (by cases T <;> rfl)⟩
  | @lst a xs ds h r =>
    have ty : TyX K H (.ref a) (.type "list") := by
      rcases h with (h | ⟨o, h⟩) | ⟨o, its, n, h, hc, _⟩
      · exact .base (.lst h)
      · exact .base (.frz h)
      · exact .kList h hc
    exact ⟨_, _, _, _, _, rfl, .ty _, ty, kit_ty h5, p _ (by cases T <;> rfl)⟩
  | @tup a xs ds h r =>
    have ty : TyX K H (.ref a) (.type "tuple") := by
      rcases h with ⟨_, h | ⟨o, h⟩⟩ | ⟨o, its, n, h, hc, _⟩
      · exact .base (.tup h)
      · exact .fTuple h
      · exact .kTuple h hc
    exact ⟨_, _, _, _, _, rfl, .ty _, ty, kit_ty h6, p _ (by cases T <;> rfl)⟩
  | dic h r => exact ⟨_, _, _, _, _, rfl, .ty _, .base (.dK h), kit_ty h7, p _ (by cases T <;> rfl)⟩
theorem q_isi {y : Str} {T : Ty} {py : Pos} (hK : c.K = X.K) (hg : Gl X "isinstance") (hm : X.mg "isinstance" = none) (hgT : Gl X y) (hmT : X.mg y = none) (hvT : bootBuiltins y = some (.type (tyS T))) (hnT : y ≠ "__name__") (hdT : (y == ("__debug__" : Str)) = false) (ha : PE X a (qE c W own .sh m))
    (hs : starEach (a :: [.Name y py]) X.env = (false, eval a X.env) :: starEach [.Name y py] X.env := by rfl) (hs2 : starEach (.Name y py :: []) X.env = (false, eval (.Name y py) X.env) :: starEach [] X.env := by rfl) (hpl : (backTo pos (starEach [.Name y py] X.env)).any (·.1) = false := by rfl) :
    PE X (.Call (.Name "isinstance" p) [a, .Name y py] [] pos) (qE c W own .new (e1 (isTy T) m)) := by
  have hT : PE X (.Name y py) (tC (.ty (tyS T))) := pe_bltn hgT hmT hvT rfl hnT hdT
  refine (pe_callB call_isi hg hm boot_isinstance (pa_cons ha (pa_cons hT pa_nil hs2) hs) (by decide) (by decide) hs hpl).imp fun σ H Q ⟨Z, ρ, S, p⟩ => ⟨Z, ρ, S, (Post.bnd p).imp (fun d p1 v Z1 H1 x1 hv => ?_) fun _ q => q⟩
  show rIsi X.K [v, .ty (tyS T)] H1 Q
  rw [← hK]
  refine isi_read hv fun b hb => ?_
  rw [hb] at p1
  exact p1 (.bl b) Z1 H1 x1 (Rep.kd .new (.bl b) rfl)
end
end PL

set_option maxRecDepth 100000
set_option maxHeartbeats 4000000
namespace PL
open PySem PySem.Spec PyProof.Rows L2
set_option autoImplicit false

section
variable {X : Cx} {c : Ct} {W : WX} {own own' ownL : List Nat} {a b ee o : Expr} {es : List Expr} {m m1 m2 m3 : EM} {ms : LM} {pos p p2 apos : Pos} {k k1 k2 : Kd} {x : Str} {id T : String}
/-! ### sep.join(xs) -/
theorem strs_rep {K : KF} {Z : ZS} {H : Hp} : ∀ {ds : List Dat} {ss : List (List Nat)} {xs : List V}, strsOf ds = some ss → RepA K Z H xs ds → ∃ ys : List Str, xs = ys.map V.str ∧ ss = ys.map (fun y => y.cps.toList) ∧ ∀ y ∈ ys, okS y.cps.toList
  | [], _, _, h, .nil => by cases h; exact ⟨[], rfl, rfl, fun y hy => (by cases hy)⟩
  | d :: r, ss, _, h, .cons hd hr => by
    cases d with
    | str b =>
      unfold strsOf at h
      obtain ⟨ss', h1, rfl⟩ := Option.map_eq_some_iff.mp h
      cases hd with
      | str y hy =>
        obtain ⟨ys, rfl, rfl, h3⟩ := strs_rep h1 hr
        refine ⟨y :: ys, rfl, rfl, fun z hz => ?_⟩
        rcases List.mem_cons.mp hz with rfl | hz
        · exact hy
        · exact h3 z hz
    | _ => cases h
theorem join_cps (sep : Str) : ∀ ys : List Str, (Str.join sep ys).cps.toList = joinS sep.cps.toList (ys.map fun y => y.cps.toList)
  | [] => rfl
  | [y] => rfl
  | y :: z :: r => by
    show (y ++ sep ++ Str.join sep (z :: r)).cps.toList = _
    rw [cpsApp, cpsApp, join_cps sep (z :: r)]
    rfl
theorem joinS_ok {sep : List Nat} (hs : okS sep) : ∀ {ss : List (List Nat)}, (∀ s ∈ ss, okS s) → (∀ c ∈ joinS sep ss, c < 1114112) ∧ (joinS sep ss).length ≤ (ss.map (·.length)).sum + ss.length * sep.length
  | [], _ => ⟨fun c hc => (by cases hc), by simp [joinS]⟩
  | [s], h => ⟨fun c hc => (h s List.mem_cons_self).1 c hc, by simp [joinS]⟩
  | s :: z :: r, h => by
    obtain ⟨h1, h2⟩ := joinS_ok hs (ss := z :: r) fun y hy => h y (List.mem_cons_of_mem _ hy)
    refine ⟨fun c hc => ?_, ?_⟩
    · rcases List.mem_append.mp (show c ∈ s ++ sep ++ joinS sep (z :: r) from hc) with q | q
      · rcases List.mem_append.mp q with q | q
        · exact (h s List.mem_cons_self).1 c q
        · exact hs.1 c q
      · exact h1 c q
    · show (s ++ sep ++ joinS sep (z :: r)).length ≤ _
      rw [List.length_append, List.length_append]
      simp only [List.map_cons, List.sum_cons, List.length_cons] at h2 ⊢
      rw [Nat.add_mul, Nat.one_mul]
      omega
theorem mt_read1 {r : V → List V → Hp → VK → Prop} {f : Dat → Dat → R Dat} {σ : St} {H : Hp} {Q : VK} (hr : ∀ (Z : ZS) (H Hs : Hp) (z : Str) (u : V) (e : Dat) (Q : VK), Trk Z H → Same Hs H → okS z.cps.toList → Sh c.K Z H u e → Post (f (.str z.cps.toList) e) (Wnt c.K Z H Hs .new Q) (fun _ => False) → r (.str z) [u] H Q)
    (nx : NoX2 f) (h : qE c W own .new (eM1 f m1 m2) σ H Q) : tM1 r (qE c W own .sh m1) (qE c W own .sh m2) σ H Q := by
  obtain ⟨Z, ρ, S, p⟩ := h
  refine ⟨Z, ρ, S, (Post.bnd p).imp (fun d p v Z1 H1 x1 hv => ?_) fun _ q => q⟩
  have hv : Sh c.K Z1 H1 v d := hv
  cases hv with
  | str z hz =>
    have p : Post ((m2 ρ).bnd fun y => f (.str z.cps.toList) y) _ _ := p
    exact ⟨⟨z, rfl⟩, Z1, ρ, S.move x1, (Post.bnd p).imp (fun e' p2 u Z2 H2 x2 hu => hr Z2 H2 H z u e' Q x2.trk (x1.same.trans x2.same) hz hu ((Post.nox (nx _ e') p2).imp (fun z q w Z3 H3 x3 hw => q w Z3 H3 ((x1.trans x2).trans x3) hw) fun _ q => q)) fun n q => q.move x1⟩
  | _ => exact False.elim p
theorem nx_join : NoX2 joinD := fun d e x h => by
  unfold joinD at h
  split at h <;> first | cases h | (split at h <;> first | cases h | (split at h <;> cases h))
theorem join_read {K : KF} {Z : ZS} {H Hs : Hp} {z : Str} {u : V} {e : Dat} {Q : VK} (t : Trk Z H) (hz : okS z.cps.toList) (hu : Sh K Z H u e) (p : Post (joinD (.str z.cps.toList) e) (Wnt K Z H Hs .new Q) (fun _ => False)) :
    ∃ a p, ∃ ys : List Str, V.str z = .str a ∧ [u] = [.ref p] ∧ (SqL K H p (ys.map V.str) ∨ SqT K H p (ys.map V.str)) ∧ (ys.map (·.length)).sum + ys.length * a.length ≤ 16777216 ∧ Q (.str (Txt.join a ys)) H := by
  have key : ∀ (q : Addr) (xs : List V) (ds : List Dat), RepA K Z H xs ds → (SqL K H q xs ∨ SqT K H q xs) → Post (match strsOf ds with | some ss => if (ss.map (·.length)).sum + ss.length * z.cps.toList.length ≤ LINE then R.ok (.str (joinS z.cps.toList ss)) else .bad | none => .bad) (Wnt K Z H Hs .new Q) (fun _ => False) →
      ∃ a p, ∃ ys : List Str, V.str z = .str a ∧ [V.ref q] = [.ref p] ∧ (SqL K H p (ys.map V.str) ∨ SqT K H p (ys.map V.str)) ∧ (ys.map (·.length)).sum + ys.length * a.length ≤ 16777216 ∧ Q (.str (Txt.join a ys)) H := fun q xs ds r hq p => by
    cases hs : strsOf ds with
    | none => rw [hs] at p; exact p.elim
    | some ss =>
      rw [hs] at p
      obtain ⟨hl, p⟩ := Post.ite p
      obtain ⟨ys, rfl, rfl, hy⟩ := strs_rep hs r
      have e1 : (ys.map fun y => y.cps.toList).map (·.length) = ys.map (·.length) := by
        rw [List.map_map]
        apply List.map_congr_left
        intro y _
        simp [Str.length]
      have e2 : z.cps.toList.length = z.length := by simp [Str.length]
      obtain ⟨j1, j2⟩ := joinS_ok hz (ss := ys.map fun y => y.cps.toList) (fun s hs => by
        obtain ⟨y, h1, rfl⟩ := List.mem_map.mp hs
        exact hy y h1)
      refine ⟨z, q, ys, rfl, rfl, hq, ?_, ?_⟩
      · rw [e1, List.length_map, e2] at hl
        exact hl
      · have e3 : Txt.join z ys = Str.join z ys := StrLaws.glued_eq_join z ys
        rw [e3]
        exact Wnt.str t p (join_cps z ys) ⟨j1, Nat.le_trans j2 hl⟩
  cases hu with
  | lst h r => exact key _ _ _ r (.inl h) p
  | tup h r => exact key _ _ _ r (.inr h.sq) p
  | _ => exact False.elim p
theorem q_join (hK : c.K = X.K) (ho : PE X o (qE c W own .sh m1)) (he : PE X ee (qE c W own .sh m2)) (hs : starEach [ee] X.env = [(false, eval ee X.env)] := by rfl) (hbase : attributeBase o "join" X.env (eval o X.env) = eval o X.env := by rfl) (hline : (apos.endLine == pos.line) = true := by rfl) :
    PE X (.Call (.Attribute o "join" apos) [ee] [] pos) (qE c W own .new (eM1 joinD m1 m2)) :=
  (pe_m1 (PySem.F.slot_str_join) PySem.F.type_str_join mt_join ho he hs hbase hline).imp fun σ H Q h => mt_read1 (fun Z H Hs z u e Q t s hz hu p => by rw [← hK]; exact join_read t hz hu p) nx_join h
/-! ### x.startswith(y) -/
theorem starts_eq (x y : Str) : Txt.startswith x y = begins y.cps.toList x.cps.toList := by
  unfold Txt.startswith
  rw [Bool.eq_iff_iff, Bool.and_eq_true, decide_eq_true_iff, sub_iff, begins_iff]
  simp only [Str.length, List.drop_zero, Array.length_toList, Nat.zero_add]
theorem nx_starts : NoX2 startsD := fun d e x h => by cases d <;> cases e <;> cases h
theorem q_starts (ho : PE X o (qE c W own .sh m1)) (he : PE X ee (qE c W own .sh m2)) (hs : starEach [ee] X.env = [(false, eval ee X.env)] := by rfl) (hbase : attributeBase o "startswith" X.env (eval o X.env) = eval o X.env := by rfl) (hline : (apos.endLine == pos.line) = true := by rfl) :
    PE X (.Call (.Attribute o "startswith" apos) [ee] [] pos) (qE c W own .new (eM1 startsD m1 m2)) :=
  (pe_m1 (PySem.F.slot_str_startswith) PySem.F.type_str_startswith mt_startswith ho he hs hbase hline).imp fun σ H Q h => mt_read1 (fun Z H Hs z u e Q t s hz hu p => by
    cases hu with
    | str y hy => exact ⟨z, y, rfl, rfl, by rw [starts_eq]; exact Wnt.bl t p⟩
    | _ => exact False.elim p) nx_starts h
/-! ### x.index(sign) -/
theorem occ_kept (s sub : Str) (hi : Nat) : ∀ (l : List Nat) (k free : Nat), (forIn l ((#[k] : Array Nat), free) (StrLaws.occBody s sub hi 1)).run.fst = #[k]
  | [], k, free => rfl
  | a :: l, k, free => by
    rw [List.forIn_cons]
    unfold StrLaws.occBody
    rw [if_neg (by simp)]
    exact occ_kept s sub hi l k free
theorem occ_first (s sub : Str) (hi : Nat) : ∀ (n lo free : Nat), free ≤ lo → ∀ k, lo ≤ k → k < lo + n → (k + sub.length ≤ hi ∧ Builtin.Str.subAt s sub k = true) → (∀ j, lo ≤ j → j < k → ¬ (j + sub.length ≤ hi ∧ Builtin.Str.subAt s sub j = true)) →
    (forIn (List.range' lo n) ((#[] : Array Nat), free) (StrLaws.occBody s sub hi 1)).run.fst = #[k]
  | 0, lo, free, hf, k, h1, h2, _, _ => by omega
  | n + 1, lo, free, hf, k, h1, h2, hk, hn => by
    rw [List.range'_succ, List.forIn_cons]
    unfold StrLaws.occBody
    by_cases e : lo = k
    · subst e
      rw [if_pos ⟨⟨⟨by simp, hf⟩, hk.1⟩, hk.2⟩]
      exact occ_kept s sub hi _ lo _
    · rw [if_neg (fun z => hn lo (Nat.le_refl _) (by omega) ⟨z.1.2, z.2⟩)]
      exact occ_first s sub hi n (lo + 1) free (by omega) k (by omega) (by omega) hk fun j j1 j2 => hn j (by omega) j2
theorem index_occ {s : Str} {ch k : Nat} (h : s.cps.toList.findIdx? (· == ch) = some k) : Builtin.Str.occurrences s ⟨#[ch]⟩ 0 s.length 1 = [k] := by
  obtain ⟨hk, h1, h2⟩ := List.findIdx?_eq_some_iff_getElem.mp h
  rw [StrLaws.occ_eq]
  have hsz : s.cps.toList.length = s.length := by simp [Str.length]
  rw [occ_first s ⟨#[ch]⟩ s.length _ 0 0 (Nat.le_refl _) k (Nat.zero_le _) (by omega) ((StrLaws.subAt_one s ch k).mpr ?_) fun j _ hj z => ?_]
  · rw [List.getElem?_eq_getElem hk]
    congr 1
    simpa using h1
  · have := (StrLaws.subAt_one s ch j).mp z
    have h3 := h2 j hj
    rw [List.getElem?_eq_getElem (by omega)] at this
    exact h3 (by simpa using Option.some.inj this)
theorem nx_index : NoX2 indexD := fun d e x h => by
  unfold indexD at h
  split at h <;> first | cases h | (split at h <;> cases h)
theorem q_index (ho : PE X o (qE c W own .sh m1)) (he : PE X ee (qE c W own .sh m2)) (hs : starEach [ee] X.env = [(false, eval ee X.env)] := by rfl) (hbase : attributeBase o "index" X.env (eval o X.env) = eval o X.env := by rfl) (hline : (apos.endLine == pos.line) = true := by rfl) :
    PE X (.Call (.Attribute o "index" apos) [ee] [] pos) (qE c W own .new (eM1 indexD m1 m2)) :=
  (pe_m1 (PySem.F.slot_str_index) PySem.F.type_str_index mt_sindex ho he hs hbase hline).imp fun σ H Q h => mt_read1 (fun Z H Hs z u e Q t s hz hu p => by
    cases hu with
    | str y hy =>
      match q : y.cps.toList with
      | [] => rw [q] at p; exact False.elim p
      | [ch] =>
        rw [q] at p
        have ey : y = ⟨#[ch]⟩ := by
          cases y with
          | mk cps => rw [show cps = #[ch] from Array.toList_inj.mp q]
        have p : Post (match z.cps.toList.findIdx? (· == ch) with | some k => R.ok (Dat.int k) | none => .bad) (Wnt c.K Z H Hs .new Q) (fun _ => False) := p
        cases hf : z.cps.toList.findIdx? (· == ch) with
        | none => rw [hf] at p; exact p.elim
        | some kk =>
          rw [hf] at p
          exact ⟨z, y, kk, [], rfl, rfl, by rw [ey]; exact index_occ hf, Wnt.int t p⟩
      | _ :: _ :: _ => rw [q] at p; exact False.elim p
    | _ => exact False.elim p) nx_index h
end
end PL

set_option maxRecDepth 100000
set_option maxHeartbeats 4000000
namespace PL
open PySem PySem.Spec PyProof.Rows L2
set_option autoImplicit false

section
variable {X : Cx} {c : Ct} {W : WX} {own own' ownL : List Nat} {a b ee o : Expr} {es : List Expr} {m m1 m2 m3 : EM} {ms : LM} {pos p p2 apos tpos : Pos} {k k1 k2 : Kd} {x : Str} {i : Nat}
/-! ### x op= e -/
theorem iopU_add : PIp X .Add (fun x y H Q => (∃ i j, x = .int i ∧ y = .int j ∧ Q (.int (i + j)) H) ∨ (∃ i j, x = .str i ∧ y = .str j ∧ i.length + j.length ≤ sizeLine ∧ Q (.str (i ++ j)) H)) := fun pins s σ H x y v u Q I rx ry q => by
  rcases q with q | q
  · exact iop_add pins s σ H x y v u Q I rx ry q
  · exact iop_add_str pins s σ H x y v u Q I rx ry q
theorem nx_addF : NoX2 addF := fun d e x h => by cases d <;> cases e <;> simp only [addF] at h <;> first | cases h | (split at h <;> cases h)
theorem qs_augG {op : Operator} {ti : TIp} {f : Dat → Dat → R Dat} (hN : X.N.Nodup) (hi : X.N[i]? = some x) (hx : Loc X.env.scope x) (hf : X.fn x = true ∨ X.env.scope.names.lookup x = some .local) (hio : i ∉ own) (hn : c.xs.all (fun p => p.1 != i) = true) (he : PE X ee (qE c W own .sh m)) (hop : PIp X op ti) (nx : NoX2 f)
    (hr : ∀ (Z : ZS) (H Hs : Hp) (v u : V) (d e : Dat) (Q : VK), Trk Z H → Same Hs H → Sh c.K Z H v d → Sh c.K Z H u e → Post (f d e) (Wnt c.K Z H Hs .frz Q) (fun _ => False) → ti v u H Q) :
    PS X (.AugAssign (.Name x p) op ee pos) (qS c W own own ownL (sAug f i m)) := (ps_aug hN hi hx he hop hf).imp fun D σ H ⟨Z, ρ, S, p⟩ => by
  unfold sAug sAsg e2 eV at p
  have p := PostS.lft S p
  have p := Post.bnd p
  cases e : ρ[i]? with
  | none => rw [e] at p; exact p.elim
  | some od =>
    cases od with
    | none => rw [e] at p; exact p.elim
    | some d =>
      rw [e] at p
      have p := Post.bnd p
      have nex : ∀ y, d ≠ .exc y := fun y z => by
        subst z
        obtain ⟨a, e1, _⟩ := S.exc i y e
        rw [e1] at hn
        simp at hn
      obtain ⟨v, hv, rv⟩ := S.val i d e hio nex
      refine ⟨v, hv, Z, ρ, S, Post.imp p (fun e' p2 u Z1 H1 x1 hu => ?_) fun _ q => q⟩
      refine hr Z1 H1 H v u d e' _ x1.trk x1.same (Sh.ext x1 rv.sh) hu ((Post.nox (nx d e') p2).imp (fun z q w Z2 H2 x2 hw => ?_) fun _ q => q)
      have q := PostS.gok q
      unfold gV at q
      obtain ⟨hl, q⟩ := Post.ite q
      have S2 := ((S.move x1).move x2).set (i := i) hw hl
      have hfil : own.filter (· != i) = own := List.filter_eq_self.mpr fun j hj => by simpa using fun z : j = i => hio (z ▸ hj)
      rw [hfil] at S2
      exact q Z2 H2 _ (x1.trans x2).adv S2
theorem qs_augAdd (hN : X.N.Nodup) (hi : X.N[i]? = some x) (hx : Loc X.env.scope x) (hf : X.fn x = true ∨ X.env.scope.names.lookup x = some .local) (hio : i ∉ own) (hn : c.xs.all (fun p => p.1 != i) = true) (he : PE X ee (qE c W own .sh m)) :
    PS X (.AugAssign (.Name x p) .Add ee pos) (qS c W own own ownL (sAug addF i m)) := qs_augG hN hi hx hf hio hn he iopU_add nx_addF fun Z H Hs v u d e Q t s hv hu p => by
  cases hv with
  | int i =>
    cases hu with
    | int j => exact .inl ⟨i, j, rfl, rfl, Wnt.int t p⟩
    | _ => exact False.elim p
  | str x hx =>
    cases hu with
    | str y hy =>
      obtain ⟨hz, p⟩ := Post.ite p
      have hz2 := hz
      rw [line_eq] at hz
      exact .inr ⟨x, y, rfl, rfl, by simpa [Str.length] using hz, Wnt.str t p (cpsApp x y) (okS_app hx hy hz2)⟩
    | _ => exact False.elim p
  | _ => exact False.elim p
theorem qs_augSub (hN : X.N.Nodup) (hi : X.N[i]? = some x) (hx : Loc X.env.scope x) (hf : X.fn x = true ∨ X.env.scope.names.lookup x = some .local) (hio : i ∉ own) (hn : c.xs.all (fun p => p.1 != i) = true) (he : PE X ee (qE c W own .sh m)) :
    PS X (.AugAssign (.Name x p) .Sub ee pos) (qS c W own own ownL (sAug subD i m)) := qs_augG hN hi hx hf hio hn he (ti := rI0 fun i j => .int (i - j)) iop_sub nx_sub fun Z H Hs v u d e Q t s hv hu p => by
  cases hv with
  | int i =>
    cases hu with
    | int j => exact ⟨i, j, rfl, rfl, Wnt.int t p⟩
    | _ => exact False.elim p
  | _ => exact False.elim p

/-! ### x[k] = e, x own -/
section
variable {K : KF} {Z : ZS} {H : Hp} {kk : Key} {v : V} {d : Dat}
theorem dic_any : ∀ {ks : List (Key × V)} {kvs : List (Dat × Dat)}, RepD K Z H ks kvs → (ks.any fun kv => decide (kv.1 = kk)) = kvs.any (keyEq (kD kk))
  | _, _, .nil => rfl
  | _, _, @RepD.cons _ _ _ j w r e t ok h rr => by
    rw [List.any_cons, List.any_cons, dic_any rr]
    congr 1
    exact (kD_eq j kk).symm
theorem dic_map (hv : Rep K Z H v d) : ∀ {ks : List (Key × V)} {kvs : List (Dat × Dat)}, RepD K Z H ks kvs → RepD K Z H (ks.map fun kv => if kv.1 = kk then (kv.1, v) else kv) (kvs.map fun p => if keyEq (kD kk) p then (p.1, d) else p)
  | _, _, .nil => .nil
  | _, _, @RepD.cons _ _ _ j w r e t ok h rr => by
    rw [List.map_cons, List.map_cons]
    have q : keyEq (kD kk) (kD j, e) = decide (j = kk) := kD_eq j kk
    by_cases hj : j = kk
    · rw [if_pos hj, if_pos (by rw [q]; exact decide_eq_true hj)]
      exact .cons ok hv (dic_map hv rr)
    · rw [if_neg hj, if_neg (by rw [q]; simpa using hj)]
      exact .cons ok h (dic_map hv rr)
theorem RepD.append : ∀ {a b : List (Key × V)} {d e : List (Dat × Dat)}, RepD K Z H a d → RepD K Z H b e → RepD K Z H (a ++ b) (d ++ e)
  | _, _, _, _, .nil, s => s
  | _, _, _, _, .cons o h r, s => .cons o h (RepD.append r s)
theorem dic_put (hv : Rep K Z H v d) (ok : okK kk) {ks : List (Key × V)} {kvs : List (Dat × Dat)} (r : RepD K Z H ks kvs) : RepD K Z H (putK ks kk v) (dicPut kvs (kD kk) d) := by
  unfold putK dicPut
  rw [dic_any r]
  by_cases h : kvs.any (keyEq (kD kk)) = true
  · rw [if_pos h, if_pos h]
    exact dic_map hv r
  · rw [if_neg h, if_neg h]
    exact r.append (.cons ok hv .nil)
end
theorem set_U (hu : X.A.units + 1 < cLine) : PSet X (fun o i v H Q => rSetL o i v H Q ∨ rSetD o i v H Q) := by
  intro pins s σ H o i v ov iv u Q I ro ri rv h
  rcases h with h | h
  · exact set_list pins s σ H o i v ov iv u Q I ro ri rv h
  · exact set_dict hu pins s σ H o i v ov iv u Q I ro ri rv h
theorem qs_put {kx : Expr} {mk : EM} {p0 : Pos} (hu : X.A.units + 1 < cLine) (hi : i ∈ own) (hv : PE X (.Name x p0) (tVar i)) (hk : PE X kx (qE c W own .sh mk)) (he : PE X ee (qE c W own .frz m))
    (hs : swapsWithSole [.Subscript (.Name x p0) kx tpos] ee pos.line X.env = pure false := by rfl) (hw : swappedStores [.Subscript (.Name x p0) kx tpos] ee X.env = pure none := by rfl)
    (h1 : (assignEach [.Subscript (.Name x p0) kx tpos] X.env).map (·.2) = [assign (.Subscript (.Name x p0) kx tpos) X.env] := by rfl)
    (ha : ∀ v, assign (.Subscript (.Name x p0) kx tpos) X.env v = (do
      let ov ← holding [v] (eval (.Name x p0) X.env)
      let iv ← holding [v, ov] (eval kx X.env)
      standAt tpos
      holding [v, ov, iv] (setItem ov iv v)
      release [v, ov, iv] []) := by intro _; rfl) : PS X (.Assign [.Subscript (.Name x p0) kx tpos] ee pos) (qS c W own own ownL (sPut i mk m)) := (ps_asg he (pg_sub hv hk (set_U hu) ha) hs hw h1).imp fun D σ H ⟨Z, ρ, S, p⟩ => by
  obtain ⟨l, d0, e1, e2, nz, h0, t0⟩ := S.ow i hi
  unfold sPut at p
  rw [e1] at p
  cases d0 with
  | lst ds =>
    obtain ⟨xs, hH, hr⟩ := t0
    refine ⟨Z, ρ, S, (PostS.lft S p).imp (fun d p1 v Z1 H1 x1 hvv => ⟨_, e2, Z1, ρ, S.move x1, (PostS.lft (S.move x1) (PostS.move x1.adv p1)).imp (fun z p2 w Z2 H2 x2 hw => ?_) fun _ q => q⟩) fun _ q => q⟩
    cases z with
    | int j =>
      have hw : Sh c.K Z2 H2 w (.int j) := hw
      cases hw
      have p2 : PostS c W own ownL Z1 H1 D (match placeOf j ds.length with | some n => some (.nx, ρ.set i (some (.lst (ds.set n d)))) | none => none) := p2
      cases hp : placeOf j ds.length with
      | none => rw [hp] at p2; exact p2.elim
      | some n =>
        rw [hp] at p2
        have S2 := (S.move x1).move x2
        have x12 := x1.trans x2
        have hH2 := x12.same _ _ hH
        have nl : ¬ Z2 l := x12.not hH nz
        obtain ⟨ad2, S3⟩ := S2.mut (d := .lst (ds.set n d)) hi e2 ⟨xs.set n v, upd_same, (RepA.set n (hr.adv x12.adv) (Rep.adv x2.adv hvv)).adv (.chg nl)⟩ (fun y z => by cases z)
        exact .inl ⟨l, xs, j, n, rfl, rfl, hH2, by rw [hr.len]; exact hp, p2 Z2 _ σ (x2.adv.trans ad2) S3⟩
    | _ => exact False.elim p2
  | dic ds =>
    obtain ⟨ks, hH, hr⟩ := t0
    refine ⟨Z, ρ, S, (PostS.lft S p).imp (fun d p1 v Z1 H1 x1 hvv => ⟨_, e2, Z1, ρ, S.move x1, (PostS.lft (S.move x1) (PostS.move x1.adv p1)).imp (fun z p2 w Z2 H2 x2 hw => ?_) fun _ q => q⟩) fun _ q => q⟩
    have p2 : PostS c W own ownL Z1 H1 D (if isKey z = true ∧ ds.length < LINE then some (.nx, ρ.set i (some (.dic (dicPut ds z d)))) else none) := p2
    by_cases hz : isKey z = true ∧ ds.length < LINE
    · rw [if_pos hz] at p2
      obtain ⟨kk, rfl, rfl, ok⟩ := kv_rep hw hz.1
      have S2 := (S.move x1).move x2
      have x12 := x1.trans x2
      have hH2 := x12.same _ _ hH
      have nl : ¬ Z2 l := x12.not hH nz
      obtain ⟨ad2, S3⟩ := S2.mut (d := .dic (dicPut ds (kD kk) d)) hi e2 ⟨putK ks kk v, upd_same, (dic_put (Rep.adv x2.adv hvv) ok (hr.adv x12.adv)).adv (.chg nl)⟩ (fun y z => by cases z)
      exact .inr ⟨l, _, rfl, DPut.k hH2 (by rw [hr.len, ← line_eq]; exact hz.2), p2 Z2 _ σ (x2.adv.trans ad2) S3⟩
    · rw [if_neg hz] at p2
      exact p2.elim
  | _ => exact t0.elim

/-! ### {k: v, ..} -/
/-- the readings of a display's pairs -/
def qPrs (c : Ct) (W : WX) (own : List Nat) (ps : List (EM × EM)) : List (TE × TE) := ps.map fun p => (qE c W own .sh p.1, qE c W own .frz p.2)
theorem prs_read {c : Ct} {W : WX} {own : List Nat} : ∀ (ps : List (EM × EM)) {σ : St} {Z : ZS} {H : Hp} {ρ : Env} {Q : List (V × V) → Hp → Prop}, SE c own Z H σ ρ →
    Post (ePrs ps ρ) (fun t => ∀ vs Z' H', Ext Z H Z' H' → vs.length = t.length → (∀ (i : Nat) p d, vs[i]? = some p → t[i]? = some d → Sh c.K Z' H' p.1 d.1 ∧ Rep c.K Z' H' p.2 d.2) → Q vs H') (PX c W Z H σ) → tPairs (qPrs c W own ps) σ H Q
  | [], σ, Z, H, ρ, Q, S, p => p [] Z H (.refl S.trk) rfl (fun i p d h => by simp at h)
  | (k, v) :: r, σ, Z, H, ρ, Q, S, p => by
    refine ⟨Z, ρ, S, (Post.bnd p).imp (fun dk p1 x Z1 H1 x1 hx => ⟨Z1, ρ, S.move x1, (Post.bnd p1).imp (fun dv p2 y Z2 H2 x2 hy => ?_) fun n q => PX.move x1 q⟩) fun _ q => q⟩
    refine prs_read r ((S.move x1).move x2) ((Post.bnd p2).imp (fun t p3 vs Z3 H3 x3 hl hh => ?_) fun n q => PX.move (x1.trans x2) q)
    refine p3 ((x, y) :: vs) Z3 H3 ((x1.trans x2).trans x3) (by simp [hl]) fun i p d h1 h2 => ?_
    cases i with
    | zero =>
      cases h1
      cases h2
      exact ⟨(Sh.ext x2 hx).ext x3, Rep.adv x3.adv hy⟩
    | succ i => exact hh i p d (by simpa using h1) (by simpa using h2)
theorem keys_of {K : KF} {Z : ZS} {H : Hp} : ∀ {vs : List (V × V)} {t : List (Dat × Dat)}, vs.length = t.length → t.all (fun p => isKey p.1) = true → (∀ (i : Nat) p d, vs[i]? = some p → t[i]? = some d → Sh K Z H p.1 d.1 ∧ Rep K Z H p.2 d.2) → ∃ kvs : List (Key × V), vs = kvs.map (fun kv => (kV kv.1, kv.2)) ∧ kvs.length = t.length ∧
    ∀ (ks0 : List (Key × V)) (d0 : List (Dat × Dat)), RepD K Z H ks0 d0 → RepD K Z H (mergeK ks0 kvs) (t.foldl (fun d p => dicPut d p.1 p.2) d0)
  | [], [], _, _, _ => ⟨[], rfl, rfl, fun ks0 d0 h => h⟩
  | p :: vs, d :: t, hl, hk, hh => by
    rw [List.all_cons, Bool.and_eq_true] at hk
    obtain ⟨kvs, h1, h2, h3⟩ := keys_of (vs := vs) (t := t) (by simpa using hl) hk.2 fun i p d e1 e2 => hh (i + 1) p d (by simpa using e1) (by simpa using e2)
    obtain ⟨q1, q2⟩ := hh 0 p d rfl rfl
    obtain ⟨kk, e1, e2, ok⟩ := kv_rep q1 hk.1
    refine ⟨(kk, p.2) :: kvs, by rw [h1, List.map_cons, ← e1], by simp [h2], fun ks0 d0 h => ?_⟩
    show RepD K Z H (mergeK (putK ks0 kk p.2) kvs) (t.foldl (fun d p => dicPut d p.1 p.2) (dicPut d0 d.1 d.2))
    rw [e2]
    exact h3 _ _ (dic_put q2 ok h)
theorem q_disp {keys : List (Option Expr)} {values : List Expr} {ps : List (EM × EM)} (h : PPs X pos keys values (qPrs c W own ps)) (hall : keys.all (·.isSome) = true) (hl : keys.length = values.length) (h0 : keys ≠ []) (h15 : keys.length ≤ 15) (hp : ps.length ≤ 15) : PE X (.Dict keys values pos) (qE c W own .new (eDisp ps)) := (pe_disp h hall hl h0 h15).imp fun σ H Q ⟨Z, ρ, S, p⟩ => fun d hd => by
  have x0 : Ext Z H Z (upd H d (.dK [])) := .laid S.trk hd
  have nd : ¬ Z d := fun z => by
    obtain ⟨o, e⟩ := S.trk d z
    rw [hd] at e; cases e
  refine prs_read ps (S.move x0) ?_
  have hlen : ∀ (ps : List (EM × EM)) t, ePrs ps ρ = .ok t → t.length = ps.length := by
    intro ps
    induction ps with
    | nil => intro t h; cases h; rfl
    | cons p r ih =>
      intro t h
      obtain ⟨k, v⟩ := p
      unfold ePrs at h
      cases q1 : k ρ with
      | ok x =>
        rw [q1] at h
        simp only [PL.R.bnd_ok] at h
        cases q2 : v ρ with
        | ok y =>
          rw [q2] at h
          simp only [PL.R.bnd_ok] at h
          cases q3 : ePrs r ρ with
          | ok t' =>
            rw [q3] at h
            cases h
            simp [ih t' q3]
          | exc z => rw [q3] at h; cases h
          | bad => rw [q3] at h; cases h
        | exc z => rw [q2] at h; cases h
        | bad => rw [q2] at h; cases h
      | exc z => rw [q1] at h; cases h
      | bad => rw [q1] at h; cases h
  have p := Post.bnd p
  cases q : ePrs ps ρ with
  | bad => rw [q] at p; exact p.elim
  | exc y => rw [q] at p; exact PX.move x0 p
  | ok t =>
    rw [q] at p
    obtain ⟨hk, p⟩ := Post.ite (b := t.all (fun p => isKey p.1) = true) p
    intro vs Z1 H1 x1 hl hh
    obtain ⟨kvs, h1, h2, h3⟩ := keys_of hl hk hh
    have nd1 := x1.not (o := .dK []) upd_same nd
    refine ⟨x1.same _ _ upd_same, kvs, h1, by rw [h2, hlen ps t q]; exact hp, ?_⟩
    have x2 := ((x0.trans x1).chg (o := .dK (mergeK [] kvs)) hd nd1)
    exact p (.ref d) Z1 _ x2 ⟨fun _ => ⟨d, rfl, nd1, hd, _, upd_same, (h3 [] [] .nil).adv (.chg nd1)⟩, fun z => by cases z⟩
end
end PL

set_option maxRecDepth 100000
set_option maxHeartbeats 4000000
namespace PL
open PySem PySem.Spec PyProof.Rows L2
set_option autoImplicit false

/-- the context of an except suite that holds an error -/
def Ct.held (c : Ct) (i : Nat) (a : Addr) (y : Nat) : Ct := { c with xs := some (i, a, y) }
section
variable {c : Ct} {own : List Nat} {Z : ZS} {H : Hp} {σ : St} {ρ : Env} {i y : Nat} {a : Addr}
theorem SE.hold (S : SE c [] Z H σ ρ) (hx : c.xs = none) (hi : i < ρ.length) : SE (c.held i a y) [] Z H (σ.set i (some (.ref a))) (ρ.set i (some (.exc y))) where
  ext := S.ext
  len := by simp [S.len]
  val := fun j d e n nx => by
    rw [get_set] at e
    rw [get_set, S.len]
    by_cases h : i = j ∧ j < ρ.length
    · rw [if_pos h] at e
      cases e
      exact absurd rfl (nx y)
    · rw [if_neg h] at e ⊢
      exact S.val j d e n nx
  exc := fun j x e => by
    rw [get_set] at e
    rw [get_set, S.len]
    by_cases h : i = j ∧ j < ρ.length
    · rw [if_pos h] at e ⊢
      cases e
      exact ⟨a, by rw [h.1]; rfl, rfl⟩
    · rw [if_neg h] at e
      obtain ⟨b, e1, _⟩ := S.exc j x e
      rw [hx] at e1
      cases e1
  ow := fun j hj => by cases hj
  inj := fun j hj => by cases hj
theorem SE.letgo (S : SE (c.held i a y) own Z H σ ρ) (hi : i ∉ own) : SE c own Z H (σ.set i none) (ρ.set i none) where
  ext := S.ext
  len := by simp [S.len]
  val := fun j d e n nx => by
    rw [get_set] at e
    rw [get_set, S.len]
    by_cases h : i = j ∧ j < ρ.length
    · rw [if_pos h] at e; cases e
    · rw [if_neg h] at e ⊢
      exact S.val j d e n nx
  exc := fun j x e => by
    rw [get_set] at e
    by_cases h : i = j ∧ j < ρ.length
    · rw [if_pos h] at e; cases e
    · rw [if_neg h] at e
      obtain ⟨b, e1, e2⟩ := S.exc j x e
      have e1 : some (i, a, y) = some (j, b, x) := e1
      cases e1
      exact absurd ⟨rfl, (List.getElem?_eq_some_iff.mp e).1⟩ h
  ow := fun j hj => by
    obtain ⟨b, d, e1, e2, q⟩ := S.ow j hj
    have hne : ¬ i = j := fun z => hi (z ▸ hj)
    refine ⟨b, d, ?_, ?_, q⟩
    · rw [get_set, if_neg (fun z => hne z.1)]; exact e1
    · rw [get_set, if_neg (fun z => hne z.1)]; exact e2
  inj := fun j hj l hl ne => by
    have h1 : ¬ i = j := fun z => hi (z ▸ hj)
    have h2 : ¬ i = l := fun z => hi (z ▸ hl)
    rw [get_set, get_set, if_neg (fun z => h1 z.1), if_neg (fun z => h2 z.1)]
    exact S.inj j hj l hl ne
end

section
variable {X : Cx} {c : Ct} {W : WX} {own own' ownL : List Nat} {sa su : SM} {body suite : List Stmt} {b₀ : Stmt} {x n : Str} {i N : Nat} {np pos pos' : Pos} {sub : Nat → Nat → Bool}
/-- under each class that the error may have -/
theorem suite_of {sts : List Stmt} {t : Nat → TS} {cls : Value} {d : Option Addr} (h : ∀ y, cls = .ref (c.EC y) → d = none → PSs X sts (t y)) : PSs X sts (fun D σ H => ∃ y, cls = .ref (c.EC y) ∧ d = none ∧ t y D σ H) :=
  ⟨fun pins s σ H D I ⟨y, e1, e2, q⟩ => (h y e1 e2).run pins s σ H D I q⟩
theorem try_body {W' : WX} {Z : ZS} {H : Hp} {D : Ends} {o : O} {hs : List ((Nat → Bool) × Option Nat × SM)} (h : PostS c W own' ownL Z H D (match o with
    | some (.ex y, ρ') => hand hs y ρ'
    | q => q)) (hw : ∀ y ρ' Z' H' σ', Adv Z H Z' H' → SE c [] Z' H' σ' ρ' → PostS c W own' ownL Z' H' D (hand hs y ρ') → W' (.ref (c.EC y)) none σ' H') : PostS c W' own' ownL Z H D o := by
  match o, h with
  | some (.nx, ρ'), h => exact h
  | some (.ct, ρ'), h => exact h
  | some (.bk, ρ'), h => exact h
  | some (.rt d, ρ'), h => exact h
  | some (.ex y, ρ'), h => exact fun Z' H' σ' ad S => hw y ρ' Z' H' σ' ad S (PostS.move ad h)
theorem noEx_post {W' : WX} {Z : ZS} {H : Hp} {D : Ends} {o : O} (h : PostS c W own' ownL Z H D (noEx o)) : PostS c W' own' ownL Z H D o := by
  match o, h with
  | some (.nx, ρ'), h => exact h
  | some (.ct, ρ'), h => exact h
  | some (.bk, ρ'), h => exact h
  | some (.rt d, ρ'), h => exact h
/-- try: body / except X: suite -/
theorem qs_try_only (hs : X.stack = X.env :: X.outer) (hf : X.env.frame = some X.env.locals) (hc : Names X x (.ref (c.EC N))) (tk : Takes X W) (hex : ∀ y, PySem.W.exmOne X.K (.ref (c.EC y)) (.ref (c.EC N)) = some (sub y N))
    (hb : ∀ (W' : WX) (pn : List (Addr × Obj)) (xe : Value → Shared → Prop), Takes (X.tr pn xe) W' → PassesOwn (model X.prog X.w) X.A X.env xe → PSs (X.tr pn xe) body (qS c W' own own' ownL sa))
    (hsu : ∀ (a : Addr) (oe : Obj) (y : Nat) (pn : List (Addr × Obj)), Zc (.ref (c.EC y)) none oe → (∃ vs, oe.data = .fields vs) → PSs (X.suite a ((a, oe) :: pn)) (b₀ :: suite) (qS c W0 [] own' ownL su)) :
    PS X (.Try body [.ExceptHandler (some (.Name x np)) none (b₀ :: suite) pos'] [] [] pos) (qS c W own own' ownL (sTry [((fun y => sub y N), none, su)] sa)) := by
  refine (ps_try_only (tb := fun W' => qS c W' own own' ownL sa) (ts := fun a cls d D σ H => ∃ y, cls = .ref (c.EC y) ∧ d = none ∧ qS c W0 [] own' ownL su D σ H) (Wout := W) hs hf hc tk hb (fun a oe cls d pn hz hd => suite_of fun y e1 e2 => ?_)).imp fun D σ H ⟨Z, ρ, S, p⟩ => ⟨Z, ρ, S, ?_⟩
  · subst e1 e2
    exact hsu a oe y pn hz hd
  · refine try_body (hs := [((fun y => sub y N), none, su)]) p fun y ρ' Z' H' σ' ad S' q => ⟨sub y N, hex y, fun hy a ha => ⟨y, rfl, rfl, Z', ρ', S', ?_⟩, fun hy => ?_⟩
    · unfold hand at q
      rw [if_pos hy] at q
      exact noEx_post q
    · unfold hand at q
      rw [if_neg (show ¬ sub y N = true by rw [hy]; exact Bool.false_ne_true)] at q
      exact q Z' H' σ' .refl S'
/-- try: body / except X as n: suite -/
theorem qs_try_as (hs : X.stack = X.env :: X.outer) (hf : X.env.frame = some X.env.locals) (hN : X.N.Nodup) (hi : X.N[i]? = some n) (hln : X.env.kindOf n = some .local) (hc : Names X x (.ref (c.EC N))) (tk : Takes X W) (hex : ∀ y, PySem.W.exmOne X.K (.ref (c.EC y)) (.ref (c.EC N)) = some (sub y N))
    (hx : c.xs = none) (hio : i ∉ own') (hiL : i ∉ ownL)
    (hb : ∀ (W' : WX) (pn : List (Addr × Obj)) (xe : Value → Shared → Prop), Takes (X.tr pn xe) W' → PassesOwn (model X.prog X.w) X.A X.env xe → PSs (X.tr pn xe) body (qS c W' own own' ownL sa))
    (hsu : ∀ (a : Addr) (oe : Obj) (y : Nat) (pn : List (Addr × Obj)), Zc (.ref (c.EC y)) none oe → (∃ vs, oe.data = .fields vs) → PSs (X.suite a ((a, oe) :: pn)) (b₀ :: suite) (qS (c.held i a y) W0 [] own' ownL su)) :
    PS X (.Try body [.ExceptHandler (some (.Name x np)) (some n) (b₀ :: suite) pos'] [] [] pos) (qS c W own own' ownL (sTry [((fun y => sub y N), some i, su)] sa)) := by
  have hlen : ∀ {pins : List (Addr × Obj)} {σ : St} {H : Hp} {s : Shared}, Inv X pins σ H s → i < σ.length := fun {pins σ H s} I => by
    rw [I.len]
    exact (List.getElem?_eq_some_iff.mp hi).1
  have key := ps_try_as (pos := pos) (pos' := pos') (np := np) (tb := fun W' => qS c W' own own' ownL sa) (ts := fun a cls d D σ H => ∃ y, cls = .ref (c.EC y) ∧ d = none ∧ qS (c.held i a y) W0 [] own' ownL su D σ H) (Wout := W) hs hf hN hi hln hc tk hb (fun a oe cls d pn hz hd => suite_of fun y e1 e2 => by
    subst e1 e2
    exact hsu a oe y pn hz hd)
  refine ⟨fun pins s σ H D I ⟨Z, ρ, S, p⟩ => key.run pins s σ H D I ⟨Z, ρ, S, ?_⟩⟩
  refine try_body (hs := [((fun y => sub y N), some i, su)]) p fun y ρ' Z' H' σ' ad S' q => ⟨sub y N, hex y, fun hy a ha => ⟨y, rfl, rfl, ?_⟩, fun hy => ?_⟩
  · unfold hand at q
    rw [if_pos hy] at q
    by_cases hl : i < ρ'.length
    · rw [if_pos hl] at q
      refine ⟨Z', ρ'.set i (some (.exc y)), S'.hold hx hl, noEx_post (W := W) (own' := own') (ownL := ownL) ?_⟩
      match ho : noEx (su (ρ'.set i (some (.exc y)))) with
      | none => rw [ho] at q; exact q
      | some (.nx, ρ2) => rw [ho] at q; exact fun Z2 H2 σ2 a2 S2 => q Z2 H2 _ a2 (S2.letgo hio)
      | some (.ct, ρ2) => rw [ho] at q; exact fun Z2 H2 σ2 a2 S2 => q Z2 H2 _ a2 (S2.letgo hiL)
      | some (.bk, ρ2) => rw [ho] at q; exact fun Z2 H2 σ2 a2 S2 => q Z2 H2 _ a2 (S2.letgo hiL)
      | some (.rt d, ρ2) => rw [ho] at q; exact q
      | some (.ex z, ρ2) =>
        exfalso
        match h2 : su (ρ'.set i (some (.exc y))), ho with
        | none, ho => cases ho
        | some (.nx, _), ho => cases ho
        | some (.ct, _), ho => cases ho
        | some (.bk, _), ho => cases ho
        | some (.rt _, _), ho => cases ho
        | some (.ex _, _), ho => cases ho
    · rw [if_neg hl] at q
      exact q.elim
  · unfold hand at q
    rw [if_neg (show ¬ sub y N = true by rw [hy]; exact Bool.false_ne_true)] at q
    exact q Z' H' σ' .refl S'
end
end PL

set_option maxRecDepth 100000
set_option maxHeartbeats 4000000
namespace PL
open PySem PySem.Spec PyProof.Rows L2
set_option autoImplicit false

section
variable {X : Cx} {c : Ct} {W : WX} {own : List Nat} {a b e eb ec : Expr} {m m1 m2 m3 : EM} {t : TM} {pos p p2 : Pos} {k : Kd} {x : Str} {i : Nat} {tg : Expr}
/-! ### products -/
theorem foldl_app {α : Type} (z : Array α) : ∀ (n : Nat) (acc : Array α), ((List.replicate n z).foldl (· ++ ·) acc).toList = acc.toList ++ rep n z.toList
  | 0, acc => by simp [rep]
  | n + 1, acc => by
    rw [List.replicate_succ, List.foldl_cons, foldl_app z n, Array.toList_append]
    show acc.toList ++ z.toList ++ rep n z.toList = acc.toList ++ rep (n + 1) z.toList
    unfold rep
    rw [List.replicate_succ, List.flatten_cons, List.append_assoc]
theorem mulText (z : Str) (n : Int) : (Txt.mul z n).cps.toList = rep n.toNat z.cps.toList := by
  unfold Txt.mul
  by_cases h1 : n < 1
  · rw [if_pos h1, show n.toNat = 0 by omega]
    rfl
  · rw [if_neg h1]
    by_cases h2 : (n == 1 || z.length == 0) = true
    · rw [if_pos h2]
      rw [Bool.or_eq_true, beq_iff_eq, beq_iff_eq] at h2
      rcases h2 with h2 | h2
      · subst h2
        simp [rep]
      · have : z.cps.toList = [] := List.eq_nil_of_length_eq_zero (by simpa [Str.length] using h2)
        rw [this]
        simp [rep]
    · rw [if_neg h2]
      show ((List.replicate n.toNat z.cps).foldl (· ++ ·) #[]).toList = _
      rw [foldl_app]
      rfl
theorem op_mul_strU : OpR X (binaryOp .Mult) (fun x y H Q => ∃ (z : Str) (n : Int), x = .str z ∧ y = .int n ∧ MulOk z n ∧ Q (.str (Txt.mul z n)) H) := by
  intro pins s σ H x y v u Q I rx ry h
  obtain ⟨i, j, rfl, rfl, hz, q⟩ := h
  obtain ⟨t, rfl⟩ := rx
  obtain ⟨t', rfl⟩ := ry
  exact SB.mul hz fun t' tk => ⟨.str (Txt.mul i j), H, I.tok _, ⟨_, rfl⟩, q⟩
theorem opU_mul : OpR X (binaryOp .Mult) (fun x y H Q => rI CMul (fun i j => .int (i * j)) x y H Q ∨ ∃ (z : Str) (n : Int), x = .str z ∧ y = .int n ∧ MulOk z n ∧ Q (.str (Txt.mul z n)) H) := op_mul.or op_mul_strU
theorem rep_len {α : Type} (n : Nat) (x : List α) : (rep n x).length = x.length * n := by
  unfold rep
  rw [List.length_flatten, List.map_replicate, List.sum_replicate_nat, Nat.mul_comm]
theorem rep_mem {α : Type} {n : Nat} {x : List α} {y : α} (h : y ∈ rep n x) : y ∈ x := by
  unfold rep at h
  obtain ⟨l, h1, h2⟩ := List.mem_flatten.mp h
  rw [List.eq_of_mem_replicate h1] at h2
  exact h2
theorem tooLong_no {n : Nat} (h : n ≤ LINE) : Builtin.Str.tooLong n = false := by
  unfold Builtin.Str.tooLong
  rw [decide_eq_false_iff_not]
  unfold LINE at h
  have : sizeLine = 16777216 := sizeLine_eq
  omega
theorem o2_mul {K : KF} : Op2 K (fun x y H Q => rI CMul (fun i j => .int (i * j)) x y H Q ∨ ∃ (z : Str) (n : Int), x = .str z ∧ y = .int n ∧ MulOk z n ∧ Q (.str (Txt.mul z n)) H) .sh .sh .new mulN := by
  intro Z H Hs v u d e Q t s hv hu p
  cases hv with
  | int i =>
    cases hu with
    | int j =>
      obtain ⟨hz, p⟩ := Post.ite p
      exact .inl ⟨i, j, rfl, rfl, hz, Wnt.int t p⟩
    | _ => exact False.elim p
  | str x hx =>
    cases hu with
    | int n =>
      obtain ⟨⟨h1, h2, h3⟩, p⟩ := Post.ite p
      have hl : x.length * n.toNat ≤ LINE := by
        rw [show x.length = x.cps.toList.length from (Array.length_toList).symm]
        exact h3
      refine .inr ⟨x, n, rfl, rfl, ⟨?_, fun h4 h5 h6 => ?_, fun _ _ => tooLong_no hl⟩, Wnt.str t p (mulText x n) ⟨fun ch hc => hx.1 ch (rep_mem hc), by rw [rep_len]; exact h3⟩⟩
      · rw [Bool.or_eq_false_iff, decide_eq_false_iff_not, decide_eq_false_iff_not]
        exact ⟨by omega, by omega⟩
      · have h7 : (0 : Int) < n := by omega
        have h8 : (x.length : Int) * n ≤ 16777216 := by
          have e : ((x.length * n.toNat : Nat) : Int) = (x.length : Int) * n := by
            rw [Int.natCast_mul, Int.toNat_of_nonneg (by omega)]
          rw [← e]
          have h9 : x.length * n.toNat ≤ 16777216 := hl
          omega
        have h9 : (x.length : Int) ≤ (2 ^ 63 - 1) / n := Int.le_ediv_of_mul_le h7 (by omega)
        omega
    | _ => exact False.elim p
  | _ => exact False.elim p
theorem q_mul (ha : PE X a (qE c W own .sh m1)) (hb : PE X b (qE c W own .sh m2)) : PE X (.BinOp a .Mult b pos) (qE c W own .new (e2 mulN m1 m2)) := q_bin ha hb (fun _ _ h k => pe_op opU_mul h k) o2_mul nx_mul
theorem nx_rep : NoX2 repD := fun d e x h => by cases d <;> cases e <;> simp only [repD] at h <;> first | cases h | (split at h <;> cases h)
theorem RepA.rep {K : KF} {Z : ZS} {H : Hp} {xs : List V} {ds : List Dat} (r : RepA K Z H xs ds) : ∀ n : Nat, RepA K Z H (List.replicate n xs).flatten (PL.rep n ds)
  | 0 => .nil
  | n + 1 => by
    unfold PL.rep
    rw [List.replicate_succ, List.replicate_succ, List.flatten_cons, List.flatten_cons]
    exact RepA.append r (RepA.rep r n)
theorem o2_rep {K : KF} : Op2 K rRep .new .sh .new repD := by
  intro Z H Hs v u d e Q t s hv hu p
  cases d with
  | lst ds =>
    obtain ⟨l, rfl, nz, hl, xs, hH, r⟩ := hv.1 rfl
    cases hu with
    | int n =>
      obtain ⟨⟨h1, h2, h3⟩, p⟩ := Post.ite p
      refine ⟨l, n, xs, rfl, rfl, hH, h1, h2, by rw [r.len, ← line_eq]; exact h3, fun q hq => Wnt.newL t s p (r.rep n.toNat) hq⟩
    | _ => exact False.elim p
  | _ => cases hu <;> exact False.elim p
/-- [..] * n -/
theorem q_rep (ha : PE X a (qE c W own .new m1)) (hb : PE X b (qE c W own .sh m2)) : PE X (.BinOp a .Mult b pos) (qE c W own .new (e2 repD m1 m2)) := q_bin ha hb (fun _ _ h k => pe_op op_rep h k) o2_rep nx_rep
theorem qts_one (h : PT X e (qT c W own t)) : PTs X [e] (qT c W own t) := pts_one h
/-! ### range(i, j, c), 0 < c -/
theorem step_eq {i j st : Int} (h : 0 < st) : (j - i + st - 1) / st = (j - i - 1) / st + 1 := by
  rw [show j - i + st - 1 = (j - i - 1) + 1 * st by omega, Int.add_mul_ediv_right _ _ (by omega)]
theorem step_size {i j st : Int} (h : 0 < st) : Builtin.Range.rangeSize i j st = ((((j - i + st - 1) / st).toNat : Nat) : Int) := by
  unfold Builtin.Range.rangeSize
  rw [if_pos (show st > 0 from h), step_eq h]
  by_cases hij : i < j
  · rw [if_pos hij]
    have := Int.ediv_nonneg (show 0 ≤ j - i - 1 by omega) (show 0 ≤ st by omega)
    omega
  · rw [if_neg hij]
    have : (j - i - 1) / st < 0 := Int.ediv_neg_of_neg_of_pos (by omega) h
    omega
theorem step_small {i j st : Int} (h1 : fits62 i) (h2 : fits62 j) (h : 0 < st) (h3 : st < 2 ^ 30) : Builtin.Range.small i j st = true := by
  unfold fits62 at h1 h2
  have e := step_size (i := i) (j := j) h
  have b1 : Builtin.Range.rangeSize i j st < 2 ^ 63 ∧ 0 ≤ Builtin.Range.rangeSize i j st := by
    rw [e, step_eq h]
    have : (j - i - 1) / st ≤ 2 ^ 63 - 2 := by
      by_cases hij : 0 ≤ j - i - 1
      · have h5 : (j - i - 1) / st ≤ j - i - 1 := Int.ediv_le_self st hij
        omega
      · have : (j - i - 1) / st < 0 := Int.ediv_neg_of_neg_of_pos (by omega) h
        omega
    omega
  unfold Builtin.Range.small
  simp only [Builtin.Range.rangeFitsLong, Bool.and_eq_true, Bool.or_eq_true, decide_eq_true_eq, beq_iff_eq, show st > 0 from h, if_true]
  refine ⟨⟨⟨⟨⟨?_, ?_⟩, ⟨?_, ?_⟩⟩, ⟨?_, ?_⟩⟩, ⟨?_, ?_⟩⟩, .inr ⟨?_, ?_⟩⟩ <;> omega
theorem itc_ok {K : KF} {Z : ZS} {H : Hp} {lo st : Int} {n : Nat} {zs : List Int} (hz : zs = (List.range n).map fun k => lo + (k : Nat) * st) : ItOk K (Itc lo st n) Z H (zs.map .int) := fun Z1 H1 ad t i => by
  subst hz
  refine ⟨fun d e => ?_, fun hl => (show n ≤ i by simpa using hl)⟩
  rw [List.getElem?_map, List.getElem?_map] at e
  obtain ⟨z, ez, rfl⟩ := Option.map_eq_some_iff.mp e
  obtain ⟨k, ek, rfl⟩ := Option.map_eq_some_iff.mp ez
  obtain ⟨h1, h2⟩ := List.getElem?_eq_some_iff.mp ek
  have hk : k = i := by simpa using h2.symm
  subst hk
  refine ⟨(show k < n by simpa using h1), fun x H2 y => ?_⟩
  obtain ⟨rfl, rfl⟩ := y
  exact ⟨Z1, .refl t, .int _⟩
theorem qi_r3 (hg : Gl X "range") (hm : X.mg "range" = none) (ha : PE X e (qE c W own k m)) (hb : PE X eb (qE c W own k m2)) (hd : PE X ec (qE c W own k m3)) (hs : starEach [e, eb, ec] X.env = (false, eval e X.env) :: starEach [eb, ec] X.env := by rfl)
    (hs2 : starEach [eb, ec] X.env = (false, eval eb X.env) :: starEach [ec] X.env := by rfl) (hs3 : starEach [ec] X.env = (false, eval ec X.env) :: starEach [] X.env := by rfl) (hpl : (backTo pos (starEach [eb, ec] X.env)).any (·.1) = false := by rfl) :
    PI X tg (.Call (.Name "range" p) [e, eb, ec] [] pos) (qI c W own (iR3 m m2 m3)) := by
  refine ⟨fun pins s σ H R I h => (pi_range3 hg hm (qa_cons ha (qa_cons hb (qa_cons hd qa_nil hs3) hs2) hs) hs hpl).run pins s σ H R I ?_⟩
  obtain ⟨Z, ρ, S, p⟩ := h
  refine ⟨Z, ρ, S, ?_⟩
  have p := Post.bnd p
  unfold eCons eNil
  cases q : m ρ with
  | bad => rw [q] at p; exact p.elim
  | exc x => rw [q] at p; exact p
  | ok d =>
    rw [q] at p
    have p := Post.bnd p
    rw [PL.R.bnd_ok]
    cases q2 : m2 ρ with
    | bad => rw [q2] at p; exact p.elim
    | exc x => rw [q2] at p; exact p
    | ok d2 =>
      rw [q2] at p
      have p := Post.bnd p
      rw [PL.R.bnd_ok]
      cases q3 : m3 ρ with
      | bad => rw [q3] at p; exact p.elim
      | exc x => rw [q3] at p; exact p
      | ok d3 =>
        rw [q3] at p
        intro vs Z1 H1 x1 hv
        cases hv with
        | cons h1 h2 =>
          cases h2 with
          | cons h2 h3 =>
            cases h3 with
            | cons h3 h4 =>
              cases h4
              have hs := h1.sh
              have hs2 := h2.sh
              have hs3 := h3.sh
              cases hs with
              | int i =>
                cases hs2 with
                | int j =>
                  cases hs3 with
                  | int st =>
                    obtain ⟨⟨hf, hf2, h0, hst⟩, p⟩ := Post.ite p
                    refine ⟨i, j, st, ((j - i + st - 1) / st).toNat, rfl, ?_, p _ Z1 H1 x1 ?_⟩
                    · exact ⟨by omega, by omega, step_small hf hf2 h0 hst, by rw [step_size h0]⟩
                    · exact itc_ok rfl
                  | _ => exact p.elim
                | _ => exact p.elim
              | _ => exact p.elim
/-! ### isinstance(e, C), e the error that the suite holds -/
theorem nx_isx {sub : Nat → Nat → Bool} {n : Nat} : NoX1 (isX sub n) := fun d x h => by cases d <;> cases h
theorem q_isx {A : Addr} {oe : Obj} {pn : List (Addr × Obj)} {y n : Nat} {xe xc : Str} {pe' pc : Pos} {sub : Nat → Nat → Bool} (hK : c.K = X.K) (hx : c.xs = some (i, A, y)) (hz : Zc (.ref (c.EC y)) none oe) (hf : ∃ vs, oe.data = .fields vs) (hC : ExcC X.K (c.EC y))
    (hN : X.N[i]? = some xe) (hv : Vis X.env.scope xe) (hd : (xe == ("__debug__" : Str)) = false) (hcd : (xe == ("__classdict__" : Str)) = false)
    (hg : Gl X "isinstance") (hm : X.mg "isinstance" = none) (hgc : Gl X xc) (hmc : X.mg xc = some (.ref (c.EC n))) (hdc : (xc == ("__debug__" : Str)) = false)
    (hkit : ∀ y, PySem.W.kitOne X.K (.ref (c.EC y)) (.ref (c.EC n)) = some (sub y n))
    (hs : starEach (.Name xe pe' :: [.Name xc pc]) X.env = (false, eval (.Name xe pe') X.env) :: starEach [.Name xc pc] X.env := by rfl) (hs2 : starEach (.Name xc pc :: []) X.env = (false, eval (.Name xc pc) X.env) :: starEach [] X.env := by rfl) (hpl : (backTo pos (starEach [.Name xc pc] X.env)).any (·.1) = false := by rfl) :
    PE (X.suite A ((A, oe) :: pn)) (.Call (.Name "isinstance" p) [.Name xe pe', .Name xc pc] [] pos) (qE c W own .new (e1 (isX sub n) (eV i))) := by
  have h1 : PE (X.suite A ((A, oe) :: pn)) (.Name xe pe') (tVar i) := pe_var hN hv hd hcd
  have h2 : PE (X.suite A ((A, oe) :: pn)) (.Name xc pc) (tC (.ref (c.EC n))) := pe_glob hgc hmc rfl hdc
  refine (pe_callB (call_isE (pn := pn) hC hz hf) hg hm boot_isinstance (pa_cons h1 (pa_cons h2 pa_nil hs2) hs) (by decide) (by decide) hs hpl).imp fun σ H Q ⟨Z, ρ, S, p⟩ => ?_
  have p := Post.bnd p
  unfold eV at p
  cases e : ρ[i]? with
  | none => rw [e] at p; exact p.elim
  | some od =>
    cases od with
    | none => rw [e] at p; exact p.elim
    | some d =>
      rw [e] at p
      cases d with
      | exc y' =>
        obtain ⟨A', e1, e2⟩ := S.exc i y' e
        rw [hx] at e1
        cases e1
        have p : ∀ v Z' H', Ext Z H Z' H' → Val c.K Z' H' H .new v (.bl (sub y n)) → Q v H' := p
        exact ⟨_, e2, .ref (c.EC n), .ref (c.EC n), sub y n, rfl, fun u r => r, hkit y, p _ Z H (.refl S.trk) (Rep.kd .new (.bl _) rfl)⟩
      | _ => exact p.elim
/-- a constant of the module -/
theorem q_glob {u : Value} {d : Dat} {v : V} (hg : Gl X x) (hm : X.mg x = some u) (r : RelV v u) (hv : ∀ Z H, Rep c.K Z H v d) (hd : (x == ("__debug__" : Str)) = false) : PE X (.Name x pos) (qE c W own .frz (eC d)) := (pe_glob hg hm r hd).imp fun σ H Q ⟨Z, ρ, S, p⟩ => p v Z H (.refl S.trk) (hv Z H)
end
end PL

set_option maxRecDepth 100000
set_option maxHeartbeats 4000000
namespace PL
open PySem PySem.Spec PyProof.Rows L2
set_option autoImplicit false

/-- what a scope says of the slots and of the names of the module -/
structure Scp (X : Cx) (vis loc : List Nat) (gls : List Str) : Prop where
  nd : X.N.Nodup
  vis : ∀ i ∈ vis, ∀ x, X.N[i]? = some x → Vis X.env.scope x ∧ (x == ("__debug__" : Str)) = false ∧ (x == ("__classdict__" : Str)) = false
  loc : ∀ i ∈ loc, ∀ x, X.N[i]? = some x → L2.Loc X.env.scope x ∧ (X.fn x = true ∨ X.env.scope.names.lookup x = some .local)
  gl : ∀ (j : Nat) x, gls[j]? = some x → Gl X x ∧ (x == ("__debug__" : Str)) = false ∧ x ≠ "__name__"
def visC (sc : Scope) (x : Str) : Bool := match sc.names.lookup x with
  | some .local => true
  | some .cell => true
  | some .free => true
  | _ => false
def locC (sc : Scope) (x : Str) : Bool := match sc.names.lookup x with
  | some .local => true
  | some .cell => true
  | _ => false
def scpC (N : List Str) (sc : Scope) (vis loc : List Nat) (gls : List Str) : Bool :=
  decide N.Nodup && vis.all (fun i => match N[i]? with | some x => visC sc x && !(x == ("__debug__" : Str)) && !(x == ("__classdict__" : Str)) | none => true) && loc.all (fun i => match N[i]? with | some x => locC sc x | none => true)
  && gls.all (fun x => decide (sc.names.lookup x = some .globalImplicit) && !(x == ("__debug__" : Str)) && decide (x ≠ "__name__"))
theorem visC_ok {sc : Scope} {x : Str} (h : visC sc x = true) : Vis sc x := by
  unfold visC at h
  unfold Vis
  split at h
  · exact .inl ‹_›
  · exact .inr (.inl ‹_›)
  · exact .inr (.inr ‹_›)
  · cases h
theorem locC_ok {sc : Scope} {x : Str} (h : locC sc x = true) : L2.Loc sc x := by
  unfold locC at h
  unfold L2.Loc
  split at h
  · exact .inl ‹_›
  · exact .inr ‹_›
  · cases h
theorem scp_of {X : Cx} {sc : Scope} {vis loc : List Nat} {gls : List Str} (h : scpC X.N sc vis loc gls = true) (hr : ∀ x, X.env.scope.names.lookup x = sc.names.lookup x ∨ (sc.names.lookup x = some .free ∧ X.env.scope.names.lookup x = some .cell))
    (hf : ∀ x, sc.names.lookup x = some .cell → X.fn x = true) (hk : ∀ x, X.env.scope.names.lookup x = some .globalImplicit → Gl X x) : Scp X vis loc gls := by
  unfold scpC at h
  simp only [Bool.and_eq_true, decide_eq_true_eq, List.all_eq_true, Bool.not_eq_true'] at h
  obtain ⟨⟨⟨h0, h1⟩, h2⟩, h3⟩ := h
  refine ⟨h0, fun i hi x hx => ?_, fun i hi x hx => ?_, fun j x hx => ?_⟩
  · have q := h1 i hi
    rw [hx] at q
    simp only [Bool.and_eq_true, Bool.not_eq_true'] at q
    refine ⟨?_, q.1.2, q.2⟩
    have v := visC_ok q.1.1
    unfold Vis at v ⊢
    rcases hr x with e | ⟨_, e⟩
    · rw [e]; exact v
    · exact .inr (.inl e)
  · have q := h2 i hi
    rw [hx] at q
    have q2 := locC_ok q
    unfold L2.Loc at q2 ⊢
    rcases hr x with e | ⟨e, _⟩
    · rw [e]
      refine ⟨q2, ?_⟩
      rcases q2 with q2 | q2
      · exact .inr q2
      · exact .inl (hf x q2)
    · rw [e] at q2
      rcases q2 with q2 | q2 <;> cases q2
  · have q := h3 x (List.mem_of_getElem? hx)
    refine ⟨hk x ?_, q.1.2, q.2⟩
    rcases hr x with e | ⟨e, _⟩
    · rw [e]; exact q.1.1
    · rw [e] at q
      cases q.1.1
theorem look_relabel {env : PySem.Env} (names : List (Str × NameKind)) (x : Str) :
    (names.map fun (n, k) => if (k == NameKind.free && env.scope.kind == .function && env.kindOf n == some .cell) then (n, NameKind.cell) else (n, k)).lookup x = names.lookup x ∨
    (names.lookup x = some .free ∧ (names.map fun (n, k) => if (k == NameKind.free && env.scope.kind == .function && env.kindOf n == some .cell) then (n, NameKind.cell) else (n, k)).lookup x = some .cell) := by
  induction names with
  | nil => exact .inl rfl
  | cons p r ih =>
    obtain ⟨n, k⟩ := p
    show (List.lookup x ((if (k == NameKind.free && env.scope.kind == .function && env.kindOf n == some .cell) = true then (n, NameKind.cell) else (n, k)) :: _) = _) ∨ (_ ∧ List.lookup x ((if (k == NameKind.free && env.scope.kind == .function && env.kindOf n == some .cell) = true then (n, NameKind.cell) else (n, k)) :: _) = _)
    by_cases hc : (k == NameKind.free && env.scope.kind == .function && env.kindOf n == some .cell) = true
    · rw [if_pos hc]
      cases hx : x == n with
      | true =>
        refine .inr ⟨?_, by simp [List.lookup_cons, hx]⟩
        simp only [Bool.and_eq_true, beq_iff_eq] at hc
        simp [List.lookup_cons, hx, hc.1.1]
      | false => simpa only [List.lookup_cons, hx] using ih
    · rw [if_neg hc]
      cases hx : x == n with
      | true => exact .inl (by simp [List.lookup_cons, hx])
      | false => simpa only [List.lookup_cons, hx] using ih
theorem blk_rel {N : List Str} {sc scope : Scope} {own : List (Str × Nat)} (h : blkC N sc scope own = true) (env : PySem.Env) : BlkOk N (relabel sc env) scope own := by
  have h := blkOk_by h
  refine ⟨h.kind, h.uniq, h.ix, fun y hy hf => ?_, h.own⟩
  rcases look_relabel (env := env) sc.names y.1 with e | ⟨_, e⟩
  · have := h.free y hy hf
    unfold relabel
    rw [e]
    exact this
  · exact .inl e
section
variable {X : Cx} {vis loc vis' loc' : List Nat} {gls gls' : List Str}
theorem scp_blk {N : List Str} {s : Shared} {H : Hp} {C : Addr} {cl : List (Str × Addr)} {fp : List Addr} {scope : Scope} (h : scpC N scope vis loc gls = true) (hN : X.N = N) : Scp (X.blk s H scope (compEnvC scope cl C X.env) fp) vis loc gls := by
  subst hN
  refine scp_of (X := X.blk s H scope (compEnvC scope cl C X.env) fp) h (fun x => look_relabel scope.names x) (fun x hx => ?_) (fun x hx => hx)
  show (scope.names.lookup x == some .cell) = true
  rw [hx]
  rfl
theorem Scp.tr (V : Scp X vis loc gls) (pn : List (Addr × Obj)) (xe : Value → Shared → Prop) : Scp (X.tr pn xe) vis loc gls := ⟨V.nd, V.vis, V.loc, V.gl⟩
theorem Scp.suite (V : Scp X vis loc gls) (a : Addr) (pn : List (Addr × Obj)) : Scp (X.suite a pn) vis loc gls := ⟨V.nd, V.vis, V.loc, V.gl⟩
end
section
variable {P : Program} {w : World} {K : KF} {mg : Str → Option Value} {base : Heap} {N : List Str} {qual : Str} {scope : Scope} {f : Addr} {cd : Value} {A : Around} {outer : List PySem.Env} {s : Shared} {H : Hp} {E : XK} {vis loc : List Nat} {gls : List Str}
theorem scp_def (h : scpC N scope vis loc gls = true) : Scp (cxOf (L2.CX P w) P w K mg base N qual scope f cd A outer s H E) vis loc gls := scp_of (X := cxOf (L2.CX P w) P w K mg base N qual scope f cd A outer s H E) h (fun _ => .inl rfl) (fun _ _ => rfl) (fun _ hx => hx)
theorem tk_def : Takes (cxOf (L2.CX P w) P w K mg base N qual scope f cd A outer s H E) (fun cls d _ H' => E cls d H') := takes_of rfl rfl rfl rfl
theorem ps_def : PassesOwn (model P w) (cxOf (L2.CX P w) P w K mg base N qual scope f cd A outer s H E).A (cxOf (L2.CX P w) P w K mg base N qual scope f cd A outer s H E).env (cxOf (L2.CX P w) P w K mg base N qual scope f cd A outer s H E).xe := passes_of (X := cxOf (L2.CX P w) P w K mg base N qual scope f cd A outer s H E) rfl
end

section
variable {X : Cx} {vis loc : List Nat} {gls : List Str} {c : Ct} {W : WX} {own own' own1 ownL ts : List Nat} {a b e : Expr} {es : List Expr} {m m1 m2 : EM} {ms : LM} {t : TM} {pos p p2 spos apos : Pos} {k : Kd} {x : Str} {i j n : Nat} {sm : SM} {g : GM} {tg : Expr}
theorem xV (i : Nat) (V : Scp X vis loc gls) (hm : i ∈ vis) (hN : X.N[i]? = some x) (hi : i ∉ own) (hn : c.xs.all (fun p => p.1 != i) = true) : PE X (.Name x pos) (qE c W own .frz (eV i)) := q_var hi hn hN (V.vis i hm x hN).1 (V.vis i hm x hN).2.1 (V.vis i hm x hN).2.2
theorem xS (i : Nat) (V : Scp X vis loc gls) (hm : i ∈ vis) (hN : X.N[i]? = some x) (hn : c.xs.all (fun p => p.1 != i) = true) : PE X (.Name x pos) (qE c W own .sh (eV i)) := q_varS hn hN (V.vis i hm x hN).1 (V.vis i hm x hN).2.1 (V.vis i hm x hN).2.2
theorem xT (i : Nat) (V : Scp X vis loc gls) (hm : i ∈ vis) (hN : X.N[i]? = some x) : PE X (.Name x pos) (tVar i) := pe_var hN (V.vis i hm x hN).1 (V.vis i hm x hN).2.1 (V.vis i hm x hN).2.2
theorem gV' (i : Nat) (V : Scp X vis loc gls) (hm : i ∈ loc) (hN : X.N[i]? = some x) (ho : own' = own.filter (· != i)) (ht : i ∈ ts) : PG X (.Name x pos) (qG c own own' ts (gV i)) := qg_name V.nd hN (V.loc i hm x hN).1 (V.loc i hm x hN).2 ho ht
/-! ### the built-ins -/
structure B1 (X : Cx) (K : KF) (x : Str) (k1 k : Kd) (f : Dat → R Dat) : Prop where
  ex : ∃ id r, CallR X (.builtin id) r ∧ CallV1 K r k1 k f ∧ bootBuiltins x = some (.builtin id)
  nx : NoX1 f
structure T1 (X : Cx) (K : KF) (x : Str) (k1 k : Kd) (f : Dat → R Dat) : Prop where
  ex : ∃ id r, CallR X (.type id) r ∧ CallV1 K r k1 k f ∧ bootBuiltins x = some (.type id)
  nx : NoX1 f
structure B2 (X : Cx) (K : KF) (x : Str) (k1 k : Kd) (f : Dat → Dat → R Dat) : Prop where
  ex : ∃ id r, CallR X (.builtin id) r ∧ CallV2 K r k1 k f ∧ bootBuiltins x = some (.builtin id)
  nx : NoX2 f
theorem cB1 {f : Dat → R Dat} {k1 k : Kd} (B : B1 X c.K x k1 k f) (j : Nat) (V : Scp X vis loc gls) (hj : gls[j]? = some x) (hm : X.mg x = none) (ha : PE X a (qE c W own k1 m)) (hs : starEach (a :: []) X.env = (false, eval a X.env) :: starEach [] X.env := by rfl) (hpl : (backTo pos (starEach [] X.env)).any (·.1) = false := by rfl) :
    PE X (.Call (.Name x p) [a] [] pos) (qE c W own k (e1 f m)) := by
  obtain ⟨id, r, h1, h2, h3⟩ := B.ex
  exact q_b1 h1 h2 B.nx (V.gl j _ hj).1 hm h3 ha (V.gl j _ hj).2.2 (V.gl j _ hj).2.1 hs hpl
theorem cT1 {f : Dat → R Dat} {k1 k : Kd} (B : T1 X c.K x k1 k f) (j : Nat) (V : Scp X vis loc gls) (hj : gls[j]? = some x) (hm : X.mg x = none) (ha : PE X a (qE c W own k1 m)) (hs : starEach (a :: []) X.env = (false, eval a X.env) :: starEach [] X.env := by rfl) (hpl : (backTo pos (starEach [] X.env)).any (·.1) = false := by rfl) :
    PE X (.Call (.Name x p) [a] [] pos) (qE c W own k (e1 f m)) := by
  obtain ⟨id, r, h1, h2, h3⟩ := B.ex
  exact q_t1 h1 h2 B.nx (V.gl j _ hj).1 hm h3 ha (V.gl j _ hj).2.2 (V.gl j _ hj).2.1 hs hpl
theorem cB2 {f : Dat → Dat → R Dat} {k1 k : Kd} (B : B2 X c.K x k1 k f) (j : Nat) (V : Scp X vis loc gls) (hj : gls[j]? = some x) (hm : X.mg x = none) (ha : PE X a (qE c W own k1 m1)) (hb : PE X b (qE c W own k1 m2))
    (hs : starEach (a :: [b]) X.env = (false, eval a X.env) :: starEach [b] X.env := by rfl) (hs2 : starEach (b :: []) X.env = (false, eval b X.env) :: starEach [] X.env := by rfl) (hpl : (backTo pos (starEach [b] X.env)).any (·.1) = false := by rfl) : PE X (.Call (.Name x p) [a, b] [] pos) (qE c W own k (e2 f m1 m2)) := by
  obtain ⟨id, r, h1, h2, h3⟩ := B.ex
  exact q_b2 h1 h2 B.nx (V.gl j _ hj).1 hm h3 ha hb (V.gl j _ hj).2.2 (V.gl j _ hj).2.1 hs hs2 hpl
theorem B_len (hK : c.K = X.K) : B1 X c.K "len" .sh .new lenD := ⟨⟨_, _, cu_len, by rw [hK]; exact cv_len, PySem.boot_len⟩, nx_len⟩
theorem B_all (hK : c.K = X.K) (hc : X.calm = true) : B1 X c.K "all" .sh .new allD := ⟨⟨_, _, cr_all hc, by rw [hK]; exact cv_all, by decide +kernel⟩, nx_all⟩
theorem B_any (hK : c.K = X.K) (hc : X.calm = true) : B1 X c.K "any" .sh .new anyD := ⟨⟨_, _, cr_any hc, by rw [hK]; exact cv_any, by decide +kernel⟩, nx_any⟩
theorem B_sum (hK : c.K = X.K) (hc : X.calm = true) : B1 X c.K "sum" .sh .new sumD := ⟨⟨_, _, cr_sum hc, by rw [hK]; exact cv_sum, by decide +kernel⟩, nx_sum⟩
theorem B_min (hK : c.K = X.K) (hc : X.calm = true) : B1 X c.K "min" .sh .new minD := ⟨⟨_, _, cr_min hc, by rw [hK]; exact cv_min, by decide +kernel⟩, nx_min⟩
theorem B_max (hK : c.K = X.K) (hc : X.calm = true) : B1 X c.K "max" .sh .new maxD := ⟨⟨_, _, cr_max hc, by rw [hK]; exact cv_max, by decide +kernel⟩, nx_max⟩
theorem B_ord : B1 X c.K "ord" .sh .new ordD := ⟨⟨_, _, call_ord, cv_ord, by decide +kernel⟩, nx_ord⟩
theorem B_min2 (hc : X.calm = true) : B2 X c.K "min" .sh .new min2 := ⟨⟨_, _, call_min2 hc, cv_min2, by decide +kernel⟩, nx_min2⟩
theorem B_max2 (hc : X.calm = true) : B2 X c.K "max" .sh .new max2 := ⟨⟨_, _, call_max2 hc, cv_max2, by decide +kernel⟩, nx_max2⟩
theorem T_int : T1 X c.K "int" .sh .new intD := ⟨⟨_, _, call_int1, cv_int, by decide +kernel⟩, nx_int⟩
theorem T_list (hK : c.K = X.K) : T1 X c.K "list" .sh .new listLD := ⟨⟨_, _, call_list_of, by rw [hK]; exact cv_listL, by decide +kernel⟩, nx_listL⟩
theorem T_tuple (hK : c.K = X.K) : T1 X c.K "tuple" .sh .new tupleLD := ⟨⟨_, _, call_tuple_of, by rw [hK]; exact cv_tuple, by decide +kernel⟩, nx_tuple⟩
theorem tyB : ∀ T : Ty, bootBuiltins (Str.ofString (tyS T)) = some (.type (tyS T))
  | .int => by decide +kernel
  | .str => by decide +kernel
  | .bool => by decide +kernel
  | .list => by decide +kernel
  | .tuple => by decide +kernel
  | .dict => by decide +kernel
/-- isinstance(x, T) -/
theorem cIsi {T : Ty} {py : Pos} (j jT : Nat) (V : Scp X vis loc gls) (hK : c.K = X.K) (hj : gls[j]? = some ("isinstance" : Str)) (hm : X.mg "isinstance" = none) (hjT : gls[jT]? = some x) (hT : x = Str.ofString (tyS T)) (hmT : X.mg x = none) (ha : PE X a (qE c W own .sh m))
    (hs : starEach (a :: [.Name x py]) X.env = (false, eval a X.env) :: starEach [.Name x py] X.env := by rfl) (hs2 : starEach (.Name x py :: []) X.env = (false, eval (.Name x py) X.env) :: starEach [] X.env := by rfl) (hpl : (backTo pos (starEach [.Name x py] X.env)).any (·.1) = false := by rfl) :
    PE X (.Call (.Name "isinstance" p) [a, .Name x py] [] pos) (qE c W own .new (e1 (isTy T) m)) := q_isi hK (V.gl j _ hj).1 hm (V.gl jT _ hjT).1 hmT (by rw [hT]; exact tyB T) (V.gl jT _ hjT).2.2 (V.gl jT _ hjT).2.1 ha hs hs2 hpl
/-! ### calls of defs -/
theorem cDef {F : List Dat → R Dat} {f : Addr} {fd : FuncData} {ps : List Str} {lv k0 : Nat} (j : Nat) (V : Scp X vis loc gls) (G : FnOk X.prog X.w X.K X.mg X.base (L2.CX X.prog X.w) lv f fd ps (spM c.K c.EC n F)) (hn : (e :: es).length = n) (hr : Room k0 X.A) (hl : lv ≤ k0) (hj : gls[j]? = some x) (hm : X.mg x = some (.ref f)) (hk : PySem.W.keepIn X.K (.ref f) = true) (hb : Binds X.K fd ps []) (tk : Takes X W)
    (ha : PA X (e :: es) (qA c W own .frz ms)) (hlen : ∀ ρ ds, ms ρ = .ok ds → ds.length = n) (he : starEach (e :: es) X.env = (false, eval e X.env) :: starEach es X.env := by rfl) (hpl : (backTo pos (starEach es X.env)).any (·.1) = false := by rfl) :
    PE X (.Call (.Name x p) (e :: es) [] pos) (qE c W own .frz (eCall F ms)) := q_call G hn (hr.mono hl) (V.gl j _ hj).1 hm hk hb tk ha hlen (V.gl j _ hj).2.1 he hpl
theorem len_nil {ρ : Env} {ds : List Dat} (h : eNil ρ = .ok ds) : ds.length = 0 := by cases h; rfl
theorem len_cons {ρ : Env} {ds : List Dat} {n : Nat} (hr : ∀ ds, ms ρ = .ok ds → ds.length = n) (h : eCons m ms ρ = .ok ds) : ds.length = n + 1 := by
  unfold eCons at h
  cases q : m ρ with
  | ok x =>
    rw [q] at h
    simp only [PL.R.bnd_ok] at h
    cases q2 : ms ρ with
    | ok xs =>
      rw [q2] at h
      cases h
      simp [hr xs q2]
    | exc y => rw [q2] at h; cases h
    | bad => rw [q2] at h; cases h
  | exc y => rw [q] at h; cases h
  | bad => rw [q] at h; cases h
theorem ln0 : ∀ ρ ds, eNil ρ = .ok ds → ds.length = 0 := fun _ _ h => len_nil h
theorem lnS (h : ∀ ρ ds, ms ρ = .ok ds → ds.length = n) : ∀ ρ ds, eCons m ms ρ = .ok ds → ds.length = n + 1 := fun ρ _ q => len_cons (h ρ) q
/-! ### loops' sources -/
theorem iRa1 {k : Kd} (j : Nat) (V : Scp X vis loc gls) (hj : gls[j]? = some ("range" : Str)) (hm : X.mg "range" = none) (ha : PE X e (qE c W own k m)) (hs : starEach [e] X.env = [(false, eval e X.env)] := by rfl) : PI X tg (.Call (.Name "range" p) [e] [] pos) (qI c W own (iR1 m)) := qi_r1 (V.gl j _ hj).1 hm ha hs
theorem iRa2 {k : Kd} (j : Nat) (V : Scp X vis loc gls) (hj : gls[j]? = some ("range" : Str)) (hm : X.mg "range" = none) (ha : PE X e (qE c W own k m)) (hb : PE X b (qE c W own k m2)) (hs : starEach [e, b] X.env = [(false, eval e X.env), (false, eval b X.env)] := by rfl) (hs2 : starEach [b] X.env = [(false, eval b X.env)] := by rfl) : PI X tg (.Call (.Name "range" p) [e, b] [] pos) (qI c W own (iR2 m m2)) := qi_r2 (V.gl j _ hj).1 hm ha hb hs hs2
theorem iRa3 {k : Kd} {d : Expr} {m3 : EM} (j : Nat) (V : Scp X vis loc gls) (hj : gls[j]? = some ("range" : Str)) (hm : X.mg "range" = none) (ha : PE X e (qE c W own k m)) (hb : PE X b (qE c W own k m2)) (hd : PE X d (qE c W own k m3)) (hs : starEach [e, b, d] X.env = (false, eval e X.env) :: starEach [b, d] X.env := by rfl)
    (hs2 : starEach [b, d] X.env = (false, eval b X.env) :: starEach [d] X.env := by rfl) (hs3 : starEach [d] X.env = (false, eval d X.env) :: starEach [] X.env := by rfl) (hpl : (backTo pos (starEach [b, d] X.env)).any (·.1) = false := by rfl) : PI X tg (.Call (.Name "range" p) [e, b, d] [] pos) (qI c W own (iR3 m m2 m3)) := qi_r3 (V.gl j _ hj).1 hm ha hb hd hs hs2 hs3 hpl
theorem iEnuN {elts : List Expr} {kk : Nat} {tpos : Pos} (j : Nat) (V : Scp X vis loc gls) (hK : c.K = X.K) (hj : gls[j]? = some ("enumerate" : Str)) (hm : X.mg "enumerate" = none) (ha : PE X e (qE c W own .frz m)) (hs : starEach [e] X.env = [(false, eval e X.env)] := by rfl) : PI X (.Tuple elts kk tpos) (.Call (.Name "enumerate" p) [e] [] pos) (qI c W own (iEnumN m)) := qi_enum hK (V.gl j _ hj).1 hm ha hs
theorem iZi {elts : List Expr} {kk : Nat} {tpos : Pos} (j : Nat) (V : Scp X vis loc gls) (hK : c.K = X.K) (hj : gls[j]? = some ("zip" : Str)) (hm : X.mg "zip" = none) (ha : PE X e (qE c W own .frz m)) (hb : PE X b (qE c W own .frz m2)) (hs : starEach [e, b] X.env = (false, eval e X.env) :: starEach [b] X.env := by rfl) (hs2 : starEach [b] X.env = (false, eval b X.env) :: starEach [] X.env := by rfl)
    (hpl : (backTo pos (starEach [b] X.env)).any (·.1) = false := by rfl) : PI X (.Tuple elts kk tpos) (.Call (.Name "zip" p) [e, b] [] pos) (qI c W own (iZip m m2)) := qi_zip hK (V.gl j _ hj).1 hm ha hb hs hs2 hpl
end
end PL

set_option maxRecDepth 100000
set_option maxHeartbeats 4000000
namespace PL
open PySem PySem.Spec PyProof.Rows L2
set_option autoImplicit false

section
variable {X : Cx} {vis loc : List Nat} {gls : List Str} {c : Ct} {W : WX} {own own' own1 ownL ts : List Nat} {a b e : Expr} {es : List Expr} {m m1 m2 : EM} {ms : LM} {t : TM} {pos p p2 spos apos py tpos : Pos} {k : Kd} {x : Str} {i j n : Nat} {sm : SM} {g : GM} {src : LM} {tg : Expr} {iter elt : Expr} {ifs : List Expr} {scope : Scope} {ob : List (Str × Nat)} {vs : List Nat}
theorem sN (i : Nat) (V : Scp X vis loc gls) (hm : i ∈ loc) (hN : X.N[i]? = some x) (he : PE X e (qE c W own .new m)) (hs : swapsWith e (some (.Name x p2)) pos.line X.env = pure false := by rfl) (ho : own' = i :: own.filter (· != i)) :
    PS X (.Assign [.Name x p2] e pos) (qS c W own own' ownL (sNew i m)) := qs_new V.nd hN (V.loc i hm x hN).1 (V.loc i hm x hN).2 he hs ho
theorem sA (he : PE X e (qE c W own .frz m)) (hg : PG X tg (qG c own own' ts g)) (hs : swapsWithSole [tg] e pos.line X.env = pure false := by rfl) (hw : swappedStores [tg] e X.env = pure none := by rfl) (h1 : (assignEach [tg] X.env).map (·.2) = [assign tg X.env] := by rfl) : PS X (.Assign [tg] e pos) (qS c W own own' ownL (sAsg g m)) := qs_asg he hg hs hw h1
theorem sApd (i : Nat) (V : Scp X vis loc gls) (hm : i ∈ vis) (hN : X.N[i]? = some x) (hK : c.K = X.K) (hi : i ∈ own) (he : PE X e (qE c W own .frz m))
    (hbase : attributeBase (.Name x p) "append" X.env (eval (.Name x p) X.env) = eval (.Name x p) X.env := by rfl)
    (hfew : ((backTo pos (starEach (e :: []) X.env)).all (fun x => !x.1) && (backToKw pos (keywordEach [] X.env)).all (fun x => x.1.isSome)
      && decide ((e :: []).length + ([] : List Keyword).length + (if ([] : List Keyword).isEmpty then 0 else 1) < 30)) = true := by rfl)
    (hline : (apos.endLine == pos.line) = true := by rfl) (hst : starEach (e :: []) X.env = (false, eval e X.env) :: starEach [] X.env := by rfl) (hpl : (backTo pos (starEach [] X.env)).any (·.1) = false := by rfl)
    (hsw : swapsWith (.Call (.Attribute (.Name x p) "append" apos) [e] [] pos) none spos.line X.env = pure false := by rfl) :
    PS X (.Expr (.Call (.Attribute (.Name x p) "append" apos) [e] [] pos) spos) (qS c W own own ownL (sApp i m)) := qs_app hK hi (xT i V hm hN) he hbase hfew hline hst hpl hsw
theorem sPutE {kx : Expr} {mk : EM} (i : Nat) (V : Scp X vis loc gls) (hm : i ∈ vis) (hN : X.N[i]? = some x) (hu : X.A.units + 64 < cLine) (hi : i ∈ own) (hk : PE X kx (qE c W own .sh mk)) (he : PE X e (qE c W own .frz m))
    (hs : swapsWithSole [.Subscript (.Name x p) kx tpos] e pos.line X.env = pure false := by rfl) (hw : swappedStores [.Subscript (.Name x p) kx tpos] e X.env = pure none := by rfl)
    (h1 : (assignEach [.Subscript (.Name x p) kx tpos] X.env).map (·.2) = [assign (.Subscript (.Name x p) kx tpos) X.env] := by rfl)
    (ha : ∀ v, assign (.Subscript (.Name x p) kx tpos) X.env v = (do
      let ov ← holding [v] (eval (.Name x p) X.env)
      let iv ← holding [v, ov] (eval kx X.env)
      standAt tpos
      holding [v, ov, iv] (setItem ov iv v)
      release [v, ov, iv] []) := by intro _; rfl) : PS X (.Assign [.Subscript (.Name x p) kx tpos] e pos) (qS c W own own ownL (sPut i mk m)) := qs_put (Nat.lt_of_le_of_lt (by omega) hu) hi (xT i V hm hN) hk he hs hw h1 ha
theorem sAddE (i : Nat) (V : Scp X vis loc gls) (hm : i ∈ loc) (hN : X.N[i]? = some x) (hio : i ∉ own) (hn : c.xs.all (fun p => p.1 != i) = true) (he : PE X e (qE c W own .sh m)) : PS X (.AugAssign (.Name x p) .Add e pos) (qS c W own own ownL (sAug addF i m)) := qs_augAdd V.nd hN (V.loc i hm x hN).1 (V.loc i hm x hN).2 hio hn he
theorem sSubE (i : Nat) (V : Scp X vis loc gls) (hm : i ∈ loc) (hN : X.N[i]? = some x) (hio : i ∉ own) (hn : c.xs.all (fun p => p.1 != i) = true) (he : PE X e (qE c W own .sh m)) : PS X (.AugAssign (.Name x p) .Sub e pos) (qS c W own own ownL (sAug subD i m)) := qs_augSub V.nd hN (V.loc i hm x hN).1 (V.loc i hm x hN).2 hio hn he
/-! ### comprehensions -/
theorem own_all {vs own : List Nat} (hd : vs.all (fun j => own.all (· != j)) = true) : ∀ j ∈ vs, j ∉ own := fun j hj hj' => by
  rw [List.all_eq_true] at hd
  have := hd j hj
  rw [List.all_eq_true] at this
  simpa using this j hj'
theorem xLc {N : List Str} {vis1 loc1 : List Nat} {gls1 : List Str} (V : Scp X vis loc gls) (hc : X.calm = true) (hi : PI X tg iter (qI c W own src)) (ok : BlkOk X.N X.env.scope scope ob) (hv : ob.map (·.2) = vs) (hd : vs.all (fun j => own.all (· != j)) = true) (hV : scpC N scope vis1 loc1 gls1 = true) (hNN : X.N = N)
    (hg : ∀ (s : Shared) (H : Hp) (C : Addr) (cl : List (Str × Addr)) (fp : List Addr), Scp (X.blk s H scope (compEnvC scope cl C X.env) fp) vis1 loc1 gls1 → PG (X.blk s H scope (compEnvC scope cl C X.env) fp) tg (qG c own own vs g))
    (ht : ∀ (s : Shared) (H : Hp) (C : Addr) (cl : List (Str × Addr)) (fp : List Addr), Scp (X.blk s H scope (compEnvC scope cl C X.env) fp) vis1 loc1 gls1 → PTs (X.blk s H scope (compEnvC scope cl C X.env) fp) ifs (qT c W0 own t))
    (he : ∀ (s : Shared) (H : Hp) (C : Addr) (cl : List (Str × Addr)) (fp : List Addr), Scp (X.blk s H scope (compEnvC scope cl C X.env) fp) vis1 loc1 gls1 → PE (X.blk s H scope (compEnvC scope cl C X.env) fp) elt (qE c W0 own .frz m)) (hs : ∀ x, foldedSetIterable iter X.env x = pure x := by intro _; rfl) :
    PE X (.ListComp elt [⟨tg, iter, ifs, 0⟩] scope pos) (qE c W own .new (eComp src vs g t m)) := q_lc hc V.nd hi ok hv (own_all hd) (fun s H C cl fp => hg s H C cl fp (scp_blk hV hNN)) (fun s H C cl fp => ht s H C cl fp (scp_blk hV hNN)) (fun s H C cl fp => he s H C cl fp (scp_blk hV hNN)) hs
theorem sLc {N : List Str} {vis1 loc1 : List Nat} {gls1 : List Str} (i : Nat) (V : Scp X vis loc gls) (hNi : X.N[i]? = some x) (hyl : X.env.scope.names.lookup x = some .local) (hc : X.calm = true)
    (hsw : swapsWith (.ListComp elt [⟨tg, iter, ifs, 0⟩] scope pos) (some (.Name x py)) spos.line X.env = pure true) (hi : PI X tg iter (qI c W own src)) (ok : BlkOk X.N X.env.scope scope ob) (hv : ob.map (·.2) = vs) (hd : vs.all (fun j => own.all (· != j)) = true) (hV : scpC N scope vis1 loc1 gls1 = true) (hNN : X.N = N)
    (hg : ∀ (s : Shared) (H : Hp) (C : Addr) (cl : List (Str × Addr)) (fp : List Addr), Scp (X.blk s H scope (compEnvC scope cl C X.env) fp) vis1 loc1 gls1 → PG (X.blk s H scope (compEnvC scope cl C X.env) fp) tg (qG c own own vs g))
    (ht : ∀ (s : Shared) (H : Hp) (C : Addr) (cl : List (Str × Addr)) (fp : List Addr), Scp (X.blk s H scope (compEnvC scope cl C X.env) fp) vis1 loc1 gls1 → PTs (X.blk s H scope (compEnvC scope cl C X.env) fp) ifs (qT c W0 own t))
    (he : ∀ (s : Shared) (H : Hp) (C : Addr) (cl : List (Str × Addr)) (fp : List Addr), Scp (X.blk s H scope (compEnvC scope cl C X.env) fp) vis1 loc1 gls1 → PE (X.blk s H scope (compEnvC scope cl C X.env) fp) elt (qE c W0 own .frz m)) (ho : own' = i :: own.filter (· != i)) (hs : ∀ x, foldedSetIterable iter X.env x = pure x := by intro _; rfl) :
    PS X (.Assign [.Name x py] (.ListComp elt [⟨tg, iter, ifs, 0⟩] scope pos) spos) (qS c W own own' ownL (sNew i (eComp src vs g t m))) := qs_setLc hc V.nd hNi hyl hsw hi ok hv (own_all hd) (fun s H C cl fp => hg s H C cl fp (scp_blk hV hNN)) (fun s H C cl fp => ht s H C cl fp (scp_blk hV hNN)) (fun s H C cl fp => he s H C cl fp (scp_blk hV hNN)) hs ho
theorem okD {P : Program} {w : World} {K : KF} {mg : Str → Option Value} {base : Heap} {N : List Str} {qual : Str} {sc : Scope} {f : Addr} {cd : Value} {A : Around} {outer : List PySem.Env} {s : Shared} {H : Hp} {E : XK} (h : blkC N sc scope ob = true) :
    BlkOk (cxOf (L2.CX P w) P w K mg base N qual sc f cd A outer s H E).N (cxOf (L2.CX P w) P w K mg base N qual sc f cd A outer s H E).env.scope scope ob := blkOk_by h
theorem lcl_def {P : Program} {w : World} {K : KF} {mg : Str → Option Value} {base : Heap} {N : List Str} {qual : Str} {sc : Scope} {f : Addr} {cd : Value} {A : Around} {outer : List PySem.Env} {s : Shared} {H : Hp} {E : XK} (h : sc.names.lookup x = some .local) :
    (cxOf (L2.CX P w) P w K mg base N qual sc f cd A outer s H E).env.scope.names.lookup x = some .local := h
/-! ### is None as a test; loops -/
theorem qt_isN {jj : Nat} (ha : PE X a (qE c W own .sh m)) : PT X (.Compare a [.Is] [.Constant .none jj p2] pos) (qT c W own (tE (e1 isN m))) := (pt_cmp (pc_isN ha)).imp fun σ H Q ⟨Z, ρ, S, p⟩ => ⟨Z, ρ, S, (Post.bnd (Post.bnd p)).imp (fun d p1 v Z1 H1 x1 hv => by
  rw [(sh_non hv).1] at p1
  exact ⟨_, rfl, p1 Z1 H1 x1⟩) fun _ q => q⟩
theorem qt_notN {jj : Nat} (ha : PE X a (qE c W own .sh m)) : PT X (.Compare a [.IsNot] [.Constant .none jj p2] pos) (qT c W own (tE (e1 notN m))) := (pt_cmp (pc_notN ha)).imp fun σ H Q ⟨Z, ρ, S, p⟩ => ⟨Z, ρ, S, (Post.bnd (Post.bnd p)).imp (fun d p1 v Z1 H1 x1 hv => by
  rw [(sh_non hv).2] at p1
  exact ⟨_, rfl, p1 Z1 H1 x1⟩) fun _ q => q⟩
/-! ### own errors -/
/-- what is known of the classes of own errors -/
structure Errs (K : KF) (EC : Nat → Addr) (sub : Nat → Nat → Bool) : Prop where
  ex : ∀ n, ∃ bmB B newId initId, ExcBaseFacts B newId initId bmB ∧ PySem.W.excIn K (EC n) bmB newId = true
  keep : ∀ n, PySem.W.keepIn K (.ref (EC n)) = true
  top : ∀ n, PySem.W.subIn K (.ref (EC n)) (.type "BaseException") = some true
  ty : ∀ n, PySem.W.typeIn K (.ref (EC n)) = some (.type "type")
  exm : ∀ y n, PySem.W.exmOne K (.ref (EC y)) (.ref (EC n)) = some (sub y n)
  kit : ∀ y n, PySem.W.kitOne K (.ref (EC y)) (.ref (EC n)) = some (sub y n)
  cls : ∀ y, ExcC K (EC y)
  ve : ∀ y, PySem.W.kitOne K (.ref (EC y)) (.type "ValueError") = some true
theorem sRse {s : Str} {kk : Nat} {sub : Nat → Nat → Bool} (n j : Nat) (V : Scp X vis loc gls) (hc : X.calm = true) (tk : Takes X W) (Er : Errs X.K c.EC sub) (hj : gls[j]? = some x) (hm : X.mg x = some (.ref (c.EC n))) : PS X (.Raise (some (.Call (.Name x p) [.Constant (.str s) kk p2] [] pos)) none spos) (qS c W own own' ownL (sRaise n)) := by
  obtain ⟨bmB, B, newId, initId, F, q⟩ := Er.ex n
  exact qs_raise hc tk F q hm (Er.keep n) (raises_own (Er.top n) (Er.ty n)) (V.gl j _ hj).1 (V.gl j _ hj).2.1
/-! ### try -/
theorem sTryO {b₀ : Stmt} {body suite : List Stmt} {np pos' : Pos} {sub : Nat → Nat → Bool} {sa su : SM} (n j : Nat) (V : Scp X vis loc gls) (hs : X.stack = X.env :: X.outer) (hf : X.env.frame = some X.env.locals) (tk : Takes X W) (Er : Errs X.K c.EC sub) (hj : gls[j]? = some x) (hm : X.mg x = some (.ref (c.EC n)))
    (hb : ∀ (W' : WX) (pn : List (Addr × Obj)) (xe : Value → Shared → Prop), Scp (X.tr pn xe) vis loc gls → Takes (X.tr pn xe) W' → PassesOwn (model X.prog X.w) X.A X.env xe → PSs (X.tr pn xe) body (qS c W' own own' ownL sa))
    (hsu : ∀ (a : Addr) (oe : Obj) (y : Nat) (pn : List (Addr × Obj)), Scp (X.suite a ((a, oe) :: pn)) vis loc gls → Zc (.ref (c.EC y)) none oe → (∃ vs, oe.data = .fields vs) → PSs (X.suite a ((a, oe) :: pn)) (b₀ :: suite) (qS c W0 [] own' ownL su)) :
    PS X (.Try body [.ExceptHandler (some (.Name x np)) none (b₀ :: suite) pos'] [] [] pos) (qS c W own own' ownL (sTry [((fun y => sub y n), none, su)] sa)) :=
  qs_try_only hs hf ⟨(V.gl j _ hj).1, (V.gl j _ hj).2.1, .inl hm⟩ tk (fun y => Er.exm y n) (fun W' pn xe => hb W' pn xe (V.tr pn xe)) (fun a oe y pn => hsu a oe y pn (V.suite a _))
theorem sTryA {b₀ : Stmt} {body suite : List Stmt} {np pos' : Pos} {nn : Str} {sub : Nat → Nat → Bool} {sa su : SM} (i n j : Nat) (V : Scp X vis loc gls) (hs : X.stack = X.env :: X.outer) (hf : X.env.frame = some X.env.locals) (hN : X.N[i]? = some nn) (hln : X.env.kindOf nn = some .local) (tk : Takes X W) (Er : Errs X.K c.EC sub) (hj : gls[j]? = some x) (hm : X.mg x = some (.ref (c.EC n)))
    (hx : c.xs = none) (hio : i ∉ own') (hiL : i ∉ ownL)
    (hb : ∀ (W' : WX) (pn : List (Addr × Obj)) (xe : Value → Shared → Prop), Scp (X.tr pn xe) vis loc gls → Takes (X.tr pn xe) W' → PassesOwn (model X.prog X.w) X.A X.env xe → PSs (X.tr pn xe) body (qS c W' own own' ownL sa))
    (hsu : ∀ (a : Addr) (oe : Obj) (y : Nat) (pn : List (Addr × Obj)), Scp (X.suite a ((a, oe) :: pn)) vis loc gls → Zc (.ref (c.EC y)) none oe → (∃ vs, oe.data = .fields vs) → PSs (X.suite a ((a, oe) :: pn)) (b₀ :: suite) (qS (c.held i a y) W0 [] own' ownL su)) :
    PS X (.Try body [.ExceptHandler (some (.Name x np)) (some nn) (b₀ :: suite) pos'] [] [] pos) (qS c W own own' ownL (sTry [((fun y => sub y n), some i, su)] sa)) :=
  qs_try_as hs hf V.nd hN hln ⟨(V.gl j _ hj).1, (V.gl j _ hj).2.1, .inl hm⟩ tk (fun y => Er.exm y n) hx hio hiL (fun W' pn xe => hb W' pn xe (V.tr pn xe)) (fun a oe y pn => hsu a oe y pn (V.suite a _))
/-- isinstance(e, X) in a suite -/
theorem xIsx {A : Addr} {oe : Obj} {pn : List (Addr × Obj)} {y : Nat} {xe xc : Str} {pe' pc : Pos} {sub : Nat → Nat → Bool} (i n j jc : Nat) (V : Scp (X.suite A ((A, oe) :: pn)) vis loc gls) (hK : c.K = X.K) (hx : c.xs = some (i, A, y)) (hz : Zc (.ref (c.EC y)) none oe) (hf : ∃ vs, oe.data = .fields vs) (Er : Errs X.K c.EC sub)
    (hi : i ∈ vis) (hN : X.N[i]? = some xe) (hj : gls[j]? = some ("isinstance" : Str)) (hm : X.mg "isinstance" = none) (hjc : gls[jc]? = some xc) (hmc : X.mg xc = some (.ref (c.EC n)))
    (hs : starEach (.Name xe pe' :: [.Name xc pc]) X.env = (false, eval (.Name xe pe') X.env) :: starEach [.Name xc pc] X.env := by rfl) (hs2 : starEach (.Name xc pc :: []) X.env = (false, eval (.Name xc pc) X.env) :: starEach [] X.env := by rfl) (hpl : (backTo pos (starEach [.Name xc pc] X.env)).any (·.1) = false := by rfl) :
    PE (X.suite A ((A, oe) :: pn)) (.Call (.Name "isinstance" p) [.Name xe pe', .Name xc pc] [] pos) (qE c W own .new (e1 (isX sub n) (eV i))) :=
  q_isx hK hx hz hf (Er.cls y) hN (V.vis i hi xe hN).1 (V.vis i hi xe hN).2.1 (V.vis i hi xe hN).2.2 (V.gl j _ hj).1 hm (V.gl jc _ hjc).1 hmc (V.gl jc _ hjc).2.1 (fun y => Er.kit y n) hs hs2 hpl
/-! ### constants of the module -/
def ModC (K : KF) (mg : Str → Option Value) (x : Str) (d : Dat) : Prop := ∃ u v, mg x = some u ∧ RelV v u ∧ ∀ Z H, Rep K Z H v d
theorem xG {d : Dat} (j : Nat) (V : Scp X vis loc gls) (hj : gls[j]? = some x) (h : ModC c.K X.mg x d) : PE X (.Name x pos) (qE c W own .frz (eC d)) := by
  obtain ⟨u, v, h1, h2, h3⟩ := h
  exact q_glob (V.gl j _ hj).1 h1 h2 h3 (V.gl j _ hj).2.1
end
end PL

set_option maxRecDepth 100000
set_option maxHeartbeats 4000000
namespace PL
open PySem PySem.Spec PyProof.Rows L2
set_option autoImplicit false

section
variable {X : Cx} {vis loc : List Nat} {gls : List Str} {c : Ct} {W : WX} {own own' ownL : List Nat} {a b d o ee : Expr} {es : List Expr} {m m1 m2 m3 : EM} {pos p p2 apos : Pos} {x y z : Str} {i j k : Nat}
/-! ### a text's method with two arguments -/
def MtV2 (K : KF) (r : V → List V → Hp → VK → Prop) (f : Dat → Dat → Dat → R Dat) : Prop := ∀ (Z : ZS) (H Hs : Hp) (z : Str) (v u : V) (d e : Dat) (Q : VK), Trk Z H → Same Hs H → okS z.cps.toList → Sh K Z H v d → Sh K Z H u e →
  Post (f (.str z.cps.toList) d e) (Wnt K Z H Hs .new Q) (fun _ => False) → r (.str z) [v, u] H Q
theorem mt2_read {r : V → List V → Hp → VK → Prop} {f : Dat → Dat → Dat → R Dat} {σ : St} {H : Hp} {Q : VK} (hr : MtV2 c.K r f) (nx : ∀ x y z n, f x y z ≠ .exc n) (h : qE c W own .new (eM2 f m1 m2 m3) σ H Q) : tBM c.K "str" r (qE c W own .sh m1) (qA c W own .sh (eCons m2 (eCons m3 eNil))) σ H Q := by
  obtain ⟨Z, ρ, S, p⟩ := h
  refine ⟨Z, ρ, S, (Post.bnd p).imp (fun d p1 v Z1 H1 x1 hv => ?_) fun _ q => q⟩
  have hv : Sh c.K Z1 H1 v d := hv
  cases hv with
  | str z hz =>
    refine ⟨rfl, Z1, ρ, S.move x1, ?_⟩
    have p1 : Post ((m2 ρ).bnd fun y => (m3 ρ).bnd fun w => f (.str z.cps.toList) y w) _ _ := p1
    have p2 := Post.bnd p1
    unfold eCons eNil
    cases q : m2 ρ with
    | bad => rw [q] at p2; exact p2.elim
    | exc x => rw [q] at p2; exact PX.move x1 p2
    | ok d2 =>
      rw [q] at p2
      have p3 := Post.bnd p2
      rw [PL.R.bnd_ok]
      cases q2 : m3 ρ with
      | bad => rw [q2] at p3; exact p3.elim
      | exc x => rw [q2] at p3; exact PX.move x1 p3
      | ok d3 =>
        rw [q2] at p3
        intro vs Z2 H2 x2 hvs
        cases hvs with
        | cons h1 h2 =>
          cases h2 with
          | cons h2 h3 =>
            cases h3
            exact hr Z2 H2 H z _ _ d2 d3 Q x2.trk (x1.same.trans x2.same) hz h1 h2 ((Post.nox (nx _ d2 d3) p3).imp (fun w q w2 Z3 H3 x3 hw => q w2 Z3 H3 ((x1.trans x2).trans x3) hw) fun _ q => q)
  | _ => exact False.elim p1
theorem starts3_eq (x y : Str) {i : Int} (h : 0 ≤ i) : Txt.startswith3 x y i = (decide (i ≤ x.cps.toList.length) && begins y.cps.toList (x.cps.toList.drop i.toNat)) := by
  have e : fromIndex x.length i = i.toNat := by
    unfold fromIndex
    rw [if_neg (by omega)]
    omega
  unfold Txt.startswith3
  rw [e, Bool.eq_iff_iff, Bool.and_eq_true, Bool.and_eq_true, decide_eq_true_iff, decide_eq_true_iff, sub_iff, begins_iff]
  simp only [Str.length, List.length_drop, Array.length_toList]
  constructor
  · rintro ⟨h1, h2⟩
    exact ⟨by omega, by omega, h2⟩
  · rintro ⟨h1, h2, h3⟩
    exact ⟨by omega, h3⟩
theorem nx_startsAt : ∀ x y z n, startsAtD x y z ≠ .exc n := fun x y z n h => by
  unfold startsAtD at h
  split at h
  · split at h
    · split at h <;> cases h
    · cases h
  · cases h
theorem q_startsAt (hK : c.K = X.K) (ho : PE X o (qE c W own .sh m1)) (ha : PE X a (qE c W own .sh m2)) (hb : PE X b (qE c W own .sh m3))
    (hbase : attributeBase o "startswith" X.env (eval o X.env) = eval o X.env := by rfl)
    (hfew : ((backTo pos (starEach (a :: [b]) X.env)).all (fun x => !x.1) && (backToKw pos (keywordEach [] X.env)).all (fun x => x.1.isSome)
      && decide ((a :: [b]).length + ([] : List Keyword).length + (if ([] : List Keyword).isEmpty then 0 else 1) < 30)) = true := by rfl)
    (hline : (apos.endLine == pos.line) = true := by rfl) (hs : starEach (a :: [b]) X.env = (false, eval a X.env) :: starEach [b] X.env := by rfl) (hs2 : starEach (b :: []) X.env = (false, eval b X.env) :: starEach [] X.env := by rfl) (hplain : (backTo pos (starEach [b] X.env)).any (·.1) = false := by rfl) :
    PE X (.Call (.Attribute o "startswith" apos) [a, b] [] pos) (qE c W own .new (eM2 startsAtD m1 m2 m3)) :=
  (pe_bm PySem.F.plainAttrs_str PySem.F.slot_str_startswith PySem.F.type_str_startswith mt_startswith3 ho (qa_cons ha (qa_cons hb qa_nil hs2) hs) hbase hfew hline hs hplain).imp fun σ H Q h => by
    rw [← hK]
    refine mt2_read (fun Z H Hs z v u d e Q t s hz hv hu p => ?_) nx_startsAt h
    cases hv with
    | str y hy =>
      cases hu with
      | int i =>
        have p : Post (if 0 ≤ i then (if i ≤ z.cps.toList.length then R.ok (.bl (begins y.cps.toList (z.cps.toList.drop i.toNat))) else .ok (.bl false)) else .bad) (Wnt c.K Z H Hs .new Q) (fun _ => False) := p
        by_cases hi : 0 ≤ i
        · rw [if_pos hi] at p
          refine ⟨z, y, i, rfl, rfl, ?_⟩
          rw [starts3_eq z y hi]
          by_cases h2 : i ≤ z.cps.toList.length
          · rw [if_pos h2] at p
            rw [decide_eq_true h2, Bool.true_and]
            exact Wnt.bl t p
          · rw [if_neg h2] at p
            rw [decide_eq_false h2, Bool.false_and]
            exact Wnt.bl t p
        · rw [if_neg hi] at p
          exact p.elim
      | _ => exact False.elim p
    | _ => cases hu <;> exact False.elim p
/-! ### a, b = x, y of plain locals -/
theorem sPar2 {i j : Nat} {va vb : Expr} {px py pt pt2 : Pos} {kt k2 : Nat} (V : Scp X vis loc gls) (hc : X.calm = true) (hi : X.N[i]? = some x) (hj : X.N[j]? = some y) (hij : (i == j) = false) (hx : X.env.scope.names.lookup x = some .local) (hy : X.env.scope.names.lookup y = some .local)
    (ha : PE X va (qE c W own .frz m1)) (hb : PE X vb (qE c W own .frz m2)) (ho : own' = (own.filter (· != i)).filter (· != j))
    (hw : swappedStores [.Tuple [.Name x px, .Name y py] kt pt] (.Tuple [va, vb] k2 pt2) X.env = pure (some [x, y])) (hst : starEach (va :: [vb]) X.env = (false, eval va X.env) :: starEach [vb] X.env := by rfl) (hst2 : starEach (vb :: []) X.env = (false, eval vb X.env) :: starEach [] X.env := by rfl)
    (hs : swapsWithSole [.Tuple [.Name x px, .Name y py] kt pt] (.Tuple [va, vb] k2 pt2) pos.line X.env = pure false := by rfl) :
    PS X (.Assign [.Tuple [.Name x px, .Name y py] kt pt] (.Tuple [va, vb] k2 pt2) pos) (qS c W own own' ownL (sPar [i, j] (eCons m1 (eCons m2 eNil)))) := by
  subst ho
  have hij' : i ≠ j := by simpa using hij
  refine (ps_par hc V.nd hi hj hij' hx hy (qa_cons ha (qa_cons hb qa_nil hst2) hst) hw hs).imp fun D σ H ⟨Z, ρ, S, p⟩ => ⟨Z, ρ, S, ?_⟩
  refine (PostS.lft S p).imp (fun ds p1 vs Z1 H1 x1 hv => ?_) fun _ q => q
  by_cases hz : ds.length = [i, j].length ∧ [i, j].all (· < ρ.length) = true
  · rw [if_pos hz] at p1
    obtain ⟨h1, h2⟩ := hz
    simp only [List.all_cons, List.all_nil, Bool.and_true, Bool.and_eq_true, decide_eq_true_eq] at h2
    match ds, h1, hv, p1 with
    | [d, e], _, .cons r1 (.cons r2 .nil), p1 =>
      refine ⟨_, _, rfl, ?_⟩
      have S1 := S.move x1
      have S2 := S1.set (i := i) r1 h2.1
      have S3 := S2.set (i := j) r2 (by simpa using h2.2)
      exact p1 Z1 H1 _ x1.adv S3
  · rw [if_neg hz] at p1
    exact p1.elim
theorem sPar3 {i j l : Nat} {va vb vc : Expr} {px py pz pt pt2 : Pos} {kt k2 : Nat} (V : Scp X vis loc gls) (hc : X.calm = true) (hi : X.N[i]? = some x) (hj : X.N[j]? = some y) (hl : X.N[l]? = some z) (hij : (i == j) = false) (hil : (i == l) = false) (hjl : (j == l) = false)
    (hx : X.env.scope.names.lookup x = some .local) (hy : X.env.scope.names.lookup y = some .local) (hz : X.env.scope.names.lookup z = some .local)
    (ha : PE X va (qE c W own .frz m1)) (hb : PE X vb (qE c W own .frz m2)) (hd : PE X vc (qE c W own .frz m3)) (ho : own' = ((own.filter (· != i)).filter (· != j)).filter (· != l))
    (hw : swappedStores [.Tuple [.Name x px, .Name y py, .Name z pz] kt pt] (.Tuple [va, vb, vc] k2 pt2) X.env = pure (some [x, y, z])) (hst : starEach (va :: [vb, vc]) X.env = (false, eval va X.env) :: starEach [vb, vc] X.env := by rfl) (hst2 : starEach (vb :: [vc]) X.env = (false, eval vb X.env) :: starEach [vc] X.env := by rfl) (hst3 : starEach (vc :: []) X.env = (false, eval vc X.env) :: starEach [] X.env := by rfl)
    (hs : swapsWithSole [.Tuple [.Name x px, .Name y py, .Name z pz] kt pt] (.Tuple [va, vb, vc] k2 pt2) pos.line X.env = pure false := by rfl) :
    PS X (.Assign [.Tuple [.Name x px, .Name y py, .Name z pz] kt pt] (.Tuple [va, vb, vc] k2 pt2) pos) (qS c W own own' ownL (sPar [i, j, l] (eCons m1 (eCons m2 (eCons m3 eNil))))) := by
  subst ho
  have hij' : i ≠ j := by simpa using hij
  have hil' : i ≠ l := by simpa using hil
  have hjl' : j ≠ l := by simpa using hjl
  refine (ps_par3 hc V.nd hi hj hl hij' hil' hjl' hx hy hz (qa_cons ha (qa_cons hb (qa_cons hd qa_nil hst3) hst2) hst) hw hs).imp fun D σ H ⟨Z, ρ, S, p⟩ => ⟨Z, ρ, S, ?_⟩
  refine (PostS.lft S p).imp (fun ds p1 vs Z1 H1 x1 hv => ?_) fun _ q => q
  by_cases hz : ds.length = [i, j, l].length ∧ [i, j, l].all (· < ρ.length) = true
  · rw [if_pos hz] at p1
    obtain ⟨h1, h2⟩ := hz
    simp only [List.all_cons, List.all_nil, Bool.and_true, Bool.and_eq_true, decide_eq_true_eq] at h2
    match ds, h1, hv, p1 with
    | [d, e, f], _, .cons r1 (.cons r2 (.cons r3 .nil)), p1 =>
      refine ⟨_, _, _, rfl, ?_⟩
      have S1 := S.move x1
      have S2 := S1.set (i := i) r1 h2.1
      have S3 := S2.set (i := j) r2 (by simpa using h2.2.1)
      have S4 := S3.set (i := l) r3 (by simpa using h2.2.2)
      exact p1 Z1 H1 _ x1.adv S4
  · rw [if_neg hz] at p1
    exact p1.elim
end
end PL

set_option maxRecDepth 100000
set_option maxHeartbeats 4000000
namespace PL
open PySem PySem.Spec PyProof.Rows L2
set_option autoImplicit false

abbrev SuiteT := Addr → Value → Option Addr → TS
/-- the ends of a suite that holds an error in the slot i -/
def offD (i : Nat) (D : Ends) : Ends := { nx := fun σ' H' => D.nx (σ'.set i none) H', rt := D.rt, bk := fun σ' H' => D.bk (σ'.set i none) H', ct := fun σ' H' => D.ct (σ'.set i none) H' }
def wMix (K : KF) (Wo : WX) (D : Ends) : List (Value × Option Nat × SuiteT) → WX
  | [] => Wo
  | (cv, none, ts) :: r => fun cl dd σ H => ∃ yes, PySem.W.exmOne K cl cv = some yes ∧ (yes = true → ∀ q, H q = none → ts q cl dd D σ H) ∧ (yes = false → wMix K Wo D r cl dd σ H)
  | (cv, some i, ts) :: r => fun cl dd σ H => ∃ yes, PySem.W.exmOne K cl cv = some yes ∧ (yes = true → ∀ q, H q = none → ts q cl dd (offD i D) (σ.set i (some (.ref q))) H) ∧ (yes = false → wMix K Wo D r cl dd σ H)
/-- the clauses' suites -/
inductive MixOk (X : Cx) : List ExceptHandler → List (Value × Option Nat × SuiteT) → Prop
  | nil : MixOk X [] []
  | bare {x : Str} {cv : Value} {ts : SuiteT} {b₀ : Stmt} {su : List Stmt} {np hp : Pos} {hl : List ExceptHandler} {l : List (Value × Option Nat × SuiteT)} (nm : Names X x cv)
      (go : ∀ (q : Addr) (oe : Obj) (cl : Value) (dd : Option Addr) (pn : List (Addr × Obj)), Zc cl dd oe → (∃ vs, oe.data = .fields vs) → PSs (X.suite q ((q, oe) :: pn)) (b₀ :: su) (ts q cl dd)) (r : MixOk X hl l) :
      MixOk X (.ExceptHandler (some (.Name x np)) none (b₀ :: su) hp :: hl) ((cv, none, ts) :: l)
  | held {x n : Str} {i : Nat} {cv : Value} {ts : SuiteT} {b₀ : Stmt} {su : List Stmt} {np hp : Pos} {hl : List ExceptHandler} {l : List (Value × Option Nat × SuiteT)} (nm : Names X x cv) (hi : X.N[i]? = some n) (hn : X.env.kindOf n = some .local)
      (go : ∀ (q : Addr) (oe : Obj) (cl : Value) (dd : Option Addr) (pn : List (Addr × Obj)), Zc cl dd oe → (∃ vs, oe.data = .fields vs) → PSs (X.suite q ((q, oe) :: pn)) (b₀ :: su) (ts q cl dd)) (r : MixOk X hl l) :
      MixOk X (.ExceptHandler (some (.Name x np)) (some n) (b₀ :: su) hp :: hl) ((cv, some i, ts) :: l)
theorem ps_mix {X : Cx} {body : List Stmt} {h₀ : ExceptHandler} {hl : List ExceptHandler} {l : List (Value × Option Nat × SuiteT)} {pos : Pos} {tb : WX → TS} {Wo : WX} (stk : X.stack = X.env :: X.outer) (frm : X.env.frame = some X.env.locals) (nd : X.N.Nodup) (tk : Takes X Wo)
    (hb : ∀ (W : WX) (pn : List (Addr × Obj)) (xe : Value → Shared → Prop), Takes (X.tr pn xe) W → PassesOwn (model X.prog X.w) X.A X.env xe → PSs (X.tr pn xe) body (tb W)) (mx : MixOk X (h₀ :: hl) l) :
    PS X (.Try body (h₀ :: hl) [] [] pos) (fun D σ H => tb (wMix X.K Wo D l) D σ H) := by
  refine ⟨fun ps sh σ H D J0 h => ?_⟩
  have okx := J0.ok
  have fra : X.A.frames = some (X.env :: X.outer) := by rw [okx.frames, stk]
  let XE1 : Value → Shared → Prop := fun e z => wpAny (model X.prog X.w) X.A (noteFrame e X.env) (fun _ z2 => wpAny (model X.prog X.w) X.A (setFlight e none) (fun _ z3 => wpAny (model X.prog X.w) X.A (handleBy e X.env (h₀ :: hl)) (SP X ps D) X.xe z3) X.xe z2) X.xe z
  have caught : Takes (X.tr (X.pn ++ ps) XE1) (wMix X.K Wo D l) := by
    rintro u z ⟨q, B, zI, ps2, σ2, H2, cl, dd, rfl, Jt, nb, up, sky, na, os, ag, w⟩
    have J : Inv X ps σ2 H2 zI := Jt.ofTry okx
    have sk : Sky B (X.env :: X.outer) q (Zc cl dd) X.env.locals z.heap := by
      rw [← stk]
      exact sky
    show wpAny (model X.prog X.w) X.A (noteFrame (.ref q) X.env) _ _ _
    refine Sky.land Zc.steady fra frm sk fun g fl ug => ?_
    have J3 : Inv X ps σ2 H2 { z with heap := g } := J.landed nb fl.1 (up.trans ug) os ag
    obtain ⟨ob, vb, eb, zb, db⟩ := fl.there
    have apart : q ∉ frs (X.env :: X.outer) := fun hm => by
      obtain ⟨_, ob', e', ne⟩ := fl.2.2.1.mem hm
      rw [eb] at e'
      cases e'
      exact ne _ db
    have qL : q ≠ X.env.locals := fun z => apart (List.mem_filterMap.mpr ⟨X.env, List.mem_cons_self, by rw [frm, z]⟩)
    have qF : q ∉ X.fs := fun hm => by
      obtain ⟨e, he, z⟩ := List.mem_filterMap.mp hm
      exact apart (List.mem_filterMap.mpr ⟨e, List.mem_cons_of_mem _ he, z⟩)
    have S3 := J3.suite eb db na qL qF
    have typ : PySem.W.Looks (model X.prog X.w) g (typeOf (.ref q)) cl := fun A Q E s k hq => wpAny_typeOf_ref (k _ _ eb) (by rw [zb.1]; exact hq)
    -- the test of one clause
    have test : ∀ {x : Str} {np : Pos} {cv : Value} {Q : Value → Shared → Prop} {E : Value → Shared → Prop}, Names X x cv → Q cv { z with heap := g } → wpAny (model X.prog X.w) (X.A.mark (some (.ref q))) (eval (.Name x np) X.env) Q E { z with heap := g } := fun {x np cv Q E} nm hq => by
      obtain ⟨hg, hdbg, hm | ⟨hm, hv, hnn⟩⟩ := nm
      · exact ld_glob (X := X.suite q ((q, ob) :: (X.pn ++ ps))) S3 hg hm hq hdbg
      · exact ld_blt (X := X.suite q ((q, ob) :: (X.pn ++ ps))) S3 hg hm hv hq hnn hdbg
    have walk : ∀ {hl' : List ExceptHandler} {l' : List (Value × Option Nat × SuiteT)}, MixOk X hl' l' → wMix X.K Wo D l' cl dd σ2 H2 → wpAny (model X.prog X.w) X.A (handleBy (.ref q) X.env hl') (SP X ps D) X.xe { z with heap := g } := by
      intro hl' l' hk
      induction hk with
      | nil =>
        intro w
        refine wpAny_handleBy_nil ?_
        obtain ⟨_, _, _, oe, vs, T, oT, ts', he, hz, hd, h1, hr⟩ := id fl
        unfold PySem.passOn
        refine wpAny_bind (wpAny_field he hd h1 ?_)
        rw [if_neg (by simp : ¬ ((Value.ref T == Value.none) = true))]
        have out : wpAny (model X.prog X.w) X.A (setFlight (.ref q) X.env.frame) (fun _ z4 => wpAny (model X.prog X.w) X.A (throw (.ref q) : Sem Flow) (SP X ps D) X.xe z4) X.xe { z with heap := g } := by
          rw [frm]
          refine HandSPX.setFlight_upZ fl fun g2 k2 u2 => wpAny_throw (tk _ _ ?_)
          refine ⟨q, B, zI, ps, σ2, H2, cl, dd, rfl, J, nb, (up.trans ug).trans u2, .inr (.inr ?_), na, os, ag, w⟩
          rw [stk]
          exact k2
        first
          | exact wpAny_bind (wpAny_pure (wpAny_bind out))
          | exact wpAny_bind out
      | @bare x cv ts b₀ su np hp hl2 l2 nm go r ih =>
        rintro ⟨yes, e1, hy, hn⟩
        refine wpAny_handleBy_cons (codeAny_handlers_test ?_) (by intro k; cases k)
        refine test nm ((PySem.W.exm_one (M := model X.prog X.w) J3.kIn typ e1).here ?_)
        cases yes with
        | false =>
          show wpAny _ X.A (handleBy (.ref q) X.env hl2) _ _ _
          exact ih (hn rfl)
        | true =>
          refine codeAny_handlers_suite (HandSPX.lands_againZ fl fun g4 fl4 u4 => ?_)
          have J4 : Inv X ps σ2 H2 { z with heap := g4 } := J.landed nb fl4.1 ((up.trans ug).trans u4) os ag
          obtain ⟨o4, v4, e4, z4, d4⟩ := fl4.there
          have S4 := J4.suite e4 d4 na qL qF
          refine wpAny_mono ((go q o4 cl dd (X.pn ++ ps) z4 ⟨_, d4⟩).run [] _ _ H2 _ S4 (hy rfl q na)) (fun f y hy2 => ?_) (fun _ _ k => False.elim k)
          cases f with
          | ret u =>
            obtain ⟨v6, σ6, H6, S6, r6, q6⟩ := hy2
            exact ⟨_, _, _, S6.unsuite okx, r6, q6⟩
          | _ =>
            obtain ⟨σ6, H6, S6, q6⟩ := hy2
            exact ⟨_, _, S6.unsuite okx, q6⟩
      | @held x n i cv ts b₀ su np hp hl2 l2 nm hi hn0 go r ih =>
        rintro ⟨yes, e1, hy, hn⟩
        refine wpAny_handleBy_cons (codeAny_handlers_test ?_) (by intro k; cases k)
        refine test nm ((PySem.W.exm_one (M := model X.prog X.w) J3.kIn typ e1).here ?_)
        cases yes with
        | false =>
          show wpAny _ X.A (handleBy (.ref q) X.env hl2) _ _ _
          exact ih (hn rfl)
        | true =>
          refine codeAny_handlers_suite_as (HandSPX.lands_againZ fl fun g4 fl4 u4 => ?_)
          have J4 : Inv X ps σ2 H2 { z with heap := g4 } := J.landed nb fl4.1 ((up.trans ug).trans u4) os ag
          obtain ⟨o4, v4, e4, z4, d4⟩ := fl4.there
          have S4 := J4.suite e4 d4 na qL qF
          refine store_ok (X := X.suite q ((q, o4) :: (X.pn ++ ps))) (v := .ref q) S4 nd hi (.inl hn0) rfl (fun y5 S5 => ?_) (.inr hn0)
          refine wpAny_mono ((go q o4 cl dd (X.pn ++ ps) z4 ⟨_, d4⟩).run [] y5 _ H2 _ S5 (hy rfl q na)) (fun f y hy2 => ?_) (fun _ _ k => False.elim k)
          have gone : ∀ {σ6 : St} {H6 : Hp} {Q : Shared → Prop}, Inv (X.suite q ((q, o4) :: (X.pn ++ ps))) [] σ6 H6 y → (∀ y7, Inv X ps (σ6.set i none) H6 y7 → Q y7) → wpAny (model X.prog X.w) X.A (do bindName X.env n .none; unbindBehindTheSuite X.env n hp) (fun _ y7 => Q y7) X.xe y :=
            fun {σ6 H6 Q} S6 hq => gone_ok (S6.unsuite okx) nd hi hn0 hq
          cases f with
          | ret u =>
            obtain ⟨v6, σ6, H6, S6, r6, q6⟩ := hy2
            exact gone S6 fun y7 J7 => ⟨_, _, _, J7, r6, q6⟩
          | _ =>
            obtain ⟨σ6, H6, S6, q6⟩ := hy2
            exact gone S6 fun y7 J7 => ⟨_, _, J7, q6⟩
    exact walk mx w
  refine wpAny_Try_except ?_
  refine wpAny_mono ((hb (wMix X.K Wo D l) (X.pn ++ ps) XE1 caught PassesOwn.looking).run [] sh σ H D (J0.toTry _) h) (fun f z hz => ?_) (fun e z he => he)
  cases f with
  | next =>
    obtain ⟨σ', H', J', q⟩ := hz
    exact wpAny_execs_nil ⟨σ', H', J'.ofTry okx, q⟩
  | ret u =>
    obtain ⟨v, σ', H', J', r, q⟩ := hz
    exact ⟨v, σ', H', J'.ofTry okx, r, q⟩
  | _ =>
    obtain ⟨σ', H', J', q⟩ := hz
    exact ⟨σ', H', J'.ofTry okx, q⟩
/-- the clauses over their mirrors -/
inductive HdQ (X : Cx) (c : Ct) (own' ownL : List Nat) (sub : Nat → Nat → Bool) : List ExceptHandler → List (Value × Option Nat × SuiteT) → List ((Nat → Bool) × Option Nat × SM) → Prop
  | nil : HdQ X c own' ownL sub [] [] []
  | bare {x : Str} {n : Nat} {b₀ : Stmt} {su : List Stmt} {np hp : Pos} {sm : SM} {hl : List ExceptHandler} {l : List (Value × Option Nat × SuiteT)} {hs : List ((Nat → Bool) × Option Nat × SM)} (nm : Names X x (.ref (c.EC n)))
      (go : ∀ (a : Addr) (oe : Obj) (y : Nat) (pn : List (Addr × Obj)), Zc (.ref (c.EC y)) none oe → (∃ vs, oe.data = .fields vs) → PSs (X.suite a ((a, oe) :: pn)) (b₀ :: su) (qS c W0 [] own' ownL sm)) (r : HdQ X c own' ownL sub hl l hs) :
      HdQ X c own' ownL sub (.ExceptHandler (some (.Name x np)) none (b₀ :: su) hp :: hl) ((.ref (c.EC n), none, fun a cls d D σ H => ∃ y, cls = .ref (c.EC y) ∧ d = none ∧ qS c W0 [] own' ownL sm D σ H) :: l) (((fun y => sub y n), none, sm) :: hs)
  | held {x nn : Str} {i n : Nat} {b₀ : Stmt} {su : List Stmt} {np hp : Pos} {sm : SM} {hl : List ExceptHandler} {l : List (Value × Option Nat × SuiteT)} {hs : List ((Nat → Bool) × Option Nat × SM)} (nm : Names X x (.ref (c.EC n))) (hi : X.N[i]? = some nn) (hn : X.env.kindOf nn = some .local) (hio : i ∉ own') (hiL : i ∉ ownL)
      (go : ∀ (a : Addr) (oe : Obj) (y : Nat) (pn : List (Addr × Obj)), Zc (.ref (c.EC y)) none oe → (∃ vs, oe.data = .fields vs) → PSs (X.suite a ((a, oe) :: pn)) (b₀ :: su) (qS (c.held i a y) W0 [] own' ownL sm)) (r : HdQ X c own' ownL sub hl l hs) :
      HdQ X c own' ownL sub (.ExceptHandler (some (.Name x np)) (some nn) (b₀ :: su) hp :: hl) ((.ref (c.EC n), some i, fun a cls d D σ H => ∃ y, cls = .ref (c.EC y) ∧ d = none ∧ qS (c.held i a y) W0 [] own' ownL sm D σ H) :: l) (((fun y => sub y n), some i, sm) :: hs)
theorem HdQ.ok {X : Cx} {c : Ct} {W : WX} {own' ownL : List Nat} {sub : Nat → Nat → Bool} {hl : List ExceptHandler} {l : List (Value × Option Nat × SuiteT)} {hs : List ((Nat → Bool) × Option Nat × SM)} (h : HdQ X c own' ownL sub hl l hs) (hx : c.xs = none) (hex : ∀ y n, PySem.W.exmOne X.K (.ref (c.EC y)) (.ref (c.EC n)) = some (sub y n)) :
    MixOk X hl l ∧ ∀ (D : Ends) (y : Nat) (Z : ZS) (H : Hp) (σ : St) (ρ : Env), SE c [] Z H σ ρ → PostS c W own' ownL Z H D (hand hs y ρ) → wMix X.K W D l (.ref (c.EC y)) none σ H := by
  induction h with
  | nil => exact ⟨.nil, fun D y Z H σ ρ S q => q Z H σ .refl S⟩
  | @bare x n b₀ su np hp sm hl l hs nm go r ih =>
    refine ⟨.bare nm (fun a oe cl dd pn hz hd => suite_of fun y e1 e2 => by subst e1 e2; exact go a oe y pn hz hd) ih.1, fun D y Z H σ ρ S q => ⟨sub y n, hex y n, fun hy a ha => ⟨y, rfl, rfl, Z, ρ, S, ?_⟩, fun hy => ?_⟩⟩
    · unfold hand at q
      rw [if_pos hy] at q
      exact noEx_post q
    · unfold hand at q
      rw [if_neg (show ¬ sub y n = true by rw [hy]; exact Bool.false_ne_true)] at q
      exact ih.2 D y Z H σ ρ S q
  | @held x nn i n b₀ su np hp sm hl l hs nm hi hn hio hiL go r ih =>
    refine ⟨.held nm hi hn (fun a oe cl dd pn hz hd => suite_of fun y e1 e2 => by subst e1 e2; exact go a oe y pn hz hd) ih.1, fun D y Z H σ ρ S q => ⟨sub y n, hex y n, fun hy a ha => ⟨y, rfl, rfl, ?_⟩, fun hy => ?_⟩⟩
    · unfold hand at q
      rw [if_pos hy] at q
      by_cases hlt : i < ρ.length
      · rw [if_pos hlt] at q
        refine ⟨Z, ρ.set i (some (.exc y)), S.hold hx hlt, noEx_post (W := W) (own' := own') (ownL := ownL) ?_⟩
        match ho : noEx (sm (ρ.set i (some (.exc y)))) with
        | none => rw [ho] at q; exact q
        | some (.nx, ρ2) => rw [ho] at q; exact fun Z2 H2 σ2 a2 S2 => q Z2 H2 _ a2 (S2.letgo hio)
        | some (.ct, ρ2) => rw [ho] at q; exact fun Z2 H2 σ2 a2 S2 => q Z2 H2 _ a2 (S2.letgo hiL)
        | some (.bk, ρ2) => rw [ho] at q; exact fun Z2 H2 σ2 a2 S2 => q Z2 H2 _ a2 (S2.letgo hiL)
        | some (.rt d, ρ2) => rw [ho] at q; exact q
        | some (.ex z, ρ2) =>
          exfalso
          match h2 : sm (ρ.set i (some (.exc y))), ho with
          | none, ho => cases ho
          | some (.nx, _), ho => cases ho
          | some (.ct, _), ho => cases ho
          | some (.bk, _), ho => cases ho
          | some (.rt _, _), ho => cases ho
          | some (.ex _, _), ho => cases ho
      · rw [if_neg hlt] at q
        exact q.elim
    · unfold hand at q
      rw [if_neg (show ¬ sub y n = true by rw [hy]; exact Bool.false_ne_true)] at q
      exact ih.2 D y Z H σ ρ S q
section
variable {X : Cx} {vis loc : List Nat} {gls : List Str} {c : Ct} {W : WX} {own own' ownL : List Nat} {sub : Nat → Nat → Bool} {sa : SM} {body : List Stmt} {h₀ : ExceptHandler} {hl : List ExceptHandler} {l : List (Value × Option Nat × SuiteT)} {hs : List ((Nat → Bool) × Option Nat × SM)} {pos : Pos}
theorem sTryM (V : Scp X vis loc gls) (stk : X.stack = X.env :: X.outer) (frm : X.env.frame = some X.env.locals) (tk : Takes X W) (Er : Errs X.K c.EC sub) (hx : c.xs = none)
    (hb : ∀ (W' : WX) (pn : List (Addr × Obj)) (xe : Value → Shared → Prop), Scp (X.tr pn xe) vis loc gls → Takes (X.tr pn xe) W' → PassesOwn (model X.prog X.w) X.A X.env xe → PSs (X.tr pn xe) body (qS c W' own own' ownL sa)) (mx : HdQ X c own' ownL sub (h₀ :: hl) l hs) :
    PS X (.Try body (h₀ :: hl) [] [] pos) (qS c W own own' ownL (sTry hs sa)) := by
  have ok := mx.ok (W := W) hx Er.exm
  refine (ps_mix (tb := fun W' => qS c W' own own' ownL sa) (Wo := W) stk frm V.nd tk (fun W' pn xe => hb W' pn xe (V.tr pn xe)) ok.1).imp fun D σ H ⟨Z, ρ, S, p⟩ => ⟨Z, ρ, S, ?_⟩
  exact try_body (hs := hs) p fun y ρ' Z' H' σ' ad S' q => ok.2 D y Z' H' σ' ρ' S' q
theorem hdB {x : Str} {b₀ : Stmt} {su : List Stmt} {np hp : Pos} {sm : SM} (n j : Nat) (V : Scp X vis loc gls) (hj : gls[j]? = some x) (hm : X.mg x = some (.ref (c.EC n)))
    (go : ∀ (a : Addr) (oe : Obj) (y : Nat) (pn : List (Addr × Obj)), Scp (X.suite a ((a, oe) :: pn)) vis loc gls → Zc (.ref (c.EC y)) none oe → (∃ vs, oe.data = .fields vs) → PSs (X.suite a ((a, oe) :: pn)) (b₀ :: su) (qS c W0 [] own' ownL sm)) (r : HdQ X c own' ownL sub hl l hs) :
    HdQ X c own' ownL sub (.ExceptHandler (some (.Name x np)) none (b₀ :: su) hp :: hl) ((.ref (c.EC n), none, fun a cls d D σ H => ∃ y, cls = .ref (c.EC y) ∧ d = none ∧ qS c W0 [] own' ownL sm D σ H) :: l) (((fun y => sub y n), none, sm) :: hs) :=
  .bare ⟨(V.gl j _ hj).1, (V.gl j _ hj).2.1, .inl hm⟩ (fun a oe y pn => go a oe y pn (V.suite a _)) r
theorem hdH {x nn : Str} {b₀ : Stmt} {su : List Stmt} {np hp : Pos} {sm : SM} (i n j : Nat) (V : Scp X vis loc gls) (hj : gls[j]? = some x) (hm : X.mg x = some (.ref (c.EC n))) (hi : X.N[i]? = some nn) (hn : X.env.kindOf nn = some .local) (hio : i ∉ own') (hiL : i ∉ ownL)
    (go : ∀ (a : Addr) (oe : Obj) (y : Nat) (pn : List (Addr × Obj)), Scp (X.suite a ((a, oe) :: pn)) vis loc gls → Zc (.ref (c.EC y)) none oe → (∃ vs, oe.data = .fields vs) → PSs (X.suite a ((a, oe) :: pn)) (b₀ :: su) (qS (c.held i a y) W0 [] own' ownL sm)) (r : HdQ X c own' ownL sub hl l hs) :
    HdQ X c own' ownL sub (.ExceptHandler (some (.Name x np)) (some nn) (b₀ :: su) hp :: hl) ((.ref (c.EC n), some i, fun a cls d D σ H => ∃ y, cls = .ref (c.EC y) ∧ d = none ∧ qS (c.held i a y) W0 [] own' ownL sm D σ H) :: l) (((fun y => sub y n), some i, sm) :: hs) :=
  .held ⟨(V.gl j _ hj).1, (V.gl j _ hj).2.1, .inl hm⟩ hi hn hio hiL (fun a oe y pn => go a oe y pn (V.suite a _)) r
end
end PL

set_option maxRecDepth 100000
set_option maxHeartbeats 4000000
namespace PL
open PySem PySem.Spec PyProof.Rows L2
set_option autoImplicit false

section
variable {X : Cx} {c : Ct} {W : WX} {own own' vs : List Nat} {kx vx tg iter : Expr} {ifs : List Expr} {scope : Scope} {ob : List (Str × Nat)} {pos : Pos} {m ek ev : EM} {t : TM} {g : GM} {src : LM} {k : Kd} {vis loc : List Nat} {gls : List Str}
theorem compD_nx {ρ : Env} {y : Nat} : ∀ (ds : List Dat) (acc : List (Dat × Dat)), compD g t ek ev ρ ds acc ≠ .exc y
  | [], acc, h => by cases h
  | d :: r, acc, h => by
    unfold compD at h
    cases q1 : g d ρ with
    | exc z => rw [q1] at h; cases h
    | bad => rw [q1] at h; cases h
    | ok ρ1 =>
      rw [q1] at h
      simp only [noX, PL.R.bnd_ok] at h
      cases q2 : t ρ1 with
      | exc z => rw [q2] at h; cases h
      | bad => rw [q2] at h; cases h
      | ok b =>
        rw [q2] at h
        simp only [noX, PL.R.bnd_ok] at h
        cases b with
        | false => exact compD_nx r acc h
        | true =>
          simp only [if_true] at h
          cases q3 : ek ρ1 with
          | exc z => rw [q3] at h; cases h
          | bad => rw [q3] at h; cases h
          | ok k1 =>
            rw [q3] at h
            simp only [noX, PL.R.bnd_ok] at h
            cases q4 : ev ρ1 with
            | exc z => rw [q4] at h; cases h
            | bad => rw [q4] at h; cases h
            | ok v1 =>
              rw [q4] at h
              simp only [noX, PL.R.bnd_ok] at h
              split at h
              · exact compD_nx r _ h
              · cases h
theorem dc_read {σ : St} {H : Hp} {Q : VK} (hd : ∀ j ∈ vs, j ∉ own) (h : qE c W own .new (eDComp src vs g t ek ev) σ H Q) : tDc (qI c W own src) (qG c own own vs g) (qT c W0 own t) (qE c W0 own .sh ek) (qE c W0 own .frz ev) vs σ H Q := by
  obtain ⟨Z, ρ, S, p⟩ := h
  refine ⟨Z, ρ, S, (Post.bnd p).imp (fun ds p1 J Z1 H1 x1 it D hD => ?_) fun _ q => q⟩
  have S1 := S.move x1
  have hl1 : Ext Z1 H1 Z1 (upd H1 D (.dK [])) := .laid x1.trk hD
  have nD1 : ¬ Z1 D := fun z => by
    obtain ⟨u, q⟩ := x1.trk D z
    rw [hD] at q; cases q
  cases hc : compD g t ek ev (PL.wipe ρ vs) ds [] with
  | bad => rw [hc] at p1; exact p1.elim
  | exc y => exact absurd hc (compD_nx _ _)
  | ok total =>
    rw [hc] at p1
    have p2 : ∀ v Z' H', Ext Z H Z' H' → Val c.K Z' H' H .new v (.dic total) → Q v H' := p1
    refine ⟨fun i mm H' => ∃ Z' ks acc, Ext Z1 H1 Z' H' ∧ ¬ Z' D ∧ H' D = some (.dK ks) ∧ RepD c.K Z' H' ks acc ∧ i + mm = ds.length ∧ compD g t ek ev (PL.wipe ρ vs) (ds.drop i) acc = .ok total,
      ⟨ds.length, Z1, [], [], hl1, nD1, upd_same, .nil, by omega, by rw [List.drop_zero]; exact hc⟩, ?_⟩
    rintro i mm H' ⟨Z', ks, acc, x2, nD, hH, hr, hm, hcr⟩
    obtain ⟨h1, h2⟩ := it Z' H' x2.adv x2.trk i
    cases e : ds[i]? with
    | none =>
      have hl : ds.length ≤ i := List.getElem?_eq_none_iff.mp e
      rw [List.drop_of_length_le hl] at hcr
      cases hcr
      exact .inl ⟨h2 hl, p2 (.ref D) Z' H' (x1.trans x2) ⟨fun _ => ⟨D, rfl, nD, x1.same.free hD, ks, hH, hr⟩, fun z => by cases z⟩⟩
    | some d =>
      obtain ⟨hlt, hdd⟩ := List.getElem?_eq_some_iff.mp e
      rw [List.drop_eq_getElem_cons hlt, hdd] at hcr
      obtain ⟨go, yld⟩ := h1 d e
      refine .inr ⟨go, fun H3 => ∃ Z3 ks acc, Ext Z1 H1 Z3 H3 ∧ ¬ Z3 D ∧ H3 D = some (.dK ks) ∧ RepD c.K Z3 H3 ks acc ∧ compD g t ek ev (PL.wipe ρ vs) (ds.drop (i + 1)) acc = .ok total,
        fun H3 ⟨Z3, ks3, acc3, q1, q2, q3, q4, q5⟩ => ⟨mm - 1, by omega, Z3, ks3, acc3, q1, q2, q3, q4, by omega, q5⟩, fun x H2 y => ?_⟩
      obtain ⟨Z2, xx, rx⟩ := yld x H2 y
      have S2 := ((S1.move x2).move xx).wipe (vs := vs) hd
      have nD2 : ¬ Z2 D := xx.not hH nD
      have hH2 := xx.same _ _ hH
      have hr2 := hr.adv xx.adv
      have x12 := x2.trans xx
      unfold compD at hcr
      have P0 : Post ((noX (g d (PL.wipe ρ vs))).bnd fun ρ' => (noX (t ρ')).bnd fun b => if b then (noX (ek ρ')).bnd fun k => (noX (ev ρ')).bnd fun v => if isKey k ∧ acc.length < LINE then compD g t ek ev (PL.wipe ρ vs) (ds.drop (i + 1)) (dicPut acc k v) else .bad else compD g t ek ev (PL.wipe ρ vs) (ds.drop (i + 1)) acc) (fun z => z = total) (fun _ => False) := by
        rw [hcr]
        rfl
      refine ⟨Z2, PL.wipe ρ vs, d, S2, rx, (noX_post (Post.bnd P0)).imp (fun ρ1 P1 σ1 tch Sg => ⟨wipeS_eq tch, ?_⟩) fun _ q => q⟩
      refine ⟨Z2, ρ1, Sg, (noX_post (Post.bnd P1)).imp (fun b P2 Z4 H4 x4 => ?_) fun _ q => q.elim⟩
      cases b with
      | false =>
        simp only [Bool.false_eq_true, if_false] at P2 ⊢
        cases q : compD g t ek ev (PL.wipe ρ vs) (ds.drop (i + 1)) acc with
        | ok r2 =>
          rw [q] at P2
          have P2 : r2 = total := P2
          subst P2
          exact ⟨Z4, ks, acc, x12.trans x4, x4.not hH2 nD2, x4.same _ _ hH2, hr2.adv x4.adv, q⟩
        | exc z => rw [q] at P2; exact P2.elim
        | bad => rw [q] at P2; exact P2.elim
      | true =>
        simp only [if_true] at P2 ⊢
        refine ⟨Z4, ρ1, Sg.move x4, (noX_post (Post.bnd P2)).imp (fun k1 P3 v Z5 H5 x5 hv => ?_) fun _ q => q.elim⟩
        refine ⟨Z5, ρ1, (Sg.move x4).move x5, (noX_post (Post.bnd P3)).imp (fun v1 P4 w Z6 H6 x6 hw => ?_) fun _ q => q.elim⟩
        by_cases hk : isKey k1 = true ∧ acc.length < LINE
        · rw [if_pos hk] at P4
          cases q : compD g t ek ev (PL.wipe ρ vs) (ds.drop (i + 1)) (dicPut acc k1 v1) with
          | ok r2 =>
            rw [q] at P4
            have P4 : r2 = total := P4
            subst P4
            obtain ⟨kk, rfl, rfl, ok⟩ := kv_rep hv hk.1
            have x456 := (x4.trans x5).trans x6
            have hH6 := x456.same _ _ hH2
            have nD6 := x456.not hH2 nD2
            refine ⟨ks, kk, rfl, hH6, by rw [hr.len, ← line_eq]; exact hk.2, Z6, putK ks kk w, dicPut acc (kD kk) v1, (x12.trans x456).chg hD nD6, nD6, upd_same, ?_, q⟩
            exact (dic_put hw ok (hr2.adv x456.adv)).adv (.chg nD6)
          | exc z => rw [q] at P4; exact P4.elim
          | bad => rw [q] at P4; exact P4.elim
        · rw [if_neg hk] at P4
          exact P4.elim
theorem xDc {N : List Str} {vis1 loc1 : List Nat} {gls1 : List Str} (V : Scp X vis loc gls) (hc : X.calm = true) (hi : PI X tg iter (qI c W own src)) (ok : BlkOk X.N X.env.scope scope ob) (hv : ob.map (·.2) = vs) (hd : vs.all (fun j => own.all (· != j)) = true) (hV : scpC N scope vis1 loc1 gls1 = true) (hNN : X.N = N)
    (hg : ∀ (s : Shared) (H : Hp) (C : Addr) (cl : List (Str × Addr)) (fp : List Addr), Scp (X.blk s H scope (compEnvC scope cl C X.env) fp) vis1 loc1 gls1 → PG (X.blk s H scope (compEnvC scope cl C X.env) fp) tg (qG c own own vs g))
    (ht : ∀ (s : Shared) (H : Hp) (C : Addr) (cl : List (Str × Addr)) (fp : List Addr), Scp (X.blk s H scope (compEnvC scope cl C X.env) fp) vis1 loc1 gls1 → PTs (X.blk s H scope (compEnvC scope cl C X.env) fp) ifs (qT c W0 own t))
    (hk : ∀ (s : Shared) (H : Hp) (C : Addr) (cl : List (Str × Addr)) (fp : List Addr), Scp (X.blk s H scope (compEnvC scope cl C X.env) fp) vis1 loc1 gls1 → PE (X.blk s H scope (compEnvC scope cl C X.env) fp) kx (qE c W0 own .sh ek))
    (he : ∀ (s : Shared) (H : Hp) (C : Addr) (cl : List (Str × Addr)) (fp : List Addr), Scp (X.blk s H scope (compEnvC scope cl C X.env) fp) vis1 loc1 gls1 → PE (X.blk s H scope (compEnvC scope cl C X.env) fp) vx (qE c W0 own .frz ev)) (hs : ∀ x, foldedSetIterable iter X.env x = pure x := by intro _; rfl) :
    PE X (.DictComp kx vx [⟨tg, iter, ifs, 0⟩] scope pos) (qE c W own .new (eDComp src vs g t ek ev)) := by
  have h := pe_dc (pos := pos) hc V.nd hi ok (fun s H C cl fp => hg s H C cl fp (scp_blk hV hNN)) (fun s H C cl fp => ht s H C cl fp (scp_blk hV hNN)) (fun s H C cl fp => hk s H C cl fp (scp_blk hV hNN)) (fun s H C cl fp => he s H C cl fp (scp_blk hV hNN)) hs
  rw [hv] at h
  exact h.imp fun σ H Q hq => dc_read (own_all hd) hq
end
end PL

set_option maxRecDepth 100000
set_option maxHeartbeats 4000000
namespace PL
open PySem PySem.Spec PyProof.Rows L2
set_option autoImplicit false

section
variable {X : Cx} {c : Ct} {W : WX} {own own' vs vs1 : List Nat} {m e : EM} {t t1 : TM} {g g1 : GM} {src src1 : LM} {k : Kd}
theorem compL_nx {ρ : Env} {y : Nat} : ∀ ds : List Dat, compL g t m ρ ds ≠ .exc y
  | [], h => by cases h
  | d :: r, h => by
    unfold compL at h
    cases q1 : g d ρ with
    | exc z => rw [q1] at h; cases h
    | bad => rw [q1] at h; cases h
    | ok ρ1 =>
      rw [q1] at h
      simp only [noX, PL.R.bnd_ok] at h
      cases q2 : t ρ1 with
      | exc z => rw [q2] at h; cases h
      | bad => rw [q2] at h; cases h
      | ok b =>
        rw [q2] at h
        simp only [noX, PL.R.bnd_ok] at h
        cases b with
        | false => exact compL_nx r h
        | true =>
          simp only [if_true] at h
          cases q3 : m ρ1 with
          | exc z => rw [q3] at h; cases h
          | bad => rw [q3] at h; cases h
          | ok v1 =>
            rw [q3] at h
            simp only [noX, PL.R.bnd_ok] at h
            cases q4 : compL g t m ρ r with
            | ok ys => rw [q4] at h; cases h
            | exc z => exact compL_nx r q4
            | bad => rw [q4] at h; cases h
theorem compL2_nx {ρ : Env} {y : Nat} : ∀ ds : List Dat, compL2 g t src1 vs1 g1 t1 e ρ ds ≠ .exc y
  | [], h => by cases h
  | d :: r, h => by
    unfold compL2 at h
    cases q1 : g d ρ with
    | exc z => rw [q1] at h; cases h
    | bad => rw [q1] at h; cases h
    | ok ρ1 =>
      rw [q1] at h
      simp only [noX, PL.R.bnd_ok] at h
      cases q2 : t ρ1 with
      | exc z => rw [q2] at h; cases h
      | bad => rw [q2] at h; cases h
      | ok b =>
        rw [q2] at h
        simp only [noX, PL.R.bnd_ok] at h
        cases b with
        | false => exact compL2_nx r h
        | true =>
          simp only [if_true] at h
          cases q3 : src1 ρ1 with
          | exc z => rw [q3] at h; cases h
          | bad => rw [q3] at h; cases h
          | ok ds1 =>
            rw [q3] at h
            simp only [noX, PL.R.bnd_ok] at h
            cases q4 : compL g1 t1 e (PL.wipe ρ1 vs1) ds1 with
            | exc z => exact compL_nx ds1 q4
            | bad => rw [q4] at h; cases h
            | ok ys =>
              rw [q4] at h
              simp only [PL.R.bnd_ok] at h
              cases q5 : compL2 g t src1 vs1 g1 t1 e ρ r with
              | ok zs => rw [q5] at h; cases h
              | exc z => exact compL2_nx r q5
              | bad => rw [q5] at h; cases h
theorem Ext.under {Z Z6 Z9 : ZS} {H H6 H9 : Hp} {D : Addr} {o u : HO} (xe : Ext Z H Z6 (upd H6 D o)) (x : Ext Z6 H6 Z9 H9) (hD : H6 D = some u) : Ext Z H Z9 (upd H9 D o) where
  sub := fun a h => x.sub a (xe.sub a h)
  same := fun b v q => by
    have r := xe.same b v q
    by_cases hb : b = D
    · subst hb
      rw [upd_same] at r ⊢
      exact r
    · rw [upd_ne hb] at r ⊢
      exact x.same b v r
  trk := fun a h => by
    by_cases ha : a = D
    · subst ha; exact ⟨o, upd_same⟩
    · obtain ⟨v, q⟩ := x.trk a h
      exact ⟨v, by rw [upd_ne ha]; exact q⟩
  new := fun a h => by
    rcases x.new a h with z | z
    · exact xe.new a z
    · have ha : a ≠ D := fun q => by rw [q, hD] at z; cases z
      cases q : H a with
      | none => exact .inr rfl
      | some v =>
        have r := xe.same a v q
        rw [upd_ne ha, z] at r
        cases r
/-- the slots stay while one object D, of none of them, grows -/
theorem SE.past {Z Z' : ZS} {H H' : Hp} {σ : St} {ρ : Env} {D : Addr} (S : SE c own Z H σ ρ) (ad : Adv Z H Z' H') (ex : Ext c.Z0 c.H0 Z' H') (keep : ∀ a o, a ≠ D → H a = some o → H' a = some o) (nz : ∀ a o, H a = some o → ¬ Z a → ¬ Z' a) (nd : ∀ j ∈ own, σ[j]? ≠ some (some (.ref D))) : SE c own Z' H' σ ρ where
  ext := ex
  len := S.len
  val := fun i d e n nx => by
    obtain ⟨v, h, r⟩ := S.val i d e n nx
    exact ⟨v, h, r.adv ad⟩
  exc := S.exc
  ow := fun i hi => by
    obtain ⟨a, d, q1, q2, z, h0, tp⟩ := S.ow i hi
    have hne : a ≠ D := fun z => nd i hi (by rw [q2, z])
    obtain ⟨o, ho⟩ := tp.there
    refine ⟨a, d, q1, q2, nz a o ho z, h0, ?_⟩
    cases d with
    | lst ds => obtain ⟨xs, k, r⟩ := tp; exact ⟨xs, keep a _ hne k, r.adv ad⟩
    | dic ds => obtain ⟨xs, k, r⟩ := tp; exact ⟨xs, keep a _ hne k, r.adv ad⟩
    | _ => exact tp.elim
  inj := S.inj
theorem lc2_read {σ : St} {H : Hp} {Q : VK} (hd : ∀ j ∈ vs, j ∉ own) (hd1 : ∀ j ∈ vs1, j ∉ own) (h : qE c W own .new (eComp2 src vs g t src1 vs1 g1 t1 e) σ H Q) :
    tLc2 (qI c W own src) (qG c own own vs g) (qT c W0 own t) (qI c W0 own src1) (qG c own own vs1 g1) (qT c W0 own t1) (qE c W0 own .frz e) vs vs1 σ H Q := by
  obtain ⟨Z, ρ, S, p⟩ := h
  refine ⟨Z, ρ, S, (Post.bnd p).imp (fun ds p1 J Z1 H1 x1 it D hD => ?_) fun _ q => q⟩
  have S1 := S.move x1
  have hl1 : Ext Z1 H1 Z1 (upd H1 D (.lst [])) := .laid x1.trk hD
  have nD1 : ¬ Z1 D := fun z => by
    obtain ⟨u, q⟩ := x1.trk D z
    rw [hD] at q; cases q
  cases hc : compL2 g t src1 vs1 g1 t1 e (PL.wipe ρ vs) ds with
  | bad => rw [hc] at p1; exact p1.elim
  | exc y => exact absurd hc (compL2_nx _)
  | ok total =>
    rw [hc] at p1
    obtain ⟨hlen, p2⟩ := Post.ite (b := total.length ≤ LINE) p1
    refine ⟨fun i mm H' => ∃ Z' acc ys rest, Ext Z1 H1 Z' H' ∧ ¬ Z' D ∧ H' D = some (.lst acc) ∧ RepA c.K Z' H' acc ys ∧ i + mm = ds.length ∧ compL2 g t src1 vs1 g1 t1 e (PL.wipe ρ vs) (ds.drop i) = .ok rest ∧ total = ys ++ rest,
      ⟨ds.length, Z1, [], [], total, hl1, nD1, upd_same, .nil, by omega, by rw [List.drop_zero]; exact hc, rfl⟩, ?_⟩
    rintro i mm H' ⟨Z', acc, ys, rest, x2, nD, hH, hr, hm, hcr, ht⟩
    obtain ⟨h1, h2⟩ := it Z' H' x2.adv x2.trk i
    cases ed : ds[i]? with
    | none =>
      have hl : ds.length ≤ i := List.getElem?_eq_none_iff.mp ed
      rw [List.drop_of_length_le hl] at hcr
      cases hcr
      rw [List.append_nil] at ht
      subst ht
      exact .inl ⟨h2 hl, p2 (.ref D) Z' H' (x1.trans x2) ⟨fun _ => ⟨D, rfl, nD, x1.same.free hD, acc, hH, hr⟩, fun z => by cases z⟩⟩
    | some d =>
      obtain ⟨hlt, hdd⟩ := List.getElem?_eq_some_iff.mp ed
      rw [List.drop_eq_getElem_cons hlt, hdd] at hcr
      obtain ⟨go, yld⟩ := h1 d ed
      refine .inr ⟨go, fun H3 => ∃ Z3 acc ys rest, Ext Z1 H1 Z3 H3 ∧ ¬ Z3 D ∧ H3 D = some (.lst acc) ∧ RepA c.K Z3 H3 acc ys ∧ compL2 g t src1 vs1 g1 t1 e (PL.wipe ρ vs) (ds.drop (i + 1)) = .ok rest ∧ total = ys ++ rest,
        fun H3 ⟨Z3, acc3, ys3, rest3, q1, q2, q3, q4, q5, q6⟩ => ⟨mm - 1, by omega, Z3, acc3, ys3, rest3, q1, q2, q3, q4, by omega, q5, q6⟩, fun x H2 y => ?_⟩
      obtain ⟨Z2, xx, rx⟩ := yld x H2 y
      have S2 := ((S1.move x2).move xx).wipe (vs := vs) hd
      have nD2 : ¬ Z2 D := xx.not hH nD
      have hH2 := xx.same _ _ hH
      have hr2 := hr.adv xx.adv
      have x12 := x2.trans xx
      unfold compL2 at hcr
      have P0 : Post ((noX (g d (PL.wipe ρ vs))).bnd fun ρ' => (noX (t ρ')).bnd fun b => if b then (noX (src1 ρ')).bnd fun ds1 => (compL g1 t1 e (PL.wipe ρ' vs1) ds1).bnd fun ys => (compL2 g t src1 vs1 g1 t1 e (PL.wipe ρ vs) (ds.drop (i + 1))).bnd fun zs => .ok (ys ++ zs) else compL2 g t src1 vs1 g1 t1 e (PL.wipe ρ vs) (ds.drop (i + 1))) (fun z => z = rest) (fun _ => False) := by
        rw [hcr]
        rfl
      refine ⟨Z2, PL.wipe ρ vs, d, S2, rx, (noX_post (Post.bnd P0)).imp (fun ρ1 P1 σ1 tch Sg => ⟨wipeS_eq tch, ?_⟩) fun _ q => q⟩
      refine ⟨Z2, ρ1, Sg, (noX_post (Post.bnd P1)).imp (fun b P2 Z4 H4 x4 => ?_) fun _ q => q.elim⟩
      cases b with
      | false =>
        simp only [Bool.false_eq_true, if_false] at P2 ⊢
        cases q : compL2 g t src1 vs1 g1 t1 e (PL.wipe ρ vs) (ds.drop (i + 1)) with
        | ok r2 =>
          rw [q] at P2
          have P2 : r2 = rest := P2
          subst P2
          exact ⟨Z4, acc, ys, r2, x12.trans x4, x4.not hH2 nD2, x4.same _ _ hH2, hr2.adv x4.adv, rfl, ht⟩
        | exc z => rw [q] at P2; exact P2.elim
        | bad => rw [q] at P2; exact P2.elim
      | true =>
        simp only [if_true] at P2 ⊢
        have Sg4 := Sg.move x4
        refine ⟨Z4, ρ1, Sg4, (noX_post (Post.bnd P2)).imp (fun ds1 P3 J1 Z5 H5 x5 it1 => ?_) fun _ q => q.elim⟩
        have P3 := Post.bnd P3
        cases hc1 : compL g1 t1 e (PL.wipe ρ1 vs1) ds1 with
        | bad => rw [hc1] at P3; exact P3.elim
        | exc z => rw [hc1] at P3; exact P3.elim
        | ok inn =>
          rw [hc1] at P3
          have P3 := Post.bnd P3
          cases hc2 : compL2 g t src1 vs1 g1 t1 e (PL.wipe ρ vs) (ds.drop (i + 1)) with
          | bad => rw [hc2] at P3; exact P3.elim
          | exc z => rw [hc2] at P3; exact P3.elim
          | ok zs =>
            rw [hc2] at P3
            have P3 : inn ++ zs = rest := P3
            subst P3
            have Sg5 := Sg4.move x5
            have x45 := x4.trans x5
            have hH5 := x45.same _ _ hH2
            have nD5 := x45.not hH2 nD2
            have hr5 := hr2.adv x45.adv
            have x15 := x12.trans x45
            refine ⟨fun j kk H6 => ∃ Z6 acc6 ys6 rest6, Ext Z5 H5 Z6 (upd H6 D (.lst acc)) ∧ Ext Z1 H1 Z6 H6 ∧ Adv Z5 H5 Z6 H6 ∧ ¬ Z6 D ∧ H6 D = some (.lst acc6) ∧ RepA c.K Z6 H6 acc6 (ys ++ ys6) ∧ j + kk = ds1.length ∧ compL g1 t1 e (PL.wipe ρ1 vs1) (ds1.drop j) = .ok rest6 ∧ inn = ys6 ++ rest6,
              ⟨ds1.length, Z5, acc, [], inn, ?_, x15, .refl, nD5, hH5, by rw [List.append_nil]; exact hr5, by omega, by rw [List.drop_zero]; exact hc1, rfl⟩, ?_⟩
            · rw [show upd H5 D (.lst acc) = H5 from funext fun b => by
                by_cases hb : b = D
                · rw [hb, upd_same, hH5]
                · rw [upd_ne hb]]
              exact .refl Sg5.trk
            · rintro j kk H6 ⟨Z6, acc6, ys6, rest6, xe, x16, ad6, nD6, hH6, hr6, hm6, hc6, hi6⟩
              have nd : ∀ j ∈ own, σ1[j]? ≠ some (some (.ref D)) := fun j hj q => by
                have e1 : σ1[j]? = (L2.wipe σ vs)[j]? := tch.2 j fun hv => hd j hv hj
                rw [e1, wipeS_get, if_neg fun z => hd j z.1 hj] at q
                obtain ⟨a, d0, _, q2, _, _, tp⟩ := S1.ow j hj
                rw [q] at q2
                cases q2
                obtain ⟨o, ho⟩ := tp.there
                rw [hD] at ho
                cases ho
              have keep6 : ∀ a o, a ≠ D → H5 a = some o → H6 a = some o := fun a o hne q => by
                have := xe.same a o q
                rw [upd_ne hne] at this
                exact this
              have S6 : SE c own Z6 H6 σ1 ρ1 := Sg5.past (D := D) ad6 (S1.ext.trans x16) keep6 (fun a o q n z => by
                rcases xe.new a z with z | z
                · exact n z
                · rw [q] at z; cases z) nd
              obtain ⟨k1, k2⟩ := it1 Z6 H6 ad6 S6.trk j
              cases ej : ds1[j]? with
              | none =>
                have hl : ds1.length ≤ j := List.getElem?_eq_none_iff.mp ej
                rw [List.drop_of_length_le hl] at hc6
                cases hc6
                rw [List.append_nil] at hi6
                subst hi6
                exact .inl ⟨k2 hl, Z6, acc6, ys ++ inn, zs, x16, nD6, hH6, hr6, rfl, by rw [ht, List.append_assoc]⟩
              | some d1 =>
                obtain ⟨hlt1, hdd1⟩ := List.getElem?_eq_some_iff.mp ej
                rw [List.drop_eq_getElem_cons hlt1, hdd1] at hc6
                obtain ⟨go1, yld1⟩ := k1 d1 ej
                refine .inr ⟨go1, fun H7 => ∃ Z7 acc7 ys7 rest7, Ext Z5 H5 Z7 (upd H7 D (.lst acc)) ∧ Ext Z1 H1 Z7 H7 ∧ Adv Z5 H5 Z7 H7 ∧ ¬ Z7 D ∧ H7 D = some (.lst acc7) ∧ RepA c.K Z7 H7 acc7 (ys ++ ys7) ∧ compL g1 t1 e (PL.wipe ρ1 vs1) (ds1.drop (j + 1)) = .ok rest7 ∧ inn = ys7 ++ rest7,
                  fun H7 ⟨Z7, acc7, ys7, rest7, q1, q2, q3, q4, q5, q6, q7, q8⟩ => ⟨kk - 1, by omega, Z7, acc7, ys7, rest7, q1, q2, q3, q4, q5, q6, by omega, q7, q8⟩, fun x7 H7 y7 => ?_⟩
                obtain ⟨Z7, xx7, rx7⟩ := yld1 x7 H7 y7
                have S7 := (S6.move xx7).wipe (vs := vs1) hd1
                unfold compL at hc6
                have P0' : Post ((noX (g1 d1 (PL.wipe ρ1 vs1))).bnd fun ρ' => (noX (t1 ρ')).bnd fun b => if b then (noX (e ρ')).bnd fun y => (compL g1 t1 e (PL.wipe ρ1 vs1) (ds1.drop (j + 1))).bnd fun ys => .ok (y :: ys) else compL g1 t1 e (PL.wipe ρ1 vs1) (ds1.drop (j + 1))) (fun z => z = rest6) (fun _ => False) := by
                  rw [hc6]
                  rfl
                refine ⟨Z7, PL.wipe ρ1 vs1, d1, S7, rx7, (noX_post (Post.bnd P0')).imp (fun ρ2 P1' σ2 tch2 Sg2 => ⟨wipeS_eq tch2, ?_⟩) fun _ q => q⟩
                refine ⟨Z7, ρ2, Sg2, (noX_post (Post.bnd P1')).imp (fun b P2' Z8 H8 x8 => ?_) fun _ q => q.elim⟩
                have x68 := xx7.trans x8
                cases b with
                | false =>
                  simp only [Bool.false_eq_true, if_false] at P2' ⊢
                  cases q : compL g1 t1 e (PL.wipe ρ1 vs1) (ds1.drop (j + 1)) with
                  | ok r2 =>
                    rw [q] at P2'
                    have P2' : r2 = rest6 := P2'
                    subst P2'
                    exact ⟨Z8, acc6, ys6, r2, xe.under x68 hH6, x16.trans x68, ad6.trans x68.adv, x68.not hH6 nD6, x68.same _ _ hH6, hr6.adv x68.adv, rfl, hi6⟩
                  | exc z => rw [q] at P2'; exact P2'.elim
                  | bad => rw [q] at P2'; exact P2'.elim
                | true =>
                  simp only [if_true] at P2' ⊢
                  refine ⟨Z8, ρ2, Sg2.move x8, (noX_post (Post.bnd P2')).imp (fun y1 P3' v Z9 H9 x9 hv => ?_) fun _ q => q.elim⟩
                  have P3' := Post.bnd P3'
                  cases q : compL g1 t1 e (PL.wipe ρ1 vs1) (ds1.drop (j + 1)) with
                  | ok r2 =>
                    rw [q] at P3'
                    have P3' : y1 :: r2 = rest6 := P3'
                    subst P3'
                    have x69 := x68.trans x9
                    have hH9 := x69.same _ _ hH6
                    have nD9 := x69.not hH6 nD6
                    have al : acc6.length < sizeLine := by
                      rw [hr6.len, ← line_eq]
                      have hl2 := congrArg List.length ht
                      have hl3 := congrArg List.length hi6
                      simp only [List.length_append, List.length_cons] at hl2 hl3 ⊢
                      omega
                    refine ⟨acc6, hH9, al, Z9, acc6 ++ [v], ys6 ++ [y1], r2, ?_, (x16.trans x69).chg hD nD9, (ad6.trans x69.adv).trans (.chg nD9), nD9, upd_same, ?_, rfl, by rw [hi6]; simp⟩
                    · have u2 : upd (upd H9 D (.lst (acc6 ++ [v]))) D (.lst acc) = upd H9 D (.lst acc) := funext fun b => by
                        by_cases hb : b = D
                        · rw [hb, upd_same, upd_same]
                        · rw [upd_ne hb, upd_ne hb, upd_ne hb]
                      rw [u2]
                      exact xe.under x69 hH6
                    · rw [← List.append_assoc]
                      exact ((hr6.adv x69.adv).adv (.chg nD9)).append (.cons (Rep.adv (.chg nD9) hv) .nil)
                  | exc z => rw [q] at P3'; exact P3'.elim
                  | bad => rw [q] at P3'; exact P3'.elim
section
variable {N : List Str} {visB locB : List Nat} {glsB : List Str} {vis loc : List Nat} {gls : List Str} {elt tg iter tg1 iter1 : Expr} {ifs ifs1 : List Expr} {scope : Scope} {ob : List (Str × Nat)} {pos spos py : Pos} {i : Nat} {x : Str} {ownL : List Nat}
theorem xLc2 (V : Scp X vis loc gls) (hc : X.calm = true) (hi : PI X tg iter (qI c W own src)) (ok : BlkOk X.N X.env.scope scope ob) (hv : ob.map (·.2) = vs) (hv1 : vs1.all (fun j => vs.contains j) = true) (hd : vs.all (fun j => own.all (· != j)) = true) (hV : scpC N scope visB locB glsB = true) (hNN : X.N = N)
    (hg : ∀ (s : Shared) (H : Hp) (C : Addr) (cl : List (Str × Addr)) (fp : List Addr), Scp (X.blk s H scope (compEnvC scope cl C X.env) fp) visB locB glsB → PG (X.blk s H scope (compEnvC scope cl C X.env) fp) tg (qG c own own vs g))
    (ht : ∀ (s : Shared) (H : Hp) (C : Addr) (cl : List (Str × Addr)) (fp : List Addr), Scp (X.blk s H scope (compEnvC scope cl C X.env) fp) visB locB glsB → PTs (X.blk s H scope (compEnvC scope cl C X.env) fp) ifs (qT c W0 own t))
    (hi1 : ∀ (s : Shared) (H : Hp) (C : Addr) (cl : List (Str × Addr)) (fp : List Addr), Scp (X.blk s H scope (compEnvC scope cl C X.env) fp) visB locB glsB → PI (X.blk s H scope (compEnvC scope cl C X.env) fp) tg1 iter1 (qI c W0 own src1))
    (hg1 : ∀ (s : Shared) (H : Hp) (C : Addr) (cl : List (Str × Addr)) (fp : List Addr), Scp (X.blk s H scope (compEnvC scope cl C X.env) fp) visB locB glsB → PG (X.blk s H scope (compEnvC scope cl C X.env) fp) tg1 (qG c own own vs1 g1))
    (ht1 : ∀ (s : Shared) (H : Hp) (C : Addr) (cl : List (Str × Addr)) (fp : List Addr), Scp (X.blk s H scope (compEnvC scope cl C X.env) fp) visB locB glsB → PTs (X.blk s H scope (compEnvC scope cl C X.env) fp) ifs1 (qT c W0 own t1))
    (he : ∀ (s : Shared) (H : Hp) (C : Addr) (cl : List (Str × Addr)) (fp : List Addr), Scp (X.blk s H scope (compEnvC scope cl C X.env) fp) visB locB glsB → PE (X.blk s H scope (compEnvC scope cl C X.env) fp) elt (qE c W0 own .frz e))
    (hs : ∀ x, foldedSetIterable iter X.env x = pure x := by intro _; rfl) (hs1 : ∀ env x, foldedSetIterable iter1 env x = pure x := by intro _ _; rfl) :
    PE X (.ListComp elt [⟨tg, iter, ifs, 0⟩, ⟨tg1, iter1, ifs1, 0⟩] scope pos) (qE c W own .new (eComp2 src vs g t src1 vs1 g1 t1 e)) := by
  have sub : ∀ j ∈ vs1, j ∈ vs := fun j hj => by simpa using List.all_eq_true.mp hv1 j hj
  have h := pe_lc2 (pos := pos) (vs1 := vs1) hc V.nd hi ok (by rw [hv]; exact sub) (fun s H C cl fp => hg s H C cl fp (scp_blk hV hNN)) (fun s H C cl fp => ht s H C cl fp (scp_blk hV hNN)) (fun s H C cl fp => hi1 s H C cl fp (scp_blk hV hNN)) (fun s H C cl fp => hg1 s H C cl fp (scp_blk hV hNN)) (fun s H C cl fp => ht1 s H C cl fp (scp_blk hV hNN)) (fun s H C cl fp => he s H C cl fp (scp_blk hV hNN)) hs hs1
  rw [hv] at h
  have d := own_all hd
  exact h.imp fun σ H Q hq => lc2_read d (fun j hj => d j (sub j hj)) hq
end
end
end PL

set_option maxRecDepth 100000
set_option maxHeartbeats 4000000
namespace PL
open PySem PySem.Spec PyProof.Rows L2
set_option autoImplicit false

/-! ### the order of the model is ltT -/
theorem str_list (x : List Nat) : (⟨x.toArray⟩ : Str).cps.toList = x := by simp
mutual
theorem alk_py : ∀ x y : Dat, alk x y = true → PySem.W.alike (toPy x) (toPy y) = true
  | .int _, y, h => by cases y <;> first | rfl | (simp [alk] at h; done) | (simp [toPy, PySem.W.alike])
  | .str _, y, h => by cases y <;> first | rfl | (simp [alk] at h; done) | (simp [toPy, PySem.W.alike])
  | .tup xs, y, h => by
    cases y with
    | tup ys => simp only [toPy, PySem.W.alike]; exact alkL_py xs ys (by simpa [alk] using h)
    | _ => simp [alk] at h
  | .non, _, h => by simp [alk] at h
  | .bl _, _, h => by simp [alk] at h
  | .lst _, _, h => by simp [alk] at h
  | .dic _, _, h => by simp [alk] at h
  | .exc _, _, h => by simp [alk] at h
theorem alkL_py : ∀ x y : List Dat, alkL x y = true → PySem.W.alikeAll (toPyL x) (toPyL y) = true
  | [], _, _ => by simp [toPyL, PySem.W.alikeAll]
  | _ :: _, [], _ => by simp [toPyL, PySem.W.alikeAll]
  | x :: xs, y :: ys, h => by
    simp only [alkL, Bool.and_eq_true] at h
    simp only [toPyL, PySem.W.alikeAll, alk_py x y h.1, alkL_py xs ys h.2, Bool.and_self]
end
theorem cmpS_beq : ∀ x y : List Nat, (cmpS x y == .eq) = (x == y) := fun x y => by
  rw [Bool.eq_iff_iff, beq_iff_eq, beq_iff_eq]
  exact ⟨cmpS_eq x y, fun e => by subst e; exact cmpS_self x⟩
theorem beq_str (x y : List Nat) : ((⟨x.toArray⟩ : Str) == ⟨y.toArray⟩) = (x == y) := by
  rw [Bool.eq_iff_iff, beq_iff_eq, beq_iff_eq]
  constructor
  · intro q
    injection q with q
    simpa using congrArg Array.toList q
  · intro q
    subst q
    rfl
mutual
theorem lt_py : ∀ x y : Dat, alk x y = true → PyData.eqv (toPy x) (toPy y) = (cmpT x y == .eq) ∧ PySem.W.dataLt (toPy x) (toPy y) = (cmpT x y == .lt)
  | .int i, y, h => by
    cases y with
    | int j =>
      simp only [toPy, cmpT]
      refine ⟨?_, ?_⟩
      · rw [PyData.eqv, Bool.eq_iff_iff, beq_iff_eq, beq_iff_eq]; exact Int.compare_eq_eq.symm
      · rw [PySem.W.dataLt_int, Bool.eq_iff_iff, beq_iff_eq, decide_eq_true_iff]; exact Int.compare_eq_lt.symm
    | _ => simp [alk] at h
  | .str x, y, h => by
    cases y with
    | str y =>
      simp only [toPy, cmpT]
      refine ⟨?_, ?_⟩
      · rw [PyData.eqv, cmpS_beq]; exact beq_str x y
      · rw [PySem.W.dataLt_str, str_list, str_list]; exact (cmpS_lt x y).symm
    | _ => simp [alk] at h
  | .tup xs, y, h => by
    cases y with
    | tup ys =>
      simp only [toPy, cmpT]
      have q := ltL_py xs ys (by simpa [alk] using h)
      exact ⟨by rw [PyData.eqv]; exact q.1, by rw [PySem.W.dataLt_tuple]; exact q.2⟩
    | _ => simp [alk] at h
  | .non, _, h => by simp [alk] at h
  | .bl _, _, h => by simp [alk] at h
  | .lst _, _, h => by simp [alk] at h
  | .dic _, _, h => by simp [alk] at h
  | .exc _, _, h => by simp [alk] at h
theorem ltL_py : ∀ x y : List Dat, alkL x y = true → PyData.eqvAll (toPyL x) (toPyL y) = (cmpL x y == .eq) ∧ PyProof.Rows.lexLt itemOrd (PySem.W.keyToksAll (toPyL x)) (PySem.W.keyToksAll (toPyL y)) = (cmpL x y == .lt)
  | [], [], _ => ⟨rfl, lex_irrefl _⟩
  | [], y :: ys, _ => by
    simp only [toPyL, cmpL, PyData.eqvAll, PySem.W.keyToksAll]
    refine ⟨rfl, ?_⟩
    rw [lex_diff (O := itemOrd) (by simp)]
    rfl
  | x :: xs, [], _ => by
    simp only [toPyL, cmpL, PyData.eqvAll, PySem.W.keyToksAll]
    refine ⟨rfl, ?_⟩
    rw [lex_diff (O := itemOrd) (by simp)]
    rfl
  | x :: xs, y :: ys, h => by
    simp only [alkL, Bool.and_eq_true] at h
    obtain ⟨a1, a2⟩ := lt_py x y h.1
    obtain ⟨b1, b2⟩ := ltL_py xs ys h.2
    simp only [toPyL, cmpL]
    rw [PySem.W.eqv_all_cons, PySem.W.dataLt_cons (alk_py x y h.1), a1, a2, b1, b2]
    cases cmpT x y <;> cases cmpL xs ys <;> exact ⟨rfl, rfl⟩
end
theorem dataLe_leT {ps : List (V × Dat)} (h : ∀ p ∈ ps, ∀ q ∈ ps, alk p.2 q.2 = true) : (ps.mergeSort (PySem.W.dataLe false fun p => toPy p.2)).map (·.2) = sortL (ps.map (·.2)) := by
  unfold sortL
  refine PySem.W.sort_maps (fun p : V × Dat => p.2) fun a ha b hb => ?_
  rw [PySem.W.dataLe_eq]
  show (!PySem.W.dataLt (toPy b.2) (toPy a.2)) = leT a.2 b.2
  rw [(lt_py _ _ (h b hb a ha)).2]
  rfl

/-! ### the calls -/
section
variable {X : Cx}
def rSortedX (X : Cx) : List V → Hp → VK → Prop := fun vs H Q => ∃ (a : Addr) (ps : List (V × Dat)), vs = [V.ref a] ∧ SqL X.K H a (ps.map (·.1)) ∧ (∀ p ∈ ps, Dp X.K H p.1 (toPy p.2)) ∧ (∀ p ∈ ps, (toPy p.2).depth ≤ DEEP) ∧
  PySem.W.AllAlike (ps.map fun p => toPy p.2) ∧ PySem.W.Sortable (ps.map fun p => toPy p.2) ∧ ∀ p, H p = none → Q (.ref p) (upd H p (.lst ((ps.mergeSort (PySem.W.dataLe false fun p => toPy p.2)).map (·.1))))
theorem vals_each : ∀ {ps : List (V × Dat)} {us : List Value}, Vals (ps.map (·.1)) us → PySem.W.EachIs (fun u (p : V × Dat) => RelV p.1 u) us ps
  | [], us, h => by
    rw [List.map_nil] at h
    cases h
    exact .nil
  | p :: ps, us, h => by
    rw [List.map_cons] at h
    cases h with
    | cons h t => exact .cons h (vals_each t)
theorem each_vals : ∀ {ps : List (V × Dat)} {us : List Value}, PySem.W.EachIs (fun u (p : V × Dat) => RelV p.1 u) us ps → Vals (ps.map (·.1)) us
  | [], us, h => by
    cases h
    exact .nil
  | p :: ps, us, h => by
    cases h with
    | cons h t => rw [List.map_cons]; exact .cons h (each_vals t)
theorem each_reads {pins : List (Addr × Obj)} {σ : St} {H : Hp} {s : Shared} (I : Inv X pins σ H s) : ∀ {ps : List (V × Dat)} {us : List Value}, PySem.W.EachIs (fun u (p : V × Dat) => RelV p.1 u) us ps → (∀ p ∈ ps, Dp X.K H p.1 (toPy p.2)) → PySem.W.EachIs (fun u (p : V × Dat) => ∃ as, Reads s.heap u (toPy p.2) as) us ps
  | _, _, .nil, _ => .nil
  | _, _, .cons h t, d => .cons (Dp.reads I _ _ _ (d _ List.mem_cons_self) h) (each_reads I t fun p hp => d p (List.mem_cons_of_mem _ hp))
theorem cr_sortedX (hu : X.A.units + 64 < cLine) : CallR X (.builtin "sorted") (rSortedX X) := by
  intro pins s σ H vs us Q I r h
  obtain ⟨a, ps, rfl, hs, hd, hdp, hal, hk, q⟩ := h
  obtain ⟨its, rv, hl, hz⟩ := I.list hs
  rw [Vals.ref1 r]
  have e := vals_each rv
  have hz2 : ps.length ≤ sizeLine := by rw [List.length_map] at hz; exact hz
  refine PySem.W.sorted_data (R := fun u (p : V × Dat) => RelV p.1 u) (enc := fun p => toPy p.2) (bs := ps) hl.isList e (each_reads I e hd) hal hk hz2 (fun p hp => ?_) fun out ho eo => ?_
  · have := hdp p hp
    have h40 : DEEP = 40 := rfl
    omega
  · obtain ⟨ep, he'⟩ := PyProof.Rows.sortedAll_at s.heap its out.toArray
    have rv' := each_vals eo
    have hlen : ((ps.mergeSort (PySem.W.dataLe false fun p => toPy p.2)).map (·.1)).length ≤ sizeLine := by
      rw [List.length_map, List.length_mergeSort]
      exact hz2
    exact ⟨.ref _, upd H (s.heap.objs.size + 1) (.lst ((ps.mergeSort (PySem.W.dataLe false fun p => toPy p.2)).map (·.1))), I.laid (t' := s.toks) (fun _ _ => PyProof.Rows.sortedAll_old) (Nat.le_succ _) ⟨hlen, out, ep, rv', he'⟩, rfl, q _ (I.hok.fresh (Nat.le_succ _))⟩

/-- the keys of a dict, as values and as data -/
def keyPs (kvs : List (Key × V)) : List (V × Dat) := kvs.map fun kv => (kV kv.1, kD kv.1)
theorem keyPs_fst (kvs : List (Key × V)) : (keyPs kvs).map (·.1) = kvs.map fun kv => kV kv.1 := by unfold keyPs; rw [List.map_map]; rfl
theorem keyPs_snd (kvs : List (Key × V)) : (keyPs kvs).map (·.2) = kvs.map fun kv => kD kv.1 := by unfold keyPs; rw [List.map_map]; rfl
theorem key_dp {K : KF} {H : Hp} (k : Key) : Dp K H (kV k) (toPy (kD k)) ∧ (toPy (kD k)).depth = 0 := by
  cases k with
  | inl i => exact ⟨.int i, by simp [kD, toPy, PyData.depth]⟩
  | inr x => exact ⟨Dp.str x, by simp [kD, toPy, PyData.depth]⟩
def rSortedD (H0 : Unit) : List V → Hp → VK → Prop := fun xs H Q => ∃ (a : Addr) (kvs : List (Key × V)), xs = [.ref a] ∧ H a = some (.dK kvs) ∧ PySem.W.AllAlike ((keyPs kvs).map fun p => toPy p.2) ∧ PySem.W.Sortable ((keyPs kvs).map fun p => toPy p.2) ∧
  ∀ p, H p = none → Q (.ref p) (upd H p (.lst (((keyPs kvs).mergeSort (PySem.W.dataLe false fun p => toPy p.2)).map (·.1))))
theorem cr_sortedDX (hcalm : X.calm = true) (hu : X.A.units + 64 < cLine) : CallR X (.builtin "sorted") (rSortedD ()) := by
  intro pins s σ H xs us Q I r q
  obtain ⟨a, kvs, ex, hd, hal, hk, q⟩ := q
  subst ex
  obtain ⟨u, eu, rx⟩ := vals1 r
  subst eu
  cases rx
  obtain ⟨z, lo, vs, rel, dd⟩ := dk_rd I.hok (.inl hd)
  obtain ⟨ep, hat⟩ := dd.dictAt
  have ek : (keyPs kvs).map (·.1) = vs.map fun p => kV p.1 := by
    rw [keyPs_fst]
    have e := congrArg (List.map kV) rel.keys
    rw [List.map_map, List.map_map] at e
    exact e
  have hl : vs.length = kvs.length := by
    have e := congrArg List.length rel.keys
    rw [List.length_map, List.length_map] at e
    exact e.symm
  have h16 : vs.length ≤ sizeLine := by rw [hl]; exact z
  refine Calls.call_function_entry PyProof.Rows.kind_sorted PyProof.Rows.plain_sorted PyProof.Rows.entry_sorted (PyProof.Rows.args_sorted1 _) ?_
  unfold Builtin.«sorted»
  refine wpAny_bind (m := checkCount "sorted" 1 1 _) (wpAny_pure ?_)
  refine wpAny_bind (PySem.W.kdu_collect (A := X.A.in1) (PySem.W.kdl_dict (knd := mixKind X.prog X.w) (kvs := vs) (ep := ep) lo) (I.ok.hd hcalm) hat h16 fun h' tk acc hkp hacc => ?_)
  have hal2 : acc.toList.length = vs.length := by rw [Array.length_toList, hacc.1]
  have hv : Vals (vs.map fun p => kV p.1) acc.toList := keys_at hal2 fun j v e => hacc.2 j v (by rw [← Array.getElem?_toList]; exact e)
  rw [← ek] at hv
  have e := vals_each hv
  have I1 : Inv X pins σ H { s with heap := h', toks := tk } := I.kept hkp
  have hzl : acc.toList.length ≤ sizeLine := by rw [hal2]; exact h16
  refine wpAny_bind (wpAny_newList ?_ (by simpa using hzl))
  have hoL : (h'.push (seqObj "list" acc.toList.toArray 0)).get? h'.objs.size = some (seqObj "list" acc.toList.toArray 0) := Heap.get?_push_size _ rfl
  show wpAny _ _ _ _ _ { s with heap := h'.push (seqObj "list" acc.toList.toArray 0), toks := tk }
  have er := each_reads I1 e fun p hp => by
    unfold keyPs at hp
    obtain ⟨kv, _, rfl⟩ := List.mem_map.mp hp
    exact (key_dp kv.1).1
  have er' : PySem.W.EachIs (fun u (p : V × Dat) => ∃ as, Reads (PySem.W.sortingHeap (h'.push (seqObj "list" acc.toList.toArray 0)) h'.objs.size acc.toList) u (toPy p.2) as) acc.toList (keyPs kvs) := er.mono fun _ _ ⟨as, r⟩ => ⟨as, PyProof.Rows.Reads.keeps (fun b o eb => PySem.W.sortingHeap_old (Nat.ne_of_lt (Heap.lt_size eb)) (Heap.get?_push_of_some _ eb)) r⟩
  refine wpAny_bind (wpAny_holding (wpAny_call_entry PyProof.Rows.slot_list_sort ⟨_, hoL, rfl⟩ PyProof.Rows.entry_list_sort
    (PySem.W.list_sort_vals (s := { s with heap := h'.push (seqObj "list" acc.toList.toArray 0), toks := tk }) hoL
      (PySem.W.SortsAt.data (s := { s with heap := PySem.W.sortingHeap (h'.push (seqObj "list" acc.toList.toArray 0)) h'.objs.size acc.toList, toks := tk }) (PySem.W.each_map (R := fun v d => ∃ as, Reads (PySem.W.sortingHeap (h'.push (seqObj "list" acc.toList.toArray 0)) h'.objs.size acc.toList) v d as) (fun p : V × Dat => toPy p.2) er') hal hk ?hu) hzl ⟨_, rfl, ?_⟩)
    (PyProof.Rows.args_list_sort _)))
  case hu =>
    intro d hd
    obtain ⟨p, hp, rfl⟩ := List.mem_map.mp hd
    unfold keyPs at hp
    obtain ⟨kv, _, rfl⟩ := List.mem_map.mp hp
    rw [(key_dp (K := X.K) (H := H) kv.1).2]
    have : X.A.in1.in1.units = X.A.units + 2 := rfl
    first
      | omega
      | (show X.A.units + 1 + 1 + 0 < cLine; omega)
  · have eo := PySem.W.sortVals_data (R := fun u (p : V × Dat) => RelV p.1 u) false e er' hal
    have g1 := each_vals eo
    generalize PySem.W.sortVals (PySem.W.dataKind (PySem.W.sortingHeap (h'.push (seqObj "list" acc.toList.toArray 0)) h'.objs.size acc.toList) ((keyPs kvs).map fun p => toPy p.2)) false acc.toList acc.toList = out at *
    obtain ⟨e', he'⟩ := PyProof.Rows.sortedHeap_at (vs := acc.toList) (out := out.toArray) hoL
    have hlen : (((keyPs kvs).mergeSort (PySem.W.dataLe false fun p => toPy p.2)).map (·.1)).length ≤ sizeLine := by
      rw [List.length_map, List.length_mergeSort]
      unfold keyPs
      rw [List.length_map]
      exact z
    refine wpAny_pure ⟨_, rfl, .ref h'.objs.size, upd H h'.objs.size (.lst (((keyPs kvs).mergeSort (PySem.W.dataLe false fun p => toPy p.2)).map (·.1))), I1.laid (t' := tk) (fun b u e => ?_) (Nat.le_refl _)
      (show ObjOk X.prog X.w _ _ _ (.lst (((keyPs kvs).mergeSort (PySem.W.dataLe false fun p => toPy p.2)).map (·.1))) from ⟨hlen, out, e', g1, he'⟩), rfl, q _ (I1.hok.fresh (Nat.le_refl _))⟩
    have hb : b < h'.objs.size := Heap.lt_size e
    rw [PyProof.Rows.sortedHeap_old (Nat.ne_of_lt hb) (by rw [size_push']; exact Nat.lt_succ_of_lt hb)]
    exact Heap.get?_push_of_some _ e
end

/-! ### as rules over data -/
theorem repA_of {K : KF} {Z : ZS} {H : Hp} : ∀ {ps : List (V × Dat)}, (∀ p ∈ ps, Rep K Z H p.1 p.2) → RepA K Z H (ps.map (·.1)) (ps.map (·.2))
  | [], _ => .nil
  | p :: ps, h => .cons (h p List.mem_cons_self) (repA_of fun q hq => h q (List.mem_cons_of_mem _ hq))
theorem repA_zip {K : KF} {Z : ZS} {H : Hp} : ∀ {xs : List V} {ds : List Dat}, RepA K Z H xs ds → (∀ p ∈ xs.zip ds, Rep K Z H p.1 p.2) ∧ (xs.zip ds).map (·.1) = xs ∧ (xs.zip ds).map (·.2) = ds
  | _, _, .nil => ⟨fun _ h => (by cases h), rfl, rfl⟩
  | _, _, .cons h r => by
    obtain ⟨a, b, c⟩ := repA_zip r
    refine ⟨fun p hp => ?_, by rw [List.zip_cons_cons, List.map_cons, b], by rw [List.zip_cons_cons, List.map_cons, c]⟩
    rw [List.zip_cons_cons] at hp
    rcases List.mem_cons.mp hp with e | e
    · subst e; exact h
    · exact a p e
theorem sortable_all {ds : List Dat} (h : sortable ds = true) : (∀ x ∈ ds, ∀ y ∈ ds, alk x y = true) ∧ ((∀ x ∈ ds, isTupC x = true) ∨ ∀ x ∈ ds, isFlat x = true) ∧ shpL DEEP ds = true := by
  unfold sortable at h
  rw [Bool.and_eq_true, Bool.and_eq_true, Bool.or_eq_true, List.all_eq_true, List.all_eq_true, List.all_eq_true] at h
  exact ⟨fun x hx y hy => List.all_eq_true.mp (h.1.1 x hx) y hy, h.1.2, h.2⟩
theorem sortable_py {ds : List Dat} (h : sortable ds = true) : PySem.W.AllAlike (ds.map toPy) ∧ PySem.W.Sortable (ds.map toPy) := by
  obtain ⟨a, b, _⟩ := sortable_all h
  refine ⟨fun d hd d' hd' => ?_, ?_⟩
  · obtain ⟨x, hx, rfl⟩ := List.mem_map.mp hd
    obtain ⟨y, hy, rfl⟩ := List.mem_map.mp hd'
    exact alk_py x y (a x hx y hy)
  · rcases b with b | b
    · refine .inl fun d hd => ?_
      obtain ⟨x, hx, rfl⟩ := List.mem_map.mp hd
      have := b x hx
      cases x with
      | tup xs =>
        cases xs with
        | nil => simp [isTupC] at this
        | cons y r => exact ⟨toPy y, toPyL r, by simp only [toPy, toPyL]⟩
      | _ => simp [isTupC] at this
    · refine .inr fun d hd => ?_
      obtain ⟨x, hx, rfl⟩ := List.mem_map.mp hd
      have := b x hx
      cases x with
      | int i => exact ⟨by simp [toPy], fun xs => by simp [toPy]⟩
      | str i => exact ⟨by simp [toPy], fun xs => by simp [toPy]⟩
      | _ => simp [isFlat] at this
theorem shpL_mem {n : Nat} : ∀ {ds : List Dat}, shpL n ds = true → ∀ d ∈ ds, shp n d = true
  | [], _, d, hd => (by cases hd)
  | x :: r, h, d, hd => by
    simp only [shpL, Bool.and_eq_true] at h
    rcases List.mem_cons.mp hd with e | e
    · subst e; exact h.1
    · exact shpL_mem h.2 d e
theorem cv_sortedX {X : Cx} : CallV1 X.K (fun xs H Q => rSortedX X xs H Q ∨ rSortedD () xs H Q) .sh .new sortD := by
  intro Z H Hs v d Q t s hv p
  cases hv with
  | @lst a xs ds h r =>
    obtain ⟨hs, p⟩ := Post.ite (show Post (if sortable ds = true then R.ok (.lst (sortL ds)) else .bad) (Wnt X.K Z H Hs .new Q) (fun _ => False) from p)
    obtain ⟨r1, r2, r3⟩ := repA_zip r
    obtain ⟨s1, s2, s3⟩ := sortable_all hs
    obtain ⟨a1, a2⟩ := sortable_py hs
    have em : ((xs.zip ds).map fun p => toPy p.2) = ds.map toPy := by
      conv => rhs; rw [← r3]
      rw [List.map_map]; rfl
    have hmem : ∀ p ∈ xs.zip ds, p.2 ∈ ds := fun p hp => (List.of_mem_zip hp).2
    refine .inl ⟨a, xs.zip ds, rfl, by rw [r2]; exact h, fun p hp => (Rep.dp (r1 p hp) (shpL_mem s3 _ (hmem p hp))).1, fun p hp => (Rep.dp (r1 p hp) (shpL_mem s3 _ (hmem p hp))).2.2, by rw [em]; exact a1, by rw [em]; exact a2, fun q hq => ?_⟩
    have e1 := dataLe_leT (ps := xs.zip ds) fun p hp q hq => s1 _ (hmem p hp) _ (hmem q hq)
    rw [r3] at e1
    have hr := repA_of (K := X.K) (Z := Z) (H := H) (ps := (xs.zip ds).mergeSort (PySem.W.dataLe false fun p => toPy p.2)) fun p hp => r1 p ((List.mergeSort_perm _ _).mem_iff.mp hp)
    rw [e1] at hr
    exact Wnt.newL t s p hr hq
  | @dic a ks kvs h r =>
    obtain ⟨hs, p⟩ := Post.ite (show Post (if sortable (kvs.map (·.1)) = true ∧ kvs.length ≤ LINE then R.ok (.lst (sortL (kvs.map (·.1)))) else .bad) (Wnt X.K Z H Hs .new Q) (fun _ => False) from p)
    have hs := hs.1
    have ek : ∀ {ks : List (Key × V)} {kvs : List (Dat × Dat)}, RepD X.K Z H ks kvs → (keyPs ks).map (·.2) = kvs.map (·.1) ∧ ∀ p ∈ keyPs ks, Rep X.K Z H p.1 p.2 := by
      intro ks
      induction ks with
      | nil => intro kvs r; cases r; exact ⟨rfl, fun p hp => (by cases hp)⟩
      | cons k ks ih =>
        intro kvs r
        cases r with
        | cons o hv r =>
          obtain ⟨i1, i2⟩ := ih r
          refine ⟨by rw [List.map_cons, ← i1]; rfl, fun p hp => ?_⟩
          rcases List.mem_cons.mp (show p ∈ (kV _, kD _) :: keyPs ks from hp) with e | e
          · subst e
            rename_i k0 v0 d0 t0
            cases k0 with
            | inl i => exact .int i
            | inr x => exact .str x o
          · exact i2 p e
    obtain ⟨k1, k2⟩ := ek r
    obtain ⟨s1, s2, s3⟩ := sortable_all hs
    obtain ⟨a1, a2⟩ := sortable_py hs
    have em : ((keyPs ks).map fun p => toPy p.2) = (kvs.map (·.1)).map toPy := by
      rw [← k1, List.map_map]; rfl
    refine .inr ⟨a, ks, rfl, h, by rw [em]; exact a1, by rw [em]; exact a2, fun q hq => ?_⟩
    have hmem : ∀ p ∈ keyPs ks, p.2 ∈ kvs.map (·.1) := fun p hp => by rw [← k1]; exact List.mem_map.mpr ⟨p, hp, rfl⟩
    have e1 := dataLe_leT (ps := keyPs ks) fun p hp q hq => s1 _ (hmem p hp) _ (hmem q hq)
    rw [k1] at e1
    have hr := repA_of (K := X.K) (Z := Z) (H := H) (ps := (keyPs ks).mergeSort (PySem.W.dataLe false fun p => toPy p.2)) fun p hp => k2 p ((List.mergeSort_perm _ _).mem_iff.mp hp)
    rw [e1] at hr
    exact Wnt.newL t s p hr hq
  | _ => exact False.elim p
theorem nx_sortD : NoX1 sortD := fun d x h => by cases d <;> simp only [sortD] at h <;> first | cases h | (split at h <;> cases h)
theorem B_sorted {X : Cx} {c : Ct} (hK : c.K = X.K) (hc : X.calm = true) (hu : X.A.units + 64 < cLine) : B1 X c.K "sorted" .sh .new sortD := ⟨⟨_, _, callR_or (cr_sortedX hu) (cr_sortedDX hc hu), by rw [hK]; exact cv_sortedX, by decide +kernel⟩, nx_sortD⟩

/-! ### list of a text -/
section
variable {X : Cx}
def rListS : List V → Hp → VK → Prop := fun xs H Q => ∃ x : Str, xs = [.str x] ∧ x.cps.size ≤ sizeLine ∧ ∀ p, H p = none → Q (.ref p) (upd H p (.lst (x.cps.toList.map fun c => V.str ⟨#[c]⟩)))
theorem signs_at {x : Str} : ∀ (us : List Value) (cs : List Nat), us.length = cs.length → (∀ (j : Nat) (v : Value), us[j]? = some v → ∃ c u, cs[j]? = some c ∧ v = Value.str ⟨#[c]⟩ u) → Vals (cs.map fun c => V.str ⟨#[c]⟩) us
  | [], [], _, _ => .nil
  | u :: us, c :: cs, hl, h => by
    obtain ⟨c', t, e1, e2⟩ := h 0 u rfl
    have e1' : c = c' := Option.some.inj e1
    subst e1'
    subst e2
    rw [List.map_cons]
    refine .cons ⟨t, rfl⟩ (signs_at (x := x) us cs (by simpa using hl) fun j v e => ?_)
    obtain ⟨c, t, a, b⟩ := h (j + 1) v (by simpa using e)
    exact ⟨c, t, by simpa using a, b⟩
  | [], _ :: _, hl, _ => by simp at hl
  | _ :: _, [], hl, _ => by simp at hl
theorem call_listS (hc : X.calm = true) : CallR X (.type "list") rListS := by
  intro pins s σ H xs us Q I r q
  obtain ⟨x, ex, hz, q⟩ := q
  subst ex
  obtain ⟨u, eu, rx⟩ := vals1 r
  subst eu
  obtain ⟨t, rfl⟩ := rx
  refine PySem.call_list_str (I.ok.hd hc) x t (hn := hz) fun h' tk acc c' hk hS hacc => ?_
  have hv : Vals (x.cps.toList.map fun c => V.str ⟨#[c]⟩) acc.toList := signs_at (x := x) _ _ (by rw [Array.length_toList, hacc.1, Array.length_toList]) fun j v e => by
    obtain ⟨c, u, hc, rfl⟩ := hacc.2 j v (by rw [← Array.getElem?_toList]; exact e)
    exact ⟨c, u, by rw [Array.getElem?_toList]; exact hc, rfl⟩
  exact ⟨.ref s.heap.objs.size, upd H s.heap.objs.size (.lst (x.cps.toList.map fun c => V.str ⟨#[c]⟩)), I.laid (t' := tk) hk (Nat.le_refl _)
    (show ObjOk X.prog X.w _ _ _ (.lst (x.cps.toList.map fun c => V.str ⟨#[c]⟩)) from ⟨by rw [List.length_map, Array.length_toList]; exact hz, acc.toList, c', hv, by rw [Array.toArray_toList]; exact hS⟩), rfl, q _ (I.hok.fresh (Nat.le_refl _))⟩
end
theorem signs_rep {K : KF} {Z : ZS} {H : Hp} : ∀ {cs : List Nat}, (∀ c ∈ cs, c < 1114112) → RepA K Z H (cs.map fun c => V.str ⟨#[c]⟩) (signs cs)
  | [], _ => .nil
  | c :: cs, h => .cons (.ofS rfl ⟨fun d hd => by rw [show d = c by simpa using hd]; exact h c List.mem_cons_self, by show 1 ≤ LINE; decide⟩) (signs_rep fun d hd => h d (List.mem_cons_of_mem _ hd))
theorem cv_listA {K : KF} : CallV1 K (fun xs H Q => (∃ p ys, xs = [.ref p] ∧ (SqL K H p ys ∨ SqT K H p ys) ∧ ∀ l, H l = none → Q (.ref l) (upd H l (.lst ys))) ∨ rListS xs H Q) .sh .new listD := by
  intro Z H Hs v d Q t s hv p
  cases hv with
  | lst h r => exact .inl ⟨_, _, rfl, .inl h, fun l hl => Wnt.newL t s p r hl⟩
  | tup h r => exact .inl ⟨_, _, rfl, .inr h.sq, fun l hl => Wnt.newL t s p r hl⟩
  | str x hx =>
    refine .inr ⟨x, rfl, ?_, fun l hl => Wnt.newL t s p (signs_rep hx.1) hl⟩
    have := hx.2
    rw [line_eq] at this
    simpa using this
  | _ => exact False.elim p
theorem nx_listA : NoX1 listD := fun d x h => by cases d <;> cases h
theorem T_listA {X : Cx} {c : Ct} (hK : c.K = X.K) (hc : X.calm = true) : T1 X c.K "list" .sh .new listD := ⟨⟨_, _, callR_or call_list_of (call_listS hc), by rw [hK]; exact cv_listA, by decide +kernel⟩, nx_listA⟩

/-! ### a list that is read, times an int -/
theorem list_mulW (l : Addr) (items : Array Value) (n : Nat) (x : Int) (u : Tok) (dd : Option Addr) (sl : Array (Option Value)) (hc0 : ¬(!Builtin.List.listFitsIndex x) = true) (hc1 : ¬items.size * x.toNat > (2 ^ 63 - 1) / 8) (hc2 : ¬Builtin.List.listTooLong (items.size * x.toNat) = true) :
    Meets (Builtin.«list.__mul__» ⟨[.ref l, .int x u], []⟩) (fun _ R s => s.heap.get? l = some { cls := .type "list", dict := dd, data := .seq items n, slots := sl } ∧ R (.ok (.ret (Value.ref s.heap.objs.size))) { s with heap := s.heap.push { cls := Value.type "list", data := Data.seq (List.foldl (fun x1 x2 => x1 ++ x2) #[] (List.replicate (if items.isEmpty = true then 0 else x.toNat) items)) }, toks := s.toks }) :=
  .of_wp fun prog w A R s h => by
    obtain ⟨hp, g, d, tk, os⟩ := s; obtain ⟨hl, h⟩ := h
    have hsz := AutoListH.joined_fits hc2
    wp_walk using AutoSeq1.wpAny_loadPart' hl; refine wpAny_ite_false (decide_eq_false (Nat.not_lt.mpr hsz)) ?_; wp_walk; exact ⟨_, rfl, h⟩
theorem int_rmulW (a : Int) (t : Tok) (l : Addr) (items : Array Value) (n : Nat) (dd : Option Addr) (sl : Array (Option Value)) :
    Meets (Builtin.«int.__rmul__» ⟨[.int a t, .ref l], []⟩) (fun _ R s => s.heap.get? l = some { cls := .type "list", dict := dd, data := .seq items n, slots := sl } ∧ R (.ok (.ret Value.notImplemented)) s) :=
  .of_wp fun prog w A R s h => by obtain ⟨hp, g, d, tk, os⟩ := s; obtain ⟨hl, h⟩ := h; wp_walk using AutoSeq1.wpAny_loadPart' hl; exact ⟨_, rfl, h⟩
def rRepA (K : KF) : R2 := fun x y H Q => ∃ l k xs, x = .ref l ∧ y = .int k ∧ SqL K H l xs ∧ -(2 ^ 63) ≤ k ∧ k < 2 ^ 63 ∧ xs.length * k.toNat ≤ sizeLine ∧
  ∀ p, H p = none → Q (.ref p) (upd H p (.lst (List.replicate k.toNat xs).flatten))
section
variable {X : Cx}
theorem op_repA : OpR X (binaryOp .Mult) (rRepA X.K) := by
  intro pins s σ H x y v u Q I rx ry h
  obtain ⟨l, k, xs, rfl, rfl, hH, h1, h2, hz, q⟩ := h
  cases rx
  obtain ⟨t, rfl⟩ := ry
  obtain ⟨its, r, ⟨⟨c1, d1, t1, s1⟩, n, g1, g2, g3, g4⟩, z⟩ := I.list hH
  simp only at g2 g3 g4
  subst g2 g3 g4
  have hl := r.length
  have hlen : its.toArray.size * k.toNat ≤ sizeLine := by rw [List.size_toArray, ← hl]; exact hz
  have hcap : ¬ its.toArray.size * k.toNat > (2 ^ 63 - 1) / 8 := by
    have : (sizeLine : Nat) ≤ (2 ^ 63 - 1) / 8 := by decide
    omega
  have hfit : ¬ (!Builtin.List.listFitsIndex k) = true := by
    rw [fitsIndex_both h1 h2]
    exact Bool.false_ne_true
  have hlong : ¬ Builtin.List.listTooLong (its.toArray.size * k.toNat) = true := by
    rw [notLongL hlen]
    exact Bool.false_ne_true
  have hnew : List.foldl (fun x1 x2 => x1 ++ x2) #[] (List.replicate (if its.toArray.isEmpty = true then 0 else k.toNat) its.toArray) = (List.replicate k.toNat its).flatten.toArray := by
    have f0 : ∀ m : Nat, List.foldl (fun x1 x2 => x1 ++ x2) #[] (List.replicate m its.toArray) = (List.replicate m its).flatten.toArray := fun m => by
      have := foldl_rep its m []
      rw [List.nil_append] at this
      exact this
    rw [f0]
    cases its with
    | nil => simp
    | cons a r' => rw [if_neg (by simp)]
  refine wpAny_binaryOp_repeat_ref (T := "list") (U := "int") (by decide) ⟨_, g1, rfl⟩ (fun s' => typeIs_int s' k t) noFill_list_mul F.fills_int_mul F.slot_int_rmul repeat_list F.slot_int_index.lookup
    (call_meets F.slot_int_rmul (typeIs_int s k t) F.entry_int_rmul (F.args_int_rmul_2 _ _) (int_rmulW k t l its.toArray n none s1)
      ⟨g1, rfl, ⟨_, g1, rfl⟩, call_meets F.slot_list_mul ⟨_, g1, rfl⟩ F.entry_list_mul (F.args_list_mul_2 _ _) (list_mulW l its.toArray n k t none s1 hfit hcap hlong) ⟨g1, ?_⟩⟩)
  rw [hnew]
  exact ⟨.ref _, _, I.lnew (t' := s.toks) (r.rep k.toNat) (by rw [List.length_flatten, List.map_replicate, List.sum_replicate_nat, Nat.mul_comm]; exact hz), rfl, q _ I.fresh⟩
end
theorem o2_mulA {K : KF} : Op2 K (fun x y H Q => rRepA K x y H Q ∨ (rI CMul (fun i j => .int (i * j)) x y H Q ∨ ∃ (z : Str) (n : Int), x = .str z ∧ y = .int n ∧ MulOk z n ∧ Q (.str (Txt.mul z n)) H)) .sh .sh .new mulD := by
  intro Z H Hs v u d e Q t s hv hu p
  cases hv with
  | lst h r =>
    cases hu with
    | int n =>
      obtain ⟨⟨h1, h2, h3⟩, p⟩ := Post.ite p
      exact .inl ⟨_, n, _, rfl, rfl, h, h1, h2, by rw [r.len, ← line_eq]; exact h3, fun q hq => Wnt.newL t s p (r.rep n.toNat) hq⟩
    | _ => exact False.elim p
  | int i => exact .inr (o2_mul Z H Hs _ _ _ _ Q t s (Sh.int i) hu (by cases hu <;> exact p))
  | str x hx => exact .inr (o2_mul Z H Hs _ _ _ _ Q t s (Sh.str x hx) hu (by cases hu <;> exact p))
  | _ => cases hu <;> exact False.elim p
theorem nx_mulA : NoX2 mulD := fun d e x h => by
  unfold mulD at h
  split at h
  · exact nx_rep _ _ _ h
  · exact nx_mul _ _ _ h
theorem q_mulA {X : Cx} {c : Ct} {W : WX} {own : List Nat} {a b : Expr} {m1 m2 : EM} {pos : Pos} (hK : c.K = X.K) (ha : PE X a (qE c W own .sh m1)) (hb : PE X b (qE c W own .sh m2)) : PE X (.BinOp a .Mult b pos) (qE c W own .new (e2 mulD m1 m2)) :=
  q_bin ha hb (fun _ _ h k => pe_op (op_repA.or opU_mul) h k) (by rw [← hK]; exact o2_mulA) nx_mulA
end PL

set_option maxRecDepth 100000
set_option maxHeartbeats 4000000
namespace PL
open PySem PySem.Spec PyProof.Rows L2
set_option autoImplicit false

theorem meets_enumT (t : Addr) (items : Array Value) :
    Meets (Builtin.«enumerate.__new__» ⟨[.type "enumerate", .ref t], []⟩) (fun _ R s => s.heap.IsTuple t items ∧
      R (.ok (.ret (.ref (s.heap.push { cls := .type "tuple_iterator", data := .fields #[.ref t, .int 0 0] }).objs.size)))
        { s with heap := (s.heap.push { cls := .type "tuple_iterator", data := .fields #[.ref t, .int 0 0] }).push { cls := .type "enumerate", data := .fields #[.none, .bool false, .ref s.heap.objs.size, rawInt 0, .none, .none] } }) :=
  .of_wp fun prog w A R s h => by
    obtain ⟨hp, g, d, tk, os⟩ := s; obtain ⟨h1, h⟩ := h
    have hsub := sub_enumerate
    have q1 : ∀ {A' : Around} {E : Value → Shared → Prop} {Q : Value → Shared → Prop}, Q (.ref hp.objs.size) ⟨hp.push { cls := .type "tuple_iterator", data := .fields #[.ref t, .int 0 0] }, g, d, tk, os⟩ → wpAny (model prog w) A' (pyIter (.ref t)) Q E ⟨hp, g, d, tk, os⟩ :=
      fun q => wpAny_pyIter_tuple (s := ⟨hp, g, d, tk, os⟩) h1 q
    wp_walk using q1
    refine wpAny_stack_any fun st => wpAny_pure ?_
    split
    · rename_i c _ _ _ _ _
      cases (c == Value.type "enumerate")
      · wp_walk using q1
        exact ⟨_, rfl, h⟩
      · wp_walk using q1
        exact ⟨_, rfl, h⟩
    · wp_walk using q1
      exact ⟨_, rfl, h⟩
section
variable {prog : Program} {w : World} {A : Around} {E : Value → Shared → Prop} {s : Shared}
theorem call_enumT {l : Addr} {items : Array Value} {Q : Value → Shared → Prop} (hL : s.heap.IsTuple l items)
    (h : ∀ h', IsEnum h' (s.heap.objs.size + 1) s.heap.objs.size 0 .none → h'.IsTupleIter s.heap.objs.size l 0 → h'.objs.size = s.heap.objs.size + 2 →
      (∀ b o, s.heap.get? b = some o → h'.get? b = some o) → Q (.ref (s.heap.objs.size + 1)) { s with heap := h' }) :
    wpAny (model prog w) A (call (.type "enumerate") [.ref l]) Q E s := by
  refine callType_new F.called_enumerate (by decide) (F.typeCall_enumerate_1 _) (F.newCall_enumerate_1 _) (fun obj => F.args_object_init_2 obj _) F.entry_enumerate_new
    (meets_enumT l items) ⟨hL, ?_⟩
  have hz : (s.heap.push { cls := .type "tuple_iterator", data := .fields #[.ref l, .int 0 0] }).objs.size = s.heap.objs.size + 1 := Heap.size_push ..
  show _ ∧ _
  rw [hz]
  have he : IsEnum ((s.heap.push { cls := .type "tuple_iterator", data := .fields #[.ref l, .int 0 0] }).push
      { cls := .type "enumerate", data := .fields #[.none, .bool false, .ref s.heap.objs.size, rawInt 0, .none, .none] }) (s.heap.objs.size + 1) s.heap.objs.size 0 .none := by
    have := Heap.get?_push_size (s.heap.push { cls := .type "tuple_iterator", data := .fields #[.ref l, .int 0 0] })
      (o := { cls := .type "enumerate", data := .fields #[.none, .bool false, .ref s.heap.objs.size, rawInt 0, .none, .none] }) rfl
    rw [hz] at this; exact this
  refine ⟨⟨_, he, rfl⟩, h _ he ⟨_, Heap.get?_push_of_some _ (Heap.get?_push_size _ rfl), rfl, rfl⟩ (by rw [Heap.size_push, hz]) fun b o x => Heap.get?_push_of_some _ (Heap.get?_push_of_some _ x)⟩
end
/-- the tuple at a, each item in a new pair -/
def IteT (K : KF) (a : Addr) : It :=
  ⟨fun i H => ∃ (xs : List V) (x : V), SqT K H a xs ∧ xs[i]? = some x, fun i H v H' => ∃ T x, v = .ref T ∧ H T = none ∧ H' = upd H T (.tup [.int (i : Nat), x]) ∧ ∀ xs, SqT K H a xs → xs[i]? = some x, fun i H => ∃ xs : List V, SqT K H a xs ∧ xs.length ≤ i⟩
theorem apartT {h : Heap} {e it a : Addr} {i : Nat} {k : Int} {old : Value} {xs : Array Value} (he : IsEnum h e it k old) (hit : h.IsTupleIter it a i) (hx : h.IsTuple a xs) : a ≠ it ∧ e ∉ [it, a] ∧ e ≠ it := by
  obtain ⟨o, ho, hc, hd⟩ := hit
  obtain ⟨o2, ho2, hc2, hd2⟩ := hx
  have n1 : a ≠ it := fun q => by
    subst q
    rw [ho] at ho2
    cases ho2
    rw [hc] at hc2
    exact absurd (Value.type.inj hc2) (by decide)
  have n2 : e ≠ it := fun q => by
    subst q
    have := he.symm.trans ho
    cases this
    exact absurd (Value.type.inj hc) (by decide)
  have n3 : e ≠ a := fun q => by
    subst q
    have := he.symm.trans ho2
    cases this
    exact absurd (Value.type.inj hc2) (by decide)
  exact ⟨n1, by simp [n2, n3], n2⟩
theorem turn_enumT {P : Program} {w : World} {K : KF} {elts : List Expr} {kk : Nat} {tpos : Pos} (a e it : Addr) :
    Turn P w K (.Tuple elts kk tpos) (IteT K a) [e, it] e (fun i h => (∃ old, IsEnum h e it ((i : Nat) : Int) old) ∧ h.IsTupleIter it a i ∧ e ≠ it) where
  mem := by simp
  obj := fun i h st b hb => by
    obtain ⟨⟨old, he⟩, ⟨o, ho, hc, hd⟩, _⟩ := st
    have e' : b = e ∨ b = it := by simpa using hb
    rcases e' with z | z
    · rw [z]; exact ⟨_, he, fun v q => nomatch q⟩
    · rw [z]; exact ⟨o, ho, fun v q => by rw [hd] at q; cases q⟩
  keep := fun i h h' st k => let ⟨⟨old, he⟩, hi, hne⟩ := st; ⟨⟨old, k e (by simp) _ he⟩, hi.at fun o q => k it (by simp) o q, hne⟩
  item := by
    intro X hP hw hK hc i pins s σ H E I hf st hg
    subst hP hw hK
    obtain ⟨⟨old, he⟩, hit, hne⟩ := st
    obtain ⟨xs, x, hq, hx⟩ := hg
    obtain ⟨its, rv, p, hz⟩ := I.tuple hq
    obtain ⟨u, hu, ru⟩ := rv.get hx
    have p : s.heap.IsTuple a its.toArray := p
    obtain ⟨n1, n2, n3⟩ := apartT he hit p
    have hel : e < s.heap.objs.size := Heap.lt_size he
    have hil : it < s.heap.objs.size := by obtain ⟨_, q, _⟩ := hit; exact Heap.lt_size q
    have hlt : i < its.toArray.size := by
      have := (List.getElem?_eq_some_iff.mp hu).1
      simpa using this
    refine wpAny_pyNext_enum_itemD (PySem.Draws.tuple (A := X.A.in1) (show X.A.in1.handled = none from I.ok.hd hc) it a n1 its.toArray) he ⟨hit, p⟩ hlt hne n2 fun y h' tk hy ho hit' hT hsz hk => ?_
    have ey : u = y := by
      have hy' : its[i]? = some y := by simpa using hy
      rw [hu] at hy'
      exact Option.some.inj hy'
    subst ey
    refine ⟨_, rfl, wpAny_letOwnedTupleGo_enum (s := { s with heap := h', toks := tk + 1 }) ho fun h'' he' sb => ?_⟩
    have hT2 : h''.get? s.heap.objs.size = some { cls := .type "tuple", data := .seq #[.int i tk, u] } := (sb.2 _ (Nat.ne_of_gt hel)).trans hT
    have new : ObjOk X.prog X.w (upd H s.heap.objs.size (.tup [.int (i : Nat), x])) h'' s.heap.objs.size (.tup [.int (i : Nat), x]) :=
      ⟨by show 2 ≤ sizeLine; decide, [.int i tk, u], .cons ⟨_, rfl⟩ (.cons ru .nil), ⟨_, hT2, rfl, _, rfl⟩⟩
    have I1 : Inv X pins σ (upd H s.heap.objs.size (.tup [.int (i : Nat), x])) { s with heap := h'', toks := tk + 1 } :=
      I.turnedNew (ch := [e, it]) (fun b ob hb q => (sb.2 b (fun z => hb (by simp [z]))).trans (hk b ob (fun z => hb (by simp [z])) (fun z => hb (by simp [z])) q)) hf (Nat.le_refl _) new
    refine ⟨.ref s.heap.objs.size, _, I1, rfl, ⟨_, x, rfl, I.hok.fresh (Nat.le_refl _), rfl, fun ys hy => by rw [I.tuple_inj hy hq]; exact hx⟩, ⟨⟨u, ?_⟩, hit'.1.at fun o q => (sb.2 it (Ne.symm hne)).trans q, hne⟩, fun b hb => ?_⟩
    · have e1 : ((i + 1 : Nat) : Int) = (i : Int) + 1 := by omega
      rw [e1]; exact he'
    · have hb' : b < s.heap.objs.size := by
        have e' : b = e ∨ b = it := by simpa using hb
        rcases e' with z | z
        · rw [z]; exact hel
        · rw [z]; exact hil
      rw [upd_ne (Nat.ne_of_lt hb')]
      exact (hf b hb).1
  done := by
    intro X hP hw hK hc i pins s σ H E I hf st hg
    subst hP hw hK
    obtain ⟨⟨old, he⟩, hit, hne⟩ := st
    obtain ⟨xs, hq, hx⟩ := hg
    obtain ⟨its, rv, p, hz⟩ := I.tuple hq
    have p : s.heap.IsTuple a its.toArray := p
    obtain ⟨n1, n2, n3⟩ := apartT he hit p
    obtain ⟨f0, f1, f2, f3, f4, f5⟩ := hf it (by simp)
    have hl := rv.length
    have hT : s.TypeIs (.ref e) "enumerate" := ⟨_, he, rfl⟩
    unfold pyNext
    refine wpAny_bind (wpAny_attempt (wpAny_callSpecial?_slot (name := Str.ofString "__next__") hT F.slot_enumerate_next
      (wpAny_call_entry F.slot_enumerate_next hT F.entry_enumerate_next ?_ (F.args_enumerate_next_1 _))))
    show wpAny _ _ (field (.ref e) 2 >>= _) _ _ _
    refine wpAny_bind (wpAny_field he rfl (x := .ref it) rfl ?_)
    refine wpAny_bind (PySem.wpAny_nextOf_tuple_end (show _ = none from I.ok.hd hc) hit p (by simp; omega) fun h' x he' hx' => ?_)
    obtain ⟨o, ho, hc⟩ := hx'
    refine wpAny_bind (wpAny_isInstance (T := "StopIteration") (b := true) ⟨o, ho, hc⟩ isSubtype_stop ?_)
    exact wpAny_pure ⟨rfl, I.turned (t' := s.toks) (fun b o hb q => he' b o hb q) f0 f1 f3 f4 f5⟩
  self := fun A i s Q E st h => let ⟨⟨_, he⟩, _⟩ := st; wpAny_pyIter_enum he h
def iEnuU (K : KF) (ta : TA) : TI := fun σ H R => ta σ H fun vs H1 => (∃ a xs, vs = [.ref a] ∧ SqL K H1 a xs ∧ R (Ite K a) H1) ∨ (∃ a xs, vs = [.ref a] ∧ SqT K H1 a xs ∧ R (IteT K a) H1)
theorem pi_enumU {X : Cx} {e : Expr} {ta : TA} {p pos tpos : Pos} {elts : List Expr} {kk : Nat} (hg : Gl X "enumerate") (hm : X.mg "enumerate" = none) (ha : PA X [e] ta) (hs : starEach [e] X.env = [(false, eval e X.env)] := by rfl) :
    PI X (.Tuple elts kk tpos) (.Call (.Name "enumerate" p) [e] [] pos) (iEnuU X.K ta) := by
  refine ⟨fun pins s σ H R I h => ?_⟩
  refine Call_ (ld_blt I hg hm boot_enumerate (PyProof.Rows.callWith_type1 (thn (ha.run pos pins s σ H _ I h) fun us s1 ⟨vs, H1, I1, r1, q1⟩ => ?_) hs rfl))
  have apart : ∀ b ∈ [s1.heap.objs.size + 1, s1.heap.objs.size], s1.heap.objs.size ≤ b := fun b hb => by
    have e' : b = s1.heap.objs.size + 1 ∨ b = s1.heap.objs.size := by simpa using hb
    rcases e' with z | z
    · rw [z]; exact Nat.le_add_right _ _
    · rw [z]; exact Nat.le_refl _
  rcases q1 with ⟨a, xs, ex, hq, q⟩ | ⟨a, xs, ex, hq, q⟩
  · subst ex
    cases r1 with
    | cons r rr =>
      cases rr
      cases r
      obtain ⟨its, rv, p', hz⟩ := I1.list hq
      refine call_enumerate_list p'.isList fun h' he hit hsz hk => wpAny_pyIter_enum he ?_
      have I2 : Inv X pins σ H1 { s1 with heap := h' } := I1.kept (t' := s1.toks) hk
      exact ⟨s1.heap.objs.size + 1, [s1.heap.objs.size + 1, s1.heap.objs.size], _, _, H1, rfl, I2, turn_enum a (s1.heap.objs.size + 1) s1.heap.objs.size, ⟨⟨.none, he⟩, hit, Nat.succ_ne_self _⟩, fun b hb => I1.fpOk (apart b hb) (I1.hok.fresh (apart b hb)), q⟩
  · subst ex
    cases r1 with
    | cons r rr =>
      cases rr
      cases r
      obtain ⟨its, rv, p', hz⟩ := I1.tuple hq
      refine call_enumT (show s1.heap.IsTuple a its.toArray from p') fun h' he hit hsz hk => wpAny_pyIter_enum he ?_
      have I2 : Inv X pins σ H1 { s1 with heap := h' } := I1.kept (t' := s1.toks) hk
      exact ⟨s1.heap.objs.size + 1, [s1.heap.objs.size + 1, s1.heap.objs.size], _, _, H1, rfl, I2, turn_enumT a (s1.heap.objs.size + 1) s1.heap.objs.size, ⟨⟨.none, he⟩, hit, Nat.succ_ne_self _⟩, fun b hb => I1.fpOk (apart b hb) (I1.hok.fresh (apart b hb)), q⟩
section
variable {K : KF} {Z : ZS} {H : Hp} {a : Addr} {xs : List V} {ds : List Dat}
theorem enumF_get : ∀ {ds : List Dat} {k i : Nat} {d : Dat}, (enumFrom k ds)[i]? = some d → ∃ x, ds[i]? = some x ∧ d = .tup [.int ((k + i : Nat) : Int), x]
  | [], _, _, _, h => by simp [enumFrom] at h
  | x :: r, k, 0, d, h => ⟨x, rfl, by simpa [enumFrom] using h.symm⟩
  | x :: r, k, i + 1, d, h => by
    obtain ⟨y, h1, h2⟩ := enumF_get (ds := r) (k := k + 1) (i := i) (by simpa [enumFrom] using h)
    exact ⟨y, by simpa using h1, by rw [h2]; congr 3; omega⟩
theorem enumF_len : ∀ {ds : List Dat} {k : Nat}, (enumFrom k ds).length = ds.length
  | [], _ => rfl
  | _ :: r, k => by simp [enumFrom, enumF_len (ds := r)]
theorem iteT_ok (h : ∀ Z1 H1, Adv Z H Z1 H1 → SqT K H1 a xs ∧ RepA K Z1 H1 xs ds) : ItOk K (IteT K a) Z H (enumFrom 0 ds) := fun Z1 H1 ad t i => by
  obtain ⟨h1, r⟩ := h Z1 H1 ad
  refine ⟨fun d e => ?_, fun hl => ⟨xs, h1, by rw [r.len]; rw [enumF_len] at hl; exact hl⟩⟩
  obtain ⟨x, e1, rfl⟩ := enumF_get e
  obtain ⟨v, ev, rv⟩ := r.get e1
  refine ⟨⟨xs, v, h1, ev⟩, fun u H2 yy => ?_⟩
  obtain ⟨T, v2, rfl, hT, rfl, y1⟩ := yy
  have e2 := y1 xs h1
  rw [ev] at e2
  cases e2
  refine ⟨Zadd Z1 T, .laidZ t hT, .tup (.inr rfl) (.inl upd_same) (.cons ?_ (.cons (rv.adv (Ext.laidZ t hT).adv) .nil))⟩
  rw [show 0 + i = i by omega]
  exact .int _
end
section
variable {X : Cx} {c : Ct} {W : WX} {own : List Nat} {e : Expr} {m : EM} {pos p tpos : Pos}
theorem qi_enuU {elts : List Expr} {kk : Nat} (hK : c.K = X.K) (hg : Gl X "enumerate") (hm : X.mg "enumerate" = none) (ha : PE X e (qE c W own .frz m)) (hs : starEach [e] X.env = [(false, eval e X.env)] := by rfl) : PI X (.Tuple elts kk tpos) (.Call (.Name "enumerate" p) [e] [] pos) (qI c W own (iEnum m)) := by
  refine ⟨fun pins s σ H R I h => (pi_enumU hg hm (qa_cons ha qa_nil hs) hs).run pins s σ H R I ?_⟩
  obtain ⟨Z, ρ, S, p⟩ := h
  refine ⟨Z, ρ, S, ?_⟩
  have p := Post.bnd p
  unfold eCons eNil
  cases q : m ρ with
  | bad => rw [q] at p; exact p.elim
  | exc x => rw [q] at p; exact p
  | ok d =>
    rw [q] at p
    intro vs Z1 H1 x1 hv
    cases hv with
    | cons h1 h2 =>
      cases h2
      cases d with
      | lst ds =>
        obtain ⟨a, xs, rfl, hs, hh⟩ := Rep.stays h1
        rw [hK] at hs hh
        exact .inl ⟨a, xs, rfl, hs, p _ Z1 H1 x1 (by rw [hK]; exact ite_ok hh)⟩
      | tup ds =>
        obtain ⟨a, xs, rfl, hs, hh⟩ := Rep.staysT h1
        rw [hK] at hs hh
        exact .inr ⟨a, xs, rfl, hs, p _ Z1 H1 x1 (by rw [hK]; exact iteT_ok hh)⟩
      | _ => exact p.elim
end
section
variable {X : Cx} {vis loc : List Nat} {gls : List Str} {c : Ct} {W : WX} {own : List Nat} {e : Expr} {m : EM} {pos p : Pos}
theorem iEnu {elts : List Expr} {kk : Nat} {tpos : Pos} (j : Nat) (V : Scp X vis loc gls) (hK : c.K = X.K) (hj : gls[j]? = some ("enumerate" : Str)) (hm : X.mg "enumerate" = none) (ha : PE X e (qE c W own .frz m)) (hs : starEach [e] X.env = [(false, eval e X.env)] := by rfl) : PI X (.Tuple elts kk tpos) (.Call (.Name "enumerate" p) [e] [] pos) (qI c W own (iEnum m)) := qi_enuU hK (V.gl j _ hj).1 hm ha hs
end
end PL

set_option maxRecDepth 100000
set_option maxHeartbeats 4000000
namespace PLD
open PySem PySem.Spec PyProof.Rows L2
set_option autoImplicit false
theorem compTurnD2_out (kx vx t0 i0 t1 i1 : Expr) (ifs0 ifs1 : List Expr) (scope : Scope) (pos : Pos) (it : Value) (D : Addr) (env : Env) :
    compTurn (.DictComp kx vx [⟨t0, i0, ifs0, 0⟩, ⟨t1, i1, ifs1, 0⟩] scope pos) 0 it (.ref D) env = (do
      standAt i0.pos
      match ← pyNext it with
      | none => pure (.done .next)
      | some v =>
        letOwnedTupleGo t0 it v
        assign t0 env v
        let mut ok := true
        for c in ifs0 do
          if ok then ok ← isTrue c env (eval c env)
        if ok then
          let x ← eval i1 env
          standAt i1.pos
          let x ← foldedSetIterable i1 env x
          let _ ← runOwn (.compStart (.DictComp kx vx [⟨t0, i0, ifs0, 0⟩, ⟨t1, i1, ifs1, 0⟩] scope pos) 1 (← holding [x] (pyIter x)) (.ref D) env) env
        again (.compLoop (.DictComp kx vx [⟨t0, i0, ifs0, 0⟩, ⟨t1, i1, ifs1, 0⟩] scope pos) 0 it (.ref D) env)) := by rfl
theorem compTurnD2_in (kx vx t0 i0 t1 i1 : Expr) (ifs0 ifs1 : List Expr) (scope : Scope) (pos : Pos) (it : Value) (D : Addr) (env : Env) :
    compTurn (.DictComp kx vx [⟨t0, i0, ifs0, 0⟩, ⟨t1, i1, ifs1, 0⟩] scope pos) 1 it (.ref D) env = (do
      standAt i1.pos
      match ← pyNext it with
      | none => pure (.done .next)
      | some v =>
        letOwnedTupleGo t1 it v
        assign t1 env v
        let mut ok := true
        for c in ifs1 do
          if ok then ok ← isTrue c env (eval c env)
        if ok then
          (do
            let kv ← eval kx env
            let vv ← holding [kv] (eval vx env)
            standAt { kx.pos with endLine := vx.pos.endLine, endCol := vx.pos.endCol }
            holding [kv, vv] (dictSet D kv vv))
        again (.compLoop (.DictComp kx vx [⟨t0, i0, ifs0, 0⟩, ⟨t1, i1, ifs1, 0⟩] scope pos) 1 it (.ref D) env)) := by rfl
section
variable {prog : Program} {w : World} {A : Around} {R : Result → Shared → Prop} {s : Shared} {kx vx t0 i0 t1 i1 : Expr} {ifs0 ifs1 : List Expr} {scope : Scope} {pos : Pos} {it : Value} {D : Addr} {env : Env}
theorem compLoopD2_out (hs : ∀ x, foldedSetIterable i1 env x = pure x) (I : Nat → Shared → Prop)
    (turn : ∀ n s, I n s → wpAny (model prog w) A (pyNext it) (fun r s₁ => match r with
      | none => R (.ok .next) s₁
      | some v => wpAny (model prog w) A (letOwnedTupleGo t0 it v) (fun _ s₁' => wpAny (model prog w) A (assign t0 env v) (fun _ s₂ =>
          wpAny (model prog w) A (forIn ifs0 true fun c r => if r = true then do let ok ← isTrue c env (eval c env); pure (ForInStep.yield ok) else pure (ForInStep.yield r)) (fun ok s₃ =>
            if ok = true then wpAny (model prog w) A (eval i1 env) (fun x s₄ => wpAny (model prog w) A (pyIter x) (fun it1 s₅ =>
              codeAny (model prog w) A (.compStart (.DictComp kx vx [⟨t0, i0, ifs0, 0⟩, ⟨t1, i1, ifs1, 0⟩] scope pos) 1 it1 (.ref D) env) (fun r s' => match r with
                | .ok _ => ∃ m, m < n ∧ I m s'
                | .error _ => False) s₅) (notedBy (model prog w) A env fun e s' => R (.error e) s') s₄) (notedBy (model prog w) A env fun e s' => R (.error e) s') s₃
            else ∃ m, m < n ∧ I m s₃) (notedBy (model prog w) A env fun e s' => R (.error e) s') s₂) (notedBy (model prog w) A env fun e s' => R (.error e) s') s₁') (notedBy (model prog w) A env fun e s' => R (.error e) s') s₁) (notedBy (model prog w) A env fun e s' => R (.error e) s') s)
    (n : Nat) (h : I n s) :
    codeAny (model prog w) A (.compLoop (.DictComp kx vx [⟨t0, i0, ifs0, 0⟩, ⟨t1, i1, ifs1, 0⟩] scope pos) 0 it (.ref D) env) R s := by
  refine codeAny_loop rfl I (fun n s hI => ?_) n h
  show wpAny _ A ((compTurn (.DictComp kx vx [⟨t0, i0, ifs0, 0⟩, ⟨t1, i1, ifs1, 0⟩] scope pos) 0 it (.ref D) env).onRaise (fun x => do noteFrame x env; theTreesLotGoes x)) _ _ s
  refine wpAny_noted ?_
  rw [compTurnD2_out]
  refine wpAny_bind (wpAny_standAt (wpAny_bind (wpAny_mono (turn n s hI) (fun r s₁ h₁ => ?_) fun _ _ h' => h')))
  cases r with
  | none => exact wpAny_pure h₁
  | some v =>
    refine wpAny_bind (wpAny_mono h₁ (fun _ s₁' h₁' => ?_) fun _ _ h' => h')
    refine wpAny_bind (wpAny_mono h₁' (fun _ s₂ h₂ => wpAny_bind (wpAny_mono h₂ (fun ok s₃ h₃ => ?_) fun _ _ h' => h')) fun _ _ h' => h')
    cases ok with
    | false => exact wpAny_pure ⟨rfl, h₃⟩
    | true =>
      refine wpAny_bind (wpAny_mono h₃ (fun x s₄ h₄ => ?_) fun _ _ h' => h')
      refine wpAny_bind (wpAny_standAt (wpAny_bind (wpAny_of_eq (hs x) (wpAny_bind (wpAny_holding (wpAny_mono h₄ (fun it1 s₅ h₅ => ?_) fun _ _ h' => h'))))))
      refine wpAny_bind (wpAny_runOwn ?_)
      rw [Around.mark_none]
      refine codeAny_mono h₅ fun r s' hr => ?_
      cases r with
      | ok f =>
        first
          | exact wpAny_pure ⟨rfl, hr⟩
          | exact wpAny_bind (wpAny_pure (wpAny_pure ⟨rfl, hr⟩))
      | error e => exact hr.elim
theorem compLoopD2_in (I : Nat → Shared → Prop)
    (turn : ∀ n s, I n s → wpAny (model prog w) A (pyNext it) (fun r s₁ => match r with
      | none => R (.ok .next) s₁
      | some v => wpAny (model prog w) A (letOwnedTupleGo t1 it v) (fun _ s₁' => wpAny (model prog w) A (assign t1 env v) (fun _ s₂ =>
          wpAny (model prog w) A (forIn ifs1 true fun c r => if r = true then do let ok ← isTrue c env (eval c env); pure (ForInStep.yield ok) else pure (ForInStep.yield r)) (fun ok s₃ =>
            if ok = true then wpAny (model prog w) A (eval kx env) (fun kv s₄ => wpAny (model prog w) A (eval vx env) (fun vv s₅ =>
              wpAny (model prog w) A (dictSet D kv vv) (fun _ s₆ => ∃ m, m < n ∧ I m s₆) (notedBy (model prog w) A env fun e s' => R (.error e) s') s₅) (notedBy (model prog w) A env fun e s' => R (.error e) s') s₄) (notedBy (model prog w) A env fun e s' => R (.error e) s') s₃
            else ∃ m, m < n ∧ I m s₃) (notedBy (model prog w) A env fun e s' => R (.error e) s') s₂) (notedBy (model prog w) A env fun e s' => R (.error e) s') s₁') (notedBy (model prog w) A env fun e s' => R (.error e) s') s₁) (notedBy (model prog w) A env fun e s' => R (.error e) s') s)
    (n : Nat) (h : I n s) :
    codeAny (model prog w) A (.compLoop (.DictComp kx vx [⟨t0, i0, ifs0, 0⟩, ⟨t1, i1, ifs1, 0⟩] scope pos) 1 it (.ref D) env) R s := by
  refine codeAny_loop rfl I (fun n s hI => ?_) n h
  show wpAny _ A ((compTurn (.DictComp kx vx [⟨t0, i0, ifs0, 0⟩, ⟨t1, i1, ifs1, 0⟩] scope pos) 1 it (.ref D) env).onRaise (fun x => do noteFrame x env; theTreesLotGoes x)) _ _ s
  refine wpAny_noted ?_
  rw [compTurnD2_in]
  refine wpAny_bind (wpAny_standAt (wpAny_bind (wpAny_mono (turn n s hI) (fun r s₁ h₁ => ?_) fun _ _ h' => h')))
  cases r with
  | none => exact wpAny_pure h₁
  | some v =>
    refine wpAny_bind (wpAny_mono h₁ (fun _ s₁' h₁' => ?_) fun _ _ h' => h')
    refine wpAny_bind (wpAny_mono h₁' (fun _ s₂ h₂ => wpAny_bind (wpAny_mono h₂ (fun ok s₃ h₃ => ?_) fun _ _ h' => h')) fun _ _ h' => h')
    cases ok with
    | false => exact wpAny_pure ⟨rfl, h₃⟩
    | true =>
      exact wpAny_bind (wpAny_bind (wpAny_mono h₃ (fun kv s₄ h₄ => wpAny_bind (wpAny_holding (wpAny_mono h₄ (fun vv s₅ h₅ => wpAny_bind (wpAny_standAt (wpAny_holding (wpAny_mono h₅ (fun _ s₆ h₆ => wpAny_pure ⟨rfl, h₆⟩) fun _ _ h' => h')))) fun _ _ h' => h'))) fun _ _ h' => h'))
theorem compStartD1_ok (h0 : codeAny (model prog w) A (.compLoop (.DictComp kx vx [⟨t0, i0, ifs0, 0⟩, ⟨t1, i1, ifs1, 0⟩] scope pos) 1 it (.ref D) env) R s)
    (h : wpAny (model prog w) A (pyIter it) (fun it' s' => codeAny (model prog w) A (.compLoop (.DictComp kx vx [⟨t0, i0, ifs0, 0⟩, ⟨t1, i1, ifs1, 0⟩] scope pos) 1 it' (.ref D) env) R s')
      (notedBy (model prog w) A env fun x s' => R (.error x) s') s) :
    codeAny (model prog w) A (.compStart (.DictComp kx vx [⟨t0, i0, ifs0, 0⟩, ⟨t1, i1, ifs1, 0⟩] scope pos) 1 it (.ref D) env) R s := by
  refine codeAny_of_tree ?_
  show wpAny _ _ ((compStart (.DictComp kx vx [⟨t0, i0, ifs0, 0⟩, ⟨t1, i1, ifs1, 0⟩] scope pos) 1 it (.ref D) env).onRaise (fun x => do noteFrame x env; standAt theWindowsPlace)) _ _ s
  refine wpAny_notedAt ?_
  unfold compStart
  show wpAny _ _ (ask >>= _) _ _ s
  refine wpAny_bind (wpAny_askSetting (wpAny_ite ?_))
  split
  · first
      | exact wpAny_bind (wpAny_pure (wpAny_pure (And.intro rfl h0)))
      | exact wpAny_pure (And.intro rfl h0)
  · first
      | exact wpAny_bind (wpAny_rule (wpAny_bind (wpAny_standAt (wpAny_bind (wpAny_mono h (fun it' s' h' => wpAny_pure (And.intro rfl h')) fun _ _ x => x)))))
      | (refine wpAny_bind (wpAny_rule ?_); show wpAny _ _ (standAt i1.pos >>= _) _ _ s; exact wpAny_bind (wpAny_standAt (wpAny_bind (wpAny_mono h (fun it' s' h' => wpAny_pure (And.intro rfl h')) fun _ _ x => x))))
end
section
variable {X : Cx}
def tDc2 (wi : TI) (g : TG) (tt : TT) (wi1 : TI) (g1 : TG) (tt1 : TT) (tk te : TE) (vs vs1 : List Nat) : TE := fun σ H Q => wi σ H fun J H1 => ∀ D, H1 D = none → ∃ W : Nat → Nat → Hp → Prop, (∃ m, W 0 m (upd H1 D (.dK []))) ∧ ∀ i m H, W i m H →
  (J.stop i H ∧ Q (.ref D) H) ∨ (J.go i H ∧ ∃ Nx : Hp → Prop, (∀ H', Nx H' → ∃ m', m' < m ∧ W (i + 1) m' H') ∧ ∀ x H', J.yld i H x H' → g x (wipe σ vs) H' fun σ2 H2 => wipe σ2 vs = wipe σ vs ∧ tt σ2 H2 fun b H3 =>
    if b = true then wi1 σ2 H3 fun J1 H4 => ∃ W1 : Nat → Nat → Hp → Prop, (∃ m, W1 0 m H4) ∧ ∀ j k H, W1 j k H →
      (J1.stop j H ∧ Nx H) ∨ (J1.go j H ∧ ∃ Nx1 : Hp → Prop, (∀ H', Nx1 H' → ∃ k', k' < k ∧ W1 (j + 1) k' H') ∧ ∀ x H', J1.yld j H x H' → g1 x (wipe σ2 vs1) H' fun σ3 H5 => wipe σ3 vs1 = wipe σ2 vs1 ∧ tt1 σ3 H5 fun b H6 =>
        if b = true then tk σ3 H6 fun y H7 => te σ3 H7 fun z H8 => ∃ kvs k, y = kV k ∧ H8 D = some (.dK kvs) ∧ kvs.length < sizeLine ∧ Nx1 (upd H8 D (.dK (putK kvs k z))) else Nx1 H6)
    else Nx H3)
theorem dc2_core {pins : List (Addr × Obj)} {s : Shared} {σ : L2.St} {H : Hp} {Q : VK} {kx vx tg iter tg1 iter1 : Expr} {ifs ifs1 : List Expr} {scope : Scope} {own : List (Str × Nat)} {vs1 : List Nat} {pos pos' : Pos} {wi wi1 : TI} {g g1 : TG} {tt tt1 : TT} {tk te : TE} {use : Option (Value → Sem Unit)} {Qf : Value → Shared → Prop}
    (hc : X.calm = true) (hN : X.N.Nodup) (I : Inv X pins σ H s) (hi : PI X tg iter wi) (ok : BlkOk X.N X.env.scope scope own) (hv : ∀ i ∈ vs1, i ∈ own.map (·.2))
    (hg : ∀ (s : Shared) (H : Hp) (C : Addr) (cl : List (Str × Addr)) (fp : List Addr), PG (X.blk s H scope (compEnvC scope cl C X.env) fp) tg g) (ht : ∀ (s : Shared) (H : Hp) (C : Addr) (cl : List (Str × Addr)) (fp : List Addr), PTs (X.blk s H scope (compEnvC scope cl C X.env) fp) ifs tt)
    (hk : ∀ (s : Shared) (H : Hp) (C : Addr) (cl : List (Str × Addr)) (fp : List Addr), PE (X.blk s H scope (compEnvC scope cl C X.env) fp) kx tk)
    (he : ∀ (s : Shared) (H : Hp) (C : Addr) (cl : List (Str × Addr)) (fp : List Addr), PE (X.blk s H scope (compEnvC scope cl C X.env) fp) vx te) (hs : ∀ x, foldedSetIterable iter X.env x = pure x)
    (hi1 : ∀ (s : Shared) (H : Hp) (C : Addr) (cl : List (Str × Addr)) (fp : List Addr), PI (X.blk s H scope (compEnvC scope cl C X.env) fp) tg1 iter1 wi1)
    (hg1 : ∀ (s : Shared) (H : Hp) (C : Addr) (cl : List (Str × Addr)) (fp : List Addr), PG (X.blk s H scope (compEnvC scope cl C X.env) fp) tg1 g1)
    (ht1 : ∀ (s : Shared) (H : Hp) (C : Addr) (cl : List (Str × Addr)) (fp : List Addr), PTs (X.blk s H scope (compEnvC scope cl C X.env) fp) ifs1 tt1)
    (hs1 : ∀ env x, foldedSetIterable iter1 env x = pure x)
    (h : tDc2 wi g tt wi1 g1 tt1 tk te (own.map (·.2)) vs1 σ H Q)
    (hRR : ∀ D C s' m H', Inv X pins σ H' s' → Q (.ref D) H' → s'.heap.Ns C m → FpOk X pins H' C → compPost (model X.prog X.w) X.A X.xe use Qf (.ref D) C (.ok .next) s') :
    wpAny (model X.prog X.w) X.A (comprehension (.DictComp kx vx [⟨tg, iter, ifs, 0⟩, ⟨tg1, iter1, ifs1, 0⟩] scope pos) scope X.env pos' newDict false (eval iter X.env) use) Qf X.xe s := by
  have hfree : ∀ y ∈ scope.names, y.2 = .free → ∃ c, X.env.cells.lookup y.1 = some c := fun y hy e => by
    rcases ok.free y hy e with k | k
    · exact I.ok.has _ (.inl k)
    · exact I.ok.has _ (.inr k)
  refine wpAny_comprehension_free (use := use) rfl hs (closure_ok hfree) ok.kind (fun y hy e => by rw [ok.uniq y hy, e])
    (thn (hi.run pins s σ H _ I h) fun xv s1 hx => thn hx fun itv s2 h2 => ?_)
  obtain ⟨it, fp, tn, J, H2, e, I2, T, st2, f2, q⟩ := h2
  subst e
  refine wpAny_newObj_type (newEnv_comp ?_)
  generalize hD : s2.heap.objs.size = D
  have hDn : H2 D = none := I2.hok.fresh (Nat.le_of_eq hD)
  obtain ⟨W, ⟨m0, w0⟩, turn⟩ := q D hDn
  -- the new list
  generalize hs3 : ({ s2 with heap := s2.heap.push { cls := .type "dict", data := .dict #[] } } : Shared) = s3
  have I3 : Inv X pins σ (upd H2 D (.dK [])) s3 := by
    rw [← hs3]
    refine I2.laid (t' := s2.toks) (fun b o e => Heap.get?_push_of_some _ e) (Nat.le_of_eq hD) ?_
    rw [← hD]
    exact dk_empty s2.heap I2.big
  have h3 : s3.heap = s2.heap.push { cls := .type "dict", data := .dict #[] } := by rw [← hs3]
  have sz : ∀ b ∈ fp, b < s2.heap.objs.size := fun b hb => by
    obtain ⟨o, e, _⟩ := T.obj _ _ st2 b hb
    exact Heap.lt_size e
  have f3 : ∀ b ∈ fp, FpOk X pins (upd H2 D (.dK [])) b ∧ b < s3.heap.objs.size := fun b hb => by
    have hlt := sz b hb
    refine ⟨⟨?_, (f2 b hb).2⟩, by rw [h3, Heap.size_push]; exact Nat.lt_succ_of_lt hlt⟩
    rw [upd_ne (by rw [← hD]; exact Nat.ne_of_lt hlt)]
    exact (f2 b hb).1
  have st3 : tn 0 s3.heap := T.keep _ _ _ st2 fun b _ o e => by rw [h3]; exact Heap.get?_push_of_some _ e
  have I4 := block_start I3 ok hN f3
  have pg := hg s3 (upd H2 D (.dK [])) s3.heap.objs.size (cellsFrom (s3.heap.objs.size + 1) scope.names (cloFrom X.env.cells scope.names [])) fp
  have pt := ht s3 (upd H2 D (.dK [])) s3.heap.objs.size (cellsFrom (s3.heap.objs.size + 1) scope.names (cloFrom X.env.cells scope.names [])) fp
  have pk := hk s3 (upd H2 D (.dK [])) s3.heap.objs.size (cellsFrom (s3.heap.objs.size + 1) scope.names (cloFrom X.env.cells scope.names [])) fp
  have pe := he s3 (upd H2 D (.dK [])) s3.heap.objs.size (cellsFrom (s3.heap.objs.size + 1) scope.names (cloFrom X.env.cells scope.names [])) fp
  have pi1 := hi1 s3 (upd H2 D (.dK [])) s3.heap.objs.size (cellsFrom (s3.heap.objs.size + 1) scope.names (cloFrom X.env.cells scope.names [])) fp
  have pg1 := hg1 s3 (upd H2 D (.dK [])) s3.heap.objs.size (cellsFrom (s3.heap.objs.size + 1) scope.names (cloFrom X.env.cells scope.names [])) fp
  have pt1 := ht1 s3 (upd H2 D (.dK [])) s3.heap.objs.size (cellsFrom (s3.heap.objs.size + 1) scope.names (cloFrom X.env.cells scope.names [])) fp
  show codeAny _ _ (.compStart (.DictComp kx vx [⟨tg, iter, ifs, 0⟩, ⟨tg1, iter1, ifs1, 0⟩] scope pos) 0 (.ref it) (.ref D) (compEnvC scope (cellsFrom (s3.heap.objs.size + 1) scope.names (cloFrom X.env.cells scope.names [])) s3.heap.objs.size X.env)) (compPost (model X.prog X.w) X.A X.xe use Qf (.ref D) s3.heap.objs.size) { s3 with heap := pushCells (s3.heap.push { cls := .type "dict", data := .dict #[] }) scope.names }
  have nfp : ∀ b ∈ fp, (upd H2 D (.dK [])) b = none := fun b hb => (f3 b hb).1.1
  generalize hce : compEnvC scope (cellsFrom (s3.heap.objs.size + 1) scope.names (cloFrom X.env.cells scope.names [])) s3.heap.objs.size X.env = ce at I4 pg pt pk pe pi1 pg1 pt1 ⊢
  have cL : ce.locals = s3.heap.objs.size := by subst hce; rfl
  generalize hH3 : upd H2 D (.dK []) = H3 at I3 I4 pg pt pk pe pi1 pg1 pt1 w0 nfp f3
  generalize hs4 : ({ s3 with heap := pushCells (s3.heap.push { cls := .type "dict", data := .dict #[] }) scope.names } : Shared) = s4 at I4 ⊢
  have st4 : tn 0 s4.heap := T.keep _ _ _ st3 fun b _ o e => by rw [← hs4]; exact pushCells_keeps _ _ _ _ (Heap.get?_push_of_some _ e)
  have stat : ∀ {σ' : L2.St} {H' : Hp} {s' : Shared}, Inv (X.blk s3 H3 scope ce fp) [] σ' H' s' → (∀ b ∈ fp, H' b = none) → ∀ b ∈ fp, FpOk (X.blk s3 H3 scope ce fp) [] H' b := fun {σ' H' s'} I' hn b hb =>
    ⟨hn b hb, (I'.ok.exf b hb).1, I'.ok.exfs b hb, .inl hb, fun x c e => (I'.ok.exf b hb).2 x c e, fun p hp => absurd (show p ∈ ([] : List (Addr × Obj)) ++ [] from hp) (by simp)⟩
  have loop : codeAny (model X.prog X.w) X.A (.compLoop (.DictComp kx vx [⟨tg, iter, ifs, 0⟩, ⟨tg1, iter1, ifs1, 0⟩] scope pos) 0 (.ref it) (.ref D) ce) (compPost (model X.prog X.w) X.A X.xe use Qf (.ref D) s3.heap.objs.size) s4 := by
    refine compLoopD2_out (hs1 ce) (fun n s' => ∃ i H', Inv (X.blk s3 H3 scope ce fp) [] (wipe σ (own.map (·.2))) H' s' ∧ tn i s'.heap ∧ (∀ b ∈ fp, H' b = none) ∧ W i n H') ?_ m0 ⟨0, H3, I4, st4, nfp, w0⟩
    rintro n s5 ⟨i, H5, I5, st5, n5, w5⟩
    rcases turn i n H5 w5 with ⟨stop, qq⟩ | ⟨go, Nx, hNx, step⟩
    · have td := T.done (X.blk s3 H3 scope ce fp) rfl rfl rfl hc i [] s5 _ H5 (fun _ _ => False) I5 (stat I5 n5) st5 stop
      refine thnF td fun r s6 ⟨hr, I6⟩ => ?_
      subst hr
      -- back in the def's context
      have I7 : Inv X pins σ H5 s6 := I3.call' (ch := fp) I6.os I6.base I6.hok I6.bare fun b hb => ⟨(f3 b hb).1.2.2.2.1, (f3 b hb).1.2.1, (f3 b hb).1.2.2.2.2.1, (f3 b hb).1.2.2.2.2.2⟩
      have nC : H5 s3.heap.objs.size = none := by
        have z : H5 ce.locals = none := I6.free
        rw [cL] at z
        exact z
      obtain ⟨m, hn, _⟩ := I6.loc
      have hn : s6.heap.Ns ce.locals m := hn
      rw [cL] at hn
      exact hRR D s3.heap.objs.size s6 m H5 I7 qq hn (I3.fpOk (Nat.le_refl _) nC)
    · have ti := T.item (X.blk s3 H3 scope ce fp) rfl rfl rfl hc i [] s5 _ H5 (fun _ _ => False) I5 (stat I5 n5) st5 go
      refine thnF ti fun r s6 ⟨u, hr, h6⟩ => ?_
      subst hr
      refine thnF h6 fun _ s7 ⟨x, H7, I7, r7, y7, st7, n7⟩ => ?_
      have I7' := I7.pinned (stat I7 n7) (T.obj _ _ st7)
      refine thnF (pg.run _ s7 _ H7 x u _ I7' r7 (step x H7 y7)) fun _ s8 ⟨σ8, H8, I8, hw8, q8⟩ => ?_
      refine thnF (pt.run _ s8 σ8 H8 _ I8 q8) fun b s9 ⟨H9, I9, q9⟩ => ?_
      -- the turn's end, from any slots that know what the block knew at its start
      have fin : ∀ {σ9 : L2.St} {s' : Shared} {H' : Hp}, Inv (X.blk s3 H3 scope ce fp) ([] ++ pinsAt fp s7.heap) σ9 H' s' → (wipe σ (own.map (·.2))).length = σ9.length → (∀ (j : Nat) v, (wipe σ (own.map (·.2)))[j]? = some (some v) → σ9[j]? = some (some v)) → Nx H' →
          ∃ m, m < n ∧ ∃ i H', Inv (X.blk s3 H3 scope ce fp) [] (wipe σ (own.map (·.2))) H' s' ∧ tn i s'.heap ∧ (∀ b ∈ fp, H' b = none) ∧ W i m H' := fun {σ9 s' H'} I' hl hk nx => by
        obtain ⟨m', hm, w'⟩ := hNx H' nx
        have pin' : ∀ b ∈ fp, ∀ o, s7.heap.get? b = some o → s'.heap.get? b = some o ∧ H' b = none := fun b hb o e =>
          let z := I'.pin (b, o) (List.mem_append_right _ (List.mem_append_right _ (mem_pinsAt hb e)))
          ⟨z.1, z.2.1⟩
        refine ⟨m', hm, i + 1, H', (I'.unpinned (pins := [])).weak hl hk, T.keep _ _ _ st7 fun b hb o e => (pin' b hb o e).1, fun b hb => ?_, w'⟩
        obtain ⟨o, e, _⟩ := T.obj _ _ st7 b hb
        exact (pin' b hb o e).2
      have hl8 : (wipe σ (own.map (·.2))).length = σ8.length := by rw [← hw8, wipe_length]
      have hk8 : ∀ (j : Nat) v, (wipe σ (own.map (·.2)))[j]? = some (some v) → σ8[j]? = some (some v) := fun j v e => by
        rw [← hw8] at e
        exact (wipe_some e).1
      have hk9 : ∀ (j : Nat) v, (wipe σ (own.map (·.2)))[j]? = some (some v) → (wipe σ8 vs1)[j]? = some (some v) := fun j v e => by
        rw [← hw8] at e
        obtain ⟨e1, e2⟩ := wipe_some e
        rw [wipe_out fun z => e2 (hv j z)]
        exact e1
      cases b with
      | false =>
        simp only [Bool.false_eq_true, if_false] at q9 ⊢
        exact fin I9 hl8 hk8 q9
      | true =>
        simp only [if_true] at q9 ⊢
        refine thnF (pi1.run _ s9 σ8 H9 _ I9 q9) fun xv s10 hx => thnF hx fun itv s11 h11 => ?_
        obtain ⟨it1, fp1, tn1, J1, H11, e1, I11, T1, st11, f11, W1, ⟨m1, w1⟩, turn1⟩ := h11
        subst e1
        -- the inner loop
        have stat1 : ∀ {H' : Hp}, (∀ b ∈ fp1, H' b = none) → ∀ b ∈ fp1, FpOk (X.blk s3 H3 scope ce fp) ([] ++ pinsAt fp s7.heap) H' b := fun hn b hb => ⟨hn b hb, (f11 b hb).2⟩
        have loop1 : codeAny (model X.prog X.w) X.A (.compLoop (.DictComp kx vx [⟨tg, iter, ifs, 0⟩, ⟨tg1, iter1, ifs1, 0⟩] scope pos) 1 (.ref it1) (.ref D) ce)
            (fun r s' => match r with
              | .ok _ => ∃ m, m < n ∧ ∃ i H', Inv (X.blk s3 H3 scope ce fp) [] (wipe σ (own.map (·.2))) H' s' ∧ tn i s'.heap ∧ (∀ b ∈ fp, H' b = none) ∧ W i m H'
              | .error _ => False) s11 := by
          refine compLoopD2_in (fun k s' => ∃ j H', Inv (X.blk s3 H3 scope ce fp) ([] ++ pinsAt fp s7.heap) (wipe σ8 vs1) H' s' ∧ tn1 j s'.heap ∧ (∀ b ∈ fp1, H' b = none) ∧ W1 j k H') ?_ m1 ⟨0, H11, I11.weak (wipe_length _ _) (fun j v e => (wipe_some e).1), st11, fun b hb => (f11 b hb).1, w1⟩
          rintro k s12 ⟨j, H12, I12, st12, n12, w12⟩
          rcases turn1 j k H12 w12 with ⟨stop1, nx1⟩ | ⟨go1, Nx1, hNx1, step1⟩
          · refine thnF (T1.done (X.blk s3 H3 scope ce fp) rfl rfl rfl hc j _ s12 (wipe σ8 vs1) H12 (fun _ _ => False) I12 (stat1 n12) st12 stop1) fun r s13 ⟨hr, I13⟩ => ?_
            subst hr
            exact fin I13 (hl8.trans (wipe_length σ8 vs1).symm) hk9 nx1
          · refine thnF (T1.item (X.blk s3 H3 scope ce fp) rfl rfl rfl hc j _ s12 (wipe σ8 vs1) H12 (fun _ _ => False) I12 (stat1 n12) st12 go1) fun r s13 ⟨u1, hr, h13⟩ => ?_
            subst hr
            refine thnF h13 fun _ s14 ⟨x1, H14, I14, r14, y14, st14, n14⟩ => ?_
            have I14' := I14.pinned (stat1 n14) (T1.obj _ _ st14)
            refine thnF (pg1.run _ s14 (wipe σ8 vs1) H14 x1 u1 _ I14' r14 (step1 x1 H14 y14)) fun _ s15 ⟨σ15, H15, I15, hw15, q15⟩ => ?_
            refine thnF (pt1.run _ s15 σ15 H15 _ I15 q15) fun b1 s16 ⟨H16, I16, q16⟩ => ?_
            have fin1 : ∀ {s' : Shared} {H' : Hp}, Inv (X.blk s3 H3 scope ce fp) (([] ++ pinsAt fp s7.heap) ++ pinsAt fp1 s14.heap) σ15 H' s' → Nx1 H' → ∃ m, m < k ∧ ∃ j H', Inv (X.blk s3 H3 scope ce fp) ([] ++ pinsAt fp s7.heap) (wipe σ8 vs1) H' s' ∧ tn1 j s'.heap ∧ (∀ b ∈ fp1, H' b = none) ∧ W1 j m H' := fun {s' H'} I' nx => by
              obtain ⟨m', hm, w'⟩ := hNx1 H' nx
              have pin' : ∀ b ∈ fp1, ∀ o, s14.heap.get? b = some o → s'.heap.get? b = some o ∧ H' b = none := fun b hb o e =>
                let z := I'.pin (b, o) (List.mem_append_right _ (List.mem_append_right _ (mem_pinsAt hb e)))
                ⟨z.1, z.2.1⟩
              refine ⟨m', hm, j + 1, H', I'.unpinned.weak (by rw [← hw15, wipe_length]) (fun j v e => by rw [← hw15] at e; exact (wipe_some e).1), T1.keep _ _ _ st14 fun b hb o e => (pin' b hb o e).1, fun b hb => ?_, w'⟩
              obtain ⟨o, e, _⟩ := T1.obj _ _ st14 b hb
              exact (pin' b hb o e).2
            cases b1 with
            | false =>
              simp only [Bool.false_eq_true, if_false] at q16 ⊢
              exact fin1 I16 q16
            | true =>
              simp only [if_true] at q16 ⊢
              refine thnF (pk.run _ s16 σ15 H16 _ I16 q16) fun zk s17 ⟨yk, H17, I17, r17, q17⟩ => ?_
              refine thnF (pe.run _ s17 σ15 H17 _ I17 q17) fun zv s18 ⟨yv, H18, I18, r18, kvs, k0, ek, hD18, hz18, nx⟩ => ?_
              subst ek
              exact d_dictSet (X := X.blk s3 H3 scope ce fp) I18 hD18 hz18 r17 r18 fun s19 I19 => fin1 I19 nx
        exact compStartD1_ok loop1 (T1.self X.A 0 _ _ _ st11 loop1)
  exact codeAny_compStart_dict loop (T.self X.A 0 _ _ _ st4 loop)
theorem pe_dc2 {kx vx tg iter tg1 iter1 : Expr} {ifs ifs1 : List Expr} {scope : Scope} {own : List (Str × Nat)} {vs1 : List Nat} {pos : Pos} {wi wi1 : TI} {g g1 : TG} {tt tt1 : TT} {tk te : TE} (hc : X.calm = true) (hN : X.N.Nodup) (hi : PI X tg iter wi) (ok : BlkOk X.N X.env.scope scope own) (hv : ∀ i ∈ vs1, i ∈ own.map (·.2))
    (hg : ∀ (s : Shared) (H : Hp) (C : Addr) (cl : List (Str × Addr)) (fp : List Addr), PG (X.blk s H scope (compEnvC scope cl C X.env) fp) tg g) (ht : ∀ (s : Shared) (H : Hp) (C : Addr) (cl : List (Str × Addr)) (fp : List Addr), PTs (X.blk s H scope (compEnvC scope cl C X.env) fp) ifs tt)
    (hi1 : ∀ (s : Shared) (H : Hp) (C : Addr) (cl : List (Str × Addr)) (fp : List Addr), PI (X.blk s H scope (compEnvC scope cl C X.env) fp) tg1 iter1 wi1)
    (hg1 : ∀ (s : Shared) (H : Hp) (C : Addr) (cl : List (Str × Addr)) (fp : List Addr), PG (X.blk s H scope (compEnvC scope cl C X.env) fp) tg1 g1) (ht1 : ∀ (s : Shared) (H : Hp) (C : Addr) (cl : List (Str × Addr)) (fp : List Addr), PTs (X.blk s H scope (compEnvC scope cl C X.env) fp) ifs1 tt1)
    (hk : ∀ (s : Shared) (H : Hp) (C : Addr) (cl : List (Str × Addr)) (fp : List Addr), PE (X.blk s H scope (compEnvC scope cl C X.env) fp) kx tk)
    (he : ∀ (s : Shared) (H : Hp) (C : Addr) (cl : List (Str × Addr)) (fp : List Addr), PE (X.blk s H scope (compEnvC scope cl C X.env) fp) vx te) (hs : ∀ x, foldedSetIterable iter X.env x = pure x := by intro _; rfl) (hs1 : ∀ env x, foldedSetIterable iter1 env x = pure x := by intro _ _; rfl) :
    PE X (.DictComp kx vx [⟨tg, iter, ifs, 0⟩, ⟨tg1, iter1, ifs1, 0⟩] scope pos) (tDc2 wi g tt wi1 g1 tt1 tk te (own.map (·.2)) vs1) := by
  refine ⟨fun pins s σ H Q I h => ?_⟩
  rw [arm_eval_DictComp]
  refine dc2_core hc hN I hi ok hv hg ht hk he hs hi1 hg1 ht1 hs1 h fun D C s' m H' I' q hn f => ⟨m, hn, fun h'' sb => ?_⟩
  obtain ⟨f0, f1, f2, f3, f4, f5⟩ := f
  exact ⟨.ref D, H', I'.turned (t' := s'.toks) (fun b o hb e => (sb.2 b hb).trans e) f0 f1 f3 f4 f5, rfl, q⟩
end
end PLD

set_option maxRecDepth 100000
set_option maxHeartbeats 4000000
namespace PL
open PySem PySem.Spec PyProof.Rows L2
set_option autoImplicit false

section
variable {X : Cx} {c : Ct} {W : WX} {own own' vs vs1 : List Nat} {m e ek ev : EM} {t t1 : TM} {g g1 : GM} {src src1 : LM} {k : Kd}
theorem compD2_nx {ρ : Env} {y : Nat} : ∀ (ds : List Dat) (acc : List (Dat × Dat)), compD2 g t src1 vs1 g1 t1 ek ev ρ ds acc ≠ .exc y
  | [], acc, h => by cases h
  | d :: r, acc, h => by
    unfold compD2 at h
    cases q1 : g d ρ with
    | exc z => rw [q1] at h; cases h
    | bad => rw [q1] at h; cases h
    | ok ρ1 =>
      rw [q1] at h
      simp only [noX, PL.R.bnd_ok] at h
      cases q2 : t ρ1 with
      | exc z => rw [q2] at h; cases h
      | bad => rw [q2] at h; cases h
      | ok b =>
        rw [q2] at h
        simp only [noX, PL.R.bnd_ok] at h
        cases b with
        | false => exact compD2_nx r acc h
        | true =>
          simp only [if_true] at h
          cases q3 : src1 ρ1 with
          | exc z => rw [q3] at h; cases h
          | bad => rw [q3] at h; cases h
          | ok ds1 =>
            rw [q3] at h
            simp only [noX, PL.R.bnd_ok] at h
            cases q4 : compD g1 t1 ek ev (PL.wipe ρ1 vs1) ds1 acc with
            | exc z => exact compD_nx ds1 acc q4
            | bad => rw [q4] at h; cases h
            | ok ys =>
              rw [q4] at h
              simp only [PL.R.bnd_ok] at h
              exact compD2_nx r ys h
theorem dc2_read {σ : St} {H : Hp} {Q : VK} (hd : ∀ j ∈ vs, j ∉ own) (hd1 : ∀ j ∈ vs1, j ∉ own) (h : qE c W own .new (eDComp2 src vs g t src1 vs1 g1 t1 ek ev) σ H Q) :
    PLD.tDc2 (qI c W own src) (qG c own own vs g) (qT c W0 own t) (qI c W0 own src1) (qG c own own vs1 g1) (qT c W0 own t1) (qE c W0 own .sh ek) (qE c W0 own .frz ev) vs vs1 σ H Q := by
  obtain ⟨Z, ρ, S, p⟩ := h
  refine ⟨Z, ρ, S, (Post.bnd p).imp (fun ds p1 J Z1 H1 x1 it D hD => ?_) fun _ q => q⟩
  have S1 := S.move x1
  have hl1 : Ext Z1 H1 Z1 (upd H1 D (.dK [])) := .laid x1.trk hD
  have nD1 : ¬ Z1 D := fun z => by
    obtain ⟨u, q⟩ := x1.trk D z
    rw [hD] at q; cases q
  cases hc : compD2 g t src1 vs1 g1 t1 ek ev (PL.wipe ρ vs) ds [] with
  | bad => rw [hc] at p1; exact p1.elim
  | exc y => exact absurd hc (compD2_nx _ _)
  | ok total =>
    rw [hc] at p1
    have p2 : ∀ v Z' H', Ext Z H Z' H' → Val c.K Z' H' H .new v (.dic total) → Q v H' := p1
    refine ⟨fun i mm H' => ∃ Z' ks acc, Ext Z1 H1 Z' H' ∧ ¬ Z' D ∧ H' D = some (.dK ks) ∧ RepD c.K Z' H' ks acc ∧ i + mm = ds.length ∧ compD2 g t src1 vs1 g1 t1 ek ev (PL.wipe ρ vs) (ds.drop i) acc = .ok total,
      ⟨ds.length, Z1, [], [], hl1, nD1, upd_same, .nil, by omega, by rw [List.drop_zero]; exact hc⟩, ?_⟩
    rintro i mm H' ⟨Z', ks, acc, x2, nD, hH, hr, hm, hcr⟩
    obtain ⟨h1, h2⟩ := it Z' H' x2.adv x2.trk i
    cases ed : ds[i]? with
    | none =>
      have hl : ds.length ≤ i := List.getElem?_eq_none_iff.mp ed
      rw [List.drop_of_length_le hl] at hcr
      cases hcr
      exact .inl ⟨h2 hl, p2 (.ref D) Z' H' (x1.trans x2) ⟨fun _ => ⟨D, rfl, nD, x1.same.free hD, ks, hH, hr⟩, fun z => by cases z⟩⟩
    | some d =>
      obtain ⟨hlt, hdd⟩ := List.getElem?_eq_some_iff.mp ed
      rw [List.drop_eq_getElem_cons hlt, hdd] at hcr
      obtain ⟨go, yld⟩ := h1 d ed
      refine .inr ⟨go, fun H3 => ∃ Z3 ks acc, Ext Z1 H1 Z3 H3 ∧ ¬ Z3 D ∧ H3 D = some (.dK ks) ∧ RepD c.K Z3 H3 ks acc ∧ compD2 g t src1 vs1 g1 t1 ek ev (PL.wipe ρ vs) (ds.drop (i + 1)) acc = .ok total,
        fun H3 ⟨Z3, ks3, acc3, q1, q2, q3, q4, q5⟩ => ⟨mm - 1, by omega, Z3, ks3, acc3, q1, q2, q3, q4, by omega, q5⟩, fun x H2 y => ?_⟩
      obtain ⟨Z2, xx, rx⟩ := yld x H2 y
      have S2 := ((S1.move x2).move xx).wipe (vs := vs) hd
      have nD2 : ¬ Z2 D := xx.not hH nD
      have hH2 := xx.same _ _ hH
      have hr2 := hr.adv xx.adv
      have x12 := x2.trans xx
      unfold compD2 at hcr
      have P0 : Post ((noX (g d (PL.wipe ρ vs))).bnd fun ρ' => (noX (t ρ')).bnd fun b => if b then (noX (src1 ρ')).bnd fun ds1 => (compD g1 t1 ek ev (PL.wipe ρ' vs1) ds1 acc).bnd fun acc' => compD2 g t src1 vs1 g1 t1 ek ev (PL.wipe ρ vs) (ds.drop (i + 1)) acc' else compD2 g t src1 vs1 g1 t1 ek ev (PL.wipe ρ vs) (ds.drop (i + 1)) acc) (fun z => z = total) (fun _ => False) := by
        rw [hcr]
        rfl
      refine ⟨Z2, PL.wipe ρ vs, d, S2, rx, (noX_post (Post.bnd P0)).imp (fun ρ1 P1 σ1 tch Sg => ⟨wipeS_eq tch, ?_⟩) fun _ q => q⟩
      refine ⟨Z2, ρ1, Sg, (noX_post (Post.bnd P1)).imp (fun b P2 Z4 H4 x4 => ?_) fun _ q => q.elim⟩
      cases b with
      | false =>
        simp only [Bool.false_eq_true, if_false] at P2 ⊢
        cases q : compD2 g t src1 vs1 g1 t1 ek ev (PL.wipe ρ vs) (ds.drop (i + 1)) acc with
        | ok r2 =>
          rw [q] at P2
          have P2 : r2 = total := P2
          subst P2
          exact ⟨Z4, ks, acc, x12.trans x4, x4.not hH2 nD2, x4.same _ _ hH2, hr2.adv x4.adv, q⟩
        | exc z => rw [q] at P2; exact P2.elim
        | bad => rw [q] at P2; exact P2.elim
      | true =>
        simp only [if_true] at P2 ⊢
        have Sg4 := Sg.move x4
        refine ⟨Z4, ρ1, Sg4, (noX_post (Post.bnd P2)).imp (fun ds1 P3 J1 Z5 H5 x5 it1 => ?_) fun _ q => q.elim⟩
        have P3 := Post.bnd P3
        cases hc1 : compD g1 t1 ek ev (PL.wipe ρ1 vs1) ds1 acc with
        | bad => rw [hc1] at P3; exact P3.elim
        | exc z => rw [hc1] at P3; exact P3.elim
        | ok inn =>
          rw [hc1] at P3
          have P3 : Post (compD2 g t src1 vs1 g1 t1 ek ev (PL.wipe ρ vs) (ds.drop (i + 1)) inn) (fun z => z = total) (fun _ => False) := P3
          cases hc2 : compD2 g t src1 vs1 g1 t1 ek ev (PL.wipe ρ vs) (ds.drop (i + 1)) inn with
          | bad => rw [hc2] at P3; exact P3.elim
          | exc z => rw [hc2] at P3; exact P3.elim
          | ok zs =>
            rw [hc2] at P3
            have P3 : zs = total := P3
            subst P3
            have Sg5 := Sg4.move x5
            have x45 := x4.trans x5
            have hH5 := x45.same _ _ hH2
            have nD5 := x45.not hH2 nD2
            have hr5 := hr2.adv x45.adv
            have x15 := x12.trans x45
            refine ⟨fun j kk H6 => ∃ Z6 ks6 acc6, Ext Z5 H5 Z6 (upd H6 D (.dK ks)) ∧ Ext Z1 H1 Z6 H6 ∧ Adv Z5 H5 Z6 H6 ∧ ¬ Z6 D ∧ H6 D = some (.dK ks6) ∧ RepD c.K Z6 H6 ks6 acc6 ∧ j + kk = ds1.length ∧ compD g1 t1 ek ev (PL.wipe ρ1 vs1) (ds1.drop j) acc6 = .ok inn,
              ⟨ds1.length, Z5, ks, acc, ?_, x15, .refl, nD5, hH5, hr5, by omega, by rw [List.drop_zero]; exact hc1⟩, ?_⟩
            · rw [show upd H5 D (.dK ks) = H5 from funext fun b => by
                by_cases hb : b = D
                · rw [hb, upd_same, hH5]
                · rw [upd_ne hb]]
              exact .refl Sg5.trk
            · rintro j kk H6 ⟨Z6, ks6, acc6, xe, x16, ad6, nD6, hH6, hr6, hm6, hc6⟩
              have nd : ∀ j ∈ own, σ1[j]? ≠ some (some (.ref D)) := fun j hj q => by
                have e1 : σ1[j]? = (L2.wipe σ vs)[j]? := tch.2 j fun hv => hd j hv hj
                rw [e1, wipeS_get, if_neg fun z => hd j z.1 hj] at q
                obtain ⟨a, d0, _, q2, _, _, tp⟩ := S1.ow j hj
                rw [q] at q2
                cases q2
                obtain ⟨o, ho⟩ := tp.there
                rw [hD] at ho
                cases ho
              have keep6 : ∀ a o, a ≠ D → H5 a = some o → H6 a = some o := fun a o hne q => by
                have := xe.same a o q
                rw [upd_ne hne] at this
                exact this
              have S6 : SE c own Z6 H6 σ1 ρ1 := Sg5.past (D := D) ad6 (S1.ext.trans x16) keep6 (fun a o q n z => by
                rcases xe.new a z with z | z
                · exact n z
                · rw [q] at z; cases z) nd
              obtain ⟨k1, k2⟩ := it1 Z6 H6 ad6 S6.trk j
              cases ej : ds1[j]? with
              | none =>
                have hl : ds1.length ≤ j := List.getElem?_eq_none_iff.mp ej
                rw [List.drop_of_length_le hl] at hc6
                cases hc6
                exact .inl ⟨k2 hl, Z6, ks6, _, x16, nD6, hH6, hr6, hc2⟩
              | some d1 =>
                obtain ⟨hlt1, hdd1⟩ := List.getElem?_eq_some_iff.mp ej
                rw [List.drop_eq_getElem_cons hlt1, hdd1] at hc6
                obtain ⟨go1, yld1⟩ := k1 d1 ej
                refine .inr ⟨go1, fun H7 => ∃ Z7 ks7 acc7, Ext Z5 H5 Z7 (upd H7 D (.dK ks)) ∧ Ext Z1 H1 Z7 H7 ∧ Adv Z5 H5 Z7 H7 ∧ ¬ Z7 D ∧ H7 D = some (.dK ks7) ∧ RepD c.K Z7 H7 ks7 acc7 ∧ compD g1 t1 ek ev (PL.wipe ρ1 vs1) (ds1.drop (j + 1)) acc7 = .ok inn,
                  fun H7 ⟨Z7, ks7, acc7, q1, q2, q3, q4, q5, q6, q7⟩ => ⟨kk - 1, by omega, Z7, ks7, acc7, q1, q2, q3, q4, q5, q6, by omega, q7⟩, fun x7 H7 y7 => ?_⟩
                obtain ⟨Z7, xx7, rx7⟩ := yld1 x7 H7 y7
                have S7 := (S6.move xx7).wipe (vs := vs1) hd1
                unfold compD at hc6
                have P0' : Post ((noX (g1 d1 (PL.wipe ρ1 vs1))).bnd fun ρ' => (noX (t1 ρ')).bnd fun b => if b then (noX (ek ρ')).bnd fun k => (noX (ev ρ')).bnd fun v => if isKey k ∧ acc6.length < LINE then compD g1 t1 ek ev (PL.wipe ρ1 vs1) (ds1.drop (j + 1)) (dicPut acc6 k v) else .bad else compD g1 t1 ek ev (PL.wipe ρ1 vs1) (ds1.drop (j + 1)) acc6) (fun z => z = inn) (fun _ => False) := by
                  rw [hc6]
                  rfl
                refine ⟨Z7, PL.wipe ρ1 vs1, d1, S7, rx7, (noX_post (Post.bnd P0')).imp (fun ρ2 P1' σ2 tch2 Sg2 => ⟨wipeS_eq tch2, ?_⟩) fun _ q => q⟩
                refine ⟨Z7, ρ2, Sg2, (noX_post (Post.bnd P1')).imp (fun b P2' Z8 H8 x8 => ?_) fun _ q => q.elim⟩
                have x68 := xx7.trans x8
                have hH8 := x68.same _ _ hH6
                have nD8 := x68.not hH6 nD6
                cases b with
                | false =>
                  simp only [Bool.false_eq_true, if_false] at P2' ⊢
                  cases q : compD g1 t1 ek ev (PL.wipe ρ1 vs1) (ds1.drop (j + 1)) acc6 with
                  | ok r2 =>
                    rw [q] at P2'
                    have P2' : r2 = inn := P2'
                    subst P2'
                    exact ⟨Z8, ks6, acc6, xe.under x68 hH6, x16.trans x68, ad6.trans x68.adv, nD8, hH8, hr6.adv x68.adv, q⟩
                  | exc z => rw [q] at P2'; exact P2'.elim
                  | bad => rw [q] at P2'; exact P2'.elim
                | true =>
                  simp only [if_true] at P2' ⊢
                  refine ⟨Z8, ρ2, Sg2.move x8, (noX_post (Post.bnd P2')).imp (fun y1 P3' v Z9 H9 x9 hv => ?_) fun _ q => q.elim⟩
                  refine ⟨Z9, ρ2, (Sg2.move x8).move x9, (noX_post (Post.bnd P3')).imp (fun y2 P4' w Z10 H10 x10 hw => ?_) fun _ q => q.elim⟩
                  by_cases hk : isKey y1 = true ∧ acc6.length < LINE
                  · rw [if_pos hk] at P4'
                    cases q : compD g1 t1 ek ev (PL.wipe ρ1 vs1) (ds1.drop (j + 1)) (dicPut acc6 y1 y2) with
                    | ok r2 =>
                      rw [q] at P4'
                      have P4' : r2 = inn := P4'
                      subst P4'
                      obtain ⟨k9, rfl, rfl, ok9⟩ := kv_rep hv hk.1
                      have x610 := (x68.trans x9).trans x10
                      have hH10 := x610.same _ _ hH6
                      have nD10 := x610.not hH6 nD6
                      refine ⟨ks6, k9, rfl, hH10, by rw [hr6.len, ← line_eq]; exact hk.2, Z10, putK ks6 k9 w, dicPut acc6 (kD k9) y2, ?_, (x16.trans x610).chg hD nD10, (ad6.trans x610.adv).trans (.chg nD10), nD10, upd_same, (dic_put hw ok9 (hr6.adv x610.adv)).adv (.chg nD10), q⟩
                      have u2 : upd (upd H10 D (.dK (putK ks6 k9 w))) D (.dK ks) = upd H10 D (.dK ks) := funext fun b => by
                        by_cases hb : b = D
                        · rw [hb, upd_same, upd_same]
                        · rw [upd_ne hb, upd_ne hb, upd_ne hb]
                      rw [u2]
                      exact xe.under x610 hH6
                    | exc z => rw [q] at P4'; exact P4'.elim
                    | bad => rw [q] at P4'; exact P4'.elim
                  · rw [if_neg hk] at P4'
                    exact P4'.elim
section
variable {N : List Str} {visB locB : List Nat} {glsB : List Str} {vis loc : List Nat} {gls : List Str} {kx vx tg iter tg1 iter1 : Expr} {ifs ifs1 : List Expr} {scope : Scope} {ob : List (Str × Nat)} {pos spos py : Pos} {i : Nat} {x : Str} {ownL : List Nat}
theorem xDc2 (V : Scp X vis loc gls) (hc : X.calm = true) (hi : PI X tg iter (qI c W own src)) (ok : BlkOk X.N X.env.scope scope ob) (hv : ob.map (·.2) = vs) (hv1 : vs1.all (fun j => vs.contains j) = true) (hd : vs.all (fun j => own.all (· != j)) = true) (hV : scpC N scope visB locB glsB = true) (hNN : X.N = N)
    (hg : ∀ (s : Shared) (H : Hp) (C : Addr) (cl : List (Str × Addr)) (fp : List Addr), Scp (X.blk s H scope (compEnvC scope cl C X.env) fp) visB locB glsB → PG (X.blk s H scope (compEnvC scope cl C X.env) fp) tg (qG c own own vs g))
    (ht : ∀ (s : Shared) (H : Hp) (C : Addr) (cl : List (Str × Addr)) (fp : List Addr), Scp (X.blk s H scope (compEnvC scope cl C X.env) fp) visB locB glsB → PTs (X.blk s H scope (compEnvC scope cl C X.env) fp) ifs (qT c W0 own t))
    (hi1 : ∀ (s : Shared) (H : Hp) (C : Addr) (cl : List (Str × Addr)) (fp : List Addr), Scp (X.blk s H scope (compEnvC scope cl C X.env) fp) visB locB glsB → PI (X.blk s H scope (compEnvC scope cl C X.env) fp) tg1 iter1 (qI c W0 own src1))
    (hg1 : ∀ (s : Shared) (H : Hp) (C : Addr) (cl : List (Str × Addr)) (fp : List Addr), Scp (X.blk s H scope (compEnvC scope cl C X.env) fp) visB locB glsB → PG (X.blk s H scope (compEnvC scope cl C X.env) fp) tg1 (qG c own own vs1 g1))
    (ht1 : ∀ (s : Shared) (H : Hp) (C : Addr) (cl : List (Str × Addr)) (fp : List Addr), Scp (X.blk s H scope (compEnvC scope cl C X.env) fp) visB locB glsB → PTs (X.blk s H scope (compEnvC scope cl C X.env) fp) ifs1 (qT c W0 own t1))
    (hk : ∀ (s : Shared) (H : Hp) (C : Addr) (cl : List (Str × Addr)) (fp : List Addr), Scp (X.blk s H scope (compEnvC scope cl C X.env) fp) visB locB glsB → PE (X.blk s H scope (compEnvC scope cl C X.env) fp) kx (qE c W0 own .sh ek))
    (he : ∀ (s : Shared) (H : Hp) (C : Addr) (cl : List (Str × Addr)) (fp : List Addr), Scp (X.blk s H scope (compEnvC scope cl C X.env) fp) visB locB glsB → PE (X.blk s H scope (compEnvC scope cl C X.env) fp) vx (qE c W0 own .frz ev))
    (hs : ∀ x, foldedSetIterable iter X.env x = pure x := by intro _; rfl) (hs1 : ∀ env x, foldedSetIterable iter1 env x = pure x := by intro _ _; rfl) :
    PE X (.DictComp kx vx [⟨tg, iter, ifs, 0⟩, ⟨tg1, iter1, ifs1, 0⟩] scope pos) (qE c W own .new (eDComp2 src vs g t src1 vs1 g1 t1 ek ev)) := by
  have sub : ∀ j ∈ vs1, j ∈ vs := fun j hj => by simpa using List.all_eq_true.mp hv1 j hj
  have h := PLD.pe_dc2 (pos := pos) (vs1 := vs1) hc V.nd hi ok (by rw [hv]; exact sub) (fun s H C cl fp => hg s H C cl fp (scp_blk hV hNN)) (fun s H C cl fp => ht s H C cl fp (scp_blk hV hNN)) (fun s H C cl fp => hi1 s H C cl fp (scp_blk hV hNN)) (fun s H C cl fp => hg1 s H C cl fp (scp_blk hV hNN)) (fun s H C cl fp => ht1 s H C cl fp (scp_blk hV hNN)) (fun s H C cl fp => hk s H C cl fp (scp_blk hV hNN)) (fun s H C cl fp => he s H C cl fp (scp_blk hV hNN)) hs hs1
  rw [hv] at h
  have d := own_all hd
  exact h.imp fun σ H Q hq => dc2_read d (fun j hj => d j (sub j hj)) hq
end
end
end PL

set_option maxRecDepth 100000
set_option maxHeartbeats 4000000
namespace PL
open PySem PySem.Spec PyProof.Rows L2
set_option autoImplicit false
section
variable {X : Cx} {vis loc : List Nat} {gls : List Str} {c : Ct} {W : WX} {own own' : List Nat} {pos p : Pos}
theorem xIsV {A : Addr} {oe : Obj} {pn : List (Addr × Obj)} {y : Nat} {xe : Str} {pe' pc : Pos} {sub : Nat → Nat → Bool} (i j jc : Nat) (V : Scp (X.suite A ((A, oe) :: pn)) vis loc gls) (hx : c.xs = some (i, A, y)) (hz : Zc (.ref (c.EC y)) none oe) (hf : ∃ vs, oe.data = .fields vs) (Er : Errs X.K c.EC sub)
    (hi : i ∈ vis) (hN : X.N[i]? = some xe) (hj : gls[j]? = some ("isinstance" : Str)) (hm : X.mg "isinstance" = none) (hjc : gls[jc]? = some ("ValueError" : Str)) (hmc : X.mg "ValueError" = none)
    (hs : starEach (.Name xe pe' :: [.Name "ValueError" pc]) X.env = (false, eval (.Name xe pe') X.env) :: starEach [.Name "ValueError" pc] X.env := by rfl) (hs2 : starEach (.Name "ValueError" pc :: []) X.env = (false, eval (.Name "ValueError" pc) X.env) :: starEach [] X.env := by rfl) (hpl : (backTo pos (starEach [.Name "ValueError" pc] X.env)).any (·.1) = false := by rfl) :
    PE (X.suite A ((A, oe) :: pn)) (.Call (.Name "isinstance" p) [.Name xe pe', .Name "ValueError" pc] [] pos) (qE c W own .new (e1 isVE (eV i))) := by
  have h1 : PE (X.suite A ((A, oe) :: pn)) (.Name xe pe') (tVar i) := pe_var hN (V.vis i hi xe hN).1 (V.vis i hi xe hN).2.1 (V.vis i hi xe hN).2.2
  have h2 : PE (X.suite A ((A, oe) :: pn)) (.Name "ValueError" pc) (tC (.ty "ValueError")) := pe_bltn (V.gl jc _ hjc).1 hmc (by decide +kernel) rfl (V.gl jc _ hjc).2.2 (V.gl jc _ hjc).2.1
  refine (pe_callB (call_isE (pn := pn) (Er.cls y) hz hf) (V.gl j _ hj).1 hm boot_isinstance (pa_cons h1 (pa_cons h2 pa_nil hs2) hs) (by decide) (by decide) hs hpl).imp fun σ H Q ⟨Z, ρ, S, p⟩ => ?_
  have p := Post.bnd p
  unfold eV at p
  cases e : ρ[i]? with
  | none => rw [e] at p; exact p.elim
  | some od =>
    cases od with
    | none => rw [e] at p; exact p.elim
    | some d =>
      rw [e] at p
      cases d with
      | exc y' =>
        obtain ⟨A', q1, q2⟩ := S.exc i y' e
        rw [hx] at q1
        cases q1
        have p : ∀ v Z' H', Ext Z H Z' H' → Val c.K Z' H' H .new v (.bl true) → Q v H' := p
        exact ⟨_, q2, .ty "ValueError", .type "ValueError", true, rfl, fun u r => r, Er.ve y, p _ Z H (.refl S.trk) (Rep.kd .new (.bl _) rfl)⟩
      | _ => exact p.elim
end
end PL

set_option maxRecDepth 100000
set_option maxHeartbeats 4000000
namespace PL
open PySem PySem.Spec PyProof.Rows L2
set_option autoImplicit false
section
variable {K : KF} {Z Z2 : ZS} {H H2 : Hp} {p : Addr} {u : HO}
theorem Rd.off {a : Addr} {x : HO} (n : a ≠ p) (h : Rd H a x) : Rd (upd H p u) a x := by
  rcases h with h | ⟨o, h⟩
  · exact .inl (by rw [upd_ne n]; exact h)
  · exact .inr ⟨o, by rw [upd_ne n]; exact h⟩
mutual
theorem Rep.off (hl : ∀ xs, ¬ Rd H p (.lst xs)) (ht : ∀ xs, ¬ Rd H p (.tup xs)) : ∀ {v : V} {d : Dat}, (nodic d = true ∨ ∀ ks, H p ≠ some (.dK ks)) → Rep K Z H v d → Rep K Z (upd H p u) v d
  | _, _, _, .non => .non
  | _, _, _, .bl b => .bl b
  | _, _, _, .int i => .int i
  | _, _, _, .str s h => .str s h
  | _, _, h, .lst z e r => .lst z (Rd.off (fun q => hl _ (q ▸ e)) e) (RepA.off hl ht (h.imp (fun q => by unfold nodic at q; exact q) id) r)
  | _, _, h, .lstK k r => .lstK k (RepA.off hl ht (h.imp (fun q => by unfold nodic at q; exact q) id) r)
  | _, _, h, .tup z e r => .tup z (Rd.off (fun q => ht _ (q ▸ e)) e) (RepA.off hl ht (h.imp (fun q => by unfold nodic at q; exact q) id) r)
  | _, _, h, .tupK k r => .tupK k (RepA.off hl ht (h.imp (fun q => by unfold nodic at q; exact q) id) r)
  | _, _, h, .dic z e r => by
    rcases h with h | h
    · unfold nodic at h; cases h
    · exact .dic z (by rw [upd_ne (fun q => h _ (q ▸ e))]; exact e) (RepD.off hl ht h r)
theorem RepA.off (hl : ∀ xs, ¬ Rd H p (.lst xs)) (ht : ∀ xs, ¬ Rd H p (.tup xs)) : ∀ {v : List V} {d : List Dat}, (nodicL d = true ∨ ∀ ks, H p ≠ some (.dK ks)) → RepA K Z H v d → RepA K Z (upd H p u) v d
  | _, _, _, .nil => .nil
  | _, _, h, .cons q r => .cons (Rep.off hl ht (h.imp (fun q => by unfold nodicL at q; rw [Bool.and_eq_true] at q; exact q.1) id) q) (RepA.off hl ht (h.imp (fun q => by unfold nodicL at q; rw [Bool.and_eq_true] at q; exact q.2) id) r)
theorem RepD.off (hl : ∀ xs, ¬ Rd H p (.lst xs)) (ht : ∀ xs, ¬ Rd H p (.tup xs)) : ∀ {v : List (Key × V)} {d : List (Dat × Dat)}, (∀ ks, H p ≠ some (.dK ks)) → RepD K Z H v d → RepD K Z (upd H p u) v d
  | _, _, _, .nil => .nil
  | _, _, h, .cons o q r => .cons o (Rep.off hl ht (.inr h) q) (RepD.off hl ht h r)
end
theorem Top.off {a : Addr} {d : Dat} (n : a ≠ p) (hl : ∀ xs, ¬ Rd H p (.lst xs)) (ht : ∀ xs, ¬ Rd H p (.tup xs)) (h : nodic d = true ∨ ∀ ks, H p ≠ some (.dK ks)) (t : Top K Z H a d) : Top K Z (upd H p u) a d := by
  cases d with
  | lst ds => obtain ⟨xs, e, r⟩ := t; exact ⟨xs, by rw [upd_ne n]; exact e, r.off hl ht (h.imp (fun q => by unfold nodic at q; exact q) id)⟩
  | dic kvs =>
    obtain ⟨ks, e, r⟩ := t
    rcases h with h | h
    · unfold nodic at h; cases h
    · exact ⟨ks, by rw [upd_ne n]; exact e, r.off hl ht h⟩
  | _ => exact t.elim
end
def er (H : Hp) (p : Addr) : Hp := fun b => if b = p then none else H b
/-- the context while the dict at p is locked -/
def cLk (c : Ct) (p : Addr) : Ct := { c with Z0 := Zadd c.Z0 p, H0 := er c.H0 p }
section
variable {c : Ct} {own : List Nat} {Z Z2 : ZS} {H H2 : Hp} {σ : St} {ρ : Env} {p : Addr} {ks : List (Key × V)} {od : Obj} {k : Kd} {v : V} {d : Dat}
theorem nl_dK (h : H p = some (.dK ks)) : (∀ xs, ¬ Rd H p (.lst xs)) ∧ ∀ xs, ¬ Rd H p (.tup xs) := by
  refine ⟨fun xs q => ?_, fun xs q => ?_⟩ <;> rcases q with q | ⟨o, q⟩ <;> rw [h] at q <;> cases q
theorem nl_frz (h : H p = some (.frz od (.dK ks))) : (∀ xs, ¬ Rd H p (.lst xs)) ∧ (∀ xs, ¬ Rd H p (.tup xs)) ∧ ∀ k2, H p ≠ some (.dK k2) := by
  refine ⟨fun xs q => ?_, fun xs q => ?_, fun k2 q => ?_⟩
  · rcases q with q | ⟨o, q⟩ <;> rw [h] at q <;> cases q
  · rcases q with q | ⟨o, q⟩ <;> rw [h] at q <;> cases q
  · rw [h] at q; cases q
theorem shut_get (ρ : Env) (i : Nat) : (shutD ρ)[i]? = (ρ[i]?).map shutO := by unfold shutD; rw [List.getElem?_map]
theorem shut_some {i : Nat} (h : (shutD ρ)[i]? = some (some d)) : ρ[i]? = some (some d) ∧ nodic d = true := by
  rw [shut_get] at h
  obtain ⟨o, e, q⟩ := Option.map_eq_some_iff.mp h
  cases o with
  | none => cases q
  | some x =>
    have q : (if nodic x = true then some x else none) = some d := q
    by_cases hn : nodic x = true
    · rw [if_pos hn] at q
      cases q
      exact ⟨e, hn⟩
    · rw [if_neg hn] at q
      cases q
theorem SE.lock (S : SE c own Z H σ ρ) (zp : Z p) (hp : H p = some (.dK ks)) (ho : ownNd own ρ = true) : SE (cLk c p) own Z (upd H p (.frz od (.dK ks))) σ (shutD ρ) where
  ext := by
    refine ⟨fun a z => ?_, fun a o e => ?_, fun a z => ?_, fun a z => ?_⟩
    · rcases z with z | z
      · exact S.ext.sub a z
      · rw [z]; exact zp
    · have e : er c.H0 p a = some o := e
      unfold er at e
      split at e
      · cases e
      · rename_i n
        rw [upd_ne n]
        exact S.ext.same a o e
    · by_cases q : a = p
      · exact ⟨_, by rw [q, upd_same]⟩
      · rw [upd_ne q]; exact S.ext.trk a z
    · by_cases q : a = p
      · exact .inl (.inr q)
      · rcases S.ext.new a z with w | w
        · exact .inl (.inl w)
        · refine .inr ?_
          show er c.H0 p a = none
          unfold er
          rw [if_neg q]
          exact w
  len := by unfold shutD; rw [List.length_map]; exact S.len
  val := fun i d e n nx => by
    obtain ⟨e1, e2⟩ := shut_some e
    obtain ⟨v, h, r⟩ := S.val i d e1 n nx
    obtain ⟨a1, a2⟩ := nl_dK hp
    exact ⟨v, h, r.off a1 a2 (.inl e2)⟩
  exc := fun i x e => S.exc i x (shut_some e).1
  ow := fun i hi => by
    obtain ⟨a, d, e1, e2, nz, h0, t⟩ := S.ow i hi
    have hn : nodic d = true := by
      unfold ownNd at ho
      have := List.all_eq_true.mp ho i hi
      rw [e1] at this
      exact this
    have np : a ≠ p := fun q => nz (q ▸ zp)
    obtain ⟨a1, a2⟩ := nl_dK hp
    refine ⟨a, d, ?_, e2, nz, ?_, t.off np a1 a2 (.inl hn)⟩
    · rw [shut_get, e1]
      show some (if nodic d = true then some d else none) = _
      rw [if_pos hn]
    · show er c.H0 p a = none
      unfold er
      rw [if_neg np]
      exact h0
  inj := S.inj
theorem Ext.unlock (hp : H p = some (.dK ks)) (x : Ext Z (upd H p (.frz od (.dK ks))) Z2 H2) : Ext Z H Z2 (upd H2 p (.dK ks)) := by
  refine ⟨x.sub, fun a o e => ?_, fun a z => ?_, fun a z => ?_⟩
  · by_cases q : a = p
    · subst q
      rw [upd_same, ← hp]
      exact e
    · rw [upd_ne q]
      exact x.same a o (by rw [upd_ne q]; exact e)
  · by_cases q : a = p
    · exact ⟨_, by rw [q, upd_same]⟩
    · rw [upd_ne q]; exact x.trk a z
  · rcases x.new a z with w | w
    · exact .inl w
    · by_cases q : a = p
      · rw [q, upd_same] at w; cases w
      · rw [upd_ne q] at w; exact .inr w
theorem Val.unlock (hp : H p = some (.dK ks)) (h2 : H2 p = some (.frz od (.dK ks))) (h : Val c.K Z2 H2 (upd H p (.frz od (.dK ks))) .new v d) : Val c.K Z2 (upd H2 p (.dK ks)) H .new v d := by
  obtain ⟨a1, a2, a3⟩ := nl_frz h2
  refine ⟨fun b => ?_, fun b => (h.2 b).off a1 a2 (.inr a3)⟩
  obtain ⟨a, e, n, q, t⟩ := h.1 b
  have np : a ≠ p := fun z => by rw [z, upd_same] at q; cases q
  exact ⟨a, e, n, by rw [upd_ne np] at q; exact q, t.off np a1 a2 (.inr a3)⟩
theorem itk_ok {K : KF} {kvs : List (Dat × Dat)} (zp : Z p) (hp : H p = some (.frz od (.dK ks))) (hk : ∀ (i : Nat) (x : Dat), (kvs.map (·.1))[i]? = some x → ∃ (key : Key) (u : V), ks[i]? = some (key, u) ∧ x = kD key ∧ okK key) (hl : ks.length = kvs.length) : ItOk K (Itk p od ks) Z H (kvs.map (·.1)) := fun Z1 H1 ad t i => by
  have h1 : H1 p = some (.frz od (.dK ks)) := (ad p zp).2 _ hp
  refine ⟨fun d e => ?_, fun h => ⟨h1, by rw [List.length_map] at h; omega⟩⟩
  obtain ⟨key, u, e1, rfl, o⟩ := hk i d e
  refine ⟨⟨h1, (List.getElem?_eq_some_iff.mp e1).1⟩, fun x H2 y => ?_⟩
  obtain ⟨rfl, k2, v2, e2, rfl⟩ := y
  rw [e1] at e2
  cases e2
  refine ⟨Z1, .refl t, ?_⟩
  cases key with
  | inl z => exact .int z
  | inr s => exact .str s o
theorem RepD.keys {K : KF} : ∀ {ks : List (Key × V)} {kvs : List (Dat × Dat)}, RepD K Z H ks kvs → ∀ (i : Nat) (x : Dat), (kvs.map (·.1))[i]? = some x → ∃ (key : Key) (u : V), ks[i]? = some (key, u) ∧ x = kD key ∧ okK key
  | _, _, .nil, i, x, e => by simp at e
  | _, _, .cons o r t, 0, x, e => by
    simp at e
    subst e
    exact ⟨_, _, rfl, rfl, o⟩
  | _, _, .cons o r t, i + 1, x, e => by
    obtain ⟨key, u, h⟩ := RepD.keys t i x (by simpa using e)
    exact ⟨key, u, by simpa using h⟩
end
section
variable {X : Cx} {c : Ct} {W : WX} {own vs : List Nat} {elt tg : Expr} {ifs : List Expr} {scope : Scope} {ob : List (Str × Nat)} {pos pi : Pos} {m : EM} {t : TM} {g : GM} {i : Nat} {x : Str}
theorem eCompK_dic {ρ : Env} {kvs : List (Dat × Dat)} (h : eV i ρ = .ok (.dic kvs)) : eCompK i own vs g t m ρ = if (own.all (fun j => j != i) && ownNd own ρ) = true then eComp (fun _ => .ok (kvs.map (·.1))) vs g t m (shutD ρ) else .bad := by
  unfold eCompK
  rw [h]
theorem eCompK_else {ρ : Env} (h : ∀ kvs, eV i ρ ≠ .ok (.dic kvs)) : eCompK i own vs g t m ρ = eComp (iOf (eV i)) vs g t m ρ := by
  unfold eCompK
  split
  · rename_i kvs q
    exact absurd q (h kvs)
  · rfl
theorem eCompC_nx {ρ : Env} {ds : List Dat} {y : Nat} : eComp (fun _ => .ok ds) vs g t m ρ ≠ .exc y := by
  unfold eComp
  simp only [PL.R.bnd_ok]
  intro q
  cases w : compL g t m (PL.wipe ρ vs) ds with
  | bad => rw [w] at q; cases q
  | exc z => exact compL_nx ds w
  | ok ys =>
    rw [w] at q
    simp only [PL.R.bnd_ok] at q
    split at q <;> cases q
theorem q_lcK (hcK : c.K = X.K) (hc : X.calm = true) (hN : X.N.Nodup) (hn : c.xs.all (fun p => p.1 != i) = true) (hio : i ∉ own) (hNi : X.N[i]? = some x) (hv : Vis X.env.scope x) (hdb : (x == ("__debug__" : Str)) = false) (hcd : (x == ("__classdict__" : Str)) = false) (ok : BlkOk X.N X.env.scope scope ob) (hvs : ob.map (·.2) = vs) (hd : ∀ j ∈ vs, j ∉ own)
    (hg : ∀ (Z0 : ZS) (H0 : Hp) (s : Shared) (H : Hp) (C : Addr) (cl : List (Str × Addr)) (fp : List Addr), PG (X.blk s H scope (compEnvC scope cl C X.env) fp) tg (qG { c with Z0 := Z0, H0 := H0 } own own vs g))
    (ht : ∀ (Z0 : ZS) (H0 : Hp) (s : Shared) (H : Hp) (C : Addr) (cl : List (Str × Addr)) (fp : List Addr), PTs (X.blk s H scope (compEnvC scope cl C X.env) fp) ifs (qT { c with Z0 := Z0, H0 := H0 } W0 own t))
    (he : ∀ (Z0 : ZS) (H0 : Hp) (s : Shared) (H : Hp) (C : Addr) (cl : List (Str × Addr)) (fp : List Addr), PE (X.blk s H scope (compEnvC scope cl C X.env) fp) elt (qE { c with Z0 := Z0, H0 := H0 } W0 own .frz m)) (hs : ∀ y, foldedSetIterable (.Name x pi) X.env y = pure y := by intro _; rfl) :
    PE X (.ListComp elt [⟨tg, .Name x pi, ifs, 0⟩] scope pos) (qE c W own .new (eCompK i own vs g t m)) := by
  refine ⟨fun pins s σ H Q I h => ?_⟩
  obtain ⟨Z, ρ, S, p⟩ := h
  by_cases hk : ∃ kvs, eV i ρ = .ok (.dic kvs)
  · obtain ⟨kvs, hk⟩ := hk
    rw [eCompK_dic hk] at p
    have hb : (own.all (fun j => j != i) && ownNd own ρ) = true := by
      by_cases hb : (own.all (fun j => j != i) && ownNd own ρ) = true
      · exact hb
      · rw [if_neg hb] at p; exact p.elim
    rw [if_pos hb] at p
    rw [Bool.and_eq_true] at hb
    have e : ρ[i]? = some (some (.dic kvs)) := by
      unfold eV at hk
      split at hk
      · rename_i d q
        cases hk
        exact q
      · cases hk
    obtain ⟨v, hv1, r⟩ := S.val i _ e hio (fun x z => by cases z)
    cases r with
    | @dic a ks _ zp hp rd =>
      have base := pe_lc (pos := pos) hc hN (pi_keys (tg := tg) (pe_var (pos := pi) hNi hv hdb hcd)) ok (hg (cLk c a).Z0 (cLk c a).H0) (ht (cLk c a).Z0 (cLk c a).H0) (he (cLk c a).Z0 (cLk c a).H0) hs
      rw [hvs] at base
      refine (pe_lock base).run pins s σ H Q I ⟨a, .dK ks, hp, trivial, fun od => ?_⟩
      have S' := S.lock (od := od) zp hp hb.2
      have q : qE (cLk c a) W own .new (eComp (fun _ => .ok (kvs.map (·.1))) vs g t m) σ (upd H a (.frz od (.dK ks))) (fun v H' => H' a = some (.frz od (.dK ks)) ∧ Q v (upd H' a (.dK ks))) := by
        refine ⟨Z, shutD ρ, S', ?_⟩
        cases w : eComp (fun _ => .ok (kvs.map (·.1))) vs g t m (shutD ρ) with
        | bad => rw [w] at p; exact p.elim
        | exc y => exact absurd w eCompC_nx
        | ok d =>
          rw [w] at p
          intro v Z2 H2 x hv
          have h2 := x.same a _ upd_same
          exact ⟨h2, p v Z2 _ (x.unlock hp) (Val.unlock (c := c) hp h2 hv)⟩
      have l := lc_read hd q
      obtain ⟨Z3, ρ3, S3, p3⟩ := l
      exact ⟨_, hv1, a, od, rfl, .inl ⟨ks, upd_same, p3 (Itk a od ks) Z3 _ (.refl S3.trk) (itk_ok (S3.ext.sub a (.inr rfl)) upd_same rd.keys rd.len)⟩⟩
  · rw [eCompK_else (fun kvs q => hk ⟨kvs, q⟩)] at p
    exact (q_lc (W := W) (pos := pos) hc hN (qi_of hcK (q_var hio hn hNi hv hdb hcd)) ok hvs hd (hg c.Z0 c.H0) (ht c.Z0 c.H0) (he c.Z0 c.H0) hs).run pins s σ H Q I ⟨Z, ρ, S, p⟩
theorem xLcK {vis loc : List Nat} {gls : List Str} {N : List Str} {vis1 loc1 : List Nat} {gls1 : List Str} (i : Nat) (V : Scp X vis loc gls) (hm : i ∈ vis) (hNi : X.N[i]? = some x) (hio : i ∉ own) (hn : c.xs.all (fun p => p.1 != i) = true) (hcK : c.K = X.K) (hc : X.calm = true) (ok : BlkOk X.N X.env.scope scope ob) (hv : ob.map (·.2) = vs) (hd : vs.all (fun j => own.all (· != j)) = true) (hV : scpC N scope vis1 loc1 gls1 = true) (hNN : X.N = N)
    (hg : ∀ (Z0 : ZS) (H0 : Hp) (s : Shared) (H : Hp) (C : Addr) (cl : List (Str × Addr)) (fp : List Addr), Scp (X.blk s H scope (compEnvC scope cl C X.env) fp) vis1 loc1 gls1 → PG (X.blk s H scope (compEnvC scope cl C X.env) fp) tg (qG { c with Z0 := Z0, H0 := H0 } own own vs g))
    (ht : ∀ (Z0 : ZS) (H0 : Hp) (s : Shared) (H : Hp) (C : Addr) (cl : List (Str × Addr)) (fp : List Addr), Scp (X.blk s H scope (compEnvC scope cl C X.env) fp) vis1 loc1 gls1 → PTs (X.blk s H scope (compEnvC scope cl C X.env) fp) ifs (qT { c with Z0 := Z0, H0 := H0 } W0 own t))
    (he : ∀ (Z0 : ZS) (H0 : Hp) (s : Shared) (H : Hp) (C : Addr) (cl : List (Str × Addr)) (fp : List Addr), Scp (X.blk s H scope (compEnvC scope cl C X.env) fp) vis1 loc1 gls1 → PE (X.blk s H scope (compEnvC scope cl C X.env) fp) elt (qE { c with Z0 := Z0, H0 := H0 } W0 own .frz m)) (hs : ∀ y, foldedSetIterable (.Name x pi) X.env y = pure y := by intro _; rfl) :
    PE X (.ListComp elt [⟨tg, .Name x pi, ifs, 0⟩] scope pos) (qE c W own .new (eCompK i own vs g t m)) := q_lcK hcK hc V.nd hn hio hNi (V.vis i hm x hNi).1 (V.vis i hm x hNi).2.1 (V.vis i hm x hNi).2.2 ok hv (own_all hd) (fun Z0 H0 s H C cl fp => hg Z0 H0 s H C cl fp (scp_blk hV hNN)) (fun Z0 H0 s H C cl fp => ht Z0 H0 s H C cl fp (scp_blk hV hNN)) (fun Z0 H0 s H C cl fp => he Z0 H0 s H C cl fp (scp_blk hV hNN)) hs
end
end PL

set_option maxRecDepth 100000
set_option maxHeartbeats 4000000
namespace PySem
section
variable {prog : Program} {w : World} {A : Around} {E : Value → Shared → Prop} {s : Shared}
theorem code_tuple_new_strP {Q₁ : Value → Shared → Prop} (hh : A.handled = none) (x : Str) (t : Tok)
    (h : ∀ (s' : Shared) (acc : Array Value), (∀ b o, s.heap.get? b = some o → s'.heap.get? b = some o) → s'.gens = s.gens → s'.drawn = s.drawn → s'.os = s.os → ItemsOf (SignAt x) acc x.cps.size → Q₁ (.ref s'.heap.objs.size) { s' with heap := s'.heap.push { cls := .type "tuple", data := .seq acc } }) (hn : x.cps.size ≤ sizeLine) :
    codeAny (model prog w) A (.call (.builtin "tuple.__new__") ⟨[.type "tuple", .str x t], []⟩) (wants Q₁ E) s := by
  refine codeAny_of_tree ?_
  show wpAny _ A.in1 (do checkBuiltinCall "tuple.__new__" ⟨[.type "tuple", .str x t], []⟩; again (.builtin "tuple.__new__" ⟨[.type "tuple", .str x t], []⟩)) _ _ s
  refine wpAny_bind (wpAny_of_eq (F.newCall_tuple_1 _) (wpAny_pure ⟨plainId_quiet F.plain_tuple_new _, codeAny_builtin F.entry_tuple_new ?_⟩))
  rw [Around.under_plainId F.plain_tuple_new _]
  have hsub := sub_tuple_self
  have hinit := init_tuple_lookup
  have hmh := madeHere_tuple
  have hTI : s.TypeIs (.str x t) "str" := rfl
  wp_walk using wpAny_typeOf hTI, wpAny_collect_str (A := A.in1) (hn := hn) hh x t
  intro s' acc h1 h2 h3 h4 hacc
  show wpAny _ _ (Builtin.Tuple.tupleExact acc.toList.toArray >>= fun v => ret v) _ _ _
  unfold Builtin.Tuple.tupleExact
  refine wpAny_bind (wpAny_newObj_type ?_ (by show acc.toList.toArray.size ≤ sizeLine; simp only [Array.toArray_toList]; rw [hacc.1]; exact hn))
  refine wpAny_pure ?_
  have e : acc.toList.toArray = acc := by simp
  rw [e]
  exact h s' acc h1 h2 h3 h4 hacc
theorem call_tuple_strP {Q : Value → Shared → Prop} (hh : A.handled = none) (x : Str) (t : Tok)
    (hQ : ∀ (s' : Shared) (acc : Array Value), (∀ b o, s.heap.get? b = some o → s'.heap.get? b = some o) → s'.gens = s.gens → s'.drawn = s.drawn → s'.os = s.os → ItemsOf (SignAt x) acc x.cps.size → Q (.ref s'.heap.objs.size) { s' with heap := s'.heap.push { cls := .type "tuple", data := .seq acc } }) (hn : x.cps.size ≤ sizeLine) :
    wpAny (model prog w) A (call (.type "tuple") [.str x t]) Q E s := by
  refine callType_codes (Q₁ := fun obj s₁ => s₁.TypeIs obj "tuple" ∧ Q obj s₁) F.called_tuple (F.typeCall_tuple_1 _) F.entry_object_init
    (code_tuple_new_strP (A := A.in1) hh x t (fun s' acc h1 h2 h3 h4 hacc => ⟨⟨_, Heap.get?_push_size _ rfl, rfl⟩, hQ s' acc h1 h2 h3 h4 hacc⟩) hn) fun obj s₁ h₁ => ?_
  exact ⟨h₁.1, F.args_object_init_2 obj _, object_init_meets F.called_tuple.init.lookup F.called_tuple.made (by decide) prog w A.in1 _ s₁ ⟨h₁.1, rfl, h₁.2⟩⟩
end
end PySem
namespace PL
open PySem PySem.Spec PyProof.Rows L2
set_option autoImplicit false
section
variable {X : Cx}
def rTupS : List V → Hp → VK → Prop := fun xs H Q => ∃ x : Str, xs = [.str x] ∧ x.cps.size ≤ sizeLine ∧ ∀ p, H p = none → Q (.ref p) (upd H p (.tup (x.cps.toList.map fun c => V.str ⟨#[c]⟩)))
theorem call_tupS (hc : X.calm = true) : CallR X (.type "tuple") rTupS := by
  intro pins s σ H xs us Q I r q
  obtain ⟨x, ex, hz, q⟩ := q
  subst ex
  obtain ⟨u, eu, rx⟩ := vals1 r
  subst eu
  obtain ⟨t, rfl⟩ := rx
  refine PySem.call_tuple_strP (I.ok.hd hc) x t (fun s' acc hk hg hdr hos hacc => ?_) hz
  have hv : Vals (x.cps.toList.map fun c => V.str ⟨#[c]⟩) acc.toList := signs_at (x := x) _ _ (by rw [Array.length_toList, hacc.1, Array.length_toList]) fun j v e => by
    obtain ⟨c, u, hc, rfl⟩ := hacc.2 j v (by rw [← Array.getElem?_toList]; exact e)
    exact ⟨c, u, by rw [Array.getElem?_toList]; exact hc, rfl⟩
  have I1 : Inv X pins σ H { s with heap := s'.heap, toks := s'.toks } := I.kept (t' := s'.toks) hk
  have es : s' = { s with heap := s'.heap, toks := s'.toks } := by
    cases s'
    cases s
    simp only at hg hdr hos
    subst hg
    subst hdr
    subst hos
    rfl
  have I2 : Inv X pins σ (upd H s'.heap.objs.size (.tup (x.cps.toList.map fun c => V.str ⟨#[c]⟩))) { s with heap := s'.heap.push { cls := .type "tuple", data := .seq acc }, toks := s'.toks } :=
    I1.laid (t' := s'.toks) (fun b o e => Heap.get?_push_of_some _ e) (Nat.le_refl _) (show ObjOk X.prog X.w _ _ _ (.tup (x.cps.toList.map fun c => V.str ⟨#[c]⟩)) from ⟨by rw [List.length_map, Array.length_toList]; exact hz, acc.toList, hv, by
      rw [Array.toArray_toList]
      exact IsTup.new _ _⟩)
  refine ⟨.ref s'.heap.objs.size, _, ?_, rfl, q _ (I1.hok.fresh (Nat.le_refl _))⟩
  rw [es]
  exact I2
end
theorem cv_tupleA {K : KF} : CallV1 K (fun xs H Q => (∃ p ys, xs = [.ref p] ∧ ((SqL K H p ys ∧ ∀ l, H l = none → Q (.ref l) (upd H l (.tup ys))) ∨ (SqT K H p ys ∧ Q (.ref p) H))) ∨ rTupS xs H Q) .sh .new tupleD := by
  intro Z H Hs v d Q t s hv p
  cases hv with
  | lst h r => exact .inl (cv_tuple Z H Hs _ _ Q t s (.lst h r) p)
  | tup h r => exact .inl (cv_tuple Z H Hs _ _ Q t s (.tup h r) p)
  | str x hx =>
    refine .inr ⟨x, rfl, ?_, fun l hl => Wnt.tup t p (signs_rep hx.1) hl⟩
    have := hx.2
    rw [line_eq] at this
    simpa using this
  | _ => exact False.elim p
theorem nx_tupleA : NoX1 tupleD := fun d x h => by cases d <;> cases h
theorem T_tupleA {X : Cx} {c : Ct} (hK : c.K = X.K) (hc : X.calm = true) : T1 X c.K "tuple" .sh .new tupleD := ⟨⟨_, _, callR_or call_tuple_of (call_tupS hc), by rw [hK]; exact cv_tupleA, by decide +kernel⟩, nx_tupleA⟩
end PL

set_option maxRecDepth 100000
set_option maxHeartbeats 4000000
namespace PL
open PySem PySem.Spec PyProof.Rows L2
set_option autoImplicit false
section
variable {X : Cx} {vis loc : List Nat} {gls : List Str} {c : Ct} {W : WX} {own own' ownL vs : List Nat} {kx vx tg iter : Expr} {ifs : List Expr} {scope : Scope} {ob : List (Str × Nat)} {pos spos py : Pos} {ek ev : EM} {t : TM} {g : GM} {src : LM} {y : Str}
theorem ps_setDc {i : Nat} {wi : TI} {tgg : TG} {tt : TT} {tk tv : TE} {ow : List (Str × Nat)} (hc : X.calm = true) (hN : X.N.Nodup) (hy : X.N[i]? = some y) (hyl : X.env.scope.names.lookup y = some .local)
    (hsw : swapsWith (.DictComp kx vx [⟨tg, iter, ifs, 0⟩] scope pos) (some (.Name y py)) spos.line X.env = pure true) (hi : PI X tg iter wi) (ok : BlkOk X.N X.env.scope scope ow)
    (hg : ∀ (s : Shared) (H : Hp) (C : Addr) (cl : List (Str × Addr)) (fp : List Addr), PG (X.blk s H scope (compEnvC scope cl C X.env) fp) tg tgg) (ht : ∀ (s : Shared) (H : Hp) (C : Addr) (cl : List (Str × Addr)) (fp : List Addr), PTs (X.blk s H scope (compEnvC scope cl C X.env) fp) ifs tt)
    (hk : ∀ (s : Shared) (H : Hp) (C : Addr) (cl : List (Str × Addr)) (fp : List Addr), PE (X.blk s H scope (compEnvC scope cl C X.env) fp) kx tk)
    (he : ∀ (s : Shared) (H : Hp) (C : Addr) (cl : List (Str × Addr)) (fp : List Addr), PE (X.blk s H scope (compEnvC scope cl C X.env) fp) vx tv) (hs : ∀ x, foldedSetIterable iter X.env x = pure x := by intro _; rfl) :
    PS X (.Assign [.Name y py] (.DictComp kx vx [⟨tg, iter, ifs, 0⟩] scope pos) spos) (tAsg (tDc wi tgg tt tk tv (ow.map (·.2))) (gName i)) := by
  refine ⟨fun pins s σ H D I h => ?_⟩
  rw [exec_Assign_Name_used _ _ _ _ hsw]
  refine wpAny_bind (wpAny_standAt (wpAny_bind ?_))
  show wpAny _ X.A (do let _ ← comprehension (.DictComp kx vx [⟨tg, iter, ifs, 0⟩] scope pos) scope X.env (firstIterPos [⟨tg, iter, ifs, 0⟩] pos) newDict false (eval iter X.env) (some (assign (.Name y py) X.env))) _ _ s
  have h : tDc wi tgg tt tk tv (ow.map (·.2)) σ H (fun x H1 => gName i x σ H1 D.nx) := h
  refine wpAny_bind (thn (dc_core (Qf := fun _ s' => SP X pins D .next s') hc hN I hi ok hg ht hk he hs h fun L C s' m H' I' q hn f => ?_) fun _ s' hq => wpAny_pure (wpAny_pure hq))
  show wpAny _ _ (assign (.Name y py) X.env (.ref L)) _ _ _
  refine wpAny_assign_Name (store_ok2 (v := V.ref L) I' hN hy (.inl hyl) rfl (fun s2 I2 ⟨a, sb, ha⟩ => ?_) (.inr hyl))
  obtain ⟨f0, f1, f2, f3, f4, f5⟩ := f
  have haC : C ≠ a := by
    rcases ha with z | z
    · rw [z]; exact f1
    · exact fun e => f4 y a z e.symm
  refine ⟨m, hn.sameBut sb haC, fun h3 sb3 => ?_⟩
  exact ⟨_, H', I2.turned (t' := s2.toks) (fun b o hb e => (sb3.2 b hb).trans e) f0 f1 f3 f4 f5, q⟩
theorem qs_setDc {i : Nat} (hc : X.calm = true) (hN : X.N.Nodup) (hy : X.N[i]? = some y) (hyl : X.env.scope.names.lookup y = some .local)
    (hsw : swapsWith (.DictComp kx vx [⟨tg, iter, ifs, 0⟩] scope pos) (some (.Name y py)) spos.line X.env = pure true) (hi : PI X tg iter (qI c W own src)) (ok : BlkOk X.N X.env.scope scope ob) (hv : ob.map (·.2) = vs) (hd : ∀ j ∈ vs, j ∉ own)
    (hg : ∀ (s : Shared) (H : Hp) (C : Addr) (cl : List (Str × Addr)) (fp : List Addr), PG (X.blk s H scope (compEnvC scope cl C X.env) fp) tg (qG c own own vs g)) (ht : ∀ (s : Shared) (H : Hp) (C : Addr) (cl : List (Str × Addr)) (fp : List Addr), PTs (X.blk s H scope (compEnvC scope cl C X.env) fp) ifs (qT c W0 own t))
    (hk : ∀ (s : Shared) (H : Hp) (C : Addr) (cl : List (Str × Addr)) (fp : List Addr), PE (X.blk s H scope (compEnvC scope cl C X.env) fp) kx (qE c W0 own .sh ek))
    (he : ∀ (s : Shared) (H : Hp) (C : Addr) (cl : List (Str × Addr)) (fp : List Addr), PE (X.blk s H scope (compEnvC scope cl C X.env) fp) vx (qE c W0 own .frz ev)) (hs : ∀ x, foldedSetIterable iter X.env x = pure x := by intro _; rfl) (ho : own' = i :: own.filter (· != i)) :
    PS X (.Assign [.Name y py] (.DictComp kx vx [⟨tg, iter, ifs, 0⟩] scope pos) spos) (qS c W own own' ownL (sNew i (eDComp src vs g t ek ev))) := by
  subst ho
  have h := ps_setDc (pos := pos) hc hN hy hyl hsw hi ok hg ht hk he hs
  rw [hv] at h
  refine h.imp fun D σ H ⟨Z, ρ, S, p⟩ => ?_
  show tDc _ _ _ _ _ _ σ H fun x H1 => gName i x σ H1 D.nx
  refine dc_read hd ⟨Z, ρ, S, (PostS.lft S p).imp (fun d p1 v Z1 H1 x1 hv => ?_) fun _ q => q⟩
  have key : ∀ (hb : isBox d = true) (hl : i < ρ.length), SE c (i :: own.filter (· != i)) Z1 H1 (σ.set i (some v)) (ρ.set i (some d)) := fun hb hl => (S.move x1).setN hv hb hl S.ext.same (own_there S)
  cases d with
  | lst ys =>
    dsimp only at p1
    split at p1
    · rename_i hl; exact p1 Z1 H1 _ x1.adv (key rfl hl)
    · exact p1.elim
  | dic ys =>
    dsimp only at p1
    split at p1
    · rename_i hl; exact p1 Z1 H1 _ x1.adv (key rfl hl)
    · exact p1.elim
  | _ => exact p1.elim
theorem sDc {N : List Str} {vis1 loc1 : List Nat} {gls1 : List Str} (i : Nat) (V : Scp X vis loc gls) (hNi : X.N[i]? = some y) (hyl : X.env.scope.names.lookup y = some .local) (hc : X.calm = true)
    (hsw : swapsWith (.DictComp kx vx [⟨tg, iter, ifs, 0⟩] scope pos) (some (.Name y py)) spos.line X.env = pure true) (hi : PI X tg iter (qI c W own src)) (ok : BlkOk X.N X.env.scope scope ob) (hv : ob.map (·.2) = vs) (hd : vs.all (fun j => own.all (· != j)) = true) (hV : scpC N scope vis1 loc1 gls1 = true) (hNN : X.N = N)
    (hg : ∀ (s : Shared) (H : Hp) (C : Addr) (cl : List (Str × Addr)) (fp : List Addr), Scp (X.blk s H scope (compEnvC scope cl C X.env) fp) vis1 loc1 gls1 → PG (X.blk s H scope (compEnvC scope cl C X.env) fp) tg (qG c own own vs g))
    (ht : ∀ (s : Shared) (H : Hp) (C : Addr) (cl : List (Str × Addr)) (fp : List Addr), Scp (X.blk s H scope (compEnvC scope cl C X.env) fp) vis1 loc1 gls1 → PTs (X.blk s H scope (compEnvC scope cl C X.env) fp) ifs (qT c W0 own t))
    (hk : ∀ (s : Shared) (H : Hp) (C : Addr) (cl : List (Str × Addr)) (fp : List Addr), Scp (X.blk s H scope (compEnvC scope cl C X.env) fp) vis1 loc1 gls1 → PE (X.blk s H scope (compEnvC scope cl C X.env) fp) kx (qE c W0 own .sh ek))
    (he : ∀ (s : Shared) (H : Hp) (C : Addr) (cl : List (Str × Addr)) (fp : List Addr), Scp (X.blk s H scope (compEnvC scope cl C X.env) fp) vis1 loc1 gls1 → PE (X.blk s H scope (compEnvC scope cl C X.env) fp) vx (qE c W0 own .frz ev)) (ho : own' = i :: own.filter (· != i)) (hs : ∀ x, foldedSetIterable iter X.env x = pure x := by intro _; rfl) :
    PS X (.Assign [.Name y py] (.DictComp kx vx [⟨tg, iter, ifs, 0⟩] scope pos) spos) (qS c W own own' ownL (sNew i (eDComp src vs g t ek ev))) := qs_setDc hc V.nd hNi hyl hsw hi ok hv (own_all hd) (fun s H C cl fp => hg s H C cl fp (scp_blk hV hNN)) (fun s H C cl fp => ht s H C cl fp (scp_blk hV hNN)) (fun s H C cl fp => hk s H C cl fp (scp_blk hV hNN)) (fun s H C cl fp => he s H C cl fp (scp_blk hV hNN)) hs ho
end
end PL

set_option maxRecDepth 100000
set_option maxHeartbeats 4000000
namespace PL
open PySem PySem.Spec PyProof.Rows L2
set_option autoImplicit false
section
variable {c : Ct} {own : List Nat} {Z : ZS} {H : Hp} {σ : St} {ρ : Env} {i y : Nat} {a p : Addr} {d : Dat}
/-- the context of a body that does not see the slot i -/
def cKp (c : Ct) (Z : ZS) (H : Hp) (i : Nat) (p : Addr) : Ct := { c with Z0 := Z, H0 := H, xs := some (i, p, 0) }
theorem SE.hide (S : SE c [i] Z H σ ρ) (hx : c.xs = none) (hd : ρ[i]? = some (some d)) : ∃ p, SE (cKp c Z H i p) [] Z H σ (ρ.set i (some (.exc 0))) ∧ ¬ Z p ∧ c.H0 p = none ∧ Top c.K Z H p d ∧ σ[i]? = some (some (.ref p)) := by
  obtain ⟨p, d', e1, e2, nz, h0, t⟩ := S.ow i (by simp)
  rw [hd] at e1
  cases e1
  have hlt : i < ρ.length := (List.getElem?_eq_some_iff.mp hd).1
  refine ⟨p, ⟨.refl S.trk, by simp [S.len], fun j d e n nx => ?_, fun j x e => ?_, fun j hj => (by cases hj), fun j hj => (by cases hj)⟩, nz, h0, t, e2⟩
  · rw [get_set] at e
    by_cases h : i = j ∧ j < ρ.length
    · rw [if_pos h] at e
      cases e
      exact absurd rfl (nx 0)
    · rw [if_neg h] at e
      refine S.val j d e (fun z => h ⟨?_, (List.getElem?_eq_some_iff.mp e).1⟩) nx
      exact (List.mem_singleton.mp z).symm
  · rw [get_set] at e
    by_cases h : i = j ∧ j < ρ.length
    · rw [if_pos h] at e
      cases e
      exact ⟨p, by rw [← h.1]; rfl, by rw [← h.1]; exact e2⟩
    · rw [if_neg h] at e
      obtain ⟨b, e1, _⟩ := S.exc j x e
      rw [hx] at e1
      cases e1
theorem SE.back {Z' : ZS} {H' : Hp} {σ' : St} {ρ' : Env} (S : SE c [i] Z H σ ρ) (S' : SE (cKp c Z H i p) [] Z' H' σ' ρ') (nz : ¬ Z p) (h0 : c.H0 p = none) (t : Top c.K Z H p d) (he : isE0 ρ'[i]? = true) : SE c [i] Z' H' σ' (ρ'.set i (some d)) := by
  have he : ρ'[i]? = some (some (.exc 0)) := by
    unfold isE0 at he
    split at he
    · rename_i q; exact q
    · cases he
  have hlt : i < ρ'.length := (List.getElem?_eq_some_iff.mp he).1
  have x : Ext Z H Z' H' := S'.ext
  have nexc : ∀ x, d ≠ .exc x := fun x z => by subst z; exact t.elim
  obtain ⟨b, e1, e2⟩ := S'.exc i 0 he
  have e1 : some (i, p, 0) = some (i, b, 0) := e1
  cases e1
  refine ⟨S.ext.trans x, by simp [S'.len], fun j d1 e n nx => ?_, fun j y e => ?_, fun j hj => ?_, fun j hj l hl ne => ?_⟩
  · rw [get_set] at e
    by_cases h : i = j ∧ j < ρ'.length
    · exact absurd (by simp [h.1]) n
    · rw [if_neg h] at e
      exact S'.val j d1 e (by simp) nx
  · rw [get_set] at e
    by_cases h : i = j ∧ j < ρ'.length
    · rw [if_pos h] at e
      exact absurd (Option.some.inj (Option.some.inj e)) (nexc y)
    · rw [if_neg h] at e
      obtain ⟨b, f1, _⟩ := S'.exc j y e
      have f1 : some (i, p, 0) = some (j, b, y) := f1
      cases f1
      exact absurd ⟨rfl, hlt⟩ h
  · have : j = i := by simpa using hj
    subst this
    obtain ⟨o, ho⟩ := t.there
    refine ⟨p, d, ?_, e2, fun z => ?_, h0, t.ext x⟩
    · rw [get_set, if_pos ⟨rfl, hlt⟩]
    · rcases x.new p z with w | w
      · exact nz w
      · rw [ho] at w; cases w
  · have h1 : j = i := by simpa using hj
    have h2 : l = i := by simpa using hl
    exact absurd (h1.trans h2.symm) ne
theorem SE.holdO (S : SE c own Z H σ ρ) (hx : c.xs = none) (hi : i < ρ.length) (ho : i ∉ own) : SE (c.held i a y) own Z H (σ.set i (some (.ref a))) (ρ.set i (some (.exc y))) where
  ext := S.ext
  len := by simp [S.len]
  val := fun j d e n nx => by
    rw [get_set] at e
    rw [get_set, S.len]
    by_cases h : i = j ∧ j < ρ.length
    · rw [if_pos h] at e
      cases e
      exact absurd rfl (nx y)
    · rw [if_neg h] at e ⊢
      exact S.val j d e n nx
  exc := fun j x e => by
    rw [get_set] at e
    rw [get_set, S.len]
    by_cases h : i = j ∧ j < ρ.length
    · rw [if_pos h] at e ⊢
      cases e
      exact ⟨a, by rw [h.1]; rfl, rfl⟩
    · rw [if_neg h] at e
      obtain ⟨b, e1, _⟩ := S.exc j x e
      rw [hx] at e1
      cases e1
  ow := fun j hj => by
    obtain ⟨b, d, e1, e2, q⟩ := S.ow j hj
    have hne : ¬ i = j := fun z => ho (z ▸ hj)
    refine ⟨b, d, ?_, ?_, q⟩
    · rw [get_set, if_neg (fun z => hne z.1)]; exact e1
    · rw [get_set, if_neg (fun z => hne z.1)]; exact e2
  inj := fun j hj l hl ne => by
    have h1 : ¬ i = j := fun z => ho (z ▸ hj)
    have h2 : ¬ i = l := fun z => ho (z ▸ hl)
    rw [get_set, get_set, if_neg (fun z => h1 z.1), if_neg (fun z => h2 z.1)]
    exact S.inj j hj l hl ne
end
/-- the clauses over their mirrors, the slots ownS being the def's own -/
inductive HdK (X : Cx) (c : Ct) (ownS own' ownL : List Nat) (sub : Nat → Nat → Bool) : List ExceptHandler → List (Value × Option Nat × SuiteT) → List ((Nat → Bool) × Option Nat × SM) → Prop
  | nil : HdK X c ownS own' ownL sub [] [] []
  | bare {x : Str} {n : Nat} {b₀ : Stmt} {su : List Stmt} {np hp : Pos} {sm : SM} {hl : List ExceptHandler} {l : List (Value × Option Nat × SuiteT)} {hs : List ((Nat → Bool) × Option Nat × SM)} (nm : Names X x (.ref (c.EC n)))
      (go : ∀ (a : Addr) (oe : Obj) (y : Nat) (pn : List (Addr × Obj)), Zc (.ref (c.EC y)) none oe → (∃ vs, oe.data = .fields vs) → PSs (X.suite a ((a, oe) :: pn)) (b₀ :: su) (qS c W0 ownS own' ownL sm)) (r : HdK X c ownS own' ownL sub hl l hs) :
      HdK X c ownS own' ownL sub (.ExceptHandler (some (.Name x np)) none (b₀ :: su) hp :: hl) ((.ref (c.EC n), none, fun a cls d D σ H => ∃ y, cls = .ref (c.EC y) ∧ d = none ∧ qS c W0 ownS own' ownL sm D σ H) :: l) (((fun y => sub y n), none, sm) :: hs)
  | held {x nn : Str} {i n : Nat} {b₀ : Stmt} {su : List Stmt} {np hp : Pos} {sm : SM} {hl : List ExceptHandler} {l : List (Value × Option Nat × SuiteT)} {hs : List ((Nat → Bool) × Option Nat × SM)} (nm : Names X x (.ref (c.EC n))) (hi : X.N[i]? = some nn) (hn : X.env.kindOf nn = some .local) (hio : i ∉ own') (hiL : i ∉ ownL) (hiS : i ∉ ownS)
      (go : ∀ (a : Addr) (oe : Obj) (y : Nat) (pn : List (Addr × Obj)), Zc (.ref (c.EC y)) none oe → (∃ vs, oe.data = .fields vs) → PSs (X.suite a ((a, oe) :: pn)) (b₀ :: su) (qS (c.held i a y) W0 ownS own' ownL sm)) (r : HdK X c ownS own' ownL sub hl l hs) :
      HdK X c ownS own' ownL sub (.ExceptHandler (some (.Name x np)) (some nn) (b₀ :: su) hp :: hl) ((.ref (c.EC n), some i, fun a cls d D σ H => ∃ y, cls = .ref (c.EC y) ∧ d = none ∧ qS (c.held i a y) W0 ownS own' ownL sm D σ H) :: l) (((fun y => sub y n), some i, sm) :: hs)
theorem HdK.ok {X : Cx} {c : Ct} {W : WX} {ownS own' ownL : List Nat} {sub : Nat → Nat → Bool} {hl : List ExceptHandler} {l : List (Value × Option Nat × SuiteT)} {hs : List ((Nat → Bool) × Option Nat × SM)} (h : HdK X c ownS own' ownL sub hl l hs) (hx : c.xs = none) (hex : ∀ y n, PySem.W.exmOne X.K (.ref (c.EC y)) (.ref (c.EC n)) = some (sub y n)) :
    MixOk X hl l ∧ ∀ (D : Ends) (y : Nat) (Z : ZS) (H : Hp) (σ : St) (ρ : Env), SE c ownS Z H σ ρ → PostS c W own' ownL Z H D (hand hs y ρ) → wMix X.K W D l (.ref (c.EC y)) none σ H := by
  induction h with
  | nil =>
    refine ⟨.nil, fun D y Z H σ ρ S q => ?_⟩
    obtain ⟨Z2, a2, S2⟩ := S.drop (own' := []) (fun _ z => absurd z (by simp))
    exact q Z2 H σ a2 S2
  | @bare x n b₀ su np hp sm hl l hs nm go r ih =>
    refine ⟨.bare nm (fun a oe cl dd pn hz hd => suite_of fun y e1 e2 => by subst e1 e2; exact go a oe y pn hz hd) ih.1, fun D y Z H σ ρ S q => ⟨sub y n, hex y n, fun hy a ha => ⟨y, rfl, rfl, Z, ρ, S, ?_⟩, fun hy => ?_⟩⟩
    · unfold hand at q
      rw [if_pos hy] at q
      exact noEx_post q
    · unfold hand at q
      rw [if_neg (show ¬ sub y n = true by rw [hy]; exact Bool.false_ne_true)] at q
      exact ih.2 D y Z H σ ρ S q
  | @held x nn i n b₀ su np hp sm hl l hs nm hi hn hio hiL hiS go r ih =>
    refine ⟨.held nm hi hn (fun a oe cl dd pn hz hd => suite_of fun y e1 e2 => by subst e1 e2; exact go a oe y pn hz hd) ih.1, fun D y Z H σ ρ S q => ⟨sub y n, hex y n, fun hy a ha => ⟨y, rfl, rfl, ?_⟩, fun hy => ?_⟩⟩
    · unfold hand at q
      rw [if_pos hy] at q
      by_cases hlt : i < ρ.length
      · rw [if_pos hlt] at q
        refine ⟨Z, ρ.set i (some (.exc y)), S.holdO hx hlt hiS, noEx_post (W := W) (own' := own') (ownL := ownL) ?_⟩
        match ho : noEx (sm (ρ.set i (some (.exc y)))) with
        | none => rw [ho] at q; exact q
        | some (.nx, ρ2) => rw [ho] at q; exact fun Z2 H2 σ2 a2 S2 => q Z2 H2 _ a2 (S2.letgo hio)
        | some (.ct, ρ2) => rw [ho] at q; exact fun Z2 H2 σ2 a2 S2 => q Z2 H2 _ a2 (S2.letgo hiL)
        | some (.bk, ρ2) => rw [ho] at q; exact fun Z2 H2 σ2 a2 S2 => q Z2 H2 _ a2 (S2.letgo hiL)
        | some (.rt d, ρ2) => rw [ho] at q; exact q
        | some (.ex z, ρ2) =>
          exfalso
          match h2 : sm (ρ.set i (some (.exc y))), ho with
          | none, ho => cases ho
          | some (.nx, _), ho => cases ho
          | some (.ct, _), ho => cases ho
          | some (.bk, _), ho => cases ho
          | some (.rt _, _), ho => cases ho
          | some (.ex _, _), ho => cases ho
      · rw [if_neg hlt] at q
        exact q.elim
    · unfold hand at q
      rw [if_neg (show ¬ sub y n = true by rw [hy]; exact Bool.false_ne_true)] at q
      exact ih.2 D y Z H σ ρ S q
section
variable {X : Cx} {vis loc : List Nat} {gls : List Str} {c : Ct} {W : WX} {own ownL : List Nat} {sub : Nat → Nat → Bool} {sa : SM} {body : List Stmt} {h₀ : ExceptHandler} {hl : List ExceptHandler} {l : List (Value × Option Nat × SuiteT)} {hs : List ((Nat → Bool) × Option Nat × SM)} {pos : Pos}
theorem sTryKp (i : Nat) (hio : i ∈ own) (V : Scp X vis loc gls) (stk : X.stack = X.env :: X.outer) (frm : X.env.frame = some X.env.locals) (tk : Takes X W) (Er : Errs X.K c.EC sub) (hx : c.xs = none)
    (hb : ∀ (Z0 : ZS) (H0 : Hp) (p : Addr) (W' : WX) (pn : List (Addr × Obj)) (xe : Value → Shared → Prop), Scp (X.tr pn xe) vis loc gls → Takes (X.tr pn xe) W' → PassesOwn (model X.prog X.w) X.A X.env xe → PSs (X.tr pn xe) body (qS { c with Z0 := Z0, H0 := H0, xs := some (i, p, 0) } W' [] [] [] sa)) (mx : HdK X c [i] [i] ownL sub (h₀ :: hl) l hs) :
    PS X (.Try body (h₀ :: hl) [] [] pos) (qS c W own [i] ownL (sTryK i hs sa)) := by
  have ok := mx.ok (W := W) hx Er.exm
  refine (ps_mix (tb := fun W' D σ H => ∃ (Z0 : ZS) (H0 : Hp) (p : Addr), qS (cKp c Z0 H0 i p) W' [] [] [] sa D σ H) (Wo := W) stk frm V.nd tk (fun W' pn xe t1 t2 => ⟨fun pins s σ H D I ⟨Z0, H0, p, q⟩ => (hb Z0 H0 p W' pn xe (V.tr pn xe) t1 t2).run pins s σ H D I q⟩) ok.1).imp fun D σ H ⟨Z, ρ, S, q⟩ => ?_
  obtain ⟨Z1, a1, S1⟩ := S.drop (own' := [i]) (fun j hj => by rw [List.mem_singleton] at hj; rw [hj]; exact hio)
  have q1 := q.move a1
  unfold sTryK at q1
  cases e : ρ[i]? with
  | none => rw [e] at q1; exact q1.elim
  | some o =>
    cases o with
    | none => rw [e] at q1; exact q1.elim
    | some d =>
      rw [e] at q1
      simp only at q1
      obtain ⟨p, S2, nz, h0, t, es⟩ := S1.hide hx e
      refine ⟨Z1, H, p, Z1, _, S2, ?_⟩
      cases w : sa (ρ.set i (some (.exc 0))) with
      | none => rw [w] at q1; exact q1.elim
      | some r =>
        obtain ⟨f, ρ'⟩ := r
        rw [w] at q1
        cases f with
        | nx =>
          by_cases he : isE0 ρ'[i]? = true
          · have q2 : PostS c W [i] ownL Z1 H D (some (.nx, ρ'.set i (some d))) := by
              simp only [keepO, he, if_true] at q1
              exact q1
            exact fun Z' H' σ' ad S' => q2 Z' H' σ' ad (S1.back S' nz h0 t he)
          · simp only [keepO, he] at q1
            exact q1.elim
        | ex y =>
          by_cases he : isE0 ρ'[i]? = true
          · have q2 : PostS c W [i] ownL Z1 H D (hand hs y (ρ'.set i (some d))) := by
              simp only [keepO, he, if_true] at q1
              exact q1
            exact fun Z' H' σ' ad S' => ok.2 D y Z' H' σ' _ (S1.back S' nz h0 t he) (q2.move ad)
          · simp only [keepO, he] at q1
            exact q1.elim
        | rt v =>
          have q2 : PostS c W [i] ownL Z1 H D (some (.rt v, ρ')) := q1
          exact fun u Z' H' ad x r => q2 u Z' H' ad (S1.ext.trans x) r
        | bk => exact (show False from q1).elim
        | ct => exact (show False from q1).elim
theorem hdKB {x : Str} {b₀ : Stmt} {su : List Stmt} {np hp : Pos} {sm : SM} {ownS own' : List Nat} (n j : Nat) (V : Scp X vis loc gls) (hj : gls[j]? = some x) (hm : X.mg x = some (.ref (c.EC n)))
    (go : ∀ (a : Addr) (oe : Obj) (y : Nat) (pn : List (Addr × Obj)), Scp (X.suite a ((a, oe) :: pn)) vis loc gls → Zc (.ref (c.EC y)) none oe → (∃ vs, oe.data = .fields vs) → PSs (X.suite a ((a, oe) :: pn)) (b₀ :: su) (qS c W0 ownS own' ownL sm)) (r : HdK X c ownS own' ownL sub hl l hs) :
    HdK X c ownS own' ownL sub (.ExceptHandler (some (.Name x np)) none (b₀ :: su) hp :: hl) ((.ref (c.EC n), none, fun a cls d D σ H => ∃ y, cls = .ref (c.EC y) ∧ d = none ∧ qS c W0 ownS own' ownL sm D σ H) :: l) (((fun y => sub y n), none, sm) :: hs) :=
  .bare ⟨(V.gl j _ hj).1, (V.gl j _ hj).2.1, .inl hm⟩ (fun a oe y pn => go a oe y pn (V.suite a _)) r
theorem hdKH {x nn : Str} {b₀ : Stmt} {su : List Stmt} {np hp : Pos} {sm : SM} {ownS own' : List Nat} (i n j : Nat) (V : Scp X vis loc gls) (hj : gls[j]? = some x) (hm : X.mg x = some (.ref (c.EC n))) (hi : X.N[i]? = some nn) (hn : X.env.kindOf nn = some .local) (hio : i ∉ own') (hiL : i ∉ ownL) (hiS : i ∉ ownS)
    (go : ∀ (a : Addr) (oe : Obj) (y : Nat) (pn : List (Addr × Obj)), Scp (X.suite a ((a, oe) :: pn)) vis loc gls → Zc (.ref (c.EC y)) none oe → (∃ vs, oe.data = .fields vs) → PSs (X.suite a ((a, oe) :: pn)) (b₀ :: su) (qS (c.held i a y) W0 ownS own' ownL sm)) (r : HdK X c ownS own' ownL sub hl l hs) :
    HdK X c ownS own' ownL sub (.ExceptHandler (some (.Name x np)) (some nn) (b₀ :: su) hp :: hl) ((.ref (c.EC n), some i, fun a cls d D σ H => ∃ y, cls = .ref (c.EC y) ∧ d = none ∧ qS (c.held i a y) W0 ownS own' ownL sm D σ H) :: l) (((fun y => sub y n), some i, sm) :: hs) :=
  .held ⟨(V.gl j _ hj).1, (V.gl j _ hj).2.1, .inl hm⟩ hi hn hio hiL hiS (fun a oe y pn => go a oe y pn (V.suite a _)) r
end
end PL

set_option maxRecDepth 100000
set_option maxHeartbeats 4000000
namespace PL
open PySem PySem.Spec PyProof.Rows L2
set_option autoImplicit false
section
variable {X : Cx}
def rLtX (K : KF) : R2 := fun x y H Q => ∃ d e, Dp K H x d ∧ Dp K H y e ∧ PySem.W.alike d e = true ∧ d ≠ .none ∧ d.depth ≤ DEEP + 1 ∧ Q (.bl (PySem.W.dataLt d e)) H
theorem op_ltX (hu : X.A.units + 64 < cLine) : OpR X (compareOp .Lt) (rLtX X.K) := by
  intro pins s σ H x y v u Q I rx ry h
  obtain ⟨d, e, hd, he, ha, hn, hdp, q⟩ := h
  obtain ⟨as, r1⟩ := Dp.reads I d x v hd rx
  obtain ⟨bs, r2⟩ := Dp.reads I e y u he ry
  have h40 : DEEP = 40 := rfl
  exact PySem.W.rcLt_alike d e X.A s v u as bs r1 r2 ha hn (by omega) _ _ _ _ ⟨.bl _, H, I, rfl, q⟩
end
theorem o2_ltX {K : KF} : Op2 K (fun x y H Q => rOrd (fun i j => decide (i < j)) (fun x y => ltS x y) x y H Q ∨ rLtX K x y H Q) .sh .sh .new ltD := by
  intro Z H Hs v u d e Q t s hv hu p
  cases d with
  | int i =>
    cases e with
    | int j => exact .inl (o2_lt Z H Hs v u (.int i) (.int j) Q t s hv hu p)
    | _ => exact False.elim p
  | str x =>
    cases e with
    | str y => exact .inl (o2_lt Z H Hs v u (.str x) (.str y) Q t s hv hu p)
    | _ => exact False.elim p
  | lst xs =>
    cases e with
    | lst ys =>
      obtain ⟨hs, p⟩ := Post.ite (show Post (if (shpL DEEP xs && shpL DEEP ys && alkL xs ys) = true then R.ok (Dat.bl (cmpL xs ys == .lt)) else .bad) _ _ from p)
      rw [Bool.and_eq_true, Bool.and_eq_true] at hs
      obtain ⟨⟨h1, h2⟩, h3⟩ := hs
      obtain ⟨a1, a2, a3⟩ := Sh.dp (n := DEEP + 1) hv (by unfold shp; exact h1)
      obtain ⟨b1, b2, b3⟩ := Sh.dp (n := DEEP + 1) hu (by unfold shp; exact h2)
      refine .inr ⟨_, _, a1, b1, ?_, ?_, a3, ?_⟩
      · show PySem.W.alikeAll (toPyL xs) (toPyL ys) = true
        exact alkL_py xs ys h3
      · intro z; cases z
      · show Q (.bl (PySem.W.dataLt (.list (toPyL xs)) (.list (toPyL ys)))) H
        rw [PySem.W.dataLt_list, (ltL_py xs ys h3).2]
        exact Wnt.bl t p
    | _ => exact False.elim p
  | tup xs =>
    cases e with
    | tup ys =>
      obtain ⟨hs, p⟩ := Post.ite (show Post (if (shpL DEEP xs && shpL DEEP ys && alkL xs ys) = true then R.ok (Dat.bl (cmpL xs ys == .lt)) else .bad) _ _ from p)
      rw [Bool.and_eq_true, Bool.and_eq_true] at hs
      obtain ⟨⟨h1, h2⟩, h3⟩ := hs
      obtain ⟨a1, a2, a3⟩ := Sh.dp (n := DEEP + 1) hv (by unfold shp; exact h1)
      obtain ⟨b1, b2, b3⟩ := Sh.dp (n := DEEP + 1) hu (by unfold shp; exact h2)
      refine .inr ⟨_, _, a1, b1, ?_, ?_, a3, ?_⟩
      · show PySem.W.alikeAll (toPyL xs) (toPyL ys) = true
        exact alkL_py xs ys h3
      · intro z; cases z
      · show Q (.bl (PySem.W.dataLt (.tuple (toPyL xs)) (.tuple (toPyL ys)))) H
        rw [PySem.W.dataLt_tuple, (ltL_py xs ys h3).2]
        exact Wnt.bl t p
    | _ => exact False.elim p
  | _ => exact False.elim p
theorem nx_ltX : NoX2 ltD := fun d e x h => by
  cases d <;> cases e <;> simp only [ltD] at h <;> first | cases h | (split at h <;> cases h)
theorem ck_ltX {X : Cx} {c : Ct} (hK : c.K = X.K) (hu : X.A.units + 64 < cLine) : CmpOk X c.K .Lt ltD := ⟨⟨_, opU_lt.or (op_ltX hu), by rw [hK]; exact o2_ltX⟩, nx_ltX⟩
end PL

set_option maxRecDepth 100000
set_option maxHeartbeats 4000000
namespace PL
open PySem PySem.Spec PyProof.Rows L2
set_option autoImplicit false

theorem rep_str {K : KF} {Z : ZS} {H : Hp} {x : Str} {s : List Nat} (e : x.cps.toList = s) (h : (s.all (· < 1114112) && decide (s.length ≤ LINE)) = true) : Rep K Z H (.str x) (.str s) := by
  subst e
  rw [Bool.and_eq_true, List.all_eq_true, decide_eq_true_iff] at h
  exact .str x ⟨fun c hc => by simpa using h.1 c hc, h.2⟩
theorem rel_str {x : Str} {t : Tok} : RelV (.str x) (.str x t) := ⟨t, rfl⟩
theorem rel_int {i : Int} {t : Tok} : RelV (.int i) (.int i t) := ⟨t, rfl⟩
theorem le_line {n : Nat} (h : n ≤ 16777216) : n ≤ sizeLine := by
  rw [sizeLine_eq]
  exact h
theorem kit_ref {K : KF} {y C : Addr} {b : Bool} (hd : PySem.W.hasDictIn K C = true) (ht : PySem.W.typeIn K (.ref C) = some (.type "type")) (hs : PySem.W.subIn K (.ref C) (.ref C) = some true) (h4 : PySem.W.subIn K (.ref y) (.ref C) = some b) : PySem.W.kitOne K (.ref y) (.ref C) = some b := by
  obtain ⟨cd, hc, _⟩ := PySem.W.any_some hd
  unfold PySem.W.kitOne
  by_cases q : ((Value.ref y : Value) == Value.ref C) = true
  · rw [if_pos q]
    have e : y = C := Value.ref.inj (beq_iff_eq.mp q)
    subst e
    rw [hs] at h4
    exact h4
  · rw [if_neg q]
    have e2 : ((PySem.W.clsIn K C).isSome && PySem.W.typeIn K (.ref C) == some (.type "type")) = true := by rw [hc, ht] <;> rfl
    show (if ((PySem.W.clsIn K C).isSome && PySem.W.typeIn K (.ref C) == some (.type "type")) = true then PySem.W.subIn K (.ref y) (.ref C) else none) = some b
    rw [if_pos e2]
    exact h4
theorem kit_val {K : KF} {y : Addr} (h : PySem.W.subIn K (.ref y) (.type "ValueError") = some true) : PySem.W.kitOne K (.ref y) (.type "ValueError") = some true := by
  unfold PySem.W.kitOne
  rw [if_neg (show ¬ ((Value.ref y : Value) == Value.type "ValueError") = true from fun z => nomatch (beq_iff_eq.mp z))]
  show (if PySem.W.kitMeta "ValueError" = true then PySem.W.subIn K (.ref y) (.type "ValueError") else none) = some true
  rw [if_pos (by decide +kernel), h]
def spLaw (K : KF) : Sp := fun vs H Q _ => ∃ (a : Addr) (ns : List Int), vs = [.ref a] ∧ SqL K H a (ns.map V.int) ∧ ns.length ≤ 63 ∧ ∀ H', Q (.bl true) H'
theorem rep_ints {K : KF} {Z : ZS} {H : Hp} : ∀ ns : List Int, RepA K Z H (ns.map V.int) (ns.map Dat.int)
  | [] => .nil
  | n :: r => .cons (.int n) (rep_ints r)
theorem law_sp {K : KF} {EC : Nat → Addr} {f : List Dat → R Dat} (h : ∀ ns : List Int, ns.length ≤ 63 → f [.lst (ns.map .int)] = .ok (.bl true)) : ∀ vs H Q E, spLaw K vs H Q E → spM K EC 1 f vs H Q E := by
  rintro vs H Q E ⟨a, ns, rfl, hS, hl, q⟩
  refine ⟨rfl, ?_⟩
  have e := h ns hl
  rcases hS with hS | hS
  · refine ⟨fun b => b = a, [.lst (ns.map .int)], fun b hb => ?_, .cons (.lst rfl hS (rep_ints ns)) .nil, ?_⟩
    · subst hb
      rcases hS with z | ⟨o, z⟩
      · exact ⟨_, z⟩
      · exact ⟨_, z⟩
    · rw [e]
      intro v Z' H' x hv
      cases hv
      exact q H'
  · refine ⟨fun _ => False, [.lst (ns.map .int)], fun b hb => hb.elim, .cons (.lstK hS (rep_ints ns)) .nil, ?_⟩
    rw [e]
    intro v Z' H' x hv
    cases hv
    exact q H'
theorem cx_no {P : Program} {w : World} {H : Hp} {s : Shared} {e : Value} {s' : Shared} (h : L2.CX P w [] H s (fun _ _ _ => False) e s') : False := by
  obtain ⟨_, _, _, _, _, _, _, _, _, _, _, _, h⟩ := h
  exact h
end PL

set_option maxRecDepth 100000
namespace PL.K51
set_option autoImplicit false
noncomputable section
def d_GREATEST : Dat := .int (1000000000000000000000000000000000000000000000000000000000000)
def d_MOST_FIGURES : Dat := .int (40)
/-- which class lies under which -/
def subT : List (List Bool) := [[true, false, false, false, false], [true, true, false, false, false], [true, false, true, false, false], [true, false, false, true, false], [true, false, false, false, true]]
def cl (n : Nat) : Nat := match n with | 0 => 0 | 1 => 1 | 2 => 2 | 3 => 3 | _ => 4
def sub (y n : Nat) : Bool := ((subT.getD (cl y) []).getD (cl n) false)
/-! check_figures: 0 figures 1 known 2 sign -/
def b_check_figures : SM := (sSeq (sNew 1 eDic0)
    (sSeq (sFor (iOf (eV 0)) (gV 2)
    (sSeq (sIf (tOr (tNot (tE (eChain leD leD (eC (.str [32])) (eV 2) (eC (.str [126]))))) (tE (e2 inD (eV 2) (eV 1))))
    (sRaise 2)
    sSkip)
    (sPut 1 (eV 2) (eC (.bl true)))))
    (sIf (tNot (tE (eChain leD leD (eC (.int 2)) (e1 lenD (eV 0)) (eC d_MOST_FIGURES))))
    (sRaise 2)
    sSkip)))
noncomputable def f_check_figures : List Dat → R Dat := run 3 b_check_figures
/-! check_number: 0 number -/
def b_check_number : SM := (sIf (tNot (tE (eChain leD leD (eC (.int 0)) (eV 0) (eC d_GREATEST))))
    (sRaise 3)
    sSkip)
noncomputable def f_check_number : List Dat → R Dat := run 1 b_check_number
/-! write_number: 0 figures 1 number 2 base 3 out -/
def b_write_number : SM := (sSeq (sDrop (eCall f_check_number (eCons (eV 1) eNil)))
    (sSeq (sAsg (gV 2) (e1 lenD (eV 0)))
    (sSeq (sAsg (gV 3) (e2 idxD (eV 0) (e2 modD (eV 1) (eV 2))))
    (sSeq (sAsg (gV 1) (e2 fdivD (eV 1) (eV 2)))
    (sSeq (sWhl (tE (e2 gtD (eV 1) (eC (.int 0))))
    (sSeq (sAsg (gV 3) (e2 addD (e2 idxD (eV 0) (e2 modD (eV 1) (eV 2))) (eV 3)))
    (sAsg (gV 1) (e2 fdivD (eV 1) (eV 2)))))
    (sRet (eV 3)))))))
noncomputable def f_write_number : List Dat → R Dat := run 4 b_write_number
/-! value: 0 figures 1 text 2 number 3 sign -/
def b_value : SM := (sSeq (sAsg (gV 2) (eC (.int 0)))
    (sSeq (sFor (iOf (eV 1)) (gV 3)
    (sAsg (gV 2) (e2 addD (e2 mulD (eV 2) (e1 lenD (eV 0))) (eM1 indexD (eV 0) (eV 3)))))
    (sRet (eV 2))))
noncomputable def f_value : List Dat → R Dat := run 4 b_value
/-! is_written: 0 figures 1 text -/
def b_is_written : SM := (sSeq (sIf (tOr (tE (e2 eqD (eV 1) (eC (.str [])))) (tAnd (tE (e2 neD (eV 1) (e2 idxD (eV 0) (eC (.int 0))))) (tE (e2 eqD (e2 idxD (eV 1) (eC (.int 0))) (e2 idxD (eV 0) (eC (.int 0)))))))
    (sRet (eC (.bl false)))
    sSkip)
    (sRet (e2 leD (eCall f_value (eCons (eV 0) (eCons (eV 1) eNil))) (eC d_GREATEST))))
noncomputable def f_is_written : List Dat → R Dat := run 2 b_is_written
/-! read_number: 0 figures 1 text 2 sign -/
def b_read_number : SM := (sSeq (sIf (tOr (tNot (tE (e1 allD (eComp (iOf (eV 1)) [2] (gV 2) tYes (e2 inD (eV 2) (eV 0)))))) (tNot (tE (eCall f_is_written (eCons (eV 0) (eCons (eV 1) eNil))))))
    (sRaise 4)
    sSkip)
    (sRet (eCall f_value (eCons (eV 0) (eCons (eV 1) eNil)))))
noncomputable def f_read_number : List Dat → R Dat := run 3 b_read_number
/-! write_count: 0 figures 1 number 2 base 3 out -/
def b_write_count : SM := (sSeq (sDrop (eCall f_check_number (eCons (eV 1) eNil)))
    (sSeq (sAsg (gV 2) (e1 lenD (eV 0)))
    (sSeq (sAsg (gV 3) (eC (.str [])))
    (sSeq (sWhl (tE (e2 gtD (eV 1) (eC (.int 0))))
    (sSeq (sAsg (gV 3) (e2 addD (e2 idxD (eV 0) (e2 modD (e2 subD (eV 1) (eC (.int 1))) (eV 2))) (eV 3)))
    (sAsg (gV 1) (e2 fdivD (e2 subD (eV 1) (eC (.int 1))) (eV 2)))))
    (sRet (eV 3))))))
noncomputable def f_write_count : List Dat → R Dat := run 4 b_write_count
/-! read_count: 0 figures 1 text 2 number 3 sign -/
def b_read_count : SM := (sSeq (sAsg (gV 2) (eC (.int 0)))
    (sSeq (sFor (iOf (eV 1)) (gV 3)
    (sSeq (sIf (tE (e2 notInD (eV 3) (eV 0)))
    (sRaise 4)
    sSkip)
    (sAsg (gV 2) (e2 addD (e2 addD (e2 mulD (eV 2) (e1 lenD (eV 0))) (eM1 indexD (eV 0) (eV 3))) (eC (.int 1))))))
    (sRet (eV 2))))
noncomputable def f_read_count : List Dat → R Dat := run 4 b_read_count
/-! changed: 0 one 1 other 2 piece -/
def b_changed : SM := (sSeq (sIf (tE (eCall f_is_written (eCons (eV 0) (eCons (eV 2) eNil))))
    (sRet (eCall f_write_number (eCons (eV 1) (eCons (eCall f_value (eCons (eV 0) (eCons (eV 2) eNil))) eNil))))
    sSkip)
    (sRet (eV 2)))
noncomputable def f_changed : List Dat → R Dat := run 3 b_changed
/-! change_figures: 0 one 1 other 2 text 3 out 4 piece 5 sign -/
def b_change_figures : SM := (sSeq (sAsg (gV 3) (eC (.str [])))
    (sSeq (sAsg (gV 4) (eC (.str [])))
    (sSeq (sFor (iOf (eV 2)) (gV 5)
    (sIf (tE (e2 inD (eV 5) (eV 0)))
    (sAug addF 4 (eV 5))
    (sSeq (sAug addF 3 (e2 addD (eCall f_changed (eCons (eV 0) (eCons (eV 1) (eCons (eV 4) eNil)))) (eV 5)))
    (sAsg (gV 4) (eC (.str []))))))
    (sRet (e2 addD (eV 3) (eCall f_changed (eCons (eV 0) (eCons (eV 1) (eCons (eV 4) eNil)))))))))
noncomputable def f_change_figures : List Dat → R Dat := run 6 b_change_figures
/-! longest_at: 0 table 1 text 2 place 3 best 4 number 5 item -/
def b_longest_at : SM := (sSeq (sAsg (gV 3) (eC .non))
    (sSeq (sFor (iEnum (eV 0)) (gTup 2 (gCons (gV 4) (gCons (gV 5) gNil)))
    (sIf (tAnd (tE (eM2 startsAtD (eV 1) (e2 idxD (eV 5) (eC (.int 0))) (eV 2))) (tOr (tE (e1 isN (eV 3))) (tE (e2 gtD (e1 lenD (e2 idxD (eV 5) (eC (.int 0)))) (e1 lenD (e2 idxD (e2 idxD (eV 0) (eV 3)) (eC (.int 0))))))))
    (sAsg (gV 3) (eV 4))
    sSkip))
    (sRet (eV 3))))
noncomputable def f_longest_at : List Dat → R Dat := run 6 b_longest_at
/-! parse: 0 table 1 text 2 found 3 place 4 number -/
def b_parse : SM := (sSeq (sNew 2 (eLst eNil))
    (sSeq (sAsg (gV 3) (eC (.int 0)))
    (sSeq (sWhl (tE (e2 ltD (eV 3) (e1 lenD (eV 1))))
    (sSeq (sAsg (gV 4) (eCall f_longest_at (eCons (eV 0) (eCons (eV 1) (eCons (eV 3) eNil)))))
    (sSeq (sIf (tE (e1 isN (eV 4)))
    (sRaise 1)
    sSkip)
    (sSeq (sApp 2 (eV 4))
    (sAug addF 3 (e1 lenD (e2 idxD (e2 idxD (eV 0) (eV 4)) (eC (.int 0)))))))))
    (sRet (eV 2)))))
noncomputable def f_parse : List Dat → R Dat := run 5 b_parse
/-! told: 0 table 1 text 2 number -/
def b_told : SM := (sRet (eM1 joinD (eC (.str [])) (eComp (iOf (eCall f_parse (eCons (eV 0) (eCons (eV 1) eNil)))) [2] (gV 2) tYes (e2 idxD (e2 idxD (eV 0) (eV 2)) (eC (.int 1))))))
noncomputable def f_told : List Dat → R Dat := run 3 b_told
/-! _law_cell: 0 script 1 k -/
def b__law_cell : SM := (sSeq (sIf (tE (e2 ltD (eV 1) (e1 lenD (eV 0))))
    (sRet (e1 intD (e2 idxD (eV 0) (eV 1))))
    sSkip)
    (sRet (eC (.int 0))))
noncomputable def f__law_cell : List Dat → R Dat := run 2 b__law_cell
/-! _law_numbers: 0 cell 1 count 2 limit 3 found 4 rest 5 k 6 mixed -/
def b__law_numbers : SM := (sSeq (sNew 3 (eLst eNil))
    (sSeq (sAsg (gV 4) (eV 0))
    (sSeq (sFor (iR1 (eV 1)) (gV 5)
    (sIf (tAnd (tE (e2 geD (eV 0) (e2 powD (eC (.int 10)) (eC (.int 18))))) (tE (e2 gtD (eV 4) (eC (.int 0)))))
    (sSeq (sApp 3 (e2 modD (e1 intD (eV 4)) (eV 2)))
    (sAsg (gV 4) (e2 fdivD (e1 intD (eV 4)) (eV 2))))
    (sSeq (sAsg (gV 6) (e2 modD (e1 intD (e2 addD (e2 addD (e2 mulD (eV 0) (eC (.int 48271))) (e2 mulD (eV 5) (eC (.int 69621)))) (eC (.int 7)))) (eC (.int 2147483647))))
    (sSeq (sAsg (gV 6) (e2 modD (e1 intD (e2 addD (e2 addD (e2 addD (e2 mulD (eV 6) (eV 6)) (e2 mulD (eV 6) (eC (.int 40692)))) (e2 mulD (eV 5) (eC (.int 16807)))) (eC (.int 11)))) (eC (.int 2147483399))))
    (sApp 3 (e2 modD (e1 intD (e2 fdivD (eV 6) (eC (.int 32)))) (eV 2)))))))
    (sRet (eV 3)))))
noncomputable def f__law_numbers : List Dat → R Dat := run 7 b__law_numbers
/-! _law_same: 0 answer 1 due 2 k -/
def b__law_same (IHm : List Dat → R Dat) : SM := (sSeq (sIf (tE (e1 (isTy .list) (eV 1)))
    (sIf (tOr (tNot (tE (e1 (isTy .list) (eV 0)))) (tE (e2 neD (e1 lenD (eV 0)) (e1 lenD (eV 1)))))
    (sRet (eC (.bl false)))
    sSkip)
    (sIf (tE (e1 (isTy .tuple) (eV 1)))
    (sIf (tOr (tNot (tE (e1 (isTy .tuple) (eV 0)))) (tE (e2 neD (e1 lenD (eV 0)) (e1 lenD (eV 1)))))
    (sRet (eC (.bl false)))
    sSkip)
    (sIf (tE (e1 isN (eV 1)))
    (sRet (e1 isN (eV 0)))
    (sIf (tE (e1 (isTy .bool) (eV 1)))
    (sRet (eAnd (e1 (isTy .bool) (eV 0)) (e2 eqD (eV 0) (eV 1))))
    (sIf (tE (e1 (isTy .int) (eV 1)))
    (sRet (eAnd (e1 (isTy .int) (eV 0)) (eAnd (e1 notB (e1 (isTy .bool) (eV 0))) (e2 eqD (eV 0) (eV 1)))))
    (sRet (eAnd (e1 (isTy .str) (eV 0)) (e2 eqD (eV 0) (eV 1)))))))))
    (sSeq (sFor (iR1 (e1 lenD (eV 1))) (gV 2)
    (sIf (tNot (tE (eCall IHm (eCons (e2 idxD (eV 0) (eV 2)) (eCons (e2 idxD (eV 1) (eV 2)) eNil)))))
    (sRet (eC (.bl false)))
    sSkip))
    (sRet (eC (.bl true)))))
def f__law_same : Nat → List Dat → R Dat
  | 0 => fun _ => .bad
  | n + 1 => run 3 (b__law_same (f__law_same n))
/-! _law_pool: 0 draw 1 pool -/
def b__law_pool : SM := (sSeq (sAsg (gV 1) (eC (.str [32, 33, 34, 35, 36, 38, 39, 40, 41, 42, 43, 44, 45, 46, 47, 48, 49, 50, 51, 52, 53, 54, 55, 56, 57, 58, 59, 60, 61, 62, 63, 64, 65, 66, 67, 68, 69, 70, 71, 72, 73, 74, 75, 76, 77, 78, 79, 80, 81, 82, 83, 84, 85, 86, 87, 88, 89, 90, 91, 92, 93, 94, 95, 96, 97, 98, 99, 100, 101, 102, 103, 104, 105, 106, 107, 108, 109, 110, 111, 112, 113, 114, 115, 116, 117, 118, 119, 120, 121, 122, 123, 125, 126])))
    (sSeq (sIf (tE (e2 eqD (e2 modD (e2 fdivD (eV 0) (eC (.int 93))) (eC (.int 2))) (eC (.int 1))))
    (sAsg (gV 1) (e1 revD (eV 1)))
    sSkip)
    (sRet (e2 addD (eSli (pS (e2 modD (eV 0) (eC (.int 93)))) pN (eV 1)) (eSli (pS (eC (.int 0))) (pS (e2 modD (eV 0) (eC (.int 93)))) (eV 1))))))
noncomputable def f__law_pool : List Dat → R Dat := run 2 b__law_pool
/-! _law_written: 0 figures 1 number 2 out 3 turn -/
def b__law_written : SM := (sSeq (sIf (tE (e2 eqD (eV 1) (eC (.int 0))))
    (sRet (e2 idxD (eV 0) (eC (.int 0))))
    sSkip)
    (sSeq (sAsg (gV 2) (eC (.str [])))
    (sSeq (sFor (iR1 (eC (.int 210))) (gV 3)
    (sIf (tE (e2 gtD (eV 1) (eC (.int 0))))
    (sSeq (sAsg (gV 2) (e2 addD (e2 idxD (eV 0) (e2 modD (eV 1) (e1 lenD (eV 0)))) (eV 2)))
    (sAsg (gV 1) (e2 fdivD (eV 1) (e1 lenD (eV 0)))))
    sSkip))
    (sRet (eV 2)))))
noncomputable def f__law_written : List Dat → R Dat := run 4 b__law_written
/-! _law_value: 0 figures 1 text 2 first 3 number 4 sign 5 at 6 k -/
def b__law_value : SM := (sSeq (sAsg (gV 3) (eC (.int 0)))
    (sSeq (sFor (iOf (eV 1)) (gV 4)
    (sSeq (sNew 5 (eComp (iR1 (e1 lenD (eV 0))) [6] (gV 6) (tE (e2 eqD (e2 idxD (eV 0) (eV 6)) (eV 4))) (eV 6)))
    (sSeq (sIf (tE (e2 eqD (e1 lenD (eV 5)) (eC (.int 0))))
    (sRet (eC .non))
    sSkip)
    (sAsg (gV 3) (e2 addD (e2 addD (e2 mulD (eV 3) (e1 lenD (eV 0))) (e2 idxD (eV 5) (eC (.int 0)))) (eV 2))))))
    (sRet (eV 3))))
noncomputable def f__law_value : List Dat → R Dat := run 7 b__law_value
/-! _law_read: 0 figures 1 text 2 number -/
def b__law_read : SM := (sSeq (sAsg (gV 2) (eCall f__law_value (eCons (eV 0) (eCons (eV 1) (eCons (eC (.int 0)) eNil)))))
    (sSeq (sIf (tOr (tE (e2 eqD (eV 1) (eC (.str [])))) (tOr (tE (e1 isN (eV 2))) (tOr (tE (e2 gtD (eV 2) (e2 powD (eC (.int 10)) (eC (.int 60))))) (tAnd (tE (e2 gtD (e1 lenD (eV 1)) (eC (.int 1)))) (tE (e2 eqD (e2 idxD (eV 1) (eC (.int 0))) (e2 idxD (eV 0) (eC (.int 0)))))))))
    (sRet (eC .non))
    sSkip)
    (sRet (eV 2))))
noncomputable def f__law_read : List Dat → R Dat := run 3 b__law_read
/-! _law_asked: 0 figures 1 text 2 e -/
def b__law_asked : SM := (sTry [((fun y => sub y 4), some 2, (sRet (e2 idxD (eLst (eCons (eC .non) (eCons (eC (.str [111, 116, 104, 101, 114])) eNil))) (e1 intD (eOr (e1 notB (e1 (isX sub 0) (eV 2))) (e1 (isX sub 3) (eV 2)))))))]
    (sRet (eCall f_read_number (eCons (eV 0) (eCons (eV 1) eNil)))))
noncomputable def f__law_asked : List Dat → R Dat := run 3 b__law_asked
/-! _law_counted: 0 figures 1 text 2 e -/
def b__law_counted : SM := (sTry [((fun y => sub y 4), some 2, (sRet (e2 idxD (eLst (eCons (eC .non) (eCons (eC (.str [111, 116, 104, 101, 114])) eNil))) (e1 intD (eOr (e1 notB (e1 (isX sub 0) (eV 2))) (e1 (isX sub 3) (eV 2)))))))]
    (sRet (eCall f_read_count (eCons (eV 0) (eCons (eV 1) eNil)))))
noncomputable def f__law_counted : List Dat → R Dat := run 3 b__law_counted
/-! _law_refused: 0 figures 1 number 2 found 3 e -/
def b__law_refused : SM := (sSeq (sNew 2 (eLst eNil))
    (sSeq (sTryK 2 [((fun y => sub y 3), some 3, (sApp 2 (e1 (isX sub 0) (eV 3))))]
    (sDrop (eCall f_write_number (eCons (eV 0) (eCons (eV 1) eNil)))))
    (sSeq (sTryK 2 [((fun y => sub y 3), some 3, (sApp 2 (e1 notB (e1 (isX sub 4) (eV 3)))))]
    (sDrop (eCall f_write_count (eCons (eV 0) (eCons (eV 1) eNil)))))
    (sRet (e2 eqD (eV 2) (eLst (eCons (eC (.bl true)) (eCons (eC (.bl true)) eNil))))))))
noncomputable def f__law_refused : List Dat → R Dat := run 4 b__law_refused
/-! _law_checked: 0 figures 1 e -/
def b__law_checked : SM := (sTry [((fun y => sub y 2), some 1, (sRet (e2 idxD (eLst (eCons (eC (.str [98, 97, 100])) (eCons (eC (.str [111, 116, 104, 101, 114])) eNil))) (e1 intD (eOr (e1 notB (e1 (isX sub 0) (eV 1))) (e1 (isX sub 4) (eV 1)))))))]
    (sRet (e2 idxD (eLst (eCons (eC (.str [111, 116, 104, 101, 114])) (eCons (eC (.str [103, 111, 111, 100])) eNil))) (e1 intD (e1 isN (eCall f_check_figures (eCons (eV 0) eNil)))))))
noncomputable def f__law_checked : List Dat → R Dat := run 2 b__law_checked
/-! _law_change: 0 one 1 other 2 text 3 found 4 piece 5 sign 6 number 7 one_sign -/
def b__law_change : SM := (sSeq (sAsg (gV 3) (eC (.str [])))
    (sSeq (sAsg (gV 4) (eC (.str [])))
    (sSeq (sFor (iOf (e2 addD (eComp (iOf (eV 2)) [7] (gV 7) tYes (eV 7)) (eLst (eCons (eC (.str [])) eNil)))) (gV 5)
    (sIf (tAnd (tE (e2 neD (eV 5) (eC (.str [])))) (tE (e2 inD (eV 5) (eV 0))))
    (sAsg (gV 4) (e2 addD (eV 4) (eV 5)))
    (sSeq (sAsg (gV 6) (eCall f__law_read (eCons (eV 0) (eCons (eV 4) eNil))))
    (sSeq (sIf (tE (e1 isN (eV 6)))
    (sAsg (gV 3) (e2 addD (e2 addD (eV 3) (eV 4)) (eV 5)))
    (sAsg (gV 3) (e2 addD (e2 addD (eV 3) (eCall f__law_written (eCons (eV 1) (eCons (eV 6) eNil)))) (eV 5))))
    (sAsg (gV 4) (eC (.str [])))))))
    (sRet (eV 3)))))
noncomputable def f__law_change : List Dat → R Dat := run 8 b__law_change
/-! _law_drawn: 0 script 1 at 2 base 3 draws 4 number 5 k 6 power 7 found -/
def b__law_drawn : SM := (sSeq (sAsg (gV 3) (eCall f__law_numbers (eCons (eCall f__law_cell (eCons (eV 0) (eCons (eV 1) eNil))) (eCons (eC (.int 14)) (eCons (eC (.int 5040)) eNil)))))
    (sSeq (sAsg (gV 4) (eC (.int 0)))
    (sSeq (sFor (iR1 (e2 addD (eC (.int 1)) (e2 modD (e2 idxD (eV 3) (eC (.int 0))) (eC (.int 12))))) (gV 5)
    (sAsg (gV 4) (e2 addD (e2 mulD (eV 4) (eC (.int 5040))) (e2 idxD (eV 3) (e2 addD (eC (.int 1)) (eV 5))))))
    (sSeq (sAsg (gV 6) (eC (.int 1)))
    (sSeq (sFor (iR1 (e2 modD (e2 idxD (eV 3) (eC (.int 1))) (eC (.int 30)))) (gV 5)
    (sAsg (gV 6) (e2 mulD (eV 6) (eV 2))))
    (sSeq (sAsg (gV 7) (eLst (eCons (eV 4) (eCons (e2 idxD (eV 3) (eC (.int 2))) (eCons (eC (.int 0)) (eCons (eC (.int 1)) (eCons (eV 2) (eCons (e2 subD (e2 mulD (eV 2) (eV 2)) (eC (.int 1))) (eCons (e2 subD (eV 2) (eC (.int 1))) (eCons (e2 powD (eC (.int 10)) (eC (.int 60))) (eCons (eV 6) (eCons (e2 subD (eV 6) (eC (.int 1))) (eCons (e2 addD (eV 6) (eC (.int 1))) eNil)))))))))))))
    (sRet (eComp (iOf (eV 7)) [4] (gV 4) tYes (e2 modD (eV 4) (e2 addD (e2 powD (eC (.int 10)) (eC (.int 60))) (eC (.int 1))))))))))))
noncomputable def f__law_drawn : List Dat → R Dat := run 8 b__law_drawn
/-! law: 0 script 1 draws 2 every 3 figures 4 others 5 at 6 tries 7 some 8 good 9 counts 10 number 11 due 12 count 13 size 14 places 15 another 16 length 17 spots 18 k 19 letters 20 text 21 there 22 j 23 sign -/
def t_law_0 : SM := (sAsg (gV 1) (eCall f__law_numbers (eCons (eCall f__law_cell (eCons (eV 0) (eCons (eC (.int 0)) eNil))) (eCons (eC (.int 8)) (eCons (eC (.int 5040)) eNil)))))
def t_law_2 : SM := (sAsg (gV 3) (eSli (pS (eC (.int 0))) (pS (e2 addD (eC (.int 2)) (e2 modD (e2 idxD (eV 1) (eC (.int 1))) (e2 idxD (eLst (eCons (eC (.int 1)) (eCons (eC (.int 8)) (eCons (eC (.int 15)) (eCons (eC (.int 39)) eNil))))) (e2 modD (e2 idxD (eV 1) (eC (.int 2))) (eC (.int 4))))))) (eV 2)))
def t_law_3 : SM := (sAsg (gV 4) (eSli (pS (eC (.int 41))) (pS (e2 addD (eC (.int 43)) (e2 modD (e2 idxD (eV 1) (eC (.int 3))) (eC (.int 18))))) (eV 2)))
def t_law_5 : SM := (sAsg (gV 6) (eLst (eCons (eSli (pS (eC (.int 0))) (pS (eC (.int 1))) (eV 3)) (eCons (eC (.str [])) (eCons (e2 addD (eV 3) (e2 idxD (eV 3) (eV 5))) (eCons (e2 addD (e2 addD (eSli (pS (eC (.int 0))) (pS (eV 5)) (eV 3)) (eSli (pS (eC (.int 0))) (pS (eC (.int 1))) (eV 3))) (eSli (pS (eV 5)) pN (eV 3))) (eCons (e2 addD (e2 addD (eSli (pS (eC (.int 0))) (pS (eV 5)) (eV 3)) (eC (.str [10]))) (eSli (pS (eV 5)) pN (eV 3))) eNil)))))))
def t_law_6 : SM := (sFor (iOf (e2 addD (eV 6) (eLst (eCons (eSli (pS (eC (.int 0))) (pS (eC (.int 41))) (eV 2)) (eCons (eSli (pS (eC (.int 0))) (pS (eC (.int 40))) (eV 2)) eNil))))) (gV 7)
    (sSeq (sAsg (gV 8) (eAnd (e2 geD (e1 lenD (eV 7)) (eC (.int 2))) (eAnd (e2 leD (e1 lenD (eV 7)) (eC (.int 40))) (eAnd (e2 notInD (eC (.str [10])) (eV 7)) (e2 eqD (e1 lenD (eComp (iR1 (e1 lenD (eV 7))) [18] (gV 18) (tE (e2 inD (e2 idxD (eV 7) (eV 18)) (eSli (pS (eC (.int 0))) (pS (eV 18)) (eV 7)))) (eV 18))) (eC (.int 0)))))))
    (sIf (tE (e2 neD (eCall f__law_checked (eCons (eV 7) eNil)) (e2 idxD (eLst (eCons (eC (.str [98, 97, 100])) (eCons (eC (.str [103, 111, 111, 100])) eNil))) (e1 intD (eV 8)))))
    (sRet (eC (.bl false)))
    sSkip)))
def t_law_7 : SM := (sIf (tOr (tE (e2 neD (eCall f__law_checked (eCons (eV 3) eNil)) (eC (.str [103, 111, 111, 100])))) (tOr (tNot (tE (eCall f__law_refused (eCons (eV 3) (eCons (e2 subD (e1 negD (eC (.int 1))) (e2 idxD (eV 1) (eC (.int 5)))) eNil))))) (tNot (tE (eCall f__law_refused (eCons (eV 3) (eCons (e2 addD (e2 addD (e2 powD (eC (.int 10)) (eC (.int 60))) (eC (.int 1))) (e2 fdivD (e2 idxD (eV 1) (eC (.int 5))) (eC (.int 7)))) eNil)))))))
    (sRet (eC (.bl false)))
    sSkip)
def t_law_9 : SM := (sFor (iOf (eCall f__law_drawn (eCons (eV 0) (eCons (eC (.int 1)) (eCons (e1 lenD (eV 3)) eNil))))) (gV 10)
    (sSeq (sAsg (gV 11) (eCall f__law_written (eCons (eV 3) (eCons (eV 10) eNil))))
    (sSeq (sIf (tOr (tNot (tE (eCall (f__law_same 12) (eCons (eCall f_write_number (eCons (eV 3) (eCons (eV 10) eNil))) (eCons (eV 11) eNil))))) (tNot (tE (eCall (f__law_same 12) (eCons (eCall f_read_number (eCons (eV 3) (eCons (eV 11) eNil))) (eCons (eV 10) eNil))))))
    (sRet (eC (.bl false)))
    sSkip)
    (sSeq (sAsg (gV 12) (eCall f_write_count (eCons (eV 3) (eCons (eV 10) eNil))))
    (sSeq (sIf (tOr (tNot (tE (e1 (isTy .str) (eV 12)))) (tOr (tE (e2 neD (eCall f__law_value (eCons (eV 3) (eCons (eV 12) (eCons (eC (.int 1)) eNil)))) (eV 10))) (tNot (tE (eCall (f__law_same 12) (eCons (eCall f_read_count (eCons (eV 3) (eCons (eV 12) eNil))) (eCons (eV 10) eNil)))))))
    (sRet (eC (.bl false)))
    sSkip)
    (sSeq (sApp 9 (eTup (eCons (eV 10) (eCons (e1 lenD (eV 12)) (eCons (eComp (iOf (eV 12)) [23] (gV 23) tYes (eM1 indexD (eV 3) (eV 23))) eNil)))))
    (sIf (tAnd (tE (e2 geD (e1 lenD (eV 4)) (e1 lenD (eV 3)))) (tE (e2 neD (eCall f_told (eCons (eComp (iR1 (e1 lenD (eV 3))) [18] (gV 18) tYes (eTup (eCons (e2 idxD (eV 3) (eV 18)) (eCons (e2 idxD (eV 4) (eV 18)) eNil)))) (eCons (eV 11) eNil))) (eCall f__law_written (eCons (eSli (pS (eC (.int 0))) (pS (e1 lenD (eV 3))) (eV 4)) (eCons (eV 10) eNil))))))
    (sRet (eC (.bl false)))
    sSkip)))))))
def t_law_10 : SM := (sFor (iOf (eV 9)) (gTup 3 (gCons (gV 10) (gCons (gV 13) (gCons (gV 14) gNil))))
    (sFor (iOf (eV 9)) (gTup 3 (gCons (gV 15) (gCons (gV 16) (gCons (gV 17) gNil))))
    (sIf (tE (e2 neD (e2 ltD (eV 10) (eV 15)) (eOr (e2 ltD (eV 13) (eV 16)) (eAnd (e2 eqD (eV 13) (eV 16)) (e2 ltD (eV 14) (eV 17))))))
    (sRet (eC (.bl false)))
    sSkip)))
def t_law_11 : SM := (sFor (iR1 (eC (.int 3))) (gV 18)
    (sSeq (sAsg (gV 7) (eCall f__law_numbers (eCons (eCall f__law_cell (eCons (eV 0) (eCons (e2 addD (eC (.int 2)) (eV 18)) eNil))) (eCons (eC (.int 62)) (eCons (eC (.int 5040)) eNil)))))
    (sSeq (sAsg (gV 19) (e2 idxD (eLst (eCons (eV 3) (eCons (e2 addD (eV 3) (eC (.str [126]))) (eCons (e2 addD (eSli (pS (eC (.int 0))) (pS (eC (.int 3))) (eV 3)) (eC (.str [32, 45]))) eNil)))) (e2 modD (e2 idxD (eV 7) (eC (.int 0))) (eC (.int 3)))))
    (sSeq (sAsg (gV 20) (eM1 joinD (eC (.str [])) (eComp (iR1 (e2 modD (e2 idxD (eV 7) (eC (.int 1))) (eC (.int 61)))) [22] (gV 22) tYes (e2 idxD (eV 19) (e2 modD (e2 idxD (eV 7) (e2 addD (eC (.int 2)) (eV 22))) (e1 lenD (eV 19)))))))
    (sSeq (sIf (tNot (tE (eCall (f__law_same 12) (eCons (eCall f__law_asked (eCons (eV 3) (eCons (eV 20) eNil))) (eCons (eCall f__law_read (eCons (eV 3) (eCons (eV 20) eNil))) eNil)))))
    (sRet (eC (.bl false)))
    sSkip)
    (sSeq (sIf (tNot (tE (eCall (f__law_same 12) (eCons (eCall f__law_counted (eCons (eV 3) (eCons (eV 20) eNil))) (eCons (eCall f__law_value (eCons (eV 3) (eCons (eV 20) (eCons (eC (.int 1)) eNil)))) eNil)))))
    (sRet (eC (.bl false)))
    sSkip)
    (sSeq (sAsg (gV 21) (eCall f__law_change (eCons (eV 3) (eCons (eV 4) (eCons (eV 20) eNil)))))
    (sSeq (sIf (tNot (tE (eCall (f__law_same 12) (eCons (eCall f_change_figures (eCons (eV 3) (eCons (eV 4) (eCons (eV 20) eNil)))) (eCons (eV 21) eNil)))))
    (sRet (eC (.bl false)))
    sSkip)
    (sIf (tAnd (tE (e2 eqD (e1 lenD (eComp (iOf (eV 20)) [23] (gV 23) (tE (e2 inD (eV 23) (eV 4))) (eV 23))) (eC (.int 0)))) (tE (e2 neD (eCall f_change_figures (eCons (eV 4) (eCons (eV 3) (eCons (eV 21) eNil)))) (eV 20))))
    (sRet (eC (.bl false)))
    sSkip)))))))))
def b_law : SM := (sSeq t_law_0
    (sSeq (sAsg (gV 2) (eCall f__law_pool (eCons (e2 idxD (eV 1) (eC (.int 0))) eNil)))
    (sSeq t_law_2
    (sSeq t_law_3
    (sSeq (sAsg (gV 5) (e2 modD (e2 idxD (eV 1) (eC (.int 4))) (e1 lenD (eV 3))))
    (sSeq t_law_5
    (sSeq t_law_6
    (sSeq t_law_7
    (sSeq (sNew 9 (eLst eNil))
    (sSeq t_law_9
    (sSeq t_law_10
    (sSeq t_law_11
    (sRet (eC (.bl true)))))))))))))))
noncomputable def f_law : List Dat → R Dat := run 24 b_law
end
end PL.K51

set_option maxRecDepth 100000
set_option maxHeartbeats 4000000
namespace PL.K51
open PySem PySem.Spec PyProof.Rows L2
set_option autoImplicit false
noncomputable section
def top (i : Nat) : Stmt := PySem.Challenge.pw_lettersacross_k51_figures_there_and_back.main.body.getD i (.Pass ⟨0, 0, 0, 0⟩)
abbrev s_check_figures : Stmt := top 9
abbrev s_check_number : Stmt := top 10
abbrev s_write_number : Stmt := top 11
abbrev s_value : Stmt := top 12
abbrev s_is_written : Stmt := top 13
abbrev s_read_number : Stmt := top 14
abbrev s_write_count : Stmt := top 15
abbrev s_read_count : Stmt := top 16
abbrev s_changed : Stmt := top 17
abbrev s_change_figures : Stmt := top 18
abbrev s_longest_at : Stmt := top 20
abbrev s_parse : Stmt := top 21
abbrev s_told : Stmt := top 22
abbrev s__law_cell : Stmt := top 24
abbrev s__law_numbers : Stmt := top 25
abbrev s__law_same : Stmt := top 26
abbrev s__law_pool : Stmt := top 27
abbrev s__law_written : Stmt := top 28
abbrev s__law_value : Stmt := top 29
abbrev s__law_read : Stmt := top 30
abbrev s__law_asked : Stmt := top 31
abbrev s__law_counted : Stmt := top 32
abbrev s__law_refused : Stmt := top 33
abbrev s__law_checked : Stmt := top 34
abbrev s__law_change : Stmt := top 35
abbrev s__law_drawn : Stmt := top 36
abbrev s_law : Stmt := top 37
structure Txt (K : KF) (mg : Str → Option Value) (EC : Nat → Addr) (fa : Nat → Addr) (fd : Nat → FuncData) : Prop where
  F0 : Fun K "check_figures" "check_figures" s_check_figures (fa 0) (fd 0)
  g0 : mg "check_figures" = some (.ref (fa 0))
  k0 : PySem.W.keepIn K (.ref (fa 0)) = true
  b0 : Binds K (fd 0) ["figures"] []
  F1 : Fun K "check_number" "check_number" s_check_number (fa 1) (fd 1)
  g1 : mg "check_number" = some (.ref (fa 1))
  k1 : PySem.W.keepIn K (.ref (fa 1)) = true
  b1 : Binds K (fd 1) ["number"] []
  F2 : Fun K "write_number" "write_number" s_write_number (fa 2) (fd 2)
  g2 : mg "write_number" = some (.ref (fa 2))
  k2 : PySem.W.keepIn K (.ref (fa 2)) = true
  b2 : Binds K (fd 2) ["figures", "number"] []
  F3 : Fun K "value" "value" s_value (fa 3) (fd 3)
  g3 : mg "value" = some (.ref (fa 3))
  k3 : PySem.W.keepIn K (.ref (fa 3)) = true
  b3 : Binds K (fd 3) ["figures", "text"] []
  F4 : Fun K "is_written" "is_written" s_is_written (fa 4) (fd 4)
  g4 : mg "is_written" = some (.ref (fa 4))
  k4 : PySem.W.keepIn K (.ref (fa 4)) = true
  b4 : Binds K (fd 4) ["figures", "text"] []
  F5 : Fun K "read_number" "read_number" s_read_number (fa 5) (fd 5)
  g5 : mg "read_number" = some (.ref (fa 5))
  k5 : PySem.W.keepIn K (.ref (fa 5)) = true
  b5 : Binds K (fd 5) ["figures", "text"] []
  F6 : Fun K "write_count" "write_count" s_write_count (fa 6) (fd 6)
  g6 : mg "write_count" = some (.ref (fa 6))
  k6 : PySem.W.keepIn K (.ref (fa 6)) = true
  b6 : Binds K (fd 6) ["figures", "number"] []
  F7 : Fun K "read_count" "read_count" s_read_count (fa 7) (fd 7)
  g7 : mg "read_count" = some (.ref (fa 7))
  k7 : PySem.W.keepIn K (.ref (fa 7)) = true
  b7 : Binds K (fd 7) ["figures", "text"] []
  F8 : Fun K "changed" "changed" s_changed (fa 8) (fd 8)
  g8 : mg "changed" = some (.ref (fa 8))
  k8 : PySem.W.keepIn K (.ref (fa 8)) = true
  b8 : Binds K (fd 8) ["one", "other", "piece"] []
  F9 : Fun K "change_figures" "change_figures" s_change_figures (fa 9) (fd 9)
  g9 : mg "change_figures" = some (.ref (fa 9))
  k9 : PySem.W.keepIn K (.ref (fa 9)) = true
  b9 : Binds K (fd 9) ["one", "other", "text"] []
  F10 : Fun K "longest_at" "longest_at" s_longest_at (fa 10) (fd 10)
  g10 : mg "longest_at" = some (.ref (fa 10))
  k10 : PySem.W.keepIn K (.ref (fa 10)) = true
  b10 : Binds K (fd 10) ["table", "text", "place"] []
  F11 : Fun K "parse" "parse" s_parse (fa 11) (fd 11)
  g11 : mg "parse" = some (.ref (fa 11))
  k11 : PySem.W.keepIn K (.ref (fa 11)) = true
  b11 : Binds K (fd 11) ["table", "text"] []
  F12 : Fun K "told" "told" s_told (fa 12) (fd 12)
  g12 : mg "told" = some (.ref (fa 12))
  k12 : PySem.W.keepIn K (.ref (fa 12)) = true
  b12 : Binds K (fd 12) ["table", "text"] []
  F13 : Fun K "_law_cell" "_law_cell" s__law_cell (fa 13) (fd 13)
  g13 : mg "_law_cell" = some (.ref (fa 13))
  k13 : PySem.W.keepIn K (.ref (fa 13)) = true
  b13 : Binds K (fd 13) ["script", "k"] []
  F14 : Fun K "_law_numbers" "_law_numbers" s__law_numbers (fa 14) (fd 14)
  g14 : mg "_law_numbers" = some (.ref (fa 14))
  k14 : PySem.W.keepIn K (.ref (fa 14)) = true
  b14 : Binds K (fd 14) ["cell", "count", "limit"] []
  F15 : Fun K "_law_same" "_law_same" s__law_same (fa 15) (fd 15)
  g15 : mg "_law_same" = some (.ref (fa 15))
  k15 : PySem.W.keepIn K (.ref (fa 15)) = true
  b15 : Binds K (fd 15) ["answer", "due"] []
  F16 : Fun K "_law_pool" "_law_pool" s__law_pool (fa 16) (fd 16)
  g16 : mg "_law_pool" = some (.ref (fa 16))
  k16 : PySem.W.keepIn K (.ref (fa 16)) = true
  b16 : Binds K (fd 16) ["draw"] []
  F17 : Fun K "_law_written" "_law_written" s__law_written (fa 17) (fd 17)
  g17 : mg "_law_written" = some (.ref (fa 17))
  k17 : PySem.W.keepIn K (.ref (fa 17)) = true
  b17 : Binds K (fd 17) ["figures", "number"] []
  F18 : Fun K "_law_value" "_law_value" s__law_value (fa 18) (fd 18)
  g18 : mg "_law_value" = some (.ref (fa 18))
  k18 : PySem.W.keepIn K (.ref (fa 18)) = true
  b18 : Binds K (fd 18) ["figures", "text", "first"] []
  F19 : Fun K "_law_read" "_law_read" s__law_read (fa 19) (fd 19)
  g19 : mg "_law_read" = some (.ref (fa 19))
  k19 : PySem.W.keepIn K (.ref (fa 19)) = true
  b19 : Binds K (fd 19) ["figures", "text"] []
  F20 : Fun K "_law_asked" "_law_asked" s__law_asked (fa 20) (fd 20)
  g20 : mg "_law_asked" = some (.ref (fa 20))
  k20 : PySem.W.keepIn K (.ref (fa 20)) = true
  b20 : Binds K (fd 20) ["figures", "text"] []
  F21 : Fun K "_law_counted" "_law_counted" s__law_counted (fa 21) (fd 21)
  g21 : mg "_law_counted" = some (.ref (fa 21))
  k21 : PySem.W.keepIn K (.ref (fa 21)) = true
  b21 : Binds K (fd 21) ["figures", "text"] []
  F22 : Fun K "_law_refused" "_law_refused" s__law_refused (fa 22) (fd 22)
  g22 : mg "_law_refused" = some (.ref (fa 22))
  k22 : PySem.W.keepIn K (.ref (fa 22)) = true
  b22 : Binds K (fd 22) ["figures", "number"] []
  F23 : Fun K "_law_checked" "_law_checked" s__law_checked (fa 23) (fd 23)
  g23 : mg "_law_checked" = some (.ref (fa 23))
  k23 : PySem.W.keepIn K (.ref (fa 23)) = true
  b23 : Binds K (fd 23) ["figures"] []
  F24 : Fun K "_law_change" "_law_change" s__law_change (fa 24) (fd 24)
  g24 : mg "_law_change" = some (.ref (fa 24))
  k24 : PySem.W.keepIn K (.ref (fa 24)) = true
  b24 : Binds K (fd 24) ["one", "other", "text"] []
  F25 : Fun K "_law_drawn" "_law_drawn" s__law_drawn (fa 25) (fd 25)
  g25 : mg "_law_drawn" = some (.ref (fa 25))
  k25 : PySem.W.keepIn K (.ref (fa 25)) = true
  b25 : Binds K (fd 25) ["script", "at", "base"] []
  F26 : Fun K "law" "law" s_law (fa 26) (fd 26)
  g26 : mg "law" = some (.ref (fa 26))
  k26 : PySem.W.keepIn K (.ref (fa 26)) = true
  b26 : Binds K (fd 26) ["script"] []
  z_all : mg "all" = none
  z_bool : mg "bool" = none
  z_enumerate : mg "enumerate" = none
  z_int : mg "int" = none
  z_isinstance : mg "isinstance" = none
  z_len : mg "len" = none
  z_list : mg "list" = none
  z_range : mg "range" = none
  z_str : mg "str" = none
  z_tuple : mg "tuple" = none
  c_GREATEST : ModC K mg "GREATEST" d_GREATEST
  c_MOST_FIGURES : ModC K mg "MOST_FIGURES" d_MOST_FIGURES
  er : Errs K EC sub
  e_ScriptError : mg "ScriptError" = some (.ref (EC 0))
  e_NotTold : mg "NotTold" = some (.ref (EC 1))
  e_InvalidFigures : mg "InvalidFigures" = some (.ref (EC 2))
  e_NumberOutOfRange : mg "NumberOutOfRange" = some (.ref (EC 3))
  e_NotNumber : mg "NotNumber" = some (.ref (EC 4))
variable {P : Program} {w : World} {K : KF} {mg : Str → Option Value} {base : Heap} {EC : Nat → Addr} {fa : Nat → Addr} {fd : Nat → FuncData}
abbrev N_check_figures : List Str := ["figures", "known", "sign"]
theorem ok_check_figures (T : Txt K mg EC fa fd) : FnOk P w K mg base (L2.CX P w) 1 (fa 0) (fd 0) ["figures"] (spM K EC 1 f_check_figures) := by
  unfold f_check_figures b_check_figures
  refine fn_ok (k := 0) (N := N_check_figures) (own' := [1]) T.F0 (C8.fnScope_by (by decide +kernel)) rfl (by decide) (fun cdv A outer s H E Z hr => ?_)
  have V : Scp (cxOf (L2.CX P w) P w K mg base N_check_figures "check_figures" (defScope s_check_figures) (fa 0) cdv A outer s H E) [0, 1, 2] [0, 1, 2] ["InvalidFigures", "len", "MOST_FIGURES"] := scp_def (by decide +kernel)
  have tk := tk_def (P := P) (w := w) (K := K) (mg := mg) (base := base) (N := N_check_figures) (qual := "check_figures") (scope := defScope s_check_figures) (f := fa 0) (cd := cdv) (A := A) (outer := outer) (s := s) (H := H) (E := E)
  have hp := ps_def (P := P) (w := w) (K := K) (mg := mg) (base := base) (N := N_check_figures) (qual := "check_figures") (scope := defScope s_check_figures) (f := fa 0) (cd := cdv) (A := A) (outer := outer) (s := s) (H := H) (E := E)
  have hu := hr.units
  have hu1 := hu_of hr
  exact (qs_cons (own1 := [1]) (sN 1 V (by decide) rfl q_dic0 (ho := rfl))
    (qs_cons (own1 := [1]) (qs_for (own' := [1]) (own1 := [1]) (ts := [2]) hp rfl (qi_of rfl (xV 0 V (by decide) rfl (by decide) rfl)) (by decide) (gV' 2 V (by decide) rfl rfl (by decide))
    (qs_cons (own1 := [1]) (qs_if (qw_or (qt_not (qt_chain ck_le ck_le (q_sh (q_str (by decide +kernel))) (xS 2 V (by decide) rfl rfl) (q_sh (q_str (by decide +kernel))))) (qw_or1 (qt_cmpO (ck_in rfl hu) (xS 2 V (by decide) rfl rfl) (xS 1 V (by decide) rfl rfl) rfl))).pt
    (qs_one (sRse 2 0 V rfl tk T.er rfl T.e_InvalidFigures))
    qs_nil)
    (qs_one (sPutE 1 V (by decide) rfl hu (by decide) (xS 2 V (by decide) rfl rfl) q_bl))) (hK := rfl))
    (qs_one (qs_if (qt_not (qt_chain ck_le ck_le (q_sh q_int) (q_sh (cB1 (B_len rfl) 1 V rfl T.z_len (xS 0 V (by decide) rfl rfl))) (q_sh (xG 2 V rfl T.c_MOST_FIGURES))))
    (qs_one (sRse 2 0 V rfl tk T.er rfl T.e_InvalidFigures))
    qs_nil))))
abbrev N_check_number : List Str := ["number"]
theorem ok_check_number (T : Txt K mg EC fa fd) : FnOk P w K mg base (L2.CX P w) 1 (fa 1) (fd 1) ["number"] (spM K EC 1 f_check_number) := by
  unfold f_check_number b_check_number
  refine fn_ok (k := 0) (N := N_check_number) (own' := []) T.F1 (C8.fnScope_by (by decide +kernel)) rfl (by decide) (fun cdv A outer s H E Z hr => ?_)
  have V : Scp (cxOf (L2.CX P w) P w K mg base N_check_number "check_number" (defScope s_check_number) (fa 1) cdv A outer s H E) [0] [0] ["GREATEST", "NumberOutOfRange"] := scp_def (by decide +kernel)
  have tk := tk_def (P := P) (w := w) (K := K) (mg := mg) (base := base) (N := N_check_number) (qual := "check_number") (scope := defScope s_check_number) (f := fa 1) (cd := cdv) (A := A) (outer := outer) (s := s) (H := H) (E := E)
  have hp := ps_def (P := P) (w := w) (K := K) (mg := mg) (base := base) (N := N_check_number) (qual := "check_number") (scope := defScope s_check_number) (f := fa 1) (cd := cdv) (A := A) (outer := outer) (s := s) (H := H) (E := E)
  have hu := hr.units
  have hu1 := hu_of hr
  exact (qs_one (qs_if (qt_not (qt_chain ck_le ck_le (q_sh q_int) (xS 0 V (by decide) rfl rfl) (q_sh (xG 0 V rfl T.c_GREATEST))))
    (qs_one (sRse 3 1 V rfl tk T.er rfl T.e_NumberOutOfRange))
    qs_nil))
abbrev N_write_number : List Str := ["figures", "number", "base", "out"]
theorem ok_write_number (T : Txt K mg EC fa fd) : FnOk P w K mg base (L2.CX P w) 2 (fa 2) (fd 2) ["figures", "number"] (spM K EC 2 f_write_number) := by
  unfold f_write_number b_write_number
  refine fn_ok (k := 1) (N := N_write_number) (own' := []) T.F2 (C8.fnScope_by (by decide +kernel)) rfl (by decide) (fun cdv A outer s H E Z hr => ?_)
  have V : Scp (cxOf (L2.CX P w) P w K mg base N_write_number "write_number" (defScope s_write_number) (fa 2) cdv A outer s H E) [0, 1, 2, 3] [0, 1, 2, 3] ["check_number", "len"] := scp_def (by decide +kernel)
  have tk := tk_def (P := P) (w := w) (K := K) (mg := mg) (base := base) (N := N_write_number) (qual := "write_number") (scope := defScope s_write_number) (f := fa 2) (cd := cdv) (A := A) (outer := outer) (s := s) (H := H) (E := E)
  have hp := ps_def (P := P) (w := w) (K := K) (mg := mg) (base := base) (N := N_write_number) (qual := "write_number") (scope := defScope s_write_number) (f := fa 2) (cd := cdv) (A := A) (outer := outer) (s := s) (H := H) (E := E)
  have hu := hr.units
  have hu1 := hu_of hr
  exact (qs_cons (own1 := []) (qs_drop (cDef 0 V (ok_check_number T) rfl hr (by first | decide | omega) rfl T.g1 T.k1 T.b1 tk (qa_cons (xV 1 V (by decide) rfl (by decide) rfl) qa_nil) (lnS ln0)))
    (qs_cons (own1 := []) (sA (ts := [2]) (q_frz (cB1 (B_len rfl) 1 V rfl T.z_len (xS 0 V (by decide) rfl rfl))) (gV' 2 V (by decide) rfl rfl (by decide)))
    (qs_cons (own1 := []) (sA (ts := [3]) (q_idx rfl hu1 (xS 0 V (by decide) rfl rfl) (q_sh (q_mod (xS 1 V (by decide) rfl rfl) (xS 2 V (by decide) rfl rfl))) (fun _ _ => rfl)) (gV' 3 V (by decide) rfl rfl (by decide)))
    (qs_cons (own1 := []) (sA (ts := [1]) (q_frz (q_fdiv (xS 1 V (by decide) rfl rfl) (xS 2 V (by decide) rfl rfl))) (gV' 1 V (by decide) rfl rfl (by decide)))
    (qs_cons (own1 := []) (qs_whl (own' := []) hp (by decide) (qt_cmpO ck_gt (xS 1 V (by decide) rfl rfl) (q_sh q_int) rfl)
    (qs_cons (own1 := []) (sA (ts := [3]) (q_frz (q_add rfl (q_sh (q_idx rfl hu1 (xS 0 V (by decide) rfl rfl) (q_sh (q_mod (xS 1 V (by decide) rfl rfl) (xS 2 V (by decide) rfl rfl))) (fun _ _ => rfl))) (xS 3 V (by decide) rfl rfl))) (gV' 3 V (by decide) rfl rfl (by decide)))
    (qs_one (sA (ts := [1]) (q_frz (q_fdiv (xS 1 V (by decide) rfl rfl) (xS 2 V (by decide) rfl rfl))) (gV' 1 V (by decide) rfl rfl (by decide))))))
    (qs_one (qs_ret (xV 3 V (by decide) rfl (by decide) rfl))))))))
abbrev N_value : List Str := ["figures", "text", "number", "sign"]
theorem ok_value (T : Txt K mg EC fa fd) : FnOk P w K mg base (L2.CX P w) 1 (fa 3) (fd 3) ["figures", "text"] (spM K EC 2 f_value) := by
  unfold f_value b_value
  refine fn_ok (k := 0) (N := N_value) (own' := []) T.F3 (C8.fnScope_by (by decide +kernel)) rfl (by decide) (fun cdv A outer s H E Z hr => ?_)
  have V : Scp (cxOf (L2.CX P w) P w K mg base N_value "value" (defScope s_value) (fa 3) cdv A outer s H E) [0, 1, 2, 3] [0, 1, 2, 3] ["len"] := scp_def (by decide +kernel)
  have tk := tk_def (P := P) (w := w) (K := K) (mg := mg) (base := base) (N := N_value) (qual := "value") (scope := defScope s_value) (f := fa 3) (cd := cdv) (A := A) (outer := outer) (s := s) (H := H) (E := E)
  have hp := ps_def (P := P) (w := w) (K := K) (mg := mg) (base := base) (N := N_value) (qual := "value") (scope := defScope s_value) (f := fa 3) (cd := cdv) (A := A) (outer := outer) (s := s) (H := H) (E := E)
  have hu := hr.units
  have hu1 := hu_of hr
  exact (qs_cons (own1 := []) (sA (ts := [2]) q_int (gV' 2 V (by decide) rfl rfl (by decide)))
    (qs_cons (own1 := []) (qs_for (own' := []) (own1 := []) (ts := [3]) hp rfl (qi_of rfl (xV 1 V (by decide) rfl (by decide) rfl)) (by decide) (gV' 3 V (by decide) rfl rfl (by decide))
    (qs_one (sA (ts := [2]) (q_frz (q_add rfl (q_sh (q_mulA rfl (xS 2 V (by decide) rfl rfl) (q_sh (cB1 (B_len rfl) 0 V rfl T.z_len (xS 0 V (by decide) rfl rfl))))) (q_sh (q_index (xS 0 V (by decide) rfl rfl) (xS 3 V (by decide) rfl rfl))))) (gV' 2 V (by decide) rfl rfl (by decide)))) (hK := rfl))
    (qs_one (qs_ret (xV 2 V (by decide) rfl (by decide) rfl)))))
abbrev N_is_written : List Str := ["figures", "text"]
theorem ok_is_written (T : Txt K mg EC fa fd) : FnOk P w K mg base (L2.CX P w) 2 (fa 4) (fd 4) ["figures", "text"] (spM K EC 2 f_is_written) := by
  unfold f_is_written b_is_written
  refine fn_ok (k := 1) (N := N_is_written) (own' := []) T.F4 (C8.fnScope_by (by decide +kernel)) rfl (by decide) (fun cdv A outer s H E Z hr => ?_)
  have V : Scp (cxOf (L2.CX P w) P w K mg base N_is_written "is_written" (defScope s_is_written) (fa 4) cdv A outer s H E) [0, 1] [0, 1] ["value", "GREATEST"] := scp_def (by decide +kernel)
  have tk := tk_def (P := P) (w := w) (K := K) (mg := mg) (base := base) (N := N_is_written) (qual := "is_written") (scope := defScope s_is_written) (f := fa 4) (cd := cdv) (A := A) (outer := outer) (s := s) (H := H) (E := E)
  have hp := ps_def (P := P) (w := w) (K := K) (mg := mg) (base := base) (N := N_is_written) (qual := "is_written") (scope := defScope s_is_written) (f := fa 4) (cd := cdv) (A := A) (outer := outer) (s := s) (H := H) (E := E)
  have hu := hr.units
  have hu1 := hu_of hr
  exact (qs_cons (own1 := []) (qs_if (qw_or (qt_cmpO (ck_eq rfl hu) (xS 1 V (by decide) rfl rfl) (q_sh (q_str (by decide +kernel))) rfl) (qw_or1 (qw_and (qt_cmpO (ck_ne rfl hu) (xS 1 V (by decide) rfl rfl) (q_sh (q_idx rfl hu1 (xS 0 V (by decide) rfl rfl) (q_sh q_int) (fun _ _ => rfl))) rfl) (qw_and1 (qt_cmpO (ck_eq rfl hu) (q_sh (q_idx rfl hu1 (xS 1 V (by decide) rfl rfl) (q_sh q_int) (fun _ _ => rfl))) (q_sh (q_idx rfl hu1 (xS 0 V (by decide) rfl rfl) (q_sh q_int) (fun _ _ => rfl))) rfl))).pt)).pt
    (qs_one (qs_ret q_bl))
    qs_nil)
    (qs_one (qs_ret (q_frz (q_cmpO ck_le (q_sh (cDef 0 V (ok_value T) rfl hr (by first | decide | omega) rfl T.g3 T.k3 T.b3 tk (qa_cons (xV 0 V (by decide) rfl (by decide) rfl) (qa_cons (xV 1 V (by decide) rfl (by decide) rfl) qa_nil)) (lnS (lnS ln0)))) (q_sh (xG 1 V rfl T.c_GREATEST)) rfl)))))
abbrev N_read_number : List Str := ["figures", "text", "sign"]
theorem ok_read_number (T : Txt K mg EC fa fd) : FnOk P w K mg base (L2.CX P w) 3 (fa 5) (fd 5) ["figures", "text"] (spM K EC 2 f_read_number) := by
  unfold f_read_number b_read_number
  refine fn_ok (k := 2) (N := N_read_number) (own' := []) T.F5 (C8.fnScope_by (by decide +kernel)) rfl (by decide) (fun cdv A outer s H E Z hr => ?_)
  have V : Scp (cxOf (L2.CX P w) P w K mg base N_read_number "read_number" (defScope s_read_number) (fa 5) cdv A outer s H E) [0, 1] [0, 1] ["all", "is_written", "NotNumber", "value"] := scp_def (by decide +kernel)
  have tk := tk_def (P := P) (w := w) (K := K) (mg := mg) (base := base) (N := N_read_number) (qual := "read_number") (scope := defScope s_read_number) (f := fa 5) (cd := cdv) (A := A) (outer := outer) (s := s) (H := H) (E := E)
  have hp := ps_def (P := P) (w := w) (K := K) (mg := mg) (base := base) (N := N_read_number) (qual := "read_number") (scope := defScope s_read_number) (f := fa 5) (cd := cdv) (A := A) (outer := outer) (s := s) (H := H) (E := E)
  have hu := hr.units
  have hu1 := hu_of hr
  exact (qs_cons (own1 := []) (qs_if (qw_or (qt_not (qt_val (q_sh (cB1 (B_all rfl rfl) 0 V rfl T.z_all (q_sh (xLc V rfl (qi_of rfl (xV 1 V (by decide) rfl (by decide) rfl)) (ob := [("sign", 2)]) (okD (N := N_read_number) (by decide +kernel)) rfl rfl (N := N_read_number) (vis1 := [0, 2]) (loc1 := [2]) (gls1 := []) (by decide +kernel) rfl (fun _ _ _ _ _ V1 => (gV' 2 V1 (by decide) rfl rfl (by decide))) (fun _ _ _ _ _ V1 => qts_nil) (fun _ _ _ _ _ V1 => (q_frz (q_cmpO (ck_in rfl hu) (xS 2 V1 (by decide) rfl rfl) (xS 0 V1 (by decide) rfl rfl) rfl))))))))) (qw_or1 (qt_not (qt_val (q_sh (cDef 1 V (ok_is_written T) rfl hr (by first | decide | omega) rfl T.g4 T.k4 T.b4 tk (qa_cons (xV 0 V (by decide) rfl (by decide) rfl) (qa_cons (xV 1 V (by decide) rfl (by decide) rfl) qa_nil)) (lnS (lnS ln0)))))))).pt
    (qs_one (sRse 4 2 V rfl tk T.er rfl T.e_NotNumber))
    qs_nil)
    (qs_one (qs_ret (cDef 3 V (ok_value T) rfl hr (by first | decide | omega) rfl T.g3 T.k3 T.b3 tk (qa_cons (xV 0 V (by decide) rfl (by decide) rfl) (qa_cons (xV 1 V (by decide) rfl (by decide) rfl) qa_nil)) (lnS (lnS ln0))))))
abbrev N_write_count : List Str := ["figures", "number", "base", "out"]
theorem ok_write_count (T : Txt K mg EC fa fd) : FnOk P w K mg base (L2.CX P w) 2 (fa 6) (fd 6) ["figures", "number"] (spM K EC 2 f_write_count) := by
  unfold f_write_count b_write_count
  refine fn_ok (k := 1) (N := N_write_count) (own' := []) T.F6 (C8.fnScope_by (by decide +kernel)) rfl (by decide) (fun cdv A outer s H E Z hr => ?_)
  have V : Scp (cxOf (L2.CX P w) P w K mg base N_write_count "write_count" (defScope s_write_count) (fa 6) cdv A outer s H E) [0, 1, 2, 3] [0, 1, 2, 3] ["check_number", "len"] := scp_def (by decide +kernel)
  have tk := tk_def (P := P) (w := w) (K := K) (mg := mg) (base := base) (N := N_write_count) (qual := "write_count") (scope := defScope s_write_count) (f := fa 6) (cd := cdv) (A := A) (outer := outer) (s := s) (H := H) (E := E)
  have hp := ps_def (P := P) (w := w) (K := K) (mg := mg) (base := base) (N := N_write_count) (qual := "write_count") (scope := defScope s_write_count) (f := fa 6) (cd := cdv) (A := A) (outer := outer) (s := s) (H := H) (E := E)
  have hu := hr.units
  have hu1 := hu_of hr
  exact (qs_cons (own1 := []) (qs_drop (cDef 0 V (ok_check_number T) rfl hr (by first | decide | omega) rfl T.g1 T.k1 T.b1 tk (qa_cons (xV 1 V (by decide) rfl (by decide) rfl) qa_nil) (lnS ln0)))
    (qs_cons (own1 := []) (sA (ts := [2]) (q_frz (cB1 (B_len rfl) 1 V rfl T.z_len (xS 0 V (by decide) rfl rfl))) (gV' 2 V (by decide) rfl rfl (by decide)))
    (qs_cons (own1 := []) (sA (ts := [3]) (q_str (by decide +kernel)) (gV' 3 V (by decide) rfl rfl (by decide)))
    (qs_cons (own1 := []) (qs_whl (own' := []) hp (by decide) (qt_cmpO ck_gt (xS 1 V (by decide) rfl rfl) (q_sh q_int) rfl)
    (qs_cons (own1 := []) (sA (ts := [3]) (q_frz (q_add rfl (q_sh (q_idx rfl hu1 (xS 0 V (by decide) rfl rfl) (q_sh (q_mod (q_sh (q_sub (xS 1 V (by decide) rfl rfl) (q_sh q_int))) (xS 2 V (by decide) rfl rfl))) (fun _ _ => rfl))) (xS 3 V (by decide) rfl rfl))) (gV' 3 V (by decide) rfl rfl (by decide)))
    (qs_one (sA (ts := [1]) (q_frz (q_fdiv (q_sh (q_sub (xS 1 V (by decide) rfl rfl) (q_sh q_int))) (xS 2 V (by decide) rfl rfl))) (gV' 1 V (by decide) rfl rfl (by decide))))))
    (qs_one (qs_ret (xV 3 V (by decide) rfl (by decide) rfl)))))))
abbrev N_read_count : List Str := ["figures", "text", "number", "sign"]
theorem ok_read_count (T : Txt K mg EC fa fd) : FnOk P w K mg base (L2.CX P w) 1 (fa 7) (fd 7) ["figures", "text"] (spM K EC 2 f_read_count) := by
  unfold f_read_count b_read_count
  refine fn_ok (k := 0) (N := N_read_count) (own' := []) T.F7 (C8.fnScope_by (by decide +kernel)) rfl (by decide) (fun cdv A outer s H E Z hr => ?_)
  have V : Scp (cxOf (L2.CX P w) P w K mg base N_read_count "read_count" (defScope s_read_count) (fa 7) cdv A outer s H E) [0, 1, 2, 3] [0, 1, 2, 3] ["NotNumber", "len"] := scp_def (by decide +kernel)
  have tk := tk_def (P := P) (w := w) (K := K) (mg := mg) (base := base) (N := N_read_count) (qual := "read_count") (scope := defScope s_read_count) (f := fa 7) (cd := cdv) (A := A) (outer := outer) (s := s) (H := H) (E := E)
  have hp := ps_def (P := P) (w := w) (K := K) (mg := mg) (base := base) (N := N_read_count) (qual := "read_count") (scope := defScope s_read_count) (f := fa 7) (cd := cdv) (A := A) (outer := outer) (s := s) (H := H) (E := E)
  have hu := hr.units
  have hu1 := hu_of hr
  exact (qs_cons (own1 := []) (sA (ts := [2]) q_int (gV' 2 V (by decide) rfl rfl (by decide)))
    (qs_cons (own1 := []) (qs_for (own' := []) (own1 := []) (ts := [3]) hp rfl (qi_of rfl (xV 1 V (by decide) rfl (by decide) rfl)) (by decide) (gV' 3 V (by decide) rfl rfl (by decide))
    (qs_cons (own1 := []) (qs_if (qt_cmpO (ck_notIn rfl hu) (xS 3 V (by decide) rfl rfl) (xS 0 V (by decide) rfl rfl) rfl)
    (qs_one (sRse 4 0 V rfl tk T.er rfl T.e_NotNumber))
    qs_nil)
    (qs_one (sA (ts := [2]) (q_frz (q_add rfl (q_sh (q_add rfl (q_sh (q_mulA rfl (xS 2 V (by decide) rfl rfl) (q_sh (cB1 (B_len rfl) 1 V rfl T.z_len (xS 0 V (by decide) rfl rfl))))) (q_sh (q_index (xS 0 V (by decide) rfl rfl) (xS 3 V (by decide) rfl rfl))))) (q_sh q_int))) (gV' 2 V (by decide) rfl rfl (by decide))))) (hK := rfl))
    (qs_one (qs_ret (xV 2 V (by decide) rfl (by decide) rfl)))))
abbrev N_changed : List Str := ["one", "other", "piece"]
theorem ok_changed (T : Txt K mg EC fa fd) : FnOk P w K mg base (L2.CX P w) 3 (fa 8) (fd 8) ["one", "other", "piece"] (spM K EC 3 f_changed) := by
  unfold f_changed b_changed
  refine fn_ok (k := 2) (N := N_changed) (own' := []) T.F8 (C8.fnScope_by (by decide +kernel)) rfl (by decide) (fun cdv A outer s H E Z hr => ?_)
  have V : Scp (cxOf (L2.CX P w) P w K mg base N_changed "changed" (defScope s_changed) (fa 8) cdv A outer s H E) [0, 1, 2] [0, 1, 2] ["is_written", "write_number", "value"] := scp_def (by decide +kernel)
  have tk := tk_def (P := P) (w := w) (K := K) (mg := mg) (base := base) (N := N_changed) (qual := "changed") (scope := defScope s_changed) (f := fa 8) (cd := cdv) (A := A) (outer := outer) (s := s) (H := H) (E := E)
  have hp := ps_def (P := P) (w := w) (K := K) (mg := mg) (base := base) (N := N_changed) (qual := "changed") (scope := defScope s_changed) (f := fa 8) (cd := cdv) (A := A) (outer := outer) (s := s) (H := H) (E := E)
  have hu := hr.units
  have hu1 := hu_of hr
  exact (qs_cons (own1 := []) (qs_if (qt_val (q_sh (cDef 0 V (ok_is_written T) rfl hr (by first | decide | omega) rfl T.g4 T.k4 T.b4 tk (qa_cons (xV 0 V (by decide) rfl (by decide) rfl) (qa_cons (xV 2 V (by decide) rfl (by decide) rfl) qa_nil)) (lnS (lnS ln0)))))
    (qs_one (qs_ret (cDef 1 V (ok_write_number T) rfl hr (by first | decide | omega) rfl T.g2 T.k2 T.b2 tk (qa_cons (xV 1 V (by decide) rfl (by decide) rfl) (qa_cons (cDef 2 V (ok_value T) rfl hr (by first | decide | omega) rfl T.g3 T.k3 T.b3 tk (qa_cons (xV 0 V (by decide) rfl (by decide) rfl) (qa_cons (xV 2 V (by decide) rfl (by decide) rfl) qa_nil)) (lnS (lnS ln0))) qa_nil)) (lnS (lnS ln0)))))
    qs_nil)
    (qs_one (qs_ret (xV 2 V (by decide) rfl (by decide) rfl))))
abbrev N_change_figures : List Str := ["one", "other", "text", "out", "piece", "sign"]
theorem ok_change_figures (T : Txt K mg EC fa fd) : FnOk P w K mg base (L2.CX P w) 4 (fa 9) (fd 9) ["one", "other", "text"] (spM K EC 3 f_change_figures) := by
  unfold f_change_figures b_change_figures
  refine fn_ok (k := 3) (N := N_change_figures) (own' := []) T.F9 (C8.fnScope_by (by decide +kernel)) rfl (by decide) (fun cdv A outer s H E Z hr => ?_)
  have V : Scp (cxOf (L2.CX P w) P w K mg base N_change_figures "change_figures" (defScope s_change_figures) (fa 9) cdv A outer s H E) [0, 1, 2, 3, 4, 5] [0, 1, 2, 3, 4, 5] ["changed"] := scp_def (by decide +kernel)
  have tk := tk_def (P := P) (w := w) (K := K) (mg := mg) (base := base) (N := N_change_figures) (qual := "change_figures") (scope := defScope s_change_figures) (f := fa 9) (cd := cdv) (A := A) (outer := outer) (s := s) (H := H) (E := E)
  have hp := ps_def (P := P) (w := w) (K := K) (mg := mg) (base := base) (N := N_change_figures) (qual := "change_figures") (scope := defScope s_change_figures) (f := fa 9) (cd := cdv) (A := A) (outer := outer) (s := s) (H := H) (E := E)
  have hu := hr.units
  have hu1 := hu_of hr
  exact (qs_cons (own1 := []) (sA (ts := [3]) (q_str (by decide +kernel)) (gV' 3 V (by decide) rfl rfl (by decide)))
    (qs_cons (own1 := []) (sA (ts := [4]) (q_str (by decide +kernel)) (gV' 4 V (by decide) rfl rfl (by decide)))
    (qs_cons (own1 := []) (qs_for (own' := []) (own1 := []) (ts := [5]) hp rfl (qi_of rfl (xV 2 V (by decide) rfl (by decide) rfl)) (by decide) (gV' 5 V (by decide) rfl rfl (by decide))
    (qs_one (qs_if (qt_cmpO (ck_in rfl hu) (xS 5 V (by decide) rfl rfl) (xS 0 V (by decide) rfl rfl) rfl)
    (qs_one (sAddE 4 V (by decide) rfl (by decide) rfl (xS 5 V (by decide) rfl rfl)))
    (qs_cons (own1 := []) (sAddE 3 V (by decide) rfl (by decide) rfl (q_sh (q_add rfl (q_sh (cDef 0 V (ok_changed T) rfl hr (by first | decide | omega) rfl T.g8 T.k8 T.b8 tk (qa_cons (xV 0 V (by decide) rfl (by decide) rfl) (qa_cons (xV 1 V (by decide) rfl (by decide) rfl) (qa_cons (xV 4 V (by decide) rfl (by decide) rfl) qa_nil))) (lnS (lnS (lnS ln0))))) (xS 5 V (by decide) rfl rfl))))
    (qs_one (sA (ts := [4]) (q_str (by decide +kernel)) (gV' 4 V (by decide) rfl rfl (by decide))))))) (hK := rfl))
    (qs_one (qs_ret (q_frz (q_add rfl (xS 3 V (by decide) rfl rfl) (q_sh (cDef 0 V (ok_changed T) rfl hr (by first | decide | omega) rfl T.g8 T.k8 T.b8 tk (qa_cons (xV 0 V (by decide) rfl (by decide) rfl) (qa_cons (xV 1 V (by decide) rfl (by decide) rfl) (qa_cons (xV 4 V (by decide) rfl (by decide) rfl) qa_nil))) (lnS (lnS (lnS ln0))))))))))))
abbrev N_longest_at : List Str := ["table", "text", "place", "best", "number", "item"]
theorem ok_longest_at (T : Txt K mg EC fa fd) : FnOk P w K mg base (L2.CX P w) 1 (fa 10) (fd 10) ["table", "text", "place"] (spM K EC 3 f_longest_at) := by
  unfold f_longest_at b_longest_at
  refine fn_ok (k := 0) (N := N_longest_at) (own' := []) T.F10 (C8.fnScope_by (by decide +kernel)) rfl (by decide) (fun cdv A outer s H E Z hr => ?_)
  have V : Scp (cxOf (L2.CX P w) P w K mg base N_longest_at "longest_at" (defScope s_longest_at) (fa 10) cdv A outer s H E) [0, 1, 2, 3, 4, 5] [0, 1, 2, 3, 4, 5] ["enumerate", "len"] := scp_def (by decide +kernel)
  have tk := tk_def (P := P) (w := w) (K := K) (mg := mg) (base := base) (N := N_longest_at) (qual := "longest_at") (scope := defScope s_longest_at) (f := fa 10) (cd := cdv) (A := A) (outer := outer) (s := s) (H := H) (E := E)
  have hp := ps_def (P := P) (w := w) (K := K) (mg := mg) (base := base) (N := N_longest_at) (qual := "longest_at") (scope := defScope s_longest_at) (f := fa 10) (cd := cdv) (A := A) (outer := outer) (s := s) (H := H) (E := E)
  have hu := hr.units
  have hu1 := hu_of hr
  exact (qs_cons (own1 := []) (sA (ts := [3]) q_non (gV' 3 V (by decide) rfl rfl (by decide)))
    (qs_cons (own1 := []) (qs_for (own' := []) (own1 := []) (ts := [4, 5]) hp rfl (iEnu 0 V rfl rfl T.z_enumerate (xV 0 V (by decide) rfl (by decide) rfl)) (by decide) (qg_tup rfl rfl (qgs_cons (gV' 4 V (by decide) rfl rfl (by decide)) (qgs_cons (gV' 5 V (by decide) rfl rfl (by decide)) qgs_nil)))
    (qs_one (qs_if (qw_and (qt_val (q_sh (q_startsAt rfl (xS 1 V (by decide) rfl rfl) (q_sh (q_idx rfl hu1 (xS 5 V (by decide) rfl rfl) (q_sh q_int) (fun _ _ => rfl))) (xS 2 V (by decide) rfl rfl)))) (qw_and1 (qw_or (qt_isN (xS 3 V (by decide) rfl rfl)) (qw_or1 (qt_cmpO ck_gt (q_sh (cB1 (B_len rfl) 1 V rfl T.z_len (q_sh (q_idx rfl hu1 (xS 5 V (by decide) rfl rfl) (q_sh q_int) (fun _ _ => rfl))))) (q_sh (cB1 (B_len rfl) 1 V rfl T.z_len (q_sh (q_idx rfl hu1 (q_sh (q_idx rfl hu1 (xS 0 V (by decide) rfl rfl) (xS 3 V (by decide) rfl rfl) (fun _ _ => rfl))) (q_sh q_int) (fun _ _ => rfl))))) rfl))).pt)).pt
    (qs_one (sA (ts := [3]) (xV 4 V (by decide) rfl (by decide) rfl) (gV' 3 V (by decide) rfl rfl (by decide))))
    qs_nil)) (hK := rfl))
    (qs_one (qs_ret (xV 3 V (by decide) rfl (by decide) rfl)))))
abbrev N_parse : List Str := ["table", "text", "found", "place", "number"]
theorem ok_parse (T : Txt K mg EC fa fd) : FnOk P w K mg base (L2.CX P w) 2 (fa 11) (fd 11) ["table", "text"] (spM K EC 2 f_parse) := by
  unfold f_parse b_parse
  refine fn_ok (k := 1) (N := N_parse) (own' := []) T.F11 (C8.fnScope_by (by decide +kernel)) rfl (by decide) (fun cdv A outer s H E Z hr => ?_)
  have V : Scp (cxOf (L2.CX P w) P w K mg base N_parse "parse" (defScope s_parse) (fa 11) cdv A outer s H E) [0, 1, 2, 3, 4] [0, 1, 2, 3, 4] ["len", "longest_at", "NotTold"] := scp_def (by decide +kernel)
  have tk := tk_def (P := P) (w := w) (K := K) (mg := mg) (base := base) (N := N_parse) (qual := "parse") (scope := defScope s_parse) (f := fa 11) (cd := cdv) (A := A) (outer := outer) (s := s) (H := H) (E := E)
  have hp := ps_def (P := P) (w := w) (K := K) (mg := mg) (base := base) (N := N_parse) (qual := "parse") (scope := defScope s_parse) (f := fa 11) (cd := cdv) (A := A) (outer := outer) (s := s) (H := H) (E := E)
  have hu := hr.units
  have hu1 := hu_of hr
  exact (qs_cons (own1 := [2]) (sN 2 V (by decide) rfl (q_lst qa_nil) (ho := rfl))
    (qs_cons (own1 := [2]) (sA (ts := [3]) q_int (gV' 3 V (by decide) rfl rfl (by decide)))
    (qs_cons (own1 := [2]) (qs_whl (own' := [2]) hp (by decide) (qt_cmpO (ck_ltX rfl hu) (xS 3 V (by decide) rfl rfl) (q_sh (cB1 (B_len rfl) 0 V rfl T.z_len (xS 1 V (by decide) rfl rfl))) rfl)
    (qs_cons (own1 := [2]) (sA (ts := [4]) (cDef 1 V (ok_longest_at T) rfl hr (by first | decide | omega) rfl T.g10 T.k10 T.b10 tk (qa_cons (xV 0 V (by decide) rfl (by decide) rfl) (qa_cons (xV 1 V (by decide) rfl (by decide) rfl) (qa_cons (xV 3 V (by decide) rfl (by decide) rfl) qa_nil))) (lnS (lnS (lnS ln0)))) (gV' 4 V (by decide) rfl rfl (by decide)))
    (qs_cons (own1 := [2]) (qs_if (qt_isN (xS 4 V (by decide) rfl rfl))
    (qs_one (sRse 1 2 V rfl tk T.er rfl T.e_NotTold))
    qs_nil)
    (qs_cons (own1 := [2]) (sApd 2 V (by decide) rfl rfl (by decide) (xV 4 V (by decide) rfl (by decide) rfl))
    (qs_one (sAddE 3 V (by decide) rfl (by decide) rfl (q_sh (cB1 (B_len rfl) 0 V rfl T.z_len (q_sh (q_idx rfl hu1 (q_sh (q_idx rfl hu1 (xS 0 V (by decide) rfl rfl) (xS 4 V (by decide) rfl rfl) (fun _ _ => rfl))) (q_sh q_int) (fun _ _ => rfl)))))))))))
    (qs_one (qs_pre1 (own := []) (qs_ret (xV 2 V (by decide) rfl (by decide) rfl)) (by decide))))))
abbrev N_told : List Str := ["table", "text", "number"]
theorem ok_told (T : Txt K mg EC fa fd) : FnOk P w K mg base (L2.CX P w) 3 (fa 12) (fd 12) ["table", "text"] (spM K EC 2 f_told) := by
  unfold f_told b_told
  refine fn_ok (k := 2) (N := N_told) (own' := []) T.F12 (C8.fnScope_by (by decide +kernel)) rfl (by decide) (fun cdv A outer s H E Z hr => ?_)
  have V : Scp (cxOf (L2.CX P w) P w K mg base N_told "told" (defScope s_told) (fa 12) cdv A outer s H E) [0, 1] [0, 1] ["parse"] := scp_def (by decide +kernel)
  have tk := tk_def (P := P) (w := w) (K := K) (mg := mg) (base := base) (N := N_told) (qual := "told") (scope := defScope s_told) (f := fa 12) (cd := cdv) (A := A) (outer := outer) (s := s) (H := H) (E := E)
  have hp := ps_def (P := P) (w := w) (K := K) (mg := mg) (base := base) (N := N_told) (qual := "told") (scope := defScope s_told) (f := fa 12) (cd := cdv) (A := A) (outer := outer) (s := s) (H := H) (E := E)
  have hu := hr.units
  have hu1 := hu_of hr
  exact (qs_one (qs_ret (q_frz (q_join rfl (q_sh (q_str (by decide +kernel))) (q_sh (xLc V rfl (qi_of rfl (cDef 0 V (ok_parse T) rfl hr (by first | decide | omega) rfl T.g11 T.k11 T.b11 tk (qa_cons (xV 0 V (by decide) rfl (by decide) rfl) (qa_cons (xV 1 V (by decide) rfl (by decide) rfl) qa_nil)) (lnS (lnS ln0)))) (ob := [("number", 2)]) (okD (N := N_told) (by decide +kernel)) rfl rfl (N := N_told) (vis1 := [0, 2]) (loc1 := [2]) (gls1 := []) (by decide +kernel) rfl (fun _ _ _ _ _ V1 => (gV' 2 V1 (by decide) rfl rfl (by decide))) (fun _ _ _ _ _ V1 => qts_nil) (fun _ _ _ _ _ V1 => (q_idx rfl hu1 (q_sh (q_idx rfl hu1 (xS 0 V1 (by decide) rfl rfl) (xS 2 V1 (by decide) rfl rfl) (fun _ _ => rfl))) (q_sh q_int) (fun _ _ => rfl)))))))))
abbrev N__law_cell : List Str := ["script", "k"]
theorem ok__law_cell (T : Txt K mg EC fa fd) : FnOk P w K mg base (L2.CX P w) 1 (fa 13) (fd 13) ["script", "k"] (spM K EC 2 f__law_cell) := by
  unfold f__law_cell b__law_cell
  refine fn_ok (k := 0) (N := N__law_cell) (own' := []) T.F13 (C8.fnScope_by (by decide +kernel)) rfl (by decide) (fun cdv A outer s H E Z hr => ?_)
  have V : Scp (cxOf (L2.CX P w) P w K mg base N__law_cell "_law_cell" (defScope s__law_cell) (fa 13) cdv A outer s H E) [0, 1] [0, 1] ["len", "int"] := scp_def (by decide +kernel)
  have tk := tk_def (P := P) (w := w) (K := K) (mg := mg) (base := base) (N := N__law_cell) (qual := "_law_cell") (scope := defScope s__law_cell) (f := fa 13) (cd := cdv) (A := A) (outer := outer) (s := s) (H := H) (E := E)
  have hp := ps_def (P := P) (w := w) (K := K) (mg := mg) (base := base) (N := N__law_cell) (qual := "_law_cell") (scope := defScope s__law_cell) (f := fa 13) (cd := cdv) (A := A) (outer := outer) (s := s) (H := H) (E := E)
  have hu := hr.units
  have hu1 := hu_of hr
  exact (qs_cons (own1 := []) (qs_if (qt_cmpO (ck_ltX rfl hu) (xS 1 V (by decide) rfl rfl) (q_sh (cB1 (B_len rfl) 0 V rfl T.z_len (xS 0 V (by decide) rfl rfl))) rfl)
    (qs_one (qs_ret (q_frz (cT1 (T_int) 1 V rfl T.z_int (q_sh (q_idx rfl hu1 (xS 0 V (by decide) rfl rfl) (xS 1 V (by decide) rfl rfl) (fun _ _ => rfl)))))))
    qs_nil)
    (qs_one (qs_ret q_int)))
abbrev N__law_numbers : List Str := ["cell", "count", "limit", "found", "rest", "k", "mixed"]
theorem ok__law_numbers (T : Txt K mg EC fa fd) : FnOk P w K mg base (L2.CX P w) 1 (fa 14) (fd 14) ["cell", "count", "limit"] (spM K EC 3 f__law_numbers) := by
  unfold f__law_numbers b__law_numbers
  refine fn_ok (k := 0) (N := N__law_numbers) (own' := []) T.F14 (C8.fnScope_by (by decide +kernel)) rfl (by decide) (fun cdv A outer s H E Z hr => ?_)
  have V : Scp (cxOf (L2.CX P w) P w K mg base N__law_numbers "_law_numbers" (defScope s__law_numbers) (fa 14) cdv A outer s H E) [0, 1, 2, 3, 4, 5, 6] [0, 1, 2, 3, 4, 5, 6] ["range", "int"] := scp_def (by decide +kernel)
  have tk := tk_def (P := P) (w := w) (K := K) (mg := mg) (base := base) (N := N__law_numbers) (qual := "_law_numbers") (scope := defScope s__law_numbers) (f := fa 14) (cd := cdv) (A := A) (outer := outer) (s := s) (H := H) (E := E)
  have hp := ps_def (P := P) (w := w) (K := K) (mg := mg) (base := base) (N := N__law_numbers) (qual := "_law_numbers") (scope := defScope s__law_numbers) (f := fa 14) (cd := cdv) (A := A) (outer := outer) (s := s) (H := H) (E := E)
  have hu := hr.units
  have hu1 := hu_of hr
  exact (qs_cons (own1 := [3]) (sN 3 V (by decide) rfl (q_lst qa_nil) (ho := rfl))
    (qs_cons (own1 := [3]) (sA (ts := [4]) (xV 0 V (by decide) rfl (by decide) rfl) (gV' 4 V (by decide) rfl rfl (by decide)))
    (qs_cons (own1 := [3]) (qs_for (own' := [3]) (own1 := [3]) (ts := [5]) hp rfl (iRa1 0 V rfl T.z_range (xS 1 V (by decide) rfl rfl)) (by decide) (gV' 5 V (by decide) rfl rfl (by decide))
    (qs_one (qs_if (qw_and (qt_cmpO ck_ge (xS 0 V (by decide) rfl rfl) (q_sh (q_pow (q_sh q_int) (q_sh q_int))) rfl) (qw_and1 (qt_cmpO ck_gt (xS 4 V (by decide) rfl rfl) (q_sh q_int) rfl))).pt
    (qs_cons (own1 := [3]) (sApd 3 V (by decide) rfl rfl (by decide) (q_frz (q_mod (q_sh (cT1 (T_int) 1 V rfl T.z_int (xS 4 V (by decide) rfl rfl))) (xS 2 V (by decide) rfl rfl))))
    (qs_one (sA (ts := [4]) (q_frz (q_fdiv (q_sh (cT1 (T_int) 1 V rfl T.z_int (xS 4 V (by decide) rfl rfl))) (xS 2 V (by decide) rfl rfl))) (gV' 4 V (by decide) rfl rfl (by decide)))))
    (qs_cons (own1 := [3]) (sA (ts := [6]) (q_frz (q_mod (q_sh (cT1 (T_int) 1 V rfl T.z_int (q_sh (q_add rfl (q_sh (q_add rfl (q_sh (q_mulA rfl (xS 0 V (by decide) rfl rfl) (q_sh q_int))) (q_sh (q_mulA rfl (xS 5 V (by decide) rfl rfl) (q_sh q_int))))) (q_sh q_int))))) (q_sh q_int))) (gV' 6 V (by decide) rfl rfl (by decide)))
    (qs_cons (own1 := [3]) (sA (ts := [6]) (q_frz (q_mod (q_sh (cT1 (T_int) 1 V rfl T.z_int (q_sh (q_add rfl (q_sh (q_add rfl (q_sh (q_add rfl (q_sh (q_mulA rfl (xS 6 V (by decide) rfl rfl) (xS 6 V (by decide) rfl rfl))) (q_sh (q_mulA rfl (xS 6 V (by decide) rfl rfl) (q_sh q_int))))) (q_sh (q_mulA rfl (xS 5 V (by decide) rfl rfl) (q_sh q_int))))) (q_sh q_int))))) (q_sh q_int))) (gV' 6 V (by decide) rfl rfl (by decide)))
    (qs_one (sApd 3 V (by decide) rfl rfl (by decide) (q_frz (q_mod (q_sh (cT1 (T_int) 1 V rfl T.z_int (q_sh (q_fdiv (xS 6 V (by decide) rfl rfl) (q_sh q_int))))) (xS 2 V (by decide) rfl rfl))))))))) (hK := rfl))
    (qs_one (qs_pre1 (own := []) (qs_ret (xV 3 V (by decide) rfl (by decide) rfl)) (by decide))))))
abbrev N__law_same : List Str := ["answer", "due", "k"]
theorem ok__law_same (T : Txt K mg EC fa fd) : ∀ n : Nat, FnOk P w K mg base (L2.CX P w) (n + 1) (fa 15) (fd 15) ["answer", "due"] (spM K EC 2 (f__law_same n))
  | 0 => ⟨fun vs H Q E h => h.1, fun A outer s H args us vs Q E hr he hb hv h => by obtain ⟨_, _, _, _, _, h⟩ := h; exact h.elim⟩
  | n + 1 => by
    have IH := ok__law_same T n
    have lvIH := Nat.le_refl (n + 1)
    show FnOk P w K mg base (L2.CX P w) ((n + 1) + 1) (fa 15) (fd 15) ["answer", "due"] (spM K EC 2 (run 3 (b__law_same (f__law_same n))))
    generalize f__law_same n = IHm at IH ⊢
    unfold b__law_same
    refine fn_ok (k := n + 1) (N := N__law_same) (own' := []) T.F15 (C8.fnScope_by (by decide +kernel)) rfl (by decide) (fun cdv A outer s H E Z hr => ?_)
    have V : Scp (cxOf (L2.CX P w) P w K mg base N__law_same "_law_same" (defScope s__law_same) (fa 15) cdv A outer s H E) [0, 1, 2] [0, 1, 2] ["isinstance", "list", "len", "tuple", "bool", "int", "str", "range", "_law_same"] := scp_def (by decide +kernel)
    have tk := tk_def (P := P) (w := w) (K := K) (mg := mg) (base := base) (N := N__law_same) (qual := "_law_same") (scope := defScope s__law_same) (f := fa 15) (cd := cdv) (A := A) (outer := outer) (s := s) (H := H) (E := E)
    have hp := ps_def (P := P) (w := w) (K := K) (mg := mg) (base := base) (N := N__law_same) (qual := "_law_same") (scope := defScope s__law_same) (f := fa 15) (cd := cdv) (A := A) (outer := outer) (s := s) (H := H) (E := E)
    have hu := hr.units
    have hu1 := hu_of hr
    exact (qs_cons (own1 := []) (qs_if (qt_val (q_sh (cIsi (T := .list) 0 1 V rfl rfl T.z_isinstance rfl rfl T.z_list (xS 1 V (by decide) rfl rfl))))
    (qs_one (qs_if (qw_or (qt_not (qt_val (q_sh (cIsi (T := .list) 0 1 V rfl rfl T.z_isinstance rfl rfl T.z_list (xS 0 V (by decide) rfl rfl))))) (qw_or1 (qt_cmpO (ck_ne rfl hu) (q_sh (cB1 (B_len rfl) 2 V rfl T.z_len (xS 0 V (by decide) rfl rfl))) (q_sh (cB1 (B_len rfl) 2 V rfl T.z_len (xS 1 V (by decide) rfl rfl))) rfl))).pt
    (qs_one (qs_ret q_bl))
    qs_nil))
    (qs_one (qs_if (qt_val (q_sh (cIsi (T := .tuple) 0 3 V rfl rfl T.z_isinstance rfl rfl T.z_tuple (xS 1 V (by decide) rfl rfl))))
    (qs_one (qs_if (qw_or (qt_not (qt_val (q_sh (cIsi (T := .tuple) 0 3 V rfl rfl T.z_isinstance rfl rfl T.z_tuple (xS 0 V (by decide) rfl rfl))))) (qw_or1 (qt_cmpO (ck_ne rfl hu) (q_sh (cB1 (B_len rfl) 2 V rfl T.z_len (xS 0 V (by decide) rfl rfl))) (q_sh (cB1 (B_len rfl) 2 V rfl T.z_len (xS 1 V (by decide) rfl rfl))) rfl))).pt
    (qs_one (qs_ret q_bl))
    qs_nil))
    (qs_one (qs_if (qt_isN (xS 1 V (by decide) rfl rfl))
    (qs_one (qs_ret (q_frz (q_isN (xS 0 V (by decide) rfl rfl)))))
    (qs_one (qs_if (qt_val (q_sh (cIsi (T := .bool) 0 4 V rfl rfl T.z_isinstance rfl rfl T.z_bool (xS 1 V (by decide) rfl rfl))))
    (qs_one (qs_ret (q_and (q_sh (cIsi (T := .bool) 0 4 V rfl rfl T.z_isinstance rfl rfl T.z_bool (xS 0 V (by decide) rfl rfl))) (q_one (q_frz (q_cmpO (ck_eq rfl hu) (xS 0 V (by decide) rfl rfl) (xS 1 V (by decide) rfl rfl) rfl))))))
    (qs_one (qs_if (qt_val (q_sh (cIsi (T := .int) 0 5 V rfl rfl T.z_isinstance rfl rfl T.z_int (xS 1 V (by decide) rfl rfl))))
    (qs_one (qs_ret (q_and (q_sh (cIsi (T := .int) 0 5 V rfl rfl T.z_isinstance rfl rfl T.z_int (xS 0 V (by decide) rfl rfl))) (q_and (q_sh (q_not (q_sh (cIsi (T := .bool) 0 4 V rfl rfl T.z_isinstance rfl rfl T.z_bool (xS 0 V (by decide) rfl rfl))))) (q_one (q_frz (q_cmpO (ck_eq rfl hu) (xS 0 V (by decide) rfl rfl) (xS 1 V (by decide) rfl rfl) rfl)))))))
    (qs_one (qs_ret (q_and (q_sh (cIsi (T := .str) 0 6 V rfl rfl T.z_isinstance rfl rfl T.z_str (xS 0 V (by decide) rfl rfl))) (q_one (q_frz (q_cmpO (ck_eq rfl hu) (xS 0 V (by decide) rfl rfl) (xS 1 V (by decide) rfl rfl) rfl)))))))))))))))
    (qs_cons (own1 := []) (qs_for (own' := []) (own1 := []) (ts := [2]) hp rfl (iRa1 7 V rfl T.z_range (q_sh (cB1 (B_len rfl) 2 V rfl T.z_len (xS 1 V (by decide) rfl rfl)))) (by decide) (gV' 2 V (by decide) rfl rfl (by decide))
    (qs_one (qs_if (qt_not (qt_val (q_sh (cDef 8 V IH rfl hr (by first | decide | omega) rfl T.g15 T.k15 T.b15 tk (qa_cons (q_idx rfl hu1 (xS 0 V (by decide) rfl rfl) (xS 2 V (by decide) rfl rfl) (fun _ _ => rfl)) (qa_cons (q_idx rfl hu1 (xS 1 V (by decide) rfl rfl) (xS 2 V (by decide) rfl rfl) (fun _ _ => rfl)) qa_nil)) (lnS (lnS ln0))))))
    (qs_one (qs_ret q_bl))
    qs_nil)) (hK := rfl))
    (qs_one (qs_ret q_bl))))
abbrev N__law_pool : List Str := ["draw", "pool"]
theorem ok__law_pool (T : Txt K mg EC fa fd) : FnOk P w K mg base (L2.CX P w) 1 (fa 16) (fd 16) ["draw"] (spM K EC 1 f__law_pool) := by
  unfold f__law_pool b__law_pool
  refine fn_ok (k := 0) (N := N__law_pool) (own' := []) T.F16 (C8.fnScope_by (by decide +kernel)) rfl (by decide) (fun cdv A outer s H E Z hr => ?_)
  have V : Scp (cxOf (L2.CX P w) P w K mg base N__law_pool "_law_pool" (defScope s__law_pool) (fa 16) cdv A outer s H E) [0, 1] [0, 1] [] := scp_def (by decide +kernel)
  have tk := tk_def (P := P) (w := w) (K := K) (mg := mg) (base := base) (N := N__law_pool) (qual := "_law_pool") (scope := defScope s__law_pool) (f := fa 16) (cd := cdv) (A := A) (outer := outer) (s := s) (H := H) (E := E)
  have hp := ps_def (P := P) (w := w) (K := K) (mg := mg) (base := base) (N := N__law_pool) (qual := "_law_pool") (scope := defScope s__law_pool) (f := fa 16) (cd := cdv) (A := A) (outer := outer) (s := s) (H := H) (E := E)
  have hu := hr.units
  have hu1 := hu_of hr
  exact (qs_cons (own1 := []) (sA (ts := [1]) (q_str (by decide +kernel)) (gV' 1 V (by decide) rfl rfl (by decide)))
    (qs_cons (own1 := []) (qs_if (qt_cmpO (ck_eq rfl hu) (q_sh (q_mod (q_sh (q_fdiv (xS 0 V (by decide) rfl rfl) (q_sh q_int))) (q_sh q_int))) (q_sh q_int) rfl)
    (qs_one (sA (ts := [1]) (q_frz (q_rev rfl (xS 1 V (by decide) rfl rfl))) (gV' 1 V (by decide) rfl rfl (by decide))))
    qs_nil)
    (qs_one (qs_ret (q_frz (q_add rfl (q_sh (q_sli rfl (xS 1 V (by decide) rfl rfl) (qp_some (q_sh (q_mod (xS 0 V (by decide) rfl rfl) (q_sh q_int)))) qp_none)) (q_sh (q_sli rfl (xS 1 V (by decide) rfl rfl) (qp_some (q_sh q_int)) (qp_some (q_sh (q_mod (xS 0 V (by decide) rfl rfl) (q_sh q_int))))))))))))
abbrev N__law_written : List Str := ["figures", "number", "out", "turn"]
theorem ok__law_written (T : Txt K mg EC fa fd) : FnOk P w K mg base (L2.CX P w) 1 (fa 17) (fd 17) ["figures", "number"] (spM K EC 2 f__law_written) := by
  unfold f__law_written b__law_written
  refine fn_ok (k := 0) (N := N__law_written) (own' := []) T.F17 (C8.fnScope_by (by decide +kernel)) rfl (by decide) (fun cdv A outer s H E Z hr => ?_)
  have V : Scp (cxOf (L2.CX P w) P w K mg base N__law_written "_law_written" (defScope s__law_written) (fa 17) cdv A outer s H E) [0, 1, 2, 3] [0, 1, 2, 3] ["range", "len"] := scp_def (by decide +kernel)
  have tk := tk_def (P := P) (w := w) (K := K) (mg := mg) (base := base) (N := N__law_written) (qual := "_law_written") (scope := defScope s__law_written) (f := fa 17) (cd := cdv) (A := A) (outer := outer) (s := s) (H := H) (E := E)
  have hp := ps_def (P := P) (w := w) (K := K) (mg := mg) (base := base) (N := N__law_written) (qual := "_law_written") (scope := defScope s__law_written) (f := fa 17) (cd := cdv) (A := A) (outer := outer) (s := s) (H := H) (E := E)
  have hu := hr.units
  have hu1 := hu_of hr
  exact (qs_cons (own1 := []) (qs_if (qt_cmpO (ck_eq rfl hu) (xS 1 V (by decide) rfl rfl) (q_sh q_int) rfl)
    (qs_one (qs_ret (q_idx rfl hu1 (xS 0 V (by decide) rfl rfl) (q_sh q_int) (fun _ _ => rfl))))
    qs_nil)
    (qs_cons (own1 := []) (sA (ts := [2]) (q_str (by decide +kernel)) (gV' 2 V (by decide) rfl rfl (by decide)))
    (qs_cons (own1 := []) (qs_for (own' := []) (own1 := []) (ts := [3]) hp rfl (iRa1 0 V rfl T.z_range (q_sh q_int)) (by decide) (gV' 3 V (by decide) rfl rfl (by decide))
    (qs_one (qs_if (qt_cmpO ck_gt (xS 1 V (by decide) rfl rfl) (q_sh q_int) rfl)
    (qs_cons (own1 := []) (sA (ts := [2]) (q_frz (q_add rfl (q_sh (q_idx rfl hu1 (xS 0 V (by decide) rfl rfl) (q_sh (q_mod (xS 1 V (by decide) rfl rfl) (q_sh (cB1 (B_len rfl) 1 V rfl T.z_len (xS 0 V (by decide) rfl rfl))))) (fun _ _ => rfl))) (xS 2 V (by decide) rfl rfl))) (gV' 2 V (by decide) rfl rfl (by decide)))
    (qs_one (sA (ts := [1]) (q_frz (q_fdiv (xS 1 V (by decide) rfl rfl) (q_sh (cB1 (B_len rfl) 1 V rfl T.z_len (xS 0 V (by decide) rfl rfl))))) (gV' 1 V (by decide) rfl rfl (by decide)))))
    qs_nil)) (hK := rfl))
    (qs_one (qs_ret (xV 2 V (by decide) rfl (by decide) rfl))))))
abbrev N__law_value : List Str := ["figures", "text", "first", "number", "sign", "at", "k"]
theorem ok__law_value (T : Txt K mg EC fa fd) : FnOk P w K mg base (L2.CX P w) 1 (fa 18) (fd 18) ["figures", "text", "first"] (spM K EC 3 f__law_value) := by
  unfold f__law_value b__law_value
  refine fn_ok (k := 0) (N := N__law_value) (own' := []) T.F18 (C8.fnScope_by (by decide +kernel)) rfl (by decide) (fun cdv A outer s H E Z hr => ?_)
  have V : Scp (cxOf (L2.CX P w) P w K mg base N__law_value "_law_value" (defScope s__law_value) (fa 18) cdv A outer s H E) [0, 1, 2, 3, 4, 5] [0, 1, 2, 3, 4, 5] ["range", "len"] := scp_def (by decide +kernel)
  have tk := tk_def (P := P) (w := w) (K := K) (mg := mg) (base := base) (N := N__law_value) (qual := "_law_value") (scope := defScope s__law_value) (f := fa 18) (cd := cdv) (A := A) (outer := outer) (s := s) (H := H) (E := E)
  have hp := ps_def (P := P) (w := w) (K := K) (mg := mg) (base := base) (N := N__law_value) (qual := "_law_value") (scope := defScope s__law_value) (f := fa 18) (cd := cdv) (A := A) (outer := outer) (s := s) (H := H) (E := E)
  have hu := hr.units
  have hu1 := hu_of hr
  exact (qs_cons (own1 := []) (sA (ts := [3]) q_int (gV' 3 V (by decide) rfl rfl (by decide)))
    (qs_cons (own1 := []) (qs_for (own' := []) (own1 := []) (ts := [4]) hp rfl (qi_of rfl (xV 1 V (by decide) rfl (by decide) rfl)) (by decide) (gV' 4 V (by decide) rfl rfl (by decide))
    (qs_cons (own1 := [5]) (sLc 5 V rfl (lcl_def (by decide +kernel)) rfl (by rfl) (iRa1 0 V rfl T.z_range (q_sh (cB1 (B_len rfl) 1 V rfl T.z_len (xS 0 V (by decide) rfl rfl)))) (ob := [("k", 6)]) (okD (N := N__law_value) (by decide +kernel)) rfl rfl (N := N__law_value) (vis1 := [0, 4, 6]) (loc1 := [6]) (gls1 := []) (by decide +kernel) rfl (fun _ _ _ _ _ V1 => (gV' 6 V1 (by decide) rfl rfl (by decide))) (fun _ _ _ _ _ V1 => (qts_one (qt_cmpO (ck_eq rfl hu) (q_sh (q_idx rfl hu1 (xS 0 V1 (by decide) rfl rfl) (xS 6 V1 (by decide) rfl rfl) (fun _ _ => rfl))) (xS 4 V1 (by decide) rfl rfl) rfl))) (fun _ _ _ _ _ V1 => (xV 6 V1 (by decide) rfl (by decide) rfl)) rfl)
    (qs_cons (own1 := [5]) (qs_if (qt_cmpO (ck_eq rfl hu) (q_sh (cB1 (B_len rfl) 1 V rfl T.z_len (xS 5 V (by decide) rfl rfl))) (q_sh q_int) rfl)
    (qs_one (qs_ret q_non))
    qs_nil)
    (qs_weak (own1 := [5]) (qs_one (sA (ts := [3]) (q_frz (q_add rfl (q_sh (q_add rfl (q_sh (q_mulA rfl (xS 3 V (by decide) rfl rfl) (q_sh (cB1 (B_len rfl) 1 V rfl T.z_len (xS 0 V (by decide) rfl rfl))))) (q_sh (q_idx rfl hu1 (xS 5 V (by decide) rfl rfl) (q_sh q_int) (fun _ _ => rfl))))) (xS 2 V (by decide) rfl rfl))) (gV' 3 V (by decide) rfl rfl (by decide)))) (by decide)))) (hK := rfl))
    (qs_one (qs_ret (xV 3 V (by decide) rfl (by decide) rfl)))))
abbrev N__law_read : List Str := ["figures", "text", "number"]
theorem ok__law_read (T : Txt K mg EC fa fd) : FnOk P w K mg base (L2.CX P w) 2 (fa 19) (fd 19) ["figures", "text"] (spM K EC 2 f__law_read) := by
  unfold f__law_read b__law_read
  refine fn_ok (k := 1) (N := N__law_read) (own' := []) T.F19 (C8.fnScope_by (by decide +kernel)) rfl (by decide) (fun cdv A outer s H E Z hr => ?_)
  have V : Scp (cxOf (L2.CX P w) P w K mg base N__law_read "_law_read" (defScope s__law_read) (fa 19) cdv A outer s H E) [0, 1, 2] [0, 1, 2] ["_law_value", "len"] := scp_def (by decide +kernel)
  have tk := tk_def (P := P) (w := w) (K := K) (mg := mg) (base := base) (N := N__law_read) (qual := "_law_read") (scope := defScope s__law_read) (f := fa 19) (cd := cdv) (A := A) (outer := outer) (s := s) (H := H) (E := E)
  have hp := ps_def (P := P) (w := w) (K := K) (mg := mg) (base := base) (N := N__law_read) (qual := "_law_read") (scope := defScope s__law_read) (f := fa 19) (cd := cdv) (A := A) (outer := outer) (s := s) (H := H) (E := E)
  have hu := hr.units
  have hu1 := hu_of hr
  exact (qs_cons (own1 := []) (sA (ts := [2]) (cDef 0 V (ok__law_value T) rfl hr (by first | decide | omega) rfl T.g18 T.k18 T.b18 tk (qa_cons (xV 0 V (by decide) rfl (by decide) rfl) (qa_cons (xV 1 V (by decide) rfl (by decide) rfl) (qa_cons q_int qa_nil))) (lnS (lnS (lnS ln0)))) (gV' 2 V (by decide) rfl rfl (by decide)))
    (qs_cons (own1 := []) (qs_if (qw_or (qt_cmpO (ck_eq rfl hu) (xS 1 V (by decide) rfl rfl) (q_sh (q_str (by decide +kernel))) rfl) (qw_or (qt_isN (xS 2 V (by decide) rfl rfl)) (qw_or (qt_cmpO ck_gt (xS 2 V (by decide) rfl rfl) (q_sh (q_pow (q_sh q_int) (q_sh q_int))) rfl) (qw_or1 (qw_and (qt_cmpO ck_gt (q_sh (cB1 (B_len rfl) 1 V rfl T.z_len (xS 1 V (by decide) rfl rfl))) (q_sh q_int) rfl) (qw_and1 (qt_cmpO (ck_eq rfl hu) (q_sh (q_idx rfl hu1 (xS 1 V (by decide) rfl rfl) (q_sh q_int) (fun _ _ => rfl))) (q_sh (q_idx rfl hu1 (xS 0 V (by decide) rfl rfl) (q_sh q_int) (fun _ _ => rfl))) rfl))).pt)))).pt
    (qs_one (qs_ret q_non))
    qs_nil)
    (qs_one (qs_ret (xV 2 V (by decide) rfl (by decide) rfl)))))
abbrev N__law_asked : List Str := ["figures", "text", "e"]
theorem ok__law_asked (T : Txt K mg EC fa fd) : FnOk P w K mg base (L2.CX P w) 4 (fa 20) (fd 20) ["figures", "text"] (spM K EC 2 f__law_asked) := by
  unfold f__law_asked b__law_asked
  refine fn_ok (k := 3) (N := N__law_asked) (own' := []) T.F20 (C8.fnScope_by (by decide +kernel)) rfl (by decide) (fun cdv A outer s H E Z hr => ?_)
  have V : Scp (cxOf (L2.CX P w) P w K mg base N__law_asked "_law_asked" (defScope s__law_asked) (fa 20) cdv A outer s H E) [0, 1, 2] [0, 1, 2] ["read_number", "NotNumber", "int", "isinstance", "ScriptError", "NumberOutOfRange"] := scp_def (by decide +kernel)
  have tk := tk_def (P := P) (w := w) (K := K) (mg := mg) (base := base) (N := N__law_asked) (qual := "_law_asked") (scope := defScope s__law_asked) (f := fa 20) (cd := cdv) (A := A) (outer := outer) (s := s) (H := H) (E := E)
  have hp := ps_def (P := P) (w := w) (K := K) (mg := mg) (base := base) (N := N__law_asked) (qual := "_law_asked") (scope := defScope s__law_asked) (f := fa 20) (cd := cdv) (A := A) (outer := outer) (s := s) (H := H) (E := E)
  have hu := hr.units
  have hu1 := hu_of hr
  exact (qs_one (sTryA 2 4 1 V rfl rfl rfl (by rfl) tk T.er rfl T.e_NotNumber rfl (by decide) (by decide)
    (fun W_0 _ _ V_0 tk_0 hp_0 => (qs_one (qs_ret (cDef 0 (V_0) (ok_read_number T) rfl hr (by first | decide | omega) rfl T.g5 T.k5 T.b5 tk_0 (qa_cons (xV 0 (V_0) (by decide) rfl (by decide) rfl) (qa_cons (xV 1 (V_0) (by decide) rfl (by decide) rfl) qa_nil)) (lnS (lnS ln0))))))
    (fun _ _ _ _ V_0 hz hf => (qs_one (qs_ret (q_idx rfl hu1 (q_sh (q_lst (qa_cons q_non (qa_cons (q_str (by decide +kernel)) qa_nil)))) (q_sh (cT1 (T_int) 2 (V_0) rfl T.z_int (q_sh (q_or (q_sh (q_not (q_sh (xIsx 2 0 3 4 (V_0) rfl rfl hz hf T.er (by decide) rfl rfl T.z_isinstance rfl T.e_ScriptError)))) (q_one (q_frz (xIsx 2 3 3 5 (V_0) rfl rfl hz hf T.er (by decide) rfl rfl T.z_isinstance rfl T.e_NumberOutOfRange))))))) (fun _ _ => rfl)))))))
abbrev N__law_counted : List Str := ["figures", "text", "e"]
theorem ok__law_counted (T : Txt K mg EC fa fd) : FnOk P w K mg base (L2.CX P w) 2 (fa 21) (fd 21) ["figures", "text"] (spM K EC 2 f__law_counted) := by
  unfold f__law_counted b__law_counted
  refine fn_ok (k := 1) (N := N__law_counted) (own' := []) T.F21 (C8.fnScope_by (by decide +kernel)) rfl (by decide) (fun cdv A outer s H E Z hr => ?_)
  have V : Scp (cxOf (L2.CX P w) P w K mg base N__law_counted "_law_counted" (defScope s__law_counted) (fa 21) cdv A outer s H E) [0, 1, 2] [0, 1, 2] ["read_count", "NotNumber", "int", "isinstance", "ScriptError", "NumberOutOfRange"] := scp_def (by decide +kernel)
  have tk := tk_def (P := P) (w := w) (K := K) (mg := mg) (base := base) (N := N__law_counted) (qual := "_law_counted") (scope := defScope s__law_counted) (f := fa 21) (cd := cdv) (A := A) (outer := outer) (s := s) (H := H) (E := E)
  have hp := ps_def (P := P) (w := w) (K := K) (mg := mg) (base := base) (N := N__law_counted) (qual := "_law_counted") (scope := defScope s__law_counted) (f := fa 21) (cd := cdv) (A := A) (outer := outer) (s := s) (H := H) (E := E)
  have hu := hr.units
  have hu1 := hu_of hr
  exact (qs_one (sTryA 2 4 1 V rfl rfl rfl (by rfl) tk T.er rfl T.e_NotNumber rfl (by decide) (by decide)
    (fun W_0 _ _ V_0 tk_0 hp_0 => (qs_one (qs_ret (cDef 0 (V_0) (ok_read_count T) rfl hr (by first | decide | omega) rfl T.g7 T.k7 T.b7 tk_0 (qa_cons (xV 0 (V_0) (by decide) rfl (by decide) rfl) (qa_cons (xV 1 (V_0) (by decide) rfl (by decide) rfl) qa_nil)) (lnS (lnS ln0))))))
    (fun _ _ _ _ V_0 hz hf => (qs_one (qs_ret (q_idx rfl hu1 (q_sh (q_lst (qa_cons q_non (qa_cons (q_str (by decide +kernel)) qa_nil)))) (q_sh (cT1 (T_int) 2 (V_0) rfl T.z_int (q_sh (q_or (q_sh (q_not (q_sh (xIsx 2 0 3 4 (V_0) rfl rfl hz hf T.er (by decide) rfl rfl T.z_isinstance rfl T.e_ScriptError)))) (q_one (q_frz (xIsx 2 3 3 5 (V_0) rfl rfl hz hf T.er (by decide) rfl rfl T.z_isinstance rfl T.e_NumberOutOfRange))))))) (fun _ _ => rfl)))))))
abbrev N__law_refused : List Str := ["figures", "number", "found", "e"]
theorem ok__law_refused (T : Txt K mg EC fa fd) : FnOk P w K mg base (L2.CX P w) 3 (fa 22) (fd 22) ["figures", "number"] (spM K EC 2 f__law_refused) := by
  unfold f__law_refused b__law_refused
  refine fn_ok (k := 2) (N := N__law_refused) (own' := []) T.F22 (C8.fnScope_by (by decide +kernel)) rfl (by decide) (fun cdv A outer s H E Z hr => ?_)
  have V : Scp (cxOf (L2.CX P w) P w K mg base N__law_refused "_law_refused" (defScope s__law_refused) (fa 22) cdv A outer s H E) [0, 1, 2, 3] [0, 1, 2, 3] ["write_number", "NumberOutOfRange", "isinstance", "ScriptError", "write_count", "NotNumber"] := scp_def (by decide +kernel)
  have tk := tk_def (P := P) (w := w) (K := K) (mg := mg) (base := base) (N := N__law_refused) (qual := "_law_refused") (scope := defScope s__law_refused) (f := fa 22) (cd := cdv) (A := A) (outer := outer) (s := s) (H := H) (E := E)
  have hp := ps_def (P := P) (w := w) (K := K) (mg := mg) (base := base) (N := N__law_refused) (qual := "_law_refused") (scope := defScope s__law_refused) (f := fa 22) (cd := cdv) (A := A) (outer := outer) (s := s) (H := H) (E := E)
  have hu := hr.units
  have hu1 := hu_of hr
  exact (qs_cons (own1 := [2]) (sN 2 V (by decide) rfl (q_lst qa_nil) (ho := rfl))
    (qs_cons (own1 := [2]) (sTryKp 2 (by decide) V rfl rfl tk T.er rfl
    (fun _ _ _ W_0 _ _ V_0 tk_0 hp_0 => (qs_one (qs_drop (cDef 0 (V_0) (ok_write_number T) rfl hr (by first | decide | omega) rfl T.g2 T.k2 T.b2 tk_0 (qa_cons (xV 0 (V_0) (by decide) rfl (by decide) rfl) (qa_cons (xV 1 (V_0) (by decide) rfl (by decide) rfl) qa_nil)) (lnS (lnS ln0))))))
    (hdKH 3 3 1 V rfl T.e_NumberOutOfRange rfl (by rfl) (by decide) (by decide) (by decide) (fun _ _ _ _ V_0 hz hf => (qs_one (sApd 2 (V_0) (by decide) rfl rfl (by decide) (q_frz (xIsx 3 0 2 3 (V_0) rfl rfl hz hf T.er (by decide) rfl rfl T.z_isinstance rfl T.e_ScriptError)))))
    .nil))
    (qs_cons (own1 := [2]) (sTryKp 2 (by decide) V rfl rfl tk T.er rfl
    (fun _ _ _ W_0 _ _ V_0 tk_0 hp_0 => (qs_one (qs_drop (cDef 4 (V_0) (ok_write_count T) rfl hr (by first | decide | omega) rfl T.g6 T.k6 T.b6 tk_0 (qa_cons (xV 0 (V_0) (by decide) rfl (by decide) rfl) (qa_cons (xV 1 (V_0) (by decide) rfl (by decide) rfl) qa_nil)) (lnS (lnS ln0))))))
    (hdKH 3 3 1 V rfl T.e_NumberOutOfRange rfl (by rfl) (by decide) (by decide) (by decide) (fun _ _ _ _ V_0 hz hf => (qs_one (sApd 2 (V_0) (by decide) rfl rfl (by decide) (q_frz (q_not (q_sh (xIsx 3 4 2 5 (V_0) rfl rfl hz hf T.er (by decide) rfl rfl T.z_isinstance rfl T.e_NotNumber)))))))
    .nil))
    (qs_one (qs_ret (q_frz (q_cmpO (ck_eq rfl hu) (xS 2 V (by decide) rfl rfl) (q_sh (q_lst (qa_cons q_bl (qa_cons q_bl qa_nil)))) rfl)))))))
abbrev N__law_checked : List Str := ["figures", "e"]
theorem ok__law_checked (T : Txt K mg EC fa fd) : FnOk P w K mg base (L2.CX P w) 2 (fa 23) (fd 23) ["figures"] (spM K EC 1 f__law_checked) := by
  unfold f__law_checked b__law_checked
  refine fn_ok (k := 1) (N := N__law_checked) (own' := []) T.F23 (C8.fnScope_by (by decide +kernel)) rfl (by decide) (fun cdv A outer s H E Z hr => ?_)
  have V : Scp (cxOf (L2.CX P w) P w K mg base N__law_checked "_law_checked" (defScope s__law_checked) (fa 23) cdv A outer s H E) [0, 1] [0, 1] ["int", "check_figures", "InvalidFigures", "isinstance", "ScriptError", "NotNumber"] := scp_def (by decide +kernel)
  have tk := tk_def (P := P) (w := w) (K := K) (mg := mg) (base := base) (N := N__law_checked) (qual := "_law_checked") (scope := defScope s__law_checked) (f := fa 23) (cd := cdv) (A := A) (outer := outer) (s := s) (H := H) (E := E)
  have hp := ps_def (P := P) (w := w) (K := K) (mg := mg) (base := base) (N := N__law_checked) (qual := "_law_checked") (scope := defScope s__law_checked) (f := fa 23) (cd := cdv) (A := A) (outer := outer) (s := s) (H := H) (E := E)
  have hu := hr.units
  have hu1 := hu_of hr
  exact (qs_one (sTryA 1 2 2 V rfl rfl rfl (by rfl) tk T.er rfl T.e_InvalidFigures rfl (by decide) (by decide)
    (fun W_0 _ _ V_0 tk_0 hp_0 => (qs_one (qs_ret (q_idx rfl hu1 (q_sh (q_lst (qa_cons (q_str (by decide +kernel)) (qa_cons (q_str (by decide +kernel)) qa_nil)))) (q_sh (cT1 (T_int) 0 (V_0) rfl T.z_int (q_sh (q_isN (q_sh (cDef 1 (V_0) (ok_check_figures T) rfl hr (by first | decide | omega) rfl T.g0 T.k0 T.b0 tk_0 (qa_cons (xV 0 (V_0) (by decide) rfl (by decide) rfl) qa_nil) (lnS ln0))))))) (fun _ _ => rfl)))))
    (fun _ _ _ _ V_0 hz hf => (qs_one (qs_ret (q_idx rfl hu1 (q_sh (q_lst (qa_cons (q_str (by decide +kernel)) (qa_cons (q_str (by decide +kernel)) qa_nil)))) (q_sh (cT1 (T_int) 0 (V_0) rfl T.z_int (q_sh (q_or (q_sh (q_not (q_sh (xIsx 1 0 3 4 (V_0) rfl rfl hz hf T.er (by decide) rfl rfl T.z_isinstance rfl T.e_ScriptError)))) (q_one (q_frz (xIsx 1 4 3 5 (V_0) rfl rfl hz hf T.er (by decide) rfl rfl T.z_isinstance rfl T.e_NotNumber))))))) (fun _ _ => rfl)))))))
abbrev N__law_change : List Str := ["one", "other", "text", "found", "piece", "sign", "number", "one_sign"]
theorem ok__law_change (T : Txt K mg EC fa fd) : FnOk P w K mg base (L2.CX P w) 3 (fa 24) (fd 24) ["one", "other", "text"] (spM K EC 3 f__law_change) := by
  unfold f__law_change b__law_change
  refine fn_ok (k := 2) (N := N__law_change) (own' := []) T.F24 (C8.fnScope_by (by decide +kernel)) rfl (by decide) (fun cdv A outer s H E Z hr => ?_)
  have V : Scp (cxOf (L2.CX P w) P w K mg base N__law_change "_law_change" (defScope s__law_change) (fa 24) cdv A outer s H E) [0, 1, 2, 3, 4, 5, 6] [0, 1, 2, 3, 4, 5, 6] ["_law_read", "_law_written"] := scp_def (by decide +kernel)
  have tk := tk_def (P := P) (w := w) (K := K) (mg := mg) (base := base) (N := N__law_change) (qual := "_law_change") (scope := defScope s__law_change) (f := fa 24) (cd := cdv) (A := A) (outer := outer) (s := s) (H := H) (E := E)
  have hp := ps_def (P := P) (w := w) (K := K) (mg := mg) (base := base) (N := N__law_change) (qual := "_law_change") (scope := defScope s__law_change) (f := fa 24) (cd := cdv) (A := A) (outer := outer) (s := s) (H := H) (E := E)
  have hu := hr.units
  have hu1 := hu_of hr
  exact (qs_cons (own1 := []) (sA (ts := [3]) (q_str (by decide +kernel)) (gV' 3 V (by decide) rfl rfl (by decide)))
    (qs_cons (own1 := []) (sA (ts := [4]) (q_str (by decide +kernel)) (gV' 4 V (by decide) rfl rfl (by decide)))
    (qs_cons (own1 := []) (qs_for (own' := []) (own1 := []) (ts := [5]) hp rfl (qi_of rfl (q_frz (q_add rfl (q_sh (xLc V rfl (qi_of rfl (xV 2 V (by decide) rfl (by decide) rfl)) (ob := [("one_sign", 7)]) (okD (N := N__law_change) (by decide +kernel)) rfl rfl (N := N__law_change) (vis1 := [7]) (loc1 := [7]) (gls1 := []) (by decide +kernel) rfl (fun _ _ _ _ _ V1 => (gV' 7 V1 (by decide) rfl rfl (by decide))) (fun _ _ _ _ _ V1 => qts_nil) (fun _ _ _ _ _ V1 => (xV 7 V1 (by decide) rfl (by decide) rfl)))) (q_sh (q_lst (qa_cons (q_str (by decide +kernel)) qa_nil)))))) (by decide) (gV' 5 V (by decide) rfl rfl (by decide))
    (qs_one (qs_if (qw_and (qt_cmpO (ck_ne rfl hu) (xS 5 V (by decide) rfl rfl) (q_sh (q_str (by decide +kernel))) rfl) (qw_and1 (qt_cmpO (ck_in rfl hu) (xS 5 V (by decide) rfl rfl) (xS 0 V (by decide) rfl rfl) rfl))).pt
    (qs_one (sA (ts := [4]) (q_frz (q_add rfl (xS 4 V (by decide) rfl rfl) (xS 5 V (by decide) rfl rfl))) (gV' 4 V (by decide) rfl rfl (by decide))))
    (qs_cons (own1 := []) (sA (ts := [6]) (cDef 0 V (ok__law_read T) rfl hr (by first | decide | omega) rfl T.g19 T.k19 T.b19 tk (qa_cons (xV 0 V (by decide) rfl (by decide) rfl) (qa_cons (xV 4 V (by decide) rfl (by decide) rfl) qa_nil)) (lnS (lnS ln0))) (gV' 6 V (by decide) rfl rfl (by decide)))
    (qs_cons (own1 := []) (qs_if (qt_isN (xS 6 V (by decide) rfl rfl))
    (qs_one (sA (ts := [3]) (q_frz (q_add rfl (q_sh (q_add rfl (xS 3 V (by decide) rfl rfl) (xS 4 V (by decide) rfl rfl))) (xS 5 V (by decide) rfl rfl))) (gV' 3 V (by decide) rfl rfl (by decide))))
    (qs_one (sA (ts := [3]) (q_frz (q_add rfl (q_sh (q_add rfl (xS 3 V (by decide) rfl rfl) (q_sh (cDef 1 V (ok__law_written T) rfl hr (by first | decide | omega) rfl T.g17 T.k17 T.b17 tk (qa_cons (xV 1 V (by decide) rfl (by decide) rfl) (qa_cons (xV 6 V (by decide) rfl (by decide) rfl) qa_nil)) (lnS (lnS ln0)))))) (xS 5 V (by decide) rfl rfl))) (gV' 3 V (by decide) rfl rfl (by decide)))))
    (qs_one (sA (ts := [4]) (q_str (by decide +kernel)) (gV' 4 V (by decide) rfl rfl (by decide)))))))) (hK := rfl))
    (qs_one (qs_ret (xV 3 V (by decide) rfl (by decide) rfl))))))
abbrev N__law_drawn : List Str := ["script", "at", "base", "draws", "number", "k", "power", "found"]
theorem ok__law_drawn (T : Txt K mg EC fa fd) : FnOk P w K mg base (L2.CX P w) 2 (fa 25) (fd 25) ["script", "at", "base"] (spM K EC 3 f__law_drawn) := by
  unfold f__law_drawn b__law_drawn
  refine fn_ok (k := 1) (N := N__law_drawn) (own' := []) T.F25 (C8.fnScope_by (by decide +kernel)) rfl (by decide) (fun cdv A outer s H E Z hr => ?_)
  have V : Scp (cxOf (L2.CX P w) P w K mg base N__law_drawn "_law_drawn" (defScope s__law_drawn) (fa 25) cdv A outer s H E) [0, 1, 2, 3, 4, 5, 6, 7] [0, 1, 2, 3, 4, 5, 6, 7] ["_law_numbers", "_law_cell", "range"] := scp_def (by decide +kernel)
  have tk := tk_def (P := P) (w := w) (K := K) (mg := mg) (base := base) (N := N__law_drawn) (qual := "_law_drawn") (scope := defScope s__law_drawn) (f := fa 25) (cd := cdv) (A := A) (outer := outer) (s := s) (H := H) (E := E)
  have hp := ps_def (P := P) (w := w) (K := K) (mg := mg) (base := base) (N := N__law_drawn) (qual := "_law_drawn") (scope := defScope s__law_drawn) (f := fa 25) (cd := cdv) (A := A) (outer := outer) (s := s) (H := H) (E := E)
  have hu := hr.units
  have hu1 := hu_of hr
  exact (qs_cons (own1 := []) (sA (ts := [3]) (cDef 0 V (ok__law_numbers T) rfl hr (by first | decide | omega) rfl T.g14 T.k14 T.b14 tk (qa_cons (cDef 1 V (ok__law_cell T) rfl hr (by first | decide | omega) rfl T.g13 T.k13 T.b13 tk (qa_cons (xV 0 V (by decide) rfl (by decide) rfl) (qa_cons (xV 1 V (by decide) rfl (by decide) rfl) qa_nil)) (lnS (lnS ln0))) (qa_cons q_int (qa_cons q_int qa_nil))) (lnS (lnS (lnS ln0)))) (gV' 3 V (by decide) rfl rfl (by decide)))
    (qs_cons (own1 := []) (sA (ts := [4]) q_int (gV' 4 V (by decide) rfl rfl (by decide)))
    (qs_cons (own1 := []) (qs_for (own' := []) (own1 := []) (ts := [5]) hp rfl (iRa1 2 V rfl T.z_range (q_sh (q_add rfl (q_sh q_int) (q_sh (q_mod (q_sh (q_idx rfl hu1 (xS 3 V (by decide) rfl rfl) (q_sh q_int) (fun _ _ => rfl))) (q_sh q_int)))))) (by decide) (gV' 5 V (by decide) rfl rfl (by decide))
    (qs_one (sA (ts := [4]) (q_frz (q_add rfl (q_sh (q_mulA rfl (xS 4 V (by decide) rfl rfl) (q_sh q_int))) (q_sh (q_idx rfl hu1 (xS 3 V (by decide) rfl rfl) (q_sh (q_add rfl (q_sh q_int) (xS 5 V (by decide) rfl rfl))) (fun _ _ => rfl))))) (gV' 4 V (by decide) rfl rfl (by decide)))) (hK := rfl))
    (qs_cons (own1 := []) (sA (ts := [6]) q_int (gV' 6 V (by decide) rfl rfl (by decide)))
    (qs_cons (own1 := []) (qs_for (own' := []) (own1 := []) (ts := [5]) hp rfl (iRa1 2 V rfl T.z_range (q_sh (q_mod (q_sh (q_idx rfl hu1 (xS 3 V (by decide) rfl rfl) (q_sh q_int) (fun _ _ => rfl))) (q_sh q_int)))) (by decide) (gV' 5 V (by decide) rfl rfl (by decide))
    (qs_one (sA (ts := [6]) (q_frz (q_mulA rfl (xS 6 V (by decide) rfl rfl) (xS 2 V (by decide) rfl rfl))) (gV' 6 V (by decide) rfl rfl (by decide)))) (hK := rfl))
    (qs_cons (own1 := []) (sA (ts := [7]) (q_frz (q_lst (qa_cons (xV 4 V (by decide) rfl (by decide) rfl) (qa_cons (q_idx rfl hu1 (xS 3 V (by decide) rfl rfl) (q_sh q_int) (fun _ _ => rfl)) (qa_cons q_int (qa_cons q_int (qa_cons (xV 2 V (by decide) rfl (by decide) rfl) (qa_cons (q_frz (q_sub (q_sh (q_mulA rfl (xS 2 V (by decide) rfl rfl) (xS 2 V (by decide) rfl rfl))) (q_sh q_int))) (qa_cons (q_frz (q_sub (xS 2 V (by decide) rfl rfl) (q_sh q_int))) (qa_cons (q_frz (q_pow (q_sh q_int) (q_sh q_int))) (qa_cons (xV 6 V (by decide) rfl (by decide) rfl) (qa_cons (q_frz (q_sub (xS 6 V (by decide) rfl rfl) (q_sh q_int))) (qa_cons (q_frz (q_add rfl (xS 6 V (by decide) rfl rfl) (q_sh q_int))) qa_nil))))))))))))) (gV' 7 V (by decide) rfl rfl (by decide)))
    (qs_one (qs_ret (q_frz (xLc V rfl (qi_of rfl (xV 7 V (by decide) rfl (by decide) rfl)) (ob := [("number", 4)]) (okD (N := N__law_drawn) (by decide +kernel)) rfl rfl (N := N__law_drawn) (vis1 := [4]) (loc1 := [4]) (gls1 := []) (by decide +kernel) rfl (fun _ _ _ _ _ V1 => (gV' 4 V1 (by decide) rfl rfl (by decide))) (fun _ _ _ _ _ V1 => qts_nil) (fun _ _ _ _ _ V1 => (q_frz (q_mod (xS 4 V1 (by decide) rfl rfl) (q_sh (q_add rfl (q_sh (q_pow (q_sh q_int) (q_sh q_int))) (q_sh q_int))))))))))))))))
abbrev N_law : List Str := ["script", "draws", "every", "figures", "others", "at", "tries", "some", "good", "counts", "number", "due", "count", "size", "places", "another", "length", "spots", "k", "letters", "text", "there", "j", "sign"]
theorem ok_law (T : Txt K mg EC fa fd) : FnOk P w K mg base (L2.CX P w) 14 (fa 26) (fd 26) ["script"] (spM K EC 1 f_law) := by
  unfold f_law b_law
  refine fn_ok (k := 13) (N := N_law) (own' := []) T.F26 (C8.fnScope_by (by decide +kernel)) rfl (by decide) (fun cdv A outer s H E Z hr => ?_)
  have V : Scp (cxOf (L2.CX P w) P w K mg base N_law "law" (defScope s_law) (fa 26) cdv A outer s H E) [0, 1, 2, 3, 4, 5, 6, 7, 8, 9, 10, 11, 12, 13, 14, 15, 16, 17, 18, 19, 20, 21] [0, 1, 2, 3, 4, 5, 6, 7, 8, 9, 10, 11, 12, 13, 14, 15, 16, 17, 18, 19, 20, 21] ["_law_numbers", "_law_cell", "_law_pool", "len", "range", "_law_checked", "int", "_law_refused", "_law_drawn", "_law_written", "_law_same", "write_number", "read_number", "write_count", "isinstance", "str", "_law_value", "read_count", "told", "_law_asked", "_law_read", "_law_counted", "_law_change", "change_figures"] := scp_def (by decide +kernel)
  have tk := tk_def (P := P) (w := w) (K := K) (mg := mg) (base := base) (N := N_law) (qual := "law") (scope := defScope s_law) (f := fa 26) (cd := cdv) (A := A) (outer := outer) (s := s) (H := H) (E := E)
  have hp := ps_def (P := P) (w := w) (K := K) (mg := mg) (base := base) (N := N_law) (qual := "law") (scope := defScope s_law) (f := fa 26) (cd := cdv) (A := A) (outer := outer) (s := s) (H := H) (E := E)
  have hu := hr.units
  have hu1 := hu_of hr
  exact (qs_cons (own1 := []) (sA (ts := [1]) (cDef 0 V (ok__law_numbers T) rfl hr (by first | decide | omega) rfl T.g14 T.k14 T.b14 tk (qa_cons (cDef 1 V (ok__law_cell T) rfl hr (by first | decide | omega) rfl T.g13 T.k13 T.b13 tk (qa_cons (xV 0 V (by decide) rfl (by decide) rfl) (qa_cons q_int qa_nil)) (lnS (lnS ln0))) (qa_cons q_int (qa_cons q_int qa_nil))) (lnS (lnS (lnS ln0)))) (gV' 1 V (by decide) rfl rfl (by decide)))
    (qs_cons (own1 := []) (sA (ts := [2]) (cDef 2 V (ok__law_pool T) rfl hr (by first | decide | omega) rfl T.g16 T.k16 T.b16 tk (qa_cons (q_idx rfl hu1 (xS 1 V (by decide) rfl rfl) (q_sh q_int) (fun _ _ => rfl)) qa_nil) (lnS ln0)) (gV' 2 V (by decide) rfl rfl (by decide)))
    (qs_cons (own1 := []) (sA (ts := [3]) (q_frz (q_sli rfl (xS 2 V (by decide) rfl rfl) (qp_some (q_sh q_int)) (qp_some (q_sh (q_add rfl (q_sh q_int) (q_sh (q_mod (q_sh (q_idx rfl hu1 (xS 1 V (by decide) rfl rfl) (q_sh q_int) (fun _ _ => rfl))) (q_sh (q_idx rfl hu1 (q_sh (q_lst (qa_cons q_int (qa_cons q_int (qa_cons q_int (qa_cons q_int qa_nil)))))) (q_sh (q_mod (q_sh (q_idx rfl hu1 (xS 1 V (by decide) rfl rfl) (q_sh q_int) (fun _ _ => rfl))) (q_sh q_int))) (fun _ _ => rfl)))))))))) (gV' 3 V (by decide) rfl rfl (by decide)))
    (qs_cons (own1 := []) (sA (ts := [4]) (q_frz (q_sli rfl (xS 2 V (by decide) rfl rfl) (qp_some (q_sh q_int)) (qp_some (q_sh (q_add rfl (q_sh q_int) (q_sh (q_mod (q_sh (q_idx rfl hu1 (xS 1 V (by decide) rfl rfl) (q_sh q_int) (fun _ _ => rfl))) (q_sh q_int)))))))) (gV' 4 V (by decide) rfl rfl (by decide)))
    (qs_cons (own1 := []) (sA (ts := [5]) (q_frz (q_mod (q_sh (q_idx rfl hu1 (xS 1 V (by decide) rfl rfl) (q_sh q_int) (fun _ _ => rfl))) (q_sh (cB1 (B_len rfl) 3 V rfl T.z_len (xS 3 V (by decide) rfl rfl))))) (gV' 5 V (by decide) rfl rfl (by decide)))
    (qs_cons (own1 := []) (sA (ts := [6]) (q_frz (q_lst (qa_cons (q_frz (q_sli rfl (xS 3 V (by decide) rfl rfl) (qp_some (q_sh q_int)) (qp_some (q_sh q_int)))) (qa_cons (q_str (by decide +kernel)) (qa_cons (q_frz (q_add rfl (xS 3 V (by decide) rfl rfl) (q_sh (q_idx rfl hu1 (xS 3 V (by decide) rfl rfl) (xS 5 V (by decide) rfl rfl) (fun _ _ => rfl))))) (qa_cons (q_frz (q_add rfl (q_sh (q_add rfl (q_sh (q_sli rfl (xS 3 V (by decide) rfl rfl) (qp_some (q_sh q_int)) (qp_some (xS 5 V (by decide) rfl rfl)))) (q_sh (q_sli rfl (xS 3 V (by decide) rfl rfl) (qp_some (q_sh q_int)) (qp_some (q_sh q_int)))))) (q_sh (q_sli rfl (xS 3 V (by decide) rfl rfl) (qp_some (xS 5 V (by decide) rfl rfl)) qp_none)))) (qa_cons (q_frz (q_add rfl (q_sh (q_add rfl (q_sh (q_sli rfl (xS 3 V (by decide) rfl rfl) (qp_some (q_sh q_int)) (qp_some (xS 5 V (by decide) rfl rfl)))) (q_sh (q_str (by decide +kernel))))) (q_sh (q_sli rfl (xS 3 V (by decide) rfl rfl) (qp_some (xS 5 V (by decide) rfl rfl)) qp_none)))) qa_nil))))))) (gV' 6 V (by decide) rfl rfl (by decide)))
    (qs_cons (own1 := []) (qs_for (own' := []) (own1 := []) (ts := [7]) hp rfl (qi_of rfl (q_frz (q_add rfl (xS 6 V (by decide) rfl rfl) (q_sh (q_lst (qa_cons (q_frz (q_sli rfl (xS 2 V (by decide) rfl rfl) (qp_some (q_sh q_int)) (qp_some (q_sh q_int)))) (qa_cons (q_frz (q_sli rfl (xS 2 V (by decide) rfl rfl) (qp_some (q_sh q_int)) (qp_some (q_sh q_int)))) qa_nil))))))) (by decide) (gV' 7 V (by decide) rfl rfl (by decide))
    (qs_cons (own1 := []) (sA (ts := [8]) (q_and (q_sh (q_cmpO ck_ge (q_sh (cB1 (B_len rfl) 3 V rfl T.z_len (xS 7 V (by decide) rfl rfl))) (q_sh q_int) rfl)) (q_and (q_sh (q_cmpO ck_le (q_sh (cB1 (B_len rfl) 3 V rfl T.z_len (xS 7 V (by decide) rfl rfl))) (q_sh q_int) rfl)) (q_and (q_sh (q_cmpO (ck_notIn rfl hu) (q_sh (q_str (by decide +kernel))) (xS 7 V (by decide) rfl rfl) rfl)) (q_one (q_frz (q_cmpO (ck_eq rfl hu) (q_sh (cB1 (B_len rfl) 3 V rfl T.z_len (q_sh (xLc V rfl (iRa1 4 V rfl T.z_range (q_sh (cB1 (B_len rfl) 3 V rfl T.z_len (xS 7 V (by decide) rfl rfl)))) (ob := [("k", 18)]) (okD (N := N_law) (by decide +kernel)) rfl rfl (N := N_law) (vis1 := [7, 18]) (loc1 := [18]) (gls1 := []) (by decide +kernel) rfl (fun _ _ _ _ _ V1 => (gV' 18 V1 (by decide) rfl rfl (by decide))) (fun _ _ _ _ _ V1 => (qts_one (qt_cmpO (ck_in rfl hu) (q_sh (q_idx rfl hu1 (xS 7 V1 (by decide) rfl rfl) (xS 18 V1 (by decide) rfl rfl) (fun _ _ => rfl))) (q_sh (q_sli rfl (xS 7 V1 (by decide) rfl rfl) (qp_some (q_sh q_int)) (qp_some (xS 18 V1 (by decide) rfl rfl)))) rfl))) (fun _ _ _ _ _ V1 => (xV 18 V1 (by decide) rfl (by decide) rfl)))))) (q_sh q_int) rfl)))))) (gV' 8 V (by decide) rfl rfl (by decide)))
    (qs_one (qs_if (qt_cmpO (ck_ne rfl hu) (q_sh (cDef 5 V (ok__law_checked T) rfl hr (by first | decide | omega) rfl T.g23 T.k23 T.b23 tk (qa_cons (xV 7 V (by decide) rfl (by decide) rfl) qa_nil) (lnS ln0))) (q_sh (q_idx rfl hu1 (q_sh (q_lst (qa_cons (q_str (by decide +kernel)) (qa_cons (q_str (by decide +kernel)) qa_nil)))) (q_sh (cT1 (T_int) 6 V rfl T.z_int (xS 8 V (by decide) rfl rfl))) (fun _ _ => rfl))) rfl)
    (qs_one (qs_ret q_bl))
    qs_nil))) (hK := rfl))
    (qs_cons (own1 := []) (qs_if (qw_or (qt_cmpO (ck_ne rfl hu) (q_sh (cDef 5 V (ok__law_checked T) rfl hr (by first | decide | omega) rfl T.g23 T.k23 T.b23 tk (qa_cons (xV 3 V (by decide) rfl (by decide) rfl) qa_nil) (lnS ln0))) (q_sh (q_str (by decide +kernel))) rfl) (qw_or (qt_not (qt_val (q_sh (cDef 7 V (ok__law_refused T) rfl hr (by first | decide | omega) rfl T.g22 T.k22 T.b22 tk (qa_cons (xV 3 V (by decide) rfl (by decide) rfl) (qa_cons (q_frz (q_sub (q_sh (q_neg (q_sh q_int))) (q_sh (q_idx rfl hu1 (xS 1 V (by decide) rfl rfl) (q_sh q_int) (fun _ _ => rfl))))) qa_nil)) (lnS (lnS ln0)))))) (qw_or1 (qt_not (qt_val (q_sh (cDef 7 V (ok__law_refused T) rfl hr (by first | decide | omega) rfl T.g22 T.k22 T.b22 tk (qa_cons (xV 3 V (by decide) rfl (by decide) rfl) (qa_cons (q_frz (q_add rfl (q_sh (q_add rfl (q_sh (q_pow (q_sh q_int) (q_sh q_int))) (q_sh q_int))) (q_sh (q_fdiv (q_sh (q_idx rfl hu1 (xS 1 V (by decide) rfl rfl) (q_sh q_int) (fun _ _ => rfl))) (q_sh q_int))))) qa_nil)) (lnS (lnS ln0))))))))).pt
    (qs_one (qs_ret q_bl))
    qs_nil)
    (qs_cons (own1 := [9]) (sN 9 V (by decide) rfl (q_lst qa_nil) (ho := rfl))
    (qs_cons (own1 := [9]) (qs_for (own' := [9]) (own1 := [9]) (ts := [10]) hp rfl (qi_of rfl (cDef 8 V (ok__law_drawn T) rfl hr (by first | decide | omega) rfl T.g25 T.k25 T.b25 tk (qa_cons (xV 0 V (by decide) rfl (by decide) rfl) (qa_cons q_int (qa_cons (q_frz (cB1 (B_len rfl) 3 V rfl T.z_len (xS 3 V (by decide) rfl rfl))) qa_nil))) (lnS (lnS (lnS ln0))))) (by decide) (gV' 10 V (by decide) rfl rfl (by decide))
    (qs_cons (own1 := [9]) (sA (ts := [11]) (cDef 9 V (ok__law_written T) rfl hr (by first | decide | omega) rfl T.g17 T.k17 T.b17 tk (qa_cons (xV 3 V (by decide) rfl (by decide) rfl) (qa_cons (xV 10 V (by decide) rfl (by decide) rfl) qa_nil)) (lnS (lnS ln0))) (gV' 11 V (by decide) rfl rfl (by decide)))
    (qs_cons (own1 := [9]) (qs_if (qw_or (qt_not (qt_val (q_sh (cDef 10 V (ok__law_same T 12) rfl hr (by first | decide | omega) rfl T.g15 T.k15 T.b15 tk (qa_cons (cDef 11 V (ok_write_number T) rfl hr (by first | decide | omega) rfl T.g2 T.k2 T.b2 tk (qa_cons (xV 3 V (by decide) rfl (by decide) rfl) (qa_cons (xV 10 V (by decide) rfl (by decide) rfl) qa_nil)) (lnS (lnS ln0))) (qa_cons (xV 11 V (by decide) rfl (by decide) rfl) qa_nil)) (lnS (lnS ln0)))))) (qw_or1 (qt_not (qt_val (q_sh (cDef 10 V (ok__law_same T 12) rfl hr (by first | decide | omega) rfl T.g15 T.k15 T.b15 tk (qa_cons (cDef 12 V (ok_read_number T) rfl hr (by first | decide | omega) rfl T.g5 T.k5 T.b5 tk (qa_cons (xV 3 V (by decide) rfl (by decide) rfl) (qa_cons (xV 11 V (by decide) rfl (by decide) rfl) qa_nil)) (lnS (lnS ln0))) (qa_cons (xV 10 V (by decide) rfl (by decide) rfl) qa_nil)) (lnS (lnS ln0)))))))).pt
    (qs_one (qs_ret q_bl))
    qs_nil)
    (qs_cons (own1 := [9]) (sA (ts := [12]) (cDef 13 V (ok_write_count T) rfl hr (by first | decide | omega) rfl T.g6 T.k6 T.b6 tk (qa_cons (xV 3 V (by decide) rfl (by decide) rfl) (qa_cons (xV 10 V (by decide) rfl (by decide) rfl) qa_nil)) (lnS (lnS ln0))) (gV' 12 V (by decide) rfl rfl (by decide)))
    (qs_cons (own1 := [9]) (qs_if (qw_or (qt_not (qt_val (q_sh (cIsi (T := .str) 14 15 V rfl rfl T.z_isinstance rfl rfl T.z_str (xS 12 V (by decide) rfl rfl))))) (qw_or (qt_cmpO (ck_ne rfl hu) (q_sh (cDef 16 V (ok__law_value T) rfl hr (by first | decide | omega) rfl T.g18 T.k18 T.b18 tk (qa_cons (xV 3 V (by decide) rfl (by decide) rfl) (qa_cons (xV 12 V (by decide) rfl (by decide) rfl) (qa_cons q_int qa_nil))) (lnS (lnS (lnS ln0))))) (xS 10 V (by decide) rfl rfl) rfl) (qw_or1 (qt_not (qt_val (q_sh (cDef 10 V (ok__law_same T 12) rfl hr (by first | decide | omega) rfl T.g15 T.k15 T.b15 tk (qa_cons (cDef 17 V (ok_read_count T) rfl hr (by first | decide | omega) rfl T.g7 T.k7 T.b7 tk (qa_cons (xV 3 V (by decide) rfl (by decide) rfl) (qa_cons (xV 12 V (by decide) rfl (by decide) rfl) qa_nil)) (lnS (lnS ln0))) (qa_cons (xV 10 V (by decide) rfl (by decide) rfl) qa_nil)) (lnS (lnS ln0))))))))).pt
    (qs_one (qs_ret q_bl))
    qs_nil)
    (qs_cons (own1 := [9]) (sApd 9 V (by decide) rfl rfl (by decide) (q_tup (qa_cons (xV 10 V (by decide) rfl (by decide) rfl) (qa_cons (q_frz (cB1 (B_len rfl) 3 V rfl T.z_len (xS 12 V (by decide) rfl rfl))) (qa_cons (q_frz (xLc V rfl (qi_of rfl (xV 12 V (by decide) rfl (by decide) rfl)) (ob := [("sign", 23)]) (okD (N := N_law) (by decide +kernel)) rfl rfl (N := N_law) (vis1 := [3, 23]) (loc1 := [23]) (gls1 := []) (by decide +kernel) rfl (fun _ _ _ _ _ V1 => (gV' 23 V1 (by decide) rfl rfl (by decide))) (fun _ _ _ _ _ V1 => qts_nil) (fun _ _ _ _ _ V1 => (q_frz (q_index (xS 3 V1 (by decide) rfl rfl) (xS 23 V1 (by decide) rfl rfl)))))) qa_nil)))))
    (qs_one (qs_if (qw_and (qt_cmpO ck_ge (q_sh (cB1 (B_len rfl) 3 V rfl T.z_len (xS 4 V (by decide) rfl rfl))) (q_sh (cB1 (B_len rfl) 3 V rfl T.z_len (xS 3 V (by decide) rfl rfl))) rfl) (qw_and1 (qt_cmpO (ck_ne rfl hu) (q_sh (cDef 18 V (ok_told T) rfl hr (by first | decide | omega) rfl T.g12 T.k12 T.b12 tk (qa_cons (q_frz (xLc V rfl (iRa1 4 V rfl T.z_range (q_sh (cB1 (B_len rfl) 3 V rfl T.z_len (xS 3 V (by decide) rfl rfl)))) (ob := [("k", 18)]) (okD (N := N_law) (by decide +kernel)) rfl rfl (N := N_law) (vis1 := [3, 4, 18]) (loc1 := [18]) (gls1 := []) (by decide +kernel) rfl (fun _ _ _ _ _ V1 => (gV' 18 V1 (by decide) rfl rfl (by decide))) (fun _ _ _ _ _ V1 => qts_nil) (fun _ _ _ _ _ V1 => (q_tup (qa_cons (q_idx rfl hu1 (xS 3 V1 (by decide) rfl rfl) (xS 18 V1 (by decide) rfl rfl) (fun _ _ => rfl)) (qa_cons (q_idx rfl hu1 (xS 4 V1 (by decide) rfl rfl) (xS 18 V1 (by decide) rfl rfl) (fun _ _ => rfl)) qa_nil)))))) (qa_cons (xV 11 V (by decide) rfl (by decide) rfl) qa_nil)) (lnS (lnS ln0)))) (q_sh (cDef 9 V (ok__law_written T) rfl hr (by first | decide | omega) rfl T.g17 T.k17 T.b17 tk (qa_cons (q_frz (q_sli rfl (xS 4 V (by decide) rfl rfl) (qp_some (q_sh q_int)) (qp_some (q_sh (cB1 (B_len rfl) 3 V rfl T.z_len (xS 3 V (by decide) rfl rfl)))))) (qa_cons (xV 10 V (by decide) rfl (by decide) rfl) qa_nil)) (lnS (lnS ln0)))) rfl))).pt
    (qs_one (qs_ret q_bl))
    qs_nil))))))) (hK := rfl))
    (qs_cons (own1 := []) (qs_pre1 (own := []) (qs_for (own' := []) (own1 := []) (ts := [10, 13, 14]) hp rfl (qi_of rfl (xV 9 V (by decide) rfl (by decide) rfl)) (by decide) (qg_tup rfl rfl (qgs_cons (gV' 10 V (by decide) rfl rfl (by decide)) (qgs_cons (gV' 13 V (by decide) rfl rfl (by decide)) (qgs_cons (gV' 14 V (by decide) rfl rfl (by decide)) qgs_nil))))
    (qs_one (qs_for (own' := []) (own1 := []) (ts := [15, 16, 17]) hp rfl (qi_of rfl (xV 9 V (by decide) rfl (by decide) rfl)) (by decide) (qg_tup rfl rfl (qgs_cons (gV' 15 V (by decide) rfl rfl (by decide)) (qgs_cons (gV' 16 V (by decide) rfl rfl (by decide)) (qgs_cons (gV' 17 V (by decide) rfl rfl (by decide)) qgs_nil))))
    (qs_one (qs_if (qt_cmpO (ck_ne rfl hu) (q_sh (q_cmpO (ck_ltX rfl hu) (xS 10 V (by decide) rfl rfl) (xS 15 V (by decide) rfl rfl) rfl)) (q_sh (q_or (q_sh (q_cmpO (ck_ltX rfl hu) (xS 13 V (by decide) rfl rfl) (xS 16 V (by decide) rfl rfl) rfl)) (q_one (q_and (q_sh (q_cmpO (ck_eq rfl hu) (xS 13 V (by decide) rfl rfl) (xS 16 V (by decide) rfl rfl) rfl)) (q_one (q_frz (q_cmpO (ck_ltX rfl hu) (xS 14 V (by decide) rfl rfl) (xS 17 V (by decide) rfl rfl) rfl))))))) rfl)
    (qs_one (qs_ret q_bl))
    qs_nil)) (hK := rfl))) (hK := rfl)) (by decide))
    (qs_cons (own1 := []) (qs_for (own' := []) (own1 := []) (ts := [18]) hp rfl (iRa1 4 V rfl T.z_range (q_sh q_int)) (by decide) (gV' 18 V (by decide) rfl rfl (by decide))
    (qs_cons (own1 := []) (sA (ts := [7]) (cDef 0 V (ok__law_numbers T) rfl hr (by first | decide | omega) rfl T.g14 T.k14 T.b14 tk (qa_cons (cDef 1 V (ok__law_cell T) rfl hr (by first | decide | omega) rfl T.g13 T.k13 T.b13 tk (qa_cons (xV 0 V (by decide) rfl (by decide) rfl) (qa_cons (q_frz (q_add rfl (q_sh q_int) (xS 18 V (by decide) rfl rfl))) qa_nil)) (lnS (lnS ln0))) (qa_cons q_int (qa_cons q_int qa_nil))) (lnS (lnS (lnS ln0)))) (gV' 7 V (by decide) rfl rfl (by decide)))
    (qs_cons (own1 := []) (sA (ts := [19]) (q_idx rfl hu1 (q_sh (q_lst (qa_cons (xV 3 V (by decide) rfl (by decide) rfl) (qa_cons (q_frz (q_add rfl (xS 3 V (by decide) rfl rfl) (q_sh (q_str (by decide +kernel))))) (qa_cons (q_frz (q_add rfl (q_sh (q_sli rfl (xS 3 V (by decide) rfl rfl) (qp_some (q_sh q_int)) (qp_some (q_sh q_int)))) (q_sh (q_str (by decide +kernel))))) qa_nil))))) (q_sh (q_mod (q_sh (q_idx rfl hu1 (xS 7 V (by decide) rfl rfl) (q_sh q_int) (fun _ _ => rfl))) (q_sh q_int))) (fun _ _ => rfl)) (gV' 19 V (by decide) rfl rfl (by decide)))
    (qs_cons (own1 := []) (sA (ts := [20]) (q_frz (q_join rfl (q_sh (q_str (by decide +kernel))) (q_sh (xLc V rfl (iRa1 4 V rfl T.z_range (q_sh (q_mod (q_sh (q_idx rfl hu1 (xS 7 V (by decide) rfl rfl) (q_sh q_int) (fun _ _ => rfl))) (q_sh q_int)))) (ob := [("j", 22)]) (okD (N := N_law) (by decide +kernel)) rfl rfl (N := N_law) (vis1 := [7, 19, 22]) (loc1 := [22]) (gls1 := ["len"]) (by decide +kernel) rfl (fun _ _ _ _ _ V1 => (gV' 22 V1 (by decide) rfl rfl (by decide))) (fun _ _ _ _ _ V1 => qts_nil) (fun _ _ _ _ _ V1 => (q_idx rfl hu1 (xS 19 V1 (by decide) rfl rfl) (q_sh (q_mod (q_sh (q_idx rfl hu1 (xS 7 V1 (by decide) rfl rfl) (q_sh (q_add rfl (q_sh q_int) (xS 22 V1 (by decide) rfl rfl))) (fun _ _ => rfl))) (q_sh (cB1 (B_len rfl) 0 V1 rfl T.z_len (xS 19 V1 (by decide) rfl rfl))))) (fun _ _ => rfl))))))) (gV' 20 V (by decide) rfl rfl (by decide)))
    (qs_cons (own1 := []) (qs_if (qt_not (qt_val (q_sh (cDef 10 V (ok__law_same T 12) rfl hr (by first | decide | omega) rfl T.g15 T.k15 T.b15 tk (qa_cons (cDef 19 V (ok__law_asked T) rfl hr (by first | decide | omega) rfl T.g20 T.k20 T.b20 tk (qa_cons (xV 3 V (by decide) rfl (by decide) rfl) (qa_cons (xV 20 V (by decide) rfl (by decide) rfl) qa_nil)) (lnS (lnS ln0))) (qa_cons (cDef 20 V (ok__law_read T) rfl hr (by first | decide | omega) rfl T.g19 T.k19 T.b19 tk (qa_cons (xV 3 V (by decide) rfl (by decide) rfl) (qa_cons (xV 20 V (by decide) rfl (by decide) rfl) qa_nil)) (lnS (lnS ln0))) qa_nil)) (lnS (lnS ln0))))))
    (qs_one (qs_ret q_bl))
    qs_nil)
    (qs_cons (own1 := []) (qs_if (qt_not (qt_val (q_sh (cDef 10 V (ok__law_same T 12) rfl hr (by first | decide | omega) rfl T.g15 T.k15 T.b15 tk (qa_cons (cDef 21 V (ok__law_counted T) rfl hr (by first | decide | omega) rfl T.g21 T.k21 T.b21 tk (qa_cons (xV 3 V (by decide) rfl (by decide) rfl) (qa_cons (xV 20 V (by decide) rfl (by decide) rfl) qa_nil)) (lnS (lnS ln0))) (qa_cons (cDef 16 V (ok__law_value T) rfl hr (by first | decide | omega) rfl T.g18 T.k18 T.b18 tk (qa_cons (xV 3 V (by decide) rfl (by decide) rfl) (qa_cons (xV 20 V (by decide) rfl (by decide) rfl) (qa_cons q_int qa_nil))) (lnS (lnS (lnS ln0)))) qa_nil)) (lnS (lnS ln0))))))
    (qs_one (qs_ret q_bl))
    qs_nil)
    (qs_cons (own1 := []) (sA (ts := [21]) (cDef 22 V (ok__law_change T) rfl hr (by first | decide | omega) rfl T.g24 T.k24 T.b24 tk (qa_cons (xV 3 V (by decide) rfl (by decide) rfl) (qa_cons (xV 4 V (by decide) rfl (by decide) rfl) (qa_cons (xV 20 V (by decide) rfl (by decide) rfl) qa_nil))) (lnS (lnS (lnS ln0)))) (gV' 21 V (by decide) rfl rfl (by decide)))
    (qs_cons (own1 := []) (qs_if (qt_not (qt_val (q_sh (cDef 10 V (ok__law_same T 12) rfl hr (by first | decide | omega) rfl T.g15 T.k15 T.b15 tk (qa_cons (cDef 23 V (ok_change_figures T) rfl hr (by first | decide | omega) rfl T.g9 T.k9 T.b9 tk (qa_cons (xV 3 V (by decide) rfl (by decide) rfl) (qa_cons (xV 4 V (by decide) rfl (by decide) rfl) (qa_cons (xV 20 V (by decide) rfl (by decide) rfl) qa_nil))) (lnS (lnS (lnS ln0)))) (qa_cons (xV 21 V (by decide) rfl (by decide) rfl) qa_nil)) (lnS (lnS ln0))))))
    (qs_one (qs_ret q_bl))
    qs_nil)
    (qs_one (qs_if (qw_and (qt_cmpO (ck_eq rfl hu) (q_sh (cB1 (B_len rfl) 3 V rfl T.z_len (q_sh (xLc V rfl (qi_of rfl (xV 20 V (by decide) rfl (by decide) rfl)) (ob := [("sign", 23)]) (okD (N := N_law) (by decide +kernel)) rfl rfl (N := N_law) (vis1 := [4, 23]) (loc1 := [23]) (gls1 := []) (by decide +kernel) rfl (fun _ _ _ _ _ V1 => (gV' 23 V1 (by decide) rfl rfl (by decide))) (fun _ _ _ _ _ V1 => (qts_one (qt_cmpO (ck_in rfl hu) (xS 23 V1 (by decide) rfl rfl) (xS 4 V1 (by decide) rfl rfl) rfl))) (fun _ _ _ _ _ V1 => (xV 23 V1 (by decide) rfl (by decide) rfl)))))) (q_sh q_int) rfl) (qw_and1 (qt_cmpO (ck_ne rfl hu) (q_sh (cDef 23 V (ok_change_figures T) rfl hr (by first | decide | omega) rfl T.g9 T.k9 T.b9 tk (qa_cons (xV 4 V (by decide) rfl (by decide) rfl) (qa_cons (xV 3 V (by decide) rfl (by decide) rfl) (qa_cons (xV 21 V (by decide) rfl (by decide) rfl) qa_nil))) (lnS (lnS (lnS ln0))))) (xS 20 V (by decide) rfl rfl) rfl))).pt
    (qs_one (qs_ret q_bl))
    qs_nil))))))))) (hK := rfl))
    (qs_one (qs_ret q_bl))))))))))))))
end
theorem all_mk {P : Program} {w : World} {K : KF} {h : Heap} {mg : Str → Option Value} {fa : Addr} (X : K.In h) (G : h.Ns mainGlobals mg) (hfa : mg "law" = some (.ref fa))
    {f_0 : Addr} {od_1 : Option Addr} {an_2 : Option Addr} {sl_3 : Array (Option Value)} {oc_4 : Value} {kV_5 : Value} {dc_6 : Value} {pm_7 : Value} {cd_8 : Value} {ct_9 : Value} {f_10 : Addr} {od_11 : Option Addr} {an_12 : Option Addr} {sl_13 : Array (Option Value)} {oc_14 : Value} {kV_15 : Value} {dc_16 : Value} {pm_17 : Value} {cd_18 : Value} {ct_19 : Value} {f_20 : Addr} {od_21 : Option Addr} {an_22 : Option Addr} {sl_23 : Array (Option Value)} {oc_24 : Value} {kV_25 : Value} {dc_26 : Value} {pm_27 : Value} {cd_28 : Value} {ct_29 : Value} {f_30 : Addr} {od_31 : Option Addr} {an_32 : Option Addr} {sl_33 : Array (Option Value)} {oc_34 : Value} {kV_35 : Value} {dc_36 : Value} {pm_37 : Value} {cd_38 : Value} {ct_39 : Value} {f_40 : Addr} {od_41 : Option Addr} {an_42 : Option Addr} {sl_43 : Array (Option Value)} {oc_44 : Value} {kV_45 : Value} {dc_46 : Value} {pm_47 : Value} {cd_48 : Value} {ct_49 : Value} {f_50 : Addr} {od_51 : Option Addr} {an_52 : Option Addr} {sl_53 : Array (Option Value)} {oc_54 : Value} {kV_55 : Value} {dc_56 : Value} {pm_57 : Value} {cd_58 : Value} {ct_59 : Value} {f_60 : Addr} {od_61 : Option Addr} {an_62 : Option Addr} {sl_63 : Array (Option Value)} {oc_64 : Value} {kV_65 : Value} {dc_66 : Value} {pm_67 : Value} {cd_68 : Value} {ct_69 : Value} {f_70 : Addr} {od_71 : Option Addr} {an_72 : Option Addr} {sl_73 : Array (Option Value)} {oc_74 : Value} {kV_75 : Value} {dc_76 : Value} {pm_77 : Value} {cd_78 : Value} {ct_79 : Value} {f_80 : Addr} {od_81 : Option Addr} {an_82 : Option Addr} {sl_83 : Array (Option Value)} {oc_84 : Value} {kV_85 : Value} {dc_86 : Value} {pm_87 : Value} {cd_88 : Value} {ct_89 : Value} {f_90 : Addr} {od_91 : Option Addr} {an_92 : Option Addr} {sl_93 : Array (Option Value)} {oc_94 : Value} {kV_95 : Value} {dc_96 : Value} {pm_97 : Value} {cd_98 : Value} {ct_99 : Value} {f_100 : Addr} {od_101 : Option Addr} {an_102 : Option Addr} {sl_103 : Array (Option Value)} {oc_104 : Value} {kV_105 : Value} {dc_106 : Value} {pm_107 : Value} {cd_108 : Value} {ct_109 : Value} {f_110 : Addr} {od_111 : Option Addr} {an_112 : Option Addr} {sl_113 : Array (Option Value)} {oc_114 : Value} {kV_115 : Value} {dc_116 : Value} {pm_117 : Value} {cd_118 : Value} {ct_119 : Value} {f_120 : Addr} {od_121 : Option Addr} {an_122 : Option Addr} {sl_123 : Array (Option Value)} {oc_124 : Value} {kV_125 : Value} {dc_126 : Value} {pm_127 : Value} {cd_128 : Value} {ct_129 : Value} {f_130 : Addr} {od_131 : Option Addr} {an_132 : Option Addr} {sl_133 : Array (Option Value)} {oc_134 : Value} {kV_135 : Value} {dc_136 : Value} {pm_137 : Value} {cd_138 : Value} {ct_139 : Value} {f_140 : Addr} {od_141 : Option Addr} {an_142 : Option Addr} {sl_143 : Array (Option Value)} {oc_144 : Value} {kV_145 : Value} {dc_146 : Value} {pm_147 : Value} {cd_148 : Value} {ct_149 : Value} {f_150 : Addr} {od_151 : Option Addr} {an_152 : Option Addr} {sl_153 : Array (Option Value)} {oc_154 : Value} {kV_155 : Value} {dc_156 : Value} {pm_157 : Value} {cd_158 : Value} {ct_159 : Value} {f_160 : Addr} {od_161 : Option Addr} {an_162 : Option Addr} {sl_163 : Array (Option Value)} {oc_164 : Value} {kV_165 : Value} {dc_166 : Value} {pm_167 : Value} {cd_168 : Value} {ct_169 : Value} {f_170 : Addr} {od_171 : Option Addr} {an_172 : Option Addr} {sl_173 : Array (Option Value)} {oc_174 : Value} {kV_175 : Value} {dc_176 : Value} {pm_177 : Value} {cd_178 : Value} {ct_179 : Value} {f_180 : Addr} {od_181 : Option Addr} {an_182 : Option Addr} {sl_183 : Array (Option Value)} {oc_184 : Value} {kV_185 : Value} {dc_186 : Value} {pm_187 : Value} {cd_188 : Value} {ct_189 : Value} {f_190 : Addr} {od_191 : Option Addr} {an_192 : Option Addr} {sl_193 : Array (Option Value)} {oc_194 : Value} {kV_195 : Value} {dc_196 : Value} {pm_197 : Value} {cd_198 : Value} {ct_199 : Value} {f_200 : Addr} {od_201 : Option Addr} {an_202 : Option Addr} {sl_203 : Array (Option Value)} {oc_204 : Value} {kV_205 : Value} {dc_206 : Value} {pm_207 : Value} {cd_208 : Value} {ct_209 : Value} {f_210 : Addr} {od_211 : Option Addr} {an_212 : Option Addr} {sl_213 : Array (Option Value)} {oc_214 : Value} {kV_215 : Value} {dc_216 : Value} {pm_217 : Value} {cd_218 : Value} {ct_219 : Value} {f_220 : Addr} {od_221 : Option Addr} {an_222 : Option Addr} {sl_223 : Array (Option Value)} {oc_224 : Value} {kV_225 : Value} {dc_226 : Value} {pm_227 : Value} {cd_228 : Value} {ct_229 : Value} {f_230 : Addr} {od_231 : Option Addr} {an_232 : Option Addr} {sl_233 : Array (Option Value)} {oc_234 : Value} {kV_235 : Value} {dc_236 : Value} {pm_237 : Value} {cd_238 : Value} {ct_239 : Value} {f_240 : Addr} {od_241 : Option Addr} {an_242 : Option Addr} {sl_243 : Array (Option Value)} {oc_244 : Value} {kV_245 : Value} {dc_246 : Value} {pm_247 : Value} {cd_248 : Value} {ct_249 : Value} {f_250 : Addr} {od_251 : Option Addr} {an_252 : Option Addr} {sl_253 : Array (Option Value)} {oc_254 : Value} {kV_255 : Value} {dc_256 : Value} {pm_257 : Value} {cd_258 : Value} {ct_259 : Value} {f_260 : Addr} {od_261 : Option Addr} {an_262 : Option Addr} {sl_263 : Array (Option Value)} {oc_264 : Value} {kV_265 : Value} {dc_266 : Value} {pm_267 : Value} {cd_268 : Value} {ct_269 : Value} {t_270 : Tok} {t_271 : Tok} {C_272 : Addr} {C_273 : Addr} {C_274 : Addr} {C_275 : Addr} {C_276 : Addr}
    (q0 : PySem.W.nsIn K mainGlobals "check_figures" = some (some (.ref f_0)))
    (q1 : K.lookup f_0 = some ⟨oc_4, od_1, .func (PySem.W.fnOf "check_figures" "check_figures" (defArgs s_check_figures) (defBody s_check_figures) (defScope s_check_figures) .none kV_5 dc_6 pm_7 an_2 cd_8 ct_9), sl_3⟩)
    (q2 : PySem.W.codeIn K cd_8 "check_figures" = true)
    (q3 : PySem.W.keepIn K (.ref f_0) = true)
    (q4 : PySem.W.nsIn K mainGlobals "check_number" = some (some (.ref f_10)))
    (q5 : K.lookup f_10 = some ⟨oc_14, od_11, .func (PySem.W.fnOf "check_number" "check_number" (defArgs s_check_number) (defBody s_check_number) (defScope s_check_number) .none kV_15 dc_16 pm_17 an_12 cd_18 ct_19), sl_13⟩)
    (q6 : PySem.W.codeIn K cd_18 "check_number" = true)
    (q7 : PySem.W.keepIn K (.ref f_10) = true)
    (q8 : PySem.W.nsIn K mainGlobals "write_number" = some (some (.ref f_20)))
    (q9 : K.lookup f_20 = some ⟨oc_24, od_21, .func (PySem.W.fnOf "write_number" "write_number" (defArgs s_write_number) (defBody s_write_number) (defScope s_write_number) .none kV_25 dc_26 pm_27 an_22 cd_28 ct_29), sl_23⟩)
    (q10 : PySem.W.codeIn K cd_28 "write_number" = true)
    (q11 : PySem.W.keepIn K (.ref f_20) = true)
    (q12 : PySem.W.nsIn K mainGlobals "value" = some (some (.ref f_30)))
    (q13 : K.lookup f_30 = some ⟨oc_34, od_31, .func (PySem.W.fnOf "value" "value" (defArgs s_value) (defBody s_value) (defScope s_value) .none kV_35 dc_36 pm_37 an_32 cd_38 ct_39), sl_33⟩)
    (q14 : PySem.W.codeIn K cd_38 "value" = true)
    (q15 : PySem.W.keepIn K (.ref f_30) = true)
    (q16 : PySem.W.nsIn K mainGlobals "is_written" = some (some (.ref f_40)))
    (q17 : K.lookup f_40 = some ⟨oc_44, od_41, .func (PySem.W.fnOf "is_written" "is_written" (defArgs s_is_written) (defBody s_is_written) (defScope s_is_written) .none kV_45 dc_46 pm_47 an_42 cd_48 ct_49), sl_43⟩)
    (q18 : PySem.W.codeIn K cd_48 "is_written" = true)
    (q19 : PySem.W.keepIn K (.ref f_40) = true)
    (q20 : PySem.W.nsIn K mainGlobals "read_number" = some (some (.ref f_50)))
    (q21 : K.lookup f_50 = some ⟨oc_54, od_51, .func (PySem.W.fnOf "read_number" "read_number" (defArgs s_read_number) (defBody s_read_number) (defScope s_read_number) .none kV_55 dc_56 pm_57 an_52 cd_58 ct_59), sl_53⟩)
    (q22 : PySem.W.codeIn K cd_58 "read_number" = true)
    (q23 : PySem.W.keepIn K (.ref f_50) = true)
    (q24 : PySem.W.nsIn K mainGlobals "write_count" = some (some (.ref f_60)))
    (q25 : K.lookup f_60 = some ⟨oc_64, od_61, .func (PySem.W.fnOf "write_count" "write_count" (defArgs s_write_count) (defBody s_write_count) (defScope s_write_count) .none kV_65 dc_66 pm_67 an_62 cd_68 ct_69), sl_63⟩)
    (q26 : PySem.W.codeIn K cd_68 "write_count" = true)
    (q27 : PySem.W.keepIn K (.ref f_60) = true)
    (q28 : PySem.W.nsIn K mainGlobals "read_count" = some (some (.ref f_70)))
    (q29 : K.lookup f_70 = some ⟨oc_74, od_71, .func (PySem.W.fnOf "read_count" "read_count" (defArgs s_read_count) (defBody s_read_count) (defScope s_read_count) .none kV_75 dc_76 pm_77 an_72 cd_78 ct_79), sl_73⟩)
    (q30 : PySem.W.codeIn K cd_78 "read_count" = true)
    (q31 : PySem.W.keepIn K (.ref f_70) = true)
    (q32 : PySem.W.nsIn K mainGlobals "changed" = some (some (.ref f_80)))
    (q33 : K.lookup f_80 = some ⟨oc_84, od_81, .func (PySem.W.fnOf "changed" "changed" (defArgs s_changed) (defBody s_changed) (defScope s_changed) .none kV_85 dc_86 pm_87 an_82 cd_88 ct_89), sl_83⟩)
    (q34 : PySem.W.codeIn K cd_88 "changed" = true)
    (q35 : PySem.W.keepIn K (.ref f_80) = true)
    (q36 : PySem.W.nsIn K mainGlobals "change_figures" = some (some (.ref f_90)))
    (q37 : K.lookup f_90 = some ⟨oc_94, od_91, .func (PySem.W.fnOf "change_figures" "change_figures" (defArgs s_change_figures) (defBody s_change_figures) (defScope s_change_figures) .none kV_95 dc_96 pm_97 an_92 cd_98 ct_99), sl_93⟩)
    (q38 : PySem.W.codeIn K cd_98 "change_figures" = true)
    (q39 : PySem.W.keepIn K (.ref f_90) = true)
    (q40 : PySem.W.nsIn K mainGlobals "longest_at" = some (some (.ref f_100)))
    (q41 : K.lookup f_100 = some ⟨oc_104, od_101, .func (PySem.W.fnOf "longest_at" "longest_at" (defArgs s_longest_at) (defBody s_longest_at) (defScope s_longest_at) .none kV_105 dc_106 pm_107 an_102 cd_108 ct_109), sl_103⟩)
    (q42 : PySem.W.codeIn K cd_108 "longest_at" = true)
    (q43 : PySem.W.keepIn K (.ref f_100) = true)
    (q44 : PySem.W.nsIn K mainGlobals "parse" = some (some (.ref f_110)))
    (q45 : K.lookup f_110 = some ⟨oc_114, od_111, .func (PySem.W.fnOf "parse" "parse" (defArgs s_parse) (defBody s_parse) (defScope s_parse) .none kV_115 dc_116 pm_117 an_112 cd_118 ct_119), sl_113⟩)
    (q46 : PySem.W.codeIn K cd_118 "parse" = true)
    (q47 : PySem.W.keepIn K (.ref f_110) = true)
    (q48 : PySem.W.nsIn K mainGlobals "told" = some (some (.ref f_120)))
    (q49 : K.lookup f_120 = some ⟨oc_124, od_121, .func (PySem.W.fnOf "told" "told" (defArgs s_told) (defBody s_told) (defScope s_told) .none kV_125 dc_126 pm_127 an_122 cd_128 ct_129), sl_123⟩)
    (q50 : PySem.W.codeIn K cd_128 "told" = true)
    (q51 : PySem.W.keepIn K (.ref f_120) = true)
    (q52 : PySem.W.nsIn K mainGlobals "_law_cell" = some (some (.ref f_130)))
    (q53 : K.lookup f_130 = some ⟨oc_134, od_131, .func (PySem.W.fnOf "_law_cell" "_law_cell" (defArgs s__law_cell) (defBody s__law_cell) (defScope s__law_cell) .none kV_135 dc_136 pm_137 an_132 cd_138 ct_139), sl_133⟩)
    (q54 : PySem.W.codeIn K cd_138 "_law_cell" = true)
    (q55 : PySem.W.keepIn K (.ref f_130) = true)
    (q56 : PySem.W.nsIn K mainGlobals "_law_numbers" = some (some (.ref f_140)))
    (q57 : K.lookup f_140 = some ⟨oc_144, od_141, .func (PySem.W.fnOf "_law_numbers" "_law_numbers" (defArgs s__law_numbers) (defBody s__law_numbers) (defScope s__law_numbers) .none kV_145 dc_146 pm_147 an_142 cd_148 ct_149), sl_143⟩)
    (q58 : PySem.W.codeIn K cd_148 "_law_numbers" = true)
    (q59 : PySem.W.keepIn K (.ref f_140) = true)
    (q60 : PySem.W.nsIn K mainGlobals "_law_same" = some (some (.ref f_150)))
    (q61 : K.lookup f_150 = some ⟨oc_154, od_151, .func (PySem.W.fnOf "_law_same" "_law_same" (defArgs s__law_same) (defBody s__law_same) (defScope s__law_same) .none kV_155 dc_156 pm_157 an_152 cd_158 ct_159), sl_153⟩)
    (q62 : PySem.W.codeIn K cd_158 "_law_same" = true)
    (q63 : PySem.W.keepIn K (.ref f_150) = true)
    (q64 : PySem.W.nsIn K mainGlobals "_law_pool" = some (some (.ref f_160)))
    (q65 : K.lookup f_160 = some ⟨oc_164, od_161, .func (PySem.W.fnOf "_law_pool" "_law_pool" (defArgs s__law_pool) (defBody s__law_pool) (defScope s__law_pool) .none kV_165 dc_166 pm_167 an_162 cd_168 ct_169), sl_163⟩)
    (q66 : PySem.W.codeIn K cd_168 "_law_pool" = true)
    (q67 : PySem.W.keepIn K (.ref f_160) = true)
    (q68 : PySem.W.nsIn K mainGlobals "_law_written" = some (some (.ref f_170)))
    (q69 : K.lookup f_170 = some ⟨oc_174, od_171, .func (PySem.W.fnOf "_law_written" "_law_written" (defArgs s__law_written) (defBody s__law_written) (defScope s__law_written) .none kV_175 dc_176 pm_177 an_172 cd_178 ct_179), sl_173⟩)
    (q70 : PySem.W.codeIn K cd_178 "_law_written" = true)
    (q71 : PySem.W.keepIn K (.ref f_170) = true)
    (q72 : PySem.W.nsIn K mainGlobals "_law_value" = some (some (.ref f_180)))
    (q73 : K.lookup f_180 = some ⟨oc_184, od_181, .func (PySem.W.fnOf "_law_value" "_law_value" (defArgs s__law_value) (defBody s__law_value) (defScope s__law_value) .none kV_185 dc_186 pm_187 an_182 cd_188 ct_189), sl_183⟩)
    (q74 : PySem.W.codeIn K cd_188 "_law_value" = true)
    (q75 : PySem.W.keepIn K (.ref f_180) = true)
    (q76 : PySem.W.nsIn K mainGlobals "_law_read" = some (some (.ref f_190)))
    (q77 : K.lookup f_190 = some ⟨oc_194, od_191, .func (PySem.W.fnOf "_law_read" "_law_read" (defArgs s__law_read) (defBody s__law_read) (defScope s__law_read) .none kV_195 dc_196 pm_197 an_192 cd_198 ct_199), sl_193⟩)
    (q78 : PySem.W.codeIn K cd_198 "_law_read" = true)
    (q79 : PySem.W.keepIn K (.ref f_190) = true)
    (q80 : PySem.W.nsIn K mainGlobals "_law_asked" = some (some (.ref f_200)))
    (q81 : K.lookup f_200 = some ⟨oc_204, od_201, .func (PySem.W.fnOf "_law_asked" "_law_asked" (defArgs s__law_asked) (defBody s__law_asked) (defScope s__law_asked) .none kV_205 dc_206 pm_207 an_202 cd_208 ct_209), sl_203⟩)
    (q82 : PySem.W.codeIn K cd_208 "_law_asked" = true)
    (q83 : PySem.W.keepIn K (.ref f_200) = true)
    (q84 : PySem.W.nsIn K mainGlobals "_law_counted" = some (some (.ref f_210)))
    (q85 : K.lookup f_210 = some ⟨oc_214, od_211, .func (PySem.W.fnOf "_law_counted" "_law_counted" (defArgs s__law_counted) (defBody s__law_counted) (defScope s__law_counted) .none kV_215 dc_216 pm_217 an_212 cd_218 ct_219), sl_213⟩)
    (q86 : PySem.W.codeIn K cd_218 "_law_counted" = true)
    (q87 : PySem.W.keepIn K (.ref f_210) = true)
    (q88 : PySem.W.nsIn K mainGlobals "_law_refused" = some (some (.ref f_220)))
    (q89 : K.lookup f_220 = some ⟨oc_224, od_221, .func (PySem.W.fnOf "_law_refused" "_law_refused" (defArgs s__law_refused) (defBody s__law_refused) (defScope s__law_refused) .none kV_225 dc_226 pm_227 an_222 cd_228 ct_229), sl_223⟩)
    (q90 : PySem.W.codeIn K cd_228 "_law_refused" = true)
    (q91 : PySem.W.keepIn K (.ref f_220) = true)
    (q92 : PySem.W.nsIn K mainGlobals "_law_checked" = some (some (.ref f_230)))
    (q93 : K.lookup f_230 = some ⟨oc_234, od_231, .func (PySem.W.fnOf "_law_checked" "_law_checked" (defArgs s__law_checked) (defBody s__law_checked) (defScope s__law_checked) .none kV_235 dc_236 pm_237 an_232 cd_238 ct_239), sl_233⟩)
    (q94 : PySem.W.codeIn K cd_238 "_law_checked" = true)
    (q95 : PySem.W.keepIn K (.ref f_230) = true)
    (q96 : PySem.W.nsIn K mainGlobals "_law_change" = some (some (.ref f_240)))
    (q97 : K.lookup f_240 = some ⟨oc_244, od_241, .func (PySem.W.fnOf "_law_change" "_law_change" (defArgs s__law_change) (defBody s__law_change) (defScope s__law_change) .none kV_245 dc_246 pm_247 an_242 cd_248 ct_249), sl_243⟩)
    (q98 : PySem.W.codeIn K cd_248 "_law_change" = true)
    (q99 : PySem.W.keepIn K (.ref f_240) = true)
    (q100 : PySem.W.nsIn K mainGlobals "_law_drawn" = some (some (.ref f_250)))
    (q101 : K.lookup f_250 = some ⟨oc_254, od_251, .func (PySem.W.fnOf "_law_drawn" "_law_drawn" (defArgs s__law_drawn) (defBody s__law_drawn) (defScope s__law_drawn) .none kV_255 dc_256 pm_257 an_252 cd_258 ct_259), sl_253⟩)
    (q102 : PySem.W.codeIn K cd_258 "_law_drawn" = true)
    (q103 : PySem.W.keepIn K (.ref f_250) = true)
    (q104 : PySem.W.nsIn K mainGlobals "law" = some (some (.ref f_260)))
    (q105 : K.lookup f_260 = some ⟨oc_264, od_261, .func (PySem.W.fnOf "law" "law" (defArgs s_law) (defBody s_law) (defScope s_law) .none kV_265 dc_266 pm_267 an_262 cd_268 ct_269), sl_263⟩)
    (q106 : PySem.W.codeIn K cd_268 "law" = true)
    (q107 : PySem.W.keepIn K (.ref f_260) = true)
    (q108 : PySem.W.nsIn K mainGlobals "all" = some none)
    (q109 : PySem.W.nsIn K mainGlobals "bool" = some none)
    (q110 : PySem.W.nsIn K mainGlobals "enumerate" = some none)
    (q111 : PySem.W.nsIn K mainGlobals "int" = some none)
    (q112 : PySem.W.nsIn K mainGlobals "isinstance" = some none)
    (q113 : PySem.W.nsIn K mainGlobals "len" = some none)
    (q114 : PySem.W.nsIn K mainGlobals "list" = some none)
    (q115 : PySem.W.nsIn K mainGlobals "range" = some none)
    (q116 : PySem.W.nsIn K mainGlobals "str" = some none)
    (q117 : PySem.W.nsIn K mainGlobals "tuple" = some none)
    (q118 : PySem.W.nsIn K mainGlobals "GREATEST" = some (some (.int (1000000000000000000000000000000000000000000000000000000000000) t_270)))
    (q119 : PySem.W.nsIn K mainGlobals "MOST_FIGURES" = some (some (.int (40) t_271)))
    (q120 : PySem.W.nsIn K mainGlobals "ScriptError" = some (some (.ref C_272)))
    (q121 : PySem.W.nsIn K mainGlobals "NotTold" = some (some (.ref C_273)))
    (q122 : PySem.W.nsIn K mainGlobals "InvalidFigures" = some (some (.ref C_274)))
    (q123 : PySem.W.nsIn K mainGlobals "NumberOutOfRange" = some (some (.ref C_275)))
    (q124 : PySem.W.nsIn K mainGlobals "NotNumber" = some (some (.ref C_276)))
    (q125 : PySem.W.excIn K C_272 [.type "ValueError", .type "Exception", .type "BaseException", .type "object"] "ValueError.__new__" = true)
    (q126 : PySem.W.keepIn K (.ref C_272) = true)
    (q127 : PySem.W.subIn K (.ref C_272) (.type "BaseException") = some true)
    (q128 : PySem.W.typeIn K (.ref C_272) = some (.type "type"))
    (q129 : PySem.W.subIn K (.ref C_272) (.type "ValueError") = some true)
    (q130 : PySem.W.hasDictIn K C_272 = true)
    (q131 : PySem.W.subIn K (.ref C_272) (.ref C_272) = some true)
    (q132 : PySem.W.subIn K (.ref C_272) (.ref C_273) = some false)
    (q133 : PySem.W.subIn K (.ref C_272) (.ref C_274) = some false)
    (q134 : PySem.W.subIn K (.ref C_272) (.ref C_275) = some false)
    (q135 : PySem.W.subIn K (.ref C_272) (.ref C_276) = some false)
    (q136 : PySem.W.findIn K (.ref C_272) "__getattribute__" = some (some (.builtin "BaseException.__getattribute__")))
    (q137 : PySem.W.findIn K (.ref C_272) "__getattr__" = some none)
    (q138 : PySem.W.findIn K (.ref C_272) "__class__" = some (some (.builtin "object.__class__")))
    (q139 : PySem.W.mroIn K C_272 (.type "object") = some true)
    (q140 : PySem.W.excIn K C_273 [.type "ValueError", .type "Exception", .type "BaseException", .type "object"] "ValueError.__new__" = true)
    (q141 : PySem.W.keepIn K (.ref C_273) = true)
    (q142 : PySem.W.subIn K (.ref C_273) (.type "BaseException") = some true)
    (q143 : PySem.W.typeIn K (.ref C_273) = some (.type "type"))
    (q144 : PySem.W.subIn K (.ref C_273) (.type "ValueError") = some true)
    (q145 : PySem.W.hasDictIn K C_273 = true)
    (q146 : PySem.W.subIn K (.ref C_273) (.ref C_272) = some true)
    (q147 : PySem.W.subIn K (.ref C_273) (.ref C_273) = some true)
    (q148 : PySem.W.subIn K (.ref C_273) (.ref C_274) = some false)
    (q149 : PySem.W.subIn K (.ref C_273) (.ref C_275) = some false)
    (q150 : PySem.W.subIn K (.ref C_273) (.ref C_276) = some false)
    (q151 : PySem.W.findIn K (.ref C_273) "__getattribute__" = some (some (.builtin "BaseException.__getattribute__")))
    (q152 : PySem.W.findIn K (.ref C_273) "__getattr__" = some none)
    (q153 : PySem.W.findIn K (.ref C_273) "__class__" = some (some (.builtin "object.__class__")))
    (q154 : PySem.W.mroIn K C_273 (.type "object") = some true)
    (q155 : PySem.W.excIn K C_274 [.type "ValueError", .type "Exception", .type "BaseException", .type "object"] "ValueError.__new__" = true)
    (q156 : PySem.W.keepIn K (.ref C_274) = true)
    (q157 : PySem.W.subIn K (.ref C_274) (.type "BaseException") = some true)
    (q158 : PySem.W.typeIn K (.ref C_274) = some (.type "type"))
    (q159 : PySem.W.subIn K (.ref C_274) (.type "ValueError") = some true)
    (q160 : PySem.W.hasDictIn K C_274 = true)
    (q161 : PySem.W.subIn K (.ref C_274) (.ref C_272) = some true)
    (q162 : PySem.W.subIn K (.ref C_274) (.ref C_273) = some false)
    (q163 : PySem.W.subIn K (.ref C_274) (.ref C_274) = some true)
    (q164 : PySem.W.subIn K (.ref C_274) (.ref C_275) = some false)
    (q165 : PySem.W.subIn K (.ref C_274) (.ref C_276) = some false)
    (q166 : PySem.W.findIn K (.ref C_274) "__getattribute__" = some (some (.builtin "BaseException.__getattribute__")))
    (q167 : PySem.W.findIn K (.ref C_274) "__getattr__" = some none)
    (q168 : PySem.W.findIn K (.ref C_274) "__class__" = some (some (.builtin "object.__class__")))
    (q169 : PySem.W.mroIn K C_274 (.type "object") = some true)
    (q170 : PySem.W.excIn K C_275 [.type "ValueError", .type "Exception", .type "BaseException", .type "object"] "ValueError.__new__" = true)
    (q171 : PySem.W.keepIn K (.ref C_275) = true)
    (q172 : PySem.W.subIn K (.ref C_275) (.type "BaseException") = some true)
    (q173 : PySem.W.typeIn K (.ref C_275) = some (.type "type"))
    (q174 : PySem.W.subIn K (.ref C_275) (.type "ValueError") = some true)
    (q175 : PySem.W.hasDictIn K C_275 = true)
    (q176 : PySem.W.subIn K (.ref C_275) (.ref C_272) = some true)
    (q177 : PySem.W.subIn K (.ref C_275) (.ref C_273) = some false)
    (q178 : PySem.W.subIn K (.ref C_275) (.ref C_274) = some false)
    (q179 : PySem.W.subIn K (.ref C_275) (.ref C_275) = some true)
    (q180 : PySem.W.subIn K (.ref C_275) (.ref C_276) = some false)
    (q181 : PySem.W.findIn K (.ref C_275) "__getattribute__" = some (some (.builtin "BaseException.__getattribute__")))
    (q182 : PySem.W.findIn K (.ref C_275) "__getattr__" = some none)
    (q183 : PySem.W.findIn K (.ref C_275) "__class__" = some (some (.builtin "object.__class__")))
    (q184 : PySem.W.mroIn K C_275 (.type "object") = some true)
    (q185 : PySem.W.excIn K C_276 [.type "ValueError", .type "Exception", .type "BaseException", .type "object"] "ValueError.__new__" = true)
    (q186 : PySem.W.keepIn K (.ref C_276) = true)
    (q187 : PySem.W.subIn K (.ref C_276) (.type "BaseException") = some true)
    (q188 : PySem.W.typeIn K (.ref C_276) = some (.type "type"))
    (q189 : PySem.W.subIn K (.ref C_276) (.type "ValueError") = some true)
    (q190 : PySem.W.hasDictIn K C_276 = true)
    (q191 : PySem.W.subIn K (.ref C_276) (.ref C_272) = some true)
    (q192 : PySem.W.subIn K (.ref C_276) (.ref C_273) = some false)
    (q193 : PySem.W.subIn K (.ref C_276) (.ref C_274) = some false)
    (q194 : PySem.W.subIn K (.ref C_276) (.ref C_275) = some false)
    (q195 : PySem.W.subIn K (.ref C_276) (.ref C_276) = some true)
    (q196 : PySem.W.findIn K (.ref C_276) "__getattribute__" = some (some (.builtin "BaseException.__getattribute__")))
    (q197 : PySem.W.findIn K (.ref C_276) "__getattr__" = some none)
    (q198 : PySem.W.findIn K (.ref C_276) "__class__" = some (some (.builtin "object.__class__")))
    (q199 : PySem.W.mroIn K C_276 (.type "object") = some true)
    (q200 : PySem.W.specialIn K (.builtin "object.__class__") "__get__" = some (some (.builtin "getset_descriptor.__get__")))
    (q201 : PySem.W.takesIn K (.builtin "object.__class__") = some true)
    (law_true : ∀ ns : List Int, ns.length ≤ 63 → f_law [.lst (ns.map .int)] = .ok (.bl true)) :
    ∃ fd : FuncData, (∀ (s : Shared) (u : Value), BindsTo s fd ⟨[u], []⟩ [("script", u)]) ∧ ∀ base : Heap, K.In base → base.Ns mainGlobals mg → FnOk P w K mg base (L2.CX P w) 14 fa fd ["script"] (spLaw K) := by
  have e := hfa.symm.trans (PySem.W.mg_of X G q104)
  obtain rfl : f_260 = fa := by cases e; rfl
  have F0 := fun_mk (st := s_check_figures) q1 q2 q3
  have B0 := F0.binds (ps := ["figures"]) fun _ _ _ _ _ _ us hl => match us, hl with | [_], _ => rfl
  have F1 := fun_mk (st := s_check_number) q5 q6 q7
  have B1 := F1.binds (ps := ["number"]) fun _ _ _ _ _ _ us hl => match us, hl with | [_], _ => rfl
  have F2 := fun_mk (st := s_write_number) q9 q10 q11
  have B2 := F2.binds (ps := ["figures", "number"]) fun _ _ _ _ _ _ us hl => match us, hl with | [_, _], _ => rfl
  have F3 := fun_mk (st := s_value) q13 q14 q15
  have B3 := F3.binds (ps := ["figures", "text"]) fun _ _ _ _ _ _ us hl => match us, hl with | [_, _], _ => rfl
  have F4 := fun_mk (st := s_is_written) q17 q18 q19
  have B4 := F4.binds (ps := ["figures", "text"]) fun _ _ _ _ _ _ us hl => match us, hl with | [_, _], _ => rfl
  have F5 := fun_mk (st := s_read_number) q21 q22 q23
  have B5 := F5.binds (ps := ["figures", "text"]) fun _ _ _ _ _ _ us hl => match us, hl with | [_, _], _ => rfl
  have F6 := fun_mk (st := s_write_count) q25 q26 q27
  have B6 := F6.binds (ps := ["figures", "number"]) fun _ _ _ _ _ _ us hl => match us, hl with | [_, _], _ => rfl
  have F7 := fun_mk (st := s_read_count) q29 q30 q31
  have B7 := F7.binds (ps := ["figures", "text"]) fun _ _ _ _ _ _ us hl => match us, hl with | [_, _], _ => rfl
  have F8 := fun_mk (st := s_changed) q33 q34 q35
  have B8 := F8.binds (ps := ["one", "other", "piece"]) fun _ _ _ _ _ _ us hl => match us, hl with | [_, _, _], _ => rfl
  have F9 := fun_mk (st := s_change_figures) q37 q38 q39
  have B9 := F9.binds (ps := ["one", "other", "text"]) fun _ _ _ _ _ _ us hl => match us, hl with | [_, _, _], _ => rfl
  have F10 := fun_mk (st := s_longest_at) q41 q42 q43
  have B10 := F10.binds (ps := ["table", "text", "place"]) fun _ _ _ _ _ _ us hl => match us, hl with | [_, _, _], _ => rfl
  have F11 := fun_mk (st := s_parse) q45 q46 q47
  have B11 := F11.binds (ps := ["table", "text"]) fun _ _ _ _ _ _ us hl => match us, hl with | [_, _], _ => rfl
  have F12 := fun_mk (st := s_told) q49 q50 q51
  have B12 := F12.binds (ps := ["table", "text"]) fun _ _ _ _ _ _ us hl => match us, hl with | [_, _], _ => rfl
  have F13 := fun_mk (st := s__law_cell) q53 q54 q55
  have B13 := F13.binds (ps := ["script", "k"]) fun _ _ _ _ _ _ us hl => match us, hl with | [_, _], _ => rfl
  have F14 := fun_mk (st := s__law_numbers) q57 q58 q59
  have B14 := F14.binds (ps := ["cell", "count", "limit"]) fun _ _ _ _ _ _ us hl => match us, hl with | [_, _, _], _ => rfl
  have F15 := fun_mk (st := s__law_same) q61 q62 q63
  have B15 := F15.binds (ps := ["answer", "due"]) fun _ _ _ _ _ _ us hl => match us, hl with | [_, _], _ => rfl
  have F16 := fun_mk (st := s__law_pool) q65 q66 q67
  have B16 := F16.binds (ps := ["draw"]) fun _ _ _ _ _ _ us hl => match us, hl with | [_], _ => rfl
  have F17 := fun_mk (st := s__law_written) q69 q70 q71
  have B17 := F17.binds (ps := ["figures", "number"]) fun _ _ _ _ _ _ us hl => match us, hl with | [_, _], _ => rfl
  have F18 := fun_mk (st := s__law_value) q73 q74 q75
  have B18 := F18.binds (ps := ["figures", "text", "first"]) fun _ _ _ _ _ _ us hl => match us, hl with | [_, _, _], _ => rfl
  have F19 := fun_mk (st := s__law_read) q77 q78 q79
  have B19 := F19.binds (ps := ["figures", "text"]) fun _ _ _ _ _ _ us hl => match us, hl with | [_, _], _ => rfl
  have F20 := fun_mk (st := s__law_asked) q81 q82 q83
  have B20 := F20.binds (ps := ["figures", "text"]) fun _ _ _ _ _ _ us hl => match us, hl with | [_, _], _ => rfl
  have F21 := fun_mk (st := s__law_counted) q85 q86 q87
  have B21 := F21.binds (ps := ["figures", "text"]) fun _ _ _ _ _ _ us hl => match us, hl with | [_, _], _ => rfl
  have F22 := fun_mk (st := s__law_refused) q89 q90 q91
  have B22 := F22.binds (ps := ["figures", "number"]) fun _ _ _ _ _ _ us hl => match us, hl with | [_, _], _ => rfl
  have F23 := fun_mk (st := s__law_checked) q93 q94 q95
  have B23 := F23.binds (ps := ["figures"]) fun _ _ _ _ _ _ us hl => match us, hl with | [_], _ => rfl
  have F24 := fun_mk (st := s__law_change) q97 q98 q99
  have B24 := F24.binds (ps := ["one", "other", "text"]) fun _ _ _ _ _ _ us hl => match us, hl with | [_, _, _], _ => rfl
  have F25 := fun_mk (st := s__law_drawn) q101 q102 q103
  have B25 := F25.binds (ps := ["script", "at", "base"]) fun _ _ _ _ _ _ us hl => match us, hl with | [_, _, _], _ => rfl
  have F26 := fun_mk (st := s_law) q105 q106 q107
  have B26 := F26.binds (ps := ["script"]) fun _ _ _ _ _ _ us hl => match us, hl with | [_], _ => rfl
  let fdv : Nat → FuncData := fun n => match n with
    | 0 => PySem.W.fnOf "check_figures" "check_figures" (defArgs s_check_figures) (defBody s_check_figures) (defScope s_check_figures) .none kV_5 dc_6 pm_7 an_2 cd_8 ct_9
    | 1 => PySem.W.fnOf "check_number" "check_number" (defArgs s_check_number) (defBody s_check_number) (defScope s_check_number) .none kV_15 dc_16 pm_17 an_12 cd_18 ct_19
    | 2 => PySem.W.fnOf "write_number" "write_number" (defArgs s_write_number) (defBody s_write_number) (defScope s_write_number) .none kV_25 dc_26 pm_27 an_22 cd_28 ct_29
    | 3 => PySem.W.fnOf "value" "value" (defArgs s_value) (defBody s_value) (defScope s_value) .none kV_35 dc_36 pm_37 an_32 cd_38 ct_39
    | 4 => PySem.W.fnOf "is_written" "is_written" (defArgs s_is_written) (defBody s_is_written) (defScope s_is_written) .none kV_45 dc_46 pm_47 an_42 cd_48 ct_49
    | 5 => PySem.W.fnOf "read_number" "read_number" (defArgs s_read_number) (defBody s_read_number) (defScope s_read_number) .none kV_55 dc_56 pm_57 an_52 cd_58 ct_59
    | 6 => PySem.W.fnOf "write_count" "write_count" (defArgs s_write_count) (defBody s_write_count) (defScope s_write_count) .none kV_65 dc_66 pm_67 an_62 cd_68 ct_69
    | 7 => PySem.W.fnOf "read_count" "read_count" (defArgs s_read_count) (defBody s_read_count) (defScope s_read_count) .none kV_75 dc_76 pm_77 an_72 cd_78 ct_79
    | 8 => PySem.W.fnOf "changed" "changed" (defArgs s_changed) (defBody s_changed) (defScope s_changed) .none kV_85 dc_86 pm_87 an_82 cd_88 ct_89
    | 9 => PySem.W.fnOf "change_figures" "change_figures" (defArgs s_change_figures) (defBody s_change_figures) (defScope s_change_figures) .none kV_95 dc_96 pm_97 an_92 cd_98 ct_99
    | 10 => PySem.W.fnOf "longest_at" "longest_at" (defArgs s_longest_at) (defBody s_longest_at) (defScope s_longest_at) .none kV_105 dc_106 pm_107 an_102 cd_108 ct_109
    | 11 => PySem.W.fnOf "parse" "parse" (defArgs s_parse) (defBody s_parse) (defScope s_parse) .none kV_115 dc_116 pm_117 an_112 cd_118 ct_119
    | 12 => PySem.W.fnOf "told" "told" (defArgs s_told) (defBody s_told) (defScope s_told) .none kV_125 dc_126 pm_127 an_122 cd_128 ct_129
    | 13 => PySem.W.fnOf "_law_cell" "_law_cell" (defArgs s__law_cell) (defBody s__law_cell) (defScope s__law_cell) .none kV_135 dc_136 pm_137 an_132 cd_138 ct_139
    | 14 => PySem.W.fnOf "_law_numbers" "_law_numbers" (defArgs s__law_numbers) (defBody s__law_numbers) (defScope s__law_numbers) .none kV_145 dc_146 pm_147 an_142 cd_148 ct_149
    | 15 => PySem.W.fnOf "_law_same" "_law_same" (defArgs s__law_same) (defBody s__law_same) (defScope s__law_same) .none kV_155 dc_156 pm_157 an_152 cd_158 ct_159
    | 16 => PySem.W.fnOf "_law_pool" "_law_pool" (defArgs s__law_pool) (defBody s__law_pool) (defScope s__law_pool) .none kV_165 dc_166 pm_167 an_162 cd_168 ct_169
    | 17 => PySem.W.fnOf "_law_written" "_law_written" (defArgs s__law_written) (defBody s__law_written) (defScope s__law_written) .none kV_175 dc_176 pm_177 an_172 cd_178 ct_179
    | 18 => PySem.W.fnOf "_law_value" "_law_value" (defArgs s__law_value) (defBody s__law_value) (defScope s__law_value) .none kV_185 dc_186 pm_187 an_182 cd_188 ct_189
    | 19 => PySem.W.fnOf "_law_read" "_law_read" (defArgs s__law_read) (defBody s__law_read) (defScope s__law_read) .none kV_195 dc_196 pm_197 an_192 cd_198 ct_199
    | 20 => PySem.W.fnOf "_law_asked" "_law_asked" (defArgs s__law_asked) (defBody s__law_asked) (defScope s__law_asked) .none kV_205 dc_206 pm_207 an_202 cd_208 ct_209
    | 21 => PySem.W.fnOf "_law_counted" "_law_counted" (defArgs s__law_counted) (defBody s__law_counted) (defScope s__law_counted) .none kV_215 dc_216 pm_217 an_212 cd_218 ct_219
    | 22 => PySem.W.fnOf "_law_refused" "_law_refused" (defArgs s__law_refused) (defBody s__law_refused) (defScope s__law_refused) .none kV_225 dc_226 pm_227 an_222 cd_228 ct_229
    | 23 => PySem.W.fnOf "_law_checked" "_law_checked" (defArgs s__law_checked) (defBody s__law_checked) (defScope s__law_checked) .none kV_235 dc_236 pm_237 an_232 cd_238 ct_239
    | 24 => PySem.W.fnOf "_law_change" "_law_change" (defArgs s__law_change) (defBody s__law_change) (defScope s__law_change) .none kV_245 dc_246 pm_247 an_242 cd_248 ct_249
    | 25 => PySem.W.fnOf "_law_drawn" "_law_drawn" (defArgs s__law_drawn) (defBody s__law_drawn) (defScope s__law_drawn) .none kV_255 dc_256 pm_257 an_252 cd_258 ct_259
    | _ => PySem.W.fnOf "law" "law" (defArgs s_law) (defBody s_law) (defScope s_law) .none kV_265 dc_266 pm_267 an_262 cd_268 ct_269
  let fav : Nat → Addr := fun n => match n with
    | 0 => f_0
    | 1 => f_10
    | 2 => f_20
    | 3 => f_30
    | 4 => f_40
    | 5 => f_50
    | 6 => f_60
    | 7 => f_70
    | 8 => f_80
    | 9 => f_90
    | 10 => f_100
    | 11 => f_110
    | 12 => f_120
    | 13 => f_130
    | 14 => f_140
    | 15 => f_150
    | 16 => f_160
    | 17 => f_170
    | 18 => f_180
    | 19 => f_190
    | 20 => f_200
    | 21 => f_210
    | 22 => f_220
    | 23 => f_230
    | 24 => f_240
    | 25 => f_250
    | _ => f_260
  let EC : Nat → Addr := fun n => match cl n with
    | 0 => C_272
    | 1 => C_273
    | 2 => C_274
    | 3 => C_275
    | _ => C_276
  have er : Errs K EC sub := ⟨(fun n => match n with | 0 => ⟨_, _, _, _, PySem.F.excBase_ValueError, q125⟩ | 1 => ⟨_, _, _, _, PySem.F.excBase_ValueError, q140⟩ | 2 => ⟨_, _, _, _, PySem.F.excBase_ValueError, q155⟩ | 3 => ⟨_, _, _, _, PySem.F.excBase_ValueError, q170⟩ | _ + 4 => ⟨_, _, _, _, PySem.F.excBase_ValueError, q185⟩),
    (fun n => match n with | 0 => q126 | 1 => q141 | 2 => q156 | 3 => q171 | _ + 4 => q186),
    (fun n => match n with | 0 => q127 | 1 => q142 | 2 => q157 | 3 => q172 | _ + 4 => q187),
    (fun n => match n with | 0 => q128 | 1 => q143 | 2 => q158 | 3 => q173 | _ + 4 => q188),
    (fun y n => match y, n with | 0, 0 => PySem.W.exm_ref q127 q130 q128 q131 | 0, 1 => PySem.W.exm_ref q142 q145 q143 q132 | 0, 2 => PySem.W.exm_ref q157 q160 q158 q133 | 0, 3 => PySem.W.exm_ref q172 q175 q173 q134 | 0, _ + 4 => PySem.W.exm_ref q187 q190 q188 q135 | 1, 0 => PySem.W.exm_ref q127 q130 q128 q146 | 1, 1 => PySem.W.exm_ref q142 q145 q143 q147 | 1, 2 => PySem.W.exm_ref q157 q160 q158 q148 | 1, 3 => PySem.W.exm_ref q172 q175 q173 q149 | 1, _ + 4 => PySem.W.exm_ref q187 q190 q188 q150 | 2, 0 => PySem.W.exm_ref q127 q130 q128 q161 | 2, 1 => PySem.W.exm_ref q142 q145 q143 q162 | 2, 2 => PySem.W.exm_ref q157 q160 q158 q163 | 2, 3 => PySem.W.exm_ref q172 q175 q173 q164 | 2, _ + 4 => PySem.W.exm_ref q187 q190 q188 q165 | 3, 0 => PySem.W.exm_ref q127 q130 q128 q176 | 3, 1 => PySem.W.exm_ref q142 q145 q143 q177 | 3, 2 => PySem.W.exm_ref q157 q160 q158 q178 | 3, 3 => PySem.W.exm_ref q172 q175 q173 q179 | 3, _ + 4 => PySem.W.exm_ref q187 q190 q188 q180 | _ + 4, 0 => PySem.W.exm_ref q127 q130 q128 q191 | _ + 4, 1 => PySem.W.exm_ref q142 q145 q143 q192 | _ + 4, 2 => PySem.W.exm_ref q157 q160 q158 q193 | _ + 4, 3 => PySem.W.exm_ref q172 q175 q173 q194 | _ + 4, _ + 4 => PySem.W.exm_ref q187 q190 q188 q195),
    (fun y n => match y, n with | 0, 0 => kit_ref q130 q128 q131 q131 | 0, 1 => kit_ref q145 q143 q147 q132 | 0, 2 => kit_ref q160 q158 q163 q133 | 0, 3 => kit_ref q175 q173 q179 q134 | 0, _ + 4 => kit_ref q190 q188 q195 q135 | 1, 0 => kit_ref q130 q128 q131 q146 | 1, 1 => kit_ref q145 q143 q147 q147 | 1, 2 => kit_ref q160 q158 q163 q148 | 1, 3 => kit_ref q175 q173 q179 q149 | 1, _ + 4 => kit_ref q190 q188 q195 q150 | 2, 0 => kit_ref q130 q128 q131 q161 | 2, 1 => kit_ref q145 q143 q147 q162 | 2, 2 => kit_ref q160 q158 q163 q163 | 2, 3 => kit_ref q175 q173 q179 q164 | 2, _ + 4 => kit_ref q190 q188 q195 q165 | 3, 0 => kit_ref q130 q128 q131 q176 | 3, 1 => kit_ref q145 q143 q147 q177 | 3, 2 => kit_ref q160 q158 q163 q178 | 3, 3 => kit_ref q175 q173 q179 q179 | 3, _ + 4 => kit_ref q190 q188 q195 q180 | _ + 4, 0 => kit_ref q130 q128 q131 q191 | _ + 4, 1 => kit_ref q145 q143 q147 q192 | _ + 4, 2 => kit_ref q160 q158 q163 q193 | _ + 4, 3 => kit_ref q175 q173 q179 q194 | _ + 4, _ + 4 => kit_ref q190 q188 q195 q195),
    (fun n => match n with | 0 => ⟨q136, q137, q127, q130, q138, q200, q201, q139⟩ | 1 => ⟨q151, q152, q142, q145, q153, q200, q201, q154⟩ | 2 => ⟨q166, q167, q157, q160, q168, q200, q201, q169⟩ | 3 => ⟨q181, q182, q172, q175, q183, q200, q201, q184⟩ | _ + 4 => ⟨q196, q197, q187, q190, q198, q200, q201, q199⟩),
    (fun n => match n with | 0 => kit_val q129 | 1 => kit_val q144 | 2 => kit_val q159 | 3 => kit_val q174 | _ + 4 => kit_val q189)⟩
  have T : Txt K mg EC fav fdv := { F0 := F0, g0 := PySem.W.mg_of X G q0, k0 := q3, b0 := B0, F1 := F1, g1 := PySem.W.mg_of X G q4, k1 := q7, b1 := B1, F2 := F2, g2 := PySem.W.mg_of X G q8, k2 := q11, b2 := B2, F3 := F3, g3 := PySem.W.mg_of X G q12, k3 := q15, b3 := B3, F4 := F4, g4 := PySem.W.mg_of X G q16, k4 := q19, b4 := B4, F5 := F5, g5 := PySem.W.mg_of X G q20, k5 := q23, b5 := B5, F6 := F6, g6 := PySem.W.mg_of X G q24, k6 := q27, b6 := B6, F7 := F7, g7 := PySem.W.mg_of X G q28, k7 := q31, b7 := B7, F8 := F8, g8 := PySem.W.mg_of X G q32, k8 := q35, b8 := B8, F9 := F9, g9 := PySem.W.mg_of X G q36, k9 := q39, b9 := B9, F10 := F10, g10 := PySem.W.mg_of X G q40, k10 := q43, b10 := B10, F11 := F11, g11 := PySem.W.mg_of X G q44, k11 := q47, b11 := B11, F12 := F12, g12 := PySem.W.mg_of X G q48, k12 := q51, b12 := B12, F13 := F13, g13 := PySem.W.mg_of X G q52, k13 := q55, b13 := B13, F14 := F14, g14 := PySem.W.mg_of X G q56, k14 := q59, b14 := B14, F15 := F15, g15 := PySem.W.mg_of X G q60, k15 := q63, b15 := B15, F16 := F16, g16 := PySem.W.mg_of X G q64, k16 := q67, b16 := B16, F17 := F17, g17 := PySem.W.mg_of X G q68, k17 := q71, b17 := B17, F18 := F18, g18 := PySem.W.mg_of X G q72, k18 := q75, b18 := B18, F19 := F19, g19 := PySem.W.mg_of X G q76, k19 := q79, b19 := B19, F20 := F20, g20 := PySem.W.mg_of X G q80, k20 := q83, b20 := B20, F21 := F21, g21 := PySem.W.mg_of X G q84, k21 := q87, b21 := B21, F22 := F22, g22 := PySem.W.mg_of X G q88, k22 := q91, b22 := B22, F23 := F23, g23 := PySem.W.mg_of X G q92, k23 := q95, b23 := B23, F24 := F24, g24 := PySem.W.mg_of X G q96, k24 := q99, b24 := B24, F25 := F25, g25 := PySem.W.mg_of X G q100, k25 := q103, b25 := B25, F26 := F26, g26 := PySem.W.mg_of X G q104, k26 := q107, b26 := B26, z_all := PySem.W.mg_none_of X G q108, z_bool := PySem.W.mg_none_of X G q109, z_enumerate := PySem.W.mg_none_of X G q110, z_int := PySem.W.mg_none_of X G q111, z_isinstance := PySem.W.mg_none_of X G q112, z_len := PySem.W.mg_none_of X G q113, z_list := PySem.W.mg_none_of X G q114, z_range := PySem.W.mg_none_of X G q115, z_str := PySem.W.mg_none_of X G q116, z_tuple := PySem.W.mg_none_of X G q117, c_GREATEST := ⟨_, .int (1000000000000000000000000000000000000000000000000000000000000), PySem.W.mg_of X G q118, rel_int, fun Z H => .int _⟩, c_MOST_FIGURES := ⟨_, .int (40), PySem.W.mg_of X G q119, rel_int, fun Z H => .int _⟩, er := er, e_ScriptError := PySem.W.mg_of X G q120, e_NotTold := PySem.W.mg_of X G q121, e_InvalidFigures := PySem.W.mg_of X G q122, e_NumberOutOfRange := PySem.W.mg_of X G q123, e_NotNumber := PySem.W.mg_of X G q124 }
  exact ⟨_, fun s u => .of_eq rfl, fun base _ _ => (ok_law T).imp (law_sp law_true)⟩
end PL.K51

set_option maxRecDepth 100000
namespace PL
set_option autoImplicit false
section
variable {α β : Type} {ρ ρ' : Env} {a b c : EM} {m r : LM} {t u : TM} {d x y : Dat} {i n : Nat} {g : GM} {gs : GsM} {s s1 s2 : SM} {f : Dat → R Dat} {f2 : Dat → Dat → R Dat} {o : Option Dat}
@[simp] theorem eV_zero : eV 0 (some d :: ρ) = .ok d := Eq.trans rfl rfl
@[simp] theorem eV_succ : eV (n + 1) (o :: ρ) = eV n ρ := by unfold eV; rw [List.getElem?_cons_succ]
@[simp] theorem eC_ap : eC d ρ = .ok d := Eq.trans rfl rfl
@[simp] theorem e1_ap : e1 f a ρ = (a ρ).bnd f := Eq.trans rfl rfl
@[simp] theorem e2_ap : e2 f2 a b ρ = (a ρ).bnd fun x => (b ρ).bnd fun y => f2 x y := Eq.trans rfl rfl
@[simp] theorem eNil_ap : eNil ρ = .ok [] := Eq.trans rfl rfl
@[simp] theorem eCons_ap : eCons a m ρ = (a ρ).bnd fun x => (m ρ).bnd fun xs => .ok (x :: xs) := Eq.trans rfl rfl
@[simp] theorem eLst_ap : eLst m ρ = (m ρ).bnd fun xs => if xs.length ≤ LINE then .ok (.lst xs) else .bad := Eq.trans rfl rfl
@[simp] theorem eTup_ap : eTup m ρ = (m ρ).bnd fun xs => if xs.length ≤ LINE then .ok (.tup xs) else .bad := Eq.trans rfl rfl
@[simp] theorem eDic0_ap : eDic0 ρ = .ok (.dic []) := Eq.trans rfl rfl
@[simp] theorem eCall_ap {F : List Dat → R Dat} : eCall F m ρ = (m ρ).bnd F := Eq.trans rfl rfl
@[simp] theorem eM1_ap : eM1 f2 a b ρ = (a ρ).bnd fun x => (isS x).bnd fun x => (b ρ).bnd fun y => f2 x y := Eq.trans rfl rfl
@[simp] theorem tE_ap : tE a ρ = (a ρ).bnd tru := Eq.trans rfl rfl
@[simp] theorem tNot_ap : tNot t ρ = (t ρ).bnd fun b => .ok (!b) := Eq.trans rfl rfl
@[simp] theorem tAnd_ap : tAnd t u ρ = (t ρ).bnd fun b => if b then u ρ else .ok false := Eq.trans rfl rfl
@[simp] theorem tOr_ap : tOr t u ρ = (t ρ).bnd fun b => if b then .ok true else u ρ := Eq.trans rfl rfl
@[simp] theorem eIf_ap : eIf t a b ρ = (t ρ).bnd fun c => if c then a ρ else b ρ := Eq.trans rfl rfl
@[simp] theorem eChain_ap {f g : Dat → Dat → R Dat} : eChain f g a b c ρ = (a ρ).bnd fun x => (b ρ).bnd fun y => (f x y).bnd fun z => match z with
  | .bl true => (c ρ).bnd fun w => g y w
  | .bl false => .ok (.bl false)
  | _ => .bad := Eq.trans rfl rfl
@[simp] theorem eAnd_ap : eAnd a b ρ = (a ρ).bnd fun x => match x with
  | .bl true => b ρ
  | .bl false => .ok (.bl false)
  | _ => .bad := Eq.trans rfl rfl
@[simp] theorem eOr_ap : eOr a b ρ = (a ρ).bnd fun x => match x with
  | .bl true => .ok (.bl true)
  | .bl false => b ρ
  | _ => .bad := Eq.trans rfl rfl
@[simp] theorem pN_ap : pN ρ = .ok none := Eq.trans rfl rfl
@[simp] theorem pS_ap : pS a ρ = (a ρ).bnd optInt := Eq.trans rfl rfl
@[simp] theorem optInt_int {k : Int} : optInt (.int k) = .ok (some k) := Eq.trans rfl rfl
@[simp] theorem eSli_ap {lo hi : PM} : eSli lo hi a ρ = (a ρ).bnd fun x => (lo ρ).bnd fun l => (hi ρ).bnd fun h => sliD l h x := Eq.trans rfl rfl
@[simp] theorem iOf_ap : iOf a ρ = (a ρ).bnd itemsD := Eq.trans rfl rfl
@[simp] theorem iR1_ap : iR1 a ρ = (a ρ).bnd rng1 := Eq.trans rfl rfl
@[simp] theorem iR2_ap : iR2 a b ρ = (a ρ).bnd fun x => (b ρ).bnd fun y => rng2 x y := Eq.trans rfl rfl
@[simp] theorem iR3_ap : iR3 a b c ρ = (a ρ).bnd fun x => (b ρ).bnd fun y => (c ρ).bnd fun z => rng3 x y z := Eq.trans rfl rfl
@[simp] theorem iEnum_ap : iEnum a ρ = (a ρ).bnd enumD := Eq.trans rfl rfl
@[simp] theorem iZip_ap : iZip a b ρ = (a ρ).bnd fun x => (b ρ).bnd fun y => zipD x y := Eq.trans rfl rfl
@[simp] theorem enumD_lst {xs : List Dat} : enumD (.lst xs) = .ok (enumFrom 0 xs) := Eq.trans rfl rfl
@[simp] theorem enumD_tup {xs : List Dat} : enumD (.tup xs) = .ok (enumFrom 0 xs) := Eq.trans rfl rfl
@[simp] theorem zipD_lst {xs ys : List Dat} : zipD (.lst xs) (.lst ys) = .ok (zipT xs ys) := Eq.trans rfl rfl
@[simp] theorem gV_zero : gV 0 d (o :: ρ) = .ok (some d :: ρ) := Eq.trans rfl rfl
@[simp] theorem gV_succ : gV (n + 1) d (o :: ρ) = (gV n d ρ).bnd fun r => .ok (o :: r) := by
  unfold gV
  by_cases h : n < ρ.length
  · rw [if_pos h, if_pos (by simpa using h)]; rfl
  · rw [if_neg h, if_neg (by simpa using h)]; rfl
@[simp] theorem gTup_ap {xs : List Dat} : gTup n gs (.tup xs) ρ = if xs.length = n then gs xs ρ else .bad := Eq.trans rfl rfl
@[simp] theorem gNil_ap : gNil [] ρ = .ok ρ := Eq.trans rfl rfl
@[simp] theorem gCons_ap {xs : List Dat} : gCons g gs (d :: xs) ρ = (g d ρ).bnd fun ρ' => gs xs ρ' := Eq.trans rfl rfl
@[simp] theorem noX_ok {v : α} : noX (R.ok v) = .ok v := Eq.trans rfl rfl
@[simp] theorem tYes_ap : tYes ρ = .ok true := Eq.trans rfl rfl
@[simp] theorem tru_bl {k : Bool} : tru (.bl k) = .ok k := Eq.trans rfl rfl
@[simp] theorem isS_str {z : List Nat} : isS (.str z) = .ok (.str z) := Eq.trans rfl rfl
/-! operations -/
@[simp] theorem addD_int {i j : Int} : addD (.int i) (.int j) = .ok (.int (i + j)) := Eq.trans rfl rfl
@[simp] theorem subD_int {i j : Int} : subD (.int i) (.int j) = .ok (.int (i - j)) := Eq.trans rfl rfl
@[simp] theorem addF_int {i j : Int} : addF (.int i) (.int j) = .ok (.int (i + j)) := Eq.trans rfl rfl
@[simp] theorem negD_int {i : Int} : negD (.int i) = .ok (.int (-i)) := Eq.trans rfl rfl
theorem mulD_int {i j : Int} (h : small64 i ∨ small64 j) : mulD (.int i) (.int j) = .ok (.int (i * j)) := if_pos h
theorem mulD_str {x : List Nat} {n : Int} (h : -(2 ^ 63) ≤ n ∧ n < 2 ^ 63 ∧ x.length * n.toNat ≤ LINE) : mulD (.str x) (.int n) = .ok (.str (rep n.toNat x)) := if_pos h
theorem mulD_lst {x : List Dat} {n : Int} (h : -(2 ^ 63) ≤ n ∧ n < 2 ^ 63 ∧ x.length * n.toNat ≤ LINE) : mulD (.lst x) (.int n) = .ok (.lst (rep n.toNat x)) := if_pos h
theorem fdivD_int {i j : Int} (h : 0 < j ∧ j < 1073741824) : fdivD (.int i) (.int j) = .ok (.int (i / j)) := if_pos h
theorem modD_int {i j : Int} (h : 0 < j) : modD (.int i) (.int j) = .ok (.int (i % j)) := if_pos h
theorem addD_str {x y : List Nat} (h : x.length + y.length ≤ LINE) : addD (.str x) (.str y) = .ok (.str (x ++ y)) := if_pos h
theorem addD_lst {x y : List Dat} (h : x.length + y.length ≤ LINE) : addD (.lst x) (.lst y) = .ok (.lst (x ++ y)) := if_pos h
@[simp] theorem ltD_int {i j : Int} : ltD (.int i) (.int j) = .ok (.bl (decide (i < j))) := Eq.trans rfl rfl
@[simp] theorem leD_int {i j : Int} : leD (.int i) (.int j) = .ok (.bl (decide (i ≤ j))) := Eq.trans rfl rfl
@[simp] theorem gtD_int {i j : Int} : gtD (.int i) (.int j) = .ok (.bl (decide (j < i))) := Eq.trans rfl rfl
@[simp] theorem geD_int {i j : Int} : geD (.int i) (.int j) = .ok (.bl (decide (j ≤ i))) := Eq.trans rfl rfl
@[simp] theorem eqD_int {i j : Int} : eqD (.int i) (.int j) = .ok (.bl (i == j)) := Eq.trans rfl rfl
@[simp] theorem neD_int {i j : Int} : neD (.int i) (.int j) = .ok (.bl (!(i == j))) := Eq.trans rfl rfl
@[simp] theorem eqD_str {x y : List Nat} : eqD (.str x) (.str y) = .ok (.bl (x == y)) := Eq.trans rfl rfl
@[simp] theorem neD_str {x y : List Nat} : neD (.str x) (.str y) = .ok (.bl (!(x == y))) := Eq.trans rfl rfl
@[simp] theorem isN_non : isN .non = .ok (.bl true) := Eq.trans rfl rfl
@[simp] theorem isN_int {k : Int} : isN (.int k) = .ok (.bl false) := Eq.trans rfl rfl
@[simp] theorem isN_str {k : List Nat} : isN (.str k) = .ok (.bl false) := Eq.trans rfl rfl
@[simp] theorem isN_lst {k : List Dat} : isN (.lst k) = .ok (.bl false) := Eq.trans rfl rfl
@[simp] theorem isN_tup {k : List Dat} : isN (.tup k) = .ok (.bl false) := Eq.trans rfl rfl
@[simp] theorem isN_bl {k : Bool} : isN (.bl k) = .ok (.bl false) := Eq.trans rfl rfl
@[simp] theorem notN_non : notN .non = .ok (.bl false) := Eq.trans rfl rfl
@[simp] theorem notN_int {k : Int} : notN (.int k) = .ok (.bl true) := Eq.trans rfl rfl
@[simp] theorem notN_str {k : List Nat} : notN (.str k) = .ok (.bl true) := Eq.trans rfl rfl
@[simp] theorem notN_lst {k : List Dat} : notN (.lst k) = .ok (.bl true) := Eq.trans rfl rfl
@[simp] theorem notN_tup {k : List Dat} : notN (.tup k) = .ok (.bl true) := Eq.trans rfl rfl
@[simp] theorem notB_bl {k : Bool} : notB (.bl k) = .ok (.bl (!k)) := Eq.trans rfl rfl
@[simp] theorem lenD_lst {xs : List Dat} : lenD (.lst xs) = .ok (.int xs.length) := Eq.trans rfl rfl
@[simp] theorem lenD_tup {xs : List Dat} : lenD (.tup xs) = .ok (.int xs.length) := Eq.trans rfl rfl
@[simp] theorem lenD_str {xs : List Nat} : lenD (.str xs) = .ok (.int xs.length) := Eq.trans rfl rfl
@[simp] theorem lenD_dic {xs : List (Dat × Dat)} : lenD (.dic xs) = .ok (.int xs.length) := Eq.trans rfl rfl
@[simp] theorem intD_int {k : Int} : intD (.int k) = .ok (.int k) := Eq.trans rfl rfl
@[simp] theorem intD_bl {k : Bool} : intD (.bl k) = .ok (.int (b2i k)) := Eq.trans rfl rfl
@[simp] theorem itemsD_lst {xs : List Dat} : itemsD (.lst xs) = .ok xs := Eq.trans rfl rfl
@[simp] theorem itemsD_tup {xs : List Dat} : itemsD (.tup xs) = .ok xs := Eq.trans rfl rfl
@[simp] theorem itemsD_str {z : List Nat} : itemsD (.str z) = .ok (signs z) := Eq.trans rfl rfl
@[simp] theorem min2_int {i j : Int} : min2 (.int i) (.int j) = .ok (.int (if j < i then j else i)) := Eq.trans rfl rfl
@[simp] theorem max2_int {i j : Int} : max2 (.int i) (.int j) = .ok (.int (if j > i then j else i)) := Eq.trans rfl rfl
theorem atPlace_nat {xs : List α} {k : Nat} (h : k < xs.length) : atPlace xs (k : Int) = some xs[k] := by
  unfold atPlace placeOf
  rw [if_pos (by omega), if_pos (by omega)]
  show xs[(k : Int).toNat]? = _
  rw [Int.toNat_natCast, List.getElem?_eq_getElem h]
theorem idxD_lst {xs : List Dat} {k : Nat} (h : k < xs.length) : idxD (.lst xs) (.int k) = .ok xs[k] := by
  show (match atPlace xs k with | some d => R.ok d | none => .bad) = _
  rw [atPlace_nat h]
theorem idxD_tup {xs : List Dat} {k : Nat} (h : k < xs.length) : idxD (.tup xs) (.int k) = .ok xs[k] := by
  show (match atPlace xs k with | some d => R.ok d | none => .bad) = _
  rw [atPlace_nat h]
theorem idxD_str {xs : List Nat} {k : Nat} (h : k < xs.length) : idxD (.str xs) (.int k) = .ok (.str [xs[k]]) := by
  show (match atPlace xs k with | some c => R.ok (Dat.str [c]) | none => R.bad) = _
  rw [atPlace_nat h]
theorem upTo_zero (n : Nat) : upTo 0 n = (List.range n).map fun k => ((k : Nat) : Int) := by
  unfold upTo
  rw [show ((n : Int) - 0).toNat = n by omega]
  simp
theorem rng1_nat {n : Nat} (h : n < 2 ^ 62) : rng1 (.int n) = .ok ((List.range n).map fun k => .int (k : Nat)) := by
  show (if fits62 (n : Int) then R.ok ((upTo 0 n).map Dat.int) else .bad) = _
  rw [if_pos ⟨by omega, by omega⟩, upTo_zero, List.map_map]
  rfl
/-! ### statements -/
/-- a statement ends so -/
structure wp (o : O) (P : Fl → Env → Prop) : Prop where
  ex : ∃ f ρ, o = some (f, ρ) ∧ P f ρ
@[simp] theorem wp_some {f : Fl} {P : Fl → Env → Prop} : wp (some (f, ρ)) P ↔ P f ρ := ⟨fun ⟨_, _, e, h⟩ => by cases e; exact h, fun h => ⟨_, _, rfl, h⟩⟩
theorem wp_imp {o : O} {P Q : Fl → Env → Prop} (h : wp o P) (k : ∀ f ρ, P f ρ → Q f ρ) : wp o Q := by
  obtain ⟨f, ρ, e, h⟩ := h
  exact ⟨f, ρ, e, k f ρ h⟩
/-- what is wanted of a first statement -/
def Nxt (s : SM) (P : Fl → Env → Prop) : Fl → Env → Prop
  | .nx, ρ => wp (s ρ) P
  | f, ρ => P f ρ
@[simp] theorem Nxt_nx {P : Fl → Env → Prop} : Nxt s P .nx ρ = wp (s ρ) P := Eq.trans rfl rfl
@[simp] theorem Nxt_bk {P : Fl → Env → Prop} : Nxt s P .bk ρ = P .bk ρ := Eq.trans rfl rfl
@[simp] theorem Nxt_ct {P : Fl → Env → Prop} : Nxt s P .ct ρ = P .ct ρ := Eq.trans rfl rfl
@[simp] theorem Nxt_rt {P : Fl → Env → Prop} : Nxt s P (.rt d) ρ = P (.rt d) ρ := Eq.trans rfl rfl
@[simp] theorem Nxt_ex {P : Fl → Env → Prop} {k : Nat} : Nxt s P (.ex k) ρ = P (.ex k) ρ := Eq.trans rfl rfl
theorem wp_seq {P : Fl → Env → Prop} (h : wp (s1 ρ) (Nxt s2 P)) : wp (sSeq s1 s2 ρ) P := by
  obtain ⟨f, ρ', e, h⟩ := h
  unfold sSeq
  rw [e]
  cases f with
  | nx => exact h
  | bk => exact ⟨_, _, rfl, h⟩
  | ct => exact ⟨_, _, rfl, h⟩
  | rt d => exact ⟨_, _, rfl, h⟩
  | ex k => exact ⟨_, _, rfl, h⟩
theorem wp_seqN {P : Fl → Env → Prop} (h1 : s1 ρ = some (.nx, ρ')) (h : wp (s2 ρ') P) : wp (sSeq s1 s2 ρ) P := by
  unfold sSeq
  rw [h1]
  exact h
/-- what a def's end tells -/
def endR : Fl → R Dat
  | .nx => .ok .non
  | .rt d => .ok d
  | .ex c => .exc c
  | _ => .bad
@[simp] theorem endR_nx : endR .nx = .ok .non := Eq.trans rfl rfl
@[simp] theorem endR_rt : endR (.rt d) = .ok d := Eq.trans rfl rfl
@[simp] theorem endR_ex {k : Nat} : endR (.ex k) = .exc k := Eq.trans rfl rfl
theorem run_of {as : List Dat} {q : R Dat} (h : wp (s (as.map some ++ List.replicate (n - as.length) none)) fun f _ => endR f = q) : run n s as = q := by
  obtain ⟨f, ρ', e, h⟩ := h
  unfold run
  rw [e]
  cases f <;> exact h
theorem run_at (ρ0 : Env) {as : List Dat} {q : R Dat} (h : wp (s ρ0) fun f _ => endR f = q) (h0 : as.map some ++ List.replicate (n - as.length) none = ρ0 := by rfl) : run n s as = q := by
  subst h0
  exact run_of h
@[simp] theorem sSkip_ap : sSkip ρ = some (.nx, ρ) := Eq.trans rfl rfl
@[simp] theorem sAsg_ap : sAsg g a ρ = lft (a ρ) ρ fun d => gok (g d ρ) fun ρ' => some (.nx, ρ') := Eq.trans rfl rfl
@[simp] theorem sRet_ap : sRet a ρ = lft (a ρ) ρ fun d => some (.rt d, ρ) := Eq.trans rfl rfl
@[simp] theorem sRaise_ap {k : Nat} : sRaise k ρ = some (.ex k, ρ) := Eq.trans rfl rfl
@[simp] theorem sBrk_ap : sBrk ρ = some (.bk, ρ) := Eq.trans rfl rfl
@[simp] theorem sCnt_ap : sCnt ρ = some (.ct, ρ) := Eq.trans rfl rfl
@[simp] theorem sIf_ap : sIf t s1 s2 ρ = lft (t ρ) ρ fun c => if c then s1 ρ else s2 ρ := Eq.trans rfl rfl
@[simp] theorem sFor_ap {src : LM} : sFor src g s ρ = lft (src ρ) ρ fun ds => forL g s ds ρ := Eq.trans rfl rfl
@[simp] theorem sAug_ap : sAug f2 i a ρ = lft ((eV i ρ).bnd fun x => (a ρ).bnd fun y => f2 x y) ρ fun d => gok (gV i d ρ) fun ρ' => some (.nx, ρ') := Eq.trans rfl rfl
theorem sNew_lst {xs : List Dat} (h : a ρ = .ok (.lst xs)) (hi : i < ρ.length) : sNew i a ρ = some (.nx, ρ.set i (some (.lst xs))) := by
  unfold sNew
  rw [h]
  show (if i < ρ.length then _ else _) = _
  rw [if_pos hi]
theorem sNew_dic {xs : List (Dat × Dat)} (h : a ρ = .ok (.dic xs)) (hi : i < ρ.length) : sNew i a ρ = some (.nx, ρ.set i (some (.dic xs))) := by
  unfold sNew
  rw [h]
  show (if i < ρ.length then _ else _) = _
  rw [if_pos hi]
theorem sApp_ap {xs : List Dat} (h1 : ρ[i]? = some (some (.lst xs))) (h : a ρ = .ok d) (hl : xs.length < LINE) : sApp i a ρ = some (.nx, ρ.set i (some (.lst (xs ++ [d])))) := by
  unfold sApp
  rw [h1]
  show lft (a ρ) ρ _ = _
  rw [h]
  exact if_pos hl
theorem forL_nil : forL g s [] ρ = some (.nx, ρ) := rfl
/-- a loop by an invariant: each turn goes on -/
theorem forL_inv {as : List Dat} (I : Nat → Env → Prop) (h0 : I 0 ρ) (hs : ∀ (k : Nat) d ρ, as[k]? = some d → I k ρ → ∃ ρ1, g d ρ = .ok ρ1 ∧ wp (s ρ1) fun f ρ2 => (f = .nx ∨ f = .ct) ∧ I (k + 1) ρ2) : ∃ ρ', forL g s as ρ = some (.nx, ρ') ∧ I as.length ρ' := by
  induction as generalizing ρ I with
  | nil => exact ⟨ρ, rfl, h0⟩
  | cons d r ih =>
    obtain ⟨ρ1, e1, h1⟩ := hs 0 d ρ rfl h0
    have step : ∀ ρ2, I 1 ρ2 → ∃ ρ', forL g s r ρ2 = some (.nx, ρ') ∧ I (r.length + 1) ρ' := fun ρ2 h2 => ih (fun k => I (k + 1)) h2 fun k d' ρ3 e h3 => hs (k + 1) d' ρ3 (by simpa using e) h3
    show ∃ ρ', gok (g d ρ) (fun ρ1 => match s ρ1 with
      | some (.nx, ρ2) => forL g s r ρ2
      | some (.ct, ρ2) => forL g s r ρ2
      | some (.bk, ρ2) => some (.nx, ρ2)
      | q => q) = some (.nx, ρ') ∧ _
    rw [e1]
    obtain ⟨f, ρ2, e2, h2, h3⟩ := h1
    simp only [gok_ok, e2]
    rcases h2 with rfl | rfl
    · exact step ρ2 h3
    · exact step ρ2 h3
/-- a loop, each turn a change of a state -/
theorem forL_fold {σ τ : Type} (E : σ → Env) (D : τ → Dat) (F : σ → τ → σ) (J : σ → Prop) {as : List τ} {z : σ} (h0 : J z) (hs : ∀ z a, a ∈ as → J z → J (F z a) ∧ ∃ ρ1, g (D a) (E z) = .ok ρ1 ∧ (s ρ1 = some (.nx, E (F z a)) ∨ s ρ1 = some (.ct, E (F z a)))) :
    forL g s (as.map D) (E z) = some (.nx, E (as.foldl F z)) ∧ J (as.foldl F z) := by
  induction as generalizing z with
  | nil => exact ⟨rfl, h0⟩
  | cons a r ih =>
    obtain ⟨j1, ρ1, e1, h1⟩ := hs z a List.mem_cons_self h0
    have ih := ih j1 fun z a h j => hs z a (List.mem_cons_of_mem _ h) j
    refine ⟨?_, ih.2⟩
    show gok (g (D a) (E z)) (fun ρ1 => match s ρ1 with
      | some (.nx, ρ2) => forL g s (r.map D) ρ2
      | some (.ct, ρ2) => forL g s (r.map D) ρ2
      | some (.bk, ρ2) => some (.nx, ρ2)
      | q => q) = some (.nx, E (r.foldl F (F z a)))
    rw [e1]
    rcases h1 with h1 | h1
    · simp only [gok_ok, h1]; exact ih.1
    · simp only [gok_ok, h1]; exact ih.1
/-- a comprehension that maps -/
theorem compL_map {τ : Type} (D : τ → Dat) (H : τ → Dat) {as : List τ} (h : ∀ a ∈ as, ∃ ρ1, g (D a) ρ = .ok ρ1 ∧ t ρ1 = .ok true ∧ a ∈ as ∧ c ρ1 = .ok (H a)) : compL g t c ρ (as.map D) = .ok (as.map H) := by
  induction as with
  | nil => rfl
  | cons a r ih =>
    obtain ⟨ρ1, e1, e2, _, e3⟩ := h a List.mem_cons_self
    have ih := ih fun a ha => by
      obtain ⟨ρ1, e1, e2, _, e3⟩ := h a (List.mem_cons_of_mem _ ha)
      exact ⟨ρ1, e1, e2, ha, e3⟩
    show (noX (g (D a) ρ)).bnd (fun ρ' => (noX (t ρ')).bnd fun b => if b then (noX (c ρ')).bnd fun y => (compL g t c ρ (r.map D)).bnd fun ys => .ok (y :: ys) else compL g t c ρ (r.map D)) = _
    rw [e1]
    simp [e2, e3, ih]
/-- .. that chooses and maps -/
theorem compL_filter {τ : Type} (D : τ → Dat) (p : τ → Bool) (H : τ → Dat) {as : List τ} (h : ∀ a ∈ as, ∃ ρ1, g (D a) ρ = .ok ρ1 ∧ t ρ1 = .ok (p a) ∧ (p a = true → c ρ1 = .ok (H a))) : compL g t c ρ (as.map D) = .ok ((as.filter p).map H) := by
  induction as with
  | nil => rfl
  | cons a r ih =>
    obtain ⟨ρ1, e1, e2, e3⟩ := h a List.mem_cons_self
    have ih := ih fun a ha => h a (List.mem_cons_of_mem _ ha)
    show (noX (g (D a) ρ)).bnd (fun ρ' => (noX (t ρ')).bnd fun b => if b then (noX (c ρ')).bnd fun y => (compL g t c ρ (r.map D)).bnd fun ys => .ok (y :: ys) else compL g t c ρ (r.map D)) = _
    rw [e1]
    cases q : p a with
    | true => simp [e2, q, e3 q, ih]
    | false => simp [e2, q, ih]
theorem eComp_of {src : LM} {vs : List Nat} {ds ys : List Dat} (h1 : src ρ = .ok ds) (h2 : compL g t c (wipe ρ vs) ds = .ok ys) (h3 : ys.length ≤ LINE) : eComp src vs g t c ρ = .ok (.lst ys) := by
  unfold eComp
  rw [h1]
  simp [h2, h3]
theorem range_get {α : Type} {n k : Nat} {F : Nat → α} {d : α} (h : ((List.range n).map F)[k]? = some d) : k < n ∧ d = F k := by
  rw [List.getElem?_map] at h
  obtain ⟨j, h1, h2⟩ := Option.map_eq_some_iff.mp h
  obtain ⟨h3, h4⟩ := List.getElem?_eq_some_iff.mp h1
  rw [List.getElem_range] at h4
  rw [List.length_range] at h3
  subst h4
  exact ⟨h3, h2.symm⟩
theorem fdivD_nat {i j : Nat} (h : 0 < j) (h2 : j < 1073741824) : fdivD (.int i) (.int j) = .ok (.int ((i / j : Nat) : Int)) := by
  rw [fdivD_int ⟨by omega, by omega⟩]
  rfl
theorem modD_nat {i j : Nat} (h : 0 < j) : modD (.int i) (.int j) = .ok (.int ((i % j : Nat) : Int)) := by
  rw [modD_int (by omega)]
  rfl
theorem mulR_int {i : Int} {j : Nat} (h : j < 2 ^ 64) : mulD (.int i) (.int j) = .ok (.int (i * j)) := mulD_int (.inr ⟨by omega, by omega⟩)
theorem mulL_int {i : Nat} {j : Int} (h : i < 2 ^ 64) : mulD (.int i) (.int j) = .ok (.int (i * j)) := mulD_int (.inl ⟨by omega, by omega⟩)
/-- a loop is passed -/
theorem wp_for {P : Fl → Env → Prop} {as : List Dat} (I : Nat → Env → Prop) (h0 : I 0 ρ) (hs : ∀ (k : Nat) d ρ, as[k]? = some d → I k ρ → ∃ ρ1, g d ρ = .ok ρ1 ∧ wp (s ρ1) fun f ρ2 => (f = .nx ∨ f = .ct) ∧ I (k + 1) ρ2) (h : ∀ ρ', I as.length ρ' → P .nx ρ') : wp (forL g s as ρ) P := by
  obtain ⟨ρ', e, h2⟩ := forL_inv I h0 hs
  rw [e]
  exact wp_some.mpr (h ρ' h2)
@[simp] theorem ePrs_nil : ePrs [] ρ = .ok [] := Eq.trans rfl rfl
@[simp] theorem ePrs_cons {ps : List (EM × EM)} : ePrs ((a, b) :: ps) ρ = (a ρ).bnd fun x => (b ρ).bnd fun y => (ePrs ps ρ).bnd fun t => .ok ((x, y) :: t) := Eq.trans rfl rfl
@[simp] theorem eDisp_ap {ps : List (EM × EM)} : eDisp ps ρ = (ePrs ps ρ).bnd fun t => if t.all (fun p => isKey p.1) then .ok (.dic (t.foldl (fun d p => dicPut d p.1 p.2) [])) else .bad := Eq.trans rfl rfl
theorem drop_min {xs : List α} {k : Nat} : xs.drop (min k xs.length) = xs.drop k := by
  rcases Nat.le_total k xs.length with h | h
  · rw [Nat.min_eq_left h]
  · rw [Nat.min_eq_right h, List.drop_of_length_le h, List.drop_of_length_le (Nat.le_refl _)]
theorem cutAt_nat {n d k : Nat} : cutAt n d (some (k : Int)) = min k n := by
  show (if (k : Int) < 0 then ((k : Int) + n).toNat else min (k : Int).toNat n) = _
  rw [if_neg (by omega), Int.toNat_natCast]
theorem cutAt_none {n d : Nat} : cutAt n d none = d := rfl
theorem cut_nat {xs : List α} {j k : Nat} : cut xs (some (j : Int)) (some (k : Int)) = (xs.drop j).take (k - j) := by
  unfold cut
  rw [cutAt_nat, cutAt_nat, drop_min]
  rcases Nat.le_total k xs.length with h | h
  · rw [Nat.min_eq_left h]
    rcases Nat.le_total j xs.length with h2 | h2
    · rw [Nat.min_eq_left h2]
    · rw [Nat.min_eq_right h2, List.drop_of_length_le h2]
      simp
  · rw [Nat.min_eq_right h]
    rcases Nat.le_total j xs.length with h2 | h2
    · rw [Nat.min_eq_left h2, List.take_of_length_le (by simp), List.take_of_length_le (by simp; omega)]
    · rw [Nat.min_eq_right h2, List.drop_of_length_le h2]
      simp
theorem cut_from {xs : List α} {j : Nat} : cut xs (some (j : Int)) none = xs.drop j := by
  unfold cut
  rw [cutAt_nat, cutAt_none, drop_min]
  rcases Nat.le_total j xs.length with h2 | h2
  · rw [Nat.min_eq_left h2, List.take_of_length_le (by simp)]
  · rw [Nat.min_eq_right h2, List.drop_of_length_le h2]
    simp
theorem cut_to {xs : List α} {k : Nat} : cut xs none (some (k : Int)) = xs.take k := by
  unfold cut
  rw [cutAt_nat, cutAt_none, List.drop_zero, Nat.sub_zero]
  rcases Nat.le_total k xs.length with h | h
  · rw [Nat.min_eq_left h]
  · rw [Nat.min_eq_right h, List.take_of_length_le h, List.take_of_length_le (Nat.le_refl _)]
@[simp] theorem sliD_lst {xs : List Dat} {lo hi : Option Int} : sliD lo hi (.lst xs) = .ok (.lst (cut xs lo hi)) := Eq.trans rfl rfl
@[simp] theorem sliD_tup {xs : List Dat} {lo hi : Option Int} : sliD lo hi (.tup xs) = .ok (.tup (cut xs lo hi)) := Eq.trans rfl rfl
@[simp] theorem sliD_str {xs : List Nat} {lo hi : Option Int} : sliD lo hi (.str xs) = .ok (.str (cut xs lo hi)) := Eq.trans rfl rfl
theorem joinS_nil : ∀ xs : List (List Nat), joinS [] xs = xs.flatten
  | [] => rfl
  | [x] => by simp [joinS]
  | x :: y :: r => by
    show x ++ [] ++ joinS [] (y :: r) = _
    rw [joinS_nil (y :: r)]
    simp
theorem strsOf_map : ∀ xs : List (List Nat), strsOf (xs.map .str) = some xs
  | [] => rfl
  | x :: r => by
    show (strsOf (r.map .str)).map (x :: ·) = _
    rw [strsOf_map r]
    rfl
theorem joinD_lst {sep : List Nat} {xs : List (List Nat)} (h : (xs.map (·.length)).sum + xs.length * sep.length ≤ LINE) : joinD (.str sep) (.lst (xs.map .str)) = .ok (.str (joinS sep xs)) := by
  show (match strsOf (xs.map .str) with | some ss => if (ss.map (fun z : List Nat => z.length)).sum + ss.length * sep.length ≤ LINE then R.ok (Dat.str (joinS sep ss)) else R.bad | none => R.bad) = _
  rw [strsOf_map]
  exact if_pos h
theorem rng3_int {m n st : Int} : rng3 (.int m) (.int n) (.int st) = if fits62 m ∧ fits62 n ∧ 0 < st ∧ st < 2 ^ 30 then .ok ((stepTo m n st).map .int) else .bad := rfl
theorem rng3_nat {n st : Nat} (h : n < 2 ^ 62) (h0 : 0 < st) (h1 : st < 2 ^ 30) : rng3 (.int 0) (.int n) (.int st) = .ok ((List.range ((n + st - 1) / st)).map fun k => .int ((k * st : Nat) : Int)) := by
  rw [rng3_int, if_pos ⟨⟨by omega, by omega⟩, ⟨by omega, by omega⟩, by omega, by omega⟩]
  unfold stepTo
  rw [show ((n : Int) - 0 + st - 1) = ((n + st - 1 : Nat) : Int) by omega, show (((n + st - 1 : Nat) : Int) / (st : Int)) = (((n + st - 1) / st : Nat) : Int) from rfl, Int.toNat_natCast, List.map_map]
  congr 2
  funext k
  simp
/-! ### loops that may end early -/
/-- what is wanted of a turn -/
def Lp (I : Env → Prop) (P : Fl → Env → Prop) : Fl → Env → Prop
  | .nx, ρ => I ρ
  | .ct, ρ => I ρ
  | .bk, ρ => P .nx ρ
  | f, ρ => P f ρ
section
variable {I : Env → Prop} {P : Fl → Env → Prop}
@[simp] theorem Lp_nx : Lp I P .nx ρ = I ρ := rfl
@[simp] theorem Lp_ct : Lp I P .ct ρ = I ρ := rfl
@[simp] theorem Lp_bk : Lp I P .bk ρ = P .nx ρ := rfl
@[simp] theorem Lp_rt : Lp I P (.rt d) ρ = P (.rt d) ρ := rfl
@[simp] theorem Lp_ex {k : Nat} : Lp I P (.ex k) ρ = P (.ex k) ρ := rfl
end
theorem wp_forX {P : Fl → Env → Prop} {as : List Dat} (I : Nat → Env → Prop) (h0 : I 0 ρ) (hs : ∀ (k : Nat) d ρ, as[k]? = some d → I k ρ → ∃ ρ1, g d ρ = .ok ρ1 ∧ wp (s ρ1) (Lp (I (k + 1)) P)) (h : ∀ ρ', I as.length ρ' → P .nx ρ') : wp (forL g s as ρ) P := by
  induction as generalizing ρ I with
  | nil => exact ⟨_, _, rfl, h ρ h0⟩
  | cons d r ih =>
    obtain ⟨ρ1, e1, f, ρ2, e2, h2⟩ := hs 0 d ρ rfl h0
    have step : ∀ ρ2, I 1 ρ2 → wp (forL g s r ρ2) P := fun ρ2 h2 => ih (fun k => I (k + 1)) h2 (fun k d' ρ3 e h3 => hs (k + 1) d' ρ3 (by simpa using e) h3) h
    show wp (gok (g d ρ) (fun ρ1 => match s ρ1 with
      | some (.nx, ρ2) => forL g s r ρ2
      | some (.ct, ρ2) => forL g s r ρ2
      | some (.bk, ρ2) => some (.nx, ρ2)
      | q => q)) P
    rw [e1]
    simp only [gok_ok, e2]
    cases f with
    | nx => exact step ρ2 h2
    | ct => exact step ρ2 h2
    | bk => exact ⟨_, _, rfl, h2⟩
    | rt d => exact ⟨_, _, rfl, h2⟩
    | ex c => exact ⟨_, _, rfl, h2⟩
theorem enumR_get : ∀ {ds : List Dat} {k i : Nat} {d : Dat}, (enumFrom k ds)[i]? = some d → ∃ x, ds[i]? = some x ∧ d = .tup [.int ((k + i : Nat) : Int), x]
  | [], _, _, _, h => by simp [enumFrom] at h
  | x :: r, k, 0, d, h => ⟨x, rfl, by simpa [enumFrom] using h.symm⟩
  | x :: r, k, i + 1, d, h => by
    obtain ⟨y, h1, h2⟩ := enumR_get (ds := r) (k := k + 1) (i := i) (by simpa [enumFrom] using h)
    exact ⟨y, by simpa using h1, by rw [h2]; congr 3; omega⟩
theorem enumR_len : ∀ {ds : List Dat} {k : Nat}, (enumFrom k ds).length = ds.length
  | [], _ => rfl
  | _ :: r, k => by simp [enumFrom, enumR_len (ds := r)]
theorem map_get {α : Type} {l : List α} {k : Nat} {F : α → Dat} {d : Dat} (h : (l.map F)[k]? = some d) : ∃ hk : k < l.length, d = F l[k] := by
  rw [List.getElem?_map] at h
  obtain ⟨j, h1, h2⟩ := Option.map_eq_some_iff.mp h
  obtain ⟨h3, h4⟩ := List.getElem?_eq_some_iff.mp h1
  exact ⟨h3, by rw [h4]; exact h2.symm⟩
/-! ### try -/
@[simp] theorem sTry_ap {hs : List ((Nat → Bool) × Option Nat × SM)} : sTry hs s ρ = match s ρ with
  | some (.ex c, ρ') => hand hs c ρ'
  | q => q := Eq.trans rfl rfl
@[simp] theorem hand_nil {k : Nat} : hand [] k ρ = some (.ex k, ρ) := Eq.trans rfl rfl
@[simp] theorem hand_none {p : Nat → Bool} {r : List ((Nat → Bool) × Option Nat × SM)} {k : Nat} : hand ((p, none, s) :: r) k ρ = if p k then noEx (s ρ) else hand r k ρ := Eq.trans rfl rfl
@[simp] theorem hand_some {p : Nat → Bool} {r : List ((Nat → Bool) × Option Nat × SM)} {k : Nat} : hand ((p, some i, s) :: r) k ρ = if p k then (if i < ρ.length then (match noEx (s (ρ.set i (some (.exc k)))) with
    | some (f, ρ') => some (f, ρ'.set i none)
    | none => none) else none) else hand r k ρ := Eq.trans rfl rfl
@[simp] theorem noEx_rt : noEx (some (.rt d, ρ)) = some (.rt d, ρ) := Eq.trans rfl rfl
@[simp] theorem noEx_nx : noEx (some (.nx, ρ)) = some (.nx, ρ) := Eq.trans rfl rfl
@[simp] theorem isX_exc {sub : Nat → Nat → Bool} {k j : Nat} : isX sub j (.exc k) = .ok (.bl (sub k j)) := Eq.trans rfl rfl
theorem within_one {c : Nat} : ∀ ls : List Nat, within [c] ls = decide (c ∈ ls)
  | [] => rfl
  | y :: ys => by
    show (begins [c] (y :: ys) || within [c] ys) = _
    rw [within_one ys]
    show ((c == y && begins [] ys) || decide (c ∈ ys)) = _
    have : begins ([] : List Nat) ys = true := by cases ys <;> rfl
    rw [this, Bool.and_true]
    by_cases h : c = y
    · subst h; simp
    · simp [h]
theorem inD_one {c : Nat} {ls : List Nat} : inD (.str [c]) (.str ls) = .ok (.bl (decide (c ∈ ls))) := by
  show R.ok (Dat.bl (within [c] ls)) = _
  rw [within_one]
theorem boolsOf_map : ∀ bs : List Bool, boolsOf (bs.map .bl) = some bs
  | [] => rfl
  | b :: r => by
    show (boolsOf (r.map .bl)).map (b :: ·) = _
    rw [boolsOf_map r]
    rfl
theorem allD_map {bs : List Bool} : allD (.lst (bs.map .bl)) = .ok (.bl (bs.all id)) := by
  show (match boolsOf (bs.map .bl) with | some bs => R.ok (Dat.bl (bs.all id)) | none => R.bad) = _
  rw [boolsOf_map]
theorem anyD_map {bs : List Bool} : anyD (.lst (bs.map .bl)) = .ok (.bl (bs.any id)) := by
  show (match boolsOf (bs.map .bl) with | some bs => R.ok (Dat.bl (bs.any id)) | none => R.bad) = _
  rw [boolsOf_map]
theorem flat_ones : ∀ l : List Nat, (l.map fun c => [c]).flatten = l
  | [] => rfl
  | x :: r => by simp [flat_ones r]
theorem sum_ones : ∀ l : List Nat, ((l.map fun c => [c]).map (fun z : List Nat => z.length)).sum = l.length
  | [] => rfl
  | x :: r => by
    rw [List.map_cons, List.map_cons, List.sum_cons, sum_ones r]
    simp
    omega
theorem joinD_ones {l : List Nat} (h : l.length ≤ LINE) : joinD (.str []) (.lst (l.map fun c => .str [c])) = .ok (.str l) := by
  have e : (l.map fun c => Dat.str [c]) = (l.map fun c => [c]).map .str := by rw [List.map_map]; rfl
  rw [e, joinD_lst, joinS_nil, flat_ones]
  rw [sum_ones]
  simpa using h
@[simp] theorem revD_str {xs : List Nat} : revD (.str xs) = .ok (.str xs.reverse) := Eq.trans rfl rfl
@[simp] theorem revD_lst {xs : List Dat} : revD (.lst xs) = .ok (.lst xs.reverse) := Eq.trans rfl rfl
theorem lenL {α : Type} {xs : List α} {n : Nat} (h : xs.length = n) (h2 : n ≤ 1000000) : xs.length ≤ LINE := by unfold LINE; omega
theorem wp_seqE {P : Fl → Env → Prop} (I : Env → Prop) (h1 : wp (s1 ρ) fun f ρ' => f = .nx ∧ I ρ') (h2 : ∀ ρ', I ρ' → wp (s2 ρ') P) : wp (sSeq s1 s2 ρ) P := by
  refine wp_seq (wp_imp h1 fun f ρ' ⟨e, h⟩ => ?_)
  subst e
  exact h2 ρ' h
theorem rng2_int {m n : Int} : rng2 (.int m) (.int n) = if fits62 m ∧ fits62 n then .ok ((upTo m n).map .int) else .bad := rfl
theorem rng2_nat {m n : Nat} (hm : m < 2 ^ 62) (h : n < 2 ^ 62) : rng2 (.int m) (.int n) = .ok ((List.range (n - m)).map fun k => .int ((m + k : Nat) : Int)) := by
  rw [rng2_int, if_pos ⟨⟨by omega, by omega⟩, ⟨by omega, by omega⟩⟩]
  unfold upTo
  rw [show ((n : Int) - (m : Int)).toNat = n - m by omega, List.map_map]
  rfl
theorem sPut_dic {k : EM} {kvs : List (Dat × Dat)} {z : Dat} (h1 : ρ[i]? = some (some (.dic kvs))) (h2 : a ρ = .ok d) (h3 : k ρ = .ok z) (hz : isKey z = true) (hl : kvs.length < LINE) : sPut i k a ρ = some (.nx, ρ.set i (some (.dic (dicPut kvs z d)))) := by
  unfold sPut
  rw [h1]
  show lft (a ρ) ρ _ = _
  rw [h2]
  show lft (k ρ) ρ _ = _
  rw [h3]
  exact if_pos ⟨hz, hl⟩
theorem dicPut_new {kvs : List (Dat × Dat)} {k v : Dat} (h : ∀ p ∈ kvs, eqv p.1 k = false) : dicPut kvs k v = kvs ++ [(k, v)] := by
  unfold dicPut
  rw [if_neg]
  simp only [List.any_eq_true, not_exists, not_and, Bool.not_eq_true]
  exact fun p hp => h p hp
@[simp] theorem eqv_str {x y : List Nat} : eqv (.str x) (.str y) = (x == y) := Eq.trans (by unfold eqv; rfl) rfl
@[simp] theorem eqv_int {x y : Int} : eqv (.int x) (.int y) = (x == y) := Eq.trans (by unfold eqv; rfl) rfl
end
end PL

namespace PL
set_option autoImplicit false
noncomputable section
def b_cell : SM := (sSeq (sIf (tE (e2 ltD (eV 1) (e1 lenD (eV 0))))
    (sRet (e1 intD (e2 idxD (eV 0) (eV 1))))
    sSkip)
    (sRet (eC (.int 0))))
def b_numbers : SM := (sSeq (sNew 3 (eLst eNil))
    (sSeq (sAsg (gV 4) (eV 0))
    (sSeq (sFor (iR1 (eV 1)) (gV 5)
    (sIf (tAnd (tE (e2 geD (eV 0) (e2 powD (eC (.int 10)) (eC (.int 18))))) (tE (e2 gtD (eV 4) (eC (.int 0)))))
    (sSeq (sApp 3 (e2 modD (e1 intD (eV 4)) (eV 2)))
    (sAsg (gV 4) (e2 fdivD (e1 intD (eV 4)) (eV 2))))
    (sSeq (sAsg (gV 6) (e2 modD (e1 intD (e2 addD (e2 addD (e2 mulD (eV 0) (eC (.int 48271))) (e2 mulD (eV 5) (eC (.int 69621)))) (eC (.int 7)))) (eC (.int 2147483647))))
    (sSeq (sAsg (gV 6) (e2 modD (e1 intD (e2 addD (e2 addD (e2 addD (e2 mulD (eV 6) (eV 6)) (e2 mulD (eV 6) (eC (.int 40692)))) (e2 mulD (eV 5) (eC (.int 16807)))) (eC (.int 11)))) (eC (.int 2147483399))))
    (sApp 3 (e2 modD (e1 intD (e2 fdivD (eV 6) (eC (.int 32)))) (eV 2)))))))
    (sRet (eV 3)))))
def b_same (IHm : List Dat → R Dat) : SM := (sSeq (sIf (tE (e1 (isTy .list) (eV 1)))
    (sIf (tOr (tNot (tE (e1 (isTy .list) (eV 0)))) (tE (e2 neD (e1 lenD (eV 0)) (e1 lenD (eV 1)))))
    (sRet (eC (.bl false)))
    sSkip)
    (sIf (tE (e1 (isTy .tuple) (eV 1)))
    (sIf (tOr (tNot (tE (e1 (isTy .tuple) (eV 0)))) (tE (e2 neD (e1 lenD (eV 0)) (e1 lenD (eV 1)))))
    (sRet (eC (.bl false)))
    sSkip)
    (sIf (tE (e1 isN (eV 1)))
    (sRet (e1 isN (eV 0)))
    (sIf (tE (e1 (isTy .bool) (eV 1)))
    (sRet (eAnd (e1 (isTy .bool) (eV 0)) (e2 eqD (eV 0) (eV 1))))
    (sIf (tE (e1 (isTy .int) (eV 1)))
    (sRet (eAnd (e1 (isTy .int) (eV 0)) (eAnd (e1 notB (e1 (isTy .bool) (eV 0))) (e2 eqD (eV 0) (eV 1)))))
    (sRet (eAnd (e1 (isTy .str) (eV 0)) (e2 eqD (eV 0) (eV 1)))))))))
    (sSeq (sFor (iR1 (e1 lenD (eV 1))) (gV 2)
    (sIf (tNot (tE (eCall IHm (eCons (e2 idxD (eV 0) (eV 2)) (eCons (e2 idxD (eV 1) (eV 2)) eNil)))))
    (sRet (eC (.bl false)))
    sSkip))
    (sRet (eC (.bl true)))))
def f_same : Nat → List Dat → R Dat
  | 0 => fun _ => .bad
  | n + 1 => run 3 (b_same (f_same n))
end
theorem cell_ok (ns : List Int) (k : Nat) (h : ns.length ≤ 1000000) : ∃ z : Int, run 2 b_cell [.lst (ns.map .int), .int k] = .ok (.int z) := by
  by_cases hk : k < ns.length
  · refine ⟨ns[k], run_at [some (.lst (ns.map .int)), some (.int k)] ?_⟩
    unfold b_cell
    refine wp_seq ?_
    simp only [sIf_ap, tE_ap, e2_ap, e1_ap, eV_zero, eV_succ, R.bnd_ok, lenD_lst, ltD_int, tru_bl, lft_ok, List.length_map]
    rw [if_pos (by rw [decide_eq_true_iff]; omega)]
    simp only [sRet_ap, e2_ap, e1_ap, eV_zero, eV_succ, R.bnd_ok]
    rw [idxD_lst (by simpa using hk)]
    simp
  · refine ⟨0, run_at [some (.lst (ns.map .int)), some (.int k)] ?_⟩
    unfold b_cell
    refine wp_seq ?_
    simp only [sIf_ap, tE_ap, e2_ap, e1_ap, eV_zero, eV_succ, R.bnd_ok, lenD_lst, ltD_int, tru_bl, lft_ok, List.length_map]
    rw [if_neg (by rw [decide_eq_true_iff]; omega)]
    simp
/-- numbers as data -/
abbrev nums (l : List Nat) : Dat := .lst (l.map fun x => .int (x : Nat))
theorem numbers_ok (cell : Int) (count limit : Nat) (hc : count ≤ 1000000) (h0 : 0 < limit) (h1 : limit < 1073741824) : ∃ l : List Nat, run 7 b_numbers [.int cell, .int count, .int limit] = .ok (nums l) ∧ l.length = count ∧ ∀ x ∈ l, x < limit := by
  have key : wp (b_numbers [some (.int cell), some (.int count), some (.int limit), none, none, none, none]) fun f _ => ∃ l : List Nat, endR f = .ok (nums l) ∧ l.length = count ∧ ∀ x ∈ l, x < limit := by
    unfold b_numbers
    refine wp_seq ?_
    rw [sNew_lst (xs := []) (by simp [LINE]) (by simp)]
    simp only [wp_some, Nxt_nx, List.set_cons_succ, List.set_cons_zero]
    refine wp_seq ?_
    simp only [sAsg_ap, eV_zero, lft_ok, gV_succ, gV_zero, R.bnd_ok, gok_ok, wp_some, Nxt_nx]
    refine wp_seq ?_
    rw [sFor_ap]
    simp only [iR1_ap, eV_succ, eV_zero, R.bnd_ok]
    rw [rng1_nat (by omega)]
    simp only [lft_ok]
    have push : ∀ (k : Nat) (l : List Nat) (v : Int) (o o2 o3 : Option Dat) (e : EM), l.length = k → k < count → (∀ x ∈ l, x < limit) → e [some (.int cell), some (.int count), some (.int limit), some (nums l), o, o2, o3] = .ok (.int (v % (limit : Int))) →
        ∃ l' : List Nat, sApp 3 e [some (.int cell), some (.int count), some (.int limit), some (nums l), o, o2, o3] = some (.nx, [some (.int cell), some (.int count), some (.int limit), some (nums l'), o, o2, o3]) ∧ l'.length = k + 1 ∧ ∀ x ∈ l', x < limit := by
      intro k l v o o2 o3 e hl hk hx he
      have hv0 := Int.emod_nonneg v (show (limit : Int) ≠ 0 by omega)
      have hv1 := Int.emod_lt_of_pos v (show (0 : Int) < limit by omega)
      refine ⟨l ++ [(v % (limit : Int)).toNat], ?_, by simp [hl], ?_⟩
      · rw [sApp_ap (xs := l.map fun x => .int (x : Nat)) (d := .int (v % (limit : Int))) (by simp) he (by simp; unfold LINE; omega)]
        simp [nums, Int.toNat_of_nonneg hv0]
      · intro x hxx
        rcases List.mem_append.mp hxx with h | h
        · exact hx x h
        · simp at h
          omega
    refine wp_for (fun k ρ => ∃ (l : List Nat) (rest : Int) (o2 o3 : Option Dat), l.length = k ∧ (∀ x ∈ l, x < limit) ∧ ρ = [some (.int cell), some (.int count), some (.int limit), some (nums l), some (.int rest), o2, o3]) ⟨[], cell, none, none, rfl, by simp, rfl⟩ (fun k d ρ hk ⟨l, rest, o2, o3, w1, w2, e⟩ => ?_) (fun ρ ⟨l, rest, o2, o3, w1, w2, e⟩ => ?_)
    · obtain ⟨hk2, rfl⟩ := range_get hk
      subst e
      refine ⟨[some (.int cell), some (.int count), some (.int limit), some (nums l), some (.int rest), some (.int k), o3], by simp, ?_⟩
      simp only [sIf_ap, tAnd_ap, tE_ap, e2_ap, eV_zero, eV_succ, eC_ap, R.bnd_ok]
      rw [show powD (.int 10) (.int 18) = .ok (.int 1000000000000000000) from by rfl]
      simp only [R.bnd_ok, geD_int, gtD_int, tru_bl]
      have hif : ∀ (b1 b2 : Bool), (if b1 = true then R.ok b2 else R.ok false) = R.ok (b1 && b2) := by intro b1 b2; cases b1 <;> rfl
      rw [hif]
      simp only [lft_ok]
      split
      · refine wp_seq ?_
        obtain ⟨l', q1, q2, q3⟩ := push k l rest (some (.int rest)) (some (.int k)) o3 (e2 modD (e1 intD (eV 4)) (eV 2)) w1 hk2 w2 (by simp [modD_int (show (0 : Int) < limit by omega)])
        rw [q1]
        simp only [wp_some, Nxt_nx, sAsg_ap, e2_ap, e1_ap, eV_zero, eV_succ, R.bnd_ok, intD_int, fdivD_int (show (0 : Int) < limit ∧ (limit : Int) < 1073741824 by omega), lft_ok, gV_succ, gV_zero, gok_ok]
        exact ⟨.inl trivial, l', _, _, _, q2, q3, rfl⟩
      · refine wp_seq ?_
        simp only [sAsg_ap, e2_ap, e1_ap, eV_zero, eV_succ, eC_ap, R.bnd_ok, mulD_int (show small64 cell ∨ small64 48271 from .inr ⟨by omega, by omega⟩), mulD_int (show small64 (k : Int) ∨ small64 69621 from .inr ⟨by omega, by omega⟩), addD_int, intD_int, modD_int (show (0 : Int) < 2147483647 by omega), lft_ok, gV_succ, gV_zero, gok_ok, wp_some, Nxt_nx]
        refine wp_seq ?_
        generalize hm : (cell * 48271 + (k : Int) * 69621 + 7) % 2147483647 = mx
        have hm0 : 0 ≤ mx ∧ mx < 2147483647 := by rw [← hm]; exact ⟨Int.emod_nonneg _ (by omega), Int.emod_lt_of_pos _ (by omega)⟩
        simp only [sAsg_ap, e2_ap, e1_ap, eV_zero, eV_succ, eC_ap, R.bnd_ok, mulD_int (show small64 mx ∨ small64 mx from .inr ⟨by omega, by omega⟩), mulD_int (show small64 mx ∨ small64 40692 from .inr ⟨by omega, by omega⟩), mulD_int (show small64 (k : Int) ∨ small64 16807 from .inr ⟨by omega, by omega⟩), addD_int, intD_int, modD_int (show (0 : Int) < 2147483399 by omega), lft_ok, gV_succ, gV_zero, gok_ok, wp_some, Nxt_nx]
        generalize (mx * mx + mx * 40692 + (k : Int) * 16807 + 11) % 2147483399 = my
        obtain ⟨l', q1, q2, q3⟩ := push k l (my / 32) (some (.int rest)) (some (.int k)) (some (.int my)) (e2 modD (e1 intD (e2 fdivD (eV 6) (eC (.int 32)))) (eV 2)) w1 hk2 w2 (by simp [modD_int (show (0 : Int) < limit by omega), fdivD_int (show (0 : Int) < 32 ∧ (32 : Int) < 1073741824 by omega)])
        rw [q1]
        exact wp_some.mpr ⟨.inl rfl, l', _, _, _, q2, q3, rfl⟩
    · subst e
      rw [List.length_map, List.length_range] at w1
      simp only [Nxt_nx, sRet_ap, eV_zero, eV_succ, lft_ok, wp_some, endR_rt]
      exact ⟨l, rfl, w1, w2⟩
  obtain ⟨f, ρ, e, l, h1, h2, h3⟩ := key
  exact ⟨l, run_at _ ⟨f, ρ, e, h1⟩, h2, h3⟩
/-- data that is told alike with itself, of so many levels -/
def gd : Nat → Dat → Prop
  | _, .non => True
  | _, .bl _ => True
  | _, .int _ => True
  | _, .str _ => True
  | n + 1, .lst xs => xs.length ≤ LINE ∧ ∀ x ∈ xs, gd n x
  | n + 1, .tup xs => xs.length ≤ LINE ∧ ∀ x ∈ xs, gd n x
  | _, _ => False
theorem isTy_lst {xs : List Dat} : isTy .list (.lst xs) = .ok (.bl true) ∧ isTy .list (.tup xs) = .ok (.bl false) ∧ isTy .tuple (.tup xs) = .ok (.bl true) := ⟨rfl, rfl, rfl⟩
theorem same_loop {n : Nat} {xs : List Dat} {mk : List Dat → Dat} (hl : xs.length ≤ LINE) (hlen : lenD (mk xs) = .ok (.int xs.length)) (hidx : ∀ (k : Nat) (h : k < xs.length), idxD (mk xs) (.int k) = .ok xs[k]) (ih : ∀ x ∈ xs, f_same n [x, x] = .ok (.bl true)) (o : Option Dat) :
    wp (sSeq (sFor (iR1 (e1 lenD (eV 1))) (gV 2) (sIf (tNot (tE (eCall (f_same n) (eCons (e2 idxD (eV 0) (eV 2)) (eCons (e2 idxD (eV 1) (eV 2)) eNil))))) (sRet (eC (.bl false))) sSkip)) (sRet (eC (.bl true))) [some (mk xs), some (mk xs), o]) fun f _ => endR f = .ok (.bl true) := by
  unfold LINE at hl
  refine wp_seq ?_
  rw [sFor_ap]
  simp only [iR1_ap, e1_ap, eV_succ, eV_zero, R.bnd_ok, hlen]
  rw [rng1_nat (by omega)]
  simp only [lft_ok]
  refine wp_for (fun k ρ => ∃ o, ρ = [some (mk xs), some (mk xs), o]) ⟨o, rfl⟩ (fun k d ρ hk ⟨o, e⟩ => ?_) (fun ρ ⟨o, e⟩ => ?_)
  · obtain ⟨hk2, rfl⟩ := range_get hk
    subst e
    refine ⟨[some (mk xs), some (mk xs), some (.int k)], by simp, ?_⟩
    simp only [sIf_ap, tNot_ap, tE_ap, eCall_ap, eCons_ap, eNil_ap, e2_ap, eV_zero, eV_succ, R.bnd_ok, hidx k hk2, ih _ (List.getElem_mem hk2), tru_bl, lft_ok]
    simp only [Bool.not_true, Bool.false_eq_true, if_false, sSkip_ap, wp_some]
    exact ⟨.inl trivial, _, rfl⟩
  · subst e
    simp
theorem same_refl : ∀ (n : Nat) (d : Dat), gd n d → f_same (n + 1) [d, d] = .ok (.bl true) := by
  intro n
  induction n with
  | zero =>
    intro d h
    refine run_at [some d, some d, none] ?_
    unfold b_same
    refine wp_seq ?_
    cases d with
    | lst xs => exact h.elim
    | tup xs => exact h.elim
    | dic xs => exact h.elim
    | exc k => exact h.elim
    | non => simp [isTy]
    | bl b => simp [isTy]; rw [show eqD (.bl b) (.bl b) = .ok (.bl (b == b)) from rfl]; simp
    | int i => simp [isTy]
    | str z => simp [isTy]
  | succ n ih =>
    intro d h
    refine run_at [some d, some d, none] ?_
    unfold b_same
    refine wp_seq ?_
    cases d with
    | dic xs => exact h.elim
    | exc k => exact h.elim
    | non => simp [isTy]
    | bl b => simp [isTy]; rw [show eqD (.bl b) (.bl b) = .ok (.bl (b == b)) from rfl]; simp
    | int i => simp [isTy]
    | str z => simp [isTy]
    | lst xs =>
      obtain ⟨hl, hx⟩ := h
      simp only [sIf_ap, tE_ap, tOr_ap, tNot_ap, e1_ap, e2_ap, eV_zero, eV_succ, R.bnd_ok, isTy_lst, tru_bl, lft_ok, lenD_lst, neD_int]
      simp
      exact same_loop (mk := .lst) hl rfl (fun k h => idxD_lst h) (fun x hxx => ih x (hx x hxx)) none
    | tup xs =>
      obtain ⟨hl, hx⟩ := h
      simp only [sIf_ap, tE_ap, tOr_ap, tNot_ap, e1_ap, e2_ap, eV_zero, eV_succ, R.bnd_ok, isTy_lst, tru_bl, lft_ok, lenD_tup, neD_int]
      simp [isTy_lst]
      exact same_loop (mk := .tup) hl rfl (fun k h => idxD_tup h) (fun x hxx => ih x (hx x hxx)) none
theorem gd_up : ∀ (n : Nat) (d : Dat), gd n d → gd (n + 1) d
  | _, .non, _ => trivial
  | _, .bl _, _ => trivial
  | _, .int _, _ => trivial
  | _, .str _, _ => trivial
  | n + 1, .lst xs, h => ⟨h.1, fun x hx => gd_up n x (h.2 x hx)⟩
  | n + 1, .tup xs, h => ⟨h.1, fun x hx => gd_up n x (h.2 x hx)⟩
  | 0, .lst xs, h => h.elim
  | 0, .tup xs, h => h.elim
  | 0, .dic xs, h => h.elim
  | 0, .exc xs, h => h.elim
  | _ + 1, .dic xs, h => h.elim
  | _ + 1, .exc xs, h => h.elim
theorem gd_le {n m : Nat} {d : Dat} (h : n ≤ m) (g : gd n d) : gd m d := by
  induction h with
  | refl => exact g
  | step _ ih => exact gd_up _ d ih
theorem idx_nums {l : List Nat} {k : Nat} (h : k < l.length) : idxD (nums l) (.int k) = .ok (.int (l[k] : Nat)) := by
  rw [idxD_lst (by simpa using h)]
  simp
theorem idx_nums0 {l : List Nat} (h : 0 < l.length) : idxD (nums l) (.int 0) = .ok (.int (l[0] : Nat)) := idx_nums (k := 0) h
theorem len_nums {l : List Nat} : lenD (nums l) = .ok (.int l.length) := by simp [nums]

/-! ### while -/
theorem whlN_up {t : TM} {b : SM} : ∀ (n : Nat) (ρ : Env) (r : Fl × Env), whlN t b n ρ = some r → ∀ k, whlN t b (n + k) ρ = some r
  | 0, ρ, r, h, k => by cases h
  | n + 1, ρ, r, h, k => by
    rw [show n + 1 + k = (n + k) + 1 by omega]
    unfold whlN at h ⊢
    cases q : t ρ with
    | bad => rw [q] at h; cases h
    | exc x => rw [q] at h; exact h
    | ok c =>
      rw [q] at h
      simp only [lft_ok] at h ⊢
      cases c with
      | false => exact h
      | true =>
        simp only [if_true] at h ⊢
        match hb : b ρ with
        | none => rw [hb] at h; cases h
        | some (.nx, ρ') => rw [hb] at h; exact whlN_up n ρ' r h k
        | some (.ct, ρ') => rw [hb] at h; exact whlN_up n ρ' r h k
        | some (.bk, ρ') => rw [hb] at h; exact h
        | some (.rt d, ρ') => rw [hb] at h; exact h
        | some (.ex c, ρ') => rw [hb] at h; exact h
theorem sWhl_at {t : TM} {b : SM} {n : Nat} {ρ : Env} {r : Fl × Env} (h : whlN t b n ρ = some r) : sWhl t b ρ = some r := by
  unfold sWhl
  have ex : ∃ n, (whlN t b n ρ).isSome = true := ⟨n, by rw [h]; rfl⟩
  rw [dif_pos ex]
  cases q : whlN t b ex.choose ρ with
  | none =>
    have := ex.choose_spec
    rw [q] at this
    cases this
  | some r' =>
    have h1 := whlN_up n ρ r h ex.choose
    have h2 := whlN_up _ ρ r' q n
    rw [Nat.add_comm] at h1
    exact h2.symm.trans h1
/-- a while loop by an invariant with a measure -/
theorem wp_whl {t : TM} {b : SM} {P : Fl → Env → Prop} (I : Nat → Env → Prop) (hs : ∀ n ρ, I n ρ → ∃ c, t ρ = .ok c ∧ (c = true → wp (b ρ) (Lp (fun ρ' => ∃ m, m < n ∧ I m ρ') P)) ∧ (c = false → P .nx ρ)) {n : Nat} {ρ : Env} (h : I n ρ) : wp (sWhl t b ρ) P := by
  have key : ∀ n ρ, I n ρ → ∃ N f ρ', whlN t b N ρ = some (f, ρ') ∧ P f ρ' := by
    intro n
    induction n using Nat.strongRecOn with
    | ind n ih =>
      intro ρ h
      obtain ⟨c, e, h1, h2⟩ := hs n ρ h
      cases c with
      | false =>
        refine ⟨1, .nx, ρ, ?_, h2 rfl⟩
        unfold whlN
        rw [e]
        rfl
      | true =>
        obtain ⟨f, ρ', e2, h3⟩ := h1 rfl
        have go : (∃ m, m < n ∧ I m ρ') → (∀ N, whlN t b (N + 1) ρ = whlN t b N ρ') → ∃ N f ρ', whlN t b N ρ = some (f, ρ') ∧ P f ρ' := fun ⟨m, hm, hi⟩ st => by
          obtain ⟨N, f, ρ2, e3, h4⟩ := ih m hm ρ' hi
          exact ⟨N + 1, f, ρ2, (st N).trans e3, h4⟩
        have st : ∀ N, whlN t b (N + 1) ρ = (match b ρ with
          | some (.nx, ρ') => whlN t b N ρ'
          | some (.ct, ρ') => whlN t b N ρ'
          | some (.bk, ρ') => some (.nx, ρ')
          | q => q) := fun N => by
          conv => lhs; unfold whlN
          rw [e]
          rfl
        cases f with
        | nx => exact go h3 fun N => by rw [st, e2]
        | ct => exact go h3 fun N => by rw [st, e2]
        | bk => exact ⟨1, .nx, ρ', by rw [st, e2], h3⟩
        | rt d => exact ⟨1, .rt d, ρ', by rw [st, e2], h3⟩
        | ex d => exact ⟨1, .ex d, ρ', by rw [st, e2], h3⟩
  obtain ⟨N, f, ρ', e, hp⟩ := key n ρ h
  exact ⟨f, ρ', sWhl_at e, hp⟩
/-! ### more of loops, comprehensions, equality -/
theorem compL_cons {g : GM} {t : TM} {e : EM} {ρ : Env} {d : Dat} {r : List Dat} : compL g t e ρ (d :: r) = (noX (g d ρ)).bnd fun ρ' => (noX (t ρ')).bnd fun b => if b then (noX (e ρ')).bnd fun y => (compL g t e ρ r).bnd fun ys => .ok (y :: ys) else compL g t e ρ r := rfl
theorem compD_cons {g : GM} {t : TM} {ek ev : EM} {ρ : Env} {d : Dat} {r : List Dat} {acc : List (Dat × Dat)} : compD g t ek ev ρ (d :: r) acc = (noX (g d ρ)).bnd fun ρ' => (noX (t ρ')).bnd fun b =>
    if b then (noX (ek ρ')).bnd fun k => (noX (ev ρ')).bnd fun v => if isKey k ∧ acc.length < LINE then compD g t ek ev ρ r (dicPut acc k v) else .bad else compD g t ek ev ρ r acc := rfl
/-- for k in range(n): if not bit k: return False -/
theorem wp_forB {g : GM} {t : TM} {P : Fl → Env → Prop} {n : Nat} (bits : Nat → Bool) (E : Option Dat → Env) (hg : ∀ k o, g (.int (k : Nat)) (E o) = .ok (E (some (.int (k : Nat))))) (ht : ∀ k, k < n → t (E (some (.int (k : Nat)))) = .ok (!bits k))
    (h1 : (∀ k, k < n → bits k = true) → ∀ o, P .nx (E o)) (h2 : (∃ k, k < n ∧ bits k = false) → ∀ o, P (.rt (.bl false)) (E o)) (o : Option Dat) : wp (forL g (sIf t (sRet (eC (.bl false))) sSkip) ((List.range n).map fun k => Dat.int ((k : Nat) : Int)) (E o)) P := by
  refine wp_forX (fun k ρ => (∀ j, j < k → bits j = true) ∧ ∃ o, ρ = E o) ⟨fun j h => absurd h (by omega), o, rfl⟩ (fun k d ρ hk ⟨w, o, e⟩ => ?_) (fun ρ ⟨w, o, e⟩ => ?_)
  · obtain ⟨hk2, rfl⟩ := range_get hk
    subst e
    refine ⟨_, hg k o, ?_⟩
    rw [sIf_ap, ht k hk2]
    simp only [lft_ok]
    cases q : bits k with
    | true =>
      simp only [Bool.not_true, Bool.false_eq_true, if_false, sSkip_ap, wp_some, Lp_nx]
      refine ⟨fun j hj => ?_, _, rfl⟩
      by_cases h : j = k
      · subst h; exact q
      · exact w j (by omega)
    | false =>
      simp only [Bool.not_false, if_true, sRet_ap, eC_ap, lft_ok, wp_some, Lp_rt]
      exact h2 ⟨k, hk2, q⟩ _
  · subst e
    rw [List.length_map, List.length_range] at w
    exact h1 w o
mutual
theorem eqv_refl : ∀ (d : Dat) (n : Nat), shp n d = true → eqv d d = true
  | .non, _, _ => rfl
  | .bl b, _, _ => by simp [eqv]
  | .int b, _, _ => by simp [eqv]
  | .str b, _, _ => by simp [eqv]
  | .lst xs, n + 1, h => by unfold eqv; exact eqvL_refl xs n h
  | .tup xs, n + 1, h => by unfold eqv; exact eqvL_refl xs n h
  | .lst xs, 0, h => by simp [shp] at h
  | .tup xs, 0, h => by simp [shp] at h
  | .dic xs, n, h => by cases n <;> simp [shp] at h
  | .exc xs, n, h => by cases n <;> simp [shp] at h
theorem eqvL_refl : ∀ (d : List Dat) (n : Nat), shpL n d = true → eqvL d d = true
  | [], _, _ => rfl
  | x :: r, n, h => by
    simp only [shpL, Bool.and_eq_true] at h
    unfold eqvL
    rw [eqv_refl x n h.1, eqvL_refl r n h.2]
    rfl
end
theorem eqD_refl {d : Dat} (h : shp DEEP d = true) : eqD d d = .ok (.bl true) := by
  unfold eqD
  rw [h]
  simp [eqv_refl d DEEP h]
theorem shpL_of {n : Nat} : ∀ {ds : List Dat}, (∀ d ∈ ds, shp n d = true) → shpL n ds = true
  | [], _ => by simp [shpL]
  | x :: r, h => by
    simp only [shpL, Bool.and_eq_true]
    exact ⟨h x List.mem_cons_self, shpL_of fun d hd => h d (List.mem_cons_of_mem _ hd)⟩
theorem shpL_to {n : Nat} : ∀ {ds : List Dat}, shpL n ds = true → ∀ d ∈ ds, shp n d = true
  | [], _, d, hd => (by cases hd)
  | x :: r, h, d, hd => by
    simp only [shpL, Bool.and_eq_true] at h
    rcases List.mem_cons.mp hd with e | e
    · subst e; exact h.1
    · exact shpL_to h.2 d e
mutual
theorem shp_up : ∀ (n : Nat) (d : Dat), shp n d = true → shp (n + 1) d = true
  | _, .non, _ => by simp [shp]
  | _, .bl _, _ => by simp [shp]
  | _, .int _, _ => by simp [shp]
  | _, .str _, _ => by simp [shp]
  | n + 1, .lst xs, h => by unfold shp at h ⊢; exact shpL_up n xs h
  | n + 1, .tup xs, h => by unfold shp at h ⊢; exact shpL_up n xs h
  | 0, .lst xs, h => by simp [shp] at h
  | 0, .tup xs, h => by simp [shp] at h
  | n, .dic xs, h => by cases n <;> simp [shp] at h
  | n, .exc xs, h => by cases n <;> simp [shp] at h
theorem shpL_up : ∀ (n : Nat) (d : List Dat), shpL n d = true → shpL (n + 1) d = true
  | _, [], _ => by simp [shpL]
  | n, x :: r, h => by
    simp only [shpL, Bool.and_eq_true] at h ⊢
    exact ⟨shp_up n x h.1, shpL_up n r h.2⟩
end
theorem shp_le {n m : Nat} {d : Dat} (h : n ≤ m) (g : shp n d = true) : shp m d = true := by
  induction h with
  | refl => exact g
  | step _ ih => exact shp_up _ d ih
/-- a text taken out of a place -/
theorem begins_take {α : Type} [BEq α] [LawfulBEq α] : ∀ (x y : List α), begins x y = (y.take x.length == x)
  | [], y => by cases y <;> simp [begins]
  | a :: x, [] => by simp [begins]
  | a :: x, b :: y => by
    simp only [begins, List.length_cons, List.take_succ_cons]
    rw [begins_take x y]
    show (a == b && y.take x.length == x) = (b == a && y.take x.length == x)
    rw [BEq.comm]
/-- the first of the numbers that fulfil p -/
theorem filter_first {p : Nat → Bool} {n k : Nat} (hk : k < n) (h0 : ∀ j, j < k → p j = false) (h1 : p k = true) : ∃ r, (List.range n).filter p = k :: r := by
  refine ⟨((List.range' (k + 1) (n - k - 1)).filter p), ?_⟩
  have e : List.range n = List.range' 0 k ++ (k :: List.range' (k + 1) (n - k - 1)) := by
    rw [List.range_eq_range', show List.range' 0 n = List.range' 0 (k + (n - k)) by rw [show k + (n - k) = n by omega], ← List.range'_append_1, Nat.zero_add]
    congr 1
    rw [show n - k = (n - k - 1) + 1 by omega, List.range'_succ]
    rfl
  rw [e, List.filter_append, List.filter_cons_of_pos h1]
  have e0 : (List.range' 0 k).filter p = [] := by
    rw [List.filter_eq_nil_iff]
    intro a ha
    have := (List.mem_range'_1.mp ha)
    rw [h0 a (by omega)]
    decide
  rw [e0]
  rfl
theorem filter_none {p : Nat → Bool} {n : Nat} (h0 : ∀ j, j < n → p j = false) : (List.range n).filter p = [] := by
  rw [List.filter_eq_nil_iff]
  intro a ha
  rw [h0 a (List.mem_range.mp ha)]
  decide
end PL

set_option maxRecDepth 100000
namespace PL
set_option autoImplicit false
theorem ltS_one {a b : Nat} : ltS [a] [b] = decide (a < b) := by
  unfold ltS
  rw [Bool.eq_iff_iff, decide_eq_true_iff, decide_eq_true_iff, List.cons_lt_cons_iff]
  simp
theorem leD_one {a b : Nat} : leD (.str [a]) (.str [b]) = .ok (.bl (decide (a ≤ b))) := by
  show R.ok (Dat.bl (!ltS [b] [a])) = _
  rw [ltS_one]
  congr 2
  rw [Bool.eq_iff_iff]
  simp
def okc (c : Nat) : Bool := decide (32 ≤ c) && decide (c ≤ 126)
theorem noX_of {n : Nat} {d : Dat} (h : shp n d = true) : ∀ x, d ≠ .exc x := fun x e => by
  subst e
  cases n <;> simp [shp] at h
theorem isTy_str_of {d : Dat} (h : ∀ x, d ≠ .exc x) : isTy .str d = .ok (.bl (match d with | .str _ => true | _ => false)) := by
  cases d with
  | exc x => exact absurd rfl (h x)
  | _ => rfl
theorem isTy_tup_of {d : Dat} (h : ∀ x, d ≠ .exc x) : isTy .tuple d = .ok (.bl (match d with | .tup _ => true | _ => false)) := by
  cases d with
  | exc x => exact absurd rfl (h x)
  | _ => rfl
@[simp] theorem ordD_one {c : Nat} : ordD (.str [c]) = .ok (.int c) := rfl
abbrev sg (c : Nat) : Dat := .str [c]
def dk (s a : List Nat) : List Nat := s.foldl (fun a c => if c ∈ a then a else a ++ [c]) a
abbrev dkv (c : Nat) : Dat × Dat := (sg c, .bl true)
theorem put_dk (a : List Nat) (c : Nat) : dicPut (a.map dkv) (sg c) (.bl true) = (if c ∈ a then a else a ++ [c]).map dkv := by
  have hk : ∀ b, keyEq (sg c) (dkv b) = (b == c) := fun b => by unfold keyEq; simp [sg]
  unfold dicPut
  by_cases h : c ∈ a
  · rw [if_pos (by rw [List.any_eq_true]; exact ⟨dkv c, List.mem_map.mpr ⟨c, h, rfl⟩, by rw [hk]; simp⟩), if_pos h, List.map_map]
    refine List.map_congr_left fun b hb => ?_
    show (if keyEq (sg c) (dkv b) = true then ((dkv b).1, Dat.bl true) else dkv b) = dkv b
    split <;> rfl
  · rw [if_neg, if_neg h]
    · simp [dkv]
    · rw [List.any_eq_true]
      rintro ⟨p, hp, e⟩
      obtain ⟨b, hb, rfl⟩ := List.mem_map.mp hp
      rw [hk, beq_iff_eq] at e
      exact h (e ▸ hb)
theorem dk_len : ∀ (s a : List Nat), (dk s a).length ≤ s.length + a.length
  | [], a => by simp [dk]
  | c :: r, a => by
    have := dk_len r (if c ∈ a then a else a ++ [c])
    unfold dk at this ⊢
    simp only [List.foldl_cons, List.length_cons]
    split at this <;> rename_i h <;> simp only [h, if_true, if_false] <;> simp at this ⊢ <;> omega
theorem dk_nodup : ∀ (s a : List Nat), a.Nodup → (dk s a).Nodup
  | [], a, h => h
  | c :: r, a, h => by
    unfold dk
    simp only [List.foldl_cons]
    refine dk_nodup r _ ?_
    split
    · exact h
    · rename_i hc
      rw [List.nodup_append]
      exact ⟨h, by simp, fun x hx y hy => by rw [List.mem_singleton] at hy; subst hy; exact fun e => hc (e ▸ hx)⟩
theorem dk_self : ∀ (s a : List Nat), (a ++ s).Nodup → dk s a = a ++ s
  | [], a, h => by simp [dk]
  | c :: r, a, h => by
    have hc : c ∉ a := fun hm => (List.nodup_append.mp h).2.2 c hm c List.mem_cons_self rfl
    unfold dk
    simp only [List.foldl_cons, if_neg hc]
    have := dk_self r (a ++ [c]) (by simpa using h)
    unfold dk at this
    rw [this]
    simp
theorem sortable_sg (l : List Nat) : sortable (l.map sg) = true := by
  unfold sortable
  rw [Bool.and_eq_true, Bool.and_eq_true, Bool.or_eq_true, List.all_eq_true]
  refine ⟨⟨fun x hx => List.all_eq_true.mpr fun y hy => ?_, .inr (List.all_eq_true.mpr fun x hx => ?_)⟩, shpL_of fun x hx => ?_⟩
  · obtain ⟨a, _, rfl⟩ := List.mem_map.mp hx
    obtain ⟨b, _, rfl⟩ := List.mem_map.mp hy
    rfl
  · obtain ⟨a, _, rfl⟩ := List.mem_map.mp hx
    rfl
  · obtain ⟨a, _, rfl⟩ := List.mem_map.mp hx
    rfl
abbrev leN (a b : Nat) : Bool := decide (a ≤ b)
theorem sortL_sg (l : List Nat) : sortL (l.map sg) = (l.mergeSort leN).map sg := by
  unfold sortL
  symm
  refine List.map_mergeSort fun a _ b _ => ?_
  show decide (a ≤ b) = leT (.str [a]) (.str [b])
  unfold leT
  rw [ltT_str, Bool.eq_iff_iff, Bool.not_eq_true', decide_eq_true_iff, decide_eq_false_iff_not, List.cons_lt_cons_iff]
  simp
theorem eqvL_sg : ∀ s m : List Nat, eqvL (s.map sg) (m.map sg) = (s == m)
  | [], [] => rfl
  | [], _ :: _ => rfl
  | _ :: _, [] => rfl
  | a :: s, b :: m => by
    rw [List.map_cons, List.map_cons, eqvL, eqvL_sg s m]
    simp [sg]
theorem shpL_sg (l : List Nat) (n : Nat) : shpL n (l.map sg) = true := shpL_of fun x hx => by
  obtain ⟨a, _, rfl⟩ := List.mem_map.mp hx
  cases n <;> rfl
theorem eqD_sg (s m : List Nat) : eqD (.lst (s.map sg)) (.lst (m.map sg)) = .ok (.bl (s == m)) := by
  have h : ∀ l : List Nat, shp DEEP (.lst (l.map sg)) = true := fun l => by unfold DEEP shp; exact shpL_sg l 39
  unfold eqD
  rw [h, h]
  simp only [Bool.and_self, if_true]
  unfold eqv
  rw [eqvL_sg]
def asc (s : List Nat) : Bool := decide (s.Pairwise (· < ·))
theorem sorted_asc (s : List Nat) : (s == (dk s []).mergeSort leN) = asc s := by
  unfold asc
  rw [Bool.eq_iff_iff, beq_iff_eq, decide_eq_true_iff]
  constructor
  · intro e
    have h1 : ((dk s []).mergeSort leN).Pairwise (fun a b => leN a b = true) := List.pairwise_mergeSort (le := leN) (fun a b c h1 h2 => by simp only [leN, decide_eq_true_iff] at *; omega) (fun a b => by simp only [leN, Bool.or_eq_true, decide_eq_true_iff]; omega) _
    have h2 : ((dk s []).mergeSort leN).Nodup := (List.mergeSort_perm _ _).nodup_iff.mpr (dk_nodup s [] List.nodup_nil)
    rw [← e] at h1 h2
    have h3 := h1.and h2
    exact h3.imp fun {a b} h => by
      have := h.1
      simp only [leN, decide_eq_true_iff] at this
      have h4 := h.2
      omega
  · intro h
    have nd : s.Nodup := h.imp fun {a b} h => by omega
    rw [dk_self s [] (by simpa using nd), List.nil_append]
    exact (List.mergeSort_of_pairwise (h.imp fun {a b} h => by simp only [leN, decide_eq_true_iff]; omega)).symm
theorem startsAt_nat {x y : List Nat} {p : Nat} (h : p ≤ x.length) : startsAtD (.str x) (.str y) (.int p) = .ok (.bl (begins y (x.drop p))) := by
  show (if 0 ≤ (p : Int) then (if (p : Int) ≤ x.length then R.ok (Dat.bl (begins y (x.drop (p : Int).toNat))) else .ok (.bl false)) else .bad) = _
  rw [if_pos (by omega), if_pos (by omega), Int.toNat_natCast]
@[simp] theorem eM2_ap {f : Dat → Dat → Dat → R Dat} {a b c : EM} {ρ : Env} : eM2 f a b c ρ = (a ρ).bnd fun x => (isS x).bnd fun x => (b ρ).bnd fun y => (c ρ).bnd fun z => f x y z := rfl
theorem notIn_one {c : Nat} {ls : List Nat} : notInD (.str [c]) (.str ls) = .ok (.bl (!decide (c ∈ ls))) := by
  unfold notInD
  rw [inD_one]
  rfl
theorem shpT {n : Nat} {xs : List Dat} (h : shp (n + 1) (.tup xs) = true) : ∀ x ∈ xs, shp n x = true := fun x hx => shpL_to (by simpa [shp] using h) x hx
theorem shpL' {n : Nat} {xs : List Dat} (h : shp (n + 1) (.lst xs) = true) : ∀ x ∈ xs, shp n x = true := fun x hx => shpL_to (by simpa [shp] using h) x hx
theorem bb (x y : Bool) : (match Dat.bl x with
  | .bl true => R.ok (Dat.bl y)
  | .bl false => .ok (.bl false)
  | _ => .bad) = .ok (.bl (x && y)) := by cases x <;> rfl
theorem asc_iff (s : List Nat) : asc s = true ↔ ∀ k (h : k + 1 < s.length), s[k] < s[k + 1] := by
  unfold asc
  rw [decide_eq_true_iff]
  constructor
  · intro h k hk
    exact List.pairwise_iff_getElem.mp h k (k + 1) (by omega) hk (by omega)
  · intro h
    rw [List.pairwise_iff_getElem]
    intro i j hi hj hij
    induction j with
    | zero => omega
    | succ j ih =>
      have := h j hj
      by_cases e : i = j
      · subst e; exact this
      · have := ih (by omega) (by omega)
        omega
theorem idxN {l : List Nat} {k : Nat} (h : k < l.length) {z : Int} (e : z = (k : Int)) : idxD (nums l) (.int z) = .ok (.int (l[k] : Nat)) := by
  subst e
  exact idx_nums h
noncomputable def b_word : SM := (sSeq (sAsg (gV 5) (eC (.str [])))
    (sSeq (sFor (iR1 (e2 addD (eV 3) (e2 modD (e2 idxD (eV 0) (eV 1)) (e2 addD (e2 subD (eV 4) (eV 3)) (eC (.int 1)))))) (gV 6)
    (sAsg (gV 5) (e2 addD (eV 5) (e2 idxD (eV 2) (e2 modD (e2 idxD (eV 0) (e2 addD (e2 addD (eV 1) (eC (.int 1))) (eV 6))) (e1 lenD (eV 2)))))))
    (sRet (eV 5))))
theorem word_ok {dr : List Nat} (at0 least most : Nat) {signs : List Nat} (hs : signs ≠ []) (h1 : least ≤ most) (h2 : most ≤ 6) (h3 : at0 + 7 < dr.length) : ∃ w : List Nat, run 7 b_word [nums dr, .int at0, .str signs, .int least, .int most] = .ok (.str w) ∧ least ≤ w.length ∧ w.length ≤ most ∧ ∀ c ∈ w, c ∈ signs := by
  have hsl : 0 < signs.length := List.length_pos_iff.mpr hs
  have key : wp (b_word [some (nums dr), some (.int at0), some (.str signs), some (.int least), some (.int most), none, none]) fun f _ => ∃ w : List Nat, endR f = .ok (.str w) ∧ least ≤ w.length ∧ w.length ≤ most ∧ ∀ c ∈ w, c ∈ signs := by
    unfold b_word
    refine wp_seq ?_
    simp only [sAsg_ap, eC_ap, lft_ok, gV_succ, gV_zero, R.bnd_ok, gok_ok, wp_some, Nxt_nx]
    refine wp_seq ?_
    rw [sFor_ap]
    simp only [iR1_ap, e2_ap, eC_ap, eV_succ, eV_zero, R.bnd_ok, subD_int, addD_int]
    rw [idxN (k := at0) (by omega) rfl]
    simp only [R.bnd_ok]
    rw [show ((most : Int) - (least : Int) + 1) = ((most - least + 1 : Nat) : Int) by omega, modD_nat (by omega)]
    simp only [R.bnd_ok, addD_int]
    have hm : dr[at0]'(by omega) % (most - least + 1) < most - least + 1 := Nat.mod_lt _ (by omega)
    generalize dr[at0]'(by omega) % (most - least + 1) = m at hm
    rw [show ((least : Int) + (m : Int)) = ((least + m : Nat) : Int) by omega, rng1_nat (by omega)]
    simp only [lft_ok]
    refine wp_for (fun k ρ => ∃ (w : List Nat) (o : Option Dat), w.length = k ∧ (∀ c ∈ w, c ∈ signs) ∧ ρ = [some (nums dr), some (.int at0), some (.str signs), some (.int least), some (.int most), some (.str w), o]) ⟨[], none, rfl, fun _ h => absurd h (by simp), rfl⟩ (fun k d ρ hk ⟨w, o, hw, hm2, e⟩ => ?_) (fun ρ ⟨w, o, hw, hm2, e⟩ => ?_)
    · obtain ⟨hk2, rfl⟩ := range_get hk
      subst e
      refine ⟨_, by simp only [gV_succ, gV_zero, R.bnd_ok]; rfl, ?_⟩
      simp only [sAsg_ap, e1_ap, e2_ap, eC_ap, eV_succ, eV_zero, R.bnd_ok, addD_int, lenD_str]
      rw [idxN (k := at0 + 1 + k) (by omega) (by omega)]
      simp only [R.bnd_ok]
      rw [modD_nat hsl]
      simp only [R.bnd_ok]
      rw [idxD_str (Nat.mod_lt _ hsl)]
      simp only [R.bnd_ok]
      rw [addD_str (by simp; unfold LINE; omega)]
      simp only [lft_ok, gV_succ, gV_zero, R.bnd_ok, gok_ok, wp_some]
      refine ⟨.inl trivial, _, _, by simp; exact hw, fun c hc => ?_, rfl⟩
      rcases List.mem_append.mp hc with q | q
      · exact hm2 c q
      · rw [List.mem_singleton] at q
        subst q
        exact List.getElem_mem _
    · subst e
      rw [List.length_map, List.length_range] at hw
      simp only [Nxt_nx, sRet_ap, eV_succ, eV_zero, lft_ok, wp_some, endR_rt]
      exact ⟨w, rfl, by omega, by omega, hm2⟩
  obtain ⟨f, ρ, e, w, h⟩ := key
  exact ⟨w, run_at _ ⟨f, ρ, e, h.1⟩, h.2⟩
theorem repMem {α : Type} {n : Nat} {x : List α} {y : α} (h : y ∈ rep n x) : y ∈ x := by
  unfold rep at h
  obtain ⟨l, h1, h2⟩ := List.mem_flatten.mp h
  rw [List.eq_of_mem_replicate h1] at h2
  exact h2
theorem repLen {α : Type} (n : Nat) (x : List α) : (rep n x).length = x.length * n := by
  unfold rep
  rw [List.length_flatten, List.map_replicate, List.sum_replicate_nat, Nat.mul_comm]
theorem neD_refl {d : Dat} (h : shp DEEP d = true) : neD d d = .ok (.bl false) := by
  unfold neD
  rw [h]
  simp [eqv_refl d DEEP h]
noncomputable def b_numbers2 : SM := (sSeq (sNew 3 (eLst eNil))
    (sSeq (sIf (tE (e2 geD (eV 0) (e2 powD (eC (.int 10)) (eC (.int 18)))))
    (sSeq (sFor (iR1 (eV 1)) (gV 4)
    (sSeq (sApp 3 (e2 modD (e1 intD (eV 0)) (eV 2)))
    (sAsg (gV 0) (e2 fdivD (e1 intD (eV 0)) (eV 2)))))
    (sRet (eV 3)))
    sSkip)
    (sSeq (sFor (iR1 (eV 1)) (gV 4)
    (sSeq (sAsg (gV 5) (e2 modD (e1 intD (e2 addD (e2 addD (e2 mulD (eV 0) (eC (.int 48271))) (e2 mulD (eV 4) (eC (.int 69621)))) (eC (.int 7)))) (eC (.int 2147483647))))
    (sSeq (sAsg (gV 5) (e2 modD (e1 intD (e2 addD (e2 addD (e2 addD (e2 mulD (eV 5) (eV 5)) (e2 mulD (eV 5) (eC (.int 40692)))) (e2 mulD (eV 4) (eC (.int 16807)))) (eC (.int 11)))) (eC (.int 2147483399))))
    (sApp 3 (e2 modD (e1 intD (e2 fdivD (eV 5) (eC (.int 32)))) (eV 2))))))
    (sRet (eV 3)))))
theorem numbers2_ok (cell : Int) (count limit : Nat) (hc : count ≤ 1000000) (h0 : 0 < limit) (h1 : limit < 1073741824) : ∃ l : List Nat, run 6 b_numbers2 [.int cell, .int count, .int limit] = .ok (nums l) ∧ l.length = count ∧ ∀ x ∈ l, x < limit := by
  have key : wp (b_numbers2 [some (.int cell), some (.int count), some (.int limit), none, none, none]) fun f _ => ∃ l : List Nat, endR f = .ok (nums l) ∧ l.length = count ∧ ∀ x ∈ l, x < limit := by
    have push : ∀ (k : Nat) (l : List Nat) (v z : Int) (o o2 : Option Dat) (e : EM), l.length = k → k < count → (∀ x ∈ l, x < limit) → e [some (.int z), some (.int count), some (.int limit), some (nums l), o, o2] = .ok (.int (v % (limit : Int))) →
        ∃ l' : List Nat, sApp 3 e [some (.int z), some (.int count), some (.int limit), some (nums l), o, o2] = some (.nx, [some (.int z), some (.int count), some (.int limit), some (nums l'), o, o2]) ∧ l'.length = k + 1 ∧ ∀ x ∈ l', x < limit := by
      intro k l v z o o2 e hl hk hx he
      have hv0 := Int.emod_nonneg v (show (limit : Int) ≠ 0 by omega)
      have hv1 := Int.emod_lt_of_pos v (show (0 : Int) < limit by omega)
      refine ⟨l ++ [(v % (limit : Int)).toNat], ?_, by simp [hl], ?_⟩
      · rw [sApp_ap (xs := l.map fun x => .int (x : Nat)) (d := .int (v % (limit : Int))) (by simp) he (by simp; unfold LINE; omega)]
        simp [nums, Int.toNat_of_nonneg hv0]
      · intro x hxx
        rcases List.mem_append.mp hxx with h | h
        · exact hx x h
        · simp at h
          omega
    unfold b_numbers2
    refine wp_seq ?_
    rw [sNew_lst (xs := []) (by simp [LINE]) (by simp)]
    simp only [wp_some, Nxt_nx, List.set_cons_succ, List.set_cons_zero]
    refine wp_seq ?_
    simp only [sIf_ap, tE_ap, e2_ap, eV_zero, eV_succ, eC_ap, R.bnd_ok]
    rw [show powD (.int 10) (.int 18) = .ok (.int 1000000000000000000) from by rfl]
    simp only [R.bnd_ok, geD_int, tru_bl, lft_ok]
    split
    · refine wp_seq ?_
      rw [sFor_ap]
      simp only [iR1_ap, eV_succ, eV_zero, R.bnd_ok]
      rw [rng1_nat (by omega)]
      simp only [lft_ok]
      refine wp_for (fun k ρ => ∃ (l : List Nat) (z : Int) (o o2 : Option Dat), l.length = k ∧ (∀ x ∈ l, x < limit) ∧ ρ = [some (.int z), some (.int count), some (.int limit), some (nums l), o, o2]) ⟨[], cell, none, none, rfl, fun _ h => absurd h (by simp), rfl⟩ (fun k d ρ hk ⟨l, z, o, o2, w1, w2, e⟩ => ?_) (fun ρ ⟨l, z, o, o2, w1, w2, e⟩ => ?_)
      · obtain ⟨hk2, rfl⟩ := range_get hk
        subst e
        refine ⟨_, by simp only [gV_succ, gV_zero, R.bnd_ok]; rfl, ?_⟩
        refine wp_seq ?_
        obtain ⟨l', q1, q2, q3⟩ := push k l z z (some (.int k)) o2 (e2 modD (e1 intD (eV 0)) (eV 2)) w1 hk2 w2 (by simp [modD_int (show (0 : Int) < limit by omega)])
        rw [q1]
        simp only [wp_some, Nxt_nx, sAsg_ap, e2_ap, e1_ap, eV_zero, eV_succ, R.bnd_ok, intD_int, fdivD_int (show (0 : Int) < limit ∧ (limit : Int) < 1073741824 by omega), lft_ok, gV_succ, gV_zero, gok_ok]
        exact ⟨.inl trivial, l', _, _, _, q2, q3, rfl⟩
      · subst e
        rw [List.length_map, List.length_range] at w1
        simp only [Nxt_nx, sRet_ap, eV_zero, eV_succ, lft_ok, wp_some, Nxt_rt, endR_rt]
        exact ⟨l, rfl, w1, w2⟩
    · simp only [sSkip_ap, wp_some, Nxt_nx]
      refine wp_seq ?_
      rw [sFor_ap]
      simp only [iR1_ap, eV_succ, eV_zero, R.bnd_ok]
      rw [rng1_nat (by omega)]
      simp only [lft_ok]
      refine wp_for (fun k ρ => ∃ (l : List Nat) (o o2 : Option Dat), l.length = k ∧ (∀ x ∈ l, x < limit) ∧ ρ = [some (.int cell), some (.int count), some (.int limit), some (nums l), o, o2]) ⟨[], none, none, rfl, fun _ h => absurd h (by simp), rfl⟩ (fun k d ρ hk ⟨l, o, o2, w1, w2, e⟩ => ?_) (fun ρ ⟨l, o, o2, w1, w2, e⟩ => ?_)
      · obtain ⟨hk2, rfl⟩ := range_get hk
        subst e
        refine ⟨_, by simp only [gV_succ, gV_zero, R.bnd_ok]; rfl, ?_⟩
        refine wp_seq ?_
        simp only [sAsg_ap, e2_ap, e1_ap, eV_zero, eV_succ, eC_ap, R.bnd_ok, mulD_int (show small64 cell ∨ small64 48271 from .inr ⟨by omega, by omega⟩), mulD_int (show small64 (k : Int) ∨ small64 69621 from .inr ⟨by omega, by omega⟩), addD_int, intD_int, modD_int (show (0 : Int) < 2147483647 by omega), lft_ok, gV_succ, gV_zero, gok_ok, wp_some, Nxt_nx]
        refine wp_seq ?_
        generalize hm : (cell * 48271 + (k : Int) * 69621 + 7) % 2147483647 = mx
        have hm0 : 0 ≤ mx ∧ mx < 2147483647 := by rw [← hm]; exact ⟨Int.emod_nonneg _ (by omega), Int.emod_lt_of_pos _ (by omega)⟩
        simp only [sAsg_ap, e2_ap, e1_ap, eV_zero, eV_succ, eC_ap, R.bnd_ok, mulD_int (show small64 mx ∨ small64 mx from .inr ⟨by omega, by omega⟩), mulD_int (show small64 mx ∨ small64 40692 from .inr ⟨by omega, by omega⟩), mulD_int (show small64 (k : Int) ∨ small64 16807 from .inr ⟨by omega, by omega⟩), addD_int, intD_int, modD_int (show (0 : Int) < 2147483399 by omega), lft_ok, gV_succ, gV_zero, gok_ok, wp_some, Nxt_nx]
        generalize (mx * mx + mx * 40692 + (k : Int) * 16807 + 11) % 2147483399 = my
        obtain ⟨l', q1, q2, q3⟩ := push k l (my / 32) cell (some (.int k)) (some (.int my)) (e2 modD (e1 intD (e2 fdivD (eV 5) (eC (.int 32)))) (eV 2)) w1 hk2 w2 (by simp [modD_int (show (0 : Int) < limit by omega), fdivD_int (show (0 : Int) < 32 ∧ (32 : Int) < 1073741824 by omega)])
        rw [q1]
        exact wp_some.mpr ⟨.inl rfl, l', _, _, q2, q3, rfl⟩
      · subst e
        rw [List.length_map, List.length_range] at w1
        simp only [Nxt_nx, sRet_ap, eV_zero, eV_succ, lft_ok, wp_some, endR_rt]
        exact ⟨l, rfl, w1, w2⟩
  obtain ⟨f, ρ, e, l, h1, h2, h3⟩ := key
  exact ⟨l, run_at _ ⟨f, ρ, e, h1⟩, h2, h3⟩
/-- two rows without repetition and of the same signs, sorted -/
theorem sort_same {x y : List Nat} (hx : x.Nodup) (hy : y.Nodup) (h : ∀ c, c ∈ x ↔ c ∈ y) : x.mergeSort leN = y.mergeSort leN := by
  have tr : ∀ a b c, leN a b = true → leN b c = true → leN a c = true := fun a b c h1 h2 => by simp only [leN, decide_eq_true_iff] at *; omega
  have tt : ∀ a b, (leN a b || leN b a) = true := fun a b => by simp only [leN, Bool.or_eq_true, decide_eq_true_iff]; omega
  have p : x.Perm y := (List.perm_ext_iff_of_nodup hx hy).mpr h
  refine List.Perm.eq_of_pairwise (le := fun a b => leN a b = true) (fun a b _ _ h1 h2 => ?_) (List.pairwise_mergeSort tr tt x) (List.pairwise_mergeSort tr tt y) (((List.mergeSort_perm x leN).trans p).trans (List.mergeSort_perm y leN).symm)
  simp only [leN, decide_eq_true_iff] at h1 h2
  omega
theorem dk_mem : ∀ (s a : List Nat) (c : Nat), c ∈ dk s a ↔ c ∈ s ∨ c ∈ a
  | [], a, c => by simp [dk]
  | x :: r, a, c => by
    have ih := dk_mem r (if x ∈ a then a else a ++ [x]) c
    have e : dk (x :: r) a = dk r (if x ∈ a then a else a ++ [x]) := rfl
    rw [e, ih]
    by_cases h : x ∈ a
    · rw [if_pos h]
      constructor
      · rintro (q | q)
        · exact .inl (List.mem_cons_of_mem _ q)
        · exact .inr q
      · rintro (q | q)
        · rcases List.mem_cons.mp q with q | q
          · subst q; exact .inr h
          · exact .inl q
        · exact .inr q
    · rw [if_neg h]
      simp only [List.mem_append, List.mem_cons, List.not_mem_nil, or_false]
      constructor
      · rintro (q | q | q)
        · exact .inl (.inr q)
        · exact .inr q
        · exact .inl (.inl q)
      · rintro ((q | q) | q)
        · exact .inr (.inr q)
        · exact .inl q
        · exact .inr (.inl q)
/-- a text taken off a text -/
theorem begins_drop {x : List Nat} {t : List Nat} {p : Nat} (h : begins x (t.drop p) = true) : t.drop p = x ++ t.drop (p + x.length) := by
  rw [begins_take, beq_iff_eq] at h
  have := List.take_append_drop x.length (t.drop p)
  rw [h, List.drop_drop] at this
  exact this.symm
end PL

set_option maxRecDepth 100000
namespace PL
set_option autoImplicit false
abbrev dStrs (xs : List (List Nat)) : Dat := .lst (xs.map .str)
theorem any_str (c : List Nat) : ∀ xs : List (List Nat), (xs.map Dat.str).any (fun y => eqv y (.str c)) = decide (c ∈ xs)
  | [] => rfl
  | x :: r => by
    simp only [List.map_cons, List.any_cons, any_str c r, eqv_str]
    by_cases h : x = c
    · subst h; simp
    · simp [h, Ne.symm h]
theorem shpL_strs (xs : List (List Nat)) (n : Nat) : shpL n (xs.map .str) = true := shpL_of fun d hd => by
  obtain ⟨k, _, rfl⟩ := List.mem_map.mp hd
  cases n <;> rfl
theorem inD_strs (c : List Nat) (xs : List (List Nat)) : inD (.str c) (dStrs xs) = .ok (.bl (decide (c ∈ xs))) := by
  show (if (shp DEEP (.str c) && shpL DEEP (xs.map .str)) = true then R.ok (Dat.bl ((xs.map Dat.str).any fun y => eqv y (.str c))) else .bad) = _
  rw [if_pos (by rw [shpL_strs]; rfl), any_str]
theorem notInD_strs (c : List Nat) (xs : List (List Nat)) : notInD (.str c) (dStrs xs) = .ok (.bl (!decide (c ∈ xs))) := by
  unfold notInD
  rw [inD_strs]
  rfl
abbrev dNats (ks : List Nat) : Dat := .lst (ks.map fun k => .int (k : Nat))
theorem any_nat (c : Nat) : ∀ xs : List Nat, (xs.map fun k => Dat.int (k : Nat)).any (fun y => eqv y (.int (c : Nat))) = decide (c ∈ xs)
  | [] => rfl
  | x :: r => by
    simp only [List.map_cons, List.any_cons, any_nat c r, eqv_int]
    by_cases h : x = c
    · subst h; simp
    · have : ((x : Int) == (c : Int)) = false := by simp; omega
      rw [this]
      simp [Ne.symm h]
theorem shpL_nats (xs : List Nat) (n : Nat) : shpL n (xs.map fun k => Dat.int (k : Nat)) = true := shpL_of fun d hd => by
  obtain ⟨k, _, rfl⟩ := List.mem_map.mp hd
  cases n <;> rfl
theorem inD_nats (c : Nat) (xs : List Nat) : inD (.int (c : Nat)) (dNats xs) = .ok (.bl (decide (c ∈ xs))) := by
  show (if (shp DEEP (.int (c : Nat)) && shpL DEEP (xs.map fun k => Dat.int (k : Nat))) = true then R.ok (Dat.bl ((xs.map fun k => Dat.int (k : Nat)).any fun y => eqv y (.int (c : Nat)))) else .bad) = _
  rw [if_pos (by rw [shpL_nats]; rfl), any_nat]
theorem notInD_nats (c : Nat) (xs : List Nat) : notInD (.int (c : Nat)) (dNats xs) = .ok (.bl (!decide (c ∈ xs))) := by
  unfold notInD
  rw [inD_nats]
  rfl
theorem beqI (a b : Nat) : ((a : Int) == (b : Int)) = (a == b) := by
  by_cases h : a = b
  · subst h; simp
  · have : ((a : Int) == (b : Int)) = false := by simp; omega
    rw [this]
    simp [h]
theorem ltI (a b : Nat) : decide ((a : Int) < (b : Int)) = decide (a < b) := by
  by_cases h : a < b
  · rw [decide_eq_true h, decide_eq_true (by omega)]
  · rw [decide_eq_false h, decide_eq_false (by omega)]
theorem leI (a b : Nat) : decide ((a : Int) ≤ (b : Int)) = decide (a ≤ b) := by
  by_cases h : a ≤ b
  · rw [decide_eq_true h, decide_eq_true (by omega)]
  · rw [decide_eq_false h, decide_eq_false (by omega)]
theorem rng1_pred {n : Nat} (h : n < 2 ^ 62) : rng1 (.int ((n : Int) - 1)) = .ok ((List.range (n - 1)).map fun k => .int (k : Nat)) := by
  cases n with
  | zero => rfl
  | succ n => rw [show (((n + 1 : Nat) : Int) - 1) = (n : Int) by omega]; exact rng1_nat (by omega)
/-- what is made of neighbours -/
def adj {α β : Type} (f : α → α → β) : List α → List β
  | x :: y :: r => f x y :: adj f (y :: r)
  | _ => []
theorem adj_len {α β : Type} (f : α → α → β) : ∀ l : List α, (adj f l).length = l.length - 1
  | [] => rfl
  | [_] => rfl
  | x :: y :: r => by
    show (adj f (y :: r)).length + 1 = _
    rw [adj_len f (y :: r)]
    simp
theorem adj_get {α β : Type} (f : α → α → β) : ∀ (l : List α) (k : Nat) (h : k + 1 < l.length), (adj f l)[k]'(by rw [adj_len]; omega) = f (l[k]'(by omega)) l[k + 1]
  | [], k, h => by simp at h
  | [_], k, h => by simp at h
  | x :: y :: r, 0, h => rfl
  | x :: y :: r, k + 1, h => adj_get f (y :: r) k (by simpa using h)
theorem adj_range {α β : Type} (f : α → α → β) (D : β → Dat) (G : Nat → Dat) (l : List α) (h : ∀ k (hk : k + 1 < l.length), G k = D (f (l[k]'(by omega)) l[k + 1])) : (List.range (l.length - 1)).map G = (adj f l).map D := by
  refine List.ext_getElem (by simp [adj_len]) fun k h1 h2 => ?_
  simp only [List.length_map, List.length_range] at h1
  rw [List.getElem_map, List.getElem_map, adj_get f l k (by omega), List.getElem_range, h k (by omega)]
theorem intsOf_nat : ∀ l : List Nat, intsOf (l.map fun k => Dat.int (k : Nat)) = some (l.map fun k => ((k : Nat) : Int))
  | [] => rfl
  | b :: r => by
    show (intsOf (r.map fun k => Dat.int (k : Nat))).map ((b : Int) :: ·) = _
    rw [intsOf_nat r]
    rfl
theorem maxI_nat : ∀ (l : List Nat) (a : Nat), maxI (a : Int) (l.map fun k => ((k : Nat) : Int)) = ((l.foldl max a : Nat) : Int)
  | [], a => rfl
  | b :: r, a => by
    simp only [List.map_cons, maxI, List.foldl_cons]
    rw [show (if (b : Int) > (a : Int) then (b : Int) else (a : Int)) = ((max a b : Nat) : Int) by split <;> omega]
    exact maxI_nat r (max a b)
theorem maxD_nat (l : List Nat) (a : Nat) : maxD (.lst (.int (a : Nat) :: l.map fun k => .int (k : Nat))) = .ok (.int ((l.foldl max a : Nat) : Int)) := by
  show (match intsOf (.int (a : Nat) :: l.map fun k => Dat.int (k : Nat)) with | some (i :: r) => R.ok (Dat.int (maxI i r)) | _ => .bad) = _
  rw [show (Dat.int (a : Nat) :: l.map fun k => Dat.int (k : Nat)) = (a :: l).map fun k => Dat.int (k : Nat) from rfl, intsOf_nat]
  show R.ok (Dat.int (maxI (a : Int) (l.map fun k => ((k : Nat) : Int)))) = _
  rw [maxI_nat]
theorem max2_nat (a b : Nat) : max2 (.int (a : Nat)) (.int (b : Nat)) = .ok (.int ((max a b : Nat) : Int)) := by
  rw [max2_int]
  congr 2
  split <;> omega
theorem zT_get : ∀ {xs ys : List Dat} {k : Nat} {d : Dat}, (zipT xs ys)[k]? = some d → ∃ x y, xs[k]? = some x ∧ ys[k]? = some y ∧ d = .tup [x, y]
  | [], ys, k, d, h => by cases ys <;> simp [zipT] at h
  | x :: r, [], k, d, h => by simp [zipT] at h
  | x :: r, y :: t, 0, d, h => ⟨x, y, rfl, rfl, by simpa [zipT] using h.symm⟩
  | x :: r, y :: t, k + 1, d, h => by
    have : (zipT r t)[k]? = some d := by simpa [zipT] using h
    simpa using zT_get this
theorem zT_len : ∀ (xs ys : List Dat), (zipT xs ys).length = min xs.length ys.length
  | [], ys => by cases ys <;> simp [zipT]
  | x :: r, [] => by simp [zipT]
  | x :: r, y :: t => by simp [zipT, zT_len r t]
theorem eCompK_at {i : Nat} {own vs : List Nat} {g : GM} {t : TM} {e : EM} {ρ ρ2 : Env} {kvs : List (Dat × Dat)} {ys : List Dat} (h1 : eV i ρ = .ok (.dic kvs)) (h2 : (own.all (fun j => j != i) && ownNd own ρ) = true) (h3 : shutD ρ = ρ2) (h4 : compL g t e (wipe ρ2 vs) (kvs.map (·.1)) = .ok ys) (h5 : ys.length ≤ LINE) : eCompK i own vs g t e ρ = .ok (.lst ys) := by
  subst h3
  unfold eCompK
  rw [h1]
  simp only [h2, if_true]
  exact eComp_of rfl h4 h5
theorem nodicL_strs : ∀ xs : List (List Nat), nodicL (xs.map .str) = true
  | [] => by simp [nodicL]
  | x :: r => by simp [nodicL, nodic, nodicL_strs r]
theorem shut_yes {d : Dat} (h : nodic d = true) : shutO (some d) = some d := if_pos h
theorem shut_dic {kvs : List (Dat × Dat)} : shutO (some (.dic kvs)) = none := by
  have h : nodic (.dic kvs) = false := by simp [nodic]
  show (if nodic (.dic kvs) = true then some (Dat.dic kvs) else none) = none
  rw [h]
  rfl
end PL

set_option maxRecDepth 100000
namespace PL.K51
set_option autoImplicit false
/-! ### tables -/
structure It where
  l : List Nat
  r : List Nat
def dI (x : It) : Dat := .tup [.str x.l, .str x.r]
abbrev dT (ts : List It) : Dat := .lst (ts.map dI)
structure okI (x : It) : Prop where
  l1 : 1 ≤ x.l.length
  l6 : x.l.length ≤ 6
  r8 : x.r.length ≤ 8
structure okT (ts : List It) : Prop where
  n : ts.length ≤ 40
  all : ∀ x ∈ ts, okI x
theorem i_tab {ts : List It} {k : Nat} (h : k < ts.length) : idxD (dT ts) (.int k) = .ok (dI ts[k]) := by
  rw [idxD_lst (by simpa using h)]
  simp
theorem i_l (x : It) : idxD (dI x) (.int 0) = .ok (.str x.l) := idxD_tup (k := 0) (by simp)
theorem i_r (x : It) : idxD (dI x) (.int 1) = .ok (.str x.r) := idxD_tup (k := 1) (by simp)
/-! ### the longest left at a place -/
def fitK (ts : List It) (t : List Nat) (p k : Nat) : Bool := match ts[k]? with | some x => begins x.l (t.drop p) | none => false
def lenK (ts : List It) (k : Nat) : Nat := match ts[k]? with | some x => x.l.length | none => 0
theorem fitK_at {ts : List It} {t : List Nat} {p k : Nat} (h : k < ts.length) : fitK ts t p k = begins ts[k].l (t.drop p) := by
  unfold fitK
  rw [List.getElem?_eq_getElem h]
theorem lenK_at {ts : List It} {k : Nat} (h : k < ts.length) : lenK ts k = ts[k].l.length := by
  unfold lenK
  rw [List.getElem?_eq_getElem h]
/-- the better of the two -/
def bet (ts : List It) (b : Option Nat) (k : Nat) : Option Nat := match b with
  | none => some k
  | some j => if lenK ts j < lenK ts k then some k else some j
def fitL (ts : List It) (t : List Nat) (p n : Nat) : List Nat := (List.range n).filter (fitK ts t p)
def best (ts : List It) (t : List Nat) (p : Nat) : Option Nat := (fitL ts t p ts.length).foldl (bet ts) none
def dO : Option Nat → Dat
  | none => .non
  | some k => .int (k : Nat)
theorem bet_some (ts : List It) (b : Option Nat) (k : Nat) : ∃ j, bet ts b k = some j ∧ (j = k ∨ b = some j) := by
  unfold bet
  cases b with
  | none => exact ⟨k, rfl, .inl rfl⟩
  | some j =>
    simp only
    split
    · exact ⟨k, rfl, .inl rfl⟩
    · exact ⟨j, rfl, .inr rfl⟩
theorem fold_mem (ts : List It) : ∀ (l : List Nat) (b : Option Nat) (j : Nat), l.foldl (bet ts) b = some j → j ∈ l ∨ b = some j
  | [], b, j, h => .inr h
  | k :: r, b, j, h => by
    rcases fold_mem ts r (bet ts b k) j h with q | q
    · exact .inl (List.mem_cons_of_mem _ q)
    · obtain ⟨i, e, w⟩ := bet_some ts b k
      rw [e] at q
      cases q
      rcases w with w | w
      · subst w; exact .inl List.mem_cons_self
      · exact .inr w
theorem best_fit {ts : List It} {t : List Nat} {p k : Nat} (h : best ts t p = some k) : k < ts.length ∧ fitK ts t p k = true := by
  rcases fold_mem ts _ _ _ h with q | q
  · have := List.mem_filter.mp q
    exact ⟨List.mem_range.mp this.1, this.2⟩
  · cases q
theorem fitL_succ (ts : List It) (t : List Nat) (p n : Nat) : fitL ts t p (n + 1) = fitL ts t p n ++ (if fitK ts t p n = true then [n] else []) := by
  unfold fitL
  rw [List.range_succ, List.filter_append]
  congr 1
  by_cases h : fitK ts t p n = true
  · rw [if_pos h]; simp [h]
  · rw [if_neg h]; simp [h]
theorem longest_eq {ts : List It} (t : List Nat) {p : Nat} (hp : p ≤ t.length) : f_longest_at [dT ts, .str t, .int p] = .ok (dO (best ts t p)) := by
  refine run_at (s := b_longest_at) [some (dT ts), some (.str t), some (.int p), none, none, none] ?_
  unfold b_longest_at
  refine wp_seq ?_
  simp only [sAsg_ap, eC_ap, lft_ok, gV_succ, gV_zero, R.bnd_ok, gok_ok, wp_some, Nxt_nx]
  refine wp_seq ?_
  rw [sFor_ap]
  simp only [iEnum_ap, eV_zero, R.bnd_ok, enumD_lst, lft_ok]
  refine wp_for (fun k ρ => ∃ o o2, ρ = [some (dT ts), some (.str t), some (.int p), some (dO ((fitL ts t p k).foldl (bet ts) none)), o, o2]) ⟨none, none, rfl⟩ (fun k d ρ hk ⟨o, o2, e⟩ => ?_) (fun ρ ⟨o, o2, e⟩ => ?_)
  · obtain ⟨y, hy, rfl⟩ := enumR_get hk
    obtain ⟨hk2, rfl⟩ := map_get hy
    subst e
    refine ⟨[some (dT ts), some (.str t), some (.int p), some (dO ((fitL ts t p k).foldl (bet ts) none)), some (.int k), some (dI ts[k])], by simp, ?_⟩
    rw [fitL_succ, List.foldl_append, fitK_at hk2]
    have hmem : ∀ j, (fitL ts t p k).foldl (bet ts) none = some j → j < ts.length := fun j hj => by
      rcases fold_mem ts _ _ _ hj with q | q
      · have := List.mem_range.mp (List.mem_filter.mp q).1
        omega
      · cases q
    generalize (fitL ts t p k).foldl (bet ts) none = b at hmem
    simp only [sIf_ap, tAnd_ap, tOr_ap, tE_ap, eM2_ap, e1_ap, e2_ap, eC_ap, eV_succ, eV_zero, R.bnd_ok, isS_str, i_l, startsAt_nat hp, tru_bl]
    cases q : begins ts[k].l (t.drop p) with
    | false => simp
    | true =>
      simp only [if_true]
      cases b with
      | none => simp [dO, bet]
      | some j =>
        have hj := hmem j rfl
        simp only [dO, isN_int, R.bnd_ok, tru_bl, Bool.false_eq_true, if_false, i_l, lenD_str, i_tab hj, gtD_int, lft_ok]
        show wp (if decide (((ts[j].l.length : Nat) : Int) < ((ts[k].l.length : Nat) : Int)) = true then _ else _) _
        simp only [List.foldl_cons, List.foldl_nil]
        unfold bet
        simp only [lenK_at hj, lenK_at hk2]
        by_cases hlt : ts[j].l.length < ts[k].l.length
        · rw [if_pos (by rw [decide_eq_true_iff]; omega), if_pos hlt]
          simp [dO]
        · rw [if_neg (by rw [decide_eq_true_iff]; omega), if_neg hlt]
          simp [dO]
  · subst e
    rw [enumR_len, List.length_map]
    simp only [Nxt_nx, sRet_ap, eV_succ, eV_zero, lft_ok, wp_some, endR_rt]
    rfl
/-! ### parses -/
def par (ts : List It) (t : List Nat) : Nat → Nat → Option (List Nat)
  | 0, _ => some []
  | n + 1, p => if p < t.length then (match best ts t p with
    | none => none
    | some k => (par ts t n (p + max 1 (lenK ts k))).map (k :: ·)) else some []
theorem par_out {ts : List It} {t : List Nat} {n p : Nat} (h : t.length ≤ p) : par ts t n p = some [] := by
  cases n with
  | zero => rfl
  | succ n => unfold par; rw [if_neg (by omega)]
theorem par_fuel {ts : List It} {t : List Nat} : ∀ (n m p : Nat), t.length - p ≤ n → t.length - p ≤ m → par ts t n p = par ts t m p
  | 0, m, p, h1, h2 => by rw [par_out (n := m) (by omega)]; rfl
  | n + 1, 0, p, h1, h2 => by rw [par_out (n := n + 1) (by omega)]; rfl
  | n + 1, m + 1, p, h1, h2 => by
    unfold par
    by_cases h : p < t.length
    · rw [if_pos h, if_pos h]
      cases q : best ts t p with
      | none => rfl
      | some k => simp only; rw [par_fuel n m _ (by omega) (by omega)]
    · rw [if_neg h, if_neg h]
def parF (ts : List It) (t : List Nat) : Option (List Nat) := par ts t t.length 0
theorem par_len {ts : List It} {t : List Nat} : ∀ (n p : Nat) (ks : List Nat), par ts t n p = some ks → ks.length ≤ n
  | 0, p, ks, h => by cases h; simp
  | n + 1, p, ks, h => by
    unfold par at h
    split at h
    · split at h
      · cases h
      · rename_i k q
        obtain ⟨r, h1, h2⟩ := Option.map_eq_some_iff.mp h
        have := par_len n _ r h1
        subst h2
        simp
        omega
    · cases h; simp
theorem par_mem {ts : List It} {t : List Nat} : ∀ (n p : Nat) (ks : List Nat), par ts t n p = some ks → ∀ k ∈ ks, k < ts.length
  | 0, p, ks, h, k, hk => by cases h; cases hk
  | n + 1, p, ks, h, k, hk => by
    unfold par at h
    split at h
    · split at h
      · cases h
      · rename_i k' q
        obtain ⟨r, h1, h2⟩ := Option.map_eq_some_iff.mp h
        subst h2
        rcases List.mem_cons.mp hk with e | e
        · subst e; exact (best_fit q).1
        · exact par_mem n _ r h1 k e
    · cases h; cases hk
/-- one step of a parse -/
theorem par_step {ts : List It} (ok : okT ts) {t : List Nat} {p k : Nat} (hp : p < t.length) (hb : best ts t p = some k) (f : List Nat) :
    (par ts t (t.length - p) p).map (f ++ ·) = (par ts t (t.length - (p + lenK ts k)) (p + lenK ts k)).map ((f ++ [k]) ++ ·) ∧ 1 ≤ lenK ts k := by
  have hk := (best_fit hb).1
  have h1 : 1 ≤ lenK ts k := by rw [lenK_at hk]; exact (ok.all _ (List.getElem_mem hk)).l1
  refine ⟨?_, h1⟩
  rw [show t.length - p = (t.length - p - 1) + 1 by omega]
  conv => lhs; unfold par
  rw [if_pos hp, hb]
  simp only
  rw [show max 1 (lenK ts k) = lenK ts k by omega, par_fuel (t.length - p - 1) (t.length - (p + lenK ts k)) _ (by omega) (by omega), Option.map_map]
  congr 1
  funext x
  simp
theorem par_stop {ts : List It} {t : List Nat} {p : Nat} (hp : p < t.length) (hb : best ts t p = none) : par ts t (t.length - p) p = none := by
  rw [show t.length - p = (t.length - p - 1) + 1 by omega]
  unfold par
  rw [if_pos hp, hb]
abbrev dInts (ks : List Nat) : Dat := .lst (ks.map fun k => .int (k : Nat))
def rP : Option (List Nat) → R Dat
  | some ks => .ok (dInts ks)
  | none => .exc 1
theorem parse_eq {ts : List It} (ok : okT ts) (t : List Nat) (ht : t.length ≤ 1000) : f_parse [dT ts, .str t] = rP (parF ts t) := by
  refine run_at (s := b_parse) [some (dT ts), some (.str t), none, none, none] ?_
  unfold b_parse
  refine wp_seq ?_
  rw [sNew_lst (xs := []) (by simp [LINE]) (by simp)]
  simp only [wp_some, Nxt_nx, List.set_cons_succ, List.set_cons_zero]
  refine wp_seq ?_
  simp only [sAsg_ap, eC_ap, lft_ok, gV_succ, gV_zero, R.bnd_ok, gok_ok, wp_some, Nxt_nx]
  refine wp_seq ?_
  refine wp_whl (fun n ρ => ∃ (f : List Nat) (p : Nat) (o : Option Dat), n = t.length - p ∧ (par ts t (t.length - p) p).map (f ++ ·) = parF ts t ∧ f.length ≤ p ∧ ρ = [some (dT ts), some (.str t), some (dInts f), some (.int (p : Nat)), o]) (fun n ρ ⟨f, p, o, hn, hf, hl, e⟩ => ?_) (n := t.length) ⟨[], 0, none, rfl, by simp [parF], Nat.le_refl _, rfl⟩
  subst e
  refine ⟨decide ((p : Int) < t.length), by simp, fun h => ?_, fun h => ?_⟩
  · have hp : p < t.length := by rw [decide_eq_true_iff] at h; omega
    refine wp_seq ?_
    simp only [sAsg_ap, eCall_ap, eCons_ap, eNil_ap, eV_succ, eV_zero, R.bnd_ok, longest_eq t (Nat.le_of_lt hp), lft_ok, gV_succ, gV_zero, gok_ok, wp_some, Nxt_nx]
    cases q : best ts t p with
    | none =>
      rw [par_stop hp q] at hf
      refine wp_seq ?_
      simp only [dO, sIf_ap, tE_ap, e1_ap, eV_succ, eV_zero, R.bnd_ok, isN_non, tru_bl, lft_ok, if_true, sRaise_ap, wp_some, Nxt_ex, Lp_ex, endR_ex]
      rw [← hf]
      rfl
    | some k =>
      have hk := (best_fit q).1
      obtain ⟨hs, h1⟩ := par_step ok hp q f
      rw [hs] at hf
      refine wp_seq ?_
      simp only [dO, sIf_ap, tE_ap, e1_ap, eV_succ, eV_zero, R.bnd_ok, isN_int, tru_bl, lft_ok, Bool.false_eq_true, if_false, sSkip_ap, wp_some, Nxt_nx]
      refine wp_seq ?_
      rw [sApp_ap (xs := f.map fun k => .int (k : Nat)) (d := .int (k : Nat)) (by simp) (by simp) (by rw [List.length_map]; unfold LINE; omega)]
      simp only [wp_some, Nxt_nx, List.set_cons_succ, List.set_cons_zero]
      simp only [sAug_ap, e1_ap, e2_ap, eV_succ, eV_zero, eC_ap, R.bnd_ok, i_tab hk, i_l, lenD_str, addF_int, lft_ok, gV_succ, gV_zero, gok_ok, wp_some, Lp_nx]
      rw [← lenK_at hk]
      exact ⟨t.length - (p + lenK ts k), by omega, f ++ [k], p + lenK ts k, some (.int (k : Nat)), rfl, hf, by simp; omega, by simp⟩
  · have hp : t.length ≤ p := by rw [decide_eq_false_iff_not] at h; omega
    rw [par_out hp] at hf
    have hf : some f = parF ts t := by simpa using hf
    simp only [Nxt_nx, sRet_ap, eV_succ, eV_zero, lft_ok, wp_some, endR_rt]
    rw [← hf]
    rfl
def dP : Option (List Nat) → Dat
  | some ks => dInts ks
  | none => .non
end PL.K51

set_option maxRecDepth 100000
namespace PL.K51
set_option autoImplicit false
/-! ### told, asked -/
def outF (ts : List It) (ks : List Nat) : List Nat := (ks.map fun k => match ts[k]? with | some x => x.r | none => []).flatten
def leftF (ts : List It) (ks : List Nat) : List Nat := (ks.map fun k => match ts[k]? with | some x => x.l | none => []).flatten
theorem sum_le {α : Type} (F : α → List Nat) (m : Nat) : ∀ ks : List α, (∀ k ∈ ks, (F k).length ≤ m) → ((ks.map F).map (fun z : List Nat => z.length)).sum ≤ m * ks.length
  | [], _ => by simp
  | k :: r, h => by
    have h1 := h k List.mem_cons_self
    have h2 := sum_le F m r fun k hk => h k (List.mem_cons_of_mem _ hk)
    simp only [List.map_cons, List.sum_cons, List.length_cons]
    rw [Nat.mul_add, Nat.mul_one]
    omega
theorem join_eq {ts : List It} {ks : List Nat} (F : Nat → List Nat) (hF : ∀ k ∈ ks, (F k).length ≤ 8) (hl : ks.length ≤ 1000) : joinD (.str []) (.lst (ks.map fun k => .str (F k))) = .ok (.str ((ks.map F).flatten)) := by
  have e : (ks.map fun k => Dat.str (F k)) = (ks.map F).map .str := by rw [List.map_map]; rfl
  have := sum_le F 8 ks hF
  rw [e, joinD_lst, joinS_nil]
  simp only [List.length_map, List.length_nil, Nat.mul_zero, Nat.add_zero]
  unfold LINE
  omega
/-- the rights, the lefts of a row of numbers -/
theorem rights_comp {ts : List It} (ok : okT ts) {ks : List Nat} (hk : ∀ k ∈ ks, k < ts.length) (hl : ks.length ≤ 1000) (ρ : Env) {src : EM} {g : GM} {vs : List Nat} (hsrc : src ρ = .ok (dInts ks)) (E : Dat → Env) (hg : ∀ d, g d (wipe ρ vs) = .ok (E d)) (c : EM)
    (hc : ∀ k, k < ts.length → c (E (.int (k : Nat))) = .ok (.str (match ts[k]? with | some x => x.r | none => []))) : (eM1 joinD (eC (.str [])) (eComp (iOf src) vs g tYes c)) ρ = .ok (.str (outF ts ks)) := by
  simp only [eM1_ap, eC_ap, R.bnd_ok, isS_str]
  rw [eComp_of (ds := ks.map fun k => .int (k : Nat)) (ys := ks.map fun k => .str (match ts[k]? with | some x => x.r | none => [])) (by rw [iOf_ap, hsrc]; rfl) (compL_map (fun k : Nat => Dat.int (k : Nat)) (fun k => .str (match ts[k]? with | some x => x.r | none => [])) fun k hkk => ⟨E (.int (k : Nat)), hg _, rfl, hkk, hc k (hk k hkk)⟩) (by rw [List.length_map]; unfold LINE; omega)]
  simp only [R.bnd_ok]
  exact join_eq (ts := ts) _ (fun k hkk => by
    have := hk k hkk
    rw [List.getElem?_eq_getElem this]
    exact (ok.all _ (List.getElem_mem this)).r8) hl
theorem lefts_comp {ts : List It} (ok : okT ts) {ks : List Nat} (hk : ∀ k ∈ ks, k < ts.length) (hl : ks.length ≤ 1000) (ρ : Env) {src : EM} {g : GM} {t : TM} {vs : List Nat} (hsrc : src ρ = .ok (dInts ks)) (E : Dat → Env) (hg : ∀ d, g d (wipe ρ vs) = .ok (E d)) (ht : ∀ d, t (E d) = .ok true) (c : EM)
    (hc : ∀ k, k < ts.length → c (E (.int (k : Nat))) = .ok (.str (match ts[k]? with | some x => x.l | none => []))) : (eM1 joinD (eC (.str [])) (eComp (iOf src) vs g t c)) ρ = .ok (.str (leftF ts ks)) := by
  simp only [eM1_ap, eC_ap, R.bnd_ok, isS_str]
  rw [eComp_of (ds := ks.map fun k => .int (k : Nat)) (ys := ks.map fun k => .str (match ts[k]? with | some x => x.l | none => [])) (by rw [iOf_ap, hsrc]; rfl) (compL_map (fun k : Nat => Dat.int (k : Nat)) (fun k => .str (match ts[k]? with | some x => x.l | none => [])) fun k hkk => ⟨E (.int (k : Nat)), hg _, ht _, hkk, hc k (hk k hkk)⟩) (by rw [List.length_map]; unfold LINE; omega)]
  simp only [R.bnd_ok]
  exact join_eq (ts := ts) _ (fun k hkk => by
    have := hk k hkk
    rw [List.getElem?_eq_getElem this]
    have := (ok.all _ (List.getElem_mem this)).l6
    show (ts[k]).l.length ≤ 8
    omega) hl
theorem i2_r {ts : List It} {k : Nat} (h : k < ts.length) : ((idxD (dT ts) (.int (k : Nat))).bnd fun x => idxD x (.int 1)) = .ok (.str (match ts[k]? with | some x => x.r | none => [])) := by
  rw [i_tab h, List.getElem?_eq_getElem h]
  simp only [R.bnd_ok, i_r]
theorem i2_l {ts : List It} {k : Nat} (h : k < ts.length) : ((idxD (dT ts) (.int (k : Nat))).bnd fun x => idxD x (.int 0)) = .ok (.str (match ts[k]? with | some x => x.l | none => [])) := by
  rw [i_tab h, List.getElem?_eq_getElem h]
  simp only [R.bnd_ok, i_l]
theorem parF_len {ts : List It} {t ks : List Nat} (h : parF ts t = some ks) : ks.length ≤ t.length := par_len _ _ _ h
theorem parF_mem {ts : List It} {t ks : List Nat} (h : parF ts t = some ks) : ∀ k ∈ ks, k < ts.length := par_mem _ _ _ h
theorem told_eq {ts : List It} (ok : okT ts) (t : List Nat) (ht : t.length ≤ 1000) : f_told [dT ts, .str t] = match parF ts t with | some ks => .ok (.str (outF ts ks)) | none => .exc 1 := by
  refine run_at (s := b_told) [some (dT ts), some (.str t), none] ?_
  unfold b_told
  simp only [sRet_ap]
  have hp := parse_eq ok t ht
  cases q : parF ts t with
  | none =>
    rw [q] at hp
    simp only [eM1_ap, eC_ap, R.bnd_ok, isS_str, eComp, iOf_ap, eCall_ap, eCons_ap, eNil_ap, eV_succ, eV_zero, hp, rP, R.bnd_exc, lft_exc, wp_some, endR_ex]
  | some ks =>
    rw [q] at hp
    have hl := parF_len q
    rw [rights_comp ok (parF_mem q) (by omega) _ (src := eCall f_parse (eCons (eV 0) (eCons (eV 1) eNil))) (by simp only [eCall_ap, eCons_ap, eNil_ap, eV_succ, eV_zero, R.bnd_ok, hp, rP]) (fun d => [some (dT ts), some (.str t), some d]) (fun d => by simp [wipe]) _ (fun k hk => by simp only [e2_ap, eC_ap, eV_succ, eV_zero, R.bnd_ok]; exact i2_r hk)]
    simp
end PL.K51

set_option maxRecDepth 100000
namespace PL.K51
set_option autoImplicit false
/-! ### digits -/
def TOP : Nat := 10 ^ 60
/-- the place of a sign -/
def ixn (fs : List Nat) (c : Nat) : Nat := (fs.findIdx? (· == c)).getD 0
def allF (fs t : List Nat) : Bool := t.all fun c => decide (c ∈ fs)
def val (fs t : List Nat) (first v : Nat) : Nat := t.foldl (fun v c => v * fs.length + ixn fs c + first) v
theorem ix_some {fs : List Nat} {c : Nat} (h : c ∈ fs) : ∃ k, fs.findIdx? (· == c) = some k ∧ ∃ hk : k < fs.length, fs[k] = c := by
  cases q : fs.findIdx? (· == c) with
  | none =>
    rw [List.findIdx?_eq_none_iff] at q
    have := q c h
    simp at this
  | some k =>
    obtain ⟨hk, h1, _⟩ := List.findIdx?_eq_some_iff_getElem.mp q
    exact ⟨k, rfl, hk, by simpa using h1⟩
theorem ix_at {fs : List Nat} {c : Nat} (h : c ∈ fs) : ∃ hk : ixn fs c < fs.length, fs[ixn fs c] = c := by
  obtain ⟨k, e, hk, h2⟩ := ix_some h
  unfold ixn
  rw [e]
  exact ⟨hk, h2⟩
theorem nd_inj {l : List Nat} (h : l.Nodup) {i j : Nat} (hi : i < l.length) (hj : j < l.length) (e : l[i] = l[j]) : i = j := by
  rcases Nat.lt_trichotomy i j with q | q | q
  · exact absurd e (List.pairwise_iff_getElem.mp h i j hi hj q)
  · exact q
  · exact absurd e.symm (List.pairwise_iff_getElem.mp h j i hj hi q)
theorem ix_nd {fs : List Nat} (nd : fs.Nodup) {k : Nat} (hk : k < fs.length) : ixn fs fs[k] = k := by
  obtain ⟨h1, h2⟩ := ix_at (List.getElem_mem hk)
  exact nd_inj nd h1 hk h2
/-- digits, the greatest first -/
def dig (b : Nat) : Nat → Nat → List Nat
  | 0, _ => []
  | f + 1, n => if n = 0 then [] else dig b f (n / b) ++ [n % b]
theorem dig_zero (b f : Nat) : dig b f 0 = [] := by cases f <;> rfl
theorem dig_lt {b : Nat} (hb : 0 < b) : ∀ (f n : Nat), ∀ k ∈ dig b f n, k < b
  | 0, n, k, h => by cases h
  | f + 1, n, k, h => by
    unfold dig at h
    split at h
    · cases h
    · rcases List.mem_append.mp h with q | q
      · exact dig_lt hb f _ k q
      · rw [List.mem_singleton] at q
        subst q
        exact Nat.mod_lt _ hb
theorem dig_fuel {b : Nat} (hb : 2 ≤ b) : ∀ (f g n : Nat), n < 2 ^ f → n < 2 ^ g → dig b f n = dig b g n
  | 0, g, n, h1, h2 => by
    have : n = 0 := by simpa using h1
    subst this
    rw [dig_zero, dig_zero]
  | f + 1, 0, n, h1, h2 => by
    have : n = 0 := by simpa using h2
    subst this
    rw [dig_zero, dig_zero]
  | f + 1, g + 1, n, h1, h2 => by
    unfold dig
    by_cases h : n = 0
    · rw [if_pos h, if_pos h]
    · rw [if_neg h, if_neg h]
      have e1 : n / b ≤ n / 2 := Nat.div_le_div_left hb (by decide)
      have h3 : n / 2 < 2 ^ f := by rw [Nat.pow_succ] at h1; omega
      have h4 : n / 2 < 2 ^ g := by rw [Nat.pow_succ] at h2; omega
      rw [dig_fuel hb f g (n / b) (by omega) (by omega)]
def FU : Nat := 210
def digs (b n : Nat) : List Nat := dig b FU n
theorem digs_step {b n : Nat} (hb : 2 ≤ b) (h : 0 < n) (hn : n < 2 ^ 209) : digs b n = digs b (n / b) ++ [n % b] := by
  have e1 : n / b ≤ n / 2 := Nat.div_le_div_left hb (by decide)
  unfold digs
  rw [show FU = 209 + 1 from rfl]
  conv => lhs; unfold dig
  rw [if_neg (by omega)]
  rw [dig_fuel hb 209 (209 + 1) (n / b) (by omega) (by omega)]
theorem dig_len (b : Nat) : ∀ (f n : Nat), (dig b f n).length ≤ f
  | 0, n => Nat.le_refl _
  | f + 1, n => by
    unfold dig
    split
    · simp
    · have := dig_len b f (n / b)
      simp
      omega
/-- the number of a row of digits -/
def vd (b first : Nat) (ks : List Nat) (v : Nat) : Nat := ks.foldl (fun v k => v * b + k + first) v
theorem vd_app (b first : Nat) (ks ms : List Nat) (v : Nat) : vd b first (ks ++ ms) v = vd b first ms (vd b first ks v) := List.foldl_append
theorem vd_dig {b : Nat} (hb : 2 ≤ b) : ∀ (f n : Nat), n < 2 ^ f → vd b 0 (dig b f n) 0 = n
  | 0, n, h => by
    have : n = 0 := by simpa using h
    subst this
    rfl
  | f + 1, n, h => by
    unfold dig
    by_cases h0 : n = 0
    · rw [if_pos h0, h0]; rfl
    · rw [if_neg h0, vd_app]
      have e1 : n / b ≤ n / 2 := Nat.div_le_div_left hb (by decide)
      rw [vd_dig hb f (n / b) (by rw [Nat.pow_succ] at h; omega)]
      show n / b * b + n % b + 0 = n
      rw [Nat.add_zero, Nat.mul_comm]
      exact Nat.div_add_mod n b
theorem dig_head {b : Nat} (hb : 2 ≤ b) : ∀ (f n : Nat), n < 2 ^ f → 0 < n → ∃ k r, dig b f n = k :: r ∧ 0 < k
  | 0, n, h, h0 => by
    have : n = 0 := by simpa using h
    omega
  | f + 1, n, h, h0 => by
    unfold dig
    rw [if_neg (by omega)]
    have e1 : n / b ≤ n / 2 := Nat.div_le_div_left hb (by decide)
    by_cases hq : n / b = 0
    · rw [hq, dig_zero]
      refine ⟨n % b, [], rfl, ?_⟩
      have : n < b := by
        rcases Nat.div_eq_zero_iff.mp hq with z | z
        · omega
        · exact z
      rw [Nat.mod_eq_of_lt this]
      exact h0
    · obtain ⟨k, r, e, hk⟩ := dig_head hb f (n / b) (by rw [Nat.pow_succ] at h; omega) (Nat.pos_of_ne_zero hq)
      exact ⟨k, r ++ [n % b], by rw [e]; rfl, hk⟩
/-- digits come back -/
theorem vd_pos {b : Nat} (hb : 2 ≤ b) (ks : List Nat) (v : Nat) (h : 0 < v) : v < 2 ^ 0 ∨ 0 < vd b 0 ks v := by
  right
  induction ks generalizing v with
  | nil => exact h
  | cons k r ih =>
    refine ih (v * b + k + 0) ?_
    have : 0 < v * b := Nat.mul_pos h (by omega)
    omega
theorem dig_vd {b : Nat} (hb : 2 ≤ b) : ∀ (n : Nat) (ks : List Nat), ks.length = n → (∀ k ∈ ks, k < b) → (∀ k r, ks = k :: r → 0 < k) → ∀ f, vd b 0 ks 0 < 2 ^ f → dig b f (vd b 0 ks 0) = ks := by
  intro n
  induction n with
  | zero =>
    intro ks hl _ _ f _
    have : ks = [] := List.eq_nil_of_length_eq_zero hl
    subst this
    exact dig_zero b f
  | succ n ih =>
    intro ks hl hk h0 f hf
    have hne : ks ≠ [] := fun e => by rw [e] at hl; simp at hl
    obtain ⟨ms, m, rfl⟩ : ∃ ms m, ks = ms ++ [m] := ⟨ks.dropLast, ks.getLast hne, (List.dropLast_concat_getLast hne).symm⟩
    have hml : ms.length = n := by simpa using hl
    have hm : m < b := hk m (by simp)
    have hms : ∀ k ∈ ms, k < b := fun k q => hk k (List.mem_append_left _ q)
    have hms0 : ∀ k r, ms = k :: r → 0 < k := fun k r e => h0 k (r ++ [m]) (by rw [e]; rfl)
    have ev : vd b 0 (ms ++ [m]) 0 = vd b 0 ms 0 * b + m := by rw [vd_app]; rfl
    have hpos : 0 < vd b 0 (ms ++ [m]) 0 := by
      cases ms with
      | nil =>
        have := h0 m [] rfl
        rw [ev]
        omega
      | cons k r =>
        have hk0 := h0 k (r ++ [m]) rfl
        have : 0 < vd b 0 (k :: r) 0 := by
          show 0 < vd b 0 r (0 * b + k + 0)
          rcases vd_pos hb r (0 * b + k + 0) (by omega) with z | z
          · omega
          · exact z
        have : 0 < vd b 0 (k :: r) 0 * b := Nat.mul_pos this (by omega)
        rw [ev]
        omega
    cases f with
    | zero => simp at hf; omega
    | succ f =>
      have hdiv : (vd b 0 ms 0 * b + m) / b = vd b 0 ms 0 := by
        rw [Nat.mul_comm, Nat.mul_add_div (by omega), Nat.div_eq_of_lt hm]
        rfl
      have hmod : (vd b 0 ms 0 * b + m) % b = m := by
        rw [Nat.mul_comm, Nat.mul_add_mod, Nat.mod_eq_of_lt hm]
      have e1 : vd b 0 ms 0 ≤ (vd b 0 ms 0 * b + m) / 2 := by
        conv => lhs; rw [← hdiv]
        exact Nat.div_le_div_left hb (by decide)
      conv => lhs; unfold dig
      rw [if_neg (by omega), ev, hdiv, hmod, ih ms hml hms hms0 f (by rw [ev, Nat.pow_succ] at hf; omega)]
/-- a number as it is written -/
def wrd (fs : List Nat) (n : Nat) : List Nat := if n = 0 then [fs.getD 0 0] else (digs fs.length n).map fun k => fs.getD k 0
structure okF (fs : List Nat) : Prop where
  n2 : 2 ≤ fs.length
  n40 : fs.length ≤ 40
  nd : fs.Nodup
theorem getD_at {fs : List Nat} {k : Nat} (h : k < fs.length) : fs.getD k 0 = fs[k] := by
  rw [List.getD_eq_getElem?_getD, List.getElem?_eq_getElem h]
  rfl
theorem val_vd (fs t : List Nat) (first v : Nat) : val fs t first v = vd fs.length first (t.map (ixn fs)) v := by
  unfold val vd
  rw [List.foldl_map]
theorem ix_map {fs : List Nat} (ok : okF fs) {ks : List Nat} (h : ∀ k ∈ ks, k < fs.length) : (ks.map fun k => fs.getD k 0).map (ixn fs) = ks := by
  rw [List.map_map]
  conv => rhs; rw [← List.map_id ks]
  refine List.map_congr_left fun k hk => ?_
  show ixn fs (fs.getD k 0) = k
  rw [getD_at (h k hk), ix_nd ok.nd (h k hk)]
theorem map_ix {fs : List Nat} {t : List Nat} (h : allF fs t = true) : (t.map (ixn fs)).map (fun k => fs.getD k 0) = t := by
  rw [List.map_map]
  conv => rhs; rw [← List.map_id t]
  refine List.map_congr_left fun c hc => ?_
  have := List.all_eq_true.mp h c hc
  rw [decide_eq_true_iff] at this
  obtain ⟨h1, h2⟩ := ix_at this
  show fs.getD (ixn fs c) 0 = c
  rw [getD_at h1, h2]
theorem val_wrd {fs : List Nat} (ok : okF fs) {n : Nat} (hn : n < 2 ^ 209) : val fs (wrd fs n) 0 0 = n := by
  have h2 := ok.n2
  unfold wrd
  by_cases h : n = 0
  · rw [if_pos h, getD_at (by omega)]
    show 0 * fs.length + ixn fs fs[0] + 0 = n
    rw [ix_nd ok.nd (by omega)]
    omega
  · rw [if_neg h, val_vd, ix_map ok (ks := digs fs.length n) (dig_lt (by omega) _ _)]
    exact vd_dig h2 FU n (by unfold FU; omega)
/-- is a row of figures a number -/
def isW (fs t : List Nat) : Bool := !(t == []) && (t == [fs.getD 0 0] || !(t.headD 0 == fs.getD 0 0)) && decide (val fs t 0 0 ≤ TOP)
theorem top_lt : TOP < 2 ^ 209 := by decide
theorem wrd_ne {fs : List Nat} (ok : okF fs) {n : Nat} (hn : n < 2 ^ 209) : wrd fs n ≠ [] := by
  unfold wrd
  by_cases h : n = 0
  · rw [if_pos h]; simp
  · rw [if_neg h]
    obtain ⟨k, r, e, _⟩ := dig_head ok.n2 FU n (by unfold FU; omega) (by omega)
    unfold digs
    rw [e]
    simp
theorem wrd_all {fs : List Nat} (ok : okF fs) (n : Nat) : allF fs (wrd fs n) = true := by
  have h2 := ok.n2
  unfold wrd allF
  rw [List.all_eq_true]
  intro c hc
  rw [decide_eq_true_iff]
  split at hc
  · rw [List.mem_singleton] at hc
    subst hc
    rw [getD_at (show 0 < fs.length by omega)]
    exact List.getElem_mem _
  · obtain ⟨k, hk, rfl⟩ := List.mem_map.mp hc
    have := dig_lt (by omega) _ _ k hk
    rw [getD_at this]
    exact List.getElem_mem _
theorem isW_wrd {fs : List Nat} (ok : okF fs) {n : Nat} (hn : n ≤ TOP) : isW fs (wrd fs n) = true := by
  have ht := top_lt
  have hn2 : n < 2 ^ 209 := Nat.lt_of_le_of_lt hn ht
  have h2 := ok.n2
  unfold isW
  rw [val_wrd ok hn2, decide_eq_true hn, Bool.and_true]
  have hne := wrd_ne ok hn2
  rw [show (wrd fs n == []) = false by simpa using hne]
  simp only [Bool.not_false, Bool.true_and]
  unfold wrd
  by_cases h : n = 0
  · rw [if_pos h]; simp
  · rw [if_neg h]
    obtain ⟨k, r, e, hk⟩ := dig_head h2 FU n (by unfold FU; omega) (by omega)
    have hkl : k < fs.length := dig_lt (b := fs.length) (by omega) FU n k (by rw [e]; exact List.mem_cons_self)
    unfold digs
    rw [e]
    simp only [List.map_cons, List.headD_cons]
    rw [getD_at hkl, getD_at (show 0 < fs.length by omega)]
    have : fs[k] ≠ fs[0] := fun z => by have := nd_inj ok.nd hkl (by omega) z; omega
    simp [this]
/-- a number's row is the written one -/
theorem wrd_val {fs t : List Nat} (ok : okF fs) (ha : allF fs t = true) (hw : isW fs t = true) : wrd fs (val fs t 0 0) = t := by
  have h2 := ok.n2
  have ht := top_lt
  unfold isW at hw
  rw [Bool.and_eq_true, Bool.and_eq_true, decide_eq_true_iff] at hw
  obtain ⟨⟨h1, h3⟩, h4⟩ := hw
  have hlt : val fs t 0 0 < 2 ^ 209 := Nat.lt_of_le_of_lt h4 ht
  have hkl : ∀ k ∈ t.map (ixn fs), k < fs.length := fun k hk => by
    obtain ⟨c, hc, rfl⟩ := List.mem_map.mp hk
    have := List.all_eq_true.mp ha c hc
    rw [decide_eq_true_iff] at this
    exact (ix_at this).1
  by_cases hz : t = [fs.getD 0 0]
  · subst hz
    have : val fs [fs.getD 0 0] 0 0 = 0 := by
      show 0 * fs.length + ixn fs (fs.getD 0 0) + 0 = 0
      rw [getD_at (show 0 < fs.length by omega), ix_nd ok.nd (by omega)]
      omega
    rw [this]
    unfold wrd
    rw [if_pos rfl]
  · have hh : t.headD 0 ≠ fs.getD 0 0 := by
      rw [Bool.or_eq_true] at h3
      rcases h3 with q | q
      · exact absurd (by simpa using q) hz
      · simpa using q
    have hne : t ≠ [] := by simpa using h1
    have h0 : ∀ k r, t.map (ixn fs) = k :: r → 0 < k := fun k r e => by
      cases t with
      | nil => cases e
      | cons c u =>
        rw [List.map_cons] at e
        have e := (List.cons.inj e).1
        have hc := List.all_eq_true.mp ha c List.mem_cons_self
        rw [decide_eq_true_iff] at hc
        obtain ⟨g1, g2⟩ := ix_at hc
        rcases Nat.eq_zero_or_pos k with z | z
        · exfalso
          apply hh
          show c = fs.getD 0 0
          rw [getD_at (show 0 < fs.length by omega)]
          have e0 : ixn fs c = 0 := by omega
          have : fs[ixn fs c] = fs[0] := by simp only [e0]
          exact g2.symm.trans this
        · exact z
    have hv := dig_vd h2 _ (t.map (ixn fs)) rfl hkl h0 FU (by rw [← val_vd]; unfold FU; omega)
    rw [← val_vd] at hv
    unfold wrd
    have hpos : val fs t 0 0 ≠ 0 := fun z => by
      rw [z, dig_zero] at hv
      exact hne (List.map_eq_nil_iff.mp hv.symm)
    rw [if_neg hpos]
    unfold digs
    rw [hv, map_ix ha]
end PL.K51

set_option maxRecDepth 100000
namespace PL.K51
set_option autoImplicit false
/-! ### numbers are written -/
theorem topI : d_GREATEST = .int (TOP : Nat) := by
  unfold d_GREATEST TOP
  rfl
theorem check_number_eq (z : Int) : f_check_number [.int z] = if 0 ≤ z ∧ z ≤ (TOP : Nat) then .ok .non else .exc 3 := by
  refine run_at (s := b_check_number) [some (.int z)] ?_
  unfold b_check_number
  simp only [sIf_ap, tNot_ap, tE_ap, eChain_ap, eC_ap, eV_zero, R.bnd_ok, leD_int, topI]
  by_cases h1 : 0 ≤ z
  · rw [decide_eq_true h1]
    by_cases h2 : z ≤ (TOP : Nat)
    · rw [if_pos ⟨h1, h2⟩]
      simp only [decide_eq_true h2]
      exact ⟨_, _, rfl, rfl⟩
    · rw [if_neg (fun q => h2 q.2)]
      simp only [decide_eq_false h2]
      exact ⟨_, _, rfl, rfl⟩
  · rw [decide_eq_false h1, if_neg (fun q => h1 q.1)]
    exact ⟨_, _, rfl, rfl⟩
theorem fs_at {fs : List Nat} {k : Nat} (h : k < fs.length) : idxD (.str fs) (.int (k : Nat)) = .ok (.str [fs.getD k 0]) := by
  rw [idxD_str h, getD_at h]
section
variable {fs : List Nat}
theorem write_number_eq (ok : okF fs) {n : Nat} (hn : n ≤ TOP) : f_write_number [.str fs, .int (n : Nat)] = .ok (.str (wrd fs n)) := by
  have h2 := ok.n2
  have h40 := ok.n40
  have ht := top_lt
  have hb : 0 < fs.length := by omega
  refine run_at (s := b_write_number) [some (.str fs), some (.int (n : Nat)), none, none] ?_
  unfold b_write_number
  refine wp_seqN (ρ' := [some (.str fs), some (.int (n : Nat)), none, none]) ?_ ?_
  · show lft _ _ _ = _
    simp only [eCall_ap, eCons_ap, eNil_ap, eV_succ, eV_zero, R.bnd_ok]
    rw [check_number_eq, if_pos ⟨by omega, by omega⟩]
    rfl
  refine wp_seqN (ρ' := [some (.str fs), some (.int (n : Nat)), some (.int (fs.length : Nat)), none]) (by simp) ?_
  refine wp_seqN (ρ' := [some (.str fs), some (.int (n : Nat)), some (.int (fs.length : Nat)), some (.str [fs.getD (n % fs.length) 0])]) ?_ ?_
  · simp only [sAsg_ap, e2_ap, eV_succ, eV_zero, R.bnd_ok]
    rw [modD_nat hb]
    simp only [R.bnd_ok, fs_at (Nat.mod_lt _ hb), lft_ok, gV_succ, gV_zero, gok_ok]
  refine wp_seqN (ρ' := [some (.str fs), some (.int ((n / fs.length : Nat) : Int)), some (.int (fs.length : Nat)), some (.str [fs.getD (n % fs.length) 0])]) ?_ ?_
  · simp only [sAsg_ap, e2_ap, eV_succ, eV_zero, R.bnd_ok]
    rw [fdivD_nat hb (by omega)]
    simp only [lft_ok, gV_succ, gV_zero, R.bnd_ok, gok_ok]
  refine wp_seq ?_
  have hw : (digs fs.length (n / fs.length)).map (fun k => fs.getD k 0) ++ [fs.getD (n % fs.length) 0] = wrd fs n := by
    unfold wrd
    by_cases h : n = 0
    · subst h
      rw [if_pos rfl, Nat.zero_div, Nat.zero_mod]
      unfold digs
      rw [dig_zero]
      rfl
    · rw [if_neg h, digs_step (n := n) h2 (by omega) (by omega), List.map_append]
      rfl
  have hdl : n / fs.length ≤ n := Nat.div_le_self _ _
  refine wp_whl (fun m ρ => ∃ (v : Nat) (out : List Nat), m = v ∧ v ≤ TOP ∧ (digs fs.length v).map (fun k => fs.getD k 0) ++ out = wrd fs n ∧ ρ = [some (.str fs), some (.int (v : Nat)), some (.int (fs.length : Nat)), some (.str out)]) (fun m ρ ⟨v, out, hm, hv, ho, e⟩ => ?_) (n := n / fs.length) ⟨n / fs.length, _, rfl, by omega, hw, rfl⟩
  subst e
  have hol : out.length ≤ 211 := by
    have := congrArg List.length ho
    rw [List.length_append] at this
    have h3 : (wrd fs n).length ≤ 211 := by
      unfold wrd
      split
      · simp
      · rw [List.length_map]
        have := dig_len fs.length FU n
        unfold digs
        unfold FU at this ⊢
        omega
    omega
  refine ⟨decide (0 < v), by simp [ltI], fun hc => ?_, fun hc => ?_⟩
  · have h0 : 0 < v := by simpa using hc
    refine wp_seq ?_
    simp only [sAsg_ap, e2_ap, eV_succ, eV_zero, R.bnd_ok]
    rw [modD_nat hb]
    simp only [R.bnd_ok, fs_at (Nat.mod_lt _ hb)]
    rw [addD_str (by simp; unfold LINE; omega)]
    simp only [lft_ok, gV_succ, gV_zero, R.bnd_ok, gok_ok, wp_some, Nxt_nx]
    simp only [sAsg_ap, e2_ap, eV_succ, eV_zero, R.bnd_ok]
    rw [fdivD_nat hb (by omega)]
    simp only [lft_ok, gV_succ, gV_zero, R.bnd_ok, gok_ok, wp_some, Lp_nx]
    have hlt : v / fs.length < v := Nat.div_lt_self h0 (by omega)
    refine ⟨v / fs.length, by omega, v / fs.length, [fs.getD (v % fs.length) 0] ++ out, rfl, by omega, ?_, rfl⟩
    rw [digs_step h2 h0 (by omega), List.map_append] at ho
    rw [← ho]
    simp
  · have h0 : v = 0 := by simpa using hc
    subst h0
    unfold digs at ho
    rw [dig_zero, List.map_nil, List.nil_append] at ho
    subst ho
    simp
theorem lwritten_eq (ok : okF fs) {n : Nat} (hn : n < 2 ^ 209) : f__law_written [.str fs, .int (n : Nat)] = .ok (.str (wrd fs n)) := by
  have h2 := ok.n2
  have h40 := ok.n40
  have hb : 0 < fs.length := by omega
  refine run_at (s := b__law_written) [some (.str fs), some (.int (n : Nat)), none, none] ?_
  unfold b__law_written
  refine wp_seq ?_
  simp only [sIf_ap, tE_ap, e2_ap, eC_ap, eV_succ, eV_zero, R.bnd_ok]
  rw [show eqD (.int (n : Nat)) (.int 0) = .ok (.bl (n == 0)) by rw [eqD_int]; congr 2; exact beqI n 0]
  simp only [R.bnd_ok, tru_bl, lft_ok]
  unfold wrd
  by_cases h : n = 0
  · rw [if_pos h, show (n == 0) = true by simpa using h]
    have := fs_at (fs := fs) (k := 0) hb
    rw [show ((0 : Nat) : Int) = 0 from rfl] at this
    simp only [if_true, sRet_ap, e2_ap, eC_ap, eV_zero, R.bnd_ok, this, lft_ok, wp_some, Nxt_rt, endR_rt]
  · rw [if_neg h, show (n == 0) = false by simpa using h]
    simp only [Bool.false_eq_true, if_false, sSkip_ap, wp_some, Nxt_nx]
    refine wp_seqN (ρ' := [some (.str fs), some (.int (n : Nat)), some (.str []), none]) (by simp) ?_
    refine wp_seq ?_
    rw [sFor_ap]
    simp only [iR1_ap, eC_ap, R.bnd_ok]
    rw [show rng1 (.int 210) = .ok ((List.range 210).map fun k => .int (k : Nat)) from rng1_nat (n := 210) (by decide)]
    simp only [lft_ok]
    refine wp_for (fun m ρ => m ≤ 210 → ∃ (v : Nat) (out : List Nat) (o : Option Dat), v < 2 ^ (210 - m) ∧ out.length ≤ m ∧ (dig fs.length (210 - m) v).map (fun k => fs.getD k 0) ++ out = (digs fs.length n).map (fun k => fs.getD k 0) ∧ ρ = [some (.str fs), some (.int (v : Nat)), some (.str out), o]) (fun _ => ⟨n, [], none, by rw [Nat.sub_zero]; exact Nat.lt_of_lt_of_le hn (Nat.pow_le_pow_right (by decide) (by decide)), by simp, by rw [List.append_nil]; rfl, rfl⟩) (fun m d ρ hm I => ?_) (fun ρ I => ?_)
    · obtain ⟨m1, rfl⟩ := range_get hm
      obtain ⟨v, out, o, hv, hol, ho, e⟩ := I (by omega)
      subst e
      refine ⟨_, by simp only [gV_succ, gV_zero, R.bnd_ok]; rfl, ?_⟩
      simp only [sIf_ap, tE_ap, e2_ap, eC_ap, eV_succ, eV_zero, R.bnd_ok, gtD_int, tru_bl, lft_ok]
      rw [show 210 - m = (210 - (m + 1)) + 1 by omega] at hv ho
      by_cases h0 : v = 0
      · rw [if_neg (by rw [decide_eq_true_iff]; omega)]
        simp only [sSkip_ap, wp_some]
        refine ⟨.inl trivial, fun _ => ⟨v, out, _, by rw [h0]; exact Nat.pow_pos (by decide), by omega, ?_, rfl⟩⟩
        rw [h0, dig_zero] at ho ⊢
        exact ho
      · rw [if_pos (by rw [decide_eq_true_iff]; omega)]
        refine wp_seq ?_
        simp only [sAsg_ap, e1_ap, e2_ap, eV_succ, eV_zero, R.bnd_ok, lenD_str]
        rw [modD_nat hb]
        simp only [R.bnd_ok, fs_at (Nat.mod_lt _ hb)]
        rw [addD_str (by simp; unfold LINE; omega)]
        simp only [lft_ok, gV_succ, gV_zero, R.bnd_ok, gok_ok, wp_some, Nxt_nx]
        simp only [sAsg_ap, e1_ap, e2_ap, eV_succ, eV_zero, R.bnd_ok, lenD_str]
        rw [fdivD_nat hb (by omega)]
        simp only [lft_ok, gV_succ, gV_zero, R.bnd_ok, gok_ok, wp_some]
        have e1 : v / fs.length ≤ v / 2 := Nat.div_le_div_left h2 (by decide)
        refine ⟨.inl trivial, fun _ => ⟨v / fs.length, [fs.getD (v % fs.length) 0] ++ out, some (.int (m : Nat)), by rw [Nat.pow_succ] at hv; omega, by simp; omega, ?_, rfl⟩⟩
        unfold dig at ho
        rw [if_neg h0, List.map_append] at ho
        rw [← ho]
        simp
    · obtain ⟨v, out, o, hv, hol, ho, e⟩ := I (by simp)
      subst e
      rw [List.length_map, List.length_range, Nat.sub_self] at ho
      simp only [dig, List.map_nil, List.nil_append] at ho
      rw [← ho]
      simp
/-! ### texts are read -/
theorem index_eq {c : Nat} (h : c ∈ fs) : indexD (.str fs) (.str [c]) = .ok (.int (ixn fs c : Nat)) := by
  obtain ⟨k, e, _⟩ := ix_some h
  show (match fs.findIdx? (· == c) with | some k => R.ok (Dat.int k) | none => .bad) = _
  unfold ixn
  rw [e]
  rfl
theorem val_snoc (t : List Nat) (c first v : Nat) : val fs (t ++ [c]) first v = val fs t first v * fs.length + ixn fs c + first := by
  unfold val
  rw [List.foldl_append]
  rfl
theorem allF_at {t : List Nat} (h : allF fs t = true) {c : Nat} (hc : c ∈ t) : c ∈ fs := by
  have := List.all_eq_true.mp h c hc
  simpa using this
theorem value_eq (h40 : fs.length ≤ 1000) {t : List Nat} (h : allF fs t = true) : f_value [.str fs, .str t] = .ok (.int (val fs t 0 0 : Nat)) := by
  refine run_at (s := b_value) [some (.str fs), some (.str t), none, none] ?_
  unfold b_value
  refine wp_seqN (ρ' := [some (.str fs), some (.str t), some (.int ((0 : Nat) : Int)), none]) (by simp) ?_
  refine wp_seq ?_
  rw [sFor_ap]
  simp only [iOf_ap, eV_succ, eV_zero, R.bnd_ok, itemsD_str, lft_ok]
  show wp (forL _ _ (t.map sg) _) _
  refine wp_for (fun k ρ => ∃ o : Option Dat, ρ = [some (.str fs), some (.str t), some (.int (val fs (t.take k) 0 0 : Nat)), o]) ⟨none, rfl⟩ (fun k d ρ hk ⟨o, e⟩ => ?_) (fun ρ ⟨o, e⟩ => ?_)
  · obtain ⟨k1, rfl⟩ := map_get hk
    subst e
    refine ⟨_, by simp only [gV_succ, gV_zero, R.bnd_ok]; rfl, ?_⟩
    simp only [sAsg_ap, eM1_ap, e1_ap, e2_ap, eV_succ, eV_zero, R.bnd_ok, lenD_str, isS_str, index_eq (allF_at h (List.getElem_mem k1))]
    rw [mulR_int (by omega)]
    simp only [R.bnd_ok, addD_int, lft_ok, gV_succ, gV_zero, gok_ok, wp_some]
    refine ⟨.inl trivial, some (sg t[k]), ?_⟩
    rw [List.take_succ_eq_append_getElem k1, val_snoc]
    simp only [Int.natCast_add, Int.natCast_mul]
    rfl
  · subst e
    rw [List.length_map, List.take_length]
    simp
end
end PL.K51

set_option maxRecDepth 100000
namespace PL.K51
set_option autoImplicit false
section
variable {fs : List Nat}
theorem f0_at (ok : okF fs) : idxD (.str fs) (.int 0) = .ok (.str [fs.getD 0 0]) := fs_at (k := 0) (by have := ok.n2; omega)
theorem t0_at {t : List Nat} (h : t ≠ []) : idxD (.str t) (.int 0) = .ok (.str [t.headD 0]) := by
  cases t with
  | nil => exact absurd rfl h
  | cons a r => exact idxD_str (k := 0) (by simp)
theorem one_beq (a b : Nat) : (([a] : List Nat) == [b]) = (a == b) := by
  rw [Bool.eq_iff_iff]
  simp
theorem is_written_eq (ok : okF fs) {t : List Nat} (h : allF fs t = true) : f_is_written [.str fs, .str t] = .ok (.bl (isW fs t)) := by
  have h40 := ok.n40
  refine run_at (s := b_is_written) [some (.str fs), some (.str t)] ?_
  unfold b_is_written
  refine wp_seq ?_
  simp only [sIf_ap, tOr_ap, tAnd_ap, tE_ap, e2_ap, eC_ap, eV_succ, eV_zero, R.bnd_ok, eqD_str, tru_bl, f0_at ok, neD_str]
  unfold isW
  by_cases h0 : t = []
  · subst h0
    simp
  · rw [show (t == []) = false by simpa using h0]
    simp only [Bool.false_eq_true, if_false, Bool.not_false, Bool.true_and, t0_at h0, R.bnd_ok, eqD_str, one_beq, tru_bl]
    have rest : wp (sRet (e2 leD (eCall f_value (eCons (eV 0) (eCons (eV 1) eNil))) (eC d_GREATEST)) [some (.str fs), some (.str t)]) fun f _ => endR f = .ok (.bl (decide (val fs t 0 0 ≤ TOP))) := by
      simp only [sRet_ap, e2_ap, eCall_ap, eCons_ap, eNil_ap, eC_ap, eV_succ, eV_zero, R.bnd_ok, value_eq (show fs.length ≤ 1000 by omega) h, topI, leD_int, leI, lft_ok, wp_some, endR_rt]
    by_cases h1 : t = [fs.getD 0 0]
    · rw [show (t == [fs.getD 0 0]) = true by simpa using h1]
      simp only [Bool.not_true, Bool.false_eq_true, if_false, lft_ok, sSkip_ap, wp_some, Nxt_nx, Bool.true_or, Bool.true_and]
      exact rest
    · rw [show (t == [fs.getD 0 0]) = false by simpa using h1]
      simp only [Bool.not_false, if_true, Bool.false_or]
      cases t.headD 0 == fs.getD 0 0 with
      | true => simp
      | false =>
        simp only [lft_ok, Bool.false_eq_true, if_false, sSkip_ap, wp_some, Nxt_nx, Bool.not_false, Bool.true_and]
        exact rest
def rN (fs t : List Nat) : R Dat := if allF fs t && isW fs t then .ok (.int (val fs t 0 0 : Nat)) else .exc 4
theorem read_number_eq (ok : okF fs) {t : List Nat} (ht : t.length ≤ 1000) : f_read_number [.str fs, .str t] = rN fs t := by
  have h40 := ok.n40
  refine run_at (s := b_read_number) [some (.str fs), some (.str t), none] ?_
  unfold b_read_number rN
  refine wp_seq ?_
  simp only [sIf_ap, tOr_ap, tNot_ap, tE_ap, e1_ap]
  rw [eComp_of (ds := signs t) (ys := (t.map fun c => decide (c ∈ fs)).map .bl) (by simp) (by
    rw [List.map_map]
    show compL _ _ _ _ (t.map sg) = _
    exact compL_map sg (fun c => .bl (decide (c ∈ fs))) fun c hc => ⟨[some (.str fs), some (.str t), some (sg c)], by simp [wipe], rfl, hc, by simp only [e2_ap, eV_succ, eV_zero, R.bnd_ok, inD_one]⟩) (by rw [List.length_map, List.length_map]; unfold LINE; omega)]
  simp only [R.bnd_ok, allD_map, tru_bl, List.all_map]
  rw [show (t.all (id ∘ fun c => decide (c ∈ fs))) = allF fs t from rfl]
  cases ha : allF fs t with
  | false => simp
  | true =>
    simp only [Bool.not_true, Bool.false_eq_true, if_false, eCall_ap, eCons_ap, eNil_ap, eV_succ, eV_zero, R.bnd_ok, is_written_eq ok ha, tru_bl, lft_ok, Bool.true_and]
    cases isW fs t with
    | false => simp
    | true =>
      simp only [Bool.not_true, Bool.false_eq_true, if_false, sSkip_ap, wp_some, Nxt_nx, sRet_ap, eCall_ap, eCons_ap, eNil_ap, eV_succ, eV_zero, R.bnd_ok, value_eq (show fs.length ≤ 1000 by omega) ha, lft_ok, endR_rt, if_true]
def dV (fs t : List Nat) (first : Nat) : Dat := if allF fs t then .int (val fs t first 0 : Nat) else .non
theorem places_filter {c : Nat} (hn : fs.length ≤ 1000) : (c ∈ fs → ∃ r, (List.range fs.length).filter (fun k => fs.getD k 0 == c) = ixn fs c :: r) ∧ (c ∉ fs → (List.range fs.length).filter (fun k => fs.getD k 0 == c) = []) := by
  constructor
  · intro h
    obtain ⟨k, e, hk, h2⟩ := ix_some h
    have e2 : ixn fs c = k := by unfold ixn; rw [e]; rfl
    rw [e2]
    obtain ⟨_, _, h3⟩ := List.findIdx?_eq_some_iff_getElem.mp e
    refine filter_first hk (fun j hj => ?_) (by rw [getD_at hk]; simpa using h2)
    have := h3 j hj
    rw [getD_at (by omega)]
    simpa using this
  · intro h
    rw [List.filter_eq_nil_iff]
    intro k hk
    have hk := List.mem_range.mp hk
    rw [getD_at hk]
    intro z
    exact h (by rw [← (show fs[k] = c by simpa using z)]; exact List.getElem_mem _)
theorem lvalue_eq (hn : fs.length ≤ 1000) {t : List Nat} (first : Nat) (ht : t.length ≤ 1000) : f__law_value [.str fs, .str t, .int (first : Nat)] = .ok (dV fs t first) := by
  refine run_at (s := b__law_value) [some (.str fs), some (.str t), some (.int (first : Nat)), none, none, none, none] ?_
  unfold b__law_value
  refine wp_seqN (ρ' := [some (.str fs), some (.str t), some (.int (first : Nat)), some (.int ((0 : Nat) : Int)), none, none, none]) (by simp) ?_
  refine wp_seq ?_
  rw [sFor_ap]
  simp only [iOf_ap, eV_succ, eV_zero, R.bnd_ok, itemsD_str, lft_ok]
  show wp (forL _ _ (t.map sg) _) _
  refine wp_forX (fun k ρ => allF fs (t.take k) = true ∧ ∃ o o2 : Option Dat, ρ = [some (.str fs), some (.str t), some (.int (first : Nat)), some (.int (val fs (t.take k) first 0 : Nat)), o, o2, none]) ⟨by simp [allF], none, none, rfl⟩ (fun k d ρ hk ⟨w, o, o2, e⟩ => ?_) (fun ρ ⟨w, o, o2, e⟩ => ?_)
  · obtain ⟨k1, rfl⟩ := map_get hk
    subst e
    refine ⟨_, by simp only [gV_succ, gV_zero, R.bnd_ok]; rfl, ?_⟩
    obtain ⟨p1, p2⟩ := places_filter (fs := fs) (c := t[k]) hn
    have hfl := List.length_filter_le (fun j => fs.getD j 0 == t[k]) (List.range fs.length)
    rw [List.length_range] at hfl
    refine wp_seqN (ρ' := [some (.str fs), some (.str t), some (.int (first : Nat)), some (.int (val fs (t.take k) first 0 : Nat)), some (sg t[k]), some (dNats ((List.range fs.length).filter fun j => fs.getD j 0 == t[k])), none]) ?_ ?_
    · rw [sNew_lst (xs := ((List.range fs.length).filter fun j => fs.getD j 0 == t[k]).map fun j => .int (j : Nat)) (eComp_of (ds := (List.range fs.length).map fun j => .int (j : Nat)) (by
        simp only [iR1_ap, e1_ap, eV_zero, R.bnd_ok, lenD_str]
        exact rng1_nat (by omega)) (by
        refine compL_filter (fun j : Nat => Dat.int (j : Nat)) (fun j => fs.getD j 0 == t[k]) (fun j => Dat.int (j : Nat)) fun j hj => ⟨[some (.str fs), some (.str t), some (.int (first : Nat)), some (.int (val fs (t.take k) first 0 : Nat)), some (sg t[k]), o2, some (.int (j : Nat))], by simp [wipe], ?_, fun _ => by simp⟩
        have hj := List.mem_range.mp hj
        simp only [tE_ap, e2_ap, eV_succ, eV_zero, R.bnd_ok, fs_at hj, eqD_str, one_beq, tru_bl]) (by rw [List.length_map]; unfold LINE; omega)) (by simp)]
      rfl
    by_cases hc : t[k] ∈ fs
    · obtain ⟨r, hr⟩ := p1 hc
      rw [hr]
      refine wp_seq ?_
      simp only [sIf_ap, tE_ap, e1_ap, e2_ap, eC_ap, eV_succ, eV_zero, R.bnd_ok, lenD_lst, eqD_int, tru_bl, lft_ok]
      rw [if_neg (by simp; omega)]
      simp only [sSkip_ap, wp_some, Nxt_nx]
      have i0 : idxD (dNats (ixn fs t[k] :: r)) (.int 0) = .ok (.int (ixn fs t[k] : Nat)) := idxD_lst (k := 0) (by simp)
      simp only [sAsg_ap, e1_ap, e2_ap, eC_ap, eV_succ, eV_zero, R.bnd_ok, lenD_str, i0]
      rw [mulR_int (by omega)]
      simp only [R.bnd_ok, addD_int, lft_ok, gV_succ, gV_zero, gok_ok, wp_some, Lp_nx]
      refine ⟨?_, some (sg t[k]), some (dNats (ixn fs t[k] :: r)), ?_⟩
      · rw [List.take_succ_eq_append_getElem k1]
        unfold allF at w ⊢
        rw [List.all_append, w]
        simpa using hc
      · rw [List.take_succ_eq_append_getElem k1, val_snoc]
        simp only [Int.natCast_add, Int.natCast_mul]
    · rw [p2 hc]
      refine wp_seq ?_
      simp only [sIf_ap, tE_ap, e1_ap, e2_ap, eC_ap, eV_succ, eV_zero, R.bnd_ok, lenD_lst, eqD_int, tru_bl, lft_ok]
      rw [if_pos (by simp)]
      have : ¬ allF fs t = true := fun z => hc (allF_at z (List.getElem_mem k1))
      simp only [sRet_ap, eC_ap, lft_ok, wp_some, Nxt_rt, Lp_rt, endR_rt]
      unfold dV
      rw [if_neg this]
  · subst e
    rw [List.length_map, List.take_length] at w ⊢
    unfold dV
    rw [if_pos w]
    simp
def dN (fs t : List Nat) : Dat := if allF fs t && isW fs t then .int (val fs t 0 0 : Nat) else .non
theorem pow60 : powD (.int 10) (.int 60) = .ok (.int (TOP : Nat)) := rfl
theorem head_len {t : List Nat} {f : Nat} (h : t ≠ []) (hh : t.headD 0 = f) : (1 < t.length) ↔ t ≠ [f] := by
  cases t with
  | nil => exact absurd rfl h
  | cons a r =>
    have : a = f := hh
    subst this
    cases r <;> simp
theorem lread_eq (ok : okF fs) {t : List Nat} (ht : t.length ≤ 1000) : f__law_read [.str fs, .str t] = .ok (dN fs t) := by
  have h40 := ok.n40
  refine run_at (s := b__law_read) [some (.str fs), some (.str t), none] ?_
  unfold b__law_read
  refine wp_seqN (ρ' := [some (.str fs), some (.str t), some (dV fs t 0)]) ?_ ?_
  · simp only [sAsg_ap, eCall_ap, eCons_ap, eNil_ap, eC_ap, eV_succ, eV_zero, R.bnd_ok]
    rw [show f__law_value [.str fs, .str t, .int 0] = .ok (dV fs t 0) from lvalue_eq (show fs.length ≤ 1000 by omega) 0 ht]
    simp only [lft_ok, gV_succ, gV_zero, R.bnd_ok, gok_ok]
  refine wp_seq ?_
  simp only [sIf_ap, tOr_ap, tAnd_ap, tE_ap, e1_ap, e2_ap, eC_ap, eV_succ, eV_zero, R.bnd_ok, eqD_str, tru_bl, pow60, lenD_str, gtD_int, f0_at ok]
  unfold dN dV isW
  by_cases h0 : t = []
  · subst h0
    simp
  · rw [show (t == []) = false by simpa using h0]
    simp only [Bool.false_eq_true, if_false, t0_at h0, R.bnd_ok, eqD_str, one_beq, tru_bl, Bool.not_false, Bool.true_and]
    cases allF fs t with
    | false => simp
    | true =>
      simp only [if_true, isN_int, R.bnd_ok, tru_bl, Bool.false_eq_true, if_false, gtD_int, Bool.true_and]
      by_cases h1 : val fs t 0 0 ≤ TOP
      · rw [show decide (((TOP : Nat) : Int) < (val fs t 0 0 : Nat)) = false from decide_eq_false (by omega), decide_eq_true h1, Bool.and_true]
        simp only [Bool.false_eq_true, if_false]
        by_cases h2 : t.headD 0 = fs.getD 0 0
        · rw [show (t.headD 0 == fs.getD 0 0) = true by simpa using h2]
          have hl := head_len h0 h2
          by_cases h3 : 1 < t.length
          · rw [show decide ((1 : Int) < (t.length : Nat)) = true from decide_eq_true (by omega), show (t == [fs.getD 0 0]) = false by simpa using hl.mp h3]
            simp
          · rw [show decide ((1 : Int) < (t.length : Nat)) = false from decide_eq_false (by omega), show (t == [fs.getD 0 0]) = true by
              rw [beq_iff_eq]
              exact Decidable.byContradiction fun z => h3 (hl.mpr z)]
            simp
        · rw [show (t.headD 0 == fs.getD 0 0) = false by simpa using h2]
          simp
      · rw [show decide (((TOP : Nat) : Int) < (val fs t 0 0 : Nat)) = true from decide_eq_true (by omega), decide_eq_false h1]
        simp
theorem lasked_eq (ok : okF fs) {t : List Nat} (ht : t.length ≤ 1000) : f__law_asked [.str fs, .str t] = .ok (dN fs t) := by
  refine run_at (s := b__law_asked) [some (.str fs), some (.str t), none] ?_
  unfold b__law_asked
  rw [sTry_ap]
  simp only [sRet_ap, eCall_ap, eCons_ap, eNil_ap, eV_succ, eV_zero, R.bnd_ok, read_number_eq ok ht]
  unfold rN dN
  cases allF fs t && isW fs t with
  | true => exact ⟨_, _, rfl, rfl⟩
  | false => exact ⟨_, _, rfl, rfl⟩
/-! ### counts -/
def dgc (b : Nat) : Nat → Nat → List Nat
  | 0, _ => []
  | f + 1, n => if n = 0 then [] else dgc b f ((n - 1) / b) ++ [(n - 1) % b]
theorem dgc_zero (b f : Nat) : dgc b f 0 = [] := by cases f <;> rfl
theorem dgc_lt {b : Nat} (hb : 0 < b) : ∀ (f n : Nat), ∀ k ∈ dgc b f n, k < b
  | 0, n, k, h => by cases h
  | f + 1, n, k, h => by
    unfold dgc at h
    split at h
    · cases h
    · rcases List.mem_append.mp h with q | q
      · exact dgc_lt hb f _ k q
      · rw [List.mem_singleton] at q
        subst q
        exact Nat.mod_lt _ hb
theorem dgc_fuel {b : Nat} (hb : 2 ≤ b) : ∀ (f g n : Nat), n < 2 ^ f → n < 2 ^ g → dgc b f n = dgc b g n
  | 0, g, n, h1, h2 => by
    have : n = 0 := by simpa using h1
    subst this
    rw [dgc_zero, dgc_zero]
  | f + 1, 0, n, h1, h2 => by
    have : n = 0 := by simpa using h2
    subst this
    rw [dgc_zero, dgc_zero]
  | f + 1, g + 1, n, h1, h2 => by
    unfold dgc
    by_cases h : n = 0
    · rw [if_pos h, if_pos h]
    · rw [if_neg h, if_neg h]
      have e1 : (n - 1) / b ≤ (n - 1) / 2 := Nat.div_le_div_left hb (by decide)
      have h3 : (n - 1) / 2 < 2 ^ f := by rw [Nat.pow_succ] at h1; omega
      have h4 : (n - 1) / 2 < 2 ^ g := by rw [Nat.pow_succ] at h2; omega
      rw [dgc_fuel hb f g ((n - 1) / b) (by omega) (by omega)]
theorem dgc_len (b : Nat) : ∀ (f n : Nat), (dgc b f n).length ≤ f
  | 0, n => Nat.le_refl _
  | f + 1, n => by
    unfold dgc
    split
    · simp
    · have := dgc_len b f ((n - 1) / b)
      simp
      omega
theorem vd_dgc {b : Nat} (hb : 2 ≤ b) : ∀ (f n : Nat), n < 2 ^ f → vd b 1 (dgc b f n) 0 = n
  | 0, n, h => by
    have : n = 0 := by simpa using h
    subst this
    rfl
  | f + 1, n, h => by
    unfold dgc
    by_cases h0 : n = 0
    · rw [if_pos h0, h0]; rfl
    · rw [if_neg h0, vd_app]
      have e1 : (n - 1) / b ≤ (n - 1) / 2 := Nat.div_le_div_left hb (by decide)
      rw [vd_dgc hb f ((n - 1) / b) (by rw [Nat.pow_succ] at h; omega)]
      show (n - 1) / b * b + (n - 1) % b + 1 = n
      have := Nat.div_add_mod (n - 1) b
      rw [Nat.mul_comm] at this
      omega
def dgs (b n : Nat) : List Nat := dgc b FU n
def cnt (fs : List Nat) (n : Nat) : List Nat := (dgs fs.length n).map fun k => fs.getD k 0
theorem dgs_step {b n : Nat} (hb : 2 ≤ b) (h : 0 < n) (hn : n < 2 ^ 209) : dgs b n = dgs b ((n - 1) / b) ++ [(n - 1) % b] := by
  have e1 : (n - 1) / b ≤ (n - 1) / 2 := Nat.div_le_div_left hb (by decide)
  unfold dgs
  rw [show FU = 209 + 1 from rfl]
  conv => lhs; unfold dgc
  rw [if_neg (by omega)]
  rw [dgc_fuel hb 209 (209 + 1) ((n - 1) / b) (by omega) (by omega)]
theorem write_count_eq (ok : okF fs) {n : Nat} (hn : n ≤ TOP) : f_write_count [.str fs, .int (n : Nat)] = .ok (.str (cnt fs n)) := by
  have h2 := ok.n2
  have h40 := ok.n40
  have ht := top_lt
  have hb : 0 < fs.length := by omega
  refine run_at (s := b_write_count) [some (.str fs), some (.int (n : Nat)), none, none] ?_
  unfold b_write_count
  refine wp_seqN (ρ' := [some (.str fs), some (.int (n : Nat)), none, none]) ?_ ?_
  · show lft _ _ _ = _
    simp only [eCall_ap, eCons_ap, eNil_ap, eV_succ, eV_zero, R.bnd_ok]
    rw [check_number_eq, if_pos ⟨by omega, by omega⟩]
    rfl
  refine wp_seqN (ρ' := [some (.str fs), some (.int (n : Nat)), some (.int (fs.length : Nat)), none]) (by simp) ?_
  refine wp_seqN (ρ' := [some (.str fs), some (.int (n : Nat)), some (.int (fs.length : Nat)), some (.str [])]) (by simp) ?_
  refine wp_seq ?_
  refine wp_whl (fun m ρ => ∃ (v : Nat) (out : List Nat), m = v ∧ v ≤ TOP ∧ cnt fs v ++ out = cnt fs n ∧ ρ = [some (.str fs), some (.int (v : Nat)), some (.int (fs.length : Nat)), some (.str out)]) (fun m ρ ⟨v, out, hm, hv, ho, e⟩ => ?_) (n := n) ⟨n, [], rfl, hn, by simp, rfl⟩
  subst e
  have hol : out.length ≤ 211 := by
    have := congrArg List.length ho
    rw [List.length_append] at this
    have h3 : (cnt fs n).length ≤ 210 := by
      unfold cnt dgs
      rw [List.length_map]
      exact dgc_len _ _ _
    omega
  refine ⟨decide (0 < v), by simp [ltI], fun hc => ?_, fun hc => ?_⟩
  · have h0 : 0 < v := by simpa using hc
    refine wp_seq ?_
    simp only [sAsg_ap, e2_ap, eC_ap, eV_succ, eV_zero, R.bnd_ok, subD_int]
    rw [show ((v : Int) - 1) = ((v - 1 : Nat) : Int) by omega, modD_nat hb]
    simp only [R.bnd_ok, fs_at (Nat.mod_lt _ hb)]
    rw [addD_str (by simp; unfold LINE; omega)]
    simp only [lft_ok, gV_succ, gV_zero, R.bnd_ok, gok_ok, wp_some, Nxt_nx]
    simp only [sAsg_ap, e2_ap, eC_ap, eV_succ, eV_zero, R.bnd_ok, subD_int]
    rw [show ((v : Int) - 1) = ((v - 1 : Nat) : Int) by omega, fdivD_nat hb (by omega)]
    simp only [lft_ok, gV_succ, gV_zero, R.bnd_ok, gok_ok, wp_some, Lp_nx]
    have hlt : (v - 1) / fs.length ≤ v - 1 := Nat.div_le_self _ _
    refine ⟨(v - 1) / fs.length, by omega, (v - 1) / fs.length, [fs.getD ((v - 1) % fs.length) 0] ++ out, rfl, by omega, ?_, rfl⟩
    unfold cnt at ho ⊢
    rw [dgs_step (n := v) h2 h0 (by omega), List.map_append] at ho
    rw [← ho]
    simp
  · have h0 : v = 0 := by simpa using hc
    subst h0
    unfold cnt dgs at ho
    rw [dgc_zero, List.map_nil, List.nil_append] at ho
    subst ho
    simp [cnt, dgs]
theorem cnt_all (ok : okF fs) (n : Nat) : allF fs (cnt fs n) = true := by
  have h2 := ok.n2
  unfold cnt allF
  rw [List.all_eq_true]
  intro c hc
  rw [decide_eq_true_iff]
  obtain ⟨k, hk, rfl⟩ := List.mem_map.mp hc
  have := dgc_lt (by omega) _ _ k hk
  rw [getD_at this]
  exact List.getElem_mem _
theorem cnt_ix (ok : okF fs) (n : Nat) : (cnt fs n).map (ixn fs) = dgs fs.length n := ix_map ok (ks := dgs fs.length n) (dgc_lt (by have := ok.n2; omega) _ _)
theorem val_cnt (ok : okF fs) {n : Nat} (hn : n < 2 ^ 209) : val fs (cnt fs n) 1 0 = n := by
  rw [val_vd, cnt_ix ok]
  exact vd_dgc ok.n2 FU n (by unfold FU; omega)
theorem read_count_eq (hn : fs.length ≤ 1000) {t : List Nat} : f_read_count [.str fs, .str t] = if allF fs t then .ok (.int (val fs t 1 0 : Nat)) else .exc 4 := by
  refine run_at (s := b_read_count) [some (.str fs), some (.str t), none, none] ?_
  unfold b_read_count
  refine wp_seqN (ρ' := [some (.str fs), some (.str t), some (.int ((0 : Nat) : Int)), none]) (by simp) ?_
  refine wp_seq ?_
  rw [sFor_ap]
  simp only [iOf_ap, eV_succ, eV_zero, R.bnd_ok, itemsD_str, lft_ok]
  show wp (forL _ _ (t.map sg) _) _
  refine wp_forX (fun k ρ => allF fs (t.take k) = true ∧ ∃ o : Option Dat, ρ = [some (.str fs), some (.str t), some (.int (val fs (t.take k) 1 0 : Nat)), o]) ⟨by simp [allF], none, rfl⟩ (fun k d ρ hk ⟨w, o, e⟩ => ?_) (fun ρ ⟨w, o, e⟩ => ?_)
  · obtain ⟨k1, rfl⟩ := map_get hk
    subst e
    refine ⟨_, by simp only [gV_succ, gV_zero, R.bnd_ok]; rfl, ?_⟩
    refine wp_seq ?_
    simp only [sIf_ap, tE_ap, e2_ap, eV_succ, eV_zero, R.bnd_ok, notIn_one, tru_bl, lft_ok]
    by_cases hc : t[k] ∈ fs
    · rw [decide_eq_true hc]
      simp only [Bool.not_true, Bool.false_eq_true, if_false, sSkip_ap, wp_some, Nxt_nx]
      simp only [sAsg_ap, eM1_ap, e1_ap, e2_ap, eC_ap, eV_succ, eV_zero, R.bnd_ok, lenD_str, isS_str, index_eq hc]
      rw [mulR_int (by omega)]
      simp only [R.bnd_ok, addD_int, lft_ok, gV_succ, gV_zero, gok_ok, wp_some, Lp_nx]
      refine ⟨?_, some (sg t[k]), ?_⟩
      · rw [List.take_succ_eq_append_getElem k1]
        unfold allF at w ⊢
        rw [List.all_append, w]
        simpa using hc
      · rw [List.take_succ_eq_append_getElem k1, val_snoc]
        simp only [Int.natCast_add, Int.natCast_mul]
        rfl
    · rw [decide_eq_false hc]
      have : ¬ allF fs t = true := fun z => hc (allF_at z (List.getElem_mem k1))
      rw [if_neg this]
      simp
  · subst e
    rw [List.length_map, List.take_length] at w ⊢
    rw [if_pos w]
    simp
theorem lcounted_eq (ok : okF fs) {t : List Nat} (ht : t.length ≤ 1000) : f__law_counted [.str fs, .str t] = .ok (dV fs t 1) := by
  have h40 := ok.n40
  refine run_at (s := b__law_counted) [some (.str fs), some (.str t), none] ?_
  unfold b__law_counted
  rw [sTry_ap]
  simp only [sRet_ap, eCall_ap, eCons_ap, eNil_ap, eV_succ, eV_zero, R.bnd_ok, read_count_eq (show fs.length ≤ 1000 by omega)]
  unfold dV
  cases allF fs t with
  | true => exact ⟨_, _, rfl, rfl⟩
  | false => exact ⟨_, _, rfl, rfl⟩
end
end PL.K51

set_option maxRecDepth 100000
namespace PL.K51
set_option autoImplicit false
/-! ### the order of counts -/
theorem vd_lt {b : Nat} : ∀ (ks ms : List Nat) (v w : Nat), ks.length = ms.length → (∀ k ∈ ks, k < b) → v < w → vd b 1 ks v < vd b 1 ms w
  | [], [], v, w, _, _, h => h
  | k :: r, m :: s, v, w, hl, hk, h => by
    have hk0 := hk k List.mem_cons_self
    have h1 := Nat.mul_le_mul_right b (show v + 1 ≤ w from h)
    rw [Nat.succ_mul] at h1
    exact vd_lt r s (v * b + k + 1) (w * b + m + 1) (by simpa using hl) (fun x hx => hk x (List.mem_cons_of_mem _ hx)) (by omega)
  | [], _ :: _, _, _, hl, _, _ => by simp at hl
  | _ :: _, [], _, _, hl, _, _ => by simp at hl
def lx (ks ms : List Nat) : Bool := cmpL (ks.map fun k => .int (k : Nat)) (ms.map fun k => .int (k : Nat)) == .lt
theorem lx_cons (k m : Nat) (r s : List Nat) : lx (k :: r) (m :: s) = if k < m then true else if k = m then lx r s else false := by
  unfold lx
  simp only [List.map_cons, cmpL, cmpT]
  by_cases h1 : k < m
  · rw [if_pos h1, Int.compare_eq_lt.mpr (by omega)]
    rfl
  · rw [if_neg h1]
    by_cases h2 : k = m
    · subst h2
      rw [if_pos rfl, Int.compare_eq_eq.mpr rfl]
      rfl
    · rw [if_neg h2, Int.compare_eq_gt.mpr (by omega)]
      rfl
theorem vd_lx {b : Nat} : ∀ (ks ms : List Nat) (v : Nat), ks.length = ms.length → (∀ k ∈ ks, k < b) → (∀ k ∈ ms, k < b) → (decide (vd b 1 ks v < vd b 1 ms v) = lx ks ms)
  | [], [], v, _, _, _ => by
    rw [decide_eq_false (Nat.lt_irrefl _)]
    rfl
  | k :: r, m :: s, v, hl, hk, hm => by
    have hl' : r.length = s.length := by simpa using hl
    have hr := fun x hx => hk x (List.mem_cons_of_mem k hx)
    have hs := fun x hx => hm x (List.mem_cons_of_mem m hx)
    rw [lx_cons]
    by_cases h1 : k < m
    · rw [if_pos h1]
      exact decide_eq_true (vd_lt r s (v * b + k + 1) (v * b + m + 1) hl' hr (by omega))
    · rw [if_neg h1]
      by_cases h2 : k = m
      · subst h2
        rw [if_pos rfl]
        exact vd_lx r s (v * b + k + 1) hl' hr hs
      · rw [if_neg h2]
        have := vd_lt s r (v * b + m + 1) (v * b + k + 1) hl'.symm hs (by omega)
        exact decide_eq_false fun z => Nat.lt_asymm z this
  | [], _ :: _, _, hl, _, _ => by simp at hl
  | _ :: _, [], _, hl, _, _ => by simp at hl
theorem vd_ge (b : Nat) : ∀ (ks : List Nat) (v : Nat), ks ≠ [] → 0 < vd b 1 ks v
  | [], v, h => absurd rfl h
  | [k], v, _ => by show 0 < v * b + k + 1; omega
  | k :: m :: r, v, _ => vd_ge b (m :: r) (v * b + k + 1) (by simp)
theorem vd_short {b : Nat} {ks ms : List Nat} (h : ks.length < ms.length) (hk : ∀ k ∈ ks, k < b) : vd b 1 ks 0 < vd b 1 ms 0 := by
  have e : ms = ms.take (ms.length - ks.length) ++ ms.drop (ms.length - ks.length) := (List.take_append_drop _ _).symm
  rw [e, vd_app]
  refine vd_lt _ _ _ _ (by rw [List.length_drop]; omega) hk (vd_ge b _ 0 fun z => ?_)
  have := congrArg List.length z
  rw [List.length_take] at this
  simp at this
  omega
theorem order_eq {b n m : Nat} (hb : 2 ≤ b) (hn : n < 2 ^ 209) (hm : m < 2 ^ 209) : decide (n < m) = (decide ((dgs b n).length < (dgs b m).length) || ((dgs b n).length == (dgs b m).length && lx (dgs b n) (dgs b m))) := by
  have en : vd b 1 (dgs b n) 0 = n := vd_dgc hb FU n (by unfold FU; omega)
  have em : vd b 1 (dgs b m) 0 = m := vd_dgc hb FU m (by unfold FU; omega)
  have kn := dgc_lt (b := b) (by omega) FU n
  have km := dgc_lt (b := b) (by omega) FU m
  conv => lhs; rw [← en, ← em]
  rcases Nat.lt_trichotomy (dgs b n).length (dgs b m).length with h | h | h
  · rw [decide_eq_true h, decide_eq_true (vd_short h kn)]
    rfl
  · rw [decide_eq_false (show ¬ (dgs b n).length < (dgs b m).length by omega), vd_lx _ _ 0 h kn km, show ((dgs b n).length == (dgs b m).length) = true by simpa using h]
    simp
  · rw [decide_eq_false (show ¬ (dgs b n).length < (dgs b m).length by omega), show ((dgs b n).length == (dgs b m).length) = false by simp; omega]
    exact decide_eq_false fun z => Nat.lt_asymm z (vd_short h km)
theorem alkL_nats : ∀ ks ms : List Nat, alkL (ks.map fun k => Dat.int (k : Nat)) (ms.map fun k => Dat.int (k : Nat)) = true
  | [], _ => by simp [alkL]
  | _ :: _, [] => by simp [alkL]
  | k :: r, m :: s => by
    simp only [List.map_cons, alkL, alk, alkL_nats r s, Bool.and_self]
theorem ltD_nats (ks ms : List Nat) : ltD (dNats ks) (dNats ms) = .ok (.bl (lx ks ms)) := by
  show (if (shpL DEEP (ks.map fun k => Dat.int (k : Nat)) && shpL DEEP (ms.map fun k => Dat.int (k : Nat)) && alkL (ks.map fun k => Dat.int (k : Nat)) (ms.map fun k => Dat.int (k : Nat))) = true then R.ok (Dat.bl (lx ks ms)) else .bad) = _
  rw [shpL_nats, shpL_nats, alkL_nats]
  rfl
theorem neD_bl (x y : Bool) : neD (.bl x) (.bl y) = .ok (.bl (!(x == y))) := by
  unfold neD
  rw [show shp DEEP (.bl x) = true from rfl, show shp DEEP (.bl y) = true from rfl]
  simp [eqv]
/-! ### what is refused -/
theorem write_exc {fs : List Nat} {z : Int} (h : ¬ (0 ≤ z ∧ z ≤ (TOP : Nat))) : f_write_number [.str fs, .int z] = .exc 3 ∧ f_write_count [.str fs, .int z] = .exc 3 := by
  constructor
  · refine run_at (s := b_write_number) [some (.str fs), some (.int z), none, none] ?_
    unfold b_write_number
    refine wp_seq ?_
    show wp (lft _ _ _) _
    simp only [eCall_ap, eCons_ap, eNil_ap, eV_succ, eV_zero, R.bnd_ok]
    rw [check_number_eq, if_neg h]
    exact ⟨_, _, rfl, rfl⟩
  · refine run_at (s := b_write_count) [some (.str fs), some (.int z), none, none] ?_
    unfold b_write_count
    refine wp_seq ?_
    show wp (lft _ _ _) _
    simp only [eCall_ap, eCons_ap, eNil_ap, eV_succ, eV_zero, R.bnd_ok]
    rw [check_number_eq, if_neg h]
    exact ⟨_, _, rfl, rfl⟩
theorem keep_st {fs : List Nat} {z : Int} {F : List Dat → R Dat} (h : F [.str fs, .int z] = .exc 3) {e : EM} {xs : List Dat} {d : Dat} (hx : xs.length ≤ 10) (he : e [some (.str fs), some (.int z), some (.lst xs), some (.exc 3)] = .ok d) :
    sTryK 2 [((fun y => sub y 3), some 3, sApp 2 e)] (sDrop (eCall F (eCons (eV 0) (eCons (eV 1) eNil)))) [some (.str fs), some (.int z), some (.lst xs), none] = some (.nx, [some (.str fs), some (.int z), some (.lst (xs ++ [d])), none]) := by
  have hb : (sDrop (eCall F (eCons (eV 0) (eCons (eV 1) eNil)))) ([some (.str fs), some (.int z), some (.lst xs), none].set 2 (some (.exc 0))) = some (.ex 3, [some (.str fs), some (.int z), some (.exc 0), none]) := by
    show lft ((eCall F (eCons (eV 0) (eCons (eV 1) eNil))) [some (.str fs), some (.int z), some (.exc 0), none]) _ _ = _
    simp only [eCall_ap, eCons_ap, eNil_ap, eV_succ, eV_zero, R.bnd_ok, h]
    rfl
  unfold sTryK
  show (match keepO 2 (.lst xs) ((sDrop (eCall F (eCons (eV 0) (eCons (eV 1) eNil)))) ([some (.str fs), some (.int z), some (.lst xs), none].set 2 (some (.exc 0)))) with
    | some (.ex y, ρ') => hand [((fun y => sub y 3), some 3, sApp 2 e)] y ρ'
    | q => q) = _
  rw [hb]
  show hand [((fun y => sub y 3), some 3, sApp 2 e)] 3 [some (.str fs), some (.int z), some (.lst xs), none] = _
  rw [hand_some, if_pos (by rfl), if_pos (by simp)]
  rw [show ([some (Dat.str fs), some (.int z), some (.lst xs), none].set 3 (some (.exc 3))) = [some (.str fs), some (.int z), some (.lst xs), some (.exc 3)] from rfl]
  rw [sApp_ap (xs := xs) (d := d) (by simp) he (by unfold LINE; omega)]
  rfl
theorem refused_eq {fs : List Nat} {z : Int} (h : ¬ (0 ≤ z ∧ z ≤ (TOP : Nat))) : f__law_refused [.str fs, .int z] = .ok (.bl true) := by
  obtain ⟨h1, h2⟩ := write_exc (fs := fs) h
  refine run_at (s := b__law_refused) [some (.str fs), some (.int z), none, none] ?_
  unfold b__law_refused
  refine wp_seqN (ρ' := [some (.str fs), some (.int z), some (.lst []), none]) (by rw [sNew_lst (xs := []) (by simp [LINE]) (by simp)]; rfl) ?_
  refine wp_seqN (keep_st (xs := []) (d := .bl true) h1 (by simp) (by simp only [e1_ap, eV_succ, eV_zero, R.bnd_ok, isX_exc]; rfl)) ?_
  refine wp_seqN (keep_st (xs := [.bl true]) (d := .bl true) h2 (by simp) (by simp only [e1_ap, eV_succ, eV_zero, R.bnd_ok, isX_exc, notB_bl]; rfl)) ?_
  simp only [sRet_ap, e2_ap, eLst_ap, eCons_ap, eNil_ap, eC_ap, eV_succ, eV_zero, R.bnd_ok]
  rw [if_pos (by simp [LINE])]
  simp only [R.bnd_ok, List.nil_append, List.cons_append]
  rw [eqD_refl (d := .lst [.bl true, .bl true]) (by rfl)]
  simp
/-! ### figures changed -/
def chp (one other p : List Nat) : List Nat := if isW one p then wrd other (val one p 0 0) else p
def chg (one other : List Nat) : List Nat → List Nat → List Nat
  | p, [] => chp one other p
  | p, c :: r => if c ∈ one then chg one other (p ++ [c]) r else chp one other p ++ c :: chg one other [] r
theorem chg_cons (one other p : List Nat) (c : Nat) (r : List Nat) : chg one other p (c :: r) = if c ∈ one then chg one other (p ++ [c]) r else chp one other p ++ c :: chg one other [] r := rfl
section
variable {one other : List Nat}
theorem wrd_len (fs : List Nat) (n : Nat) : (wrd fs n).length ≤ 211 := by
  unfold wrd
  split
  · simp
  · rw [List.length_map]
    have := dig_len fs.length FU n
    unfold digs
    unfold FU at this ⊢
    omega
theorem isW_top {fs p : List Nat} (h : isW fs p = true) : val fs p 0 0 ≤ TOP := by
  unfold isW at h
  rw [Bool.and_eq_true, decide_eq_true_iff] at h
  exact h.2
theorem chp_len (p : List Nat) : (chp one other p).length ≤ 211 + p.length := by
  unfold chp
  split
  · have := wrd_len other (val one p 0 0)
    omega
  · omega
theorem chg_len : ∀ (r p : List Nat), (chg one other p r).length ≤ 212 * (r.length + 1) + p.length
  | [], p => by
    have := chp_len (one := one) (other := other) p
    show (chp one other p).length ≤ _
    simp only [List.length_nil]
    omega
  | c :: r, p => by
    unfold chg
    split
    · have := chg_len r (p ++ [c])
      rw [List.length_append] at this
      simp only [List.length_cons, List.length_nil] at this ⊢
      omega
    · have h1 := chg_len r []
      have h2 := chp_len (one := one) (other := other) p
      simp only [List.length_append, List.length_cons, List.length_nil] at h1 ⊢
      omega
theorem changed_eq (o1 : okF one) (o2 : okF other) {p : List Nat} (h : allF one p = true) : f_changed [.str one, .str other, .str p] = .ok (.str (chp one other p)) := by
  have h40 := o1.n40
  refine run_at (s := b_changed) [some (.str one), some (.str other), some (.str p)] ?_
  unfold b_changed chp
  refine wp_seq ?_
  simp only [sIf_ap, tE_ap, eCall_ap, eCons_ap, eNil_ap, eV_succ, eV_zero, R.bnd_ok, is_written_eq o1 h, tru_bl, lft_ok]
  cases q : isW one p with
  | true =>
    simp only [if_true, sRet_ap, eCall_ap, eCons_ap, eNil_ap, eV_succ, eV_zero, R.bnd_ok, value_eq (show one.length ≤ 1000 by omega) h, write_number_eq o2 (isW_top q), lft_ok, wp_some, Nxt_rt, endR_rt]
  | false => simp
theorem change_eq (o1 : okF one) (o2 : okF other) {t : List Nat} (ht : t.length ≤ 20000) : f_change_figures [.str one, .str other, .str t] = .ok (.str (chg one other [] t)) := by
  refine run_at (s := b_change_figures) [some (.str one), some (.str other), some (.str t), none, none, none] ?_
  unfold b_change_figures
  refine wp_seqN (ρ' := [some (.str one), some (.str other), some (.str t), some (.str []), none, none]) (by simp) ?_
  refine wp_seqN (ρ' := [some (.str one), some (.str other), some (.str t), some (.str []), some (.str []), none]) (by simp) ?_
  refine wp_seq ?_
  rw [sFor_ap]
  simp only [iOf_ap, eV_succ, eV_zero, R.bnd_ok, itemsD_str, lft_ok]
  show wp (forL _ _ (t.map sg) _) _
  have hcl := chg_len (one := one) (other := other) t []
  refine wp_for (fun k ρ => ∃ (out p : List Nat) (o : Option Dat), out ++ chg one other p (t.drop k) = chg one other [] t ∧ allF one p = true ∧ p.length ≤ k ∧ ρ = [some (.str one), some (.str other), some (.str t), some (.str out), some (.str p), o]) ⟨[], [], none, by simp, by simp [allF], by simp, rfl⟩ (fun k d ρ hk ⟨out, p, o, h1, h2, h3, e⟩ => ?_) (fun ρ ⟨out, p, o, h1, h2, h3, e⟩ => ?_)
  · obtain ⟨k1, rfl⟩ := map_get hk
    subst e
    rw [List.drop_eq_getElem_cons k1] at h1
    have hol := congrArg List.length h1
    rw [List.length_append] at hol
    simp only [List.length_nil] at hcl
    generalize t[k] = c at h1
    refine ⟨_, by simp only [gV_succ, gV_zero, R.bnd_ok]; rfl, ?_⟩
    simp only [sIf_ap, tE_ap, e2_ap, eV_succ, eV_zero, R.bnd_ok, inD_one, tru_bl, lft_ok]
    rw [chg_cons] at h1
    by_cases hc : c ∈ one
    · rw [if_pos hc] at h1
      rw [decide_eq_true hc]
      simp only [if_true, sAug_ap, eV_succ, eV_zero, R.bnd_ok]
      rw [show addF (.str p) (.str [c]) = .ok (.str (p ++ [c])) from if_pos (by simp; unfold LINE; omega)]
      simp only [lft_ok, gV_succ, gV_zero, R.bnd_ok, gok_ok, wp_some]
      exact ⟨.inl trivial, out, p ++ [c], _, h1, by unfold allF at h2 ⊢; rw [List.all_append, h2]; simpa using hc, by simp; omega, rfl⟩
    · rw [if_neg hc] at h1
      rw [decide_eq_false hc]
      have hp := chp_len (one := one) (other := other) p
      simp only [Bool.false_eq_true, if_false]
      refine wp_seq ?_
      simp only [sAug_ap, e2_ap, eCall_ap, eCons_ap, eNil_ap, eV_succ, eV_zero, R.bnd_ok, changed_eq o1 o2 h2]
      rw [addD_str (by simp; unfold LINE; omega)]
      simp only [R.bnd_ok]
      rw [show addF (.str out) (.str (chp one other p ++ [c])) = .ok (.str (out ++ (chp one other p ++ [c]))) from if_pos (by rw [List.length_append]; simp; unfold LINE; omega)]
      simp only [lft_ok, gV_succ, gV_zero, R.bnd_ok, gok_ok, wp_some, Nxt_nx, sAsg_ap, eC_ap]
      exact ⟨.inl trivial, out ++ (chp one other p ++ [c]), [], _, by rw [← h1]; simp, by simp [allF], by simp, rfl⟩
  · subst e
    rw [List.length_map, List.drop_of_length_le (Nat.le_refl _)] at h1
    rw [List.length_map] at h3
    have hol := congrArg List.length h1
    rw [List.length_append] at hol
    simp only [List.length_nil] at hcl
    have hp := chp_len (one := one) (other := other) p
    simp only [Nxt_nx, sRet_ap, e2_ap, eCall_ap, eCons_ap, eNil_ap, eV_succ, eV_zero, R.bnd_ok, changed_eq o1 o2 h2]
    rw [addD_str (by unfold LINE; omega)]
    simp only [lft_ok, wp_some, endR_rt]
    rw [← h1]
    rfl
end
end PL.K51

set_option maxRecDepth 100000
namespace PL.K51
set_option autoImplicit false
section
variable {one other : List Nat}
/-! ### there and back -/
theorem chg_app (p : List Nat) : ∀ (x r q : List Nat), allF one x = true → chg one other q (x ++ r) = chg one other (q ++ x) r
  | [], r, q, _ => by simp
  | c :: x, r, q, h => by
    have hc : c ∈ one := allF_at h List.mem_cons_self
    have hx : allF one x = true := by
      unfold allF at h ⊢
      rw [List.all_cons, Bool.and_eq_true] at h
      exact h.2
    rw [List.cons_append, chg_cons, if_pos hc, chg_app p x r (q ++ [c]) hx]
    simp
theorem chp_nil : chp one other [] = [] := by
  unfold chp isW
  simp
theorem chg_out : ∀ (x r : List Nat), (∀ c ∈ x, c ∉ one) → chg one other [] (x ++ r) = x ++ chg one other [] r
  | [], r, _ => rfl
  | c :: x, r, h => by
    rw [List.cons_append, chg_cons, if_neg (h c List.mem_cons_self), chp_nil, chg_out x r fun d hd => h d (List.mem_cons_of_mem _ hd)]
    simp
theorem back (o1 : okF one) (o2 : okF other) (dj : ∀ c ∈ one, c ∉ other) : ∀ (r q : List Nat), allF one q = true → (∀ c ∈ r, c ∉ other) → chg other one [] (chg one other q r) = q ++ r := by
  have piece : ∀ (q Y : List Nat) (c : Nat), allF one q = true → c ∉ other → chg other one [] (chp one other q ++ c :: Y) = q ++ c :: chg other one [] Y := fun q Y c hq hc => by
    unfold chp
    cases w : isW one q with
    | true =>
      simp only [if_true]
      have hv := isW_top w
      have hw := isW_wrd o2 hv
      rw [chg_app [] _ _ [] (wrd_all o2 _), List.nil_append, chg_cons, if_neg hc]
      unfold chp
      rw [hw]
      simp only [if_true]
      rw [val_wrd o2 (Nat.lt_of_le_of_lt hv top_lt), wrd_val o1 hq w]
    | false =>
      simp only [Bool.false_eq_true, if_false]
      rw [chg_out q (c :: Y) (fun d hd => dj d (allF_at hq hd)), chg_cons, if_neg hc, chp_nil]
      simp
  intro r
  induction r with
  | nil =>
    intro q hq _
    show chg other one [] (chp one other q) = q ++ []
    rw [List.append_nil]
    unfold chp
    cases w : isW one q with
    | true =>
      simp only [if_true]
      have hv := isW_top w
      have hw := isW_wrd o2 hv
      have := chg_app (one := other) (other := one) [] (wrd other (val one q 0 0)) [] [] (wrd_all o2 _)
      rw [List.append_nil, List.nil_append] at this
      rw [this]
      show chp other one (wrd other (val one q 0 0)) = q
      unfold chp
      rw [hw]
      simp only [if_true]
      rw [val_wrd o2 (Nat.lt_of_le_of_lt hv top_lt), wrd_val o1 hq w]
    | false =>
      simp only [Bool.false_eq_true, if_false]
      have := chg_out (one := other) (other := one) q [] (fun d hd => dj d (allF_at hq hd))
      rw [List.append_nil] at this
      rw [this]
      show q ++ chp other one [] = q
      rw [chp_nil, List.append_nil]
  | cons c r ih =>
    intro q hq hr
    have hc := hr c List.mem_cons_self
    have hr2 := fun d hd => hr d (List.mem_cons_of_mem c hd)
    rw [chg_cons]
    by_cases h : c ∈ one
    · rw [if_pos h, ih (q ++ [c]) (by unfold allF at hq ⊢; rw [List.all_append, hq]; simpa using h) hr2]
      simp
    · rw [if_neg h, piece q _ c hq hc, ih [] (by simp [allF]) hr2]
      simp
theorem lchange_eq (o1 : okF one) (o2 : okF other) {t : List Nat} (ht : t.length ≤ 900) : f__law_change [.str one, .str other, .str t] = .ok (.str (chg one other [] t)) := by
  refine run_at (s := b__law_change) [some (.str one), some (.str other), some (.str t), none, none, none, none, none] ?_
  unfold b__law_change
  refine wp_seqN (ρ' := [some (.str one), some (.str other), some (.str t), some (.str []), none, none, none, none]) (by simp) ?_
  refine wp_seqN (ρ' := [some (.str one), some (.str other), some (.str t), some (.str []), some (.str []), none, none, none]) (by simp) ?_
  refine wp_seq ?_
  rw [sFor_ap]
  have hsrc : (iOf (e2 addD (eComp (iOf (eV 2)) [7] (gV 7) tYes (eV 7)) (eLst (eCons (eC (.str [])) eNil)))) [some (.str one), some (.str other), some (.str t), some (.str []), some (.str []), none, none, none] = .ok ((t.map fun c => [c]).map Dat.str ++ [Dat.str []]) := by
    rw [iOf_ap, e2_ap, eComp_of (ds := signs t) (ys := signs t) (by simp) (by
      show compL _ _ _ _ (t.map sg) = .ok (t.map sg)
      exact compL_map sg sg fun c hc => ⟨[some (.str one), some (.str other), some (.str t), some (.str []), some (.str []), none, none, some (sg c)], by simp [wipe], rfl, hc, by simp⟩) (by simp [signs]; unfold LINE; omega)]
    simp only [R.bnd_ok, eLst_ap, eCons_ap, eNil_ap, eC_ap]
    rw [if_pos (by simp [LINE])]
    simp only [R.bnd_ok]
    rw [addD_lst (by simp [signs]; unfold LINE; omega)]
    simp only [R.bnd_ok, itemsD_lst]
    rw [List.map_map]
    rfl
  rw [hsrc]
  simp only [lft_ok]
  have hcl := chg_len (one := one) (other := other) t []
  simp only [List.length_nil] at hcl
  have hlen : ((t.map fun c => [c]).map Dat.str ++ [Dat.str []]).length = t.length + 1 := by simp
  refine wp_for (fun k ρ => (k ≤ t.length → ∃ (out p : List Nat) (o o2 : Option Dat), out ++ chg one other p (t.drop k) = chg one other [] t ∧ allF one p = true ∧ p.length ≤ k ∧ ρ = [some (.str one), some (.str other), some (.str t), some (.str out), some (.str p), o, o2, none]) ∧ (¬ k ≤ t.length → ∃ o o2 o3 : Option Dat, ρ = [some (.str one), some (.str other), some (.str t), some (.str (chg one other [] t)), o3, o, o2, none])) ⟨fun _ => ⟨[], [], none, none, by simp, by simp [allF], by simp, rfl⟩, fun z => absurd (Nat.zero_le _) z⟩ (fun k d ρ hk I => ?_) (fun ρ I => ?_)
  · have hk1 := (List.getElem?_eq_some_iff.mp hk).1
    rw [hlen] at hk1
    obtain ⟨out, p, o, o3, h1, h2, h3, e⟩ := I.1 (by omega)
    subst e
    have hol := congrArg List.length h1
    rw [List.length_append] at hol
    have hp := chp_len (one := one) (other := other) p
    refine ⟨_, by simp only [gV_succ, gV_zero, R.bnd_ok]; rfl, ?_⟩
    -- a sign that ends a piece
    have flush : ∀ (s : List Nat), s.length ≤ 1 → wp (sSeq (sAsg (gV 6) (eCall f__law_read (eCons (eV 0) (eCons (eV 4) eNil))))
    (sSeq (sIf (tE (e1 isN (eV 6)))
    (sAsg (gV 3) (e2 addD (e2 addD (eV 3) (eV 4)) (eV 5)))
    (sAsg (gV 3) (e2 addD (e2 addD (eV 3) (eCall f__law_written (eCons (eV 1) (eCons (eV 6) eNil)))) (eV 5))))
    (sAsg (gV 4) (eC (.str [])))) [some (.str one), some (.str other), some (.str t), some (.str out), some (.str p), some (.str s), o3, none]) fun f ρ' => f = .nx ∧ ∃ o2 : Option Dat, ρ' = [some (.str one), some (.str other), some (.str t), some (.str (out ++ (chp one other p ++ s))), some (.str []), some (.str s), o2, none] := fun s hs => by
      refine wp_seqN (ρ' := [some (.str one), some (.str other), some (.str t), some (.str out), some (.str p), some (.str s), some (dN one p), none]) (by simp only [sAsg_ap, eCall_ap, eCons_ap, eNil_ap, eV_succ, eV_zero, R.bnd_ok, lread_eq o1 (show p.length ≤ 1000 by omega), lft_ok, gV_succ, gV_zero, gok_ok]) ?_
      refine wp_seqN (ρ' := [some (.str one), some (.str other), some (.str t), some (.str (out ++ (chp one other p ++ s))), some (.str p), some (.str s), some (dN one p), none]) ?_ ?_
      · unfold dN chp
        unfold chp at hp
        rw [h2]
        cases q : isW one p with
        | true =>
          rw [q] at hp
          simp only [Bool.and_self, if_true] at hp ⊢
          have hv := isW_top q
          simp only [sIf_ap, tE_ap, e1_ap, eV_succ, eV_zero, R.bnd_ok, isN_int, tru_bl, lft_ok, Bool.false_eq_true, if_false, sAsg_ap, e2_ap, eCall_ap, eCons_ap, eNil_ap, lwritten_eq o2 (Nat.lt_of_le_of_lt hv top_lt)]
          rw [addD_str (by unfold LINE; omega)]
          simp only [R.bnd_ok]
          rw [addD_str (by rw [List.length_append]; unfold LINE; omega)]
          simp
        | false =>
          simp only [Bool.true_and, Bool.false_eq_true, if_false]
          simp only [sIf_ap, tE_ap, e1_ap, eV_succ, eV_zero, R.bnd_ok, isN_non, tru_bl, lft_ok, if_true, sAsg_ap, e2_ap]
          rw [addD_str (by unfold LINE; omega)]
          simp only [R.bnd_ok]
          rw [addD_str (by rw [List.length_append]; unfold LINE; omega)]
          simp
      · simp only [sAsg_ap, eC_ap, lft_ok, gV_succ, gV_zero, R.bnd_ok, gok_ok, wp_some]
        exact ⟨trivial, _, rfl⟩
    by_cases hkt : k < t.length
    · have hd : d = .str [t[k]] := by
        rw [List.getElem?_append_left (by simpa using hkt), List.map_map, List.getElem?_map, List.getElem?_eq_getElem hkt] at hk
        exact (Option.some.inj hk).symm
      subst hd
      rw [List.drop_eq_getElem_cons hkt, chg_cons] at h1
      generalize t[k] = c at h1
      simp only [sIf_ap, tAnd_ap, tE_ap, e2_ap, eC_ap, eV_succ, eV_zero, R.bnd_ok, neD_str, tru_bl, inD_one]
      rw [show (!(([c] : List Nat) == [])) = true from rfl]
      simp only [if_true]
      by_cases hc : c ∈ one
      · rw [if_pos hc] at h1
        rw [decide_eq_true hc]
        simp only [lft_ok, if_true, sAsg_ap, e2_ap, eV_succ, eV_zero, R.bnd_ok]
        rw [addD_str (by simp; unfold LINE; omega)]
        simp only [lft_ok, gV_succ, gV_zero, R.bnd_ok, gok_ok, wp_some]
        exact ⟨.inl trivial, fun _ => ⟨out, p ++ [c], _, _, h1, by unfold allF at h2 ⊢; rw [List.all_append, h2]; simpa using hc, by simp; omega, rfl⟩, fun z => absurd (show k + 1 ≤ t.length from hkt) z⟩
      · rw [if_neg hc] at h1
        rw [decide_eq_false hc]
        simp only [lft_ok, Bool.false_eq_true, if_false]
        refine wp_imp (flush [c] (by simp)) fun f ρ' ⟨hf, o2, e⟩ => ⟨.inl hf, fun _ => ⟨out ++ (chp one other p ++ [c]), [], _, o2, by rw [← h1]; simp, by simp [allF], by simp, e⟩, fun z => absurd (show k + 1 ≤ t.length from hkt) z⟩
    · have hkl : k = t.length := by omega
      subst hkl
      have hd : d = .str [] := by
        rw [List.getElem?_append_right (by simp)] at hk
        simp at hk
        exact hk.symm
      subst hd
      rw [List.drop_of_length_le (Nat.le_refl _)] at h1
      simp only [sIf_ap, tAnd_ap, tE_ap, e2_ap, eC_ap, eV_succ, eV_zero, R.bnd_ok, neD_str, tru_bl]
      rw [show (!(([] : List Nat) == [])) = false from rfl]
      simp only [Bool.false_eq_true, if_false, lft_ok]
      refine wp_imp (flush [] (by simp)) fun f ρ' ⟨hf, o2, e⟩ => ⟨.inl hf, fun z => absurd z (by omega), fun _ => ⟨some (.str []), o2, some (.str []), ?_⟩⟩
      rw [e, List.append_nil, show out ++ chp one other p = chg one other [] t from h1]
  · obtain ⟨o, o2, o3, e⟩ := I.2 (by rw [hlen]; omega)
    subst e
    simp
end
end PL.K51

set_option maxRecDepth 100000
namespace PL.K51
set_option autoImplicit false
/-! ### a table of figures for figures -/
def tabF (one other : List Nat) : List It := (List.range one.length).map fun k => ⟨[one.getD k 0], [other.getD k 0]⟩
section
variable {one other : List Nat}
theorem tabF_len : (tabF one other).length = one.length := by simp [tabF]
theorem tabF_ok (o : okF one) : okT (tabF one other) := ⟨by rw [tabF_len]; exact o.n40, fun x hx => by
  obtain ⟨k, _, rfl⟩ := List.mem_map.mp hx
  exact ⟨by simp, by simp, by simp⟩⟩
theorem tabF_at {k : Nat} (h : k < one.length) : (tabF one other)[k]? = some ⟨[one.getD k 0], [other.getD k 0]⟩ := by
  unfold tabF
  rw [List.getElem?_map, List.getElem?_range h]
  rfl
theorem best_one (o : okF one) {t : List Nat} {p : Nat} (hp : p < t.length) (hc : t[p] ∈ one) : best (tabF one other) t p = some (ixn one t[p]) := by
  unfold best fitL
  have e : (List.range (tabF one other).length).filter (fitK (tabF one other) t p) = [ixn one t[p]] := by
    rw [tabF_len]
    have h40 := o.n40
    have e1 : (List.range one.length).filter (fitK (tabF one other) t p) = (List.range one.length).filter (fun k => one.getD k 0 == t[p]) := by
      refine List.filter_congr fun k hk => ?_
      have hk := List.mem_range.mp hk
      unfold fitK
      rw [tabF_at hk]
      show begins [one.getD k 0] (t.drop p) = _
      rw [List.drop_eq_getElem_cons hp]
      show (one.getD k 0 == t[p] && begins [] (t.drop (p + 1))) = _
      cases t.drop (p + 1) <;> simp [begins]
    rw [e1]
    obtain ⟨h1, h2⟩ := ix_at hc
    have e2 : (List.range one.length).filter (fun k => one.getD k 0 == t[p]) = (List.range one.length).filter (fun k => k == ixn one t[p]) := by
      refine List.filter_congr fun k hk => ?_
      have hk := List.mem_range.mp hk
      rw [getD_at hk, Bool.eq_iff_iff, beq_iff_eq, beq_iff_eq]
      constructor
      · intro z
        exact nd_inj o.nd hk h1 (z.trans h2.symm)
      · intro z
        subst z
        exact h2
    rw [e2]
    obtain ⟨r, hr⟩ := filter_first (p := fun k => k == ixn one t[p]) h1 (fun j hj => by simp; omega) (by simp)
    have hnd : ((List.range one.length).filter fun k => k == ixn one t[p]).Nodup := List.nodup_range.sublist List.filter_sublist
    have hmem : ∀ x ∈ ((List.range one.length).filter fun k => k == ixn one t[p]), x = ixn one t[p] := fun x hx => by
      have := (List.mem_filter.mp hx).2
      simpa using this
    rw [hr] at hnd hmem ⊢
    cases r with
    | nil => rfl
    | cons a s =>
      have := hmem a (by simp)
      subst this
      exact absurd hnd (by simp)
  rw [e]
  rfl
theorem par_one (o : okF one) {t : List Nat} (h : allF one t = true) : ∀ (n p : Nat), n = t.length - p → par (tabF one other) t n p = some ((t.drop p).map (ixn one))
  | 0, p, hn => by
    rw [List.drop_of_length_le (by omega)]
    rfl
  | n + 1, p, hn => by
    have hp : p < t.length := by omega
    have hc := allF_at h (List.getElem_mem hp)
    obtain ⟨h1, _⟩ := ix_at hc
    unfold par
    rw [if_pos hp, best_one o hp hc]
    have hl : lenK (tabF one other) (ixn one t[p]) = 1 := by
      unfold lenK
      rw [tabF_at h1]
      rfl
    simp only
    rw [hl, par_one o h n (p + max 1 1) (by omega), List.drop_eq_getElem_cons hp]
    rfl
theorem told_one (o : okF one) {t : List Nat} (h : allF one t = true) (ht : t.length ≤ 1000) : f_told [dT (tabF one other), .str t] = .ok (.str ((t.map (ixn one)).map fun k => other.getD k 0)) := by
  rw [told_eq (tabF_ok o) t ht]
  unfold parF
  rw [par_one o h _ 0 (by omega), List.drop_zero]
  simp only
  congr 2
  unfold outF
  have : ∀ ks : List Nat, (∀ k ∈ ks, k < one.length) → (ks.map fun k => match (tabF one other)[k]? with | some x => x.r | none => []).flatten = ks.map fun k => other.getD k 0 := by
    intro ks
    induction ks with
    | nil => intro _; rfl
    | cons k r ih =>
      intro hk
      rw [List.map_cons, List.flatten_cons, ih fun x hx => hk x (List.mem_cons_of_mem _ hx), tabF_at (hk k List.mem_cons_self)]
      rfl
  exact this _ fun k hk => by
    obtain ⟨c, hc, rfl⟩ := List.mem_map.mp hk
    exact (ix_at (allF_at h hc)).1
theorem wrd_told (o1 : okF one) (hl : one.length ≤ other.length) (n : Nat) : ((wrd one n).map (ixn one)).map (fun k => other.getD k 0) = wrd (other.take one.length) n := by
  have h2 := o1.n2
  have htl : (other.take one.length).length = one.length := by rw [List.length_take]; omega
  have hg : ∀ k, k < one.length → (other.take one.length).getD k 0 = other.getD k 0 := fun k hk => by
    rw [getD_at (show k < (other.take one.length).length by omega), getD_at (show k < other.length by omega), List.getElem_take]
  unfold wrd
  rw [htl]
  by_cases h : n = 0
  · rw [if_pos h, if_pos h, hg 0 (by omega)]
    rw [getD_at (show 0 < one.length by omega)]
    simp only [List.map_cons, List.map_nil]
    rw [ix_nd o1.nd (by omega)]
  · rw [if_neg h, if_neg h, ix_map o1 (ks := digs one.length n) (dig_lt (by omega) _ _)]
    refine List.map_congr_left fun k hk => ?_
    exact (hg k (dig_lt (b := one.length) (by omega) _ _ k hk)).symm
end
/-! ### what are figures -/
def gF (t : List Nat) : Bool := t.all okc && decide t.Nodup && decide (2 ≤ t.length ∧ t.length ≤ 40)
theorem inD_dkv (c : Nat) (a : List Nat) : inD (.str [c]) (.dic (a.map dkv)) = .ok (.bl (decide (c ∈ a))) := by
  show (if isKey (.str [c]) = true then R.ok (Dat.bl (dicGet (a.map dkv) (.str [c])).isSome) else .bad) = _
  rw [if_pos (show isKey (.str [c]) = true from rfl)]
  congr 2
  induction a with
  | nil => rfl
  | cons x r ih =>
    unfold dicGet at ih ⊢
    simp only [List.map_cons, List.find?_cons, keyEq, eqv_str]
    by_cases h : x = c
    · subst h; simp
    · have : (([x] : List Nat) == [c]) = false := by simpa using h
      rw [this]
      simp only [Option.isSome_map] at ih ⊢
      rw [ih]
      simp [Ne.symm h]
theorem put_dkv {c : Nat} {a : List Nat} (h : c ∉ a) : dicPut (a.map dkv) (.str [c]) (.bl true) = (a ++ [c]).map dkv := by
  have := put_dk a c
  rw [if_neg h] at this
  exact this
theorem check_figures_eq {t : List Nat} (ht : t.length ≤ 1000) : f_check_figures [.str t] = if gF t = true then .ok .non else .exc 2 := by
  refine run_at (s := b_check_figures) [some (.str t), none, none] ?_
  unfold b_check_figures
  refine wp_seqN (ρ' := [some (.str t), some (.dic []), none]) (by rw [sNew_dic (xs := []) (by simp) (by simp)]; rfl) ?_
  refine wp_seq ?_
  rw [sFor_ap]
  simp only [iOf_ap, eV_zero, R.bnd_ok, itemsD_str, lft_ok]
  show wp (forL _ _ (t.map sg) _) _
  have bad : ∀ k (hk : k < t.length), ¬ (okc t[k] = true ∧ t[k] ∉ t.take k) → gF t = false := fun k hk h => by
    unfold gF
    rw [← Bool.not_eq_true, Bool.and_eq_true, Bool.and_eq_true, decide_eq_true_iff]
    rintro ⟨⟨h1, h2⟩, _⟩
    refine h ⟨List.all_eq_true.mp h1 _ (List.getElem_mem hk), fun hm => ?_⟩
    rw [← List.take_append_drop k t, List.nodup_append] at h2
    refine h2.2.2 _ hm t[k] ?_ rfl
    rw [List.drop_eq_getElem_cons hk]
    exact List.mem_cons_self
  refine wp_forX (fun k ρ => (t.take k).all okc = true ∧ (t.take k).Nodup ∧ ∃ o, ρ = [some (.str t), some (.dic ((t.take k).map dkv)), o]) ⟨by simp, by simp, none, rfl⟩ (fun k d ρ hk ⟨w1, w2, o, e⟩ => ?_) (fun ρ ⟨w1, w2, o, e⟩ => ?_)
  · obtain ⟨k1, rfl⟩ := map_get hk
    subst e
    have hb := bad k k1
    rw [List.take_succ_eq_append_getElem k1]
    have htk : (t.take k).length ≤ 1000 := by rw [List.length_take]; omega
    generalize t[k] = c at hb
    generalize t.take k = a at w1 w2 hb htk
    refine ⟨_, by simp only [gV_succ, gV_zero, R.bnd_ok]; rfl, ?_⟩
    refine wp_seq ?_
    have hch : (eChain leD leD (eC (.str [32])) (eV 2) (eC (.str [126]))) [some (.str t), some (.dic (a.map dkv)), some (sg c)] = .ok (.bl (okc c)) := by
      simp only [eChain_ap, eC_ap, eV_succ, eV_zero, R.bnd_ok, leD_one]
      unfold okc
      cases decide (32 ≤ c) <;> simp
    simp only [sIf_ap, tOr_ap, tNot_ap, tE_ap, hch, R.bnd_ok, tru_bl, e2_ap, eV_succ, eV_zero, inD_dkv]
    cases q : okc c with
    | false => simp [hb (fun z => by rw [q] at z; cases z.1)]
    | true =>
      simp only [Bool.not_true, Bool.false_eq_true, if_false, lft_ok]
      by_cases hm : c ∈ a
      · rw [if_pos (by simpa using hm), hb (fun z => z.2 hm)]
        simp
      · rw [if_neg (by simpa using hm)]
        simp only [sSkip_ap, wp_some, Nxt_nx]
        rw [sPut_dic (kvs := a.map dkv) (z := .str [c]) (d := .bl true) (by simp) (by simp) (by simp) rfl (by rw [List.length_map]; unfold LINE; omega), put_dkv hm]
        simp only [wp_some, Lp_nx, List.set_cons_succ, List.set_cons_zero]
        refine ⟨by rw [List.all_append, w1]; simp [q], ?_, _, rfl⟩
        rw [List.nodup_append]
        exact ⟨w2, by simp, fun x hx y hy => by rw [List.mem_singleton] at hy; subst hy; exact fun z => hm (z ▸ hx)⟩
  · subst e
    rw [List.length_map, List.take_length] at w1 w2
    unfold gF
    rw [w1, decide_eq_true w2]
    simp only [Nxt_nx, Bool.true_and, sIf_ap, tNot_ap, tE_ap, eChain_ap, e1_ap, eC_ap, eV_zero, R.bnd_ok, lenD_str, leD_int, d_MOST_FIGURES]
    by_cases h1 : 2 ≤ t.length
    · rw [show decide ((2 : Int) ≤ t.length) = true from decide_eq_true (by omega)]
      by_cases h2 : t.length ≤ 40
      · rw [show decide ((t.length : Int) ≤ 40) = true from decide_eq_true (by omega)]
        simp [h1, h2]
      · rw [show decide ((t.length : Int) ≤ 40) = false from decide_eq_false (by omega)]
        simp [h1, h2]
    · rw [show decide ((2 : Int) ≤ t.length) = false from decide_eq_false (by omega)]
      simp [h1]
def wF (g : Bool) : List Nat := if g then [103, 111, 111, 100] else [98, 97, 100]
theorem checked_eq {t : List Nat} (ht : t.length ≤ 1000) : f__law_checked [.str t] = .ok (.str (wF (gF t))) := by
  refine run_at (s := b__law_checked) [some (.str t), none] ?_
  unfold b__law_checked
  rw [sTry_ap]
  simp only [sRet_ap, e1_ap, e2_ap, eCall_ap, eCons_ap, eNil_ap, eV_zero, R.bnd_ok, check_figures_eq ht]
  cases gF t with
  | true => exact ⟨_, _, rfl, rfl⟩
  | false => exact ⟨_, _, rfl, rfl⟩
end PL.K51

set_option maxRecDepth 100000
namespace PL.K51
set_option autoImplicit false
theorem same_eq (n : Nat) : f__law_same n = f_same n := by
  induction n with
  | zero => rfl
  | succ n ih =>
    show run 3 (b__law_same (f__law_same n)) = _
    rw [ih]
    rfl
theorem same12 {d : Dat} (h : gd 11 d) : f__law_same 12 [d, d] = .ok (.bl true) := by
  rw [same_eq]
  exact same_refl 11 d h
theorem cellK (ns : List Int) (h : ns.length ≤ 63) (k : Nat) : ∃ z : Int, f__law_cell [.lst (ns.map .int), .int k] = .ok (.int z) := cell_ok ns k (by omega)
theorem numsK (z : Int) (count : Nat) (h : count ≤ 1000) : ∃ l : List Nat, f__law_numbers [.int z, .int count, .int 5040] = .ok (nums l) ∧ l.length = count ∧ ∀ x ∈ l, x < 5040 := numbers_ok z count 5040 (by omega) (by decide) (by decide)
theorem cut0 {α : Type} {xs : List α} {k : Nat} : cut xs (some 0) (some (k : Int)) = xs.take k := by
  have := cut_nat (xs := xs) (j := 0) (k := k)
  rw [show ((0 : Nat) : Int) = 0 from rfl] at this
  rw [this]
  simp
theorem modN {l : List Nat} {k : Nat} (h : k < l.length) {z : Int} (e : z = (k : Int)) {m : Nat} (hm : 0 < m) {y : Int} (ey : y = (m : Int)) : ((idxD (nums l) (.int z)).bnd fun x => modD x (.int y)) = .ok (.int ((l[k] % m : Nat) : Int)) := by
  subst ey
  rw [idxN h e]
  exact modD_nat hm
/-! ### the pool -/
def pool : List Nat := [32, 33, 34, 35, 36, 38, 39, 40, 41, 42, 43, 44, 45, 46, 47, 48, 49, 50, 51, 52, 53, 54, 55, 56, 57, 58, 59, 60, 61, 62, 63, 64, 65, 66, 67, 68, 69, 70, 71, 72, 73, 74, 75, 76, 77, 78, 79, 80, 81, 82, 83, 84, 85, 86, 87, 88, 89, 90, 91, 92, 93, 94, 95, 96, 97, 98, 99, 100, 101, 102, 103, 104, 105, 106, 107, 108, 109, 110, 111, 112, 113, 114, 115, 116, 117, 118, 119, 120, 121, 122, 123, 125, 126]
theorem pool_ok : pool.length = 93 ∧ pool.Nodup ∧ ∀ c ∈ pool, okc c = true := ⟨by decide, by decide +kernel, by decide +kernel⟩
theorem pool_eq (d : Nat) : ∃ ev : List Nat, f__law_pool [.int (d : Nat)] = .ok (.str ev) ∧ ev.length = 93 ∧ ev.Nodup ∧ ∀ c ∈ ev, okc c = true := by
  obtain ⟨p1, p2, p3⟩ := pool_ok
  have key : wp (b__law_pool [some (.int (d : Nat)), none]) fun f _ => ∃ ev : List Nat, endR f = .ok (.str ev) ∧ ev.length = 93 ∧ ev.Nodup ∧ ∀ c ∈ ev, okc c = true := by
    unfold b__law_pool
    refine wp_seqN (ρ' := [some (.int (d : Nat)), some (.str pool)]) (by simp only [sAsg_ap, eC_ap, lft_ok, gV_succ, gV_zero, R.bnd_ok, gok_ok]; rfl) ?_
    refine wp_seqE (fun ρ => ∃ b : List Nat, b.length = 93 ∧ b.Nodup ∧ (∀ c ∈ b, okc c = true) ∧ ρ = [some (.int (d : Nat)), some (.str b)]) ?_ fun ρ ⟨b, b1, b2, b3, e⟩ => ?_
    · simp only [sIf_ap, tE_ap, e2_ap, eC_ap, eV_zero, R.bnd_ok]
      rw [show fdivD (.int (d : Nat)) (.int 93) = .ok (.int ((d / 93 : Nat) : Int)) from fdivD_nat (j := 93) (by decide) (by decide)]
      simp only [R.bnd_ok]
      rw [show modD (.int ((d / 93 : Nat) : Int)) (.int 2) = .ok (.int ((d / 93 % 2 : Nat) : Int)) from modD_nat (j := 2) (by decide)]
      simp only [R.bnd_ok, eqD_int, tru_bl, lft_ok]
      split
      · simp only [sAsg_ap, e1_ap, eV_succ, eV_zero, R.bnd_ok, revD_str, lft_ok, gV_succ, gV_zero, gok_ok, wp_some]
        exact ⟨trivial, pool.reverse, by simpa using p1, (List.reverse_perm _).nodup_iff.mpr p2, fun c hc => p3 c (List.mem_reverse.mp hc), rfl⟩
      · simp only [sSkip_ap, wp_some]
        exact ⟨trivial, pool, p1, p2, p3, rfl⟩
    · subst e
      simp only [sRet_ap, e2_ap, eSli_ap, pS_ap, pN_ap, eC_ap, eV_succ, eV_zero, R.bnd_ok]
      rw [show modD (.int (d : Nat)) (.int 93) = .ok (.int ((d % 93 : Nat) : Int)) from modD_nat (j := 93) (by decide)]
      simp only [R.bnd_ok, optInt_int, sliD_str, cut_from, cut0]
      rw [addD_str (by rw [List.length_drop, List.length_take]; unfold LINE; omega)]
      simp only [lft_ok, wp_some, endR_rt]
      have pm : (b.drop (d % 93) ++ b.take (d % 93)).Perm b := by
        refine List.perm_append_comm.trans ?_
        rw [List.take_append_drop]
      exact ⟨_, rfl, by rw [pm.length_eq]; exact b1, pm.nodup_iff.mpr b2, fun c hc => b3 c (pm.mem_iff.mp hc)⟩
  obtain ⟨f, ρ, e, ev, h1, h2⟩ := key
  exact ⟨ev, run_at _ ⟨f, ρ, e, h1⟩, h2⟩
/-! ### drawn numbers -/
def mt (z : Int) : Nat := (z % (((TOP : Nat) : Int) + 1)).toNat
theorem drawn_eq (ns : List Int) (hns : ns.length ≤ 63) {b : Nat} (hb : b ≤ 1000) : ∃ L : List Nat, f__law_drawn [.lst (ns.map .int), .int 1, .int (b : Nat)] = .ok (dNats L) ∧ L.length ≤ 11 ∧ ∀ n ∈ L, n ≤ TOP := by
  obtain ⟨z, hz⟩ := cellK ns hns 1
  obtain ⟨so, hso, hsl, _⟩ := numsK z 14 (by decide)
  have key : wp (b__law_drawn [some (.lst (ns.map .int)), some (.int 1), some (.int (b : Nat)), none, none, none, none, none]) fun f _ => ∃ L : List Nat, endR f = .ok (dNats L) ∧ L.length ≤ 11 ∧ ∀ n ∈ L, n ≤ TOP := by
    unfold b__law_drawn
    refine wp_seqN (ρ' := [some (.lst (ns.map .int)), some (.int 1), some (.int (b : Nat)), some (nums so), none, none, none, none]) ?_ ?_
    · simp only [sAsg_ap, eCall_ap, eCons_ap, eNil_ap, eC_ap, eV_succ, eV_zero, R.bnd_ok]
      rw [show f__law_cell [.lst (ns.map .int), .int 1] = .ok (.int z) from hz]
      simp only [R.bnd_ok]
      rw [show f__law_numbers [.int z, .int 14, .int 5040] = .ok (nums so) from hso]
      simp only [lft_ok, gV_succ, gV_zero, R.bnd_ok, gok_ok]
    refine wp_seqN (ρ' := [some (.lst (ns.map .int)), some (.int 1), some (.int (b : Nat)), some (nums so), some (.int 0), none, none, none]) (by simp) ?_
    refine wp_seqE (fun ρ => ∃ (x : Int) (o : Option Dat), ρ = [some (.lst (ns.map .int)), some (.int 1), some (.int (b : Nat)), some (nums so), some (.int x), o, none, none]) ?_ fun ρ ⟨x, o, e⟩ => ?_
    · have h0 := modN (l := so) (k := 0) (by omega) (z := 0) rfl (m := 12) (by decide) (y := 12) rfl
      have hm : so[0]'(by omega) % 12 < 12 := Nat.mod_lt _ (by decide)
      rw [sFor_ap]
      simp only [iR1_ap, e2_ap, eC_ap, eV_succ, eV_zero, R.bnd_ok, h0, addD_int]
      generalize so[0]'(by omega) % 12 = m at hm
      rw [show ((1 : Int) + (m : Int)) = ((1 + m : Nat) : Int) by omega, rng1_nat (by omega)]
      simp only [lft_ok]
      refine wp_for (fun k ρ => ∃ (x : Int) (o : Option Dat), ρ = [some (.lst (ns.map .int)), some (.int 1), some (.int (b : Nat)), some (nums so), some (.int x), o, none, none]) ⟨0, none, rfl⟩ (fun k d ρ hk ⟨x, o, e⟩ => ?_) (fun ρ h => ⟨rfl, h⟩)
      obtain ⟨hk2, rfl⟩ := range_get hk
      subst e
      refine ⟨_, by simp only [gV_succ, gV_zero, R.bnd_ok]; rfl, ?_⟩
      simp only [sAsg_ap, e2_ap, eC_ap, eV_succ, eV_zero, R.bnd_ok, addD_int]
      rw [mulD_int (show small64 x ∨ small64 5040 from .inr ⟨by omega, by omega⟩), idxN (k := 1 + k) (by omega) (by omega)]
      simp only [R.bnd_ok, addD_int, lft_ok, gV_succ, gV_zero, gok_ok, wp_some]
      exact ⟨.inl trivial, _, _, rfl⟩
    subst e
    refine wp_seqN (ρ' := [some (.lst (ns.map .int)), some (.int 1), some (.int (b : Nat)), some (nums so), some (.int x), o, some (.int 1), none]) (by simp) ?_
    refine wp_seqE (fun ρ => ∃ (y : Int) (o : Option Dat), ρ = [some (.lst (ns.map .int)), some (.int 1), some (.int (b : Nat)), some (nums so), some (.int x), o, some (.int y), none]) ?_ fun ρ ⟨y, o, e⟩ => ?_
    · have h0 := modN (l := so) (k := 1) (by omega) (z := 1) rfl (m := 30) (by decide) (y := 30) rfl
      have hm : so[1]'(by omega) % 30 < 30 := Nat.mod_lt _ (by decide)
      rw [sFor_ap]
      simp only [iR1_ap, e2_ap, eC_ap, eV_succ, eV_zero, R.bnd_ok, h0]
      generalize so[1]'(by omega) % 30 = m at hm
      rw [rng1_nat (by omega)]
      simp only [lft_ok]
      refine wp_for (fun k ρ => ∃ (y : Int) (o : Option Dat), ρ = [some (.lst (ns.map .int)), some (.int 1), some (.int (b : Nat)), some (nums so), some (.int x), o, some (.int y), none]) ⟨1, o, rfl⟩ (fun k d ρ hk ⟨y, o, e⟩ => ?_) (fun ρ h => ⟨rfl, h⟩)
      obtain ⟨hk2, rfl⟩ := range_get hk
      subst e
      refine ⟨_, by simp only [gV_succ, gV_zero, R.bnd_ok]; rfl, ?_⟩
      simp only [sAsg_ap, e2_ap, eV_succ, eV_zero, R.bnd_ok]
      rw [mulR_int (by omega)]
      simp only [lft_ok, gV_succ, gV_zero, R.bnd_ok, gok_ok, wp_some]
      exact ⟨.inl trivial, _, _, rfl⟩
    subst e
    refine wp_seqE (fun ρ => ∃ (zs : List Int), zs.length = 11 ∧ ρ = [some (.lst (ns.map .int)), some (.int 1), some (.int (b : Nat)), some (nums so), some (.int x), o, some (.int y), some (.lst (zs.map .int))]) ?_ fun ρ ⟨zs, hzl, e⟩ => ?_
    · simp only [sAsg_ap, eLst_ap, eCons_ap, eNil_ap, e2_ap, eC_ap, eV_succ, eV_zero, R.bnd_ok]
      rw [idxN (k := 2) (z := 2) (by omega) rfl, mulR_int (by omega), pow60]
      simp only [R.bnd_ok, subD_int, addD_int]
      rw [if_pos (by simp [LINE])]
      simp only [lft_ok, gV_succ, gV_zero, R.bnd_ok, gok_ok, wp_some]
      exact ⟨trivial, [x, (so[2]'(by omega) : Nat), 0, 1, (b : Nat), (b : Int) * (b : Nat) - 1, (b : Nat) - 1, (TOP : Nat), y, y - 1, y + 1], rfl, rfl⟩
    subst e
    have hT : (0 : Int) < (TOP : Nat) + 1 := by omega
    rw [sRet_ap, eComp_of (ds := zs.map .int) (ys := (zs.map mt).map fun k => .int (k : Nat)) (by simp) (by
      rw [List.map_map]
      refine compL_map Dat.int (fun z => .int (mt z : Nat)) fun z hz => ⟨[some (.lst (ns.map .int)), some (.int 1), some (.int (b : Nat)), some (nums so), some (.int z), o, some (.int y), some (.lst (zs.map .int))], by simp [wipe], rfl, hz, ?_⟩
      simp only [e2_ap, eC_ap, eV_succ, eV_zero, R.bnd_ok, pow60, addD_int]
      rw [modD_int hT]
      have := Int.emod_nonneg z (show ((TOP : Nat) : Int) + 1 ≠ 0 by omega)
      unfold mt
      rw [Int.toNat_of_nonneg this]) (by rw [List.length_map, List.length_map]; unfold LINE; omega)]
    simp only [lft_ok, wp_some, endR_rt]
    refine ⟨_, rfl, by rw [List.length_map]; omega, fun n hn => ?_⟩
    obtain ⟨z, _, rfl⟩ := List.mem_map.mp hn
    have h1 := Int.emod_nonneg z (show ((TOP : Nat) : Int) + 1 ≠ 0 by omega)
    have h2 := Int.emod_lt_of_pos z hT
    unfold mt
    omega
  obtain ⟨f, ρ, e, L, h1, h2⟩ := key
  exact ⟨L, run_at _ ⟨f, ρ, e, h1⟩, h2⟩
end PL.K51

set_option maxRecDepth 100000
namespace PL.K51
set_option autoImplicit false
structure okX (ev fs os : List Nat) : Prop where
  f : okF fs
  o : 2 ≤ os.length ∧ os.length ≤ 40 ∧ os.Nodup
  ok : ∀ c ∈ ev, okc c = true
  fe : ∀ c ∈ fs, c ∈ ev
  dj : ∀ c ∈ fs, c ∉ os
  el : ev.length = 93
  fo : ∀ c ∈ fs, okc c = true
theorem okX.oF {ev fs os : List Nat} (h : okX ev fs os) : okF os := ⟨h.o.1, h.o.2.1, h.o.2.2⟩
def dup (s : List Nat) (k : Nat) : Bool := decide (s.getD k 0 ∈ s.take k)
theorem nodup_dup (s : List Nat) : ((((List.range s.length).filter (dup s)).length == 0) = decide s.Nodup) := by
  rw [Bool.eq_iff_iff, beq_iff_eq, decide_eq_true_iff, List.length_eq_zero_iff, List.filter_eq_nil_iff]
  constructor
  · intro h
    unfold List.Nodup
    rw [List.pairwise_iff_getElem]
    intro i j hi hj hij e
    refine h j (List.mem_range.mpr hj) ?_
    unfold dup
    rw [decide_eq_true_iff, getD_at hj, ← e]
    exact List.mem_take_iff_getElem.mpr ⟨i, by omega, rfl⟩
  · intro h k hk
    have hk := List.mem_range.mp hk
    unfold dup
    rw [decide_eq_true_iff, getD_at hk]
    intro hm
    obtain ⟨i, hi, e⟩ := List.mem_take_iff_getElem.mp hm
    exact List.pairwise_iff_getElem.mp h i k (by omega) hk (by omega) e
section
variable {ns : List Int} {dr ev fs os : List Nat} {x3 x4 x5 x6 x7 x8 x9 x10 x11 x12 x13 x14 x15 x16 x17 x18 x19 x20 x21 x22 x23 : Option Dat}
theorem good_ap {s : List Nat} (hs : s.length ≤ 1000) (h : ∀ c ∈ s, c = 10 ∨ okc c = true) : (eAnd (e2 geD (e1 lenD (eV 7)) (eC (.int 2))) (eAnd (e2 leD (e1 lenD (eV 7)) (eC (.int 40))) (eAnd (e2 notInD (eC (.str [10])) (eV 7)) (e2 eqD (e1 lenD (eComp (iR1 (e1 lenD (eV 7))) [18] (gV 18) (tE (e2 inD (e2 idxD (eV 7) (eV 18)) (eSli (pS (eC (.int 0))) (pS (eV 18)) (eV 7)))) (eV 18))) (eC (.int 0)))))) [some (.lst (ns.map .int)), some (nums dr), some (.str ev), some (.str fs), some (.str os), x5, x6, some (.str s), x8, x9, x10, x11, x12, x13, x14, x15, x16, x17, x18, x19, x20, x21, x22, x23] = .ok (.bl (gF s)) := by
  have hfl := List.length_filter_le (dup s) (List.range s.length)
  rw [List.length_range] at hfl
  have hd : (e2 eqD (e1 lenD (eComp (iR1 (e1 lenD (eV 7))) [18] (gV 18) (tE (e2 inD (e2 idxD (eV 7) (eV 18)) (eSli (pS (eC (.int 0))) (pS (eV 18)) (eV 7)))) (eV 18))) (eC (.int 0))) [some (.lst (ns.map .int)), some (nums dr), some (.str ev), some (.str fs), some (.str os), x5, x6, some (.str s), x8, x9, x10, x11, x12, x13, x14, x15, x16, x17, x18, x19, x20, x21, x22, x23] = .ok (.bl (decide s.Nodup)) := by
    rw [e2_ap, e1_ap, eComp_of (ds := (List.range s.length).map fun k => .int (k : Nat)) (ys := ((List.range s.length).filter (dup s)).map fun k => .int (k : Nat)) (by
      simp only [iR1_ap, e1_ap, eV_succ, eV_zero, R.bnd_ok, lenD_str]
      exact rng1_nat (by omega)) (by
      refine compL_filter (fun k : Nat => Dat.int (k : Nat)) (dup s) (fun k => Dat.int (k : Nat)) fun k hk => ⟨[some (.lst (ns.map .int)), some (nums dr), some (.str ev), some (.str fs), some (.str os), x5, x6, some (.str s), x8, x9, x10, x11, x12, x13, x14, x15, x16, x17, some (.int (k : Nat)), x19, x20, x21, x22, x23], by simp [wipe], ?_, fun _ => by simp⟩
      have hk := List.mem_range.mp hk
      simp only [tE_ap, e2_ap, eSli_ap, pS_ap, eC_ap, eV_succ, eV_zero, R.bnd_ok, fs_at hk, optInt_int, sliD_str, cut0, inD_one, tru_bl]
      rfl) (by rw [List.length_map]; unfold LINE; omega)]
    simp only [R.bnd_ok, lenD_lst, List.length_map, eC_ap, eqD_int]
    rw [show (((((List.range s.length).filter (dup s)).length : Nat) : Int) == 0) = (((List.range s.length).filter (dup s)).length == 0) from beqI _ 0, nodup_dup]
  have h10 : decide (10 ∈ s) = !(s.all okc) := by
    rw [Bool.eq_iff_iff, decide_eq_true_iff, Bool.not_eq_true', ← Bool.not_eq_true, List.all_eq_true]
    constructor
    · intro z hh
      have := hh 10 z
      cases this
    · intro z
      refine Decidable.byContradiction fun hn => z fun c hc => ?_
      rcases h c hc with e | e
      · subst e; exact absurd hc hn
      · exact e
  rw [eAnd_ap, eAnd_ap, eAnd_ap, hd]
  simp only [e1_ap, e2_ap, eC_ap, eV_succ, eV_zero, R.bnd_ok, lenD_str, geD_int, leD_int, notIn_one, h10]
  unfold gF
  rw [show decide ((2 : Int) ≤ (s.length : Nat)) = decide (2 ≤ s.length) from leI 2 _, show decide (((s.length : Nat) : Int) ≤ 40) = decide (s.length ≤ 40) from leI _ 40]
  by_cases a : 2 ≤ s.length <;> by_cases b : s.length ≤ 40 <;> cases s.all okc <;> cases decide s.Nodup <;> simp [a, b]
theorem st6 {ts : List (List Nat)} (h : okX ev fs os) (hl : ts.length ≤ 10) (hts : ∀ s ∈ ts, s.length ≤ 1000 ∧ ∀ c ∈ s, c = 10 ∨ okc c = true) : wp (t_law_6 [some (.lst (ns.map .int)), some (nums dr), some (.str ev), some (.str fs), some (.str os), x5, some (dStrs ts), x7, x8, x9, x10, x11, x12, x13, x14, x15, x16, x17, x18, x19, x20, x21, x22, x23]) fun f ρ' => f = .nx ∧ ∃ x7 x8 : Option Dat, ρ' = [some (.lst (ns.map .int)), some (nums dr), some (.str ev), some (.str fs), some (.str os), x5, some (dStrs ts), x7, x8, x9, x10, x11, x12, x13, x14, x15, x16, x17, x18, x19, x20, x21, x22, x23] := by
  have hel := h.el
  unfold t_law_6
  rw [sFor_ap]
  simp only [iOf_ap, eLst_ap, eCons_ap, eNil_ap, e2_ap, eSli_ap, pS_ap, eC_ap, eV_succ, eV_zero, R.bnd_ok, optInt_int, sliD_str]
  rw [show cut ev (some 0) (some 41) = ev.take 41 from cut0 (k := 41), show cut ev (some 0) (some 40) = ev.take 40 from cut0 (k := 40), if_pos (by simp [LINE])]
  simp only [R.bnd_ok]
  rw [addD_lst (by simp; unfold LINE; omega)]
  simp only [R.bnd_ok, itemsD_lst, lft_ok]
  have hall : ∀ s ∈ ts ++ [ev.take 41, ev.take 40], s.length ≤ 1000 ∧ ∀ c ∈ s, c = 10 ∨ okc c = true := fun s hs => by
    rcases List.mem_append.mp hs with q | q
    · exact hts s q
    · simp only [List.mem_cons, List.not_mem_nil, or_false] at q
      rcases q with rfl | rfl
      · exact ⟨by rw [List.length_take]; omega, fun c hc => .inr (h.ok c (List.mem_of_mem_take hc))⟩
      · exact ⟨by rw [List.length_take]; omega, fun c hc => .inr (h.ok c (List.mem_of_mem_take hc))⟩
  show wp (forL _ _ (ts.map Dat.str ++ [ev.take 41, ev.take 40].map Dat.str) _) _
  rw [← List.map_append]
  refine wp_for (fun k ρ' => ∃ x7 x8 : Option Dat, ρ' = [some (.lst (ns.map .int)), some (nums dr), some (.str ev), some (.str fs), some (.str os), x5, some (dStrs ts), x7, x8, x9, x10, x11, x12, x13, x14, x15, x16, x17, x18, x19, x20, x21, x22, x23]) ⟨x7, x8, rfl⟩ (fun k d ρ hk ⟨x7, x8, e⟩ => ?_) (fun ρ h => ⟨rfl, h⟩)
  obtain ⟨k1, rfl⟩ := map_get hk
  subst e
  obtain ⟨s1, s2⟩ := hall _ (List.getElem_mem k1)
  generalize (ts ++ [ev.take 41, ev.take 40])[k] = s at s1 s2
  refine ⟨_, by simp only [gV_succ, gV_zero, R.bnd_ok]; rfl, ?_⟩
  refine wp_seqN (ρ' := [some (.lst (ns.map .int)), some (nums dr), some (.str ev), some (.str fs), some (.str os), x5, some (dStrs ts), some (.str s), some (.bl (gF s)), x9, x10, x11, x12, x13, x14, x15, x16, x17, x18, x19, x20, x21, x22, x23]) (by
    rw [sAsg_ap, good_ap (x6 := some (dStrs ts)) s1 s2]
    simp only [lft_ok, gV_succ, gV_zero, R.bnd_ok, gok_ok]) ?_
  simp only [sIf_ap, tE_ap, e1_ap, e2_ap, eCall_ap, eCons_ap, eNil_ap, eLst_ap, eC_ap, eV_succ, eV_zero, R.bnd_ok, checked_eq s1, intD_bl]
  rw [if_pos (by simp [LINE])]
  simp only [R.bnd_ok]
  have hw : idxD (.lst [.str [98, 97, 100], .str [103, 111, 111, 100]]) (.int (b2i (gF s))) = .ok (.str (wF (gF s))) := by cases gF s <;> rfl
  rw [hw]
  simp only [R.bnd_ok, neD_str, tru_bl, lft_ok]
  rw [show (!(wF (gF s) == wF (gF s))) = false by simp]
  simp only [Bool.false_eq_true, if_false, sSkip_ap, wp_some]
  exact ⟨.inl trivial, _, _, rfl⟩
theorem okX.gF {ev fs os : List Nat} (h : okX ev fs os) : gF fs = true := by
  unfold K51.gF
  rw [List.all_eq_true.mpr h.fo, decide_eq_true h.f.nd, decide_eq_true ⟨h.f.n2, h.f.n40⟩]
  rfl
theorem st7 (h : okX ev fs os) (hd : dr.length = 8) : wp (t_law_7 [some (.lst (ns.map .int)), some (nums dr), some (.str ev), some (.str fs), some (.str os), x5, x6, x7, x8, x9, x10, x11, x12, x13, x14, x15, x16, x17, x18, x19, x20, x21, x22, x23]) fun f ρ' => f = .nx ∧ ρ' = [some (.lst (ns.map .int)), some (nums dr), some (.str ev), some (.str fs), some (.str os), x5, x6, x7, x8, x9, x10, x11, x12, x13, x14, x15, x16, x17, x18, x19, x20, x21, x22, x23] := by
  have h40 := h.f.n40
  unfold t_law_7
  simp only [sIf_ap, tOr_ap, tNot_ap, tE_ap, e1_ap, e2_ap, eCall_ap, eCons_ap, eNil_ap, eC_ap, eV_succ, eV_zero, R.bnd_ok, checked_eq (show fs.length ≤ 1000 by omega), h.gF]
  rw [show neD (.str (wF true)) (.str [103, 111, 111, 100]) = .ok (.bl false) from rfl]
  simp only [R.bnd_ok, tru_bl, Bool.false_eq_true, if_false, negD_int]
  rw [idxN (k := 5) (z := 5) (by omega) rfl, pow60]
  simp only [R.bnd_ok, subD_int, addD_int]
  rw [show fdivD (.int (dr[5]'(by omega) : Nat)) (.int 7) = .ok (.int ((dr[5]'(by omega) / 7 : Nat) : Int)) from fdivD_nat (j := 7) (by decide) (by decide)]
  simp only [R.bnd_ok, addD_int]
  have hr1 : ∀ z : Int, ¬ (0 ≤ z ∧ z ≤ (TOP : Nat)) → f__law_refused [.str fs, .int z] = .ok (.bl true) := fun z hz => refused_eq hz
  rw [hr1 _ (by omega), hr1 _ (by omega)]
  simp
def dC (b n : Nat) : Dat := .tup [.int (n : Nat), .int ((dgs b n).length : Nat), dNats (dgs b n)]
theorem st9 (hns : ns.length ≤ 63) (h : okX ev fs os) : wp (t_law_9 [some (.lst (ns.map .int)), some (nums dr), some (.str ev), some (.str fs), some (.str os), x5, x6, x7, x8, some (.lst []), x10, x11, x12, x13, x14, x15, x16, x17, x18, x19, x20, x21, x22, x23]) fun f ρ' => f = .nx ∧ ∃ (L : List Nat) (x10 x11 x12 : Option Dat), (∀ n ∈ L, n ≤ TOP) ∧ ρ' = [some (.lst (ns.map .int)), some (nums dr), some (.str ev), some (.str fs), some (.str os), x5, x6, x7, x8, some (.lst (L.map (dC fs.length))), x10, x11, x12, x13, x14, x15, x16, x17, x18, x19, x20, x21, x22, x23] := by
  have h40 := h.f.n40
  have ht := top_lt
  obtain ⟨N, hN, hNl, hNt⟩ := drawn_eq ns hns (b := fs.length) (by omega)
  unfold t_law_9
  rw [sFor_ap]
  simp only [iOf_ap, eCall_ap, eCons_ap, eNil_ap, e1_ap, eC_ap, eV_succ, eV_zero, R.bnd_ok, lenD_str, hN, itemsD_lst, lft_ok]
  refine wp_for (fun k ρ' => ∃ x10 x11 x12 : Option Dat, ρ' = [some (.lst (ns.map .int)), some (nums dr), some (.str ev), some (.str fs), some (.str os), x5, x6, x7, x8, some (.lst ((N.take k).map (dC fs.length))), x10, x11, x12, x13, x14, x15, x16, x17, x18, x19, x20, x21, x22, x23]) ⟨x10, x11, x12, rfl⟩ (fun k d ρ hk ⟨x10, x11, x12, e⟩ => ?_) (fun ρ ⟨x10, x11, x12, e⟩ => ⟨rfl, N, x10, x11, x12, hNt, by rw [List.length_map, List.take_length] at e; exact e⟩)
  obtain ⟨k1, rfl⟩ := map_get hk
  subst e
  rw [List.take_succ_eq_append_getElem k1]
  have hn := hNt _ (List.getElem_mem k1)
  have hTk : (N.take k).length ≤ 11 := by rw [List.length_take]; omega
  generalize N.take k = M at hTk
  generalize N[k] = n at hn
  have hn2 : n < 2 ^ 209 := Nat.lt_of_le_of_lt hn ht
  have hwl := wrd_len fs n
  have hcl : (cnt fs n).length ≤ 210 := by unfold cnt dgs; rw [List.length_map]; exact dgc_len _ _ _
  have hcdl : (cnt fs n).length = (dgs fs.length n).length := by unfold cnt; rw [List.length_map]
  refine ⟨_, by simp only [gV_succ, gV_zero, R.bnd_ok]; rfl, ?_⟩
  refine wp_seqN (ρ' := [some (.lst (ns.map .int)), some (nums dr), some (.str ev), some (.str fs), some (.str os), x5, x6, x7, x8, some (.lst (M.map (dC fs.length))), some (.int (n : Nat)), some (.str (wrd fs n)), x12, x13, x14, x15, x16, x17, x18, x19, x20, x21, x22, x23]) (by simp only [sAsg_ap, eCall_ap, eCons_ap, eNil_ap, eV_succ, eV_zero, R.bnd_ok, lwritten_eq h.f hn2, lft_ok, gV_succ, gV_zero, gok_ok]) ?_
  have hr : rN fs (wrd fs n) = .ok (.int (n : Nat)) := by
    unfold rN
    rw [wrd_all h.f, isW_wrd h.f hn, val_wrd h.f hn2]
    rfl
  refine wp_seqN (ρ' := [some (.lst (ns.map .int)), some (nums dr), some (.str ev), some (.str fs), some (.str os), x5, x6, x7, x8, some (.lst (M.map (dC fs.length))), some (.int (n : Nat)), some (.str (wrd fs n)), x12, x13, x14, x15, x16, x17, x18, x19, x20, x21, x22, x23]) (by simp only [sIf_ap, tOr_ap, tNot_ap, tE_ap, eCall_ap, eCons_ap, eNil_ap, eV_succ, eV_zero, R.bnd_ok, write_number_eq h.f hn, same12 (show gd 11 (.str (wrd fs n)) from trivial), tru_bl, Bool.not_true, Bool.false_eq_true, if_false, read_number_eq h.f (show (wrd fs n).length ≤ 1000 by omega), hr, same12 (show gd 11 (.int (n : Nat)) from trivial), lft_ok, sSkip_ap]) ?_
  refine wp_seqN (ρ' := [some (.lst (ns.map .int)), some (nums dr), some (.str ev), some (.str fs), some (.str os), x5, x6, x7, x8, some (.lst (M.map (dC fs.length))), some (.int (n : Nat)), some (.str (wrd fs n)), some (.str (cnt fs n)), x13, x14, x15, x16, x17, x18, x19, x20, x21, x22, x23]) (by simp only [sAsg_ap, eCall_ap, eCons_ap, eNil_ap, eV_succ, eV_zero, R.bnd_ok, write_count_eq h.f hn, lft_ok, gV_succ, gV_zero, gok_ok]) ?_
  have hv : dV fs (cnt fs n) 1 = .int (n : Nat) := by
    unfold dV
    rw [cnt_all h.f, val_cnt h.f hn2]
    rfl
  refine wp_seqN (ρ' := [some (.lst (ns.map .int)), some (nums dr), some (.str ev), some (.str fs), some (.str os), x5, x6, x7, x8, some (.lst (M.map (dC fs.length))), some (.int (n : Nat)), some (.str (wrd fs n)), some (.str (cnt fs n)), x13, x14, x15, x16, x17, x18, x19, x20, x21, x22, x23]) ?_ ?_
  · simp only [sIf_ap, tOr_ap, tNot_ap, tE_ap, e1_ap, e2_ap, eCall_ap, eCons_ap, eNil_ap, eC_ap, eV_succ, eV_zero, R.bnd_ok]
    rw [show isTy .str (.str (cnt fs n)) = .ok (.bl true) from rfl, show f__law_value [.str fs, .str (cnt fs n), .int 1] = .ok (dV fs (cnt fs n) 1) from lvalue_eq (show fs.length ≤ 1000 by omega) 1 (by omega), hv]
    simp only [R.bnd_ok, tru_bl, Bool.not_true, Bool.false_eq_true, if_false, neD_int]
    rw [show (!(((n : Nat) : Int) == (n : Nat))) = false by simp]
    simp only [Bool.false_eq_true, if_false, read_count_eq (show fs.length ≤ 1000 by omega), cnt_all h.f, if_true, val_cnt h.f hn2, R.bnd_ok, tru_bl, same12 (show gd 11 (.int (n : Nat)) from trivial), Bool.not_true, lft_ok, sSkip_ap]
  refine wp_seqN (ρ' := [some (.lst (ns.map .int)), some (nums dr), some (.str ev), some (.str fs), some (.str os), x5, x6, x7, x8, some (.lst (M.map (dC fs.length) ++ [dC fs.length n])), some (.int (n : Nat)), some (.str (wrd fs n)), some (.str (cnt fs n)), x13, x14, x15, x16, x17, x18, x19, x20, x21, x22, x23]) ?_ ?_
  · rw [sApp_ap (xs := M.map (dC fs.length)) (d := dC fs.length n) (by simp) ?_ (by rw [List.length_map]; unfold LINE; omega)]
    · simp
    · rw [eTup_ap, eCons_ap, eCons_ap, eCons_ap, eComp_of (ds := signs (cnt fs n)) (ys := ((cnt fs n).map (ixn fs)).map fun k => .int (k : Nat)) (by simp) (by
        rw [List.map_map]
        show compL _ _ _ _ ((cnt fs n).map sg) = _
        exact compL_map sg (fun c => .int (ixn fs c : Nat)) fun c hc => ⟨[some (.lst (ns.map .int)), some (nums dr), some (.str ev), some (.str fs), some (.str os), x5, x6, x7, x8, some (.lst (M.map (dC fs.length))), some (.int (n : Nat)), some (.str (wrd fs n)), some (.str (cnt fs n)), x13, x14, x15, x16, x17, x18, x19, x20, x21, x22, some (sg c)], by simp [wipe], rfl, hc, by simp only [eM1_ap, eV_succ, eV_zero, R.bnd_ok, isS_str, index_eq (allF_at (cnt_all h.f n) hc)]⟩) (by rw [List.length_map, List.length_map]; unfold LINE; omega)]
      simp only [e1_ap, eV_succ, eV_zero, R.bnd_ok, lenD_str, eNil_ap]
      rw [if_pos (by simp [LINE]), cnt_ix h.f, hcdl]
      rfl
  have fin : ∀ ρ : Env, ρ = [some (.lst (ns.map .int)), some (nums dr), some (.str ev), some (.str fs), some (.str os), x5, x6, x7, x8, some (.lst (M.map (dC fs.length) ++ [dC fs.length n])), some (.int (n : Nat)), some (.str (wrd fs n)), some (.str (cnt fs n)), x13, x14, x15, x16, x17, x18, x19, x20, x21, x22, x23] → ∃ x10 x11 x12 : Option Dat, ρ = [some (.lst (ns.map .int)), some (nums dr), some (.str ev), some (.str fs), some (.str os), x5, x6, x7, x8, some (.lst ((M ++ [n]).map (dC fs.length))), x10, x11, x12, x13, x14, x15, x16, x17, x18, x19, x20, x21, x22, x23] := fun ρ e => ⟨some (.int (n : Nat)), some (.str (wrd fs n)), some (.str (cnt fs n)), by rw [e, List.map_append]; rfl⟩
  simp only [sIf_ap, tAnd_ap, tE_ap, e1_ap, e2_ap, eV_succ, eV_zero, R.bnd_ok, lenD_str, geD_int, leI, tru_bl]
  by_cases hl : fs.length ≤ os.length
  · rw [decide_eq_true hl]
    have htab : (eComp (iR1 (e1 lenD (eV 3))) [18] (gV 18) tYes (eTup (eCons (e2 idxD (eV 3) (eV 18)) (eCons (e2 idxD (eV 4) (eV 18)) eNil)))) [some (.lst (ns.map .int)), some (nums dr), some (.str ev), some (.str fs), some (.str os), x5, x6, x7, x8, some (.lst (M.map (dC fs.length) ++ [dC fs.length n])), some (.int (n : Nat)), some (.str (wrd fs n)), some (.str (cnt fs n)), x13, x14, x15, x16, x17, x18, x19, x20, x21, x22, x23] = .ok (dT (tabF fs os)) := by
      refine eComp_of (ds := (List.range fs.length).map fun k => .int (k : Nat)) (by
        simp only [iR1_ap, e1_ap, eV_succ, eV_zero, R.bnd_ok, lenD_str]
        exact rng1_nat (by omega)) ?_ (by rw [List.length_map, tabF_len]; unfold LINE; omega)
      unfold tabF
      rw [List.map_map]
      refine compL_map (fun k : Nat => Dat.int (k : Nat)) (fun k => dI ⟨[fs.getD k 0], [os.getD k 0]⟩) fun k hk => ⟨[some (.lst (ns.map .int)), some (nums dr), some (.str ev), some (.str fs), some (.str os), x5, x6, x7, x8, some (.lst (M.map (dC fs.length) ++ [dC fs.length n])), some (.int (n : Nat)), some (.str (wrd fs n)), some (.str (cnt fs n)), x13, x14, x15, x16, x17, some (.int (k : Nat)), x19, x20, x21, x22, x23], by simp [wipe], rfl, hk, ?_⟩
      have hk := List.mem_range.mp hk
      simp only [eTup_ap, eCons_ap, eNil_ap, e2_ap, eV_succ, eV_zero, R.bnd_ok, fs_at hk, fs_at (show k < os.length by omega)]
      rw [if_pos (by simp [LINE])]
      rfl
    have ho : okF (os.take fs.length) := ⟨by rw [List.length_take]; have := h.f.n2; omega, by rw [List.length_take]; omega, h.o.2.2.sublist (List.take_sublist _ _)⟩
    have e2' : cut os (some 0) (some ((fs.length : Nat) : Int)) = os.take fs.length := cut0
    simp only [if_true, eCall_ap, eCons_ap, eNil_ap, htab, eSli_ap, pS_ap, e1_ap, eC_ap, eV_succ, eV_zero, R.bnd_ok, lenD_str, optInt_int, sliD_str, e2', told_one h.f (wrd_all h.f n) (show (wrd fs n).length ≤ 1000 by omega), wrd_told h.f hl n, lwritten_eq ho hn2, neD_str, tru_bl]
    rw [show (!(wrd (os.take fs.length) n == wrd (os.take fs.length) n)) = false by simp]
    simp only [lft_ok, Bool.false_eq_true, if_false, sSkip_ap, wp_some]
    exact ⟨.inl trivial, fin _ rfl⟩
  · rw [decide_eq_false hl]
    simp only [Bool.false_eq_true, if_false, lft_ok, sSkip_ap, wp_some]
    exact ⟨.inl trivial, fin _ rfl⟩
theorem st10 (h : okX ev fs os) {L : List Nat} (hL : ∀ n ∈ L, n ≤ TOP) : wp (t_law_10 [some (.lst (ns.map .int)), some (nums dr), some (.str ev), some (.str fs), some (.str os), x5, x6, x7, x8, some (.lst (L.map (dC fs.length))), x10, x11, x12, x13, x14, x15, x16, x17, x18, x19, x20, x21, x22, x23]) fun f ρ' => f = .nx ∧ ∃ x10 x13 x14 x15 x16 x17 : Option Dat, ρ' = [some (.lst (ns.map .int)), some (nums dr), some (.str ev), some (.str fs), some (.str os), x5, x6, x7, x8, some (.lst (L.map (dC fs.length))), x10, x11, x12, x13, x14, x15, x16, x17, x18, x19, x20, x21, x22, x23] := by
  have ht := top_lt
  unfold t_law_10
  rw [sFor_ap]
  simp only [iOf_ap, eV_succ, eV_zero, R.bnd_ok, itemsD_lst, lft_ok]
  refine wp_for (fun k ρ' => ∃ x10 x13 x14 x15 x16 x17 : Option Dat, ρ' = [some (.lst (ns.map .int)), some (nums dr), some (.str ev), some (.str fs), some (.str os), x5, x6, x7, x8, some (.lst (L.map (dC fs.length))), x10, x11, x12, x13, x14, x15, x16, x17, x18, x19, x20, x21, x22, x23]) ⟨x10, x13, x14, x15, x16, x17, rfl⟩ (fun k d ρ hk ⟨x10, x13, x14, x15, x16, x17, e⟩ => ?_) (fun ρ h => ⟨rfl, h⟩)
  obtain ⟨k1, rfl⟩ := map_get hk
  subst e
  have hn := hL _ (List.getElem_mem k1)
  generalize L[k] = n at hn
  refine ⟨[some (.lst (ns.map .int)), some (nums dr), some (.str ev), some (.str fs), some (.str os), x5, x6, x7, x8, some (.lst (L.map (dC fs.length))), some (.int (n : Nat)), x11, x12, some (.int ((dgs fs.length n).length : Nat)), some (dNats (dgs fs.length n)), x15, x16, x17, x18, x19, x20, x21, x22, x23], by simp [dC], ?_⟩
  rw [sFor_ap]
  simp only [iOf_ap, eV_succ, eV_zero, R.bnd_ok, itemsD_lst, lft_ok]
  refine wp_for (fun j ρ' => ∃ x15 x16 x17 : Option Dat, ρ' = [some (.lst (ns.map .int)), some (nums dr), some (.str ev), some (.str fs), some (.str os), x5, x6, x7, x8, some (.lst (L.map (dC fs.length))), some (.int (n : Nat)), x11, x12, some (.int ((dgs fs.length n).length : Nat)), some (dNats (dgs fs.length n)), x15, x16, x17, x18, x19, x20, x21, x22, x23]) ⟨x15, x16, x17, rfl⟩ (fun j d ρ hj ⟨x15, x16, x17, e⟩ => ?_) (fun ρ ⟨x15, x16, x17, e⟩ => ⟨.inl rfl, _, _, _, x15, x16, x17, e⟩)
  obtain ⟨j1, rfl⟩ := map_get hj
  subst e
  have hm := hL _ (List.getElem_mem j1)
  generalize L[j] = m at hm
  refine ⟨[some (.lst (ns.map .int)), some (nums dr), some (.str ev), some (.str fs), some (.str os), x5, x6, x7, x8, some (.lst (L.map (dC fs.length))), some (.int (n : Nat)), x11, x12, some (.int ((dgs fs.length n).length : Nat)), some (dNats (dgs fs.length n)), some (.int (m : Nat)), some (.int ((dgs fs.length m).length : Nat)), some (dNats (dgs fs.length m)), x18, x19, x20, x21, x22, x23], by simp [dC], ?_⟩
  have hord := order_eq h.f.n2 (Nat.lt_of_le_of_lt hn ht) (Nat.lt_of_le_of_lt hm ht)
  simp only [sIf_ap, tE_ap, e2_ap, eOr_ap, eAnd_ap, eV_succ, eV_zero, R.bnd_ok, ltD_int, eqD_int, ltD_nats, ltI, beqI]
  rw [hord]
  generalize decide ((dgs fs.length n).length < (dgs fs.length m).length) = p
  generalize ((dgs fs.length n).length == (dgs fs.length m).length) = q
  generalize lx (dgs fs.length n) (dgs fs.length m) = r
  have fin : ∀ b : Bool, wp (lft ((R.ok (Dat.bl b)).bnd fun y => (neD (.bl b) y).bnd tru) [some (.lst (ns.map .int)), some (nums dr), some (.str ev), some (.str fs), some (.str os), x5, x6, x7, x8, some (.lst (L.map (dC fs.length))), some (.int (n : Nat)), x11, x12, some (.int ((dgs fs.length n).length : Nat)), some (dNats (dgs fs.length n)), some (.int (m : Nat)), some (.int ((dgs fs.length m).length : Nat)), some (dNats (dgs fs.length m)), x18, x19, x20, x21, x22, x23] fun c => if c = true then sRet (eC (.bl false)) [some (.lst (ns.map .int)), some (nums dr), some (.str ev), some (.str fs), some (.str os), x5, x6, x7, x8, some (.lst (L.map (dC fs.length))), some (.int (n : Nat)), x11, x12, some (.int ((dgs fs.length n).length : Nat)), some (dNats (dgs fs.length n)), some (.int (m : Nat)), some (.int ((dgs fs.length m).length : Nat)), some (dNats (dgs fs.length m)), x18, x19, x20, x21, x22, x23] else sSkip [some (.lst (ns.map .int)), some (nums dr), some (.str ev), some (.str fs), some (.str os), x5, x6, x7, x8, some (.lst (L.map (dC fs.length))), some (.int (n : Nat)), x11, x12, some (.int ((dgs fs.length n).length : Nat)), some (dNats (dgs fs.length n)), some (.int (m : Nat)), some (.int ((dgs fs.length m).length : Nat)), some (dNats (dgs fs.length m)), x18, x19, x20, x21, x22, x23]) fun f ρ' => (f = .nx ∨ f = .ct) ∧ ∃ x15 x16 x17 : Option Dat, ρ' = [some (.lst (ns.map .int)), some (nums dr), some (.str ev), some (.str fs), some (.str os), x5, x6, x7, x8, some (.lst (L.map (dC fs.length))), some (.int (n : Nat)), x11, x12, some (.int ((dgs fs.length n).length : Nat)), some (dNats (dgs fs.length n)), x15, x16, x17, x18, x19, x20, x21, x22, x23] := by
    intro b
    simp only [R.bnd_ok, neD_bl, tru_bl, lft_ok]
    rw [show (!(b == b)) = false by simp]
    simp only [Bool.false_eq_true, if_false, sSkip_ap, wp_some]
    exact ⟨.inl trivial, _, _, _, rfl⟩
  cases p <;> cases q <;> cases r <;> exact fin _
end
end PL.K51

set_option maxRecDepth 100000
namespace PL.K51
set_option autoImplicit false
section
variable {ns : List Int} {dr ev fs os : List Nat} {x3 x4 x5 x6 x7 x8 x9 x10 x11 x12 x13 x14 x15 x16 x17 x18 x19 x20 x21 x22 x23 : Option Dat}
theorem gd_dN (fs t : List Nat) : gd 11 (dN fs t) := by
  unfold dN
  split <;> trivial
theorem gd_dV (fs t : List Nat) (k : Nat) : gd 11 (dV fs t k) := by
  unfold dV
  split <;> trivial
theorem st11 (hns : ns.length ≤ 63) (h : okX ev fs os) : wp (t_law_11 [some (.lst (ns.map .int)), some (nums dr), some (.str ev), some (.str fs), some (.str os), x5, x6, x7, x8, x9, x10, x11, x12, x13, x14, x15, x16, x17, x18, x19, x20, x21, x22, x23]) fun f ρ' => f = .nx ∧ ∃ x7 x18 x19 x20 x21 x22 x23 : Option Dat, ρ' = [some (.lst (ns.map .int)), some (nums dr), some (.str ev), some (.str fs), some (.str os), x5, x6, x7, x8, x9, x10, x11, x12, x13, x14, x15, x16, x17, x18, x19, x20, x21, x22, x23] := by
  have h40 := h.f.n40
  have h2 := h.f.n2
  unfold t_law_11
  rw [sFor_ap]
  simp only [iR1_ap, eC_ap, R.bnd_ok]
  rw [show rng1 (.int 3) = .ok ((List.range 3).map fun k => .int (k : Nat)) from rng1_nat (n := 3) (by omega)]
  simp only [lft_ok]
  refine wp_for (fun k ρ' => ∃ x7 x18 x19 x20 x21 x22 x23 : Option Dat, ρ' = [some (.lst (ns.map .int)), some (nums dr), some (.str ev), some (.str fs), some (.str os), x5, x6, x7, x8, x9, x10, x11, x12, x13, x14, x15, x16, x17, x18, x19, x20, x21, x22, x23]) ⟨x7, x18, x19, x20, x21, x22, x23, rfl⟩ (fun k d ρ hk ⟨x7, x18, x19, x20, x21, x22, x23, e⟩ => ?_) (fun ρ h => ⟨rfl, h⟩)
  obtain ⟨hk2, rfl⟩ := range_get hk
  subst e
  refine ⟨[some (.lst (ns.map .int)), some (nums dr), some (.str ev), some (.str fs), some (.str os), x5, x6, x7, x8, x9, x10, x11, x12, x13, x14, x15, x16, x17, some (.int (k : Nat)), x19, x20, x21, x22, x23], by simp only [gV_succ, gV_zero, R.bnd_ok], ?_⟩
  obtain ⟨z, hz⟩ := cellK ns hns (2 + k)
  obtain ⟨so, hso, hs, _⟩ := numsK z 62 (by decide)
  refine wp_seqN (ρ' := [some (.lst (ns.map .int)), some (nums dr), some (.str ev), some (.str fs), some (.str os), x5, x6, some (nums so), x8, x9, x10, x11, x12, x13, x14, x15, x16, x17, some (.int (k : Nat)), x19, x20, x21, x22, x23]) ?_ ?_
  · simp only [sAsg_ap, eCall_ap, eCons_ap, eNil_ap, e2_ap, eV_succ, eV_zero, eC_ap, R.bnd_ok, addD_int]
    rw [show ((2 : Int) + ((k : Nat) : Int)) = ((2 + k : Nat) : Int) by omega, hz]
    simp only [R.bnd_ok]
    rw [show f__law_numbers [.int z, .int 62, .int 5040] = .ok (nums so) from hso]
    simp only [lft_ok, gV_succ, gV_zero, R.bnd_ok, gok_ok]
  refine wp_seqE (fun ρ' => ∃ lt : List Nat, 0 < lt.length ∧ ρ' = [some (.lst (ns.map .int)), some (nums dr), some (.str ev), some (.str fs), some (.str os), x5, x6, some (nums so), x8, x9, x10, x11, x12, x13, x14, x15, x16, x17, some (.int (k : Nat)), some (.str lt), x20, x21, x22, x23]) ?_ fun ρ ⟨lt, hlt, e⟩ => ?_
  · have h0 := modN (l := so) (k := 0) (by omega) (z := 0) rfl (m := 3) (by decide) (y := 3) rfl
    have hm : so[0]'(by omega) % 3 < 3 := Nat.mod_lt _ (by decide)
    simp only [sAsg_ap, eLst_ap, eCons_ap, eNil_ap, eSli_ap, pS_ap, e2_ap, eC_ap, eV_succ, eV_zero, R.bnd_ok, h0, optInt_int, sliD_str]
    rw [show cut fs (some 0) (some 3) = fs.take 3 from cut0 (k := 3), addD_str (by first | (simp [LINE]; done) | (simp; unfold LINE; omega)), addD_str (by first | (simp [LINE]; done) | (simp; unfold LINE; omega))]
    simp only [R.bnd_ok]
    rw [if_pos (by simp [LINE])]
    simp only [R.bnd_ok]
    have hx : ∀ m : Nat, m < 3 → ∃ lt : List Nat, 0 < lt.length ∧ idxD (.lst [.str fs, .str (fs ++ [126]), .str (fs.take 3 ++ [32, 45])]) (.int (m : Nat)) = .ok (.str lt) := fun m hm => by
      match m, hm with
      | 0, _ => exact ⟨_, by omega, rfl⟩
      | 1, _ => exact ⟨_, by simp, rfl⟩
      | 2, _ => exact ⟨_, by simp, rfl⟩
    obtain ⟨lt, hlt, e⟩ := hx _ hm
    rw [e]
    simp only [lft_ok, gV_succ, gV_zero, R.bnd_ok, gok_ok, wp_some]
    exact ⟨trivial, lt, hlt, rfl⟩
  subst e
  refine wp_seqE (fun ρ' => ∃ tx : List Nat, tx.length ≤ 60 ∧ ρ' = [some (.lst (ns.map .int)), some (nums dr), some (.str ev), some (.str fs), some (.str os), x5, x6, some (nums so), x8, x9, x10, x11, x12, x13, x14, x15, x16, x17, some (.int (k : Nat)), some (.str lt), some (.str tx), x21, x22, x23]) ?_ fun ρ ⟨tx, htx, e⟩ => ?_
  · have h0 := modN (l := so) (k := 1) (by omega) (z := 1) rfl (m := 61) (by decide) (y := 61) rfl
    have hm : so[1]'(by omega) % 61 < 61 := Nat.mod_lt _ (by decide)
    generalize so[1]'(by omega) % 61 = sz at h0 hm
    rw [sAsg_ap]
    simp only [eM1_ap, eC_ap, R.bnd_ok, isS_str]
    have hat : ∀ j, j < sz → 2 + j < so.length := fun j hj => by omega
    rw [eComp_of (ds := (List.range sz).map fun k => .int (k : Nat)) (ys := ((List.range sz).map fun j => lt.getD (so.getD (2 + j) 0 % lt.length) 0).map fun c => .str [c]) (by
      simp only [iR1_ap, e2_ap, eC_ap, eV_succ, eV_zero, R.bnd_ok, h0]
      exact rng1_nat (by omega)) (by
      rw [List.map_map]
      refine compL_map (fun k : Nat => Dat.int (k : Nat)) (fun j => Dat.str [lt.getD (so.getD (2 + j) 0 % lt.length) 0]) fun j hj => ⟨[some (.lst (ns.map .int)), some (nums dr), some (.str ev), some (.str fs), some (.str os), x5, x6, some (nums so), x8, x9, x10, x11, x12, x13, x14, x15, x16, x17, some (.int (k : Nat)), some (.str lt), x20, x21, some (.int (j : Nat)), x23], by simp [wipe], rfl, hj, ?_⟩
      have hj := hat j (List.mem_range.mp hj)
      simp only [e1_ap, e2_ap, eC_ap, eV_succ, eV_zero, R.bnd_ok, addD_int, lenD_str]
      rw [idxN (k := 2 + j) hj (by omega)]
      simp only [R.bnd_ok]
      rw [modD_nat hlt]
      simp only [R.bnd_ok]
      rw [idxD_str (Nat.mod_lt _ hlt)]
      rw [List.getD_eq_getElem?_getD, List.getD_eq_getElem?_getD, List.getElem?_eq_getElem hj, Option.getD_some, List.getElem?_eq_getElem (Nat.mod_lt _ hlt), Option.getD_some]) (by simp; unfold LINE; omega)]
    simp only [R.bnd_ok]
    rw [joinD_ones (by simp; unfold LINE; omega)]
    simp only [lft_ok, gV_succ, gV_zero, R.bnd_ok, gok_ok, wp_some]
    exact ⟨trivial, _, by simp; omega, rfl⟩
  subst e
  refine wp_seqN (ρ' := [some (.lst (ns.map .int)), some (nums dr), some (.str ev), some (.str fs), some (.str os), x5, x6, some (nums so), x8, x9, x10, x11, x12, x13, x14, x15, x16, x17, some (.int (k : Nat)), some (.str lt), some (.str tx), x21, x22, x23]) (by
    simp only [sIf_ap, tNot_ap, tE_ap, eCall_ap, eCons_ap, eNil_ap, eV_succ, eV_zero, R.bnd_ok, lasked_eq h.f (show tx.length ≤ 1000 by omega), lread_eq h.f (show tx.length ≤ 1000 by omega), same12 (gd_dN fs tx), tru_bl, Bool.not_true, Bool.false_eq_true, if_false, lft_ok, sSkip_ap]) ?_
  refine wp_seqN (ρ' := [some (.lst (ns.map .int)), some (nums dr), some (.str ev), some (.str fs), some (.str os), x5, x6, some (nums so), x8, x9, x10, x11, x12, x13, x14, x15, x16, x17, some (.int (k : Nat)), some (.str lt), some (.str tx), x21, x22, x23]) (by
    simp only [sIf_ap, tNot_ap, tE_ap, eCall_ap, eCons_ap, eNil_ap, eC_ap, eV_succ, eV_zero, R.bnd_ok, lcounted_eq h.f (show tx.length ≤ 1000 by omega), show f__law_value [.str fs, .str tx, .int 1] = .ok (dV fs tx 1) from lvalue_eq (show fs.length ≤ 1000 by omega) 1 (by omega), same12 (gd_dV fs tx 1), tru_bl, Bool.not_true, Bool.false_eq_true, if_false, lft_ok, sSkip_ap]) ?_
  have hcl : (chg fs os [] tx).length ≤ 20000 := by
    have := chg_len (one := fs) (other := os) tx []
    simp only [List.length_nil] at this
    omega
  refine wp_seqN (ρ' := [some (.lst (ns.map .int)), some (nums dr), some (.str ev), some (.str fs), some (.str os), x5, x6, some (nums so), x8, x9, x10, x11, x12, x13, x14, x15, x16, x17, some (.int (k : Nat)), some (.str lt), some (.str tx), some (.str (chg fs os [] tx)), x22, x23]) (by
    simp only [sAsg_ap, eCall_ap, eCons_ap, eNil_ap, eV_succ, eV_zero, R.bnd_ok, lchange_eq h.f h.oF (show tx.length ≤ 900 by omega), lft_ok, gV_succ, gV_zero, gok_ok]) ?_
  refine wp_seqN (ρ' := [some (.lst (ns.map .int)), some (nums dr), some (.str ev), some (.str fs), some (.str os), x5, x6, some (nums so), x8, x9, x10, x11, x12, x13, x14, x15, x16, x17, some (.int (k : Nat)), some (.str lt), some (.str tx), some (.str (chg fs os [] tx)), x22, x23]) (by
    simp only [sIf_ap, tNot_ap, tE_ap, eCall_ap, eCons_ap, eNil_ap, eV_succ, eV_zero, R.bnd_ok, change_eq h.f h.oF (show tx.length ≤ 20000 by omega), same12 (show gd 11 (.str (chg fs os [] tx)) from trivial), tru_bl, Bool.not_true, Bool.false_eq_true, if_false, lft_ok, sSkip_ap]) ?_
  have hfl : (tx.filter fun c => decide (c ∈ os)).length ≤ tx.length := List.length_filter_le _ _
  simp only [sIf_ap, tAnd_ap, tE_ap, e1_ap, e2_ap, eC_ap]
  rw [eComp_of (ds := signs tx) (ys := (tx.filter fun c => decide (c ∈ os)).map sg) (by simp) (by
    show compL _ _ _ _ (tx.map sg) = _
    exact compL_filter sg (fun c => decide (c ∈ os)) sg fun c hc => ⟨[some (.lst (ns.map .int)), some (nums dr), some (.str ev), some (.str fs), some (.str os), x5, x6, some (nums so), x8, x9, x10, x11, x12, x13, x14, x15, x16, x17, some (.int (k : Nat)), some (.str lt), some (.str tx), some (.str (chg fs os [] tx)), x22, some (sg c)], by simp [wipe], by simp only [tE_ap, e2_ap, eV_succ, eV_zero, R.bnd_ok, sg, inD_one, tru_bl], fun _ => by simp⟩) (by rw [List.length_map]; unfold LINE; omega)]
  simp only [R.bnd_ok, lenD_lst, List.length_map, eqD_int, tru_bl]
  by_cases hz2 : (tx.filter fun c => decide (c ∈ os)) = []
  · have hno : ∀ c ∈ tx, c ∉ os := fun c hc ho => by
      have := List.filter_eq_nil_iff.mp hz2 c hc
      rw [decide_eq_true ho] at this
      exact this rfl
    rw [hz2]
    simp only [eCall_ap, eCons_ap, eNil_ap, eV_succ, eV_zero, R.bnd_ok, change_eq h.oF h.f hcl, back h.f h.oF h.dj tx [] rfl hno, neD_str, tru_bl]
    rw [show (!(([] : List Nat) ++ tx == tx)) = false by simp]
    simp only [ite_self, lft_ok, Bool.false_eq_true, if_false, sSkip_ap, wp_some]
    exact ⟨.inl trivial, _, _, _, _, _, _, _, rfl⟩
  · rw [show (((((tx.filter fun c => decide (c ∈ os)).length : Nat) : Int) == 0)) = false by
      have := List.length_pos_iff.mpr hz2
      simp only [beq_eq_false_iff_ne]
      omega]
    simp only [Bool.false_eq_true, if_false, lft_ok, sSkip_ap, wp_some]
    exact ⟨.inl trivial, _, _, _, _, _, _, _, rfl⟩
theorem st5 {at_ : Nat} (h : okX ev fs os) (ha : at_ < fs.length) : ∃ ts : List (List Nat), ts.length ≤ 10 ∧ (∀ s ∈ ts, s.length ≤ 1000 ∧ ∀ c ∈ s, c = 10 ∨ okc c = true) ∧ t_law_5 [some (.lst (ns.map .int)), some (nums dr), some (.str ev), some (.str fs), some (.str os), some (.int (at_ : Nat)), x6, x7, x8, x9, x10, x11, x12, x13, x14, x15, x16, x17, x18, x19, x20, x21, x22, x23] = some (.nx, [some (.lst (ns.map .int)), some (nums dr), some (.str ev), some (.str fs), some (.str os), some (.int (at_ : Nat)), some (dStrs ts), x7, x8, x9, x10, x11, x12, x13, x14, x15, x16, x17, x18, x19, x20, x21, x22, x23]) := by
  have h40 := h.f.n40
  refine ⟨[fs.take 1, [], fs ++ [fs.getD at_ 0], fs.take at_ ++ fs.take 1 ++ fs.drop at_, fs.take at_ ++ [10] ++ fs.drop at_], by simp, ?_, ?_⟩
  · have hg : okc (fs.getD at_ 0) = true := by
      rw [getD_at ha]
      exact h.fo _ (List.getElem_mem ha)
    intro s hs
    simp only [List.mem_cons, List.not_mem_nil, or_false] at hs
    rcases hs with rfl | rfl | rfl | rfl | rfl
    · exact ⟨by simp; omega, fun c hc => .inr (h.fo c (List.mem_of_mem_take hc))⟩
    · exact ⟨by simp, fun c hc => by simp at hc⟩
    · refine ⟨by simp; omega, fun c hc => ?_⟩
      rcases List.mem_append.mp hc with q | q
      · exact .inr (h.fo c q)
      · rw [List.mem_singleton] at q
        rw [q]
        exact .inr hg
    · refine ⟨by simp; omega, fun c hc => ?_⟩
      rcases List.mem_append.mp hc with q | q
      · rcases List.mem_append.mp q with q | q
        · exact .inr (h.fo c (List.mem_of_mem_take q))
        · exact .inr (h.fo c (List.mem_of_mem_take q))
      · exact .inr (h.fo c (List.mem_of_mem_drop q))
    · refine ⟨by simp; omega, fun c hc => ?_⟩
      rcases List.mem_append.mp hc with q | q
      · rcases List.mem_append.mp q with q | q
        · exact .inr (h.fo c (List.mem_of_mem_take q))
        · exact .inl (List.mem_singleton.mp q)
      · exact .inr (h.fo c (List.mem_of_mem_drop q))
  · unfold t_law_5
    have hc1 : cut fs (some 0) (some 1) = fs.take 1 := cut0 (k := 1)
    have hc2 : cut fs (some 0) (some ((at_ : Nat) : Int)) = fs.take at_ := cut0
    have hc3 : cut fs (some ((at_ : Nat) : Int)) none = fs.drop at_ := cut_from
    simp only [sAsg_ap, eLst_ap, eCons_ap, eNil_ap, eSli_ap, pS_ap, pN_ap, e2_ap, eC_ap, eV_succ, eV_zero, R.bnd_ok, optInt_int, sliD_str, fs_at ha, hc1, hc2, hc3]
    rw [addD_str (by simp; unfold LINE; omega), addD_str (by simp; unfold LINE; omega), addD_str (by simp; unfold LINE; omega)]
    simp only [R.bnd_ok]
    rw [addD_str (by simp; unfold LINE; omega), addD_str (by simp; unfold LINE; omega)]
    simp only [R.bnd_ok]
    rw [if_pos (by simp [LINE])]
    simp only [lft_ok, gV_succ, gV_zero, R.bnd_ok, gok_ok]
    rfl
end
theorem law_true : ∀ ns : List Int, ns.length ≤ 63 → f_law [.lst (ns.map .int)] = .ok (.bl true) := by
  intro ns hns
  obtain ⟨z0, hz0⟩ := cellK ns hns 0
  obtain ⟨dr, hdr, hd, _⟩ := numsK z0 8 (by decide)
  refine run_at (s := b_law) [some (.lst (ns.map .int)), none, none, none, none, none, none, none, none, none, none, none, none, none, none, none, none, none, none, none, none, none, none, none] ?_
  unfold b_law
  refine wp_seqN (ρ' := [some (.lst (ns.map .int)), some (nums dr), none, none, none, none, none, none, none, none, none, none, none, none, none, none, none, none, none, none, none, none, none, none]) ?_ ?_
  · unfold t_law_0
    simp only [sAsg_ap, eCall_ap, eCons_ap, eNil_ap, eV_zero, eC_ap, R.bnd_ok]
    rw [show f__law_cell [.lst (ns.map .int), .int 0] = .ok (.int z0) from hz0]
    simp only [R.bnd_ok]
    rw [show f__law_numbers [.int z0, .int 8, .int 5040] = .ok (nums dr) from hdr]
    simp only [lft_ok, gV_succ, gV_zero, R.bnd_ok, gok_ok]
  obtain ⟨ev, hev, hel, hen, heo⟩ := pool_eq (dr[0]'(by omega))
  refine wp_seqN (ρ' := [some (.lst (ns.map .int)), some (nums dr), some (.str ev), none, none, none, none, none, none, none, none, none, none, none, none, none, none, none, none, none, none, none, none, none]) ?_ ?_
  · simp only [sAsg_ap, eCall_ap, eCons_ap, eNil_ap, e2_ap, eV_succ, eV_zero, eC_ap, R.bnd_ok]
    rw [idxN (k := 0) (z := 0) (by omega) rfl]
    simp only [R.bnd_ok, hev, lft_ok, gV_succ, gV_zero, gok_ok]
  obtain ⟨q, hq0, hq39, hq⟩ : ∃ q : Nat, 0 < q ∧ q ≤ 39 ∧ idxD (.lst [.int 1, .int 8, .int 15, .int 39]) (.int ((dr[2]'(by omega) % 4 : Nat) : Int)) = .ok (.int (q : Nat)) := by
    have hm : dr[2]'(by omega) % 4 < 4 := Nat.mod_lt _ (by decide)
    generalize dr[2]'(by omega) % 4 = m at hm
    match m, hm with
    | 0, _ => exact ⟨1, by omega, by omega, rfl⟩
    | 1, _ => exact ⟨8, by omega, by omega, rfl⟩
    | 2, _ => exact ⟨15, by omega, by omega, rfl⟩
    | 3, _ => exact ⟨39, by omega, by omega, rfl⟩
  have hmq : dr[1]'(by omega) % q < q := Nat.mod_lt _ hq0
  obtain ⟨fs, hfs⟩ : ∃ fs, fs = ev.take (2 + dr[1]'(by omega) % q) := ⟨_, rfl⟩
  refine wp_seqN (ρ' := [some (.lst (ns.map .int)), some (nums dr), some (.str ev), some (.str fs), none, none, none, none, none, none, none, none, none, none, none, none, none, none, none, none, none, none, none, none]) ?_ ?_
  · unfold t_law_2
    have h0 := modN (l := dr) (k := 2) (by omega) (z := 2) rfl (m := 4) (by decide) (y := 4) rfl
    have h1 := modN (l := dr) (k := 1) (by omega) (z := 1) rfl (m := q) hq0 (y := (q : Nat)) rfl
    simp only [sAsg_ap, eSli_ap, pS_ap, e2_ap, eLst_ap, eCons_ap, eNil_ap, eV_succ, eV_zero, eC_ap, R.bnd_ok, h0]
    rw [if_pos (by simp [LINE])]
    simp only [R.bnd_ok, hq, h1, addD_int, optInt_int, sliD_str]
    rw [show ((2 : Int) + ((dr[1]'(by omega) % q : Nat) : Int)) = ((2 + dr[1]'(by omega) % q : Nat) : Int) by omega, cut0, ← hfs]
    simp only [lft_ok, gV_succ, gV_zero, R.bnd_ok, gok_ok]
  have hm3 : dr[3]'(by omega) % 18 < 18 := Nat.mod_lt _ (by decide)
  obtain ⟨os, hos⟩ : ∃ os, os = (ev.drop 41).take (2 + dr[3]'(by omega) % 18) := ⟨_, rfl⟩
  refine wp_seqN (ρ' := [some (.lst (ns.map .int)), some (nums dr), some (.str ev), some (.str fs), some (.str os), none, none, none, none, none, none, none, none, none, none, none, none, none, none, none, none, none, none, none]) ?_ ?_
  · unfold t_law_3
    have h0 := modN (l := dr) (k := 3) (by omega) (z := 3) rfl (m := 18) (by decide) (y := 18) rfl
    simp only [sAsg_ap, eSli_ap, pS_ap, e2_ap, eV_succ, eV_zero, eC_ap, R.bnd_ok, h0, addD_int, optInt_int, sliD_str]
    rw [show ((43 : Int) + ((dr[3]'(by omega) % 18 : Nat) : Int)) = ((43 + dr[3]'(by omega) % 18 : Nat) : Int) by omega, show cut ev (some 41) (some ((43 + dr[3]'(by omega) % 18 : Nat) : Int)) = (ev.drop 41).take (43 + dr[3]'(by omega) % 18 - 41) from cut_nat (j := 41), show 43 + dr[3]'(by omega) % 18 - 41 = 2 + dr[3]'(by omega) % 18 by omega, ← hos]
    simp only [lft_ok, gV_succ, gV_zero, R.bnd_ok, gok_ok]
  have hfl : fs.length = 2 + dr[1]'(by omega) % q := by rw [hfs, List.length_take]; omega
  have hol : os.length = 2 + dr[3]'(by omega) % 18 := by rw [hos, List.length_take, List.length_drop]; omega
  have okx : okX ev fs os := by
    refine ⟨⟨by omega, by omega, ?_⟩, ⟨by omega, by omega, ?_⟩, heo, fun c hc => ?_, fun c hc ho => ?_, hel, fun c hc => ?_⟩
    · rw [hfs]; exact hen.sublist (List.take_sublist _ _)
    · rw [hos]; exact hen.sublist ((List.take_sublist _ _).trans (List.drop_sublist _ _))
    · rw [hfs] at hc; exact List.mem_of_mem_take hc
    · rw [hos] at ho
      rw [hfs] at hc
      have hn := hen
      rw [← List.take_append_drop 41 ev, List.nodup_append] at hn
      have h3 : c ∈ ev.take 41 := by
        have : ev.take (2 + dr[1]'(by omega) % q) = (ev.take 41).take (2 + dr[1]'(by omega) % q) := by rw [List.take_take]; congr 1; omega
        rw [this] at hc
        exact List.mem_of_mem_take hc
      exact hn.2.2 c h3 c (List.mem_of_mem_take ho) rfl
    · rw [hfs] at hc; exact heo c (List.mem_of_mem_take hc)
  have hfp : 0 < fs.length := by omega
  have hat : dr[4]'(by omega) % fs.length < fs.length := Nat.mod_lt _ hfp
  refine wp_seqN (ρ' := [some (.lst (ns.map .int)), some (nums dr), some (.str ev), some (.str fs), some (.str os), some (.int ((dr[4]'(by omega) % fs.length : Nat) : Int)), none, none, none, none, none, none, none, none, none, none, none, none, none, none, none, none, none, none]) ?_ ?_
  · have h0 := modN (l := dr) (k := 4) (by omega) (z := 4) rfl (m := fs.length) hfp (y := (fs.length : Nat)) rfl
    simp only [sAsg_ap, e1_ap, e2_ap, eV_succ, eV_zero, eC_ap, R.bnd_ok, lenD_str, h0, lft_ok, gV_succ, gV_zero, gok_ok]
  generalize dr[4]'(by omega) % fs.length = at_ at hat
  obtain ⟨ts, htl, hts, h5⟩ := st5 (ns := ns) (dr := dr) (x6 := none) (x7 := none) (x8 := none) (x9 := none) (x10 := none) (x11 := none) (x12 := none) (x13 := none) (x14 := none) (x15 := none) (x16 := none) (x17 := none) (x18 := none) (x19 := none) (x20 := none) (x21 := none) (x22 := none) (x23 := none) okx hat
  refine wp_seqN h5 ?_
  refine wp_seqE _ (st6 okx htl hts) fun ρ ⟨x7, x8, e⟩ => ?_
  subst e
  refine wp_seqE _ (st7 okx hd) fun ρ e => ?_
  subst e
  refine wp_seqN (ρ' := [some (.lst (ns.map .int)), some (nums dr), some (.str ev), some (.str fs), some (.str os), some (.int (at_ : Nat)), some (dStrs ts), x7, x8, some (.lst []), none, none, none, none, none, none, none, none, none, none, none, none, none, none]) (by rw [sNew_lst (xs := []) (by simp [LINE]) (by simp)]; rfl) ?_
  refine wp_seqE _ (st9 hns okx) fun ρ ⟨L, x10, x11, x12, hL, e⟩ => ?_
  subst e
  refine wp_seqE _ (st10 okx hL) fun ρ ⟨x10, x13, x14, x15, x16, x17, e⟩ => ?_
  subst e
  refine wp_seqE _ (st11 hns okx) fun ρ ⟨x7, x18, x19, x20, x21, x22, x23, e⟩ => ?_
  subst e
  simp only [sRet_ap, eC_ap, lft_ok, wp_some, endR_rt]
end PL.K51

set_option maxRecDepth 100000
open PySem PySem.W PyProof.Rows
set_option maxHeartbeats 0 in
theorem PySem.Challenge.cw_lettersacross_k51_figures_there_and_back_holds : PySem.Challenge.rw_lettersacross_k51_figures_there_and_back.Holds := by
  w_on; o_law; k_head; (case hw => w_witness2)
  k_fill
  refine L2.walk_of (l := PySem.Challenge.rw_lettersacross_k51_figures_there_and_back) (n := 63) (k := 14) (x := "script") (CX := fun w => L2.CX PySem.Challenge.rw_lettersacross_k51_figures_there_and_back.prog w) (sp := fun w => PL.spLaw _) rfl (by decide) rfl ⟨rfl, by decide, by decide⟩ (fun w h Y => PySem.W.kIn_of Y) ?F (fun _ _ a ns hl _ hS => ⟨a, ns, rfl, hS, hl, fun _ => rfl⟩) (fun _ _ _ _ _ h => PL.cx_no h)
  case F =>
    intro w mg fa h KX G hmg
    refine' PL.K51.all_mk KX G hmg ?q0 ?q1 ?q2 ?q3 ?q4 ?q5 ?q6 ?q7 ?q8 ?q9 ?q10 ?q11 ?q12 ?q13 ?q14 ?q15 ?q16 ?q17 ?q18 ?q19 ?q20 ?q21 ?q22 ?q23 ?q24 ?q25 ?q26 ?q27 ?q28 ?q29 ?q30 ?q31 ?q32 ?q33 ?q34 ?q35 ?q36 ?q37 ?q38 ?q39 ?q40 ?q41 ?q42 ?q43 ?q44 ?q45 ?q46 ?q47 ?q48 ?q49 ?q50 ?q51 ?q52 ?q53 ?q54 ?q55 ?q56 ?q57 ?q58 ?q59 ?q60 ?q61 ?q62 ?q63 ?q64 ?q65 ?q66 ?q67 ?q68 ?q69 ?q70 ?q71 ?q72 ?q73 ?q74 ?q75 ?q76 ?q77 ?q78 ?q79 ?q80 ?q81 ?q82 ?q83 ?q84 ?q85 ?q86 ?q87 ?q88 ?q89 ?q90 ?q91 ?q92 ?q93 ?q94 ?q95 ?q96 ?q97 ?q98 ?q99 ?q100 ?q101 ?q102 ?q103 ?q104 ?q105 ?q106 ?q107 ?q108 ?q109 ?q110 ?q111 ?q112 ?q113 ?q114 ?q115 ?q116 ?q117 ?q118 ?q119 ?q120 ?q121 ?q122 ?q123 ?q124 ?q125 ?q126 ?q127 ?q128 ?q129 ?q130 ?q131 ?q132 ?q133 ?q134 ?q135 ?q136 ?q137 ?q138 ?q139 ?q140 ?q141 ?q142 ?q143 ?q144 ?q145 ?q146 ?q147 ?q148 ?q149 ?q150 ?q151 ?q152 ?q153 ?q154 ?q155 ?q156 ?q157 ?q158 ?q159 ?q160 ?q161 ?q162 ?q163 ?q164 ?q165 ?q166 ?q167 ?q168 ?q169 ?q170 ?q171 ?q172 ?q173 ?q174 ?q175 ?q176 ?q177 ?q178 ?q179 ?q180 ?q181 ?q182 ?q183 ?q184 ?q185 ?q186 ?q187 ?q188 ?q189 ?q190 ?q191 ?q192 ?q193 ?q194 ?q195 ?q196 ?q197 ?q198 ?q199 ?q200 ?q201 PL.K51.law_true
    (case q0 => k_is)
    (case q1 => k_is)
    (case q2 => k_is)
    (case q3 => k_is)
    (case q4 => k_is)
    (case q5 => k_is)
    (case q6 => k_is)
    (case q7 => k_is)
    (case q8 => k_is)
    (case q9 => k_is)
    (case q10 => k_is)
    (case q11 => k_is)
    (case q12 => k_is)
    (case q13 => k_is)
    (case q14 => k_is)
    (case q15 => k_is)
    (case q16 => k_is)
    (case q17 => k_is)
    (case q18 => k_is)
    (case q19 => k_is)
    (case q20 => k_is)
    (case q21 => k_is)
    (case q22 => k_is)
    (case q23 => k_is)
    (case q24 => k_is)
    (case q25 => k_is)
    (case q26 => k_is)
    (case q27 => k_is)
    (case q28 => k_is)
    (case q29 => k_is)
    (case q30 => k_is)
    (case q31 => k_is)
    (case q32 => k_is)
    (case q33 => k_is)
    (case q34 => k_is)
    (case q35 => k_is)
    (case q36 => k_is)
    (case q37 => k_is)
    (case q38 => k_is)
    (case q39 => k_is)
    (case q40 => k_is)
    (case q41 => k_is)
    (case q42 => k_is)
    (case q43 => k_is)
    (case q44 => k_is)
    (case q45 => k_is)
    (case q46 => k_is)
    (case q47 => k_is)
    (case q48 => k_is)
    (case q49 => k_is)
    (case q50 => k_is)
    (case q51 => k_is)
    (case q52 => k_is)
    (case q53 => k_is)
    (case q54 => k_is)
    (case q55 => k_is)
    (case q56 => k_is)
    (case q57 => k_is)
    (case q58 => k_is)
    (case q59 => k_is)
    (case q60 => k_is)
    (case q61 => k_is)
    (case q62 => k_is)
    (case q63 => k_is)
    (case q64 => k_is)
    (case q65 => k_is)
    (case q66 => k_is)
    (case q67 => k_is)
    (case q68 => k_is)
    (case q69 => k_is)
    (case q70 => k_is)
    (case q71 => k_is)
    (case q72 => k_is)
    (case q73 => k_is)
    (case q74 => k_is)
    (case q75 => k_is)
    (case q76 => k_is)
    (case q77 => k_is)
    (case q78 => k_is)
    (case q79 => k_is)
    (case q80 => k_is)
    (case q81 => k_is)
    (case q82 => k_is)
    (case q83 => k_is)
    (case q84 => k_is)
    (case q85 => k_is)
    (case q86 => k_is)
    (case q87 => k_is)
    (case q88 => k_is)
    (case q89 => k_is)
    (case q90 => k_is)
    (case q91 => k_is)
    (case q92 => k_is)
    (case q93 => k_is)
    (case q94 => k_is)
    (case q95 => k_is)
    (case q96 => k_is)
    (case q97 => k_is)
    (case q98 => k_is)
    (case q99 => k_is)
    (case q100 => k_is)
    (case q101 => k_is)
    (case q102 => k_is)
    (case q103 => k_is)
    (case q104 => k_is)
    (case q105 => k_is)
    (case q106 => k_is)
    (case q107 => k_is)
    (case q108 => k_is)
    (case q109 => k_is)
    (case q110 => k_is)
    (case q111 => k_is)
    (case q112 => k_is)
    (case q113 => k_is)
    (case q114 => k_is)
    (case q115 => k_is)
    (case q116 => k_is)
    (case q117 => k_is)
    (case q118 => k_is)
    (case q119 => k_is)
    (case q120 => k_is)
    (case q121 => k_is)
    (case q122 => k_is)
    (case q123 => k_is)
    (case q124 => k_is)
    (case q125 => k_exc)
    (case q126 => k_is)
    (case q127 => k_is)
    (case q128 => k_is)
    (case q129 => k_is)
    (case q130 => k_is)
    (case q131 => k_is)
    (case q132 => k_is)
    (case q133 => k_is)
    (case q134 => k_is)
    (case q135 => k_is)
    (case q136 => k_is)
    (case q137 => k_is)
    (case q138 => k_is)
    (case q139 => k_is)
    (case q140 => k_exc)
    (case q141 => k_is)
    (case q142 => k_is)
    (case q143 => k_is)
    (case q144 => k_is)
    (case q145 => k_is)
    (case q146 => k_is)
    (case q147 => k_is)
    (case q148 => k_is)
    (case q149 => k_is)
    (case q150 => k_is)
    (case q151 => k_is)
    (case q152 => k_is)
    (case q153 => k_is)
    (case q154 => k_is)
    (case q155 => k_exc)
    (case q156 => k_is)
    (case q157 => k_is)
    (case q158 => k_is)
    (case q159 => k_is)
    (case q160 => k_is)
    (case q161 => k_is)
    (case q162 => k_is)
    (case q163 => k_is)
    (case q164 => k_is)
    (case q165 => k_is)
    (case q166 => k_is)
    (case q167 => k_is)
    (case q168 => k_is)
    (case q169 => k_is)
    (case q170 => k_exc)
    (case q171 => k_is)
    (case q172 => k_is)
    (case q173 => k_is)
    (case q174 => k_is)
    (case q175 => k_is)
    (case q176 => k_is)
    (case q177 => k_is)
    (case q178 => k_is)
    (case q179 => k_is)
    (case q180 => k_is)
    (case q181 => k_is)
    (case q182 => k_is)
    (case q183 => k_is)
    (case q184 => k_is)
    (case q185 => k_exc)
    (case q186 => k_is)
    (case q187 => k_is)
    (case q188 => k_is)
    (case q189 => k_is)
    (case q190 => k_is)
    (case q191 => k_is)
    (case q192 => k_is)
    (case q193 => k_is)
    (case q194 => k_is)
    (case q195 => k_is)
    (case q196 => k_is)
    (case q197 => k_is)
    (case q198 => k_is)
    (case q199 => k_is)
    (case q200 => k_is)
    (case q201 => k_is)

