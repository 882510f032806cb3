import PyProof.Rows.All
import Wide.All
import OpenK.AllK
import Wide.FinOn
import PySem.PyData
import HandS.ForMost
import HandS.Exc
import HandS.TryOnly
import HandS.TryMany
import HandS.ExcOwn
import HandS.ExcIs
import HandS.WordsExc
import HandS.StrMore
import HandS.IsInst
import HandS.TupAny
import HandS.Style
import HandS.Wide
import HandS.Replace
import HandS.Codes
import HandS.Small
import HandS.Iter
import HandS.DictComp
import KE.SortData
import KE.GoesMore
import KE.GoesEnum
import PyProof.TupleOfGen
import PyProof.CollectStr
import HandS.Ends
import PySem.Challenge.RW_lettersacross_k43_watchers_read_sign_by
set_option Elab.async false
set_option linter.all false
set_option autoImplicit true
namespace PL

/-- plain data: what a value is, its lists and tuples and dicts with it -/
inductive Dat where
  | non | bl (b : Bool) | int (i : Int) | str (s : List Nat) | lst (xs : List Dat) | tup (xs : List Dat) | dic (kvs : List (Dat × Dat)) | exc (c : Nat)
  deriving Inhabited

/-- a result: a value, an own error (its class's number), or nothing that is said -/
inductive R (α : Type) where
  | ok (a : α) | exc (c : Nat) | bad

def R.bnd {α β : Type} (r : R α) (f : α → R β) : R β := match r with
  | .ok a => f a
  | .exc c => .exc c
  | .bad => .bad
@[simp] theorem R.bnd_ok {α β : Type} (a : α) (f : α → R β) : (R.ok a).bnd f = f a := Eq.trans rfl rfl
@[simp] theorem R.bnd_exc {α β : Type} (c : Nat) (f : α → R β) : (R.exc c : R α).bnd f = .exc c := Eq.trans rfl rfl
@[simp] theorem R.bnd_bad {α β : Type} (f : α → R β) : (R.bad : R α).bnd f = .bad := Eq.trans rfl rfl
theorem R.bnd_assoc {α β γ : Type} (r : R α) (f : α → R β) (g : β → R γ) : (r.bnd f).bnd g = r.bnd fun a => (f a).bnd g := by cases r <;> rfl

/-- what must hold of a result -/
def Post {α : Type} (r : R α) (p : α → Prop) (x : Nat → Prop) : Prop := match r with
  | .ok a => p a
  | .exc c => x c
  | .bad => False
theorem Post.bnd {α β : Type} {r : R α} {f : α → R β} {p : β → Prop} {x : Nat → Prop} (h : Post (r.bnd f) p x) : Post r (fun a => Post (f a) p x) x := by
  cases r with
  | ok a => exact h
  | exc c => exact h
  | bad => exact h
theorem Post.imp {α : Type} {r : R α} {p q : α → Prop} {x y : Nat → Prop} (h : Post r p x) (hp : ∀ a, p a → q a) (hx : ∀ c, x c → y c) : Post r q y := by
  cases r with
  | ok a => exact hp a h
  | exc c => exact hx c h
  | bad => exact h

/-- the longest list, the longest text -/
def LINE : Nat := 16777216

def guardR {α : Type} (c : Prop) [Decidable c] (a : α) : R α := if c then .ok a else .bad

/-! ### equality -/
def b2i (b : Bool) : Int := if b then 1 else 0
mutual
def eqv : Dat → Dat → Bool
  | .non, .non => true
  | .bl a, .bl b => a == b
  | .bl a, .int j => b2i a == j
  | .int i, .bl b => i == b2i b
  | .int i, .int j => i == j
  | .str x, .str y => x == y
  | .lst xs, .lst ys => eqvL xs ys
  | .tup xs, .tup ys => eqvL xs ys
  | _, _ => false
def eqvL : List Dat → List Dat → Bool
  | [], [] => true
  | x :: xs, y :: ys => eqv x y && eqvL xs ys
  | _, _ => false
end
mutual
/-- data of depth at most n without dicts and errors -/
def shp : Nat → Dat → Bool
  | _, .non => true
  | _, .bl _ => true
  | _, .int _ => true
  | _, .str _ => true
  | n + 1, .lst xs => shpL n xs
  | n + 1, .tup xs => shpL n xs
  | _, _ => false
def shpL : Nat → List Dat → Bool
  | _, [] => true
  | n, x :: xs => shp n x && shpL n xs
end
def DEEP : Nat := 40
def eqD (x y : Dat) : R Dat := if shp DEEP x && shp DEEP y then .ok (.bl (eqv x y)) else .bad
def neD (x y : Dat) : R Dat := if shp DEEP x && shp DEEP y then .ok (.bl (!eqv x y)) else .bad

/-! ### numbers -/
def small64 (i : Int) : Prop := -(2 ^ 64) < i ∧ i < 2 ^ 64
instance (i : Int) : Decidable (small64 i) := by unfold small64; infer_instance
def addD : Dat → Dat → R Dat
  | .int i, .int j => .ok (.int (i + j))
  | .str x, .str y => if x.length + y.length ≤ LINE then .ok (.str (x ++ y)) else .bad
  | .lst x, .lst y => if x.length + y.length ≤ LINE then .ok (.lst (x ++ y)) else .bad
  | .tup x, .tup y => if x.length + y.length ≤ LINE then .ok (.tup (x ++ y)) else .bad
  | _, _ => .bad
/-- of numbers and texts -/
def addF : Dat → Dat → R Dat
  | .int i, .int j => .ok (.int (i + j))
  | .str x, .str y => if x.length + y.length ≤ LINE then .ok (.str (x ++ y)) else .bad
  | _, _ => .bad
def subD : Dat → Dat → R Dat
  | .int i, .int j => .ok (.int (i - j))
  | _, _ => .bad
/-- n times -/
def rep {α : Type} (n : Nat) (xs : List α) : List α := (List.replicate n xs).flatten
def mulN : Dat → Dat → R Dat
  | .int i, .int j => if small64 i ∨ small64 j then .ok (.int (i * j)) else .bad
  | .str x, .int n => if -(2 ^ 63) ≤ n ∧ n < 2 ^ 63 ∧ x.length * n.toNat ≤ LINE then .ok (.str (rep n.toNat x)) else .bad
  | _, _ => .bad
/-- [..] * n -/
def repD : Dat → Dat → R Dat
  | .lst x, .int n => if -(2 ^ 63) ≤ n ∧ n < 2 ^ 63 ∧ x.length * n.toNat ≤ LINE then .ok (.lst (rep n.toNat x)) else .bad
  | _, _ => .bad
/-- *, lists at the left too -/
def mulD (x y : Dat) : R Dat := match x, y with
  | .lst xs, .int n => repD (.lst xs) (.int n)
  | x, y => mulN x y
def fdivD : Dat → Dat → R Dat
  | .int i, .int j => if 0 < j ∧ j < 1073741824 then .ok (.int (i / j)) else .bad
  | _, _ => .bad
def modD : Dat → Dat → R Dat
  | .int i, .int j => if 0 < j then .ok (.int (i % j)) else .bad
  | _, _ => .bad
def powD : Dat → Dat → R Dat
  | .int i, .int j => if 0 ≤ j ∧ j ≤ 1000000 ∧ i.natAbs < 2 ^ 64 then .ok (.int (i ^ j.toNat)) else .bad
  | _, _ => .bad
def negD : Dat → R Dat
  | .int i => .ok (.int (-i))
  | _ => .bad

/-! ### order -/
def ltS (x y : List Nat) : Bool := decide (x < y)
def ltD : Dat → Dat → R Dat
  | .int i, .int j => .ok (.bl (decide (i < j)))
  | .str x, .str y => .ok (.bl (ltS x y))
  | _, _ => .bad
def leD : Dat → Dat → R Dat
  | .int i, .int j => .ok (.bl (decide (i ≤ j)))
  | .str x, .str y => .ok (.bl (!ltS y x))
  | _, _ => .bad
def gtD (x y : Dat) : R Dat := match x, y with
  | .int i, .int j => .ok (.bl (decide (j < i)))
  | .str x, .str y => .ok (.bl (ltS y x))
  | _, _ => .bad
def geD (x y : Dat) : R Dat := match x, y with
  | .int i, .int j => .ok (.bl (decide (j ≤ i)))
  | .str x, .str y => .ok (.bl (!ltS x y))
  | _, _ => .bad

/-! ### is None, not, truth -/
def isN : Dat → R Dat
  | .non => .ok (.bl true)
  | .exc _ => .bad
  | _ => .ok (.bl false)
def notN : Dat → R Dat
  | .non => .ok (.bl false)
  | .exc _ => .bad
  | _ => .ok (.bl true)
/-- truth, of boolsOf alone -/
def tru : Dat → R Bool
  | .bl b => .ok b
  | _ => .bad

/-! ### places -/
/-- the place that an index means in a row of so many -/
def placeOf (i : Int) (n : Nat) : Option Nat := if 0 ≤ i then (if i < n then some i.toNat else none) else if -(n : Int) ≤ i then some (i + n).toNat else none
def atPlace {α : Type} (xs : List α) (i : Int) : Option α := (placeOf i xs.length).bind fun k => xs[k]?
/-- where a slice begins or ends in a row of n -/
def cutAt (n : Nat) (dflt : Nat) : Option Int → Nat
  | none => dflt
  | some i => if i < 0 then (i + (n : Int)).toNat else min i.toNat n
def cut {α : Type} (xs : List α) (lo hi : Option Int) : List α := (xs.drop (cutAt xs.length 0 lo)).take (cutAt xs.length xs.length hi - cutAt xs.length 0 lo)
def keyEq (k : Dat) (p : Dat × Dat) : Bool := eqv p.1 k
def dicGet (kvs : List (Dat × Dat)) (k : Dat) : Option Dat := (kvs.find? (keyEq k)).map (·.2)
/-- keys of dicts: intsOf and texts -/
def isKey : Dat → Bool
  | .int _ => true
  | .str _ => true
  | _ => false
def idxD : Dat → Dat → R Dat
  | .lst xs, .int i => match atPlace xs i with | some d => .ok d | none => .bad
  | .tup xs, .int i => match atPlace xs i with | some d => .ok d | none => .bad
  | .str s, .int i => match atPlace s i with | some c => .ok (.str [c]) | none => .bad
  | .dic kvs, k => if isKey k then (match dicGet kvs k with | some d => .ok d | none => .bad) else .bad
  | _, _ => .bad
def optInt : Dat → R (Option Int)
  | .int i => .ok (some i)
  | _ => .bad
def sliD (lo hi : Option Int) : Dat → R Dat
  | .lst xs => .ok (.lst (cut xs lo hi))
  | .tup xs => .ok (.tup (cut xs lo hi))
  | .str s => .ok (.str (cut s lo hi))
  | _ => .bad
/-- x[::-1] -/
def revD : Dat → R Dat
  | .lst xs => .ok (.lst xs.reverse)
  | .str s => .ok (.str s.reverse)
  | _ => .bad

/-! ### in -/
/-- one row stands within another from a place on -/
def begins {α : Type} [BEq α] : List α → List α → Bool
  | [], _ => true
  | _ :: _, [] => false
  | x :: xs, y :: ys => x == y && begins xs ys
def within : List Nat → List Nat → Bool
  | z, [] => begins z []
  | z, y :: ys => begins z (y :: ys) || within z ys
def inD : Dat → Dat → R Dat
  | x, .lst ys => if shp DEEP x && shpL DEEP ys then .ok (.bl (ys.any fun y => eqv y x)) else .bad
  | x, .tup ys => if shp DEEP x && shpL DEEP ys then .ok (.bl (ys.any fun y => eqv y x)) else .bad
  | .str x, .str y => .ok (.bl (within x y))
  | x, .dic kvs => if isKey x then .ok (.bl (dicGet kvs x).isSome) else .bad
  | _, _ => .bad
def notB : Dat → R Dat
  | .bl b => .ok (.bl (!b))
  | _ => .bad
def notInD (x y : Dat) : R Dat := (inD x y).bnd notB

/-! ### calls -/
def lenD : Dat → R Dat
  | .lst xs => .ok (.int xs.length)
  | .tup xs => .ok (.int xs.length)
  | .str s => .ok (.int s.length)
  | .dic kvs => .ok (.int kvs.length)
  | _ => .bad
/-- int(x) of a number or a bool -/
def intD : Dat → R Dat
  | .int i => .ok (.int i)
  | .bl b => .ok (.int (b2i b))
  | _ => .bad
inductive Ty where | int | str | bool | list | tuple | dict
  deriving DecidableEq
def isTy : Ty → Dat → R Dat
  | _, .exc _ => .bad
  | .int, .int _ => .ok (.bl true)
  | .int, .bl _ => .ok (.bl true)
  | .bool, .bl _ => .ok (.bl true)
  | .str, .str _ => .ok (.bl true)
  | .list, .lst _ => .ok (.bl true)
  | .tuple, .tup _ => .ok (.bl true)
  | .dict, .dic _ => .ok (.bl true)
  | _, _ => .ok (.bl false)
def joinS (sep : List Nat) : List (List Nat) → List Nat
  | [] => []
  | [x] => x
  | x :: y :: r => x ++ sep ++ joinS sep (y :: r)
def strsOf : List Dat → Option (List (List Nat))
  | [] => some []
  | .str s :: r => (strsOf r).map (s :: ·)
  | _ :: _ => none
def joinD : Dat → Dat → R Dat
  | .str sep, .lst xs => match strsOf xs with | some ss => if (ss.map (·.length)).sum + ss.length * sep.length ≤ LINE then .ok (.str (joinS sep ss)) else .bad | none => .bad
  | .str sep, .tup xs => match strsOf xs with | some ss => if (ss.map (·.length)).sum + ss.length * sep.length ≤ LINE then .ok (.str (joinS sep ss)) else .bad | none => .bad
  | _, _ => .bad
def boolsOf : List Dat → Option (List Bool)
  | [] => some []
  | .bl b :: r => (boolsOf r).map (b :: ·)
  | _ :: _ => none
def allD : Dat → R Dat
  | .lst xs => match boolsOf xs with | some bs => .ok (.bl (bs.all id)) | none => .bad
  | _ => .bad
def anyD : Dat → R Dat
  | .lst xs => match boolsOf xs with | some bs => .ok (.bl (bs.any id)) | none => .bad
  | _ => .bad
def intsOf : List Dat → Option (List Int)
  | [] => some []
  | .int b :: r => (intsOf r).map (b :: ·)
  | _ :: _ => none
def minI : Int → List Int → Int
  | x, [] => x
  | x, y :: r => minI (if y < x then y else x) r
def maxI : Int → List Int → Int
  | x, [] => x
  | x, y :: r => maxI (if y > x then y else x) r
def minD : Dat → R Dat
  | .lst xs => match intsOf xs with | some (i :: r) => .ok (.int (minI i r)) | _ => .bad
  | _ => .bad
def maxD : Dat → R Dat
  | .lst xs => match intsOf xs with | some (i :: r) => .ok (.int (maxI i r)) | _ => .bad
  | _ => .bad
def min2 : Dat → Dat → R Dat
  | .int i, .int j => .ok (.int (if j < i then j else i))
  | _, _ => .bad
def max2 : Dat → Dat → R Dat
  | .int i, .int j => .ok (.int (if j > i then j else i))
  | _, _ => .bad
def sumD : Dat → R Dat
  | .lst xs => match intsOf xs with | some is => .ok (.int is.sum) | none => .bad
  | _ => .bad
/-- the number of the first place of a sign in a text; a text without it is not asked -/
def indexD : Dat → Dat → R Dat
  | .str s, .str [c] => match s.findIdx? (· == c) with | some k => .ok (.int k) | none => .bad
  | _, _ => .bad
def startsD : Dat → Dat → R Dat
  | .str x, .str y => .ok (.bl (begins y x))
  | _, _ => .bad
def startsAtD : Dat → Dat → Dat → R Dat
  | .str x, .str y, .int i => if 0 ≤ i then (if i ≤ x.length then .ok (.bl (begins y (x.drop i.toNat))) else .ok (.bl false)) else .bad
  | _, _, _ => .bad
def ordD : Dat → R Dat
  | .str [c] => .ok (.int c)
  | _ => .bad
/-- what is walked -/
def signs (s : List Nat) : List Dat := s.map fun c => .str [c]
def itemsD : Dat → R (List Dat)
  | .lst xs => .ok xs
  | .tup xs => .ok xs
  | .str s => .ok (signs s)
  | _ => .bad
def fits62 (i : Int) : Prop := -(2 ^ 62) ≤ i ∧ i < 2 ^ 62
instance (i : Int) : Decidable (fits62 i) := by unfold fits62; infer_instance
/-- lo, lo + 1, .. below hi -/
def upTo (lo hi : Int) : List Int := (List.range (hi - lo).toNat).map fun k => lo + (k : Nat)
/-- lo, lo + st, .. (st > 0) below hi -/
def stepTo (lo hi st : Int) : List Int := (List.range ((hi - lo + st - 1) / st).toNat).map fun k => lo + (k : Nat) * st
def rng1 : Dat → R (List Dat)
  | .int n => if fits62 n then .ok ((upTo 0 n).map .int) else .bad
  | _ => .bad
def rng2 : Dat → Dat → R (List Dat)
  | .int m, .int n => if fits62 m ∧ fits62 n then .ok ((upTo m n).map .int) else .bad
  | _, _ => .bad
def rng3 : Dat → Dat → Dat → R (List Dat)
  | .int m, .int n, .int st => if fits62 m ∧ fits62 n ∧ 0 < st ∧ st < 2 ^ 30 then .ok ((stepTo m n st).map .int) else .bad
  | _, _, _ => .bad
def enumFrom (k : Nat) : List Dat → List Dat
  | [] => []
  | x :: r => .tup [.int k, x] :: enumFrom (k + 1) r
def zipT : List Dat → List Dat → List Dat
  | x :: r, y :: t => .tup [x, y] :: zipT r t
  | _, _ => []
/-- list(x), tuple(x) -/
def listD : Dat → R Dat
  | .lst xs => .ok (.lst xs)
  | .tup xs => .ok (.lst xs)
  | .str s => .ok (.lst (signs s))
  | _ => .bad
def listLD : Dat → R Dat
  | .lst xs => .ok (.lst xs)
  | .tup xs => .ok (.lst xs)
  | _ => .bad
def tupleLD : Dat → R Dat
  | .lst xs => .ok (.tup xs)
  | .tup xs => .ok (.tup xs)
  | _ => .bad
def tupleD : Dat → R Dat
  | .lst xs => .ok (.tup xs)
  | .tup xs => .ok (.tup xs)
  | .str s => .ok (.tup (signs s))
  | _ => .bad

/-! ### the slots, expressions -/
abbrev Env := List (Option Dat)
abbrev EM := Env → R Dat
abbrev LM := Env → R (List Dat)
abbrev TM := Env → R Bool
def eV (i : Nat) : EM := fun ρ => match ρ[i]? with
  | some (some d) => .ok d
  | _ => .bad
def eC (d : Dat) : EM := fun _ => .ok d
def e1 (f : Dat → R Dat) (a : EM) : EM := fun ρ => (a ρ).bnd f
def e2 (f : Dat → Dat → R Dat) (a b : EM) : EM := fun ρ => (a ρ).bnd fun x => (b ρ).bnd fun y => f x y
def e3 (f : Dat → Dat → Dat → R Dat) (a b c : EM) : EM := fun ρ => (a ρ).bnd fun x => (b ρ).bnd fun y => (c ρ).bnd fun z => f x y z
def eNil : LM := fun _ => .ok []
def eCons (a : EM) (r : LM) : LM := fun ρ => (a ρ).bnd fun x => (r ρ).bnd fun xs => .ok (x :: xs)
def eLst (as : LM) : EM := fun ρ => (as ρ).bnd fun xs => if xs.length ≤ LINE then .ok (.lst xs) else .bad
def eTup (as : LM) : EM := fun ρ => (as ρ).bnd fun xs => if xs.length ≤ LINE then .ok (.tup xs) else .bad
def eDic0 : EM := fun _ => .ok (.dic [])
/-- the pairs of a display -/
def ePrs : List (EM × EM) → Env → R (List (Dat × Dat))
  | [], _ => .ok []
  | (k, v) :: r, ρ => (k ρ).bnd fun x => (v ρ).bnd fun y => (ePrs r ρ).bnd fun t => .ok ((x, y) :: t)
/-- a text's method with one, two arguments -/
def isS : Dat → R Dat
  | .str s => .ok (.str s)
  | _ => .bad
def eM1 (f : Dat → Dat → R Dat) (a b : EM) : EM := fun ρ => (a ρ).bnd fun x => (isS x).bnd fun x => (b ρ).bnd fun y => f x y
def eM2 (f : Dat → Dat → Dat → R Dat) (a b c : EM) : EM := fun ρ => (a ρ).bnd fun x => (isS x).bnd fun x => (b ρ).bnd fun y => (c ρ).bnd fun z => f x y z
/-- a call of a def -/
def eCall (f : List Dat → R Dat) (as : LM) : EM := fun ρ => (as ρ).bnd f
/-- a op1 b op2 c -/
def eChain (f g : Dat → Dat → R Dat) (a b c : EM) : EM := fun ρ => (a ρ).bnd fun x => (b ρ).bnd fun y => (f x y).bnd fun z => match z with
  | .bl true => (c ρ).bnd fun w => g y w
  | .bl false => .ok (.bl false)
  | _ => .bad
def eAnd (a b : EM) : EM := fun ρ => (a ρ).bnd fun x => match x with
  | .bl true => b ρ
  | .bl false => .ok (.bl false)
  | _ => .bad
def eOr (a b : EM) : EM := fun ρ => (a ρ).bnd fun x => match x with
  | .bl true => .ok (.bl true)
  | .bl false => b ρ
  | _ => .bad
def tE (a : EM) : TM := fun ρ => (a ρ).bnd tru
def tNot (t : TM) : TM := fun ρ => (t ρ).bnd fun b => .ok (!b)
def tAnd (t u : TM) : TM := fun ρ => (t ρ).bnd fun b => if b then u ρ else .ok false
def tOr (t u : TM) : TM := fun ρ => (t ρ).bnd fun b => if b then .ok true else u ρ
def eT (t : TM) : EM := fun ρ => (t ρ).bnd fun b => .ok (.bl b)
def eIf (t : TM) (a b : EM) : EM := fun ρ => (t ρ).bnd fun c => if c then a ρ else b ρ
abbrev PM := Env → R (Option Int)
def pN : PM := fun _ => .ok none
def pS (e : EM) : PM := fun ρ => (e ρ).bnd optInt
def eSli (lo hi : PM) (a : EM) : EM := fun ρ => (a ρ).bnd fun x => (lo ρ).bnd fun l => (hi ρ).bnd fun h => sliD l h x

/-! ### what is walked; targets; comprehensions -/
def iOf (a : EM) : LM := fun ρ => (a ρ).bnd itemsD
def iR1 (a : EM) : LM := fun ρ => (a ρ).bnd rng1
def iR2 (a b : EM) : LM := fun ρ => (a ρ).bnd fun x => (b ρ).bnd fun y => rng2 x y
def iR3 (a b c : EM) : LM := fun ρ => (a ρ).bnd fun x => (b ρ).bnd fun y => (c ρ).bnd fun z => rng3 x y z
def lstD : Dat → R (List Dat)
  | .lst xs => .ok xs
  | _ => .bad
def enumN (x : Dat) : R (List Dat) := (lstD x).bnd fun xs => .ok (enumFrom 0 xs)
def enumD : Dat → R (List Dat)
  | .lst xs => .ok (enumFrom 0 xs)
  | .tup xs => .ok (enumFrom 0 xs)
  | _ => .bad
def zipD (x y : Dat) : R (List Dat) := (lstD x).bnd fun xs => (lstD y).bnd fun ys => .ok (zipT xs ys)
def iEnumN (a : EM) : LM := fun ρ => (a ρ).bnd enumN
def iEnum (a : EM) : LM := fun ρ => (a ρ).bnd enumD
def iZip (a b : EM) : LM := fun ρ => (a ρ).bnd fun x => (b ρ).bnd fun y => zipD x y
abbrev GM := Dat → Env → R Env
def gV (i : Nat) : GM := fun d ρ => if i < ρ.length then .ok (ρ.set i (some d)) else .bad
abbrev GsM := List Dat → Env → R Env
def gNil : GsM := fun ds ρ => match ds with | [] => .ok ρ | _ => .bad
def gCons (g : GM) (r : GsM) : GsM := fun ds ρ => match ds with | d :: t => (g d ρ).bnd fun ρ' => r t ρ' | [] => .bad
def gTup (n : Nat) (g : GsM) : GM := fun d ρ => match d with | .tup xs => if xs.length = n then g xs ρ else .bad | _ => .bad

def wipe (ρ : Env) : List Nat → Env
  | [] => ρ
  | v :: vs => (wipe ρ vs).set v none
/-- an own error within a comprehension is not spoken of -/
def noX {α : Type} : R α → R α
  | .ok a => .ok a
  | _ => .bad
/-- the items that a comprehension makes -/
def compL (g : GM) (t : TM) (e : EM) (ρ : Env) : List Dat → R (List Dat)
  | [] => .ok []
  | d :: r => (noX (g d ρ)).bnd fun ρ' => (noX (t ρ')).bnd fun b =>
    if b then (noX (e ρ')).bnd fun y => (compL g t e ρ r).bnd fun ys => .ok (y :: ys) else compL g t e ρ r
def eComp (src : LM) (own : List Nat) (g : GM) (t : TM) (e : EM) : EM := fun ρ => (src ρ).bnd fun ds => (compL g t e (wipe ρ own) ds).bnd fun ys => if ys.length ≤ LINE then .ok (.lst ys) else .bad
def tYes : TM := fun _ => .ok true

/-! ### statements -/
inductive Fl where
  | nx | bk | ct | rt (d : Dat) | ex (c : Nat)
/-- how a statement ends; none: nothing is said -/
abbrev O := Option (Fl × Env)
abbrev SM := Env → O
def lft {α : Type} (r : R α) (ρ : Env) (k : α → O) : O := match r with
  | .ok a => k a
  | .exc c => some (.ex c, ρ)
  | .bad => none
@[simp] theorem lft_ok {α : Type} (a : α) (ρ : Env) (k : α → O) : lft (R.ok a) ρ k = k a := Eq.trans rfl rfl
@[simp] theorem lft_exc {α : Type} (c : Nat) (ρ : Env) (k : α → O) : lft (R.exc c : R α) ρ k = some (.ex c, ρ) := Eq.trans rfl rfl
@[simp] theorem lft_bad {α : Type} (ρ : Env) (k : α → O) : lft (R.bad : R α) ρ k = none := Eq.trans rfl rfl
/-- what a target leaves -/
def gok (r : R Env) (k : Env → O) : O := match r with
  | .ok a => k a
  | _ => none
@[simp] theorem gok_ok (a : Env) (k : Env → O) : gok (R.ok a) k = k a := Eq.trans rfl rfl
@[simp] theorem gok_bad (k : Env → O) : gok R.bad k = none := Eq.trans rfl rfl
def sSkip : SM := fun ρ => some (.nx, ρ)
def sAsg (g : GM) (e : EM) : SM := fun ρ => lft (e ρ) ρ fun d => gok (g d ρ) fun ρ' => some (.nx, ρ')
/-- a new list or dict, the def's own from here on -/
def sNew (i : Nat) (e : EM) : SM := fun ρ => lft (e ρ) ρ fun d => match d with
  | .lst xs => if i < ρ.length then some (.nx, ρ.set i (some (.lst xs))) else none
  | .dic xs => if i < ρ.length then some (.nx, ρ.set i (some (.dic xs))) else none
  | _ => none
def sDrop (e : EM) : SM := fun ρ => lft (e ρ) ρ fun _ => some (.nx, ρ)
def sRet (e : EM) : SM := fun ρ => lft (e ρ) ρ fun d => some (.rt d, ρ)
def sRaise (c : Nat) : SM := fun ρ => some (.ex c, ρ)
def sBrk : SM := fun ρ => some (.bk, ρ)
def sCnt : SM := fun ρ => some (.ct, ρ)
def sSeq (a b : SM) : SM := fun ρ => match a ρ with
  | some (.nx, ρ') => b ρ'
  | r => r
def sIf (t : TM) (a b : SM) : SM := fun ρ => lft (t ρ) ρ fun c => if c then a ρ else b ρ
/-- a op= e at the slot i -/
def sAug (f : Dat → Dat → R Dat) (i : Nat) (e : EM) : SM := sAsg (gV i) (e2 f (eV i) e)
/-- x.append(e), x the list in the slot i -/
def sApp (i : Nat) (e : EM) : SM := fun ρ => match ρ[i]? with
  | some (some (.lst xs)) => lft (e ρ) ρ fun d => if xs.length < LINE then some (.nx, ρ.set i (some (.lst (xs ++ [d])))) else none
  | _ => none
def dicPut (kvs : List (Dat × Dat)) (k v : Dat) : List (Dat × Dat) := if kvs.any (keyEq k) then kvs.map (fun p => if keyEq k p then (p.1, v) else p) else kvs ++ [(k, v)]
/-- .. of two clauses -/
def compL2 (g : GM) (t : TM) (src1 : LM) (own1 : List Nat) (g1 : GM) (t1 : TM) (e : EM) (ρ : Env) : List Dat → R (List Dat)
  | [] => .ok []
  | d :: r => (noX (g d ρ)).bnd fun ρ' => (noX (t ρ')).bnd fun b =>
    if b then (noX (src1 ρ')).bnd fun ds1 => (compL g1 t1 e (wipe ρ' own1) ds1).bnd fun ys => (compL2 g t src1 own1 g1 t1 e ρ r).bnd fun zs => .ok (ys ++ zs) else compL2 g t src1 own1 g1 t1 e ρ r
def eComp2 (src : LM) (own : List Nat) (g : GM) (t : TM) (src1 : LM) (own1 : List Nat) (g1 : GM) (t1 : TM) (e : EM) : EM := fun ρ => (src ρ).bnd fun ds => (compL2 g t src1 own1 g1 t1 e (wipe ρ own) ds).bnd fun ys => if ys.length ≤ LINE then .ok (.lst ys) else .bad
/-- the dict that a comprehension makes -/
def compD (g : GM) (t : TM) (ek ev : EM) (ρ : Env) : List Dat → List (Dat × Dat) → R (List (Dat × Dat))
  | [], acc => .ok acc
  | d :: r, acc => (noX (g d ρ)).bnd fun ρ' => (noX (t ρ')).bnd fun b =>
    if b then (noX (ek ρ')).bnd fun k => (noX (ev ρ')).bnd fun v => if isKey k ∧ acc.length < LINE then compD g t ek ev ρ r (dicPut acc k v) else .bad else compD g t ek ev ρ r acc
def eDComp (src : LM) (own : List Nat) (g : GM) (t : TM) (ek ev : EM) : EM := fun ρ => (src ρ).bnd fun ds => (compD g t ek ev (wipe ρ own) ds []).bnd fun kvs => .ok (.dic kvs)
/-- {k: v, ..} with keys ints and texts -/
def eDisp (ps : List (EM × EM)) : EM := fun ρ => (ePrs ps ρ).bnd fun t => if t.all (fun p => isKey p.1) then .ok (.dic (t.foldl (fun d p => dicPut d p.1 p.2) [])) else .bad
/-- x[k] = e, x the list or dict in the slot i: the value first, then the key -/
def sPut (i : Nat) (k e : EM) : SM := fun ρ => match ρ[i]? with
  | some (some (.lst xs)) => lft (e ρ) ρ fun d => lft (k ρ) ρ fun z => match z with
    | .int j => (match placeOf j xs.length with | some n => some (.nx, ρ.set i (some (.lst (xs.set n d)))) | none => none)
    | _ => none
  | some (some (.dic kvs)) => lft (e ρ) ρ fun d => lft (k ρ) ρ fun z => if isKey z ∧ kvs.length < LINE then some (.nx, ρ.set i (some (.dic (dicPut kvs z d)))) else none
  | _ => none
def forL (g : GM) (b : SM) : List Dat → SM
  | [], ρ => some (.nx, ρ)
  | d :: r, ρ => gok (g d ρ) fun ρ1 => match b ρ1 with
    | some (.nx, ρ2) => forL g b r ρ2
    | some (.ct, ρ2) => forL g b r ρ2
    | some (.bk, ρ2) => some (.nx, ρ2)
    | q => q
def sFor (src : LM) (g : GM) (b : SM) : SM := fun ρ => lft (src ρ) ρ fun ds => forL g b ds ρ
def whlN (t : TM) (b : SM) : Nat → SM
  | 0, _ => none
  | n + 1, ρ => lft (t ρ) ρ fun c => if c then (match b ρ with
    | some (.nx, ρ') => whlN t b n ρ'
    | some (.ct, ρ') => whlN t b n ρ'
    | some (.bk, ρ') => some (.nx, ρ')
    | q => q) else some (.nx, ρ)
open Classical in
noncomputable def sWhl (t : TM) (b : SM) : SM := fun ρ => if h : ∃ n, (whlN t b n ρ).isSome = true then whlN t b h.choose ρ else none
/-- a, b = x, y and a, b, c = x, y, z of plain locals -/
def setAll : List (Nat × Dat) → Env → Env
  | [], ρ => ρ
  | (i, d) :: r, ρ => setAll r (ρ.set i (some d))
def sPar (is : List Nat) (ms : LM) : SM := fun ρ => lft (ms ρ) ρ fun ds => if ds.length = is.length ∧ is.all (· < ρ.length) = true then some (.nx, setAll (is.zip ds) ρ) else none
/-- an own error out of an except suite is not spoken of -/
def noEx : O → O
  | some (.ex _, _) => none
  | o => o
/-- the except clauses: which classes, the error's slot, the suite -/
def hand : List ((Nat → Bool) × Option Nat × SM) → Nat → SM
  | [], c, ρ => some (.ex c, ρ)
  | (p, none, u) :: r, c, ρ => if p c then noEx (u ρ) else hand r c ρ
  | (p, some i, u) :: r, c, ρ => if p c then (if i < ρ.length then (match noEx (u (ρ.set i (some (.exc c)))) with
    | some (f, ρ') => some (f, ρ'.set i none)
    | none => none) else none) else hand r c ρ
def sTry (hs : List ((Nat → Bool) × Option Nat × SM)) (a : SM) : SM := fun ρ => match a ρ with
  | some (.ex c, ρ') => hand hs c ρ'
  | q => q
/-- isinstance(e, X), e an error held by a suite: sub tells which classes lie under which -/
def isX (sub : Nat → Nat → Bool) (n : Nat) : Dat → R Dat
  | .exc c => .ok (.bl (sub c n))
  | _ => .bad
/-- a def: its body from its arguments, N slots in all -/
def run (n : Nat) (b : SM) (as : List Dat) : R Dat := match b (as.map some ++ List.replicate (n - as.length) none) with
  | some (.nx, _) => .ok .non
  | some (.rt d, _) => .ok d
  | some (.ex c, _) => .exc c
  | _ => .bad
end PL

namespace PL
set_option autoImplicit false
def rank : Dat → Nat
  | .non => 0
  | .bl _ => 1
  | .int _ => 2
  | .str _ => 3
  | .tup _ => 4
  | .lst _ => 5
  | .dic _ => 6
  | .exc _ => 7
/-- before, alike, behind, of texts -/
def cmpS : List Nat → List Nat → Ordering
  | [], [] => .eq
  | [], _ :: _ => .lt
  | _ :: _, [] => .gt
  | a :: x, b :: y => (compare a b).then (cmpS x y)
mutual
/-- a total order (alike: of one kind that is not compared further) -/
def cmpT : Dat → Dat → Ordering
  | .int i, .int j => compare i j
  | .str x, .str y => cmpS x y
  | .tup xs, .tup ys => cmpL xs ys
  | x, y => compare (rank x) (rank y)
def cmpL : List Dat → List Dat → Ordering
  | [], [] => .eq
  | [], _ :: _ => .lt
  | _ :: _, [] => .gt
  | x :: xs, y :: ys => (cmpT x y).then (cmpL xs ys)
end
theorem cmpS_swap : ∀ x y : List Nat, cmpS y x = (cmpS x y).swap
  | [], [] => rfl
  | [], _ :: _ => rfl
  | _ :: _, [] => rfl
  | a :: x, b :: y => by
    unfold cmpS
    rw [cmpS_swap x y, Ordering.swap_then, Nat.compare_swap]
theorem cmpT_ne {x y : Dat} (h : rank x ≠ rank y) : cmpT x y = compare (rank x) (rank y) := by
  cases x <;> cases y <;> first | exact absurd rfl h | (simp only [cmpT])
mutual
theorem cmpT_swap : ∀ x y : Dat, cmpT y x = (cmpT x y).swap
  | .int i, .int j => by simp only [cmpT]; exact (Int.compare_swap i j).symm
  | .str x, .str y => by simp only [cmpT]; exact cmpS_swap x y
  | .tup xs, .tup ys => by simp only [cmpT]; exact cmpL_swap xs ys
  | .tup xs, .non => by simp only [cmpT, rank]; decide
  | .tup xs, .bl _ => by simp only [cmpT, rank]; decide
  | .tup xs, .int _ => by simp only [cmpT, rank]; decide
  | .tup xs, .str _ => by simp only [cmpT, rank]; decide
  | .tup xs, .lst _ => by simp only [cmpT, rank]; decide
  | .tup xs, .dic _ => by simp only [cmpT, rank]; decide
  | .tup xs, .exc _ => by simp only [cmpT, rank]; decide
  | .non, y => by cases y <;> simp only [cmpT, rank] <;> decide
  | .bl _, y => by cases y <;> simp only [cmpT, rank] <;> decide
  | .lst _, y => by cases y <;> simp only [cmpT, rank] <;> decide
  | .dic _, y => by cases y <;> simp only [cmpT, rank] <;> decide
  | .exc _, y => by cases y <;> simp only [cmpT, rank] <;> decide
  | .int _, .non => by simp only [cmpT, rank]; decide
  | .int _, .bl _ => by simp only [cmpT, rank]; decide
  | .int _, .str _ => by simp only [cmpT, rank]; decide
  | .int _, .tup _ => by simp only [cmpT, rank]; decide
  | .int _, .lst _ => by simp only [cmpT, rank]; decide
  | .int _, .dic _ => by simp only [cmpT, rank]; decide
  | .int _, .exc _ => by simp only [cmpT, rank]; decide
  | .str _, .non => by simp only [cmpT, rank]; decide
  | .str _, .bl _ => by simp only [cmpT, rank]; decide
  | .str _, .int _ => by simp only [cmpT, rank]; decide
  | .str _, .tup _ => by simp only [cmpT, rank]; decide
  | .str _, .lst _ => by simp only [cmpT, rank]; decide
  | .str _, .dic _ => by simp only [cmpT, rank]; decide
  | .str _, .exc _ => by simp only [cmpT, rank]; decide
theorem cmpL_swap : ∀ x y : List Dat, cmpL y x = (cmpL x y).swap
  | [], [] => by simp only [cmpL]; rfl
  | [], _ :: _ => by simp only [cmpL]; rfl
  | _ :: _, [] => by simp only [cmpL]; rfl
  | x :: xs, y :: ys => by
    simp only [cmpL]
    rw [cmpL_swap xs ys, cmpT_swap x y, Ordering.swap_then]
end
/-- what two comparisons say of the third -/
def tri : Ordering → Ordering → Ordering → Bool
  | .lt, .gt, _ => true
  | .gt, .lt, _ => true
  | .lt, _, c => c == .lt
  | .eq, b, c => c == b
  | .gt, _, c => c == .gt
abbrev Tri (a b c : Ordering) : Prop := tri a b c = true
theorem Tri.nat (i j k : Nat) : Tri (compare i j) (compare j k) (compare i k) := by
  rcases Nat.lt_trichotomy i j with h | h | h <;> rcases Nat.lt_trichotomy j k with h2 | h2 | h2
  · rw [Nat.compare_eq_lt.mpr h, Nat.compare_eq_lt.mpr h2, Nat.compare_eq_lt.mpr (by omega)]; rfl
  · rw [Nat.compare_eq_lt.mpr h, Nat.compare_eq_eq.mpr h2, Nat.compare_eq_lt.mpr (by omega)]; rfl
  · rw [Nat.compare_eq_lt.mpr h, Nat.compare_eq_gt.mpr h2]; rfl
  · rw [Nat.compare_eq_eq.mpr h, Nat.compare_eq_lt.mpr h2, Nat.compare_eq_lt.mpr (by omega)]; rfl
  · rw [Nat.compare_eq_eq.mpr h, Nat.compare_eq_eq.mpr h2, Nat.compare_eq_eq.mpr (by omega)]; rfl
  · rw [Nat.compare_eq_eq.mpr h, Nat.compare_eq_gt.mpr h2, Nat.compare_eq_gt.mpr (by omega)]; rfl
  · rw [Nat.compare_eq_gt.mpr h, Nat.compare_eq_lt.mpr h2]; rfl
  · rw [Nat.compare_eq_gt.mpr h, Nat.compare_eq_eq.mpr h2, Nat.compare_eq_gt.mpr (by omega)]; rfl
  · rw [Nat.compare_eq_gt.mpr h, Nat.compare_eq_gt.mpr h2, Nat.compare_eq_gt.mpr (by omega)]; rfl
theorem Tri.int (i j k : Int) : Tri (compare i j) (compare j k) (compare i k) := by
  rcases Int.lt_trichotomy i j with h | h | h <;> rcases Int.lt_trichotomy j k with h2 | h2 | h2
  · rw [Int.compare_eq_lt.mpr h, Int.compare_eq_lt.mpr h2, Int.compare_eq_lt.mpr (by omega)]; rfl
  · rw [Int.compare_eq_lt.mpr h, Int.compare_eq_eq.mpr h2, Int.compare_eq_lt.mpr (by omega)]; rfl
  · rw [Int.compare_eq_lt.mpr h, Int.compare_eq_gt.mpr h2]; rfl
  · rw [Int.compare_eq_eq.mpr h, Int.compare_eq_lt.mpr h2, Int.compare_eq_lt.mpr (by omega)]; rfl
  · rw [Int.compare_eq_eq.mpr h, Int.compare_eq_eq.mpr h2, Int.compare_eq_eq.mpr (by omega)]; rfl
  · rw [Int.compare_eq_eq.mpr h, Int.compare_eq_gt.mpr h2, Int.compare_eq_gt.mpr (by omega)]; rfl
  · rw [Int.compare_eq_gt.mpr h, Int.compare_eq_lt.mpr h2]; rfl
  · rw [Int.compare_eq_gt.mpr h, Int.compare_eq_eq.mpr h2, Int.compare_eq_gt.mpr (by omega)]; rfl
  · rw [Int.compare_eq_gt.mpr h, Int.compare_eq_gt.mpr h2, Int.compare_eq_gt.mpr (by omega)]; rfl
theorem Tri.then' : ∀ {a b c a' b' c' : Ordering}, Tri a b c → Tri a' b' c' → Tri (a.then a') (b.then b') (c.then c') := by
  intro a b c a' b' c' h h'
  revert h h'
  cases a <;> cases b <;> cases c <;> cases a' <;> cases b' <;> cases c' <;> decide
theorem tri_lt : ∀ b, Tri .lt b .lt := by decide
theorem tri_gt : ∀ a, Tri a .gt .gt := by decide
theorem tri_l : ∀ a b, b ≠ .eq → Tri a b b := by decide
theorem tri_r : ∀ a b, a ≠ .eq → Tri a b a := by decide
theorem Tri.ofS : ∀ x y z : List Nat, Tri (cmpS x y) (cmpS y z) (cmpS x z)
  | [], [], [] => by simp only [cmpS]; rfl
  | [], [], _ :: _ => by simp only [cmpS]; rfl
  | [], _ :: _, [] => by simp only [cmpS]; rfl
  | _ :: _, [], [] => by simp only [cmpS]; rfl
  | _ :: _, [], _ :: _ => by simp only [cmpS]; rfl
  | [], _ :: _, _ :: _ => by simp only [cmpS]; exact tri_lt _
  | _ :: _, _ :: _, [] => by simp only [cmpS]; exact tri_gt _
  | a :: x, b :: y, c :: z => by
    simp only [cmpS]
    exact (Tri.nat a b c).then' (Tri.ofS x y z)
theorem cmp_ne_eq {i j : Nat} (h : i ≠ j) : compare i j ≠ .eq := fun e => h (Nat.compare_eq_eq.mp e)
theorem Tri.ranks {x y z : Dat} (h : ¬ (rank x = rank y ∧ rank y = rank z)) : Tri (cmpT x y) (cmpT y z) (cmpT x z) := by
  by_cases h1 : rank x = rank y
  · have h2 : rank y ≠ rank z := fun e => h ⟨h1, e⟩
    have e : cmpT x z = compare (rank y) (rank z) := by rw [cmpT_ne (x := x) (y := z) (by rw [h1]; exact h2), h1]
    rw [cmpT_ne h2, e]
    exact tri_l _ _ (cmp_ne_eq h2)
  · by_cases h2 : rank y = rank z
    · rw [cmpT_ne h1, cmpT_ne (x := x) (y := z) (by rw [← h2]; exact h1), h2]
      exact tri_r _ _ (cmp_ne_eq (by rw [← h2]; exact h1))
    · rw [cmpT_ne h1, cmpT_ne h2]
      by_cases h3 : rank x = rank z
      · rw [h3]
        rcases Nat.lt_trichotomy (rank z) (rank y) with q | q | q
        · rw [Nat.compare_eq_lt.mpr q, Nat.compare_eq_gt.mpr q]; rfl
        · exact absurd q.symm h2
        · rw [Nat.compare_eq_gt.mpr q, Nat.compare_eq_lt.mpr q]; rfl
      · rw [cmpT_ne h3]
        exact Tri.nat _ _ _
mutual
theorem Tri.ofT : ∀ x y z : Dat, Tri (cmpT x y) (cmpT y z) (cmpT x z)
  | .tup xs, y, z => by
    cases y with
    | tup ys =>
      cases z with
      | tup zs => simp only [cmpT]; exact Tri.ofL xs ys zs
      | _ => exact Tri.ranks (by simp [rank])
    | _ => exact Tri.ranks (by simp [rank])
  | .int i, y, z => by
    cases y with
    | int j =>
      cases z with
      | int k => simp only [cmpT]; exact Tri.int i j k
      | _ => exact Tri.ranks (by simp [rank])
    | _ => exact Tri.ranks (by simp [rank])
  | .str x, y, z => by
    cases y with
    | str y =>
      cases z with
      | str z => simp only [cmpT]; exact Tri.ofS x y z
      | _ => exact Tri.ranks (by simp [rank])
    | _ => exact Tri.ranks (by simp [rank])
  | .non, y, z => by cases y <;> cases z <;> first | (simp only [cmpT, rank]; rfl) | (simp only [cmpT, rank]; decide) | exact Tri.ranks (fun h => by have := h.1; simp [rank] at this)
  | .bl _, y, z => by cases y <;> cases z <;> first | (simp only [cmpT, rank]; rfl) | (simp only [cmpT, rank]; decide) | exact Tri.ranks (fun h => by have := h.1; simp [rank] at this)
  | .lst _, y, z => by cases y <;> cases z <;> first | (simp only [cmpT, rank]; rfl) | (simp only [cmpT, rank]; decide) | exact Tri.ranks (fun h => by have := h.1; simp [rank] at this)
  | .dic _, y, z => by cases y <;> cases z <;> first | (simp only [cmpT, rank]; rfl) | (simp only [cmpT, rank]; decide) | exact Tri.ranks (fun h => by have := h.1; simp [rank] at this)
  | .exc _, y, z => by cases y <;> cases z <;> first | (simp only [cmpT, rank]; rfl) | (simp only [cmpT, rank]; decide) | exact Tri.ranks (fun h => by have := h.1; simp [rank] at this)
theorem Tri.ofL : ∀ x y z : List Dat, Tri (cmpL x y) (cmpL y z) (cmpL x z)
  | [], [], [] => by simp only [cmpL]; rfl
  | [], [], _ :: _ => by simp only [cmpL]; rfl
  | [], _ :: _, [] => by simp only [cmpL]; rfl
  | _ :: _, [], [] => by simp only [cmpL]; rfl
  | _ :: _, [], _ :: _ => by simp only [cmpL]; rfl
  | [], _ :: _, _ :: _ => by simp only [cmpL]; exact tri_lt _
  | _ :: _, _ :: _, [] => by simp only [cmpL]; exact tri_gt _
  | a :: x, b :: y, c :: z => by
    simp only [cmpL]
    exact (Tri.ofT a b c).then' (Tri.ofL x y z)
end
def ltT (x y : Dat) : Bool := cmpT x y == .lt
theorem ltT_asym {x y : Dat} (h : ltT x y = true) : ltT y x = false := by
  unfold ltT at *
  rw [cmpT_swap x y, beq_iff_eq.mp h]
  rfl
theorem tri_nlt : ∀ a b c : Ordering, Tri a b c → a ≠ .lt → b ≠ .lt → c ≠ .lt := by decide
theorem ltT_tr {x y z : Dat} (h1 : ltT y x = false) (h2 : ltT z y = false) : ltT z x = false := by
  unfold ltT at *
  rw [beq_eq_false_iff_ne] at *
  exact tri_nlt _ _ _ (Tri.ofT z y x) h2 h1
mutual
/-- data that is wholly told apart by the order: None, numbers, texts, tuples of such -/
def srt : Dat → Bool
  | .non => true
  | .int _ => true
  | .str _ => true
  | .tup xs => srtL xs
  | _ => false
def srtL : List Dat → Bool
  | [] => true
  | x :: xs => srt x && srtL xs
end
theorem cmpS_eq : ∀ x y : List Nat, cmpS x y = .eq → x = y
  | [], [], _ => rfl
  | [], _ :: _, h => by simp [cmpS] at h
  | _ :: _, [], h => by simp [cmpS] at h
  | a :: x, b :: y, h => by
    simp only [cmpS, Ordering.then_eq_eq] at h
    rw [Nat.compare_eq_eq.mp h.1, cmpS_eq x y h.2]
mutual
theorem cmpT_eq : ∀ x y : Dat, srt x = true → srt y = true → cmpT x y = .eq → x = y
  | .non, y, _, hy, h => by cases y <;> first | rfl | (simp [cmpT, rank] at h) | (simp [srt] at hy)
  | .int i, y, _, hy, h => by
    cases y with
    | int j => simp only [cmpT] at h; rw [Int.compare_eq_eq.mp h]
    | _ => first | (simp [srt] at hy; done) | (simp [cmpT, rank] at h; done) | (exact absurd h (by simp only [cmpT, rank]; decide))
  | .str x, y, _, hy, h => by
    cases y with
    | str y => simp only [cmpT] at h; rw [cmpS_eq x y h]
    | _ => first | (simp [srt] at hy; done) | (simp [cmpT, rank] at h; done) | (exact absurd h (by simp only [cmpT, rank]; decide))
  | .tup xs, y, hx, hy, h => by
    cases y with
    | tup ys => simp only [cmpT] at h; rw [cmpL_eq xs ys (by simpa [srt] using hx) (by simpa [srt] using hy) h]
    | _ => first | (simp [srt] at hy; done) | (simp [cmpT, rank] at h; done) | (exact absurd h (by simp only [cmpT, rank]; decide))
  | .bl _, _, hx, _, _ => by simp [srt] at hx
  | .lst _, _, hx, _, _ => by simp [srt] at hx
  | .dic _, _, hx, _, _ => by simp [srt] at hx
  | .exc _, _, hx, _, _ => by simp [srt] at hx
theorem cmpL_eq : ∀ x y : List Dat, srtL x = true → srtL y = true → cmpL x y = .eq → x = y
  | [], [], _, _, _ => rfl
  | [], _ :: _, _, _, h => by simp [cmpL] at h
  | _ :: _, [], _, _, h => by simp [cmpL] at h
  | a :: x, b :: y, hx, hy, h => by
    simp only [cmpL, Ordering.then_eq_eq] at h
    simp only [srtL, Bool.and_eq_true] at hx hy
    rw [cmpT_eq a b hx.1 hy.1 h.1, cmpL_eq x y hx.2 hy.2 h.2]
end

/-! ### sorting -/
mutual
/-- the two can be compared, place by place: numbers, texts, tuples of such -/
def alk : Dat → Dat → Bool
  | .int _, .int _ => true
  | .str _, .str _ => true
  | .tup xs, .tup ys => alkL xs ys
  | _, _ => false
def alkL : List Dat → List Dat → Bool
  | x :: xs, y :: ys => alk x y && alkL xs ys
  | [], _ => true
  | _ :: _, [] => true
end
def isTupC : Dat → Bool
  | .tup (_ :: _) => true
  | _ => false
def isFlat : Dat → Bool
  | .int _ => true
  | .str _ => true
  | _ => false
def sortable (xs : List Dat) : Bool := xs.all (fun x => xs.all (alk x)) && (xs.all isTupC || xs.all isFlat) && shpL DEEP xs
def leT (x y : Dat) : Bool := !ltT y x
def sortL (xs : List Dat) : List Dat := xs.mergeSort leT
def sortD : Dat → R Dat
  | .lst xs => if sortable xs = true then .ok (.lst (sortL xs)) else .bad
  | .dic kvs => if sortable (kvs.map (·.1)) = true ∧ kvs.length ≤ LINE then .ok (.lst (sortL (kvs.map (·.1)))) else .bad
  | _ => .bad
theorem leT_tr (x y z : Dat) (h1 : leT x y = true) (h2 : leT y z = true) : leT x z = true := by
  unfold leT at *
  rw [Bool.not_eq_true'] at *
  exact ltT_tr h1 h2
theorem leT_total (x y : Dat) : (leT x y || leT y x) = true := by
  unfold leT
  cases h : ltT x y with
  | false => simp
  | true => simp [ltT_asym h]
theorem sortL_perm (xs : List Dat) : (sortL xs).Perm xs := List.mergeSort_perm xs leT
theorem sortL_sorted (xs : List Dat) : (sortL xs).Pairwise (fun a b => leT a b = true) := List.pairwise_mergeSort (le := leT) leT_tr leT_total xs
/-- a row in order that is a row's own in another order is that row sorted -/
theorem sortL_unique {xs ys : List Dat} (hs : ∀ x ∈ xs, srt x = true) (hp : ys.Perm xs) (ho : ys.Pairwise (fun a b => leT a b = true)) : sortL xs = ys := by
  refine List.Perm.eq_of_pairwise (le := fun a b => leT a b = true) (fun a b ha hb h1 h2 => ?_) (sortL_sorted xs) ho ((sortL_perm xs).trans hp.symm)
  have h1' : ltT b a = false := by simpa [leT] using h1
  have h2' : ltT a b = false := by simpa [leT] using h2
  refine cmpT_eq a b (hs a ((sortL_perm xs).mem_iff.mp ha)) (hs b (hp.mem_iff.mp hb)) ?_
  unfold ltT at h1' h2'
  rw [cmpT_swap a b] at h1'
  cases h : cmpT a b with
  | eq => rfl
  | lt => rw [h] at h2'; cases h2'
  | gt => rw [h] at h1'; cases h1'
theorem cmpS_lt : ∀ x y : List Nat, (cmpS x y == .lt) = decide (x < y)
  | [], [] => by simp [cmpS]
  | [], _ :: _ => by simp [cmpS]
  | _ :: _, [] => by simp [cmpS]
  | a :: x, b :: y => by
    have ih := cmpS_lt x y
    rw [Bool.eq_iff_iff, beq_iff_eq, decide_eq_true_iff] at *
    rw [List.cons_lt_cons_iff]
    unfold cmpS
    rcases Nat.lt_trichotomy a b with h | h | h
    · rw [Nat.compare_eq_lt.mpr h]
      simp [h]
    · subst h
      rw [Nat.compare_eq_eq.mpr rfl]
      simpa using ih
    · rw [Nat.compare_eq_gt.mpr h]
      simp [Nat.not_lt_of_gt h]
      omega
theorem cmpS_self : ∀ x : List Nat, cmpS x x = .eq
  | [] => rfl
  | a :: x => by unfold cmpS; rw [Nat.compare_eq_eq.mpr rfl, cmpS_self x]; rfl
theorem ltT_int (i j : Int) : ltT (.int i) (.int j) = decide (i < j) := by
  unfold ltT
  rw [Bool.eq_iff_iff, beq_iff_eq, decide_eq_true_iff]
  simp only [cmpT]
  exact Int.compare_eq_lt
theorem ltT_str (x y : List Nat) : ltT (.str x) (.str y) = decide (x < y) := by
  unfold ltT
  simp only [cmpT]
  exact cmpS_lt x y
/-- dict comprehensions of two clauses -/
def compD2 (g : GM) (t : TM) (src1 : LM) (own1 : List Nat) (g1 : GM) (t1 : TM) (ek ev : EM) (ρ : Env) : List Dat → List (Dat × Dat) → R (List (Dat × Dat))
  | [], acc => .ok acc
  | d :: r, acc => (noX (g d ρ)).bnd fun ρ' => (noX (t ρ')).bnd fun b =>
    if b then (noX (src1 ρ')).bnd fun ds1 => (compD g1 t1 ek ev (wipe ρ' own1) ds1 acc).bnd fun acc' => compD2 g t src1 own1 g1 t1 ek ev ρ r acc' else compD2 g t src1 own1 g1 t1 ek ev ρ r acc
def eDComp2 (src : LM) (own : List Nat) (g : GM) (t : TM) (src1 : LM) (own1 : List Nat) (g1 : GM) (t1 : TM) (ek ev : EM) : EM := fun ρ => (src ρ).bnd fun ds => (compD2 g t src1 own1 g1 t1 ek ev (wipe ρ own) ds []).bnd fun kvs => .ok (.dic kvs)
/-- isinstance(e, ValueError), e an own error -/
def isVE : Dat → R Dat
  | .exc _ => .ok (.bl true)
  | _ => .bad
mutual
/-- no dict within -/
def nodic : Dat → Bool
  | .dic _ => false
  | .lst xs => nodicL xs
  | .tup xs => nodicL xs
  | _ => true
def nodicL : List Dat → Bool
  | [] => true
  | x :: r => nodic x && nodicL r
end
def shutO : Option Dat → Option Dat
  | some d => if nodic d then some d else none
  | none => none
/-- what may be read while a dict is walked: no slot with a dict within -/
def shutD (ρ : Env) : Env := ρ.map shutO
def ownNd (own : List Nat) (ρ : Env) : Bool := own.all fun j => match ρ[j]? with
  | some (some d) => nodic d
  | _ => false
/-- a list comprehension over what a name holds; over a dict, no dict may be read in it -/
def eCompK (i : Nat) (own vs : List Nat) (g : GM) (t : TM) (e : EM) : EM := fun ρ => match eV i ρ with
  | .ok (.dic kvs) => if own.all (fun j => j != i) && ownNd own ρ then eComp (fun _ => .ok (kvs.map (·.1))) vs g t e (shutD ρ) else .bad
  | _ => eComp (iOf (eV i)) vs g t e ρ
end PL

set_option maxRecDepth 100000
set_option maxHeartbeats 4000000
namespace PL
open PySem PySem.Spec PyProof.Rows L2
set_option autoImplicit false
abbrev St := L2.St

/-! ### data in the heap -/
/-- a list, a tuple of the written part -/
def KLst (K : PySem.W.Frag) (a : Addr) (xs : List V) : Prop := ∃ (o : Obj) (its : Array Value) (n : Nat), K.lookup a = some o ∧ o.cls = .type "list" ∧ o.dict = none ∧ o.data = .seq its n ∧ its.size ≤ sizeLine ∧ Vals xs its.toList
def KTup (K : PySem.W.Frag) (a : Addr) (xs : List V) : Prop := ∃ (o : Obj) (its : Array Value) (n : Nat), K.lookup a = some o ∧ o.cls = .type "tuple" ∧ o.data = .seq its n ∧ its.size ≤ sizeLine ∧ Vals xs its.toList
def kD : Key → Dat
  | .inl i => .int i
  | .inr x => .str x.cps.toList
abbrev ZS := Addr → Prop
/-- code points, not too many -/
def okS (s : List Nat) : Prop := (∀ c ∈ s, c < 1114112) ∧ s.length ≤ LINE
def okK : Key → Prop
  | .inl _ => True
  | .inr x => okS x.cps.toList
mutual
/-- the value v is the data d, all of it settled (Z) -/
inductive Rep (K : PySem.W.Frag) (Z : ZS) (H : Hp) : V → Dat → Prop
  | non : Rep K Z H .non .non
  | bl (b : Bool) : Rep K Z H (.bl b) (.bl b)
  | int (i : Int) : Rep K Z H (.int i) (.int i)
  | str (x : Str) : okS x.cps.toList → Rep K Z H (.str x) (.str x.cps.toList)
  | lst {a : Addr} {xs : List V} {ds : List Dat} : Z a → Rd H a (.lst xs) → RepA K Z H xs ds → Rep K Z H (.ref a) (.lst ds)
  | lstK {a : Addr} {xs : List V} {ds : List Dat} : KLst K a xs → RepA K Z H xs ds → Rep K Z H (.ref a) (.lst ds)
  | tup {a : Addr} {xs : List V} {ds : List Dat} : Z a → Rd H a (.tup xs) → RepA K Z H xs ds → Rep K Z H (.ref a) (.tup ds)
  | tupK {a : Addr} {xs : List V} {ds : List Dat} : KTup K a xs → RepA K Z H xs ds → Rep K Z H (.ref a) (.tup ds)
  | dic {a : Addr} {ks : List (Key × V)} {kvs : List (Dat × Dat)} : Z a → H a = some (.dK ks) → RepD K Z H ks kvs → Rep K Z H (.ref a) (.dic kvs)
inductive RepA (K : PySem.W.Frag) (Z : ZS) (H : Hp) : List V → List Dat → Prop
  | nil : RepA K Z H [] []
  | cons {v : V} {vs : List V} {d : Dat} {ds : List Dat} : Rep K Z H v d → RepA K Z H vs ds → RepA K Z H (v :: vs) (d :: ds)
inductive RepD (K : PySem.W.Frag) (Z : ZS) (H : Hp) : List (Key × V) → List (Dat × Dat) → Prop
  | nil : RepD K Z H [] []
  | cons {k : Key} {v : V} {r : List (Key × V)} {d : Dat} {t : List (Dat × Dat)} : okK k → Rep K Z H v d → RepD K Z H r t → RepD K Z H ((k, v) :: r) ((kD k, d) :: t)
end

/-- what is settled stays -/
def Adv (Z : ZS) (H : Hp) (Z' : ZS) (H' : Hp) : Prop := ∀ a, Z a → Z' a ∧ ∀ o, H a = some o → H' a = some o
theorem Adv.refl {Z : ZS} {H : Hp} : Adv Z H Z H := fun _ h => ⟨h, fun _ e => e⟩
theorem Adv.trans {Z Z1 Z2 : ZS} {H H1 H2 : Hp} (x : Adv Z H Z1 H1) (y : Adv Z1 H1 Z2 H2) : Adv Z H Z2 H2 := fun a h => ⟨(y a (x a h).1).1, fun o e => (y a (x a h).1).2 o ((x a h).2 o e)⟩
theorem Rd.adv {H H' : Hp} {a : Addr} {u : HO} (h : Rd H a u) (k : ∀ o, H a = some o → H' a = some o) : Rd H' a u := by
  rcases h with h | ⟨o, h⟩
  · exact .inl (k _ h)
  · exact .inr ⟨o, k _ h⟩
section
variable {K : PySem.W.Frag} {Z Z' : ZS} {H H' : Hp}
mutual
theorem Rep.adv (x : Adv Z H Z' H') : ∀ {v : V} {d : Dat}, Rep K Z H v d → Rep K Z' H' v d
  | _, _, .non => .non
  | _, _, .bl b => .bl b
  | _, _, .int i => .int i
  | _, _, .str s h => .str s h
  | _, _, .lst z h r => .lst (x _ z).1 (Rd.adv h (x _ z).2) (RepA.adv x r)
  | _, _, .lstK k r => .lstK k (RepA.adv x r)
  | _, _, .tup z h r => .tup (x _ z).1 (Rd.adv h (x _ z).2) (RepA.adv x r)
  | _, _, .tupK k r => .tupK k (RepA.adv x r)
  | _, _, .dic z h r => .dic (x _ z).1 ((x _ z).2 _ h) (RepD.adv x r)
theorem RepA.adv (x : Adv Z H Z' H') : ∀ {v : List V} {d : List Dat}, RepA K Z H v d → RepA K Z' H' v d
  | _, _, .nil => .nil
  | _, _, .cons h r => .cons (Rep.adv x h) (RepA.adv x r)
theorem RepD.adv (x : Adv Z H Z' H') : ∀ {v : List (Key × V)} {d : List (Dat × Dat)}, RepD K Z H v d → RepD K Z' H' v d
  | _, _, .nil => .nil
  | _, _, .cons o h r => .cons o (Rep.adv x h) (RepD.adv x r)
end
theorem RepA.len : ∀ {v : List V} {d : List Dat}, RepA K Z H v d → v.length = d.length
  | _, _, .nil => rfl
  | _, _, .cons _ r => by simp [RepA.len r]
theorem RepA.get : ∀ {v : List V} {d : List Dat} {i : Nat} {x : Dat}, RepA K Z H v d → d[i]? = some x → ∃ u, v[i]? = some u ∧ Rep K Z H u x
  | _, _, _, _, .nil, e => by simp at e
  | _, _, 0, _, .cons h _, e => by simp at e; subst e; exact ⟨_, rfl, h⟩
  | _, _, i + 1, _, .cons _ r, e => by simpa using RepA.get (i := i) r (by simpa using e)
theorem RepA.append : ∀ {v w : List V} {d e : List Dat}, RepA K Z H v d → RepA K Z H w e → RepA K Z H (v ++ w) (d ++ e)
  | _, _, _, _, .nil, s => s
  | _, _, _, _, .cons h r, s => .cons h (RepA.append r s)
theorem RepA.take : ∀ {v : List V} {d : List Dat} (n : Nat), RepA K Z H v d → RepA K Z H (v.take n) (d.take n)
  | _, _, 0, _ => .nil
  | _, _, _ + 1, .nil => .nil
  | _, _, n + 1, .cons h r => .cons h (RepA.take n r)
theorem RepA.drop : ∀ {v : List V} {d : List Dat} (n : Nat), RepA K Z H v d → RepA K Z H (v.drop n) (d.drop n)
  | _, _, 0, r => r
  | _, _, _ + 1, .nil => .nil
  | _, _, n + 1, .cons _ r => RepA.drop n r
theorem RepA.set : ∀ {v : List V} {d : List Dat} (i : Nat) {x : V} {y : Dat}, RepA K Z H v d → Rep K Z H x y → RepA K Z H (v.set i x) (d.set i y)
  | _, _, _, _, _, .nil, _ => .nil
  | _, _, 0, _, _, .cons _ r, q => .cons q r
  | _, _, i + 1, _, _, .cons h r, q => .cons h (RepA.set i r q)
theorem RepD.len : ∀ {v : List (Key × V)} {d : List (Dat × Dat)}, RepD K Z H v d → v.length = d.length
  | _, _, .nil => rfl
  | _, _, .cons _ _ r => by simp [RepD.len r]
end

/-- what an expression may do: lay new objects, settle some of these -/
structure Ext (Z : ZS) (H : Hp) (Z' : ZS) (H' : Hp) : Prop where
  sub : ∀ a, Z a → Z' a
  same : Same H H'
  trk : ∀ a, Z' a → ∃ o, H' a = some o
  new : ∀ a, Z' a → Z a ∨ H a = none
def Trk (Z : ZS) (H : Hp) : Prop := ∀ a, Z a → ∃ o, H a = some o
section
variable {K : PySem.W.Frag} {Z Z1 Z2 Z' : ZS} {H H1 H2 H' Hs : Hp}
theorem Ext.refl (t : Trk Z H) : Ext Z H Z H := ⟨fun _ h => h, fun _ _ e => e, t, fun _ h => .inl h⟩
theorem Ext.adv (x : Ext Z H Z' H') : Adv Z H Z' H' := fun a h => ⟨x.sub a h, fun o e => x.same a o e⟩
theorem Ext.trans (x : Ext Z H Z1 H1) (y : Ext Z1 H1 Z2 H2) : Ext Z H Z2 H2 where
  sub := fun a h => y.sub a (x.sub a h)
  same := x.same.trans y.same
  trk := y.trk
  new := fun a h => by
    rcases y.new a h with h | h
    · exact x.new a h
    · exact .inr (x.same.free h)
/-- a new object at p -/
theorem Ext.laid {p : Addr} {o : HO} (t : Trk Z H) (hp : H p = none) : Ext Z H Z (upd H p o) where
  sub := fun _ h => h
  same := fun b x e => by rw [upd_ne (ne_of_none e hp)]; exact e
  trk := fun a h => by
    obtain ⟨o', e⟩ := t a h
    exact ⟨o', by rw [upd_ne (ne_of_none e hp)]; exact e⟩
  new := fun _ h => .inl h
def Zadd (Z : ZS) (p : Addr) : ZS := fun a => Z a ∨ a = p
/-- .. settled at once -/
theorem Ext.laidZ {p : Addr} {o : HO} (t : Trk Z H) (hp : H p = none) : Ext Z H (Zadd Z p) (upd H p o) where
  sub := fun _ h => .inl h
  same := (Ext.laid (o := o) t hp).same
  trk := fun a h => by
    rcases h with h | h
    · exact (Ext.laid (o := o) t hp).trk a h
    · subst h; exact ⟨o, upd_same⟩
  new := fun a h => by
    rcases h with h | h
    · exact .inl h
    · subst h; exact .inr hp
/-- an object that came since the start is settled -/
theorem Ext.settle {p : Addr} {o : HO} (x : Ext Z H Z' H') (hp : H p = none) (e : H' p = some o) : Ext Z H (Zadd Z' p) H' where
  sub := fun a h => .inl (x.sub a h)
  same := x.same
  trk := fun a h => by
    rcases h with h | h
    · exact x.trk a h
    · subst h; exact ⟨o, e⟩
  new := fun a h => by
    rcases h with h | h
    · exact x.new a h
    · subst h; exact .inr hp
theorem Adv.add {p : Addr} : Adv Z H (Zadd Z p) H := fun _ h => ⟨.inl h, fun _ e => e⟩
end

/-! ### how a value is held -/
/-- settled; new (its top is the caller's own); to be read -/
inductive Kd where | frz | new | sh
/-- the top of a list or dict of one's own -/
def Top (K : PySem.W.Frag) (Z : ZS) (H : Hp) (a : Addr) : Dat → Prop
  | .lst ds => ∃ xs, H a = some (.lst xs) ∧ RepA K Z H xs ds
  | .dic kvs => ∃ ks, H a = some (.dK ks) ∧ RepD K Z H ks kvs
  | _ => False
/-- a settled tuple -/
def STup (K : PySem.W.Frag) (Z : ZS) (H : Hp) (a : Addr) (xs : List V) : Prop := (Z a ∧ Rd H a (.tup xs)) ∨ KTup K a xs
theorem STup.sq {K : PySem.W.Frag} {Z : ZS} {H : Hp} {a : Addr} {xs : List V} (h : STup K Z H a xs) : SqT K H a xs := by
  rcases h with h | h
  · exact .inl h.2
  · exact .inr h
theorem STup.rep {K : PySem.W.Frag} {Z : ZS} {H : Hp} {a : Addr} {xs : List V} {ds : List Dat} (h : STup K Z H a xs) (r : RepA K Z H xs ds) : Rep K Z H (.ref a) (.tup ds) := by
  rcases h with h | h
  · exact .tup h.1 h.2 r
  · exact .tupK h r
theorem STup.adv {K : PySem.W.Frag} {Z Z' : ZS} {H H' : Hp} {a : Addr} {xs : List V} (x : Adv Z H Z' H') (h : STup K Z H a xs) : STup K Z' H' a xs := by
  rcases h with h | h
  · exact .inl ⟨(x _ h.1).1, Rd.adv h.2 (x _ h.1).2⟩
  · exact .inr h
/-- to be read: the top whatever, what is within settled -/
inductive Sh (K : PySem.W.Frag) (Z : ZS) (H : Hp) : V → Dat → Prop
  | non : Sh K Z H .non .non
  | bl (b : Bool) : Sh K Z H (.bl b) (.bl b)
  | int (i : Int) : Sh K Z H (.int i) (.int i)
  | str (x : Str) : okS x.cps.toList → Sh K Z H (.str x) (.str x.cps.toList)
  | lst {a : Addr} {xs : List V} {ds : List Dat} : SqL K H a xs → RepA K Z H xs ds → Sh K Z H (.ref a) (.lst ds)
  | tup {a : Addr} {xs : List V} {ds : List Dat} : STup K Z H a xs → RepA K Z H xs ds → Sh K Z H (.ref a) (.tup ds)
  | dic {a : Addr} {ks : List (Key × V)} {kvs : List (Dat × Dat)} : H a = some (.dK ks) → RepD K Z H ks kvs → Sh K Z H (.ref a) (.dic kvs)
def isBox : Dat → Bool
  | .lst _ => true
  | .dic _ => true
  | _ => false
def Val (K : PySem.W.Frag) (Z : ZS) (H Hs : Hp) : Kd → V → Dat → Prop
  | .frz, v, d => Rep K Z H v d
  | .new, v, d => (isBox d = true → ∃ a, v = .ref a ∧ ¬ Z a ∧ Hs a = none ∧ Top K Z H a d) ∧ (isBox d = false → Rep K Z H v d)
  | .sh, v, d => Sh K Z H v d
section
variable {K : PySem.W.Frag} {Z Z1 Z2 Z' : ZS} {H H1 H2 H' Hs : Hp} {v : V} {d : Dat} {a : Addr}
theorem Rep.sh (h : Rep K Z H v d) : Sh K Z H v d := by
  cases h with
  | non => exact .non
  | bl b => exact .bl b
  | int i => exact .int i
  | str x h => exact .str x h
  | lst z h r => exact .lst (.inl h) r
  | lstK k r => exact .lst (.inr k) r
  | tup z h r => exact .tup (.inl ⟨z, h⟩) r
  | tupK k r => exact .tup (.inr k) r
  | dic z h r => exact .dic h r
theorem Top.sh (h : Top K Z H a d) : Sh K Z H (.ref a) d := by
  cases d with
  | lst ds => obtain ⟨xs, e, r⟩ := h; exact .lst (.inl (.inl e)) r
  | dic kvs => obtain ⟨ks, e, r⟩ := h; exact .dic e r
  | _ => exact h.elim
theorem Top.there (h : Top K Z H a d) : ∃ o, H a = some o := by
  cases d with
  | lst ds => obtain ⟨xs, e, r⟩ := h; exact ⟨_, e⟩
  | dic kvs => obtain ⟨ks, e, r⟩ := h; exact ⟨_, e⟩
  | _ => exact h.elim
theorem Top.ext (x : Ext Z H Z' H') (h : Top K Z H a d) : Top K Z' H' a d := by
  cases d with
  | lst ds => obtain ⟨xs, e, r⟩ := h; exact ⟨xs, x.same _ _ e, r.adv x.adv⟩
  | dic kvs => obtain ⟨ks, e, r⟩ := h; exact ⟨ks, x.same _ _ e, r.adv x.adv⟩
  | _ => exact h.elim
theorem Top.settled (h : Top K Z H a d) : Rep K (Zadd Z a) H (.ref a) d := by
  cases d with
  | lst ds => obtain ⟨xs, e, r⟩ := h; exact .lst (.inr rfl) (.inl e) (r.adv .add)
  | dic kvs => obtain ⟨ks, e, r⟩ := h; exact .dic (.inr rfl) e (r.adv .add)
  | _ => exact h.elim
theorem Sh.ext (x : Ext Z H Z' H') (h : Sh K Z H v d) : Sh K Z' H' v d := by
  cases h with
  | non => exact .non
  | bl b => exact .bl b
  | int i => exact .int i
  | str x h => exact .str x h
  | lst h r =>
    refine .lst ?_ (r.adv x.adv)
    rcases h with h | h
    · exact .inl (Rd.adv h fun o e => x.same _ _ e)
    · exact .inr h
  | tup h r => exact .tup (h.adv x.adv) (r.adv x.adv)
  | dic h r => exact .dic (x.same _ _ h) (r.adv x.adv)
theorem Val.ext {k : Kd} (x : Ext Z H Z' H') (h : Val K Z H Hs k v d) : Val K Z' H' Hs k v d := by
  cases k with
  | frz => exact Rep.adv x.adv h
  | sh => exact Sh.ext x h
  | new =>
    refine ⟨fun b => ?_, fun b => Rep.adv x.adv (h.2 b)⟩
    obtain ⟨a, e, n, q, t⟩ := h.1 b
    refine ⟨a, e, fun z => ?_, q, t.ext x⟩
    obtain ⟨o, ho⟩ := t.there
    rcases x.new a z with z | z
    · exact n z
    · rw [ho] at z; cases z
theorem Val.early {k : Kd} (s : Same Hs H1) (h : Val K Z H H1 k v d) : Val K Z H Hs k v d := by
  cases k with
  | frz => exact h
  | sh => exact h
  | new =>
    refine ⟨fun b => ?_, h.2⟩
    obtain ⟨a, e, n, q, t⟩ := h.1 b
    exact ⟨a, e, n, s.free q, t⟩
theorem Val.sh {k : Kd} (h : Val K Z H Hs k v d) : Sh K Z H v d := by
  cases k with
  | frz => exact Rep.sh h
  | sh => exact h
  | new =>
    cases b : isBox d with
    | true =>
      obtain ⟨a, e, n, q, t⟩ := h.1 b
      subst e
      exact t.sh
    | false => exact Rep.sh (h.2 b)
/-- a value is settled -/
theorem Val.settle {k : Kd} (x : Ext Z H Z' H') (h : Val K Z' H' H k v d) (hk : k ≠ .sh) : ∃ Z'', Ext Z H Z'' H' ∧ Adv Z' H' Z'' H' ∧ Rep K Z'' H' v d := by
  cases k with
  | frz => exact ⟨Z', x, .refl, h⟩
  | sh => exact absurd rfl hk
  | new =>
    cases b : isBox d with
    | false => exact ⟨Z', x, .refl, h.2 b⟩
    | true =>
      obtain ⟨a, e, n, q, t⟩ := h.1 b
      subst e
      obtain ⟨o, ho⟩ := t.there
      exact ⟨Zadd Z' a, x.settle q ho, .add, t.settled⟩
end

/-! ### the slots -/
structure Ct where
  K : PySem.W.Frag
  EC : Nat → Addr
  Z0 : ZS
  H0 : Hp
  xs : Option (Nat × Addr × Nat)
/-- the slots hold the data; own: the slots whose list or dict is the def's own -/
structure SE (c : Ct) (own : List Nat) (Z : ZS) (H : Hp) (σ : St) (ρ : Env) : Prop where
  ext : Ext c.Z0 c.H0 Z H
  len : σ.length = ρ.length
  val : ∀ (i : Nat) (d : Dat), ρ[i]? = some (some d) → i ∉ own → (∀ x, d ≠ .exc x) → ∃ v, σ[i]? = some (some v) ∧ Rep c.K Z H v d
  exc : ∀ (i : Nat) (x : Nat), ρ[i]? = some (some (.exc x)) → ∃ a, c.xs = some (i, a, x) ∧ σ[i]? = some (some (.ref a))
  ow : ∀ i ∈ own, ∃ a d, ρ[i]? = some (some d) ∧ σ[i]? = some (some (.ref a)) ∧ ¬ Z a ∧ c.H0 a = none ∧ Top c.K Z H a d
  inj : ∀ i ∈ own, ∀ j ∈ own, i ≠ j → σ[i]? ≠ σ[j]?
section
variable {c : Ct} {own : List Nat} {Z Z' : ZS} {H H' : Hp} {σ : St} {ρ : Env}
theorem SE.trk (S : SE c own Z H σ ρ) : Trk Z H := S.ext.trk
theorem SE.move (S : SE c own Z H σ ρ) (x : Ext Z H Z' H') : SE c own Z' H' σ ρ where
  ext := S.ext.trans x
  len := S.len
  val := fun i d e n nx => by
    obtain ⟨v, h, r⟩ := S.val i d e n nx
    exact ⟨v, h, r.adv x.adv⟩
  exc := S.exc
  ow := fun i hi => by
    obtain ⟨a, d, e1, e2, nz, h0, t⟩ := S.ow i hi
    refine ⟨a, d, e1, e2, fun z => ?_, h0, t.ext x⟩
    obtain ⟨o, ho⟩ := t.there
    rcases x.new a z with z | z
    · exact nz z
    · rw [ho] at z; cases z
  inj := S.inj
theorem SE.sh (S : SE c own Z H σ ρ) {i : Nat} {d : Dat} (e : ρ[i]? = some (some d)) (nx : ∀ x, d ≠ .exc x) : ∃ v, σ[i]? = some (some v) ∧ Sh c.K Z H v d := by
  by_cases hi : i ∈ own
  · obtain ⟨a, d', e1, e2, _, _, t⟩ := S.ow i hi
    rw [e] at e1
    cases e1
    exact ⟨_, e2, t.sh⟩
  · obtain ⟨v, h, r⟩ := S.val i d e hi nx
    exact ⟨v, h, r.sh⟩
/-- some slots are no longer own: what they hold is settled -/
theorem SE.drop (S : SE c own Z H σ ρ) {own' : List Nat} (h : ∀ i ∈ own', i ∈ own) : ∃ Z', Adv Z H Z' H ∧ SE c own' Z' H σ ρ := by
  let Zn : ZS := fun a => Z a ∨ ∃ i, i ∈ own ∧ i ∉ own' ∧ σ[i]? = some (some (.ref a))
  have ad : Adv Z H Zn H := fun a h => ⟨.inl h, fun _ e => e⟩
  have at0 : ∀ a, Zn a → Z a ∨ (c.H0 a = none ∧ ∃ o, H a = some o) := fun a z => by
    rcases z with z | ⟨i, hi, _, e⟩
    · exact .inl z
    · obtain ⟨b, d, e1, e2, nz, h0, t⟩ := S.ow i hi
      rw [e] at e2
      cases e2
      exact .inr ⟨h0, t.there⟩
  refine ⟨Zn, ad, ⟨⟨fun a z => .inl (S.ext.sub a z), S.ext.same, fun a z => ?_, fun a z => ?_⟩, S.len, fun i d e n nx => ?_, S.exc, fun i hi => ?_, fun i hi j hj => S.inj i (h i hi) j (h j hj)⟩⟩
  · rcases at0 a z with z | ⟨_, z⟩
    · exact S.ext.trk a z
    · exact z
  · rcases at0 a z with z | ⟨z, _⟩
    · exact S.ext.new a z
    · exact .inr z
  · by_cases hi : i ∈ own
    · obtain ⟨a, d', e1, e2, nz, h0, t⟩ := S.ow i hi
      rw [e] at e1
      cases e1
      refine ⟨_, e2, t.settled.adv fun b z => ⟨?_, fun _ q => q⟩⟩
      rcases z with z | z
      · exact .inl z
      · subst z; exact .inr ⟨i, hi, n, e2⟩
    · obtain ⟨v, hv, r⟩ := S.val i d e hi nx
      exact ⟨v, hv, r.adv ad⟩
  · obtain ⟨a, d, e1, e2, nz, h0, t⟩ := S.ow i (h i hi)
    refine ⟨a, d, e1, e2, fun z => ?_, h0, ?_⟩
    · rcases z with z | ⟨j, hj, hj', e⟩
      · exact nz z
      · exact S.inj i (h i hi) j hj (fun q => hj' (q ▸ hi)) (e2.trans e.symm)
    · cases d with
      | lst ds => obtain ⟨xs, e, r⟩ := t; exact ⟨xs, e, r.adv ad⟩
      | dic kvs => obtain ⟨ks, e, r⟩ := t; exact ⟨ks, e, r.adv ad⟩
      | _ => exact t.elim
end

/-! ### the canonical readings -/
abbrev PX (c : Ct) (W : WX) (Z : ZS) (H : Hp) (σ : St) : Nat → Prop := fun x => ∀ Z' H', Ext Z H Z' H' → W (.ref (c.EC x)) none σ H'
def qE (c : Ct) (W : WX) (own : List Nat) (k : Kd) (m : EM) : TE := fun σ H Q => ∃ Z ρ, SE c own Z H σ ρ ∧
  Post (m ρ) (fun d => ∀ v Z' H', Ext Z H Z' H' → Val c.K Z' H' H k v d → Q v H') (PX c W Z H σ)
def qT (c : Ct) (W : WX) (own : List Nat) (m : TM) : TT := fun σ H Q => ∃ Z ρ, SE c own Z H σ ρ ∧
  Post (m ρ) (fun b => ∀ Z' H', Ext Z H Z' H' → Q b H') (PX c W Z H σ)
/-- a row of values, each held so -/
inductive ValA (K : PySem.W.Frag) (Z : ZS) (H Hs : Hp) (k : Kd) : List V → List Dat → Prop
  | nil : ValA K Z H Hs k [] []
  | cons {v : V} {vs : List V} {d : Dat} {ds : List Dat} : Val K Z H Hs k v d → ValA K Z H Hs k vs ds → ValA K Z H Hs k (v :: vs) (d :: ds)
theorem ValA.ext {K : PySem.W.Frag} {Z Z' : ZS} {H H' Hs : Hp} {k : Kd} (x : Ext Z H Z' H') : ∀ {vs : List V} {ds : List Dat}, ValA K Z H Hs k vs ds → ValA K Z' H' Hs k vs ds
  | _, _, .nil => .nil
  | _, _, .cons h r => .cons (h.ext x) (ValA.ext x r)
theorem ValA.early {K : PySem.W.Frag} {Z : ZS} {H H1 Hs : Hp} {k : Kd} (x : Same Hs H1) : ∀ {vs : List V} {ds : List Dat}, ValA K Z H H1 k vs ds → ValA K Z H Hs k vs ds
  | _, _, .nil => .nil
  | _, _, .cons h r => .cons (h.early x) (ValA.early x r)
theorem ValA.rep {K : PySem.W.Frag} {Z : ZS} {H Hs : Hp} : ∀ {vs : List V} {ds : List Dat}, ValA K Z H Hs .frz vs ds → RepA K Z H vs ds
  | _, _, .nil => .nil
  | _, _, .cons h r => .cons h (ValA.rep r)
def qA (c : Ct) (W : WX) (own : List Nat) (k : Kd) (m : LM) : TA := fun σ H Q => ∃ Z ρ, SE c own Z H σ ρ ∧
  Post (m ρ) (fun ds => ∀ vs Z' H', Ext Z H Z' H' → ValA c.K Z' H' H k vs ds → Q vs H') (PX c W Z H σ)

theorem _root_.L2.PE.imp {X : Cx} {e : Expr} {t t' : TE} (h : PE X e t) (f : ∀ σ H Q, t' σ H Q → t σ H Q) : PE X e t' := ⟨fun pins s σ H Q I hw => h.run pins s σ H Q I (f σ H Q hw)⟩
theorem _root_.L2.PT.imp {X : Cx} {e : Expr} {t t' : TT} (h : PT X e t) (f : ∀ σ H Q, t' σ H Q → t σ H Q) : PT X e t' := ⟨fun pins s σ H Q I hw => h.run pins s σ H Q I (f σ H Q hw)⟩
theorem _root_.L2.PW.imp {X : Cx} {e : Expr} {t t' : TT} (h : PW X e t) (f : ∀ σ H Q, t' σ H Q → t σ H Q) : PW X e t' := ⟨fun wh pins s σ H Q I hw => h.run wh pins s σ H Q I (f σ H Q hw)⟩
theorem _root_.L2.PA.imp {X : Cx} {e : List Expr} {t t' : TA} (h : PA X e t) (f : ∀ σ H Q, t' σ H Q → t σ H Q) : PA X e t' := ⟨fun pos pins s σ H Q I hw => h.run pos pins s σ H Q I (f σ H Q hw)⟩
theorem _root_.L2.PS.imp {X : Cx} {e : Stmt} {t t' : TS} (h : PS X e t) (f : ∀ D σ H, t' D σ H → t D σ H) : PS X e t' := ⟨fun pins s σ H D I hw => h.run pins s σ H D I (f D σ H hw)⟩
theorem _root_.L2.PSs.imp {X : Cx} {e : List Stmt} {t t' : TS} (h : PSs X e t) (f : ∀ D σ H, t' D σ H → t D σ H) : PSs X e t' := ⟨fun pins s σ H D I hw => h.run pins s σ H D I (f D σ H hw)⟩

section
variable {X : Cx} {c : Ct} {W : WX} {own : List Nat} {k k1 k2 k3 : Kd} {e a b : Expr} {m m1 m2 m3 : EM} {t : TE} {Z : ZS} {H : Hp} {σ : St} {ρ : Env} {Q : VK}
/-- the reading goes on: what is wanted of the value -/
theorem qE.of (S : SE c own Z H σ ρ) (p : Post (m ρ) (fun d => ∀ v Z' H', Ext Z H Z' H' → Val c.K Z' H' H k v d → Q v H') (PX c W Z H σ)) : qE c W own k m σ H Q := ⟨Z, ρ, S, p⟩
theorem PX.move {Z' : ZS} {H' : Hp} (x : Ext Z H Z' H') {n : Nat} (h : PX c W Z H σ n) : PX c W Z' H' σ n := fun Z2 H2 y => h Z2 H2 (x.trans y)
/-- a new value is settled -/
theorem q_frz (h : PE X e (qE c W own .new m)) : PE X e (qE c W own .frz m) := h.imp fun σ H Q ⟨Z, ρ, S, p⟩ => ⟨Z, ρ, S, p.imp (fun d q v Z' H' x hv => by
  obtain ⟨Z2, x2, _, r⟩ := hv.settle x (by simp)
  exact q v Z2 H' x2 r) fun _ q => q⟩
theorem q_sh (h : PE X e (qE c W own k m)) : PE X e (qE c W own .sh m) := h.imp fun σ H Q ⟨Z, ρ, S, p⟩ => ⟨Z, ρ, S, p.imp (fun d q v Z' H' x hv => q v Z' H' x hv.sh) fun _ q => q⟩
/-- a name that holds what is settled -/
theorem q_var {i : Nat} {x : Str} {pos : Pos} (hi : i ∉ own) (hn : c.xs.all (fun p => p.1 != i) = true) (hN : X.N[i]? = some x) (hv : Vis X.env.scope x) (hd : (x == ("__debug__" : Str)) = false) (hcd : (x == ("__classdict__" : Str)) = false) : PE X (.Name x pos) (qE c W own .frz (eV i)) :=
  (pe_var hN hv hd hcd).imp fun σ H Q ⟨Z, ρ, S, p⟩ => by
    unfold eV at p
    split at p
    · rename_i d e
      have nx : ∀ x, d ≠ .exc x := fun x z => by
        subst z
        obtain ⟨a, e1, _⟩ := S.exc i x e
        rw [e1] at hn
        simp at hn
      obtain ⟨v, h, r⟩ := S.val i d e hi nx
      exact ⟨v, h, p v Z H (.refl S.trk) r⟩
    · exact p.elim
/-- a name, read -/
theorem q_varS {i : Nat} {x : Str} {pos : Pos} (hn : c.xs.all (fun p => p.1 != i) = true) (hN : X.N[i]? = some x) (hv : Vis X.env.scope x) (hd : (x == ("__debug__" : Str)) = false) (hcd : (x == ("__classdict__" : Str)) = false) : PE X (.Name x pos) (qE c W own .sh (eV i)) :=
  (pe_var hN hv hd hcd).imp fun σ H Q ⟨Z, ρ, S, p⟩ => by
    unfold eV at p
    split at p
    · rename_i d e
      have nx : ∀ x, d ≠ .exc x := fun x z => by
        subst z
        obtain ⟨a, e1, _⟩ := S.exc i x e
        rw [e1] at hn
        simp at hn
      obtain ⟨v, h, r⟩ := S.sh e nx
      exact ⟨v, h, p v Z H (.refl S.trk) r⟩
    · exact p.elim
theorem q_const {v : V} {d : Dat} (h : PE X e (tC v)) (r : ∀ K Z H, Rep K Z H v d) : PE X e (qE c W own .frz (eC d)) :=
  h.imp fun σ H Q ⟨Z, ρ, S, p⟩ => p v Z H (.refl S.trk) (r _ _ _)
theorem q_int {i j pos} : PE X (.Constant (.int i) j pos) (qE c W own .frz (eC (.int i))) := q_const pe_int fun _ _ _ => .int i
theorem q_bl {i j pos} : PE X (.Constant (.bool i) j pos) (qE c W own .frz (eC (.bl i))) := q_const pe_bl fun _ _ _ => .bl i
theorem q_non {j pos} : PE X (.Constant .none j pos) (qE c W own .frz (eC .non)) := q_const pe_non fun _ _ _ => .non
theorem q_str {x : Str} {j pos} {s : List Nat} (h : (x.cps.toList == s && s.all (· < 1114112) && decide (s.length ≤ LINE)) = true) : PE X (.Constant (.str x) j pos) (qE c W own .frz (eC (.str s))) := by
  rw [Bool.and_eq_true, Bool.and_eq_true, beq_iff_eq, List.all_eq_true, decide_eq_true_iff] at h
  obtain ⟨⟨h, h2⟩, h3⟩ := h
  subst h
  exact q_const pe_str fun _ _ _ => .str x ⟨fun c hc => by simpa using h2 c hc, h3⟩

/-- a rule for two values -/
def Op2 (K : PySem.W.Frag) (r : R2) (k1 k2 k : Kd) (f : Dat → Dat → R Dat) : Prop := ∀ (Z : ZS) (H Hs : Hp) (v u : V) (d e : Dat) (Q : VK), Trk Z H → Same Hs H → Val K Z H Hs k1 v d → Val K Z H Hs k2 u e →
  Post (f d e) (fun z => ∀ w Z' H', Ext Z H Z' H' → Val K Z' H' Hs k w z → Q w H') (fun _ => False) → r v u H Q
def Op1 (K : PySem.W.Frag) (r : V → Hp → VK → Prop) (k1 k : Kd) (f : Dat → R Dat) : Prop := ∀ (Z : ZS) (H Hs : Hp) (v : V) (d : Dat) (Q : VK), Trk Z H → Same Hs H → Val K Z H Hs k1 v d →
  Post (f d) (fun z => ∀ w Z' H', Ext Z H Z' H' → Val K Z' H' Hs k w z → Q w H') (fun _ => False) → r v H Q
/-- an operation lets no own error out -/
def NoX1 (f : Dat → R Dat) : Prop := ∀ d x, f d ≠ .exc x
def NoX2 (f : Dat → Dat → R Dat) : Prop := ∀ d e x, f d e ≠ .exc x
theorem Post.nox {α : Type} {r : R α} {p : α → Prop} {x : Nat → Prop} (n : ∀ c, r ≠ .exc c) (h : Post r p x) : Post r p (fun _ => False) := by
  cases r with
  | ok a => exact h
  | exc c => exact absurd rfl (n c)
  | bad => exact h
theorem q_bin {r : R2} {f : Dat → Dat → R Dat} (ha : PE X a (qE c W own k1 m1)) (hb : PE X b (qE c W own k2 m2)) (hPE : ∀ ta tb, PE X a ta → PE X b tb → PE X e (tOp r ta tb))
    (ho : Op2 c.K r k1 k2 k f) (nx : NoX2 f) : PE X e (qE c W own k (e2 f m1 m2)) := (hPE _ _ ha hb).imp fun σ H Q ⟨Z, ρ, S, p⟩ => by
  refine ⟨Z, ρ, S, (Post.bnd p).imp (fun d p1 v Z1 H1 x1 hv => ⟨Z1, ρ, S.move x1, (Post.bnd p1).imp (fun d' p2 u Z2 H2 x2 hu => ?_) fun n q => q.move x1⟩) fun _ q => q⟩
  exact ho Z2 H2 H v u d d' Q x2.trk (x1.same.trans x2.same) (hv.ext x2) (hu.early x1.same) ((Post.nox (nx d d') p2).imp (fun z q w Z3 H3 x3 hw => q w Z3 H3 ((x1.trans x2).trans x3) hw) fun _ q => q)
theorem q_un {r : V → Hp → VK → Prop} {f : Dat → R Dat} (ha : PE X a (qE c W own k1 m1)) (hPE : ∀ ta, PE X a ta → PE X e (tUn r ta)) (ho : Op1 c.K r k1 k f) (nx : NoX1 f) : PE X e (qE c W own k (e1 f m1)) := (hPE _ ha).imp fun σ H Q ⟨Z, ρ, S, p⟩ => by
  refine ⟨Z, ρ, S, (Post.bnd p).imp (fun d p1 v Z1 H1 x1 hv => ?_) fun _ q => q⟩
  exact ho Z1 H1 H v d Q x1.trk x1.same hv ((Post.nox (nx d) p1).imp (fun z q w Z3 H3 x3 hw => q w Z3 H3 (x1.trans x3) hw) fun _ q => q)
end
end PL

set_option maxRecDepth 100000
set_option maxHeartbeats 4000000
namespace PL
open PySem PySem.Spec PyProof.Rows L2
set_option autoImplicit false
abbrev KF := PySem.W.Frag

theorem line_eq : LINE = sizeLine := by rw [sizeLine_eq]; rfl
theorem okS_nil : okS [] := ⟨fun _ h => (by cases h), Nat.zero_le _⟩
theorem okS_app {x y : List Nat} (h : okS x) (k : okS y) (hl : x.length + y.length ≤ LINE) : okS (x ++ y) := ⟨fun c hc => by
  rcases List.mem_append.mp hc with h' | h'
  · exact h.1 c h'
  · exact k.1 c h', by rw [List.length_append]; exact hl⟩
theorem okS_sub {x y : List Nat} (h : okS x) (k : ∀ c ∈ y, c ∈ x) (hl : y.length ≤ x.length) : okS y := ⟨fun c hc => h.1 c (k c hc), Nat.le_trans hl h.2⟩
theorem okS_one {x : List Nat} {c : Nat} (h : okS x) (k : c ∈ x) : okS [c] := ⟨fun q hq => (by rw [show q = c by simpa using hq]; exact h.1 c k), by show 1 ≤ LINE; decide⟩
section
variable {K : KF} {Z Z' : ZS} {H H' Hs : Hp} {v u : V} {d e : Dat} {Q : VK} {k : Kd}
theorem Rep.ofS {x : Str} {s : List Nat} (e : x.cps.toList = s) (h : okS s) : Rep K Z H (.str x) (.str s) := by
  subst e
  exact .str x h
theorem Post.ite {α : Type} {b : Prop} [Decidable b] {a : α} {p : α → Prop} {x : Nat → Prop} (h : Post (if b then .ok a else .bad) p x) : b ∧ p a := by
  by_cases hb : b
  · rw [if_pos hb] at h
    exact ⟨hb, h⟩
  · rw [if_neg hb] at h
    exact h.elim
abbrev Wnt (K : KF) (Z : ZS) (H Hs : Hp) (k : Kd) (Q : VK) : Dat → Prop := fun z => ∀ w Z' H', Ext Z H Z' H' → Val K Z' H' Hs k w z → Q w H'
/-- a settled result, here and now -/
theorem Wnt.frz {w : V} {z : Dat} (t : Trk Z H) (p : Wnt K Z H Hs .frz Q z) (r : Rep K Z H w z) : Q w H := p w Z H (.refl t) r
theorem Wnt.new {w : V} {z : Dat} (t : Trk Z H) (p : Wnt K Z H Hs .new Q z) (r : Rep K Z H w z) (b : isBox z = false) : Q w H := p w Z H (.refl t) ⟨fun z => (by rw [b] at z; cases z), fun _ => r⟩
theorem Wnt.newL {p : Addr} {xs : List V} {ds : List Dat} (t : Trk Z H) (s : Same Hs H) (q : Wnt K Z H Hs .new Q (.lst ds)) (r : RepA K Z H xs ds) (hp : H p = none) : Q (.ref p) (upd H p (.lst xs)) :=
  q (.ref p) Z _ (.laid t hp) ⟨fun _ => ⟨p, rfl, fun z => (by obtain ⟨o, e⟩ := t p z; rw [hp] at e; cases e), s.free hp, xs, upd_same, r.adv (Ext.laid t hp).adv⟩, fun z => (by cases z)⟩
theorem Wnt.newD {p : Addr} {ks : List (Key × V)} {kvs : List (Dat × Dat)} (t : Trk Z H) (s : Same Hs H) (q : Wnt K Z H Hs .new Q (.dic kvs)) (r : RepD K Z H ks kvs) (hp : H p = none) : Q (.ref p) (upd H p (.dK ks)) :=
  q (.ref p) Z _ (.laid t hp) ⟨fun _ => ⟨p, rfl, fun z => (by obtain ⟨o, e⟩ := t p z; rw [hp] at e; cases e), s.free hp, ks, upd_same, r.adv (Ext.laid t hp).adv⟩, fun z => (by cases z)⟩
theorem Rep.kd {w : V} {z : Dat} (k : Kd) (r : Rep K Z H w z) (b : isBox z = false) : Val K Z H Hs k w z := by
  cases k with
  | frz => exact r
  | sh => exact Rep.sh r
  | new => exact ⟨fun z => (by rw [b] at z; cases z), fun _ => r⟩
/-- a new tuple, settled -/
theorem Wnt.tup {p : Addr} {xs : List V} {ds : List Dat} (t : Trk Z H) (q : Wnt K Z H Hs k Q (.tup ds)) (r : RepA K Z H xs ds) (hp : H p = none) : Q (.ref p) (upd H p (.tup xs)) :=
  q (.ref p) (Zadd Z p) _ (.laidZ t hp) ((Rep.tup (.inr rfl) (.inl upd_same) (r.adv (Ext.laidZ t hp).adv)).kd k rfl)
theorem Wnt.at {w : V} {z : Dat} (t : Trk Z H) (p : Wnt K Z H Hs k Q z) (r : Rep K Z H w z) (b : isBox z = false) : Q w H := p w Z H (.refl t) (r.kd k b)
theorem Wnt.int (t : Trk Z H) {i : Int} (p : Wnt K Z H Hs k Q (.int i)) : Q (.int i) H := p.at t (.int i) rfl
theorem Wnt.bl (t : Trk Z H) {b : Bool} (p : Wnt K Z H Hs k Q (.bl b)) : Q (.bl b) H := p.at t (.bl b) rfl
theorem Wnt.str (t : Trk Z H) {x : Str} {s : List Nat} (p : Wnt K Z H Hs k Q (.str s)) (e : x.cps.toList = s) (h : okS s) : Q (.str x) H := p.at t (.ofS e h) rfl
end

section
variable {X : Cx}
/-! ### + -/
theorem op_catS : OpR X (binaryOp .Add) (fun x y H Q => ∃ l b xs zs, x = .ref l ∧ y = .ref b ∧ SqL X.K H l xs ∧ SqL X.K H b zs ∧ xs.length + zs.length ≤ sizeLine ∧ ∀ p, H p = none → Q (.ref p) (upd H p (.lst (xs ++ zs)))) := by
  intro pins s σ H x y v u Q I rx ry h
  obtain ⟨l, b, xs, zs, rfl, rfl, hH, hB, hz, q⟩ := h
  cases rx
  cases ry
  obtain ⟨its, r, ⟨⟨c1, d1, t1, s1⟩, n, g1, g2, g3, g4⟩, z⟩ := I.list hH
  obtain ⟨its2, r2, ⟨⟨c2, d2, t2, s2⟩, n2, k1, k2, k3, k4⟩, z2⟩ := I.list hB
  simp only at g2 g3 g4 k2 k3 k4
  subst g2 g3 g4 k2 k3 k4
  have el := r.length
  have el2 := r2.length
  have ea : its.toArray ++ its2.toArray = (its ++ its2).toArray := by simp
  refine concat_meets ⟨_, g1, rfl⟩ ⟨_, k1, rfl⟩ noFill_list_add seq_list_add F.slot_list_add F.entry_list_add (F.args_list_add_2 _ _) (list_addW l b its.toArray its2.toArray n n2 none none s1 s2 (by simp only [List.size_toArray]; omega)) ⟨g1, k1, ?_⟩
  rw [ea]
  exact ⟨.ref _, _, I.lnew (t' := s.toks) (r.append r2) (by rw [List.length_append]; omega), rfl, q _ I.fresh⟩
def rAddU (K : KF) : R2 := fun x y H Q => (∃ i j, x = .int i ∧ y = .int j ∧ Q (.int (i + j)) H) ∨ (∃ i j, x = .str i ∧ y = .str j ∧ i.length + j.length ≤ sizeLine ∧ Q (.str (i ++ j)) H) ∨
  (∃ l b xs zs, x = .ref l ∧ y = .ref b ∧ SqL K H l xs ∧ SqL K H b zs ∧ xs.length + zs.length ≤ sizeLine ∧ ∀ p, H p = none → Q (.ref p) (upd H p (.lst (xs ++ zs)))) ∨ rCatA K x y H Q
theorem opU_add : OpR X (binaryOp .Add) (rAddU X.K) := op_add.or (op_add_str.or (op_catS.or op_catA))
theorem cpsApp (i j : Str) : (i ++ j).cps.toList = i.cps.toList ++ j.cps.toList := by
  show (i.cps ++ j.cps).toList = _
  simp
theorem RepA.nil_iff {K : KF} {Z : ZS} {H : Hp} {xs : List V} {ds : List Dat} (r : RepA K Z H xs ds) : xs = [] → ds = [] := fun e => by
  subst e
  cases r
  rfl
theorem o2_add {K : KF} : Op2 K (rAddU K) .sh .sh .new addD := by
  intro Z H Hs v u d e Q t s hv hu p
  cases hv with
  | int i =>
    cases hu with
    | int j => exact .inl ⟨i, j, rfl, rfl, Wnt.int t p⟩
    | _ => exact False.elim p
  | str x hx =>
    cases hu with
    | str y hy =>
      obtain ⟨hz, p⟩ := Post.ite p
      have hz2 := hz
      rw [line_eq] at hz
      exact .inr (.inl ⟨x, y, rfl, rfl, by simpa [Str.length] using hz, Wnt.str t p (cpsApp x y) (okS_app hx hy hz2)⟩)
    | _ => exact False.elim p
  | lst h r =>
    cases hu with
    | lst h2 r2 =>
      obtain ⟨hz, p⟩ := Post.ite p
      rw [line_eq, ← r.len, ← r2.len] at hz
      exact .inr (.inr (.inl ⟨_, _, _, _, rfl, rfl, h, h2, hz, fun q hq => Wnt.newL t s p (r.append r2) hq⟩))
    | _ => exact False.elim p
  | tup h r =>
    cases hu with
    | tup h2 r2 =>
      obtain ⟨hz, p⟩ := Post.ite p
      rw [line_eq, ← r.len, ← r2.len] at hz
      refine .inr (.inr (.inr ⟨_, _, _, _, rfl, rfl, h.sq, h2.sq, hz, fun z => ?_, fun _ z => ?_, fun _ z q hq => Wnt.tup t p (r.append r2) hq⟩))
      · subst z
        cases r
        exact Wnt.at t p (h2.rep r2) rfl
      · subst z
        cases r2
        rw [List.append_nil] at p
        exact Wnt.at t p (h.rep r) rfl
    | _ => exact False.elim p
  | _ => exact False.elim p

/-! ### numbers -/
/-- a rule of two ints -/
theorem o2_int {K : KF} {C : Int → Int → Prop} {g : Int → Int → V} {f : Dat → Dat → R Dat} (h : ∀ d e (p : Dat → Prop) (x : Nat → Prop), Post (f d e) p x → ∃ i j z, d = .int i ∧ e = .int j ∧ C i j ∧ p z ∧ isBox z = false ∧ ∀ K Z H, Rep K Z H (g i j) z) : Op2 K (rI C g) .sh .sh .new f := by
  intro Z H Hs v u d e Q t s hv hu p
  obtain ⟨i, j, z, rfl, rfl, hc, q, b, r⟩ := h d e _ _ p
  cases hv
  cases hu
  exact ⟨i, j, rfl, rfl, hc, Wnt.at t q (r _ _ _) b⟩
theorem o2_int0 {K : KF} {g : Int → Int → V} {f : Dat → Dat → R Dat} (h : ∀ d e (p : Dat → Prop) (x : Nat → Prop), Post (f d e) p x → ∃ i j z, d = .int i ∧ e = .int j ∧ p z ∧ isBox z = false ∧ ∀ K Z H, Rep K Z H (g i j) z) : Op2 K (rI0 g) .sh .sh .new f := by
  intro Z H Hs v u d e Q t s hv hu p
  obtain ⟨i, j, z, rfl, rfl, q, b, r⟩ := h d e _ _ p
  cases hv
  cases hu
  exact ⟨i, j, rfl, rfl, Wnt.at t q (r _ _ _) b⟩
theorem o2_sub {K : KF} : Op2 K (rI0 fun i j => .int (i - j)) .sh .sh .new subD := o2_int0 fun d e p x h => by
  cases d <;> cases e <;> first | exact ⟨_, _, _, rfl, rfl, h, rfl, fun _ _ _ => .int _⟩ | exact False.elim h
theorem o2_mod {K : KF} : Op2 K (rI (fun _ j => 0 < j) fun i j => .int (i % j)) .sh .sh .new modD := o2_int fun d e p x h => by
  cases d <;> cases e <;> first | exact ⟨_, _, _, rfl, rfl, (Post.ite h).1, (Post.ite h).2, rfl, fun _ _ _ => .int _⟩ | exact False.elim h
theorem o2_fdiv {K : KF} : Op2 K (rI CDiv fun i j => .int (i / j)) .sh .sh .new fdivD := o2_int fun d e p x h => by
  cases d <;> cases e <;> first | exact ⟨_, _, _, rfl, rfl, (Post.ite h).1, (Post.ite h).2, rfl, fun _ _ _ => .int _⟩ | exact False.elim h
theorem o2_pow {K : KF} : Op2 K (rI CPow fun i j => .int (i ^ j.toNat)) .sh .sh .new powD := o2_int fun d e p x h => by
  cases d <;> cases e <;> first | exact ⟨_, _, _, rfl, rfl, (Post.ite h).1, (Post.ite h).2, rfl, fun _ _ _ => .int _⟩ | exact False.elim h
/-! ### order, None -/
def rOrd (p : Int → Int → Bool) (q : List Nat → List Nat → Bool) : R2 := fun x y H Q => (∃ i j, x = .int i ∧ y = .int j ∧ Q (.bl (p i j)) H) ∨ (∃ i j, x = .str i ∧ y = .str j ∧ Q (.bl (q i.cps.toList j.cps.toList)) H)
theorem opU_lt : OpR X (compareOp .Lt) (rOrd (fun i j => decide (i < j)) fun x y => ltS x y) := op_lt.or op_lt_str
theorem opU_le : OpR X (compareOp .LtE) (rOrd (fun i j => decide (i ≤ j)) fun x y => !ltS y x) := op_le.or op_le_str
theorem opU_gt : OpR X (compareOp .Gt) (rOrd (fun i j => decide (j < i)) fun x y => ltS y x) := op_gt.or op_gt_str
theorem opU_ge : OpR X (compareOp .GtE) (rOrd (fun i j => decide (j ≤ i)) fun x y => !ltS x y) := op_ge.or op_ge_str
theorem o2_ord {K : KF} {p : Int → Int → Bool} {q : List Nat → List Nat → Bool} {f : Dat → Dat → R Dat} (hi : ∀ i j, f (.int i) (.int j) = .ok (.bl (p i j))) (hs : ∀ x y, f (.str x) (.str y) = .ok (.bl (q x y)))
    (hn : ∀ d e, (∃ z, f d e = .ok z) → (∃ i j, d = .int i ∧ e = .int j) ∨ ∃ x y, d = .str x ∧ e = .str y) : Op2 K (rOrd p q) .sh .sh .new f := by
  intro Z H Hs v u d e Q t s hv hu pp
  have h0 : ∃ z, f d e = .ok z := by
    cases h : f d e with
    | ok z => exact ⟨z, rfl⟩
    | exc c => rw [h] at pp; exact False.elim pp
    | bad => rw [h] at pp; exact False.elim pp
  rcases hn d e h0 with ⟨i, j, rfl, rfl⟩ | ⟨x, y, rfl, rfl⟩
  · rw [hi] at pp
    cases hv
    cases hu
    exact .inl ⟨i, j, rfl, rfl, Wnt.bl t pp⟩
  · rw [hs] at pp
    cases hv
    cases hu
    exact .inr ⟨_, _, rfl, rfl, Wnt.bl t pp⟩
theorem o2_lt {K : KF} : Op2 K (rOrd (fun i j => decide (i < j)) fun x y => ltS x y) .sh .sh .new ltD := o2_ord (fun _ _ => rfl) (fun _ _ => rfl) fun d e ⟨z, h⟩ => by
  cases d <;> cases e <;> first | exact .inl ⟨_, _, rfl, rfl⟩ | exact .inr ⟨_, _, rfl, rfl⟩ | cases h
theorem o2_le {K : KF} : Op2 K (rOrd (fun i j => decide (i ≤ j)) fun x y => !ltS y x) .sh .sh .new leD := o2_ord (fun _ _ => rfl) (fun _ _ => rfl) fun d e ⟨z, h⟩ => by
  cases d <;> cases e <;> first | exact .inl ⟨_, _, rfl, rfl⟩ | exact .inr ⟨_, _, rfl, rfl⟩ | cases h
theorem o2_gt {K : KF} : Op2 K (rOrd (fun i j => decide (j < i)) fun x y => ltS y x) .sh .sh .new gtD := o2_ord (fun _ _ => rfl) (fun _ _ => rfl) fun d e ⟨z, h⟩ => by
  cases d <;> cases e <;> first | exact .inl ⟨_, _, rfl, rfl⟩ | exact .inr ⟨_, _, rfl, rfl⟩ | cases h
theorem o2_ge {K : KF} : Op2 K (rOrd (fun i j => decide (j ≤ i)) fun x y => !ltS x y) .sh .sh .new geD := o2_ord (fun _ _ => rfl) (fun _ _ => rfl) fun d e ⟨z, h⟩ => by
  cases d <;> cases e <;> first | exact .inl ⟨_, _, rfl, rfl⟩ | exact .inr ⟨_, _, rfl, rfl⟩ | cases h
theorem sh_non {K : KF} {Z : ZS} {H : Hp} {v : V} {d : Dat} (h : Sh K Z H v d) : isN d = .ok (.bl (decide (v = .non))) ∧ notN d = .ok (.bl (!decide (v = .non))) := by
  cases h <;> exact ⟨by simp [isN], by simp [notN]⟩
theorem q_isN {c : Ct} {W : WX} {own : List Nat} {a : Expr} {m : EM} {j : Nat} {p2 pos : Pos} (ha : PE X a (qE c W own .sh m)) : PE X (.Compare a [.Is] [.Constant .none j p2] pos) (qE c W own .new (e1 isN m)) :=
  (pe_cmp (pc_isN ha)).imp fun σ H Q ⟨Z, ρ, S, p⟩ => ⟨Z, ρ, S, (Post.bnd p).imp (fun d p1 v Z1 H1 x1 hv => by
    rw [(sh_non hv).1] at p1
    exact p1 (.bl _) Z1 H1 x1 (Rep.kd .new (.bl _) rfl)) fun _ q => q⟩
theorem q_notN {c : Ct} {W : WX} {own : List Nat} {a : Expr} {m : EM} {j : Nat} {p2 pos : Pos} (ha : PE X a (qE c W own .sh m)) : PE X (.Compare a [.IsNot] [.Constant .none j p2] pos) (qE c W own .new (e1 notN m)) :=
  (pe_cmp (pc_notN ha)).imp fun σ H Q ⟨Z, ρ, S, p⟩ => ⟨Z, ρ, S, (Post.bnd p).imp (fun d p1 v Z1 H1 x1 hv => by
    rw [(sh_non hv).2] at p1
    exact p1 (.bl _) Z1 H1 x1 (Rep.kd .new (.bl _) rfl)) fun _ q => q⟩

/-! ### equality at any depth -/
mutual
def toPy : Dat → PyData
  | .non => .none
  | .bl b => .bool b
  | .int i => .int i
  | .str s => .str ⟨s.toArray⟩
  | .lst xs => .list (toPyL xs)
  | .tup xs => .tuple (toPyL xs)
  | .dic _ => .none
  | .exc _ => .none
def toPyL : List Dat → List PyData
  | [] => []
  | d :: r => toPy d :: toPyL r
end
theorem b2i_eq (b : Bool) : b2i b = (if b then 1 else 0) := rfl
mutual
theorem eqv_py : ∀ (d e : Dat) (n m : Nat), shp n d = true → shp m e = true → PyData.eqv (toPy d) (toPy e) = eqv d e
  | .non, e, n, m, h, k => by cases e <;> first | rfl | (cases m <;> exact absurd k (by simp [shp]))
  | .bl b, e, n, m, h, k => by cases e <;> first | rfl | (cases m <;> exact absurd k (by simp [shp]))
  | .int i, e, n, m, h, k => by cases e <;> first | rfl | (cases m <;> exact absurd k (by simp [shp]))
  | .str s, e, n, m, h, k => by
    cases e with
    | str t =>
      show ((⟨s.toArray⟩ : Str) == ⟨t.toArray⟩) = (s == t)
      rw [Bool.eq_iff_iff, beq_iff_eq, beq_iff_eq]
      constructor
      · intro q
        injection q with q
        simpa using congrArg Array.toList q
      · intro q
        subst q
        rfl
    | _ => first | rfl | (cases m <;> exact absurd k (by simp [shp]))
  | .lst xs, e, n, m, h, k => by
    cases n with
    | zero => exact absurd h (by simp [shp])
    | succ n =>
      cases e with
      | lst ys =>
        cases m with
        | zero => exact absurd k (by simp [shp])
        | succ m => exact eqv_pyL xs ys n m h k
      | _ => first | rfl | (cases m <;> exact absurd k (by simp [shp]))
  | .tup xs, e, n, m, h, k => by
    cases n with
    | zero => exact absurd h (by simp [shp])
    | succ n =>
      cases e with
      | tup ys =>
        cases m with
        | zero => exact absurd k (by simp [shp])
        | succ m => exact eqv_pyL xs ys n m h k
      | _ => first | rfl | (cases m <;> exact absurd k (by simp [shp]))
  | .dic _, e, n, m, h, k => by cases n <;> exact absurd h (by simp [shp])
  | .exc _, e, n, m, h, k => by cases n <;> exact absurd h (by simp [shp])
theorem eqv_pyL : ∀ (d e : List Dat) (n m : Nat), shpL n d = true → shpL m e = true → PyData.eqvAll (toPyL d) (toPyL e) = eqvL d e
  | [], [], _, _, _, _ => rfl
  | [], _ :: _, _, _, _, _ => rfl
  | _ :: _, [], _, _, _, _ => rfl
  | d :: r, e :: t, n, m, h, k => by
    simp only [shpL, Bool.and_eq_true] at h k
    simp only [toPyL, PyData.eqvAll, eqvL, eqv_py d e n m h.1 k.1, eqv_pyL r t n m h.2 k.2]
end
theorem okS_ok {x : Str} (h : okS x.cps.toList) : PyData.strOk x = true := by
  unfold PyData.strOk
  rw [← Array.all_toList, List.all_eq_true]
  intro c hc
  have := h.1 c hc
  simpa using this
section
variable {K : KF} {Z : ZS} {H : Hp}
mutual
theorem Rep.dp : ∀ {v : V} {d : Dat} {n : Nat}, Rep K Z H v d → shp n d = true → Dp K H v (toPy d) ∧ (toPy d).canLay0 = true ∧ (toPy d).depth ≤ n
  | _, _, _, .non, _ => ⟨.non, by simp [toPy, PyData.canLay0], by simp [toPy, PyData.depth]⟩
  | _, _, _, .bl b, _ => ⟨.bl b, by simp [toPy, PyData.canLay0], by simp [toPy, PyData.depth]⟩
  | _, _, _, .int i, _ => ⟨.int i, by simp [toPy, PyData.canLay0], by simp [toPy, PyData.depth]⟩
  | _, _, _, .str x hx, _ => ⟨by simpa [toPy] using Dp.str x, by simpa [toPy, PyData.canLay0] using okS_ok hx, by simp [toPy, PyData.depth]⟩
  | _, _, 0, .lst z h r, s => absurd s (by simp [shp])
  | _, _, n + 1, .lst z h r, s => by
    obtain ⟨h1, h2, h3⟩ := RepA.dp r (show shpL n _ = true from s)
    exact ⟨.lst (.inl h) h1, by simpa [toPy, PyData.canLay0] using h2, by simpa [toPy, PyData.depth] using h3⟩
  | _, _, 0, .lstK h r, s => absurd s (by simp [shp])
  | _, _, n + 1, .lstK h r, s => by
    obtain ⟨h1, h2, h3⟩ := RepA.dp r (show shpL n _ = true from s)
    exact ⟨.lst (.inr h) h1, by simpa [toPy, PyData.canLay0] using h2, by simpa [toPy, PyData.depth] using h3⟩
  | _, _, 0, .tup z h r, s => absurd s (by simp [shp])
  | _, _, n + 1, .tup z h r, s => by
    obtain ⟨h1, h2, h3⟩ := RepA.dp r (show shpL n _ = true from s)
    exact ⟨.tup (.inl h) h1, by simpa [toPy, PyData.canLay0] using h2, by simpa [toPy, PyData.depth] using h3⟩
  | _, _, 0, .tupK h r, s => absurd s (by simp [shp])
  | _, _, n + 1, .tupK h r, s => by
    obtain ⟨h1, h2, h3⟩ := RepA.dp r (show shpL n _ = true from s)
    exact ⟨.tup (.inr h) h1, by simpa [toPy, PyData.canLay0] using h2, by simpa [toPy, PyData.depth] using h3⟩
  | _, _, n, .dic z h r, s => absurd s (by cases n <;> simp [shp])
theorem RepA.dp : ∀ {v : List V} {d : List Dat} {n : Nat}, RepA K Z H v d → shpL n d = true → DpAll K H v (toPyL d) ∧ PyData.canLayAll0 (toPyL d) = true ∧ PyData.depthAll (toPyL d) ≤ n
  | _, _, _, .nil, _ => ⟨.nil, by simp [toPyL, PyData.canLayAll0], by simp [toPyL, PyData.depthAll]⟩
  | _, _, n, .cons h r, s => by
    simp only [shpL, Bool.and_eq_true] at s
    obtain ⟨h1, h2, h3⟩ := Rep.dp h s.1
    obtain ⟨k1, k2, k3⟩ := RepA.dp r s.2
    exact ⟨.cons h1 k1, by simp [toPyL, PyData.canLayAll0, h2, k2], by simp only [toPyL, PyData.depthAll]; omega⟩
end
theorem Sh.dp {v : V} {d : Dat} {n : Nat} (h : Sh K Z H v d) (s : shp n d = true) : Dp K H v (toPy d) ∧ (toPy d).canLay0 = true ∧ (toPy d).depth ≤ n := by
  cases h with
  | non => exact Rep.dp (K := K) (Z := Z) .non s
  | bl b => exact Rep.dp (K := K) (Z := Z) (.bl b) s
  | int i => exact Rep.dp (K := K) (Z := Z) (.int i) s
  | str x hx => exact Rep.dp (K := K) (Z := Z) (.str x hx) s
  | lst h r =>
    cases n with
    | zero => exact absurd s (by simp [shp])
    | succ n =>
      obtain ⟨h1, h2, h3⟩ := RepA.dp r (show shpL n _ = true from s)
      exact ⟨.lst h h1, by simpa [toPy, PyData.canLay0] using h2, by simpa [toPy, PyData.depth] using h3⟩
  | tup h r => exact Rep.dp (h.rep r) s
  | dic h r => exact absurd s (by cases n <;> simp [shp])
theorem shaped_of {d : PyData} (h : d.canLay0 = true) (k : d.depth ≤ DEEP) : SeqAt.shaped d = true := by
  unfold SeqAt.shaped
  rw [h, Bool.true_and]
  exact decide_eq_true (Nat.le_trans k (by decide))
end
theorem post_eq {d e : Dat} {b : Bool} {p : Dat → Prop} {x : Nat → Prop} (h : Post (if (shp DEEP d && shp DEEP e) = true then R.ok (.bl b) else .bad) p x) : shp DEEP d = true ∧ shp DEEP e = true ∧ p (.bl b) := by
  obtain ⟨h, q⟩ := Post.ite h
  rw [Bool.and_eq_true] at h
  exact ⟨h.1, h.2, q⟩
theorem o2_eq {K : KF} : Op2 K (rEqD K) .sh .sh .new eqD := by
  intro Z H Hs v u d e Q t s hv hu p
  obtain ⟨h1, h2, q⟩ := post_eq p
  obtain ⟨a1, a2, a3⟩ := Sh.dp hv h1
  obtain ⟨b1, b2, b3⟩ := Sh.dp hu h2
  exact ⟨_, _, a1, b1, shaped_of a2 a3, shaped_of b2 b3, by rw [eqv_py d e _ _ h1 h2]; exact Wnt.bl t q⟩
theorem o2_ne {K : KF} : Op2 K (rNeD K) .sh .sh .new neD := by
  intro Z H Hs v u d e Q t s hv hu p
  obtain ⟨h1, h2, q⟩ := post_eq p
  obtain ⟨a1, a2, a3⟩ := Sh.dp hv h1
  obtain ⟨b1, b2, b3⟩ := Sh.dp hu h2
  exact ⟨_, _, a1, b1, shaped_of a2 a3, shaped_of b2 b3, by rw [eqv_py d e _ _ h1 h2]; exact Wnt.bl t q⟩
end
end PL

set_option maxRecDepth 100000
set_option maxHeartbeats 4000000
namespace PL
open PySem PySem.Spec PyProof.Rows L2
set_option autoImplicit false

section
variable {X : Cx} {c : Ct} {W : WX} {own own' : List Nat} {k k1 k2 : Kd} {e a b : Expr} {es : List Expr} {m m1 m2 : EM} {t u : TM} {ms : LM} {pos : Pos}

/-! ### argument lists, displays -/
theorem qa_nil : PA X [] (qA c W own k eNil) := pa_nil.imp fun σ H Q ⟨Z, ρ, S, p⟩ => p [] Z H (.refl S.trk) .nil
theorem qa_cons (ha : PE X e (qE c W own k m)) (hr : PA X es (qA c W own k ms)) (hs : starEach (e :: es) X.env = (false, eval e X.env) :: starEach es X.env := by rfl) : PA X (e :: es) (qA c W own k (eCons m ms)) :=
  (pa_cons ha hr hs).imp fun σ H Q ⟨Z, ρ, S, p⟩ => ⟨Z, ρ, S, (Post.bnd p).imp (fun d p1 v Z1 H1 x1 hv => ⟨Z1, ρ, S.move x1, (Post.bnd p1).imp (fun ds p2 vs Z2 H2 x2 hvs =>
    p2 (v :: vs) Z2 H2 (x1.trans x2) (.cons (hv.ext x2) (hvs.early x1.same))) fun n q => q.move x1⟩) fun _ q => q⟩
theorem q_lst (h : PA X es (qA c W own .frz ms)) : PE X (.List es pos) (qE c W own .new (eLst ms)) := (pe_lst h).imp fun σ H Q ⟨Z, ρ, S, p⟩ => ⟨Z, ρ, S, (Post.bnd p).imp (fun ds p1 vs Z1 H1 x1 hv => by
    obtain ⟨hl, p2⟩ := Post.ite p1
    have r := hv.rep
    refine ⟨by rw [← line_eq, r.len]; exact hl, fun q hq => ?_⟩
    exact Wnt.newL (Hs := H) x1.trk x1.same (fun w Z' H' x hw => p2 w Z' H' (x1.trans x) hw) r hq) fun _ q => q⟩
theorem q_tup {x1 : Nat} (h : PA X es (qA c W own .frz ms)) : PE X (.Tuple es x1 pos) (qE c W own .frz (eTup ms)) := (pe_tup h).imp fun σ H Q ⟨Z, ρ, S, p⟩ => ⟨Z, ρ, S, (Post.bnd p).imp (fun ds p1 vs Z1 H1 x1 hv => by
    obtain ⟨hl, p2⟩ := Post.ite p1
    have r := hv.rep
    refine ⟨by rw [← line_eq, r.len]; exact hl, fun q hq => ?_⟩
    exact Wnt.tup (Hs := H) (k := .frz) x1.trk (fun w Z' H' x hw => p2 w Z' H' (x1.trans x) hw) r hq) fun _ q => q⟩
theorem q_dic0 : PE X (.Dict [] [] pos) (qE c W own .new eDic0) := pe_dnewK.imp fun σ H Q ⟨Z, ρ, S, p⟩ => fun d hd => Wnt.newD (Hs := H) S.trk (Same.refl H) p .nil hd

/-! ### tests -/
/-- a bool's reading as a test -/
theorem qt_of (h : ∀ t, PE X e t → PT X e (tB t)) (he : PE X e (qE c W own k m)) : PT X e (qT c W own (tE m)) := (h _ he).imp fun σ H Q ⟨Z, ρ, S, p⟩ => ⟨Z, ρ, S, (Post.bnd p).imp (fun d p1 v Z1 H1 x1 hv => by
    have hs := hv.sh
    cases hs with
    | bl b => exact ⟨b, rfl, p1 Z1 H1 x1⟩
    | _ => exact False.elim p1) fun _ q => q⟩
/-- of a form that is no comparison, and, or, not -/
theorem qt_val (he : PE X e (qE c W own k m)) (hp : ∀ whole, isTrue e X.env whole = (do let v ← whole; standAt e.pos; holding [v] (truthy v)) := by intro _; rfl) : PT X e (qT c W own (tE m)) := qt_of (fun _ h => pt_val h hp) he
theorem qt_cmp {op : CmpOp} {r : R2} {f : Dat → Dat → R Dat} (ha : PE X a (qE c W own k1 m1)) (hb : PE X b (qE c W own k2 m2)) (ho : OpR X (compareOp op) r) (hm : behindInMarks op b = false)
    (h2 : Op2 c.K r k1 k2 k f) (nx : NoX2 f) : PT X (.Compare a [op] [b] pos) (qT c W own (tE (e2 f m1 m2))) := (pt_cmpR ho ha hb hm).imp fun σ H Q ⟨Z, ρ, S, p⟩ => by
  refine ⟨Z, ρ, S, (Post.bnd (Post.bnd p)).imp (fun d p1 v Z1 H1 x1 hv => ⟨Z1, ρ, S.move x1, (Post.bnd p1).imp (fun d' p2 u Z2 H2 x2 hu => ?_) fun n q => q.move x1⟩) fun _ q => q⟩
  refine h2 Z2 H2 H v u d d' _ x2.trk (x1.same.trans x2.same) (hv.ext x2) (hu.early x1.same) ((Post.nox (nx d d') p2).imp (fun z q w Z3 H3 x3 hw => ?_) fun _ q => q)
  have hs := hw.sh
  cases hs with
  | bl b => exact ⟨b, rfl, q Z3 H3 ((x1.trans x2).trans x3)⟩
  | _ => exact False.elim q
theorem qt_not (h : PT X a (qT c W own t)) : PT X (.UnaryOp .Not a pos) (qT c W own (tNot t)) := (pt_not h).imp fun σ H Q ⟨Z, ρ, S, p⟩ => ⟨Z, ρ, S, (Post.bnd p).imp (fun b p1 => p1) fun _ q => q⟩
theorem qw_and1 (h : PT X a (qT c W own t)) : PW X (.BoolOp .And [a] pos) (qT c W own t) := pw_and1 h
theorem qw_or1 (h : PT X a (qT c W own t)) : PW X (.BoolOp .Or [a] pos) (qT c W own t) := pw_or1 h
theorem qw_and (ha : PT X a (qT c W own t)) (hb : PW X (.BoolOp .And (b :: es) pos) (qT c W own u)) : PW X (.BoolOp .And (a :: b :: es) pos) (qT c W own (tAnd t u)) := (pw_and ha hb).imp fun σ H Q ⟨Z, ρ, S, p⟩ =>
  ⟨Z, ρ, S, (Post.bnd p).imp (fun b p1 Z1 H1 x1 => by
    cases b with
    | true => exact ⟨Z1, ρ, S.move x1, Post.imp p1 (fun b q Z2 H2 x2 => q Z2 H2 (x1.trans x2)) fun _ q => q.move x1⟩
    | false => exact p1 Z1 H1 x1) fun _ q => q⟩
theorem qw_or (ha : PT X a (qT c W own t)) (hb : PW X (.BoolOp .Or (b :: es) pos) (qT c W own u)) : PW X (.BoolOp .Or (a :: b :: es) pos) (qT c W own (tOr t u)) := (pw_or ha hb).imp fun σ H Q ⟨Z, ρ, S, p⟩ =>
  ⟨Z, ρ, S, (Post.bnd p).imp (fun b p1 Z1 H1 x1 => by
    cases b with
    | false => exact ⟨Z1, ρ, S.move x1, Post.imp p1 (fun b q Z2 H2 x2 => q Z2 H2 (x1.trans x2)) fun _ q => q.move x1⟩
    | true => exact p1 Z1 H1 x1) fun _ q => q⟩
/-! ### and, or, not, if as values -/
theorem q_one {op} (h : PE X a (qE c W own k m)) : PE X (.BoolOp op [a] pos) (qE c W own k m) := pe_one h
theorem q_and (ha : PE X a (qE c W own k1 m1)) (hb : PE X (.BoolOp .And (b :: es) pos) (qE c W own k m2)) : PE X (.BoolOp .And (a :: b :: es) pos) (qE c W own k (eAnd m1 m2)) := (pe_and ha hb).imp fun σ H Q ⟨Z, ρ, S, p⟩ =>
  ⟨Z, ρ, S, (Post.bnd p).imp (fun d p1 v Z1 H1 x1 hv => by
    have hs := hv.sh
    cases hs with
    | bl b =>
      cases b with
      | true => exact ⟨true, rfl, Z1, ρ, S.move x1, Post.imp p1 (fun b q w Z2 H2 x2 hw => q w Z2 H2 (x1.trans x2) (hw.early x1.same)) fun _ q => q.move x1⟩
      | false => exact ⟨false, rfl, p1 (.bl false) Z1 H1 x1 (Rep.kd k (.bl false) rfl)⟩
    | _ => exact False.elim p1) fun _ q => q⟩
theorem q_or (ha : PE X a (qE c W own k1 m1)) (hb : PE X (.BoolOp .Or (b :: es) pos) (qE c W own k m2)) : PE X (.BoolOp .Or (a :: b :: es) pos) (qE c W own k (eOr m1 m2)) := (pe_or ha hb).imp fun σ H Q ⟨Z, ρ, S, p⟩ =>
  ⟨Z, ρ, S, (Post.bnd p).imp (fun d p1 v Z1 H1 x1 hv => by
    have hs := hv.sh
    cases hs with
    | bl b =>
      cases b with
      | false => exact ⟨false, rfl, Z1, ρ, S.move x1, Post.imp p1 (fun b q w Z2 H2 x2 hw => q w Z2 H2 (x1.trans x2) (hw.early x1.same)) fun _ q => q.move x1⟩
      | true => exact ⟨true, rfl, p1 (.bl true) Z1 H1 x1 (Rep.kd k (.bl true) rfl)⟩
    | _ => exact False.elim p1) fun _ q => q⟩
theorem nx_not : NoX1 notB := fun d x h => by cases d <;> cases h
theorem q_not (ha : PE X a (qE c W own k m)) : PE X (.UnaryOp .Not a pos) (qE c W own .new (e1 notB m)) := (pe_not ha).imp fun σ H Q ⟨Z, ρ, S, p⟩ =>
  ⟨Z, ρ, S, (Post.bnd p).imp (fun d p1 v Z1 H1 x1 hv => by
    have hs := hv.sh
    cases hs with
    | bl b => exact ⟨b, rfl, p1 (.bl (!b)) Z1 H1 x1 (Rep.kd .new (.bl (!b)) rfl)⟩
    | _ => exact False.elim p1) fun _ q => q⟩
theorem q_ifExp {e0 : Expr} (hc : PT X e0 (qT c W own t)) (ha : PE X a (qE c W own k m1)) (hb : PE X b (qE c W own k m2)) : PE X (.IfExp e0 a b pos) (qE c W own k (eIf t m1 m2)) := (pe_ifExp hc ha hb).imp fun σ H Q ⟨Z, ρ, S, p⟩ =>
  ⟨Z, ρ, S, (Post.bnd p).imp (fun d p1 Z1 H1 x1 => by
    cases d with
    | true => exact ⟨Z1, ρ, S.move x1, Post.imp p1 (fun b q w Z2 H2 x2 hw => q w Z2 H2 (x1.trans x2) (hw.early x1.same)) fun _ q => q.move x1⟩
    | false => exact ⟨Z1, ρ, S.move x1, Post.imp p1 (fun b q w Z2 H2 x2 hw => q w Z2 H2 (x1.trans x2) (hw.early x1.same)) fun _ q => q.move x1⟩) fun _ q => q⟩
end

/-! ### a def's promise -/
/-- a def does what its mirror says -/
def spM (K : KF) (EC : Nat → Addr) (n : Nat) (f : List Dat → R Dat) : Sp := fun vs H Q E => vs.length = n ∧ ∃ (Z : ZS) (ds : List Dat), Trk Z H ∧ RepA K Z H vs ds ∧
  Post (f ds) (fun d => ∀ v Z' H', Ext Z H Z' H' → Rep K Z' H' v d → Q v H') (fun x => ∀ Z' H', Ext Z H Z' H' → E (.ref (EC x)) none H')
section
variable {X : Cx} {c : Ct} {W : WX} {own : List Nat} {es : List Expr} {e : Expr} {ms : LM} {pos p : Pos} {x : Str} {f : Addr} {fd : FuncData} {ps : List Str} {F : List Dat → R Dat} {j n : Nat}
/-- a call of a def -/
theorem q_call (G : FnOk X.prog X.w X.K X.mg X.base (L2.CX X.prog X.w) j f fd ps (spM c.K c.EC n F)) (hn : (e :: es).length = n) (hr : Room j X.A) (hg : Gl X x) (hm : X.mg x = some (.ref f)) (hk : PySem.W.keepIn X.K (.ref f) = true) (hb : Binds X.K fd ps []) (tk : Takes X W)
    (ha : PA X (e :: es) (qA c W own .frz ms)) (hlen : ∀ ρ ds, ms ρ = .ok ds → ds.length = n) (hdb : (x == ("__debug__" : Str)) = false) (he : starEach (e :: es) X.env = (false, eval e X.env) :: starEach es X.env := by rfl) (hpl : (backTo pos (starEach es X.env)).any (·.1) = false := by rfl) :
    PE X (.Call (.Name x p) (e :: es) [] pos) (qE c W own .frz (eCall F ms)) := (pe_callS G hr hg hm hk hb (fun σ => passAt tk σ) ha hdb he hpl).imp fun σ H Q ⟨Z, ρ, S, p⟩ => by
  have p := Post.bnd p
  refine ⟨Z, ρ, S, ?_⟩
  cases q : ms ρ with
  | bad => rw [q] at p; exact p.elim
  | exc x => rw [q] at p; exact p
  | ok ds =>
    rw [q] at p
    intro vs Z1 H1 x1 hv
    refine ⟨by rw [hv.rep.len]; exact hlen ρ ds q, Z1, ds, x1.trk, hv.rep, Post.imp p (fun d q2 v Z2 H2 x2 hw => q2 v Z2 H2 (x1.trans x2) hw) fun n q2 Z2 H2 x2 => q2 Z2 H2 (x1.trans x2)⟩
end

/-! ### targets -/
/-- what a target wants: the slots behind it -/
def Tch (ts : List Nat) (σ σ' : St) : Prop := σ'.length = σ.length ∧ ∀ j, j ∉ ts → σ'[j]? = σ[j]?
def qG (c : Ct) (own own' ts : List Nat) (g : GM) : TG := fun v σ H Q => ∃ Z ρ d, SE c own Z H σ ρ ∧ Rep c.K Z H v d ∧ Post (g d ρ) (fun ρ' => ∀ σ', Tch ts σ σ' → SE c own' Z H σ' ρ' → Q σ' H) (fun _ => False)
def qGs (c : Ct) (own own' ts : List Nat) (g : GsM) : TGs := fun vs σ H Q => ∃ Z ρ ds, SE c own Z H σ ρ ∧ RepA c.K Z H vs ds ∧ Post (g ds ρ) (fun ρ' => ∀ σ', Tch ts σ σ' → SE c own' Z H σ' ρ' → Q σ' H) (fun _ => False)
section
variable {c : Ct} {own own' : List Nat} {Z : ZS} {H : Hp} {σ : St} {ρ : Env} {i : Nat} {v : V} {d : Dat}
theorem get_set {α : Type} (l : List α) (i j : Nat) (x : α) : (l.set i x)[j]? = if i = j ∧ j < l.length then some x else l[j]? := by
  rw [List.getElem?_set]
  by_cases h : i = j
  · subst h
    by_cases h2 : i < l.length
    · simp [h2]
    · simp [h2, List.getElem?_eq_none (by omega : l.length ≤ i)]
  · simp [h]
/-- a settled value is stored: the slot is not own -/
theorem SE.set (S : SE c own Z H σ ρ) (r : Rep c.K Z H v d) (hi : i < ρ.length) : SE c (own.filter (· != i)) Z H (σ.set i (some v)) (ρ.set i (some d)) where
  ext := S.ext
  len := by simp [S.len]
  val := fun j d' e n nx => by
    rw [get_set] at e
    rw [get_set, S.len]
    by_cases h : i = j ∧ j < ρ.length
    · rw [if_pos h] at e ⊢
      cases e
      exact ⟨v, rfl, r⟩
    · rw [if_neg h] at e ⊢
      refine S.val j d' e (fun z => n ?_) nx
      rw [List.mem_filter]
      refine ⟨z, ?_⟩
      have : j ≠ i := fun q => h ⟨q.symm, by subst q; exact hi⟩
      simpa using this
  exc := fun j x e => by
    rw [get_set] at e
    rw [get_set, S.len]
    by_cases h : i = j ∧ j < ρ.length
    · rw [if_pos h] at e
      cases e
      cases r
    · rw [if_neg h] at e ⊢
      exact S.exc j x e
  ow := fun j hj => by
    obtain ⟨hj, hne⟩ := List.mem_filter.mp hj
    have hne : j ≠ i := by simpa using hne
    obtain ⟨a, d', e1, e2, q⟩ := S.ow j hj
    refine ⟨a, d', ?_, ?_, q⟩
    · rw [get_set, if_neg (fun z => hne z.1.symm)]; exact e1
    · rw [get_set, if_neg (fun z => hne z.1.symm)]; exact e2
  inj := fun j hj l hl hne => by
    obtain ⟨hj, h1⟩ := List.mem_filter.mp hj
    obtain ⟨hl, h2⟩ := List.mem_filter.mp hl
    have h1 : j ≠ i := by simpa using h1
    have h2 : l ≠ i := by simpa using h2
    rw [get_set, get_set, if_neg (fun z => h1 z.1.symm), if_neg (fun z => h2 z.1.symm)]
    exact S.inj j hj l hl hne
/-- a new list or dict is stored: the slot is own -/
theorem SE.setN {Hs : Hp} (S : SE c own Z H σ ρ) (r : Val c.K Z H Hs .new v d) (b : isBox d = true) (hi : i < ρ.length) (h0 : Same c.H0 Hs) (hs : ∀ j ∈ own, ∀ a, σ[j]? = some (some (.ref a)) → Hs a ≠ none) :
    SE c (i :: own.filter (· != i)) Z H (σ.set i (some v)) (ρ.set i (some d)) where
  ext := S.ext
  len := by simp [S.len]
  val := fun j d' e n nx => by
    have hji : j ≠ i := fun q => n (by subst q; exact List.mem_cons_self)
    rw [get_set, if_neg (fun z => hji z.1.symm)] at e ⊢
    refine S.val j d' e (fun z => n (List.mem_cons_of_mem _ (List.mem_filter.mpr ⟨z, by simpa using hji⟩))) nx
  exc := fun j x e => by
    rw [get_set] at e
    rw [get_set, S.len]
    by_cases h : i = j ∧ j < ρ.length
    · rw [if_pos h] at e
      cases e
      cases b
    · rw [if_neg h] at e ⊢
      exact S.exc j x e
  ow := fun j hj => by
    obtain ⟨a, ev, nz, hn, t⟩ := r.1 b
    by_cases h : j = i
    · subst h
      refine ⟨a, d, ?_, ?_, nz, h0.free hn, t⟩
      · rw [get_set, if_pos ⟨rfl, hi⟩]
      · rw [get_set, if_pos ⟨rfl, by rw [S.len]; exact hi⟩, ev]
    · rcases List.mem_cons.mp hj with hj | hj
      · exact absurd hj h
      · obtain ⟨hj, _⟩ := List.mem_filter.mp hj
        obtain ⟨a', d', e1, e2, q⟩ := S.ow j hj
        refine ⟨a', d', ?_, ?_, q⟩
        · rw [get_set, if_neg (fun z => h z.1.symm)]; exact e1
        · rw [get_set, if_neg (fun z => h z.1.symm)]; exact e2
  inj := fun j hj l hl hne => by
    obtain ⟨a, ev, nz, hn, t⟩ := r.1 b
    have hlt : i < σ.length := by rw [S.len]; exact hi
    have key : ∀ j, j ≠ i → j ∈ i :: own.filter (· != i) → j ∈ own := fun j h z => by
      rcases List.mem_cons.mp z with z | z
      · exact absurd z h
      · exact (List.mem_filter.mp z).1
    by_cases h1 : j = i
    · by_cases h2 : l = i
      · exact absurd (h1.trans h2.symm) hne
      · rw [get_set, get_set, if_pos ⟨h1.symm, by rw [h1]; exact hlt⟩, if_neg (fun z => h2 z.1.symm)]
        intro q
        exact hs l (key l h2 hl) a (by rw [← q, ev]) hn
    · by_cases h2 : l = i
      · rw [get_set, get_set, if_neg (fun z => h1 z.1.symm), if_pos ⟨h2.symm, by rw [h2]; exact hlt⟩]
        intro q
        exact hs j (key j h1 hj) a (by rw [q, ev]) hn
      · rw [get_set, get_set, if_neg (fun z => h1 z.1.symm), if_neg (fun z => h2 z.1.symm)]
        exact S.inj j (key j h1 hj) l (key l h2 hl) hne
end
end PL

set_option maxRecDepth 100000
set_option maxHeartbeats 4000000
namespace PL
open PySem PySem.Spec PyProof.Rows L2
set_option autoImplicit false

/-! ### targets -/
section
variable {X : Cx} {c : Ct} {W : WX} {own own' own1 ownL ts : List Nat} {i n : Nat} {x : Str} {pos : Pos} {e : Expr} {es : List Expr} {g : GM} {gs : GsM}
theorem qg_name (hN : X.N.Nodup) (hi : X.N[i]? = some x) (hx : Loc X.env.scope x) (hf : X.fn x = true ∨ X.env.scope.names.lookup x = some .local) (ho : own' = own.filter (· != i)) (ht : i ∈ ts) : PG X (.Name x pos) (qG c own own' ts (gV i)) := by
  subst ho
  refine ⟨fun pins s σ H v u Q I r h => (pg_name hN hi hx hf).run pins s σ H v u Q I r ?_⟩
  obtain ⟨Z, ρ, d, S, rv, p⟩ := h
  unfold gV at p
  obtain ⟨hl, p⟩ := Post.ite p
  refine p _ ⟨List.length_set, fun j hj => ?_⟩ (S.set rv hl)
  rw [get_set, if_neg (fun z => hj (by rw [← z.1]; exact ht))]
theorem qgs_nil : PGs X [] (qGs c own own ts gNil) := by
  refine ⟨fun pins s σ H vs us Q I r h => pgs_nil.run pins s σ H vs us Q I r ?_⟩
  obtain ⟨Z, ρ, ds, S, rv, p⟩ := h
  cases rv with
  | nil => exact ⟨rfl, p _ ⟨rfl, fun _ _ => rfl⟩ S⟩
  | cons _ _ => exact p.elim
theorem qgs_cons (h1 : PG X e (qG c own own1 ts g)) (h2 : PGs X es (qGs c own1 own' ts gs)) (hst : (assignEach (e :: es) X.env).map (·.2) = assign e X.env :: (assignEach es X.env).map (·.2) := by rfl) : PGs X (e :: es) (qGs c own own' ts (gCons g gs)) := by
  refine ⟨fun pins s σ H vs us Q I r h => (pgs_cons h1 h2 hst).run pins s σ H vs us Q I r ?_⟩
  obtain ⟨Z, ρ, ds, S, rv, p⟩ := h
  cases rv with
  | nil => exact p.elim
  | cons r1 r2 => exact ⟨_, _, rfl, Z, ρ, _, S, r1, (Post.bnd p).imp (fun ρ1 q σ1 t1 S1 => ⟨Z, ρ1, _, S1, r2, Post.imp q (fun ρ2 q2 σ2 t2 S2 => q2 σ2 ⟨t2.1.trans t1.1, fun j hj => (t2.2 j hj).trans (t1.2 j hj)⟩ S2) fun _ q => q⟩) fun _ q => q⟩
theorem qg_tup {k : Nat} (hK : c.K = X.K) (hc : X.calm = true) (h : PGs X es (qGs c own own' ts gs)) (hn : (assignEach es X.env).length = n := by rfl) (hst : (assignEach es X.env).findIdx? (·.1) = none := by rfl) : PG X (.Tuple es k pos) (qG c own own' ts (gTup n gs)) := by
  refine ⟨fun pins s σ H v u Q I r hh => (pg_tup hc h hn hst).run pins s σ H v u Q I r ?_⟩
  obtain ⟨Z, ρ, d, S, rv, p⟩ := hh
  cases rv with
  | @tup a xs ds z e r2 =>
    have p : Post (if ds.length = n then gs ds ρ else .bad) _ _ := p
    by_cases hl : ds.length = n
    · rw [if_pos hl] at p
      exact ⟨_, _, rfl, .inl e, by rw [r2.len]; exact hl, Z, ρ, _, S, r2, p⟩
    · rw [if_neg hl] at p
      exact p.elim
  | @tupK a xs ds e r2 =>
    have p : Post (if ds.length = n then gs ds ρ else .bad) _ _ := p
    by_cases hl : ds.length = n
    · rw [if_pos hl] at p
      exact ⟨_, _, rfl, .inr (by rw [← hK]; exact e), by rw [r2.len]; exact hl, Z, ρ, _, S, r2, p⟩
    · rw [if_neg hl] at p
      exact p.elim
  | _ => exact p.elim
end

/-! ### what is walked -/
/-- J hands out the items -/
def ItOk (K : KF) (J : It) (Z : ZS) (H : Hp) (ds : List Dat) : Prop := ∀ Z1 H1, Adv Z H Z1 H1 → Trk Z1 H1 → ∀ i : Nat, (∀ d, ds[i]? = some d → J.go i H1 ∧ ∀ x H2, J.yld i H1 x H2 → ∃ Z2, Ext Z1 H1 Z2 H2 ∧ Rep K Z2 H2 x d) ∧ (ds.length ≤ i → J.stop i H1)
def qI (c : Ct) (W : WX) (own : List Nat) (m : LM) : TI := fun σ H R => ∃ Z ρ, SE c own Z H σ ρ ∧ Post (m ρ) (fun ds => ∀ J Z' H', Ext Z H Z' H' → ItOk c.K J Z' H' ds → R J H') (PX c W Z H σ)
section
variable {K : KF} {Z : ZS} {H : Hp} {a b : Addr} {xs ys : List V} {ds es : List Dat}
theorem itl_ok (h : ∀ Z1 H1, Adv Z H Z1 H1 → SqL K H1 a xs ∧ RepA K Z1 H1 xs ds) (u : ∀ H1 zs, SqL K H1 a xs → SqL K H1 a zs → zs = xs) : ItOk K (Itl K a) Z H ds := fun Z1 H1 ad t i => by
  obtain ⟨h1, r⟩ := h Z1 H1 ad
  refine ⟨fun d e => ?_, fun hl => ⟨xs, h1, by rw [r.len]; exact hl⟩⟩
  obtain ⟨v, ev, rv⟩ := r.get e
  refine ⟨⟨xs, v, h1, ev⟩, fun x H2 y => ?_⟩
  obtain ⟨rfl, y⟩ := y
  have := y xs h1
  rw [ev] at this
  cases this
  exact ⟨Z1, .refl t, rv⟩
theorem itt_ok (h : ∀ Z1 H1, Adv Z H Z1 H1 → SqT K H1 a xs ∧ RepA K Z1 H1 xs ds) : ItOk K (Itt K a) Z H ds := fun Z1 H1 ad t i => by
  obtain ⟨h1, r⟩ := h Z1 H1 ad
  refine ⟨fun d e => ?_, fun hl => ⟨xs, h1, by rw [r.len]; exact hl⟩⟩
  obtain ⟨v, ev, rv⟩ := r.get e
  refine ⟨⟨xs, v, h1, ev⟩, fun x H2 y => ?_⟩
  obtain ⟨rfl, y⟩ := y
  have := y xs h1
  rw [ev] at this
  cases this
  exact ⟨Z1, .refl t, rv⟩
theorem its_ok {x : Str} (hx : okS x.cps.toList) : ItOk K (Its x) Z H (signs x.cps.toList) := fun Z1 H1 ad t i => by
  refine ⟨fun d e => ?_, fun hl => ?_⟩
  · unfold signs at e
    rw [List.getElem?_map] at e
    obtain ⟨ch, ec, rfl⟩ := Option.map_eq_some_iff.mp e
    have hlt : i < x.cps.size := by
      have := (List.getElem?_eq_some_iff.mp ec).1
      simpa using this
    refine ⟨hlt, fun v H2 y => ?_⟩
    obtain ⟨rfl, c2, e2, rfl⟩ := y
    have e3 : c2 = ch := by
      rw [← Array.getElem?_toList] at e2
      rw [e2] at ec
      exact Option.some.inj ec
    subst e3
    exact ⟨Z1, .refl t, .ofS rfl (okS_one hx (List.mem_of_getElem? ec))⟩
  · show x.cps.size ≤ i
    unfold signs at hl
    simpa using hl
theorem itr_ok {lo : Int} {n : Nat} {zs : List Int} (hz : zs = (List.range n).map fun k => lo + (k : Nat)) : ItOk K (Itr lo n) Z H (zs.map .int) := fun Z1 H1 ad t i => by
  subst hz
  refine ⟨fun d e => ?_, fun hl => (show n ≤ i by simpa using hl)⟩
  rw [List.getElem?_map, List.getElem?_map] at e
  obtain ⟨z, ez, rfl⟩ := Option.map_eq_some_iff.mp e
  obtain ⟨k, ek, rfl⟩ := Option.map_eq_some_iff.mp ez
  obtain ⟨h1, h2⟩ := List.getElem?_eq_some_iff.mp ek
  have hk : k = i := by simpa using h2.symm
  subst hk
  refine ⟨(show k < n by simpa using h1), fun x H2 y => ?_⟩
  obtain ⟨rfl, rfl⟩ := y
  exact ⟨Z1, .refl t, .int _⟩
theorem enumFrom_get : ∀ {ds : List Dat} {k i : Nat} {d : Dat}, (enumFrom k ds)[i]? = some d → ∃ x, ds[i]? = some x ∧ d = .tup [.int ((k + i : Nat) : Int), x]
  | [], _, _, _, h => by simp [enumFrom] at h
  | x :: r, k, 0, d, h => ⟨x, rfl, by simpa [enumFrom] using h.symm⟩
  | x :: r, k, i + 1, d, h => by
    obtain ⟨y, h1, h2⟩ := enumFrom_get (ds := r) (k := k + 1) (i := i) (by simpa [enumFrom] using h)
    exact ⟨y, by simpa using h1, by rw [h2]; congr 3; omega⟩
theorem enumFrom_len : ∀ {ds : List Dat} {k : Nat}, (enumFrom k ds).length = ds.length
  | [], _ => rfl
  | _ :: r, k => by simp [enumFrom, enumFrom_len (ds := r)]
theorem ite_ok (h : ∀ Z1 H1, Adv Z H Z1 H1 → SqL K H1 a xs ∧ RepA K Z1 H1 xs ds) : ItOk K (Ite K a) Z H (enumFrom 0 ds) := fun Z1 H1 ad t i => by
  obtain ⟨h1, r⟩ := h Z1 H1 ad
  refine ⟨fun d e => ?_, fun hl => ⟨xs, h1, by rw [r.len]; rw [enumFrom_len] at hl; exact hl⟩⟩
  obtain ⟨x, ex, rfl⟩ := enumFrom_get e
  obtain ⟨v, ev, rv⟩ := r.get ex
  refine ⟨⟨xs, v, h1, ev⟩, fun w H2 y => ?_⟩
  obtain ⟨T, v2, rfl, hT, rfl, y⟩ := y
  have := y xs h1
  rw [ev] at this
  cases this
  refine ⟨Zadd Z1 T, .laidZ t hT, .tup (.inr rfl) (.inl upd_same) (.cons ?_ (.cons (rv.adv (Ext.laidZ t hT).adv) .nil))⟩
  rw [Nat.zero_add]
  exact .int _
theorem zipT_get : ∀ {ds es : List Dat} {i : Nat} {d : Dat}, (zipT ds es)[i]? = some d → ∃ x y, ds[i]? = some x ∧ es[i]? = some y ∧ d = .tup [x, y]
  | [], _, _, _, h => by simp [zipT] at h
  | _ :: _, [], _, _, h => by simp [zipT] at h
  | x :: r, y :: t, 0, d, h => ⟨x, y, rfl, rfl, by simpa [zipT] using h.symm⟩
  | x :: r, y :: t, i + 1, d, h => by
    obtain ⟨u, v, h1, h2, h3⟩ := zipT_get (ds := r) (es := t) (i := i) (by simpa [zipT] using h)
    exact ⟨u, v, by simpa using h1, by simpa using h2, h3⟩
theorem zipT_len : ∀ {ds es : List Dat}, (zipT ds es).length = min ds.length es.length
  | [], _ => by simp [zipT]
  | _ :: _, [] => by simp [zipT]
  | _ :: r, _ :: t => by simp only [zipT, List.length_cons, zipT_len (ds := r) (es := t)]; omega
theorem itz_ok (h : ∀ Z1 H1, Adv Z H Z1 H1 → SqL K H1 a xs ∧ RepA K Z1 H1 xs ds) (k : ∀ Z1 H1, Adv Z H Z1 H1 → SqL K H1 b ys ∧ RepA K Z1 H1 ys es) : ItOk K (Itz K a b) Z H (zipT ds es) := fun Z1 H1 ad t i => by
  obtain ⟨h1, r⟩ := h Z1 H1 ad
  obtain ⟨k1, q⟩ := k Z1 H1 ad
  refine ⟨fun d e => ?_, fun hl => ⟨xs, ys, h1, k1, by rw [r.len, q.len]; rw [zipT_len] at hl; omega⟩⟩
  obtain ⟨x, y, ex, ey, rfl⟩ := zipT_get e
  obtain ⟨v, ev, rv⟩ := r.get ex
  obtain ⟨w, ew, rw'⟩ := q.get ey
  refine ⟨⟨xs, ys, v, w, h1, k1, ev, ew⟩, fun u H2 yy => ?_⟩
  obtain ⟨T, v2, w2, rfl, hT, rfl, y1, y2⟩ := yy
  have e1 := y1 xs h1
  have e2 := y2 ys k1
  rw [ev] at e1
  rw [ew] at e2
  cases e1
  cases e2
  exact ⟨Zadd Z1 T, .laidZ t hT, .tup (.inr rfl) (.inl upd_same) (.cons (rv.adv (Ext.laidZ t hT).adv) (.cons (rw'.adv (Ext.laidZ t hT).adv) .nil))⟩
/-- a settled list stays to be read -/
theorem Rep.stays {v : V} (h : Rep K Z H v (.lst ds)) : ∃ a xs, v = .ref a ∧ SqL K H a xs ∧ ∀ Z1 H1, Adv Z H Z1 H1 → SqL K H1 a xs ∧ RepA K Z1 H1 xs ds := by
  cases h with
  | lst z e r => exact ⟨_, _, rfl, .inl e, fun Z1 H1 ad => ⟨.inl (Rd.adv e (ad _ z).2), r.adv ad⟩⟩
  | lstK e r => exact ⟨_, _, rfl, .inr e, fun Z1 H1 ad => ⟨.inr e, r.adv ad⟩⟩
theorem Rep.staysT {v : V} (h : Rep K Z H v (.tup ds)) : ∃ a xs, v = .ref a ∧ SqT K H a xs ∧ ∀ Z1 H1, Adv Z H Z1 H1 → SqT K H1 a xs ∧ RepA K Z1 H1 xs ds := by
  cases h with
  | tup z e r => exact ⟨_, _, rfl, .inl e, fun Z1 H1 ad => ⟨.inl (Rd.adv e (ad _ z).2), r.adv ad⟩⟩
  | tupK e r => exact ⟨_, _, rfl, .inr e, fun Z1 H1 ad => ⟨.inr e, r.adv ad⟩⟩
end
section
variable {X : Cx} {c : Ct} {W : WX} {own : List Nat} {tg e e2 e3 : Expr} {m m2 m3 : EM} {pos p tpos : Pos} {k : Kd}
theorem qi_of (hK : c.K = X.K) (he : PE X e (qE c W own .frz m)) : PI X tg e (qI c W own (iOf m)) := by
  refine ⟨fun pins s σ H R I h => ?_⟩
  obtain ⟨Z, ρ, S, p⟩ := h
  have p := Post.bnd p
  cases q : m ρ with
  | bad => rw [q] at p; exact p.elim
  | exc x =>
    rw [q] at p
    exact (pi_list he).run pins s σ H R I ⟨Z, ρ, S, by rw [q]; exact p⟩
  | ok d =>
    rw [q] at p
    cases d with
    | lst ds =>
      refine (pi_list he).run pins s σ H R I ⟨Z, ρ, S, ?_⟩
      rw [q]
      intro v Z1 H1 x1 hv
      obtain ⟨a, xs, rfl, hs, hh⟩ := Rep.stays hv
      rw [hK] at hs hh
      refine ⟨a, rfl, ⟨xs, hs⟩, p _ Z1 H1 x1 ?_⟩
      rw [hK]
      intro Z2 H2 ad t i
      obtain ⟨h1, r⟩ := hh Z2 H2 ad
      refine ⟨fun d e => ?_, fun hl => ⟨xs, h1, by rw [r.len]; exact hl⟩⟩
      obtain ⟨v, ev, rv⟩ := r.get e
      refine ⟨⟨xs, v, h1, ev⟩, fun x H2 y => ?_⟩
      obtain ⟨rfl, y⟩ := y
      have := y xs h1
      rw [ev] at this
      cases this
      exact ⟨Z2, .refl t, rv⟩
    | tup ds =>
      refine (pi_tup he).run pins s σ H R I ⟨Z, ρ, S, ?_⟩
      rw [q]
      intro v Z1 H1 x1 hv
      obtain ⟨a, xs, rfl, hs, hh⟩ := Rep.staysT hv
      rw [hK] at hs hh
      exact ⟨a, rfl, ⟨xs, hs⟩, p _ Z1 H1 x1 (by rw [hK]; exact itt_ok hh)⟩
    | str z =>
      refine (pi_str he).run pins s σ H R I ⟨Z, ρ, S, ?_⟩
      rw [q]
      intro v Z1 H1 x1 hv
      have hv : Rep c.K Z1 H1 v (.str z) := hv
      cases hv with
      | str x hx => exact ⟨x, rfl, p _ Z1 H1 x1 (its_ok hx)⟩
    | _ => exact p.elim
theorem qi_r1 (hg : Gl X "range") (hm : X.mg "range" = none) (ha : PE X e (qE c W own k m)) (hs : starEach [e] X.env = [(false, eval e X.env)] := by rfl) : PI X tg (.Call (.Name "range" p) [e] [] pos) (qI c W own (iR1 m)) := by
  refine ⟨fun pins s σ H R I h => (pi_range1 hg hm (qa_cons ha qa_nil hs) hs).run pins s σ H R I ?_⟩
  obtain ⟨Z, ρ, S, p⟩ := h
  refine ⟨Z, ρ, S, ?_⟩
  have p := Post.bnd p
  unfold eCons eNil
  cases q : m ρ with
  | bad => rw [q] at p; exact p.elim
  | exc x => rw [q] at p; exact p
  | ok d =>
    rw [q] at p
    intro vs Z1 H1 x1 hv
    cases hv with
    | cons h1 h2 =>
      cases h2
      have hs := h1.sh
      cases hs with
      | int j =>
        obtain ⟨hf, p⟩ := Post.ite p
        refine ⟨j, rfl, hf.1, hf.2, p _ Z1 H1 x1 ?_⟩
        refine itr_ok (lo := 0) ?_
        unfold upTo
        rw [Int.sub_zero]
      | _ => exact p.elim
theorem qi_r2 (hg : Gl X "range") (hm : X.mg "range" = none) (ha : PE X e (qE c W own k m)) (hb : PE X e2 (qE c W own k m2)) (hs : starEach [e, e2] X.env = [(false, eval e X.env), (false, eval e2 X.env)] := by rfl) (hs2 : starEach [e2] X.env = [(false, eval e2 X.env)] := by rfl) :
    PI X tg (.Call (.Name "range" p) [e, e2] [] pos) (qI c W own (iR2 m m2)) := by
  refine ⟨fun pins s σ H R I h => (pi_range2 hg hm (qa_cons ha (qa_cons hb qa_nil hs2) (by rw [hs, hs2])) hs hs2).run pins s σ H R I ?_⟩
  obtain ⟨Z, ρ, S, p⟩ := h
  refine ⟨Z, ρ, S, ?_⟩
  have p := Post.bnd p
  unfold eCons eNil
  cases q : m ρ with
  | bad => rw [q] at p; exact p.elim
  | exc x => rw [q] at p; exact p
  | ok d =>
    rw [q] at p
    have p := Post.bnd p
    rw [PL.R.bnd_ok]
    cases q2 : m2 ρ with
    | bad => rw [q2] at p; exact p.elim
    | exc x => rw [q2] at p; exact p
    | ok d2 =>
      rw [q2] at p
      intro vs Z1 H1 x1 hv
      cases hv with
      | cons h1 h2 =>
        cases h2 with
        | cons h2 h3 =>
          cases h3
          have hs := h1.sh
          have hs2 := h2.sh
          cases hs with
          | int i =>
            cases hs2 with
            | int j =>
              obtain ⟨⟨hf, hf2⟩, p⟩ := Post.ite p
              exact ⟨i, j, rfl, ⟨hf.1, hf.2, hf2.1, hf2.2⟩, p _ Z1 H1 x1 (itr_ok rfl)⟩
            | _ => exact p.elim
          | _ => exact p.elim
theorem qi_enum {elts : List Expr} {kk : Nat} (hK : c.K = X.K) (hg : Gl X "enumerate") (hm : X.mg "enumerate" = none) (ha : PE X e (qE c W own .frz m)) (hs : starEach [e] X.env = [(false, eval e X.env)] := by rfl) : PI X (.Tuple elts kk tpos) (.Call (.Name "enumerate" p) [e] [] pos) (qI c W own (iEnumN m)) := by
  refine ⟨fun pins s σ H R I h => (pi_enum hg hm (qa_cons ha qa_nil hs) hs).run pins s σ H R I ?_⟩
  obtain ⟨Z, ρ, S, p⟩ := h
  refine ⟨Z, ρ, S, ?_⟩
  have p := Post.bnd p
  unfold eCons eNil
  cases q : m ρ with
  | bad => rw [q] at p; exact p.elim
  | exc x => rw [q] at p; exact p
  | ok d =>
    rw [q] at p
    intro vs Z1 H1 x1 hv
    cases hv with
    | cons h1 h2 =>
      cases h2
      cases d with
      | lst ds =>
        obtain ⟨a, xs, rfl, hs, hh⟩ := Rep.stays h1
        rw [hK] at hs hh
        exact ⟨a, xs, rfl, hs, p _ Z1 H1 x1 (by rw [hK]; exact ite_ok hh)⟩
      | _ => exact p.elim
theorem qi_zip {elts : List Expr} {kk : Nat} (hK : c.K = X.K) (hg : Gl X "zip") (hm : X.mg "zip" = none) (ha : PE X e (qE c W own .frz m)) (hb : PE X e2 (qE c W own .frz m2)) (hs : starEach [e, e2] X.env = (false, eval e X.env) :: starEach [e2] X.env := by rfl) (hs2 : starEach [e2] X.env = (false, eval e2 X.env) :: starEach [] X.env := by rfl)
    (hpl : (backTo pos (starEach [e2] X.env)).any (·.1) = false := by rfl) : PI X (.Tuple elts kk tpos) (.Call (.Name "zip" p) [e, e2] [] pos) (qI c W own (iZip m m2)) := by
  refine ⟨fun pins s σ H R I h => (pi_zip hg hm (qa_cons ha (qa_cons hb qa_nil hs2) hs) hs hpl).run pins s σ H R I ?_⟩
  obtain ⟨Z, ρ, S, p⟩ := h
  refine ⟨Z, ρ, S, ?_⟩
  have p := Post.bnd p
  unfold eCons eNil
  cases q : m ρ with
  | bad => rw [q] at p; exact p.elim
  | exc x => rw [q] at p; exact p
  | ok d =>
    rw [q] at p
    have p := Post.bnd p
    rw [PL.R.bnd_ok]
    cases q2 : m2 ρ with
    | bad => rw [q2] at p; exact p.elim
    | exc x => rw [q2] at p; exact p
    | ok d2 =>
      rw [q2] at p
      intro vs Z1 H1 x1 hv
      cases hv with
      | cons h1 h2 =>
        cases h2 with
        | cons h2 h3 =>
          cases h3
          cases d with
          | lst ds =>
            cases d2 with
            | lst es =>
              obtain ⟨a, xs, rfl, hs, hh⟩ := Rep.stays h1
              obtain ⟨b, ys, rfl, ks, kk⟩ := Rep.stays h2
              rw [hK] at hs hh ks kk
              exact ⟨a, b, xs, ys, rfl, hs, ks, p _ Z1 H1 x1 (by rw [hK]; exact itz_ok hh kk)⟩
            | _ => exact p.elim
          | _ => exact p.elim
end
end PL

set_option maxRecDepth 100000
set_option maxHeartbeats 4000000
namespace PL
open PySem PySem.Spec PyProof.Rows L2
set_option autoImplicit false

/-- how a statement's end is wanted -/
def PostS (c : Ct) (W : WX) (own' ownL : List Nat) (Z : ZS) (H : Hp) (D : Ends) : O → Prop
  | none => False
  | some (.nx, ρ') => ∀ Z' H' σ', Adv Z H Z' H' → SE c own' Z' H' σ' ρ' → D.nx σ' H'
  | some (.ct, ρ') => ∀ Z' H' σ', Adv Z H Z' H' → SE c ownL Z' H' σ' ρ' → D.ct σ' H'
  | some (.bk, ρ') => ∀ Z' H' σ', Adv Z H Z' H' → SE c ownL Z' H' σ' ρ' → D.bk σ' H'
  | some (.rt d, _) => ∀ v Z' H', Adv Z H Z' H' → Ext c.Z0 c.H0 Z' H' → Rep c.K Z' H' v d → D.rt v H'
  | some (.ex x, ρ') => ∀ Z' H' σ', Adv Z H Z' H' → SE c [] Z' H' σ' ρ' → W (.ref (c.EC x)) none σ' H'
def qS (c : Ct) (W : WX) (own own' ownL : List Nat) (m : SM) : TS := fun D σ H => ∃ Z ρ, SE c own Z H σ ρ ∧ PostS c W own' ownL Z H D (m ρ)

section
variable {c : Ct} {W : WX} {own own' own1 own2 ownL : List Nat} {Z Z' : ZS} {H H' : Hp} {σ : St} {ρ : Env} {D D' : Ends} {o : O}
theorem PostS.move (a : Adv Z H Z' H') (h : PostS c W own' ownL Z H D o) : PostS c W own' ownL Z' H' D o := by
  match o, h with
  | some (.nx, ρ'), h => exact fun Z2 H2 σ2 x S => h Z2 H2 σ2 (a.trans x) S
  | some (.ct, ρ'), h => exact fun Z2 H2 σ2 x S => h Z2 H2 σ2 (a.trans x) S
  | some (.bk, ρ'), h => exact fun Z2 H2 σ2 x S => h Z2 H2 σ2 (a.trans x) S
  | some (.rt d, ρ'), h => exact fun v Z2 H2 x e r => h v Z2 H2 (a.trans x) e r
  | some (.ex y, ρ'), h => exact fun Z2 H2 σ2 x S => h Z2 H2 σ2 (a.trans x) S
/-- an own error out of an expression -/
theorem PostS.exc (S : SE c own Z H σ ρ) {x : Nat} (h : PostS c W own' ownL Z H D (some (.ex x, ρ))) : PX c W Z H σ x := fun Z1 H1 e => by
  obtain ⟨Z2, a2, S2⟩ := (S.move e).drop (own' := []) (fun _ z => absurd z (by simp))
  exact h Z2 H1 σ (e.adv.trans a2) S2
theorem PostS.lft {α : Type} {r : R α} {k : α → O} (S : SE c own Z H σ ρ) (h : PostS c W own' ownL Z H D (lft r ρ k)) : Post r (fun a => PostS c W own' ownL Z H D (k a)) (PX c W Z H σ) := by
  cases r with
  | ok a => exact h
  | exc x => exact PostS.exc S h
  | bad => exact h
theorem PostS.gok {r : R Env} {k : Env → O} (h : PostS c W own' ownL Z H D (gok r k)) : Post r (fun a => PostS c W own' ownL Z H D (k a)) (fun _ => False) := by
  cases r with
  | ok a => exact h
  | exc x => exact h
  | bad => exact h
theorem PostS.nx_of (n : D.nx = D'.nx ∨ True) : True := trivial
end

section
variable {X : Cx} {c : Ct} {W : WX} {own own' own1 own2 ownL ts : List Nat} {e a b tg iter : Expr} {st : Stmt} {sts : List Stmt} {m : EM} {t : TM} {s s1 s2 : SM} {g : GM} {src : LM} {pos : Pos} {k : Kd} {i : Nat} {x : Str}
theorem qs_nil : PSs X [] (qS c W own own ownL sSkip) := pss_nil.imp fun D σ H ⟨Z, ρ, S, p⟩ => p Z H σ .refl S
theorem qs_pass : PS X (.Pass pos) (qS c W own own ownL sSkip) := ps_pass.imp fun D σ H ⟨Z, ρ, S, p⟩ => p Z H σ .refl S
theorem qs_doc {x : Str} {j : Nat} {p2 : Pos} : PS X (.Expr (.Constant (.str x) j p2) pos) (qS c W own own ownL sSkip) := ps_doc.imp fun D σ H ⟨Z, ρ, S, p⟩ => p Z H σ .refl S
theorem qs_cons (h1 : PS X st (qS c W own own1 ownL s1)) (h2 : PSs X sts (qS c W own1 own' ownL s2)) : PSs X (st :: sts) (qS c W own own' ownL (sSeq s1 s2)) := (pss_cons h1 h2).imp fun D σ H ⟨Z, ρ, S, p⟩ => by
  refine ⟨Z, ρ, S, ?_⟩
  unfold sSeq at p
  split at p
  · rename_i ρ1 q
    rw [q]
    exact fun Z1 H1 σ1 ad S1 => ⟨Z1, ρ1, S1, p.move ad⟩
  · rename_i r q
    match hr : s1 ρ with
    | none => rw [hr] at p; exact p
    | some (.nx, ρ') => exact absurd hr (q ρ')
    | some (.ct, ρ') => rw [hr] at p; exact p
    | some (.bk, ρ') => rw [hr] at p; exact p
    | some (.rt d, ρ') => rw [hr] at p; exact p
    | some (.ex y, ρ') => rw [hr] at p; exact p
theorem qs_one (h1 : PS X st (qS c W own own' ownL s1)) : PSs X [st] (qS c W own own' ownL s1) := pss_one h1
/-- fewer own slots behind -/
theorem qs_weak (h : PSs X sts (qS c W own own1 ownL s)) (hs : ∀ i ∈ own', i ∈ own1) : PSs X sts (qS c W own own' ownL s) := h.imp fun D σ H ⟨Z, ρ, S, p⟩ => ⟨Z, ρ, S, by
  match hr : s ρ with
  | none => rw [hr] at p; exact p
  | some (.nx, ρ') =>
    rw [hr] at p
    exact fun Z1 H1 σ1 ad S1 => by
      obtain ⟨Z2, a2, S2⟩ := S1.drop hs
      exact p Z2 H1 σ1 (ad.trans a2) S2
  | some (.ct, ρ') => rw [hr] at p; exact p
  | some (.bk, ρ') => rw [hr] at p; exact p
  | some (.rt d, ρ') => rw [hr] at p; exact p
  | some (.ex y, ρ') => rw [hr] at p; exact p⟩
/-- fewer own slots ahead -/
theorem qs_pre (h : PSs X sts (qS c W own own' ownL s)) (hs : ∀ i ∈ own, i ∈ own1) : PSs X sts (qS c W own1 own' ownL s) := h.imp fun D σ H ⟨Z, ρ, S, p⟩ => by
  obtain ⟨Z2, a2, S2⟩ := S.drop hs
  exact ⟨Z2, ρ, S2, p.move a2⟩
theorem qs_pre1 (h : PS X st (qS c W own own' ownL s)) (hs : ∀ i ∈ own, i ∈ own1) : PS X st (qS c W own1 own' ownL s) := h.imp fun D σ H ⟨Z, ρ, S, p⟩ => by
  obtain ⟨Z2, a2, S2⟩ := S.drop hs
  exact ⟨Z2, ρ, S2, p.move a2⟩
theorem qs_asg (he : PE X e (qE c W own .frz m)) (hg : PG X tg (qG c own own' ts g)) (hs : swapsWithSole [tg] e pos.line X.env = pure false := by rfl) (hw : swappedStores [tg] e X.env = pure none := by rfl) (h1 : (assignEach [tg] X.env).map (·.2) = [assign tg X.env] := by rfl) : PS X (.Assign [tg] e pos) (qS c W own own' ownL (sAsg g m)) := (ps_asg he hg hs hw h1).imp fun D σ H ⟨Z, ρ, S, p⟩ =>
  ⟨Z, ρ, S, (PostS.lft S p).imp (fun d p1 v Z1 H1 x1 hv => ⟨Z1, ρ, d, S.move x1, hv, (PostS.gok p1).imp (fun ρ1 q σ1 _ S1 => q Z1 H1 σ1 x1.adv S1) fun _ q => q⟩) fun _ q => q⟩
theorem own_there {Z : ZS} {H : Hp} {σ : St} {ρ : Env} (S : SE c own Z H σ ρ) : ∀ j ∈ own, ∀ a, σ[j]? = some (some (.ref a)) → H a ≠ none := fun j hj a e => by
  obtain ⟨b, d, e1, e2, _, _, t⟩ := S.ow j hj
  rw [e] at e2
  cases e2
  obtain ⟨o, ho⟩ := t.there
  rw [ho]
  exact fun z => by cases z
theorem qs_new (hN : X.N.Nodup) (hi : X.N[i]? = some x) (hx : Loc X.env.scope x) (hf : X.fn x = true ∨ X.env.scope.names.lookup x = some .local) {p2 : Pos} (he : PE X e (qE c W own .new m)) (hs : swapsWith e (some (.Name x p2)) pos.line X.env = pure false := by rfl) (ho : own' = i :: own.filter (· != i)) :
    PS X (.Assign [.Name x p2] e pos) (qS c W own own' ownL (sNew i m)) := by
  subst ho
  refine (ps_set hN hi hx he hs hf).imp fun D σ H ⟨Z, ρ, S, p⟩ => ⟨Z, ρ, S, (PostS.lft S p).imp (fun d p1 v Z1 H1 x1 hv => ?_) fun _ q => q⟩
  have key : ∀ (hb : isBox d = true) (hl : i < ρ.length), SE c (i :: own.filter (· != i)) Z1 H1 (σ.set i (some v)) (ρ.set i (some d)) := fun hb hl => (S.move x1).setN hv hb hl S.ext.same (own_there S)
  cases d with
  | lst ys =>
    dsimp only at p1
    split at p1
    · rename_i hl; exact p1 Z1 H1 _ x1.adv (key rfl hl)
    · exact p1.elim
  | dic ys =>
    dsimp only at p1
    split at p1
    · rename_i hl; exact p1 Z1 H1 _ x1.adv (key rfl hl)
    · exact p1.elim
  | _ => exact p1.elim
theorem qs_drop (he : PE X e (qE c W own k m)) (hs : swapsWith e none pos.line X.env = pure false := by rfl) : PS X (.Expr e pos) (qS c W own own ownL (sDrop m)) := (ps_expr he hs).imp fun D σ H ⟨Z, ρ, S, p⟩ =>
  ⟨Z, ρ, S, (PostS.lft S p).imp (fun d p1 v Z1 H1 x1 hv => p1 Z1 H1 σ x1.adv (S.move x1)) fun _ q => q⟩
theorem qs_ret (he : PE X e (qE c W own .frz m)) : PS X (.Return (some e) pos) (qS c W own own' ownL (sRet m)) := (ps_ret he).imp fun D σ H ⟨Z, ρ, S, p⟩ =>
  ⟨Z, ρ, S, (PostS.lft S p).imp (fun d p1 v Z1 H1 x1 hv => p1 v Z1 H1 x1.adv (S.ext.trans x1) hv) fun _ q => q⟩
theorem qs_retN : PS X (.Return none pos) (qS c W own own' ownL (sRet (eC .non))) := ps_retN.imp fun D σ H ⟨Z, ρ, S, p⟩ => p .non Z H .refl S.ext .non
theorem qs_brk (h : ∀ i ∈ ownL, i ∈ own) : PS X (.Break pos) (qS c W own own' ownL sBrk) := ps_break.imp fun D σ H ⟨Z, ρ, S, p⟩ => by
  obtain ⟨Z2, a2, S2⟩ := S.drop h
  exact p Z2 H σ a2 S2
theorem qs_cnt (h : ∀ i ∈ ownL, i ∈ own) : PS X (.Continue pos) (qS c W own own' ownL sCnt) := ps_continue.imp fun D σ H ⟨Z, ρ, S, p⟩ => by
  obtain ⟨Z2, a2, S2⟩ := S.drop h
  exact p Z2 H σ a2 S2
theorem qs_if {sa sb : List Stmt} (hc : PT X e (qT c W own t)) (ha : PSs X sa (qS c W own own' ownL s1)) (hb : PSs X sb (qS c W own own' ownL s2)) : PS X (.If e sa sb pos) (qS c W own own' ownL (sIf t s1 s2)) := (ps_if hc ha hb).imp fun D σ H ⟨Z, ρ, S, p⟩ =>
  ⟨Z, ρ, S, (PostS.lft S p).imp (fun b p1 Z1 H1 x1 => by
    cases b with
    | true => exact ⟨Z1, ρ, S.move x1, PostS.move x1.adv p1⟩
    | false => exact ⟨Z1, ρ, S.move x1, PostS.move x1.adv p1⟩) fun _ q => q⟩

/-! ### loops -/
/-- the body's end within the loop, from the loop's end behind the items left -/
theorem loop_body {ownX : List Nat} {Z : ZS} {H : Hp} {D : Ends} {N : St → Hp → Prop} {o : O} {rest : SM} (h : PostS c W own' ownX Z H D (match o with
    | some (.nx, ρ2) => rest ρ2
    | some (.ct, ρ2) => rest ρ2
    | some (.bk, ρ2) => some (.nx, ρ2)
    | q => q)) (hN : ∀ ρ2 Z2 H2 σ2, Adv Z H Z2 H2 → SE c own' Z2 H2 σ2 ρ2 → PostS c W own' ownX Z2 H2 D (rest ρ2) → N σ2 H2) : PostS c W own' own' Z H { D with nx := N, ct := N, bk := D.nx } o := by
  match o, h with
  | some (.nx, ρ'), h => exact fun Z2 H2 σ2 a S => hN ρ' Z2 H2 σ2 a S (PostS.move a h)
  | some (.ct, ρ'), h => exact fun Z2 H2 σ2 a S => hN ρ' Z2 H2 σ2 a S (PostS.move a h)
  | some (.bk, ρ'), h => exact h
  | some (.rt d, ρ'), h => exact h
  | some (.ex y, ρ'), h => exact h
theorem qs_for {ownX : List Nat} {body : List Stmt} (hp : PassesOwn (model X.prog X.w) X.A X.env X.xe) (hc : X.calm = true) (hi : PI X tg iter (qI c W own src)) (hL : ∀ i ∈ own', i ∈ own) (hg : PG X tg (qG c own' own1 ts g)) (hb : PSs X body (qS c W own1 own' own' s))
    (hs : ∀ x, foldedSetIterable iter X.env x = pure x := by intro _; rfl) (hK : c.K = X.K) : PS X (.For tg iter body [] pos) (qS c W own own' ownX (sFor src g s)) := (ps_for hp hc hi hg hb hs).imp fun D σ H ⟨Z, ρ, S, p⟩ => by
  refine ⟨Z, ρ, S, (PostS.lft S p).imp (fun ds p1 J Z1 H1 x1 it => ?_) fun _ q => q⟩
  obtain ⟨Z1', a1, S1⟩ := (S.move x1).drop hL
  have p1 := PostS.move (x1.adv.trans a1) p1
  refine ⟨fun i m σ' H' => ∃ Z' ρ', Adv Z1' H1 Z' H' ∧ SE c own' Z' H' σ' ρ' ∧ i + m = ds.length ∧ PostS c W own' ownX Z' H' D (forL g s (ds.drop i) ρ'), ⟨ds.length, Z1', ρ, .refl, S1, by omega, by rw [List.drop_zero]; exact p1⟩, ?_⟩
  rintro i m σ' H' ⟨Z', ρ', ad, S', hm, p2⟩
  obtain ⟨h1, h2⟩ := it Z' H' (a1.trans ad) S'.trk i
  cases e : ds[i]? with
  | none =>
    have hl : ds.length ≤ i := List.getElem?_eq_none_iff.mp e
    rw [List.drop_of_length_le hl] at p2
    exact .inl ⟨h2 hl, p2 Z' H' σ' .refl S'⟩
  | some d =>
    obtain ⟨hlt, hd⟩ := List.getElem?_eq_some_iff.mp e
    rw [List.drop_eq_getElem_cons hlt, hd] at p2
    obtain ⟨go, yld⟩ := h1 d e
    refine .inr ⟨go, fun σ2 H2 => ∃ Z2 ρ2, Adv Z1' H1 Z2 H2 ∧ SE c own' Z2 H2 σ2 ρ2 ∧ PostS c W own' ownX Z2 H2 D (forL g s (ds.drop (i + 1)) ρ2), fun σ2 H2 ⟨Z2, ρ2, b1, b2, b3⟩ => ⟨m - 1, by omega, Z2, ρ2, b1, b2, by omega, b3⟩, fun x H2 y => ?_⟩
    obtain ⟨Z2, x2, rx⟩ := yld x H2 y
    have p3 : PostS c W own' ownX Z' H' D (gok (g d ρ') fun ρ1 => match s ρ1 with
      | some (.nx, ρ2) => forL g s (ds.drop (i + 1)) ρ2
      | some (.ct, ρ2) => forL g s (ds.drop (i + 1)) ρ2
      | some (.bk, ρ2) => some (.nx, ρ2)
      | q => q) := p2
    refine ⟨Z2, ρ', d, S'.move x2, rx, (PostS.gok p3).imp (fun ρ1 q σ1 _ Sg => ⟨Z2, ρ1, Sg, ?_⟩) fun _ q => q⟩
    refine loop_body (rest := forL g s (ds.drop (i + 1))) (PostS.move x2.adv q) fun ρ2 Z3 H3 σ3 a3 S3 p4 => ⟨Z3, ρ2, (ad.trans x2.adv).trans a3, S3, p4⟩
theorem whlN_more {t : TM} {b : SM} : ∀ (n : Nat) (ρ : Env) (r : Fl × Env), whlN t b n ρ = some r → ∀ k, whlN t b (n + k) ρ = some r
  | 0, ρ, r, h, k => by cases h
  | n + 1, ρ, r, h, k => by
    rw [show n + 1 + k = (n + k) + 1 by omega]
    unfold whlN at h ⊢
    cases q : t ρ with
    | bad => rw [q] at h; exact h
    | exc x => rw [q] at h; exact h
    | ok cd =>
      rw [q] at h
      simp only [lft_ok] at h ⊢
      cases cd with
      | false => exact h
      | true =>
        simp only [if_true] at h ⊢
        match hb : b ρ with
        | none => rw [hb] at h; exact h
        | some (.nx, ρ') => rw [hb] at h; exact whlN_more n ρ' r h k
        | some (.ct, ρ') => rw [hb] at h; exact whlN_more n ρ' r h k
        | some (.bk, ρ') => rw [hb] at h; exact h
        | some (.rt d, ρ') => rw [hb] at h; exact h
        | some (.ex y, ρ') => rw [hb] at h; exact h
theorem sWhl_of {t : TM} {b : SM} {n : Nat} {ρ : Env} {r : Fl × Env} (h : whlN t b n ρ = some r) : sWhl t b ρ = some r := by
  unfold sWhl
  have ex : ∃ n, (whlN t b n ρ).isSome = true := ⟨n, by rw [h]; rfl⟩
  rw [dif_pos ex]
  cases q : whlN t b ex.choose ρ with
  | none =>
    have := ex.choose_spec
    rw [q] at this
    cases this
  | some r' =>
    have h1 := whlN_more n ρ r h ex.choose
    have h2 := whlN_more _ ρ r' q n
    rw [Nat.add_comm] at h1
    rw [h1] at h2
    exact h2.symm
theorem qs_whl {ownX : List Nat} {body : List Stmt} (hp : PassesOwn (model X.prog X.w) X.A X.env X.xe) (hL : ∀ i ∈ own', i ∈ own) (hc : PT X e (qT c W own' t)) (hb : PSs X body (qS c W own' own' own' s)) : PS X (.While e body [] pos) (qS c W own own' ownX (sWhl t s)) := (ps_while hp hc hb).imp fun D σ H ⟨Z, ρ, S, p⟩ => by
  obtain ⟨Z1, a1, S1⟩ := S.drop hL
  have p := PostS.move a1 p
  unfold sWhl at p
  split at p
  · rename_i ex
    refine ⟨fun n σ' H' => ∃ Z' ρ', SE c own' Z' H' σ' ρ' ∧ PostS c W own' ownX Z' H' D (whlN t s n ρ'), ⟨ex.choose, Z1, ρ, S1, p⟩, ?_⟩
    rintro n σ' H' ⟨Z', ρ', S', q⟩
    cases n with
    | zero => exact q.elim
    | succ n =>
      unfold whlN at q
      refine ⟨Z', ρ', S', (PostS.lft S' q).imp (fun b q1 Z2 H2 x2 => ?_) fun _ q => q⟩
      cases b with
      | false =>
        simp only [Bool.false_eq_true, if_false] at q1 ⊢
        exact q1 Z2 H2 σ' x2.adv (S'.move x2)
      | true =>
        simp only [if_true] at q1 ⊢
        refine ⟨fun σ2 H2 => ∃ Z2 ρ2, SE c own' Z2 H2 σ2 ρ2 ∧ PostS c W own' ownX Z2 H2 D (whlN t s n ρ2), fun σ2 H2 ⟨Z2, ρ2, b1, b2⟩ => ⟨n, Nat.lt_succ_self n, Z2, ρ2, b1, b2⟩, Z2, ρ', S'.move x2, ?_⟩
        exact loop_body (rest := whlN t s n) (PostS.move x2.adv q1) fun ρ2 Z3 H3 σ3 a3 S3 p4 => ⟨Z3, ρ2, S3, p4⟩
  · exact p.elim
end
end PL

set_option maxRecDepth 100000
set_option maxHeartbeats 4000000
namespace PL
open PySem PySem.Spec PyProof.Rows L2
set_option autoImplicit false

section
variable {X : Cx} {c : Ct} {W : WX} {own own' own1 own2 ownL ts : List Nat} {e a b tg iter : Expr} {st : Stmt} {sts : List Stmt} {m m2 : EM} {t : TM} {s s1 s2 : SM} {g : GM} {src : LM} {pos : Pos} {k : Kd} {i : Nat} {x : Str}
variable {Z Z' : ZS} {H H' : Hp} {σ : St} {ρ : Env} {p : Addr} {o : HO} {d : Dat}
/-- an own list or dict is changed in its place -/
theorem SE.mut (S : SE c own Z H σ ρ) (hi : i ∈ own) (hp : σ[i]? = some (some (.ref p))) (ht : Top c.K Z (upd H p o) p d) (hd : ∀ y, d ≠ .exc y) : Adv Z H Z (upd H p o) ∧ SE c own Z (upd H p o) σ (ρ.set i (some d)) := by
  obtain ⟨a, d0, e1, e2, nz, h0, t0⟩ := S.ow i hi
  have ea : a = p := by rw [hp] at e2; cases e2; rfl
  subst ea
  have hl : i < ρ.length := (List.getElem?_eq_some_iff.mp e1).1
  have ad : Adv Z H Z (upd H a o) := fun b zb => ⟨zb, fun u q => by rw [upd_ne (fun z : b = a => nz (z ▸ zb))]; exact q⟩
  refine ⟨ad, ⟨⟨S.ext.sub, fun b u q => ?_, fun b zb => ?_, S.ext.new⟩, by simp [S.len], fun j d' e n nx => ?_, fun j y e => ?_, fun j hj => ?_, S.inj⟩⟩
  · rw [upd_ne (fun z => by rw [z, h0] at q; cases q)]
    exact S.ext.same b u q
  · obtain ⟨u, q⟩ := S.ext.trk b zb
    exact ⟨u, (ad b zb).2 u q⟩
  · rw [get_set] at e
    by_cases h : i = j ∧ j < ρ.length
    · exact absurd (h.1 ▸ hi) n
    · rw [if_neg h] at e
      obtain ⟨v, hv, r⟩ := S.val j d' e n nx
      exact ⟨v, hv, r.adv ad⟩
  · rw [get_set] at e
    by_cases h : i = j ∧ j < ρ.length
    · rw [if_pos h] at e
      cases e
      exact absurd rfl (hd y)
    · rw [if_neg h] at e
      exact S.exc j y e
  · by_cases h : j = i
    · subst h
      exact ⟨a, d, by rw [get_set, if_pos ⟨rfl, hl⟩], e2, nz, h0, ht⟩
    · obtain ⟨a', d', f1, f2, g1, g2, tt⟩ := S.ow j hj
      have hne : a' ≠ a := fun z => S.inj j hj i hi h (by rw [f2, e2, z])
      refine ⟨a', d', by rw [get_set, if_neg (fun z => h z.1.symm)]; exact f1, f2, g1, g2, ?_⟩
      cases d' with
      | lst ds => obtain ⟨xs, q, r⟩ := tt; exact ⟨xs, by rw [upd_ne hne]; exact q, r.adv ad⟩
      | dic ds => obtain ⟨xs, q, r⟩ := tt; exact ⟨xs, by rw [upd_ne hne]; exact q, r.adv ad⟩
      | _ => exact tt.elim
theorem qs_app {p0 apos : Pos} (hK : c.K = X.K) (hi : i ∈ own) (hv : PE X (.Name x p0) (tVar i)) (he : PE X e (qE c W own .frz m))
    (hbase : attributeBase (.Name x p0) "append" X.env (eval (.Name x p0) X.env) = eval (.Name x p0) X.env := by rfl)
    (hfew : ((backTo pos (starEach (e :: []) X.env)).all (fun x => !x.1) && (backToKw pos (keywordEach [] X.env)).all (fun x => x.1.isSome)
      && decide ((e :: []).length + ([] : List Keyword).length + (if ([] : List Keyword).isEmpty then 0 else 1) < 30)) = true := by rfl)
    (hline : (apos.endLine == pos.line) = true := by rfl) (hst : starEach (e :: []) X.env = (false, eval e X.env) :: starEach [] X.env := by rfl) (hpl : (backTo pos (starEach [] X.env)).any (·.1) = false := by rfl) {spos : Pos}
    (hsw : swapsWith (.Call (.Attribute (.Name x p0) "append" apos) [e] [] pos) none spos.line X.env = pure false := by rfl) :
    PS X (.Expr (.Call (.Attribute (.Name x p0) "append" apos) [e] [] pos) spos) (qS c W own own ownL (sApp i m)) := (ps_expr (pe_bm PySem.F.plainAttrs_list PySem.F.slot_list_append PySem.F.type_list_append mt_append hv (qa_cons he qa_nil hst) hbase hfew hline hst hpl) hsw).imp fun D σ H ⟨Z, ρ, S, p⟩ => by
  unfold sApp at p
  split at p
  · rename_i ds eρ
    obtain ⟨l, d0, e1, e2, nz, h0, t0⟩ := S.ow i hi
    rw [eρ] at e1
    cases e1
    obtain ⟨xs, hH, hr⟩ := t0
    refine ⟨_, e2, .inl ⟨rfl, xs, .inl (.inl hH)⟩, Z, ρ, S, ?_⟩
    unfold eCons eNil
    have p := PostS.lft S p
    cases q : m ρ with
    | bad => rw [q] at p; exact p.elim
    | exc y => rw [q] at p; exact p
    | ok d =>
      rw [q] at p
      intro vs Z1 H1 x1 hvs
      have p : PostS c W own ownL Z H D (if ds.length < LINE then some (.nx, ρ.set i (some (.lst (ds ++ [d])))) else none) := p
      by_cases hz : ds.length < LINE
      · rw [if_pos hz] at p
        have S1 := S.move x1
        have hr1 := hr.adv x1.adv
        have hvr := hvs.rep
        cases hvr with
        | cons r1 r2 =>
          cases r2
          have hH1 := x1.same _ _ hH
          refine ⟨l, xs, _, rfl, rfl, hH1, by rw [hr.len, ← line_eq]; exact hz, ?_⟩
          have nl : ¬ Z1 l := fun z => by
            rcases x1.new l z with z2 | z2
            · exact nz z2
            · rw [hH] at z2; cases z2
          have ad : ∀ o, Adv Z1 H1 Z1 (upd H1 l o) := fun o b zb => ⟨zb, fun u q => by
            rw [upd_ne (fun z : b = l => nl (z ▸ zb))]
            exact q⟩
          obtain ⟨ad2, S2⟩ := S1.mut (d := .lst (ds ++ [d])) hi e2 ⟨xs ++ [_], upd_same, (hr1.adv (ad _)).append (.cons (r1.adv (ad _)) .nil)⟩ (fun y z => by cases z)
          exact p Z1 _ σ (x1.adv.trans ad2) S2
      · rw [if_neg hz] at p
        exact p.elim
  · exact p.elim
end

/-! ### comprehensions -/
theorem wipe_get : ∀ (ρ : Env) (vs : List Nat) (j : Nat), (wipe ρ vs)[j]? = if j ∈ vs ∧ j < ρ.length then some none else ρ[j]?
  | ρ, [], j => by simp [wipe]
  | ρ, v :: vs, j => by
    have hl : (wipe ρ vs).length = ρ.length := by
      clear j
      induction vs with
      | nil => rfl
      | cons v vs ih => simp [wipe, ih]
    unfold wipe
    rw [get_set, hl, wipe_get ρ vs j]
    by_cases h : v = j
    · subst h
      by_cases h2 : v < ρ.length
      · simp [h2]
      · simp [h2]
    · have h' : ¬ j = v := fun z => h z.symm
      simp [h, h']
theorem wipe_len : ∀ (ρ : Env) (vs : List Nat), (wipe ρ vs).length = ρ.length
  | ρ, [] => rfl
  | ρ, v :: vs => by simp [wipe, wipe_len ρ vs]
theorem wipeS_get : ∀ (σ : St) (vs : List Nat) (j : Nat), (L2.wipe σ vs)[j]? = if j ∈ vs ∧ j < σ.length then some none else σ[j]?
  | σ, [], j => by simp [L2.wipe]
  | σ, v :: vs, j => by
    unfold L2.wipe
    rw [get_set, L2.wipe_length, wipeS_get σ vs j]
    by_cases h : v = j
    · subst h
      by_cases h2 : v < σ.length
      · simp [h2]
      · simp [h2]
    · have h' : ¬ j = v := fun z => h z.symm
      simp [h, h']
theorem wipeS_eq {σ σ' : St} {vs : List Nat} (h : Tch vs (L2.wipe σ vs) σ') : L2.wipe σ' vs = L2.wipe σ vs := by
  obtain ⟨hl, h⟩ := h
  rw [L2.wipe_length] at hl
  apply List.ext_getElem?
  intro j
  rw [wipeS_get, wipeS_get, hl]
  by_cases hj : j ∈ vs
  · by_cases h2 : j < σ.length
    · simp [hj, h2]
    · simp only [hj, h2, and_false, if_false]
      rw [List.getElem?_eq_none (by omega), List.getElem?_eq_none (by omega)]
  · simp only [hj, false_and, if_false]
    rw [h j hj, wipeS_get]
    simp [hj]
section
variable {c : Ct} {own vs : List Nat} {Z Z' : ZS} {H H' : Hp} {σ : St} {ρ : Env} {p : Addr} {o : HO}
theorem SE.wipe (S : SE c own Z H σ ρ) (h : ∀ j ∈ vs, j ∉ own) : SE c own Z H (L2.wipe σ vs) (PL.wipe ρ vs) where
  ext := S.ext
  len := by rw [L2.wipe_length, wipe_len, S.len]
  val := fun j d e n nx => by
    rw [wipe_get] at e
    rw [wipeS_get, S.len]
    by_cases hj : j ∈ vs ∧ j < ρ.length
    · rw [if_pos hj] at e; cases e
    · rw [if_neg hj] at e ⊢; exact S.val j d e n nx
  exc := fun j x e => by
    rw [wipe_get] at e
    rw [wipeS_get, S.len]
    by_cases hj : j ∈ vs ∧ j < ρ.length
    · rw [if_pos hj] at e; cases e
    · rw [if_neg hj] at e ⊢; exact S.exc j x e
  ow := fun j hj => by
    obtain ⟨a, d, e1, e2, q⟩ := S.ow j hj
    have n : ¬ (j ∈ vs ∧ j < ρ.length) := fun z => h j z.1 hj
    refine ⟨a, d, ?_, ?_, q⟩
    · rw [wipe_get, if_neg n]; exact e1
    · rw [wipeS_get, S.len, if_neg n]; exact e2
  inj := fun j hj l hl ne => by
    rw [wipeS_get, wipeS_get, if_neg (fun z => h j z.1 hj), if_neg (fun z => h l z.1 hl)]
    exact S.inj j hj l hl ne
/-- a new object of one's own is changed -/
theorem Ext.chg (x : Ext Z H Z' H') (hp : H p = none) (n : ¬ Z' p) : Ext Z H Z' (upd H' p o) where
  sub := x.sub
  same := fun b u q => by rw [upd_ne (ne_of_none q hp)]; exact x.same b u q
  trk := fun b z => by
    obtain ⟨u, q⟩ := x.trk b z
    exact ⟨u, by rw [upd_ne (fun e : b = p => n (e ▸ z))]; exact q⟩
  new := x.new
theorem Adv.chg (n : ¬ Z p) : Adv Z H Z (upd H p o) := fun b zb => ⟨zb, fun u q => by rw [upd_ne (fun e : b = p => n (e ▸ zb))]; exact q⟩
theorem Ext.not (x : Ext Z H Z' H') (h : H p = some o) (n : ¬ Z p) : ¬ Z' p := fun z => by
  rcases x.new p z with q | q
  · exact n q
  · rw [h] at q; cases q
end
theorem noX_post {α : Type} {r : R α} {p : α → Prop} {x : Nat → Prop} (h : Post (noX r) p x) : Post r p (fun _ => False) := by
  cases r with
  | ok a => exact h
  | exc c => exact h
  | bad => exact h
abbrev W0 : WX := fun _ _ _ _ => False
section
variable {X : Cx} {c : Ct} {W : WX} {own own' vs : List Nat} {elt tg iter : Expr} {ifs : List Expr} {scope : Scope} {ob : List (Str × Nat)} {pos : Pos} {m : EM} {t : TM} {g : GM} {src : LM} {k : Kd}
/-- a clause's tests -/
theorem qts_nil : PTs X [] (qT c W own tYes) := ⟨fun pins s σ H Q I ⟨Z, ρ, S, p⟩ => pts_nil.run pins s σ H Q I (p Z H (.refl S.trk))⟩
theorem lc_read {σ : St} {H : Hp} {Q : VK} (hd : ∀ j ∈ vs, j ∉ own) (h : qE c W own .new (eComp src vs g t m) σ H Q) : tLc (qI c W own src) (qG c own own vs g) (qT c W0 own t) (qE c W0 own .frz m) vs σ H Q := by
  obtain ⟨Z, ρ, S, p⟩ := h
  refine ⟨Z, ρ, S, (Post.bnd p).imp (fun ds p1 J Z1 H1 x1 it D hD => ?_) fun _ q => q⟩
  have S1 := S.move x1
  have hl1 : Ext Z1 H1 Z1 (upd H1 D (.lst [])) := .laid x1.trk hD
  have nD1 : ¬ Z1 D := fun z => by
    obtain ⟨u, q⟩ := x1.trk D z
    rw [hD] at q; cases q
  cases hc : compL g t m (PL.wipe ρ vs) ds with
  | bad => rw [hc] at p1; exact p1.elim
  | exc y =>
    exfalso
    have : ∀ ds, compL g t m (PL.wipe ρ vs) ds ≠ .exc y := by
      intro ds
      induction ds with
      | nil => intro q; cases q
      | cons d r ih =>
        intro q
        unfold compL at q
        cases q1 : g d (PL.wipe ρ vs) with
        | ok ρ1 =>
          rw [q1] at q
          simp only [noX, PL.R.bnd_ok] at q
          cases q2 : t ρ1 with
          | ok bb =>
            rw [q2] at q
            simp only [noX, PL.R.bnd_ok] at q
            cases bb with
            | false => exact ih q
            | true =>
              simp only [if_true] at q
              cases q3 : m ρ1 with
              | ok y1 =>
                rw [q3] at q
                simp only [noX, PL.R.bnd_ok] at q
                cases q4 : compL g t m (PL.wipe ρ vs) r with
                | ok ys => rw [q4] at q; cases q
                | exc z => rw [q4] at q; exact ih (by rw [q4]; exact q)
                | bad => rw [q4] at q; cases q
              | exc z => rw [q3] at q; cases q
              | bad => rw [q3] at q; cases q
          | exc z => rw [q2] at q; cases q
          | bad => rw [q2] at q; cases q
        | exc z => rw [q1] at q; cases q
        | bad => rw [q1] at q; cases q
    exact this ds hc
  | ok total =>
    rw [hc] at p1
    obtain ⟨hlen, p2⟩ := Post.ite (b := total.length ≤ LINE) p1
    refine ⟨fun i mm H' => ∃ Z' acc ys rest, Ext Z1 H1 Z' H' ∧ ¬ Z' D ∧ H' D = some (.lst acc) ∧ RepA c.K Z' H' acc ys ∧ i + mm = ds.length ∧ compL g t m (PL.wipe ρ vs) (ds.drop i) = .ok rest ∧ total = ys ++ rest,
      ⟨ds.length, Z1, [], [], total, hl1, nD1, upd_same, .nil, by omega, by rw [List.drop_zero]; exact hc, rfl⟩, ?_⟩
    rintro i mm H' ⟨Z', acc, ys, rest, x2, nD, hH, hr, hm, hcr, ht⟩
    obtain ⟨h1, h2⟩ := it Z' H' x2.adv x2.trk i
    cases e : ds[i]? with
    | none =>
      have hl : ds.length ≤ i := List.getElem?_eq_none_iff.mp e
      rw [List.drop_of_length_le hl] at hcr
      cases hcr
      rw [List.append_nil] at ht
      subst ht
      refine .inl ⟨h2 hl, p2 (.ref D) Z' H' (x1.trans x2) ⟨fun _ => ⟨D, rfl, nD, x1.same.free hD, acc, hH, hr⟩, fun z => by cases z⟩⟩
    | some d =>
      obtain ⟨hlt, hdd⟩ := List.getElem?_eq_some_iff.mp e
      rw [List.drop_eq_getElem_cons hlt, hdd] at hcr
      obtain ⟨go, yld⟩ := h1 d e
      refine .inr ⟨go, fun H3 => ∃ Z3 acc ys rest, Ext Z1 H1 Z3 H3 ∧ ¬ Z3 D ∧ H3 D = some (.lst acc) ∧ RepA c.K Z3 H3 acc ys ∧ compL g t m (PL.wipe ρ vs) (ds.drop (i + 1)) = .ok rest ∧ total = ys ++ rest,
        fun H3 ⟨Z3, acc3, ys3, rest3, q1, q2, q3, q4, q5, q6⟩ => ⟨mm - 1, by omega, Z3, acc3, ys3, rest3, q1, q2, q3, q4, by omega, q5, q6⟩, fun x H2 y => ?_⟩
      obtain ⟨Z2, xx, rx⟩ := yld x H2 y
      have S2 := ((S1.move x2).move xx).wipe (vs := vs) hd
      have nD2 : ¬ Z2 D := xx.not hH nD
      have hH2 := xx.same _ _ hH
      have hr2 := hr.adv xx.adv
      have x12 := x2.trans xx
      -- the turn of the mirror
      unfold compL at hcr
      have P0 : Post ((noX (g d (PL.wipe ρ vs))).bnd fun ρ' => (noX (t ρ')).bnd fun b => if b then (noX (m ρ')).bnd fun y => (compL g t m (PL.wipe ρ vs) (ds.drop (i + 1))).bnd fun ys => .ok (y :: ys) else compL g t m (PL.wipe ρ vs) (ds.drop (i + 1))) (fun z => z = rest) (fun _ => False) := by
        rw [hcr]
        rfl
      refine ⟨Z2, PL.wipe ρ vs, d, S2, rx, (noX_post (Post.bnd P0)).imp (fun ρ1 P1 σ1 tch Sg => ⟨wipeS_eq tch, ?_⟩) fun _ q => q⟩
      · refine ⟨Z2, ρ1, Sg, (noX_post (Post.bnd P1)).imp (fun b P2 Z4 H4 x4 => ?_) fun _ q => q.elim⟩
        cases b with
        | false =>
          simp only [Bool.false_eq_true, if_false] at P2 ⊢
          cases q : compL g t m (PL.wipe ρ vs) (ds.drop (i + 1)) with
          | ok r2 =>
            rw [q] at P2
            have P2 : r2 = rest := P2
            subst P2
            exact ⟨Z4, acc, ys, r2, x12.trans x4, x4.not hH2 nD2, x4.same _ _ hH2, hr2.adv x4.adv, rfl, ht⟩
          | exc z => rw [q] at P2; exact P2.elim
          | bad => rw [q] at P2; exact P2.elim
        | true =>
          simp only [if_true] at P2 ⊢
          refine ⟨Z4, ρ1, Sg.move x4, (noX_post (Post.bnd P2)).imp (fun y1 P3 v Z5 H5 x5 hv => ?_) fun _ q => q.elim⟩
          have P3 := Post.bnd P3
          cases q : compL g t m (PL.wipe ρ vs) (ds.drop (i + 1)) with
          | ok r2 =>
            rw [q] at P3
            have P3 : y1 :: r2 = rest := P3
            subst P3
            have x45 := x4.trans x5
            have hH5 := x45.same _ _ hH2
            have nD5 := x45.not hH2 nD2
            have al : acc.length < sizeLine := by
              rw [hr.len, ← line_eq]
              have hl2 := congrArg List.length ht
              rw [List.length_append, List.length_cons] at hl2
              omega
            refine ⟨acc, hH5, al, Z5, acc ++ [v], ys ++ [y1], r2, (x12.trans x45).chg hD nD5, nD5, upd_same, ?_, rfl, by rw [ht]; simp⟩
            exact ((hr2.adv x45.adv).adv (.chg nD5)).append (.cons (Rep.adv (.chg nD5) hv) .nil)
          | exc z => rw [q] at P3; exact P3.elim
          | bad => rw [q] at P3; exact P3.elim
theorem q_lc (hc : X.calm = true) (hN : X.N.Nodup) (hi : PI X tg iter (qI c W own src)) (ok : BlkOk X.N X.env.scope scope ob) (hv : ob.map (·.2) = vs) (hd : ∀ j ∈ vs, j ∉ own)
    (hg : ∀ (s : Shared) (H : Hp) (C : Addr) (cl : List (Str × Addr)) (fp : List Addr), PG (X.blk s H scope (compEnvC scope cl C X.env) fp) tg (qG c own own vs g)) (ht : ∀ (s : Shared) (H : Hp) (C : Addr) (cl : List (Str × Addr)) (fp : List Addr), PTs (X.blk s H scope (compEnvC scope cl C X.env) fp) ifs (qT c W0 own t))
    (he : ∀ (s : Shared) (H : Hp) (C : Addr) (cl : List (Str × Addr)) (fp : List Addr), PE (X.blk s H scope (compEnvC scope cl C X.env) fp) elt (qE c W0 own .frz m)) (hs : ∀ x, foldedSetIterable iter X.env x = pure x := by intro _; rfl) :
    PE X (.ListComp elt [⟨tg, iter, ifs, 0⟩] scope pos) (qE c W own .new (eComp src vs g t m)) := by
  have h := pe_lc (pos := pos) hc hN hi ok hg ht he hs
  rw [hv] at h
  exact h.imp fun σ H Q hq => lc_read hd hq
theorem qs_setLc {i : Nat} {y : Str} {py spos : Pos} {ownL : List Nat} (hc : X.calm = true) (hN : X.N.Nodup) (hy : X.N[i]? = some y) (hyl : X.env.scope.names.lookup y = some .local)
    (hsw : swapsWith (.ListComp elt [⟨tg, iter, ifs, 0⟩] scope pos) (some (.Name y py)) spos.line X.env = pure true) (hi : PI X tg iter (qI c W own src)) (ok : BlkOk X.N X.env.scope scope ob) (hv : ob.map (·.2) = vs) (hd : ∀ j ∈ vs, j ∉ own)
    (hg : ∀ (s : Shared) (H : Hp) (C : Addr) (cl : List (Str × Addr)) (fp : List Addr), PG (X.blk s H scope (compEnvC scope cl C X.env) fp) tg (qG c own own vs g)) (ht : ∀ (s : Shared) (H : Hp) (C : Addr) (cl : List (Str × Addr)) (fp : List Addr), PTs (X.blk s H scope (compEnvC scope cl C X.env) fp) ifs (qT c W0 own t))
    (he : ∀ (s : Shared) (H : Hp) (C : Addr) (cl : List (Str × Addr)) (fp : List Addr), PE (X.blk s H scope (compEnvC scope cl C X.env) fp) elt (qE c W0 own .frz m)) (hs : ∀ x, foldedSetIterable iter X.env x = pure x := by intro _; rfl) (ho : own' = i :: own.filter (· != i)) :
    PS X (.Assign [.Name y py] (.ListComp elt [⟨tg, iter, ifs, 0⟩] scope pos) spos) (qS c W own own' ownL (sNew i (eComp src vs g t m))) := by
  subst ho
  have h := ps_setLc (pos := pos) hc hN hy hyl hsw hi ok hg ht he hs
  rw [hv] at h
  refine h.imp fun D σ H ⟨Z, ρ, S, p⟩ => ?_
  show tLc _ _ _ _ _ σ H fun x H1 => gName i x σ H1 D.nx
  refine lc_read hd ⟨Z, ρ, S, (PostS.lft S p).imp (fun d p1 v Z1 H1 x1 hv => ?_) fun _ q => q⟩
  have key : ∀ (hb : isBox d = true) (hl : i < ρ.length), SE c (i :: own.filter (· != i)) Z1 H1 (σ.set i (some v)) (ρ.set i (some d)) := fun hb hl => (S.move x1).setN hv hb hl S.ext.same (own_there S)
  cases d with
  | lst ys =>
    dsimp only at p1
    split at p1
    · rename_i hl; exact p1 Z1 H1 _ x1.adv (key rfl hl)
    · exact p1.elim
  | dic ys =>
    dsimp only at p1
    split at p1
    · rename_i hl; exact p1 Z1 H1 _ x1.adv (key rfl hl)
    · exact p1.elim
  | _ => exact p1.elim
end

/-! ### raise -/
section
variable {X : Cx} {c : Ct} {W : WX} {own own' ownL : List Nat} {n : Nat}
theorem qs_raise {x m : Str} {j : Nat} {p p2 pos pos2 : Pos} {bmB : List Value} {B newId initId : String} (hc : X.calm = true) (tk : Takes X W) (F : ExcBaseFacts B newId initId bmB) (q : PySem.W.excIn X.K (c.EC n) bmB newId = true) (gC : X.mg x = some (.ref (c.EC n))) (kC : PySem.W.keepIn X.K (.ref (c.EC n)) = true) (r : Raises X (.ref (c.EC n))) (hg : Gl X x)
    (hdb : (x == ("__debug__" : Str)) = false) : PS X (.Raise (some (.Call (.Name x p) [.Constant (.str m) j p2] [] pos)) none pos2) (qS c W own own' ownL (sRaise n)) := (ps_raise hc tk (pmk_own F q gC kC r hg hdb)).imp fun D σ H ⟨Z, ρ, S, p⟩ => by
  obtain ⟨Z2, a2, S2⟩ := S.drop (own' := []) (fun _ z => absurd z (by simp))
  exact p Z2 H σ a2 S2
end

/-! ### a def -/
section
variable {P : Program} {w : World} {K : KF} {mg : Str → Option Value} {base : Heap}
theorem start_get {N : List Str} {vs : List V} {ds : List Dat} {Z : ZS} {H : Hp} {K : KF} (r : RepA K Z H vs ds) (hl : vs.length ≤ N.length) (i : Nat) (d : Dat) (e : (ds.map some ++ List.replicate (N.length - ds.length) none)[i]? = some (some d)) : ∃ v, (L2.start N vs)[i]? = some (some v) ∧ Rep K Z H v d := by
  have hl2 := r.len
  by_cases h : i < ds.length
  · rw [List.getElem?_append_left (by simpa using h), List.getElem?_map] at e
    obtain ⟨d', e1, e2⟩ := Option.map_eq_some_iff.mp e
    cases e2
    obtain ⟨v, ev, rv⟩ := r.get e1
    refine ⟨v, ?_, rv⟩
    unfold L2.start
    rw [List.getElem?_append_left (by simp; omega), List.getElem?_map, ev]
    rfl
  · rw [List.getElem?_append_right (by simp; omega), List.getElem?_replicate] at e
    split at e <;> cases e
/-- THE RULE: a def does what its mirror says, if its body does -/
theorem fn_ok {x qual : Str} {st : Stmt} {f : Addr} {fd : FuncData} {N ps : List Str} {k n : Nat} {EC : Nat → Addr} {b : SM} {own' : List Nat} (F : Fun K x qual st f fd) (Sc : FnScope N ps (defScope st)) (hn : ps.length = n) (hN : ps.length ≤ N.length)
    (hb : ∀ (cdv : Value) (A : Around) (outer : List PySem.Env) (s : Shared) (H : Hp) (E : XK) (Z : ZS), Room k (A.deeper (envOfC qual (defScope st) s.heap.objs.size f cdv)) →
      PSs (cxOf (L2.CX P w) P w K mg base N qual (defScope st) f cdv A outer s H E) (defBody st) (qS ⟨K, EC, Z, H, none⟩ (fun cls d _ H' => E cls d H') [] own' [] b)) :
    FnOk P w K mg base (L2.CX P w) (k + 1) f fd ps (spM K EC n (run N.length b)) := by
  refine F.okX Sc (fun vs H Q E h => by rw [hn]; exact h.1) (fun cdv A outer s H vs Q E hr h => ?_)
  obtain ⟨hl, Z, ds, tr, r, p⟩ := h
  refine ⟨_, hb cdv A outer s H E Z hr, Z, ds.map some ++ List.replicate (N.length - ds.length) none, ⟨.refl tr, ?_, fun i d e _ _ => start_get r (by omega) i d e, fun i y e => ?_, fun i hi => absurd hi (by simp), fun i hi => absurd hi (by simp)⟩, ?_⟩
  · have := r.len
    unfold L2.start
    simp
    omega
  · obtain ⟨v, _, rv⟩ := start_get r (by omega) i _ e
    cases rv
  · unfold run at p
    match hq : b (ds.map some ++ List.replicate (N.length - ds.length) none) with
    | none => rw [hq] at p; exact p.elim
    | some (.nx, ρ') =>
      rw [hq] at p
      exact fun Z' H' σ' ad S => p .non Z' H' S.ext .non
    | some (.rt d, ρ') =>
      rw [hq] at p
      exact fun v Z' H' ad e r => p v Z' H' e r
    | some (.ex y, ρ') =>
      rw [hq] at p
      exact fun Z' H' σ' ad S => p Z' H' S.ext
    | some (.bk, ρ') => rw [hq] at p; exact p.elim
    | some (.ct, ρ') => rw [hq] at p; exact p.elim
end
end PL

set_option maxRecDepth 100000
set_option maxHeartbeats 4000000
namespace PL
open PySem PySem.Spec PyProof.Rows L2
set_option autoImplicit false

/-! ### no own error out of these -/
theorem nx_add : NoX2 addD := fun d e x h => by cases d <;> cases e <;> simp only [addD] at h <;> first | cases h | (split at h <;> cases h)
theorem nx_sub : NoX2 subD := fun d e x h => by cases d <;> cases e <;> simp only [subD] at h <;> first | cases h | (split at h <;> cases h)
theorem nx_mul : NoX2 mulN := fun d e x h => by cases d <;> cases e <;> simp only [mulN] at h <;> first | cases h | (split at h <;> cases h)
theorem nx_fdiv : NoX2 fdivD := fun d e x h => by cases d <;> cases e <;> simp only [fdivD] at h <;> first | cases h | (split at h <;> cases h)
theorem nx_mod : NoX2 modD := fun d e x h => by cases d <;> cases e <;> simp only [modD] at h <;> first | cases h | (split at h <;> cases h)
theorem nx_pow : NoX2 powD := fun d e x h => by cases d <;> cases e <;> simp only [powD] at h <;> first | cases h | (split at h <;> cases h)
theorem nx_neg : NoX1 negD := fun d x h => by cases d <;> cases h
theorem nx_lt : NoX2 ltD := fun d e x h => by cases d <;> cases e <;> cases h
theorem nx_le : NoX2 leD := fun d e x h => by cases d <;> cases e <;> cases h
theorem nx_gt : NoX2 gtD := fun d e x h => by cases d <;> cases e <;> cases h
theorem nx_ge : NoX2 geD := fun d e x h => by cases d <;> cases e <;> cases h
theorem nx_eq : NoX2 eqD := fun d e x h => by unfold eqD at h; split at h <;> cases h
theorem nx_ne : NoX2 neD := fun d e x h => by unfold neD at h; split at h <;> cases h
theorem nx_in : NoX2 inD := fun d e x h => by unfold inD at h; split at h <;> first | cases h | (split at h <;> cases h)
theorem nx_notIn : NoX2 notInD := fun d e x h => by
  unfold notInD at h
  cases q : inD d e with
  | ok z => rw [q] at h; exact nx_not z x h
  | exc y => exact nx_in d e y q
  | bad => rw [q] at h; cases h
theorem nx_idx : NoX2 idxD := fun d e x h => by
  unfold idxD at h
  split at h <;> first | cases h | (split at h <;> first | cases h | (split at h <;> cases h))

section
variable {X : Cx} {c : Ct} {W : WX} {own : List Nat} {a b : Expr} {m m1 m2 : EM} {pos : Pos} {k k1 k2 : Kd}
/-! ### the operators -/
theorem q_add (hK : c.K = X.K) (ha : PE X a (qE c W own .sh m1)) (hb : PE X b (qE c W own .sh m2)) : PE X (.BinOp a .Add b pos) (qE c W own .new (e2 addD m1 m2)) := q_bin ha hb (fun _ _ h k => pe_op opU_add h k) (by rw [hK]; exact o2_add) nx_add
theorem q_sub (ha : PE X a (qE c W own .sh m1)) (hb : PE X b (qE c W own .sh m2)) : PE X (.BinOp a .Sub b pos) (qE c W own .new (e2 subD m1 m2)) := q_bin ha hb (fun _ _ h k => pe_op op_sub h k) o2_sub nx_sub
theorem q_fdiv (ha : PE X a (qE c W own .sh m1)) (hb : PE X b (qE c W own .sh m2)) : PE X (.BinOp a .FloorDiv b pos) (qE c W own .new (e2 fdivD m1 m2)) := q_bin ha hb (fun _ _ h k => pe_op op_fdiv h k) o2_fdiv nx_fdiv
theorem q_mod (ha : PE X a (qE c W own .sh m1)) (hb : PE X b (qE c W own .sh m2)) : PE X (.BinOp a .Mod b pos) (qE c W own .new (e2 modD m1 m2)) := q_bin ha hb (fun _ _ h k => pe_op op_mod h k) o2_mod nx_mod
theorem q_pow (ha : PE X a (qE c W own .sh m1)) (hb : PE X b (qE c W own .sh m2)) : PE X (.BinOp a .Pow b pos) (qE c W own .new (e2 powD m1 m2)) := q_bin ha hb (fun _ _ h k => pe_op op_pow h k) o2_pow nx_pow
theorem o1_neg {K : KF} : Op1 K (rU fun i => .int (-i)) .sh .new negD := by
  intro Z H Hs v d Q t s hv p
  cases hv with
  | int i => exact ⟨i, rfl, Wnt.int t p⟩
  | _ => exact False.elim p
theorem q_neg (ha : PE X a (qE c W own .sh m)) : PE X (.UnaryOp .USub a pos) (qE c W own .new (e1 negD m)) := q_un ha (fun _ h => pe_un un_neg h) o1_neg nx_neg
/-! ### comparisons -/
theorem q_cmp {op : CmpOp} {r : R2} {f : Dat → Dat → R Dat} (ha : PE X a (qE c W own k1 m1)) (hb : PE X b (qE c W own k2 m2)) (ho : OpR X (compareOp op) r) (hm : behindInMarks op b = false) (h2 : Op2 c.K r k1 k2 k f) (nx : NoX2 f) : PE X (.Compare a [op] [b] pos) (qE c W own k (e2 f m1 m2)) :=
  q_bin ha hb (fun _ _ h k => pe_cmpR ho h k hm) h2 nx
/-- a comparison: the operator's rule, its meaning -/
structure CmpOk (X : Cx) (K : KF) (op : CmpOp) (f : Dat → Dat → R Dat) : Prop where
  ok : ∃ r, OpR X (compareOp op) r ∧ Op2 K r .sh .sh .new f
  nx : NoX2 f
theorem ck_lt : CmpOk X c.K .Lt ltD := ⟨⟨_, opU_lt, o2_lt⟩, nx_lt⟩
theorem ck_le : CmpOk X c.K .LtE leD := ⟨⟨_, opU_le, o2_le⟩, nx_le⟩
theorem ck_gt : CmpOk X c.K .Gt gtD := ⟨⟨_, opU_gt, o2_gt⟩, nx_gt⟩
theorem ck_ge : CmpOk X c.K .GtE geD := ⟨⟨_, opU_ge, o2_ge⟩, nx_ge⟩
theorem ck_eq (hK : c.K = X.K) (hu : X.A.units + 64 < cLine) : CmpOk X c.K .Eq eqD := ⟨⟨_, op_eqD hu, by rw [hK]; exact o2_eq⟩, nx_eq⟩
theorem ck_ne (hK : c.K = X.K) (hu : X.A.units + 64 < cLine) : CmpOk X c.K .NotEq neD := ⟨⟨_, op_neD hu, by rw [hK]; exact o2_ne⟩, nx_ne⟩
theorem q_cmpO {op : CmpOp} {f : Dat → Dat → R Dat} (ho : CmpOk X c.K op f) (ha : PE X a (qE c W own .sh m1)) (hb : PE X b (qE c W own .sh m2)) (hm : behindInMarks op b = false) : PE X (.Compare a [op] [b] pos) (qE c W own .new (e2 f m1 m2)) := by
  obtain ⟨⟨r, h1, h2⟩, nx⟩ := ho
  exact q_cmp ha hb h1 hm h2 nx
theorem qt_cmpO {op : CmpOp} {f : Dat → Dat → R Dat} (ho : CmpOk X c.K op f) (ha : PE X a (qE c W own .sh m1)) (hb : PE X b (qE c W own .sh m2)) (hm : behindInMarks op b = false) : PT X (.Compare a [op] [b] pos) (qT c W own (tE (e2 f m1 m2))) := by
  obtain ⟨⟨r, h1, h2⟩, nx⟩ := ho
  exact qt_cmp ha hb h1 hm h2 nx
theorem chain_read {σ : St} {H : Hp} {Q : VK} {r r' : R2} {f g : Dat → Dat → R Dat} {m3 : EM} (h2 : Op2 c.K r .sh .sh .new f) (nx : NoX2 f) (h2' : Op2 c.K r' .sh .sh .new g) (nx' : NoX2 g) (h : qE c W own .new (eChain f g m1 m2 m3) σ H Q) :
    tChain r r' (qE c W own .sh m1) (qE c W own .sh m2) (qE c W own .sh m3) σ H Q := by
  obtain ⟨Z, ρ, S, p⟩ := h
  refine ⟨Z, ρ, S, (Post.bnd p).imp (fun d p1 v Z1 H1 x1 hv => ⟨Z1, ρ, S.move x1, (Post.bnd p1).imp (fun d' p2 u Z2 H2 x2 hu => ?_) fun n q => q.move x1⟩) fun _ q => q⟩
  refine h2 Z2 H2 H v u d d' _ x2.trk (x1.same.trans x2.same) (hv.ext x2) (hu.early x1.same) ((Post.nox (nx d d') (Post.bnd p2)).imp (fun z q w Z3 H3 x3 hw => ?_) fun _ q => q)
  have hs := hw.sh
  have x13 := (x1.trans x2).trans x3
  cases hs with
  | bl kk =>
    refine ⟨kk, rfl, ?_⟩
    cases kk with
    | false => exact q (.bl false) Z3 H3 x13 (Rep.kd .new (.bl false) rfl)
    | true =>
      refine ⟨Z3, ρ, S.move x13, (Post.bnd q).imp (fun e q1 w4 Z4 H4 x4 hw4 => ?_) fun _ q => q.move x13⟩
      exact h2' Z4 H4 H u w4 d' e Q x4.trk (x13.same.trans x4.same) (((Val.early (Hs := H) x1.same hu).ext x3).ext x4) hw4 ((Post.nox (nx' d' e) q1).imp (fun z q w5 Z5 H5 x5 hw5 => q w5 Z5 H5 ((x13.trans x4).trans x5) hw5) fun _ q => q)
  | _ => exact False.elim q
theorem q_chain {op op' : CmpOp} {f g : Dat → Dat → R Dat} {e3 : Expr} {m3 : EM} (ho : CmpOk X c.K op f) (ho' : CmpOk X c.K op' g) (ha : PE X a (qE c W own .sh m1)) (hb : PE X b (qE c W own .sh m2)) (hc : PE X e3 (qE c W own .sh m3)) (hm : lastMarks [op, op'] [b, e3] = false := by with_unfolding_all rfl) :
    PE X (.Compare a [op, op'] [b, e3] pos) (qE c W own .new (eChain f g m1 m2 m3)) := by
  obtain ⟨⟨r, h1, h2⟩, nx⟩ := ho
  obtain ⟨⟨r', h1', h2'⟩, nx'⟩ := ho'
  exact (pe_chain h1 h1' ha hb hc hm).imp fun σ H Q h => chain_read h2 nx h2' nx' h
theorem qt_chain {op op' : CmpOp} {f g : Dat → Dat → R Dat} {e3 : Expr} {m3 : EM} (ho : CmpOk X c.K op f) (ho' : CmpOk X c.K op' g) (ha : PE X a (qE c W own .sh m1)) (hb : PE X b (qE c W own .sh m2)) (hc : PE X e3 (qE c W own .sh m3)) (hm : lastMarks [op, op'] [b, e3] = false := by with_unfolding_all rfl) :
    PT X (.Compare a [op, op'] [b, e3] pos) (qT c W own (tE (eChain f g m1 m2 m3))) := by
  obtain ⟨⟨r, h1, h2⟩, nx⟩ := ho
  obtain ⟨⟨r', h1', h2'⟩, nx'⟩ := ho'
  refine (pt_chain h1 h1' ha hb hc hm).imp fun σ H Q ⟨Z, ρ, S, p⟩ => chain_read h2 nx h2' nx' ⟨Z, ρ, S, (Post.bnd p).imp (fun d p1 v Z1 H1 x1 hv => ?_) fun _ q => q⟩
  have hs := hv.sh
  cases hs with
  | bl kk => exact ⟨kk, rfl, p1 Z1 H1 x1⟩
  | _ => exact False.elim p1

/-! ### x[i] -/
theorem kv_rep {K : KF} {Z : ZS} {H : Hp} {v : V} {d : Dat} (h : Sh K Z H v d) (hk : isKey d = true) : ∃ kk, v = kV kk ∧ d = kD kk ∧ okK kk := by
  cases h with
  | int i => exact ⟨.inl i, rfl, rfl, trivial⟩
  | str x hx => exact ⟨.inr x, rfl, rfl, hx⟩
  | _ => cases hk
theorem kD_eq (j l : Key) : eqv (kD j) (kD l) = decide (j = l) := by
  cases j with
  | inl i =>
    cases l with
    | inl i' =>
      show (i == i') = _
      rw [Bool.eq_iff_iff]
      simp
    | inr y => rw [decide_eq_false (fun q => nomatch q)]; rfl
  | inr x =>
    cases l with
    | inl i' => rw [decide_eq_false (fun q => nomatch q)]; rfl
    | inr y =>
      show (x.cps.toList == y.cps.toList) = _
      rw [Bool.eq_iff_iff, beq_iff_eq, decide_eq_true_iff]
      constructor
      · intro q
        have : x.cps = y.cps := Array.toList_inj.mp q
        cases x
        cases y
        simp only at this
        rw [this]
      · intro q
        cases q
        rfl
theorem dic_get {K : KF} {Z : ZS} {H : Hp} {kk : Key} : ∀ {ks : List (Key × V)} {kvs : List (Dat × Dat)}, RepD K Z H ks kvs → (∀ d, dicGet kvs (kD kk) = some d → ∃ v, valV ks kk = some v ∧ Rep K Z H v d) ∧ (dicGet kvs (kD kk) = none → valV ks kk = none)
  | _, _, .nil => ⟨fun d h => (by cases h), fun _ => rfl⟩
  | _, _, @RepD.cons _ _ _ k v r d t ok h rr => by
    have ih := dic_get (kk := kk) rr
    by_cases e : k = kk
    · subst e
      have e1 : dicGet ((kD k, d) :: t) (kD k) = some d := by
        unfold dicGet keyEq
        rw [List.find?_cons_of_pos (by show eqv (kD k) (kD k) = true; rw [kD_eq]; simp)]
        rfl
      have e2 : valV ((k, v) :: r) k = some v := by
        unfold valV
        rw [List.find?_cons_of_pos (by simp)]
        rfl
      exact ⟨fun d' hd => (by rw [e1] at hd; cases hd; exact ⟨v, e2, h⟩), fun hd => (by rw [e1] at hd; cases hd)⟩
    · have e1 : dicGet ((kD k, d) :: t) (kD kk) = dicGet t (kD kk) := by
        unfold dicGet keyEq
        rw [List.find?_cons_of_neg (by show ¬ eqv (kD k) (kD kk) = true; rw [kD_eq]; simpa using e)]
      have e2 : valV ((k, v) :: r) kk = valV r kk := by
        unfold valV
        rw [List.find?_cons_of_neg (by simpa using e)]
      rw [e1, e2]
      exact ih
def rIdxU (K : KF) : R2 := fun x y H Q => rIx K x y H Q ∨ (∃ a v, x = .ref a ∧ DGet H a y (some v) ∧ Q v H)
theorem ix_dict (hu : X.A.units + 1 < cLine) : IxR X (fun x y H Q => ∃ a v, x = .ref a ∧ DGet H a y (some v) ∧ Q v H) := by
  intro value slice pins s σ H x y v u Q I rx ry h hs
  obtain ⟨a, z, rfl, g, q⟩ := h
  cases rx
  exact tail_any (dict_typeIs I g) PySem.F.slot_dict_getitem.lookup (d_getItem hu I g ry fun w' s' I' rw' => ⟨z, H, I', rw', q⟩) hs
theorem ixU (hu : X.A.units + 1 < cLine) : IxR X (rIdxU X.K) := ix_seq.or (ix_dict hu)
theorem atPlace_eq {α : Type} (xs : List α) (i : Int) : atPlace xs i = atI xs i := rfl
theorem RepA.atI {K : KF} {Z : ZS} {H : Hp} {xs : List V} {ds : List Dat} {i : Int} {d : Dat} (r : RepA K Z H xs ds) (h : atPlace ds i = some d) : ∃ v, L2.atI xs i = some v ∧ Rep K Z H v d := by
  unfold atPlace at h
  unfold L2.atI
  have e : ixN xs.length i = placeOf i ds.length := by rw [r.len]; rfl
  rw [e]
  cases q : placeOf i ds.length with
  | none => rw [q] at h; cases h
  | some j =>
    rw [q] at h
    exact r.get h
theorem o2_idx {K : KF} : Op2 K (rIdxU K) .sh .sh .frz idxD := by
  intro Z H Hs v u d e Q t s hv hu p
  cases hv with
  | @lst a xs ds h r =>
    cases e with
    | int i =>
      cases hu
      have p : Post (match atPlace ds i with | some d => R.ok d | none => .bad) (Wnt K Z H Hs .frz Q) (fun _ => False) := p
      cases hz : atPlace ds i with
      | none => rw [hz] at p; exact p.elim
      | some z =>
        rw [hz] at p
        obtain ⟨w, e1, rw'⟩ := r.atI hz
        exact .inl (.inl ⟨_, _, i, w, rfl, rfl, h, e1, Wnt.frz t p rw'⟩)
    | _ => exact False.elim p
  | @tup a xs ds h r =>
    cases e with
    | int i =>
      cases hu
      have p : Post (match atPlace ds i with | some d => R.ok d | none => .bad) (Wnt K Z H Hs .frz Q) (fun _ => False) := p
      cases hz : atPlace ds i with
      | none => rw [hz] at p; exact p.elim
      | some z =>
        rw [hz] at p
        obtain ⟨w, e1, rw'⟩ := r.atI hz
        exact .inl (.inr (.inl ⟨_, _, i, w, rfl, rfl, h.sq, e1, Wnt.frz t p rw'⟩))
    | _ => exact False.elim p
  | str x hx =>
    cases e with
    | int i =>
      cases hu
      have p : Post (match atPlace x.cps.toList i with | some c => R.ok (.str [c]) | none => .bad) (Wnt K Z H Hs .frz Q) (fun _ => False) := p
      cases hz : atPlace x.cps.toList i with
      | none => rw [hz] at p; exact p.elim
      | some ch =>
        rw [hz] at p
        have hm : ch ∈ x.cps.toList := by
          unfold atPlace at hz
          cases q : placeOf i x.cps.toList.length with
          | none => rw [q] at hz; cases hz
          | some j => rw [q] at hz; exact List.mem_of_getElem? hz
        have hl := hx.2
        rw [line_eq] at hl
        exact .inl (.inr (.inr ⟨x, i, ch, rfl, rfl, by simpa [Str.length] using hl, hz, Wnt.frz t p (.ofS rfl (okS_one hx hm))⟩))
    | _ => exact False.elim p
  | @dic a ks kvs h r =>
    have p : Post (if isKey e then (match dicGet kvs e with | some d => R.ok d | none => .bad) else .bad) (Wnt K Z H Hs .frz Q) (fun _ => False) := by
      cases e <;> exact p
    by_cases hk : isKey e = true
    · rw [if_pos hk] at p
      obtain ⟨kk, rfl, rfl, _⟩ := kv_rep hu hk
      cases hz : dicGet kvs (kD kk) with
      | none => rw [hz] at p; exact p.elim
      | some z =>
        rw [hz] at p
        obtain ⟨w, e1, rw'⟩ := (dic_get r).1 z hz
        exact .inr ⟨_, w, rfl, by rw [← e1]; exact DGet.k h, Wnt.frz t p rw'⟩
    · rw [if_neg hk] at p
      exact p.elim
  | _ => exact False.elim p
theorem q_idx (hK : c.K = X.K) (hu : X.A.units + 1 < cLine) (ha : PE X a (qE c W own .sh m1)) (hb : PE X b (qE c W own .sh m2)) (hs : PlainIx b) : PE X (.Subscript a b pos) (qE c W own .frz (e2 idxD m1 m2)) := q_bin ha hb (fun _ _ h k => pe_ix (ixU hu) h k hs) (by rw [hK]; exact o2_idx) nx_idx
end
end PL

set_option maxRecDepth 100000
set_option maxHeartbeats 4000000
namespace PL
open PySem PySem.Spec PyProof.Rows L2
set_option autoImplicit false

section
variable {X : Cx} {c : Ct} {W : WX} {own : List Nat} {a b e : Expr} {es : List Expr} {m m1 m2 : EM} {ms : LM} {pos p p2 : Pos} {k k1 k2 : Kd}
/-! ### x[lo:hi] -/
def qP (c : Ct) (W : WX) (own : List Nat) (m : PM) : TO := fun σ H Q => ∃ Z ρ, SE c own Z H σ ρ ∧ Post (m ρ) (fun o => ∀ Z' H', Ext Z H Z' H' → Q o H') (PX c W Z H σ)
theorem qp_none : PO X none (qP c W own pN) := ⟨fun pins s σ H Q I ⟨Z, ρ, S, p⟩ => po_none.run pins s σ H Q I (p Z H (.refl S.trk))⟩
theorem qp_some (he : PE X e (qE c W own k m)) : PO X (some e) (qP c W own (pS m)) := ⟨fun pins s σ H Q I ⟨Z, ρ, S, p⟩ => (po_some he).run pins s σ H Q I ⟨Z, ρ, S, (Post.bnd p).imp (fun d p1 v Z1 H1 x1 hv => by
  have hs := hv.sh
  cases hs with
  | int i => exact ⟨i, rfl, p1 Z1 H1 x1⟩
  | _ => exact False.elim p1) fun _ q => q⟩⟩
theorem RepA.cutR {K : KF} {Z : ZS} {H : Hp} {xs : List V} {ds : List Dat} {lo hi : Option Int} (r : RepA K Z H xs ds) : RepA K Z H (cutV xs lo hi) (cut ds lo hi) := by
  unfold cutV cut
  rw [r.len]
  exact RepA.take _ (RepA.drop _ r)
theorem cut_whole {ds : List Dat} {lo hi : Option Int} (h1 : HT.sIx ds.length 0 lo = 0) (h2 : HT.sIx ds.length ds.length hi = ds.length) : cut ds lo hi = ds := by
  show (ds.drop (HT.sIx ds.length 0 lo)).take (HT.sIx ds.length ds.length hi - HT.sIx ds.length 0 lo) = ds
  rw [h1, h2]
  simp
theorem cutS_cps (z : Str) (lo hi : Option Int) : (cutS z lo hi).cps.toList = cut z.cps.toList lo hi := by
  unfold cutS cut
  show ((z.cps.toList.drop (HT.sIx z.length 0 lo)).take (HT.sIx z.length z.length hi - HT.sIx z.length 0 lo)).toArray.toList = _
  rw [show z.length = z.cps.toList.length by simp [Str.length]]
  rfl
theorem cut_mem {α : Type} {xs : List α} {lo hi : Option Int} {x : α} (h : x ∈ cut xs lo hi) : x ∈ xs := List.mem_of_mem_drop (List.mem_of_mem_take h)
theorem cut_len {α : Type} {xs : List α} {lo hi : Option Int} : (cut xs lo hi).length ≤ xs.length := by
  unfold cut
  rw [List.length_take, List.length_drop]
  omega
def rSlU (K : KF) : V → Option Int → Option Int → Hp → VK → Prop := fun x lo hi H Q => rSlL K x lo hi H Q ∨ rSlA K x lo hi H Q ∨ rSlS x lo hi H Q
theorem slU : SlR X (rSlU X.K) := sl_list.or (sl_tupA.or sl_str)
theorem sl_read {K : KF} {Z : ZS} {H Hs : Hp} {v : V} {d : Dat} {lo hi : Option Int} {Q : VK} (t : Trk Z H) (s : Same Hs H) (hv : Sh K Z H v d) (p : Post (sliD lo hi d) (Wnt K Z H Hs .new Q) (fun _ => False)) : rSlU K v lo hi H Q := by
  cases hv with
  | lst h r => exact .inl ⟨_, _, rfl, h, fun q hq => Wnt.newL t s p r.cutR hq⟩
  | tup h r =>
    refine .inr (.inl ⟨_, _, rfl, h.sq, fun hw => ?_, fun hw q hq => Wnt.tup t p r.cutR hq⟩)
    have hw2 := hw
    rw [r.len] at hw2
    have p : Wnt K Z H Hs .new Q (.tup (cut _ lo hi)) := p
    rw [cut_whole hw2.1 hw2.2] at p
    exact Wnt.at t p (h.rep r) rfl
  | str x hx =>
    have hl := hx.2
    rw [line_eq] at hl
    exact .inr (.inr ⟨x, rfl, by simpa [Str.length] using hl, Wnt.str t p (cutS_cps x lo hi) (okS_sub hx (fun q hq => cut_mem hq) cut_len)⟩)
  | _ => exact False.elim p
theorem nx_sli {lo hi : Option Int} : NoX1 (sliD lo hi) := fun d x h => by cases d <;> cases h
theorem q_sli {lo hi : Option Expr} {ml mh : PM} (hK : c.K = X.K) (he : PE X e (qE c W own .sh m)) (hl : PO X lo (qP c W own ml)) (hh : PO X hi (qP c W own mh)) : PE X (.Subscript e (.Slice lo hi none p2) pos) (qE c W own .new (eSli ml mh m)) := (pe_slice slU he hl hh).imp fun σ H Q ⟨Z, ρ, S, p⟩ => by
  refine ⟨Z, ρ, S, (Post.bnd p).imp (fun d p1 v Z1 H1 x1 hv => ⟨Z1, ρ, S.move x1, (Post.bnd p1).imp (fun lo p2 Z2 H2 x2 => ⟨Z2, ρ, (S.move x1).move x2, (Post.bnd p2).imp (fun hi p3 Z3 H3 x3 => ?_) fun _ q => (PX.move (x1.trans x2) q)⟩) fun _ q => q.move x1⟩) fun _ q => q⟩
  have x13 := (x1.trans x2).trans x3
  rw [← hK]
  exact sl_read x13.trk x13.same ((hv.sh.ext x2).ext x3) ((Post.nox (nx_sli d) p3).imp (fun z q w Z4 H4 x4 hw => q w Z4 H4 (x13.trans x4) hw) fun _ q => q)
/-- xs[::-1] of a list -/
theorem RepA.reverse {K : KF} {Z : ZS} {H : Hp} : ∀ {xs : List V} {ds : List Dat}, RepA K Z H xs ds → RepA K Z H xs.reverse ds.reverse
  | _, _, .nil => .nil
  | _, _, .cons h r => by
    rw [List.reverse_cons, List.reverse_cons]
    exact (RepA.reverse r).append (.cons h .nil)

/-! ### x[::-1] -/
theorem sliceBy_rev (z : Str) (u : Tok) : (Txt.sliceBy z none none (-1, u)).cps.toList = z.cps.toList.reverse := by
  rw [step_rev_list]
  apply List.ext_getElem
  · simp [Str.length]
  · intro i h1 h2
    have hi : i < z.length := by simpa using h1
    have hi2 : z.length - 1 - i < z.cps.size := by
      have : z.length = z.cps.size := rfl
      omega
    rw [List.getElem_map, List.getElem_range, List.getElem_reverse, Array.getElem_toList]
    rw [Array.getD, dif_pos hi2]
    simp [Str.length]
theorem pe_revS {te : TE} {j : Nat} {q1 q2 q3 : Pos} (he : PE X e te) : PE X (.Subscript e (.Slice none none (some (.UnaryOp .USub (.Constant (.int 1) j q1) q2)) q3) pos)
    (fun σ H Q => te σ H fun x H1 => ∃ z r, x = .str z ∧ z.length ≤ sizeLine ∧ r.cps.toList = z.cps.toList.reverse ∧ Q (.str r) H1) := by
  constructor
  intro pins s σ H Q I h
  apply Subscript_
  apply thn (he.run pins s σ H _ I h)
  rintro v s1 ⟨x, H1, I1, r1, z, r, ex, hz, hr, q⟩
  subst ex
  obtain ⟨tz, ev⟩ := r1
  subst ev
  have one : PO X (some (.UnaryOp .USub (.Constant (.int 1) j q1) q2)) (tPart (tUn (rU fun i => .int (-i)) (tC (.int 1)))) := po_some (pe_un un_neg pe_int)
  apply wpAny_Slice
  apply thn (po_none.run pins s1 σ H1 (fun o G => o = none ∧ G = H1) I1 ⟨rfl, rfl⟩)
  rintro vl s2 ⟨l, H2, I2, pl, el, eH⟩
  subst el eH
  apply thn (po_none.run pins s2 σ H2 (fun o G => o = none ∧ G = H2) I2 ⟨rfl, rfl⟩)
  rintro vu s3 ⟨u, H3, I3, pu, eu, eH⟩
  subst eu eH
  apply thn (one.run pins s3 σ H3 (fun o G => o = some (-1) ∧ G = H3) I3 ⟨1, rfl, -1, rfl, rfl, rfl⟩)
  rintro vs s4 ⟨o, H4, I4, ps, eo, eH⟩
  subst eo eH
  obtain ⟨l0, e1, e2⟩ := IsPart.raw pl
  obtain ⟨u0, e3, e4⟩ := IsPart.raw pu
  obtain ⟨w0, e5, e6⟩ := IsPart.raw ps
  have hl0 : l0 = none := by cases l0 with | none => rfl | some y => cases e2
  have hu0 : u0 = none := by cases u0 with | none => rfl | some y => cases e4
  subst hl0 hu0 e1 e3 e5
  cases w0 with
  | none => cases e6
  | some y =>
    obtain ⟨k0, t0⟩ := y
    cases e6
    show wpAny (model X.prog X.w) X.A (subscriptTail e (.Slice none none (some (.UnaryOp .USub (.Constant (.int 1) j q1) q2)) q3) (.str z tz) (.ref s4.heap.objs.size)) (EP X pins σ Q) X.xe { s4 with heap := s4.heap.push { cls := .type "slice", data := .fields #[.none, .none, .int (-1) t0] } }
    refine tail_any (ops := [.ref s4.heap.objs.size, .str z tz]) (typeIs_str _ _ _) F.slot_str_getitem.lookup ?_ (by with_unfolding_all rfl)
    refine wpAny_getItem_str_slice (l := none) (u := none) (st := some (-1, t0)) ⟨_, Heap.get?_push_size _ rfl, rfl, rfl⟩ rfl ?_
    refine post_val_or_str ⟨Nat.le_trans (Txt.sliceBy_le z _ _ (-1, t0) (show (-1 : Int) ≠ 0 by decide)) hz, fun t' k' => ?_⟩
    refine ⟨.str r, H4, (I4.kept (t' := k') fun b ob g => Heap.get?_push_of_some _ g), ⟨t', ?_⟩, q⟩
    have : Txt.sliceBy z none none (-1, t0) = r := by
      have e9 := (sliceBy_rev z t0).trans hr.symm
      have e10 := Array.toList_inj.mp e9
      cases hq : Txt.sliceBy z none none (-1, t0)
      cases r
      rw [hq] at e10
      simp only at e10
      rw [e10]
    rw [← this]
    rfl
theorem q_rev {j : Nat} {q1 q2 q3 : Pos} (hK : c.K = X.K) (he : PE X e (qE c W own .sh m)) : PE X (.Subscript e (.Slice none none (some (.UnaryOp .USub (.Constant (.int 1) j q1) q2)) q3) pos) (qE c W own .new (e1 revD m)) := by
  refine ⟨fun pins s σ H Q I h => ?_⟩
  obtain ⟨Z, ρ, S, p⟩ := h
  have p := Post.bnd p
  cases q : m ρ with
  | bad => rw [q] at p; exact p.elim
  | exc x =>
    rw [q] at p
    exact (pe_revL he).run pins s σ H Q I ⟨Z, ρ, S, by rw [q]; exact p⟩
  | ok d =>
    rw [q] at p
    cases d with
    | lst ds =>
      refine (pe_revL he).run pins s σ H Q I ⟨Z, ρ, S, ?_⟩
      rw [q]
      intro v Z1 H1 x1 hv
      have hv : Sh c.K Z1 H1 v (.lst ds) := hv
      cases hv with
      | lst h r => exact ⟨_, _, rfl, by rw [← hK]; exact h, fun l hl => Wnt.newL (Hs := H) x1.trk x1.same (fun w Z' H' x hw => p w Z' H' (x1.trans x) hw) r.reverse hl⟩
    | str y =>
      refine (pe_revS he).run pins s σ H Q I ⟨Z, ρ, S, ?_⟩
      rw [q]
      intro v Z1 H1 x1 hv
      have hv : Sh c.K Z1 H1 v (.str y) := hv
      cases hv with
      | str x hx =>
        have hl := hx.2
        rw [line_eq] at hl
        exact ⟨x, ⟨x.cps.toList.reverse.toArray⟩, rfl, by simpa [Str.length] using hl, by simp, Wnt.str (Hs := H) (k := .new) x1.trk (fun w Z' H' x hw => p w Z' H' (x1.trans x) hw) (by simp) (okS_sub hx (fun q hq => by simpa using hq) (by simp))⟩
    | _ => exact p.elim

/-! ### in -/
theorem begins_iff : ∀ (y z : List Nat), begins y z = true ↔ y.length ≤ z.length ∧ z.take y.length = y
  | [], z => by simp [begins]
  | a :: y, [] => by simp [begins]
  | a :: y, b :: z => by
    rw [begins, Bool.and_eq_true, beq_iff_eq, begins_iff y z]
    simp only [List.length_cons, List.take_succ_cons, List.cons.injEq]
    constructor
    · rintro ⟨rfl, h1, h2⟩
      exact ⟨by omega, rfl, h2⟩
    · rintro ⟨h1, rfl, h2⟩
      exact ⟨rfl, by omega, h2⟩
theorem within_iff (y : List Nat) : ∀ (z : List Nat), within y z = true ↔ ∃ i, i + y.length ≤ z.length ∧ (z.drop i).take y.length = y
  | [] => by
    rw [within, begins_iff]
    constructor
    · rintro ⟨h1, h2⟩
      exact ⟨0, by omega, by simpa using h2⟩
    · rintro ⟨i, h1, h2⟩
      exact ⟨by omega, by simpa using h2⟩
  | b :: z => by
    rw [within, Bool.or_eq_true, begins_iff, within_iff y z]
    constructor
    · rintro (⟨h1, h2⟩ | ⟨i, h1, h2⟩)
      · exact ⟨0, by omega, h2⟩
      · exact ⟨i + 1, by simp only [List.length_cons]; omega, by simpa using h2⟩
    · rintro ⟨i, h1, h2⟩
      cases i with
      | zero => exact .inl ⟨by omega, h2⟩
      | succ i => exact .inr ⟨i, by simp only [List.length_cons] at h1; omega, by simpa using h2⟩
theorem sub_iff (x y : Str) (i : Nat) : Builtin.Str.subAt x y i = true ↔ (x.cps.toList.drop i).take y.cps.toList.length = y.cps.toList := by
  rw [StrLaws.subAt_eq, beq_iff_eq]
  simp [Str.length]
theorem within_occ (x y : Str) : (!(Builtin.Str.occurrences x y 0 x.length 1).isEmpty) = within y.cps.toList x.cps.toList := by
  rw [Bool.eq_iff_iff, StrLaws.found_iff, within_iff]
  constructor
  · rintro ⟨i, h1, h2⟩
    exact ⟨i, by simpa [Str.length] using h1, (sub_iff x y i).mp h2⟩
  · rintro ⟨i, h1, h2⟩
    exact ⟨i, by simpa [Str.length] using h1, (sub_iff x y i).mpr h2⟩
/-- x in a list or tuple, at any depth -/
def rInL (K : KF) (neg : Bool) : R2 := fun x y H Q => ∃ d e ds, (e = .list ds ∨ e = .tuple ds) ∧ Dp K H x d ∧ Dp K H y e ∧ d.canLay0 = true ∧ e.canLay0 = true ∧ d.depth ≤ DEEP ∧ Q (.bl (if neg then !(ds.any fun z => PyData.eqv z d) else ds.any fun z => PyData.eqv z d)) H
theorem roomL {A : Around} {d : PyData} {ds : List PyData} (hd : d.depth ≤ DEEP) (hu : A.units + 64 < cLine) : A.units + 1 + min (PyData.depthAll ds) d.depth < cLine := by
  have h2 : min (PyData.depthAll ds) d.depth ≤ d.depth := Nat.min_le_right _ _
  have h3 : DEEP = 40 := rfl
  omega
theorem op_inL (hu : X.A.units + 64 < cLine) : OpR X (compareOp .In) (rInL X.K false) := by
  intro pins s σ H x y v u Q I rx ry h
  obtain ⟨d, e, ds, he, hx, hy, hc, hce, hd, q⟩ := h
  obtain ⟨as, r1⟩ := Dp.reads I d x v hx rx
  obtain ⟨bs, r2⟩ := Dp.reads I e y u hy ry
  rcases he with rfl | rfl
  · exact SeqAt.in_list_reads r2 r1 hce hc (roomL hd hu) ⟨.bl _, H, I, rfl, q⟩
  · exact SeqAt.in_tuple_reads r2 r1 hce hc (roomL hd hu) ⟨.bl _, H, I, rfl, q⟩
theorem op_notInL (hu : X.A.units + 64 < cLine) : OpR X (compareOp .NotIn) (rInL X.K true) := by
  intro pins s σ H x y v u Q I rx ry h
  obtain ⟨d, e, ds, he, hx, hy, hc, hce, hd, q⟩ := h
  obtain ⟨as, r1⟩ := Dp.reads I d x v hx rx
  obtain ⟨bs, r2⟩ := Dp.reads I e y u hy ry
  rcases he with rfl | rfl
  · exact SeqAt.notIn_list_reads r2 r1 hce hc (roomL hd hu) ⟨.bl _, H, I, rfl, q⟩
  · exact SeqAt.notIn_tuple_reads r2 r1 hce hc (roomL hd hu) ⟨.bl _, H, I, rfl, q⟩
def rInU (K : KF) : R2 := fun x y H Q => rInL K false x y H Q ∨ (∃ i j, x = .str i ∧ y = .str j ∧ Q (.bl (!(Builtin.Str.occurrences j i 0 j.length 1).isEmpty)) H) ∨ (∃ a o, y = .ref a ∧ DGet H a x o ∧ Q (.bl o.isSome) H)
def rNotInU (K : KF) : R2 := fun x y H Q => rInL K true x y H Q ∨ (∃ i j, x = .str i ∧ y = .str j ∧ Q (.bl (!(!(Builtin.Str.occurrences j i 0 j.length 1).isEmpty))) H) ∨ (∃ a o, y = .ref a ∧ DGet H a x o ∧ Q (.bl (!o.isSome)) H)
theorem op_inD (hu : X.A.units + 1 < cLine) : OpR X (compareOp .In) (fun x y H Q => ∃ a o, y = .ref a ∧ DGet H a x o ∧ Q (.bl o.isSome) H) := by
  intro pins s σ H x y v u Q I rx ry h
  obtain ⟨a, o, rfl, g, q⟩ := h
  cases ry
  exact d_in hu I g rx fun s' I' => ⟨.bl o.isSome, H, I', rfl, q⟩
theorem op_notInD (hu : X.A.units + 1 < cLine) : OpR X (compareOp .NotIn) (fun x y H Q => ∃ a o, y = .ref a ∧ DGet H a x o ∧ Q (.bl (!o.isSome)) H) := by
  intro pins s σ H x y v u Q I rx ry h
  obtain ⟨a, o, rfl, g, q⟩ := h
  cases ry
  exact d_notIn hu I g rx fun s' I' => ⟨.bl (!o.isSome), H, I', rfl, q⟩
theorem opU_in (hu : X.A.units + 64 < cLine) : OpR X (compareOp .In) (rInU X.K) := (op_inL hu).or (op_in_str.or (op_inD (by omega)))
theorem opU_notIn (hu : X.A.units + 64 < cLine) : OpR X (compareOp .NotIn) (rNotInU X.K) := (op_notInL hu).or (op_notIn_str.or (op_notInD (by omega)))
theorem any_py (d : Dat) (n : Nat) (hd : shp n d = true) : ∀ (ds : List Dat), shpL n ds = true → (toPyL ds).any (fun z => PyData.eqv z (toPy d)) = ds.any fun z => eqv z d
  | [], _ => rfl
  | e :: r, h => by
    simp only [shpL, Bool.and_eq_true] at h
    rw [toPyL, List.any_cons, List.any_cons, eqv_py e d n n h.1 hd, any_py d n hd r h.2]
theorem in_read {K : KF} {Z : ZS} {H : Hp} {v u : V} {d e : Dat} {Q : Bool → Prop} (hv : Sh K Z H v d) (hu : Sh K Z H u e) (p : Post (inD d e) (fun z => ∀ b, z = Dat.bl b → Q b) (fun _ => False)) :
    (∃ d' e' ds, (e' = .list ds ∨ e' = .tuple ds) ∧ Dp K H v d' ∧ Dp K H u e' ∧ d'.canLay0 = true ∧ e'.canLay0 = true ∧ d'.depth ≤ DEEP ∧ Q (ds.any fun z => PyData.eqv z d')) ∨ (∃ i j, v = .str i ∧ u = .str j ∧ Q (!(Builtin.Str.occurrences j i 0 j.length 1).isEmpty)) ∨ (∃ a o, u = .ref a ∧ DGet H a v o ∧ Q o.isSome) := by
  cases hu with
  | @lst a xs ds h r =>
    have p : Post (if (shp DEEP d && shpL DEEP ds) = true then R.ok (.bl (ds.any fun y => eqv y d)) else .bad) (fun z => ∀ b, z = Dat.bl b → Q b) (fun _ => False) := by cases d <;> exact p
    obtain ⟨hs, q⟩ := Post.ite p
    rw [Bool.and_eq_true] at hs
    obtain ⟨h1, h2, h3⟩ := hv.dp hs.1
    obtain ⟨k1, k2, k3⟩ := r.dp hs.2
    refine .inl ⟨_, .list (toPyL ds), toPyL ds, .inl rfl, h1, .lst h k1, h2, by simpa [PyData.canLay0] using k2, h3, ?_⟩
    rw [any_py d DEEP hs.1 ds hs.2]
    exact q _ rfl
  | @tup a xs ds h r =>
    have p : Post (if (shp DEEP d && shpL DEEP ds) = true then R.ok (.bl (ds.any fun y => eqv y d)) else .bad) (fun z => ∀ b, z = Dat.bl b → Q b) (fun _ => False) := by cases d <;> exact p
    obtain ⟨hs, q⟩ := Post.ite p
    rw [Bool.and_eq_true] at hs
    obtain ⟨h1, h2, h3⟩ := hv.dp hs.1
    obtain ⟨k1, k2, k3⟩ := r.dp hs.2
    refine .inl ⟨_, .tuple (toPyL ds), toPyL ds, .inr rfl, h1, .tup h.sq k1, h2, by simpa [PyData.canLay0] using k2, h3, ?_⟩
    rw [any_py d DEEP hs.1 ds hs.2]
    exact q _ rfl
  | str y hy =>
    cases hv with
    | str x hx =>
      refine .inr (.inl ⟨x, y, rfl, rfl, ?_⟩)
      rw [within_occ]
      exact p _ rfl
    | _ => exact False.elim p
  | @dic a ks kvs h r =>
    have p : Post (if isKey d = true then R.ok (.bl (dicGet kvs d).isSome) else .bad) (fun z => ∀ b, z = Dat.bl b → Q b) (fun _ => False) := by cases d <;> exact p
    obtain ⟨hk, q⟩ := Post.ite p
    obtain ⟨kk, rfl, rfl, _⟩ := kv_rep hv hk
    refine .inr (.inr ⟨a, valV ks kk, rfl, DGet.k h, ?_⟩)
    have e : (valV ks kk).isSome = (dicGet kvs (kD kk)).isSome := by
      cases hz : dicGet kvs (kD kk) with
      | none =>
        rw [(dic_get r).2 hz]
        rfl
      | some z =>
        obtain ⟨w, e1, _⟩ := (dic_get r).1 z hz
        rw [e1]
        rfl
    rw [e]
    exact q _ rfl
  | _ => cases d <;> exact False.elim p
theorem in_bl {d e : Dat} {z : Dat} (h : inD d e = .ok z) : ∃ b, z = .bl b := by
  unfold inD at h
  split at h <;> first | (split at h <;> cases h; exact ⟨_, rfl⟩) | (cases h; exact ⟨_, rfl⟩) | cases h
theorem o2_in {K : KF} : Op2 K (rInU K) .sh .sh .new inD := by
  intro Z H Hs v u d e Q t s hv hu p
  have := in_read (Q := fun b => Q (.bl b) H) hv hu (p.imp (fun z q b hz => by subst hz; exact Wnt.bl t q) fun _ q => q)
  rcases this with ⟨d', e', ds, h1, h2, h3, h4, h5, h6, h7⟩ | h | h
  · exact .inl ⟨d', e', ds, h1, h2, h3, h4, h5, h6, h7⟩
  · exact .inr (.inl h)
  · exact .inr (.inr h)
theorem o2_notIn {K : KF} : Op2 K (rNotInU K) .sh .sh .new notInD := by
  intro Z H Hs v u d e Q t s hv hu p
  have := in_read (Q := fun b => Q (.bl (!b)) H) hv hu ((Post.bnd p).imp (fun z q b hz => by subst hz; exact Wnt.bl t q) fun _ q => q)
  rcases this with ⟨d', e', ds, h1, h2, h3, h4, h5, h6, h7⟩ | h | h
  · exact .inl ⟨d', e', ds, h1, h2, h3, h4, h5, h6, h7⟩
  · exact .inr (.inl h)
  · exact .inr (.inr h)
theorem ck_in (hK : c.K = X.K) (hu : X.A.units + 64 < cLine) : CmpOk X c.K .In inD := ⟨⟨_, opU_in hu, by rw [hK]; exact o2_in⟩, nx_in⟩
theorem ck_notIn (hK : c.K = X.K) (hu : X.A.units + 64 < cLine) : CmpOk X c.K .NotIn notInD := ⟨⟨_, opU_notIn hu, by rw [hK]; exact o2_notIn⟩, nx_notIn⟩
end
end PL

set_option maxRecDepth 100000
set_option maxHeartbeats 4000000
namespace PL
open PySem PySem.Spec PyProof.Rows L2
set_option autoImplicit false

section
variable {X : Cx} {c : Ct} {W : WX} {own : List Nat} {a b ee o : Expr} {es : List Expr} {m m1 m2 m3 : EM} {ms : LM} {pos p p2 apos : Pos} {k k1 k2 : Kd} {x : Str} {id T : String}
/-- a built-in's rule for one, two arguments -/
def CallV1 (K : KF) (r : List V → Hp → VK → Prop) (k1 k : Kd) (f : Dat → R Dat) : Prop := ∀ (Z : ZS) (H Hs : Hp) (v : V) (d : Dat) (Q : VK), Trk Z H → Same Hs H → Val K Z H Hs k1 v d → Post (f d) (Wnt K Z H Hs k Q) (fun _ => False) → r [v] H Q
def CallV2 (K : KF) (r : List V → Hp → VK → Prop) (k1 k : Kd) (f : Dat → Dat → R Dat) : Prop := ∀ (Z : ZS) (H Hs : Hp) (v u : V) (d e : Dat) (Q : VK), Trk Z H → Same Hs H → Val K Z H Hs k1 v d → Val K Z H Hs k1 u e → Post (f d e) (Wnt K Z H Hs k Q) (fun _ => False) → r [v, u] H Q
theorem arg1 {r : List V → Hp → VK → Prop} {f : Dat → R Dat} {σ : St} {H : Hp} {Q : VK} (hr : CallV1 c.K r k1 k f) (nx : NoX1 f) (h : qE c W own k (e1 f m) σ H Q) : qA c W own k1 (eCons m eNil) σ H (fun vs H1 => r vs H1 Q) := by
  obtain ⟨Z, ρ, S, p⟩ := h
  have p := Post.bnd p
  refine ⟨Z, ρ, S, ?_⟩
  unfold eCons eNil
  cases q : m ρ with
  | bad => rw [q] at p; exact p.elim
  | exc x => rw [q] at p; exact p
  | ok d =>
    rw [q] at p
    intro vs Z1 H1 x1 hv
    cases hv with
    | cons h1 h2 =>
      cases h2
      exact hr Z1 H1 H _ d Q x1.trk x1.same h1 ((Post.nox (nx d) p).imp (fun z q w Z2 H2 x2 hw => q w Z2 H2 (x1.trans x2) hw) fun _ q => q)
theorem arg2 {r : List V → Hp → VK → Prop} {f : Dat → Dat → R Dat} {σ : St} {H : Hp} {Q : VK} (hr : CallV2 c.K r k1 k f) (nx : NoX2 f) (h : qE c W own k (e2 f m1 m2) σ H Q) : qA c W own k1 (eCons m1 (eCons m2 eNil)) σ H (fun vs H1 => r vs H1 Q) := by
  obtain ⟨Z, ρ, S, p⟩ := h
  have p := Post.bnd p
  refine ⟨Z, ρ, S, ?_⟩
  unfold eCons eNil
  cases q : m1 ρ with
  | bad => rw [q] at p; exact p.elim
  | exc x => rw [q] at p; exact p
  | ok d =>
    rw [q] at p
    have p := Post.bnd p
    rw [PL.R.bnd_ok]
    cases q2 : m2 ρ with
    | bad => rw [q2] at p; exact p.elim
    | exc x => rw [q2] at p; exact p
    | ok d2 =>
      rw [q2] at p
      intro vs Z1 H1 x1 hv
      cases hv with
      | cons h1 h2 =>
        cases h2 with
        | cons h2 h3 =>
          cases h3
          exact hr Z1 H1 H _ _ d d2 Q x1.trk x1.same h1 h2 ((Post.nox (nx d d2) p).imp (fun z q w Z2 H2 x2 hw => q w Z2 H2 (x1.trans x2) hw) fun _ q => q)
theorem q_b1 {r : List V → Hp → VK → Prop} {f : Dat → R Dat} (hc : CallR X (.builtin id) r) (hr : CallV1 c.K r k1 k f) (nx : NoX1 f) (hg : Gl X x) (hm : X.mg x = none) (hv : bootBuiltins x = some (.builtin id)) (ha : PE X a (qE c W own k1 m)) (hn : x ≠ "__name__") (hdb : (x == ("__debug__" : Str)) = false)
    (hs : starEach (a :: []) X.env = (false, eval a X.env) :: starEach [] X.env := by rfl) (hpl : (backTo pos (starEach [] X.env)).any (·.1) = false := by rfl) : PE X (.Call (.Name x p) [a] [] pos) (qE c W own k (e1 f m)) :=
  (pe_callB hc hg hm hv (qa_cons ha qa_nil hs) hn hdb hs hpl).imp fun σ H Q h => arg1 hr nx h
theorem q_t1 {r : List V → Hp → VK → Prop} {f : Dat → R Dat} (hc : CallR X (.type T) r) (hr : CallV1 c.K r k1 k f) (nx : NoX1 f) (hg : Gl X x) (hm : X.mg x = none) (hv : bootBuiltins x = some (.type T)) (ha : PE X a (qE c W own k1 m)) (hn : x ≠ "__name__") (hdb : (x == ("__debug__" : Str)) = false)
    (hs : starEach (a :: []) X.env = (false, eval a X.env) :: starEach [] X.env := by rfl) (hpl : (backTo pos (starEach [] X.env)).any (·.1) = false := by rfl) : PE X (.Call (.Name x p) [a] [] pos) (qE c W own k (e1 f m)) :=
  (pe_callTy hc hg hm hv (qa_cons ha qa_nil hs) hn hdb hs hpl).imp fun σ H Q h => arg1 hr nx h
theorem q_b2 {r : List V → Hp → VK → Prop} {f : Dat → Dat → R Dat} (hc : CallR X (.builtin id) r) (hr : CallV2 c.K r k1 k f) (nx : NoX2 f) (hg : Gl X x) (hm : X.mg x = none) (hv : bootBuiltins x = some (.builtin id)) (ha : PE X a (qE c W own k1 m1)) (hb : PE X b (qE c W own k1 m2)) (hn : x ≠ "__name__") (hdb : (x == ("__debug__" : Str)) = false)
    (hs : starEach (a :: [b]) X.env = (false, eval a X.env) :: starEach [b] X.env := by rfl) (hs2 : starEach (b :: []) X.env = (false, eval b X.env) :: starEach [] X.env := by rfl) (hpl : (backTo pos (starEach [b] X.env)).any (·.1) = false := by rfl) : PE X (.Call (.Name x p) [a, b] [] pos) (qE c W own k (e2 f m1 m2)) :=
  (pe_callB hc hg hm hv (qa_cons ha (qa_cons hb qa_nil hs2) hs) hn hdb hs hpl).imp fun σ H Q h => arg2 hr nx h

/-! ### len, int, all, any, sum .. -/
theorem callR_or {f : Value} {r r' : List V → Hp → VK → Prop} (h : CallR X f r) (h' : CallR X f r') : CallR X f (fun xs H Q => r xs H Q ∨ r' xs H Q) := by
  intro pins s σ H xs us Q I rr q
  rcases q with q | q
  · exact h pins s σ H xs us Q I rr q
  · exact h' pins s σ H xs us Q I rr q
def rLenU (K : KF) : List V → Hp → VK → Prop := fun xs H Q => (∃ x n, xs = [x] ∧ LenV K x H n ∧ Q (.int n) H) ∨ (∃ a kvs, xs = [V.ref a] ∧ H a = some (.dK kvs) ∧ Q (.int kvs.length) H)
theorem cu_len : CallR X (.builtin "len") (rLenU X.K) := callR_or call_len call_lenD
theorem cv_len {K : KF} : CallV1 K (rLenU K) .sh .new lenD := by
  intro Z H Hs v d Q t s hv p
  cases hv with
  | lst h r => exact .inl ⟨_, _, rfl, .inl ⟨_, h, rfl⟩, by rw [r.len]; exact Wnt.int t p⟩
  | tup h r => exact .inl ⟨_, _, rfl, .inr ⟨_, h.sq, rfl⟩, by rw [r.len]; exact Wnt.int t p⟩
  | str x hx =>
    have hl := hx.2
    rw [line_eq] at hl
    refine .inl ⟨_, x.length, rfl, ⟨by simpa [Str.length] using hl, rfl⟩, ?_⟩
    rw [show x.length = x.cps.toList.length by simp [Str.length]]
    exact Wnt.int t p
  | dic h r => exact .inr ⟨_, _, rfl, h, by rw [r.len]; exact Wnt.int t p⟩
  | _ => exact False.elim p
theorem nx_len : NoX1 lenD := fun d x h => by cases d <;> cases h
theorem cv_int {K : KF} : CallV1 K (fun xs H Q => (∃ i, xs = [.int i] ∧ Q (.int i) H) ∨ ∃ k, xs = [.bl k] ∧ Q (.int (if k then 1 else 0)) H) .sh .new intD := by
  intro Z H Hs v d Q t s hv p
  cases hv with
  | int i => exact .inl ⟨i, rfl, Wnt.int t p⟩
  | bl b => exact .inr ⟨b, rfl, Wnt.int t p⟩
  | _ => exact False.elim p
theorem nx_int : NoX1 intD := fun d x h => by cases d <;> cases h
theorem bools_rep {K : KF} {Z : ZS} {H : Hp} : ∀ {ds : List Dat} {bs : List Bool} {xs : List V}, boolsOf ds = some bs → RepA K Z H xs ds → xs = bs.map V.bl
  | [], _, _, h, .nil => by cases h; rfl
  | d :: r, bs, _, h, .cons hd hr => by
    cases d with
    | bl b =>
      unfold boolsOf at h
      obtain ⟨bs', h1, rfl⟩ := Option.map_eq_some_iff.mp h
      cases hd
      rw [bools_rep h1 hr]
      rfl
    | _ => cases h
theorem ints_rep {K : KF} {Z : ZS} {H : Hp} : ∀ {ds : List Dat} {bs : List Int} {xs : List V}, intsOf ds = some bs → RepA K Z H xs ds → xs = bs.map V.int
  | [], _, _, h, .nil => by cases h; rfl
  | d :: r, bs, _, h, .cons hd hr => by
    cases d with
    | int b =>
      unfold intsOf at h
      obtain ⟨bs', h1, rfl⟩ := Option.map_eq_some_iff.mp h
      cases hd
      rw [ints_rep h1 hr]
      rfl
    | _ => cases h
theorem cv_all {K : KF} : CallV1 K (rAll K) .sh .new allD := by
  intro Z H Hs v d Q t s hv p
  cases hv with
  | @lst a xs ds h r =>
    have p : Post (match boolsOf ds with | some bs => R.ok (.bl (bs.all _root_.id)) | none => .bad) (Wnt K Z H Hs .new Q) (fun _ => False) := p
    cases q : boolsOf ds with
    | none => rw [q] at p; exact p.elim
    | some bs =>
      rw [q] at p
      exact ⟨a, bs, rfl, by rw [← bools_rep q r]; exact h, Wnt.bl t p⟩
  | _ => exact False.elim p
theorem nx_all : NoX1 allD := fun d x h => by cases d <;> simp only [allD] at h <;> first | cases h | (split at h <;> cases h)
theorem cv_any {K : KF} : CallV1 K (rAny K) .sh .new anyD := by
  intro Z H Hs v d Q t s hv p
  cases hv with
  | @lst a xs ds h r =>
    have p : Post (match boolsOf ds with | some bs => R.ok (.bl (bs.any _root_.id)) | none => .bad) (Wnt K Z H Hs .new Q) (fun _ => False) := p
    cases q : boolsOf ds with
    | none => rw [q] at p; exact p.elim
    | some bs =>
      rw [q] at p
      exact ⟨a, bs, rfl, by rw [← bools_rep q r]; exact h, Wnt.bl t p⟩
  | _ => exact False.elim p
theorem nx_any : NoX1 anyD := fun d x h => by cases d <;> simp only [anyD] at h <;> first | cases h | (split at h <;> cases h)
theorem cv_sum {K : KF} : CallV1 K (rSum K) .sh .new sumD := by
  intro Z H Hs v d Q t s hv p
  cases hv with
  | @lst a xs ds h r =>
    have p : Post (match intsOf ds with | some bs => R.ok (.int bs.sum) | none => .bad) (Wnt K Z H Hs .new Q) (fun _ => False) := p
    cases q : intsOf ds with
    | none => rw [q] at p; exact p.elim
    | some bs =>
      rw [q] at p
      exact ⟨a, bs, rfl, by rw [← ints_rep q r]; exact h, Wnt.int t p⟩
  | _ => exact False.elim p
theorem nx_sum : NoX1 sumD := fun d x h => by cases d <;> simp only [sumD] at h <;> first | cases h | (split at h <;> cases h)
theorem minI_spec : ∀ (r : List Int) (x : Int), minI x r ∈ x :: r ∧ ∀ y ∈ x :: r, minI x r ≤ y
  | [], x => ⟨List.mem_cons_self, fun y hy => by rw [show y = x by simpa using hy]; exact Int.le_refl _⟩
  | z :: r, x => by
    unfold minI
    by_cases hz : z < x
    · rw [if_pos hz]
      obtain ⟨h1, h2⟩ := minI_spec r z
      refine ⟨List.mem_cons_of_mem _ h1, fun y hy => ?_⟩
      have h3 := h2 z List.mem_cons_self
      rcases List.mem_cons.mp hy with rfl | hy
      · omega
      · exact h2 y hy
    · rw [if_neg hz]
      obtain ⟨h1, h2⟩ := minI_spec r x
      have h3 := h2 x List.mem_cons_self
      refine ⟨?_, fun y hy => ?_⟩
      · rcases List.mem_cons.mp h1 with h | h
        · rw [h]
          exact List.mem_cons_self
        · exact List.mem_cons_of_mem _ (List.mem_cons_of_mem _ h)
      · rcases List.mem_cons.mp hy with rfl | hy
        · exact h3
        · rcases List.mem_cons.mp hy with rfl | hy
          · omega
          · exact h2 y (List.mem_cons_of_mem _ hy)
theorem maxI_spec : ∀ (r : List Int) (x : Int), maxI x r ∈ x :: r ∧ ∀ y ∈ x :: r, y ≤ maxI x r
  | [], x => ⟨List.mem_cons_self, fun y hy => by rw [show y = x by simpa using hy]; exact Int.le_refl _⟩
  | z :: r, x => by
    unfold maxI
    by_cases hz : z > x
    · rw [if_pos hz]
      obtain ⟨h1, h2⟩ := maxI_spec r z
      refine ⟨List.mem_cons_of_mem _ h1, fun y hy => ?_⟩
      have h3 := h2 z List.mem_cons_self
      rcases List.mem_cons.mp hy with rfl | hy
      · omega
      · exact h2 y hy
    · rw [if_neg hz]
      obtain ⟨h1, h2⟩ := maxI_spec r x
      have h3 := h2 x List.mem_cons_self
      refine ⟨?_, fun y hy => ?_⟩
      · rcases List.mem_cons.mp h1 with h | h
        · rw [h]
          exact List.mem_cons_self
        · exact List.mem_cons_of_mem _ (List.mem_cons_of_mem _ h)
      · rcases List.mem_cons.mp hy with rfl | hy
        · exact h3
        · rcases List.mem_cons.mp hy with rfl | hy
          · omega
          · exact h2 y (List.mem_cons_of_mem _ hy)
theorem cv_min {K : KF} : CallV1 K (rMin K) .sh .new minD := by
  intro Z H Hs v d Q t s hv p
  cases hv with
  | @lst a xs ds h r =>
    have p : Post (match intsOf ds with | some (i :: r) => R.ok (.int (minI i r)) | _ => .bad) (Wnt K Z H Hs .new Q) (fun _ => False) := p
    match q : intsOf ds with
    | none => rw [q] at p; exact p.elim
    | some [] => rw [q] at p; exact p.elim
    | some (i :: bs) =>
      rw [q] at p
      obtain ⟨h1, h2⟩ := minI_spec bs i
      refine ⟨a, i :: bs, rfl, by rw [← ints_rep q r]; exact h, by simp, fun mm m1 m2 => ?_⟩
      have e : mm = minI i bs := Int.le_antisymm (m2 _ h1) (h2 _ m1)
      rw [e]
      exact Wnt.int t p
  | _ => exact False.elim p
theorem nx_min : NoX1 minD := fun d x h => by cases d <;> simp only [minD] at h <;> first | cases h | (split at h <;> cases h)
theorem cv_max {K : KF} : CallV1 K (rMax K) .sh .new maxD := by
  intro Z H Hs v d Q t s hv p
  cases hv with
  | @lst a xs ds h r =>
    have p : Post (match intsOf ds with | some (i :: r) => R.ok (.int (maxI i r)) | _ => .bad) (Wnt K Z H Hs .new Q) (fun _ => False) := p
    match q : intsOf ds with
    | none => rw [q] at p; exact p.elim
    | some [] => rw [q] at p; exact p.elim
    | some (i :: bs) =>
      rw [q] at p
      obtain ⟨h1, h2⟩ := maxI_spec bs i
      refine ⟨a, i :: bs, rfl, by rw [← ints_rep q r]; exact h, by simp, fun mm m1 m2 => ?_⟩
      have e : mm = maxI i bs := Int.le_antisymm (h2 _ m1) (m2 _ h1)
      rw [e]
      exact Wnt.int t p
  | _ => exact False.elim p
theorem nx_max : NoX1 maxD := fun d x h => by cases d <;> simp only [maxD] at h <;> first | cases h | (split at h <;> cases h)
theorem cv_min2 {K : KF} : CallV2 K (fun xs H Q => ∃ i j, xs = [.int i, .int j] ∧ Q (.int (if j < i then j else i)) H) .sh .new min2 := by
  intro Z H Hs v u d e Q t s hv hu p
  cases hv with
  | int i =>
    cases hu with
    | int j => exact ⟨i, j, rfl, Wnt.int t p⟩
    | _ => exact False.elim p
  | _ => exact False.elim p
theorem nx_min2 : NoX2 min2 := fun d e x h => by cases d <;> cases e <;> cases h
theorem cv_max2 {K : KF} : CallV2 K (fun xs H Q => ∃ i j, xs = [.int i, .int j] ∧ Q (.int (if j > i then j else i)) H) .sh .new max2 := by
  intro Z H Hs v u d e Q t s hv hu p
  cases hv with
  | int i =>
    cases hu with
    | int j => exact ⟨i, j, rfl, Wnt.int t p⟩
    | _ => exact False.elim p
  | _ => exact False.elim p
theorem nx_max2 : NoX2 max2 := fun d e x h => by cases d <;> cases e <;> cases h
theorem cv_ord {K : KF} : CallV1 K (fun xs H Q => ∃ x : Str, xs = [.str x] ∧ x.length = 1 ∧ Q (.int (x.cps.getD 0 0 : Nat)) H) .sh .new ordD := by
  intro Z H Hs v d Q t s hv p
  cases hv with
  | str x hx =>
    match q : x.cps.toList with
    | [] => rw [q] at p; exact False.elim p
    | [ch] =>
      rw [q] at p
      have hl : x.cps.size = 1 := by rw [← Array.length_toList, q]; rfl
      refine ⟨x, rfl, hl, ?_⟩
      have e : x.cps.getD 0 0 = ch := by
        rw [Array.getD, dif_pos (by omega)]
        have : x.cps[0]? = some ch := by rw [← Array.getElem?_toList, q]; rfl
        simpa [Array.getElem?_eq_getElem (show 0 < x.cps.size by omega)] using this
      rw [e]
      exact Wnt.int t p
    | _ :: _ :: _ => rw [q] at p; exact False.elim p
  | _ => exact False.elim p
theorem nx_ord : NoX1 ordD := fun d x h => by unfold ordD at h; split at h <;> cases h

/-! ### list(x), tuple(x) -/
theorem cv_listL {K : KF} : CallV1 K (fun xs H Q => ∃ p ys, xs = [.ref p] ∧ (SqL K H p ys ∨ SqT K H p ys) ∧ ∀ l, H l = none → Q (.ref l) (upd H l (.lst ys))) .sh .new listLD := by
  intro Z H Hs v d Q t s hv p
  cases hv with
  | lst h r => exact ⟨_, _, rfl, .inl h, fun l hl => Wnt.newL t s p r hl⟩
  | tup h r => exact ⟨_, _, rfl, .inr h.sq, fun l hl => Wnt.newL t s p r hl⟩
  | _ => exact False.elim p
theorem cv_tuple {K : KF} : CallV1 K (fun xs H Q => ∃ p ys, xs = [.ref p] ∧ ((SqL K H p ys ∧ ∀ l, H l = none → Q (.ref l) (upd H l (.tup ys))) ∨ (SqT K H p ys ∧ Q (.ref p) H))) .sh .new tupleLD := by
  intro Z H Hs v d Q t s hv p
  cases hv with
  | lst h r => exact ⟨_, _, rfl, .inl ⟨h, fun l hl => Wnt.tup t p r hl⟩⟩
  | tup h r => exact ⟨_, _, rfl, .inr ⟨h.sq, Wnt.at t p (h.rep r) rfl⟩⟩
  | _ => exact False.elim p
theorem nx_listL : NoX1 listLD := fun d x h => by cases d <;> cases h
theorem nx_tuple : NoX1 tupleLD := fun d x h => by cases d <;> cases h

/-! ### isinstance -/
def tyS : Ty → String
  | .int => "int" | .str => "str" | .bool => "bool" | .list => "list" | .tuple => "tuple" | .dict => "dict"
theorem kit_tab : ∀ T : Ty, kitB "NoneType" (tyS T) = some false ∧ kitB "bool" (tyS T) = some (T == .int || T == .bool) ∧ kitB "int" (tyS T) = some (T == .int) ∧ kitB "str" (tyS T) = some (T == .str) ∧ kitB "list" (tyS T) = some (T == .list) ∧ kitB "tuple" (tyS T) = some (T == .tuple) ∧ kitB "dict" (tyS T) = some (T == .dict)
  | .int => by decide +kernel
  | .str => by decide +kernel
  | .bool => by decide +kernel
  | .list => by decide +kernel
  | .tuple => by decide +kernel
  | .dict => by decide +kernel
theorem isi_read {K : KF} {Z : ZS} {H : Hp} {v : V} {d : Dat} {Q : VK} {T : Ty} (hv : Sh K Z H v d) (p : ∀ b, isTy T d = .ok (.bl b) → Q (.bl b) H) : rIsi K [v, .ty (tyS T)] H Q := by
  obtain ⟨h1, h2, h3, h4, h5, h6, h7⟩ := kit_tab T
  cases hv with
  | non => exact ⟨_, _, _, _, _, rfl, .ty _, .base .non, kit_ty h1, p _ (by cases T <;> rfl)⟩
  | bl b => exact ⟨_, _, _, _, _, rfl, .ty _, .base (.bl b), kit_ty h2, p _ (by cases T <;> rfl)⟩
  | int i => exact ⟨_, _, _, _, _, rfl, .ty _, .base (.int i), kit_ty h3, p _ (by cases T <;> rfl)⟩
  | str x hx => exact ⟨_, _, _, _, _, rfl, .ty _, .base (.str x), kit_ty h4, p _ (by cases T <;> rfl)⟩
  | @lst a xs ds h r =>
    have ty : TyX K H (.ref a) (.type "list") := by
      rcases h with (h | ⟨o, h⟩) | ⟨o, its, n, h, hc, _⟩
      · exact .base (.lst h)
      · exact .base (.frz h)
      · exact .kList h hc
    exact ⟨_, _, _, _, _, rfl, .ty _, ty, kit_ty h5, p _ (by cases T <;> rfl)⟩
  | @tup a xs ds h r =>
    have ty : TyX K H (.ref a) (.type "tuple") := by
      rcases h with ⟨_, h | ⟨o, h⟩⟩ | ⟨o, its, n, h, hc, _⟩
      · exact .base (.tup h)
      · exact .fTuple h
      · exact .kTuple h hc
    exact ⟨_, _, _, _, _, rfl, .ty _, ty, kit_ty h6, p _ (by cases T <;> rfl)⟩
  | dic h r => exact ⟨_, _, _, _, _, rfl, .ty _, .base (.dK h), kit_ty h7, p _ (by cases T <;> rfl)⟩
theorem q_isi {y : Str} {T : Ty} {py : Pos} (hK : c.K = X.K) (hg : Gl X "isinstance") (hm : X.mg "isinstance" = none) (hgT : Gl X y) (hmT : X.mg y = none) (hvT : bootBuiltins y = some (.type (tyS T))) (hnT : y ≠ "__name__") (hdT : (y == ("__debug__" : Str)) = false) (ha : PE X a (qE c W own .sh m))
    (hs : starEach (a :: [.Name y py]) X.env = (false, eval a X.env) :: starEach [.Name y py] X.env := by rfl) (hs2 : starEach (.Name y py :: []) X.env = (false, eval (.Name y py) X.env) :: starEach [] X.env := by rfl) (hpl : (backTo pos (starEach [.Name y py] X.env)).any (·.1) = false := by rfl) :
    PE X (.Call (.Name "isinstance" p) [a, .Name y py] [] pos) (qE c W own .new (e1 (isTy T) m)) := by
  have hT : PE X (.Name y py) (tC (.ty (tyS T))) := pe_bltn hgT hmT hvT rfl hnT hdT
  refine (pe_callB call_isi hg hm boot_isinstance (pa_cons ha (pa_cons hT pa_nil hs2) hs) (by decide) (by decide) hs hpl).imp fun σ H Q ⟨Z, ρ, S, p⟩ => ⟨Z, ρ, S, (Post.bnd p).imp (fun d p1 v Z1 H1 x1 hv => ?_) fun _ q => q⟩
  show rIsi X.K [v, .ty (tyS T)] H1 Q
  rw [← hK]
  refine isi_read hv fun b hb => ?_
  rw [hb] at p1
  exact p1 (.bl b) Z1 H1 x1 (Rep.kd .new (.bl b) rfl)
end
end PL

set_option maxRecDepth 100000
set_option maxHeartbeats 4000000
namespace PL
open PySem PySem.Spec PyProof.Rows L2
set_option autoImplicit false

section
variable {X : Cx} {c : Ct} {W : WX} {own own' ownL : List Nat} {a b ee o : Expr} {es : List Expr} {m m1 m2 m3 : EM} {ms : LM} {pos p p2 apos : Pos} {k k1 k2 : Kd} {x : Str} {id T : String}
/-! ### sep.join(xs) -/
theorem strs_rep {K : KF} {Z : ZS} {H : Hp} : ∀ {ds : List Dat} {ss : List (List Nat)} {xs : List V}, strsOf ds = some ss → RepA K Z H xs ds → ∃ ys : List Str, xs = ys.map V.str ∧ ss = ys.map (fun y => y.cps.toList) ∧ ∀ y ∈ ys, okS y.cps.toList
  | [], _, _, h, .nil => by cases h; exact ⟨[], rfl, rfl, fun y hy => (by cases hy)⟩
  | d :: r, ss, _, h, .cons hd hr => by
    cases d with
    | str b =>
      unfold strsOf at h
      obtain ⟨ss', h1, rfl⟩ := Option.map_eq_some_iff.mp h
      cases hd with
      | str y hy =>
        obtain ⟨ys, rfl, rfl, h3⟩ := strs_rep h1 hr
        refine ⟨y :: ys, rfl, rfl, fun z hz => ?_⟩
        rcases List.mem_cons.mp hz with rfl | hz
        · exact hy
        · exact h3 z hz
    | _ => cases h
theorem join_cps (sep : Str) : ∀ ys : List Str, (Str.join sep ys).cps.toList = joinS sep.cps.toList (ys.map fun y => y.cps.toList)
  | [] => rfl
  | [y] => rfl
  | y :: z :: r => by
    show (y ++ sep ++ Str.join sep (z :: r)).cps.toList = _
    rw [cpsApp, cpsApp, join_cps sep (z :: r)]
    rfl
theorem joinS_ok {sep : List Nat} (hs : okS sep) : ∀ {ss : List (List Nat)}, (∀ s ∈ ss, okS s) → (∀ c ∈ joinS sep ss, c < 1114112) ∧ (joinS sep ss).length ≤ (ss.map (·.length)).sum + ss.length * sep.length
  | [], _ => ⟨fun c hc => (by cases hc), by simp [joinS]⟩
  | [s], h => ⟨fun c hc => (h s List.mem_cons_self).1 c hc, by simp [joinS]⟩
  | s :: z :: r, h => by
    obtain ⟨h1, h2⟩ := joinS_ok hs (ss := z :: r) fun y hy => h y (List.mem_cons_of_mem _ hy)
    refine ⟨fun c hc => ?_, ?_⟩
    · rcases List.mem_append.mp (show c ∈ s ++ sep ++ joinS sep (z :: r) from hc) with q | q
      · rcases List.mem_append.mp q with q | q
        · exact (h s List.mem_cons_self).1 c q
        · exact hs.1 c q
      · exact h1 c q
    · show (s ++ sep ++ joinS sep (z :: r)).length ≤ _
      rw [List.length_append, List.length_append]
      simp only [List.map_cons, List.sum_cons, List.length_cons] at h2 ⊢
      rw [Nat.add_mul, Nat.one_mul]
      omega
theorem mt_read1 {r : V → List V → Hp → VK → Prop} {f : Dat → Dat → R Dat} {σ : St} {H : Hp} {Q : VK} (hr : ∀ (Z : ZS) (H Hs : Hp) (z : Str) (u : V) (e : Dat) (Q : VK), Trk Z H → Same Hs H → okS z.cps.toList → Sh c.K Z H u e → Post (f (.str z.cps.toList) e) (Wnt c.K Z H Hs .new Q) (fun _ => False) → r (.str z) [u] H Q)
    (nx : NoX2 f) (h : qE c W own .new (eM1 f m1 m2) σ H Q) : tM1 r (qE c W own .sh m1) (qE c W own .sh m2) σ H Q := by
  obtain ⟨Z, ρ, S, p⟩ := h
  refine ⟨Z, ρ, S, (Post.bnd p).imp (fun d p v Z1 H1 x1 hv => ?_) fun _ q => q⟩
  have hv : Sh c.K Z1 H1 v d := hv
  cases hv with
  | str z hz =>
    have p : Post ((m2 ρ).bnd fun y => f (.str z.cps.toList) y) _ _ := p
    exact ⟨⟨z, rfl⟩, Z1, ρ, S.move x1, (Post.bnd p).imp (fun e' p2 u Z2 H2 x2 hu => hr Z2 H2 H z u e' Q x2.trk (x1.same.trans x2.same) hz hu ((Post.nox (nx _ e') p2).imp (fun z q w Z3 H3 x3 hw => q w Z3 H3 ((x1.trans x2).trans x3) hw) fun _ q => q)) fun n q => q.move x1⟩
  | _ => exact False.elim p
theorem nx_join : NoX2 joinD := fun d e x h => by
  unfold joinD at h
  split at h <;> first | cases h | (split at h <;> first | cases h | (split at h <;> cases h))
theorem join_read {K : KF} {Z : ZS} {H Hs : Hp} {z : Str} {u : V} {e : Dat} {Q : VK} (t : Trk Z H) (hz : okS z.cps.toList) (hu : Sh K Z H u e) (p : Post (joinD (.str z.cps.toList) e) (Wnt K Z H Hs .new Q) (fun _ => False)) :
    ∃ a p, ∃ ys : List Str, V.str z = .str a ∧ [u] = [.ref p] ∧ (SqL K H p (ys.map V.str) ∨ SqT K H p (ys.map V.str)) ∧ (ys.map (·.length)).sum + ys.length * a.length ≤ 16777216 ∧ Q (.str (Txt.join a ys)) H := by
  have key : ∀ (q : Addr) (xs : List V) (ds : List Dat), RepA K Z H xs ds → (SqL K H q xs ∨ SqT K H q xs) → Post (match strsOf ds with | some ss => if (ss.map (·.length)).sum + ss.length * z.cps.toList.length ≤ LINE then R.ok (.str (joinS z.cps.toList ss)) else .bad | none => .bad) (Wnt K Z H Hs .new Q) (fun _ => False) →
      ∃ a p, ∃ ys : List Str, V.str z = .str a ∧ [V.ref q] = [.ref p] ∧ (SqL K H p (ys.map V.str) ∨ SqT K H p (ys.map V.str)) ∧ (ys.map (·.length)).sum + ys.length * a.length ≤ 16777216 ∧ Q (.str (Txt.join a ys)) H := fun q xs ds r hq p => by
    cases hs : strsOf ds with
    | none => rw [hs] at p; exact p.elim
    | some ss =>
      rw [hs] at p
      obtain ⟨hl, p⟩ := Post.ite p
      obtain ⟨ys, rfl, rfl, hy⟩ := strs_rep hs r
      have e1 : (ys.map fun y => y.cps.toList).map (·.length) = ys.map (·.length) := by
        rw [List.map_map]
        apply List.map_congr_left
        intro y _
        simp [Str.length]
      have e2 : z.cps.toList.length = z.length := by simp [Str.length]
      obtain ⟨j1, j2⟩ := joinS_ok hz (ss := ys.map fun y => y.cps.toList) (fun s hs => by
        obtain ⟨y, h1, rfl⟩ := List.mem_map.mp hs
        exact hy y h1)
      refine ⟨z, q, ys, rfl, rfl, hq, ?_, ?_⟩
      · rw [e1, List.length_map, e2] at hl
        exact hl
      · have e3 : Txt.join z ys = Str.join z ys := StrLaws.glued_eq_join z ys
        rw [e3]
        exact Wnt.str t p (join_cps z ys) ⟨j1, Nat.le_trans j2 hl⟩
  cases hu with
  | lst h r => exact key _ _ _ r (.inl h) p
  | tup h r => exact key _ _ _ r (.inr h.sq) p
  | _ => exact False.elim p
theorem q_join (hK : c.K = X.K) (ho : PE X o (qE c W own .sh m1)) (he : PE X ee (qE c W own .sh m2)) (hs : starEach [ee] X.env = [(false, eval ee X.env)] := by rfl) (hbase : attributeBase o "join" X.env (eval o X.env) = eval o X.env := by rfl) (hline : (apos.endLine == pos.line) = true := by rfl) :
    PE X (.Call (.Attribute o "join" apos) [ee] [] pos) (qE c W own .new (eM1 joinD m1 m2)) :=
  (pe_m1 (PySem.F.slot_str_join) PySem.F.type_str_join mt_join ho he hs hbase hline).imp fun σ H Q h => mt_read1 (fun Z H Hs z u e Q t s hz hu p => by rw [← hK]; exact join_read t hz hu p) nx_join h
/-! ### x.startswith(y) -/
theorem starts_eq (x y : Str) : Txt.startswith x y = begins y.cps.toList x.cps.toList := by
  unfold Txt.startswith
  rw [Bool.eq_iff_iff, Bool.and_eq_true, decide_eq_true_iff, sub_iff, begins_iff]
  simp only [Str.length, List.drop_zero, Array.length_toList, Nat.zero_add]
theorem nx_starts : NoX2 startsD := fun d e x h => by cases d <;> cases e <;> cases h
theorem q_starts (ho : PE X o (qE c W own .sh m1)) (he : PE X ee (qE c W own .sh m2)) (hs : starEach [ee] X.env = [(false, eval ee X.env)] := by rfl) (hbase : attributeBase o "startswith" X.env (eval o X.env) = eval o X.env := by rfl) (hline : (apos.endLine == pos.line) = true := by rfl) :
    PE X (.Call (.Attribute o "startswith" apos) [ee] [] pos) (qE c W own .new (eM1 startsD m1 m2)) :=
  (pe_m1 (PySem.F.slot_str_startswith) PySem.F.type_str_startswith mt_startswith ho he hs hbase hline).imp fun σ H Q h => mt_read1 (fun Z H Hs z u e Q t s hz hu p => by
    cases hu with
    | str y hy => exact ⟨z, y, rfl, rfl, by rw [starts_eq]; exact Wnt.bl t p⟩
    | _ => exact False.elim p) nx_starts h
/-! ### x.index(sign) -/
theorem occ_kept (s sub : Str) (hi : Nat) : ∀ (l : List Nat) (k free : Nat), (forIn l ((#[k] : Array Nat), free) (StrLaws.occBody s sub hi 1)).run.fst = #[k]
  | [], k, free => rfl
  | a :: l, k, free => by
    rw [List.forIn_cons]
    unfold StrLaws.occBody
    rw [if_neg (by simp)]
    exact occ_kept s sub hi l k free
theorem occ_first (s sub : Str) (hi : Nat) : ∀ (n lo free : Nat), free ≤ lo → ∀ k, lo ≤ k → k < lo + n → (k + sub.length ≤ hi ∧ Builtin.Str.subAt s sub k = true) → (∀ j, lo ≤ j → j < k → ¬ (j + sub.length ≤ hi ∧ Builtin.Str.subAt s sub j = true)) →
    (forIn (List.range' lo n) ((#[] : Array Nat), free) (StrLaws.occBody s sub hi 1)).run.fst = #[k]
  | 0, lo, free, hf, k, h1, h2, _, _ => by omega
  | n + 1, lo, free, hf, k, h1, h2, hk, hn => by
    rw [List.range'_succ, List.forIn_cons]
    unfold StrLaws.occBody
    by_cases e : lo = k
    · subst e
      rw [if_pos ⟨⟨⟨by simp, hf⟩, hk.1⟩, hk.2⟩]
      exact occ_kept s sub hi _ lo _
    · rw [if_neg (fun z => hn lo (Nat.le_refl _) (by omega) ⟨z.1.2, z.2⟩)]
      exact occ_first s sub hi n (lo + 1) free (by omega) k (by omega) (by omega) hk fun j j1 j2 => hn j (by omega) j2
theorem index_occ {s : Str} {ch k : Nat} (h : s.cps.toList.findIdx? (· == ch) = some k) : Builtin.Str.occurrences s ⟨#[ch]⟩ 0 s.length 1 = [k] := by
  obtain ⟨hk, h1, h2⟩ := List.findIdx?_eq_some_iff_getElem.mp h
  rw [StrLaws.occ_eq]
  have hsz : s.cps.toList.length = s.length := by simp [Str.length]
  rw [occ_first s ⟨#[ch]⟩ s.length _ 0 0 (Nat.le_refl _) k (Nat.zero_le _) (by omega) ((StrLaws.subAt_one s ch k).mpr ?_) fun j _ hj z => ?_]
  · rw [List.getElem?_eq_getElem hk]
    congr 1
    simpa using h1
  · have := (StrLaws.subAt_one s ch j).mp z
    have h3 := h2 j hj
    rw [List.getElem?_eq_getElem (by omega)] at this
    exact h3 (by simpa using Option.some.inj this)
theorem nx_index : NoX2 indexD := fun d e x h => by
  unfold indexD at h
  split at h <;> first | cases h | (split at h <;> cases h)
theorem q_index (ho : PE X o (qE c W own .sh m1)) (he : PE X ee (qE c W own .sh m2)) (hs : starEach [ee] X.env = [(false, eval ee X.env)] := by rfl) (hbase : attributeBase o "index" X.env (eval o X.env) = eval o X.env := by rfl) (hline : (apos.endLine == pos.line) = true := by rfl) :
    PE X (.Call (.Attribute o "index" apos) [ee] [] pos) (qE c W own .new (eM1 indexD m1 m2)) :=
  (pe_m1 (PySem.F.slot_str_index) PySem.F.type_str_index mt_sindex ho he hs hbase hline).imp fun σ H Q h => mt_read1 (fun Z H Hs z u e Q t s hz hu p => by
    cases hu with
    | str y hy =>
      match q : y.cps.toList with
      | [] => rw [q] at p; exact False.elim p
      | [ch] =>
        rw [q] at p
        have ey : y = ⟨#[ch]⟩ := by
          cases y with
          | mk cps => rw [show cps = #[ch] from Array.toList_inj.mp q]
        have p : Post (match z.cps.toList.findIdx? (· == ch) with | some k => R.ok (Dat.int k) | none => .bad) (Wnt c.K Z H Hs .new Q) (fun _ => False) := p
        cases hf : z.cps.toList.findIdx? (· == ch) with
        | none => rw [hf] at p; exact p.elim
        | some kk =>
          rw [hf] at p
          exact ⟨z, y, kk, [], rfl, rfl, by rw [ey]; exact index_occ hf, Wnt.int t p⟩
      | _ :: _ :: _ => rw [q] at p; exact False.elim p
    | _ => exact False.elim p) nx_index h
end
end PL

set_option maxRecDepth 100000
set_option maxHeartbeats 4000000
namespace PL
open PySem PySem.Spec PyProof.Rows L2
set_option autoImplicit false

section
variable {X : Cx} {c : Ct} {W : WX} {own own' ownL : List Nat} {a b ee o : Expr} {es : List Expr} {m m1 m2 m3 : EM} {ms : LM} {pos p p2 apos tpos : Pos} {k k1 k2 : Kd} {x : Str} {i : Nat}
/-! ### x op= e -/
theorem iopU_add : PIp X .Add (fun x y H Q => (∃ i j, x = .int i ∧ y = .int j ∧ Q (.int (i + j)) H) ∨ (∃ i j, x = .str i ∧ y = .str j ∧ i.length + j.length ≤ sizeLine ∧ Q (.str (i ++ j)) H)) := fun pins s σ H x y v u Q I rx ry q => by
  rcases q with q | q
  · exact iop_add pins s σ H x y v u Q I rx ry q
  · exact iop_add_str pins s σ H x y v u Q I rx ry q
theorem nx_addF : NoX2 addF := fun d e x h => by cases d <;> cases e <;> simp only [addF] at h <;> first | cases h | (split at h <;> cases h)
theorem qs_augG {op : Operator} {ti : TIp} {f : Dat → Dat → R Dat} (hN : X.N.Nodup) (hi : X.N[i]? = some x) (hx : Loc X.env.scope x) (hf : X.fn x = true ∨ X.env.scope.names.lookup x = some .local) (hio : i ∉ own) (hn : c.xs.all (fun p => p.1 != i) = true) (he : PE X ee (qE c W own .sh m)) (hop : PIp X op ti) (nx : NoX2 f)
    (hr : ∀ (Z : ZS) (H Hs : Hp) (v u : V) (d e : Dat) (Q : VK), Trk Z H → Same Hs H → Sh c.K Z H v d → Sh c.K Z H u e → Post (f d e) (Wnt c.K Z H Hs .frz Q) (fun _ => False) → ti v u H Q) :
    PS X (.AugAssign (.Name x p) op ee pos) (qS c W own own ownL (sAug f i m)) := (ps_aug hN hi hx he hop hf).imp fun D σ H ⟨Z, ρ, S, p⟩ => by
  unfold sAug sAsg e2 eV at p
  have p := PostS.lft S p
  have p := Post.bnd p
  cases e : ρ[i]? with
  | none => rw [e] at p; exact p.elim
  | some od =>
    cases od with
    | none => rw [e] at p; exact p.elim
    | some d =>
      rw [e] at p
      have p := Post.bnd p
      have nex : ∀ y, d ≠ .exc y := fun y z => by
        subst z
        obtain ⟨a, e1, _⟩ := S.exc i y e
        rw [e1] at hn
        simp at hn
      obtain ⟨v, hv, rv⟩ := S.val i d e hio nex
      refine ⟨v, hv, Z, ρ, S, Post.imp p (fun e' p2 u Z1 H1 x1 hu => ?_) fun _ q => q⟩
      refine hr Z1 H1 H v u d e' _ x1.trk x1.same (Sh.ext x1 rv.sh) hu ((Post.nox (nx d e') p2).imp (fun z q w Z2 H2 x2 hw => ?_) fun _ q => q)
      have q := PostS.gok q
      unfold gV at q
      obtain ⟨hl, q⟩ := Post.ite q
      have S2 := ((S.move x1).move x2).set (i := i) hw hl
      have hfil : own.filter (· != i) = own := List.filter_eq_self.mpr fun j hj => by simpa using fun z : j = i => hio (z ▸ hj)
      rw [hfil] at S2
      exact q Z2 H2 _ (x1.trans x2).adv S2
theorem qs_augAdd (hN : X.N.Nodup) (hi : X.N[i]? = some x) (hx : Loc X.env.scope x) (hf : X.fn x = true ∨ X.env.scope.names.lookup x = some .local) (hio : i ∉ own) (hn : c.xs.all (fun p => p.1 != i) = true) (he : PE X ee (qE c W own .sh m)) :
    PS X (.AugAssign (.Name x p) .Add ee pos) (qS c W own own ownL (sAug addF i m)) := qs_augG hN hi hx hf hio hn he iopU_add nx_addF fun Z H Hs v u d e Q t s hv hu p => by
  cases hv with
  | int i =>
    cases hu with
    | int j => exact .inl ⟨i, j, rfl, rfl, Wnt.int t p⟩
    | _ => exact False.elim p
  | str x hx =>
    cases hu with
    | str y hy =>
      obtain ⟨hz, p⟩ := Post.ite p
      have hz2 := hz
      rw [line_eq] at hz
      exact .inr ⟨x, y, rfl, rfl, by simpa [Str.length] using hz, Wnt.str t p (cpsApp x y) (okS_app hx hy hz2)⟩
    | _ => exact False.elim p
  | _ => exact False.elim p
theorem qs_augSub (hN : X.N.Nodup) (hi : X.N[i]? = some x) (hx : Loc X.env.scope x) (hf : X.fn x = true ∨ X.env.scope.names.lookup x = some .local) (hio : i ∉ own) (hn : c.xs.all (fun p => p.1 != i) = true) (he : PE X ee (qE c W own .sh m)) :
    PS X (.AugAssign (.Name x p) .Sub ee pos) (qS c W own own ownL (sAug subD i m)) := qs_augG hN hi hx hf hio hn he (ti := rI0 fun i j => .int (i - j)) iop_sub nx_sub fun Z H Hs v u d e Q t s hv hu p => by
  cases hv with
  | int i =>
    cases hu with
    | int j => exact ⟨i, j, rfl, rfl, Wnt.int t p⟩
    | _ => exact False.elim p
  | _ => exact False.elim p

/-! ### x[k] = e, x own -/
section
variable {K : KF} {Z : ZS} {H : Hp} {kk : Key} {v : V} {d : Dat}
theorem dic_any : ∀ {ks : List (Key × V)} {kvs : List (Dat × Dat)}, RepD K Z H ks kvs → (ks.any fun kv => decide (kv.1 = kk)) = kvs.any (keyEq (kD kk))
  | _, _, .nil => rfl
  | _, _, @RepD.cons _ _ _ j w r e t ok h rr => by
    rw [List.any_cons, List.any_cons, dic_any rr]
    congr 1
    exact (kD_eq j kk).symm
theorem dic_map (hv : Rep K Z H v d) : ∀ {ks : List (Key × V)} {kvs : List (Dat × Dat)}, RepD K Z H ks kvs → RepD K Z H (ks.map fun kv => if kv.1 = kk then (kv.1, v) else kv) (kvs.map fun p => if keyEq (kD kk) p then (p.1, d) else p)
  | _, _, .nil => .nil
  | _, _, @RepD.cons _ _ _ j w r e t ok h rr => by
    rw [List.map_cons, List.map_cons]
    have q : keyEq (kD kk) (kD j, e) = decide (j = kk) := kD_eq j kk
    by_cases hj : j = kk
    · rw [if_pos hj, if_pos (by rw [q]; exact decide_eq_true hj)]
      exact .cons ok hv (dic_map hv rr)
    · rw [if_neg hj, if_neg (by rw [q]; simpa using hj)]
      exact .cons ok h (dic_map hv rr)
theorem RepD.append : ∀ {a b : List (Key × V)} {d e : List (Dat × Dat)}, RepD K Z H a d → RepD K Z H b e → RepD K Z H (a ++ b) (d ++ e)
  | _, _, _, _, .nil, s => s
  | _, _, _, _, .cons o h r, s => .cons o h (RepD.append r s)
theorem dic_put (hv : Rep K Z H v d) (ok : okK kk) {ks : List (Key × V)} {kvs : List (Dat × Dat)} (r : RepD K Z H ks kvs) : RepD K Z H (putK ks kk v) (dicPut kvs (kD kk) d) := by
  unfold putK dicPut
  rw [dic_any r]
  by_cases h : kvs.any (keyEq (kD kk)) = true
  · rw [if_pos h, if_pos h]
    exact dic_map hv r
  · rw [if_neg h, if_neg h]
    exact r.append (.cons ok hv .nil)
end
theorem set_U (hu : X.A.units + 1 < cLine) : PSet X (fun o i v H Q => rSetL o i v H Q ∨ rSetD o i v H Q) := by
  intro pins s σ H o i v ov iv u Q I ro ri rv h
  rcases h with h | h
  · exact set_list pins s σ H o i v ov iv u Q I ro ri rv h
  · exact set_dict hu pins s σ H o i v ov iv u Q I ro ri rv h
theorem qs_put {kx : Expr} {mk : EM} {p0 : Pos} (hu : X.A.units + 1 < cLine) (hi : i ∈ own) (hv : PE X (.Name x p0) (tVar i)) (hk : PE X kx (qE c W own .sh mk)) (he : PE X ee (qE c W own .frz m))
    (hs : swapsWithSole [.Subscript (.Name x p0) kx tpos] ee pos.line X.env = pure false := by rfl) (hw : swappedStores [.Subscript (.Name x p0) kx tpos] ee X.env = pure none := by rfl)
    (h1 : (assignEach [.Subscript (.Name x p0) kx tpos] X.env).map (·.2) = [assign (.Subscript (.Name x p0) kx tpos) X.env] := by rfl)
    (ha : ∀ v, assign (.Subscript (.Name x p0) kx tpos) X.env v = (do
      let ov ← holding [v] (eval (.Name x p0) X.env)
      let iv ← holding [v, ov] (eval kx X.env)
      standAt tpos
      holding [v, ov, iv] (setItem ov iv v)
      release [v, ov, iv] []) := by intro _; rfl) : PS X (.Assign [.Subscript (.Name x p0) kx tpos] ee pos) (qS c W own own ownL (sPut i mk m)) := (ps_asg he (pg_sub hv hk (set_U hu) ha) hs hw h1).imp fun D σ H ⟨Z, ρ, S, p⟩ => by
  obtain ⟨l, d0, e1, e2, nz, h0, t0⟩ := S.ow i hi
  unfold sPut at p
  rw [e1] at p
  cases d0 with
  | lst ds =>
    obtain ⟨xs, hH, hr⟩ := t0
    refine ⟨Z, ρ, S, (PostS.lft S p).imp (fun d p1 v Z1 H1 x1 hvv => ⟨_, e2, Z1, ρ, S.move x1, (PostS.lft (S.move x1) (PostS.move x1.adv p1)).imp (fun z p2 w Z2 H2 x2 hw => ?_) fun _ q => q⟩) fun _ q => q⟩
    cases z with
    | int j =>
      have hw : Sh c.K Z2 H2 w (.int j) := hw
      cases hw
      have p2 : PostS c W own ownL Z1 H1 D (match placeOf j ds.length with | some n => some (.nx, ρ.set i (some (.lst (ds.set n d)))) | none => none) := p2
      cases hp : placeOf j ds.length with
      | none => rw [hp] at p2; exact p2.elim
      | some n =>
        rw [hp] at p2
        have S2 := (S.move x1).move x2
        have x12 := x1.trans x2
        have hH2 := x12.same _ _ hH
        have nl : ¬ Z2 l := x12.not hH nz
        obtain ⟨ad2, S3⟩ := S2.mut (d := .lst (ds.set n d)) hi e2 ⟨xs.set n v, upd_same, (RepA.set n (hr.adv x12.adv) (Rep.adv x2.adv hvv)).adv (.chg nl)⟩ (fun y z => by cases z)
        exact .inl ⟨l, xs, j, n, rfl, rfl, hH2, by rw [hr.len]; exact hp, p2 Z2 _ σ (x2.adv.trans ad2) S3⟩
    | _ => exact False.elim p2
  | dic ds =>
    obtain ⟨ks, hH, hr⟩ := t0
    refine ⟨Z, ρ, S, (PostS.lft S p).imp (fun d p1 v Z1 H1 x1 hvv => ⟨_, e2, Z1, ρ, S.move x1, (PostS.lft (S.move x1) (PostS.move x1.adv p1)).imp (fun z p2 w Z2 H2 x2 hw => ?_) fun _ q => q⟩) fun _ q => q⟩
    have p2 : PostS c W own ownL Z1 H1 D (if isKey z = true ∧ ds.length < LINE then some (.nx, ρ.set i (some (.dic (dicPut ds z d)))) else none) := p2
    by_cases hz : isKey z = true ∧ ds.length < LINE
    · rw [if_pos hz] at p2
      obtain ⟨kk, rfl, rfl, ok⟩ := kv_rep hw hz.1
      have S2 := (S.move x1).move x2
      have x12 := x1.trans x2
      have hH2 := x12.same _ _ hH
      have nl : ¬ Z2 l := x12.not hH nz
      obtain ⟨ad2, S3⟩ := S2.mut (d := .dic (dicPut ds (kD kk) d)) hi e2 ⟨putK ks kk v, upd_same, (dic_put (Rep.adv x2.adv hvv) ok (hr.adv x12.adv)).adv (.chg nl)⟩ (fun y z => by cases z)
      exact .inr ⟨l, _, rfl, DPut.k hH2 (by rw [hr.len, ← line_eq]; exact hz.2), p2 Z2 _ σ (x2.adv.trans ad2) S3⟩
    · rw [if_neg hz] at p2
      exact p2.elim
  | _ => exact t0.elim

/-! ### {k: v, ..} -/
/-- the readings of a display's pairs -/
def qPrs (c : Ct) (W : WX) (own : List Nat) (ps : List (EM × EM)) : List (TE × TE) := ps.map fun p => (qE c W own .sh p.1, qE c W own .frz p.2)
theorem prs_read {c : Ct} {W : WX} {own : List Nat} : ∀ (ps : List (EM × EM)) {σ : St} {Z : ZS} {H : Hp} {ρ : Env} {Q : List (V × V) → Hp → Prop}, SE c own Z H σ ρ →
    Post (ePrs ps ρ) (fun t => ∀ vs Z' H', Ext Z H Z' H' → vs.length = t.length → (∀ (i : Nat) p d, vs[i]? = some p → t[i]? = some d → Sh c.K Z' H' p.1 d.1 ∧ Rep c.K Z' H' p.2 d.2) → Q vs H') (PX c W Z H σ) → tPairs (qPrs c W own ps) σ H Q
  | [], σ, Z, H, ρ, Q, S, p => p [] Z H (.refl S.trk) rfl (fun i p d h => by simp at h)
  | (k, v) :: r, σ, Z, H, ρ, Q, S, p => by
    refine ⟨Z, ρ, S, (Post.bnd p).imp (fun dk p1 x Z1 H1 x1 hx => ⟨Z1, ρ, S.move x1, (Post.bnd p1).imp (fun dv p2 y Z2 H2 x2 hy => ?_) fun n q => PX.move x1 q⟩) fun _ q => q⟩
    refine prs_read r ((S.move x1).move x2) ((Post.bnd p2).imp (fun t p3 vs Z3 H3 x3 hl hh => ?_) fun n q => PX.move (x1.trans x2) q)
    refine p3 ((x, y) :: vs) Z3 H3 ((x1.trans x2).trans x3) (by simp [hl]) fun i p d h1 h2 => ?_
    cases i with
    | zero =>
      cases h1
      cases h2
      exact ⟨(Sh.ext x2 hx).ext x3, Rep.adv x3.adv hy⟩
    | succ i => exact hh i p d (by simpa using h1) (by simpa using h2)
theorem keys_of {K : KF} {Z : ZS} {H : Hp} : ∀ {vs : List (V × V)} {t : List (Dat × Dat)}, vs.length = t.length → t.all (fun p => isKey p.1) = true → (∀ (i : Nat) p d, vs[i]? = some p → t[i]? = some d → Sh K Z H p.1 d.1 ∧ Rep K Z H p.2 d.2) → ∃ kvs : List (Key × V), vs = kvs.map (fun kv => (kV kv.1, kv.2)) ∧ kvs.length = t.length ∧
    ∀ (ks0 : List (Key × V)) (d0 : List (Dat × Dat)), RepD K Z H ks0 d0 → RepD K Z H (mergeK ks0 kvs) (t.foldl (fun d p => dicPut d p.1 p.2) d0)
  | [], [], _, _, _ => ⟨[], rfl, rfl, fun ks0 d0 h => h⟩
  | p :: vs, d :: t, hl, hk, hh => by
    rw [List.all_cons, Bool.and_eq_true] at hk
    obtain ⟨kvs, h1, h2, h3⟩ := keys_of (vs := vs) (t := t) (by simpa using hl) hk.2 fun i p d e1 e2 => hh (i + 1) p d (by simpa using e1) (by simpa using e2)
    obtain ⟨q1, q2⟩ := hh 0 p d rfl rfl
    obtain ⟨kk, e1, e2, ok⟩ := kv_rep q1 hk.1
    refine ⟨(kk, p.2) :: kvs, by rw [h1, List.map_cons, ← e1], by simp [h2], fun ks0 d0 h => ?_⟩
    show RepD K Z H (mergeK (putK ks0 kk p.2) kvs) (t.foldl (fun d p => dicPut d p.1 p.2) (dicPut d0 d.1 d.2))
    rw [e2]
    exact h3 _ _ (dic_put q2 ok h)
theorem q_disp {keys : List (Option Expr)} {values : List Expr} {ps : List (EM × EM)} (h : PPs X pos keys values (qPrs c W own ps)) (hall : keys.all (·.isSome) = true) (hl : keys.length = values.length) (h0 : keys ≠ []) (h15 : keys.length ≤ 15) (hp : ps.length ≤ 15) : PE X (.Dict keys values pos) (qE c W own .new (eDisp ps)) := (pe_disp h hall hl h0 h15).imp fun σ H Q ⟨Z, ρ, S, p⟩ => fun d hd => by
  have x0 : Ext Z H Z (upd H d (.dK [])) := .laid S.trk hd
  have nd : ¬ Z d := fun z => by
    obtain ⟨o, e⟩ := S.trk d z
    rw [hd] at e; cases e
  refine prs_read ps (S.move x0) ?_
  have hlen : ∀ (ps : List (EM × EM)) t, ePrs ps ρ = .ok t → t.length = ps.length := by
    intro ps
    induction ps with
    | nil => intro t h; cases h; rfl
    | cons p r ih =>
      intro t h
      obtain ⟨k, v⟩ := p
      unfold ePrs at h
      cases q1 : k ρ with
      | ok x =>
        rw [q1] at h
        simp only [PL.R.bnd_ok] at h
        cases q2 : v ρ with
        | ok y =>
          rw [q2] at h
          simp only [PL.R.bnd_ok] at h
          cases q3 : ePrs r ρ with
          | ok t' =>
            rw [q3] at h
            cases h
            simp [ih t' q3]
          | exc z => rw [q3] at h; cases h
          | bad => rw [q3] at h; cases h
        | exc z => rw [q2] at h; cases h
        | bad => rw [q2] at h; cases h
      | exc z => rw [q1] at h; cases h
      | bad => rw [q1] at h; cases h
  have p := Post.bnd p
  cases q : ePrs ps ρ with
  | bad => rw [q] at p; exact p.elim
  | exc y => rw [q] at p; exact PX.move x0 p
  | ok t =>
    rw [q] at p
    obtain ⟨hk, p⟩ := Post.ite (b := t.all (fun p => isKey p.1) = true) p
    intro vs Z1 H1 x1 hl hh
    obtain ⟨kvs, h1, h2, h3⟩ := keys_of hl hk hh
    have nd1 := x1.not (o := .dK []) upd_same nd
    refine ⟨x1.same _ _ upd_same, kvs, h1, by rw [h2, hlen ps t q]; exact hp, ?_⟩
    have x2 := ((x0.trans x1).chg (o := .dK (mergeK [] kvs)) hd nd1)
    exact p (.ref d) Z1 _ x2 ⟨fun _ => ⟨d, rfl, nd1, hd, _, upd_same, (h3 [] [] .nil).adv (.chg nd1)⟩, fun z => by cases z⟩
end
end PL

set_option maxRecDepth 100000
set_option maxHeartbeats 4000000
namespace PL
open PySem PySem.Spec PyProof.Rows L2
set_option autoImplicit false

/-- the context of an except suite that holds an error -/
def Ct.held (c : Ct) (i : Nat) (a : Addr) (y : Nat) : Ct := { c with xs := some (i, a, y) }
section
variable {c : Ct} {own : List Nat} {Z : ZS} {H : Hp} {σ : St} {ρ : Env} {i y : Nat} {a : Addr}
theorem SE.hold (S : SE c [] Z H σ ρ) (hx : c.xs = none) (hi : i < ρ.length) : SE (c.held i a y) [] Z H (σ.set i (some (.ref a))) (ρ.set i (some (.exc y))) where
  ext := S.ext
  len := by simp [S.len]
  val := fun j d e n nx => by
    rw [get_set] at e
    rw [get_set, S.len]
    by_cases h : i = j ∧ j < ρ.length
    · rw [if_pos h] at e
      cases e
      exact absurd rfl (nx y)
    · rw [if_neg h] at e ⊢
      exact S.val j d e n nx
  exc := fun j x e => by
    rw [get_set] at e
    rw [get_set, S.len]
    by_cases h : i = j ∧ j < ρ.length
    · rw [if_pos h] at e ⊢
      cases e
      exact ⟨a, by rw [h.1]; rfl, rfl⟩
    · rw [if_neg h] at e
      obtain ⟨b, e1, _⟩ := S.exc j x e
      rw [hx] at e1
      cases e1
  ow := fun j hj => by cases hj
  inj := fun j hj => by cases hj
theorem SE.letgo (S : SE (c.held i a y) own Z H σ ρ) (hi : i ∉ own) : SE c own Z H (σ.set i none) (ρ.set i none) where
  ext := S.ext
  len := by simp [S.len]
  val := fun j d e n nx => by
    rw [get_set] at e
    rw [get_set, S.len]
    by_cases h : i = j ∧ j < ρ.length
    · rw [if_pos h] at e; cases e
    · rw [if_neg h] at e ⊢
      exact S.val j d e n nx
  exc := fun j x e => by
    rw [get_set] at e
    by_cases h : i = j ∧ j < ρ.length
    · rw [if_pos h] at e; cases e
    · rw [if_neg h] at e
      obtain ⟨b, e1, e2⟩ := S.exc j x e
      have e1 : some (i, a, y) = some (j, b, x) := e1
      cases e1
      exact absurd ⟨rfl, (List.getElem?_eq_some_iff.mp e).1⟩ h
  ow := fun j hj => by
    obtain ⟨b, d, e1, e2, q⟩ := S.ow j hj
    have hne : ¬ i = j := fun z => hi (z ▸ hj)
    refine ⟨b, d, ?_, ?_, q⟩
    · rw [get_set, if_neg (fun z => hne z.1)]; exact e1
    · rw [get_set, if_neg (fun z => hne z.1)]; exact e2
  inj := fun j hj l hl ne => by
    have h1 : ¬ i = j := fun z => hi (z ▸ hj)
    have h2 : ¬ i = l := fun z => hi (z ▸ hl)
    rw [get_set, get_set, if_neg (fun z => h1 z.1), if_neg (fun z => h2 z.1)]
    exact S.inj j hj l hl ne
end

section
variable {X : Cx} {c : Ct} {W : WX} {own own' ownL : List Nat} {sa su : SM} {body suite : List Stmt} {b₀ : Stmt} {x n : Str} {i N : Nat} {np pos pos' : Pos} {sub : Nat → Nat → Bool}
/-- under each class that the error may have -/
theorem suite_of {sts : List Stmt} {t : Nat → TS} {cls : Value} {d : Option Addr} (h : ∀ y, cls = .ref (c.EC y) → d = none → PSs X sts (t y)) : PSs X sts (fun D σ H => ∃ y, cls = .ref (c.EC y) ∧ d = none ∧ t y D σ H) :=
  ⟨fun pins s σ H D I ⟨y, e1, e2, q⟩ => (h y e1 e2).run pins s σ H D I q⟩
theorem try_body {W' : WX} {Z : ZS} {H : Hp} {D : Ends} {o : O} {hs : List ((Nat → Bool) × Option Nat × SM)} (h : PostS c W own' ownL Z H D (match o with
    | some (.ex y, ρ') => hand hs y ρ'
    | q => q)) (hw : ∀ y ρ' Z' H' σ', Adv Z H Z' H' → SE c [] Z' H' σ' ρ' → PostS c W own' ownL Z' H' D (hand hs y ρ') → W' (.ref (c.EC y)) none σ' H') : PostS c W' own' ownL Z H D o := by
  match o, h with
  | some (.nx, ρ'), h => exact h
  | some (.ct, ρ'), h => exact h
  | some (.bk, ρ'), h => exact h
  | some (.rt d, ρ'), h => exact h
  | some (.ex y, ρ'), h => exact fun Z' H' σ' ad S => hw y ρ' Z' H' σ' ad S (PostS.move ad h)
theorem noEx_post {W' : WX} {Z : ZS} {H : Hp} {D : Ends} {o : O} (h : PostS c W own' ownL Z H D (noEx o)) : PostS c W' own' ownL Z H D o := by
  match o, h with
  | some (.nx, ρ'), h => exact h
  | some (.ct, ρ'), h => exact h
  | some (.bk, ρ'), h => exact h
  | some (.rt d, ρ'), h => exact h
/-- try: body / except X: suite -/
theorem qs_try_only (hs : X.stack = X.env :: X.outer) (hf : X.env.frame = some X.env.locals) (hc : Names X x (.ref (c.EC N))) (tk : Takes X W) (hex : ∀ y, PySem.W.exmOne X.K (.ref (c.EC y)) (.ref (c.EC N)) = some (sub y N))
    (hb : ∀ (W' : WX) (pn : List (Addr × Obj)) (xe : Value → Shared → Prop), Takes (X.tr pn xe) W' → PassesOwn (model X.prog X.w) X.A X.env xe → PSs (X.tr pn xe) body (qS c W' own own' ownL sa))
    (hsu : ∀ (a : Addr) (oe : Obj) (y : Nat) (pn : List (Addr × Obj)), Zc (.ref (c.EC y)) none oe → (∃ vs, oe.data = .fields vs) → PSs (X.suite a ((a, oe) :: pn)) (b₀ :: suite) (qS c W0 [] own' ownL su)) :
    PS X (.Try body [.ExceptHandler (some (.Name x np)) none (b₀ :: suite) pos'] [] [] pos) (qS c W own own' ownL (sTry [((fun y => sub y N), none, su)] sa)) := by
  refine (ps_try_only (tb := fun W' => qS c W' own own' ownL sa) (ts := fun a cls d D σ H => ∃ y, cls = .ref (c.EC y) ∧ d = none ∧ qS c W0 [] own' ownL su D σ H) (Wout := W) hs hf hc tk hb (fun a oe cls d pn hz hd => suite_of fun y e1 e2 => ?_)).imp fun D σ H ⟨Z, ρ, S, p⟩ => ⟨Z, ρ, S, ?_⟩
  · subst e1 e2
    exact hsu a oe y pn hz hd
  · refine try_body (hs := [((fun y => sub y N), none, su)]) p fun y ρ' Z' H' σ' ad S' q => ⟨sub y N, hex y, fun hy a ha => ⟨y, rfl, rfl, Z', ρ', S', ?_⟩, fun hy => ?_⟩
    · unfold hand at q
      rw [if_pos hy] at q
      exact noEx_post q
    · unfold hand at q
      rw [if_neg (show ¬ sub y N = true by rw [hy]; exact Bool.false_ne_true)] at q
      exact q Z' H' σ' .refl S'
/-- try: body / except X as n: suite -/
theorem qs_try_as (hs : X.stack = X.env :: X.outer) (hf : X.env.frame = some X.env.locals) (hN : X.N.Nodup) (hi : X.N[i]? = some n) (hln : X.env.kindOf n = some .local) (hc : Names X x (.ref (c.EC N))) (tk : Takes X W) (hex : ∀ y, PySem.W.exmOne X.K (.ref (c.EC y)) (.ref (c.EC N)) = some (sub y N))
    (hx : c.xs = none) (hio : i ∉ own') (hiL : i ∉ ownL)
    (hb : ∀ (W' : WX) (pn : List (Addr × Obj)) (xe : Value → Shared → Prop), Takes (X.tr pn xe) W' → PassesOwn (model X.prog X.w) X.A X.env xe → PSs (X.tr pn xe) body (qS c W' own own' ownL sa))
    (hsu : ∀ (a : Addr) (oe : Obj) (y : Nat) (pn : List (Addr × Obj)), Zc (.ref (c.EC y)) none oe → (∃ vs, oe.data = .fields vs) → PSs (X.suite a ((a, oe) :: pn)) (b₀ :: suite) (qS (c.held i a y) W0 [] own' ownL su)) :
    PS X (.Try body [.ExceptHandler (some (.Name x np)) (some n) (b₀ :: suite) pos'] [] [] pos) (qS c W own own' ownL (sTry [((fun y => sub y N), some i, su)] sa)) := by
  have hlen : ∀ {pins : List (Addr × Obj)} {σ : St} {H : Hp} {s : Shared}, Inv X pins σ H s → i < σ.length := fun {pins σ H s} I => by
    rw [I.len]
    exact (List.getElem?_eq_some_iff.mp hi).1
  have key := ps_try_as (pos := pos) (pos' := pos') (np := np) (tb := fun W' => qS c W' own own' ownL sa) (ts := fun a cls d D σ H => ∃ y, cls = .ref (c.EC y) ∧ d = none ∧ qS (c.held i a y) W0 [] own' ownL su D σ H) (Wout := W) hs hf hN hi hln hc tk hb (fun a oe cls d pn hz hd => suite_of fun y e1 e2 => by
    subst e1 e2
    exact hsu a oe y pn hz hd)
  refine ⟨fun pins s σ H D I ⟨Z, ρ, S, p⟩ => key.run pins s σ H D I ⟨Z, ρ, S, ?_⟩⟩
  refine try_body (hs := [((fun y => sub y N), some i, su)]) p fun y ρ' Z' H' σ' ad S' q => ⟨sub y N, hex y, fun hy a ha => ⟨y, rfl, rfl, ?_⟩, fun hy => ?_⟩
  · unfold hand at q
    rw [if_pos hy] at q
    by_cases hl : i < ρ'.length
    · rw [if_pos hl] at q
      refine ⟨Z', ρ'.set i (some (.exc y)), S'.hold hx hl, noEx_post (W := W) (own' := own') (ownL := ownL) ?_⟩
      match ho : noEx (su (ρ'.set i (some (.exc y)))) with
      | none => rw [ho] at q; exact q
      | some (.nx, ρ2) => rw [ho] at q; exact fun Z2 H2 σ2 a2 S2 => q Z2 H2 _ a2 (S2.letgo hio)
      | some (.ct, ρ2) => rw [ho] at q; exact fun Z2 H2 σ2 a2 S2 => q Z2 H2 _ a2 (S2.letgo hiL)
      | some (.bk, ρ2) => rw [ho] at q; exact fun Z2 H2 σ2 a2 S2 => q Z2 H2 _ a2 (S2.letgo hiL)
      | some (.rt d, ρ2) => rw [ho] at q; exact q
      | some (.ex z, ρ2) =>
        exfalso
        match h2 : su (ρ'.set i (some (.exc y))), ho with
        | none, ho => cases ho
        | some (.nx, _), ho => cases ho
        | some (.ct, _), ho => cases ho
        | some (.bk, _), ho => cases ho
        | some (.rt _, _), ho => cases ho
        | some (.ex _, _), ho => cases ho
    · rw [if_neg hl] at q
      exact q.elim
  · unfold hand at q
    rw [if_neg (show ¬ sub y N = true by rw [hy]; exact Bool.false_ne_true)] at q
    exact q Z' H' σ' .refl S'
end
end PL

set_option maxRecDepth 100000
set_option maxHeartbeats 4000000
namespace PL
open PySem PySem.Spec PyProof.Rows L2
set_option autoImplicit false

section
variable {X : Cx} {c : Ct} {W : WX} {own : List Nat} {a b e eb ec : Expr} {m m1 m2 m3 : EM} {t : TM} {pos p p2 : Pos} {k : Kd} {x : Str} {i : Nat} {tg : Expr}
/-! ### products -/
theorem foldl_app {α : Type} (z : Array α) : ∀ (n : Nat) (acc : Array α), ((List.replicate n z).foldl (· ++ ·) acc).toList = acc.toList ++ rep n z.toList
  | 0, acc => by simp [rep]
  | n + 1, acc => by
    rw [List.replicate_succ, List.foldl_cons, foldl_app z n, Array.toList_append]
    show acc.toList ++ z.toList ++ rep n z.toList = acc.toList ++ rep (n + 1) z.toList
    unfold rep
    rw [List.replicate_succ, List.flatten_cons, List.append_assoc]
theorem mulText (z : Str) (n : Int) : (Txt.mul z n).cps.toList = rep n.toNat z.cps.toList := by
  unfold Txt.mul
  by_cases h1 : n < 1
  · rw [if_pos h1, show n.toNat = 0 by omega]
    rfl
  · rw [if_neg h1]
    by_cases h2 : (n == 1 || z.length == 0) = true
    · rw [if_pos h2]
      rw [Bool.or_eq_true, beq_iff_eq, beq_iff_eq] at h2
      rcases h2 with h2 | h2
      · subst h2
        simp [rep]
      · have : z.cps.toList = [] := List.eq_nil_of_length_eq_zero (by simpa [Str.length] using h2)
        rw [this]
        simp [rep]
    · rw [if_neg h2]
      show ((List.replicate n.toNat z.cps).foldl (· ++ ·) #[]).toList = _
      rw [foldl_app]
      rfl
theorem op_mul_strU : OpR X (binaryOp .Mult) (fun x y H Q => ∃ (z : Str) (n : Int), x = .str z ∧ y = .int n ∧ MulOk z n ∧ Q (.str (Txt.mul z n)) H) := by
  intro pins s σ H x y v u Q I rx ry h
  obtain ⟨i, j, rfl, rfl, hz, q⟩ := h
  obtain ⟨t, rfl⟩ := rx
  obtain ⟨t', rfl⟩ := ry
  exact SB.mul hz fun t' tk => ⟨.str (Txt.mul i j), H, I.tok _, ⟨_, rfl⟩, q⟩
theorem opU_mul : OpR X (binaryOp .Mult) (fun x y H Q => rI CMul (fun i j => .int (i * j)) x y H Q ∨ ∃ (z : Str) (n : Int), x = .str z ∧ y = .int n ∧ MulOk z n ∧ Q (.str (Txt.mul z n)) H) := op_mul.or op_mul_strU
theorem rep_len {α : Type} (n : Nat) (x : List α) : (rep n x).length = x.length * n := by
  unfold rep
  rw [List.length_flatten, List.map_replicate, List.sum_replicate_nat, Nat.mul_comm]
theorem rep_mem {α : Type} {n : Nat} {x : List α} {y : α} (h : y ∈ rep n x) : y ∈ x := by
  unfold rep at h
  obtain ⟨l, h1, h2⟩ := List.mem_flatten.mp h
  rw [List.eq_of_mem_replicate h1] at h2
  exact h2
theorem tooLong_no {n : Nat} (h : n ≤ LINE) : Builtin.Str.tooLong n = false := by
  unfold Builtin.Str.tooLong
  rw [decide_eq_false_iff_not]
  unfold LINE at h
  have : sizeLine = 16777216 := sizeLine_eq
  omega
theorem o2_mul {K : KF} : Op2 K (fun x y H Q => rI CMul (fun i j => .int (i * j)) x y H Q ∨ ∃ (z : Str) (n : Int), x = .str z ∧ y = .int n ∧ MulOk z n ∧ Q (.str (Txt.mul z n)) H) .sh .sh .new mulN := by
  intro Z H Hs v u d e Q t s hv hu p
  cases hv with
  | int i =>
    cases hu with
    | int j =>
      obtain ⟨hz, p⟩ := Post.ite p
      exact .inl ⟨i, j, rfl, rfl, hz, Wnt.int t p⟩
    | _ => exact False.elim p
  | str x hx =>
    cases hu with
    | int n =>
      obtain ⟨⟨h1, h2, h3⟩, p⟩ := Post.ite p
      have hl : x.length * n.toNat ≤ LINE := by
        rw [show x.length = x.cps.toList.length from (Array.length_toList).symm]
        exact h3
      refine .inr ⟨x, n, rfl, rfl, ⟨?_, fun h4 h5 h6 => ?_, fun _ _ => tooLong_no hl⟩, Wnt.str t p (mulText x n) ⟨fun ch hc => hx.1 ch (rep_mem hc), by rw [rep_len]; exact h3⟩⟩
      · rw [Bool.or_eq_false_iff, decide_eq_false_iff_not, decide_eq_false_iff_not]
        exact ⟨by omega, by omega⟩
      · have h7 : (0 : Int) < n := by omega
        have h8 : (x.length : Int) * n ≤ 16777216 := by
          have e : ((x.length * n.toNat : Nat) : Int) = (x.length : Int) * n := by
            rw [Int.natCast_mul, Int.toNat_of_nonneg (by omega)]
          rw [← e]
          have h9 : x.length * n.toNat ≤ 16777216 := hl
          omega
        have h9 : (x.length : Int) ≤ (2 ^ 63 - 1) / n := Int.le_ediv_of_mul_le h7 (by omega)
        omega
    | _ => exact False.elim p
  | _ => exact False.elim p
theorem q_mul (ha : PE X a (qE c W own .sh m1)) (hb : PE X b (qE c W own .sh m2)) : PE X (.BinOp a .Mult b pos) (qE c W own .new (e2 mulN m1 m2)) := q_bin ha hb (fun _ _ h k => pe_op opU_mul h k) o2_mul nx_mul
theorem nx_rep : NoX2 repD := fun d e x h => by cases d <;> cases e <;> simp only [repD] at h <;> first | cases h | (split at h <;> cases h)
theorem RepA.rep {K : KF} {Z : ZS} {H : Hp} {xs : List V} {ds : List Dat} (r : RepA K Z H xs ds) : ∀ n : Nat, RepA K Z H (List.replicate n xs).flatten (PL.rep n ds)
  | 0 => .nil
  | n + 1 => by
    unfold PL.rep
    rw [List.replicate_succ, List.replicate_succ, List.flatten_cons, List.flatten_cons]
    exact RepA.append r (RepA.rep r n)
theorem o2_rep {K : KF} : Op2 K rRep .new .sh .new repD := by
  intro Z H Hs v u d e Q t s hv hu p
  cases d with
  | lst ds =>
    obtain ⟨l, rfl, nz, hl, xs, hH, r⟩ := hv.1 rfl
    cases hu with
    | int n =>
      obtain ⟨⟨h1, h2, h3⟩, p⟩ := Post.ite p
      refine ⟨l, n, xs, rfl, rfl, hH, h1, h2, by rw [r.len, ← line_eq]; exact h3, fun q hq => Wnt.newL t s p (r.rep n.toNat) hq⟩
    | _ => exact False.elim p
  | _ => cases hu <;> exact False.elim p
/-- [..] * n -/
theorem q_rep (ha : PE X a (qE c W own .new m1)) (hb : PE X b (qE c W own .sh m2)) : PE X (.BinOp a .Mult b pos) (qE c W own .new (e2 repD m1 m2)) := q_bin ha hb (fun _ _ h k => pe_op op_rep h k) o2_rep nx_rep
theorem qts_one (h : PT X e (qT c W own t)) : PTs X [e] (qT c W own t) := pts_one h
/-! ### range(i, j, c), 0 < c -/
theorem step_eq {i j st : Int} (h : 0 < st) : (j - i + st - 1) / st = (j - i - 1) / st + 1 := by
  rw [show j - i + st - 1 = (j - i - 1) + 1 * st by omega, Int.add_mul_ediv_right _ _ (by omega)]
theorem step_size {i j st : Int} (h : 0 < st) : Builtin.Range.rangeSize i j st = ((((j - i + st - 1) / st).toNat : Nat) : Int) := by
  unfold Builtin.Range.rangeSize
  rw [if_pos (show st > 0 from h), step_eq h]
  by_cases hij : i < j
  · rw [if_pos hij]
    have := Int.ediv_nonneg (show 0 ≤ j - i - 1 by omega) (show 0 ≤ st by omega)
    omega
  · rw [if_neg hij]
    have : (j - i - 1) / st < 0 := Int.ediv_neg_of_neg_of_pos (by omega) h
    omega
theorem step_small {i j st : Int} (h1 : fits62 i) (h2 : fits62 j) (h : 0 < st) (h3 : st < 2 ^ 30) : Builtin.Range.small i j st = true := by
  unfold fits62 at h1 h2
  have e := step_size (i := i) (j := j) h
  have b1 : Builtin.Range.rangeSize i j st < 2 ^ 63 ∧ 0 ≤ Builtin.Range.rangeSize i j st := by
    rw [e, step_eq h]
    have : (j - i - 1) / st ≤ 2 ^ 63 - 2 := by
      by_cases hij : 0 ≤ j - i - 1
      · have h5 : (j - i - 1) / st ≤ j - i - 1 := Int.ediv_le_self st hij
        omega
      · have : (j - i - 1) / st < 0 := Int.ediv_neg_of_neg_of_pos (by omega) h
        omega
    omega
  unfold Builtin.Range.small
  simp only [Builtin.Range.rangeFitsLong, Bool.and_eq_true, Bool.or_eq_true, decide_eq_true_eq, beq_iff_eq, show st > 0 from h, if_true]
  refine ⟨⟨⟨⟨⟨?_, ?_⟩, ⟨?_, ?_⟩⟩, ⟨?_, ?_⟩⟩, ⟨?_, ?_⟩⟩, .inr ⟨?_, ?_⟩⟩ <;> omega
theorem itc_ok {K : KF} {Z : ZS} {H : Hp} {lo st : Int} {n : Nat} {zs : List Int} (hz : zs = (List.range n).map fun k => lo + (k : Nat) * st) : ItOk K (Itc lo st n) Z H (zs.map .int) := fun Z1 H1 ad t i => by
  subst hz
  refine ⟨fun d e => ?_, fun hl => (show n ≤ i by simpa using hl)⟩
  rw [List.getElem?_map, List.getElem?_map] at e
  obtain ⟨z, ez, rfl⟩ := Option.map_eq_some_iff.mp e
  obtain ⟨k, ek, rfl⟩ := Option.map_eq_some_iff.mp ez
  obtain ⟨h1, h2⟩ := List.getElem?_eq_some_iff.mp ek
  have hk : k = i := by simpa using h2.symm
  subst hk
  refine ⟨(show k < n by simpa using h1), fun x H2 y => ?_⟩
  obtain ⟨rfl, rfl⟩ := y
  exact ⟨Z1, .refl t, .int _⟩
theorem qi_r3 (hg : Gl X "range") (hm : X.mg "range" = none) (ha : PE X e (qE c W own k m)) (hb : PE X eb (qE c W own k m2)) (hd : PE X ec (qE c W own k m3)) (hs : starEach [e, eb, ec] X.env = (false, eval e X.env) :: starEach [eb, ec] X.env := by rfl)
    (hs2 : starEach [eb, ec] X.env = (false, eval eb X.env) :: starEach [ec] X.env := by rfl) (hs3 : starEach [ec] X.env = (false, eval ec X.env) :: starEach [] X.env := by rfl) (hpl : (backTo pos (starEach [eb, ec] X.env)).any (·.1) = false := by rfl) :
    PI X tg (.Call (.Name "range" p) [e, eb, ec] [] pos) (qI c W own (iR3 m m2 m3)) := by
  refine ⟨fun pins s σ H R I h => (pi_range3 hg hm (qa_cons ha (qa_cons hb (qa_cons hd qa_nil hs3) hs2) hs) hs hpl).run pins s σ H R I ?_⟩
  obtain ⟨Z, ρ, S, p⟩ := h
  refine ⟨Z, ρ, S, ?_⟩
  have p := Post.bnd p
  unfold eCons eNil
  cases q : m ρ with
  | bad => rw [q] at p; exact p.elim
  | exc x => rw [q] at p; exact p
  | ok d =>
    rw [q] at p
    have p := Post.bnd p
    rw [PL.R.bnd_ok]
    cases q2 : m2 ρ with
    | bad => rw [q2] at p; exact p.elim
    | exc x => rw [q2] at p; exact p
    | ok d2 =>
      rw [q2] at p
      have p := Post.bnd p
      rw [PL.R.bnd_ok]
      cases q3 : m3 ρ with
      | bad => rw [q3] at p; exact p.elim
      | exc x => rw [q3] at p; exact p
      | ok d3 =>
        rw [q3] at p
        intro vs Z1 H1 x1 hv
        cases hv with
        | cons h1 h2 =>
          cases h2 with
          | cons h2 h3 =>
            cases h3 with
            | cons h3 h4 =>
              cases h4
              have hs := h1.sh
              have hs2 := h2.sh
              have hs3 := h3.sh
              cases hs with
              | int i =>
                cases hs2 with
                | int j =>
                  cases hs3 with
                  | int st =>
                    obtain ⟨⟨hf, hf2, h0, hst⟩, p⟩ := Post.ite p
                    refine ⟨i, j, st, ((j - i + st - 1) / st).toNat, rfl, ?_, p _ Z1 H1 x1 ?_⟩
                    · exact ⟨by omega, by omega, step_small hf hf2 h0 hst, by rw [step_size h0]⟩
                    · exact itc_ok rfl
                  | _ => exact p.elim
                | _ => exact p.elim
              | _ => exact p.elim
/-! ### isinstance(e, C), e the error that the suite holds -/
theorem nx_isx {sub : Nat → Nat → Bool} {n : Nat} : NoX1 (isX sub n) := fun d x h => by cases d <;> cases h
theorem q_isx {A : Addr} {oe : Obj} {pn : List (Addr × Obj)} {y n : Nat} {xe xc : Str} {pe' pc : Pos} {sub : Nat → Nat → Bool} (hK : c.K = X.K) (hx : c.xs = some (i, A, y)) (hz : Zc (.ref (c.EC y)) none oe) (hf : ∃ vs, oe.data = .fields vs) (hC : ExcC X.K (c.EC y))
    (hN : X.N[i]? = some xe) (hv : Vis X.env.scope xe) (hd : (xe == ("__debug__" : Str)) = false) (hcd : (xe == ("__classdict__" : Str)) = false)
    (hg : Gl X "isinstance") (hm : X.mg "isinstance" = none) (hgc : Gl X xc) (hmc : X.mg xc = some (.ref (c.EC n))) (hdc : (xc == ("__debug__" : Str)) = false)
    (hkit : ∀ y, PySem.W.kitOne X.K (.ref (c.EC y)) (.ref (c.EC n)) = some (sub y n))
    (hs : starEach (.Name xe pe' :: [.Name xc pc]) X.env = (false, eval (.Name xe pe') X.env) :: starEach [.Name xc pc] X.env := by rfl) (hs2 : starEach (.Name xc pc :: []) X.env = (false, eval (.Name xc pc) X.env) :: starEach [] X.env := by rfl) (hpl : (backTo pos (starEach [.Name xc pc] X.env)).any (·.1) = false := by rfl) :
    PE (X.suite A ((A, oe) :: pn)) (.Call (.Name "isinstance" p) [.Name xe pe', .Name xc pc] [] pos) (qE c W own .new (e1 (isX sub n) (eV i))) := by
  have h1 : PE (X.suite A ((A, oe) :: pn)) (.Name xe pe') (tVar i) := pe_var hN hv hd hcd
  have h2 : PE (X.suite A ((A, oe) :: pn)) (.Name xc pc) (tC (.ref (c.EC n))) := pe_glob hgc hmc rfl hdc
  refine (pe_callB (call_isE (pn := pn) hC hz hf) hg hm boot_isinstance (pa_cons h1 (pa_cons h2 pa_nil hs2) hs) (by decide) (by decide) hs hpl).imp fun σ H Q ⟨Z, ρ, S, p⟩ => ?_
  have p := Post.bnd p
  unfold eV at p
  cases e : ρ[i]? with
  | none => rw [e] at p; exact p.elim
  | some od =>
    cases od with
    | none => rw [e] at p; exact p.elim
    | some d =>
      rw [e] at p
      cases d with
      | exc y' =>
        obtain ⟨A', e1, e2⟩ := S.exc i y' e
        rw [hx] at e1
        cases e1
        have p : ∀ v Z' H', Ext Z H Z' H' → Val c.K Z' H' H .new v (.bl (sub y n)) → Q v H' := p
        exact ⟨_, e2, .ref (c.EC n), .ref (c.EC n), sub y n, rfl, fun u r => r, hkit y, p _ Z H (.refl S.trk) (Rep.kd .new (.bl _) rfl)⟩
      | _ => exact p.elim
/-- a constant of the module -/
theorem q_glob {u : Value} {d : Dat} {v : V} (hg : Gl X x) (hm : X.mg x = some u) (r : RelV v u) (hv : ∀ Z H, Rep c.K Z H v d) (hd : (x == ("__debug__" : Str)) = false) : PE X (.Name x pos) (qE c W own .frz (eC d)) := (pe_glob hg hm r hd).imp fun σ H Q ⟨Z, ρ, S, p⟩ => p v Z H (.refl S.trk) (hv Z H)
end
end PL

set_option maxRecDepth 100000
set_option maxHeartbeats 4000000
namespace PL
open PySem PySem.Spec PyProof.Rows L2
set_option autoImplicit false

/-- what a scope says of the slots and of the names of the module -/
structure Scp (X : Cx) (vis loc : List Nat) (gls : List Str) : Prop where
  nd : X.N.Nodup
  vis : ∀ i ∈ vis, ∀ x, X.N[i]? = some x → Vis X.env.scope x ∧ (x == ("__debug__" : Str)) = false ∧ (x == ("__classdict__" : Str)) = false
  loc : ∀ i ∈ loc, ∀ x, X.N[i]? = some x → L2.Loc X.env.scope x ∧ (X.fn x = true ∨ X.env.scope.names.lookup x = some .local)
  gl : ∀ (j : Nat) x, gls[j]? = some x → Gl X x ∧ (x == ("__debug__" : Str)) = false ∧ x ≠ "__name__"
def visC (sc : Scope) (x : Str) : Bool := match sc.names.lookup x with
  | some .local => true
  | some .cell => true
  | some .free => true
  | _ => false
def locC (sc : Scope) (x : Str) : Bool := match sc.names.lookup x with
  | some .local => true
  | some .cell => true
  | _ => false
def scpC (N : List Str) (sc : Scope) (vis loc : List Nat) (gls : List Str) : Bool :=
  decide N.Nodup && vis.all (fun i => match N[i]? with | some x => visC sc x && !(x == ("__debug__" : Str)) && !(x == ("__classdict__" : Str)) | none => true) && loc.all (fun i => match N[i]? with | some x => locC sc x | none => true)
  && gls.all (fun x => decide (sc.names.lookup x = some .globalImplicit) && !(x == ("__debug__" : Str)) && decide (x ≠ "__name__"))
theorem visC_ok {sc : Scope} {x : Str} (h : visC sc x = true) : Vis sc x := by
  unfold visC at h
  unfold Vis
  split at h
  · exact .inl ‹_›
  · exact .inr (.inl ‹_›)
  · exact .inr (.inr ‹_›)
  · cases h
theorem locC_ok {sc : Scope} {x : Str} (h : locC sc x = true) : L2.Loc sc x := by
  unfold locC at h
  unfold L2.Loc
  split at h
  · exact .inl ‹_›
  · exact .inr ‹_›
  · cases h
theorem scp_of {X : Cx} {sc : Scope} {vis loc : List Nat} {gls : List Str} (h : scpC X.N sc vis loc gls = true) (hr : ∀ x, X.env.scope.names.lookup x = sc.names.lookup x ∨ (sc.names.lookup x = some .free ∧ X.env.scope.names.lookup x = some .cell))
    (hf : ∀ x, sc.names.lookup x = some .cell → X.fn x = true) (hk : ∀ x, X.env.scope.names.lookup x = some .globalImplicit → Gl X x) : Scp X vis loc gls := by
  unfold scpC at h
  simp only [Bool.and_eq_true, decide_eq_true_eq, List.all_eq_true, Bool.not_eq_true'] at h
  obtain ⟨⟨⟨h0, h1⟩, h2⟩, h3⟩ := h
  refine ⟨h0, fun i hi x hx => ?_, fun i hi x hx => ?_, fun j x hx => ?_⟩
  · have q := h1 i hi
    rw [hx] at q
    simp only [Bool.and_eq_true, Bool.not_eq_true'] at q
    refine ⟨?_, q.1.2, q.2⟩
    have v := visC_ok q.1.1
    unfold Vis at v ⊢
    rcases hr x with e | ⟨_, e⟩
    · rw [e]; exact v
    · exact .inr (.inl e)
  · have q := h2 i hi
    rw [hx] at q
    have q2 := locC_ok q
    unfold L2.Loc at q2 ⊢
    rcases hr x with e | ⟨e, _⟩
    · rw [e]
      refine ⟨q2, ?_⟩
      rcases q2 with q2 | q2
      · exact .inr q2
      · exact .inl (hf x q2)
    · rw [e] at q2
      rcases q2 with q2 | q2 <;> cases q2
  · have q := h3 x (List.mem_of_getElem? hx)
    refine ⟨hk x ?_, q.1.2, q.2⟩
    rcases hr x with e | ⟨e, _⟩
    · rw [e]; exact q.1.1
    · rw [e] at q
      cases q.1.1
theorem look_relabel {env : PySem.Env} (names : List (Str × NameKind)) (x : Str) :
    (names.map fun (n, k) => if (k == NameKind.free && env.scope.kind == .function && env.kindOf n == some .cell) then (n, NameKind.cell) else (n, k)).lookup x = names.lookup x ∨
    (names.lookup x = some .free ∧ (names.map fun (n, k) => if (k == NameKind.free && env.scope.kind == .function && env.kindOf n == some .cell) then (n, NameKind.cell) else (n, k)).lookup x = some .cell) := by
  induction names with
  | nil => exact .inl rfl
  | cons p r ih =>
    obtain ⟨n, k⟩ := p
    show (List.lookup x ((if (k == NameKind.free && env.scope.kind == .function && env.kindOf n == some .cell) = true then (n, NameKind.cell) else (n, k)) :: _) = _) ∨ (_ ∧ List.lookup x ((if (k == NameKind.free && env.scope.kind == .function && env.kindOf n == some .cell) = true then (n, NameKind.cell) else (n, k)) :: _) = _)
    by_cases hc : (k == NameKind.free && env.scope.kind == .function && env.kindOf n == some .cell) = true
    · rw [if_pos hc]
      cases hx : x == n with
      | true =>
        refine .inr ⟨?_, by simp [List.lookup_cons, hx]⟩
        simp only [Bool.and_eq_true, beq_iff_eq] at hc
        simp [List.lookup_cons, hx, hc.1.1]
      | false => simpa only [List.lookup_cons, hx] using ih
    · rw [if_neg hc]
      cases hx : x == n with
      | true => exact .inl (by simp [List.lookup_cons, hx])
      | false => simpa only [List.lookup_cons, hx] using ih
theorem blk_rel {N : List Str} {sc scope : Scope} {own : List (Str × Nat)} (h : blkC N sc scope own = true) (env : PySem.Env) : BlkOk N (relabel sc env) scope own := by
  have h := blkOk_by h
  refine ⟨h.kind, h.uniq, h.ix, fun y hy hf => ?_, h.own⟩
  rcases look_relabel (env := env) sc.names y.1 with e | ⟨_, e⟩
  · have := h.free y hy hf
    unfold relabel
    rw [e]
    exact this
  · exact .inl e
section
variable {X : Cx} {vis loc vis' loc' : List Nat} {gls gls' : List Str}
theorem scp_blk {N : List Str} {s : Shared} {H : Hp} {C : Addr} {cl : List (Str × Addr)} {fp : List Addr} {scope : Scope} (h : scpC N scope vis loc gls = true) (hN : X.N = N) : Scp (X.blk s H scope (compEnvC scope cl C X.env) fp) vis loc gls := by
  subst hN
  refine scp_of (X := X.blk s H scope (compEnvC scope cl C X.env) fp) h (fun x => look_relabel scope.names x) (fun x hx => ?_) (fun x hx => hx)
  show (scope.names.lookup x == some .cell) = true
  rw [hx]
  rfl
theorem Scp.tr (V : Scp X vis loc gls) (pn : List (Addr × Obj)) (xe : Value → Shared → Prop) : Scp (X.tr pn xe) vis loc gls := ⟨V.nd, V.vis, V.loc, V.gl⟩
theorem Scp.suite (V : Scp X vis loc gls) (a : Addr) (pn : List (Addr × Obj)) : Scp (X.suite a pn) vis loc gls := ⟨V.nd, V.vis, V.loc, V.gl⟩
end
section
variable {P : Program} {w : World} {K : KF} {mg : Str → Option Value} {base : Heap} {N : List Str} {qual : Str} {scope : Scope} {f : Addr} {cd : Value} {A : Around} {outer : List PySem.Env} {s : Shared} {H : Hp} {E : XK} {vis loc : List Nat} {gls : List Str}
theorem scp_def (h : scpC N scope vis loc gls = true) : Scp (cxOf (L2.CX P w) P w K mg base N qual scope f cd A outer s H E) vis loc gls := scp_of (X := cxOf (L2.CX P w) P w K mg base N qual scope f cd A outer s H E) h (fun _ => .inl rfl) (fun _ _ => rfl) (fun _ hx => hx)
theorem tk_def : Takes (cxOf (L2.CX P w) P w K mg base N qual scope f cd A outer s H E) (fun cls d _ H' => E cls d H') := takes_of rfl rfl rfl rfl
theorem ps_def : PassesOwn (model P w) (cxOf (L2.CX P w) P w K mg base N qual scope f cd A outer s H E).A (cxOf (L2.CX P w) P w K mg base N qual scope f cd A outer s H E).env (cxOf (L2.CX P w) P w K mg base N qual scope f cd A outer s H E).xe := passes_of (X := cxOf (L2.CX P w) P w K mg base N qual scope f cd A outer s H E) rfl
end

section
variable {X : Cx} {vis loc : List Nat} {gls : List Str} {c : Ct} {W : WX} {own own' own1 ownL ts : List Nat} {a b e : Expr} {es : List Expr} {m m1 m2 : EM} {ms : LM} {t : TM} {pos p p2 spos apos : Pos} {k : Kd} {x : Str} {i j n : Nat} {sm : SM} {g : GM} {tg : Expr}
theorem xV (i : Nat) (V : Scp X vis loc gls) (hm : i ∈ vis) (hN : X.N[i]? = some x) (hi : i ∉ own) (hn : c.xs.all (fun p => p.1 != i) = true) : PE X (.Name x pos) (qE c W own .frz (eV i)) := q_var hi hn hN (V.vis i hm x hN).1 (V.vis i hm x hN).2.1 (V.vis i hm x hN).2.2
theorem xS (i : Nat) (V : Scp X vis loc gls) (hm : i ∈ vis) (hN : X.N[i]? = some x) (hn : c.xs.all (fun p => p.1 != i) = true) : PE X (.Name x pos) (qE c W own .sh (eV i)) := q_varS hn hN (V.vis i hm x hN).1 (V.vis i hm x hN).2.1 (V.vis i hm x hN).2.2
theorem xT (i : Nat) (V : Scp X vis loc gls) (hm : i ∈ vis) (hN : X.N[i]? = some x) : PE X (.Name x pos) (tVar i) := pe_var hN (V.vis i hm x hN).1 (V.vis i hm x hN).2.1 (V.vis i hm x hN).2.2
theorem gV' (i : Nat) (V : Scp X vis loc gls) (hm : i ∈ loc) (hN : X.N[i]? = some x) (ho : own' = own.filter (· != i)) (ht : i ∈ ts) : PG X (.Name x pos) (qG c own own' ts (gV i)) := qg_name V.nd hN (V.loc i hm x hN).1 (V.loc i hm x hN).2 ho ht
/-! ### the built-ins -/
structure B1 (X : Cx) (K : KF) (x : Str) (k1 k : Kd) (f : Dat → R Dat) : Prop where
  ex : ∃ id r, CallR X (.builtin id) r ∧ CallV1 K r k1 k f ∧ bootBuiltins x = some (.builtin id)
  nx : NoX1 f
structure T1 (X : Cx) (K : KF) (x : Str) (k1 k : Kd) (f : Dat → R Dat) : Prop where
  ex : ∃ id r, CallR X (.type id) r ∧ CallV1 K r k1 k f ∧ bootBuiltins x = some (.type id)
  nx : NoX1 f
structure B2 (X : Cx) (K : KF) (x : Str) (k1 k : Kd) (f : Dat → Dat → R Dat) : Prop where
  ex : ∃ id r, CallR X (.builtin id) r ∧ CallV2 K r k1 k f ∧ bootBuiltins x = some (.builtin id)
  nx : NoX2 f
theorem cB1 {f : Dat → R Dat} {k1 k : Kd} (B : B1 X c.K x k1 k f) (j : Nat) (V : Scp X vis loc gls) (hj : gls[j]? = some x) (hm : X.mg x = none) (ha : PE X a (qE c W own k1 m)) (hs : starEach (a :: []) X.env = (false, eval a X.env) :: starEach [] X.env := by rfl) (hpl : (backTo pos (starEach [] X.env)).any (·.1) = false := by rfl) :
    PE X (.Call (.Name x p) [a] [] pos) (qE c W own k (e1 f m)) := by
  obtain ⟨id, r, h1, h2, h3⟩ := B.ex
  exact q_b1 h1 h2 B.nx (V.gl j _ hj).1 hm h3 ha (V.gl j _ hj).2.2 (V.gl j _ hj).2.1 hs hpl
theorem cT1 {f : Dat → R Dat} {k1 k : Kd} (B : T1 X c.K x k1 k f) (j : Nat) (V : Scp X vis loc gls) (hj : gls[j]? = some x) (hm : X.mg x = none) (ha : PE X a (qE c W own k1 m)) (hs : starEach (a :: []) X.env = (false, eval a X.env) :: starEach [] X.env := by rfl) (hpl : (backTo pos (starEach [] X.env)).any (·.1) = false := by rfl) :
    PE X (.Call (.Name x p) [a] [] pos) (qE c W own k (e1 f m)) := by
  obtain ⟨id, r, h1, h2, h3⟩ := B.ex
  exact q_t1 h1 h2 B.nx (V.gl j _ hj).1 hm h3 ha (V.gl j _ hj).2.2 (V.gl j _ hj).2.1 hs hpl
theorem cB2 {f : Dat → Dat → R Dat} {k1 k : Kd} (B : B2 X c.K x k1 k f) (j : Nat) (V : Scp X vis loc gls) (hj : gls[j]? = some x) (hm : X.mg x = none) (ha : PE X a (qE c W own k1 m1)) (hb : PE X b (qE c W own k1 m2))
    (hs : starEach (a :: [b]) X.env = (false, eval a X.env) :: starEach [b] X.env := by rfl) (hs2 : starEach (b :: []) X.env = (false, eval b X.env) :: starEach [] X.env := by rfl) (hpl : (backTo pos (starEach [b] X.env)).any (·.1) = false := by rfl) : PE X (.Call (.Name x p) [a, b] [] pos) (qE c W own k (e2 f m1 m2)) := by
  obtain ⟨id, r, h1, h2, h3⟩ := B.ex
  exact q_b2 h1 h2 B.nx (V.gl j _ hj).1 hm h3 ha hb (V.gl j _ hj).2.2 (V.gl j _ hj).2.1 hs hs2 hpl
theorem B_len (hK : c.K = X.K) : B1 X c.K "len" .sh .new lenD := ⟨⟨_, _, cu_len, by rw [hK]; exact cv_len, PySem.boot_len⟩, nx_len⟩
theorem B_all (hK : c.K = X.K) (hc : X.calm = true) : B1 X c.K "all" .sh .new allD := ⟨⟨_, _, cr_all hc, by rw [hK]; exact cv_all, by decide +kernel⟩, nx_all⟩
theorem B_any (hK : c.K = X.K) (hc : X.calm = true) : B1 X c.K "any" .sh .new anyD := ⟨⟨_, _, cr_any hc, by rw [hK]; exact cv_any, by decide +kernel⟩, nx_any⟩
theorem B_sum (hK : c.K = X.K) (hc : X.calm = true) : B1 X c.K "sum" .sh .new sumD := ⟨⟨_, _, cr_sum hc, by rw [hK]; exact cv_sum, by decide +kernel⟩, nx_sum⟩
theorem B_min (hK : c.K = X.K) (hc : X.calm = true) : B1 X c.K "min" .sh .new minD := ⟨⟨_, _, cr_min hc, by rw [hK]; exact cv_min, by decide +kernel⟩, nx_min⟩
theorem B_max (hK : c.K = X.K) (hc : X.calm = true) : B1 X c.K "max" .sh .new maxD := ⟨⟨_, _, cr_max hc, by rw [hK]; exact cv_max, by decide +kernel⟩, nx_max⟩
theorem B_ord : B1 X c.K "ord" .sh .new ordD := ⟨⟨_, _, call_ord, cv_ord, by decide +kernel⟩, nx_ord⟩
theorem B_min2 (hc : X.calm = true) : B2 X c.K "min" .sh .new min2 := ⟨⟨_, _, call_min2 hc, cv_min2, by decide +kernel⟩, nx_min2⟩
theorem B_max2 (hc : X.calm = true) : B2 X c.K "max" .sh .new max2 := ⟨⟨_, _, call_max2 hc, cv_max2, by decide +kernel⟩, nx_max2⟩
theorem T_int : T1 X c.K "int" .sh .new intD := ⟨⟨_, _, call_int1, cv_int, by decide +kernel⟩, nx_int⟩
theorem T_list (hK : c.K = X.K) : T1 X c.K "list" .sh .new listLD := ⟨⟨_, _, call_list_of, by rw [hK]; exact cv_listL, by decide +kernel⟩, nx_listL⟩
theorem T_tuple (hK : c.K = X.K) : T1 X c.K "tuple" .sh .new tupleLD := ⟨⟨_, _, call_tuple_of, by rw [hK]; exact cv_tuple, by decide +kernel⟩, nx_tuple⟩
theorem tyB : ∀ T : Ty, bootBuiltins (Str.ofString (tyS T)) = some (.type (tyS T))
  | .int => by decide +kernel
  | .str => by decide +kernel
  | .bool => by decide +kernel
  | .list => by decide +kernel
  | .tuple => by decide +kernel
  | .dict => by decide +kernel
/-- isinstance(x, T) -/
theorem cIsi {T : Ty} {py : Pos} (j jT : Nat) (V : Scp X vis loc gls) (hK : c.K = X.K) (hj : gls[j]? = some ("isinstance" : Str)) (hm : X.mg "isinstance" = none) (hjT : gls[jT]? = some x) (hT : x = Str.ofString (tyS T)) (hmT : X.mg x = none) (ha : PE X a (qE c W own .sh m))
    (hs : starEach (a :: [.Name x py]) X.env = (false, eval a X.env) :: starEach [.Name x py] X.env := by rfl) (hs2 : starEach (.Name x py :: []) X.env = (false, eval (.Name x py) X.env) :: starEach [] X.env := by rfl) (hpl : (backTo pos (starEach [.Name x py] X.env)).any (·.1) = false := by rfl) :
    PE X (.Call (.Name "isinstance" p) [a, .Name x py] [] pos) (qE c W own .new (e1 (isTy T) m)) := q_isi hK (V.gl j _ hj).1 hm (V.gl jT _ hjT).1 hmT (by rw [hT]; exact tyB T) (V.gl jT _ hjT).2.2 (V.gl jT _ hjT).2.1 ha hs hs2 hpl
/-! ### calls of defs -/
theorem cDef {F : List Dat → R Dat} {f : Addr} {fd : FuncData} {ps : List Str} {lv k0 : Nat} (j : Nat) (V : Scp X vis loc gls) (G : FnOk X.prog X.w X.K X.mg X.base (L2.CX X.prog X.w) lv f fd ps (spM c.K c.EC n F)) (hn : (e :: es).length = n) (hr : Room k0 X.A) (hl : lv ≤ k0) (hj : gls[j]? = some x) (hm : X.mg x = some (.ref f)) (hk : PySem.W.keepIn X.K (.ref f) = true) (hb : Binds X.K fd ps []) (tk : Takes X W)
    (ha : PA X (e :: es) (qA c W own .frz ms)) (hlen : ∀ ρ ds, ms ρ = .ok ds → ds.length = n) (he : starEach (e :: es) X.env = (false, eval e X.env) :: starEach es X.env := by rfl) (hpl : (backTo pos (starEach es X.env)).any (·.1) = false := by rfl) :
    PE X (.Call (.Name x p) (e :: es) [] pos) (qE c W own .frz (eCall F ms)) := q_call G hn (hr.mono hl) (V.gl j _ hj).1 hm hk hb tk ha hlen (V.gl j _ hj).2.1 he hpl
theorem len_nil {ρ : Env} {ds : List Dat} (h : eNil ρ = .ok ds) : ds.length = 0 := by cases h; rfl
theorem len_cons {ρ : Env} {ds : List Dat} {n : Nat} (hr : ∀ ds, ms ρ = .ok ds → ds.length = n) (h : eCons m ms ρ = .ok ds) : ds.length = n + 1 := by
  unfold eCons at h
  cases q : m ρ with
  | ok x =>
    rw [q] at h
    simp only [PL.R.bnd_ok] at h
    cases q2 : ms ρ with
    | ok xs =>
      rw [q2] at h
      cases h
      simp [hr xs q2]
    | exc y => rw [q2] at h; cases h
    | bad => rw [q2] at h; cases h
  | exc y => rw [q] at h; cases h
  | bad => rw [q] at h; cases h
theorem ln0 : ∀ ρ ds, eNil ρ = .ok ds → ds.length = 0 := fun _ _ h => len_nil h
theorem lnS (h : ∀ ρ ds, ms ρ = .ok ds → ds.length = n) : ∀ ρ ds, eCons m ms ρ = .ok ds → ds.length = n + 1 := fun ρ _ q => len_cons (h ρ) q
/-! ### loops' sources -/
theorem iRa1 {k : Kd} (j : Nat) (V : Scp X vis loc gls) (hj : gls[j]? = some ("range" : Str)) (hm : X.mg "range" = none) (ha : PE X e (qE c W own k m)) (hs : starEach [e] X.env = [(false, eval e X.env)] := by rfl) : PI X tg (.Call (.Name "range" p) [e] [] pos) (qI c W own (iR1 m)) := qi_r1 (V.gl j _ hj).1 hm ha hs
theorem iRa2 {k : Kd} (j : Nat) (V : Scp X vis loc gls) (hj : gls[j]? = some ("range" : Str)) (hm : X.mg "range" = none) (ha : PE X e (qE c W own k m)) (hb : PE X b (qE c W own k m2)) (hs : starEach [e, b] X.env = [(false, eval e X.env), (false, eval b X.env)] := by rfl) (hs2 : starEach [b] X.env = [(false, eval b X.env)] := by rfl) : PI X tg (.Call (.Name "range" p) [e, b] [] pos) (qI c W own (iR2 m m2)) := qi_r2 (V.gl j _ hj).1 hm ha hb hs hs2
theorem iRa3 {k : Kd} {d : Expr} {m3 : EM} (j : Nat) (V : Scp X vis loc gls) (hj : gls[j]? = some ("range" : Str)) (hm : X.mg "range" = none) (ha : PE X e (qE c W own k m)) (hb : PE X b (qE c W own k m2)) (hd : PE X d (qE c W own k m3)) (hs : starEach [e, b, d] X.env = (false, eval e X.env) :: starEach [b, d] X.env := by rfl)
    (hs2 : starEach [b, d] X.env = (false, eval b X.env) :: starEach [d] X.env := by rfl) (hs3 : starEach [d] X.env = (false, eval d X.env) :: starEach [] X.env := by rfl) (hpl : (backTo pos (starEach [b, d] X.env)).any (·.1) = false := by rfl) : PI X tg (.Call (.Name "range" p) [e, b, d] [] pos) (qI c W own (iR3 m m2 m3)) := qi_r3 (V.gl j _ hj).1 hm ha hb hd hs hs2 hs3 hpl
theorem iEnuN {elts : List Expr} {kk : Nat} {tpos : Pos} (j : Nat) (V : Scp X vis loc gls) (hK : c.K = X.K) (hj : gls[j]? = some ("enumerate" : Str)) (hm : X.mg "enumerate" = none) (ha : PE X e (qE c W own .frz m)) (hs : starEach [e] X.env = [(false, eval e X.env)] := by rfl) : PI X (.Tuple elts kk tpos) (.Call (.Name "enumerate" p) [e] [] pos) (qI c W own (iEnumN m)) := qi_enum hK (V.gl j _ hj).1 hm ha hs
theorem iZi {elts : List Expr} {kk : Nat} {tpos : Pos} (j : Nat) (V : Scp X vis loc gls) (hK : c.K = X.K) (hj : gls[j]? = some ("zip" : Str)) (hm : X.mg "zip" = none) (ha : PE X e (qE c W own .frz m)) (hb : PE X b (qE c W own .frz m2)) (hs : starEach [e, b] X.env = (false, eval e X.env) :: starEach [b] X.env := by rfl) (hs2 : starEach [b] X.env = (false, eval b X.env) :: starEach [] X.env := by rfl)
    (hpl : (backTo pos (starEach [b] X.env)).any (·.1) = false := by rfl) : PI X (.Tuple elts kk tpos) (.Call (.Name "zip" p) [e, b] [] pos) (qI c W own (iZip m m2)) := qi_zip hK (V.gl j _ hj).1 hm ha hb hs hs2 hpl
end
end PL

set_option maxRecDepth 100000
set_option maxHeartbeats 4000000
namespace PL
open PySem PySem.Spec PyProof.Rows L2
set_option autoImplicit false

section
variable {X : Cx} {vis loc : List Nat} {gls : List Str} {c : Ct} {W : WX} {own own' own1 ownL ts : List Nat} {a b e : Expr} {es : List Expr} {m m1 m2 : EM} {ms : LM} {t : TM} {pos p p2 spos apos py tpos : Pos} {k : Kd} {x : Str} {i j n : Nat} {sm : SM} {g : GM} {src : LM} {tg : Expr} {iter elt : Expr} {ifs : List Expr} {scope : Scope} {ob : List (Str × Nat)} {vs : List Nat}
theorem sN (i : Nat) (V : Scp X vis loc gls) (hm : i ∈ loc) (hN : X.N[i]? = some x) (he : PE X e (qE c W own .new m)) (hs : swapsWith e (some (.Name x p2)) pos.line X.env = pure false := by rfl) (ho : own' = i :: own.filter (· != i)) :
    PS X (.Assign [.Name x p2] e pos) (qS c W own own' ownL (sNew i m)) := qs_new V.nd hN (V.loc i hm x hN).1 (V.loc i hm x hN).2 he hs ho
theorem sA (he : PE X e (qE c W own .frz m)) (hg : PG X tg (qG c own own' ts g)) (hs : swapsWithSole [tg] e pos.line X.env = pure false := by rfl) (hw : swappedStores [tg] e X.env = pure none := by rfl) (h1 : (assignEach [tg] X.env).map (·.2) = [assign tg X.env] := by rfl) : PS X (.Assign [tg] e pos) (qS c W own own' ownL (sAsg g m)) := qs_asg he hg hs hw h1
theorem sApd (i : Nat) (V : Scp X vis loc gls) (hm : i ∈ vis) (hN : X.N[i]? = some x) (hK : c.K = X.K) (hi : i ∈ own) (he : PE X e (qE c W own .frz m))
    (hbase : attributeBase (.Name x p) "append" X.env (eval (.Name x p) X.env) = eval (.Name x p) X.env := by rfl)
    (hfew : ((backTo pos (starEach (e :: []) X.env)).all (fun x => !x.1) && (backToKw pos (keywordEach [] X.env)).all (fun x => x.1.isSome)
      && decide ((e :: []).length + ([] : List Keyword).length + (if ([] : List Keyword).isEmpty then 0 else 1) < 30)) = true := by rfl)
    (hline : (apos.endLine == pos.line) = true := by rfl) (hst : starEach (e :: []) X.env = (false, eval e X.env) :: starEach [] X.env := by rfl) (hpl : (backTo pos (starEach [] X.env)).any (·.1) = false := by rfl)
    (hsw : swapsWith (.Call (.Attribute (.Name x p) "append" apos) [e] [] pos) none spos.line X.env = pure false := by rfl) :
    PS X (.Expr (.Call (.Attribute (.Name x p) "append" apos) [e] [] pos) spos) (qS c W own own ownL (sApp i m)) := qs_app hK hi (xT i V hm hN) he hbase hfew hline hst hpl hsw
theorem sPutE {kx : Expr} {mk : EM} (i : Nat) (V : Scp X vis loc gls) (hm : i ∈ vis) (hN : X.N[i]? = some x) (hu : X.A.units + 64 < cLine) (hi : i ∈ own) (hk : PE X kx (qE c W own .sh mk)) (he : PE X e (qE c W own .frz m))
    (hs : swapsWithSole [.Subscript (.Name x p) kx tpos] e pos.line X.env = pure false := by rfl) (hw : swappedStores [.Subscript (.Name x p) kx tpos] e X.env = pure none := by rfl)
    (h1 : (assignEach [.Subscript (.Name x p) kx tpos] X.env).map (·.2) = [assign (.Subscript (.Name x p) kx tpos) X.env] := by rfl)
    (ha : ∀ v, assign (.Subscript (.Name x p) kx tpos) X.env v = (do
      let ov ← holding [v] (eval (.Name x p) X.env)
      let iv ← holding [v, ov] (eval kx X.env)
      standAt tpos
      holding [v, ov, iv] (setItem ov iv v)
      release [v, ov, iv] []) := by intro _; rfl) : PS X (.Assign [.Subscript (.Name x p) kx tpos] e pos) (qS c W own own ownL (sPut i mk m)) := qs_put (Nat.lt_of_le_of_lt (by omega) hu) hi (xT i V hm hN) hk he hs hw h1 ha
theorem sAddE (i : Nat) (V : Scp X vis loc gls) (hm : i ∈ loc) (hN : X.N[i]? = some x) (hio : i ∉ own) (hn : c.xs.all (fun p => p.1 != i) = true) (he : PE X e (qE c W own .sh m)) : PS X (.AugAssign (.Name x p) .Add e pos) (qS c W own own ownL (sAug addF i m)) := qs_augAdd V.nd hN (V.loc i hm x hN).1 (V.loc i hm x hN).2 hio hn he
theorem sSubE (i : Nat) (V : Scp X vis loc gls) (hm : i ∈ loc) (hN : X.N[i]? = some x) (hio : i ∉ own) (hn : c.xs.all (fun p => p.1 != i) = true) (he : PE X e (qE c W own .sh m)) : PS X (.AugAssign (.Name x p) .Sub e pos) (qS c W own own ownL (sAug subD i m)) := qs_augSub V.nd hN (V.loc i hm x hN).1 (V.loc i hm x hN).2 hio hn he
/-! ### comprehensions -/
theorem own_all {vs own : List Nat} (hd : vs.all (fun j => own.all (· != j)) = true) : ∀ j ∈ vs, j ∉ own := fun j hj hj' => by
  rw [List.all_eq_true] at hd
  have := hd j hj
  rw [List.all_eq_true] at this
  simpa using this j hj'
theorem xLc {N : List Str} {vis1 loc1 : List Nat} {gls1 : List Str} (V : Scp X vis loc gls) (hc : X.calm = true) (hi : PI X tg iter (qI c W own src)) (ok : BlkOk X.N X.env.scope scope ob) (hv : ob.map (·.2) = vs) (hd : vs.all (fun j => own.all (· != j)) = true) (hV : scpC N scope vis1 loc1 gls1 = true) (hNN : X.N = N)
    (hg : ∀ (s : Shared) (H : Hp) (C : Addr) (cl : List (Str × Addr)) (fp : List Addr), Scp (X.blk s H scope (compEnvC scope cl C X.env) fp) vis1 loc1 gls1 → PG (X.blk s H scope (compEnvC scope cl C X.env) fp) tg (qG c own own vs g))
    (ht : ∀ (s : Shared) (H : Hp) (C : Addr) (cl : List (Str × Addr)) (fp : List Addr), Scp (X.blk s H scope (compEnvC scope cl C X.env) fp) vis1 loc1 gls1 → PTs (X.blk s H scope (compEnvC scope cl C X.env) fp) ifs (qT c W0 own t))
    (he : ∀ (s : Shared) (H : Hp) (C : Addr) (cl : List (Str × Addr)) (fp : List Addr), Scp (X.blk s H scope (compEnvC scope cl C X.env) fp) vis1 loc1 gls1 → PE (X.blk s H scope (compEnvC scope cl C X.env) fp) elt (qE c W0 own .frz m)) (hs : ∀ x, foldedSetIterable iter X.env x = pure x := by intro _; rfl) :
    PE X (.ListComp elt [⟨tg, iter, ifs, 0⟩] scope pos) (qE c W own .new (eComp src vs g t m)) := q_lc hc V.nd hi ok hv (own_all hd) (fun s H C cl fp => hg s H C cl fp (scp_blk hV hNN)) (fun s H C cl fp => ht s H C cl fp (scp_blk hV hNN)) (fun s H C cl fp => he s H C cl fp (scp_blk hV hNN)) hs
theorem sLc {N : List Str} {vis1 loc1 : List Nat} {gls1 : List Str} (i : Nat) (V : Scp X vis loc gls) (hNi : X.N[i]? = some x) (hyl : X.env.scope.names.lookup x = some .local) (hc : X.calm = true)
    (hsw : swapsWith (.ListComp elt [⟨tg, iter, ifs, 0⟩] scope pos) (some (.Name x py)) spos.line X.env = pure true) (hi : PI X tg iter (qI c W own src)) (ok : BlkOk X.N X.env.scope scope ob) (hv : ob.map (·.2) = vs) (hd : vs.all (fun j => own.all (· != j)) = true) (hV : scpC N scope vis1 loc1 gls1 = true) (hNN : X.N = N)
    (hg : ∀ (s : Shared) (H : Hp) (C : Addr) (cl : List (Str × Addr)) (fp : List Addr), Scp (X.blk s H scope (compEnvC scope cl C X.env) fp) vis1 loc1 gls1 → PG (X.blk s H scope (compEnvC scope cl C X.env) fp) tg (qG c own own vs g))
    (ht : ∀ (s : Shared) (H : Hp) (C : Addr) (cl : List (Str × Addr)) (fp : List Addr), Scp (X.blk s H scope (compEnvC scope cl C X.env) fp) vis1 loc1 gls1 → PTs (X.blk s H scope (compEnvC scope cl C X.env) fp) ifs (qT c W0 own t))
    (he : ∀ (s : Shared) (H : Hp) (C : Addr) (cl : List (Str × Addr)) (fp : List Addr), Scp (X.blk s H scope (compEnvC scope cl C X.env) fp) vis1 loc1 gls1 → PE (X.blk s H scope (compEnvC scope cl C X.env) fp) elt (qE c W0 own .frz m)) (ho : own' = i :: own.filter (· != i)) (hs : ∀ x, foldedSetIterable iter X.env x = pure x := by intro _; rfl) :
    PS X (.Assign [.Name x py] (.ListComp elt [⟨tg, iter, ifs, 0⟩] scope pos) spos) (qS c W own own' ownL (sNew i (eComp src vs g t m))) := qs_setLc hc V.nd hNi hyl hsw hi ok hv (own_all hd) (fun s H C cl fp => hg s H C cl fp (scp_blk hV hNN)) (fun s H C cl fp => ht s H C cl fp (scp_blk hV hNN)) (fun s H C cl fp => he s H C cl fp (scp_blk hV hNN)) hs ho
theorem okD {P : Program} {w : World} {K : KF} {mg : Str → Option Value} {base : Heap} {N : List Str} {qual : Str} {sc : Scope} {f : Addr} {cd : Value} {A : Around} {outer : List PySem.Env} {s : Shared} {H : Hp} {E : XK} (h : blkC N sc scope ob = true) :
    BlkOk (cxOf (L2.CX P w) P w K mg base N qual sc f cd A outer s H E).N (cxOf (L2.CX P w) P w K mg base N qual sc f cd A outer s H E).env.scope scope ob := blkOk_by h
theorem lcl_def {P : Program} {w : World} {K : KF} {mg : Str → Option Value} {base : Heap} {N : List Str} {qual : Str} {sc : Scope} {f : Addr} {cd : Value} {A : Around} {outer : List PySem.Env} {s : Shared} {H : Hp} {E : XK} (h : sc.names.lookup x = some .local) :
    (cxOf (L2.CX P w) P w K mg base N qual sc f cd A outer s H E).env.scope.names.lookup x = some .local := h
/-! ### is None as a test; loops -/
theorem qt_isN {jj : Nat} (ha : PE X a (qE c W own .sh m)) : PT X (.Compare a [.Is] [.Constant .none jj p2] pos) (qT c W own (tE (e1 isN m))) := (pt_cmp (pc_isN ha)).imp fun σ H Q ⟨Z, ρ, S, p⟩ => ⟨Z, ρ, S, (Post.bnd (Post.bnd p)).imp (fun d p1 v Z1 H1 x1 hv => by
  rw [(sh_non hv).1] at p1
  exact ⟨_, rfl, p1 Z1 H1 x1⟩) fun _ q => q⟩
theorem qt_notN {jj : Nat} (ha : PE X a (qE c W own .sh m)) : PT X (.Compare a [.IsNot] [.Constant .none jj p2] pos) (qT c W own (tE (e1 notN m))) := (pt_cmp (pc_notN ha)).imp fun σ H Q ⟨Z, ρ, S, p⟩ => ⟨Z, ρ, S, (Post.bnd (Post.bnd p)).imp (fun d p1 v Z1 H1 x1 hv => by
  rw [(sh_non hv).2] at p1
  exact ⟨_, rfl, p1 Z1 H1 x1⟩) fun _ q => q⟩
/-! ### own errors -/
/-- what is known of the classes of own errors -/
structure Errs (K : KF) (EC : Nat → Addr) (sub : Nat → Nat → Bool) : Prop where
  ex : ∀ n, ∃ bmB B newId initId, ExcBaseFacts B newId initId bmB ∧ PySem.W.excIn K (EC n) bmB newId = true
  keep : ∀ n, PySem.W.keepIn K (.ref (EC n)) = true
  top : ∀ n, PySem.W.subIn K (.ref (EC n)) (.type "BaseException") = some true
  ty : ∀ n, PySem.W.typeIn K (.ref (EC n)) = some (.type "type")
  exm : ∀ y n, PySem.W.exmOne K (.ref (EC y)) (.ref (EC n)) = some (sub y n)
  kit : ∀ y n, PySem.W.kitOne K (.ref (EC y)) (.ref (EC n)) = some (sub y n)
  cls : ∀ y, ExcC K (EC y)
  ve : ∀ y, PySem.W.kitOne K (.ref (EC y)) (.type "ValueError") = some true
theorem sRse {s : Str} {kk : Nat} {sub : Nat → Nat → Bool} (n j : Nat) (V : Scp X vis loc gls) (hc : X.calm = true) (tk : Takes X W) (Er : Errs X.K c.EC sub) (hj : gls[j]? = some x) (hm : X.mg x = some (.ref (c.EC n))) : PS X (.Raise (some (.Call (.Name x p) [.Constant (.str s) kk p2] [] pos)) none spos) (qS c W own own' ownL (sRaise n)) := by
  obtain ⟨bmB, B, newId, initId, F, q⟩ := Er.ex n
  exact qs_raise hc tk F q hm (Er.keep n) (raises_own (Er.top n) (Er.ty n)) (V.gl j _ hj).1 (V.gl j _ hj).2.1
/-! ### try -/
theorem sTryO {b₀ : Stmt} {body suite : List Stmt} {np pos' : Pos} {sub : Nat → Nat → Bool} {sa su : SM} (n j : Nat) (V : Scp X vis loc gls) (hs : X.stack = X.env :: X.outer) (hf : X.env.frame = some X.env.locals) (tk : Takes X W) (Er : Errs X.K c.EC sub) (hj : gls[j]? = some x) (hm : X.mg x = some (.ref (c.EC n)))
    (hb : ∀ (W' : WX) (pn : List (Addr × Obj)) (xe : Value → Shared → Prop), Scp (X.tr pn xe) vis loc gls → Takes (X.tr pn xe) W' → PassesOwn (model X.prog X.w) X.A X.env xe → PSs (X.tr pn xe) body (qS c W' own own' ownL sa))
    (hsu : ∀ (a : Addr) (oe : Obj) (y : Nat) (pn : List (Addr × Obj)), Scp (X.suite a ((a, oe) :: pn)) vis loc gls → Zc (.ref (c.EC y)) none oe → (∃ vs, oe.data = .fields vs) → PSs (X.suite a ((a, oe) :: pn)) (b₀ :: suite) (qS c W0 [] own' ownL su)) :
    PS X (.Try body [.ExceptHandler (some (.Name x np)) none (b₀ :: suite) pos'] [] [] pos) (qS c W own own' ownL (sTry [((fun y => sub y n), none, su)] sa)) :=
  qs_try_only hs hf ⟨(V.gl j _ hj).1, (V.gl j _ hj).2.1, .inl hm⟩ tk (fun y => Er.exm y n) (fun W' pn xe => hb W' pn xe (V.tr pn xe)) (fun a oe y pn => hsu a oe y pn (V.suite a _))
theorem sTryA {b₀ : Stmt} {body suite : List Stmt} {np pos' : Pos} {nn : Str} {sub : Nat → Nat → Bool} {sa su : SM} (i n j : Nat) (V : Scp X vis loc gls) (hs : X.stack = X.env :: X.outer) (hf : X.env.frame = some X.env.locals) (hN : X.N[i]? = some nn) (hln : X.env.kindOf nn = some .local) (tk : Takes X W) (Er : Errs X.K c.EC sub) (hj : gls[j]? = some x) (hm : X.mg x = some (.ref (c.EC n)))
    (hx : c.xs = none) (hio : i ∉ own') (hiL : i ∉ ownL)
    (hb : ∀ (W' : WX) (pn : List (Addr × Obj)) (xe : Value → Shared → Prop), Scp (X.tr pn xe) vis loc gls → Takes (X.tr pn xe) W' → PassesOwn (model X.prog X.w) X.A X.env xe → PSs (X.tr pn xe) body (qS c W' own own' ownL sa))
    (hsu : ∀ (a : Addr) (oe : Obj) (y : Nat) (pn : List (Addr × Obj)), Scp (X.suite a ((a, oe) :: pn)) vis loc gls → Zc (.ref (c.EC y)) none oe → (∃ vs, oe.data = .fields vs) → PSs (X.suite a ((a, oe) :: pn)) (b₀ :: suite) (qS (c.held i a y) W0 [] own' ownL su)) :
    PS X (.Try body [.ExceptHandler (some (.Name x np)) (some nn) (b₀ :: suite) pos'] [] [] pos) (qS c W own own' ownL (sTry [((fun y => sub y n), some i, su)] sa)) :=
  qs_try_as hs hf V.nd hN hln ⟨(V.gl j _ hj).1, (V.gl j _ hj).2.1, .inl hm⟩ tk (fun y => Er.exm y n) hx hio hiL (fun W' pn xe => hb W' pn xe (V.tr pn xe)) (fun a oe y pn => hsu a oe y pn (V.suite a _))
/-- isinstance(e, X) in a suite -/
theorem xIsx {A : Addr} {oe : Obj} {pn : List (Addr × Obj)} {y : Nat} {xe xc : Str} {pe' pc : Pos} {sub : Nat → Nat → Bool} (i n j jc : Nat) (V : Scp (X.suite A ((A, oe) :: pn)) vis loc gls) (hK : c.K = X.K) (hx : c.xs = some (i, A, y)) (hz : Zc (.ref (c.EC y)) none oe) (hf : ∃ vs, oe.data = .fields vs) (Er : Errs X.K c.EC sub)
    (hi : i ∈ vis) (hN : X.N[i]? = some xe) (hj : gls[j]? = some ("isinstance" : Str)) (hm : X.mg "isinstance" = none) (hjc : gls[jc]? = some xc) (hmc : X.mg xc = some (.ref (c.EC n)))
    (hs : starEach (.Name xe pe' :: [.Name xc pc]) X.env = (false, eval (.Name xe pe') X.env) :: starEach [.Name xc pc] X.env := by rfl) (hs2 : starEach (.Name xc pc :: []) X.env = (false, eval (.Name xc pc) X.env) :: starEach [] X.env := by rfl) (hpl : (backTo pos (starEach [.Name xc pc] X.env)).any (·.1) = false := by rfl) :
    PE (X.suite A ((A, oe) :: pn)) (.Call (.Name "isinstance" p) [.Name xe pe', .Name xc pc] [] pos) (qE c W own .new (e1 (isX sub n) (eV i))) :=
  q_isx hK hx hz hf (Er.cls y) hN (V.vis i hi xe hN).1 (V.vis i hi xe hN).2.1 (V.vis i hi xe hN).2.2 (V.gl j _ hj).1 hm (V.gl jc _ hjc).1 hmc (V.gl jc _ hjc).2.1 (fun y => Er.kit y n) hs hs2 hpl
/-! ### constants of the module -/
def ModC (K : KF) (mg : Str → Option Value) (x : Str) (d : Dat) : Prop := ∃ u v, mg x = some u ∧ RelV v u ∧ ∀ Z H, Rep K Z H v d
theorem xG {d : Dat} (j : Nat) (V : Scp X vis loc gls) (hj : gls[j]? = some x) (h : ModC c.K X.mg x d) : PE X (.Name x pos) (qE c W own .frz (eC d)) := by
  obtain ⟨u, v, h1, h2, h3⟩ := h
  exact q_glob (V.gl j _ hj).1 h1 h2 h3 (V.gl j _ hj).2.1
end
end PL

set_option maxRecDepth 100000
set_option maxHeartbeats 4000000
namespace PL
open PySem PySem.Spec PyProof.Rows L2
set_option autoImplicit false

section
variable {X : Cx} {vis loc : List Nat} {gls : List Str} {c : Ct} {W : WX} {own own' ownL : List Nat} {a b d o ee : Expr} {es : List Expr} {m m1 m2 m3 : EM} {pos p p2 apos : Pos} {x y z : Str} {i j k : Nat}
/-! ### a text's method with two arguments -/
def MtV2 (K : KF) (r : V → List V → Hp → VK → Prop) (f : Dat → Dat → Dat → R Dat) : Prop := ∀ (Z : ZS) (H Hs : Hp) (z : Str) (v u : V) (d e : Dat) (Q : VK), Trk Z H → Same Hs H → okS z.cps.toList → Sh K Z H v d → Sh K Z H u e →
  Post (f (.str z.cps.toList) d e) (Wnt K Z H Hs .new Q) (fun _ => False) → r (.str z) [v, u] H Q
theorem mt2_read {r : V → List V → Hp → VK → Prop} {f : Dat → Dat → Dat → R Dat} {σ : St} {H : Hp} {Q : VK} (hr : MtV2 c.K r f) (nx : ∀ x y z n, f x y z ≠ .exc n) (h : qE c W own .new (eM2 f m1 m2 m3) σ H Q) : tBM c.K "str" r (qE c W own .sh m1) (qA c W own .sh (eCons m2 (eCons m3 eNil))) σ H Q := by
  obtain ⟨Z, ρ, S, p⟩ := h
  refine ⟨Z, ρ, S, (Post.bnd p).imp (fun d p1 v Z1 H1 x1 hv => ?_) fun _ q => q⟩
  have hv : Sh c.K Z1 H1 v d := hv
  cases hv with
  | str z hz =>
    refine ⟨rfl, Z1, ρ, S.move x1, ?_⟩
    have p1 : Post ((m2 ρ).bnd fun y => (m3 ρ).bnd fun w => f (.str z.cps.toList) y w) _ _ := p1
    have p2 := Post.bnd p1
    unfold eCons eNil
    cases q : m2 ρ with
    | bad => rw [q] at p2; exact p2.elim
    | exc x => rw [q] at p2; exact PX.move x1 p2
    | ok d2 =>
      rw [q] at p2
      have p3 := Post.bnd p2
      rw [PL.R.bnd_ok]
      cases q2 : m3 ρ with
      | bad => rw [q2] at p3; exact p3.elim
      | exc x => rw [q2] at p3; exact PX.move x1 p3
      | ok d3 =>
        rw [q2] at p3
        intro vs Z2 H2 x2 hvs
        cases hvs with
        | cons h1 h2 =>
          cases h2 with
          | cons h2 h3 =>
            cases h3
            exact hr Z2 H2 H z _ _ d2 d3 Q x2.trk (x1.same.trans x2.same) hz h1 h2 ((Post.nox (nx _ d2 d3) p3).imp (fun w q w2 Z3 H3 x3 hw => q w2 Z3 H3 ((x1.trans x2).trans x3) hw) fun _ q => q)
  | _ => exact False.elim p1
theorem starts3_eq (x y : Str) {i : Int} (h : 0 ≤ i) : Txt.startswith3 x y i = (decide (i ≤ x.cps.toList.length) && begins y.cps.toList (x.cps.toList.drop i.toNat)) := by
  have e : fromIndex x.length i = i.toNat := by
    unfold fromIndex
    rw [if_neg (by omega)]
    omega
  unfold Txt.startswith3
  rw [e, Bool.eq_iff_iff, Bool.and_eq_true, Bool.and_eq_true, decide_eq_true_iff, decide_eq_true_iff, sub_iff, begins_iff]
  simp only [Str.length, List.length_drop, Array.length_toList]
  constructor
  · rintro ⟨h1, h2⟩
    exact ⟨by omega, by omega, h2⟩
  · rintro ⟨h1, h2, h3⟩
    exact ⟨by omega, h3⟩
theorem nx_startsAt : ∀ x y z n, startsAtD x y z ≠ .exc n := fun x y z n h => by
  unfold startsAtD at h
  split at h
  · split at h
    · split at h <;> cases h
    · cases h
  · cases h
theorem q_startsAt (hK : c.K = X.K) (ho : PE X o (qE c W own .sh m1)) (ha : PE X a (qE c W own .sh m2)) (hb : PE X b (qE c W own .sh m3))
    (hbase : attributeBase o "startswith" X.env (eval o X.env) = eval o X.env := by rfl)
    (hfew : ((backTo pos (starEach (a :: [b]) X.env)).all (fun x => !x.1) && (backToKw pos (keywordEach [] X.env)).all (fun x => x.1.isSome)
      && decide ((a :: [b]).length + ([] : List Keyword).length + (if ([] : List Keyword).isEmpty then 0 else 1) < 30)) = true := by rfl)
    (hline : (apos.endLine == pos.line) = true := by rfl) (hs : starEach (a :: [b]) X.env = (false, eval a X.env) :: starEach [b] X.env := by rfl) (hs2 : starEach (b :: []) X.env = (false, eval b X.env) :: starEach [] X.env := by rfl) (hplain : (backTo pos (starEach [b] X.env)).any (·.1) = false := by rfl) :
    PE X (.Call (.Attribute o "startswith" apos) [a, b] [] pos) (qE c W own .new (eM2 startsAtD m1 m2 m3)) :=
  (pe_bm PySem.F.plainAttrs_str PySem.F.slot_str_startswith PySem.F.type_str_startswith mt_startswith3 ho (qa_cons ha (qa_cons hb qa_nil hs2) hs) hbase hfew hline hs hplain).imp fun σ H Q h => by
    rw [← hK]
    refine mt2_read (fun Z H Hs z v u d e Q t s hz hv hu p => ?_) nx_startsAt h
    cases hv with
    | str y hy =>
      cases hu with
      | int i =>
        have p : Post (if 0 ≤ i then (if i ≤ z.cps.toList.length then R.ok (.bl (begins y.cps.toList (z.cps.toList.drop i.toNat))) else .ok (.bl false)) else .bad) (Wnt c.K Z H Hs .new Q) (fun _ => False) := p
        by_cases hi : 0 ≤ i
        · rw [if_pos hi] at p
          refine ⟨z, y, i, rfl, rfl, ?_⟩
          rw [starts3_eq z y hi]
          by_cases h2 : i ≤ z.cps.toList.length
          · rw [if_pos h2] at p
            rw [decide_eq_true h2, Bool.true_and]
            exact Wnt.bl t p
          · rw [if_neg h2] at p
            rw [decide_eq_false h2, Bool.false_and]
            exact Wnt.bl t p
        · rw [if_neg hi] at p
          exact p.elim
      | _ => exact False.elim p
    | _ => cases hu <;> exact False.elim p
/-! ### a, b = x, y of plain locals -/
theorem sPar2 {i j : Nat} {va vb : Expr} {px py pt pt2 : Pos} {kt k2 : Nat} (V : Scp X vis loc gls) (hc : X.calm = true) (hi : X.N[i]? = some x) (hj : X.N[j]? = some y) (hij : (i == j) = false) (hx : X.env.scope.names.lookup x = some .local) (hy : X.env.scope.names.lookup y = some .local)
    (ha : PE X va (qE c W own .frz m1)) (hb : PE X vb (qE c W own .frz m2)) (ho : own' = (own.filter (· != i)).filter (· != j))
    (hw : swappedStores [.Tuple [.Name x px, .Name y py] kt pt] (.Tuple [va, vb] k2 pt2) X.env = pure (some [x, y])) (hst : starEach (va :: [vb]) X.env = (false, eval va X.env) :: starEach [vb] X.env := by rfl) (hst2 : starEach (vb :: []) X.env = (false, eval vb X.env) :: starEach [] X.env := by rfl)
    (hs : swapsWithSole [.Tuple [.Name x px, .Name y py] kt pt] (.Tuple [va, vb] k2 pt2) pos.line X.env = pure false := by rfl) :
    PS X (.Assign [.Tuple [.Name x px, .Name y py] kt pt] (.Tuple [va, vb] k2 pt2) pos) (qS c W own own' ownL (sPar [i, j] (eCons m1 (eCons m2 eNil)))) := by
  subst ho
  have hij' : i ≠ j := by simpa using hij
  refine (ps_par hc V.nd hi hj hij' hx hy (qa_cons ha (qa_cons hb qa_nil hst2) hst) hw hs).imp fun D σ H ⟨Z, ρ, S, p⟩ => ⟨Z, ρ, S, ?_⟩
  refine (PostS.lft S p).imp (fun ds p1 vs Z1 H1 x1 hv => ?_) fun _ q => q
  by_cases hz : ds.length = [i, j].length ∧ [i, j].all (· < ρ.length) = true
  · rw [if_pos hz] at p1
    obtain ⟨h1, h2⟩ := hz
    simp only [List.all_cons, List.all_nil, Bool.and_true, Bool.and_eq_true, decide_eq_true_eq] at h2
    match ds, h1, hv, p1 with
    | [d, e], _, .cons r1 (.cons r2 .nil), p1 =>
      refine ⟨_, _, rfl, ?_⟩
      have S1 := S.move x1
      have S2 := S1.set (i := i) r1 h2.1
      have S3 := S2.set (i := j) r2 (by simpa using h2.2)
      exact p1 Z1 H1 _ x1.adv S3
  · rw [if_neg hz] at p1
    exact p1.elim
theorem sPar3 {i j l : Nat} {va vb vc : Expr} {px py pz pt pt2 : Pos} {kt k2 : Nat} (V : Scp X vis loc gls) (hc : X.calm = true) (hi : X.N[i]? = some x) (hj : X.N[j]? = some y) (hl : X.N[l]? = some z) (hij : (i == j) = false) (hil : (i == l) = false) (hjl : (j == l) = false)
    (hx : X.env.scope.names.lookup x = some .local) (hy : X.env.scope.names.lookup y = some .local) (hz : X.env.scope.names.lookup z = some .local)
    (ha : PE X va (qE c W own .frz m1)) (hb : PE X vb (qE c W own .frz m2)) (hd : PE X vc (qE c W own .frz m3)) (ho : own' = ((own.filter (· != i)).filter (· != j)).filter (· != l))
    (hw : swappedStores [.Tuple [.Name x px, .Name y py, .Name z pz] kt pt] (.Tuple [va, vb, vc] k2 pt2) X.env = pure (some [x, y, z])) (hst : starEach (va :: [vb, vc]) X.env = (false, eval va X.env) :: starEach [vb, vc] X.env := by rfl) (hst2 : starEach (vb :: [vc]) X.env = (false, eval vb X.env) :: starEach [vc] X.env := by rfl) (hst3 : starEach (vc :: []) X.env = (false, eval vc X.env) :: starEach [] X.env := by rfl)
    (hs : swapsWithSole [.Tuple [.Name x px, .Name y py, .Name z pz] kt pt] (.Tuple [va, vb, vc] k2 pt2) pos.line X.env = pure false := by rfl) :
    PS X (.Assign [.Tuple [.Name x px, .Name y py, .Name z pz] kt pt] (.Tuple [va, vb, vc] k2 pt2) pos) (qS c W own own' ownL (sPar [i, j, l] (eCons m1 (eCons m2 (eCons m3 eNil))))) := by
  subst ho
  have hij' : i ≠ j := by simpa using hij
  have hil' : i ≠ l := by simpa using hil
  have hjl' : j ≠ l := by simpa using hjl
  refine (ps_par3 hc V.nd hi hj hl hij' hil' hjl' hx hy hz (qa_cons ha (qa_cons hb (qa_cons hd qa_nil hst3) hst2) hst) hw hs).imp fun D σ H ⟨Z, ρ, S, p⟩ => ⟨Z, ρ, S, ?_⟩
  refine (PostS.lft S p).imp (fun ds p1 vs Z1 H1 x1 hv => ?_) fun _ q => q
  by_cases hz : ds.length = [i, j, l].length ∧ [i, j, l].all (· < ρ.length) = true
  · rw [if_pos hz] at p1
    obtain ⟨h1, h2⟩ := hz
    simp only [List.all_cons, List.all_nil, Bool.and_true, Bool.and_eq_true, decide_eq_true_eq] at h2
    match ds, h1, hv, p1 with
    | [d, e, f], _, .cons r1 (.cons r2 (.cons r3 .nil)), p1 =>
      refine ⟨_, _, _, rfl, ?_⟩
      have S1 := S.move x1
      have S2 := S1.set (i := i) r1 h2.1
      have S3 := S2.set (i := j) r2 (by simpa using h2.2.1)
      have S4 := S3.set (i := l) r3 (by simpa using h2.2.2)
      exact p1 Z1 H1 _ x1.adv S4
  · rw [if_neg hz] at p1
    exact p1.elim
end
end PL

set_option maxRecDepth 100000
set_option maxHeartbeats 4000000
namespace PL
open PySem PySem.Spec PyProof.Rows L2
set_option autoImplicit false

abbrev SuiteT := Addr → Value → Option Addr → TS
/-- the ends of a suite that holds an error in the slot i -/
def offD (i : Nat) (D : Ends) : Ends := { nx := fun σ' H' => D.nx (σ'.set i none) H', rt := D.rt, bk := fun σ' H' => D.bk (σ'.set i none) H', ct := fun σ' H' => D.ct (σ'.set i none) H' }
def wMix (K : KF) (Wo : WX) (D : Ends) : List (Value × Option Nat × SuiteT) → WX
  | [] => Wo
  | (cv, none, ts) :: r => fun cl dd σ H => ∃ yes, PySem.W.exmOne K cl cv = some yes ∧ (yes = true → ∀ q, H q = none → ts q cl dd D σ H) ∧ (yes = false → wMix K Wo D r cl dd σ H)
  | (cv, some i, ts) :: r => fun cl dd σ H => ∃ yes, PySem.W.exmOne K cl cv = some yes ∧ (yes = true → ∀ q, H q = none → ts q cl dd (offD i D) (σ.set i (some (.ref q))) H) ∧ (yes = false → wMix K Wo D r cl dd σ H)
/-- the clauses' suites -/
inductive MixOk (X : Cx) : List ExceptHandler → List (Value × Option Nat × SuiteT) → Prop
  | nil : MixOk X [] []
  | bare {x : Str} {cv : Value} {ts : SuiteT} {b₀ : Stmt} {su : List Stmt} {np hp : Pos} {hl : List ExceptHandler} {l : List (Value × Option Nat × SuiteT)} (nm : Names X x cv)
      (go : ∀ (q : Addr) (oe : Obj) (cl : Value) (dd : Option Addr) (pn : List (Addr × Obj)), Zc cl dd oe → (∃ vs, oe.data = .fields vs) → PSs (X.suite q ((q, oe) :: pn)) (b₀ :: su) (ts q cl dd)) (r : MixOk X hl l) :
      MixOk X (.ExceptHandler (some (.Name x np)) none (b₀ :: su) hp :: hl) ((cv, none, ts) :: l)
  | held {x n : Str} {i : Nat} {cv : Value} {ts : SuiteT} {b₀ : Stmt} {su : List Stmt} {np hp : Pos} {hl : List ExceptHandler} {l : List (Value × Option Nat × SuiteT)} (nm : Names X x cv) (hi : X.N[i]? = some n) (hn : X.env.kindOf n = some .local)
      (go : ∀ (q : Addr) (oe : Obj) (cl : Value) (dd : Option Addr) (pn : List (Addr × Obj)), Zc cl dd oe → (∃ vs, oe.data = .fields vs) → PSs (X.suite q ((q, oe) :: pn)) (b₀ :: su) (ts q cl dd)) (r : MixOk X hl l) :
      MixOk X (.ExceptHandler (some (.Name x np)) (some n) (b₀ :: su) hp :: hl) ((cv, some i, ts) :: l)
theorem ps_mix {X : Cx} {body : List Stmt} {h₀ : ExceptHandler} {hl : List ExceptHandler} {l : List (Value × Option Nat × SuiteT)} {pos : Pos} {tb : WX → TS} {Wo : WX} (stk : X.stack = X.env :: X.outer) (frm : X.env.frame = some X.env.locals) (nd : X.N.Nodup) (tk : Takes X Wo)
    (hb : ∀ (W : WX) (pn : List (Addr × Obj)) (xe : Value → Shared → Prop), Takes (X.tr pn xe) W → PassesOwn (model X.prog X.w) X.A X.env xe → PSs (X.tr pn xe) body (tb W)) (mx : MixOk X (h₀ :: hl) l) :
    PS X (.Try body (h₀ :: hl) [] [] pos) (fun D σ H => tb (wMix X.K Wo D l) D σ H) := by
  refine ⟨fun ps sh σ H D J0 h => ?_⟩
  have okx := J0.ok
  have fra : X.A.frames = some (X.env :: X.outer) := by rw [okx.frames, stk]
  let XE1 : Value → Shared → Prop := fun e z => wpAny (model X.prog X.w) X.A (noteFrame e X.env) (fun _ z2 => wpAny (model X.prog X.w) X.A (setFlight e none) (fun _ z3 => wpAny (model X.prog X.w) X.A (handleBy e X.env (h₀ :: hl)) (SP X ps D) X.xe z3) X.xe z2) X.xe z
  have caught : Takes (X.tr (X.pn ++ ps) XE1) (wMix X.K Wo D l) := by
    rintro u z ⟨q, B, zI, ps2, σ2, H2, cl, dd, rfl, Jt, nb, up, sky, na, os, ag, w⟩
    have J : Inv X ps σ2 H2 zI := Jt.ofTry okx
    have sk : Sky B (X.env :: X.outer) q (Zc cl dd) X.env.locals z.heap := by
      rw [← stk]
      exact sky
    show wpAny (model X.prog X.w) X.A (noteFrame (.ref q) X.env) _ _ _
    refine Sky.land Zc.steady fra frm sk fun g fl ug => ?_
    have J3 : Inv X ps σ2 H2 { z with heap := g } := J.landed nb fl.1 (up.trans ug) os ag
    obtain ⟨ob, vb, eb, zb, db⟩ := fl.there
    have apart : q ∉ frs (X.env :: X.outer) := fun hm => by
      obtain ⟨_, ob', e', ne⟩ := fl.2.2.1.mem hm
      rw [eb] at e'
      cases e'
      exact ne _ db
    have qL : q ≠ X.env.locals := fun z => apart (List.mem_filterMap.mpr ⟨X.env, List.mem_cons_self, by rw [frm, z]⟩)
    have qF : q ∉ X.fs := fun hm => by
      obtain ⟨e, he, z⟩ := List.mem_filterMap.mp hm
      exact apart (List.mem_filterMap.mpr ⟨e, List.mem_cons_of_mem _ he, z⟩)
    have S3 := J3.suite eb db na qL qF
    have typ : PySem.W.Looks (model X.prog X.w) g (typeOf (.ref q)) cl := fun A Q E s k hq => wpAny_typeOf_ref (k _ _ eb) (by rw [zb.1]; exact hq)
    -- the test of one clause
    have test : ∀ {x : Str} {np : Pos} {cv : Value} {Q : Value → Shared → Prop} {E : Value → Shared → Prop}, Names X x cv → Q cv { z with heap := g } → wpAny (model X.prog X.w) (X.A.mark (some (.ref q))) (eval (.Name x np) X.env) Q E { z with heap := g } := fun {x np cv Q E} nm hq => by
      obtain ⟨hg, hdbg, hm | ⟨hm, hv, hnn⟩⟩ := nm
      · exact ld_glob (X := X.suite q ((q, ob) :: (X.pn ++ ps))) S3 hg hm hq hdbg
      · exact ld_blt (X := X.suite q ((q, ob) :: (X.pn ++ ps))) S3 hg hm hv hq hnn hdbg
    have walk : ∀ {hl' : List ExceptHandler} {l' : List (Value × Option Nat × SuiteT)}, MixOk X hl' l' → wMix X.K Wo D l' cl dd σ2 H2 → wpAny (model X.prog X.w) X.A (handleBy (.ref q) X.env hl') (SP X ps D) X.xe { z with heap := g } := by
      intro hl' l' hk
      induction hk with
      | nil =>
        intro w
        refine wpAny_handleBy_nil ?_
        obtain ⟨_, _, _, oe, vs, T, oT, ts', he, hz, hd, h1, hr⟩ := id fl
        unfold PySem.passOn
        refine wpAny_bind (wpAny_field he hd h1 ?_)
        rw [if_neg (by simp : ¬ ((Value.ref T == Value.none) = true))]
        have out : wpAny (model X.prog X.w) X.A (setFlight (.ref q) X.env.frame) (fun _ z4 => wpAny (model X.prog X.w) X.A (throw (.ref q) : Sem Flow) (SP X ps D) X.xe z4) X.xe { z with heap := g } := by
          rw [frm]
          refine HandSPX.setFlight_upZ fl fun g2 k2 u2 => wpAny_throw (tk _ _ ?_)
          refine ⟨q, B, zI, ps, σ2, H2, cl, dd, rfl, J, nb, (up.trans ug).trans u2, .inr (.inr ?_), na, os, ag, w⟩
          rw [stk]
          exact k2
        first
          | exact wpAny_bind (wpAny_pure (wpAny_bind out))
          | exact wpAny_bind out
      | @bare x cv ts b₀ su np hp hl2 l2 nm go r ih =>
        rintro ⟨yes, e1, hy, hn⟩
        refine wpAny_handleBy_cons (codeAny_handlers_test ?_) (by intro k; cases k)
        refine test nm ((PySem.W.exm_one (M := model X.prog X.w) J3.kIn typ e1).here ?_)
        cases yes with
        | false =>
          show wpAny _ X.A (handleBy (.ref q) X.env hl2) _ _ _
          exact ih (hn rfl)
        | true =>
          refine codeAny_handlers_suite (HandSPX.lands_againZ fl fun g4 fl4 u4 => ?_)
          have J4 : Inv X ps σ2 H2 { z with heap := g4 } := J.landed nb fl4.1 ((up.trans ug).trans u4) os ag
          obtain ⟨o4, v4, e4, z4, d4⟩ := fl4.there
          have S4 := J4.suite e4 d4 na qL qF
          refine wpAny_mono ((go q o4 cl dd (X.pn ++ ps) z4 ⟨_, d4⟩).run [] _ _ H2 _ S4 (hy rfl q na)) (fun f y hy2 => ?_) (fun _ _ k => False.elim k)
          cases f with
          | ret u =>
            obtain ⟨v6, σ6, H6, S6, r6, q6⟩ := hy2
            exact ⟨_, _, _, S6.unsuite okx, r6, q6⟩
          | _ =>
            obtain ⟨σ6, H6, S6, q6⟩ := hy2
            exact ⟨_, _, S6.unsuite okx, q6⟩
      | @held x n i cv ts b₀ su np hp hl2 l2 nm hi hn0 go r ih =>
        rintro ⟨yes, e1, hy, hn⟩
        refine wpAny_handleBy_cons (codeAny_handlers_test ?_) (by intro k; cases k)
        refine test nm ((PySem.W.exm_one (M := model X.prog X.w) J3.kIn typ e1).here ?_)
        cases yes with
        | false =>
          show wpAny _ X.A (handleBy (.ref q) X.env hl2) _ _ _
          exact ih (hn rfl)
        | true =>
          refine codeAny_handlers_suite_as (HandSPX.lands_againZ fl fun g4 fl4 u4 => ?_)
          have J4 : Inv X ps σ2 H2 { z with heap := g4 } := J.landed nb fl4.1 ((up.trans ug).trans u4) os ag
          obtain ⟨o4, v4, e4, z4, d4⟩ := fl4.there
          have S4 := J4.suite e4 d4 na qL qF
          refine store_ok (X := X.suite q ((q, o4) :: (X.pn ++ ps))) (v := .ref q) S4 nd hi (.inl hn0) rfl (fun y5 S5 => ?_) (.inr hn0)
          refine wpAny_mono ((go q o4 cl dd (X.pn ++ ps) z4 ⟨_, d4⟩).run [] y5 _ H2 _ S5 (hy rfl q na)) (fun f y hy2 => ?_) (fun _ _ k => False.elim k)
          have gone : ∀ {σ6 : St} {H6 : Hp} {Q : Shared → Prop}, Inv (X.suite q ((q, o4) :: (X.pn ++ ps))) [] σ6 H6 y → (∀ y7, Inv X ps (σ6.set i none) H6 y7 → Q y7) → wpAny (model X.prog X.w) X.A (do bindName X.env n .none; unbindBehindTheSuite X.env n hp) (fun _ y7 => Q y7) X.xe y :=
            fun {σ6 H6 Q} S6 hq => gone_ok (S6.unsuite okx) nd hi hn0 hq
          cases f with
          | ret u =>
            obtain ⟨v6, σ6, H6, S6, r6, q6⟩ := hy2
            exact gone S6 fun y7 J7 => ⟨_, _, _, J7, r6, q6⟩
          | _ =>
            obtain ⟨σ6, H6, S6, q6⟩ := hy2
            exact gone S6 fun y7 J7 => ⟨_, _, J7, q6⟩
    exact walk mx w
  refine wpAny_Try_except ?_
  refine wpAny_mono ((hb (wMix X.K Wo D l) (X.pn ++ ps) XE1 caught PassesOwn.looking).run [] sh σ H D (J0.toTry _) h) (fun f z hz => ?_) (fun e z he => he)
  cases f with
  | next =>
    obtain ⟨σ', H', J', q⟩ := hz
    exact wpAny_execs_nil ⟨σ', H', J'.ofTry okx, q⟩
  | ret u =>
    obtain ⟨v, σ', H', J', r, q⟩ := hz
    exact ⟨v, σ', H', J'.ofTry okx, r, q⟩
  | _ =>
    obtain ⟨σ', H', J', q⟩ := hz
    exact ⟨σ', H', J'.ofTry okx, q⟩
/-- the clauses over their mirrors -/
inductive HdQ (X : Cx) (c : Ct) (own' ownL : List Nat) (sub : Nat → Nat → Bool) : List ExceptHandler → List (Value × Option Nat × SuiteT) → List ((Nat → Bool) × Option Nat × SM) → Prop
  | nil : HdQ X c own' ownL sub [] [] []
  | bare {x : Str} {n : Nat} {b₀ : Stmt} {su : List Stmt} {np hp : Pos} {sm : SM} {hl : List ExceptHandler} {l : List (Value × Option Nat × SuiteT)} {hs : List ((Nat → Bool) × Option Nat × SM)} (nm : Names X x (.ref (c.EC n)))
      (go : ∀ (a : Addr) (oe : Obj) (y : Nat) (pn : List (Addr × Obj)), Zc (.ref (c.EC y)) none oe → (∃ vs, oe.data = .fields vs) → PSs (X.suite a ((a, oe) :: pn)) (b₀ :: su) (qS c W0 [] own' ownL sm)) (r : HdQ X c own' ownL sub hl l hs) :
      HdQ X c own' ownL sub (.ExceptHandler (some (.Name x np)) none (b₀ :: su) hp :: hl) ((.ref (c.EC n), none, fun a cls d D σ H => ∃ y, cls = .ref (c.EC y) ∧ d = none ∧ qS c W0 [] own' ownL sm D σ H) :: l) (((fun y => sub y n), none, sm) :: hs)
  | held {x nn : Str} {i n : Nat} {b₀ : Stmt} {su : List Stmt} {np hp : Pos} {sm : SM} {hl : List ExceptHandler} {l : List (Value × Option Nat × SuiteT)} {hs : List ((Nat → Bool) × Option Nat × SM)} (nm : Names X x (.ref (c.EC n))) (hi : X.N[i]? = some nn) (hn : X.env.kindOf nn = some .local) (hio : i ∉ own') (hiL : i ∉ ownL)
      (go : ∀ (a : Addr) (oe : Obj) (y : Nat) (pn : List (Addr × Obj)), Zc (.ref (c.EC y)) none oe → (∃ vs, oe.data = .fields vs) → PSs (X.suite a ((a, oe) :: pn)) (b₀ :: su) (qS (c.held i a y) W0 [] own' ownL sm)) (r : HdQ X c own' ownL sub hl l hs) :
      HdQ X c own' ownL sub (.ExceptHandler (some (.Name x np)) (some nn) (b₀ :: su) hp :: hl) ((.ref (c.EC n), some i, fun a cls d D σ H => ∃ y, cls = .ref (c.EC y) ∧ d = none ∧ qS (c.held i a y) W0 [] own' ownL sm D σ H) :: l) (((fun y => sub y n), some i, sm) :: hs)
theorem HdQ.ok {X : Cx} {c : Ct} {W : WX} {own' ownL : List Nat} {sub : Nat → Nat → Bool} {hl : List ExceptHandler} {l : List (Value × Option Nat × SuiteT)} {hs : List ((Nat → Bool) × Option Nat × SM)} (h : HdQ X c own' ownL sub hl l hs) (hx : c.xs = none) (hex : ∀ y n, PySem.W.exmOne X.K (.ref (c.EC y)) (.ref (c.EC n)) = some (sub y n)) :
    MixOk X hl l ∧ ∀ (D : Ends) (y : Nat) (Z : ZS) (H : Hp) (σ : St) (ρ : Env), SE c [] Z H σ ρ → PostS c W own' ownL Z H D (hand hs y ρ) → wMix X.K W D l (.ref (c.EC y)) none σ H := by
  induction h with
  | nil => exact ⟨.nil, fun D y Z H σ ρ S q => q Z H σ .refl S⟩
  | @bare x n b₀ su np hp sm hl l hs nm go r ih =>
    refine ⟨.bare nm (fun a oe cl dd pn hz hd => suite_of fun y e1 e2 => by subst e1 e2; exact go a oe y pn hz hd) ih.1, fun D y Z H σ ρ S q => ⟨sub y n, hex y n, fun hy a ha => ⟨y, rfl, rfl, Z, ρ, S, ?_⟩, fun hy => ?_⟩⟩
    · unfold hand at q
      rw [if_pos hy] at q
      exact noEx_post q
    · unfold hand at q
      rw [if_neg (show ¬ sub y n = true by rw [hy]; exact Bool.false_ne_true)] at q
      exact ih.2 D y Z H σ ρ S q
  | @held x nn i n b₀ su np hp sm hl l hs nm hi hn hio hiL go r ih =>
    refine ⟨.held nm hi hn (fun a oe cl dd pn hz hd => suite_of fun y e1 e2 => by subst e1 e2; exact go a oe y pn hz hd) ih.1, fun D y Z H σ ρ S q => ⟨sub y n, hex y n, fun hy a ha => ⟨y, rfl, rfl, ?_⟩, fun hy => ?_⟩⟩
    · unfold hand at q
      rw [if_pos hy] at q
      by_cases hlt : i < ρ.length
      · rw [if_pos hlt] at q
        refine ⟨Z, ρ.set i (some (.exc y)), S.hold hx hlt, noEx_post (W := W) (own' := own') (ownL := ownL) ?_⟩
        match ho : noEx (sm (ρ.set i (some (.exc y)))) with
        | none => rw [ho] at q; exact q
        | some (.nx, ρ2) => rw [ho] at q; exact fun Z2 H2 σ2 a2 S2 => q Z2 H2 _ a2 (S2.letgo hio)
        | some (.ct, ρ2) => rw [ho] at q; exact fun Z2 H2 σ2 a2 S2 => q Z2 H2 _ a2 (S2.letgo hiL)
        | some (.bk, ρ2) => rw [ho] at q; exact fun Z2 H2 σ2 a2 S2 => q Z2 H2 _ a2 (S2.letgo hiL)
        | some (.rt d, ρ2) => rw [ho] at q; exact q
        | some (.ex z, ρ2) =>
          exfalso
          match h2 : sm (ρ.set i (some (.exc y))), ho with
          | none, ho => cases ho
          | some (.nx, _), ho => cases ho
          | some (.ct, _), ho => cases ho
          | some (.bk, _), ho => cases ho
          | some (.rt _, _), ho => cases ho
          | some (.ex _, _), ho => cases ho
      · rw [if_neg hlt] at q
        exact q.elim
    · unfold hand at q
      rw [if_neg (show ¬ sub y n = true by rw [hy]; exact Bool.false_ne_true)] at q
      exact ih.2 D y Z H σ ρ S q
section
variable {X : Cx} {vis loc : List Nat} {gls : List Str} {c : Ct} {W : WX} {own own' ownL : List Nat} {sub : Nat → Nat → Bool} {sa : SM} {body : List Stmt} {h₀ : ExceptHandler} {hl : List ExceptHandler} {l : List (Value × Option Nat × SuiteT)} {hs : List ((Nat → Bool) × Option Nat × SM)} {pos : Pos}
theorem sTryM (V : Scp X vis loc gls) (stk : X.stack = X.env :: X.outer) (frm : X.env.frame = some X.env.locals) (tk : Takes X W) (Er : Errs X.K c.EC sub) (hx : c.xs = none)
    (hb : ∀ (W' : WX) (pn : List (Addr × Obj)) (xe : Value → Shared → Prop), Scp (X.tr pn xe) vis loc gls → Takes (X.tr pn xe) W' → PassesOwn (model X.prog X.w) X.A X.env xe → PSs (X.tr pn xe) body (qS c W' own own' ownL sa)) (mx : HdQ X c own' ownL sub (h₀ :: hl) l hs) :
    PS X (.Try body (h₀ :: hl) [] [] pos) (qS c W own own' ownL (sTry hs sa)) := by
  have ok := mx.ok (W := W) hx Er.exm
  refine (ps_mix (tb := fun W' => qS c W' own own' ownL sa) (Wo := W) stk frm V.nd tk (fun W' pn xe => hb W' pn xe (V.tr pn xe)) ok.1).imp fun D σ H ⟨Z, ρ, S, p⟩ => ⟨Z, ρ, S, ?_⟩
  exact try_body (hs := hs) p fun y ρ' Z' H' σ' ad S' q => ok.2 D y Z' H' σ' ρ' S' q
theorem hdB {x : Str} {b₀ : Stmt} {su : List Stmt} {np hp : Pos} {sm : SM} (n j : Nat) (V : Scp X vis loc gls) (hj : gls[j]? = some x) (hm : X.mg x = some (.ref (c.EC n)))
    (go : ∀ (a : Addr) (oe : Obj) (y : Nat) (pn : List (Addr × Obj)), Scp (X.suite a ((a, oe) :: pn)) vis loc gls → Zc (.ref (c.EC y)) none oe → (∃ vs, oe.data = .fields vs) → PSs (X.suite a ((a, oe) :: pn)) (b₀ :: su) (qS c W0 [] own' ownL sm)) (r : HdQ X c own' ownL sub hl l hs) :
    HdQ X c own' ownL sub (.ExceptHandler (some (.Name x np)) none (b₀ :: su) hp :: hl) ((.ref (c.EC n), none, fun a cls d D σ H => ∃ y, cls = .ref (c.EC y) ∧ d = none ∧ qS c W0 [] own' ownL sm D σ H) :: l) (((fun y => sub y n), none, sm) :: hs) :=
  .bare ⟨(V.gl j _ hj).1, (V.gl j _ hj).2.1, .inl hm⟩ (fun a oe y pn => go a oe y pn (V.suite a _)) r
theorem hdH {x nn : Str} {b₀ : Stmt} {su : List Stmt} {np hp : Pos} {sm : SM} (i n j : Nat) (V : Scp X vis loc gls) (hj : gls[j]? = some x) (hm : X.mg x = some (.ref (c.EC n))) (hi : X.N[i]? = some nn) (hn : X.env.kindOf nn = some .local) (hio : i ∉ own') (hiL : i ∉ ownL)
    (go : ∀ (a : Addr) (oe : Obj) (y : Nat) (pn : List (Addr × Obj)), Scp (X.suite a ((a, oe) :: pn)) vis loc gls → Zc (.ref (c.EC y)) none oe → (∃ vs, oe.data = .fields vs) → PSs (X.suite a ((a, oe) :: pn)) (b₀ :: su) (qS (c.held i a y) W0 [] own' ownL sm)) (r : HdQ X c own' ownL sub hl l hs) :
    HdQ X c own' ownL sub (.ExceptHandler (some (.Name x np)) (some nn) (b₀ :: su) hp :: hl) ((.ref (c.EC n), some i, fun a cls d D σ H => ∃ y, cls = .ref (c.EC y) ∧ d = none ∧ qS (c.held i a y) W0 [] own' ownL sm D σ H) :: l) (((fun y => sub y n), some i, sm) :: hs) :=
  .held ⟨(V.gl j _ hj).1, (V.gl j _ hj).2.1, .inl hm⟩ hi hn hio hiL (fun a oe y pn => go a oe y pn (V.suite a _)) r
end
end PL

set_option maxRecDepth 100000
set_option maxHeartbeats 4000000
namespace PL
open PySem PySem.Spec PyProof.Rows L2
set_option autoImplicit false

section
variable {X : Cx} {c : Ct} {W : WX} {own own' vs : List Nat} {kx vx tg iter : Expr} {ifs : List Expr} {scope : Scope} {ob : List (Str × Nat)} {pos : Pos} {m ek ev : EM} {t : TM} {g : GM} {src : LM} {k : Kd} {vis loc : List Nat} {gls : List Str}
theorem compD_nx {ρ : Env} {y : Nat} : ∀ (ds : List Dat) (acc : List (Dat × Dat)), compD g t ek ev ρ ds acc ≠ .exc y
  | [], acc, h => by cases h
  | d :: r, acc, h => by
    unfold compD at h
    cases q1 : g d ρ with
    | exc z => rw [q1] at h; cases h
    | bad => rw [q1] at h; cases h
    | ok ρ1 =>
      rw [q1] at h
      simp only [noX, PL.R.bnd_ok] at h
      cases q2 : t ρ1 with
      | exc z => rw [q2] at h; cases h
      | bad => rw [q2] at h; cases h
      | ok b =>
        rw [q2] at h
        simp only [noX, PL.R.bnd_ok] at h
        cases b with
        | false => exact compD_nx r acc h
        | true =>
          simp only [if_true] at h
          cases q3 : ek ρ1 with
          | exc z => rw [q3] at h; cases h
          | bad => rw [q3] at h; cases h
          | ok k1 =>
            rw [q3] at h
            simp only [noX, PL.R.bnd_ok] at h
            cases q4 : ev ρ1 with
            | exc z => rw [q4] at h; cases h
            | bad => rw [q4] at h; cases h
            | ok v1 =>
              rw [q4] at h
              simp only [noX, PL.R.bnd_ok] at h
              split at h
              · exact compD_nx r _ h
              · cases h
theorem dc_read {σ : St} {H : Hp} {Q : VK} (hd : ∀ j ∈ vs, j ∉ own) (h : qE c W own .new (eDComp src vs g t ek ev) σ H Q) : tDc (qI c W own src) (qG c own own vs g) (qT c W0 own t) (qE c W0 own .sh ek) (qE c W0 own .frz ev) vs σ H Q := by
  obtain ⟨Z, ρ, S, p⟩ := h
  refine ⟨Z, ρ, S, (Post.bnd p).imp (fun ds p1 J Z1 H1 x1 it D hD => ?_) fun _ q => q⟩
  have S1 := S.move x1
  have hl1 : Ext Z1 H1 Z1 (upd H1 D (.dK [])) := .laid x1.trk hD
  have nD1 : ¬ Z1 D := fun z => by
    obtain ⟨u, q⟩ := x1.trk D z
    rw [hD] at q; cases q
  cases hc : compD g t ek ev (PL.wipe ρ vs) ds [] with
  | bad => rw [hc] at p1; exact p1.elim
  | exc y => exact absurd hc (compD_nx _ _)
  | ok total =>
    rw [hc] at p1
    have p2 : ∀ v Z' H', Ext Z H Z' H' → Val c.K Z' H' H .new v (.dic total) → Q v H' := p1
    refine ⟨fun i mm H' => ∃ Z' ks acc, Ext Z1 H1 Z' H' ∧ ¬ Z' D ∧ H' D = some (.dK ks) ∧ RepD c.K Z' H' ks acc ∧ i + mm = ds.length ∧ compD g t ek ev (PL.wipe ρ vs) (ds.drop i) acc = .ok total,
      ⟨ds.length, Z1, [], [], hl1, nD1, upd_same, .nil, by omega, by rw [List.drop_zero]; exact hc⟩, ?_⟩
    rintro i mm H' ⟨Z', ks, acc, x2, nD, hH, hr, hm, hcr⟩
    obtain ⟨h1, h2⟩ := it Z' H' x2.adv x2.trk i
    cases e : ds[i]? with
    | none =>
      have hl : ds.length ≤ i := List.getElem?_eq_none_iff.mp e
      rw [List.drop_of_length_le hl] at hcr
      cases hcr
      exact .inl ⟨h2 hl, p2 (.ref D) Z' H' (x1.trans x2) ⟨fun _ => ⟨D, rfl, nD, x1.same.free hD, ks, hH, hr⟩, fun z => by cases z⟩⟩
    | some d =>
      obtain ⟨hlt, hdd⟩ := List.getElem?_eq_some_iff.mp e
      rw [List.drop_eq_getElem_cons hlt, hdd] at hcr
      obtain ⟨go, yld⟩ := h1 d e
      refine .inr ⟨go, fun H3 => ∃ Z3 ks acc, Ext Z1 H1 Z3 H3 ∧ ¬ Z3 D ∧ H3 D = some (.dK ks) ∧ RepD c.K Z3 H3 ks acc ∧ compD g t ek ev (PL.wipe ρ vs) (ds.drop (i + 1)) acc = .ok total,
        fun H3 ⟨Z3, ks3, acc3, q1, q2, q3, q4, q5⟩ => ⟨mm - 1, by omega, Z3, ks3, acc3, q1, q2, q3, q4, by omega, q5⟩, fun x H2 y => ?_⟩
      obtain ⟨Z2, xx, rx⟩ := yld x H2 y
      have S2 := ((S1.move x2).move xx).wipe (vs := vs) hd
      have nD2 : ¬ Z2 D := xx.not hH nD
      have hH2 := xx.same _ _ hH
      have hr2 := hr.adv xx.adv
      have x12 := x2.trans xx
      unfold compD at hcr
      have P0 : Post ((noX (g d (PL.wipe ρ vs))).bnd fun ρ' => (noX (t ρ')).bnd fun b => if b then (noX (ek ρ')).bnd fun k => (noX (ev ρ')).bnd fun v => if isKey k ∧ acc.length < LINE then compD g t ek ev (PL.wipe ρ vs) (ds.drop (i + 1)) (dicPut acc k v) else .bad else compD g t ek ev (PL.wipe ρ vs) (ds.drop (i + 1)) acc) (fun z => z = total) (fun _ => False) := by
        rw [hcr]
        rfl
      refine ⟨Z2, PL.wipe ρ vs, d, S2, rx, (noX_post (Post.bnd P0)).imp (fun ρ1 P1 σ1 tch Sg => ⟨wipeS_eq tch, ?_⟩) fun _ q => q⟩
      refine ⟨Z2, ρ1, Sg, (noX_post (Post.bnd P1)).imp (fun b P2 Z4 H4 x4 => ?_) fun _ q => q.elim⟩
      cases b with
      | false =>
        simp only [Bool.false_eq_true, if_false] at P2 ⊢
        cases q : compD g t ek ev (PL.wipe ρ vs) (ds.drop (i + 1)) acc with
        | ok r2 =>
          rw [q] at P2
          have P2 : r2 = total := P2
          subst P2
          exact ⟨Z4, ks, acc, x12.trans x4, x4.not hH2 nD2, x4.same _ _ hH2, hr2.adv x4.adv, q⟩
        | exc z => rw [q] at P2; exact P2.elim
        | bad => rw [q] at P2; exact P2.elim
      | true =>
        simp only [if_true] at P2 ⊢
        refine ⟨Z4, ρ1, Sg.move x4, (noX_post (Post.bnd P2)).imp (fun k1 P3 v Z5 H5 x5 hv => ?_) fun _ q => q.elim⟩
        refine ⟨Z5, ρ1, (Sg.move x4).move x5, (noX_post (Post.bnd P3)).imp (fun v1 P4 w Z6 H6 x6 hw => ?_) fun _ q => q.elim⟩
        by_cases hk : isKey k1 = true ∧ acc.length < LINE
        · rw [if_pos hk] at P4
          cases q : compD g t ek ev (PL.wipe ρ vs) (ds.drop (i + 1)) (dicPut acc k1 v1) with
          | ok r2 =>
            rw [q] at P4
            have P4 : r2 = total := P4
            subst P4
            obtain ⟨kk, rfl, rfl, ok⟩ := kv_rep hv hk.1
            have x456 := (x4.trans x5).trans x6
            have hH6 := x456.same _ _ hH2
            have nD6 := x456.not hH2 nD2
            refine ⟨ks, kk, rfl, hH6, by rw [hr.len, ← line_eq]; exact hk.2, Z6, putK ks kk w, dicPut acc (kD kk) v1, (x12.trans x456).chg hD nD6, nD6, upd_same, ?_, q⟩
            exact (dic_put hw ok (hr2.adv x456.adv)).adv (.chg nD6)
          | exc z => rw [q] at P4; exact P4.elim
          | bad => rw [q] at P4; exact P4.elim
        · rw [if_neg hk] at P4
          exact P4.elim
theorem xDc {N : List Str} {vis1 loc1 : List Nat} {gls1 : List Str} (V : Scp X vis loc gls) (hc : X.calm = true) (hi : PI X tg iter (qI c W own src)) (ok : BlkOk X.N X.env.scope scope ob) (hv : ob.map (·.2) = vs) (hd : vs.all (fun j => own.all (· != j)) = true) (hV : scpC N scope vis1 loc1 gls1 = true) (hNN : X.N = N)
    (hg : ∀ (s : Shared) (H : Hp) (C : Addr) (cl : List (Str × Addr)) (fp : List Addr), Scp (X.blk s H scope (compEnvC scope cl C X.env) fp) vis1 loc1 gls1 → PG (X.blk s H scope (compEnvC scope cl C X.env) fp) tg (qG c own own vs g))
    (ht : ∀ (s : Shared) (H : Hp) (C : Addr) (cl : List (Str × Addr)) (fp : List Addr), Scp (X.blk s H scope (compEnvC scope cl C X.env) fp) vis1 loc1 gls1 → PTs (X.blk s H scope (compEnvC scope cl C X.env) fp) ifs (qT c W0 own t))
    (hk : ∀ (s : Shared) (H : Hp) (C : Addr) (cl : List (Str × Addr)) (fp : List Addr), Scp (X.blk s H scope (compEnvC scope cl C X.env) fp) vis1 loc1 gls1 → PE (X.blk s H scope (compEnvC scope cl C X.env) fp) kx (qE c W0 own .sh ek))
    (he : ∀ (s : Shared) (H : Hp) (C : Addr) (cl : List (Str × Addr)) (fp : List Addr), Scp (X.blk s H scope (compEnvC scope cl C X.env) fp) vis1 loc1 gls1 → PE (X.blk s H scope (compEnvC scope cl C X.env) fp) vx (qE c W0 own .frz ev)) (hs : ∀ x, foldedSetIterable iter X.env x = pure x := by intro _; rfl) :
    PE X (.DictComp kx vx [⟨tg, iter, ifs, 0⟩] scope pos) (qE c W own .new (eDComp src vs g t ek ev)) := by
  have h := pe_dc (pos := pos) hc V.nd hi ok (fun s H C cl fp => hg s H C cl fp (scp_blk hV hNN)) (fun s H C cl fp => ht s H C cl fp (scp_blk hV hNN)) (fun s H C cl fp => hk s H C cl fp (scp_blk hV hNN)) (fun s H C cl fp => he s H C cl fp (scp_blk hV hNN)) hs
  rw [hv] at h
  exact h.imp fun σ H Q hq => dc_read (own_all hd) hq
end
end PL

set_option maxRecDepth 100000
set_option maxHeartbeats 4000000
namespace PL
open PySem PySem.Spec PyProof.Rows L2
set_option autoImplicit false

section
variable {X : Cx} {c : Ct} {W : WX} {own own' vs vs1 : List Nat} {m e : EM} {t t1 : TM} {g g1 : GM} {src src1 : LM} {k : Kd}
theorem compL_nx {ρ : Env} {y : Nat} : ∀ ds : List Dat, compL g t m ρ ds ≠ .exc y
  | [], h => by cases h
  | d :: r, h => by
    unfold compL at h
    cases q1 : g d ρ with
    | exc z => rw [q1] at h; cases h
    | bad => rw [q1] at h; cases h
    | ok ρ1 =>
      rw [q1] at h
      simp only [noX, PL.R.bnd_ok] at h
      cases q2 : t ρ1 with
      | exc z => rw [q2] at h; cases h
      | bad => rw [q2] at h; cases h
      | ok b =>
        rw [q2] at h
        simp only [noX, PL.R.bnd_ok] at h
        cases b with
        | false => exact compL_nx r h
        | true =>
          simp only [if_true] at h
          cases q3 : m ρ1 with
          | exc z => rw [q3] at h; cases h
          | bad => rw [q3] at h; cases h
          | ok v1 =>
            rw [q3] at h
            simp only [noX, PL.R.bnd_ok] at h
            cases q4 : compL g t m ρ r with
            | ok ys => rw [q4] at h; cases h
            | exc z => exact compL_nx r q4
            | bad => rw [q4] at h; cases h
theorem compL2_nx {ρ : Env} {y : Nat} : ∀ ds : List Dat, compL2 g t src1 vs1 g1 t1 e ρ ds ≠ .exc y
  | [], h => by cases h
  | d :: r, h => by
    unfold compL2 at h
    cases q1 : g d ρ with
    | exc z => rw [q1] at h; cases h
    | bad => rw [q1] at h; cases h
    | ok ρ1 =>
      rw [q1] at h
      simp only [noX, PL.R.bnd_ok] at h
      cases q2 : t ρ1 with
      | exc z => rw [q2] at h; cases h
      | bad => rw [q2] at h; cases h
      | ok b =>
        rw [q2] at h
        simp only [noX, PL.R.bnd_ok] at h
        cases b with
        | false => exact compL2_nx r h
        | true =>
          simp only [if_true] at h
          cases q3 : src1 ρ1 with
          | exc z => rw [q3] at h; cases h
          | bad => rw [q3] at h; cases h
          | ok ds1 =>
            rw [q3] at h
            simp only [noX, PL.R.bnd_ok] at h
            cases q4 : compL g1 t1 e (PL.wipe ρ1 vs1) ds1 with
            | exc z => exact compL_nx ds1 q4
            | bad => rw [q4] at h; cases h
            | ok ys =>
              rw [q4] at h
              simp only [PL.R.bnd_ok] at h
              cases q5 : compL2 g t src1 vs1 g1 t1 e ρ r with
              | ok zs => rw [q5] at h; cases h
              | exc z => exact compL2_nx r q5
              | bad => rw [q5] at h; cases h
theorem Ext.under {Z Z6 Z9 : ZS} {H H6 H9 : Hp} {D : Addr} {o u : HO} (xe : Ext Z H Z6 (upd H6 D o)) (x : Ext Z6 H6 Z9 H9) (hD : H6 D = some u) : Ext Z H Z9 (upd H9 D o) where
  sub := fun a h => x.sub a (xe.sub a h)
  same := fun b v q => by
    have r := xe.same b v q
    by_cases hb : b = D
    · subst hb
      rw [upd_same] at r ⊢
      exact r
    · rw [upd_ne hb] at r ⊢
      exact x.same b v r
  trk := fun a h => by
    by_cases ha : a = D
    · subst ha; exact ⟨o, upd_same⟩
    · obtain ⟨v, q⟩ := x.trk a h
      exact ⟨v, by rw [upd_ne ha]; exact q⟩
  new := fun a h => by
    rcases x.new a h with z | z
    · exact xe.new a z
    · have ha : a ≠ D := fun q => by rw [q, hD] at z; cases z
      cases q : H a with
      | none => exact .inr rfl
      | some v =>
        have r := xe.same a v q
        rw [upd_ne ha, z] at r
        cases r
/-- the slots stay while one object D, of none of them, grows -/
theorem SE.past {Z Z' : ZS} {H H' : Hp} {σ : St} {ρ : Env} {D : Addr} (S : SE c own Z H σ ρ) (ad : Adv Z H Z' H') (ex : Ext c.Z0 c.H0 Z' H') (keep : ∀ a o, a ≠ D → H a = some o → H' a = some o) (nz : ∀ a o, H a = some o → ¬ Z a → ¬ Z' a) (nd : ∀ j ∈ own, σ[j]? ≠ some (some (.ref D))) : SE c own Z' H' σ ρ where
  ext := ex
  len := S.len
  val := fun i d e n nx => by
    obtain ⟨v, h, r⟩ := S.val i d e n nx
    exact ⟨v, h, r.adv ad⟩
  exc := S.exc
  ow := fun i hi => by
    obtain ⟨a, d, q1, q2, z, h0, tp⟩ := S.ow i hi
    have hne : a ≠ D := fun z => nd i hi (by rw [q2, z])
    obtain ⟨o, ho⟩ := tp.there
    refine ⟨a, d, q1, q2, nz a o ho z, h0, ?_⟩
    cases d with
    | lst ds => obtain ⟨xs, k, r⟩ := tp; exact ⟨xs, keep a _ hne k, r.adv ad⟩
    | dic ds => obtain ⟨xs, k, r⟩ := tp; exact ⟨xs, keep a _ hne k, r.adv ad⟩
    | _ => exact tp.elim
  inj := S.inj
theorem lc2_read {σ : St} {H : Hp} {Q : VK} (hd : ∀ j ∈ vs, j ∉ own) (hd1 : ∀ j ∈ vs1, j ∉ own) (h : qE c W own .new (eComp2 src vs g t src1 vs1 g1 t1 e) σ H Q) :
    tLc2 (qI c W own src) (qG c own own vs g) (qT c W0 own t) (qI c W0 own src1) (qG c own own vs1 g1) (qT c W0 own t1) (qE c W0 own .frz e) vs vs1 σ H Q := by
  obtain ⟨Z, ρ, S, p⟩ := h
  refine ⟨Z, ρ, S, (Post.bnd p).imp (fun ds p1 J Z1 H1 x1 it D hD => ?_) fun _ q => q⟩
  have S1 := S.move x1
  have hl1 : Ext Z1 H1 Z1 (upd H1 D (.lst [])) := .laid x1.trk hD
  have nD1 : ¬ Z1 D := fun z => by
    obtain ⟨u, q⟩ := x1.trk D z
    rw [hD] at q; cases q
  cases hc : compL2 g t src1 vs1 g1 t1 e (PL.wipe ρ vs) ds with
  | bad => rw [hc] at p1; exact p1.elim
  | exc y => exact absurd hc (compL2_nx _)
  | ok total =>
    rw [hc] at p1
    obtain ⟨hlen, p2⟩ := Post.ite (b := total.length ≤ LINE) p1
    refine ⟨fun i mm H' => ∃ Z' acc ys rest, Ext Z1 H1 Z' H' ∧ ¬ Z' D ∧ H' D = some (.lst acc) ∧ RepA c.K Z' H' acc ys ∧ i + mm = ds.length ∧ compL2 g t src1 vs1 g1 t1 e (PL.wipe ρ vs) (ds.drop i) = .ok rest ∧ total = ys ++ rest,
      ⟨ds.length, Z1, [], [], total, hl1, nD1, upd_same, .nil, by omega, by rw [List.drop_zero]; exact hc, rfl⟩, ?_⟩
    rintro i mm H' ⟨Z', acc, ys, rest, x2, nD, hH, hr, hm, hcr, ht⟩
    obtain ⟨h1, h2⟩ := it Z' H' x2.adv x2.trk i
    cases ed : ds[i]? with
    | none =>
      have hl : ds.length ≤ i := List.getElem?_eq_none_iff.mp ed
      rw [List.drop_of_length_le hl] at hcr
      cases hcr
      rw [List.append_nil] at ht
      subst ht
      exact .inl ⟨h2 hl, p2 (.ref D) Z' H' (x1.trans x2) ⟨fun _ => ⟨D, rfl, nD, x1.same.free hD, acc, hH, hr⟩, fun z => by cases z⟩⟩
    | some d =>
      obtain ⟨hlt, hdd⟩ := List.getElem?_eq_some_iff.mp ed
      rw [List.drop_eq_getElem_cons hlt, hdd] at hcr
      obtain ⟨go, yld⟩ := h1 d ed
      refine .inr ⟨go, fun H3 => ∃ Z3 acc ys rest, Ext Z1 H1 Z3 H3 ∧ ¬ Z3 D ∧ H3 D = some (.lst acc) ∧ RepA c.K Z3 H3 acc ys ∧ compL2 g t src1 vs1 g1 t1 e (PL.wipe ρ vs) (ds.drop (i + 1)) = .ok rest ∧ total = ys ++ rest,
        fun H3 ⟨Z3, acc3, ys3, rest3, q1, q2, q3, q4, q5, q6⟩ => ⟨mm - 1, by omega, Z3, acc3, ys3, rest3, q1, q2, q3, q4, by omega, q5, q6⟩, fun x H2 y => ?_⟩
      obtain ⟨Z2, xx, rx⟩ := yld x H2 y
      have S2 := ((S1.move x2).move xx).wipe (vs := vs) hd
      have nD2 : ¬ Z2 D := xx.not hH nD
      have hH2 := xx.same _ _ hH
      have hr2 := hr.adv xx.adv
      have x12 := x2.trans xx
      unfold compL2 at hcr
      have P0 : Post ((noX (g d (PL.wipe ρ vs))).bnd fun ρ' => (noX (t ρ')).bnd fun b => if b then (noX (src1 ρ')).bnd fun ds1 => (compL g1 t1 e (PL.wipe ρ' vs1) ds1).bnd fun ys => (compL2 g t src1 vs1 g1 t1 e (PL.wipe ρ vs) (ds.drop (i + 1))).bnd fun zs => .ok (ys ++ zs) else compL2 g t src1 vs1 g1 t1 e (PL.wipe ρ vs) (ds.drop (i + 1))) (fun z => z = rest) (fun _ => False) := by
        rw [hcr]
        rfl
      refine ⟨Z2, PL.wipe ρ vs, d, S2, rx, (noX_post (Post.bnd P0)).imp (fun ρ1 P1 σ1 tch Sg => ⟨wipeS_eq tch, ?_⟩) fun _ q => q⟩
      refine ⟨Z2, ρ1, Sg, (noX_post (Post.bnd P1)).imp (fun b P2 Z4 H4 x4 => ?_) fun _ q => q.elim⟩
      cases b with
      | false =>
        simp only [Bool.false_eq_true, if_false] at P2 ⊢
        cases q : compL2 g t src1 vs1 g1 t1 e (PL.wipe ρ vs) (ds.drop (i + 1)) with
        | ok r2 =>
          rw [q] at P2
          have P2 : r2 = rest := P2
          subst P2
          exact ⟨Z4, acc, ys, r2, x12.trans x4, x4.not hH2 nD2, x4.same _ _ hH2, hr2.adv x4.adv, rfl, ht⟩
        | exc z => rw [q] at P2; exact P2.elim
        | bad => rw [q] at P2; exact P2.elim
      | true =>
        simp only [if_true] at P2 ⊢
        have Sg4 := Sg.move x4
        refine ⟨Z4, ρ1, Sg4, (noX_post (Post.bnd P2)).imp (fun ds1 P3 J1 Z5 H5 x5 it1 => ?_) fun _ q => q.elim⟩
        have P3 := Post.bnd P3
        cases hc1 : compL g1 t1 e (PL.wipe ρ1 vs1) ds1 with
        | bad => rw [hc1] at P3; exact P3.elim
        | exc z => rw [hc1] at P3; exact P3.elim
        | ok inn =>
          rw [hc1] at P3
          have P3 := Post.bnd P3
          cases hc2 : compL2 g t src1 vs1 g1 t1 e (PL.wipe ρ vs) (ds.drop (i + 1)) with
          | bad => rw [hc2] at P3; exact P3.elim
          | exc z => rw [hc2] at P3; exact P3.elim
          | ok zs =>
            rw [hc2] at P3
            have P3 : inn ++ zs = rest := P3
            subst P3
            have Sg5 := Sg4.move x5
            have x45 := x4.trans x5
            have hH5 := x45.same _ _ hH2
            have nD5 := x45.not hH2 nD2
            have hr5 := hr2.adv x45.adv
            have x15 := x12.trans x45
            refine ⟨fun j kk H6 => ∃ Z6 acc6 ys6 rest6, Ext Z5 H5 Z6 (upd H6 D (.lst acc)) ∧ Ext Z1 H1 Z6 H6 ∧ Adv Z5 H5 Z6 H6 ∧ ¬ Z6 D ∧ H6 D = some (.lst acc6) ∧ RepA c.K Z6 H6 acc6 (ys ++ ys6) ∧ j + kk = ds1.length ∧ compL g1 t1 e (PL.wipe ρ1 vs1) (ds1.drop j) = .ok rest6 ∧ inn = ys6 ++ rest6,
              ⟨ds1.length, Z5, acc, [], inn, ?_, x15, .refl, nD5, hH5, by rw [List.append_nil]; exact hr5, by omega, by rw [List.drop_zero]; exact hc1, rfl⟩, ?_⟩
            · rw [show upd H5 D (.lst acc) = H5 from funext fun b => by
                by_cases hb : b = D
                · rw [hb, upd_same, hH5]
                · rw [upd_ne hb]]
              exact .refl Sg5.trk
            · rintro j kk H6 ⟨Z6, acc6, ys6, rest6, xe, x16, ad6, nD6, hH6, hr6, hm6, hc6, hi6⟩
              have nd : ∀ j ∈ own, σ1[j]? ≠ some (some (.ref D)) := fun j hj q => by
                have e1 : σ1[j]? = (L2.wipe σ vs)[j]? := tch.2 j fun hv => hd j hv hj
                rw [e1, wipeS_get, if_neg fun z => hd j z.1 hj] at q
                obtain ⟨a, d0, _, q2, _, _, tp⟩ := S1.ow j hj
                rw [q] at q2
                cases q2
                obtain ⟨o, ho⟩ := tp.there
                rw [hD] at ho
                cases ho
              have keep6 : ∀ a o, a ≠ D → H5 a = some o → H6 a = some o := fun a o hne q => by
                have := xe.same a o q
                rw [upd_ne hne] at this
                exact this
              have S6 : SE c own Z6 H6 σ1 ρ1 := Sg5.past (D := D) ad6 (S1.ext.trans x16) keep6 (fun a o q n z => by
                rcases xe.new a z with z | z
                · exact n z
                · rw [q] at z; cases z) nd
              obtain ⟨k1, k2⟩ := it1 Z6 H6 ad6 S6.trk j
              cases ej : ds1[j]? with
              | none =>
                have hl : ds1.length ≤ j := List.getElem?_eq_none_iff.mp ej
                rw [List.drop_of_length_le hl] at hc6
                cases hc6
                rw [List.append_nil] at hi6
                subst hi6
                exact .inl ⟨k2 hl, Z6, acc6, ys ++ inn, zs, x16, nD6, hH6, hr6, rfl, by rw [ht, List.append_assoc]⟩
              | some d1 =>
                obtain ⟨hlt1, hdd1⟩ := List.getElem?_eq_some_iff.mp ej
                rw [List.drop_eq_getElem_cons hlt1, hdd1] at hc6
                obtain ⟨go1, yld1⟩ := k1 d1 ej
                refine .inr ⟨go1, fun H7 => ∃ Z7 acc7 ys7 rest7, Ext Z5 H5 Z7 (upd H7 D (.lst acc)) ∧ Ext Z1 H1 Z7 H7 ∧ Adv Z5 H5 Z7 H7 ∧ ¬ Z7 D ∧ H7 D = some (.lst acc7) ∧ RepA c.K Z7 H7 acc7 (ys ++ ys7) ∧ compL g1 t1 e (PL.wipe ρ1 vs1) (ds1.drop (j + 1)) = .ok rest7 ∧ inn = ys7 ++ rest7,
                  fun H7 ⟨Z7, acc7, ys7, rest7, q1, q2, q3, q4, q5, q6, q7, q8⟩ => ⟨kk - 1, by omega, Z7, acc7, ys7, rest7, q1, q2, q3, q4, q5, q6, by omega, q7, q8⟩, fun x7 H7 y7 => ?_⟩
                obtain ⟨Z7, xx7, rx7⟩ := yld1 x7 H7 y7
                have S7 := (S6.move xx7).wipe (vs := vs1) hd1
                unfold compL at hc6
                have P0' : Post ((noX (g1 d1 (PL.wipe ρ1 vs1))).bnd fun ρ' => (noX (t1 ρ')).bnd fun b => if b then (noX (e ρ')).bnd fun y => (compL g1 t1 e (PL.wipe ρ1 vs1) (ds1.drop (j + 1))).bnd fun ys => .ok (y :: ys) else compL g1 t1 e (PL.wipe ρ1 vs1) (ds1.drop (j + 1))) (fun z => z = rest6) (fun _ => False) := by
                  rw [hc6]
                  rfl
                refine ⟨Z7, PL.wipe ρ1 vs1, d1, S7, rx7, (noX_post (Post.bnd P0')).imp (fun ρ2 P1' σ2 tch2 Sg2 => ⟨wipeS_eq tch2, ?_⟩) fun _ q => q⟩
                refine ⟨Z7, ρ2, Sg2, (noX_post (Post.bnd P1')).imp (fun b P2' Z8 H8 x8 => ?_) fun _ q => q.elim⟩
                have x68 := xx7.trans x8
                cases b with
                | false =>
                  simp only [Bool.false_eq_true, if_false] at P2' ⊢
                  cases q : compL g1 t1 e (PL.wipe ρ1 vs1) (ds1.drop (j + 1)) with
                  | ok r2 =>
                    rw [q] at P2'
                    have P2' : r2 = rest6 := P2'
                    subst P2'
                    exact ⟨Z8, acc6, ys6, r2, xe.under x68 hH6, x16.trans x68, ad6.trans x68.adv, x68.not hH6 nD6, x68.same _ _ hH6, hr6.adv x68.adv, rfl, hi6⟩
                  | exc z => rw [q] at P2'; exact P2'.elim
                  | bad => rw [q] at P2'; exact P2'.elim
                | true =>
                  simp only [if_true] at P2' ⊢
                  refine ⟨Z8, ρ2, Sg2.move x8, (noX_post (Post.bnd P2')).imp (fun y1 P3' v Z9 H9 x9 hv => ?_) fun _ q => q.elim⟩
                  have P3' := Post.bnd P3'
                  cases q : compL g1 t1 e (PL.wipe ρ1 vs1) (ds1.drop (j + 1)) with
                  | ok r2 =>
                    rw [q] at P3'
                    have P3' : y1 :: r2 = rest6 := P3'
                    subst P3'
                    have x69 := x68.trans x9
                    have hH9 := x69.same _ _ hH6
                    have nD9 := x69.not hH6 nD6
                    have al : acc6.length < sizeLine := by
                      rw [hr6.len, ← line_eq]
                      have hl2 := congrArg List.length ht
                      have hl3 := congrArg List.length hi6
                      simp only [List.length_append, List.length_cons] at hl2 hl3 ⊢
                      omega
                    refine ⟨acc6, hH9, al, Z9, acc6 ++ [v], ys6 ++ [y1], r2, ?_, (x16.trans x69).chg hD nD9, (ad6.trans x69.adv).trans (.chg nD9), nD9, upd_same, ?_, rfl, by rw [hi6]; simp⟩
                    · have u2 : upd (upd H9 D (.lst (acc6 ++ [v]))) D (.lst acc) = upd H9 D (.lst acc) := funext fun b => by
                        by_cases hb : b = D
                        · rw [hb, upd_same, upd_same]
                        · rw [upd_ne hb, upd_ne hb, upd_ne hb]
                      rw [u2]
                      exact xe.under x69 hH6
                    · rw [← List.append_assoc]
                      exact ((hr6.adv x69.adv).adv (.chg nD9)).append (.cons (Rep.adv (.chg nD9) hv) .nil)
                  | exc z => rw [q] at P3'; exact P3'.elim
                  | bad => rw [q] at P3'; exact P3'.elim
section
variable {N : List Str} {visB locB : List Nat} {glsB : List Str} {vis loc : List Nat} {gls : List Str} {elt tg iter tg1 iter1 : Expr} {ifs ifs1 : List Expr} {scope : Scope} {ob : List (Str × Nat)} {pos spos py : Pos} {i : Nat} {x : Str} {ownL : List Nat}
theorem xLc2 (V : Scp X vis loc gls) (hc : X.calm = true) (hi : PI X tg iter (qI c W own src)) (ok : BlkOk X.N X.env.scope scope ob) (hv : ob.map (·.2) = vs) (hv1 : vs1.all (fun j => vs.contains j) = true) (hd : vs.all (fun j => own.all (· != j)) = true) (hV : scpC N scope visB locB glsB = true) (hNN : X.N = N)
    (hg : ∀ (s : Shared) (H : Hp) (C : Addr) (cl : List (Str × Addr)) (fp : List Addr), Scp (X.blk s H scope (compEnvC scope cl C X.env) fp) visB locB glsB → PG (X.blk s H scope (compEnvC scope cl C X.env) fp) tg (qG c own own vs g))
    (ht : ∀ (s : Shared) (H : Hp) (C : Addr) (cl : List (Str × Addr)) (fp : List Addr), Scp (X.blk s H scope (compEnvC scope cl C X.env) fp) visB locB glsB → PTs (X.blk s H scope (compEnvC scope cl C X.env) fp) ifs (qT c W0 own t))
    (hi1 : ∀ (s : Shared) (H : Hp) (C : Addr) (cl : List (Str × Addr)) (fp : List Addr), Scp (X.blk s H scope (compEnvC scope cl C X.env) fp) visB locB glsB → PI (X.blk s H scope (compEnvC scope cl C X.env) fp) tg1 iter1 (qI c W0 own src1))
    (hg1 : ∀ (s : Shared) (H : Hp) (C : Addr) (cl : List (Str × Addr)) (fp : List Addr), Scp (X.blk s H scope (compEnvC scope cl C X.env) fp) visB locB glsB → PG (X.blk s H scope (compEnvC scope cl C X.env) fp) tg1 (qG c own own vs1 g1))
    (ht1 : ∀ (s : Shared) (H : Hp) (C : Addr) (cl : List (Str × Addr)) (fp : List Addr), Scp (X.blk s H scope (compEnvC scope cl C X.env) fp) visB locB glsB → PTs (X.blk s H scope (compEnvC scope cl C X.env) fp) ifs1 (qT c W0 own t1))
    (he : ∀ (s : Shared) (H : Hp) (C : Addr) (cl : List (Str × Addr)) (fp : List Addr), Scp (X.blk s H scope (compEnvC scope cl C X.env) fp) visB locB glsB → PE (X.blk s H scope (compEnvC scope cl C X.env) fp) elt (qE c W0 own .frz e))
    (hs : ∀ x, foldedSetIterable iter X.env x = pure x := by intro _; rfl) (hs1 : ∀ env x, foldedSetIterable iter1 env x = pure x := by intro _ _; rfl) :
    PE X (.ListComp elt [⟨tg, iter, ifs, 0⟩, ⟨tg1, iter1, ifs1, 0⟩] scope pos) (qE c W own .new (eComp2 src vs g t src1 vs1 g1 t1 e)) := by
  have sub : ∀ j ∈ vs1, j ∈ vs := fun j hj => by simpa using List.all_eq_true.mp hv1 j hj
  have h := pe_lc2 (pos := pos) (vs1 := vs1) hc V.nd hi ok (by rw [hv]; exact sub) (fun s H C cl fp => hg s H C cl fp (scp_blk hV hNN)) (fun s H C cl fp => ht s H C cl fp (scp_blk hV hNN)) (fun s H C cl fp => hi1 s H C cl fp (scp_blk hV hNN)) (fun s H C cl fp => hg1 s H C cl fp (scp_blk hV hNN)) (fun s H C cl fp => ht1 s H C cl fp (scp_blk hV hNN)) (fun s H C cl fp => he s H C cl fp (scp_blk hV hNN)) hs hs1
  rw [hv] at h
  have d := own_all hd
  exact h.imp fun σ H Q hq => lc2_read d (fun j hj => d j (sub j hj)) hq
end
end
end PL

set_option maxRecDepth 100000
set_option maxHeartbeats 4000000
namespace PL
open PySem PySem.Spec PyProof.Rows L2
set_option autoImplicit false

/-! ### the order of the model is ltT -/
theorem str_list (x : List Nat) : (⟨x.toArray⟩ : Str).cps.toList = x := by simp
mutual
theorem alk_py : ∀ x y : Dat, alk x y = true → PySem.W.alike (toPy x) (toPy y) = true
  | .int _, y, h => by cases y <;> first | rfl | (simp [alk] at h; done) | (simp [toPy, PySem.W.alike])
  | .str _, y, h => by cases y <;> first | rfl | (simp [alk] at h; done) | (simp [toPy, PySem.W.alike])
  | .tup xs, y, h => by
    cases y with
    | tup ys => simp only [toPy, PySem.W.alike]; exact alkL_py xs ys (by simpa [alk] using h)
    | _ => simp [alk] at h
  | .non, _, h => by simp [alk] at h
  | .bl _, _, h => by simp [alk] at h
  | .lst _, _, h => by simp [alk] at h
  | .dic _, _, h => by simp [alk] at h
  | .exc _, _, h => by simp [alk] at h
theorem alkL_py : ∀ x y : List Dat, alkL x y = true → PySem.W.alikeAll (toPyL x) (toPyL y) = true
  | [], _, _ => by simp [toPyL, PySem.W.alikeAll]
  | _ :: _, [], _ => by simp [toPyL, PySem.W.alikeAll]
  | x :: xs, y :: ys, h => by
    simp only [alkL, Bool.and_eq_true] at h
    simp only [toPyL, PySem.W.alikeAll, alk_py x y h.1, alkL_py xs ys h.2, Bool.and_self]
end
theorem cmpS_beq : ∀ x y : List Nat, (cmpS x y == .eq) = (x == y) := fun x y => by
  rw [Bool.eq_iff_iff, beq_iff_eq, beq_iff_eq]
  exact ⟨cmpS_eq x y, fun e => by subst e; exact cmpS_self x⟩
theorem beq_str (x y : List Nat) : ((⟨x.toArray⟩ : Str) == ⟨y.toArray⟩) = (x == y) := by
  rw [Bool.eq_iff_iff, beq_iff_eq, beq_iff_eq]
  constructor
  · intro q
    injection q with q
    simpa using congrArg Array.toList q
  · intro q
    subst q
    rfl
mutual
theorem lt_py : ∀ x y : Dat, alk x y = true → PyData.eqv (toPy x) (toPy y) = (cmpT x y == .eq) ∧ PySem.W.dataLt (toPy x) (toPy y) = (cmpT x y == .lt)
  | .int i, y, h => by
    cases y with
    | int j =>
      simp only [toPy, cmpT]
      refine ⟨?_, ?_⟩
      · rw [PyData.eqv, Bool.eq_iff_iff, beq_iff_eq, beq_iff_eq]; exact Int.compare_eq_eq.symm
      · rw [PySem.W.dataLt_int, Bool.eq_iff_iff, beq_iff_eq, decide_eq_true_iff]; exact Int.compare_eq_lt.symm
    | _ => simp [alk] at h
  | .str x, y, h => by
    cases y with
    | str y =>
      simp only [toPy, cmpT]
      refine ⟨?_, ?_⟩
      · rw [PyData.eqv, cmpS_beq]; exact beq_str x y
      · rw [PySem.W.dataLt_str, str_list, str_list]; exact (cmpS_lt x y).symm
    | _ => simp [alk] at h
  | .tup xs, y, h => by
    cases y with
    | tup ys =>
      simp only [toPy, cmpT]
      have q := ltL_py xs ys (by simpa [alk] using h)
      exact ⟨by rw [PyData.eqv]; exact q.1, by rw [PySem.W.dataLt_tuple]; exact q.2⟩
    | _ => simp [alk] at h
  | .non, _, h => by simp [alk] at h
  | .bl _, _, h => by simp [alk] at h
  | .lst _, _, h => by simp [alk] at h
  | .dic _, _, h => by simp [alk] at h
  | .exc _, _, h => by simp [alk] at h
theorem ltL_py : ∀ x y : List Dat, alkL x y = true → PyData.eqvAll (toPyL x) (toPyL y) = (cmpL x y == .eq) ∧ PyProof.Rows.lexLt itemOrd (PySem.W.keyToksAll (toPyL x)) (PySem.W.keyToksAll (toPyL y)) = (cmpL x y == .lt)
  | [], [], _ => ⟨rfl, lex_irrefl _⟩
  | [], y :: ys, _ => by
    simp only [toPyL, cmpL, PyData.eqvAll, PySem.W.keyToksAll]
    refine ⟨rfl, ?_⟩
    rw [lex_diff (O := itemOrd) (by simp)]
    rfl
  | x :: xs, [], _ => by
    simp only [toPyL, cmpL, PyData.eqvAll, PySem.W.keyToksAll]
    refine ⟨rfl, ?_⟩
    rw [lex_diff (O := itemOrd) (by simp)]
    rfl
  | x :: xs, y :: ys, h => by
    simp only [alkL, Bool.and_eq_true] at h
    obtain ⟨a1, a2⟩ := lt_py x y h.1
    obtain ⟨b1, b2⟩ := ltL_py xs ys h.2
    simp only [toPyL, cmpL]
    rw [PySem.W.eqv_all_cons, PySem.W.dataLt_cons (alk_py x y h.1), a1, a2, b1, b2]
    cases cmpT x y <;> cases cmpL xs ys <;> exact ⟨rfl, rfl⟩
end
theorem dataLe_leT {ps : List (V × Dat)} (h : ∀ p ∈ ps, ∀ q ∈ ps, alk p.2 q.2 = true) : (ps.mergeSort (PySem.W.dataLe false fun p => toPy p.2)).map (·.2) = sortL (ps.map (·.2)) := by
  unfold sortL
  refine PySem.W.sort_maps (fun p : V × Dat => p.2) fun a ha b hb => ?_
  rw [PySem.W.dataLe_eq]
  show (!PySem.W.dataLt (toPy b.2) (toPy a.2)) = leT a.2 b.2
  rw [(lt_py _ _ (h b hb a ha)).2]
  rfl

/-! ### the calls -/
section
variable {X : Cx}
def rSortedX (X : Cx) : List V → Hp → VK → Prop := fun vs H Q => ∃ (a : Addr) (ps : List (V × Dat)), vs = [V.ref a] ∧ SqL X.K H a (ps.map (·.1)) ∧ (∀ p ∈ ps, Dp X.K H p.1 (toPy p.2)) ∧ (∀ p ∈ ps, (toPy p.2).depth ≤ DEEP) ∧
  PySem.W.AllAlike (ps.map fun p => toPy p.2) ∧ PySem.W.Sortable (ps.map fun p => toPy p.2) ∧ ∀ p, H p = none → Q (.ref p) (upd H p (.lst ((ps.mergeSort (PySem.W.dataLe false fun p => toPy p.2)).map (·.1))))
theorem vals_each : ∀ {ps : List (V × Dat)} {us : List Value}, Vals (ps.map (·.1)) us → PySem.W.EachIs (fun u (p : V × Dat) => RelV p.1 u) us ps
  | [], us, h => by
    rw [List.map_nil] at h
    cases h
    exact .nil
  | p :: ps, us, h => by
    rw [List.map_cons] at h
    cases h with
    | cons h t => exact .cons h (vals_each t)
theorem each_vals : ∀ {ps : List (V × Dat)} {us : List Value}, PySem.W.EachIs (fun u (p : V × Dat) => RelV p.1 u) us ps → Vals (ps.map (·.1)) us
  | [], us, h => by
    cases h
    exact .nil
  | p :: ps, us, h => by
    cases h with
    | cons h t => rw [List.map_cons]; exact .cons h (each_vals t)
theorem each_reads {pins : List (Addr × Obj)} {σ : St} {H : Hp} {s : Shared} (I : Inv X pins σ H s) : ∀ {ps : List (V × Dat)} {us : List Value}, PySem.W.EachIs (fun u (p : V × Dat) => RelV p.1 u) us ps → (∀ p ∈ ps, Dp X.K H p.1 (toPy p.2)) → PySem.W.EachIs (fun u (p : V × Dat) => ∃ as, Reads s.heap u (toPy p.2) as) us ps
  | _, _, .nil, _ => .nil
  | _, _, .cons h t, d => .cons (Dp.reads I _ _ _ (d _ List.mem_cons_self) h) (each_reads I t fun p hp => d p (List.mem_cons_of_mem _ hp))
theorem cr_sortedX (hu : X.A.units + 64 < cLine) : CallR X (.builtin "sorted") (rSortedX X) := by
  intro pins s σ H vs us Q I r h
  obtain ⟨a, ps, rfl, hs, hd, hdp, hal, hk, q⟩ := h
  obtain ⟨its, rv, hl, hz⟩ := I.list hs
  rw [Vals.ref1 r]
  have e := vals_each rv
  have hz2 : ps.length ≤ sizeLine := by rw [List.length_map] at hz; exact hz
  refine PySem.W.sorted_data (R := fun u (p : V × Dat) => RelV p.1 u) (enc := fun p => toPy p.2) (bs := ps) hl.isList e (each_reads I e hd) hal hk hz2 (fun p hp => ?_) fun out ho eo => ?_
  · have := hdp p hp
    have h40 : DEEP = 40 := rfl
    omega
  · obtain ⟨ep, he'⟩ := PyProof.Rows.sortedAll_at s.heap its out.toArray
    have rv' := each_vals eo
    have hlen : ((ps.mergeSort (PySem.W.dataLe false fun p => toPy p.2)).map (·.1)).length ≤ sizeLine := by
      rw [List.length_map, List.length_mergeSort]
      exact hz2
    exact ⟨.ref _, upd H (s.heap.objs.size + 1) (.lst ((ps.mergeSort (PySem.W.dataLe false fun p => toPy p.2)).map (·.1))), I.laid (t' := s.toks) (fun _ _ => PyProof.Rows.sortedAll_old) (Nat.le_succ _) ⟨hlen, out, ep, rv', he'⟩, rfl, q _ (I.hok.fresh (Nat.le_succ _))⟩

/-- the keys of a dict, as values and as data -/
def keyPs (kvs : List (Key × V)) : List (V × Dat) := kvs.map fun kv => (kV kv.1, kD kv.1)
theorem keyPs_fst (kvs : List (Key × V)) : (keyPs kvs).map (·.1) = kvs.map fun kv => kV kv.1 := by unfold keyPs; rw [List.map_map]; rfl
theorem keyPs_snd (kvs : List (Key × V)) : (keyPs kvs).map (·.2) = kvs.map fun kv => kD kv.1 := by unfold keyPs; rw [List.map_map]; rfl
theorem key_dp {K : KF} {H : Hp} (k : Key) : Dp K H (kV k) (toPy (kD k)) ∧ (toPy (kD k)).depth = 0 := by
  cases k with
  | inl i => exact ⟨.int i, by simp [kD, toPy, PyData.depth]⟩
  | inr x => exact ⟨Dp.str x, by simp [kD, toPy, PyData.depth]⟩
def rSortedD (H0 : Unit) : List V → Hp → VK → Prop := fun xs H Q => ∃ (a : Addr) (kvs : List (Key × V)), xs = [.ref a] ∧ H a = some (.dK kvs) ∧ PySem.W.AllAlike ((keyPs kvs).map fun p => toPy p.2) ∧ PySem.W.Sortable ((keyPs kvs).map fun p => toPy p.2) ∧
  ∀ p, H p = none → Q (.ref p) (upd H p (.lst (((keyPs kvs).mergeSort (PySem.W.dataLe false fun p => toPy p.2)).map (·.1))))
theorem cr_sortedDX (hcalm : X.calm = true) (hu : X.A.units + 64 < cLine) : CallR X (.builtin "sorted") (rSortedD ()) := by
  intro pins s σ H xs us Q I r q
  obtain ⟨a, kvs, ex, hd, hal, hk, q⟩ := q
  subst ex
  obtain ⟨u, eu, rx⟩ := vals1 r
  subst eu
  cases rx
  obtain ⟨z, lo, vs, rel, dd⟩ := dk_rd I.hok (.inl hd)
  obtain ⟨ep, hat⟩ := dd.dictAt
  have ek : (keyPs kvs).map (·.1) = vs.map fun p => kV p.1 := by
    rw [keyPs_fst]
    have e := congrArg (List.map kV) rel.keys
    rw [List.map_map, List.map_map] at e
    exact e
  have hl : vs.length = kvs.length := by
    have e := congrArg List.length rel.keys
    rw [List.length_map, List.length_map] at e
    exact e.symm
  have h16 : vs.length ≤ sizeLine := by rw [hl]; exact z
  refine Calls.call_function_entry PyProof.Rows.kind_sorted PyProof.Rows.plain_sorted PyProof.Rows.entry_sorted (PyProof.Rows.args_sorted1 _) ?_
  unfold Builtin.«sorted»
  refine wpAny_bind (m := checkCount "sorted" 1 1 _) (wpAny_pure ?_)
  refine wpAny_bind (PySem.W.kdu_collect (A := X.A.in1) (PySem.W.kdl_dict (knd := mixKind X.prog X.w) (kvs := vs) (ep := ep) lo) (I.ok.hd hcalm) hat h16 fun h' tk acc hkp hacc => ?_)
  have hal2 : acc.toList.length = vs.length := by rw [Array.length_toList, hacc.1]
  have hv : Vals (vs.map fun p => kV p.1) acc.toList := keys_at hal2 fun j v e => hacc.2 j v (by rw [← Array.getElem?_toList]; exact e)
  rw [← ek] at hv
  have e := vals_each hv
  have I1 : Inv X pins σ H { s with heap := h', toks := tk } := I.kept hkp
  have hzl : acc.toList.length ≤ sizeLine := by rw [hal2]; exact h16
  refine wpAny_bind (wpAny_newList ?_ (by simpa using hzl))
  have hoL : (h'.push (seqObj "list" acc.toList.toArray 0)).get? h'.objs.size = some (seqObj "list" acc.toList.toArray 0) := Heap.get?_push_size _ rfl
  show wpAny _ _ _ _ _ { s with heap := h'.push (seqObj "list" acc.toList.toArray 0), toks := tk }
  have er := each_reads I1 e fun p hp => by
    unfold keyPs at hp
    obtain ⟨kv, _, rfl⟩ := List.mem_map.mp hp
    exact (key_dp kv.1).1
  have er' : PySem.W.EachIs (fun u (p : V × Dat) => ∃ as, Reads (PySem.W.sortingHeap (h'.push (seqObj "list" acc.toList.toArray 0)) h'.objs.size acc.toList) u (toPy p.2) as) acc.toList (keyPs kvs) := er.mono fun _ _ ⟨as, r⟩ => ⟨as, PyProof.Rows.Reads.keeps (fun b o eb => PySem.W.sortingHeap_old (Nat.ne_of_lt (Heap.lt_size eb)) (Heap.get?_push_of_some _ eb)) r⟩
  refine wpAny_bind (wpAny_holding (wpAny_call_entry PyProof.Rows.slot_list_sort ⟨_, hoL, rfl⟩ PyProof.Rows.entry_list_sort
    (PySem.W.list_sort_vals (s := { s with heap := h'.push (seqObj "list" acc.toList.toArray 0), toks := tk }) hoL
      (PySem.W.SortsAt.data (s := { s with heap := PySem.W.sortingHeap (h'.push (seqObj "list" acc.toList.toArray 0)) h'.objs.size acc.toList, toks := tk }) (PySem.W.each_map (R := fun v d => ∃ as, Reads (PySem.W.sortingHeap (h'.push (seqObj "list" acc.toList.toArray 0)) h'.objs.size acc.toList) v d as) (fun p : V × Dat => toPy p.2) er') hal hk ?hu) hzl ⟨_, rfl, ?_⟩)
    (PyProof.Rows.args_list_sort _)))
  case hu =>
    intro d hd
    obtain ⟨p, hp, rfl⟩ := List.mem_map.mp hd
    unfold keyPs at hp
    obtain ⟨kv, _, rfl⟩ := List.mem_map.mp hp
    rw [(key_dp (K := X.K) (H := H) kv.1).2]
    have : X.A.in1.in1.units = X.A.units + 2 := rfl
    first
      | omega
      | (show X.A.units + 1 + 1 + 0 < cLine; omega)
  · have eo := PySem.W.sortVals_data (R := fun u (p : V × Dat) => RelV p.1 u) false e er' hal
    have g1 := each_vals eo
    generalize PySem.W.sortVals (PySem.W.dataKind (PySem.W.sortingHeap (h'.push (seqObj "list" acc.toList.toArray 0)) h'.objs.size acc.toList) ((keyPs kvs).map fun p => toPy p.2)) false acc.toList acc.toList = out at *
    obtain ⟨e', he'⟩ := PyProof.Rows.sortedHeap_at (vs := acc.toList) (out := out.toArray) hoL
    have hlen : (((keyPs kvs).mergeSort (PySem.W.dataLe false fun p => toPy p.2)).map (·.1)).length ≤ sizeLine := by
      rw [List.length_map, List.length_mergeSort]
      unfold keyPs
      rw [List.length_map]
      exact z
    refine wpAny_pure ⟨_, rfl, .ref h'.objs.size, upd H h'.objs.size (.lst (((keyPs kvs).mergeSort (PySem.W.dataLe false fun p => toPy p.2)).map (·.1))), I1.laid (t' := tk) (fun b u e => ?_) (Nat.le_refl _)
      (show ObjOk X.prog X.w _ _ _ (.lst (((keyPs kvs).mergeSort (PySem.W.dataLe false fun p => toPy p.2)).map (·.1))) from ⟨hlen, out, e', g1, he'⟩), rfl, q _ (I1.hok.fresh (Nat.le_refl _))⟩
    have hb : b < h'.objs.size := Heap.lt_size e
    rw [PyProof.Rows.sortedHeap_old (Nat.ne_of_lt hb) (by rw [size_push']; exact Nat.lt_succ_of_lt hb)]
    exact Heap.get?_push_of_some _ e
end

/-! ### as rules over data -/
theorem repA_of {K : KF} {Z : ZS} {H : Hp} : ∀ {ps : List (V × Dat)}, (∀ p ∈ ps, Rep K Z H p.1 p.2) → RepA K Z H (ps.map (·.1)) (ps.map (·.2))
  | [], _ => .nil
  | p :: ps, h => .cons (h p List.mem_cons_self) (repA_of fun q hq => h q (List.mem_cons_of_mem _ hq))
theorem repA_zip {K : KF} {Z : ZS} {H : Hp} : ∀ {xs : List V} {ds : List Dat}, RepA K Z H xs ds → (∀ p ∈ xs.zip ds, Rep K Z H p.1 p.2) ∧ (xs.zip ds).map (·.1) = xs ∧ (xs.zip ds).map (·.2) = ds
  | _, _, .nil => ⟨fun _ h => (by cases h), rfl, rfl⟩
  | _, _, .cons h r => by
    obtain ⟨a, b, c⟩ := repA_zip r
    refine ⟨fun p hp => ?_, by rw [List.zip_cons_cons, List.map_cons, b], by rw [List.zip_cons_cons, List.map_cons, c]⟩
    rw [List.zip_cons_cons] at hp
    rcases List.mem_cons.mp hp with e | e
    · subst e; exact h
    · exact a p e
theorem sortable_all {ds : List Dat} (h : sortable ds = true) : (∀ x ∈ ds, ∀ y ∈ ds, alk x y = true) ∧ ((∀ x ∈ ds, isTupC x = true) ∨ ∀ x ∈ ds, isFlat x = true) ∧ shpL DEEP ds = true := by
  unfold sortable at h
  rw [Bool.and_eq_true, Bool.and_eq_true, Bool.or_eq_true, List.all_eq_true, List.all_eq_true, List.all_eq_true] at h
  exact ⟨fun x hx y hy => List.all_eq_true.mp (h.1.1 x hx) y hy, h.1.2, h.2⟩
theorem sortable_py {ds : List Dat} (h : sortable ds = true) : PySem.W.AllAlike (ds.map toPy) ∧ PySem.W.Sortable (ds.map toPy) := by
  obtain ⟨a, b, _⟩ := sortable_all h
  refine ⟨fun d hd d' hd' => ?_, ?_⟩
  · obtain ⟨x, hx, rfl⟩ := List.mem_map.mp hd
    obtain ⟨y, hy, rfl⟩ := List.mem_map.mp hd'
    exact alk_py x y (a x hx y hy)
  · rcases b with b | b
    · refine .inl fun d hd => ?_
      obtain ⟨x, hx, rfl⟩ := List.mem_map.mp hd
      have := b x hx
      cases x with
      | tup xs =>
        cases xs with
        | nil => simp [isTupC] at this
        | cons y r => exact ⟨toPy y, toPyL r, by simp only [toPy, toPyL]⟩
      | _ => simp [isTupC] at this
    · refine .inr fun d hd => ?_
      obtain ⟨x, hx, rfl⟩ := List.mem_map.mp hd
      have := b x hx
      cases x with
      | int i => exact ⟨by simp [toPy], fun xs => by simp [toPy]⟩
      | str i => exact ⟨by simp [toPy], fun xs => by simp [toPy]⟩
      | _ => simp [isFlat] at this
theorem shpL_mem {n : Nat} : ∀ {ds : List Dat}, shpL n ds = true → ∀ d ∈ ds, shp n d = true
  | [], _, d, hd => (by cases hd)
  | x :: r, h, d, hd => by
    simp only [shpL, Bool.and_eq_true] at h
    rcases List.mem_cons.mp hd with e | e
    · subst e; exact h.1
    · exact shpL_mem h.2 d e
theorem cv_sortedX {X : Cx} : CallV1 X.K (fun xs H Q => rSortedX X xs H Q ∨ rSortedD () xs H Q) .sh .new sortD := by
  intro Z H Hs v d Q t s hv p
  cases hv with
  | @lst a xs ds h r =>
    obtain ⟨hs, p⟩ := Post.ite (show Post (if sortable ds = true then R.ok (.lst (sortL ds)) else .bad) (Wnt X.K Z H Hs .new Q) (fun _ => False) from p)
    obtain ⟨r1, r2, r3⟩ := repA_zip r
    obtain ⟨s1, s2, s3⟩ := sortable_all hs
    obtain ⟨a1, a2⟩ := sortable_py hs
    have em : ((xs.zip ds).map fun p => toPy p.2) = ds.map toPy := by
      conv => rhs; rw [← r3]
      rw [List.map_map]; rfl
    have hmem : ∀ p ∈ xs.zip ds, p.2 ∈ ds := fun p hp => (List.of_mem_zip hp).2
    refine .inl ⟨a, xs.zip ds, rfl, by rw [r2]; exact h, fun p hp => (Rep.dp (r1 p hp) (shpL_mem s3 _ (hmem p hp))).1, fun p hp => (Rep.dp (r1 p hp) (shpL_mem s3 _ (hmem p hp))).2.2, by rw [em]; exact a1, by rw [em]; exact a2, fun q hq => ?_⟩
    have e1 := dataLe_leT (ps := xs.zip ds) fun p hp q hq => s1 _ (hmem p hp) _ (hmem q hq)
    rw [r3] at e1
    have hr := repA_of (K := X.K) (Z := Z) (H := H) (ps := (xs.zip ds).mergeSort (PySem.W.dataLe false fun p => toPy p.2)) fun p hp => r1 p ((List.mergeSort_perm _ _).mem_iff.mp hp)
    rw [e1] at hr
    exact Wnt.newL t s p hr hq
  | @dic a ks kvs h r =>
    obtain ⟨hs, p⟩ := Post.ite (show Post (if sortable (kvs.map (·.1)) = true ∧ kvs.length ≤ LINE then R.ok (.lst (sortL (kvs.map (·.1)))) else .bad) (Wnt X.K Z H Hs .new Q) (fun _ => False) from p)
    have hs := hs.1
    have ek : ∀ {ks : List (Key × V)} {kvs : List (Dat × Dat)}, RepD X.K Z H ks kvs → (keyPs ks).map (·.2) = kvs.map (·.1) ∧ ∀ p ∈ keyPs ks, Rep X.K Z H p.1 p.2 := by
      intro ks
      induction ks with
      | nil => intro kvs r; cases r; exact ⟨rfl, fun p hp => (by cases hp)⟩
      | cons k ks ih =>
        intro kvs r
        cases r with
        | cons o hv r =>
          obtain ⟨i1, i2⟩ := ih r
          refine ⟨by rw [List.map_cons, ← i1]; rfl, fun p hp => ?_⟩
          rcases List.mem_cons.mp (show p ∈ (kV _, kD _) :: keyPs ks from hp) with e | e
          · subst e
            rename_i k0 v0 d0 t0
            cases k0 with
            | inl i => exact .int i
            | inr x => exact .str x o
          · exact i2 p e
    obtain ⟨k1, k2⟩ := ek r
    obtain ⟨s1, s2, s3⟩ := sortable_all hs
    obtain ⟨a1, a2⟩ := sortable_py hs
    have em : ((keyPs ks).map fun p => toPy p.2) = (kvs.map (·.1)).map toPy := by
      rw [← k1, List.map_map]; rfl
    refine .inr ⟨a, ks, rfl, h, by rw [em]; exact a1, by rw [em]; exact a2, fun q hq => ?_⟩
    have hmem : ∀ p ∈ keyPs ks, p.2 ∈ kvs.map (·.1) := fun p hp => by rw [← k1]; exact List.mem_map.mpr ⟨p, hp, rfl⟩
    have e1 := dataLe_leT (ps := keyPs ks) fun p hp q hq => s1 _ (hmem p hp) _ (hmem q hq)
    rw [k1] at e1
    have hr := repA_of (K := X.K) (Z := Z) (H := H) (ps := (keyPs ks).mergeSort (PySem.W.dataLe false fun p => toPy p.2)) fun p hp => k2 p ((List.mergeSort_perm _ _).mem_iff.mp hp)
    rw [e1] at hr
    exact Wnt.newL t s p hr hq
  | _ => exact False.elim p
theorem nx_sortD : NoX1 sortD := fun d x h => by cases d <;> simp only [sortD] at h <;> first | cases h | (split at h <;> cases h)
theorem B_sorted {X : Cx} {c : Ct} (hK : c.K = X.K) (hc : X.calm = true) (hu : X.A.units + 64 < cLine) : B1 X c.K "sorted" .sh .new sortD := ⟨⟨_, _, callR_or (cr_sortedX hu) (cr_sortedDX hc hu), by rw [hK]; exact cv_sortedX, by decide +kernel⟩, nx_sortD⟩

/-! ### list of a text -/
section
variable {X : Cx}
def rListS : List V → Hp → VK → Prop := fun xs H Q => ∃ x : Str, xs = [.str x] ∧ x.cps.size ≤ sizeLine ∧ ∀ p, H p = none → Q (.ref p) (upd H p (.lst (x.cps.toList.map fun c => V.str ⟨#[c]⟩)))
theorem signs_at {x : Str} : ∀ (us : List Value) (cs : List Nat), us.length = cs.length → (∀ (j : Nat) (v : Value), us[j]? = some v → ∃ c u, cs[j]? = some c ∧ v = Value.str ⟨#[c]⟩ u) → Vals (cs.map fun c => V.str ⟨#[c]⟩) us
  | [], [], _, _ => .nil
  | u :: us, c :: cs, hl, h => by
    obtain ⟨c', t, e1, e2⟩ := h 0 u rfl
    have e1' : c = c' := Option.some.inj e1
    subst e1'
    subst e2
    rw [List.map_cons]
    refine .cons ⟨t, rfl⟩ (signs_at (x := x) us cs (by simpa using hl) fun j v e => ?_)
    obtain ⟨c, t, a, b⟩ := h (j + 1) v (by simpa using e)
    exact ⟨c, t, by simpa using a, b⟩
  | [], _ :: _, hl, _ => by simp at hl
  | _ :: _, [], hl, _ => by simp at hl
theorem call_listS (hc : X.calm = true) : CallR X (.type "list") rListS := by
  intro pins s σ H xs us Q I r q
  obtain ⟨x, ex, hz, q⟩ := q
  subst ex
  obtain ⟨u, eu, rx⟩ := vals1 r
  subst eu
  obtain ⟨t, rfl⟩ := rx
  refine PySem.call_list_str (I.ok.hd hc) x t (hn := hz) fun h' tk acc c' hk hS hacc => ?_
  have hv : Vals (x.cps.toList.map fun c => V.str ⟨#[c]⟩) acc.toList := signs_at (x := x) _ _ (by rw [Array.length_toList, hacc.1, Array.length_toList]) fun j v e => by
    obtain ⟨c, u, hc, rfl⟩ := hacc.2 j v (by rw [← Array.getElem?_toList]; exact e)
    exact ⟨c, u, by rw [Array.getElem?_toList]; exact hc, rfl⟩
  exact ⟨.ref s.heap.objs.size, upd H s.heap.objs.size (.lst (x.cps.toList.map fun c => V.str ⟨#[c]⟩)), I.laid (t' := tk) hk (Nat.le_refl _)
    (show ObjOk X.prog X.w _ _ _ (.lst (x.cps.toList.map fun c => V.str ⟨#[c]⟩)) from ⟨by rw [List.length_map, Array.length_toList]; exact hz, acc.toList, c', hv, by rw [Array.toArray_toList]; exact hS⟩), rfl, q _ (I.hok.fresh (Nat.le_refl _))⟩
end
theorem signs_rep {K : KF} {Z : ZS} {H : Hp} : ∀ {cs : List Nat}, (∀ c ∈ cs, c < 1114112) → RepA K Z H (cs.map fun c => V.str ⟨#[c]⟩) (signs cs)
  | [], _ => .nil
  | c :: cs, h => .cons (.ofS rfl ⟨fun d hd => by rw [show d = c by simpa using hd]; exact h c List.mem_cons_self, by show 1 ≤ LINE; decide⟩) (signs_rep fun d hd => h d (List.mem_cons_of_mem _ hd))
theorem cv_listA {K : KF} : CallV1 K (fun xs H Q => (∃ p ys, xs = [.ref p] ∧ (SqL K H p ys ∨ SqT K H p ys) ∧ ∀ l, H l = none → Q (.ref l) (upd H l (.lst ys))) ∨ rListS xs H Q) .sh .new listD := by
  intro Z H Hs v d Q t s hv p
  cases hv with
  | lst h r => exact .inl ⟨_, _, rfl, .inl h, fun l hl => Wnt.newL t s p r hl⟩
  | tup h r => exact .inl ⟨_, _, rfl, .inr h.sq, fun l hl => Wnt.newL t s p r hl⟩
  | str x hx =>
    refine .inr ⟨x, rfl, ?_, fun l hl => Wnt.newL t s p (signs_rep hx.1) hl⟩
    have := hx.2
    rw [line_eq] at this
    simpa using this
  | _ => exact False.elim p
theorem nx_listA : NoX1 listD := fun d x h => by cases d <;> cases h
theorem T_listA {X : Cx} {c : Ct} (hK : c.K = X.K) (hc : X.calm = true) : T1 X c.K "list" .sh .new listD := ⟨⟨_, _, callR_or call_list_of (call_listS hc), by rw [hK]; exact cv_listA, by decide +kernel⟩, nx_listA⟩

/-! ### a list that is read, times an int -/
theorem list_mulW (l : Addr) (items : Array Value) (n : Nat) (x : Int) (u : Tok) (dd : Option Addr) (sl : Array (Option Value)) (hc0 : ¬(!Builtin.List.listFitsIndex x) = true) (hc1 : ¬items.size * x.toNat > (2 ^ 63 - 1) / 8) (hc2 : ¬Builtin.List.listTooLong (items.size * x.toNat) = true) :
    Meets (Builtin.«list.__mul__» ⟨[.ref l, .int x u], []⟩) (fun _ R s => s.heap.get? l = some { cls := .type "list", dict := dd, data := .seq items n, slots := sl } ∧ R (.ok (.ret (Value.ref s.heap.objs.size))) { s with heap := s.heap.push { cls := Value.type "list", data := Data.seq (List.foldl (fun x1 x2 => x1 ++ x2) #[] (List.replicate (if items.isEmpty = true then 0 else x.toNat) items)) }, toks := s.toks }) :=
  .of_wp fun prog w A R s h => by
    obtain ⟨hp, g, d, tk, os⟩ := s; obtain ⟨hl, h⟩ := h
    have hsz := AutoListH.joined_fits hc2
    wp_walk using AutoSeq1.wpAny_loadPart' hl; refine wpAny_ite_false (decide_eq_false (Nat.not_lt.mpr hsz)) ?_; wp_walk; exact ⟨_, rfl, h⟩
theorem int_rmulW (a : Int) (t : Tok) (l : Addr) (items : Array Value) (n : Nat) (dd : Option Addr) (sl : Array (Option Value)) :
    Meets (Builtin.«int.__rmul__» ⟨[.int a t, .ref l], []⟩) (fun _ R s => s.heap.get? l = some { cls := .type "list", dict := dd, data := .seq items n, slots := sl } ∧ R (.ok (.ret Value.notImplemented)) s) :=
  .of_wp fun prog w A R s h => by obtain ⟨hp, g, d, tk, os⟩ := s; obtain ⟨hl, h⟩ := h; wp_walk using AutoSeq1.wpAny_loadPart' hl; exact ⟨_, rfl, h⟩
def rRepA (K : KF) : R2 := fun x y H Q => ∃ l k xs, x = .ref l ∧ y = .int k ∧ SqL K H l xs ∧ -(2 ^ 63) ≤ k ∧ k < 2 ^ 63 ∧ xs.length * k.toNat ≤ sizeLine ∧
  ∀ p, H p = none → Q (.ref p) (upd H p (.lst (List.replicate k.toNat xs).flatten))
section
variable {X : Cx}
theorem op_repA : OpR X (binaryOp .Mult) (rRepA X.K) := by
  intro pins s σ H x y v u Q I rx ry h
  obtain ⟨l, k, xs, rfl, rfl, hH, h1, h2, hz, q⟩ := h
  cases rx
  obtain ⟨t, rfl⟩ := ry
  obtain ⟨its, r, ⟨⟨c1, d1, t1, s1⟩, n, g1, g2, g3, g4⟩, z⟩ := I.list hH
  simp only at g2 g3 g4
  subst g2 g3 g4
  have hl := r.length
  have hlen : its.toArray.size * k.toNat ≤ sizeLine := by rw [List.size_toArray, ← hl]; exact hz
  have hcap : ¬ its.toArray.size * k.toNat > (2 ^ 63 - 1) / 8 := by
    have : (sizeLine : Nat) ≤ (2 ^ 63 - 1) / 8 := by decide
    omega
  have hfit : ¬ (!Builtin.List.listFitsIndex k) = true := by
    rw [fitsIndex_both h1 h2]
    exact Bool.false_ne_true
  have hlong : ¬ Builtin.List.listTooLong (its.toArray.size * k.toNat) = true := by
    rw [notLongL hlen]
    exact Bool.false_ne_true
  have hnew : List.foldl (fun x1 x2 => x1 ++ x2) #[] (List.replicate (if its.toArray.isEmpty = true then 0 else k.toNat) its.toArray) = (List.replicate k.toNat its).flatten.toArray := by
    have f0 : ∀ m : Nat, List.foldl (fun x1 x2 => x1 ++ x2) #[] (List.replicate m its.toArray) = (List.replicate m its).flatten.toArray := fun m => by
      have := foldl_rep its m []
      rw [List.nil_append] at this
      exact this
    rw [f0]
    cases its with
    | nil => simp
    | cons a r' => rw [if_neg (by simp)]
  refine wpAny_binaryOp_repeat_ref (T := "list") (U := "int") (by decide) ⟨_, g1, rfl⟩ (fun s' => typeIs_int s' k t) noFill_list_mul F.fills_int_mul F.slot_int_rmul repeat_list F.slot_int_index.lookup
    (call_meets F.slot_int_rmul (typeIs_int s k t) F.entry_int_rmul (F.args_int_rmul_2 _ _) (int_rmulW k t l its.toArray n none s1)
      ⟨g1, rfl, ⟨_, g1, rfl⟩, call_meets F.slot_list_mul ⟨_, g1, rfl⟩ F.entry_list_mul (F.args_list_mul_2 _ _) (list_mulW l its.toArray n k t none s1 hfit hcap hlong) ⟨g1, ?_⟩⟩)
  rw [hnew]
  exact ⟨.ref _, _, I.lnew (t' := s.toks) (r.rep k.toNat) (by rw [List.length_flatten, List.map_replicate, List.sum_replicate_nat, Nat.mul_comm]; exact hz), rfl, q _ I.fresh⟩
end
theorem o2_mulA {K : KF} : Op2 K (fun x y H Q => rRepA K x y H Q ∨ (rI CMul (fun i j => .int (i * j)) x y H Q ∨ ∃ (z : Str) (n : Int), x = .str z ∧ y = .int n ∧ MulOk z n ∧ Q (.str (Txt.mul z n)) H)) .sh .sh .new mulD := by
  intro Z H Hs v u d e Q t s hv hu p
  cases hv with
  | lst h r =>
    cases hu with
    | int n =>
      obtain ⟨⟨h1, h2, h3⟩, p⟩ := Post.ite p
      exact .inl ⟨_, n, _, rfl, rfl, h, h1, h2, by rw [r.len, ← line_eq]; exact h3, fun q hq => Wnt.newL t s p (r.rep n.toNat) hq⟩
    | _ => exact False.elim p
  | int i => exact .inr (o2_mul Z H Hs _ _ _ _ Q t s (Sh.int i) hu (by cases hu <;> exact p))
  | str x hx => exact .inr (o2_mul Z H Hs _ _ _ _ Q t s (Sh.str x hx) hu (by cases hu <;> exact p))
  | _ => cases hu <;> exact False.elim p
theorem nx_mulA : NoX2 mulD := fun d e x h => by
  unfold mulD at h
  split at h
  · exact nx_rep _ _ _ h
  · exact nx_mul _ _ _ h
theorem q_mulA {X : Cx} {c : Ct} {W : WX} {own : List Nat} {a b : Expr} {m1 m2 : EM} {pos : Pos} (hK : c.K = X.K) (ha : PE X a (qE c W own .sh m1)) (hb : PE X b (qE c W own .sh m2)) : PE X (.BinOp a .Mult b pos) (qE c W own .new (e2 mulD m1 m2)) :=
  q_bin ha hb (fun _ _ h k => pe_op (op_repA.or opU_mul) h k) (by rw [← hK]; exact o2_mulA) nx_mulA
end PL

set_option maxRecDepth 100000
set_option maxHeartbeats 4000000
namespace PL
open PySem PySem.Spec PyProof.Rows L2
set_option autoImplicit false

theorem meets_enumT (t : Addr) (items : Array Value) :
    Meets (Builtin.«enumerate.__new__» ⟨[.type "enumerate", .ref t], []⟩) (fun _ R s => s.heap.IsTuple t items ∧
      R (.ok (.ret (.ref (s.heap.push { cls := .type "tuple_iterator", data := .fields #[.ref t, .int 0 0] }).objs.size)))
        { s with heap := (s.heap.push { cls := .type "tuple_iterator", data := .fields #[.ref t, .int 0 0] }).push { cls := .type "enumerate", data := .fields #[.none, .bool false, .ref s.heap.objs.size, rawInt 0, .none, .none] } }) :=
  .of_wp fun prog w A R s h => by
    obtain ⟨hp, g, d, tk, os⟩ := s; obtain ⟨h1, h⟩ := h
    have hsub := sub_enumerate
    have q1 : ∀ {A' : Around} {E : Value → Shared → Prop} {Q : Value → Shared → Prop}, Q (.ref hp.objs.size) ⟨hp.push { cls := .type "tuple_iterator", data := .fields #[.ref t, .int 0 0] }, g, d, tk, os⟩ → wpAny (model prog w) A' (pyIter (.ref t)) Q E ⟨hp, g, d, tk, os⟩ :=
      fun q => wpAny_pyIter_tuple (s := ⟨hp, g, d, tk, os⟩) h1 q
    wp_walk using q1
    refine wpAny_stack_any fun st => wpAny_pure ?_
    split
    · rename_i c _ _ _ _ _
      cases (c == Value.type "enumerate")
      · wp_walk using q1
        exact ⟨_, rfl, h⟩
      · wp_walk using q1
        exact ⟨_, rfl, h⟩
    · wp_walk using q1
      exact ⟨_, rfl, h⟩
section
variable {prog : Program} {w : World} {A : Around} {E : Value → Shared → Prop} {s : Shared}
theorem call_enumT {l : Addr} {items : Array Value} {Q : Value → Shared → Prop} (hL : s.heap.IsTuple l items)
    (h : ∀ h', IsEnum h' (s.heap.objs.size + 1) s.heap.objs.size 0 .none → h'.IsTupleIter s.heap.objs.size l 0 → h'.objs.size = s.heap.objs.size + 2 →
      (∀ b o, s.heap.get? b = some o → h'.get? b = some o) → Q (.ref (s.heap.objs.size + 1)) { s with heap := h' }) :
    wpAny (model prog w) A (call (.type "enumerate") [.ref l]) Q E s := by
  refine callType_new F.called_enumerate (by decide) (F.typeCall_enumerate_1 _) (F.newCall_enumerate_1 _) (fun obj => F.args_object_init_2 obj _) F.entry_enumerate_new
    (meets_enumT l items) ⟨hL, ?_⟩
  have hz : (s.heap.push { cls := .type "tuple_iterator", data := .fields #[.ref l, .int 0 0] }).objs.size = s.heap.objs.size + 1 := Heap.size_push ..
  show _ ∧ _
  rw [hz]
  have he : IsEnum ((s.heap.push { cls := .type "tuple_iterator", data := .fields #[.ref l, .int 0 0] }).push
      { cls := .type "enumerate", data := .fields #[.none, .bool false, .ref s.heap.objs.size, rawInt 0, .none, .none] }) (s.heap.objs.size + 1) s.heap.objs.size 0 .none := by
    have := Heap.get?_push_size (s.heap.push { cls := .type "tuple_iterator", data := .fields #[.ref l, .int 0 0] })
      (o := { cls := .type "enumerate", data := .fields #[.none, .bool false, .ref s.heap.objs.size, rawInt 0, .none, .none] }) rfl
    rw [hz] at this; exact this
  refine ⟨⟨_, he, rfl⟩, h _ he ⟨_, Heap.get?_push_of_some _ (Heap.get?_push_size _ rfl), rfl, rfl⟩ (by rw [Heap.size_push, hz]) fun b o x => Heap.get?_push_of_some _ (Heap.get?_push_of_some _ x)⟩
end
/-- the tuple at a, each item in a new pair -/
def IteT (K : KF) (a : Addr) : It :=
  ⟨fun i H => ∃ (xs : List V) (x : V), SqT K H a xs ∧ xs[i]? = some x, fun i H v H' => ∃ T x, v = .ref T ∧ H T = none ∧ H' = upd H T (.tup [.int (i : Nat), x]) ∧ ∀ xs, SqT K H a xs → xs[i]? = some x, fun i H => ∃ xs : List V, SqT K H a xs ∧ xs.length ≤ i⟩
theorem apartT {h : Heap} {e it a : Addr} {i : Nat} {k : Int} {old : Value} {xs : Array Value} (he : IsEnum h e it k old) (hit : h.IsTupleIter it a i) (hx : h.IsTuple a xs) : a ≠ it ∧ e ∉ [it, a] ∧ e ≠ it := by
  obtain ⟨o, ho, hc, hd⟩ := hit
  obtain ⟨o2, ho2, hc2, hd2⟩ := hx
  have n1 : a ≠ it := fun q => by
    subst q
    rw [ho] at ho2
    cases ho2
    rw [hc] at hc2
    exact absurd (Value.type.inj hc2) (by decide)
  have n2 : e ≠ it := fun q => by
    subst q
    have := he.symm.trans ho
    cases this
    exact absurd (Value.type.inj hc) (by decide)
  have n3 : e ≠ a := fun q => by
    subst q
    have := he.symm.trans ho2
    cases this
    exact absurd (Value.type.inj hc2) (by decide)
  exact ⟨n1, by simp [n2, n3], n2⟩
theorem turn_enumT {P : Program} {w : World} {K : KF} {elts : List Expr} {kk : Nat} {tpos : Pos} (a e it : Addr) :
    Turn P w K (.Tuple elts kk tpos) (IteT K a) [e, it] e (fun i h => (∃ old, IsEnum h e it ((i : Nat) : Int) old) ∧ h.IsTupleIter it a i ∧ e ≠ it) where
  mem := by simp
  obj := fun i h st b hb => by
    obtain ⟨⟨old, he⟩, ⟨o, ho, hc, hd⟩, _⟩ := st
    have e' : b = e ∨ b = it := by simpa using hb
    rcases e' with z | z
    · rw [z]; exact ⟨_, he, fun v q => nomatch q⟩
    · rw [z]; exact ⟨o, ho, fun v q => by rw [hd] at q; cases q⟩
  keep := fun i h h' st k => let ⟨⟨old, he⟩, hi, hne⟩ := st; ⟨⟨old, k e (by simp) _ he⟩, hi.at fun o q => k it (by simp) o q, hne⟩
  item := by
    intro X hP hw hK hc i pins s σ H E I hf st hg
    subst hP hw hK
    obtain ⟨⟨old, he⟩, hit, hne⟩ := st
    obtain ⟨xs, x, hq, hx⟩ := hg
    obtain ⟨its, rv, p, hz⟩ := I.tuple hq
    obtain ⟨u, hu, ru⟩ := rv.get hx
    have p : s.heap.IsTuple a its.toArray := p
    obtain ⟨n1, n2, n3⟩ := apartT he hit p
    have hel : e < s.heap.objs.size := Heap.lt_size he
    have hil : it < s.heap.objs.size := by obtain ⟨_, q, _⟩ := hit; exact Heap.lt_size q
    have hlt : i < its.toArray.size := by
      have := (List.getElem?_eq_some_iff.mp hu).1
      simpa using this
    refine wpAny_pyNext_enum_itemD (PySem.Draws.tuple (A := X.A.in1) (show X.A.in1.handled = none from I.ok.hd hc) it a n1 its.toArray) he ⟨hit, p⟩ hlt hne n2 fun y h' tk hy ho hit' hT hsz hk => ?_
    have ey : u = y := by
      have hy' : its[i]? = some y := by simpa using hy
      rw [hu] at hy'
      exact Option.some.inj hy'
    subst ey
    refine ⟨_, rfl, wpAny_letOwnedTupleGo_enum (s := { s with heap := h', toks := tk + 1 }) ho fun h'' he' sb => ?_⟩
    have hT2 : h''.get? s.heap.objs.size = some { cls := .type "tuple", data := .seq #[.int i tk, u] } := (sb.2 _ (Nat.ne_of_gt hel)).trans hT
    have new : ObjOk X.prog X.w (upd H s.heap.objs.size (.tup [.int (i : Nat), x])) h'' s.heap.objs.size (.tup [.int (i : Nat), x]) :=
      ⟨by show 2 ≤ sizeLine; decide, [.int i tk, u], .cons ⟨_, rfl⟩ (.cons ru .nil), ⟨_, hT2, rfl, _, rfl⟩⟩
    have I1 : Inv X pins σ (upd H s.heap.objs.size (.tup [.int (i : Nat), x])) { s with heap := h'', toks := tk + 1 } :=
      I.turnedNew (ch := [e, it]) (fun b ob hb q => (sb.2 b (fun z => hb (by simp [z]))).trans (hk b ob (fun z => hb (by simp [z])) (fun z => hb (by simp [z])) q)) hf (Nat.le_refl _) new
    refine ⟨.ref s.heap.objs.size, _, I1, rfl, ⟨_, x, rfl, I.hok.fresh (Nat.le_refl _), rfl, fun ys hy => by rw [I.tuple_inj hy hq]; exact hx⟩, ⟨⟨u, ?_⟩, hit'.1.at fun o q => (sb.2 it (Ne.symm hne)).trans q, hne⟩, fun b hb => ?_⟩
    · have e1 : ((i + 1 : Nat) : Int) = (i : Int) + 1 := by omega
      rw [e1]; exact he'
    · have hb' : b < s.heap.objs.size := by
        have e' : b = e ∨ b = it := by simpa using hb
        rcases e' with z | z
        · rw [z]; exact hel
        · rw [z]; exact hil
      rw [upd_ne (Nat.ne_of_lt hb')]
      exact (hf b hb).1
  done := by
    intro X hP hw hK hc i pins s σ H E I hf st hg
    subst hP hw hK
    obtain ⟨⟨old, he⟩, hit, hne⟩ := st
    obtain ⟨xs, hq, hx⟩ := hg
    obtain ⟨its, rv, p, hz⟩ := I.tuple hq
    have p : s.heap.IsTuple a its.toArray := p
    obtain ⟨n1, n2, n3⟩ := apartT he hit p
    obtain ⟨f0, f1, f2, f3, f4, f5⟩ := hf it (by simp)
    have hl := rv.length
    have hT : s.TypeIs (.ref e) "enumerate" := ⟨_, he, rfl⟩
    unfold pyNext
    refine wpAny_bind (wpAny_attempt (wpAny_callSpecial?_slot (name := Str.ofString "__next__") hT F.slot_enumerate_next
      (wpAny_call_entry F.slot_enumerate_next hT F.entry_enumerate_next ?_ (F.args_enumerate_next_1 _))))
    show wpAny _ _ (field (.ref e) 2 >>= _) _ _ _
    refine wpAny_bind (wpAny_field he rfl (x := .ref it) rfl ?_)
    refine wpAny_bind (PySem.wpAny_nextOf_tuple_end (show _ = none from I.ok.hd hc) hit p (by simp; omega) fun h' x he' hx' => ?_)
    obtain ⟨o, ho, hc⟩ := hx'
    refine wpAny_bind (wpAny_isInstance (T := "StopIteration") (b := true) ⟨o, ho, hc⟩ isSubtype_stop ?_)
    exact wpAny_pure ⟨rfl, I.turned (t' := s.toks) (fun b o hb q => he' b o hb q) f0 f1 f3 f4 f5⟩
  self := fun A i s Q E st h => let ⟨⟨_, he⟩, _⟩ := st; wpAny_pyIter_enum he h
def iEnuU (K : KF) (ta : TA) : TI := fun σ H R => ta σ H fun vs H1 => (∃ a xs, vs = [.ref a] ∧ SqL K H1 a xs ∧ R (Ite K a) H1) ∨ (∃ a xs, vs = [.ref a] ∧ SqT K H1 a xs ∧ R (IteT K a) H1)
theorem pi_enumU {X : Cx} {e : Expr} {ta : TA} {p pos tpos : Pos} {elts : List Expr} {kk : Nat} (hg : Gl X "enumerate") (hm : X.mg "enumerate" = none) (ha : PA X [e] ta) (hs : starEach [e] X.env = [(false, eval e X.env)] := by rfl) :
    PI X (.Tuple elts kk tpos) (.Call (.Name "enumerate" p) [e] [] pos) (iEnuU X.K ta) := by
  refine ⟨fun pins s σ H R I h => ?_⟩
  refine Call_ (ld_blt I hg hm boot_enumerate (PyProof.Rows.callWith_type1 (thn (ha.run pos pins s σ H _ I h) fun us s1 ⟨vs, H1, I1, r1, q1⟩ => ?_) hs rfl))
  have apart : ∀ b ∈ [s1.heap.objs.size + 1, s1.heap.objs.size], s1.heap.objs.size ≤ b := fun b hb => by
    have e' : b = s1.heap.objs.size + 1 ∨ b = s1.heap.objs.size := by simpa using hb
    rcases e' with z | z
    · rw [z]; exact Nat.le_add_right _ _
    · rw [z]; exact Nat.le_refl _
  rcases q1 with ⟨a, xs, ex, hq, q⟩ | ⟨a, xs, ex, hq, q⟩
  · subst ex
    cases r1 with
    | cons r rr =>
      cases rr
      cases r
      obtain ⟨its, rv, p', hz⟩ := I1.list hq
      refine call_enumerate_list p'.isList fun h' he hit hsz hk => wpAny_pyIter_enum he ?_
      have I2 : Inv X pins σ H1 { s1 with heap := h' } := I1.kept (t' := s1.toks) hk
      exact ⟨s1.heap.objs.size + 1, [s1.heap.objs.size + 1, s1.heap.objs.size], _, _, H1, rfl, I2, turn_enum a (s1.heap.objs.size + 1) s1.heap.objs.size, ⟨⟨.none, he⟩, hit, Nat.succ_ne_self _⟩, fun b hb => I1.fpOk (apart b hb) (I1.hok.fresh (apart b hb)), q⟩
  · subst ex
    cases r1 with
    | cons r rr =>
      cases rr
      cases r
      obtain ⟨its, rv, p', hz⟩ := I1.tuple hq
      refine call_enumT (show s1.heap.IsTuple a its.toArray from p') fun h' he hit hsz hk => wpAny_pyIter_enum he ?_
      have I2 : Inv X pins σ H1 { s1 with heap := h' } := I1.kept (t' := s1.toks) hk
      exact ⟨s1.heap.objs.size + 1, [s1.heap.objs.size + 1, s1.heap.objs.size], _, _, H1, rfl, I2, turn_enumT a (s1.heap.objs.size + 1) s1.heap.objs.size, ⟨⟨.none, he⟩, hit, Nat.succ_ne_self _⟩, fun b hb => I1.fpOk (apart b hb) (I1.hok.fresh (apart b hb)), q⟩
section
variable {K : KF} {Z : ZS} {H : Hp} {a : Addr} {xs : List V} {ds : List Dat}
theorem enumF_get : ∀ {ds : List Dat} {k i : Nat} {d : Dat}, (enumFrom k ds)[i]? = some d → ∃ x, ds[i]? = some x ∧ d = .tup [.int ((k + i : Nat) : Int), x]
  | [], _, _, _, h => by simp [enumFrom] at h
  | x :: r, k, 0, d, h => ⟨x, rfl, by simpa [enumFrom] using h.symm⟩
  | x :: r, k, i + 1, d, h => by
    obtain ⟨y, h1, h2⟩ := enumF_get (ds := r) (k := k + 1) (i := i) (by simpa [enumFrom] using h)
    exact ⟨y, by simpa using h1, by rw [h2]; congr 3; omega⟩
theorem enumF_len : ∀ {ds : List Dat} {k : Nat}, (enumFrom k ds).length = ds.length
  | [], _ => rfl
  | _ :: r, k => by simp [enumFrom, enumF_len (ds := r)]
theorem iteT_ok (h : ∀ Z1 H1, Adv Z H Z1 H1 → SqT K H1 a xs ∧ RepA K Z1 H1 xs ds) : ItOk K (IteT K a) Z H (enumFrom 0 ds) := fun Z1 H1 ad t i => by
  obtain ⟨h1, r⟩ := h Z1 H1 ad
  refine ⟨fun d e => ?_, fun hl => ⟨xs, h1, by rw [r.len]; rw [enumF_len] at hl; exact hl⟩⟩
  obtain ⟨x, e1, rfl⟩ := enumF_get e
  obtain ⟨v, ev, rv⟩ := r.get e1
  refine ⟨⟨xs, v, h1, ev⟩, fun u H2 yy => ?_⟩
  obtain ⟨T, v2, rfl, hT, rfl, y1⟩ := yy
  have e2 := y1 xs h1
  rw [ev] at e2
  cases e2
  refine ⟨Zadd Z1 T, .laidZ t hT, .tup (.inr rfl) (.inl upd_same) (.cons ?_ (.cons (rv.adv (Ext.laidZ t hT).adv) .nil))⟩
  rw [show 0 + i = i by omega]
  exact .int _
end
section
variable {X : Cx} {c : Ct} {W : WX} {own : List Nat} {e : Expr} {m : EM} {pos p tpos : Pos}
theorem qi_enuU {elts : List Expr} {kk : Nat} (hK : c.K = X.K) (hg : Gl X "enumerate") (hm : X.mg "enumerate" = none) (ha : PE X e (qE c W own .frz m)) (hs : starEach [e] X.env = [(false, eval e X.env)] := by rfl) : PI X (.Tuple elts kk tpos) (.Call (.Name "enumerate" p) [e] [] pos) (qI c W own (iEnum m)) := by
  refine ⟨fun pins s σ H R I h => (pi_enumU hg hm (qa_cons ha qa_nil hs) hs).run pins s σ H R I ?_⟩
  obtain ⟨Z, ρ, S, p⟩ := h
  refine ⟨Z, ρ, S, ?_⟩
  have p := Post.bnd p
  unfold eCons eNil
  cases q : m ρ with
  | bad => rw [q] at p; exact p.elim
  | exc x => rw [q] at p; exact p
  | ok d =>
    rw [q] at p
    intro vs Z1 H1 x1 hv
    cases hv with
    | cons h1 h2 =>
      cases h2
      cases d with
      | lst ds =>
        obtain ⟨a, xs, rfl, hs, hh⟩ := Rep.stays h1
        rw [hK] at hs hh
        exact .inl ⟨a, xs, rfl, hs, p _ Z1 H1 x1 (by rw [hK]; exact ite_ok hh)⟩
      | tup ds =>
        obtain ⟨a, xs, rfl, hs, hh⟩ := Rep.staysT h1
        rw [hK] at hs hh
        exact .inr ⟨a, xs, rfl, hs, p _ Z1 H1 x1 (by rw [hK]; exact iteT_ok hh)⟩
      | _ => exact p.elim
end
section
variable {X : Cx} {vis loc : List Nat} {gls : List Str} {c : Ct} {W : WX} {own : List Nat} {e : Expr} {m : EM} {pos p : Pos}
theorem iEnu {elts : List Expr} {kk : Nat} {tpos : Pos} (j : Nat) (V : Scp X vis loc gls) (hK : c.K = X.K) (hj : gls[j]? = some ("enumerate" : Str)) (hm : X.mg "enumerate" = none) (ha : PE X e (qE c W own .frz m)) (hs : starEach [e] X.env = [(false, eval e X.env)] := by rfl) : PI X (.Tuple elts kk tpos) (.Call (.Name "enumerate" p) [e] [] pos) (qI c W own (iEnum m)) := qi_enuU hK (V.gl j _ hj).1 hm ha hs
end
end PL

set_option maxRecDepth 100000
set_option maxHeartbeats 4000000
namespace PLD
open PySem PySem.Spec PyProof.Rows L2
set_option autoImplicit false
theorem compTurnD2_out (kx vx t0 i0 t1 i1 : Expr) (ifs0 ifs1 : List Expr) (scope : Scope) (pos : Pos) (it : Value) (D : Addr) (env : Env) :
    compTurn (.DictComp kx vx [⟨t0, i0, ifs0, 0⟩, ⟨t1, i1, ifs1, 0⟩] scope pos) 0 it (.ref D) env = (do
      standAt i0.pos
      match ← pyNext it with
      | none => pure (.done .next)
      | some v =>
        letOwnedTupleGo t0 it v
        assign t0 env v
        let mut ok := true
        for c in ifs0 do
          if ok then ok ← isTrue c env (eval c env)
        if ok then
          let x ← eval i1 env
          standAt i1.pos
          let x ← foldedSetIterable i1 env x
          let _ ← runOwn (.compStart (.DictComp kx vx [⟨t0, i0, ifs0, 0⟩, ⟨t1, i1, ifs1, 0⟩] scope pos) 1 (← holding [x] (pyIter x)) (.ref D) env) env
        again (.compLoop (.DictComp kx vx [⟨t0, i0, ifs0, 0⟩, ⟨t1, i1, ifs1, 0⟩] scope pos) 0 it (.ref D) env)) := by rfl
theorem compTurnD2_in (kx vx t0 i0 t1 i1 : Expr) (ifs0 ifs1 : List Expr) (scope : Scope) (pos : Pos) (it : Value) (D : Addr) (env : Env) :
    compTurn (.DictComp kx vx [⟨t0, i0, ifs0, 0⟩, ⟨t1, i1, ifs1, 0⟩] scope pos) 1 it (.ref D) env = (do
      standAt i1.pos
      match ← pyNext it with
      | none => pure (.done .next)
      | some v =>
        letOwnedTupleGo t1 it v
        assign t1 env v
        let mut ok := true
        for c in ifs1 do
          if ok then ok ← isTrue c env (eval c env)
        if ok then
          (do
            let kv ← eval kx env
            let vv ← holding [kv] (eval vx env)
            standAt { kx.pos with endLine := vx.pos.endLine, endCol := vx.pos.endCol }
            holding [kv, vv] (dictSet D kv vv))
        again (.compLoop (.DictComp kx vx [⟨t0, i0, ifs0, 0⟩, ⟨t1, i1, ifs1, 0⟩] scope pos) 1 it (.ref D) env)) := by rfl
section
variable {prog : Program} {w : World} {A : Around} {R : Result → Shared → Prop} {s : Shared} {kx vx t0 i0 t1 i1 : Expr} {ifs0 ifs1 : List Expr} {scope : Scope} {pos : Pos} {it : Value} {D : Addr} {env : Env}
theorem compLoopD2_out (hs : ∀ x, foldedSetIterable i1 env x = pure x) (I : Nat → Shared → Prop)
    (turn : ∀ n s, I n s → wpAny (model prog w) A (pyNext it) (fun r s₁ => match r with
      | none => R (.ok .next) s₁
      | some v => wpAny (model prog w) A (letOwnedTupleGo t0 it v) (fun _ s₁' => wpAny (model prog w) A (assign t0 env v) (fun _ s₂ =>
          wpAny (model prog w) A (forIn ifs0 true fun c r => if r = true then do let ok ← isTrue c env (eval c env); pure (ForInStep.yield ok) else pure (ForInStep.yield r)) (fun ok s₃ =>
            if ok = true then wpAny (model prog w) A (eval i1 env) (fun x s₄ => wpAny (model prog w) A (pyIter x) (fun it1 s₅ =>
              codeAny (model prog w) A (.compStart (.DictComp kx vx [⟨t0, i0, ifs0, 0⟩, ⟨t1, i1, ifs1, 0⟩] scope pos) 1 it1 (.ref D) env) (fun r s' => match r with
                | .ok _ => ∃ m, m < n ∧ I m s'
                | .error _ => False) s₅) (notedBy (model prog w) A env fun e s' => R (.error e) s') s₄) (notedBy (model prog w) A env fun e s' => R (.error e) s') s₃
            else ∃ m, m < n ∧ I m s₃) (notedBy (model prog w) A env fun e s' => R (.error e) s') s₂) (notedBy (model prog w) A env fun e s' => R (.error e) s') s₁') (notedBy (model prog w) A env fun e s' => R (.error e) s') s₁) (notedBy (model prog w) A env fun e s' => R (.error e) s') s)
    (n : Nat) (h : I n s) :
    codeAny (model prog w) A (.compLoop (.DictComp kx vx [⟨t0, i0, ifs0, 0⟩, ⟨t1, i1, ifs1, 0⟩] scope pos) 0 it (.ref D) env) R s := by
  refine codeAny_loop rfl I (fun n s hI => ?_) n h
  show wpAny _ A ((compTurn (.DictComp kx vx [⟨t0, i0, ifs0, 0⟩, ⟨t1, i1, ifs1, 0⟩] scope pos) 0 it (.ref D) env).onRaise (fun x => do noteFrame x env; theTreesLotGoes x)) _ _ s
  refine wpAny_noted ?_
  rw [compTurnD2_out]
  refine wpAny_bind (wpAny_standAt (wpAny_bind (wpAny_mono (turn n s hI) (fun r s₁ h₁ => ?_) fun _ _ h' => h')))
  cases r with
  | none => exact wpAny_pure h₁
  | some v =>
    refine wpAny_bind (wpAny_mono h₁ (fun _ s₁' h₁' => ?_) fun _ _ h' => h')
    refine wpAny_bind (wpAny_mono h₁' (fun _ s₂ h₂ => wpAny_bind (wpAny_mono h₂ (fun ok s₃ h₃ => ?_) fun _ _ h' => h')) fun _ _ h' => h')
    cases ok with
    | false => exact wpAny_pure ⟨rfl, h₃⟩
    | true =>
      refine wpAny_bind (wpAny_mono h₃ (fun x s₄ h₄ => ?_) fun _ _ h' => h')
      refine wpAny_bind (wpAny_standAt (wpAny_bind (wpAny_of_eq (hs x) (wpAny_bind (wpAny_holding (wpAny_mono h₄ (fun it1 s₅ h₅ => ?_) fun _ _ h' => h'))))))
      refine wpAny_bind (wpAny_runOwn ?_)
      rw [Around.mark_none]
      refine codeAny_mono h₅ fun r s' hr => ?_
      cases r with
      | ok f =>
        first
          | exact wpAny_pure ⟨rfl, hr⟩
          | exact wpAny_bind (wpAny_pure (wpAny_pure ⟨rfl, hr⟩))
      | error e => exact hr.elim
theorem compLoopD2_in (I : Nat → Shared → Prop)
    (turn : ∀ n s, I n s → wpAny (model prog w) A (pyNext it) (fun r s₁ => match r with
      | none => R (.ok .next) s₁
      | some v => wpAny (model prog w) A (letOwnedTupleGo t1 it v) (fun _ s₁' => wpAny (model prog w) A (assign t1 env v) (fun _ s₂ =>
          wpAny (model prog w) A (forIn ifs1 true fun c r => if r = true then do let ok ← isTrue c env (eval c env); pure (ForInStep.yield ok) else pure (ForInStep.yield r)) (fun ok s₃ =>
            if ok = true then wpAny (model prog w) A (eval kx env) (fun kv s₄ => wpAny (model prog w) A (eval vx env) (fun vv s₅ =>
              wpAny (model prog w) A (dictSet D kv vv) (fun _ s₆ => ∃ m, m < n ∧ I m s₆) (notedBy (model prog w) A env fun e s' => R (.error e) s') s₅) (notedBy (model prog w) A env fun e s' => R (.error e) s') s₄) (notedBy (model prog w) A env fun e s' => R (.error e) s') s₃
            else ∃ m, m < n ∧ I m s₃) (notedBy (model prog w) A env fun e s' => R (.error e) s') s₂) (notedBy (model prog w) A env fun e s' => R (.error e) s') s₁') (notedBy (model prog w) A env fun e s' => R (.error e) s') s₁) (notedBy (model prog w) A env fun e s' => R (.error e) s') s)
    (n : Nat) (h : I n s) :
    codeAny (model prog w) A (.compLoop (.DictComp kx vx [⟨t0, i0, ifs0, 0⟩, ⟨t1, i1, ifs1, 0⟩] scope pos) 1 it (.ref D) env) R s := by
  refine codeAny_loop rfl I (fun n s hI => ?_) n h
  show wpAny _ A ((compTurn (.DictComp kx vx [⟨t0, i0, ifs0, 0⟩, ⟨t1, i1, ifs1, 0⟩] scope pos) 1 it (.ref D) env).onRaise (fun x => do noteFrame x env; theTreesLotGoes x)) _ _ s
  refine wpAny_noted ?_
  rw [compTurnD2_in]
  refine wpAny_bind (wpAny_standAt (wpAny_bind (wpAny_mono (turn n s hI) (fun r s₁ h₁ => ?_) fun _ _ h' => h')))
  cases r with
  | none => exact wpAny_pure h₁
  | some v =>
    refine wpAny_bind (wpAny_mono h₁ (fun _ s₁' h₁' => ?_) fun _ _ h' => h')
    refine wpAny_bind (wpAny_mono h₁' (fun _ s₂ h₂ => wpAny_bind (wpAny_mono h₂ (fun ok s₃ h₃ => ?_) fun _ _ h' => h')) fun _ _ h' => h')
    cases ok with
    | false => exact wpAny_pure ⟨rfl, h₃⟩
    | true =>
      exact wpAny_bind (wpAny_bind (wpAny_mono h₃ (fun kv s₄ h₄ => wpAny_bind (wpAny_holding (wpAny_mono h₄ (fun vv s₅ h₅ => wpAny_bind (wpAny_standAt (wpAny_holding (wpAny_mono h₅ (fun _ s₆ h₆ => wpAny_pure ⟨rfl, h₆⟩) fun _ _ h' => h')))) fun _ _ h' => h'))) fun _ _ h' => h'))
theorem compStartD1_ok (h0 : codeAny (model prog w) A (.compLoop (.DictComp kx vx [⟨t0, i0, ifs0, 0⟩, ⟨t1, i1, ifs1, 0⟩] scope pos) 1 it (.ref D) env) R s)
    (h : wpAny (model prog w) A (pyIter it) (fun it' s' => codeAny (model prog w) A (.compLoop (.DictComp kx vx [⟨t0, i0, ifs0, 0⟩, ⟨t1, i1, ifs1, 0⟩] scope pos) 1 it' (.ref D) env) R s')
      (notedBy (model prog w) A env fun x s' => R (.error x) s') s) :
    codeAny (model prog w) A (.compStart (.DictComp kx vx [⟨t0, i0, ifs0, 0⟩, ⟨t1, i1, ifs1, 0⟩] scope pos) 1 it (.ref D) env) R s := by
  refine codeAny_of_tree ?_
  show wpAny _ _ ((compStart (.DictComp kx vx [⟨t0, i0, ifs0, 0⟩, ⟨t1, i1, ifs1, 0⟩] scope pos) 1 it (.ref D) env).onRaise (fun x => do noteFrame x env; standAt theWindowsPlace)) _ _ s
  refine wpAny_notedAt ?_
  unfold compStart
  show wpAny _ _ (ask >>= _) _ _ s
  refine wpAny_bind (wpAny_askSetting (wpAny_ite ?_))
  split
  · first
      | exact wpAny_bind (wpAny_pure (wpAny_pure (And.intro rfl h0)))
      | exact wpAny_pure (And.intro rfl h0)
  · first
      | exact wpAny_bind (wpAny_rule (wpAny_bind (wpAny_standAt (wpAny_bind (wpAny_mono h (fun it' s' h' => wpAny_pure (And.intro rfl h')) fun _ _ x => x)))))
      | (refine wpAny_bind (wpAny_rule ?_); show wpAny _ _ (standAt i1.pos >>= _) _ _ s; exact wpAny_bind (wpAny_standAt (wpAny_bind (wpAny_mono h (fun it' s' h' => wpAny_pure (And.intro rfl h')) fun _ _ x => x))))
end
section
variable {X : Cx}
def tDc2 (wi : TI) (g : TG) (tt : TT) (wi1 : TI) (g1 : TG) (tt1 : TT) (tk te : TE) (vs vs1 : List Nat) : TE := fun σ H Q => wi σ H fun J H1 => ∀ D, H1 D = none → ∃ W : Nat → Nat → Hp → Prop, (∃ m, W 0 m (upd H1 D (.dK []))) ∧ ∀ i m H, W i m H →
  (J.stop i H ∧ Q (.ref D) H) ∨ (J.go i H ∧ ∃ Nx : Hp → Prop, (∀ H', Nx H' → ∃ m', m' < m ∧ W (i + 1) m' H') ∧ ∀ x H', J.yld i H x H' → g x (wipe σ vs) H' fun σ2 H2 => wipe σ2 vs = wipe σ vs ∧ tt σ2 H2 fun b H3 =>
    if b = true then wi1 σ2 H3 fun J1 H4 => ∃ W1 : Nat → Nat → Hp → Prop, (∃ m, W1 0 m H4) ∧ ∀ j k H, W1 j k H →
      (J1.stop j H ∧ Nx H) ∨ (J1.go j H ∧ ∃ Nx1 : Hp → Prop, (∀ H', Nx1 H' → ∃ k', k' < k ∧ W1 (j + 1) k' H') ∧ ∀ x H', J1.yld j H x H' → g1 x (wipe σ2 vs1) H' fun σ3 H5 => wipe σ3 vs1 = wipe σ2 vs1 ∧ tt1 σ3 H5 fun b H6 =>
        if b = true then tk σ3 H6 fun y H7 => te σ3 H7 fun z H8 => ∃ kvs k, y = kV k ∧ H8 D = some (.dK kvs) ∧ kvs.length < sizeLine ∧ Nx1 (upd H8 D (.dK (putK kvs k z))) else Nx1 H6)
    else Nx H3)
theorem dc2_core {pins : List (Addr × Obj)} {s : Shared} {σ : L2.St} {H : Hp} {Q : VK} {kx vx tg iter tg1 iter1 : Expr} {ifs ifs1 : List Expr} {scope : Scope} {own : List (Str × Nat)} {vs1 : List Nat} {pos pos' : Pos} {wi wi1 : TI} {g g1 : TG} {tt tt1 : TT} {tk te : TE} {use : Option (Value → Sem Unit)} {Qf : Value → Shared → Prop}
    (hc : X.calm = true) (hN : X.N.Nodup) (I : Inv X pins σ H s) (hi : PI X tg iter wi) (ok : BlkOk X.N X.env.scope scope own) (hv : ∀ i ∈ vs1, i ∈ own.map (·.2))
    (hg : ∀ (s : Shared) (H : Hp) (C : Addr) (cl : List (Str × Addr)) (fp : List Addr), PG (X.blk s H scope (compEnvC scope cl C X.env) fp) tg g) (ht : ∀ (s : Shared) (H : Hp) (C : Addr) (cl : List (Str × Addr)) (fp : List Addr), PTs (X.blk s H scope (compEnvC scope cl C X.env) fp) ifs tt)
    (hk : ∀ (s : Shared) (H : Hp) (C : Addr) (cl : List (Str × Addr)) (fp : List Addr), PE (X.blk s H scope (compEnvC scope cl C X.env) fp) kx tk)
    (he : ∀ (s : Shared) (H : Hp) (C : Addr) (cl : List (Str × Addr)) (fp : List Addr), PE (X.blk s H scope (compEnvC scope cl C X.env) fp) vx te) (hs : ∀ x, foldedSetIterable iter X.env x = pure x)
    (hi1 : ∀ (s : Shared) (H : Hp) (C : Addr) (cl : List (Str × Addr)) (fp : List Addr), PI (X.blk s H scope (compEnvC scope cl C X.env) fp) tg1 iter1 wi1)
    (hg1 : ∀ (s : Shared) (H : Hp) (C : Addr) (cl : List (Str × Addr)) (fp : List Addr), PG (X.blk s H scope (compEnvC scope cl C X.env) fp) tg1 g1)
    (ht1 : ∀ (s : Shared) (H : Hp) (C : Addr) (cl : List (Str × Addr)) (fp : List Addr), PTs (X.blk s H scope (compEnvC scope cl C X.env) fp) ifs1 tt1)
    (hs1 : ∀ env x, foldedSetIterable iter1 env x = pure x)
    (h : tDc2 wi g tt wi1 g1 tt1 tk te (own.map (·.2)) vs1 σ H Q)
    (hRR : ∀ D C s' m H', Inv X pins σ H' s' → Q (.ref D) H' → s'.heap.Ns C m → FpOk X pins H' C → compPost (model X.prog X.w) X.A X.xe use Qf (.ref D) C (.ok .next) s') :
    wpAny (model X.prog X.w) X.A (comprehension (.DictComp kx vx [⟨tg, iter, ifs, 0⟩, ⟨tg1, iter1, ifs1, 0⟩] scope pos) scope X.env pos' newDict false (eval iter X.env) use) Qf X.xe s := by
  have hfree : ∀ y ∈ scope.names, y.2 = .free → ∃ c, X.env.cells.lookup y.1 = some c := fun y hy e => by
    rcases ok.free y hy e with k | k
    · exact I.ok.has _ (.inl k)
    · exact I.ok.has _ (.inr k)
  refine wpAny_comprehension_free (use := use) rfl hs (closure_ok hfree) ok.kind (fun y hy e => by rw [ok.uniq y hy, e])
    (thn (hi.run pins s σ H _ I h) fun xv s1 hx => thn hx fun itv s2 h2 => ?_)
  obtain ⟨it, fp, tn, J, H2, e, I2, T, st2, f2, q⟩ := h2
  subst e
  refine wpAny_newObj_type (newEnv_comp ?_)
  generalize hD : s2.heap.objs.size = D
  have hDn : H2 D = none := I2.hok.fresh (Nat.le_of_eq hD)
  obtain ⟨W, ⟨m0, w0⟩, turn⟩ := q D hDn
  -- the new list
  generalize hs3 : ({ s2 with heap := s2.heap.push { cls := .type "dict", data := .dict #[] } } : Shared) = s3
  have I3 : Inv X pins σ (upd H2 D (.dK [])) s3 := by
    rw [← hs3]
    refine I2.laid (t' := s2.toks) (fun b o e => Heap.get?_push_of_some _ e) (Nat.le_of_eq hD) ?_
    rw [← hD]
    exact dk_empty s2.heap I2.big
  have h3 : s3.heap = s2.heap.push { cls := .type "dict", data := .dict #[] } := by rw [← hs3]
  have sz : ∀ b ∈ fp, b < s2.heap.objs.size := fun b hb => by
    obtain ⟨o, e, _⟩ := T.obj _ _ st2 b hb
    exact Heap.lt_size e
  have f3 : ∀ b ∈ fp, FpOk X pins (upd H2 D (.dK [])) b ∧ b < s3.heap.objs.size := fun b hb => by
    have hlt := sz b hb
    refine ⟨⟨?_, (f2 b hb).2⟩, by rw [h3, Heap.size_push]; exact Nat.lt_succ_of_lt hlt⟩
    rw [upd_ne (by rw [← hD]; exact Nat.ne_of_lt hlt)]
    exact (f2 b hb).1
  have st3 : tn 0 s3.heap := T.keep _ _ _ st2 fun b _ o e => by rw [h3]; exact Heap.get?_push_of_some _ e
  have I4 := block_start I3 ok hN f3
  have pg := hg s3 (upd H2 D (.dK [])) s3.heap.objs.size (cellsFrom (s3.heap.objs.size + 1) scope.names (cloFrom X.env.cells scope.names [])) fp
  have pt := ht s3 (upd H2 D (.dK [])) s3.heap.objs.size (cellsFrom (s3.heap.objs.size + 1) scope.names (cloFrom X.env.cells scope.names [])) fp
  have pk := hk s3 (upd H2 D (.dK [])) s3.heap.objs.size (cellsFrom (s3.heap.objs.size + 1) scope.names (cloFrom X.env.cells scope.names [])) fp
  have pe := he s3 (upd H2 D (.dK [])) s3.heap.objs.size (cellsFrom (s3.heap.objs.size + 1) scope.names (cloFrom X.env.cells scope.names [])) fp
  have pi1 := hi1 s3 (upd H2 D (.dK [])) s3.heap.objs.size (cellsFrom (s3.heap.objs.size + 1) scope.names (cloFrom X.env.cells scope.names [])) fp
  have pg1 := hg1 s3 (upd H2 D (.dK [])) s3.heap.objs.size (cellsFrom (s3.heap.objs.size + 1) scope.names (cloFrom X.env.cells scope.names [])) fp
  have pt1 := ht1 s3 (upd H2 D (.dK [])) s3.heap.objs.size (cellsFrom (s3.heap.objs.size + 1) scope.names (cloFrom X.env.cells scope.names [])) fp
  show codeAny _ _ (.compStart (.DictComp kx vx [⟨tg, iter, ifs, 0⟩, ⟨tg1, iter1, ifs1, 0⟩] scope pos) 0 (.ref it) (.ref D) (compEnvC scope (cellsFrom (s3.heap.objs.size + 1) scope.names (cloFrom X.env.cells scope.names [])) s3.heap.objs.size X.env)) (compPost (model X.prog X.w) X.A X.xe use Qf (.ref D) s3.heap.objs.size) { s3 with heap := pushCells (s3.heap.push { cls := .type "dict", data := .dict #[] }) scope.names }
  have nfp : ∀ b ∈ fp, (upd H2 D (.dK [])) b = none := fun b hb => (f3 b hb).1.1
  generalize hce : compEnvC scope (cellsFrom (s3.heap.objs.size + 1) scope.names (cloFrom X.env.cells scope.names [])) s3.heap.objs.size X.env = ce at I4 pg pt pk pe pi1 pg1 pt1 ⊢
  have cL : ce.locals = s3.heap.objs.size := by subst hce; rfl
  generalize hH3 : upd H2 D (.dK []) = H3 at I3 I4 pg pt pk pe pi1 pg1 pt1 w0 nfp f3
  generalize hs4 : ({ s3 with heap := pushCells (s3.heap.push { cls := .type "dict", data := .dict #[] }) scope.names } : Shared) = s4 at I4 ⊢
  have st4 : tn 0 s4.heap := T.keep _ _ _ st3 fun b _ o e => by rw [← hs4]; exact pushCells_keeps _ _ _ _ (Heap.get?_push_of_some _ e)
  have stat : ∀ {σ' : L2.St} {H' : Hp} {s' : Shared}, Inv (X.blk s3 H3 scope ce fp) [] σ' H' s' → (∀ b ∈ fp, H' b = none) → ∀ b ∈ fp, FpOk (X.blk s3 H3 scope ce fp) [] H' b := fun {σ' H' s'} I' hn b hb =>
    ⟨hn b hb, (I'.ok.exf b hb).1, I'.ok.exfs b hb, .inl hb, fun x c e => (I'.ok.exf b hb).2 x c e, fun p hp => absurd (show p ∈ ([] : List (Addr × Obj)) ++ [] from hp) (by simp)⟩
  have loop : codeAny (model X.prog X.w) X.A (.compLoop (.DictComp kx vx [⟨tg, iter, ifs, 0⟩, ⟨tg1, iter1, ifs1, 0⟩] scope pos) 0 (.ref it) (.ref D) ce) (compPost (model X.prog X.w) X.A X.xe use Qf (.ref D) s3.heap.objs.size) s4 := by
    refine compLoopD2_out (hs1 ce) (fun n s' => ∃ i H', Inv (X.blk s3 H3 scope ce fp) [] (wipe σ (own.map (·.2))) H' s' ∧ tn i s'.heap ∧ (∀ b ∈ fp, H' b = none) ∧ W i n H') ?_ m0 ⟨0, H3, I4, st4, nfp, w0⟩
    rintro n s5 ⟨i, H5, I5, st5, n5, w5⟩
    rcases turn i n H5 w5 with ⟨stop, qq⟩ | ⟨go, Nx, hNx, step⟩
    · have td := T.done (X.blk s3 H3 scope ce fp) rfl rfl rfl hc i [] s5 _ H5 (fun _ _ => False) I5 (stat I5 n5) st5 stop
      refine thnF td fun r s6 ⟨hr, I6⟩ => ?_
      subst hr
      -- back in the def's context
      have I7 : Inv X pins σ H5 s6 := I3.call' (ch := fp) I6.os I6.base I6.hok I6.bare fun b hb => ⟨(f3 b hb).1.2.2.2.1, (f3 b hb).1.2.1, (f3 b hb).1.2.2.2.2.1, (f3 b hb).1.2.2.2.2.2⟩
      have nC : H5 s3.heap.objs.size = none := by
        have z : H5 ce.locals = none := I6.free
        rw [cL] at z
        exact z
      obtain ⟨m, hn, _⟩ := I6.loc
      have hn : s6.heap.Ns ce.locals m := hn
      rw [cL] at hn
      exact hRR D s3.heap.objs.size s6 m H5 I7 qq hn (I3.fpOk (Nat.le_refl _) nC)
    · have ti := T.item (X.blk s3 H3 scope ce fp) rfl rfl rfl hc i [] s5 _ H5 (fun _ _ => False) I5 (stat I5 n5) st5 go
      refine thnF ti fun r s6 ⟨u, hr, h6⟩ => ?_
      subst hr
      refine thnF h6 fun _ s7 ⟨x, H7, I7, r7, y7, st7, n7⟩ => ?_
      have I7' := I7.pinned (stat I7 n7) (T.obj _ _ st7)
      refine thnF (pg.run _ s7 _ H7 x u _ I7' r7 (step x H7 y7)) fun _ s8 ⟨σ8, H8, I8, hw8, q8⟩ => ?_
      refine thnF (pt.run _ s8 σ8 H8 _ I8 q8) fun b s9 ⟨H9, I9, q9⟩ => ?_
      -- the turn's end, from any slots that know what the block knew at its start
      have fin : ∀ {σ9 : L2.St} {s' : Shared} {H' : Hp}, Inv (X.blk s3 H3 scope ce fp) ([] ++ pinsAt fp s7.heap) σ9 H' s' → (wipe σ (own.map (·.2))).length = σ9.length → (∀ (j : Nat) v, (wipe σ (own.map (·.2)))[j]? = some (some v) → σ9[j]? = some (some v)) → Nx H' →
          ∃ m, m < n ∧ ∃ i H', Inv (X.blk s3 H3 scope ce fp) [] (wipe σ (own.map (·.2))) H' s' ∧ tn i s'.heap ∧ (∀ b ∈ fp, H' b = none) ∧ W i m H' := fun {σ9 s' H'} I' hl hk nx => by
        obtain ⟨m', hm, w'⟩ := hNx H' nx
        have pin' : ∀ b ∈ fp, ∀ o, s7.heap.get? b = some o → s'.heap.get? b = some o ∧ H' b = none := fun b hb o e =>
          let z := I'.pin (b, o) (List.mem_append_right _ (List.mem_append_right _ (mem_pinsAt hb e)))
          ⟨z.1, z.2.1⟩
        refine ⟨m', hm, i + 1, H', (I'.unpinned (pins := [])).weak hl hk, T.keep _ _ _ st7 fun b hb o e => (pin' b hb o e).1, fun b hb => ?_, w'⟩
        obtain ⟨o, e, _⟩ := T.obj _ _ st7 b hb
        exact (pin' b hb o e).2
      have hl8 : (wipe σ (own.map (·.2))).length = σ8.length := by rw [← hw8, wipe_length]
      have hk8 : ∀ (j : Nat) v, (wipe σ (own.map (·.2)))[j]? = some (some v) → σ8[j]? = some (some v) := fun j v e => by
        rw [← hw8] at e
        exact (wipe_some e).1
      have hk9 : ∀ (j : Nat) v, (wipe σ (own.map (·.2)))[j]? = some (some v) → (wipe σ8 vs1)[j]? = some (some v) := fun j v e => by
        rw [← hw8] at e
        obtain ⟨e1, e2⟩ := wipe_some e
        rw [wipe_out fun z => e2 (hv j z)]
        exact e1
      cases b with
      | false =>
        simp only [Bool.false_eq_true, if_false] at q9 ⊢
        exact fin I9 hl8 hk8 q9
      | true =>
        simp only [if_true] at q9 ⊢
        refine thnF (pi1.run _ s9 σ8 H9 _ I9 q9) fun xv s10 hx => thnF hx fun itv s11 h11 => ?_
        obtain ⟨it1, fp1, tn1, J1, H11, e1, I11, T1, st11, f11, W1, ⟨m1, w1⟩, turn1⟩ := h11
        subst e1
        -- the inner loop
        have stat1 : ∀ {H' : Hp}, (∀ b ∈ fp1, H' b = none) → ∀ b ∈ fp1, FpOk (X.blk s3 H3 scope ce fp) ([] ++ pinsAt fp s7.heap) H' b := fun hn b hb => ⟨hn b hb, (f11 b hb).2⟩
        have loop1 : codeAny (model X.prog X.w) X.A (.compLoop (.DictComp kx vx [⟨tg, iter, ifs, 0⟩, ⟨tg1, iter1, ifs1, 0⟩] scope pos) 1 (.ref it1) (.ref D) ce)
            (fun r s' => match r with
              | .ok _ => ∃ m, m < n ∧ ∃ i H', Inv (X.blk s3 H3 scope ce fp) [] (wipe σ (own.map (·.2))) H' s' ∧ tn i s'.heap ∧ (∀ b ∈ fp, H' b = none) ∧ W i m H'
              | .error _ => False) s11 := by
          refine compLoopD2_in (fun k s' => ∃ j H', Inv (X.blk s3 H3 scope ce fp) ([] ++ pinsAt fp s7.heap) (wipe σ8 vs1) H' s' ∧ tn1 j s'.heap ∧ (∀ b ∈ fp1, H' b = none) ∧ W1 j k H') ?_ m1 ⟨0, H11, I11.weak (wipe_length _ _) (fun j v e => (wipe_some e).1), st11, fun b hb => (f11 b hb).1, w1⟩
          rintro k s12 ⟨j, H12, I12, st12, n12, w12⟩
          rcases turn1 j k H12 w12 with ⟨stop1, nx1⟩ | ⟨go1, Nx1, hNx1, step1⟩
          · refine thnF (T1.done (X.blk s3 H3 scope ce fp) rfl rfl rfl hc j _ s12 (wipe σ8 vs1) H12 (fun _ _ => False) I12 (stat1 n12) st12 stop1) fun r s13 ⟨hr, I13⟩ => ?_
            subst hr
            exact fin I13 (hl8.trans (wipe_length σ8 vs1).symm) hk9 nx1
          · refine thnF (T1.item (X.blk s3 H3 scope ce fp) rfl rfl rfl hc j _ s12 (wipe σ8 vs1) H12 (fun _ _ => False) I12 (stat1 n12) st12 go1) fun r s13 ⟨u1, hr, h13⟩ => ?_
            subst hr
            refine thnF h13 fun _ s14 ⟨x1, H14, I14, r14, y14, st14, n14⟩ => ?_
            have I14' := I14.pinned (stat1 n14) (T1.obj _ _ st14)
            refine thnF (pg1.run _ s14 (wipe σ8 vs1) H14 x1 u1 _ I14' r14 (step1 x1 H14 y14)) fun _ s15 ⟨σ15, H15, I15, hw15, q15⟩ => ?_
            refine thnF (pt1.run _ s15 σ15 H15 _ I15 q15) fun b1 s16 ⟨H16, I16, q16⟩ => ?_
            have fin1 : ∀ {s' : Shared} {H' : Hp}, Inv (X.blk s3 H3 scope ce fp) (([] ++ pinsAt fp s7.heap) ++ pinsAt fp1 s14.heap) σ15 H' s' → Nx1 H' → ∃ m, m < k ∧ ∃ j H', Inv (X.blk s3 H3 scope ce fp) ([] ++ pinsAt fp s7.heap) (wipe σ8 vs1) H' s' ∧ tn1 j s'.heap ∧ (∀ b ∈ fp1, H' b = none) ∧ W1 j m H' := fun {s' H'} I' nx => by
              obtain ⟨m', hm, w'⟩ := hNx1 H' nx
              have pin' : ∀ b ∈ fp1, ∀ o, s14.heap.get? b = some o → s'.heap.get? b = some o ∧ H' b = none := fun b hb o e =>
                let z := I'.pin (b, o) (List.mem_append_right _ (List.mem_append_right _ (mem_pinsAt hb e)))
                ⟨z.1, z.2.1⟩
              refine ⟨m', hm, j + 1, H', I'.unpinned.weak (by rw [← hw15, wipe_length]) (fun j v e => by rw [← hw15] at e; exact (wipe_some e).1), T1.keep _ _ _ st14 fun b hb o e => (pin' b hb o e).1, fun b hb => ?_, w'⟩
              obtain ⟨o, e, _⟩ := T1.obj _ _ st14 b hb
              exact (pin' b hb o e).2
            cases b1 with
            | false =>
              simp only [Bool.false_eq_true, if_false] at q16 ⊢
              exact fin1 I16 q16
            | true =>
              simp only [if_true] at q16 ⊢
              refine thnF (pk.run _ s16 σ15 H16 _ I16 q16) fun zk s17 ⟨yk, H17, I17, r17, q17⟩ => ?_
              refine thnF (pe.run _ s17 σ15 H17 _ I17 q17) fun zv s18 ⟨yv, H18, I18, r18, kvs, k0, ek, hD18, hz18, nx⟩ => ?_
              subst ek
              exact d_dictSet (X := X.blk s3 H3 scope ce fp) I18 hD18 hz18 r17 r18 fun s19 I19 => fin1 I19 nx
        exact compStartD1_ok loop1 (T1.self X.A 0 _ _ _ st11 loop1)
  exact codeAny_compStart_dict loop (T.self X.A 0 _ _ _ st4 loop)
theorem pe_dc2 {kx vx tg iter tg1 iter1 : Expr} {ifs ifs1 : List Expr} {scope : Scope} {own : List (Str × Nat)} {vs1 : List Nat} {pos : Pos} {wi wi1 : TI} {g g1 : TG} {tt tt1 : TT} {tk te : TE} (hc : X.calm = true) (hN : X.N.Nodup) (hi : PI X tg iter wi) (ok : BlkOk X.N X.env.scope scope own) (hv : ∀ i ∈ vs1, i ∈ own.map (·.2))
    (hg : ∀ (s : Shared) (H : Hp) (C : Addr) (cl : List (Str × Addr)) (fp : List Addr), PG (X.blk s H scope (compEnvC scope cl C X.env) fp) tg g) (ht : ∀ (s : Shared) (H : Hp) (C : Addr) (cl : List (Str × Addr)) (fp : List Addr), PTs (X.blk s H scope (compEnvC scope cl C X.env) fp) ifs tt)
    (hi1 : ∀ (s : Shared) (H : Hp) (C : Addr) (cl : List (Str × Addr)) (fp : List Addr), PI (X.blk s H scope (compEnvC scope cl C X.env) fp) tg1 iter1 wi1)
    (hg1 : ∀ (s : Shared) (H : Hp) (C : Addr) (cl : List (Str × Addr)) (fp : List Addr), PG (X.blk s H scope (compEnvC scope cl C X.env) fp) tg1 g1) (ht1 : ∀ (s : Shared) (H : Hp) (C : Addr) (cl : List (Str × Addr)) (fp : List Addr), PTs (X.blk s H scope (compEnvC scope cl C X.env) fp) ifs1 tt1)
    (hk : ∀ (s : Shared) (H : Hp) (C : Addr) (cl : List (Str × Addr)) (fp : List Addr), PE (X.blk s H scope (compEnvC scope cl C X.env) fp) kx tk)
    (he : ∀ (s : Shared) (H : Hp) (C : Addr) (cl : List (Str × Addr)) (fp : List Addr), PE (X.blk s H scope (compEnvC scope cl C X.env) fp) vx te) (hs : ∀ x, foldedSetIterable iter X.env x = pure x := by intro _; rfl) (hs1 : ∀ env x, foldedSetIterable iter1 env x = pure x := by intro _ _; rfl) :
    PE X (.DictComp kx vx [⟨tg, iter, ifs, 0⟩, ⟨tg1, iter1, ifs1, 0⟩] scope pos) (tDc2 wi g tt wi1 g1 tt1 tk te (own.map (·.2)) vs1) := by
  refine ⟨fun pins s σ H Q I h => ?_⟩
  rw [arm_eval_DictComp]
  refine dc2_core hc hN I hi ok hv hg ht hk he hs hi1 hg1 ht1 hs1 h fun D C s' m H' I' q hn f => ⟨m, hn, fun h'' sb => ?_⟩
  obtain ⟨f0, f1, f2, f3, f4, f5⟩ := f
  exact ⟨.ref D, H', I'.turned (t' := s'.toks) (fun b o hb e => (sb.2 b hb).trans e) f0 f1 f3 f4 f5, rfl, q⟩
end
end PLD

set_option maxRecDepth 100000
set_option maxHeartbeats 4000000
namespace PL
open PySem PySem.Spec PyProof.Rows L2
set_option autoImplicit false

section
variable {X : Cx} {c : Ct} {W : WX} {own own' vs vs1 : List Nat} {m e ek ev : EM} {t t1 : TM} {g g1 : GM} {src src1 : LM} {k : Kd}
theorem compD2_nx {ρ : Env} {y : Nat} : ∀ (ds : List Dat) (acc : List (Dat × Dat)), compD2 g t src1 vs1 g1 t1 ek ev ρ ds acc ≠ .exc y
  | [], acc, h => by cases h
  | d :: r, acc, h => by
    unfold compD2 at h
    cases q1 : g d ρ with
    | exc z => rw [q1] at h; cases h
    | bad => rw [q1] at h; cases h
    | ok ρ1 =>
      rw [q1] at h
      simp only [noX, PL.R.bnd_ok] at h
      cases q2 : t ρ1 with
      | exc z => rw [q2] at h; cases h
      | bad => rw [q2] at h; cases h
      | ok b =>
        rw [q2] at h
        simp only [noX, PL.R.bnd_ok] at h
        cases b with
        | false => exact compD2_nx r acc h
        | true =>
          simp only [if_true] at h
          cases q3 : src1 ρ1 with
          | exc z => rw [q3] at h; cases h
          | bad => rw [q3] at h; cases h
          | ok ds1 =>
            rw [q3] at h
            simp only [noX, PL.R.bnd_ok] at h
            cases q4 : compD g1 t1 ek ev (PL.wipe ρ1 vs1) ds1 acc with
            | exc z => exact compD_nx ds1 acc q4
            | bad => rw [q4] at h; cases h
            | ok ys =>
              rw [q4] at h
              simp only [PL.R.bnd_ok] at h
              exact compD2_nx r ys h
theorem dc2_read {σ : St} {H : Hp} {Q : VK} (hd : ∀ j ∈ vs, j ∉ own) (hd1 : ∀ j ∈ vs1, j ∉ own) (h : qE c W own .new (eDComp2 src vs g t src1 vs1 g1 t1 ek ev) σ H Q) :
    PLD.tDc2 (qI c W own src) (qG c own own vs g) (qT c W0 own t) (qI c W0 own src1) (qG c own own vs1 g1) (qT c W0 own t1) (qE c W0 own .sh ek) (qE c W0 own .frz ev) vs vs1 σ H Q := by
  obtain ⟨Z, ρ, S, p⟩ := h
  refine ⟨Z, ρ, S, (Post.bnd p).imp (fun ds p1 J Z1 H1 x1 it D hD => ?_) fun _ q => q⟩
  have S1 := S.move x1
  have hl1 : Ext Z1 H1 Z1 (upd H1 D (.dK [])) := .laid x1.trk hD
  have nD1 : ¬ Z1 D := fun z => by
    obtain ⟨u, q⟩ := x1.trk D z
    rw [hD] at q; cases q
  cases hc : compD2 g t src1 vs1 g1 t1 ek ev (PL.wipe ρ vs) ds [] with
  | bad => rw [hc] at p1; exact p1.elim
  | exc y => exact absurd hc (compD2_nx _ _)
  | ok total =>
    rw [hc] at p1
    have p2 : ∀ v Z' H', Ext Z H Z' H' → Val c.K Z' H' H .new v (.dic total) → Q v H' := p1
    refine ⟨fun i mm H' => ∃ Z' ks acc, Ext Z1 H1 Z' H' ∧ ¬ Z' D ∧ H' D = some (.dK ks) ∧ RepD c.K Z' H' ks acc ∧ i + mm = ds.length ∧ compD2 g t src1 vs1 g1 t1 ek ev (PL.wipe ρ vs) (ds.drop i) acc = .ok total,
      ⟨ds.length, Z1, [], [], hl1, nD1, upd_same, .nil, by omega, by rw [List.drop_zero]; exact hc⟩, ?_⟩
    rintro i mm H' ⟨Z', ks, acc, x2, nD, hH, hr, hm, hcr⟩
    obtain ⟨h1, h2⟩ := it Z' H' x2.adv x2.trk i
    cases ed : ds[i]? with
    | none =>
      have hl : ds.length ≤ i := List.getElem?_eq_none_iff.mp ed
      rw [List.drop_of_length_le hl] at hcr
      cases hcr
      exact .inl ⟨h2 hl, p2 (.ref D) Z' H' (x1.trans x2) ⟨fun _ => ⟨D, rfl, nD, x1.same.free hD, ks, hH, hr⟩, fun z => by cases z⟩⟩
    | some d =>
      obtain ⟨hlt, hdd⟩ := List.getElem?_eq_some_iff.mp ed
      rw [List.drop_eq_getElem_cons hlt, hdd] at hcr
      obtain ⟨go, yld⟩ := h1 d ed
      refine .inr ⟨go, fun H3 => ∃ Z3 ks acc, Ext Z1 H1 Z3 H3 ∧ ¬ Z3 D ∧ H3 D = some (.dK ks) ∧ RepD c.K Z3 H3 ks acc ∧ compD2 g t src1 vs1 g1 t1 ek ev (PL.wipe ρ vs) (ds.drop (i + 1)) acc = .ok total,
        fun H3 ⟨Z3, ks3, acc3, q1, q2, q3, q4, q5⟩ => ⟨mm - 1, by omega, Z3, ks3, acc3, q1, q2, q3, q4, by omega, q5⟩, fun x H2 y => ?_⟩
      obtain ⟨Z2, xx, rx⟩ := yld x H2 y
      have S2 := ((S1.move x2).move xx).wipe (vs := vs) hd
      have nD2 : ¬ Z2 D := xx.not hH nD
      have hH2 := xx.same _ _ hH
      have hr2 := hr.adv xx.adv
      have x12 := x2.trans xx
      unfold compD2 at hcr
      have P0 : Post ((noX (g d (PL.wipe ρ vs))).bnd fun ρ' => (noX (t ρ')).bnd fun b => if b then (noX (src1 ρ')).bnd fun ds1 => (compD g1 t1 ek ev (PL.wipe ρ' vs1) ds1 acc).bnd fun acc' => compD2 g t src1 vs1 g1 t1 ek ev (PL.wipe ρ vs) (ds.drop (i + 1)) acc' else compD2 g t src1 vs1 g1 t1 ek ev (PL.wipe ρ vs) (ds.drop (i + 1)) acc) (fun z => z = total) (fun _ => False) := by
        rw [hcr]
        rfl
      refine ⟨Z2, PL.wipe ρ vs, d, S2, rx, (noX_post (Post.bnd P0)).imp (fun ρ1 P1 σ1 tch Sg => ⟨wipeS_eq tch, ?_⟩) fun _ q => q⟩
      refine ⟨Z2, ρ1, Sg, (noX_post (Post.bnd P1)).imp (fun b P2 Z4 H4 x4 => ?_) fun _ q => q.elim⟩
      cases b with
      | false =>
        simp only [Bool.false_eq_true, if_false] at P2 ⊢
        cases q : compD2 g t src1 vs1 g1 t1 ek ev (PL.wipe ρ vs) (ds.drop (i + 1)) acc with
        | ok r2 =>
          rw [q] at P2
          have P2 : r2 = total := P2
          subst P2
          exact ⟨Z4, ks, acc, x12.trans x4, x4.not hH2 nD2, x4.same _ _ hH2, hr2.adv x4.adv, q⟩
        | exc z => rw [q] at P2; exact P2.elim
        | bad => rw [q] at P2; exact P2.elim
      | true =>
        simp only [if_true] at P2 ⊢
        have Sg4 := Sg.move x4
        refine ⟨Z4, ρ1, Sg4, (noX_post (Post.bnd P2)).imp (fun ds1 P3 J1 Z5 H5 x5 it1 => ?_) fun _ q => q.elim⟩
        have P3 := Post.bnd P3
        cases hc1 : compD g1 t1 ek ev (PL.wipe ρ1 vs1) ds1 acc with
        | bad => rw [hc1] at P3; exact P3.elim
        | exc z => rw [hc1] at P3; exact P3.elim
        | ok inn =>
          rw [hc1] at P3
          have P3 : Post (compD2 g t src1 vs1 g1 t1 ek ev (PL.wipe ρ vs) (ds.drop (i + 1)) inn) (fun z => z = total) (fun _ => False) := P3
          cases hc2 : compD2 g t src1 vs1 g1 t1 ek ev (PL.wipe ρ vs) (ds.drop (i + 1)) inn with
          | bad => rw [hc2] at P3; exact P3.elim
          | exc z => rw [hc2] at P3; exact P3.elim
          | ok zs =>
            rw [hc2] at P3
            have P3 : zs = total := P3
            subst P3
            have Sg5 := Sg4.move x5
            have x45 := x4.trans x5
            have hH5 := x45.same _ _ hH2
            have nD5 := x45.not hH2 nD2
            have hr5 := hr2.adv x45.adv
            have x15 := x12.trans x45
            refine ⟨fun j kk H6 => ∃ Z6 ks6 acc6, Ext Z5 H5 Z6 (upd H6 D (.dK ks)) ∧ Ext Z1 H1 Z6 H6 ∧ Adv Z5 H5 Z6 H6 ∧ ¬ Z6 D ∧ H6 D = some (.dK ks6) ∧ RepD c.K Z6 H6 ks6 acc6 ∧ j + kk = ds1.length ∧ compD g1 t1 ek ev (PL.wipe ρ1 vs1) (ds1.drop j) acc6 = .ok inn,
              ⟨ds1.length, Z5, ks, acc, ?_, x15, .refl, nD5, hH5, hr5, by omega, by rw [List.drop_zero]; exact hc1⟩, ?_⟩
            · rw [show upd H5 D (.dK ks) = H5 from funext fun b => by
                by_cases hb : b = D
                · rw [hb, upd_same, hH5]
                · rw [upd_ne hb]]
              exact .refl Sg5.trk
            · rintro j kk H6 ⟨Z6, ks6, acc6, xe, x16, ad6, nD6, hH6, hr6, hm6, hc6⟩
              have nd : ∀ j ∈ own, σ1[j]? ≠ some (some (.ref D)) := fun j hj q => by
                have e1 : σ1[j]? = (L2.wipe σ vs)[j]? := tch.2 j fun hv => hd j hv hj
                rw [e1, wipeS_get, if_neg fun z => hd j z.1 hj] at q
                obtain ⟨a, d0, _, q2, _, _, tp⟩ := S1.ow j hj
                rw [q] at q2
                cases q2
                obtain ⟨o, ho⟩ := tp.there
                rw [hD] at ho
                cases ho
              have keep6 : ∀ a o, a ≠ D → H5 a = some o → H6 a = some o := fun a o hne q => by
                have := xe.same a o q
                rw [upd_ne hne] at this
                exact this
              have S6 : SE c own Z6 H6 σ1 ρ1 := Sg5.past (D := D) ad6 (S1.ext.trans x16) keep6 (fun a o q n z => by
                rcases xe.new a z with z | z
                · exact n z
                · rw [q] at z; cases z) nd
              obtain ⟨k1, k2⟩ := it1 Z6 H6 ad6 S6.trk j
              cases ej : ds1[j]? with
              | none =>
                have hl : ds1.length ≤ j := List.getElem?_eq_none_iff.mp ej
                rw [List.drop_of_length_le hl] at hc6
                cases hc6
                exact .inl ⟨k2 hl, Z6, ks6, _, x16, nD6, hH6, hr6, hc2⟩
              | some d1 =>
                obtain ⟨hlt1, hdd1⟩ := List.getElem?_eq_some_iff.mp ej
                rw [List.drop_eq_getElem_cons hlt1, hdd1] at hc6
                obtain ⟨go1, yld1⟩ := k1 d1 ej
                refine .inr ⟨go1, fun H7 => ∃ Z7 ks7 acc7, Ext Z5 H5 Z7 (upd H7 D (.dK ks)) ∧ Ext Z1 H1 Z7 H7 ∧ Adv Z5 H5 Z7 H7 ∧ ¬ Z7 D ∧ H7 D = some (.dK ks7) ∧ RepD c.K Z7 H7 ks7 acc7 ∧ compD g1 t1 ek ev (PL.wipe ρ1 vs1) (ds1.drop (j + 1)) acc7 = .ok inn,
                  fun H7 ⟨Z7, ks7, acc7, q1, q2, q3, q4, q5, q6, q7⟩ => ⟨kk - 1, by omega, Z7, ks7, acc7, q1, q2, q3, q4, q5, q6, by omega, q7⟩, fun x7 H7 y7 => ?_⟩
                obtain ⟨Z7, xx7, rx7⟩ := yld1 x7 H7 y7
                have S7 := (S6.move xx7).wipe (vs := vs1) hd1
                unfold compD at hc6
                have P0' : Post ((noX (g1 d1 (PL.wipe ρ1 vs1))).bnd fun ρ' => (noX (t1 ρ')).bnd fun b => if b then (noX (ek ρ')).bnd fun k => (noX (ev ρ')).bnd fun v => if isKey k ∧ acc6.length < LINE then compD g1 t1 ek ev (PL.wipe ρ1 vs1) (ds1.drop (j + 1)) (dicPut acc6 k v) else .bad else compD g1 t1 ek ev (PL.wipe ρ1 vs1) (ds1.drop (j + 1)) acc6) (fun z => z = inn) (fun _ => False) := by
                  rw [hc6]
                  rfl
                refine ⟨Z7, PL.wipe ρ1 vs1, d1, S7, rx7, (noX_post (Post.bnd P0')).imp (fun ρ2 P1' σ2 tch2 Sg2 => ⟨wipeS_eq tch2, ?_⟩) fun _ q => q⟩
                refine ⟨Z7, ρ2, Sg2, (noX_post (Post.bnd P1')).imp (fun b P2' Z8 H8 x8 => ?_) fun _ q => q.elim⟩
                have x68 := xx7.trans x8
                have hH8 := x68.same _ _ hH6
                have nD8 := x68.not hH6 nD6
                cases b with
                | false =>
                  simp only [Bool.false_eq_true, if_false] at P2' ⊢
                  cases q : compD g1 t1 ek ev (PL.wipe ρ1 vs1) (ds1.drop (j + 1)) acc6 with
                  | ok r2 =>
                    rw [q] at P2'
                    have P2' : r2 = inn := P2'
                    subst P2'
                    exact ⟨Z8, ks6, acc6, xe.under x68 hH6, x16.trans x68, ad6.trans x68.adv, nD8, hH8, hr6.adv x68.adv, q⟩
                  | exc z => rw [q] at P2'; exact P2'.elim
                  | bad => rw [q] at P2'; exact P2'.elim
                | true =>
                  simp only [if_true] at P2' ⊢
                  refine ⟨Z8, ρ2, Sg2.move x8, (noX_post (Post.bnd P2')).imp (fun y1 P3' v Z9 H9 x9 hv => ?_) fun _ q => q.elim⟩
                  refine ⟨Z9, ρ2, (Sg2.move x8).move x9, (noX_post (Post.bnd P3')).imp (fun y2 P4' w Z10 H10 x10 hw => ?_) fun _ q => q.elim⟩
                  by_cases hk : isKey y1 = true ∧ acc6.length < LINE
                  · rw [if_pos hk] at P4'
                    cases q : compD g1 t1 ek ev (PL.wipe ρ1 vs1) (ds1.drop (j + 1)) (dicPut acc6 y1 y2) with
                    | ok r2 =>
                      rw [q] at P4'
                      have P4' : r2 = inn := P4'
                      subst P4'
                      obtain ⟨k9, rfl, rfl, ok9⟩ := kv_rep hv hk.1
                      have x610 := (x68.trans x9).trans x10
                      have hH10 := x610.same _ _ hH6
                      have nD10 := x610.not hH6 nD6
                      refine ⟨ks6, k9, rfl, hH10, by rw [hr6.len, ← line_eq]; exact hk.2, Z10, putK ks6 k9 w, dicPut acc6 (kD k9) y2, ?_, (x16.trans x610).chg hD nD10, (ad6.trans x610.adv).trans (.chg nD10), nD10, upd_same, (dic_put hw ok9 (hr6.adv x610.adv)).adv (.chg nD10), q⟩
                      have u2 : upd (upd H10 D (.dK (putK ks6 k9 w))) D (.dK ks) = upd H10 D (.dK ks) := funext fun b => by
                        by_cases hb : b = D
                        · rw [hb, upd_same, upd_same]
                        · rw [upd_ne hb, upd_ne hb, upd_ne hb]
                      rw [u2]
                      exact xe.under x610 hH6
                    | exc z => rw [q] at P4'; exact P4'.elim
                    | bad => rw [q] at P4'; exact P4'.elim
                  · rw [if_neg hk] at P4'
                    exact P4'.elim
section
variable {N : List Str} {visB locB : List Nat} {glsB : List Str} {vis loc : List Nat} {gls : List Str} {kx vx tg iter tg1 iter1 : Expr} {ifs ifs1 : List Expr} {scope : Scope} {ob : List (Str × Nat)} {pos spos py : Pos} {i : Nat} {x : Str} {ownL : List Nat}
theorem xDc2 (V : Scp X vis loc gls) (hc : X.calm = true) (hi : PI X tg iter (qI c W own src)) (ok : BlkOk X.N X.env.scope scope ob) (hv : ob.map (·.2) = vs) (hv1 : vs1.all (fun j => vs.contains j) = true) (hd : vs.all (fun j => own.all (· != j)) = true) (hV : scpC N scope visB locB glsB = true) (hNN : X.N = N)
    (hg : ∀ (s : Shared) (H : Hp) (C : Addr) (cl : List (Str × Addr)) (fp : List Addr), Scp (X.blk s H scope (compEnvC scope cl C X.env) fp) visB locB glsB → PG (X.blk s H scope (compEnvC scope cl C X.env) fp) tg (qG c own own vs g))
    (ht : ∀ (s : Shared) (H : Hp) (C : Addr) (cl : List (Str × Addr)) (fp : List Addr), Scp (X.blk s H scope (compEnvC scope cl C X.env) fp) visB locB glsB → PTs (X.blk s H scope (compEnvC scope cl C X.env) fp) ifs (qT c W0 own t))
    (hi1 : ∀ (s : Shared) (H : Hp) (C : Addr) (cl : List (Str × Addr)) (fp : List Addr), Scp (X.blk s H scope (compEnvC scope cl C X.env) fp) visB locB glsB → PI (X.blk s H scope (compEnvC scope cl C X.env) fp) tg1 iter1 (qI c W0 own src1))
    (hg1 : ∀ (s : Shared) (H : Hp) (C : Addr) (cl : List (Str × Addr)) (fp : List Addr), Scp (X.blk s H scope (compEnvC scope cl C X.env) fp) visB locB glsB → PG (X.blk s H scope (compEnvC scope cl C X.env) fp) tg1 (qG c own own vs1 g1))
    (ht1 : ∀ (s : Shared) (H : Hp) (C : Addr) (cl : List (Str × Addr)) (fp : List Addr), Scp (X.blk s H scope (compEnvC scope cl C X.env) fp) visB locB glsB → PTs (X.blk s H scope (compEnvC scope cl C X.env) fp) ifs1 (qT c W0 own t1))
    (hk : ∀ (s : Shared) (H : Hp) (C : Addr) (cl : List (Str × Addr)) (fp : List Addr), Scp (X.blk s H scope (compEnvC scope cl C X.env) fp) visB locB glsB → PE (X.blk s H scope (compEnvC scope cl C X.env) fp) kx (qE c W0 own .sh ek))
    (he : ∀ (s : Shared) (H : Hp) (C : Addr) (cl : List (Str × Addr)) (fp : List Addr), Scp (X.blk s H scope (compEnvC scope cl C X.env) fp) visB locB glsB → PE (X.blk s H scope (compEnvC scope cl C X.env) fp) vx (qE c W0 own .frz ev))
    (hs : ∀ x, foldedSetIterable iter X.env x = pure x := by intro _; rfl) (hs1 : ∀ env x, foldedSetIterable iter1 env x = pure x := by intro _ _; rfl) :
    PE X (.DictComp kx vx [⟨tg, iter, ifs, 0⟩, ⟨tg1, iter1, ifs1, 0⟩] scope pos) (qE c W own .new (eDComp2 src vs g t src1 vs1 g1 t1 ek ev)) := by
  have sub : ∀ j ∈ vs1, j ∈ vs := fun j hj => by simpa using List.all_eq_true.mp hv1 j hj
  have h := PLD.pe_dc2 (pos := pos) (vs1 := vs1) hc V.nd hi ok (by rw [hv]; exact sub) (fun s H C cl fp => hg s H C cl fp (scp_blk hV hNN)) (fun s H C cl fp => ht s H C cl fp (scp_blk hV hNN)) (fun s H C cl fp => hi1 s H C cl fp (scp_blk hV hNN)) (fun s H C cl fp => hg1 s H C cl fp (scp_blk hV hNN)) (fun s H C cl fp => ht1 s H C cl fp (scp_blk hV hNN)) (fun s H C cl fp => hk s H C cl fp (scp_blk hV hNN)) (fun s H C cl fp => he s H C cl fp (scp_blk hV hNN)) hs hs1
  rw [hv] at h
  have d := own_all hd
  exact h.imp fun σ H Q hq => dc2_read d (fun j hj => d j (sub j hj)) hq
end
end
end PL

set_option maxRecDepth 100000
set_option maxHeartbeats 4000000
namespace PL
open PySem PySem.Spec PyProof.Rows L2
set_option autoImplicit false
section
variable {X : Cx} {vis loc : List Nat} {gls : List Str} {c : Ct} {W : WX} {own own' : List Nat} {pos p : Pos}
theorem xIsV {A : Addr} {oe : Obj} {pn : List (Addr × Obj)} {y : Nat} {xe : Str} {pe' pc : Pos} {sub : Nat → Nat → Bool} (i j jc : Nat) (V : Scp (X.suite A ((A, oe) :: pn)) vis loc gls) (hx : c.xs = some (i, A, y)) (hz : Zc (.ref (c.EC y)) none oe) (hf : ∃ vs, oe.data = .fields vs) (Er : Errs X.K c.EC sub)
    (hi : i ∈ vis) (hN : X.N[i]? = some xe) (hj : gls[j]? = some ("isinstance" : Str)) (hm : X.mg "isinstance" = none) (hjc : gls[jc]? = some ("ValueError" : Str)) (hmc : X.mg "ValueError" = none)
    (hs : starEach (.Name xe pe' :: [.Name "ValueError" pc]) X.env = (false, eval (.Name xe pe') X.env) :: starEach [.Name "ValueError" pc] X.env := by rfl) (hs2 : starEach (.Name "ValueError" pc :: []) X.env = (false, eval (.Name "ValueError" pc) X.env) :: starEach [] X.env := by rfl) (hpl : (backTo pos (starEach [.Name "ValueError" pc] X.env)).any (·.1) = false := by rfl) :
    PE (X.suite A ((A, oe) :: pn)) (.Call (.Name "isinstance" p) [.Name xe pe', .Name "ValueError" pc] [] pos) (qE c W own .new (e1 isVE (eV i))) := by
  have h1 : PE (X.suite A ((A, oe) :: pn)) (.Name xe pe') (tVar i) := pe_var hN (V.vis i hi xe hN).1 (V.vis i hi xe hN).2.1 (V.vis i hi xe hN).2.2
  have h2 : PE (X.suite A ((A, oe) :: pn)) (.Name "ValueError" pc) (tC (.ty "ValueError")) := pe_bltn (V.gl jc _ hjc).1 hmc (by decide +kernel) rfl (V.gl jc _ hjc).2.2 (V.gl jc _ hjc).2.1
  refine (pe_callB (call_isE (pn := pn) (Er.cls y) hz hf) (V.gl j _ hj).1 hm boot_isinstance (pa_cons h1 (pa_cons h2 pa_nil hs2) hs) (by decide) (by decide) hs hpl).imp fun σ H Q ⟨Z, ρ, S, p⟩ => ?_
  have p := Post.bnd p
  unfold eV at p
  cases e : ρ[i]? with
  | none => rw [e] at p; exact p.elim
  | some od =>
    cases od with
    | none => rw [e] at p; exact p.elim
    | some d =>
      rw [e] at p
      cases d with
      | exc y' =>
        obtain ⟨A', q1, q2⟩ := S.exc i y' e
        rw [hx] at q1
        cases q1
        have p : ∀ v Z' H', Ext Z H Z' H' → Val c.K Z' H' H .new v (.bl true) → Q v H' := p
        exact ⟨_, q2, .ty "ValueError", .type "ValueError", true, rfl, fun u r => r, Er.ve y, p _ Z H (.refl S.trk) (Rep.kd .new (.bl _) rfl)⟩
      | _ => exact p.elim
end
end PL

set_option maxRecDepth 100000
set_option maxHeartbeats 4000000
namespace PL
open PySem PySem.Spec PyProof.Rows L2
set_option autoImplicit false
section
variable {K : KF} {Z Z2 : ZS} {H H2 : Hp} {p : Addr} {u : HO}
theorem Rd.off {a : Addr} {x : HO} (n : a ≠ p) (h : Rd H a x) : Rd (upd H p u) a x := by
  rcases h with h | ⟨o, h⟩
  · exact .inl (by rw [upd_ne n]; exact h)
  · exact .inr ⟨o, by rw [upd_ne n]; exact h⟩
mutual
theorem Rep.off (hl : ∀ xs, ¬ Rd H p (.lst xs)) (ht : ∀ xs, ¬ Rd H p (.tup xs)) : ∀ {v : V} {d : Dat}, (nodic d = true ∨ ∀ ks, H p ≠ some (.dK ks)) → Rep K Z H v d → Rep K Z (upd H p u) v d
  | _, _, _, .non => .non
  | _, _, _, .bl b => .bl b
  | _, _, _, .int i => .int i
  | _, _, _, .str s h => .str s h
  | _, _, h, .lst z e r => .lst z (Rd.off (fun q => hl _ (q ▸ e)) e) (RepA.off hl ht (h.imp (fun q => by unfold nodic at q; exact q) id) r)
  | _, _, h, .lstK k r => .lstK k (RepA.off hl ht (h.imp (fun q => by unfold nodic at q; exact q) id) r)
  | _, _, h, .tup z e r => .tup z (Rd.off (fun q => ht _ (q ▸ e)) e) (RepA.off hl ht (h.imp (fun q => by unfold nodic at q; exact q) id) r)
  | _, _, h, .tupK k r => .tupK k (RepA.off hl ht (h.imp (fun q => by unfold nodic at q; exact q) id) r)
  | _, _, h, .dic z e r => by
    rcases h with h | h
    · unfold nodic at h; cases h
    · exact .dic z (by rw [upd_ne (fun q => h _ (q ▸ e))]; exact e) (RepD.off hl ht h r)
theorem RepA.off (hl : ∀ xs, ¬ Rd H p (.lst xs)) (ht : ∀ xs, ¬ Rd H p (.tup xs)) : ∀ {v : List V} {d : List Dat}, (nodicL d = true ∨ ∀ ks, H p ≠ some (.dK ks)) → RepA K Z H v d → RepA K Z (upd H p u) v d
  | _, _, _, .nil => .nil
  | _, _, h, .cons q r => .cons (Rep.off hl ht (h.imp (fun q => by unfold nodicL at q; rw [Bool.and_eq_true] at q; exact q.1) id) q) (RepA.off hl ht (h.imp (fun q => by unfold nodicL at q; rw [Bool.and_eq_true] at q; exact q.2) id) r)
theorem RepD.off (hl : ∀ xs, ¬ Rd H p (.lst xs)) (ht : ∀ xs, ¬ Rd H p (.tup xs)) : ∀ {v : List (Key × V)} {d : List (Dat × Dat)}, (∀ ks, H p ≠ some (.dK ks)) → RepD K Z H v d → RepD K Z (upd H p u) v d
  | _, _, _, .nil => .nil
  | _, _, h, .cons o q r => .cons o (Rep.off hl ht (.inr h) q) (RepD.off hl ht h r)
end
theorem Top.off {a : Addr} {d : Dat} (n : a ≠ p) (hl : ∀ xs, ¬ Rd H p (.lst xs)) (ht : ∀ xs, ¬ Rd H p (.tup xs)) (h : nodic d = true ∨ ∀ ks, H p ≠ some (.dK ks)) (t : Top K Z H a d) : Top K Z (upd H p u) a d := by
  cases d with
  | lst ds => obtain ⟨xs, e, r⟩ := t; exact ⟨xs, by rw [upd_ne n]; exact e, r.off hl ht (h.imp (fun q => by unfold nodic at q; exact q) id)⟩
  | dic kvs =>
    obtain ⟨ks, e, r⟩ := t
    rcases h with h | h
    · unfold nodic at h; cases h
    · exact ⟨ks, by rw [upd_ne n]; exact e, r.off hl ht h⟩
  | _ => exact t.elim
end
def er (H : Hp) (p : Addr) : Hp := fun b => if b = p then none else H b
/-- the context while the dict at p is locked -/
def cLk (c : Ct) (p : Addr) : Ct := { c with Z0 := Zadd c.Z0 p, H0 := er c.H0 p }
section
variable {c : Ct} {own : List Nat} {Z Z2 : ZS} {H H2 : Hp} {σ : St} {ρ : Env} {p : Addr} {ks : List (Key × V)} {od : Obj} {k : Kd} {v : V} {d : Dat}
theorem nl_dK (h : H p = some (.dK ks)) : (∀ xs, ¬ Rd H p (.lst xs)) ∧ ∀ xs, ¬ Rd H p (.tup xs) := by
  refine ⟨fun xs q => ?_, fun xs q => ?_⟩ <;> rcases q with q | ⟨o, q⟩ <;> rw [h] at q <;> cases q
theorem nl_frz (h : H p = some (.frz od (.dK ks))) : (∀ xs, ¬ Rd H p (.lst xs)) ∧ (∀ xs, ¬ Rd H p (.tup xs)) ∧ ∀ k2, H p ≠ some (.dK k2) := by
  refine ⟨fun xs q => ?_, fun xs q => ?_, fun k2 q => ?_⟩
  · rcases q with q | ⟨o, q⟩ <;> rw [h] at q <;> cases q
  · rcases q with q | ⟨o, q⟩ <;> rw [h] at q <;> cases q
  · rw [h] at q; cases q
theorem shut_get (ρ : Env) (i : Nat) : (shutD ρ)[i]? = (ρ[i]?).map shutO := by unfold shutD; rw [List.getElem?_map]
theorem shut_some {i : Nat} (h : (shutD ρ)[i]? = some (some d)) : ρ[i]? = some (some d) ∧ nodic d = true := by
  rw [shut_get] at h
  obtain ⟨o, e, q⟩ := Option.map_eq_some_iff.mp h
  cases o with
  | none => cases q
  | some x =>
    have q : (if nodic x = true then some x else none) = some d := q
    by_cases hn : nodic x = true
    · rw [if_pos hn] at q
      cases q
      exact ⟨e, hn⟩
    · rw [if_neg hn] at q
      cases q
theorem SE.lock (S : SE c own Z H σ ρ) (zp : Z p) (hp : H p = some (.dK ks)) (ho : ownNd own ρ = true) : SE (cLk c p) own Z (upd H p (.frz od (.dK ks))) σ (shutD ρ) where
  ext := by
    refine ⟨fun a z => ?_, fun a o e => ?_, fun a z => ?_, fun a z => ?_⟩
    · rcases z with z | z
      · exact S.ext.sub a z
      · rw [z]; exact zp
    · have e : er c.H0 p a = some o := e
      unfold er at e
      split at e
      · cases e
      · rename_i n
        rw [upd_ne n]
        exact S.ext.same a o e
    · by_cases q : a = p
      · exact ⟨_, by rw [q, upd_same]⟩
      · rw [upd_ne q]; exact S.ext.trk a z
    · by_cases q : a = p
      · exact .inl (.inr q)
      · rcases S.ext.new a z with w | w
        · exact .inl (.inl w)
        · refine .inr ?_
          show er c.H0 p a = none
          unfold er
          rw [if_neg q]
          exact w
  len := by unfold shutD; rw [List.length_map]; exact S.len
  val := fun i d e n nx => by
    obtain ⟨e1, e2⟩ := shut_some e
    obtain ⟨v, h, r⟩ := S.val i d e1 n nx
    obtain ⟨a1, a2⟩ := nl_dK hp
    exact ⟨v, h, r.off a1 a2 (.inl e2)⟩
  exc := fun i x e => S.exc i x (shut_some e).1
  ow := fun i hi => by
    obtain ⟨a, d, e1, e2, nz, h0, t⟩ := S.ow i hi
    have hn : nodic d = true := by
      unfold ownNd at ho
      have := List.all_eq_true.mp ho i hi
      rw [e1] at this
      exact this
    have np : a ≠ p := fun q => nz (q ▸ zp)
    obtain ⟨a1, a2⟩ := nl_dK hp
    refine ⟨a, d, ?_, e2, nz, ?_, t.off np a1 a2 (.inl hn)⟩
    · rw [shut_get, e1]
      show some (if nodic d = true then some d else none) = _
      rw [if_pos hn]
    · show er c.H0 p a = none
      unfold er
      rw [if_neg np]
      exact h0
  inj := S.inj
theorem Ext.unlock (hp : H p = some (.dK ks)) (x : Ext Z (upd H p (.frz od (.dK ks))) Z2 H2) : Ext Z H Z2 (upd H2 p (.dK ks)) := by
  refine ⟨x.sub, fun a o e => ?_, fun a z => ?_, fun a z => ?_⟩
  · by_cases q : a = p
    · subst q
      rw [upd_same, ← hp]
      exact e
    · rw [upd_ne q]
      exact x.same a o (by rw [upd_ne q]; exact e)
  · by_cases q : a = p
    · exact ⟨_, by rw [q, upd_same]⟩
    · rw [upd_ne q]; exact x.trk a z
  · rcases x.new a z with w | w
    · exact .inl w
    · by_cases q : a = p
      · rw [q, upd_same] at w; cases w
      · rw [upd_ne q] at w; exact .inr w
theorem Val.unlock (hp : H p = some (.dK ks)) (h2 : H2 p = some (.frz od (.dK ks))) (h : Val c.K Z2 H2 (upd H p (.frz od (.dK ks))) .new v d) : Val c.K Z2 (upd H2 p (.dK ks)) H .new v d := by
  obtain ⟨a1, a2, a3⟩ := nl_frz h2
  refine ⟨fun b => ?_, fun b => (h.2 b).off a1 a2 (.inr a3)⟩
  obtain ⟨a, e, n, q, t⟩ := h.1 b
  have np : a ≠ p := fun z => by rw [z, upd_same] at q; cases q
  exact ⟨a, e, n, by rw [upd_ne np] at q; exact q, t.off np a1 a2 (.inr a3)⟩
theorem itk_ok {K : KF} {kvs : List (Dat × Dat)} (zp : Z p) (hp : H p = some (.frz od (.dK ks))) (hk : ∀ (i : Nat) (x : Dat), (kvs.map (·.1))[i]? = some x → ∃ (key : Key) (u : V), ks[i]? = some (key, u) ∧ x = kD key ∧ okK key) (hl : ks.length = kvs.length) : ItOk K (Itk p od ks) Z H (kvs.map (·.1)) := fun Z1 H1 ad t i => by
  have h1 : H1 p = some (.frz od (.dK ks)) := (ad p zp).2 _ hp
  refine ⟨fun d e => ?_, fun h => ⟨h1, by rw [List.length_map] at h; omega⟩⟩
  obtain ⟨key, u, e1, rfl, o⟩ := hk i d e
  refine ⟨⟨h1, (List.getElem?_eq_some_iff.mp e1).1⟩, fun x H2 y => ?_⟩
  obtain ⟨rfl, k2, v2, e2, rfl⟩ := y
  rw [e1] at e2
  cases e2
  refine ⟨Z1, .refl t, ?_⟩
  cases key with
  | inl z => exact .int z
  | inr s => exact .str s o
theorem RepD.keys {K : KF} : ∀ {ks : List (Key × V)} {kvs : List (Dat × Dat)}, RepD K Z H ks kvs → ∀ (i : Nat) (x : Dat), (kvs.map (·.1))[i]? = some x → ∃ (key : Key) (u : V), ks[i]? = some (key, u) ∧ x = kD key ∧ okK key
  | _, _, .nil, i, x, e => by simp at e
  | _, _, .cons o r t, 0, x, e => by
    simp at e
    subst e
    exact ⟨_, _, rfl, rfl, o⟩
  | _, _, .cons o r t, i + 1, x, e => by
    obtain ⟨key, u, h⟩ := RepD.keys t i x (by simpa using e)
    exact ⟨key, u, by simpa using h⟩
end
section
variable {X : Cx} {c : Ct} {W : WX} {own vs : List Nat} {elt tg : Expr} {ifs : List Expr} {scope : Scope} {ob : List (Str × Nat)} {pos pi : Pos} {m : EM} {t : TM} {g : GM} {i : Nat} {x : Str}
theorem eCompK_dic {ρ : Env} {kvs : List (Dat × Dat)} (h : eV i ρ = .ok (.dic kvs)) : eCompK i own vs g t m ρ = if (own.all (fun j => j != i) && ownNd own ρ) = true then eComp (fun _ => .ok (kvs.map (·.1))) vs g t m (shutD ρ) else .bad := by
  unfold eCompK
  rw [h]
theorem eCompK_else {ρ : Env} (h : ∀ kvs, eV i ρ ≠ .ok (.dic kvs)) : eCompK i own vs g t m ρ = eComp (iOf (eV i)) vs g t m ρ := by
  unfold eCompK
  split
  · rename_i kvs q
    exact absurd q (h kvs)
  · rfl
theorem eCompC_nx {ρ : Env} {ds : List Dat} {y : Nat} : eComp (fun _ => .ok ds) vs g t m ρ ≠ .exc y := by
  unfold eComp
  simp only [PL.R.bnd_ok]
  intro q
  cases w : compL g t m (PL.wipe ρ vs) ds with
  | bad => rw [w] at q; cases q
  | exc z => exact compL_nx ds w
  | ok ys =>
    rw [w] at q
    simp only [PL.R.bnd_ok] at q
    split at q <;> cases q
theorem q_lcK (hcK : c.K = X.K) (hc : X.calm = true) (hN : X.N.Nodup) (hn : c.xs.all (fun p => p.1 != i) = true) (hio : i ∉ own) (hNi : X.N[i]? = some x) (hv : Vis X.env.scope x) (hdb : (x == ("__debug__" : Str)) = false) (hcd : (x == ("__classdict__" : Str)) = false) (ok : BlkOk X.N X.env.scope scope ob) (hvs : ob.map (·.2) = vs) (hd : ∀ j ∈ vs, j ∉ own)
    (hg : ∀ (Z0 : ZS) (H0 : Hp) (s : Shared) (H : Hp) (C : Addr) (cl : List (Str × Addr)) (fp : List Addr), PG (X.blk s H scope (compEnvC scope cl C X.env) fp) tg (qG { c with Z0 := Z0, H0 := H0 } own own vs g))
    (ht : ∀ (Z0 : ZS) (H0 : Hp) (s : Shared) (H : Hp) (C : Addr) (cl : List (Str × Addr)) (fp : List Addr), PTs (X.blk s H scope (compEnvC scope cl C X.env) fp) ifs (qT { c with Z0 := Z0, H0 := H0 } W0 own t))
    (he : ∀ (Z0 : ZS) (H0 : Hp) (s : Shared) (H : Hp) (C : Addr) (cl : List (Str × Addr)) (fp : List Addr), PE (X.blk s H scope (compEnvC scope cl C X.env) fp) elt (qE { c with Z0 := Z0, H0 := H0 } W0 own .frz m)) (hs : ∀ y, foldedSetIterable (.Name x pi) X.env y = pure y := by intro _; rfl) :
    PE X (.ListComp elt [⟨tg, .Name x pi, ifs, 0⟩] scope pos) (qE c W own .new (eCompK i own vs g t m)) := by
  refine ⟨fun pins s σ H Q I h => ?_⟩
  obtain ⟨Z, ρ, S, p⟩ := h
  by_cases hk : ∃ kvs, eV i ρ = .ok (.dic kvs)
  · obtain ⟨kvs, hk⟩ := hk
    rw [eCompK_dic hk] at p
    have hb : (own.all (fun j => j != i) && ownNd own ρ) = true := by
      by_cases hb : (own.all (fun j => j != i) && ownNd own ρ) = true
      · exact hb
      · rw [if_neg hb] at p; exact p.elim
    rw [if_pos hb] at p
    rw [Bool.and_eq_true] at hb
    have e : ρ[i]? = some (some (.dic kvs)) := by
      unfold eV at hk
      split at hk
      · rename_i d q
        cases hk
        exact q
      · cases hk
    obtain ⟨v, hv1, r⟩ := S.val i _ e hio (fun x z => by cases z)
    cases r with
    | @dic a ks _ zp hp rd =>
      have base := pe_lc (pos := pos) hc hN (pi_keys (tg := tg) (pe_var (pos := pi) hNi hv hdb hcd)) ok (hg (cLk c a).Z0 (cLk c a).H0) (ht (cLk c a).Z0 (cLk c a).H0) (he (cLk c a).Z0 (cLk c a).H0) hs
      rw [hvs] at base
      refine (pe_lock base).run pins s σ H Q I ⟨a, .dK ks, hp, trivial, fun od => ?_⟩
      have S' := S.lock (od := od) zp hp hb.2
      have q : qE (cLk c a) W own .new (eComp (fun _ => .ok (kvs.map (·.1))) vs g t m) σ (upd H a (.frz od (.dK ks))) (fun v H' => H' a = some (.frz od (.dK ks)) ∧ Q v (upd H' a (.dK ks))) := by
        refine ⟨Z, shutD ρ, S', ?_⟩
        cases w : eComp (fun _ => .ok (kvs.map (·.1))) vs g t m (shutD ρ) with
        | bad => rw [w] at p; exact p.elim
        | exc y => exact absurd w eCompC_nx
        | ok d =>
          rw [w] at p
          intro v Z2 H2 x hv
          have h2 := x.same a _ upd_same
          exact ⟨h2, p v Z2 _ (x.unlock hp) (Val.unlock (c := c) hp h2 hv)⟩
      have l := lc_read hd q
      obtain ⟨Z3, ρ3, S3, p3⟩ := l
      exact ⟨_, hv1, a, od, rfl, .inl ⟨ks, upd_same, p3 (Itk a od ks) Z3 _ (.refl S3.trk) (itk_ok (S3.ext.sub a (.inr rfl)) upd_same rd.keys rd.len)⟩⟩
  · rw [eCompK_else (fun kvs q => hk ⟨kvs, q⟩)] at p
    exact (q_lc (W := W) (pos := pos) hc hN (qi_of hcK (q_var hio hn hNi hv hdb hcd)) ok hvs hd (hg c.Z0 c.H0) (ht c.Z0 c.H0) (he c.Z0 c.H0) hs).run pins s σ H Q I ⟨Z, ρ, S, p⟩
theorem xLcK {vis loc : List Nat} {gls : List Str} {N : List Str} {vis1 loc1 : List Nat} {gls1 : List Str} (i : Nat) (V : Scp X vis loc gls) (hm : i ∈ vis) (hNi : X.N[i]? = some x) (hio : i ∉ own) (hn : c.xs.all (fun p => p.1 != i) = true) (hcK : c.K = X.K) (hc : X.calm = true) (ok : BlkOk X.N X.env.scope scope ob) (hv : ob.map (·.2) = vs) (hd : vs.all (fun j => own.all (· != j)) = true) (hV : scpC N scope vis1 loc1 gls1 = true) (hNN : X.N = N)
    (hg : ∀ (Z0 : ZS) (H0 : Hp) (s : Shared) (H : Hp) (C : Addr) (cl : List (Str × Addr)) (fp : List Addr), Scp (X.blk s H scope (compEnvC scope cl C X.env) fp) vis1 loc1 gls1 → PG (X.blk s H scope (compEnvC scope cl C X.env) fp) tg (qG { c with Z0 := Z0, H0 := H0 } own own vs g))
    (ht : ∀ (Z0 : ZS) (H0 : Hp) (s : Shared) (H : Hp) (C : Addr) (cl : List (Str × Addr)) (fp : List Addr), Scp (X.blk s H scope (compEnvC scope cl C X.env) fp) vis1 loc1 gls1 → PTs (X.blk s H scope (compEnvC scope cl C X.env) fp) ifs (qT { c with Z0 := Z0, H0 := H0 } W0 own t))
    (he : ∀ (Z0 : ZS) (H0 : Hp) (s : Shared) (H : Hp) (C : Addr) (cl : List (Str × Addr)) (fp : List Addr), Scp (X.blk s H scope (compEnvC scope cl C X.env) fp) vis1 loc1 gls1 → PE (X.blk s H scope (compEnvC scope cl C X.env) fp) elt (qE { c with Z0 := Z0, H0 := H0 } W0 own .frz m)) (hs : ∀ y, foldedSetIterable (.Name x pi) X.env y = pure y := by intro _; rfl) :
    PE X (.ListComp elt [⟨tg, .Name x pi, ifs, 0⟩] scope pos) (qE c W own .new (eCompK i own vs g t m)) := q_lcK hcK hc V.nd hn hio hNi (V.vis i hm x hNi).1 (V.vis i hm x hNi).2.1 (V.vis i hm x hNi).2.2 ok hv (own_all hd) (fun Z0 H0 s H C cl fp => hg Z0 H0 s H C cl fp (scp_blk hV hNN)) (fun Z0 H0 s H C cl fp => ht Z0 H0 s H C cl fp (scp_blk hV hNN)) (fun Z0 H0 s H C cl fp => he Z0 H0 s H C cl fp (scp_blk hV hNN)) hs
end
end PL

set_option maxRecDepth 100000
set_option maxHeartbeats 4000000
namespace PySem
section
variable {prog : Program} {w : World} {A : Around} {E : Value → Shared → Prop} {s : Shared}
theorem code_tuple_new_strP {Q₁ : Value → Shared → Prop} (hh : A.handled = none) (x : Str) (t : Tok)
    (h : ∀ (s' : Shared) (acc : Array Value), (∀ b o, s.heap.get? b = some o → s'.heap.get? b = some o) → s'.gens = s.gens → s'.drawn = s.drawn → s'.os = s.os → ItemsOf (SignAt x) acc x.cps.size → Q₁ (.ref s'.heap.objs.size) { s' with heap := s'.heap.push { cls := .type "tuple", data := .seq acc } }) (hn : x.cps.size ≤ sizeLine) :
    codeAny (model prog w) A (.call (.builtin "tuple.__new__") ⟨[.type "tuple", .str x t], []⟩) (wants Q₁ E) s := by
  refine codeAny_of_tree ?_
  show wpAny _ A.in1 (do checkBuiltinCall "tuple.__new__" ⟨[.type "tuple", .str x t], []⟩; again (.builtin "tuple.__new__" ⟨[.type "tuple", .str x t], []⟩)) _ _ s
  refine wpAny_bind (wpAny_of_eq (F.newCall_tuple_1 _) (wpAny_pure ⟨plainId_quiet F.plain_tuple_new _, codeAny_builtin F.entry_tuple_new ?_⟩))
  rw [Around.under_plainId F.plain_tuple_new _]
  have hsub := sub_tuple_self
  have hinit := init_tuple_lookup
  have hmh := madeHere_tuple
  have hTI : s.TypeIs (.str x t) "str" := rfl
  wp_walk using wpAny_typeOf hTI, wpAny_collect_str (A := A.in1) (hn := hn) hh x t
  intro s' acc h1 h2 h3 h4 hacc
  show wpAny _ _ (Builtin.Tuple.tupleExact acc.toList.toArray >>= fun v => ret v) _ _ _
  unfold Builtin.Tuple.tupleExact
  refine wpAny_bind (wpAny_newObj_type ?_ (by show acc.toList.toArray.size ≤ sizeLine; simp only [Array.toArray_toList]; rw [hacc.1]; exact hn))
  refine wpAny_pure ?_
  have e : acc.toList.toArray = acc := by simp
  rw [e]
  exact h s' acc h1 h2 h3 h4 hacc
theorem call_tuple_strP {Q : Value → Shared → Prop} (hh : A.handled = none) (x : Str) (t : Tok)
    (hQ : ∀ (s' : Shared) (acc : Array Value), (∀ b o, s.heap.get? b = some o → s'.heap.get? b = some o) → s'.gens = s.gens → s'.drawn = s.drawn → s'.os = s.os → ItemsOf (SignAt x) acc x.cps.size → Q (.ref s'.heap.objs.size) { s' with heap := s'.heap.push { cls := .type "tuple", data := .seq acc } }) (hn : x.cps.size ≤ sizeLine) :
    wpAny (model prog w) A (call (.type "tuple") [.str x t]) Q E s := by
  refine callType_codes (Q₁ := fun obj s₁ => s₁.TypeIs obj "tuple" ∧ Q obj s₁) F.called_tuple (F.typeCall_tuple_1 _) F.entry_object_init
    (code_tuple_new_strP (A := A.in1) hh x t (fun s' acc h1 h2 h3 h4 hacc => ⟨⟨_, Heap.get?_push_size _ rfl, rfl⟩, hQ s' acc h1 h2 h3 h4 hacc⟩) hn) fun obj s₁ h₁ => ?_
  exact ⟨h₁.1, F.args_object_init_2 obj _, object_init_meets F.called_tuple.init.lookup F.called_tuple.made (by decide) prog w A.in1 _ s₁ ⟨h₁.1, rfl, h₁.2⟩⟩
end
end PySem
namespace PL
open PySem PySem.Spec PyProof.Rows L2
set_option autoImplicit false
section
variable {X : Cx}
def rTupS : List V → Hp → VK → Prop := fun xs H Q => ∃ x : Str, xs = [.str x] ∧ x.cps.size ≤ sizeLine ∧ ∀ p, H p = none → Q (.ref p) (upd H p (.tup (x.cps.toList.map fun c => V.str ⟨#[c]⟩)))
theorem call_tupS (hc : X.calm = true) : CallR X (.type "tuple") rTupS := by
  intro pins s σ H xs us Q I r q
  obtain ⟨x, ex, hz, q⟩ := q
  subst ex
  obtain ⟨u, eu, rx⟩ := vals1 r
  subst eu
  obtain ⟨t, rfl⟩ := rx
  refine PySem.call_tuple_strP (I.ok.hd hc) x t (fun s' acc hk hg hdr hos hacc => ?_) hz
  have hv : Vals (x.cps.toList.map fun c => V.str ⟨#[c]⟩) acc.toList := signs_at (x := x) _ _ (by rw [Array.length_toList, hacc.1, Array.length_toList]) fun j v e => by
    obtain ⟨c, u, hc, rfl⟩ := hacc.2 j v (by rw [← Array.getElem?_toList]; exact e)
    exact ⟨c, u, by rw [Array.getElem?_toList]; exact hc, rfl⟩
  have I1 : Inv X pins σ H { s with heap := s'.heap, toks := s'.toks } := I.kept (t' := s'.toks) hk
  have es : s' = { s with heap := s'.heap, toks := s'.toks } := by
    cases s'
    cases s
    simp only at hg hdr hos
    subst hg
    subst hdr
    subst hos
    rfl
  have I2 : Inv X pins σ (upd H s'.heap.objs.size (.tup (x.cps.toList.map fun c => V.str ⟨#[c]⟩))) { s with heap := s'.heap.push { cls := .type "tuple", data := .seq acc }, toks := s'.toks } :=
    I1.laid (t' := s'.toks) (fun b o e => Heap.get?_push_of_some _ e) (Nat.le_refl _) (show ObjOk X.prog X.w _ _ _ (.tup (x.cps.toList.map fun c => V.str ⟨#[c]⟩)) from ⟨by rw [List.length_map, Array.length_toList]; exact hz, acc.toList, hv, by
      rw [Array.toArray_toList]
      exact IsTup.new _ _⟩)
  refine ⟨.ref s'.heap.objs.size, _, ?_, rfl, q _ (I1.hok.fresh (Nat.le_refl _))⟩
  rw [es]
  exact I2
end
theorem cv_tupleA {K : KF} : CallV1 K (fun xs H Q => (∃ p ys, xs = [.ref p] ∧ ((SqL K H p ys ∧ ∀ l, H l = none → Q (.ref l) (upd H l (.tup ys))) ∨ (SqT K H p ys ∧ Q (.ref p) H))) ∨ rTupS xs H Q) .sh .new tupleD := by
  intro Z H Hs v d Q t s hv p
  cases hv with
  | lst h r => exact .inl (cv_tuple Z H Hs _ _ Q t s (.lst h r) p)
  | tup h r => exact .inl (cv_tuple Z H Hs _ _ Q t s (.tup h r) p)
  | str x hx =>
    refine .inr ⟨x, rfl, ?_, fun l hl => Wnt.tup t p (signs_rep hx.1) hl⟩
    have := hx.2
    rw [line_eq] at this
    simpa using this
  | _ => exact False.elim p
theorem nx_tupleA : NoX1 tupleD := fun d x h => by cases d <;> cases h
theorem T_tupleA {X : Cx} {c : Ct} (hK : c.K = X.K) (hc : X.calm = true) : T1 X c.K "tuple" .sh .new tupleD := ⟨⟨_, _, callR_or call_tuple_of (call_tupS hc), by rw [hK]; exact cv_tupleA, by decide +kernel⟩, nx_tupleA⟩
end PL

set_option maxRecDepth 100000
set_option maxHeartbeats 4000000
namespace PL
open PySem PySem.Spec PyProof.Rows L2
set_option autoImplicit false

theorem rep_str {K : KF} {Z : ZS} {H : Hp} {x : Str} {s : List Nat} (e : x.cps.toList = s) (h : (s.all (· < 1114112) && decide (s.length ≤ LINE)) = true) : Rep K Z H (.str x) (.str s) := by
  subst e
  rw [Bool.and_eq_true, List.all_eq_true, decide_eq_true_iff] at h
  exact .str x ⟨fun c hc => by simpa using h.1 c hc, h.2⟩
theorem rel_str {x : Str} {t : Tok} : RelV (.str x) (.str x t) := ⟨t, rfl⟩
theorem rel_int {i : Int} {t : Tok} : RelV (.int i) (.int i t) := ⟨t, rfl⟩
theorem le_line {n : Nat} (h : n ≤ 16777216) : n ≤ sizeLine := by
  rw [sizeLine_eq]
  exact h
theorem kit_ref {K : KF} {y C : Addr} {b : Bool} (hd : PySem.W.hasDictIn K C = true) (ht : PySem.W.typeIn K (.ref C) = some (.type "type")) (hs : PySem.W.subIn K (.ref C) (.ref C) = some true) (h4 : PySem.W.subIn K (.ref y) (.ref C) = some b) : PySem.W.kitOne K (.ref y) (.ref C) = some b := by
  obtain ⟨cd, hc, _⟩ := PySem.W.any_some hd
  unfold PySem.W.kitOne
  by_cases q : ((Value.ref y : Value) == Value.ref C) = true
  · rw [if_pos q]
    have e : y = C := Value.ref.inj (beq_iff_eq.mp q)
    subst e
    rw [hs] at h4
    exact h4
  · rw [if_neg q]
    have e2 : ((PySem.W.clsIn K C).isSome && PySem.W.typeIn K (.ref C) == some (.type "type")) = true := by rw [hc, ht] <;> rfl
    show (if ((PySem.W.clsIn K C).isSome && PySem.W.typeIn K (.ref C) == some (.type "type")) = true then PySem.W.subIn K (.ref y) (.ref C) else none) = some b
    rw [if_pos e2]
    exact h4
theorem kit_val {K : KF} {y : Addr} (h : PySem.W.subIn K (.ref y) (.type "ValueError") = some true) : PySem.W.kitOne K (.ref y) (.type "ValueError") = some true := by
  unfold PySem.W.kitOne
  rw [if_neg (show ¬ ((Value.ref y : Value) == Value.type "ValueError") = true from fun z => nomatch (beq_iff_eq.mp z))]
  show (if PySem.W.kitMeta "ValueError" = true then PySem.W.subIn K (.ref y) (.type "ValueError") else none) = some true
  rw [if_pos (by decide +kernel), h]
def spLaw (K : KF) : Sp := fun vs H Q _ => ∃ (a : Addr) (ns : List Int), vs = [.ref a] ∧ SqL K H a (ns.map V.int) ∧ ns.length ≤ 63 ∧ ∀ H', Q (.bl true) H'
theorem rep_ints {K : KF} {Z : ZS} {H : Hp} : ∀ ns : List Int, RepA K Z H (ns.map V.int) (ns.map Dat.int)
  | [] => .nil
  | n :: r => .cons (.int n) (rep_ints r)
theorem law_sp {K : KF} {EC : Nat → Addr} {f : List Dat → R Dat} (h : ∀ ns : List Int, ns.length ≤ 63 → f [.lst (ns.map .int)] = .ok (.bl true)) : ∀ vs H Q E, spLaw K vs H Q E → spM K EC 1 f vs H Q E := by
  rintro vs H Q E ⟨a, ns, rfl, hS, hl, q⟩
  refine ⟨rfl, ?_⟩
  have e := h ns hl
  rcases hS with hS | hS
  · refine ⟨fun b => b = a, [.lst (ns.map .int)], fun b hb => ?_, .cons (.lst rfl hS (rep_ints ns)) .nil, ?_⟩
    · subst hb
      rcases hS with z | ⟨o, z⟩
      · exact ⟨_, z⟩
      · exact ⟨_, z⟩
    · rw [e]
      intro v Z' H' x hv
      cases hv
      exact q H'
  · refine ⟨fun _ => False, [.lst (ns.map .int)], fun b hb => hb.elim, .cons (.lstK hS (rep_ints ns)) .nil, ?_⟩
    rw [e]
    intro v Z' H' x hv
    cases hv
    exact q H'
theorem cx_no {P : Program} {w : World} {H : Hp} {s : Shared} {e : Value} {s' : Shared} (h : L2.CX P w [] H s (fun _ _ _ => False) e s') : False := by
  obtain ⟨_, _, _, _, _, _, _, _, _, _, _, _, h⟩ := h
  exact h
end PL

set_option maxRecDepth 100000
namespace PL.K43
set_option autoImplicit false
noncomputable section
def d_END : Dat := .str [124]
def d_OUT : Dat := .int (0)
def d_NOT_YET : Dat := .int (1)
def d_IN : Dat := .int (2)
/-- which class lies under which -/
def subT : List (List Bool) := []
def cl (n : Nat) : Nat := match n with | _ => 0
def sub (y n : Nat) : Bool := ((subT.getD (cl y) []).getD (cl n) false)
/-! sign_at: 0 text 1 place -/
def b_sign_at : SM := (sSeq (sIf (tE (eChain leD ltD (eC (.int 0)) (eV 1) (e1 lenD (eV 0))))
    (sRet (e2 idxD (eV 0) (eV 1)))
    sSkip)
    (sRet (eC d_END)))
noncomputable def f_sign_at : List Dat → R Dat := run 2 b_sign_at
/-! lets: 0 side 1 text 2 place 3 k 4 signs -/
def b_lets : SM := (sRet (e1 allD (eComp (iEnum (eV 0)) [3, 4] (gTup 2 (gCons (gV 3) (gCons (gV 4) gNil))) tYes (e2 inD (eCall f_sign_at (eCons (eV 1) (eCons (e2 addD (eV 2) (eV 3)) eNil))) (eV 4)))))
noncomputable def f_lets : List Dat → R Dat := run 5 b_lets
/-! fits_at: 0 rule 1 text 2 place 3 left 4 _ 5 behind 6 ahead -/
def b_fits_at : SM := (sSeq (sAsg (gTup 4 (gCons (gV 3) (gCons (gV 4) (gCons (gV 5) (gCons (gV 6) gNil))))) (eV 0))
    (sSeq (sIf (tNot (tE (eM2 startsAtD (eV 1) (eV 3) (eV 2))))
    (sRet (eC (.bl false)))
    sSkip)
    (sRet (eAnd (eCall f_lets (eCons (eV 5) (eCons (eV 1) (eCons (e2 subD (eV 2) (e1 lenD (eV 5))) eNil)))) (eCall f_lets (eCons (eV 6) (eCons (eV 1) (eCons (e2 addD (eV 2) (e1 lenD (eV 3))) eNil))))))))
noncomputable def f_fits_at : List Dat → R Dat := run 7 b_fits_at
/-! choice_at: 0 rules 1 text 2 place 3 number 4 rule -/
def b_choice_at : SM := (sSeq (sFor (iEnum (eV 0)) (gTup 2 (gCons (gV 3) (gCons (gV 4) gNil)))
    (sIf (tE (eCall f_fits_at (eCons (eV 4) (eCons (eV 1) (eCons (eV 2) eNil)))))
    (sRet (eV 3))
    sSkip))
    (sRet (e1 negD (eC (.int 1)))))
noncomputable def f_choice_at : List Dat → R Dat := run 5 b_choice_at
/-! places_of: 0 rules 1 text 2 found 3 place 4 number -/
def b_places_of : SM := (sSeq (sNew 2 (eLst eNil))
    (sSeq (sAsg (gV 3) (eC (.int 0)))
    (sSeq (sWhl (tE (e2 ltD (eV 3) (e1 lenD (eV 1))))
    (sSeq (sAsg (gV 4) (eCall f_choice_at (eCons (eV 0) (eCons (eV 1) (eCons (eV 3) eNil)))))
    (sSeq (sApp 2 (eTup (eCons (eV 3) (eCons (eV 4) eNil))))
    (sIf (tE (e2 ltD (eV 4) (eC (.int 0))))
    (sAug addF 3 (eC (.int 1)))
    (sAug addF 3 (e1 lenD (e2 idxD (e2 idxD (eV 0) (eV 4)) (eC (.int 0)))))))))
    (sRet (eV 2)))))
noncomputable def f_places_of : List Dat → R Dat := run 5 b_places_of
/-! spell: 0 rules 1 text 2 out 3 place 4 number -/
def b_spell : SM := (sSeq (sAsg (gV 2) (eC (.str [])))
    (sSeq (sFor (iOf (eCall f_places_of (eCons (eV 0) (eCons (eV 1) eNil)))) (gTup 2 (gCons (gV 3) (gCons (gV 4) gNil)))
    (sIf (tE (e2 ltD (eV 4) (eC (.int 0))))
    (sAug addF 2 (e2 idxD (eV 1) (eV 3)))
    (sAug addF 2 (e2 idxD (e2 idxD (eV 0) (eV 4)) (eC (.int 1))))))
    (sRet (eV 2))))
noncomputable def f_spell : List Dat → R Dat := run 5 b_spell
/-! reach: 0 rules 1 left 2 _ 3 ahead -/
def b_reach : SM := (sRet (e1 maxD (eComp (iOf (eV 0)) [1, 2, 3] (gTup 4 (gCons (gV 1) (gCons (gV 2) (gCons (gV 2) (gCons (gV 3) gNil))))) tYes (e2 addD (e1 lenD (eV 1)) (e1 lenD (eV 3))))))
noncomputable def f_reach : List Dat → R Dat := run 4 b_reach
/-! tail_size: 0 rules 1 _ 2 behind -/
def b_tail_size : SM := (sRet (e1 maxD (eComp (iOf (eV 0)) [1, 2] (gTup 4 (gCons (gV 1) (gCons (gV 1) (gCons (gV 2) (gCons (gV 1) gNil))))) tYes (e1 lenD (eV 2)))))
noncomputable def f_tail_size : List Dat → R Dat := run 3 b_tail_size
/-! first_state: 0 rules -/
def b_first_state : SM := (sRet (eTup (eCons (e2 mulD (eC d_END) (eCall f_tail_size (eCons (eV 0) eNil))) (eCons (eC (.str [])) eNil))))
noncomputable def f_first_state : List Dat → R Dat := run 1 b_first_state
/-! lets_tail: 0 behind 1 tail 2 start 3 k 4 signs -/
def b_lets_tail : SM := (sSeq (sAsg (gV 2) (e2 subD (e1 lenD (eV 1)) (e1 lenD (eV 0))))
    (sRet (e1 allD (eComp (iEnum (eV 0)) [3, 4] (gTup 2 (gCons (gV 3) (gCons (gV 4) gNil))) tYes (e2 inD (e2 idxD (eV 1) (e2 addD (eV 2) (eV 3))) (eV 4))))))
noncomputable def f_lets_tail : List Dat → R Dat := run 5 b_lets_tail
/-! asked: 0 rule -/
def b_asked : SM := (sRet (e2 addD (e1 tupleD (e2 idxD (eV 0) (eC (.int 0)))) (e2 idxD (eV 0) (eC (.int 3)))))
noncomputable def f_asked : List Dat → R Dat := run 1 b_asked
/-! standing: 0 rule 1 state 2 is_end 3 tail 4 pending 5 k 6 signs -/
def b_standing : SM := (sSeq (sAsg (gTup 2 (gCons (gV 3) (gCons (gV 4) gNil))) (eV 1))
    (sSeq (sIf (tNot (tE (eCall f_lets_tail (eCons (e2 idxD (eV 0) (eC (.int 2))) (eCons (eV 3) eNil)))))
    (sRet (eC d_OUT))
    sSkip)
    (sSeq (sFor (iEnum (eCall f_asked (eCons (eV 0) eNil))) (gTup 2 (gCons (gV 5) (gCons (gV 6) gNil)))
    (sIf (tE (e2 ltD (eV 5) (e1 lenD (eV 4))))
    (sIf (tE (e2 notInD (e2 idxD (eV 4) (eV 5)) (eV 6)))
    (sRet (eC d_OUT))
    sSkip)
    (sIf (tNot (tE (eV 2)))
    (sRet (eC d_NOT_YET))
    (sIf (tE (e2 notInD (eC d_END) (eV 6)))
    (sRet (eC d_OUT))
    sSkip))))
    (sRet (eC d_IN)))))
noncomputable def f_standing : List Dat → R Dat := run 7 b_standing
/-! settled_choice: 0 rules 1 state 2 is_end 3 number 4 rule 5 found -/
def b_settled_choice : SM := (sSeq (sFor (iEnum (eV 0)) (gTup 2 (gCons (gV 3) (gCons (gV 4) gNil)))
    (sSeq (sAsg (gV 5) (eCall f_standing (eCons (eV 4) (eCons (eV 1) (eCons (eV 2) eNil)))))
    (sSeq (sIf (tE (e2 eqD (eV 5) (eC d_IN)))
    (sRet (eV 3))
    sSkip)
    (sIf (tE (e2 eqD (eV 5) (eC d_NOT_YET)))
    (sRet (eC .non))
    sSkip))))
    (sRet (e1 negD (eC (.int 1)))))
noncomputable def f_settled_choice : List Dat → R Dat := run 6 b_settled_choice
/-! passed: 0 state 1 count 2 tail 3 pending 4 gone -/
def b_passed : SM := (sSeq (sAsg (gTup 2 (gCons (gV 2) (gCons (gV 3) gNil))) (eV 0))
    (sSeq (sAsg (gV 4) (e2 addD (eV 2) (eSli pN (pS (eV 1)) (eV 3))))
    (sRet (eTup (eCons (eSli (pS (e2 subD (e1 lenD (eV 4)) (e1 lenD (eV 2)))) pN (eV 4)) (eCons (eSli (pS (eV 1)) pN (eV 3)) eNil))))))
noncomputable def f_passed : List Dat → R Dat := run 5 b_passed
/-! taken: 0 rules 1 state 2 is_end 3 out 4 numbers 5 number -/
def b_taken : SM := (sSeq (sAsg (gV 3) (eC (.str [])))
    (sSeq (sNew 4 (eLst eNil))
    (sSeq (sWhl (tE (e2 neD (e2 idxD (eV 1) (eC (.int 1))) (eC (.str []))))
    (sSeq (sAsg (gV 5) (eCall f_settled_choice (eCons (eV 0) (eCons (eV 1) (eCons (eV 2) eNil)))))
    (sSeq (sIf (tE (e1 isN (eV 5)))
    sBrk
    sSkip)
    (sSeq (sApp 4 (eV 5))
    (sIf (tE (e2 ltD (eV 5) (eC (.int 0))))
    (sSeq (sAug addF 3 (e2 idxD (e2 idxD (eV 1) (eC (.int 1))) (eC (.int 0))))
    (sAsg (gV 1) (eCall f_passed (eCons (eV 1) (eCons (eC (.int 1)) eNil)))))
    (sSeq (sAug addF 3 (e2 idxD (e2 idxD (eV 0) (eV 5)) (eC (.int 1))))
    (sAsg (gV 1) (eCall f_passed (eCons (eV 1) (eCons (e1 lenD (e2 idxD (e2 idxD (eV 0) (eV 5)) (eC (.int 0)))) eNil))))))))))
    (sRet (eTup (eCons (eV 1) (eCons (eV 3) (eCons (eV 4) eNil))))))))
noncomputable def f_taken : List Dat → R Dat := run 6 b_taken
/-! read_sign: 0 rules 1 state 2 sign -/
def b_read_sign : SM := (sRet (eCall f_taken (eCons (eV 0) (eCons (eTup (eCons (e2 idxD (eV 1) (eC (.int 0))) (eCons (e2 addD (e2 idxD (eV 1) (eC (.int 1))) (eV 2)) eNil))) (eCons (eC (.bl false)) eNil)))))
noncomputable def f_read_sign : List Dat → R Dat := run 3 b_read_sign
/-! watch: 0 rules 1 state 2 sign 3 later 4 out 5 _ -/
def b_watch : SM := (sSeq (sAsg (gTup 3 (gCons (gV 3) (gCons (gV 4) (gCons (gV 5) gNil)))) (eCall f_read_sign (eCons (eV 0) (eCons (eV 1) (eCons (eV 2) eNil)))))
    (sRet (eTup (eCons (eV 3) (eCons (eV 4) eNil)))))
noncomputable def f_watch : List Dat → R Dat := run 6 b_watch
/-! leave: 0 rules 1 state -/
def b_leave : SM := (sRet (e2 idxD (eCall f_taken (eCons (eV 0) (eCons (eV 1) (eCons (eC (.bl true)) eNil)))) (eC (.int 1))))
noncomputable def f_leave : List Dat → R Dat := run 2 b_leave
/-! is_state: 0 rules 1 signs 2 pair 3 tail 4 pending 5 sign -/
def b_is_state : SM := (sSeq (sAsg (gTup 2 (gCons (gV 3) (gCons (gV 4) gNil))) (eV 2))
    (sSeq (sIf (tOr (tE (e2 neD (e1 lenD (eV 3)) (eCall f_tail_size (eCons (eV 0) eNil)))) (tE (e2 geD (e1 lenD (eV 4)) (eCall f_reach (eCons (eV 0) eNil)))))
    (sRet (eC (.bl false)))
    sSkip)
    (sRet (eAnd (e1 allD (eComp (iOf (eV 3)) [5] (gV 5) tYes (e2 inD (eV 5) (e2 addD (eV 1) (eC d_END))))) (e1 allD (eComp (iOf (eV 4)) [5] (gV 5) tYes (e2 inD (eV 5) (eV 1))))))))
noncomputable def f_is_state : List Dat → R Dat := run 6 b_is_state
/-! _law_cell: 0 script 1 k -/
def b__law_cell : SM := (sSeq (sIf (tE (e2 ltD (eV 1) (e1 lenD (eV 0))))
    (sRet (e1 intD (e2 idxD (eV 0) (eV 1))))
    sSkip)
    (sRet (eC (.int 0))))
noncomputable def f__law_cell : List Dat → R Dat := run 2 b__law_cell
/-! _law_numbers: 0 cell 1 count 2 limit 3 found 4 rest 5 k 6 mixed -/
def b__law_numbers : SM := (sSeq (sNew 3 (eLst eNil))
    (sSeq (sAsg (gV 4) (eV 0))
    (sSeq (sFor (iR1 (eV 1)) (gV 5)
    (sIf (tAnd (tE (e2 geD (eV 0) (e2 powD (eC (.int 10)) (eC (.int 18))))) (tE (e2 gtD (eV 4) (eC (.int 0)))))
    (sSeq (sApp 3 (e2 modD (e1 intD (eV 4)) (eV 2)))
    (sAsg (gV 4) (e2 fdivD (e1 intD (eV 4)) (eV 2))))
    (sSeq (sAsg (gV 6) (e2 modD (e1 intD (e2 addD (e2 addD (e2 mulD (eV 0) (eC (.int 48271))) (e2 mulD (eV 5) (eC (.int 69621)))) (eC (.int 7)))) (eC (.int 2147483647))))
    (sSeq (sAsg (gV 6) (e2 modD (e1 intD (e2 addD (e2 addD (e2 addD (e2 mulD (eV 6) (eV 6)) (e2 mulD (eV 6) (eC (.int 40692)))) (e2 mulD (eV 5) (eC (.int 16807)))) (eC (.int 11)))) (eC (.int 2147483399))))
    (sApp 3 (e2 modD (e1 intD (e2 fdivD (eV 6) (eC (.int 32)))) (eV 2)))))))
    (sRet (eV 3)))))
noncomputable def f__law_numbers : List Dat → R Dat := run 7 b__law_numbers
/-! _law_same: 0 answer 1 due 2 k -/
def b__law_same (IHm : List Dat → R Dat) : SM := (sSeq (sIf (tE (e1 (isTy .list) (eV 1)))
    (sIf (tOr (tNot (tE (e1 (isTy .list) (eV 0)))) (tE (e2 neD (e1 lenD (eV 0)) (e1 lenD (eV 1)))))
    (sRet (eC (.bl false)))
    sSkip)
    (sIf (tE (e1 (isTy .tuple) (eV 1)))
    (sIf (tOr (tNot (tE (e1 (isTy .tuple) (eV 0)))) (tE (e2 neD (e1 lenD (eV 0)) (e1 lenD (eV 1)))))
    (sRet (eC (.bl false)))
    sSkip)
    (sIf (tE (e1 isN (eV 1)))
    (sRet (e1 isN (eV 0)))
    (sIf (tE (e1 (isTy .bool) (eV 1)))
    (sRet (eAnd (e1 (isTy .bool) (eV 0)) (e2 eqD (eV 0) (eV 1))))
    (sIf (tE (e1 (isTy .int) (eV 1)))
    (sRet (eAnd (e1 (isTy .int) (eV 0)) (eAnd (e1 notB (e1 (isTy .bool) (eV 0))) (e2 eqD (eV 0) (eV 1)))))
    (sRet (eAnd (e1 (isTy .str) (eV 0)) (e2 eqD (eV 0) (eV 1)))))))))
    (sSeq (sFor (iR1 (e1 lenD (eV 1))) (gV 2)
    (sIf (tNot (tE (eCall IHm (eCons (e2 idxD (eV 0) (eV 2)) (eCons (e2 idxD (eV 1) (eV 2)) eNil)))))
    (sRet (eC (.bl false)))
    sSkip))
    (sRet (eC (.bl true)))))
def f__law_same : Nat → List Dat → R Dat
  | 0 => fun _ => .bad
  | n + 1 => run 3 (b__law_same (f__law_same n))
/-! _law_signs: 0 draw 1 count 2 pool 3 k -/
def b__law_signs : SM := (sSeq (sAsg (gV 2) (eC (.str [32, 33, 34, 35, 36, 38, 39, 40, 41, 42, 43, 44, 45, 46, 47, 48, 49, 50, 51, 52, 53, 54, 55, 56, 57, 58, 59, 60, 61, 62, 63, 64, 65, 66, 67, 68, 69, 70, 71, 72, 73, 74, 75, 76, 77, 78, 79, 80, 81, 82, 83, 84, 85, 86, 87, 88, 89, 90, 91, 92, 93, 94, 95, 96, 97, 98, 99, 100, 101, 102, 103, 104, 105, 106, 107, 108, 109, 110, 111, 112, 113, 114, 115, 116, 117, 118, 119, 120, 121, 122, 123, 125, 126])))
    (sRet (eM1 joinD (eC (.str [])) (eComp (iR1 (eV 1)) [3] (gV 3) tYes (e2 idxD (eV 2) (e2 modD (e2 addD (eV 0) (e2 mulD (eV 3) (e2 addD (eC (.int 1)) (e2 modD (e2 fdivD (eV 0) (eC (.int 93))) (eC (.int 30)))))) (eC (.int 93))))))))
noncomputable def f__law_signs : List Dat → R Dat := run 4 b__law_signs
/-! _law_word: 0 draws 1 at 2 signs 3 least 4 most 5 found 6 k -/
def b__law_word : SM := (sSeq (sAsg (gV 5) (eC (.str [])))
    (sSeq (sFor (iR1 (e2 addD (eV 3) (e2 modD (e2 idxD (eV 0) (eV 1)) (e2 addD (e2 subD (eV 4) (eV 3)) (eC (.int 1)))))) (gV 6)
    (sAsg (gV 5) (e2 addD (eV 5) (e2 idxD (eV 2) (e2 modD (e2 idxD (eV 0) (e2 addD (e2 addD (eV 1) (eC (.int 1))) (eV 6))) (e1 lenD (eV 2)))))))
    (sRet (eV 5))))
noncomputable def f__law_word : List Dat → R Dat := run 7 b__law_word
/-! _law_class: 0 draw 1 signs 2 found 3 sign 4 one -/
def b__law_class : SM := (sSeq (sAsg (gV 2) (eC (.str [])))
    (sSeq (sFor (iOf (e1 sortD (e2 addD (eComp (iOf (eV 1)) [4] (gV 4) tYes (eV 4)) (eLst (eCons (eC (.str [124])) eNil))))) (gV 3)
    (sSeq (sIf (tE (e2 eqD (e2 modD (eV 0) (eC (.int 2))) (eC (.int 1))))
    (sAsg (gV 2) (e2 addD (eV 2) (eV 3)))
    sSkip)
    (sAsg (gV 0) (e2 fdivD (eV 0) (eC (.int 2))))))
    (sSeq (sIf (tE (e2 eqD (eV 2) (eC (.str []))))
    (sRet (e2 idxD (eV 1) (eC (.int 0))))
    sSkip)
    (sRet (eV 2)))))
noncomputable def f__law_class : List Dat → R Dat := run 5 b__law_class
/-! _law_side: 0 draws 1 at 2 signs 3 most 4 k -/
def b__law_side : SM := (sRet (e1 tupleD (eComp (iR1 (e2 modD (e2 idxD (eV 0) (eV 1)) (e2 addD (eV 3) (eC (.int 1))))) [4] (gV 4) tYes (eCall f__law_class (eCons (e2 idxD (eV 0) (e2 addD (e2 addD (eV 1) (eC (.int 1))) (eV 4))) (eCons (eV 2) eNil))))))
noncomputable def f__law_side : List Dat → R Dat := run 5 b__law_side
/-! _law_rules: 0 script 1 at 2 signs 3 out 4 most 5 sizes 6 draws 7 found 8 k 9 spot 10 left 11 right 12 behind 13 ahead -/
def b__law_rules : SM := (sSeq (sAsg (gV 6) (eCall f__law_numbers (eCons (eCall f__law_cell (eCons (eV 0) (eCons (eV 1) eNil))) (eCons (e2 addD (e2 mulD (eC (.int 24)) (eV 4)) (eC (.int 2))) (eCons (eC (.int 5040)) eNil)))))
    (sSeq (sNew 7 (eLst eNil))
    (sSeq (sFor (iR1 (e2 addD (eC (.int 1)) (e2 modD (e2 idxD (eV 6) (eC (.int 0))) (eV 4)))) (gV 8)
    (sSeq (sAsg (gV 9) (e2 addD (eC (.int 2)) (e2 mulD (eC (.int 24)) (eV 8))))
    (sSeq (sAsg (gV 10) (eCall f__law_word (eCons (eV 6) (eCons (eV 9) (eCons (eV 2) (eCons (eC (.int 1)) (eCons (e2 idxD (eV 5) (eC (.int 0))) eNil)))))))
    (sSeq (sAsg (gV 11) (eCall f__law_word (eCons (eV 6) (eCons (e2 addD (eV 9) (eC (.int 5))) (eCons (eV 3) (eCons (eC (.int 0)) (eCons (e2 addD (eC (.int 2)) (e2 mulD (eC (.int 4)) (e1 intD (e2 eqD (e2 modD (e2 idxD (eV 6) (eC (.int 1))) (eC (.int 6))) (eC (.int 0)))))) eNil)))))))
    (sSeq (sAsg (gV 12) (eCall f__law_side (eCons (eV 6) (eCons (e2 addD (eV 9) (eC (.int 13))) (eCons (eV 2) (eCons (e2 idxD (eV 5) (eC (.int 1))) eNil))))))
    (sSeq (sAsg (gV 13) (eCall f__law_side (eCons (eV 6) (eCons (e2 addD (eV 9) (eC (.int 17))) (eCons (eV 2) (eCons (e2 idxD (eV 5) (eC (.int 2))) eNil))))))
    (sApp 7 (eTup (eCons (eV 10) (eCons (eV 11) (eCons (eV 12) (eCons (eV 13) eNil))))))))))))
    (sRet (eV 7)))))
noncomputable def f__law_rules : List Dat → R Dat := run 14 b__law_rules
/-! _law_text: 0 script 1 at 2 signs 3 most 4 draws 5 k -/
def b__law_text : SM := (sSeq (sAsg (gV 4) (eCall f__law_numbers (eCons (eCall f__law_cell (eCons (eV 0) (eCons (eV 1) eNil))) (eCons (e2 addD (eC (.int 2)) (eV 3)) (eCons (eC (.int 5040)) eNil)))))
    (sRet (eM1 joinD (eC (.str [])) (eComp (iR1 (e2 modD (e2 idxD (eV 4) (eC (.int 0))) (e2 addD (eV 3) (eC (.int 1))))) [5] (gV 5) tYes (e2 idxD (eV 2) (e2 modD (e2 idxD (eV 4) (e2 addD (eC (.int 2)) (eV 5))) (e1 lenD (eV 2))))))))
noncomputable def f__law_text : List Dat → R Dat := run 6 b__law_text
/-! _law_sign_at: 0 text 1 place -/
def b__law_sign_at : SM := (sSeq (sIf (tOr (tE (e2 ltD (eV 1) (eC (.int 0)))) (tE (e2 geD (eV 1) (e1 lenD (eV 0)))))
    (sRet (eC (.str [124])))
    sSkip)
    (sRet (e2 idxD (eV 0) (eV 1))))
noncomputable def f__law_sign_at : List Dat → R Dat := run 2 b__law_sign_at
/-! _law_fits: 0 rule 1 text 2 place 3 left 4 right 5 behind 6 ahead 7 k -/
def b__law_fits : SM := (sSeq (sAsg (gTup 4 (gCons (gV 3) (gCons (gV 4) (gCons (gV 5) (gCons (gV 6) gNil))))) (eV 0))
    (sSeq (sIf (tE (e2 neD (eSli (pS (eV 2)) (pS (e2 addD (eV 2) (e1 lenD (eV 3)))) (eV 1)) (eV 3)))
    (sRet (eC (.bl false)))
    sSkip)
    (sSeq (sFor (iR1 (e1 lenD (eV 5))) (gV 7)
    (sIf (tE (e2 notInD (eCall f__law_sign_at (eCons (eV 1) (eCons (e2 addD (e2 subD (eV 2) (e1 lenD (eV 5))) (eV 7)) eNil))) (e2 idxD (eV 5) (eV 7))))
    (sRet (eC (.bl false)))
    sSkip))
    (sSeq (sFor (iR1 (e1 lenD (eV 6))) (gV 7)
    (sIf (tE (e2 notInD (eCall f__law_sign_at (eCons (eV 1) (eCons (e2 addD (e2 addD (eV 2) (e1 lenD (eV 3))) (eV 7)) eNil))) (e2 idxD (eV 6) (eV 7))))
    (sRet (eC (.bl false)))
    sSkip))
    (sRet (eC (.bl true)))))))
noncomputable def f__law_fits : List Dat → R Dat := run 8 b__law_fits
/-! _law_choices: 0 rules 1 text 2 found 3 place 4 turn 5 fits 6 k -/
def b__law_choices : SM := (sSeq (sNew 2 (eLst eNil))
    (sSeq (sAsg (gV 3) (eC (.int 0)))
    (sSeq (sFor (iR1 (e1 lenD (eV 1))) (gV 4)
    (sIf (tE (e2 ltD (eV 3) (e1 lenD (eV 1))))
    (sSeq (sNew 5 (eComp (iR1 (e1 lenD (eV 0))) [6] (gV 6) (tE (eCall f__law_fits (eCons (e2 idxD (eV 0) (eV 6)) (eCons (eV 1) (eCons (eV 3) eNil))))) (eV 6)))
    (sIf (tE (e2 eqD (e1 lenD (eV 5)) (eC (.int 0))))
    (sSeq (sApp 2 (eTup (eCons (eV 3) (eCons (e1 negD (eC (.int 1))) eNil))))
    (sAsg (gV 3) (e2 addD (eV 3) (eC (.int 1)))))
    (sSeq (sApp 2 (eTup (eCons (eV 3) (eCons (e2 idxD (eV 5) (eC (.int 0))) eNil))))
    (sAsg (gV 3) (e2 addD (eV 3) (e1 lenD (e2 idxD (e2 idxD (eV 0) (e2 idxD (eV 5) (eC (.int 0)))) (eC (.int 0)))))))))
    sSkip))
    (sRet (eV 2)))))
noncomputable def f__law_choices : List Dat → R Dat := run 7 b__law_choices
/-! _law_spell: 0 rules 1 text 2 out 3 place 4 k -/
def b__law_spell : SM := (sSeq (sAsg (gV 2) (eC (.str [])))
    (sSeq (sFor (iOf (eCall f__law_choices (eCons (eV 0) (eCons (eV 1) eNil)))) (gTup 2 (gCons (gV 3) (gCons (gV 4) gNil)))
    (sIf (tE (e2 ltD (eV 4) (eC (.int 0))))
    (sAsg (gV 2) (e2 addD (eV 2) (e2 idxD (eV 1) (eV 3))))
    (sAsg (gV 2) (e2 addD (eV 2) (e2 idxD (e2 idxD (eV 0) (eV 4)) (eC (.int 1)))))))
    (sRet (eV 2))))
noncomputable def f__law_spell : List Dat → R Dat := run 5 b__law_spell
/-! _law_known: 0 rule 1 state 2 ends 3 tail 4 rest 5 k 6 sides 7 sign -/
def b__law_known : SM := (sSeq (sAsg (gTup 2 (gCons (gV 3) (gCons (gV 4) gNil))) (eV 1))
    (sSeq (sFor (iR1 (e1 lenD (e2 idxD (eV 0) (eC (.int 2))))) (gV 5)
    (sIf (tE (e2 notInD (e2 idxD (eV 3) (e2 addD (e2 subD (e1 lenD (eV 3)) (e1 lenD (e2 idxD (eV 0) (eC (.int 2))))) (eV 5))) (e2 idxD (e2 idxD (eV 0) (eC (.int 2))) (eV 5))))
    (sRet (eC (.int 0)))
    sSkip))
    (sSeq (sAsg (gV 6) (e2 addD (eComp (iOf (e2 idxD (eV 0) (eC (.int 0)))) [7] (gV 7) tYes (eV 7)) (e1 listD (e2 idxD (eV 0) (eC (.int 3))))))
    (sSeq (sFor (iR1 (e1 lenD (eV 6))) (gV 5)
    (sIf (tE (e2 ltD (eV 5) (e1 lenD (eV 4))))
    (sIf (tE (e2 notInD (e2 idxD (eV 4) (eV 5)) (e2 idxD (eV 6) (eV 5))))
    (sRet (eC (.int 0)))
    sSkip)
    (sIf (tNot (tE (eV 2)))
    (sRet (eC (.int 1)))
    (sIf (tE (e2 notInD (eC (.str [124])) (e2 idxD (eV 6) (eV 5))))
    (sRet (eC (.int 0)))
    sSkip))))
    (sRet (eC (.int 2)))))))
noncomputable def f__law_known : List Dat → R Dat := run 8 b__law_known
/-! _law_settled: 0 rules 1 state 2 ends 3 k 4 known -/
def b__law_settled : SM := (sSeq (sFor (iR1 (e1 lenD (eV 0))) (gV 3)
    (sSeq (sAsg (gV 4) (eCall f__law_known (eCons (e2 idxD (eV 0) (eV 3)) (eCons (eV 1) (eCons (eV 2) eNil)))))
    (sSeq (sIf (tE (e2 eqD (eV 4) (eC (.int 2))))
    (sRet (eV 3))
    sSkip)
    (sIf (tE (e2 eqD (eV 4) (eC (.int 1))))
    (sRet (eC .non))
    sSkip))))
    (sRet (e1 negD (eC (.int 1)))))
noncomputable def f__law_settled : List Dat → R Dat := run 5 b__law_settled
/-! _law_taken: 0 rules 1 state 2 ends 3 tail 4 rest 5 out 6 numbers 7 turn 8 k 9 size 10 gone -/
def b__law_taken : SM := (sSeq (sAsg (gTup 2 (gCons (gV 3) (gCons (gV 4) gNil))) (eV 1))
    (sSeq (sAsg (gV 5) (eC (.str [])))
    (sSeq (sNew 6 (eLst eNil))
    (sSeq (sFor (iR1 (e1 lenD (eV 4))) (gV 7)
    (sIf (tE (e2 neD (eV 4) (eC (.str []))))
    (sSeq (sAsg (gV 8) (eCall f__law_settled (eCons (eV 0) (eCons (eTup (eCons (eV 3) (eCons (eV 4) eNil))) (eCons (eV 2) eNil)))))
    (sSeq (sIf (tE (e1 isN (eV 8)))
    (sRet (eTup (eCons (eTup (eCons (eV 3) (eCons (eV 4) eNil))) (eCons (eV 5) (eCons (eV 6) eNil)))))
    sSkip)
    (sSeq (sApp 6 (eV 8))
    (sSeq (sAsg (gV 9) (eC (.int 1)))
    (sSeq (sIf (tE (e2 ltD (eV 8) (eC (.int 0))))
    (sAsg (gV 5) (e2 addD (eV 5) (e2 idxD (eV 4) (eC (.int 0)))))
    (sSeq (sAsg (gV 5) (e2 addD (eV 5) (e2 idxD (e2 idxD (eV 0) (eV 8)) (eC (.int 1)))))
    (sAsg (gV 9) (e1 lenD (e2 idxD (e2 idxD (eV 0) (eV 8)) (eC (.int 0)))))))
    (sSeq (sAsg (gV 10) (e2 addD (eV 3) (eSli (pS (eC (.int 0))) (pS (eV 9)) (eV 4))))
    (sSeq (sAsg (gV 3) (eSli (pS (e2 subD (e1 lenD (eV 10)) (e1 lenD (eV 3)))) pN (eV 10)))
    (sAsg (gV 4) (eSli (pS (eV 9)) pN (eV 4))))))))))
    sSkip))
    (sRet (eTup (eCons (eTup (eCons (eV 3) (eCons (eV 4) eNil))) (eCons (eV 5) (eCons (eV 6) eNil)))))))))
noncomputable def f__law_taken : List Dat → R Dat := run 11 b__law_taken
/-! _law_read: 0 rules 1 state 2 sign -/
def b__law_read : SM := (sRet (eCall f__law_taken (eCons (eV 0) (eCons (eTup (eCons (e2 idxD (eV 1) (eC (.int 0))) (eCons (e2 addD (e2 idxD (eV 1) (eC (.int 1))) (eV 2)) eNil))) (eCons (eC (.bl false)) eNil)))))
noncomputable def f__law_read : List Dat → R Dat := run 3 b__law_read
/-! _law_first: 0 rules 1 rule -/
def b__law_first : SM := (sRet (eTup (eCons (e2 mulD (eC (.str [124])) (e1 maxD (eComp (iOf (eV 0)) [1] (gV 1) tYes (e1 lenD (e2 idxD (eV 1) (eC (.int 2))))))) (eCons (eC (.str [])) eNil))))
noncomputable def f__law_first : List Dat → R Dat := run 2 b__law_first
/-! _law_reach: 0 rules 1 rule -/
def b__law_reach : SM := (sRet (e1 maxD (eComp (iOf (eV 0)) [1] (gV 1) tYes (e2 addD (e1 lenD (e2 idxD (eV 1) (eC (.int 0)))) (e1 lenD (e2 idxD (eV 1) (eC (.int 3))))))))
noncomputable def f__law_reach : List Dat → R Dat := run 2 b__law_reach
/-! _law_is_state: 0 rules 1 signs 2 pair 3 tail 4 rest 5 rule 6 sign -/
def b__law_is_state : SM := (sSeq (sAsg (gTup 2 (gCons (gV 3) (gCons (gV 4) gNil))) (eV 2))
    (sSeq (sIf (tOr (tE (e2 neD (e1 lenD (eV 3)) (e1 maxD (eComp (iOf (eV 0)) [5] (gV 5) tYes (e1 lenD (e2 idxD (eV 5) (eC (.int 2)))))))) (tE (e2 geD (e1 lenD (eV 4)) (eCall f__law_reach (eCons (eV 0) eNil)))))
    (sRet (eC (.bl false)))
    sSkip)
    (sRet (eAnd (e2 eqD (e1 lenD (eComp (iOf (eV 3)) [6] (gV 6) (tE (e2 notInD (eV 6) (e2 addD (eV 1) (eC (.str [124]))))) (eV 6))) (eC (.int 0))) (e2 eqD (e1 lenD (eComp (iOf (eV 4)) [6] (gV 6) (tE (e2 notInD (eV 6) (eV 1))) (eV 6))) (eC (.int 0)))))))
noncomputable def f__law_is_state : List Dat → R Dat := run 7 b__law_is_state
/-! _law_pairs: 0 state 1 signs 2 draws 3 tail 4 rest 5 found -/
def b__law_pairs : SM := (sSeq (sAsg (gTup 2 (gCons (gV 3) (gCons (gV 4) gNil))) (eV 0))
    (sSeq (sAsg (gV 5) (eLst (eCons (eV 0) (eCons (eTup (eCons (eV 3) (eCons (eC (.str [])) eNil))) (eCons (eTup (eCons (e2 addD (eV 3) (eC (.str [124]))) (eCons (eV 4) eNil))) (eCons (eTup (eCons (eSli (pS (eC (.int 1))) pN (eV 3)) (eCons (eV 4) eNil))) (eCons (eTup (eCons (eV 3) (eCons (e2 addD (eV 4) (e2 idxD (eV 1) (eC (.int 0)))) eNil))) (eCons (eTup (eCons (eV 3) (eCons (e2 addD (eV 4) (e2 mulD (eV 1) (eC (.int 3)))) eNil))) eNil))))))))
    (sSeq (sAsg (gV 5) (e2 addD (eV 5) (eLst (eCons (eTup (eCons (eV 3) (eCons (eC (.str [124])) eNil))) (eCons (eTup (eCons (eV 3) (eCons (e2 addD (eSli (pS (eC (.int 1))) pN (eV 4)) (eC (.str [126, 126]))) eNil))) (eCons (eTup (eCons (e2 mulD (eC (.str [124])) (e1 lenD (eV 3))) (eCons (eV 4) eNil))) (eCons (eTup (eCons (eSli (pS (eC (.int 0))) (pS (e1 lenD (eV 3))) (e2 addD (e2 addD (e2 idxD (eV 1) (eC (.int 0))) (eC (.str [124]))) (e2 idxD (eV 1) (eC (.int 1))))) (eCons (eV 4) eNil))) eNil)))))))
    (sRet (e2 addD (eV 5) (eLst (eCons (eTup (eCons (eSli (pS (eC (.int 0))) (pS (e1 lenD (eV 3))) (e2 addD (eC (.str [126])) (eV 1))) (eCons (eV 4) eNil))) (eCons (eTup (eCons (eC (.str [])) (eCons (eV 4) eNil))) (eCons (eTup (eCons (eV 3) (eCons (e2 idxD (eV 1) (e2 modD (e2 idxD (eV 2) (eC (.int 0))) (e1 lenD (eV 1)))) eNil))) eNil)))))))))
noncomputable def f__law_pairs : List Dat → R Dat := run 6 b__law_pairs
/-! law: 0 script 1 draws 2 signs 3 sizes 4 rules 5 kept 6 k 7 text 8 state 9 out 10 sign 11 later 12 more 13 numbers 14 whole 15 pair -/
def t_law_0 : SM := (sAsg (gV 1) (eCall f__law_numbers (eCons (eCall f__law_cell (eCons (eV 0) (eCons (eC (.int 1)) eNil))) (eCons (eC (.int 8)) (eCons (eC (.int 5040)) eNil)))))
def t_law_1 : SM := (sAsg (gV 2) (eCall f__law_signs (eCons (e2 idxD (eV 1) (eC (.int 0))) (eCons (e2 addD (eC (.int 2)) (e2 modD (e2 idxD (eV 1) (eC (.int 1))) (eC (.int 3)))) eNil))))
def t_law_2 : SM := (sAsg (gV 3) (e2 idxD (eLst (eCons (eLst (eCons (eC (.int 1)) (eCons (eC (.int 1)) (eCons (eC (.int 1)) eNil)))) (eCons (eLst (eCons (eC (.int 2)) (eCons (eC (.int 1)) (eCons (eC (.int 2)) eNil)))) (eCons (eLst (eCons (eC (.int 3)) (eCons (eC (.int 2)) (eCons (eC (.int 2)) eNil)))) (eCons (eLst (eCons (eC (.int 4)) (eCons (eC (.int 2)) (eCons (eC (.int 2)) eNil)))) eNil))))) (e2 modD (e2 idxD (eV 1) (eC (.int 2))) (eC (.int 4)))))
def t_law_3 : SM := (sAsg (gV 4) (eCall f__law_rules (eCons (eV 0) (eCons (eC (.int 0)) (eCons (eV 2) (eCons (e2 addD (eC (.str [120, 121])) (eV 2)) (eCons (eC (.int 8)) (eCons (eV 3) eNil))))))))
def t_law_5 : SM := (sIf (tOr (tNot (tE (eCall (f__law_same 12) (eCons (eCall f_reach (eCons (eV 4) eNil)) (eCons (eCall f__law_reach (eCons (eV 4) eNil)) eNil))))) (tNot (tE (eCall (f__law_same 12) (eCons (eCall f_first_state (eCons (eV 4) eNil)) (eCons (eCall f__law_first (eCons (eV 4) eNil)) eNil))))))
    (sRet (eC (.bl false)))
    sSkip)
def t_law_6 : SM := (sFor (iR1 (eC (.int 3))) (gV 6)
    (sSeq (sAsg (gV 7) (eCall f__law_text (eCons (eV 0) (eCons (e2 addD (eC (.int 2)) (eV 6)) (eCons (eV 2) (eCons (eC (.int 16)) eNil))))))
    (sSeq (sAsg (gV 8) (eCall f__law_first (eCons (eV 4) eNil)))
    (sSeq (sAsg (gV 9) (eC (.str [])))
    (sSeq (sFor (iOf (eV 7)) (gV 10)
    (sSeq (sAsg (gTup 3 (gCons (gV 11) (gCons (gV 12) (gCons (gV 13) gNil)))) (eCall f__law_read (eCons (eV 4) (eCons (eV 8) (eCons (eV 10) eNil)))))
    (sSeq (sIf (tNot (tE (eCall (f__law_same 12) (eCons (eCall f_watch (eCons (eV 4) (eCons (eV 8) (eCons (eV 10) eNil)))) (eCons (eTup (eCons (eV 11) (eCons (eV 12) eNil))) eNil)))))
    (sRet (eC (.bl false)))
    sSkip)
    (sSeq (sAsg (gV 8) (eV 11))
    (sSeq (sAsg (gV 9) (e2 addD (eV 9) (eV 12)))
    (sSeq (sIf (tNot (tE (eCall (f__law_same 12) (eCons (eCall f_leave (eCons (eV 4) (eCons (eV 8) eNil))) (eCons (e2 idxD (eCall f__law_taken (eCons (eV 4) (eCons (eV 8) (eCons (eC (.bl true)) eNil)))) (eC (.int 1))) eNil)))))
    (sRet (eC (.bl false)))
    sSkip)
    (sIf (tE (e2 geD (e1 lenD (e2 idxD (eV 8) (eC (.int 1)))) (eCall f__law_reach (eCons (eV 4) eNil))))
    (sRet (eC (.bl false)))
    sSkip)))))))
    (sSeq (sAsg (gV 14) (eCall f__law_spell (eCons (eV 4) (eCons (eV 7) eNil))))
    (sSeq (sIf (tOr (tE (e2 neD (e2 addD (eV 9) (eCall f_leave (eCons (eV 4) (eCons (eV 8) eNil)))) (eV 14))) (tNot (tE (eCall (f__law_same 12) (eCons (eCall f_spell (eCons (eV 4) (eCons (eV 7) eNil))) (eCons (eV 14) eNil))))))
    (sRet (eC (.bl false)))
    sSkip)
    (sFor (iOf (eCall f__law_pairs (eCons (eV 8) (eCons (eV 2) (eCons (eSli (pS (eC (.int 3))) pN (eV 1)) eNil))))) (gV 15)
    (sIf (tNot (tE (eCall (f__law_same 12) (eCons (eCall f_is_state (eCons (eV 4) (eCons (eV 2) (eCons (eV 15) eNil)))) (eCons (eCall f__law_is_state (eCons (eV 4) (eCons (eV 2) (eCons (eV 15) eNil)))) eNil)))))
    (sRet (eC (.bl false)))
    sSkip)))))))))
def b_law : SM := (sSeq t_law_0
    (sSeq t_law_1
    (sSeq t_law_2
    (sSeq t_law_3
    (sSeq (sAsg (gV 5) (e1 listD (eV 4)))
    (sSeq t_law_5
    (sSeq t_law_6
    (sRet (e2 eqD (eV 5) (eV 4))))))))))
noncomputable def f_law : List Dat → R Dat := run 16 b_law
end
end PL.K43

set_option maxRecDepth 100000
set_option maxHeartbeats 4000000
namespace PL.K43
open PySem PySem.Spec PyProof.Rows L2
set_option autoImplicit false
noncomputable section
def top (i : Nat) : Stmt := PySem.Challenge.pw_lettersacross_k43_watchers_read_sign_by.main.body.getD i (.Pass ⟨0, 0, 0, 0⟩)
abbrev s_sign_at : Stmt := top 2
abbrev s_lets : Stmt := top 3
abbrev s_fits_at : Stmt := top 4
abbrev s_choice_at : Stmt := top 5
abbrev s_places_of : Stmt := top 6
abbrev s_spell : Stmt := top 7
abbrev s_reach : Stmt := top 12
abbrev s_tail_size : Stmt := top 13
abbrev s_first_state : Stmt := top 14
abbrev s_lets_tail : Stmt := top 15
abbrev s_asked : Stmt := top 16
abbrev s_standing : Stmt := top 17
abbrev s_settled_choice : Stmt := top 18
abbrev s_passed : Stmt := top 19
abbrev s_taken : Stmt := top 20
abbrev s_read_sign : Stmt := top 21
abbrev s_watch : Stmt := top 22
abbrev s_leave : Stmt := top 23
abbrev s_is_state : Stmt := top 24
abbrev s__law_cell : Stmt := top 26
abbrev s__law_numbers : Stmt := top 27
abbrev s__law_same : Stmt := top 28
abbrev s__law_signs : Stmt := top 29
abbrev s__law_word : Stmt := top 30
abbrev s__law_class : Stmt := top 31
abbrev s__law_side : Stmt := top 32
abbrev s__law_rules : Stmt := top 33
abbrev s__law_text : Stmt := top 34
abbrev s__law_sign_at : Stmt := top 35
abbrev s__law_fits : Stmt := top 36
abbrev s__law_choices : Stmt := top 37
abbrev s__law_spell : Stmt := top 38
abbrev s__law_known : Stmt := top 39
abbrev s__law_settled : Stmt := top 40
abbrev s__law_taken : Stmt := top 41
abbrev s__law_read : Stmt := top 42
abbrev s__law_first : Stmt := top 43
abbrev s__law_reach : Stmt := top 44
abbrev s__law_is_state : Stmt := top 45
abbrev s__law_pairs : Stmt := top 46
abbrev s_law : Stmt := top 47
structure Txt (K : KF) (mg : Str → Option Value) (EC : Nat → Addr) (fa : Nat → Addr) (fd : Nat → FuncData) : Prop where
  F0 : Fun K "sign_at" "sign_at" s_sign_at (fa 0) (fd 0)
  g0 : mg "sign_at" = some (.ref (fa 0))
  k0 : PySem.W.keepIn K (.ref (fa 0)) = true
  b0 : Binds K (fd 0) ["text", "place"] []
  F1 : Fun K "lets" "lets" s_lets (fa 1) (fd 1)
  g1 : mg "lets" = some (.ref (fa 1))
  k1 : PySem.W.keepIn K (.ref (fa 1)) = true
  b1 : Binds K (fd 1) ["side", "text", "place"] []
  F2 : Fun K "fits_at" "fits_at" s_fits_at (fa 2) (fd 2)
  g2 : mg "fits_at" = some (.ref (fa 2))
  k2 : PySem.W.keepIn K (.ref (fa 2)) = true
  b2 : Binds K (fd 2) ["rule", "text", "place"] []
  F3 : Fun K "choice_at" "choice_at" s_choice_at (fa 3) (fd 3)
  g3 : mg "choice_at" = some (.ref (fa 3))
  k3 : PySem.W.keepIn K (.ref (fa 3)) = true
  b3 : Binds K (fd 3) ["rules", "text", "place"] []
  F4 : Fun K "places_of" "places_of" s_places_of (fa 4) (fd 4)
  g4 : mg "places_of" = some (.ref (fa 4))
  k4 : PySem.W.keepIn K (.ref (fa 4)) = true
  b4 : Binds K (fd 4) ["rules", "text"] []
  F5 : Fun K "spell" "spell" s_spell (fa 5) (fd 5)
  g5 : mg "spell" = some (.ref (fa 5))
  k5 : PySem.W.keepIn K (.ref (fa 5)) = true
  b5 : Binds K (fd 5) ["rules", "text"] []
  F6 : Fun K "reach" "reach" s_reach (fa 6) (fd 6)
  g6 : mg "reach" = some (.ref (fa 6))
  k6 : PySem.W.keepIn K (.ref (fa 6)) = true
  b6 : Binds K (fd 6) ["rules"] []
  F7 : Fun K "tail_size" "tail_size" s_tail_size (fa 7) (fd 7)
  g7 : mg "tail_size" = some (.ref (fa 7))
  k7 : PySem.W.keepIn K (.ref (fa 7)) = true
  b7 : Binds K (fd 7) ["rules"] []
  F8 : Fun K "first_state" "first_state" s_first_state (fa 8) (fd 8)
  g8 : mg "first_state" = some (.ref (fa 8))
  k8 : PySem.W.keepIn K (.ref (fa 8)) = true
  b8 : Binds K (fd 8) ["rules"] []
  F9 : Fun K "lets_tail" "lets_tail" s_lets_tail (fa 9) (fd 9)
  g9 : mg "lets_tail" = some (.ref (fa 9))
  k9 : PySem.W.keepIn K (.ref (fa 9)) = true
  b9 : Binds K (fd 9) ["behind", "tail"] []
  F10 : Fun K "asked" "asked" s_asked (fa 10) (fd 10)
  g10 : mg "asked" = some (.ref (fa 10))
  k10 : PySem.W.keepIn K (.ref (fa 10)) = true
  b10 : Binds K (fd 10) ["rule"] []
  F11 : Fun K "standing" "standing" s_standing (fa 11) (fd 11)
  g11 : mg "standing" = some (.ref (fa 11))
  k11 : PySem.W.keepIn K (.ref (fa 11)) = true
  b11 : Binds K (fd 11) ["rule", "state", "is_end"] []
  F12 : Fun K "settled_choice" "settled_choice" s_settled_choice (fa 12) (fd 12)
  g12 : mg "settled_choice" = some (.ref (fa 12))
  k12 : PySem.W.keepIn K (.ref (fa 12)) = true
  b12 : Binds K (fd 12) ["rules", "state", "is_end"] []
  F13 : Fun K "passed" "passed" s_passed (fa 13) (fd 13)
  g13 : mg "passed" = some (.ref (fa 13))
  k13 : PySem.W.keepIn K (.ref (fa 13)) = true
  b13 : Binds K (fd 13) ["state", "count"] []
  F14 : Fun K "taken" "taken" s_taken (fa 14) (fd 14)
  g14 : mg "taken" = some (.ref (fa 14))
  k14 : PySem.W.keepIn K (.ref (fa 14)) = true
  b14 : Binds K (fd 14) ["rules", "state", "is_end"] []
  F15 : Fun K "read_sign" "read_sign" s_read_sign (fa 15) (fd 15)
  g15 : mg "read_sign" = some (.ref (fa 15))
  k15 : PySem.W.keepIn K (.ref (fa 15)) = true
  b15 : Binds K (fd 15) ["rules", "state", "sign"] []
  F16 : Fun K "watch" "watch" s_watch (fa 16) (fd 16)
  g16 : mg "watch" = some (.ref (fa 16))
  k16 : PySem.W.keepIn K (.ref (fa 16)) = true
  b16 : Binds K (fd 16) ["rules", "state", "sign"] []
  F17 : Fun K "leave" "leave" s_leave (fa 17) (fd 17)
  g17 : mg "leave" = some (.ref (fa 17))
  k17 : PySem.W.keepIn K (.ref (fa 17)) = true
  b17 : Binds K (fd 17) ["rules", "state"] []
  F18 : Fun K "is_state" "is_state" s_is_state (fa 18) (fd 18)
  g18 : mg "is_state" = some (.ref (fa 18))
  k18 : PySem.W.keepIn K (.ref (fa 18)) = true
  b18 : Binds K (fd 18) ["rules", "signs", "pair"] []
  F19 : Fun K "_law_cell" "_law_cell" s__law_cell (fa 19) (fd 19)
  g19 : mg "_law_cell" = some (.ref (fa 19))
  k19 : PySem.W.keepIn K (.ref (fa 19)) = true
  b19 : Binds K (fd 19) ["script", "k"] []
  F20 : Fun K "_law_numbers" "_law_numbers" s__law_numbers (fa 20) (fd 20)
  g20 : mg "_law_numbers" = some (.ref (fa 20))
  k20 : PySem.W.keepIn K (.ref (fa 20)) = true
  b20 : Binds K (fd 20) ["cell", "count", "limit"] []
  F21 : Fun K "_law_same" "_law_same" s__law_same (fa 21) (fd 21)
  g21 : mg "_law_same" = some (.ref (fa 21))
  k21 : PySem.W.keepIn K (.ref (fa 21)) = true
  b21 : Binds K (fd 21) ["answer", "due"] []
  F22 : Fun K "_law_signs" "_law_signs" s__law_signs (fa 22) (fd 22)
  g22 : mg "_law_signs" = some (.ref (fa 22))
  k22 : PySem.W.keepIn K (.ref (fa 22)) = true
  b22 : Binds K (fd 22) ["draw", "count"] []
  F23 : Fun K "_law_word" "_law_word" s__law_word (fa 23) (fd 23)
  g23 : mg "_law_word" = some (.ref (fa 23))
  k23 : PySem.W.keepIn K (.ref (fa 23)) = true
  b23 : Binds K (fd 23) ["draws", "at", "signs", "least", "most"] []
  F24 : Fun K "_law_class" "_law_class" s__law_class (fa 24) (fd 24)
  g24 : mg "_law_class" = some (.ref (fa 24))
  k24 : PySem.W.keepIn K (.ref (fa 24)) = true
  b24 : Binds K (fd 24) ["draw", "signs"] []
  F25 : Fun K "_law_side" "_law_side" s__law_side (fa 25) (fd 25)
  g25 : mg "_law_side" = some (.ref (fa 25))
  k25 : PySem.W.keepIn K (.ref (fa 25)) = true
  b25 : Binds K (fd 25) ["draws", "at", "signs", "most"] []
  F26 : Fun K "_law_rules" "_law_rules" s__law_rules (fa 26) (fd 26)
  g26 : mg "_law_rules" = some (.ref (fa 26))
  k26 : PySem.W.keepIn K (.ref (fa 26)) = true
  b26 : Binds K (fd 26) ["script", "at", "signs", "out", "most", "sizes"] []
  F27 : Fun K "_law_text" "_law_text" s__law_text (fa 27) (fd 27)
  g27 : mg "_law_text" = some (.ref (fa 27))
  k27 : PySem.W.keepIn K (.ref (fa 27)) = true
  b27 : Binds K (fd 27) ["script", "at", "signs", "most"] []
  F28 : Fun K "_law_sign_at" "_law_sign_at" s__law_sign_at (fa 28) (fd 28)
  g28 : mg "_law_sign_at" = some (.ref (fa 28))
  k28 : PySem.W.keepIn K (.ref (fa 28)) = true
  b28 : Binds K (fd 28) ["text", "place"] []
  F29 : Fun K "_law_fits" "_law_fits" s__law_fits (fa 29) (fd 29)
  g29 : mg "_law_fits" = some (.ref (fa 29))
  k29 : PySem.W.keepIn K (.ref (fa 29)) = true
  b29 : Binds K (fd 29) ["rule", "text", "place"] []
  F30 : Fun K "_law_choices" "_law_choices" s__law_choices (fa 30) (fd 30)
  g30 : mg "_law_choices" = some (.ref (fa 30))
  k30 : PySem.W.keepIn K (.ref (fa 30)) = true
  b30 : Binds K (fd 30) ["rules", "text"] []
  F31 : Fun K "_law_spell" "_law_spell" s__law_spell (fa 31) (fd 31)
  g31 : mg "_law_spell" = some (.ref (fa 31))
  k31 : PySem.W.keepIn K (.ref (fa 31)) = true
  b31 : Binds K (fd 31) ["rules", "text"] []
  F32 : Fun K "_law_known" "_law_known" s__law_known (fa 32) (fd 32)
  g32 : mg "_law_known" = some (.ref (fa 32))
  k32 : PySem.W.keepIn K (.ref (fa 32)) = true
  b32 : Binds K (fd 32) ["rule", "state", "ends"] []
  F33 : Fun K "_law_settled" "_law_settled" s__law_settled (fa 33) (fd 33)
  g33 : mg "_law_settled" = some (.ref (fa 33))
  k33 : PySem.W.keepIn K (.ref (fa 33)) = true
  b33 : Binds K (fd 33) ["rules", "state", "ends"] []
  F34 : Fun K "_law_taken" "_law_taken" s__law_taken (fa 34) (fd 34)
  g34 : mg "_law_taken" = some (.ref (fa 34))
  k34 : PySem.W.keepIn K (.ref (fa 34)) = true
  b34 : Binds K (fd 34) ["rules", "state", "ends"] []
  F35 : Fun K "_law_read" "_law_read" s__law_read (fa 35) (fd 35)
  g35 : mg "_law_read" = some (.ref (fa 35))
  k35 : PySem.W.keepIn K (.ref (fa 35)) = true
  b35 : Binds K (fd 35) ["rules", "state", "sign"] []
  F36 : Fun K "_law_first" "_law_first" s__law_first (fa 36) (fd 36)
  g36 : mg "_law_first" = some (.ref (fa 36))
  k36 : PySem.W.keepIn K (.ref (fa 36)) = true
  b36 : Binds K (fd 36) ["rules"] []
  F37 : Fun K "_law_reach" "_law_reach" s__law_reach (fa 37) (fd 37)
  g37 : mg "_law_reach" = some (.ref (fa 37))
  k37 : PySem.W.keepIn K (.ref (fa 37)) = true
  b37 : Binds K (fd 37) ["rules"] []
  F38 : Fun K "_law_is_state" "_law_is_state" s__law_is_state (fa 38) (fd 38)
  g38 : mg "_law_is_state" = some (.ref (fa 38))
  k38 : PySem.W.keepIn K (.ref (fa 38)) = true
  b38 : Binds K (fd 38) ["rules", "signs", "pair"] []
  F39 : Fun K "_law_pairs" "_law_pairs" s__law_pairs (fa 39) (fd 39)
  g39 : mg "_law_pairs" = some (.ref (fa 39))
  k39 : PySem.W.keepIn K (.ref (fa 39)) = true
  b39 : Binds K (fd 39) ["state", "signs", "draws"] []
  F40 : Fun K "law" "law" s_law (fa 40) (fd 40)
  g40 : mg "law" = some (.ref (fa 40))
  k40 : PySem.W.keepIn K (.ref (fa 40)) = true
  b40 : Binds K (fd 40) ["script"] []
  z_all : mg "all" = none
  z_bool : mg "bool" = none
  z_enumerate : mg "enumerate" = none
  z_int : mg "int" = none
  z_isinstance : mg "isinstance" = none
  z_len : mg "len" = none
  z_list : mg "list" = none
  z_max : mg "max" = none
  z_range : mg "range" = none
  z_sorted : mg "sorted" = none
  z_str : mg "str" = none
  z_tuple : mg "tuple" = none
  c_END : ModC K mg "END" d_END
  c_OUT : ModC K mg "OUT" d_OUT
  c_NOT_YET : ModC K mg "NOT_YET" d_NOT_YET
  c_IN : ModC K mg "IN" d_IN
variable {P : Program} {w : World} {K : KF} {mg : Str → Option Value} {base : Heap} {EC : Nat → Addr} {fa : Nat → Addr} {fd : Nat → FuncData}
abbrev N_sign_at : List Str := ["text", "place"]
theorem ok_sign_at (T : Txt K mg EC fa fd) : FnOk P w K mg base (L2.CX P w) 1 (fa 0) (fd 0) ["text", "place"] (spM K EC 2 f_sign_at) := by
  unfold f_sign_at b_sign_at
  refine fn_ok (k := 0) (N := N_sign_at) (own' := []) T.F0 (C8.fnScope_by (by decide +kernel)) rfl (by decide) (fun cdv A outer s H E Z hr => ?_)
  have V : Scp (cxOf (L2.CX P w) P w K mg base N_sign_at "sign_at" (defScope s_sign_at) (fa 0) cdv A outer s H E) [0, 1] [0, 1] ["len", "END"] := scp_def (by decide +kernel)
  have tk := tk_def (P := P) (w := w) (K := K) (mg := mg) (base := base) (N := N_sign_at) (qual := "sign_at") (scope := defScope s_sign_at) (f := fa 0) (cd := cdv) (A := A) (outer := outer) (s := s) (H := H) (E := E)
  have hp := ps_def (P := P) (w := w) (K := K) (mg := mg) (base := base) (N := N_sign_at) (qual := "sign_at") (scope := defScope s_sign_at) (f := fa 0) (cd := cdv) (A := A) (outer := outer) (s := s) (H := H) (E := E)
  have hu := hr.units
  have hu1 := hu_of hr
  exact (qs_cons (own1 := []) (qs_if (qt_chain ck_le ck_lt (q_sh q_int) (xS 1 V (by decide) rfl rfl) (q_sh (cB1 (B_len rfl) 0 V rfl T.z_len (xS 0 V (by decide) rfl rfl))))
    (qs_one (qs_ret (q_idx rfl hu1 (xS 0 V (by decide) rfl rfl) (xS 1 V (by decide) rfl rfl) (fun _ _ => rfl))))
    qs_nil)
    (qs_one (qs_ret (xG 1 V rfl T.c_END))))
abbrev N_lets : List Str := ["side", "text", "place", "k", "signs"]
theorem ok_lets (T : Txt K mg EC fa fd) : FnOk P w K mg base (L2.CX P w) 2 (fa 1) (fd 1) ["side", "text", "place"] (spM K EC 3 f_lets) := by
  unfold f_lets b_lets
  refine fn_ok (k := 1) (N := N_lets) (own' := []) T.F1 (C8.fnScope_by (by decide +kernel)) rfl (by decide) (fun cdv A outer s H E Z hr => ?_)
  have V : Scp (cxOf (L2.CX P w) P w K mg base N_lets "lets" (defScope s_lets) (fa 1) cdv A outer s H E) [0, 1, 2] [0, 1, 2] ["all", "enumerate"] := scp_def (by decide +kernel)
  have tk := tk_def (P := P) (w := w) (K := K) (mg := mg) (base := base) (N := N_lets) (qual := "lets") (scope := defScope s_lets) (f := fa 1) (cd := cdv) (A := A) (outer := outer) (s := s) (H := H) (E := E)
  have hp := ps_def (P := P) (w := w) (K := K) (mg := mg) (base := base) (N := N_lets) (qual := "lets") (scope := defScope s_lets) (f := fa 1) (cd := cdv) (A := A) (outer := outer) (s := s) (H := H) (E := E)
  have hu := hr.units
  have hu1 := hu_of hr
  exact (qs_one (qs_ret (q_frz (cB1 (B_all rfl rfl) 0 V rfl T.z_all (q_sh (xLc V rfl (iEnu 1 V rfl rfl T.z_enumerate (xV 0 V (by decide) rfl (by decide) rfl)) (ob := [("k", 3), ("signs", 4)]) (okD (N := N_lets) (by decide +kernel)) rfl rfl (N := N_lets) (vis1 := [1, 2, 3, 4]) (loc1 := [3, 4]) (gls1 := ["sign_at"]) (by decide +kernel) rfl (fun _ _ _ _ _ V1 => (qg_tup rfl rfl (qgs_cons (gV' 3 V1 (by decide) rfl rfl (by decide)) (qgs_cons (gV' 4 V1 (by decide) rfl rfl (by decide)) qgs_nil)))) (fun _ _ _ _ _ V1 => qts_nil) (fun _ _ _ _ _ V1 => (q_frz (q_cmpO (ck_in rfl hu) (q_sh (cDef 0 V1 (ok_sign_at T) rfl hr (by first | decide | omega) rfl T.g0 T.k0 T.b0 takes0 (qa_cons (xV 1 V1 (by decide) rfl (by decide) rfl) (qa_cons (q_frz (q_add rfl (xS 2 V1 (by decide) rfl rfl) (xS 3 V1 (by decide) rfl rfl))) qa_nil)) (lnS (lnS ln0)))) (xS 4 V1 (by decide) rfl rfl) rfl)))))))))
abbrev N_fits_at : List Str := ["rule", "text", "place", "left", "_", "behind", "ahead"]
theorem ok_fits_at (T : Txt K mg EC fa fd) : FnOk P w K mg base (L2.CX P w) 3 (fa 2) (fd 2) ["rule", "text", "place"] (spM K EC 3 f_fits_at) := by
  unfold f_fits_at b_fits_at
  refine fn_ok (k := 2) (N := N_fits_at) (own' := []) T.F2 (C8.fnScope_by (by decide +kernel)) rfl (by decide) (fun cdv A outer s H E Z hr => ?_)
  have V : Scp (cxOf (L2.CX P w) P w K mg base N_fits_at "fits_at" (defScope s_fits_at) (fa 2) cdv A outer s H E) [0, 1, 2, 3, 4, 5, 6] [0, 1, 2, 3, 4, 5, 6] ["lets", "len"] := scp_def (by decide +kernel)
  have tk := tk_def (P := P) (w := w) (K := K) (mg := mg) (base := base) (N := N_fits_at) (qual := "fits_at") (scope := defScope s_fits_at) (f := fa 2) (cd := cdv) (A := A) (outer := outer) (s := s) (H := H) (E := E)
  have hp := ps_def (P := P) (w := w) (K := K) (mg := mg) (base := base) (N := N_fits_at) (qual := "fits_at") (scope := defScope s_fits_at) (f := fa 2) (cd := cdv) (A := A) (outer := outer) (s := s) (H := H) (E := E)
  have hu := hr.units
  have hu1 := hu_of hr
  exact (qs_cons (own1 := []) (sA (ts := [3, 4, 5, 6]) (xV 0 V (by decide) rfl (by decide) rfl) (qg_tup rfl rfl (qgs_cons (gV' 3 V (by decide) rfl rfl (by decide)) (qgs_cons (gV' 4 V (by decide) rfl rfl (by decide)) (qgs_cons (gV' 5 V (by decide) rfl rfl (by decide)) (qgs_cons (gV' 6 V (by decide) rfl rfl (by decide)) qgs_nil))))))
    (qs_cons (own1 := []) (qs_if (qt_not (qt_val (q_sh (q_startsAt rfl (xS 1 V (by decide) rfl rfl) (xS 3 V (by decide) rfl rfl) (xS 2 V (by decide) rfl rfl)))))
    (qs_one (qs_ret q_bl))
    qs_nil)
    (qs_one (qs_ret (q_and (q_sh (cDef 0 V (ok_lets T) rfl hr (by first | decide | omega) rfl T.g1 T.k1 T.b1 tk (qa_cons (xV 5 V (by decide) rfl (by decide) rfl) (qa_cons (xV 1 V (by decide) rfl (by decide) rfl) (qa_cons (q_frz (q_sub (xS 2 V (by decide) rfl rfl) (q_sh (cB1 (B_len rfl) 1 V rfl T.z_len (xS 5 V (by decide) rfl rfl))))) qa_nil))) (lnS (lnS (lnS ln0))))) (q_one (cDef 0 V (ok_lets T) rfl hr (by first | decide | omega) rfl T.g1 T.k1 T.b1 tk (qa_cons (xV 6 V (by decide) rfl (by decide) rfl) (qa_cons (xV 1 V (by decide) rfl (by decide) rfl) (qa_cons (q_frz (q_add rfl (xS 2 V (by decide) rfl rfl) (q_sh (cB1 (B_len rfl) 1 V rfl T.z_len (xS 3 V (by decide) rfl rfl))))) qa_nil))) (lnS (lnS (lnS ln0))))))))))
abbrev N_choice_at : List Str := ["rules", "text", "place", "number", "rule"]
theorem ok_choice_at (T : Txt K mg EC fa fd) : FnOk P w K mg base (L2.CX P w) 4 (fa 3) (fd 3) ["rules", "text", "place"] (spM K EC 3 f_choice_at) := by
  unfold f_choice_at b_choice_at
  refine fn_ok (k := 3) (N := N_choice_at) (own' := []) T.F3 (C8.fnScope_by (by decide +kernel)) rfl (by decide) (fun cdv A outer s H E Z hr => ?_)
  have V : Scp (cxOf (L2.CX P w) P w K mg base N_choice_at "choice_at" (defScope s_choice_at) (fa 3) cdv A outer s H E) [0, 1, 2, 3, 4] [0, 1, 2, 3, 4] ["enumerate", "fits_at"] := scp_def (by decide +kernel)
  have tk := tk_def (P := P) (w := w) (K := K) (mg := mg) (base := base) (N := N_choice_at) (qual := "choice_at") (scope := defScope s_choice_at) (f := fa 3) (cd := cdv) (A := A) (outer := outer) (s := s) (H := H) (E := E)
  have hp := ps_def (P := P) (w := w) (K := K) (mg := mg) (base := base) (N := N_choice_at) (qual := "choice_at") (scope := defScope s_choice_at) (f := fa 3) (cd := cdv) (A := A) (outer := outer) (s := s) (H := H) (E := E)
  have hu := hr.units
  have hu1 := hu_of hr
  exact (qs_cons (own1 := []) (qs_for (own' := []) (own1 := []) (ts := [3, 4]) hp rfl (iEnu 0 V rfl rfl T.z_enumerate (xV 0 V (by decide) rfl (by decide) rfl)) (by decide) (qg_tup rfl rfl (qgs_cons (gV' 3 V (by decide) rfl rfl (by decide)) (qgs_cons (gV' 4 V (by decide) rfl rfl (by decide)) qgs_nil)))
    (qs_one (qs_if (qt_val (q_sh (cDef 1 V (ok_fits_at T) rfl hr (by first | decide | omega) rfl T.g2 T.k2 T.b2 tk (qa_cons (xV 4 V (by decide) rfl (by decide) rfl) (qa_cons (xV 1 V (by decide) rfl (by decide) rfl) (qa_cons (xV 2 V (by decide) rfl (by decide) rfl) qa_nil))) (lnS (lnS (lnS ln0))))))
    (qs_one (qs_ret (xV 3 V (by decide) rfl (by decide) rfl)))
    qs_nil)) (hK := rfl))
    (qs_one (qs_ret (q_frz (q_neg (q_sh q_int))))))
abbrev N_places_of : List Str := ["rules", "text", "found", "place", "number"]
theorem ok_places_of (T : Txt K mg EC fa fd) : FnOk P w K mg base (L2.CX P w) 5 (fa 4) (fd 4) ["rules", "text"] (spM K EC 2 f_places_of) := by
  unfold f_places_of b_places_of
  refine fn_ok (k := 4) (N := N_places_of) (own' := []) T.F4 (C8.fnScope_by (by decide +kernel)) rfl (by decide) (fun cdv A outer s H E Z hr => ?_)
  have V : Scp (cxOf (L2.CX P w) P w K mg base N_places_of "places_of" (defScope s_places_of) (fa 4) cdv A outer s H E) [0, 1, 2, 3, 4] [0, 1, 2, 3, 4] ["len", "choice_at"] := scp_def (by decide +kernel)
  have tk := tk_def (P := P) (w := w) (K := K) (mg := mg) (base := base) (N := N_places_of) (qual := "places_of") (scope := defScope s_places_of) (f := fa 4) (cd := cdv) (A := A) (outer := outer) (s := s) (H := H) (E := E)
  have hp := ps_def (P := P) (w := w) (K := K) (mg := mg) (base := base) (N := N_places_of) (qual := "places_of") (scope := defScope s_places_of) (f := fa 4) (cd := cdv) (A := A) (outer := outer) (s := s) (H := H) (E := E)
  have hu := hr.units
  have hu1 := hu_of hr
  exact (qs_cons (own1 := [2]) (sN 2 V (by decide) rfl (q_lst qa_nil) (ho := rfl))
    (qs_cons (own1 := [2]) (sA (ts := [3]) q_int (gV' 3 V (by decide) rfl rfl (by decide)))
    (qs_cons (own1 := [2]) (qs_whl (own' := [2]) hp (by decide) (qt_cmpO ck_lt (xS 3 V (by decide) rfl rfl) (q_sh (cB1 (B_len rfl) 0 V rfl T.z_len (xS 1 V (by decide) rfl rfl))) rfl)
    (qs_cons (own1 := [2]) (sA (ts := [4]) (cDef 1 V (ok_choice_at T) rfl hr (by first | decide | omega) rfl T.g3 T.k3 T.b3 tk (qa_cons (xV 0 V (by decide) rfl (by decide) rfl) (qa_cons (xV 1 V (by decide) rfl (by decide) rfl) (qa_cons (xV 3 V (by decide) rfl (by decide) rfl) qa_nil))) (lnS (lnS (lnS ln0)))) (gV' 4 V (by decide) rfl rfl (by decide)))
    (qs_cons (own1 := [2]) (sApd 2 V (by decide) rfl rfl (by decide) (q_tup (qa_cons (xV 3 V (by decide) rfl (by decide) rfl) (qa_cons (xV 4 V (by decide) rfl (by decide) rfl) qa_nil))))
    (qs_one (qs_if (qt_cmpO ck_lt (xS 4 V (by decide) rfl rfl) (q_sh q_int) rfl)
    (qs_one (sAddE 3 V (by decide) rfl (by decide) rfl (q_sh q_int)))
    (qs_one (sAddE 3 V (by decide) rfl (by decide) rfl (q_sh (cB1 (B_len rfl) 0 V rfl T.z_len (q_sh (q_idx rfl hu1 (q_sh (q_idx rfl hu1 (xS 0 V (by decide) rfl rfl) (xS 4 V (by decide) rfl rfl) (fun _ _ => rfl))) (q_sh q_int) (fun _ _ => rfl))))))))))))
    (qs_one (qs_pre1 (own := []) (qs_ret (xV 2 V (by decide) rfl (by decide) rfl)) (by decide))))))
abbrev N_spell : List Str := ["rules", "text", "out", "place", "number"]
theorem ok_spell (T : Txt K mg EC fa fd) : FnOk P w K mg base (L2.CX P w) 6 (fa 5) (fd 5) ["rules", "text"] (spM K EC 2 f_spell) := by
  unfold f_spell b_spell
  refine fn_ok (k := 5) (N := N_spell) (own' := []) T.F5 (C8.fnScope_by (by decide +kernel)) rfl (by decide) (fun cdv A outer s H E Z hr => ?_)
  have V : Scp (cxOf (L2.CX P w) P w K mg base N_spell "spell" (defScope s_spell) (fa 5) cdv A outer s H E) [0, 1, 2, 3, 4] [0, 1, 2, 3, 4] ["places_of"] := scp_def (by decide +kernel)
  have tk := tk_def (P := P) (w := w) (K := K) (mg := mg) (base := base) (N := N_spell) (qual := "spell") (scope := defScope s_spell) (f := fa 5) (cd := cdv) (A := A) (outer := outer) (s := s) (H := H) (E := E)
  have hp := ps_def (P := P) (w := w) (K := K) (mg := mg) (base := base) (N := N_spell) (qual := "spell") (scope := defScope s_spell) (f := fa 5) (cd := cdv) (A := A) (outer := outer) (s := s) (H := H) (E := E)
  have hu := hr.units
  have hu1 := hu_of hr
  exact (qs_cons (own1 := []) (sA (ts := [2]) (q_str (by decide +kernel)) (gV' 2 V (by decide) rfl rfl (by decide)))
    (qs_cons (own1 := []) (qs_for (own' := []) (own1 := []) (ts := [3, 4]) hp rfl (qi_of rfl (cDef 0 V (ok_places_of T) rfl hr (by first | decide | omega) rfl T.g4 T.k4 T.b4 tk (qa_cons (xV 0 V (by decide) rfl (by decide) rfl) (qa_cons (xV 1 V (by decide) rfl (by decide) rfl) qa_nil)) (lnS (lnS ln0)))) (by decide) (qg_tup rfl rfl (qgs_cons (gV' 3 V (by decide) rfl rfl (by decide)) (qgs_cons (gV' 4 V (by decide) rfl rfl (by decide)) qgs_nil)))
    (qs_one (qs_if (qt_cmpO ck_lt (xS 4 V (by decide) rfl rfl) (q_sh q_int) rfl)
    (qs_one (sAddE 2 V (by decide) rfl (by decide) rfl (q_sh (q_idx rfl hu1 (xS 1 V (by decide) rfl rfl) (xS 3 V (by decide) rfl rfl) (fun _ _ => rfl)))))
    (qs_one (sAddE 2 V (by decide) rfl (by decide) rfl (q_sh (q_idx rfl hu1 (q_sh (q_idx rfl hu1 (xS 0 V (by decide) rfl rfl) (xS 4 V (by decide) rfl rfl) (fun _ _ => rfl))) (q_sh q_int) (fun _ _ => rfl))))))) (hK := rfl))
    (qs_one (qs_ret (xV 2 V (by decide) rfl (by decide) rfl)))))
abbrev N_reach : List Str := ["rules", "left", "_", "ahead"]
theorem ok_reach (T : Txt K mg EC fa fd) : FnOk P w K mg base (L2.CX P w) 1 (fa 6) (fd 6) ["rules"] (spM K EC 1 f_reach) := by
  unfold f_reach b_reach
  refine fn_ok (k := 0) (N := N_reach) (own' := []) T.F6 (C8.fnScope_by (by decide +kernel)) rfl (by decide) (fun cdv A outer s H E Z hr => ?_)
  have V : Scp (cxOf (L2.CX P w) P w K mg base N_reach "reach" (defScope s_reach) (fa 6) cdv A outer s H E) [0] [0] ["max"] := scp_def (by decide +kernel)
  have tk := tk_def (P := P) (w := w) (K := K) (mg := mg) (base := base) (N := N_reach) (qual := "reach") (scope := defScope s_reach) (f := fa 6) (cd := cdv) (A := A) (outer := outer) (s := s) (H := H) (E := E)
  have hp := ps_def (P := P) (w := w) (K := K) (mg := mg) (base := base) (N := N_reach) (qual := "reach") (scope := defScope s_reach) (f := fa 6) (cd := cdv) (A := A) (outer := outer) (s := s) (H := H) (E := E)
  have hu := hr.units
  have hu1 := hu_of hr
  exact (qs_one (qs_ret (q_frz (cB1 (B_max rfl rfl) 0 V rfl T.z_max (q_sh (xLc V rfl (qi_of rfl (xV 0 V (by decide) rfl (by decide) rfl)) (ob := [("left", 1), ("_", 2), ("ahead", 3)]) (okD (N := N_reach) (by decide +kernel)) rfl rfl (N := N_reach) (vis1 := [1, 2, 3]) (loc1 := [1, 2, 3]) (gls1 := ["len"]) (by decide +kernel) rfl (fun _ _ _ _ _ V1 => (qg_tup rfl rfl (qgs_cons (gV' 1 V1 (by decide) rfl rfl (by decide)) (qgs_cons (gV' 2 V1 (by decide) rfl rfl (by decide)) (qgs_cons (gV' 2 V1 (by decide) rfl rfl (by decide)) (qgs_cons (gV' 3 V1 (by decide) rfl rfl (by decide)) qgs_nil)))))) (fun _ _ _ _ _ V1 => qts_nil) (fun _ _ _ _ _ V1 => (q_frz (q_add rfl (q_sh (cB1 (B_len rfl) 0 V1 rfl T.z_len (xS 1 V1 (by decide) rfl rfl))) (q_sh (cB1 (B_len rfl) 0 V1 rfl T.z_len (xS 3 V1 (by decide) rfl rfl))))))))))))
abbrev N_tail_size : List Str := ["rules", "_", "behind"]
theorem ok_tail_size (T : Txt K mg EC fa fd) : FnOk P w K mg base (L2.CX P w) 1 (fa 7) (fd 7) ["rules"] (spM K EC 1 f_tail_size) := by
  unfold f_tail_size b_tail_size
  refine fn_ok (k := 0) (N := N_tail_size) (own' := []) T.F7 (C8.fnScope_by (by decide +kernel)) rfl (by decide) (fun cdv A outer s H E Z hr => ?_)
  have V : Scp (cxOf (L2.CX P w) P w K mg base N_tail_size "tail_size" (defScope s_tail_size) (fa 7) cdv A outer s H E) [0] [0] ["max"] := scp_def (by decide +kernel)
  have tk := tk_def (P := P) (w := w) (K := K) (mg := mg) (base := base) (N := N_tail_size) (qual := "tail_size") (scope := defScope s_tail_size) (f := fa 7) (cd := cdv) (A := A) (outer := outer) (s := s) (H := H) (E := E)
  have hp := ps_def (P := P) (w := w) (K := K) (mg := mg) (base := base) (N := N_tail_size) (qual := "tail_size") (scope := defScope s_tail_size) (f := fa 7) (cd := cdv) (A := A) (outer := outer) (s := s) (H := H) (E := E)
  have hu := hr.units
  have hu1 := hu_of hr
  exact (qs_one (qs_ret (q_frz (cB1 (B_max rfl rfl) 0 V rfl T.z_max (q_sh (xLc V rfl (qi_of rfl (xV 0 V (by decide) rfl (by decide) rfl)) (ob := [("_", 1), ("behind", 2)]) (okD (N := N_tail_size) (by decide +kernel)) rfl rfl (N := N_tail_size) (vis1 := [1, 2]) (loc1 := [1, 2]) (gls1 := ["len"]) (by decide +kernel) rfl (fun _ _ _ _ _ V1 => (qg_tup rfl rfl (qgs_cons (gV' 1 V1 (by decide) rfl rfl (by decide)) (qgs_cons (gV' 1 V1 (by decide) rfl rfl (by decide)) (qgs_cons (gV' 2 V1 (by decide) rfl rfl (by decide)) (qgs_cons (gV' 1 V1 (by decide) rfl rfl (by decide)) qgs_nil)))))) (fun _ _ _ _ _ V1 => qts_nil) (fun _ _ _ _ _ V1 => (q_frz (cB1 (B_len rfl) 0 V1 rfl T.z_len (xS 2 V1 (by decide) rfl rfl))))))))))
abbrev N_first_state : List Str := ["rules"]
theorem ok_first_state (T : Txt K mg EC fa fd) : FnOk P w K mg base (L2.CX P w) 2 (fa 8) (fd 8) ["rules"] (spM K EC 1 f_first_state) := by
  unfold f_first_state b_first_state
  refine fn_ok (k := 1) (N := N_first_state) (own' := []) T.F8 (C8.fnScope_by (by decide +kernel)) rfl (by decide) (fun cdv A outer s H E Z hr => ?_)
  have V : Scp (cxOf (L2.CX P w) P w K mg base N_first_state "first_state" (defScope s_first_state) (fa 8) cdv A outer s H E) [0] [0] ["END", "tail_size"] := scp_def (by decide +kernel)
  have tk := tk_def (P := P) (w := w) (K := K) (mg := mg) (base := base) (N := N_first_state) (qual := "first_state") (scope := defScope s_first_state) (f := fa 8) (cd := cdv) (A := A) (outer := outer) (s := s) (H := H) (E := E)
  have hp := ps_def (P := P) (w := w) (K := K) (mg := mg) (base := base) (N := N_first_state) (qual := "first_state") (scope := defScope s_first_state) (f := fa 8) (cd := cdv) (A := A) (outer := outer) (s := s) (H := H) (E := E)
  have hu := hr.units
  have hu1 := hu_of hr
  exact (qs_one (qs_ret (q_tup (qa_cons (q_frz (q_mulA rfl (q_sh (xG 0 V rfl T.c_END)) (q_sh (cDef 1 V (ok_tail_size T) rfl hr (by first | decide | omega) rfl T.g7 T.k7 T.b7 tk (qa_cons (xV 0 V (by decide) rfl (by decide) rfl) qa_nil) (lnS ln0))))) (qa_cons (q_str (by decide +kernel)) qa_nil)))))
abbrev N_lets_tail : List Str := ["behind", "tail", "start", "k", "signs"]
theorem ok_lets_tail (T : Txt K mg EC fa fd) : FnOk P w K mg base (L2.CX P w) 1 (fa 9) (fd 9) ["behind", "tail"] (spM K EC 2 f_lets_tail) := by
  unfold f_lets_tail b_lets_tail
  refine fn_ok (k := 0) (N := N_lets_tail) (own' := []) T.F9 (C8.fnScope_by (by decide +kernel)) rfl (by decide) (fun cdv A outer s H E Z hr => ?_)
  have V : Scp (cxOf (L2.CX P w) P w K mg base N_lets_tail "lets_tail" (defScope s_lets_tail) (fa 9) cdv A outer s H E) [0, 1, 2] [0, 1, 2] ["len", "all", "enumerate"] := scp_def (by decide +kernel)
  have tk := tk_def (P := P) (w := w) (K := K) (mg := mg) (base := base) (N := N_lets_tail) (qual := "lets_tail") (scope := defScope s_lets_tail) (f := fa 9) (cd := cdv) (A := A) (outer := outer) (s := s) (H := H) (E := E)
  have hp := ps_def (P := P) (w := w) (K := K) (mg := mg) (base := base) (N := N_lets_tail) (qual := "lets_tail") (scope := defScope s_lets_tail) (f := fa 9) (cd := cdv) (A := A) (outer := outer) (s := s) (H := H) (E := E)
  have hu := hr.units
  have hu1 := hu_of hr
  exact (qs_cons (own1 := []) (sA (ts := [2]) (q_frz (q_sub (q_sh (cB1 (B_len rfl) 0 V rfl T.z_len (xS 1 V (by decide) rfl rfl))) (q_sh (cB1 (B_len rfl) 0 V rfl T.z_len (xS 0 V (by decide) rfl rfl))))) (gV' 2 V (by decide) rfl rfl (by decide)))
    (qs_one (qs_ret (q_frz (cB1 (B_all rfl rfl) 1 V rfl T.z_all (q_sh (xLc V rfl (iEnu 2 V rfl rfl T.z_enumerate (xV 0 V (by decide) rfl (by decide) rfl)) (ob := [("k", 3), ("signs", 4)]) (okD (N := N_lets_tail) (by decide +kernel)) rfl rfl (N := N_lets_tail) (vis1 := [1, 2, 3, 4]) (loc1 := [3, 4]) (gls1 := []) (by decide +kernel) rfl (fun _ _ _ _ _ V1 => (qg_tup rfl rfl (qgs_cons (gV' 3 V1 (by decide) rfl rfl (by decide)) (qgs_cons (gV' 4 V1 (by decide) rfl rfl (by decide)) qgs_nil)))) (fun _ _ _ _ _ V1 => qts_nil) (fun _ _ _ _ _ V1 => (q_frz (q_cmpO (ck_in rfl hu) (q_sh (q_idx rfl hu1 (xS 1 V1 (by decide) rfl rfl) (q_sh (q_add rfl (xS 2 V1 (by decide) rfl rfl) (xS 3 V1 (by decide) rfl rfl))) (fun _ _ => rfl))) (xS 4 V1 (by decide) rfl rfl) rfl))))))))))
abbrev N_asked : List Str := ["rule"]
theorem ok_asked (T : Txt K mg EC fa fd) : FnOk P w K mg base (L2.CX P w) 1 (fa 10) (fd 10) ["rule"] (spM K EC 1 f_asked) := by
  unfold f_asked b_asked
  refine fn_ok (k := 0) (N := N_asked) (own' := []) T.F10 (C8.fnScope_by (by decide +kernel)) rfl (by decide) (fun cdv A outer s H E Z hr => ?_)
  have V : Scp (cxOf (L2.CX P w) P w K mg base N_asked "asked" (defScope s_asked) (fa 10) cdv A outer s H E) [0] [0] ["tuple"] := scp_def (by decide +kernel)
  have tk := tk_def (P := P) (w := w) (K := K) (mg := mg) (base := base) (N := N_asked) (qual := "asked") (scope := defScope s_asked) (f := fa 10) (cd := cdv) (A := A) (outer := outer) (s := s) (H := H) (E := E)
  have hp := ps_def (P := P) (w := w) (K := K) (mg := mg) (base := base) (N := N_asked) (qual := "asked") (scope := defScope s_asked) (f := fa 10) (cd := cdv) (A := A) (outer := outer) (s := s) (H := H) (E := E)
  have hu := hr.units
  have hu1 := hu_of hr
  exact (qs_one (qs_ret (q_frz (q_add rfl (q_sh (cT1 (T_tupleA rfl rfl) 0 V rfl T.z_tuple (q_sh (q_idx rfl hu1 (xS 0 V (by decide) rfl rfl) (q_sh q_int) (fun _ _ => rfl))))) (q_sh (q_idx rfl hu1 (xS 0 V (by decide) rfl rfl) (q_sh q_int) (fun _ _ => rfl)))))))
abbrev N_standing : List Str := ["rule", "state", "is_end", "tail", "pending", "k", "signs"]
theorem ok_standing (T : Txt K mg EC fa fd) : FnOk P w K mg base (L2.CX P w) 2 (fa 11) (fd 11) ["rule", "state", "is_end"] (spM K EC 3 f_standing) := by
  unfold f_standing b_standing
  refine fn_ok (k := 1) (N := N_standing) (own' := []) T.F11 (C8.fnScope_by (by decide +kernel)) rfl (by decide) (fun cdv A outer s H E Z hr => ?_)
  have V : Scp (cxOf (L2.CX P w) P w K mg base N_standing "standing" (defScope s_standing) (fa 11) cdv A outer s H E) [0, 1, 2, 3, 4, 5, 6] [0, 1, 2, 3, 4, 5, 6] ["lets_tail", "OUT", "enumerate", "asked", "len", "NOT_YET", "END", "IN"] := scp_def (by decide +kernel)
  have tk := tk_def (P := P) (w := w) (K := K) (mg := mg) (base := base) (N := N_standing) (qual := "standing") (scope := defScope s_standing) (f := fa 11) (cd := cdv) (A := A) (outer := outer) (s := s) (H := H) (E := E)
  have hp := ps_def (P := P) (w := w) (K := K) (mg := mg) (base := base) (N := N_standing) (qual := "standing") (scope := defScope s_standing) (f := fa 11) (cd := cdv) (A := A) (outer := outer) (s := s) (H := H) (E := E)
  have hu := hr.units
  have hu1 := hu_of hr
  exact (qs_cons (own1 := []) (sA (ts := [3, 4]) (xV 1 V (by decide) rfl (by decide) rfl) (qg_tup rfl rfl (qgs_cons (gV' 3 V (by decide) rfl rfl (by decide)) (qgs_cons (gV' 4 V (by decide) rfl rfl (by decide)) qgs_nil))))
    (qs_cons (own1 := []) (qs_if (qt_not (qt_val (q_sh (cDef 0 V (ok_lets_tail T) rfl hr (by first | decide | omega) rfl T.g9 T.k9 T.b9 tk (qa_cons (q_idx rfl hu1 (xS 0 V (by decide) rfl rfl) (q_sh q_int) (fun _ _ => rfl)) (qa_cons (xV 3 V (by decide) rfl (by decide) rfl) qa_nil)) (lnS (lnS ln0))))))
    (qs_one (qs_ret (xG 1 V rfl T.c_OUT)))
    qs_nil)
    (qs_cons (own1 := []) (qs_for (own' := []) (own1 := []) (ts := [5, 6]) hp rfl (iEnu 2 V rfl rfl T.z_enumerate (cDef 3 V (ok_asked T) rfl hr (by first | decide | omega) rfl T.g10 T.k10 T.b10 tk (qa_cons (xV 0 V (by decide) rfl (by decide) rfl) qa_nil) (lnS ln0))) (by decide) (qg_tup rfl rfl (qgs_cons (gV' 5 V (by decide) rfl rfl (by decide)) (qgs_cons (gV' 6 V (by decide) rfl rfl (by decide)) qgs_nil)))
    (qs_one (qs_if (qt_cmpO ck_lt (xS 5 V (by decide) rfl rfl) (q_sh (cB1 (B_len rfl) 4 V rfl T.z_len (xS 4 V (by decide) rfl rfl))) rfl)
    (qs_one (qs_if (qt_cmpO (ck_notIn rfl hu) (q_sh (q_idx rfl hu1 (xS 4 V (by decide) rfl rfl) (xS 5 V (by decide) rfl rfl) (fun _ _ => rfl))) (xS 6 V (by decide) rfl rfl) rfl)
    (qs_one (qs_ret (xG 1 V rfl T.c_OUT)))
    qs_nil))
    (qs_one (qs_if (qt_not (qt_val (xS 2 V (by decide) rfl rfl)))
    (qs_one (qs_ret (xG 5 V rfl T.c_NOT_YET)))
    (qs_one (qs_if (qt_cmpO (ck_notIn rfl hu) (q_sh (xG 6 V rfl T.c_END)) (xS 6 V (by decide) rfl rfl) rfl)
    (qs_one (qs_ret (xG 1 V rfl T.c_OUT)))
    qs_nil)))))) (hK := rfl))
    (qs_one (qs_ret (xG 7 V rfl T.c_IN))))))
abbrev N_settled_choice : List Str := ["rules", "state", "is_end", "number", "rule", "found"]
theorem ok_settled_choice (T : Txt K mg EC fa fd) : FnOk P w K mg base (L2.CX P w) 3 (fa 12) (fd 12) ["rules", "state", "is_end"] (spM K EC 3 f_settled_choice) := by
  unfold f_settled_choice b_settled_choice
  refine fn_ok (k := 2) (N := N_settled_choice) (own' := []) T.F12 (C8.fnScope_by (by decide +kernel)) rfl (by decide) (fun cdv A outer s H E Z hr => ?_)
  have V : Scp (cxOf (L2.CX P w) P w K mg base N_settled_choice "settled_choice" (defScope s_settled_choice) (fa 12) cdv A outer s H E) [0, 1, 2, 3, 4, 5] [0, 1, 2, 3, 4, 5] ["enumerate", "standing", "IN", "NOT_YET"] := scp_def (by decide +kernel)
  have tk := tk_def (P := P) (w := w) (K := K) (mg := mg) (base := base) (N := N_settled_choice) (qual := "settled_choice") (scope := defScope s_settled_choice) (f := fa 12) (cd := cdv) (A := A) (outer := outer) (s := s) (H := H) (E := E)
  have hp := ps_def (P := P) (w := w) (K := K) (mg := mg) (base := base) (N := N_settled_choice) (qual := "settled_choice") (scope := defScope s_settled_choice) (f := fa 12) (cd := cdv) (A := A) (outer := outer) (s := s) (H := H) (E := E)
  have hu := hr.units
  have hu1 := hu_of hr
  exact (qs_cons (own1 := []) (qs_for (own' := []) (own1 := []) (ts := [3, 4]) hp rfl (iEnu 0 V rfl rfl T.z_enumerate (xV 0 V (by decide) rfl (by decide) rfl)) (by decide) (qg_tup rfl rfl (qgs_cons (gV' 3 V (by decide) rfl rfl (by decide)) (qgs_cons (gV' 4 V (by decide) rfl rfl (by decide)) qgs_nil)))
    (qs_cons (own1 := []) (sA (ts := [5]) (cDef 1 V (ok_standing T) rfl hr (by first | decide | omega) rfl T.g11 T.k11 T.b11 tk (qa_cons (xV 4 V (by decide) rfl (by decide) rfl) (qa_cons (xV 1 V (by decide) rfl (by decide) rfl) (qa_cons (xV 2 V (by decide) rfl (by decide) rfl) qa_nil))) (lnS (lnS (lnS ln0)))) (gV' 5 V (by decide) rfl rfl (by decide)))
    (qs_cons (own1 := []) (qs_if (qt_cmpO (ck_eq rfl hu) (xS 5 V (by decide) rfl rfl) (q_sh (xG 2 V rfl T.c_IN)) rfl)
    (qs_one (qs_ret (xV 3 V (by decide) rfl (by decide) rfl)))
    qs_nil)
    (qs_one (qs_if (qt_cmpO (ck_eq rfl hu) (xS 5 V (by decide) rfl rfl) (q_sh (xG 3 V rfl T.c_NOT_YET)) rfl)
    (qs_one (qs_ret q_non))
    qs_nil)))) (hK := rfl))
    (qs_one (qs_ret (q_frz (q_neg (q_sh q_int))))))
abbrev N_passed : List Str := ["state", "count", "tail", "pending", "gone"]
theorem ok_passed (T : Txt K mg EC fa fd) : FnOk P w K mg base (L2.CX P w) 1 (fa 13) (fd 13) ["state", "count"] (spM K EC 2 f_passed) := by
  unfold f_passed b_passed
  refine fn_ok (k := 0) (N := N_passed) (own' := []) T.F13 (C8.fnScope_by (by decide +kernel)) rfl (by decide) (fun cdv A outer s H E Z hr => ?_)
  have V : Scp (cxOf (L2.CX P w) P w K mg base N_passed "passed" (defScope s_passed) (fa 13) cdv A outer s H E) [0, 1, 2, 3, 4] [0, 1, 2, 3, 4] ["len"] := scp_def (by decide +kernel)
  have tk := tk_def (P := P) (w := w) (K := K) (mg := mg) (base := base) (N := N_passed) (qual := "passed") (scope := defScope s_passed) (f := fa 13) (cd := cdv) (A := A) (outer := outer) (s := s) (H := H) (E := E)
  have hp := ps_def (P := P) (w := w) (K := K) (mg := mg) (base := base) (N := N_passed) (qual := "passed") (scope := defScope s_passed) (f := fa 13) (cd := cdv) (A := A) (outer := outer) (s := s) (H := H) (E := E)
  have hu := hr.units
  have hu1 := hu_of hr
  exact (qs_cons (own1 := []) (sA (ts := [2, 3]) (xV 0 V (by decide) rfl (by decide) rfl) (qg_tup rfl rfl (qgs_cons (gV' 2 V (by decide) rfl rfl (by decide)) (qgs_cons (gV' 3 V (by decide) rfl rfl (by decide)) qgs_nil))))
    (qs_cons (own1 := []) (sA (ts := [4]) (q_frz (q_add rfl (xS 2 V (by decide) rfl rfl) (q_sh (q_sli rfl (xS 3 V (by decide) rfl rfl) qp_none (qp_some (xS 1 V (by decide) rfl rfl)))))) (gV' 4 V (by decide) rfl rfl (by decide)))
    (qs_one (qs_ret (q_tup (qa_cons (q_frz (q_sli rfl (xS 4 V (by decide) rfl rfl) (qp_some (q_sh (q_sub (q_sh (cB1 (B_len rfl) 0 V rfl T.z_len (xS 4 V (by decide) rfl rfl))) (q_sh (cB1 (B_len rfl) 0 V rfl T.z_len (xS 2 V (by decide) rfl rfl)))))) qp_none)) (qa_cons (q_frz (q_sli rfl (xS 3 V (by decide) rfl rfl) (qp_some (xS 1 V (by decide) rfl rfl)) qp_none)) qa_nil)))))))
abbrev N_taken : List Str := ["rules", "state", "is_end", "out", "numbers", "number"]
theorem ok_taken (T : Txt K mg EC fa fd) : FnOk P w K mg base (L2.CX P w) 4 (fa 14) (fd 14) ["rules", "state", "is_end"] (spM K EC 3 f_taken) := by
  unfold f_taken b_taken
  refine fn_ok (k := 3) (N := N_taken) (own' := []) T.F14 (C8.fnScope_by (by decide +kernel)) rfl (by decide) (fun cdv A outer s H E Z hr => ?_)
  have V : Scp (cxOf (L2.CX P w) P w K mg base N_taken "taken" (defScope s_taken) (fa 14) cdv A outer s H E) [0, 1, 2, 3, 4, 5] [0, 1, 2, 3, 4, 5] ["settled_choice", "passed", "len"] := scp_def (by decide +kernel)
  have tk := tk_def (P := P) (w := w) (K := K) (mg := mg) (base := base) (N := N_taken) (qual := "taken") (scope := defScope s_taken) (f := fa 14) (cd := cdv) (A := A) (outer := outer) (s := s) (H := H) (E := E)
  have hp := ps_def (P := P) (w := w) (K := K) (mg := mg) (base := base) (N := N_taken) (qual := "taken") (scope := defScope s_taken) (f := fa 14) (cd := cdv) (A := A) (outer := outer) (s := s) (H := H) (E := E)
  have hu := hr.units
  have hu1 := hu_of hr
  exact (qs_cons (own1 := []) (sA (ts := [3]) (q_str (by decide +kernel)) (gV' 3 V (by decide) rfl rfl (by decide)))
    (qs_cons (own1 := [4]) (sN 4 V (by decide) rfl (q_lst qa_nil) (ho := rfl))
    (qs_cons (own1 := [4]) (qs_whl (own' := [4]) hp (by decide) (qt_cmpO (ck_ne rfl hu) (q_sh (q_idx rfl hu1 (xS 1 V (by decide) rfl rfl) (q_sh q_int) (fun _ _ => rfl))) (q_sh (q_str (by decide +kernel))) rfl)
    (qs_cons (own1 := [4]) (sA (ts := [5]) (cDef 0 V (ok_settled_choice T) rfl hr (by first | decide | omega) rfl T.g12 T.k12 T.b12 tk (qa_cons (xV 0 V (by decide) rfl (by decide) rfl) (qa_cons (xV 1 V (by decide) rfl (by decide) rfl) (qa_cons (xV 2 V (by decide) rfl (by decide) rfl) qa_nil))) (lnS (lnS (lnS ln0)))) (gV' 5 V (by decide) rfl rfl (by decide)))
    (qs_cons (own1 := [4]) (qs_if (qt_isN (xS 5 V (by decide) rfl rfl))
    (qs_one (qs_brk (by decide)))
    qs_nil)
    (qs_cons (own1 := [4]) (sApd 4 V (by decide) rfl rfl (by decide) (xV 5 V (by decide) rfl (by decide) rfl))
    (qs_one (qs_if (qt_cmpO ck_lt (xS 5 V (by decide) rfl rfl) (q_sh q_int) rfl)
    (qs_cons (own1 := [4]) (sAddE 3 V (by decide) rfl (by decide) rfl (q_sh (q_idx rfl hu1 (q_sh (q_idx rfl hu1 (xS 1 V (by decide) rfl rfl) (q_sh q_int) (fun _ _ => rfl))) (q_sh q_int) (fun _ _ => rfl))))
    (qs_one (sA (ts := [1]) (cDef 1 V (ok_passed T) rfl hr (by first | decide | omega) rfl T.g13 T.k13 T.b13 tk (qa_cons (xV 1 V (by decide) rfl (by decide) rfl) (qa_cons q_int qa_nil)) (lnS (lnS ln0))) (gV' 1 V (by decide) rfl rfl (by decide)))))
    (qs_cons (own1 := [4]) (sAddE 3 V (by decide) rfl (by decide) rfl (q_sh (q_idx rfl hu1 (q_sh (q_idx rfl hu1 (xS 0 V (by decide) rfl rfl) (xS 5 V (by decide) rfl rfl) (fun _ _ => rfl))) (q_sh q_int) (fun _ _ => rfl))))
    (qs_one (sA (ts := [1]) (cDef 1 V (ok_passed T) rfl hr (by first | decide | omega) rfl T.g13 T.k13 T.b13 tk (qa_cons (xV 1 V (by decide) rfl (by decide) rfl) (qa_cons (q_frz (cB1 (B_len rfl) 2 V rfl T.z_len (q_sh (q_idx rfl hu1 (q_sh (q_idx rfl hu1 (xS 0 V (by decide) rfl rfl) (xS 5 V (by decide) rfl rfl) (fun _ _ => rfl))) (q_sh q_int) (fun _ _ => rfl))))) qa_nil)) (lnS (lnS ln0))) (gV' 1 V (by decide) rfl rfl (by decide)))))))))))
    (qs_one (qs_pre1 (own := []) (qs_ret (q_tup (qa_cons (xV 1 V (by decide) rfl (by decide) rfl) (qa_cons (xV 3 V (by decide) rfl (by decide) rfl) (qa_cons (xV 4 V (by decide) rfl (by decide) rfl) qa_nil))))) (by decide))))))
abbrev N_read_sign : List Str := ["rules", "state", "sign"]
theorem ok_read_sign (T : Txt K mg EC fa fd) : FnOk P w K mg base (L2.CX P w) 5 (fa 15) (fd 15) ["rules", "state", "sign"] (spM K EC 3 f_read_sign) := by
  unfold f_read_sign b_read_sign
  refine fn_ok (k := 4) (N := N_read_sign) (own' := []) T.F15 (C8.fnScope_by (by decide +kernel)) rfl (by decide) (fun cdv A outer s H E Z hr => ?_)
  have V : Scp (cxOf (L2.CX P w) P w K mg base N_read_sign "read_sign" (defScope s_read_sign) (fa 15) cdv A outer s H E) [0, 1, 2] [0, 1, 2] ["taken"] := scp_def (by decide +kernel)
  have tk := tk_def (P := P) (w := w) (K := K) (mg := mg) (base := base) (N := N_read_sign) (qual := "read_sign") (scope := defScope s_read_sign) (f := fa 15) (cd := cdv) (A := A) (outer := outer) (s := s) (H := H) (E := E)
  have hp := ps_def (P := P) (w := w) (K := K) (mg := mg) (base := base) (N := N_read_sign) (qual := "read_sign") (scope := defScope s_read_sign) (f := fa 15) (cd := cdv) (A := A) (outer := outer) (s := s) (H := H) (E := E)
  have hu := hr.units
  have hu1 := hu_of hr
  exact (qs_one (qs_ret (cDef 0 V (ok_taken T) rfl hr (by first | decide | omega) rfl T.g14 T.k14 T.b14 tk (qa_cons (xV 0 V (by decide) rfl (by decide) rfl) (qa_cons (q_tup (qa_cons (q_idx rfl hu1 (xS 1 V (by decide) rfl rfl) (q_sh q_int) (fun _ _ => rfl)) (qa_cons (q_frz (q_add rfl (q_sh (q_idx rfl hu1 (xS 1 V (by decide) rfl rfl) (q_sh q_int) (fun _ _ => rfl))) (xS 2 V (by decide) rfl rfl))) qa_nil))) (qa_cons q_bl qa_nil))) (lnS (lnS (lnS ln0))))))
abbrev N_watch : List Str := ["rules", "state", "sign", "later", "out", "_"]
theorem ok_watch (T : Txt K mg EC fa fd) : FnOk P w K mg base (L2.CX P w) 6 (fa 16) (fd 16) ["rules", "state", "sign"] (spM K EC 3 f_watch) := by
  unfold f_watch b_watch
  refine fn_ok (k := 5) (N := N_watch) (own' := []) T.F16 (C8.fnScope_by (by decide +kernel)) rfl (by decide) (fun cdv A outer s H E Z hr => ?_)
  have V : Scp (cxOf (L2.CX P w) P w K mg base N_watch "watch" (defScope s_watch) (fa 16) cdv A outer s H E) [0, 1, 2, 3, 4, 5] [0, 1, 2, 3, 4, 5] ["read_sign"] := scp_def (by decide +kernel)
  have tk := tk_def (P := P) (w := w) (K := K) (mg := mg) (base := base) (N := N_watch) (qual := "watch") (scope := defScope s_watch) (f := fa 16) (cd := cdv) (A := A) (outer := outer) (s := s) (H := H) (E := E)
  have hp := ps_def (P := P) (w := w) (K := K) (mg := mg) (base := base) (N := N_watch) (qual := "watch") (scope := defScope s_watch) (f := fa 16) (cd := cdv) (A := A) (outer := outer) (s := s) (H := H) (E := E)
  have hu := hr.units
  have hu1 := hu_of hr
  exact (qs_cons (own1 := []) (sA (ts := [3, 4, 5]) (cDef 0 V (ok_read_sign T) rfl hr (by first | decide | omega) rfl T.g15 T.k15 T.b15 tk (qa_cons (xV 0 V (by decide) rfl (by decide) rfl) (qa_cons (xV 1 V (by decide) rfl (by decide) rfl) (qa_cons (xV 2 V (by decide) rfl (by decide) rfl) qa_nil))) (lnS (lnS (lnS ln0)))) (qg_tup rfl rfl (qgs_cons (gV' 3 V (by decide) rfl rfl (by decide)) (qgs_cons (gV' 4 V (by decide) rfl rfl (by decide)) (qgs_cons (gV' 5 V (by decide) rfl rfl (by decide)) qgs_nil)))))
    (qs_one (qs_ret (q_tup (qa_cons (xV 3 V (by decide) rfl (by decide) rfl) (qa_cons (xV 4 V (by decide) rfl (by decide) rfl) qa_nil))))))
abbrev N_leave : List Str := ["rules", "state"]
theorem ok_leave (T : Txt K mg EC fa fd) : FnOk P w K mg base (L2.CX P w) 5 (fa 17) (fd 17) ["rules", "state"] (spM K EC 2 f_leave) := by
  unfold f_leave b_leave
  refine fn_ok (k := 4) (N := N_leave) (own' := []) T.F17 (C8.fnScope_by (by decide +kernel)) rfl (by decide) (fun cdv A outer s H E Z hr => ?_)
  have V : Scp (cxOf (L2.CX P w) P w K mg base N_leave "leave" (defScope s_leave) (fa 17) cdv A outer s H E) [0, 1] [0, 1] ["taken"] := scp_def (by decide +kernel)
  have tk := tk_def (P := P) (w := w) (K := K) (mg := mg) (base := base) (N := N_leave) (qual := "leave") (scope := defScope s_leave) (f := fa 17) (cd := cdv) (A := A) (outer := outer) (s := s) (H := H) (E := E)
  have hp := ps_def (P := P) (w := w) (K := K) (mg := mg) (base := base) (N := N_leave) (qual := "leave") (scope := defScope s_leave) (f := fa 17) (cd := cdv) (A := A) (outer := outer) (s := s) (H := H) (E := E)
  have hu := hr.units
  have hu1 := hu_of hr
  exact (qs_one (qs_ret (q_idx rfl hu1 (q_sh (cDef 0 V (ok_taken T) rfl hr (by first | decide | omega) rfl T.g14 T.k14 T.b14 tk (qa_cons (xV 0 V (by decide) rfl (by decide) rfl) (qa_cons (xV 1 V (by decide) rfl (by decide) rfl) (qa_cons q_bl qa_nil))) (lnS (lnS (lnS ln0))))) (q_sh q_int) (fun _ _ => rfl))))
abbrev N_is_state : List Str := ["rules", "signs", "pair", "tail", "pending", "sign"]
theorem ok_is_state (T : Txt K mg EC fa fd) : FnOk P w K mg base (L2.CX P w) 2 (fa 18) (fd 18) ["rules", "signs", "pair"] (spM K EC 3 f_is_state) := by
  unfold f_is_state b_is_state
  refine fn_ok (k := 1) (N := N_is_state) (own' := []) T.F18 (C8.fnScope_by (by decide +kernel)) rfl (by decide) (fun cdv A outer s H E Z hr => ?_)
  have V : Scp (cxOf (L2.CX P w) P w K mg base N_is_state "is_state" (defScope s_is_state) (fa 18) cdv A outer s H E) [0, 1, 2, 3, 4] [0, 1, 2, 3, 4] ["len", "tail_size", "reach", "all"] := scp_def (by decide +kernel)
  have tk := tk_def (P := P) (w := w) (K := K) (mg := mg) (base := base) (N := N_is_state) (qual := "is_state") (scope := defScope s_is_state) (f := fa 18) (cd := cdv) (A := A) (outer := outer) (s := s) (H := H) (E := E)
  have hp := ps_def (P := P) (w := w) (K := K) (mg := mg) (base := base) (N := N_is_state) (qual := "is_state") (scope := defScope s_is_state) (f := fa 18) (cd := cdv) (A := A) (outer := outer) (s := s) (H := H) (E := E)
  have hu := hr.units
  have hu1 := hu_of hr
  exact (qs_cons (own1 := []) (sA (ts := [3, 4]) (xV 2 V (by decide) rfl (by decide) rfl) (qg_tup rfl rfl (qgs_cons (gV' 3 V (by decide) rfl rfl (by decide)) (qgs_cons (gV' 4 V (by decide) rfl rfl (by decide)) qgs_nil))))
    (qs_cons (own1 := []) (qs_if (qw_or (qt_cmpO (ck_ne rfl hu) (q_sh (cB1 (B_len rfl) 0 V rfl T.z_len (xS 3 V (by decide) rfl rfl))) (q_sh (cDef 1 V (ok_tail_size T) rfl hr (by first | decide | omega) rfl T.g7 T.k7 T.b7 tk (qa_cons (xV 0 V (by decide) rfl (by decide) rfl) qa_nil) (lnS ln0))) rfl) (qw_or1 (qt_cmpO ck_ge (q_sh (cB1 (B_len rfl) 0 V rfl T.z_len (xS 4 V (by decide) rfl rfl))) (q_sh (cDef 2 V (ok_reach T) rfl hr (by first | decide | omega) rfl T.g6 T.k6 T.b6 tk (qa_cons (xV 0 V (by decide) rfl (by decide) rfl) qa_nil) (lnS ln0))) rfl))).pt
    (qs_one (qs_ret q_bl))
    qs_nil)
    (qs_one (qs_ret (q_and (q_sh (cB1 (B_all rfl rfl) 3 V rfl T.z_all (q_sh (xLc V rfl (qi_of rfl (xV 3 V (by decide) rfl (by decide) rfl)) (ob := [("sign", 5)]) (okD (N := N_is_state) (by decide +kernel)) rfl rfl (N := N_is_state) (vis1 := [1, 5]) (loc1 := [5]) (gls1 := ["END"]) (by decide +kernel) rfl (fun _ _ _ _ _ V1 => (gV' 5 V1 (by decide) rfl rfl (by decide))) (fun _ _ _ _ _ V1 => qts_nil) (fun _ _ _ _ _ V1 => (q_frz (q_cmpO (ck_in rfl hu) (xS 5 V1 (by decide) rfl rfl) (q_sh (q_add rfl (xS 1 V1 (by decide) rfl rfl) (q_sh (xG 0 V1 rfl T.c_END)))) rfl))))))) (q_one (q_frz (cB1 (B_all rfl rfl) 3 V rfl T.z_all (q_sh (xLc V rfl (qi_of rfl (xV 4 V (by decide) rfl (by decide) rfl)) (ob := [("sign", 5)]) (okD (N := N_is_state) (by decide +kernel)) rfl rfl (N := N_is_state) (vis1 := [1, 5]) (loc1 := [5]) (gls1 := []) (by decide +kernel) rfl (fun _ _ _ _ _ V1 => (gV' 5 V1 (by decide) rfl rfl (by decide))) (fun _ _ _ _ _ V1 => qts_nil) (fun _ _ _ _ _ V1 => (q_frz (q_cmpO (ck_in rfl hu) (xS 5 V1 (by decide) rfl rfl) (xS 1 V1 (by decide) rfl rfl) rfl)))))))))))))
abbrev N__law_cell : List Str := ["script", "k"]
theorem ok__law_cell (T : Txt K mg EC fa fd) : FnOk P w K mg base (L2.CX P w) 1 (fa 19) (fd 19) ["script", "k"] (spM K EC 2 f__law_cell) := by
  unfold f__law_cell b__law_cell
  refine fn_ok (k := 0) (N := N__law_cell) (own' := []) T.F19 (C8.fnScope_by (by decide +kernel)) rfl (by decide) (fun cdv A outer s H E Z hr => ?_)
  have V : Scp (cxOf (L2.CX P w) P w K mg base N__law_cell "_law_cell" (defScope s__law_cell) (fa 19) cdv A outer s H E) [0, 1] [0, 1] ["len", "int"] := scp_def (by decide +kernel)
  have tk := tk_def (P := P) (w := w) (K := K) (mg := mg) (base := base) (N := N__law_cell) (qual := "_law_cell") (scope := defScope s__law_cell) (f := fa 19) (cd := cdv) (A := A) (outer := outer) (s := s) (H := H) (E := E)
  have hp := ps_def (P := P) (w := w) (K := K) (mg := mg) (base := base) (N := N__law_cell) (qual := "_law_cell") (scope := defScope s__law_cell) (f := fa 19) (cd := cdv) (A := A) (outer := outer) (s := s) (H := H) (E := E)
  have hu := hr.units
  have hu1 := hu_of hr
  exact (qs_cons (own1 := []) (qs_if (qt_cmpO ck_lt (xS 1 V (by decide) rfl rfl) (q_sh (cB1 (B_len rfl) 0 V rfl T.z_len (xS 0 V (by decide) rfl rfl))) rfl)
    (qs_one (qs_ret (q_frz (cT1 (T_int) 1 V rfl T.z_int (q_sh (q_idx rfl hu1 (xS 0 V (by decide) rfl rfl) (xS 1 V (by decide) rfl rfl) (fun _ _ => rfl)))))))
    qs_nil)
    (qs_one (qs_ret q_int)))
abbrev N__law_numbers : List Str := ["cell", "count", "limit", "found", "rest", "k", "mixed"]
theorem ok__law_numbers (T : Txt K mg EC fa fd) : FnOk P w K mg base (L2.CX P w) 1 (fa 20) (fd 20) ["cell", "count", "limit"] (spM K EC 3 f__law_numbers) := by
  unfold f__law_numbers b__law_numbers
  refine fn_ok (k := 0) (N := N__law_numbers) (own' := []) T.F20 (C8.fnScope_by (by decide +kernel)) rfl (by decide) (fun cdv A outer s H E Z hr => ?_)
  have V : Scp (cxOf (L2.CX P w) P w K mg base N__law_numbers "_law_numbers" (defScope s__law_numbers) (fa 20) cdv A outer s H E) [0, 1, 2, 3, 4, 5, 6] [0, 1, 2, 3, 4, 5, 6] ["range", "int"] := scp_def (by decide +kernel)
  have tk := tk_def (P := P) (w := w) (K := K) (mg := mg) (base := base) (N := N__law_numbers) (qual := "_law_numbers") (scope := defScope s__law_numbers) (f := fa 20) (cd := cdv) (A := A) (outer := outer) (s := s) (H := H) (E := E)
  have hp := ps_def (P := P) (w := w) (K := K) (mg := mg) (base := base) (N := N__law_numbers) (qual := "_law_numbers") (scope := defScope s__law_numbers) (f := fa 20) (cd := cdv) (A := A) (outer := outer) (s := s) (H := H) (E := E)
  have hu := hr.units
  have hu1 := hu_of hr
  exact (qs_cons (own1 := [3]) (sN 3 V (by decide) rfl (q_lst qa_nil) (ho := rfl))
    (qs_cons (own1 := [3]) (sA (ts := [4]) (xV 0 V (by decide) rfl (by decide) rfl) (gV' 4 V (by decide) rfl rfl (by decide)))
    (qs_cons (own1 := [3]) (qs_for (own' := [3]) (own1 := [3]) (ts := [5]) hp rfl (iRa1 0 V rfl T.z_range (xS 1 V (by decide) rfl rfl)) (by decide) (gV' 5 V (by decide) rfl rfl (by decide))
    (qs_one (qs_if (qw_and (qt_cmpO ck_ge (xS 0 V (by decide) rfl rfl) (q_sh (q_pow (q_sh q_int) (q_sh q_int))) rfl) (qw_and1 (qt_cmpO ck_gt (xS 4 V (by decide) rfl rfl) (q_sh q_int) rfl))).pt
    (qs_cons (own1 := [3]) (sApd 3 V (by decide) rfl rfl (by decide) (q_frz (q_mod (q_sh (cT1 (T_int) 1 V rfl T.z_int (xS 4 V (by decide) rfl rfl))) (xS 2 V (by decide) rfl rfl))))
    (qs_one (sA (ts := [4]) (q_frz (q_fdiv (q_sh (cT1 (T_int) 1 V rfl T.z_int (xS 4 V (by decide) rfl rfl))) (xS 2 V (by decide) rfl rfl))) (gV' 4 V (by decide) rfl rfl (by decide)))))
    (qs_cons (own1 := [3]) (sA (ts := [6]) (q_frz (q_mod (q_sh (cT1 (T_int) 1 V rfl T.z_int (q_sh (q_add rfl (q_sh (q_add rfl (q_sh (q_mulA rfl (xS 0 V (by decide) rfl rfl) (q_sh q_int))) (q_sh (q_mulA rfl (xS 5 V (by decide) rfl rfl) (q_sh q_int))))) (q_sh q_int))))) (q_sh q_int))) (gV' 6 V (by decide) rfl rfl (by decide)))
    (qs_cons (own1 := [3]) (sA (ts := [6]) (q_frz (q_mod (q_sh (cT1 (T_int) 1 V rfl T.z_int (q_sh (q_add rfl (q_sh (q_add rfl (q_sh (q_add rfl (q_sh (q_mulA rfl (xS 6 V (by decide) rfl rfl) (xS 6 V (by decide) rfl rfl))) (q_sh (q_mulA rfl (xS 6 V (by decide) rfl rfl) (q_sh q_int))))) (q_sh (q_mulA rfl (xS 5 V (by decide) rfl rfl) (q_sh q_int))))) (q_sh q_int))))) (q_sh q_int))) (gV' 6 V (by decide) rfl rfl (by decide)))
    (qs_one (sApd 3 V (by decide) rfl rfl (by decide) (q_frz (q_mod (q_sh (cT1 (T_int) 1 V rfl T.z_int (q_sh (q_fdiv (xS 6 V (by decide) rfl rfl) (q_sh q_int))))) (xS 2 V (by decide) rfl rfl))))))))) (hK := rfl))
    (qs_one (qs_pre1 (own := []) (qs_ret (xV 3 V (by decide) rfl (by decide) rfl)) (by decide))))))
abbrev N__law_same : List Str := ["answer", "due", "k"]
theorem ok__law_same (T : Txt K mg EC fa fd) : ∀ n : Nat, FnOk P w K mg base (L2.CX P w) (n + 1) (fa 21) (fd 21) ["answer", "due"] (spM K EC 2 (f__law_same n))
  | 0 => ⟨fun vs H Q E h => h.1, fun A outer s H args us vs Q E hr he hb hv h => by obtain ⟨_, _, _, _, _, h⟩ := h; exact h.elim⟩
  | n + 1 => by
    have IH := ok__law_same T n
    have lvIH := Nat.le_refl (n + 1)
    show FnOk P w K mg base (L2.CX P w) ((n + 1) + 1) (fa 21) (fd 21) ["answer", "due"] (spM K EC 2 (run 3 (b__law_same (f__law_same n))))
    generalize f__law_same n = IHm at IH ⊢
    unfold b__law_same
    refine fn_ok (k := n + 1) (N := N__law_same) (own' := []) T.F21 (C8.fnScope_by (by decide +kernel)) rfl (by decide) (fun cdv A outer s H E Z hr => ?_)
    have V : Scp (cxOf (L2.CX P w) P w K mg base N__law_same "_law_same" (defScope s__law_same) (fa 21) cdv A outer s H E) [0, 1, 2] [0, 1, 2] ["isinstance", "list", "len", "tuple", "bool", "int", "str", "range", "_law_same"] := scp_def (by decide +kernel)
    have tk := tk_def (P := P) (w := w) (K := K) (mg := mg) (base := base) (N := N__law_same) (qual := "_law_same") (scope := defScope s__law_same) (f := fa 21) (cd := cdv) (A := A) (outer := outer) (s := s) (H := H) (E := E)
    have hp := ps_def (P := P) (w := w) (K := K) (mg := mg) (base := base) (N := N__law_same) (qual := "_law_same") (scope := defScope s__law_same) (f := fa 21) (cd := cdv) (A := A) (outer := outer) (s := s) (H := H) (E := E)
    have hu := hr.units
    have hu1 := hu_of hr
    exact (qs_cons (own1 := []) (qs_if (qt_val (q_sh (cIsi (T := .list) 0 1 V rfl rfl T.z_isinstance rfl rfl T.z_list (xS 1 V (by decide) rfl rfl))))
    (qs_one (qs_if (qw_or (qt_not (qt_val (q_sh (cIsi (T := .list) 0 1 V rfl rfl T.z_isinstance rfl rfl T.z_list (xS 0 V (by decide) rfl rfl))))) (qw_or1 (qt_cmpO (ck_ne rfl hu) (q_sh (cB1 (B_len rfl) 2 V rfl T.z_len (xS 0 V (by decide) rfl rfl))) (q_sh (cB1 (B_len rfl) 2 V rfl T.z_len (xS 1 V (by decide) rfl rfl))) rfl))).pt
    (qs_one (qs_ret q_bl))
    qs_nil))
    (qs_one (qs_if (qt_val (q_sh (cIsi (T := .tuple) 0 3 V rfl rfl T.z_isinstance rfl rfl T.z_tuple (xS 1 V (by decide) rfl rfl))))
    (qs_one (qs_if (qw_or (qt_not (qt_val (q_sh (cIsi (T := .tuple) 0 3 V rfl rfl T.z_isinstance rfl rfl T.z_tuple (xS 0 V (by decide) rfl rfl))))) (qw_or1 (qt_cmpO (ck_ne rfl hu) (q_sh (cB1 (B_len rfl) 2 V rfl T.z_len (xS 0 V (by decide) rfl rfl))) (q_sh (cB1 (B_len rfl) 2 V rfl T.z_len (xS 1 V (by decide) rfl rfl))) rfl))).pt
    (qs_one (qs_ret q_bl))
    qs_nil))
    (qs_one (qs_if (qt_isN (xS 1 V (by decide) rfl rfl))
    (qs_one (qs_ret (q_frz (q_isN (xS 0 V (by decide) rfl rfl)))))
    (qs_one (qs_if (qt_val (q_sh (cIsi (T := .bool) 0 4 V rfl rfl T.z_isinstance rfl rfl T.z_bool (xS 1 V (by decide) rfl rfl))))
    (qs_one (qs_ret (q_and (q_sh (cIsi (T := .bool) 0 4 V rfl rfl T.z_isinstance rfl rfl T.z_bool (xS 0 V (by decide) rfl rfl))) (q_one (q_frz (q_cmpO (ck_eq rfl hu) (xS 0 V (by decide) rfl rfl) (xS 1 V (by decide) rfl rfl) rfl))))))
    (qs_one (qs_if (qt_val (q_sh (cIsi (T := .int) 0 5 V rfl rfl T.z_isinstance rfl rfl T.z_int (xS 1 V (by decide) rfl rfl))))
    (qs_one (qs_ret (q_and (q_sh (cIsi (T := .int) 0 5 V rfl rfl T.z_isinstance rfl rfl T.z_int (xS 0 V (by decide) rfl rfl))) (q_and (q_sh (q_not (q_sh (cIsi (T := .bool) 0 4 V rfl rfl T.z_isinstance rfl rfl T.z_bool (xS 0 V (by decide) rfl rfl))))) (q_one (q_frz (q_cmpO (ck_eq rfl hu) (xS 0 V (by decide) rfl rfl) (xS 1 V (by decide) rfl rfl) rfl)))))))
    (qs_one (qs_ret (q_and (q_sh (cIsi (T := .str) 0 6 V rfl rfl T.z_isinstance rfl rfl T.z_str (xS 0 V (by decide) rfl rfl))) (q_one (q_frz (q_cmpO (ck_eq rfl hu) (xS 0 V (by decide) rfl rfl) (xS 1 V (by decide) rfl rfl) rfl)))))))))))))))
    (qs_cons (own1 := []) (qs_for (own' := []) (own1 := []) (ts := [2]) hp rfl (iRa1 7 V rfl T.z_range (q_sh (cB1 (B_len rfl) 2 V rfl T.z_len (xS 1 V (by decide) rfl rfl)))) (by decide) (gV' 2 V (by decide) rfl rfl (by decide))
    (qs_one (qs_if (qt_not (qt_val (q_sh (cDef 8 V IH rfl hr (by first | decide | omega) rfl T.g21 T.k21 T.b21 tk (qa_cons (q_idx rfl hu1 (xS 0 V (by decide) rfl rfl) (xS 2 V (by decide) rfl rfl) (fun _ _ => rfl)) (qa_cons (q_idx rfl hu1 (xS 1 V (by decide) rfl rfl) (xS 2 V (by decide) rfl rfl) (fun _ _ => rfl)) qa_nil)) (lnS (lnS ln0))))))
    (qs_one (qs_ret q_bl))
    qs_nil)) (hK := rfl))
    (qs_one (qs_ret q_bl))))
abbrev N__law_signs : List Str := ["draw", "count", "pool", "k"]
theorem ok__law_signs (T : Txt K mg EC fa fd) : FnOk P w K mg base (L2.CX P w) 1 (fa 22) (fd 22) ["draw", "count"] (spM K EC 2 f__law_signs) := by
  unfold f__law_signs b__law_signs
  refine fn_ok (k := 0) (N := N__law_signs) (own' := []) T.F22 (C8.fnScope_by (by decide +kernel)) rfl (by decide) (fun cdv A outer s H E Z hr => ?_)
  have V : Scp (cxOf (L2.CX P w) P w K mg base N__law_signs "_law_signs" (defScope s__law_signs) (fa 22) cdv A outer s H E) [0, 1, 2] [0, 1, 2] ["range"] := scp_def (by decide +kernel)
  have tk := tk_def (P := P) (w := w) (K := K) (mg := mg) (base := base) (N := N__law_signs) (qual := "_law_signs") (scope := defScope s__law_signs) (f := fa 22) (cd := cdv) (A := A) (outer := outer) (s := s) (H := H) (E := E)
  have hp := ps_def (P := P) (w := w) (K := K) (mg := mg) (base := base) (N := N__law_signs) (qual := "_law_signs") (scope := defScope s__law_signs) (f := fa 22) (cd := cdv) (A := A) (outer := outer) (s := s) (H := H) (E := E)
  have hu := hr.units
  have hu1 := hu_of hr
  exact (qs_cons (own1 := []) (sA (ts := [2]) (q_str (by decide +kernel)) (gV' 2 V (by decide) rfl rfl (by decide)))
    (qs_one (qs_ret (q_frz (q_join rfl (q_sh (q_str (by decide +kernel))) (q_sh (xLc V rfl (iRa1 0 V rfl T.z_range (xS 1 V (by decide) rfl rfl)) (ob := [("k", 3)]) (okD (N := N__law_signs) (by decide +kernel)) rfl rfl (N := N__law_signs) (vis1 := [0, 2, 3]) (loc1 := [3]) (gls1 := []) (by decide +kernel) rfl (fun _ _ _ _ _ V1 => (gV' 3 V1 (by decide) rfl rfl (by decide))) (fun _ _ _ _ _ V1 => qts_nil) (fun _ _ _ _ _ V1 => (q_idx rfl hu1 (xS 2 V1 (by decide) rfl rfl) (q_sh (q_mod (q_sh (q_add rfl (xS 0 V1 (by decide) rfl rfl) (q_sh (q_mulA rfl (xS 3 V1 (by decide) rfl rfl) (q_sh (q_add rfl (q_sh q_int) (q_sh (q_mod (q_sh (q_fdiv (xS 0 V1 (by decide) rfl rfl) (q_sh q_int))) (q_sh q_int))))))))) (q_sh q_int))) (fun _ _ => rfl))))))))))
abbrev N__law_word : List Str := ["draws", "at", "signs", "least", "most", "found", "k"]
theorem ok__law_word (T : Txt K mg EC fa fd) : FnOk P w K mg base (L2.CX P w) 1 (fa 23) (fd 23) ["draws", "at", "signs", "least", "most"] (spM K EC 5 f__law_word) := by
  unfold f__law_word b__law_word
  refine fn_ok (k := 0) (N := N__law_word) (own' := []) T.F23 (C8.fnScope_by (by decide +kernel)) rfl (by decide) (fun cdv A outer s H E Z hr => ?_)
  have V : Scp (cxOf (L2.CX P w) P w K mg base N__law_word "_law_word" (defScope s__law_word) (fa 23) cdv A outer s H E) [0, 1, 2, 3, 4, 5, 6] [0, 1, 2, 3, 4, 5, 6] ["range", "len"] := scp_def (by decide +kernel)
  have tk := tk_def (P := P) (w := w) (K := K) (mg := mg) (base := base) (N := N__law_word) (qual := "_law_word") (scope := defScope s__law_word) (f := fa 23) (cd := cdv) (A := A) (outer := outer) (s := s) (H := H) (E := E)
  have hp := ps_def (P := P) (w := w) (K := K) (mg := mg) (base := base) (N := N__law_word) (qual := "_law_word") (scope := defScope s__law_word) (f := fa 23) (cd := cdv) (A := A) (outer := outer) (s := s) (H := H) (E := E)
  have hu := hr.units
  have hu1 := hu_of hr
  exact (qs_cons (own1 := []) (sA (ts := [5]) (q_str (by decide +kernel)) (gV' 5 V (by decide) rfl rfl (by decide)))
    (qs_cons (own1 := []) (qs_for (own' := []) (own1 := []) (ts := [6]) hp rfl (iRa1 0 V rfl T.z_range (q_sh (q_add rfl (xS 3 V (by decide) rfl rfl) (q_sh (q_mod (q_sh (q_idx rfl hu1 (xS 0 V (by decide) rfl rfl) (xS 1 V (by decide) rfl rfl) (fun _ _ => rfl))) (q_sh (q_add rfl (q_sh (q_sub (xS 4 V (by decide) rfl rfl) (xS 3 V (by decide) rfl rfl))) (q_sh q_int)))))))) (by decide) (gV' 6 V (by decide) rfl rfl (by decide))
    (qs_one (sA (ts := [5]) (q_frz (q_add rfl (xS 5 V (by decide) rfl rfl) (q_sh (q_idx rfl hu1 (xS 2 V (by decide) rfl rfl) (q_sh (q_mod (q_sh (q_idx rfl hu1 (xS 0 V (by decide) rfl rfl) (q_sh (q_add rfl (q_sh (q_add rfl (xS 1 V (by decide) rfl rfl) (q_sh q_int))) (xS 6 V (by decide) rfl rfl))) (fun _ _ => rfl))) (q_sh (cB1 (B_len rfl) 1 V rfl T.z_len (xS 2 V (by decide) rfl rfl))))) (fun _ _ => rfl))))) (gV' 5 V (by decide) rfl rfl (by decide)))) (hK := rfl))
    (qs_one (qs_ret (xV 5 V (by decide) rfl (by decide) rfl)))))
abbrev N__law_class : List Str := ["draw", "signs", "found", "sign", "one"]
theorem ok__law_class (T : Txt K mg EC fa fd) : FnOk P w K mg base (L2.CX P w) 1 (fa 24) (fd 24) ["draw", "signs"] (spM K EC 2 f__law_class) := by
  unfold f__law_class b__law_class
  refine fn_ok (k := 0) (N := N__law_class) (own' := []) T.F24 (C8.fnScope_by (by decide +kernel)) rfl (by decide) (fun cdv A outer s H E Z hr => ?_)
  have V : Scp (cxOf (L2.CX P w) P w K mg base N__law_class "_law_class" (defScope s__law_class) (fa 24) cdv A outer s H E) [0, 1, 2, 3] [0, 1, 2, 3] ["sorted"] := scp_def (by decide +kernel)
  have tk := tk_def (P := P) (w := w) (K := K) (mg := mg) (base := base) (N := N__law_class) (qual := "_law_class") (scope := defScope s__law_class) (f := fa 24) (cd := cdv) (A := A) (outer := outer) (s := s) (H := H) (E := E)
  have hp := ps_def (P := P) (w := w) (K := K) (mg := mg) (base := base) (N := N__law_class) (qual := "_law_class") (scope := defScope s__law_class) (f := fa 24) (cd := cdv) (A := A) (outer := outer) (s := s) (H := H) (E := E)
  have hu := hr.units
  have hu1 := hu_of hr
  exact (qs_cons (own1 := []) (sA (ts := [2]) (q_str (by decide +kernel)) (gV' 2 V (by decide) rfl rfl (by decide)))
    (qs_cons (own1 := []) (qs_for (own' := []) (own1 := []) (ts := [3]) hp rfl (qi_of rfl (q_frz (cB1 (B_sorted rfl rfl hu) 0 V rfl T.z_sorted (q_sh (q_add rfl (q_sh (xLc V rfl (qi_of rfl (xV 1 V (by decide) rfl (by decide) rfl)) (ob := [("one", 4)]) (okD (N := N__law_class) (by decide +kernel)) rfl rfl (N := N__law_class) (vis1 := [4]) (loc1 := [4]) (gls1 := []) (by decide +kernel) rfl (fun _ _ _ _ _ V1 => (gV' 4 V1 (by decide) rfl rfl (by decide))) (fun _ _ _ _ _ V1 => qts_nil) (fun _ _ _ _ _ V1 => (xV 4 V1 (by decide) rfl (by decide) rfl)))) (q_sh (q_lst (qa_cons (q_str (by decide +kernel)) qa_nil)))))))) (by decide) (gV' 3 V (by decide) rfl rfl (by decide))
    (qs_cons (own1 := []) (qs_if (qt_cmpO (ck_eq rfl hu) (q_sh (q_mod (xS 0 V (by decide) rfl rfl) (q_sh q_int))) (q_sh q_int) rfl)
    (qs_one (sA (ts := [2]) (q_frz (q_add rfl (xS 2 V (by decide) rfl rfl) (xS 3 V (by decide) rfl rfl))) (gV' 2 V (by decide) rfl rfl (by decide))))
    qs_nil)
    (qs_one (sA (ts := [0]) (q_frz (q_fdiv (xS 0 V (by decide) rfl rfl) (q_sh q_int))) (gV' 0 V (by decide) rfl rfl (by decide))))) (hK := rfl))
    (qs_cons (own1 := []) (qs_if (qt_cmpO (ck_eq rfl hu) (xS 2 V (by decide) rfl rfl) (q_sh (q_str (by decide +kernel))) rfl)
    (qs_one (qs_ret (q_idx rfl hu1 (xS 1 V (by decide) rfl rfl) (q_sh q_int) (fun _ _ => rfl))))
    qs_nil)
    (qs_one (qs_ret (xV 2 V (by decide) rfl (by decide) rfl))))))
abbrev N__law_side : List Str := ["draws", "at", "signs", "most", "k"]
theorem ok__law_side (T : Txt K mg EC fa fd) : FnOk P w K mg base (L2.CX P w) 2 (fa 25) (fd 25) ["draws", "at", "signs", "most"] (spM K EC 4 f__law_side) := by
  unfold f__law_side b__law_side
  refine fn_ok (k := 1) (N := N__law_side) (own' := []) T.F25 (C8.fnScope_by (by decide +kernel)) rfl (by decide) (fun cdv A outer s H E Z hr => ?_)
  have V : Scp (cxOf (L2.CX P w) P w K mg base N__law_side "_law_side" (defScope s__law_side) (fa 25) cdv A outer s H E) [0, 1, 2, 3] [0, 1, 2, 3] ["tuple", "range"] := scp_def (by decide +kernel)
  have tk := tk_def (P := P) (w := w) (K := K) (mg := mg) (base := base) (N := N__law_side) (qual := "_law_side") (scope := defScope s__law_side) (f := fa 25) (cd := cdv) (A := A) (outer := outer) (s := s) (H := H) (E := E)
  have hp := ps_def (P := P) (w := w) (K := K) (mg := mg) (base := base) (N := N__law_side) (qual := "_law_side") (scope := defScope s__law_side) (f := fa 25) (cd := cdv) (A := A) (outer := outer) (s := s) (H := H) (E := E)
  have hu := hr.units
  have hu1 := hu_of hr
  exact (qs_one (qs_ret (q_frz (cT1 (T_tupleA rfl rfl) 0 V rfl T.z_tuple (q_sh (xLc V rfl (iRa1 1 V rfl T.z_range (q_sh (q_mod (q_sh (q_idx rfl hu1 (xS 0 V (by decide) rfl rfl) (xS 1 V (by decide) rfl rfl) (fun _ _ => rfl))) (q_sh (q_add rfl (xS 3 V (by decide) rfl rfl) (q_sh q_int)))))) (ob := [("k", 4)]) (okD (N := N__law_side) (by decide +kernel)) rfl rfl (N := N__law_side) (vis1 := [0, 1, 2, 4]) (loc1 := [4]) (gls1 := ["_law_class"]) (by decide +kernel) rfl (fun _ _ _ _ _ V1 => (gV' 4 V1 (by decide) rfl rfl (by decide))) (fun _ _ _ _ _ V1 => qts_nil) (fun _ _ _ _ _ V1 => (cDef 0 V1 (ok__law_class T) rfl hr (by first | decide | omega) rfl T.g24 T.k24 T.b24 takes0 (qa_cons (q_idx rfl hu1 (xS 0 V1 (by decide) rfl rfl) (q_sh (q_add rfl (q_sh (q_add rfl (xS 1 V1 (by decide) rfl rfl) (q_sh q_int))) (xS 4 V1 (by decide) rfl rfl))) (fun _ _ => rfl)) (qa_cons (xV 2 V1 (by decide) rfl (by decide) rfl) qa_nil)) (lnS (lnS ln0))))))))))
abbrev N__law_rules : List Str := ["script", "at", "signs", "out", "most", "sizes", "draws", "found", "k", "spot", "left", "right", "behind", "ahead"]
theorem ok__law_rules (T : Txt K mg EC fa fd) : FnOk P w K mg base (L2.CX P w) 3 (fa 26) (fd 26) ["script", "at", "signs", "out", "most", "sizes"] (spM K EC 6 f__law_rules) := by
  unfold f__law_rules b__law_rules
  refine fn_ok (k := 2) (N := N__law_rules) (own' := []) T.F26 (C8.fnScope_by (by decide +kernel)) rfl (by decide) (fun cdv A outer s H E Z hr => ?_)
  have V : Scp (cxOf (L2.CX P w) P w K mg base N__law_rules "_law_rules" (defScope s__law_rules) (fa 26) cdv A outer s H E) [0, 1, 2, 3, 4, 5, 6, 7, 8, 9, 10, 11, 12, 13] [0, 1, 2, 3, 4, 5, 6, 7, 8, 9, 10, 11, 12, 13] ["_law_numbers", "_law_cell", "range", "_law_word", "int", "_law_side"] := scp_def (by decide +kernel)
  have tk := tk_def (P := P) (w := w) (K := K) (mg := mg) (base := base) (N := N__law_rules) (qual := "_law_rules") (scope := defScope s__law_rules) (f := fa 26) (cd := cdv) (A := A) (outer := outer) (s := s) (H := H) (E := E)
  have hp := ps_def (P := P) (w := w) (K := K) (mg := mg) (base := base) (N := N__law_rules) (qual := "_law_rules") (scope := defScope s__law_rules) (f := fa 26) (cd := cdv) (A := A) (outer := outer) (s := s) (H := H) (E := E)
  have hu := hr.units
  have hu1 := hu_of hr
  exact (qs_cons (own1 := []) (sA (ts := [6]) (cDef 0 V (ok__law_numbers T) rfl hr (by first | decide | omega) rfl T.g20 T.k20 T.b20 tk (qa_cons (cDef 1 V (ok__law_cell T) rfl hr (by first | decide | omega) rfl T.g19 T.k19 T.b19 tk (qa_cons (xV 0 V (by decide) rfl (by decide) rfl) (qa_cons (xV 1 V (by decide) rfl (by decide) rfl) qa_nil)) (lnS (lnS ln0))) (qa_cons (q_frz (q_add rfl (q_sh (q_mulA rfl (q_sh q_int) (xS 4 V (by decide) rfl rfl))) (q_sh q_int))) (qa_cons q_int qa_nil))) (lnS (lnS (lnS ln0)))) (gV' 6 V (by decide) rfl rfl (by decide)))
    (qs_cons (own1 := [7]) (sN 7 V (by decide) rfl (q_lst qa_nil) (ho := rfl))
    (qs_cons (own1 := [7]) (qs_for (own' := [7]) (own1 := [7]) (ts := [8]) hp rfl (iRa1 2 V rfl T.z_range (q_sh (q_add rfl (q_sh q_int) (q_sh (q_mod (q_sh (q_idx rfl hu1 (xS 6 V (by decide) rfl rfl) (q_sh q_int) (fun _ _ => rfl))) (xS 4 V (by decide) rfl rfl)))))) (by decide) (gV' 8 V (by decide) rfl rfl (by decide))
    (qs_cons (own1 := [7]) (sA (ts := [9]) (q_frz (q_add rfl (q_sh q_int) (q_sh (q_mulA rfl (q_sh q_int) (xS 8 V (by decide) rfl rfl))))) (gV' 9 V (by decide) rfl rfl (by decide)))
    (qs_cons (own1 := [7]) (sA (ts := [10]) (cDef 3 V (ok__law_word T) rfl hr (by first | decide | omega) rfl T.g23 T.k23 T.b23 tk (qa_cons (xV 6 V (by decide) rfl (by decide) rfl) (qa_cons (xV 9 V (by decide) rfl (by decide) rfl) (qa_cons (xV 2 V (by decide) rfl (by decide) rfl) (qa_cons q_int (qa_cons (q_idx rfl hu1 (xS 5 V (by decide) rfl rfl) (q_sh q_int) (fun _ _ => rfl)) qa_nil))))) (lnS (lnS (lnS (lnS (lnS ln0)))))) (gV' 10 V (by decide) rfl rfl (by decide)))
    (qs_cons (own1 := [7]) (sA (ts := [11]) (cDef 3 V (ok__law_word T) rfl hr (by first | decide | omega) rfl T.g23 T.k23 T.b23 tk (qa_cons (xV 6 V (by decide) rfl (by decide) rfl) (qa_cons (q_frz (q_add rfl (xS 9 V (by decide) rfl rfl) (q_sh q_int))) (qa_cons (xV 3 V (by decide) rfl (by decide) rfl) (qa_cons q_int (qa_cons (q_frz (q_add rfl (q_sh q_int) (q_sh (q_mulA rfl (q_sh q_int) (q_sh (cT1 (T_int) 4 V rfl T.z_int (q_sh (q_cmpO (ck_eq rfl hu) (q_sh (q_mod (q_sh (q_idx rfl hu1 (xS 6 V (by decide) rfl rfl) (q_sh q_int) (fun _ _ => rfl))) (q_sh q_int))) (q_sh q_int) rfl)))))))) qa_nil))))) (lnS (lnS (lnS (lnS (lnS ln0)))))) (gV' 11 V (by decide) rfl rfl (by decide)))
    (qs_cons (own1 := [7]) (sA (ts := [12]) (cDef 5 V (ok__law_side T) rfl hr (by first | decide | omega) rfl T.g25 T.k25 T.b25 tk (qa_cons (xV 6 V (by decide) rfl (by decide) rfl) (qa_cons (q_frz (q_add rfl (xS 9 V (by decide) rfl rfl) (q_sh q_int))) (qa_cons (xV 2 V (by decide) rfl (by decide) rfl) (qa_cons (q_idx rfl hu1 (xS 5 V (by decide) rfl rfl) (q_sh q_int) (fun _ _ => rfl)) qa_nil)))) (lnS (lnS (lnS (lnS ln0))))) (gV' 12 V (by decide) rfl rfl (by decide)))
    (qs_cons (own1 := [7]) (sA (ts := [13]) (cDef 5 V (ok__law_side T) rfl hr (by first | decide | omega) rfl T.g25 T.k25 T.b25 tk (qa_cons (xV 6 V (by decide) rfl (by decide) rfl) (qa_cons (q_frz (q_add rfl (xS 9 V (by decide) rfl rfl) (q_sh q_int))) (qa_cons (xV 2 V (by decide) rfl (by decide) rfl) (qa_cons (q_idx rfl hu1 (xS 5 V (by decide) rfl rfl) (q_sh q_int) (fun _ _ => rfl)) qa_nil)))) (lnS (lnS (lnS (lnS ln0))))) (gV' 13 V (by decide) rfl rfl (by decide)))
    (qs_one (sApd 7 V (by decide) rfl rfl (by decide) (q_tup (qa_cons (xV 10 V (by decide) rfl (by decide) rfl) (qa_cons (xV 11 V (by decide) rfl (by decide) rfl) (qa_cons (xV 12 V (by decide) rfl (by decide) rfl) (qa_cons (xV 13 V (by decide) rfl (by decide) rfl) qa_nil)))))))))))) (hK := rfl))
    (qs_one (qs_pre1 (own := []) (qs_ret (xV 7 V (by decide) rfl (by decide) rfl)) (by decide))))))
abbrev N__law_text : List Str := ["script", "at", "signs", "most", "draws", "k"]
theorem ok__law_text (T : Txt K mg EC fa fd) : FnOk P w K mg base (L2.CX P w) 2 (fa 27) (fd 27) ["script", "at", "signs", "most"] (spM K EC 4 f__law_text) := by
  unfold f__law_text b__law_text
  refine fn_ok (k := 1) (N := N__law_text) (own' := []) T.F27 (C8.fnScope_by (by decide +kernel)) rfl (by decide) (fun cdv A outer s H E Z hr => ?_)
  have V : Scp (cxOf (L2.CX P w) P w K mg base N__law_text "_law_text" (defScope s__law_text) (fa 27) cdv A outer s H E) [0, 1, 2, 3, 4] [0, 1, 2, 3, 4] ["_law_numbers", "_law_cell", "range"] := scp_def (by decide +kernel)
  have tk := tk_def (P := P) (w := w) (K := K) (mg := mg) (base := base) (N := N__law_text) (qual := "_law_text") (scope := defScope s__law_text) (f := fa 27) (cd := cdv) (A := A) (outer := outer) (s := s) (H := H) (E := E)
  have hp := ps_def (P := P) (w := w) (K := K) (mg := mg) (base := base) (N := N__law_text) (qual := "_law_text") (scope := defScope s__law_text) (f := fa 27) (cd := cdv) (A := A) (outer := outer) (s := s) (H := H) (E := E)
  have hu := hr.units
  have hu1 := hu_of hr
  exact (qs_cons (own1 := []) (sA (ts := [4]) (cDef 0 V (ok__law_numbers T) rfl hr (by first | decide | omega) rfl T.g20 T.k20 T.b20 tk (qa_cons (cDef 1 V (ok__law_cell T) rfl hr (by first | decide | omega) rfl T.g19 T.k19 T.b19 tk (qa_cons (xV 0 V (by decide) rfl (by decide) rfl) (qa_cons (xV 1 V (by decide) rfl (by decide) rfl) qa_nil)) (lnS (lnS ln0))) (qa_cons (q_frz (q_add rfl (q_sh q_int) (xS 3 V (by decide) rfl rfl))) (qa_cons q_int qa_nil))) (lnS (lnS (lnS ln0)))) (gV' 4 V (by decide) rfl rfl (by decide)))
    (qs_one (qs_ret (q_frz (q_join rfl (q_sh (q_str (by decide +kernel))) (q_sh (xLc V rfl (iRa1 2 V rfl T.z_range (q_sh (q_mod (q_sh (q_idx rfl hu1 (xS 4 V (by decide) rfl rfl) (q_sh q_int) (fun _ _ => rfl))) (q_sh (q_add rfl (xS 3 V (by decide) rfl rfl) (q_sh q_int)))))) (ob := [("k", 5)]) (okD (N := N__law_text) (by decide +kernel)) rfl rfl (N := N__law_text) (vis1 := [2, 4, 5]) (loc1 := [5]) (gls1 := ["len"]) (by decide +kernel) rfl (fun _ _ _ _ _ V1 => (gV' 5 V1 (by decide) rfl rfl (by decide))) (fun _ _ _ _ _ V1 => qts_nil) (fun _ _ _ _ _ V1 => (q_idx rfl hu1 (xS 2 V1 (by decide) rfl rfl) (q_sh (q_mod (q_sh (q_idx rfl hu1 (xS 4 V1 (by decide) rfl rfl) (q_sh (q_add rfl (q_sh q_int) (xS 5 V1 (by decide) rfl rfl))) (fun _ _ => rfl))) (q_sh (cB1 (B_len rfl) 0 V1 rfl T.z_len (xS 2 V1 (by decide) rfl rfl))))) (fun _ _ => rfl))))))))))
abbrev N__law_sign_at : List Str := ["text", "place"]
theorem ok__law_sign_at (T : Txt K mg EC fa fd) : FnOk P w K mg base (L2.CX P w) 1 (fa 28) (fd 28) ["text", "place"] (spM K EC 2 f__law_sign_at) := by
  unfold f__law_sign_at b__law_sign_at
  refine fn_ok (k := 0) (N := N__law_sign_at) (own' := []) T.F28 (C8.fnScope_by (by decide +kernel)) rfl (by decide) (fun cdv A outer s H E Z hr => ?_)
  have V : Scp (cxOf (L2.CX P w) P w K mg base N__law_sign_at "_law_sign_at" (defScope s__law_sign_at) (fa 28) cdv A outer s H E) [0, 1] [0, 1] ["len"] := scp_def (by decide +kernel)
  have tk := tk_def (P := P) (w := w) (K := K) (mg := mg) (base := base) (N := N__law_sign_at) (qual := "_law_sign_at") (scope := defScope s__law_sign_at) (f := fa 28) (cd := cdv) (A := A) (outer := outer) (s := s) (H := H) (E := E)
  have hp := ps_def (P := P) (w := w) (K := K) (mg := mg) (base := base) (N := N__law_sign_at) (qual := "_law_sign_at") (scope := defScope s__law_sign_at) (f := fa 28) (cd := cdv) (A := A) (outer := outer) (s := s) (H := H) (E := E)
  have hu := hr.units
  have hu1 := hu_of hr
  exact (qs_cons (own1 := []) (qs_if (qw_or (qt_cmpO ck_lt (xS 1 V (by decide) rfl rfl) (q_sh q_int) rfl) (qw_or1 (qt_cmpO ck_ge (xS 1 V (by decide) rfl rfl) (q_sh (cB1 (B_len rfl) 0 V rfl T.z_len (xS 0 V (by decide) rfl rfl))) rfl))).pt
    (qs_one (qs_ret (q_str (by decide +kernel))))
    qs_nil)
    (qs_one (qs_ret (q_idx rfl hu1 (xS 0 V (by decide) rfl rfl) (xS 1 V (by decide) rfl rfl) (fun _ _ => rfl)))))
abbrev N__law_fits : List Str := ["rule", "text", "place", "left", "right", "behind", "ahead", "k"]
theorem ok__law_fits (T : Txt K mg EC fa fd) : FnOk P w K mg base (L2.CX P w) 2 (fa 29) (fd 29) ["rule", "text", "place"] (spM K EC 3 f__law_fits) := by
  unfold f__law_fits b__law_fits
  refine fn_ok (k := 1) (N := N__law_fits) (own' := []) T.F29 (C8.fnScope_by (by decide +kernel)) rfl (by decide) (fun cdv A outer s H E Z hr => ?_)
  have V : Scp (cxOf (L2.CX P w) P w K mg base N__law_fits "_law_fits" (defScope s__law_fits) (fa 29) cdv A outer s H E) [0, 1, 2, 3, 4, 5, 6, 7] [0, 1, 2, 3, 4, 5, 6, 7] ["len", "range", "_law_sign_at"] := scp_def (by decide +kernel)
  have tk := tk_def (P := P) (w := w) (K := K) (mg := mg) (base := base) (N := N__law_fits) (qual := "_law_fits") (scope := defScope s__law_fits) (f := fa 29) (cd := cdv) (A := A) (outer := outer) (s := s) (H := H) (E := E)
  have hp := ps_def (P := P) (w := w) (K := K) (mg := mg) (base := base) (N := N__law_fits) (qual := "_law_fits") (scope := defScope s__law_fits) (f := fa 29) (cd := cdv) (A := A) (outer := outer) (s := s) (H := H) (E := E)
  have hu := hr.units
  have hu1 := hu_of hr
  exact (qs_cons (own1 := []) (sA (ts := [3, 4, 5, 6]) (xV 0 V (by decide) rfl (by decide) rfl) (qg_tup rfl rfl (qgs_cons (gV' 3 V (by decide) rfl rfl (by decide)) (qgs_cons (gV' 4 V (by decide) rfl rfl (by decide)) (qgs_cons (gV' 5 V (by decide) rfl rfl (by decide)) (qgs_cons (gV' 6 V (by decide) rfl rfl (by decide)) qgs_nil))))))
    (qs_cons (own1 := []) (qs_if (qt_cmpO (ck_ne rfl hu) (q_sh (q_sli rfl (xS 1 V (by decide) rfl rfl) (qp_some (xS 2 V (by decide) rfl rfl)) (qp_some (q_sh (q_add rfl (xS 2 V (by decide) rfl rfl) (q_sh (cB1 (B_len rfl) 0 V rfl T.z_len (xS 3 V (by decide) rfl rfl)))))))) (xS 3 V (by decide) rfl rfl) rfl)
    (qs_one (qs_ret q_bl))
    qs_nil)
    (qs_cons (own1 := []) (qs_for (own' := []) (own1 := []) (ts := [7]) hp rfl (iRa1 1 V rfl T.z_range (q_sh (cB1 (B_len rfl) 0 V rfl T.z_len (xS 5 V (by decide) rfl rfl)))) (by decide) (gV' 7 V (by decide) rfl rfl (by decide))
    (qs_one (qs_if (qt_cmpO (ck_notIn rfl hu) (q_sh (cDef 2 V (ok__law_sign_at T) rfl hr (by first | decide | omega) rfl T.g28 T.k28 T.b28 tk (qa_cons (xV 1 V (by decide) rfl (by decide) rfl) (qa_cons (q_frz (q_add rfl (q_sh (q_sub (xS 2 V (by decide) rfl rfl) (q_sh (cB1 (B_len rfl) 0 V rfl T.z_len (xS 5 V (by decide) rfl rfl))))) (xS 7 V (by decide) rfl rfl))) qa_nil)) (lnS (lnS ln0)))) (q_sh (q_idx rfl hu1 (xS 5 V (by decide) rfl rfl) (xS 7 V (by decide) rfl rfl) (fun _ _ => rfl))) rfl)
    (qs_one (qs_ret q_bl))
    qs_nil)) (hK := rfl))
    (qs_cons (own1 := []) (qs_for (own' := []) (own1 := []) (ts := [7]) hp rfl (iRa1 1 V rfl T.z_range (q_sh (cB1 (B_len rfl) 0 V rfl T.z_len (xS 6 V (by decide) rfl rfl)))) (by decide) (gV' 7 V (by decide) rfl rfl (by decide))
    (qs_one (qs_if (qt_cmpO (ck_notIn rfl hu) (q_sh (cDef 2 V (ok__law_sign_at T) rfl hr (by first | decide | omega) rfl T.g28 T.k28 T.b28 tk (qa_cons (xV 1 V (by decide) rfl (by decide) rfl) (qa_cons (q_frz (q_add rfl (q_sh (q_add rfl (xS 2 V (by decide) rfl rfl) (q_sh (cB1 (B_len rfl) 0 V rfl T.z_len (xS 3 V (by decide) rfl rfl))))) (xS 7 V (by decide) rfl rfl))) qa_nil)) (lnS (lnS ln0)))) (q_sh (q_idx rfl hu1 (xS 6 V (by decide) rfl rfl) (xS 7 V (by decide) rfl rfl) (fun _ _ => rfl))) rfl)
    (qs_one (qs_ret q_bl))
    qs_nil)) (hK := rfl))
    (qs_one (qs_ret q_bl))))))
abbrev N__law_choices : List Str := ["rules", "text", "found", "place", "turn", "fits", "k"]
theorem ok__law_choices (T : Txt K mg EC fa fd) : FnOk P w K mg base (L2.CX P w) 3 (fa 30) (fd 30) ["rules", "text"] (spM K EC 2 f__law_choices) := by
  unfold f__law_choices b__law_choices
  refine fn_ok (k := 2) (N := N__law_choices) (own' := []) T.F30 (C8.fnScope_by (by decide +kernel)) rfl (by decide) (fun cdv A outer s H E Z hr => ?_)
  have V : Scp (cxOf (L2.CX P w) P w K mg base N__law_choices "_law_choices" (defScope s__law_choices) (fa 30) cdv A outer s H E) [0, 1, 2, 3, 4, 5] [0, 1, 2, 3, 4, 5] ["range", "len"] := scp_def (by decide +kernel)
  have tk := tk_def (P := P) (w := w) (K := K) (mg := mg) (base := base) (N := N__law_choices) (qual := "_law_choices") (scope := defScope s__law_choices) (f := fa 30) (cd := cdv) (A := A) (outer := outer) (s := s) (H := H) (E := E)
  have hp := ps_def (P := P) (w := w) (K := K) (mg := mg) (base := base) (N := N__law_choices) (qual := "_law_choices") (scope := defScope s__law_choices) (f := fa 30) (cd := cdv) (A := A) (outer := outer) (s := s) (H := H) (E := E)
  have hu := hr.units
  have hu1 := hu_of hr
  exact (qs_cons (own1 := [2]) (sN 2 V (by decide) rfl (q_lst qa_nil) (ho := rfl))
    (qs_cons (own1 := [2]) (sA (ts := [3]) q_int (gV' 3 V (by decide) rfl rfl (by decide)))
    (qs_cons (own1 := [2]) (qs_for (own' := [2]) (own1 := [2]) (ts := [4]) hp rfl (iRa1 0 V rfl T.z_range (q_sh (cB1 (B_len rfl) 1 V rfl T.z_len (xS 1 V (by decide) rfl rfl)))) (by decide) (gV' 4 V (by decide) rfl rfl (by decide))
    (qs_one (qs_if (qt_cmpO ck_lt (xS 3 V (by decide) rfl rfl) (q_sh (cB1 (B_len rfl) 1 V rfl T.z_len (xS 1 V (by decide) rfl rfl))) rfl)
    (qs_cons (own1 := [5, 2]) (sLc 5 V rfl (lcl_def (by decide +kernel)) rfl (by rfl) (iRa1 0 V rfl T.z_range (q_sh (cB1 (B_len rfl) 1 V rfl T.z_len (xS 0 V (by decide) rfl rfl)))) (ob := [("k", 6)]) (okD (N := N__law_choices) (by decide +kernel)) rfl rfl (N := N__law_choices) (vis1 := [0, 1, 3, 6]) (loc1 := [6]) (gls1 := ["_law_fits"]) (by decide +kernel) rfl (fun _ _ _ _ _ V1 => (gV' 6 V1 (by decide) rfl rfl (by decide))) (fun _ _ _ _ _ V1 => (qts_one (qt_val (q_sh (cDef 0 V1 (ok__law_fits T) rfl hr (by first | decide | omega) rfl T.g29 T.k29 T.b29 takes0 (qa_cons (q_idx rfl hu1 (xS 0 V1 (by decide) rfl rfl) (xS 6 V1 (by decide) rfl rfl) (fun _ _ => rfl)) (qa_cons (xV 1 V1 (by decide) rfl (by decide) rfl) (qa_cons (xV 3 V1 (by decide) rfl (by decide) rfl) qa_nil))) (lnS (lnS (lnS ln0)))))))) (fun _ _ _ _ _ V1 => (xV 6 V1 (by decide) rfl (by decide) rfl)) rfl)
    (qs_weak (own1 := [5, 2]) (qs_one (qs_if (qt_cmpO (ck_eq rfl hu) (q_sh (cB1 (B_len rfl) 1 V rfl T.z_len (xS 5 V (by decide) rfl rfl))) (q_sh q_int) rfl)
    (qs_cons (own1 := [5, 2]) (sApd 2 V (by decide) rfl rfl (by decide) (q_tup (qa_cons (xV 3 V (by decide) rfl (by decide) rfl) (qa_cons (q_frz (q_neg (q_sh q_int))) qa_nil))))
    (qs_one (sA (ts := [3]) (q_frz (q_add rfl (xS 3 V (by decide) rfl rfl) (q_sh q_int))) (gV' 3 V (by decide) rfl rfl (by decide)))))
    (qs_cons (own1 := [5, 2]) (sApd 2 V (by decide) rfl rfl (by decide) (q_tup (qa_cons (xV 3 V (by decide) rfl (by decide) rfl) (qa_cons (q_idx rfl hu1 (xS 5 V (by decide) rfl rfl) (q_sh q_int) (fun _ _ => rfl)) qa_nil))))
    (qs_one (sA (ts := [3]) (q_frz (q_add rfl (xS 3 V (by decide) rfl rfl) (q_sh (cB1 (B_len rfl) 1 V rfl T.z_len (q_sh (q_idx rfl hu1 (q_sh (q_idx rfl hu1 (xS 0 V (by decide) rfl rfl) (q_sh (q_idx rfl hu1 (xS 5 V (by decide) rfl rfl) (q_sh q_int) (fun _ _ => rfl))) (fun _ _ => rfl))) (q_sh q_int) (fun _ _ => rfl))))))) (gV' 3 V (by decide) rfl rfl (by decide))))))) (by decide)))
    qs_nil)) (hK := rfl))
    (qs_one (qs_pre1 (own := []) (qs_ret (xV 2 V (by decide) rfl (by decide) rfl)) (by decide))))))
abbrev N__law_spell : List Str := ["rules", "text", "out", "place", "k"]
theorem ok__law_spell (T : Txt K mg EC fa fd) : FnOk P w K mg base (L2.CX P w) 4 (fa 31) (fd 31) ["rules", "text"] (spM K EC 2 f__law_spell) := by
  unfold f__law_spell b__law_spell
  refine fn_ok (k := 3) (N := N__law_spell) (own' := []) T.F31 (C8.fnScope_by (by decide +kernel)) rfl (by decide) (fun cdv A outer s H E Z hr => ?_)
  have V : Scp (cxOf (L2.CX P w) P w K mg base N__law_spell "_law_spell" (defScope s__law_spell) (fa 31) cdv A outer s H E) [0, 1, 2, 3, 4] [0, 1, 2, 3, 4] ["_law_choices"] := scp_def (by decide +kernel)
  have tk := tk_def (P := P) (w := w) (K := K) (mg := mg) (base := base) (N := N__law_spell) (qual := "_law_spell") (scope := defScope s__law_spell) (f := fa 31) (cd := cdv) (A := A) (outer := outer) (s := s) (H := H) (E := E)
  have hp := ps_def (P := P) (w := w) (K := K) (mg := mg) (base := base) (N := N__law_spell) (qual := "_law_spell") (scope := defScope s__law_spell) (f := fa 31) (cd := cdv) (A := A) (outer := outer) (s := s) (H := H) (E := E)
  have hu := hr.units
  have hu1 := hu_of hr
  exact (qs_cons (own1 := []) (sA (ts := [2]) (q_str (by decide +kernel)) (gV' 2 V (by decide) rfl rfl (by decide)))
    (qs_cons (own1 := []) (qs_for (own' := []) (own1 := []) (ts := [3, 4]) hp rfl (qi_of rfl (cDef 0 V (ok__law_choices T) rfl hr (by first | decide | omega) rfl T.g30 T.k30 T.b30 tk (qa_cons (xV 0 V (by decide) rfl (by decide) rfl) (qa_cons (xV 1 V (by decide) rfl (by decide) rfl) qa_nil)) (lnS (lnS ln0)))) (by decide) (qg_tup rfl rfl (qgs_cons (gV' 3 V (by decide) rfl rfl (by decide)) (qgs_cons (gV' 4 V (by decide) rfl rfl (by decide)) qgs_nil)))
    (qs_one (qs_if (qt_cmpO ck_lt (xS 4 V (by decide) rfl rfl) (q_sh q_int) rfl)
    (qs_one (sA (ts := [2]) (q_frz (q_add rfl (xS 2 V (by decide) rfl rfl) (q_sh (q_idx rfl hu1 (xS 1 V (by decide) rfl rfl) (xS 3 V (by decide) rfl rfl) (fun _ _ => rfl))))) (gV' 2 V (by decide) rfl rfl (by decide))))
    (qs_one (sA (ts := [2]) (q_frz (q_add rfl (xS 2 V (by decide) rfl rfl) (q_sh (q_idx rfl hu1 (q_sh (q_idx rfl hu1 (xS 0 V (by decide) rfl rfl) (xS 4 V (by decide) rfl rfl) (fun _ _ => rfl))) (q_sh q_int) (fun _ _ => rfl))))) (gV' 2 V (by decide) rfl rfl (by decide)))))) (hK := rfl))
    (qs_one (qs_ret (xV 2 V (by decide) rfl (by decide) rfl)))))
abbrev N__law_known : List Str := ["rule", "state", "ends", "tail", "rest", "k", "sides", "sign"]
theorem ok__law_known (T : Txt K mg EC fa fd) : FnOk P w K mg base (L2.CX P w) 1 (fa 32) (fd 32) ["rule", "state", "ends"] (spM K EC 3 f__law_known) := by
  unfold f__law_known b__law_known
  refine fn_ok (k := 0) (N := N__law_known) (own' := []) T.F32 (C8.fnScope_by (by decide +kernel)) rfl (by decide) (fun cdv A outer s H E Z hr => ?_)
  have V : Scp (cxOf (L2.CX P w) P w K mg base N__law_known "_law_known" (defScope s__law_known) (fa 32) cdv A outer s H E) [0, 1, 2, 3, 4, 5, 6] [0, 1, 2, 3, 4, 5, 6] ["range", "len", "list"] := scp_def (by decide +kernel)
  have tk := tk_def (P := P) (w := w) (K := K) (mg := mg) (base := base) (N := N__law_known) (qual := "_law_known") (scope := defScope s__law_known) (f := fa 32) (cd := cdv) (A := A) (outer := outer) (s := s) (H := H) (E := E)
  have hp := ps_def (P := P) (w := w) (K := K) (mg := mg) (base := base) (N := N__law_known) (qual := "_law_known") (scope := defScope s__law_known) (f := fa 32) (cd := cdv) (A := A) (outer := outer) (s := s) (H := H) (E := E)
  have hu := hr.units
  have hu1 := hu_of hr
  exact (qs_cons (own1 := []) (sA (ts := [3, 4]) (xV 1 V (by decide) rfl (by decide) rfl) (qg_tup rfl rfl (qgs_cons (gV' 3 V (by decide) rfl rfl (by decide)) (qgs_cons (gV' 4 V (by decide) rfl rfl (by decide)) qgs_nil))))
    (qs_cons (own1 := []) (qs_for (own' := []) (own1 := []) (ts := [5]) hp rfl (iRa1 0 V rfl T.z_range (q_sh (cB1 (B_len rfl) 1 V rfl T.z_len (q_sh (q_idx rfl hu1 (xS 0 V (by decide) rfl rfl) (q_sh q_int) (fun _ _ => rfl)))))) (by decide) (gV' 5 V (by decide) rfl rfl (by decide))
    (qs_one (qs_if (qt_cmpO (ck_notIn rfl hu) (q_sh (q_idx rfl hu1 (xS 3 V (by decide) rfl rfl) (q_sh (q_add rfl (q_sh (q_sub (q_sh (cB1 (B_len rfl) 1 V rfl T.z_len (xS 3 V (by decide) rfl rfl))) (q_sh (cB1 (B_len rfl) 1 V rfl T.z_len (q_sh (q_idx rfl hu1 (xS 0 V (by decide) rfl rfl) (q_sh q_int) (fun _ _ => rfl))))))) (xS 5 V (by decide) rfl rfl))) (fun _ _ => rfl))) (q_sh (q_idx rfl hu1 (q_sh (q_idx rfl hu1 (xS 0 V (by decide) rfl rfl) (q_sh q_int) (fun _ _ => rfl))) (xS 5 V (by decide) rfl rfl) (fun _ _ => rfl))) rfl)
    (qs_one (qs_ret q_int))
    qs_nil)) (hK := rfl))
    (qs_cons (own1 := []) (sA (ts := [6]) (q_frz (q_add rfl (q_sh (xLc V rfl (qi_of rfl (q_idx rfl hu1 (xS 0 V (by decide) rfl rfl) (q_sh q_int) (fun _ _ => rfl))) (ob := [("sign", 7)]) (okD (N := N__law_known) (by decide +kernel)) rfl rfl (N := N__law_known) (vis1 := [7]) (loc1 := [7]) (gls1 := []) (by decide +kernel) rfl (fun _ _ _ _ _ V1 => (gV' 7 V1 (by decide) rfl rfl (by decide))) (fun _ _ _ _ _ V1 => qts_nil) (fun _ _ _ _ _ V1 => (xV 7 V1 (by decide) rfl (by decide) rfl)))) (q_sh (cT1 (T_listA rfl rfl) 2 V rfl T.z_list (q_sh (q_idx rfl hu1 (xS 0 V (by decide) rfl rfl) (q_sh q_int) (fun _ _ => rfl))))))) (gV' 6 V (by decide) rfl rfl (by decide)))
    (qs_cons (own1 := []) (qs_for (own' := []) (own1 := []) (ts := [5]) hp rfl (iRa1 0 V rfl T.z_range (q_sh (cB1 (B_len rfl) 1 V rfl T.z_len (xS 6 V (by decide) rfl rfl)))) (by decide) (gV' 5 V (by decide) rfl rfl (by decide))
    (qs_one (qs_if (qt_cmpO ck_lt (xS 5 V (by decide) rfl rfl) (q_sh (cB1 (B_len rfl) 1 V rfl T.z_len (xS 4 V (by decide) rfl rfl))) rfl)
    (qs_one (qs_if (qt_cmpO (ck_notIn rfl hu) (q_sh (q_idx rfl hu1 (xS 4 V (by decide) rfl rfl) (xS 5 V (by decide) rfl rfl) (fun _ _ => rfl))) (q_sh (q_idx rfl hu1 (xS 6 V (by decide) rfl rfl) (xS 5 V (by decide) rfl rfl) (fun _ _ => rfl))) rfl)
    (qs_one (qs_ret q_int))
    qs_nil))
    (qs_one (qs_if (qt_not (qt_val (xS 2 V (by decide) rfl rfl)))
    (qs_one (qs_ret q_int))
    (qs_one (qs_if (qt_cmpO (ck_notIn rfl hu) (q_sh (q_str (by decide +kernel))) (q_sh (q_idx rfl hu1 (xS 6 V (by decide) rfl rfl) (xS 5 V (by decide) rfl rfl) (fun _ _ => rfl))) rfl)
    (qs_one (qs_ret q_int))
    qs_nil)))))) (hK := rfl))
    (qs_one (qs_ret q_int))))))
abbrev N__law_settled : List Str := ["rules", "state", "ends", "k", "known"]
theorem ok__law_settled (T : Txt K mg EC fa fd) : FnOk P w K mg base (L2.CX P w) 2 (fa 33) (fd 33) ["rules", "state", "ends"] (spM K EC 3 f__law_settled) := by
  unfold f__law_settled b__law_settled
  refine fn_ok (k := 1) (N := N__law_settled) (own' := []) T.F33 (C8.fnScope_by (by decide +kernel)) rfl (by decide) (fun cdv A outer s H E Z hr => ?_)
  have V : Scp (cxOf (L2.CX P w) P w K mg base N__law_settled "_law_settled" (defScope s__law_settled) (fa 33) cdv A outer s H E) [0, 1, 2, 3, 4] [0, 1, 2, 3, 4] ["range", "len", "_law_known"] := scp_def (by decide +kernel)
  have tk := tk_def (P := P) (w := w) (K := K) (mg := mg) (base := base) (N := N__law_settled) (qual := "_law_settled") (scope := defScope s__law_settled) (f := fa 33) (cd := cdv) (A := A) (outer := outer) (s := s) (H := H) (E := E)
  have hp := ps_def (P := P) (w := w) (K := K) (mg := mg) (base := base) (N := N__law_settled) (qual := "_law_settled") (scope := defScope s__law_settled) (f := fa 33) (cd := cdv) (A := A) (outer := outer) (s := s) (H := H) (E := E)
  have hu := hr.units
  have hu1 := hu_of hr
  exact (qs_cons (own1 := []) (qs_for (own' := []) (own1 := []) (ts := [3]) hp rfl (iRa1 0 V rfl T.z_range (q_sh (cB1 (B_len rfl) 1 V rfl T.z_len (xS 0 V (by decide) rfl rfl)))) (by decide) (gV' 3 V (by decide) rfl rfl (by decide))
    (qs_cons (own1 := []) (sA (ts := [4]) (cDef 2 V (ok__law_known T) rfl hr (by first | decide | omega) rfl T.g32 T.k32 T.b32 tk (qa_cons (q_idx rfl hu1 (xS 0 V (by decide) rfl rfl) (xS 3 V (by decide) rfl rfl) (fun _ _ => rfl)) (qa_cons (xV 1 V (by decide) rfl (by decide) rfl) (qa_cons (xV 2 V (by decide) rfl (by decide) rfl) qa_nil))) (lnS (lnS (lnS ln0)))) (gV' 4 V (by decide) rfl rfl (by decide)))
    (qs_cons (own1 := []) (qs_if (qt_cmpO (ck_eq rfl hu) (xS 4 V (by decide) rfl rfl) (q_sh q_int) rfl)
    (qs_one (qs_ret (xV 3 V (by decide) rfl (by decide) rfl)))
    qs_nil)
    (qs_one (qs_if (qt_cmpO (ck_eq rfl hu) (xS 4 V (by decide) rfl rfl) (q_sh q_int) rfl)
    (qs_one (qs_ret q_non))
    qs_nil)))) (hK := rfl))
    (qs_one (qs_ret (q_frz (q_neg (q_sh q_int))))))
abbrev N__law_taken : List Str := ["rules", "state", "ends", "tail", "rest", "out", "numbers", "turn", "k", "size", "gone"]
theorem ok__law_taken (T : Txt K mg EC fa fd) : FnOk P w K mg base (L2.CX P w) 3 (fa 34) (fd 34) ["rules", "state", "ends"] (spM K EC 3 f__law_taken) := by
  unfold f__law_taken b__law_taken
  refine fn_ok (k := 2) (N := N__law_taken) (own' := []) T.F34 (C8.fnScope_by (by decide +kernel)) rfl (by decide) (fun cdv A outer s H E Z hr => ?_)
  have V : Scp (cxOf (L2.CX P w) P w K mg base N__law_taken "_law_taken" (defScope s__law_taken) (fa 34) cdv A outer s H E) [0, 1, 2, 3, 4, 5, 6, 7, 8, 9, 10] [0, 1, 2, 3, 4, 5, 6, 7, 8, 9, 10] ["range", "len", "_law_settled"] := scp_def (by decide +kernel)
  have tk := tk_def (P := P) (w := w) (K := K) (mg := mg) (base := base) (N := N__law_taken) (qual := "_law_taken") (scope := defScope s__law_taken) (f := fa 34) (cd := cdv) (A := A) (outer := outer) (s := s) (H := H) (E := E)
  have hp := ps_def (P := P) (w := w) (K := K) (mg := mg) (base := base) (N := N__law_taken) (qual := "_law_taken") (scope := defScope s__law_taken) (f := fa 34) (cd := cdv) (A := A) (outer := outer) (s := s) (H := H) (E := E)
  have hu := hr.units
  have hu1 := hu_of hr
  exact (qs_cons (own1 := []) (sA (ts := [3, 4]) (xV 1 V (by decide) rfl (by decide) rfl) (qg_tup rfl rfl (qgs_cons (gV' 3 V (by decide) rfl rfl (by decide)) (qgs_cons (gV' 4 V (by decide) rfl rfl (by decide)) qgs_nil))))
    (qs_cons (own1 := []) (sA (ts := [5]) (q_str (by decide +kernel)) (gV' 5 V (by decide) rfl rfl (by decide)))
    (qs_cons (own1 := [6]) (sN 6 V (by decide) rfl (q_lst qa_nil) (ho := rfl))
    (qs_cons (own1 := [6]) (qs_for (own' := [6]) (own1 := [6]) (ts := [7]) hp rfl (iRa1 0 V rfl T.z_range (q_sh (cB1 (B_len rfl) 1 V rfl T.z_len (xS 4 V (by decide) rfl rfl)))) (by decide) (gV' 7 V (by decide) rfl rfl (by decide))
    (qs_one (qs_if (qt_cmpO (ck_ne rfl hu) (xS 4 V (by decide) rfl rfl) (q_sh (q_str (by decide +kernel))) rfl)
    (qs_cons (own1 := [6]) (sA (ts := [8]) (cDef 2 V (ok__law_settled T) rfl hr (by first | decide | omega) rfl T.g33 T.k33 T.b33 tk (qa_cons (xV 0 V (by decide) rfl (by decide) rfl) (qa_cons (q_tup (qa_cons (xV 3 V (by decide) rfl (by decide) rfl) (qa_cons (xV 4 V (by decide) rfl (by decide) rfl) qa_nil))) (qa_cons (xV 2 V (by decide) rfl (by decide) rfl) qa_nil))) (lnS (lnS (lnS ln0)))) (gV' 8 V (by decide) rfl rfl (by decide)))
    (qs_cons (own1 := [6]) (qs_if (qt_isN (xS 8 V (by decide) rfl rfl))
    (qs_one (qs_pre1 (own := []) (qs_ret (q_tup (qa_cons (q_tup (qa_cons (xV 3 V (by decide) rfl (by decide) rfl) (qa_cons (xV 4 V (by decide) rfl (by decide) rfl) qa_nil))) (qa_cons (xV 5 V (by decide) rfl (by decide) rfl) (qa_cons (xV 6 V (by decide) rfl (by decide) rfl) qa_nil))))) (by decide)))
    qs_nil)
    (qs_cons (own1 := [6]) (sApd 6 V (by decide) rfl rfl (by decide) (xV 8 V (by decide) rfl (by decide) rfl))
    (qs_cons (own1 := [6]) (sA (ts := [9]) q_int (gV' 9 V (by decide) rfl rfl (by decide)))
    (qs_cons (own1 := [6]) (qs_if (qt_cmpO ck_lt (xS 8 V (by decide) rfl rfl) (q_sh q_int) rfl)
    (qs_one (sA (ts := [5]) (q_frz (q_add rfl (xS 5 V (by decide) rfl rfl) (q_sh (q_idx rfl hu1 (xS 4 V (by decide) rfl rfl) (q_sh q_int) (fun _ _ => rfl))))) (gV' 5 V (by decide) rfl rfl (by decide))))
    (qs_cons (own1 := [6]) (sA (ts := [5]) (q_frz (q_add rfl (xS 5 V (by decide) rfl rfl) (q_sh (q_idx rfl hu1 (q_sh (q_idx rfl hu1 (xS 0 V (by decide) rfl rfl) (xS 8 V (by decide) rfl rfl) (fun _ _ => rfl))) (q_sh q_int) (fun _ _ => rfl))))) (gV' 5 V (by decide) rfl rfl (by decide)))
    (qs_one (sA (ts := [9]) (q_frz (cB1 (B_len rfl) 1 V rfl T.z_len (q_sh (q_idx rfl hu1 (q_sh (q_idx rfl hu1 (xS 0 V (by decide) rfl rfl) (xS 8 V (by decide) rfl rfl) (fun _ _ => rfl))) (q_sh q_int) (fun _ _ => rfl))))) (gV' 9 V (by decide) rfl rfl (by decide))))))
    (qs_cons (own1 := [6]) (sA (ts := [10]) (q_frz (q_add rfl (xS 3 V (by decide) rfl rfl) (q_sh (q_sli rfl (xS 4 V (by decide) rfl rfl) (qp_some (q_sh q_int)) (qp_some (xS 9 V (by decide) rfl rfl)))))) (gV' 10 V (by decide) rfl rfl (by decide)))
    (qs_cons (own1 := [6]) (sA (ts := [3]) (q_frz (q_sli rfl (xS 10 V (by decide) rfl rfl) (qp_some (q_sh (q_sub (q_sh (cB1 (B_len rfl) 1 V rfl T.z_len (xS 10 V (by decide) rfl rfl))) (q_sh (cB1 (B_len rfl) 1 V rfl T.z_len (xS 3 V (by decide) rfl rfl)))))) qp_none)) (gV' 3 V (by decide) rfl rfl (by decide)))
    (qs_one (sA (ts := [4]) (q_frz (q_sli rfl (xS 4 V (by decide) rfl rfl) (qp_some (xS 9 V (by decide) rfl rfl)) qp_none)) (gV' 4 V (by decide) rfl rfl (by decide)))))))))))
    qs_nil)) (hK := rfl))
    (qs_one (qs_pre1 (own := []) (qs_ret (q_tup (qa_cons (q_tup (qa_cons (xV 3 V (by decide) rfl (by decide) rfl) (qa_cons (xV 4 V (by decide) rfl (by decide) rfl) qa_nil))) (qa_cons (xV 5 V (by decide) rfl (by decide) rfl) (qa_cons (xV 6 V (by decide) rfl (by decide) rfl) qa_nil))))) (by decide)))))))
abbrev N__law_read : List Str := ["rules", "state", "sign"]
theorem ok__law_read (T : Txt K mg EC fa fd) : FnOk P w K mg base (L2.CX P w) 4 (fa 35) (fd 35) ["rules", "state", "sign"] (spM K EC 3 f__law_read) := by
  unfold f__law_read b__law_read
  refine fn_ok (k := 3) (N := N__law_read) (own' := []) T.F35 (C8.fnScope_by (by decide +kernel)) rfl (by decide) (fun cdv A outer s H E Z hr => ?_)
  have V : Scp (cxOf (L2.CX P w) P w K mg base N__law_read "_law_read" (defScope s__law_read) (fa 35) cdv A outer s H E) [0, 1, 2] [0, 1, 2] ["_law_taken"] := scp_def (by decide +kernel)
  have tk := tk_def (P := P) (w := w) (K := K) (mg := mg) (base := base) (N := N__law_read) (qual := "_law_read") (scope := defScope s__law_read) (f := fa 35) (cd := cdv) (A := A) (outer := outer) (s := s) (H := H) (E := E)
  have hp := ps_def (P := P) (w := w) (K := K) (mg := mg) (base := base) (N := N__law_read) (qual := "_law_read") (scope := defScope s__law_read) (f := fa 35) (cd := cdv) (A := A) (outer := outer) (s := s) (H := H) (E := E)
  have hu := hr.units
  have hu1 := hu_of hr
  exact (qs_one (qs_ret (cDef 0 V (ok__law_taken T) rfl hr (by first | decide | omega) rfl T.g34 T.k34 T.b34 tk (qa_cons (xV 0 V (by decide) rfl (by decide) rfl) (qa_cons (q_tup (qa_cons (q_idx rfl hu1 (xS 1 V (by decide) rfl rfl) (q_sh q_int) (fun _ _ => rfl)) (qa_cons (q_frz (q_add rfl (q_sh (q_idx rfl hu1 (xS 1 V (by decide) rfl rfl) (q_sh q_int) (fun _ _ => rfl))) (xS 2 V (by decide) rfl rfl))) qa_nil))) (qa_cons q_bl qa_nil))) (lnS (lnS (lnS ln0))))))
abbrev N__law_first : List Str := ["rules", "rule"]
theorem ok__law_first (T : Txt K mg EC fa fd) : FnOk P w K mg base (L2.CX P w) 1 (fa 36) (fd 36) ["rules"] (spM K EC 1 f__law_first) := by
  unfold f__law_first b__law_first
  refine fn_ok (k := 0) (N := N__law_first) (own' := []) T.F36 (C8.fnScope_by (by decide +kernel)) rfl (by decide) (fun cdv A outer s H E Z hr => ?_)
  have V : Scp (cxOf (L2.CX P w) P w K mg base N__law_first "_law_first" (defScope s__law_first) (fa 36) cdv A outer s H E) [0] [0] ["max"] := scp_def (by decide +kernel)
  have tk := tk_def (P := P) (w := w) (K := K) (mg := mg) (base := base) (N := N__law_first) (qual := "_law_first") (scope := defScope s__law_first) (f := fa 36) (cd := cdv) (A := A) (outer := outer) (s := s) (H := H) (E := E)
  have hp := ps_def (P := P) (w := w) (K := K) (mg := mg) (base := base) (N := N__law_first) (qual := "_law_first") (scope := defScope s__law_first) (f := fa 36) (cd := cdv) (A := A) (outer := outer) (s := s) (H := H) (E := E)
  have hu := hr.units
  have hu1 := hu_of hr
  exact (qs_one (qs_ret (q_tup (qa_cons (q_frz (q_mulA rfl (q_sh (q_str (by decide +kernel))) (q_sh (cB1 (B_max rfl rfl) 0 V rfl T.z_max (q_sh (xLc V rfl (qi_of rfl (xV 0 V (by decide) rfl (by decide) rfl)) (ob := [("rule", 1)]) (okD (N := N__law_first) (by decide +kernel)) rfl rfl (N := N__law_first) (vis1 := [1]) (loc1 := [1]) (gls1 := ["len"]) (by decide +kernel) rfl (fun _ _ _ _ _ V1 => (gV' 1 V1 (by decide) rfl rfl (by decide))) (fun _ _ _ _ _ V1 => qts_nil) (fun _ _ _ _ _ V1 => (q_frz (cB1 (B_len rfl) 0 V1 rfl T.z_len (q_sh (q_idx rfl hu1 (xS 1 V1 (by decide) rfl rfl) (q_sh q_int) (fun _ _ => rfl)))))))))))) (qa_cons (q_str (by decide +kernel)) qa_nil)))))
abbrev N__law_reach : List Str := ["rules", "rule"]
theorem ok__law_reach (T : Txt K mg EC fa fd) : FnOk P w K mg base (L2.CX P w) 1 (fa 37) (fd 37) ["rules"] (spM K EC 1 f__law_reach) := by
  unfold f__law_reach b__law_reach
  refine fn_ok (k := 0) (N := N__law_reach) (own' := []) T.F37 (C8.fnScope_by (by decide +kernel)) rfl (by decide) (fun cdv A outer s H E Z hr => ?_)
  have V : Scp (cxOf (L2.CX P w) P w K mg base N__law_reach "_law_reach" (defScope s__law_reach) (fa 37) cdv A outer s H E) [0] [0] ["max"] := scp_def (by decide +kernel)
  have tk := tk_def (P := P) (w := w) (K := K) (mg := mg) (base := base) (N := N__law_reach) (qual := "_law_reach") (scope := defScope s__law_reach) (f := fa 37) (cd := cdv) (A := A) (outer := outer) (s := s) (H := H) (E := E)
  have hp := ps_def (P := P) (w := w) (K := K) (mg := mg) (base := base) (N := N__law_reach) (qual := "_law_reach") (scope := defScope s__law_reach) (f := fa 37) (cd := cdv) (A := A) (outer := outer) (s := s) (H := H) (E := E)
  have hu := hr.units
  have hu1 := hu_of hr
  exact (qs_one (qs_ret (q_frz (cB1 (B_max rfl rfl) 0 V rfl T.z_max (q_sh (xLc V rfl (qi_of rfl (xV 0 V (by decide) rfl (by decide) rfl)) (ob := [("rule", 1)]) (okD (N := N__law_reach) (by decide +kernel)) rfl rfl (N := N__law_reach) (vis1 := [1]) (loc1 := [1]) (gls1 := ["len"]) (by decide +kernel) rfl (fun _ _ _ _ _ V1 => (gV' 1 V1 (by decide) rfl rfl (by decide))) (fun _ _ _ _ _ V1 => qts_nil) (fun _ _ _ _ _ V1 => (q_frz (q_add rfl (q_sh (cB1 (B_len rfl) 0 V1 rfl T.z_len (q_sh (q_idx rfl hu1 (xS 1 V1 (by decide) rfl rfl) (q_sh q_int) (fun _ _ => rfl))))) (q_sh (cB1 (B_len rfl) 0 V1 rfl T.z_len (q_sh (q_idx rfl hu1 (xS 1 V1 (by decide) rfl rfl) (q_sh q_int) (fun _ _ => rfl))))))))))))))
abbrev N__law_is_state : List Str := ["rules", "signs", "pair", "tail", "rest", "rule", "sign"]
theorem ok__law_is_state (T : Txt K mg EC fa fd) : FnOk P w K mg base (L2.CX P w) 2 (fa 38) (fd 38) ["rules", "signs", "pair"] (spM K EC 3 f__law_is_state) := by
  unfold f__law_is_state b__law_is_state
  refine fn_ok (k := 1) (N := N__law_is_state) (own' := []) T.F38 (C8.fnScope_by (by decide +kernel)) rfl (by decide) (fun cdv A outer s H E Z hr => ?_)
  have V : Scp (cxOf (L2.CX P w) P w K mg base N__law_is_state "_law_is_state" (defScope s__law_is_state) (fa 38) cdv A outer s H E) [0, 1, 2, 3, 4] [0, 1, 2, 3, 4] ["len", "max", "_law_reach"] := scp_def (by decide +kernel)
  have tk := tk_def (P := P) (w := w) (K := K) (mg := mg) (base := base) (N := N__law_is_state) (qual := "_law_is_state") (scope := defScope s__law_is_state) (f := fa 38) (cd := cdv) (A := A) (outer := outer) (s := s) (H := H) (E := E)
  have hp := ps_def (P := P) (w := w) (K := K) (mg := mg) (base := base) (N := N__law_is_state) (qual := "_law_is_state") (scope := defScope s__law_is_state) (f := fa 38) (cd := cdv) (A := A) (outer := outer) (s := s) (H := H) (E := E)
  have hu := hr.units
  have hu1 := hu_of hr
  exact (qs_cons (own1 := []) (sA (ts := [3, 4]) (xV 2 V (by decide) rfl (by decide) rfl) (qg_tup rfl rfl (qgs_cons (gV' 3 V (by decide) rfl rfl (by decide)) (qgs_cons (gV' 4 V (by decide) rfl rfl (by decide)) qgs_nil))))
    (qs_cons (own1 := []) (qs_if (qw_or (qt_cmpO (ck_ne rfl hu) (q_sh (cB1 (B_len rfl) 0 V rfl T.z_len (xS 3 V (by decide) rfl rfl))) (q_sh (cB1 (B_max rfl rfl) 1 V rfl T.z_max (q_sh (xLc V rfl (qi_of rfl (xV 0 V (by decide) rfl (by decide) rfl)) (ob := [("rule", 5)]) (okD (N := N__law_is_state) (by decide +kernel)) rfl rfl (N := N__law_is_state) (vis1 := [5]) (loc1 := [5]) (gls1 := ["len"]) (by decide +kernel) rfl (fun _ _ _ _ _ V1 => (gV' 5 V1 (by decide) rfl rfl (by decide))) (fun _ _ _ _ _ V1 => qts_nil) (fun _ _ _ _ _ V1 => (q_frz (cB1 (B_len rfl) 0 V1 rfl T.z_len (q_sh (q_idx rfl hu1 (xS 5 V1 (by decide) rfl rfl) (q_sh q_int) (fun _ _ => rfl)))))))))) rfl) (qw_or1 (qt_cmpO ck_ge (q_sh (cB1 (B_len rfl) 0 V rfl T.z_len (xS 4 V (by decide) rfl rfl))) (q_sh (cDef 2 V (ok__law_reach T) rfl hr (by first | decide | omega) rfl T.g37 T.k37 T.b37 tk (qa_cons (xV 0 V (by decide) rfl (by decide) rfl) qa_nil) (lnS ln0))) rfl))).pt
    (qs_one (qs_ret q_bl))
    qs_nil)
    (qs_one (qs_ret (q_and (q_sh (q_cmpO (ck_eq rfl hu) (q_sh (cB1 (B_len rfl) 0 V rfl T.z_len (q_sh (xLc V rfl (qi_of rfl (xV 3 V (by decide) rfl (by decide) rfl)) (ob := [("sign", 6)]) (okD (N := N__law_is_state) (by decide +kernel)) rfl rfl (N := N__law_is_state) (vis1 := [1, 6]) (loc1 := [6]) (gls1 := []) (by decide +kernel) rfl (fun _ _ _ _ _ V1 => (gV' 6 V1 (by decide) rfl rfl (by decide))) (fun _ _ _ _ _ V1 => (qts_one (qt_cmpO (ck_notIn rfl hu) (xS 6 V1 (by decide) rfl rfl) (q_sh (q_add rfl (xS 1 V1 (by decide) rfl rfl) (q_sh (q_str (by decide +kernel))))) rfl))) (fun _ _ _ _ _ V1 => (xV 6 V1 (by decide) rfl (by decide) rfl)))))) (q_sh q_int) rfl)) (q_one (q_frz (q_cmpO (ck_eq rfl hu) (q_sh (cB1 (B_len rfl) 0 V rfl T.z_len (q_sh (xLc V rfl (qi_of rfl (xV 4 V (by decide) rfl (by decide) rfl)) (ob := [("sign", 6)]) (okD (N := N__law_is_state) (by decide +kernel)) rfl rfl (N := N__law_is_state) (vis1 := [1, 6]) (loc1 := [6]) (gls1 := []) (by decide +kernel) rfl (fun _ _ _ _ _ V1 => (gV' 6 V1 (by decide) rfl rfl (by decide))) (fun _ _ _ _ _ V1 => (qts_one (qt_cmpO (ck_notIn rfl hu) (xS 6 V1 (by decide) rfl rfl) (xS 1 V1 (by decide) rfl rfl) rfl))) (fun _ _ _ _ _ V1 => (xV 6 V1 (by decide) rfl (by decide) rfl)))))) (q_sh q_int) rfl))))))))
abbrev N__law_pairs : List Str := ["state", "signs", "draws", "tail", "rest", "found"]
theorem ok__law_pairs (T : Txt K mg EC fa fd) : FnOk P w K mg base (L2.CX P w) 1 (fa 39) (fd 39) ["state", "signs", "draws"] (spM K EC 3 f__law_pairs) := by
  unfold f__law_pairs b__law_pairs
  refine fn_ok (k := 0) (N := N__law_pairs) (own' := []) T.F39 (C8.fnScope_by (by decide +kernel)) rfl (by decide) (fun cdv A outer s H E Z hr => ?_)
  have V : Scp (cxOf (L2.CX P w) P w K mg base N__law_pairs "_law_pairs" (defScope s__law_pairs) (fa 39) cdv A outer s H E) [0, 1, 2, 3, 4, 5] [0, 1, 2, 3, 4, 5] ["len"] := scp_def (by decide +kernel)
  have tk := tk_def (P := P) (w := w) (K := K) (mg := mg) (base := base) (N := N__law_pairs) (qual := "_law_pairs") (scope := defScope s__law_pairs) (f := fa 39) (cd := cdv) (A := A) (outer := outer) (s := s) (H := H) (E := E)
  have hp := ps_def (P := P) (w := w) (K := K) (mg := mg) (base := base) (N := N__law_pairs) (qual := "_law_pairs") (scope := defScope s__law_pairs) (f := fa 39) (cd := cdv) (A := A) (outer := outer) (s := s) (H := H) (E := E)
  have hu := hr.units
  have hu1 := hu_of hr
  exact (qs_cons (own1 := []) (sA (ts := [3, 4]) (xV 0 V (by decide) rfl (by decide) rfl) (qg_tup rfl rfl (qgs_cons (gV' 3 V (by decide) rfl rfl (by decide)) (qgs_cons (gV' 4 V (by decide) rfl rfl (by decide)) qgs_nil))))
    (qs_cons (own1 := []) (sA (ts := [5]) (q_frz (q_lst (qa_cons (xV 0 V (by decide) rfl (by decide) rfl) (qa_cons (q_tup (qa_cons (xV 3 V (by decide) rfl (by decide) rfl) (qa_cons (q_str (by decide +kernel)) qa_nil))) (qa_cons (q_tup (qa_cons (q_frz (q_add rfl (xS 3 V (by decide) rfl rfl) (q_sh (q_str (by decide +kernel))))) (qa_cons (xV 4 V (by decide) rfl (by decide) rfl) qa_nil))) (qa_cons (q_tup (qa_cons (q_frz (q_sli rfl (xS 3 V (by decide) rfl rfl) (qp_some (q_sh q_int)) qp_none)) (qa_cons (xV 4 V (by decide) rfl (by decide) rfl) qa_nil))) (qa_cons (q_tup (qa_cons (xV 3 V (by decide) rfl (by decide) rfl) (qa_cons (q_frz (q_add rfl (xS 4 V (by decide) rfl rfl) (q_sh (q_idx rfl hu1 (xS 1 V (by decide) rfl rfl) (q_sh q_int) (fun _ _ => rfl))))) qa_nil))) (qa_cons (q_tup (qa_cons (xV 3 V (by decide) rfl (by decide) rfl) (qa_cons (q_frz (q_add rfl (xS 4 V (by decide) rfl rfl) (q_sh (q_mulA rfl (xS 1 V (by decide) rfl rfl) (q_sh q_int))))) qa_nil))) qa_nil)))))))) (gV' 5 V (by decide) rfl rfl (by decide)))
    (qs_cons (own1 := []) (sA (ts := [5]) (q_frz (q_add rfl (xS 5 V (by decide) rfl rfl) (q_sh (q_lst (qa_cons (q_tup (qa_cons (xV 3 V (by decide) rfl (by decide) rfl) (qa_cons (q_str (by decide +kernel)) qa_nil))) (qa_cons (q_tup (qa_cons (xV 3 V (by decide) rfl (by decide) rfl) (qa_cons (q_frz (q_add rfl (q_sh (q_sli rfl (xS 4 V (by decide) rfl rfl) (qp_some (q_sh q_int)) qp_none)) (q_sh (q_str (by decide +kernel))))) qa_nil))) (qa_cons (q_tup (qa_cons (q_frz (q_mulA rfl (q_sh (q_str (by decide +kernel))) (q_sh (cB1 (B_len rfl) 0 V rfl T.z_len (xS 3 V (by decide) rfl rfl))))) (qa_cons (xV 4 V (by decide) rfl (by decide) rfl) qa_nil))) (qa_cons (q_tup (qa_cons (q_frz (q_sli rfl (q_sh (q_add rfl (q_sh (q_add rfl (q_sh (q_idx rfl hu1 (xS 1 V (by decide) rfl rfl) (q_sh q_int) (fun _ _ => rfl))) (q_sh (q_str (by decide +kernel))))) (q_sh (q_idx rfl hu1 (xS 1 V (by decide) rfl rfl) (q_sh q_int) (fun _ _ => rfl))))) (qp_some (q_sh q_int)) (qp_some (q_sh (cB1 (B_len rfl) 0 V rfl T.z_len (xS 3 V (by decide) rfl rfl)))))) (qa_cons (xV 4 V (by decide) rfl (by decide) rfl) qa_nil))) qa_nil)))))))) (gV' 5 V (by decide) rfl rfl (by decide)))
    (qs_one (qs_ret (q_frz (q_add rfl (xS 5 V (by decide) rfl rfl) (q_sh (q_lst (qa_cons (q_tup (qa_cons (q_frz (q_sli rfl (q_sh (q_add rfl (q_sh (q_str (by decide +kernel))) (xS 1 V (by decide) rfl rfl))) (qp_some (q_sh q_int)) (qp_some (q_sh (cB1 (B_len rfl) 0 V rfl T.z_len (xS 3 V (by decide) rfl rfl)))))) (qa_cons (xV 4 V (by decide) rfl (by decide) rfl) qa_nil))) (qa_cons (q_tup (qa_cons (q_str (by decide +kernel)) (qa_cons (xV 4 V (by decide) rfl (by decide) rfl) qa_nil))) (qa_cons (q_tup (qa_cons (xV 3 V (by decide) rfl (by decide) rfl) (qa_cons (q_idx rfl hu1 (xS 1 V (by decide) rfl rfl) (q_sh (q_mod (q_sh (q_idx rfl hu1 (xS 2 V (by decide) rfl rfl) (q_sh q_int) (fun _ _ => rfl))) (q_sh (cB1 (B_len rfl) 0 V rfl T.z_len (xS 1 V (by decide) rfl rfl))))) (fun _ _ => rfl)) qa_nil))) qa_nil))))))))))))
abbrev N_law : List Str := ["script", "draws", "signs", "sizes", "rules", "kept", "k", "text", "state", "out", "sign", "later", "more", "numbers", "whole", "pair"]
theorem ok_law (T : Txt K mg EC fa fd) : FnOk P w K mg base (L2.CX P w) 14 (fa 40) (fd 40) ["script"] (spM K EC 1 f_law) := by
  unfold f_law b_law
  refine fn_ok (k := 13) (N := N_law) (own' := []) T.F40 (C8.fnScope_by (by decide +kernel)) rfl (by decide) (fun cdv A outer s H E Z hr => ?_)
  have V : Scp (cxOf (L2.CX P w) P w K mg base N_law "law" (defScope s_law) (fa 40) cdv A outer s H E) [0, 1, 2, 3, 4, 5, 6, 7, 8, 9, 10, 11, 12, 13, 14, 15] [0, 1, 2, 3, 4, 5, 6, 7, 8, 9, 10, 11, 12, 13, 14, 15] ["_law_numbers", "_law_cell", "_law_signs", "_law_rules", "list", "_law_same", "reach", "_law_reach", "first_state", "_law_first", "range", "_law_text", "_law_read", "watch", "leave", "_law_taken", "len", "_law_spell", "spell", "_law_pairs", "is_state", "_law_is_state"] := scp_def (by decide +kernel)
  have tk := tk_def (P := P) (w := w) (K := K) (mg := mg) (base := base) (N := N_law) (qual := "law") (scope := defScope s_law) (f := fa 40) (cd := cdv) (A := A) (outer := outer) (s := s) (H := H) (E := E)
  have hp := ps_def (P := P) (w := w) (K := K) (mg := mg) (base := base) (N := N_law) (qual := "law") (scope := defScope s_law) (f := fa 40) (cd := cdv) (A := A) (outer := outer) (s := s) (H := H) (E := E)
  have hu := hr.units
  have hu1 := hu_of hr
  exact (qs_cons (own1 := []) (sA (ts := [1]) (cDef 0 V (ok__law_numbers T) rfl hr (by first | decide | omega) rfl T.g20 T.k20 T.b20 tk (qa_cons (cDef 1 V (ok__law_cell T) rfl hr (by first | decide | omega) rfl T.g19 T.k19 T.b19 tk (qa_cons (xV 0 V (by decide) rfl (by decide) rfl) (qa_cons q_int qa_nil)) (lnS (lnS ln0))) (qa_cons q_int (qa_cons q_int qa_nil))) (lnS (lnS (lnS ln0)))) (gV' 1 V (by decide) rfl rfl (by decide)))
    (qs_cons (own1 := []) (sA (ts := [2]) (cDef 2 V (ok__law_signs T) rfl hr (by first | decide | omega) rfl T.g22 T.k22 T.b22 tk (qa_cons (q_idx rfl hu1 (xS 1 V (by decide) rfl rfl) (q_sh q_int) (fun _ _ => rfl)) (qa_cons (q_frz (q_add rfl (q_sh q_int) (q_sh (q_mod (q_sh (q_idx rfl hu1 (xS 1 V (by decide) rfl rfl) (q_sh q_int) (fun _ _ => rfl))) (q_sh q_int))))) qa_nil)) (lnS (lnS ln0))) (gV' 2 V (by decide) rfl rfl (by decide)))
    (qs_cons (own1 := []) (sA (ts := [3]) (q_idx rfl hu1 (q_sh (q_lst (qa_cons (q_frz (q_lst (qa_cons q_int (qa_cons q_int (qa_cons q_int qa_nil))))) (qa_cons (q_frz (q_lst (qa_cons q_int (qa_cons q_int (qa_cons q_int qa_nil))))) (qa_cons (q_frz (q_lst (qa_cons q_int (qa_cons q_int (qa_cons q_int qa_nil))))) (qa_cons (q_frz (q_lst (qa_cons q_int (qa_cons q_int (qa_cons q_int qa_nil))))) qa_nil)))))) (q_sh (q_mod (q_sh (q_idx rfl hu1 (xS 1 V (by decide) rfl rfl) (q_sh q_int) (fun _ _ => rfl))) (q_sh q_int))) (fun _ _ => rfl)) (gV' 3 V (by decide) rfl rfl (by decide)))
    (qs_cons (own1 := []) (sA (ts := [4]) (cDef 3 V (ok__law_rules T) rfl hr (by first | decide | omega) rfl T.g26 T.k26 T.b26 tk (qa_cons (xV 0 V (by decide) rfl (by decide) rfl) (qa_cons q_int (qa_cons (xV 2 V (by decide) rfl (by decide) rfl) (qa_cons (q_frz (q_add rfl (q_sh (q_str (by decide +kernel))) (xS 2 V (by decide) rfl rfl))) (qa_cons q_int (qa_cons (xV 3 V (by decide) rfl (by decide) rfl) qa_nil)))))) (lnS (lnS (lnS (lnS (lnS (lnS ln0))))))) (gV' 4 V (by decide) rfl rfl (by decide)))
    (qs_cons (own1 := []) (sA (ts := [5]) (q_frz (cT1 (T_listA rfl rfl) 4 V rfl T.z_list (xS 4 V (by decide) rfl rfl))) (gV' 5 V (by decide) rfl rfl (by decide)))
    (qs_cons (own1 := []) (qs_if (qw_or (qt_not (qt_val (q_sh (cDef 5 V (ok__law_same T 12) rfl hr (by first | decide | omega) rfl T.g21 T.k21 T.b21 tk (qa_cons (cDef 6 V (ok_reach T) rfl hr (by first | decide | omega) rfl T.g6 T.k6 T.b6 tk (qa_cons (xV 4 V (by decide) rfl (by decide) rfl) qa_nil) (lnS ln0)) (qa_cons (cDef 7 V (ok__law_reach T) rfl hr (by first | decide | omega) rfl T.g37 T.k37 T.b37 tk (qa_cons (xV 4 V (by decide) rfl (by decide) rfl) qa_nil) (lnS ln0)) qa_nil)) (lnS (lnS ln0)))))) (qw_or1 (qt_not (qt_val (q_sh (cDef 5 V (ok__law_same T 12) rfl hr (by first | decide | omega) rfl T.g21 T.k21 T.b21 tk (qa_cons (cDef 8 V (ok_first_state T) rfl hr (by first | decide | omega) rfl T.g8 T.k8 T.b8 tk (qa_cons (xV 4 V (by decide) rfl (by decide) rfl) qa_nil) (lnS ln0)) (qa_cons (cDef 9 V (ok__law_first T) rfl hr (by first | decide | omega) rfl T.g36 T.k36 T.b36 tk (qa_cons (xV 4 V (by decide) rfl (by decide) rfl) qa_nil) (lnS ln0)) qa_nil)) (lnS (lnS ln0)))))))).pt
    (qs_one (qs_ret q_bl))
    qs_nil)
    (qs_cons (own1 := []) (qs_for (own' := []) (own1 := []) (ts := [6]) hp rfl (iRa1 10 V rfl T.z_range (q_sh q_int)) (by decide) (gV' 6 V (by decide) rfl rfl (by decide))
    (qs_cons (own1 := []) (sA (ts := [7]) (cDef 11 V (ok__law_text T) rfl hr (by first | decide | omega) rfl T.g27 T.k27 T.b27 tk (qa_cons (xV 0 V (by decide) rfl (by decide) rfl) (qa_cons (q_frz (q_add rfl (q_sh q_int) (xS 6 V (by decide) rfl rfl))) (qa_cons (xV 2 V (by decide) rfl (by decide) rfl) (qa_cons q_int qa_nil)))) (lnS (lnS (lnS (lnS ln0))))) (gV' 7 V (by decide) rfl rfl (by decide)))
    (qs_cons (own1 := []) (sA (ts := [8]) (cDef 9 V (ok__law_first T) rfl hr (by first | decide | omega) rfl T.g36 T.k36 T.b36 tk (qa_cons (xV 4 V (by decide) rfl (by decide) rfl) qa_nil) (lnS ln0)) (gV' 8 V (by decide) rfl rfl (by decide)))
    (qs_cons (own1 := []) (sA (ts := [9]) (q_str (by decide +kernel)) (gV' 9 V (by decide) rfl rfl (by decide)))
    (qs_cons (own1 := []) (qs_for (own' := []) (own1 := []) (ts := [10]) hp rfl (qi_of rfl (xV 7 V (by decide) rfl (by decide) rfl)) (by decide) (gV' 10 V (by decide) rfl rfl (by decide))
    (qs_cons (own1 := []) (sA (ts := [11, 12, 13]) (cDef 12 V (ok__law_read T) rfl hr (by first | decide | omega) rfl T.g35 T.k35 T.b35 tk (qa_cons (xV 4 V (by decide) rfl (by decide) rfl) (qa_cons (xV 8 V (by decide) rfl (by decide) rfl) (qa_cons (xV 10 V (by decide) rfl (by decide) rfl) qa_nil))) (lnS (lnS (lnS ln0)))) (qg_tup rfl rfl (qgs_cons (gV' 11 V (by decide) rfl rfl (by decide)) (qgs_cons (gV' 12 V (by decide) rfl rfl (by decide)) (qgs_cons (gV' 13 V (by decide) rfl rfl (by decide)) qgs_nil)))))
    (qs_cons (own1 := []) (qs_if (qt_not (qt_val (q_sh (cDef 5 V (ok__law_same T 12) rfl hr (by first | decide | omega) rfl T.g21 T.k21 T.b21 tk (qa_cons (cDef 13 V (ok_watch T) rfl hr (by first | decide | omega) rfl T.g16 T.k16 T.b16 tk (qa_cons (xV 4 V (by decide) rfl (by decide) rfl) (qa_cons (xV 8 V (by decide) rfl (by decide) rfl) (qa_cons (xV 10 V (by decide) rfl (by decide) rfl) qa_nil))) (lnS (lnS (lnS ln0)))) (qa_cons (q_tup (qa_cons (xV 11 V (by decide) rfl (by decide) rfl) (qa_cons (xV 12 V (by decide) rfl (by decide) rfl) qa_nil))) qa_nil)) (lnS (lnS ln0))))))
    (qs_one (qs_ret q_bl))
    qs_nil)
    (qs_cons (own1 := []) (sA (ts := [8]) (xV 11 V (by decide) rfl (by decide) rfl) (gV' 8 V (by decide) rfl rfl (by decide)))
    (qs_cons (own1 := []) (sA (ts := [9]) (q_frz (q_add rfl (xS 9 V (by decide) rfl rfl) (xS 12 V (by decide) rfl rfl))) (gV' 9 V (by decide) rfl rfl (by decide)))
    (qs_cons (own1 := []) (qs_if (qt_not (qt_val (q_sh (cDef 5 V (ok__law_same T 12) rfl hr (by first | decide | omega) rfl T.g21 T.k21 T.b21 tk (qa_cons (cDef 14 V (ok_leave T) rfl hr (by first | decide | omega) rfl T.g17 T.k17 T.b17 tk (qa_cons (xV 4 V (by decide) rfl (by decide) rfl) (qa_cons (xV 8 V (by decide) rfl (by decide) rfl) qa_nil)) (lnS (lnS ln0))) (qa_cons (q_idx rfl hu1 (q_sh (cDef 15 V (ok__law_taken T) rfl hr (by first | decide | omega) rfl T.g34 T.k34 T.b34 tk (qa_cons (xV 4 V (by decide) rfl (by decide) rfl) (qa_cons (xV 8 V (by decide) rfl (by decide) rfl) (qa_cons q_bl qa_nil))) (lnS (lnS (lnS ln0))))) (q_sh q_int) (fun _ _ => rfl)) qa_nil)) (lnS (lnS ln0))))))
    (qs_one (qs_ret q_bl))
    qs_nil)
    (qs_one (qs_if (qt_cmpO ck_ge (q_sh (cB1 (B_len rfl) 16 V rfl T.z_len (q_sh (q_idx rfl hu1 (xS 8 V (by decide) rfl rfl) (q_sh q_int) (fun _ _ => rfl))))) (q_sh (cDef 7 V (ok__law_reach T) rfl hr (by first | decide | omega) rfl T.g37 T.k37 T.b37 tk (qa_cons (xV 4 V (by decide) rfl (by decide) rfl) qa_nil) (lnS ln0))) rfl)
    (qs_one (qs_ret q_bl))
    qs_nil))))))) (hK := rfl))
    (qs_cons (own1 := []) (sA (ts := [14]) (cDef 17 V (ok__law_spell T) rfl hr (by first | decide | omega) rfl T.g31 T.k31 T.b31 tk (qa_cons (xV 4 V (by decide) rfl (by decide) rfl) (qa_cons (xV 7 V (by decide) rfl (by decide) rfl) qa_nil)) (lnS (lnS ln0))) (gV' 14 V (by decide) rfl rfl (by decide)))
    (qs_cons (own1 := []) (qs_if (qw_or (qt_cmpO (ck_ne rfl hu) (q_sh (q_add rfl (xS 9 V (by decide) rfl rfl) (q_sh (cDef 14 V (ok_leave T) rfl hr (by first | decide | omega) rfl T.g17 T.k17 T.b17 tk (qa_cons (xV 4 V (by decide) rfl (by decide) rfl) (qa_cons (xV 8 V (by decide) rfl (by decide) rfl) qa_nil)) (lnS (lnS ln0)))))) (xS 14 V (by decide) rfl rfl) rfl) (qw_or1 (qt_not (qt_val (q_sh (cDef 5 V (ok__law_same T 12) rfl hr (by first | decide | omega) rfl T.g21 T.k21 T.b21 tk (qa_cons (cDef 18 V (ok_spell T) rfl hr (by first | decide | omega) rfl T.g5 T.k5 T.b5 tk (qa_cons (xV 4 V (by decide) rfl (by decide) rfl) (qa_cons (xV 7 V (by decide) rfl (by decide) rfl) qa_nil)) (lnS (lnS ln0))) (qa_cons (xV 14 V (by decide) rfl (by decide) rfl) qa_nil)) (lnS (lnS ln0)))))))).pt
    (qs_one (qs_ret q_bl))
    qs_nil)
    (qs_one (qs_for (own' := []) (own1 := []) (ts := [15]) hp rfl (qi_of rfl (cDef 19 V (ok__law_pairs T) rfl hr (by first | decide | omega) rfl T.g39 T.k39 T.b39 tk (qa_cons (xV 8 V (by decide) rfl (by decide) rfl) (qa_cons (xV 2 V (by decide) rfl (by decide) rfl) (qa_cons (q_frz (q_sli rfl (xS 1 V (by decide) rfl rfl) (qp_some (q_sh q_int)) qp_none)) qa_nil))) (lnS (lnS (lnS ln0))))) (by decide) (gV' 15 V (by decide) rfl rfl (by decide))
    (qs_one (qs_if (qt_not (qt_val (q_sh (cDef 5 V (ok__law_same T 12) rfl hr (by first | decide | omega) rfl T.g21 T.k21 T.b21 tk (qa_cons (cDef 20 V (ok_is_state T) rfl hr (by first | decide | omega) rfl T.g18 T.k18 T.b18 tk (qa_cons (xV 4 V (by decide) rfl (by decide) rfl) (qa_cons (xV 2 V (by decide) rfl (by decide) rfl) (qa_cons (xV 15 V (by decide) rfl (by decide) rfl) qa_nil))) (lnS (lnS (lnS ln0)))) (qa_cons (cDef 21 V (ok__law_is_state T) rfl hr (by first | decide | omega) rfl T.g38 T.k38 T.b38 tk (qa_cons (xV 4 V (by decide) rfl (by decide) rfl) (qa_cons (xV 2 V (by decide) rfl (by decide) rfl) (qa_cons (xV 15 V (by decide) rfl (by decide) rfl) qa_nil))) (lnS (lnS (lnS ln0)))) qa_nil)) (lnS (lnS ln0))))))
    (qs_one (qs_ret q_bl))
    qs_nil)) (hK := rfl))))))))) (hK := rfl))
    (qs_one (qs_ret (q_frz (q_cmpO (ck_eq rfl hu) (xS 5 V (by decide) rfl rfl) (xS 4 V (by decide) rfl rfl) rfl)))))))))))
end
theorem all_mk {P : Program} {w : World} {K : KF} {h : Heap} {mg : Str → Option Value} {fa : Addr} (X : K.In h) (G : h.Ns mainGlobals mg) (hfa : mg "law" = some (.ref fa))
    {f_0 : Addr} {od_1 : Option Addr} {an_2 : Option Addr} {sl_3 : Array (Option Value)} {oc_4 : Value} {kV_5 : Value} {dc_6 : Value} {pm_7 : Value} {cd_8 : Value} {ct_9 : Value} {f_10 : Addr} {od_11 : Option Addr} {an_12 : Option Addr} {sl_13 : Array (Option Value)} {oc_14 : Value} {kV_15 : Value} {dc_16 : Value} {pm_17 : Value} {cd_18 : Value} {ct_19 : Value} {f_20 : Addr} {od_21 : Option Addr} {an_22 : Option Addr} {sl_23 : Array (Option Value)} {oc_24 : Value} {kV_25 : Value} {dc_26 : Value} {pm_27 : Value} {cd_28 : Value} {ct_29 : Value} {f_30 : Addr} {od_31 : Option Addr} {an_32 : Option Addr} {sl_33 : Array (Option Value)} {oc_34 : Value} {kV_35 : Value} {dc_36 : Value} {pm_37 : Value} {cd_38 : Value} {ct_39 : Value} {f_40 : Addr} {od_41 : Option Addr} {an_42 : Option Addr} {sl_43 : Array (Option Value)} {oc_44 : Value} {kV_45 : Value} {dc_46 : Value} {pm_47 : Value} {cd_48 : Value} {ct_49 : Value} {f_50 : Addr} {od_51 : Option Addr} {an_52 : Option Addr} {sl_53 : Array (Option Value)} {oc_54 : Value} {kV_55 : Value} {dc_56 : Value} {pm_57 : Value} {cd_58 : Value} {ct_59 : Value} {f_60 : Addr} {od_61 : Option Addr} {an_62 : Option Addr} {sl_63 : Array (Option Value)} {oc_64 : Value} {kV_65 : Value} {dc_66 : Value} {pm_67 : Value} {cd_68 : Value} {ct_69 : Value} {f_70 : Addr} {od_71 : Option Addr} {an_72 : Option Addr} {sl_73 : Array (Option Value)} {oc_74 : Value} {kV_75 : Value} {dc_76 : Value} {pm_77 : Value} {cd_78 : Value} {ct_79 : Value} {f_80 : Addr} {od_81 : Option Addr} {an_82 : Option Addr} {sl_83 : Array (Option Value)} {oc_84 : Value} {kV_85 : Value} {dc_86 : Value} {pm_87 : Value} {cd_88 : Value} {ct_89 : Value} {f_90 : Addr} {od_91 : Option Addr} {an_92 : Option Addr} {sl_93 : Array (Option Value)} {oc_94 : Value} {kV_95 : Value} {dc_96 : Value} {pm_97 : Value} {cd_98 : Value} {ct_99 : Value} {f_100 : Addr} {od_101 : Option Addr} {an_102 : Option Addr} {sl_103 : Array (Option Value)} {oc_104 : Value} {kV_105 : Value} {dc_106 : Value} {pm_107 : Value} {cd_108 : Value} {ct_109 : Value} {f_110 : Addr} {od_111 : Option Addr} {an_112 : Option Addr} {sl_113 : Array (Option Value)} {oc_114 : Value} {kV_115 : Value} {dc_116 : Value} {pm_117 : Value} {cd_118 : Value} {ct_119 : Value} {f_120 : Addr} {od_121 : Option Addr} {an_122 : Option Addr} {sl_123 : Array (Option Value)} {oc_124 : Value} {kV_125 : Value} {dc_126 : Value} {pm_127 : Value} {cd_128 : Value} {ct_129 : Value} {f_130 : Addr} {od_131 : Option Addr} {an_132 : Option Addr} {sl_133 : Array (Option Value)} {oc_134 : Value} {kV_135 : Value} {dc_136 : Value} {pm_137 : Value} {cd_138 : Value} {ct_139 : Value} {f_140 : Addr} {od_141 : Option Addr} {an_142 : Option Addr} {sl_143 : Array (Option Value)} {oc_144 : Value} {kV_145 : Value} {dc_146 : Value} {pm_147 : Value} {cd_148 : Value} {ct_149 : Value} {f_150 : Addr} {od_151 : Option Addr} {an_152 : Option Addr} {sl_153 : Array (Option Value)} {oc_154 : Value} {kV_155 : Value} {dc_156 : Value} {pm_157 : Value} {cd_158 : Value} {ct_159 : Value} {f_160 : Addr} {od_161 : Option Addr} {an_162 : Option Addr} {sl_163 : Array (Option Value)} {oc_164 : Value} {kV_165 : Value} {dc_166 : Value} {pm_167 : Value} {cd_168 : Value} {ct_169 : Value} {f_170 : Addr} {od_171 : Option Addr} {an_172 : Option Addr} {sl_173 : Array (Option Value)} {oc_174 : Value} {kV_175 : Value} {dc_176 : Value} {pm_177 : Value} {cd_178 : Value} {ct_179 : Value} {f_180 : Addr} {od_181 : Option Addr} {an_182 : Option Addr} {sl_183 : Array (Option Value)} {oc_184 : Value} {kV_185 : Value} {dc_186 : Value} {pm_187 : Value} {cd_188 : Value} {ct_189 : Value} {f_190 : Addr} {od_191 : Option Addr} {an_192 : Option Addr} {sl_193 : Array (Option Value)} {oc_194 : Value} {kV_195 : Value} {dc_196 : Value} {pm_197 : Value} {cd_198 : Value} {ct_199 : Value} {f_200 : Addr} {od_201 : Option Addr} {an_202 : Option Addr} {sl_203 : Array (Option Value)} {oc_204 : Value} {kV_205 : Value} {dc_206 : Value} {pm_207 : Value} {cd_208 : Value} {ct_209 : Value} {f_210 : Addr} {od_211 : Option Addr} {an_212 : Option Addr} {sl_213 : Array (Option Value)} {oc_214 : Value} {kV_215 : Value} {dc_216 : Value} {pm_217 : Value} {cd_218 : Value} {ct_219 : Value} {f_220 : Addr} {od_221 : Option Addr} {an_222 : Option Addr} {sl_223 : Array (Option Value)} {oc_224 : Value} {kV_225 : Value} {dc_226 : Value} {pm_227 : Value} {cd_228 : Value} {ct_229 : Value} {f_230 : Addr} {od_231 : Option Addr} {an_232 : Option Addr} {sl_233 : Array (Option Value)} {oc_234 : Value} {kV_235 : Value} {dc_236 : Value} {pm_237 : Value} {cd_238 : Value} {ct_239 : Value} {f_240 : Addr} {od_241 : Option Addr} {an_242 : Option Addr} {sl_243 : Array (Option Value)} {oc_244 : Value} {kV_245 : Value} {dc_246 : Value} {pm_247 : Value} {cd_248 : Value} {ct_249 : Value} {f_250 : Addr} {od_251 : Option Addr} {an_252 : Option Addr} {sl_253 : Array (Option Value)} {oc_254 : Value} {kV_255 : Value} {dc_256 : Value} {pm_257 : Value} {cd_258 : Value} {ct_259 : Value} {f_260 : Addr} {od_261 : Option Addr} {an_262 : Option Addr} {sl_263 : Array (Option Value)} {oc_264 : Value} {kV_265 : Value} {dc_266 : Value} {pm_267 : Value} {cd_268 : Value} {ct_269 : Value} {f_270 : Addr} {od_271 : Option Addr} {an_272 : Option Addr} {sl_273 : Array (Option Value)} {oc_274 : Value} {kV_275 : Value} {dc_276 : Value} {pm_277 : Value} {cd_278 : Value} {ct_279 : Value} {f_280 : Addr} {od_281 : Option Addr} {an_282 : Option Addr} {sl_283 : Array (Option Value)} {oc_284 : Value} {kV_285 : Value} {dc_286 : Value} {pm_287 : Value} {cd_288 : Value} {ct_289 : Value} {f_290 : Addr} {od_291 : Option Addr} {an_292 : Option Addr} {sl_293 : Array (Option Value)} {oc_294 : Value} {kV_295 : Value} {dc_296 : Value} {pm_297 : Value} {cd_298 : Value} {ct_299 : Value} {f_300 : Addr} {od_301 : Option Addr} {an_302 : Option Addr} {sl_303 : Array (Option Value)} {oc_304 : Value} {kV_305 : Value} {dc_306 : Value} {pm_307 : Value} {cd_308 : Value} {ct_309 : Value} {f_310 : Addr} {od_311 : Option Addr} {an_312 : Option Addr} {sl_313 : Array (Option Value)} {oc_314 : Value} {kV_315 : Value} {dc_316 : Value} {pm_317 : Value} {cd_318 : Value} {ct_319 : Value} {f_320 : Addr} {od_321 : Option Addr} {an_322 : Option Addr} {sl_323 : Array (Option Value)} {oc_324 : Value} {kV_325 : Value} {dc_326 : Value} {pm_327 : Value} {cd_328 : Value} {ct_329 : Value} {f_330 : Addr} {od_331 : Option Addr} {an_332 : Option Addr} {sl_333 : Array (Option Value)} {oc_334 : Value} {kV_335 : Value} {dc_336 : Value} {pm_337 : Value} {cd_338 : Value} {ct_339 : Value} {f_340 : Addr} {od_341 : Option Addr} {an_342 : Option Addr} {sl_343 : Array (Option Value)} {oc_344 : Value} {kV_345 : Value} {dc_346 : Value} {pm_347 : Value} {cd_348 : Value} {ct_349 : Value} {f_350 : Addr} {od_351 : Option Addr} {an_352 : Option Addr} {sl_353 : Array (Option Value)} {oc_354 : Value} {kV_355 : Value} {dc_356 : Value} {pm_357 : Value} {cd_358 : Value} {ct_359 : Value} {f_360 : Addr} {od_361 : Option Addr} {an_362 : Option Addr} {sl_363 : Array (Option Value)} {oc_364 : Value} {kV_365 : Value} {dc_366 : Value} {pm_367 : Value} {cd_368 : Value} {ct_369 : Value} {f_370 : Addr} {od_371 : Option Addr} {an_372 : Option Addr} {sl_373 : Array (Option Value)} {oc_374 : Value} {kV_375 : Value} {dc_376 : Value} {pm_377 : Value} {cd_378 : Value} {ct_379 : Value} {f_380 : Addr} {od_381 : Option Addr} {an_382 : Option Addr} {sl_383 : Array (Option Value)} {oc_384 : Value} {kV_385 : Value} {dc_386 : Value} {pm_387 : Value} {cd_388 : Value} {ct_389 : Value} {f_390 : Addr} {od_391 : Option Addr} {an_392 : Option Addr} {sl_393 : Array (Option Value)} {oc_394 : Value} {kV_395 : Value} {dc_396 : Value} {pm_397 : Value} {cd_398 : Value} {ct_399 : Value} {f_400 : Addr} {od_401 : Option Addr} {an_402 : Option Addr} {sl_403 : Array (Option Value)} {oc_404 : Value} {kV_405 : Value} {dc_406 : Value} {pm_407 : Value} {cd_408 : Value} {ct_409 : Value} {t_410 : Tok} {x_411 : Str} {t_412 : Tok} {t_413 : Tok} {t_414 : Tok}
    (q0 : PySem.W.nsIn K mainGlobals "sign_at" = some (some (.ref f_0)))
    (q1 : K.lookup f_0 = some ⟨oc_4, od_1, .func (PySem.W.fnOf "sign_at" "sign_at" (defArgs s_sign_at) (defBody s_sign_at) (defScope s_sign_at) .none kV_5 dc_6 pm_7 an_2 cd_8 ct_9), sl_3⟩)
    (q2 : PySem.W.codeIn K cd_8 "sign_at" = true)
    (q3 : PySem.W.keepIn K (.ref f_0) = true)
    (q4 : PySem.W.nsIn K mainGlobals "lets" = some (some (.ref f_10)))
    (q5 : K.lookup f_10 = some ⟨oc_14, od_11, .func (PySem.W.fnOf "lets" "lets" (defArgs s_lets) (defBody s_lets) (defScope s_lets) .none kV_15 dc_16 pm_17 an_12 cd_18 ct_19), sl_13⟩)
    (q6 : PySem.W.codeIn K cd_18 "lets" = true)
    (q7 : PySem.W.keepIn K (.ref f_10) = true)
    (q8 : PySem.W.nsIn K mainGlobals "fits_at" = some (some (.ref f_20)))
    (q9 : K.lookup f_20 = some ⟨oc_24, od_21, .func (PySem.W.fnOf "fits_at" "fits_at" (defArgs s_fits_at) (defBody s_fits_at) (defScope s_fits_at) .none kV_25 dc_26 pm_27 an_22 cd_28 ct_29), sl_23⟩)
    (q10 : PySem.W.codeIn K cd_28 "fits_at" = true)
    (q11 : PySem.W.keepIn K (.ref f_20) = true)
    (q12 : PySem.W.nsIn K mainGlobals "choice_at" = some (some (.ref f_30)))
    (q13 : K.lookup f_30 = some ⟨oc_34, od_31, .func (PySem.W.fnOf "choice_at" "choice_at" (defArgs s_choice_at) (defBody s_choice_at) (defScope s_choice_at) .none kV_35 dc_36 pm_37 an_32 cd_38 ct_39), sl_33⟩)
    (q14 : PySem.W.codeIn K cd_38 "choice_at" = true)
    (q15 : PySem.W.keepIn K (.ref f_30) = true)
    (q16 : PySem.W.nsIn K mainGlobals "places_of" = some (some (.ref f_40)))
    (q17 : K.lookup f_40 = some ⟨oc_44, od_41, .func (PySem.W.fnOf "places_of" "places_of" (defArgs s_places_of) (defBody s_places_of) (defScope s_places_of) .none kV_45 dc_46 pm_47 an_42 cd_48 ct_49), sl_43⟩)
    (q18 : PySem.W.codeIn K cd_48 "places_of" = true)
    (q19 : PySem.W.keepIn K (.ref f_40) = true)
    (q20 : PySem.W.nsIn K mainGlobals "spell" = some (some (.ref f_50)))
    (q21 : K.lookup f_50 = some ⟨oc_54, od_51, .func (PySem.W.fnOf "spell" "spell" (defArgs s_spell) (defBody s_spell) (defScope s_spell) .none kV_55 dc_56 pm_57 an_52 cd_58 ct_59), sl_53⟩)
    (q22 : PySem.W.codeIn K cd_58 "spell" = true)
    (q23 : PySem.W.keepIn K (.ref f_50) = true)
    (q24 : PySem.W.nsIn K mainGlobals "reach" = some (some (.ref f_60)))
    (q25 : K.lookup f_60 = some ⟨oc_64, od_61, .func (PySem.W.fnOf "reach" "reach" (defArgs s_reach) (defBody s_reach) (defScope s_reach) .none kV_65 dc_66 pm_67 an_62 cd_68 ct_69), sl_63⟩)
    (q26 : PySem.W.codeIn K cd_68 "reach" = true)
    (q27 : PySem.W.keepIn K (.ref f_60) = true)
    (q28 : PySem.W.nsIn K mainGlobals "tail_size" = some (some (.ref f_70)))
    (q29 : K.lookup f_70 = some ⟨oc_74, od_71, .func (PySem.W.fnOf "tail_size" "tail_size" (defArgs s_tail_size) (defBody s_tail_size) (defScope s_tail_size) .none kV_75 dc_76 pm_77 an_72 cd_78 ct_79), sl_73⟩)
    (q30 : PySem.W.codeIn K cd_78 "tail_size" = true)
    (q31 : PySem.W.keepIn K (.ref f_70) = true)
    (q32 : PySem.W.nsIn K mainGlobals "first_state" = some (some (.ref f_80)))
    (q33 : K.lookup f_80 = some ⟨oc_84, od_81, .func (PySem.W.fnOf "first_state" "first_state" (defArgs s_first_state) (defBody s_first_state) (defScope s_first_state) .none kV_85 dc_86 pm_87 an_82 cd_88 ct_89), sl_83⟩)
    (q34 : PySem.W.codeIn K cd_88 "first_state" = true)
    (q35 : PySem.W.keepIn K (.ref f_80) = true)
    (q36 : PySem.W.nsIn K mainGlobals "lets_tail" = some (some (.ref f_90)))
    (q37 : K.lookup f_90 = some ⟨oc_94, od_91, .func (PySem.W.fnOf "lets_tail" "lets_tail" (defArgs s_lets_tail) (defBody s_lets_tail) (defScope s_lets_tail) .none kV_95 dc_96 pm_97 an_92 cd_98 ct_99), sl_93⟩)
    (q38 : PySem.W.codeIn K cd_98 "lets_tail" = true)
    (q39 : PySem.W.keepIn K (.ref f_90) = true)
    (q40 : PySem.W.nsIn K mainGlobals "asked" = some (some (.ref f_100)))
    (q41 : K.lookup f_100 = some ⟨oc_104, od_101, .func (PySem.W.fnOf "asked" "asked" (defArgs s_asked) (defBody s_asked) (defScope s_asked) .none kV_105 dc_106 pm_107 an_102 cd_108 ct_109), sl_103⟩)
    (q42 : PySem.W.codeIn K cd_108 "asked" = true)
    (q43 : PySem.W.keepIn K (.ref f_100) = true)
    (q44 : PySem.W.nsIn K mainGlobals "standing" = some (some (.ref f_110)))
    (q45 : K.lookup f_110 = some ⟨oc_114, od_111, .func (PySem.W.fnOf "standing" "standing" (defArgs s_standing) (defBody s_standing) (defScope s_standing) .none kV_115 dc_116 pm_117 an_112 cd_118 ct_119), sl_113⟩)
    (q46 : PySem.W.codeIn K cd_118 "standing" = true)
    (q47 : PySem.W.keepIn K (.ref f_110) = true)
    (q48 : PySem.W.nsIn K mainGlobals "settled_choice" = some (some (.ref f_120)))
    (q49 : K.lookup f_120 = some ⟨oc_124, od_121, .func (PySem.W.fnOf "settled_choice" "settled_choice" (defArgs s_settled_choice) (defBody s_settled_choice) (defScope s_settled_choice) .none kV_125 dc_126 pm_127 an_122 cd_128 ct_129), sl_123⟩)
    (q50 : PySem.W.codeIn K cd_128 "settled_choice" = true)
    (q51 : PySem.W.keepIn K (.ref f_120) = true)
    (q52 : PySem.W.nsIn K mainGlobals "passed" = some (some (.ref f_130)))
    (q53 : K.lookup f_130 = some ⟨oc_134, od_131, .func (PySem.W.fnOf "passed" "passed" (defArgs s_passed) (defBody s_passed) (defScope s_passed) .none kV_135 dc_136 pm_137 an_132 cd_138 ct_139), sl_133⟩)
    (q54 : PySem.W.codeIn K cd_138 "passed" = true)
    (q55 : PySem.W.keepIn K (.ref f_130) = true)
    (q56 : PySem.W.nsIn K mainGlobals "taken" = some (some (.ref f_140)))
    (q57 : K.lookup f_140 = some ⟨oc_144, od_141, .func (PySem.W.fnOf "taken" "taken" (defArgs s_taken) (defBody s_taken) (defScope s_taken) .none kV_145 dc_146 pm_147 an_142 cd_148 ct_149), sl_143⟩)
    (q58 : PySem.W.codeIn K cd_148 "taken" = true)
    (q59 : PySem.W.keepIn K (.ref f_140) = true)
    (q60 : PySem.W.nsIn K mainGlobals "read_sign" = some (some (.ref f_150)))
    (q61 : K.lookup f_150 = some ⟨oc_154, od_151, .func (PySem.W.fnOf "read_sign" "read_sign" (defArgs s_read_sign) (defBody s_read_sign) (defScope s_read_sign) .none kV_155 dc_156 pm_157 an_152 cd_158 ct_159), sl_153⟩)
    (q62 : PySem.W.codeIn K cd_158 "read_sign" = true)
    (q63 : PySem.W.keepIn K (.ref f_150) = true)
    (q64 : PySem.W.nsIn K mainGlobals "watch" = some (some (.ref f_160)))
    (q65 : K.lookup f_160 = some ⟨oc_164, od_161, .func (PySem.W.fnOf "watch" "watch" (defArgs s_watch) (defBody s_watch) (defScope s_watch) .none kV_165 dc_166 pm_167 an_162 cd_168 ct_169), sl_163⟩)
    (q66 : PySem.W.codeIn K cd_168 "watch" = true)
    (q67 : PySem.W.keepIn K (.ref f_160) = true)
    (q68 : PySem.W.nsIn K mainGlobals "leave" = some (some (.ref f_170)))
    (q69 : K.lookup f_170 = some ⟨oc_174, od_171, .func (PySem.W.fnOf "leave" "leave" (defArgs s_leave) (defBody s_leave) (defScope s_leave) .none kV_175 dc_176 pm_177 an_172 cd_178 ct_179), sl_173⟩)
    (q70 : PySem.W.codeIn K cd_178 "leave" = true)
    (q71 : PySem.W.keepIn K (.ref f_170) = true)
    (q72 : PySem.W.nsIn K mainGlobals "is_state" = some (some (.ref f_180)))
    (q73 : K.lookup f_180 = some ⟨oc_184, od_181, .func (PySem.W.fnOf "is_state" "is_state" (defArgs s_is_state) (defBody s_is_state) (defScope s_is_state) .none kV_185 dc_186 pm_187 an_182 cd_188 ct_189), sl_183⟩)
    (q74 : PySem.W.codeIn K cd_188 "is_state" = true)
    (q75 : PySem.W.keepIn K (.ref f_180) = true)
    (q76 : PySem.W.nsIn K mainGlobals "_law_cell" = some (some (.ref f_190)))
    (q77 : K.lookup f_190 = some ⟨oc_194, od_191, .func (PySem.W.fnOf "_law_cell" "_law_cell" (defArgs s__law_cell) (defBody s__law_cell) (defScope s__law_cell) .none kV_195 dc_196 pm_197 an_192 cd_198 ct_199), sl_193⟩)
    (q78 : PySem.W.codeIn K cd_198 "_law_cell" = true)
    (q79 : PySem.W.keepIn K (.ref f_190) = true)
    (q80 : PySem.W.nsIn K mainGlobals "_law_numbers" = some (some (.ref f_200)))
    (q81 : K.lookup f_200 = some ⟨oc_204, od_201, .func (PySem.W.fnOf "_law_numbers" "_law_numbers" (defArgs s__law_numbers) (defBody s__law_numbers) (defScope s__law_numbers) .none kV_205 dc_206 pm_207 an_202 cd_208 ct_209), sl_203⟩)
    (q82 : PySem.W.codeIn K cd_208 "_law_numbers" = true)
    (q83 : PySem.W.keepIn K (.ref f_200) = true)
    (q84 : PySem.W.nsIn K mainGlobals "_law_same" = some (some (.ref f_210)))
    (q85 : K.lookup f_210 = some ⟨oc_214, od_211, .func (PySem.W.fnOf "_law_same" "_law_same" (defArgs s__law_same) (defBody s__law_same) (defScope s__law_same) .none kV_215 dc_216 pm_217 an_212 cd_218 ct_219), sl_213⟩)
    (q86 : PySem.W.codeIn K cd_218 "_law_same" = true)
    (q87 : PySem.W.keepIn K (.ref f_210) = true)
    (q88 : PySem.W.nsIn K mainGlobals "_law_signs" = some (some (.ref f_220)))
    (q89 : K.lookup f_220 = some ⟨oc_224, od_221, .func (PySem.W.fnOf "_law_signs" "_law_signs" (defArgs s__law_signs) (defBody s__law_signs) (defScope s__law_signs) .none kV_225 dc_226 pm_227 an_222 cd_228 ct_229), sl_223⟩)
    (q90 : PySem.W.codeIn K cd_228 "_law_signs" = true)
    (q91 : PySem.W.keepIn K (.ref f_220) = true)
    (q92 : PySem.W.nsIn K mainGlobals "_law_word" = some (some (.ref f_230)))
    (q93 : K.lookup f_230 = some ⟨oc_234, od_231, .func (PySem.W.fnOf "_law_word" "_law_word" (defArgs s__law_word) (defBody s__law_word) (defScope s__law_word) .none kV_235 dc_236 pm_237 an_232 cd_238 ct_239), sl_233⟩)
    (q94 : PySem.W.codeIn K cd_238 "_law_word" = true)
    (q95 : PySem.W.keepIn K (.ref f_230) = true)
    (q96 : PySem.W.nsIn K mainGlobals "_law_class" = some (some (.ref f_240)))
    (q97 : K.lookup f_240 = some ⟨oc_244, od_241, .func (PySem.W.fnOf "_law_class" "_law_class" (defArgs s__law_class) (defBody s__law_class) (defScope s__law_class) .none kV_245 dc_246 pm_247 an_242 cd_248 ct_249), sl_243⟩)
    (q98 : PySem.W.codeIn K cd_248 "_law_class" = true)
    (q99 : PySem.W.keepIn K (.ref f_240) = true)
    (q100 : PySem.W.nsIn K mainGlobals "_law_side" = some (some (.ref f_250)))
    (q101 : K.lookup f_250 = some ⟨oc_254, od_251, .func (PySem.W.fnOf "_law_side" "_law_side" (defArgs s__law_side) (defBody s__law_side) (defScope s__law_side) .none kV_255 dc_256 pm_257 an_252 cd_258 ct_259), sl_253⟩)
    (q102 : PySem.W.codeIn K cd_258 "_law_side" = true)
    (q103 : PySem.W.keepIn K (.ref f_250) = true)
    (q104 : PySem.W.nsIn K mainGlobals "_law_rules" = some (some (.ref f_260)))
    (q105 : K.lookup f_260 = some ⟨oc_264, od_261, .func (PySem.W.fnOf "_law_rules" "_law_rules" (defArgs s__law_rules) (defBody s__law_rules) (defScope s__law_rules) .none kV_265 dc_266 pm_267 an_262 cd_268 ct_269), sl_263⟩)
    (q106 : PySem.W.codeIn K cd_268 "_law_rules" = true)
    (q107 : PySem.W.keepIn K (.ref f_260) = true)
    (q108 : PySem.W.nsIn K mainGlobals "_law_text" = some (some (.ref f_270)))
    (q109 : K.lookup f_270 = some ⟨oc_274, od_271, .func (PySem.W.fnOf "_law_text" "_law_text" (defArgs s__law_text) (defBody s__law_text) (defScope s__law_text) .none kV_275 dc_276 pm_277 an_272 cd_278 ct_279), sl_273⟩)
    (q110 : PySem.W.codeIn K cd_278 "_law_text" = true)
    (q111 : PySem.W.keepIn K (.ref f_270) = true)
    (q112 : PySem.W.nsIn K mainGlobals "_law_sign_at" = some (some (.ref f_280)))
    (q113 : K.lookup f_280 = some ⟨oc_284, od_281, .func (PySem.W.fnOf "_law_sign_at" "_law_sign_at" (defArgs s__law_sign_at) (defBody s__law_sign_at) (defScope s__law_sign_at) .none kV_285 dc_286 pm_287 an_282 cd_288 ct_289), sl_283⟩)
    (q114 : PySem.W.codeIn K cd_288 "_law_sign_at" = true)
    (q115 : PySem.W.keepIn K (.ref f_280) = true)
    (q116 : PySem.W.nsIn K mainGlobals "_law_fits" = some (some (.ref f_290)))
    (q117 : K.lookup f_290 = some ⟨oc_294, od_291, .func (PySem.W.fnOf "_law_fits" "_law_fits" (defArgs s__law_fits) (defBody s__law_fits) (defScope s__law_fits) .none kV_295 dc_296 pm_297 an_292 cd_298 ct_299), sl_293⟩)
    (q118 : PySem.W.codeIn K cd_298 "_law_fits" = true)
    (q119 : PySem.W.keepIn K (.ref f_290) = true)
    (q120 : PySem.W.nsIn K mainGlobals "_law_choices" = some (some (.ref f_300)))
    (q121 : K.lookup f_300 = some ⟨oc_304, od_301, .func (PySem.W.fnOf "_law_choices" "_law_choices" (defArgs s__law_choices) (defBody s__law_choices) (defScope s__law_choices) .none kV_305 dc_306 pm_307 an_302 cd_308 ct_309), sl_303⟩)
    (q122 : PySem.W.codeIn K cd_308 "_law_choices" = true)
    (q123 : PySem.W.keepIn K (.ref f_300) = true)
    (q124 : PySem.W.nsIn K mainGlobals "_law_spell" = some (some (.ref f_310)))
    (q125 : K.lookup f_310 = some ⟨oc_314, od_311, .func (PySem.W.fnOf "_law_spell" "_law_spell" (defArgs s__law_spell) (defBody s__law_spell) (defScope s__law_spell) .none kV_315 dc_316 pm_317 an_312 cd_318 ct_319), sl_313⟩)
    (q126 : PySem.W.codeIn K cd_318 "_law_spell" = true)
    (q127 : PySem.W.keepIn K (.ref f_310) = true)
    (q128 : PySem.W.nsIn K mainGlobals "_law_known" = some (some (.ref f_320)))
    (q129 : K.lookup f_320 = some ⟨oc_324, od_321, .func (PySem.W.fnOf "_law_known" "_law_known" (defArgs s__law_known) (defBody s__law_known) (defScope s__law_known) .none kV_325 dc_326 pm_327 an_322 cd_328 ct_329), sl_323⟩)
    (q130 : PySem.W.codeIn K cd_328 "_law_known" = true)
    (q131 : PySem.W.keepIn K (.ref f_320) = true)
    (q132 : PySem.W.nsIn K mainGlobals "_law_settled" = some (some (.ref f_330)))
    (q133 : K.lookup f_330 = some ⟨oc_334, od_331, .func (PySem.W.fnOf "_law_settled" "_law_settled" (defArgs s__law_settled) (defBody s__law_settled) (defScope s__law_settled) .none kV_335 dc_336 pm_337 an_332 cd_338 ct_339), sl_333⟩)
    (q134 : PySem.W.codeIn K cd_338 "_law_settled" = true)
    (q135 : PySem.W.keepIn K (.ref f_330) = true)
    (q136 : PySem.W.nsIn K mainGlobals "_law_taken" = some (some (.ref f_340)))
    (q137 : K.lookup f_340 = some ⟨oc_344, od_341, .func (PySem.W.fnOf "_law_taken" "_law_taken" (defArgs s__law_taken) (defBody s__law_taken) (defScope s__law_taken) .none kV_345 dc_346 pm_347 an_342 cd_348 ct_349), sl_343⟩)
    (q138 : PySem.W.codeIn K cd_348 "_law_taken" = true)
    (q139 : PySem.W.keepIn K (.ref f_340) = true)
    (q140 : PySem.W.nsIn K mainGlobals "_law_read" = some (some (.ref f_350)))
    (q141 : K.lookup f_350 = some ⟨oc_354, od_351, .func (PySem.W.fnOf "_law_read" "_law_read" (defArgs s__law_read) (defBody s__law_read) (defScope s__law_read) .none kV_355 dc_356 pm_357 an_352 cd_358 ct_359), sl_353⟩)
    (q142 : PySem.W.codeIn K cd_358 "_law_read" = true)
    (q143 : PySem.W.keepIn K (.ref f_350) = true)
    (q144 : PySem.W.nsIn K mainGlobals "_law_first" = some (some (.ref f_360)))
    (q145 : K.lookup f_360 = some ⟨oc_364, od_361, .func (PySem.W.fnOf "_law_first" "_law_first" (defArgs s__law_first) (defBody s__law_first) (defScope s__law_first) .none kV_365 dc_366 pm_367 an_362 cd_368 ct_369), sl_363⟩)
    (q146 : PySem.W.codeIn K cd_368 "_law_first" = true)
    (q147 : PySem.W.keepIn K (.ref f_360) = true)
    (q148 : PySem.W.nsIn K mainGlobals "_law_reach" = some (some (.ref f_370)))
    (q149 : K.lookup f_370 = some ⟨oc_374, od_371, .func (PySem.W.fnOf "_law_reach" "_law_reach" (defArgs s__law_reach) (defBody s__law_reach) (defScope s__law_reach) .none kV_375 dc_376 pm_377 an_372 cd_378 ct_379), sl_373⟩)
    (q150 : PySem.W.codeIn K cd_378 "_law_reach" = true)
    (q151 : PySem.W.keepIn K (.ref f_370) = true)
    (q152 : PySem.W.nsIn K mainGlobals "_law_is_state" = some (some (.ref f_380)))
    (q153 : K.lookup f_380 = some ⟨oc_384, od_381, .func (PySem.W.fnOf "_law_is_state" "_law_is_state" (defArgs s__law_is_state) (defBody s__law_is_state) (defScope s__law_is_state) .none kV_385 dc_386 pm_387 an_382 cd_388 ct_389), sl_383⟩)
    (q154 : PySem.W.codeIn K cd_388 "_law_is_state" = true)
    (q155 : PySem.W.keepIn K (.ref f_380) = true)
    (q156 : PySem.W.nsIn K mainGlobals "_law_pairs" = some (some (.ref f_390)))
    (q157 : K.lookup f_390 = some ⟨oc_394, od_391, .func (PySem.W.fnOf "_law_pairs" "_law_pairs" (defArgs s__law_pairs) (defBody s__law_pairs) (defScope s__law_pairs) .none kV_395 dc_396 pm_397 an_392 cd_398 ct_399), sl_393⟩)
    (q158 : PySem.W.codeIn K cd_398 "_law_pairs" = true)
    (q159 : PySem.W.keepIn K (.ref f_390) = true)
    (q160 : PySem.W.nsIn K mainGlobals "law" = some (some (.ref f_400)))
    (q161 : K.lookup f_400 = some ⟨oc_404, od_401, .func (PySem.W.fnOf "law" "law" (defArgs s_law) (defBody s_law) (defScope s_law) .none kV_405 dc_406 pm_407 an_402 cd_408 ct_409), sl_403⟩)
    (q162 : PySem.W.codeIn K cd_408 "law" = true)
    (q163 : PySem.W.keepIn K (.ref f_400) = true)
    (q164 : PySem.W.nsIn K mainGlobals "all" = some none)
    (q165 : PySem.W.nsIn K mainGlobals "bool" = some none)
    (q166 : PySem.W.nsIn K mainGlobals "enumerate" = some none)
    (q167 : PySem.W.nsIn K mainGlobals "int" = some none)
    (q168 : PySem.W.nsIn K mainGlobals "isinstance" = some none)
    (q169 : PySem.W.nsIn K mainGlobals "len" = some none)
    (q170 : PySem.W.nsIn K mainGlobals "list" = some none)
    (q171 : PySem.W.nsIn K mainGlobals "max" = some none)
    (q172 : PySem.W.nsIn K mainGlobals "range" = some none)
    (q173 : PySem.W.nsIn K mainGlobals "sorted" = some none)
    (q174 : PySem.W.nsIn K mainGlobals "str" = some none)
    (q175 : PySem.W.nsIn K mainGlobals "tuple" = some none)
    (q176 : x_411.cps.toList = [124])
    (q177 : PySem.W.nsIn K mainGlobals "END" = some (some (.str x_411 t_410)))
    (q178 : PySem.W.nsIn K mainGlobals "OUT" = some (some (.int (0) t_412)))
    (q179 : PySem.W.nsIn K mainGlobals "NOT_YET" = some (some (.int (1) t_413)))
    (q180 : PySem.W.nsIn K mainGlobals "IN" = some (some (.int (2) t_414)))
    (law_true : ∀ ns : List Int, ns.length ≤ 63 → f_law [.lst (ns.map .int)] = .ok (.bl true)) :
    ∃ fd : FuncData, (∀ (s : Shared) (u : Value), BindsTo s fd ⟨[u], []⟩ [("script", u)]) ∧ ∀ base : Heap, K.In base → base.Ns mainGlobals mg → FnOk P w K mg base (L2.CX P w) 14 fa fd ["script"] (spLaw K) := by
  have e := hfa.symm.trans (PySem.W.mg_of X G q160)
  obtain rfl : f_400 = fa := by cases e; rfl
  have F0 := fun_mk (st := s_sign_at) q1 q2 q3
  have B0 := F0.binds (ps := ["text", "place"]) fun _ _ _ _ _ _ us hl => match us, hl with | [_, _], _ => rfl
  have F1 := fun_mk (st := s_lets) q5 q6 q7
  have B1 := F1.binds (ps := ["side", "text", "place"]) fun _ _ _ _ _ _ us hl => match us, hl with | [_, _, _], _ => rfl
  have F2 := fun_mk (st := s_fits_at) q9 q10 q11
  have B2 := F2.binds (ps := ["rule", "text", "place"]) fun _ _ _ _ _ _ us hl => match us, hl with | [_, _, _], _ => rfl
  have F3 := fun_mk (st := s_choice_at) q13 q14 q15
  have B3 := F3.binds (ps := ["rules", "text", "place"]) fun _ _ _ _ _ _ us hl => match us, hl with | [_, _, _], _ => rfl
  have F4 := fun_mk (st := s_places_of) q17 q18 q19
  have B4 := F4.binds (ps := ["rules", "text"]) fun _ _ _ _ _ _ us hl => match us, hl with | [_, _], _ => rfl
  have F5 := fun_mk (st := s_spell) q21 q22 q23
  have B5 := F5.binds (ps := ["rules", "text"]) fun _ _ _ _ _ _ us hl => match us, hl with | [_, _], _ => rfl
  have F6 := fun_mk (st := s_reach) q25 q26 q27
  have B6 := F6.binds (ps := ["rules"]) fun _ _ _ _ _ _ us hl => match us, hl with | [_], _ => rfl
  have F7 := fun_mk (st := s_tail_size) q29 q30 q31
  have B7 := F7.binds (ps := ["rules"]) fun _ _ _ _ _ _ us hl => match us, hl with | [_], _ => rfl
  have F8 := fun_mk (st := s_first_state) q33 q34 q35
  have B8 := F8.binds (ps := ["rules"]) fun _ _ _ _ _ _ us hl => match us, hl with | [_], _ => rfl
  have F9 := fun_mk (st := s_lets_tail) q37 q38 q39
  have B9 := F9.binds (ps := ["behind", "tail"]) fun _ _ _ _ _ _ us hl => match us, hl with | [_, _], _ => rfl
  have F10 := fun_mk (st := s_asked) q41 q42 q43
  have B10 := F10.binds (ps := ["rule"]) fun _ _ _ _ _ _ us hl => match us, hl with | [_], _ => rfl
  have F11 := fun_mk (st := s_standing) q45 q46 q47
  have B11 := F11.binds (ps := ["rule", "state", "is_end"]) fun _ _ _ _ _ _ us hl => match us, hl with | [_, _, _], _ => rfl
  have F12 := fun_mk (st := s_settled_choice) q49 q50 q51
  have B12 := F12.binds (ps := ["rules", "state", "is_end"]) fun _ _ _ _ _ _ us hl => match us, hl with | [_, _, _], _ => rfl
  have F13 := fun_mk (st := s_passed) q53 q54 q55
  have B13 := F13.binds (ps := ["state", "count"]) fun _ _ _ _ _ _ us hl => match us, hl with | [_, _], _ => rfl
  have F14 := fun_mk (st := s_taken) q57 q58 q59
  have B14 := F14.binds (ps := ["rules", "state", "is_end"]) fun _ _ _ _ _ _ us hl => match us, hl with | [_, _, _], _ => rfl
  have F15 := fun_mk (st := s_read_sign) q61 q62 q63
  have B15 := F15.binds (ps := ["rules", "state", "sign"]) fun _ _ _ _ _ _ us hl => match us, hl with | [_, _, _], _ => rfl
  have F16 := fun_mk (st := s_watch) q65 q66 q67
  have B16 := F16.binds (ps := ["rules", "state", "sign"]) fun _ _ _ _ _ _ us hl => match us, hl with | [_, _, _], _ => rfl
  have F17 := fun_mk (st := s_leave) q69 q70 q71
  have B17 := F17.binds (ps := ["rules", "state"]) fun _ _ _ _ _ _ us hl => match us, hl with | [_, _], _ => rfl
  have F18 := fun_mk (st := s_is_state) q73 q74 q75
  have B18 := F18.binds (ps := ["rules", "signs", "pair"]) fun _ _ _ _ _ _ us hl => match us, hl with | [_, _, _], _ => rfl
  have F19 := fun_mk (st := s__law_cell) q77 q78 q79
  have B19 := F19.binds (ps := ["script", "k"]) fun _ _ _ _ _ _ us hl => match us, hl with | [_, _], _ => rfl
  have F20 := fun_mk (st := s__law_numbers) q81 q82 q83
  have B20 := F20.binds (ps := ["cell", "count", "limit"]) fun _ _ _ _ _ _ us hl => match us, hl with | [_, _, _], _ => rfl
  have F21 := fun_mk (st := s__law_same) q85 q86 q87
  have B21 := F21.binds (ps := ["answer", "due"]) fun _ _ _ _ _ _ us hl => match us, hl with | [_, _], _ => rfl
  have F22 := fun_mk (st := s__law_signs) q89 q90 q91
  have B22 := F22.binds (ps := ["draw", "count"]) fun _ _ _ _ _ _ us hl => match us, hl with | [_, _], _ => rfl
  have F23 := fun_mk (st := s__law_word) q93 q94 q95
  have B23 := F23.binds (ps := ["draws", "at", "signs", "least", "most"]) fun _ _ _ _ _ _ us hl => match us, hl with | [_, _, _, _, _], _ => rfl
  have F24 := fun_mk (st := s__law_class) q97 q98 q99
  have B24 := F24.binds (ps := ["draw", "signs"]) fun _ _ _ _ _ _ us hl => match us, hl with | [_, _], _ => rfl
  have F25 := fun_mk (st := s__law_side) q101 q102 q103
  have B25 := F25.binds (ps := ["draws", "at", "signs", "most"]) fun _ _ _ _ _ _ us hl => match us, hl with | [_, _, _, _], _ => rfl
  have F26 := fun_mk (st := s__law_rules) q105 q106 q107
  have B26 := F26.binds (ps := ["script", "at", "signs", "out", "most", "sizes"]) fun _ _ _ _ _ _ us hl => match us, hl with | [_, _, _, _, _, _], _ => rfl
  have F27 := fun_mk (st := s__law_text) q109 q110 q111
  have B27 := F27.binds (ps := ["script", "at", "signs", "most"]) fun _ _ _ _ _ _ us hl => match us, hl with | [_, _, _, _], _ => rfl
  have F28 := fun_mk (st := s__law_sign_at) q113 q114 q115
  have B28 := F28.binds (ps := ["text", "place"]) fun _ _ _ _ _ _ us hl => match us, hl with | [_, _], _ => rfl
  have F29 := fun_mk (st := s__law_fits) q117 q118 q119
  have B29 := F29.binds (ps := ["rule", "text", "place"]) fun _ _ _ _ _ _ us hl => match us, hl with | [_, _, _], _ => rfl
  have F30 := fun_mk (st := s__law_choices) q121 q122 q123
  have B30 := F30.binds (ps := ["rules", "text"]) fun _ _ _ _ _ _ us hl => match us, hl with | [_, _], _ => rfl
  have F31 := fun_mk (st := s__law_spell) q125 q126 q127
  have B31 := F31.binds (ps := ["rules", "text"]) fun _ _ _ _ _ _ us hl => match us, hl with | [_, _], _ => rfl
  have F32 := fun_mk (st := s__law_known) q129 q130 q131
  have B32 := F32.binds (ps := ["rule", "state", "ends"]) fun _ _ _ _ _ _ us hl => match us, hl with | [_, _, _], _ => rfl
  have F33 := fun_mk (st := s__law_settled) q133 q134 q135
  have B33 := F33.binds (ps := ["rules", "state", "ends"]) fun _ _ _ _ _ _ us hl => match us, hl with | [_, _, _], _ => rfl
  have F34 := fun_mk (st := s__law_taken) q137 q138 q139
  have B34 := F34.binds (ps := ["rules", "state", "ends"]) fun _ _ _ _ _ _ us hl => match us, hl with | [_, _, _], _ => rfl
  have F35 := fun_mk (st := s__law_read) q141 q142 q143
  have B35 := F35.binds (ps := ["rules", "state", "sign"]) fun _ _ _ _ _ _ us hl => match us, hl with | [_, _, _], _ => rfl
  have F36 := fun_mk (st := s__law_first) q145 q146 q147
  have B36 := F36.binds (ps := ["rules"]) fun _ _ _ _ _ _ us hl => match us, hl with | [_], _ => rfl
  have F37 := fun_mk (st := s__law_reach) q149 q150 q151
  have B37 := F37.binds (ps := ["rules"]) fun _ _ _ _ _ _ us hl => match us, hl with | [_], _ => rfl
  have F38 := fun_mk (st := s__law_is_state) q153 q154 q155
  have B38 := F38.binds (ps := ["rules", "signs", "pair"]) fun _ _ _ _ _ _ us hl => match us, hl with | [_, _, _], _ => rfl
  have F39 := fun_mk (st := s__law_pairs) q157 q158 q159
  have B39 := F39.binds (ps := ["state", "signs", "draws"]) fun _ _ _ _ _ _ us hl => match us, hl with | [_, _, _], _ => rfl
  have F40 := fun_mk (st := s_law) q161 q162 q163
  have B40 := F40.binds (ps := ["script"]) fun _ _ _ _ _ _ us hl => match us, hl with | [_], _ => rfl
  let fdv : Nat → FuncData := fun n => match n with
    | 0 => PySem.W.fnOf "sign_at" "sign_at" (defArgs s_sign_at) (defBody s_sign_at) (defScope s_sign_at) .none kV_5 dc_6 pm_7 an_2 cd_8 ct_9
    | 1 => PySem.W.fnOf "lets" "lets" (defArgs s_lets) (defBody s_lets) (defScope s_lets) .none kV_15 dc_16 pm_17 an_12 cd_18 ct_19
    | 2 => PySem.W.fnOf "fits_at" "fits_at" (defArgs s_fits_at) (defBody s_fits_at) (defScope s_fits_at) .none kV_25 dc_26 pm_27 an_22 cd_28 ct_29
    | 3 => PySem.W.fnOf "choice_at" "choice_at" (defArgs s_choice_at) (defBody s_choice_at) (defScope s_choice_at) .none kV_35 dc_36 pm_37 an_32 cd_38 ct_39
    | 4 => PySem.W.fnOf "places_of" "places_of" (defArgs s_places_of) (defBody s_places_of) (defScope s_places_of) .none kV_45 dc_46 pm_47 an_42 cd_48 ct_49
    | 5 => PySem.W.fnOf "spell" "spell" (defArgs s_spell) (defBody s_spell) (defScope s_spell) .none kV_55 dc_56 pm_57 an_52 cd_58 ct_59
    | 6 => PySem.W.fnOf "reach" "reach" (defArgs s_reach) (defBody s_reach) (defScope s_reach) .none kV_65 dc_66 pm_67 an_62 cd_68 ct_69
    | 7 => PySem.W.fnOf "tail_size" "tail_size" (defArgs s_tail_size) (defBody s_tail_size) (defScope s_tail_size) .none kV_75 dc_76 pm_77 an_72 cd_78 ct_79
    | 8 => PySem.W.fnOf "first_state" "first_state" (defArgs s_first_state) (defBody s_first_state) (defScope s_first_state) .none kV_85 dc_86 pm_87 an_82 cd_88 ct_89
    | 9 => PySem.W.fnOf "lets_tail" "lets_tail" (defArgs s_lets_tail) (defBody s_lets_tail) (defScope s_lets_tail) .none kV_95 dc_96 pm_97 an_92 cd_98 ct_99
    | 10 => PySem.W.fnOf "asked" "asked" (defArgs s_asked) (defBody s_asked) (defScope s_asked) .none kV_105 dc_106 pm_107 an_102 cd_108 ct_109
    | 11 => PySem.W.fnOf "standing" "standing" (defArgs s_standing) (defBody s_standing) (defScope s_standing) .none kV_115 dc_116 pm_117 an_112 cd_118 ct_119
    | 12 => PySem.W.fnOf "settled_choice" "settled_choice" (defArgs s_settled_choice) (defBody s_settled_choice) (defScope s_settled_choice) .none kV_125 dc_126 pm_127 an_122 cd_128 ct_129
    | 13 => PySem.W.fnOf "passed" "passed" (defArgs s_passed) (defBody s_passed) (defScope s_passed) .none kV_135 dc_136 pm_137 an_132 cd_138 ct_139
    | 14 => PySem.W.fnOf "taken" "taken" (defArgs s_taken) (defBody s_taken) (defScope s_taken) .none kV_145 dc_146 pm_147 an_142 cd_148 ct_149
    | 15 => PySem.W.fnOf "read_sign" "read_sign" (defArgs s_read_sign) (defBody s_read_sign) (defScope s_read_sign) .none kV_155 dc_156 pm_157 an_152 cd_158 ct_159
    | 16 => PySem.W.fnOf "watch" "watch" (defArgs s_watch) (defBody s_watch) (defScope s_watch) .none kV_165 dc_166 pm_167 an_162 cd_168 ct_169
    | 17 => PySem.W.fnOf "leave" "leave" (defArgs s_leave) (defBody s_leave) (defScope s_leave) .none kV_175 dc_176 pm_177 an_172 cd_178 ct_179
    | 18 => PySem.W.fnOf "is_state" "is_state" (defArgs s_is_state) (defBody s_is_state) (defScope s_is_state) .none kV_185 dc_186 pm_187 an_182 cd_188 ct_189
    | 19 => PySem.W.fnOf "_law_cell" "_law_cell" (defArgs s__law_cell) (defBody s__law_cell) (defScope s__law_cell) .none kV_195 dc_196 pm_197 an_192 cd_198 ct_199
    | 20 => PySem.W.fnOf "_law_numbers" "_law_numbers" (defArgs s__law_numbers) (defBody s__law_numbers) (defScope s__law_numbers) .none kV_205 dc_206 pm_207 an_202 cd_208 ct_209
    | 21 => PySem.W.fnOf "_law_same" "_law_same" (defArgs s__law_same) (defBody s__law_same) (defScope s__law_same) .none kV_215 dc_216 pm_217 an_212 cd_218 ct_219
    | 22 => PySem.W.fnOf "_law_signs" "_law_signs" (defArgs s__law_signs) (defBody s__law_signs) (defScope s__law_signs) .none kV_225 dc_226 pm_227 an_222 cd_228 ct_229
    | 23 => PySem.W.fnOf "_law_word" "_law_word" (defArgs s__law_word) (defBody s__law_word) (defScope s__law_word) .none kV_235 dc_236 pm_237 an_232 cd_238 ct_239
    | 24 => PySem.W.fnOf "_law_class" "_law_class" (defArgs s__law_class) (defBody s__law_class) (defScope s__law_class) .none kV_245 dc_246 pm_247 an_242 cd_248 ct_249
    | 25 => PySem.W.fnOf "_law_side" "_law_side" (defArgs s__law_side) (defBody s__law_side) (defScope s__law_side) .none kV_255 dc_256 pm_257 an_252 cd_258 ct_259
    | 26 => PySem.W.fnOf "_law_rules" "_law_rules" (defArgs s__law_rules) (defBody s__law_rules) (defScope s__law_rules) .none kV_265 dc_266 pm_267 an_262 cd_268 ct_269
    | 27 => PySem.W.fnOf "_law_text" "_law_text" (defArgs s__law_text) (defBody s__law_text) (defScope s__law_text) .none kV_275 dc_276 pm_277 an_272 cd_278 ct_279
    | 28 => PySem.W.fnOf "_law_sign_at" "_law_sign_at" (defArgs s__law_sign_at) (defBody s__law_sign_at) (defScope s__law_sign_at) .none kV_285 dc_286 pm_287 an_282 cd_288 ct_289
    | 29 => PySem.W.fnOf "_law_fits" "_law_fits" (defArgs s__law_fits) (defBody s__law_fits) (defScope s__law_fits) .none kV_295 dc_296 pm_297 an_292 cd_298 ct_299
    | 30 => PySem.W.fnOf "_law_choices" "_law_choices" (defArgs s__law_choices) (defBody s__law_choices) (defScope s__law_choices) .none kV_305 dc_306 pm_307 an_302 cd_308 ct_309
    | 31 => PySem.W.fnOf "_law_spell" "_law_spell" (defArgs s__law_spell) (defBody s__law_spell) (defScope s__law_spell) .none kV_315 dc_316 pm_317 an_312 cd_318 ct_319
    | 32 => PySem.W.fnOf "_law_known" "_law_known" (defArgs s__law_known) (defBody s__law_known) (defScope s__law_known) .none kV_325 dc_326 pm_327 an_322 cd_328 ct_329
    | 33 => PySem.W.fnOf "_law_settled" "_law_settled" (defArgs s__law_settled) (defBody s__law_settled) (defScope s__law_settled) .none kV_335 dc_336 pm_337 an_332 cd_338 ct_339
    | 34 => PySem.W.fnOf "_law_taken" "_law_taken" (defArgs s__law_taken) (defBody s__law_taken) (defScope s__law_taken) .none kV_345 dc_346 pm_347 an_342 cd_348 ct_349
    | 35 => PySem.W.fnOf "_law_read" "_law_read" (defArgs s__law_read) (defBody s__law_read) (defScope s__law_read) .none kV_355 dc_356 pm_357 an_352 cd_358 ct_359
    | 36 => PySem.W.fnOf "_law_first" "_law_first" (defArgs s__law_first) (defBody s__law_first) (defScope s__law_first) .none kV_365 dc_366 pm_367 an_362 cd_368 ct_369
    | 37 => PySem.W.fnOf "_law_reach" "_law_reach" (defArgs s__law_reach) (defBody s__law_reach) (defScope s__law_reach) .none kV_375 dc_376 pm_377 an_372 cd_378 ct_379
    | 38 => PySem.W.fnOf "_law_is_state" "_law_is_state" (defArgs s__law_is_state) (defBody s__law_is_state) (defScope s__law_is_state) .none kV_385 dc_386 pm_387 an_382 cd_388 ct_389
    | 39 => PySem.W.fnOf "_law_pairs" "_law_pairs" (defArgs s__law_pairs) (defBody s__law_pairs) (defScope s__law_pairs) .none kV_395 dc_396 pm_397 an_392 cd_398 ct_399
    | _ => PySem.W.fnOf "law" "law" (defArgs s_law) (defBody s_law) (defScope s_law) .none kV_405 dc_406 pm_407 an_402 cd_408 ct_409
  let fav : Nat → Addr := fun n => match n with
    | 0 => f_0
    | 1 => f_10
    | 2 => f_20
    | 3 => f_30
    | 4 => f_40
    | 5 => f_50
    | 6 => f_60
    | 7 => f_70
    | 8 => f_80
    | 9 => f_90
    | 10 => f_100
    | 11 => f_110
    | 12 => f_120
    | 13 => f_130
    | 14 => f_140
    | 15 => f_150
    | 16 => f_160
    | 17 => f_170
    | 18 => f_180
    | 19 => f_190
    | 20 => f_200
    | 21 => f_210
    | 22 => f_220
    | 23 => f_230
    | 24 => f_240
    | 25 => f_250
    | 26 => f_260
    | 27 => f_270
    | 28 => f_280
    | 29 => f_290
    | 30 => f_300
    | 31 => f_310
    | 32 => f_320
    | 33 => f_330
    | 34 => f_340
    | 35 => f_350
    | 36 => f_360
    | 37 => f_370
    | 38 => f_380
    | 39 => f_390
    | _ => f_400
  let EC : Nat → Addr := fun _ => 0
  have T : Txt K mg EC fav fdv := { F0 := F0, g0 := PySem.W.mg_of X G q0, k0 := q3, b0 := B0, F1 := F1, g1 := PySem.W.mg_of X G q4, k1 := q7, b1 := B1, F2 := F2, g2 := PySem.W.mg_of X G q8, k2 := q11, b2 := B2, F3 := F3, g3 := PySem.W.mg_of X G q12, k3 := q15, b3 := B3, F4 := F4, g4 := PySem.W.mg_of X G q16, k4 := q19, b4 := B4, F5 := F5, g5 := PySem.W.mg_of X G q20, k5 := q23, b5 := B5, F6 := F6, g6 := PySem.W.mg_of X G q24, k6 := q27, b6 := B6, F7 := F7, g7 := PySem.W.mg_of X G q28, k7 := q31, b7 := B7, F8 := F8, g8 := PySem.W.mg_of X G q32, k8 := q35, b8 := B8, F9 := F9, g9 := PySem.W.mg_of X G q36, k9 := q39, b9 := B9, F10 := F10, g10 := PySem.W.mg_of X G q40, k10 := q43, b10 := B10, F11 := F11, g11 := PySem.W.mg_of X G q44, k11 := q47, b11 := B11, F12 := F12, g12 := PySem.W.mg_of X G q48, k12 := q51, b12 := B12, F13 := F13, g13 := PySem.W.mg_of X G q52, k13 := q55, b13 := B13, F14 := F14, g14 := PySem.W.mg_of X G q56, k14 := q59, b14 := B14, F15 := F15, g15 := PySem.W.mg_of X G q60, k15 := q63, b15 := B15, F16 := F16, g16 := PySem.W.mg_of X G q64, k16 := q67, b16 := B16, F17 := F17, g17 := PySem.W.mg_of X G q68, k17 := q71, b17 := B17, F18 := F18, g18 := PySem.W.mg_of X G q72, k18 := q75, b18 := B18, F19 := F19, g19 := PySem.W.mg_of X G q76, k19 := q79, b19 := B19, F20 := F20, g20 := PySem.W.mg_of X G q80, k20 := q83, b20 := B20, F21 := F21, g21 := PySem.W.mg_of X G q84, k21 := q87, b21 := B21, F22 := F22, g22 := PySem.W.mg_of X G q88, k22 := q91, b22 := B22, F23 := F23, g23 := PySem.W.mg_of X G q92, k23 := q95, b23 := B23, F24 := F24, g24 := PySem.W.mg_of X G q96, k24 := q99, b24 := B24, F25 := F25, g25 := PySem.W.mg_of X G q100, k25 := q103, b25 := B25, F26 := F26, g26 := PySem.W.mg_of X G q104, k26 := q107, b26 := B26, F27 := F27, g27 := PySem.W.mg_of X G q108, k27 := q111, b27 := B27, F28 := F28, g28 := PySem.W.mg_of X G q112, k28 := q115, b28 := B28, F29 := F29, g29 := PySem.W.mg_of X G q116, k29 := q119, b29 := B29, F30 := F30, g30 := PySem.W.mg_of X G q120, k30 := q123, b30 := B30, F31 := F31, g31 := PySem.W.mg_of X G q124, k31 := q127, b31 := B31, F32 := F32, g32 := PySem.W.mg_of X G q128, k32 := q131, b32 := B32, F33 := F33, g33 := PySem.W.mg_of X G q132, k33 := q135, b33 := B33, F34 := F34, g34 := PySem.W.mg_of X G q136, k34 := q139, b34 := B34, F35 := F35, g35 := PySem.W.mg_of X G q140, k35 := q143, b35 := B35, F36 := F36, g36 := PySem.W.mg_of X G q144, k36 := q147, b36 := B36, F37 := F37, g37 := PySem.W.mg_of X G q148, k37 := q151, b37 := B37, F38 := F38, g38 := PySem.W.mg_of X G q152, k38 := q155, b38 := B38, F39 := F39, g39 := PySem.W.mg_of X G q156, k39 := q159, b39 := B39, F40 := F40, g40 := PySem.W.mg_of X G q160, k40 := q163, b40 := B40, z_all := PySem.W.mg_none_of X G q164, z_bool := PySem.W.mg_none_of X G q165, z_enumerate := PySem.W.mg_none_of X G q166, z_int := PySem.W.mg_none_of X G q167, z_isinstance := PySem.W.mg_none_of X G q168, z_len := PySem.W.mg_none_of X G q169, z_list := PySem.W.mg_none_of X G q170, z_max := PySem.W.mg_none_of X G q171, z_range := PySem.W.mg_none_of X G q172, z_sorted := PySem.W.mg_none_of X G q173, z_str := PySem.W.mg_none_of X G q174, z_tuple := PySem.W.mg_none_of X G q175, c_END := ⟨_, .str x_411, PySem.W.mg_of X G q177, rel_str, fun Z H => (rep_str q176 (by decide +kernel))⟩, c_OUT := ⟨_, .int (0), PySem.W.mg_of X G q178, rel_int, fun Z H => .int _⟩, c_NOT_YET := ⟨_, .int (1), PySem.W.mg_of X G q179, rel_int, fun Z H => .int _⟩, c_IN := ⟨_, .int (2), PySem.W.mg_of X G q180, rel_int, fun Z H => .int _⟩ }
  exact ⟨_, fun s u => .of_eq rfl, fun base _ _ => (ok_law T).imp (law_sp law_true)⟩
end PL.K43

set_option maxRecDepth 100000
namespace PL
set_option autoImplicit false
section
variable {α β : Type} {ρ ρ' : Env} {a b c : EM} {m r : LM} {t u : TM} {d x y : Dat} {i n : Nat} {g : GM} {gs : GsM} {s s1 s2 : SM} {f : Dat → R Dat} {f2 : Dat → Dat → R Dat} {o : Option Dat}
@[simp] theorem eV_zero : eV 0 (some d :: ρ) = .ok d := Eq.trans rfl rfl
@[simp] theorem eV_succ : eV (n + 1) (o :: ρ) = eV n ρ := by unfold eV; rw [List.getElem?_cons_succ]
@[simp] theorem eC_ap : eC d ρ = .ok d := Eq.trans rfl rfl
@[simp] theorem e1_ap : e1 f a ρ = (a ρ).bnd f := Eq.trans rfl rfl
@[simp] theorem e2_ap : e2 f2 a b ρ = (a ρ).bnd fun x => (b ρ).bnd fun y => f2 x y := Eq.trans rfl rfl
@[simp] theorem eNil_ap : eNil ρ = .ok [] := Eq.trans rfl rfl
@[simp] theorem eCons_ap : eCons a m ρ = (a ρ).bnd fun x => (m ρ).bnd fun xs => .ok (x :: xs) := Eq.trans rfl rfl
@[simp] theorem eLst_ap : eLst m ρ = (m ρ).bnd fun xs => if xs.length ≤ LINE then .ok (.lst xs) else .bad := Eq.trans rfl rfl
@[simp] theorem eTup_ap : eTup m ρ = (m ρ).bnd fun xs => if xs.length ≤ LINE then .ok (.tup xs) else .bad := Eq.trans rfl rfl
@[simp] theorem eDic0_ap : eDic0 ρ = .ok (.dic []) := Eq.trans rfl rfl
@[simp] theorem eCall_ap {F : List Dat → R Dat} : eCall F m ρ = (m ρ).bnd F := Eq.trans rfl rfl
@[simp] theorem eM1_ap : eM1 f2 a b ρ = (a ρ).bnd fun x => (isS x).bnd fun x => (b ρ).bnd fun y => f2 x y := Eq.trans rfl rfl
@[simp] theorem tE_ap : tE a ρ = (a ρ).bnd tru := Eq.trans rfl rfl
@[simp] theorem tNot_ap : tNot t ρ = (t ρ).bnd fun b => .ok (!b) := Eq.trans rfl rfl
@[simp] theorem tAnd_ap : tAnd t u ρ = (t ρ).bnd fun b => if b then u ρ else .ok false := Eq.trans rfl rfl
@[simp] theorem tOr_ap : tOr t u ρ = (t ρ).bnd fun b => if b then .ok true else u ρ := Eq.trans rfl rfl
@[simp] theorem eIf_ap : eIf t a b ρ = (t ρ).bnd fun c => if c then a ρ else b ρ := Eq.trans rfl rfl
@[simp] theorem eChain_ap {f g : Dat → Dat → R Dat} : eChain f g a b c ρ = (a ρ).bnd fun x => (b ρ).bnd fun y => (f x y).bnd fun z => match z with
  | .bl true => (c ρ).bnd fun w => g y w
  | .bl false => .ok (.bl false)
  | _ => .bad := Eq.trans rfl rfl
@[simp] theorem eAnd_ap : eAnd a b ρ = (a ρ).bnd fun x => match x with
  | .bl true => b ρ
  | .bl false => .ok (.bl false)
  | _ => .bad := Eq.trans rfl rfl
@[simp] theorem eOr_ap : eOr a b ρ = (a ρ).bnd fun x => match x with
  | .bl true => .ok (.bl true)
  | .bl false => b ρ
  | _ => .bad := Eq.trans rfl rfl
@[simp] theorem pN_ap : pN ρ = .ok none := Eq.trans rfl rfl
@[simp] theorem pS_ap : pS a ρ = (a ρ).bnd optInt := Eq.trans rfl rfl
@[simp] theorem optInt_int {k : Int} : optInt (.int k) = .ok (some k) := Eq.trans rfl rfl
@[simp] theorem eSli_ap {lo hi : PM} : eSli lo hi a ρ = (a ρ).bnd fun x => (lo ρ).bnd fun l => (hi ρ).bnd fun h => sliD l h x := Eq.trans rfl rfl
@[simp] theorem iOf_ap : iOf a ρ = (a ρ).bnd itemsD := Eq.trans rfl rfl
@[simp] theorem iR1_ap : iR1 a ρ = (a ρ).bnd rng1 := Eq.trans rfl rfl
@[simp] theorem iR2_ap : iR2 a b ρ = (a ρ).bnd fun x => (b ρ).bnd fun y => rng2 x y := Eq.trans rfl rfl
@[simp] theorem iR3_ap : iR3 a b c ρ = (a ρ).bnd fun x => (b ρ).bnd fun y => (c ρ).bnd fun z => rng3 x y z := Eq.trans rfl rfl
@[simp] theorem iEnum_ap : iEnum a ρ = (a ρ).bnd enumD := Eq.trans rfl rfl
@[simp] theorem iZip_ap : iZip a b ρ = (a ρ).bnd fun x => (b ρ).bnd fun y => zipD x y := Eq.trans rfl rfl
@[simp] theorem enumD_lst {xs : List Dat} : enumD (.lst xs) = .ok (enumFrom 0 xs) := Eq.trans rfl rfl
@[simp] theorem enumD_tup {xs : List Dat} : enumD (.tup xs) = .ok (enumFrom 0 xs) := Eq.trans rfl rfl
@[simp] theorem zipD_lst {xs ys : List Dat} : zipD (.lst xs) (.lst ys) = .ok (zipT xs ys) := Eq.trans rfl rfl
@[simp] theorem gV_zero : gV 0 d (o :: ρ) = .ok (some d :: ρ) := Eq.trans rfl rfl
@[simp] theorem gV_succ : gV (n + 1) d (o :: ρ) = (gV n d ρ).bnd fun r => .ok (o :: r) := by
  unfold gV
  by_cases h : n < ρ.length
  · rw [if_pos h, if_pos (by simpa using h)]; rfl
  · rw [if_neg h, if_neg (by simpa using h)]; rfl
@[simp] theorem gTup_ap {xs : List Dat} : gTup n gs (.tup xs) ρ = if xs.length = n then gs xs ρ else .bad := Eq.trans rfl rfl
@[simp] theorem gNil_ap : gNil [] ρ = .ok ρ := Eq.trans rfl rfl
@[simp] theorem gCons_ap {xs : List Dat} : gCons g gs (d :: xs) ρ = (g d ρ).bnd fun ρ' => gs xs ρ' := Eq.trans rfl rfl
@[simp] theorem noX_ok {v : α} : noX (R.ok v) = .ok v := Eq.trans rfl rfl
@[simp] theorem tYes_ap : tYes ρ = .ok true := Eq.trans rfl rfl
@[simp] theorem tru_bl {k : Bool} : tru (.bl k) = .ok k := Eq.trans rfl rfl
@[simp] theorem isS_str {z : List Nat} : isS (.str z) = .ok (.str z) := Eq.trans rfl rfl
/-! operations -/
@[simp] theorem addD_int {i j : Int} : addD (.int i) (.int j) = .ok (.int (i + j)) := Eq.trans rfl rfl
@[simp] theorem subD_int {i j : Int} : subD (.int i) (.int j) = .ok (.int (i - j)) := Eq.trans rfl rfl
@[simp] theorem addF_int {i j : Int} : addF (.int i) (.int j) = .ok (.int (i + j)) := Eq.trans rfl rfl
@[simp] theorem negD_int {i : Int} : negD (.int i) = .ok (.int (-i)) := Eq.trans rfl rfl
theorem mulD_int {i j : Int} (h : small64 i ∨ small64 j) : mulD (.int i) (.int j) = .ok (.int (i * j)) := if_pos h
theorem mulD_str {x : List Nat} {n : Int} (h : -(2 ^ 63) ≤ n ∧ n < 2 ^ 63 ∧ x.length * n.toNat ≤ LINE) : mulD (.str x) (.int n) = .ok (.str (rep n.toNat x)) := if_pos h
theorem mulD_lst {x : List Dat} {n : Int} (h : -(2 ^ 63) ≤ n ∧ n < 2 ^ 63 ∧ x.length * n.toNat ≤ LINE) : mulD (.lst x) (.int n) = .ok (.lst (rep n.toNat x)) := if_pos h
theorem fdivD_int {i j : Int} (h : 0 < j ∧ j < 1073741824) : fdivD (.int i) (.int j) = .ok (.int (i / j)) := if_pos h
theorem modD_int {i j : Int} (h : 0 < j) : modD (.int i) (.int j) = .ok (.int (i % j)) := if_pos h
theorem addD_str {x y : List Nat} (h : x.length + y.length ≤ LINE) : addD (.str x) (.str y) = .ok (.str (x ++ y)) := if_pos h
theorem addD_lst {x y : List Dat} (h : x.length + y.length ≤ LINE) : addD (.lst x) (.lst y) = .ok (.lst (x ++ y)) := if_pos h
@[simp] theorem ltD_int {i j : Int} : ltD (.int i) (.int j) = .ok (.bl (decide (i < j))) := Eq.trans rfl rfl
@[simp] theorem leD_int {i j : Int} : leD (.int i) (.int j) = .ok (.bl (decide (i ≤ j))) := Eq.trans rfl rfl
@[simp] theorem gtD_int {i j : Int} : gtD (.int i) (.int j) = .ok (.bl (decide (j < i))) := Eq.trans rfl rfl
@[simp] theorem geD_int {i j : Int} : geD (.int i) (.int j) = .ok (.bl (decide (j ≤ i))) := Eq.trans rfl rfl
@[simp] theorem eqD_int {i j : Int} : eqD (.int i) (.int j) = .ok (.bl (i == j)) := Eq.trans rfl rfl
@[simp] theorem neD_int {i j : Int} : neD (.int i) (.int j) = .ok (.bl (!(i == j))) := Eq.trans rfl rfl
@[simp] theorem eqD_str {x y : List Nat} : eqD (.str x) (.str y) = .ok (.bl (x == y)) := Eq.trans rfl rfl
@[simp] theorem neD_str {x y : List Nat} : neD (.str x) (.str y) = .ok (.bl (!(x == y))) := Eq.trans rfl rfl
@[simp] theorem isN_non : isN .non = .ok (.bl true) := Eq.trans rfl rfl
@[simp] theorem isN_int {k : Int} : isN (.int k) = .ok (.bl false) := Eq.trans rfl rfl
@[simp] theorem isN_str {k : List Nat} : isN (.str k) = .ok (.bl false) := Eq.trans rfl rfl
@[simp] theorem isN_lst {k : List Dat} : isN (.lst k) = .ok (.bl false) := Eq.trans rfl rfl
@[simp] theorem isN_tup {k : List Dat} : isN (.tup k) = .ok (.bl false) := Eq.trans rfl rfl
@[simp] theorem isN_bl {k : Bool} : isN (.bl k) = .ok (.bl false) := Eq.trans rfl rfl
@[simp] theorem notN_non : notN .non = .ok (.bl false) := Eq.trans rfl rfl
@[simp] theorem notN_int {k : Int} : notN (.int k) = .ok (.bl true) := Eq.trans rfl rfl
@[simp] theorem notN_str {k : List Nat} : notN (.str k) = .ok (.bl true) := Eq.trans rfl rfl
@[simp] theorem notN_lst {k : List Dat} : notN (.lst k) = .ok (.bl true) := Eq.trans rfl rfl
@[simp] theorem notN_tup {k : List Dat} : notN (.tup k) = .ok (.bl true) := Eq.trans rfl rfl
@[simp] theorem notB_bl {k : Bool} : notB (.bl k) = .ok (.bl (!k)) := Eq.trans rfl rfl
@[simp] theorem lenD_lst {xs : List Dat} : lenD (.lst xs) = .ok (.int xs.length) := Eq.trans rfl rfl
@[simp] theorem lenD_tup {xs : List Dat} : lenD (.tup xs) = .ok (.int xs.length) := Eq.trans rfl rfl
@[simp] theorem lenD_str {xs : List Nat} : lenD (.str xs) = .ok (.int xs.length) := Eq.trans rfl rfl
@[simp] theorem lenD_dic {xs : List (Dat × Dat)} : lenD (.dic xs) = .ok (.int xs.length) := Eq.trans rfl rfl
@[simp] theorem intD_int {k : Int} : intD (.int k) = .ok (.int k) := Eq.trans rfl rfl
@[simp] theorem intD_bl {k : Bool} : intD (.bl k) = .ok (.int (b2i k)) := Eq.trans rfl rfl
@[simp] theorem itemsD_lst {xs : List Dat} : itemsD (.lst xs) = .ok xs := Eq.trans rfl rfl
@[simp] theorem itemsD_tup {xs : List Dat} : itemsD (.tup xs) = .ok xs := Eq.trans rfl rfl
@[simp] theorem itemsD_str {z : List Nat} : itemsD (.str z) = .ok (signs z) := Eq.trans rfl rfl
@[simp] theorem min2_int {i j : Int} : min2 (.int i) (.int j) = .ok (.int (if j < i then j else i)) := Eq.trans rfl rfl
@[simp] theorem max2_int {i j : Int} : max2 (.int i) (.int j) = .ok (.int (if j > i then j else i)) := Eq.trans rfl rfl
theorem atPlace_nat {xs : List α} {k : Nat} (h : k < xs.length) : atPlace xs (k : Int) = some xs[k] := by
  unfold atPlace placeOf
  rw [if_pos (by omega), if_pos (by omega)]
  show xs[(k : Int).toNat]? = _
  rw [Int.toNat_natCast, List.getElem?_eq_getElem h]
theorem idxD_lst {xs : List Dat} {k : Nat} (h : k < xs.length) : idxD (.lst xs) (.int k) = .ok xs[k] := by
  show (match atPlace xs k with | some d => R.ok d | none => .bad) = _
  rw [atPlace_nat h]
theorem idxD_tup {xs : List Dat} {k : Nat} (h : k < xs.length) : idxD (.tup xs) (.int k) = .ok xs[k] := by
  show (match atPlace xs k with | some d => R.ok d | none => .bad) = _
  rw [atPlace_nat h]
theorem idxD_str {xs : List Nat} {k : Nat} (h : k < xs.length) : idxD (.str xs) (.int k) = .ok (.str [xs[k]]) := by
  show (match atPlace xs k with | some c => R.ok (Dat.str [c]) | none => R.bad) = _
  rw [atPlace_nat h]
theorem upTo_zero (n : Nat) : upTo 0 n = (List.range n).map fun k => ((k : Nat) : Int) := by
  unfold upTo
  rw [show ((n : Int) - 0).toNat = n by omega]
  simp
theorem rng1_nat {n : Nat} (h : n < 2 ^ 62) : rng1 (.int n) = .ok ((List.range n).map fun k => .int (k : Nat)) := by
  show (if fits62 (n : Int) then R.ok ((upTo 0 n).map Dat.int) else .bad) = _
  rw [if_pos ⟨by omega, by omega⟩, upTo_zero, List.map_map]
  rfl
/-! ### statements -/
/-- a statement ends so -/
structure wp (o : O) (P : Fl → Env → Prop) : Prop where
  ex : ∃ f ρ, o = some (f, ρ) ∧ P f ρ
@[simp] theorem wp_some {f : Fl} {P : Fl → Env → Prop} : wp (some (f, ρ)) P ↔ P f ρ := ⟨fun ⟨_, _, e, h⟩ => by cases e; exact h, fun h => ⟨_, _, rfl, h⟩⟩
theorem wp_imp {o : O} {P Q : Fl → Env → Prop} (h : wp o P) (k : ∀ f ρ, P f ρ → Q f ρ) : wp o Q := by
  obtain ⟨f, ρ, e, h⟩ := h
  exact ⟨f, ρ, e, k f ρ h⟩
/-- what is wanted of a first statement -/
def Nxt (s : SM) (P : Fl → Env → Prop) : Fl → Env → Prop
  | .nx, ρ => wp (s ρ) P
  | f, ρ => P f ρ
@[simp] theorem Nxt_nx {P : Fl → Env → Prop} : Nxt s P .nx ρ = wp (s ρ) P := Eq.trans rfl rfl
@[simp] theorem Nxt_bk {P : Fl → Env → Prop} : Nxt s P .bk ρ = P .bk ρ := Eq.trans rfl rfl
@[simp] theorem Nxt_ct {P : Fl → Env → Prop} : Nxt s P .ct ρ = P .ct ρ := Eq.trans rfl rfl
@[simp] theorem Nxt_rt {P : Fl → Env → Prop} : Nxt s P (.rt d) ρ = P (.rt d) ρ := Eq.trans rfl rfl
@[simp] theorem Nxt_ex {P : Fl → Env → Prop} {k : Nat} : Nxt s P (.ex k) ρ = P (.ex k) ρ := Eq.trans rfl rfl
theorem wp_seq {P : Fl → Env → Prop} (h : wp (s1 ρ) (Nxt s2 P)) : wp (sSeq s1 s2 ρ) P := by
  obtain ⟨f, ρ', e, h⟩ := h
  unfold sSeq
  rw [e]
  cases f with
  | nx => exact h
  | bk => exact ⟨_, _, rfl, h⟩
  | ct => exact ⟨_, _, rfl, h⟩
  | rt d => exact ⟨_, _, rfl, h⟩
  | ex k => exact ⟨_, _, rfl, h⟩
theorem wp_seqN {P : Fl → Env → Prop} (h1 : s1 ρ = some (.nx, ρ')) (h : wp (s2 ρ') P) : wp (sSeq s1 s2 ρ) P := by
  unfold sSeq
  rw [h1]
  exact h
/-- what a def's end tells -/
def endR : Fl → R Dat
  | .nx => .ok .non
  | .rt d => .ok d
  | .ex c => .exc c
  | _ => .bad
@[simp] theorem endR_nx : endR .nx = .ok .non := Eq.trans rfl rfl
@[simp] theorem endR_rt : endR (.rt d) = .ok d := Eq.trans rfl rfl
@[simp] theorem endR_ex {k : Nat} : endR (.ex k) = .exc k := Eq.trans rfl rfl
theorem run_of {as : List Dat} {q : R Dat} (h : wp (s (as.map some ++ List.replicate (n - as.length) none)) fun f _ => endR f = q) : run n s as = q := by
  obtain ⟨f, ρ', e, h⟩ := h
  unfold run
  rw [e]
  cases f <;> exact h
theorem run_at (ρ0 : Env) {as : List Dat} {q : R Dat} (h : wp (s ρ0) fun f _ => endR f = q) (h0 : as.map some ++ List.replicate (n - as.length) none = ρ0 := by rfl) : run n s as = q := by
  subst h0
  exact run_of h
@[simp] theorem sSkip_ap : sSkip ρ = some (.nx, ρ) := Eq.trans rfl rfl
@[simp] theorem sAsg_ap : sAsg g a ρ = lft (a ρ) ρ fun d => gok (g d ρ) fun ρ' => some (.nx, ρ') := Eq.trans rfl rfl
@[simp] theorem sRet_ap : sRet a ρ = lft (a ρ) ρ fun d => some (.rt d, ρ) := Eq.trans rfl rfl
@[simp] theorem sRaise_ap {k : Nat} : sRaise k ρ = some (.ex k, ρ) := Eq.trans rfl rfl
@[simp] theorem sBrk_ap : sBrk ρ = some (.bk, ρ) := Eq.trans rfl rfl
@[simp] theorem sCnt_ap : sCnt ρ = some (.ct, ρ) := Eq.trans rfl rfl
@[simp] theorem sIf_ap : sIf t s1 s2 ρ = lft (t ρ) ρ fun c => if c then s1 ρ else s2 ρ := Eq.trans rfl rfl
@[simp] theorem sFor_ap {src : LM} : sFor src g s ρ = lft (src ρ) ρ fun ds => forL g s ds ρ := Eq.trans rfl rfl
@[simp] theorem sAug_ap : sAug f2 i a ρ = lft ((eV i ρ).bnd fun x => (a ρ).bnd fun y => f2 x y) ρ fun d => gok (gV i d ρ) fun ρ' => some (.nx, ρ') := Eq.trans rfl rfl
theorem sNew_lst {xs : List Dat} (h : a ρ = .ok (.lst xs)) (hi : i < ρ.length) : sNew i a ρ = some (.nx, ρ.set i (some (.lst xs))) := by
  unfold sNew
  rw [h]
  show (if i < ρ.length then _ else _) = _
  rw [if_pos hi]
theorem sNew_dic {xs : List (Dat × Dat)} (h : a ρ = .ok (.dic xs)) (hi : i < ρ.length) : sNew i a ρ = some (.nx, ρ.set i (some (.dic xs))) := by
  unfold sNew
  rw [h]
  show (if i < ρ.length then _ else _) = _
  rw [if_pos hi]
theorem sApp_ap {xs : List Dat} (h1 : ρ[i]? = some (some (.lst xs))) (h : a ρ = .ok d) (hl : xs.length < LINE) : sApp i a ρ = some (.nx, ρ.set i (some (.lst (xs ++ [d])))) := by
  unfold sApp
  rw [h1]
  show lft (a ρ) ρ _ = _
  rw [h]
  exact if_pos hl
theorem forL_nil : forL g s [] ρ = some (.nx, ρ) := rfl
/-- a loop by an invariant: each turn goes on -/
theorem forL_inv {as : List Dat} (I : Nat → Env → Prop) (h0 : I 0 ρ) (hs : ∀ (k : Nat) d ρ, as[k]? = some d → I k ρ → ∃ ρ1, g d ρ = .ok ρ1 ∧ wp (s ρ1) fun f ρ2 => (f = .nx ∨ f = .ct) ∧ I (k + 1) ρ2) : ∃ ρ', forL g s as ρ = some (.nx, ρ') ∧ I as.length ρ' := by
  induction as generalizing ρ I with
  | nil => exact ⟨ρ, rfl, h0⟩
  | cons d r ih =>
    obtain ⟨ρ1, e1, h1⟩ := hs 0 d ρ rfl h0
    have step : ∀ ρ2, I 1 ρ2 → ∃ ρ', forL g s r ρ2 = some (.nx, ρ') ∧ I (r.length + 1) ρ' := fun ρ2 h2 => ih (fun k => I (k + 1)) h2 fun k d' ρ3 e h3 => hs (k + 1) d' ρ3 (by simpa using e) h3
    show ∃ ρ', gok (g d ρ) (fun ρ1 => match s ρ1 with
      | some (.nx, ρ2) => forL g s r ρ2
      | some (.ct, ρ2) => forL g s r ρ2
      | some (.bk, ρ2) => some (.nx, ρ2)
      | q => q) = some (.nx, ρ') ∧ _
    rw [e1]
    obtain ⟨f, ρ2, e2, h2, h3⟩ := h1
    simp only [gok_ok, e2]
    rcases h2 with rfl | rfl
    · exact step ρ2 h3
    · exact step ρ2 h3
/-- a loop, each turn a change of a state -/
theorem forL_fold {σ τ : Type} (E : σ → Env) (D : τ → Dat) (F : σ → τ → σ) (J : σ → Prop) {as : List τ} {z : σ} (h0 : J z) (hs : ∀ z a, a ∈ as → J z → J (F z a) ∧ ∃ ρ1, g (D a) (E z) = .ok ρ1 ∧ (s ρ1 = some (.nx, E (F z a)) ∨ s ρ1 = some (.ct, E (F z a)))) :
    forL g s (as.map D) (E z) = some (.nx, E (as.foldl F z)) ∧ J (as.foldl F z) := by
  induction as generalizing z with
  | nil => exact ⟨rfl, h0⟩
  | cons a r ih =>
    obtain ⟨j1, ρ1, e1, h1⟩ := hs z a List.mem_cons_self h0
    have ih := ih j1 fun z a h j => hs z a (List.mem_cons_of_mem _ h) j
    refine ⟨?_, ih.2⟩
    show gok (g (D a) (E z)) (fun ρ1 => match s ρ1 with
      | some (.nx, ρ2) => forL g s (r.map D) ρ2
      | some (.ct, ρ2) => forL g s (r.map D) ρ2
      | some (.bk, ρ2) => some (.nx, ρ2)
      | q => q) = some (.nx, E (r.foldl F (F z a)))
    rw [e1]
    rcases h1 with h1 | h1
    · simp only [gok_ok, h1]; exact ih.1
    · simp only [gok_ok, h1]; exact ih.1
/-- a comprehension that maps -/
theorem compL_map {τ : Type} (D : τ → Dat) (H : τ → Dat) {as : List τ} (h : ∀ a ∈ as, ∃ ρ1, g (D a) ρ = .ok ρ1 ∧ t ρ1 = .ok true ∧ a ∈ as ∧ c ρ1 = .ok (H a)) : compL g t c ρ (as.map D) = .ok (as.map H) := by
  induction as with
  | nil => rfl
  | cons a r ih =>
    obtain ⟨ρ1, e1, e2, _, e3⟩ := h a List.mem_cons_self
    have ih := ih fun a ha => by
      obtain ⟨ρ1, e1, e2, _, e3⟩ := h a (List.mem_cons_of_mem _ ha)
      exact ⟨ρ1, e1, e2, ha, e3⟩
    show (noX (g (D a) ρ)).bnd (fun ρ' => (noX (t ρ')).bnd fun b => if b then (noX (c ρ')).bnd fun y => (compL g t c ρ (r.map D)).bnd fun ys => .ok (y :: ys) else compL g t c ρ (r.map D)) = _
    rw [e1]
    simp [e2, e3, ih]
/-- .. that chooses and maps -/
theorem compL_filter {τ : Type} (D : τ → Dat) (p : τ → Bool) (H : τ → Dat) {as : List τ} (h : ∀ a ∈ as, ∃ ρ1, g (D a) ρ = .ok ρ1 ∧ t ρ1 = .ok (p a) ∧ (p a = true → c ρ1 = .ok (H a))) : compL g t c ρ (as.map D) = .ok ((as.filter p).map H) := by
  induction as with
  | nil => rfl
  | cons a r ih =>
    obtain ⟨ρ1, e1, e2, e3⟩ := h a List.mem_cons_self
    have ih := ih fun a ha => h a (List.mem_cons_of_mem _ ha)
    show (noX (g (D a) ρ)).bnd (fun ρ' => (noX (t ρ')).bnd fun b => if b then (noX (c ρ')).bnd fun y => (compL g t c ρ (r.map D)).bnd fun ys => .ok (y :: ys) else compL g t c ρ (r.map D)) = _
    rw [e1]
    cases q : p a with
    | true => simp [e2, q, e3 q, ih]
    | false => simp [e2, q, ih]
theorem eComp_of {src : LM} {vs : List Nat} {ds ys : List Dat} (h1 : src ρ = .ok ds) (h2 : compL g t c (wipe ρ vs) ds = .ok ys) (h3 : ys.length ≤ LINE) : eComp src vs g t c ρ = .ok (.lst ys) := by
  unfold eComp
  rw [h1]
  simp [h2, h3]
theorem range_get {α : Type} {n k : Nat} {F : Nat → α} {d : α} (h : ((List.range n).map F)[k]? = some d) : k < n ∧ d = F k := by
  rw [List.getElem?_map] at h
  obtain ⟨j, h1, h2⟩ := Option.map_eq_some_iff.mp h
  obtain ⟨h3, h4⟩ := List.getElem?_eq_some_iff.mp h1
  rw [List.getElem_range] at h4
  rw [List.length_range] at h3
  subst h4
  exact ⟨h3, h2.symm⟩
theorem fdivD_nat {i j : Nat} (h : 0 < j) (h2 : j < 1073741824) : fdivD (.int i) (.int j) = .ok (.int ((i / j : Nat) : Int)) := by
  rw [fdivD_int ⟨by omega, by omega⟩]
  rfl
theorem modD_nat {i j : Nat} (h : 0 < j) : modD (.int i) (.int j) = .ok (.int ((i % j : Nat) : Int)) := by
  rw [modD_int (by omega)]
  rfl
theorem mulR_int {i : Int} {j : Nat} (h : j < 2 ^ 64) : mulD (.int i) (.int j) = .ok (.int (i * j)) := mulD_int (.inr ⟨by omega, by omega⟩)
theorem mulL_int {i : Nat} {j : Int} (h : i < 2 ^ 64) : mulD (.int i) (.int j) = .ok (.int (i * j)) := mulD_int (.inl ⟨by omega, by omega⟩)
/-- a loop is passed -/
theorem wp_for {P : Fl → Env → Prop} {as : List Dat} (I : Nat → Env → Prop) (h0 : I 0 ρ) (hs : ∀ (k : Nat) d ρ, as[k]? = some d → I k ρ → ∃ ρ1, g d ρ = .ok ρ1 ∧ wp (s ρ1) fun f ρ2 => (f = .nx ∨ f = .ct) ∧ I (k + 1) ρ2) (h : ∀ ρ', I as.length ρ' → P .nx ρ') : wp (forL g s as ρ) P := by
  obtain ⟨ρ', e, h2⟩ := forL_inv I h0 hs
  rw [e]
  exact wp_some.mpr (h ρ' h2)
@[simp] theorem ePrs_nil : ePrs [] ρ = .ok [] := Eq.trans rfl rfl
@[simp] theorem ePrs_cons {ps : List (EM × EM)} : ePrs ((a, b) :: ps) ρ = (a ρ).bnd fun x => (b ρ).bnd fun y => (ePrs ps ρ).bnd fun t => .ok ((x, y) :: t) := Eq.trans rfl rfl
@[simp] theorem eDisp_ap {ps : List (EM × EM)} : eDisp ps ρ = (ePrs ps ρ).bnd fun t => if t.all (fun p => isKey p.1) then .ok (.dic (t.foldl (fun d p => dicPut d p.1 p.2) [])) else .bad := Eq.trans rfl rfl
theorem drop_min {xs : List α} {k : Nat} : xs.drop (min k xs.length) = xs.drop k := by
  rcases Nat.le_total k xs.length with h | h
  · rw [Nat.min_eq_left h]
  · rw [Nat.min_eq_right h, List.drop_of_length_le h, List.drop_of_length_le (Nat.le_refl _)]
theorem cutAt_nat {n d k : Nat} : cutAt n d (some (k : Int)) = min k n := by
  show (if (k : Int) < 0 then ((k : Int) + n).toNat else min (k : Int).toNat n) = _
  rw [if_neg (by omega), Int.toNat_natCast]
theorem cutAt_none {n d : Nat} : cutAt n d none = d := rfl
theorem cut_nat {xs : List α} {j k : Nat} : cut xs (some (j : Int)) (some (k : Int)) = (xs.drop j).take (k - j) := by
  unfold cut
  rw [cutAt_nat, cutAt_nat, drop_min]
  rcases Nat.le_total k xs.length with h | h
  · rw [Nat.min_eq_left h]
    rcases Nat.le_total j xs.length with h2 | h2
    · rw [Nat.min_eq_left h2]
    · rw [Nat.min_eq_right h2, List.drop_of_length_le h2]
      simp
  · rw [Nat.min_eq_right h]
    rcases Nat.le_total j xs.length with h2 | h2
    · rw [Nat.min_eq_left h2, List.take_of_length_le (by simp), List.take_of_length_le (by simp; omega)]
    · rw [Nat.min_eq_right h2, List.drop_of_length_le h2]
      simp
theorem cut_from {xs : List α} {j : Nat} : cut xs (some (j : Int)) none = xs.drop j := by
  unfold cut
  rw [cutAt_nat, cutAt_none, drop_min]
  rcases Nat.le_total j xs.length with h2 | h2
  · rw [Nat.min_eq_left h2, List.take_of_length_le (by simp)]
  · rw [Nat.min_eq_right h2, List.drop_of_length_le h2]
    simp
theorem cut_to {xs : List α} {k : Nat} : cut xs none (some (k : Int)) = xs.take k := by
  unfold cut
  rw [cutAt_nat, cutAt_none, List.drop_zero, Nat.sub_zero]
  rcases Nat.le_total k xs.length with h | h
  · rw [Nat.min_eq_left h]
  · rw [Nat.min_eq_right h, List.take_of_length_le h, List.take_of_length_le (Nat.le_refl _)]
@[simp] theorem sliD_lst {xs : List Dat} {lo hi : Option Int} : sliD lo hi (.lst xs) = .ok (.lst (cut xs lo hi)) := Eq.trans rfl rfl
@[simp] theorem sliD_tup {xs : List Dat} {lo hi : Option Int} : sliD lo hi (.tup xs) = .ok (.tup (cut xs lo hi)) := Eq.trans rfl rfl
@[simp] theorem sliD_str {xs : List Nat} {lo hi : Option Int} : sliD lo hi (.str xs) = .ok (.str (cut xs lo hi)) := Eq.trans rfl rfl
theorem joinS_nil : ∀ xs : List (List Nat), joinS [] xs = xs.flatten
  | [] => rfl
  | [x] => by simp [joinS]
  | x :: y :: r => by
    show x ++ [] ++ joinS [] (y :: r) = _
    rw [joinS_nil (y :: r)]
    simp
theorem strsOf_map : ∀ xs : List (List Nat), strsOf (xs.map .str) = some xs
  | [] => rfl
  | x :: r => by
    show (strsOf (r.map .str)).map (x :: ·) = _
    rw [strsOf_map r]
    rfl
theorem joinD_lst {sep : List Nat} {xs : List (List Nat)} (h : (xs.map (·.length)).sum + xs.length * sep.length ≤ LINE) : joinD (.str sep) (.lst (xs.map .str)) = .ok (.str (joinS sep xs)) := by
  show (match strsOf (xs.map .str) with | some ss => if (ss.map (fun z : List Nat => z.length)).sum + ss.length * sep.length ≤ LINE then R.ok (Dat.str (joinS sep ss)) else R.bad | none => R.bad) = _
  rw [strsOf_map]
  exact if_pos h
theorem rng3_int {m n st : Int} : rng3 (.int m) (.int n) (.int st) = if fits62 m ∧ fits62 n ∧ 0 < st ∧ st < 2 ^ 30 then .ok ((stepTo m n st).map .int) else .bad := rfl
theorem rng3_nat {n st : Nat} (h : n < 2 ^ 62) (h0 : 0 < st) (h1 : st < 2 ^ 30) : rng3 (.int 0) (.int n) (.int st) = .ok ((List.range ((n + st - 1) / st)).map fun k => .int ((k * st : Nat) : Int)) := by
  rw [rng3_int, if_pos ⟨⟨by omega, by omega⟩, ⟨by omega, by omega⟩, by omega, by omega⟩]
  unfold stepTo
  rw [show ((n : Int) - 0 + st - 1) = ((n + st - 1 : Nat) : Int) by omega, show (((n + st - 1 : Nat) : Int) / (st : Int)) = (((n + st - 1) / st : Nat) : Int) from rfl, Int.toNat_natCast, List.map_map]
  congr 2
  funext k
  simp
/-! ### loops that may end early -/
/-- what is wanted of a turn -/
def Lp (I : Env → Prop) (P : Fl → Env → Prop) : Fl → Env → Prop
  | .nx, ρ => I ρ
  | .ct, ρ => I ρ
  | .bk, ρ => P .nx ρ
  | f, ρ => P f ρ
section
variable {I : Env → Prop} {P : Fl → Env → Prop}
@[simp] theorem Lp_nx : Lp I P .nx ρ = I ρ := rfl
@[simp] theorem Lp_ct : Lp I P .ct ρ = I ρ := rfl
@[simp] theorem Lp_bk : Lp I P .bk ρ = P .nx ρ := rfl
@[simp] theorem Lp_rt : Lp I P (.rt d) ρ = P (.rt d) ρ := rfl
@[simp] theorem Lp_ex {k : Nat} : Lp I P (.ex k) ρ = P (.ex k) ρ := rfl
end
theorem wp_forX {P : Fl → Env → Prop} {as : List Dat} (I : Nat → Env → Prop) (h0 : I 0 ρ) (hs : ∀ (k : Nat) d ρ, as[k]? = some d → I k ρ → ∃ ρ1, g d ρ = .ok ρ1 ∧ wp (s ρ1) (Lp (I (k + 1)) P)) (h : ∀ ρ', I as.length ρ' → P .nx ρ') : wp (forL g s as ρ) P := by
  induction as generalizing ρ I with
  | nil => exact ⟨_, _, rfl, h ρ h0⟩
  | cons d r ih =>
    obtain ⟨ρ1, e1, f, ρ2, e2, h2⟩ := hs 0 d ρ rfl h0
    have step : ∀ ρ2, I 1 ρ2 → wp (forL g s r ρ2) P := fun ρ2 h2 => ih (fun k => I (k + 1)) h2 (fun k d' ρ3 e h3 => hs (k + 1) d' ρ3 (by simpa using e) h3) h
    show wp (gok (g d ρ) (fun ρ1 => match s ρ1 with
      | some (.nx, ρ2) => forL g s r ρ2
      | some (.ct, ρ2) => forL g s r ρ2
      | some (.bk, ρ2) => some (.nx, ρ2)
      | q => q)) P
    rw [e1]
    simp only [gok_ok, e2]
    cases f with
    | nx => exact step ρ2 h2
    | ct => exact step ρ2 h2
    | bk => exact ⟨_, _, rfl, h2⟩
    | rt d => exact ⟨_, _, rfl, h2⟩
    | ex c => exact ⟨_, _, rfl, h2⟩
theorem enumR_get : ∀ {ds : List Dat} {k i : Nat} {d : Dat}, (enumFrom k ds)[i]? = some d → ∃ x, ds[i]? = some x ∧ d = .tup [.int ((k + i : Nat) : Int), x]
  | [], _, _, _, h => by simp [enumFrom] at h
  | x :: r, k, 0, d, h => ⟨x, rfl, by simpa [enumFrom] using h.symm⟩
  | x :: r, k, i + 1, d, h => by
    obtain ⟨y, h1, h2⟩ := enumR_get (ds := r) (k := k + 1) (i := i) (by simpa [enumFrom] using h)
    exact ⟨y, by simpa using h1, by rw [h2]; congr 3; omega⟩
theorem enumR_len : ∀ {ds : List Dat} {k : Nat}, (enumFrom k ds).length = ds.length
  | [], _ => rfl
  | _ :: r, k => by simp [enumFrom, enumR_len (ds := r)]
theorem map_get {α : Type} {l : List α} {k : Nat} {F : α → Dat} {d : Dat} (h : (l.map F)[k]? = some d) : ∃ hk : k < l.length, d = F l[k] := by
  rw [List.getElem?_map] at h
  obtain ⟨j, h1, h2⟩ := Option.map_eq_some_iff.mp h
  obtain ⟨h3, h4⟩ := List.getElem?_eq_some_iff.mp h1
  exact ⟨h3, by rw [h4]; exact h2.symm⟩
/-! ### try -/
@[simp] theorem sTry_ap {hs : List ((Nat → Bool) × Option Nat × SM)} : sTry hs s ρ = match s ρ with
  | some (.ex c, ρ') => hand hs c ρ'
  | q => q := Eq.trans rfl rfl
@[simp] theorem hand_nil {k : Nat} : hand [] k ρ = some (.ex k, ρ) := Eq.trans rfl rfl
@[simp] theorem hand_none {p : Nat → Bool} {r : List ((Nat → Bool) × Option Nat × SM)} {k : Nat} : hand ((p, none, s) :: r) k ρ = if p k then noEx (s ρ) else hand r k ρ := Eq.trans rfl rfl
@[simp] theorem hand_some {p : Nat → Bool} {r : List ((Nat → Bool) × Option Nat × SM)} {k : Nat} : hand ((p, some i, s) :: r) k ρ = if p k then (if i < ρ.length then (match noEx (s (ρ.set i (some (.exc k)))) with
    | some (f, ρ') => some (f, ρ'.set i none)
    | none => none) else none) else hand r k ρ := Eq.trans rfl rfl
@[simp] theorem noEx_rt : noEx (some (.rt d, ρ)) = some (.rt d, ρ) := Eq.trans rfl rfl
@[simp] theorem noEx_nx : noEx (some (.nx, ρ)) = some (.nx, ρ) := Eq.trans rfl rfl
@[simp] theorem isX_exc {sub : Nat → Nat → Bool} {k j : Nat} : isX sub j (.exc k) = .ok (.bl (sub k j)) := Eq.trans rfl rfl
theorem within_one {c : Nat} : ∀ ls : List Nat, within [c] ls = decide (c ∈ ls)
  | [] => rfl
  | y :: ys => by
    show (begins [c] (y :: ys) || within [c] ys) = _
    rw [within_one ys]
    show ((c == y && begins [] ys) || decide (c ∈ ys)) = _
    have : begins ([] : List Nat) ys = true := by cases ys <;> rfl
    rw [this, Bool.and_true]
    by_cases h : c = y
    · subst h; simp
    · simp [h]
theorem inD_one {c : Nat} {ls : List Nat} : inD (.str [c]) (.str ls) = .ok (.bl (decide (c ∈ ls))) := by
  show R.ok (Dat.bl (within [c] ls)) = _
  rw [within_one]
theorem boolsOf_map : ∀ bs : List Bool, boolsOf (bs.map .bl) = some bs
  | [] => rfl
  | b :: r => by
    show (boolsOf (r.map .bl)).map (b :: ·) = _
    rw [boolsOf_map r]
    rfl
theorem allD_map {bs : List Bool} : allD (.lst (bs.map .bl)) = .ok (.bl (bs.all id)) := by
  show (match boolsOf (bs.map .bl) with | some bs => R.ok (Dat.bl (bs.all id)) | none => R.bad) = _
  rw [boolsOf_map]
theorem anyD_map {bs : List Bool} : anyD (.lst (bs.map .bl)) = .ok (.bl (bs.any id)) := by
  show (match boolsOf (bs.map .bl) with | some bs => R.ok (Dat.bl (bs.any id)) | none => R.bad) = _
  rw [boolsOf_map]
theorem flat_ones : ∀ l : List Nat, (l.map fun c => [c]).flatten = l
  | [] => rfl
  | x :: r => by simp [flat_ones r]
theorem sum_ones : ∀ l : List Nat, ((l.map fun c => [c]).map (fun z : List Nat => z.length)).sum = l.length
  | [] => rfl
  | x :: r => by
    rw [List.map_cons, List.map_cons, List.sum_cons, sum_ones r]
    simp
    omega
theorem joinD_ones {l : List Nat} (h : l.length ≤ LINE) : joinD (.str []) (.lst (l.map fun c => .str [c])) = .ok (.str l) := by
  have e : (l.map fun c => Dat.str [c]) = (l.map fun c => [c]).map .str := by rw [List.map_map]; rfl
  rw [e, joinD_lst, joinS_nil, flat_ones]
  rw [sum_ones]
  simpa using h
@[simp] theorem revD_str {xs : List Nat} : revD (.str xs) = .ok (.str xs.reverse) := Eq.trans rfl rfl
@[simp] theorem revD_lst {xs : List Dat} : revD (.lst xs) = .ok (.lst xs.reverse) := Eq.trans rfl rfl
theorem lenL {α : Type} {xs : List α} {n : Nat} (h : xs.length = n) (h2 : n ≤ 1000000) : xs.length ≤ LINE := by unfold LINE; omega
theorem wp_seqE {P : Fl → Env → Prop} (I : Env → Prop) (h1 : wp (s1 ρ) fun f ρ' => f = .nx ∧ I ρ') (h2 : ∀ ρ', I ρ' → wp (s2 ρ') P) : wp (sSeq s1 s2 ρ) P := by
  refine wp_seq (wp_imp h1 fun f ρ' ⟨e, h⟩ => ?_)
  subst e
  exact h2 ρ' h
theorem rng2_int {m n : Int} : rng2 (.int m) (.int n) = if fits62 m ∧ fits62 n then .ok ((upTo m n).map .int) else .bad := rfl
theorem rng2_nat {m n : Nat} (hm : m < 2 ^ 62) (h : n < 2 ^ 62) : rng2 (.int m) (.int n) = .ok ((List.range (n - m)).map fun k => .int ((m + k : Nat) : Int)) := by
  rw [rng2_int, if_pos ⟨⟨by omega, by omega⟩, ⟨by omega, by omega⟩⟩]
  unfold upTo
  rw [show ((n : Int) - (m : Int)).toNat = n - m by omega, List.map_map]
  rfl
theorem sPut_dic {k : EM} {kvs : List (Dat × Dat)} {z : Dat} (h1 : ρ[i]? = some (some (.dic kvs))) (h2 : a ρ = .ok d) (h3 : k ρ = .ok z) (hz : isKey z = true) (hl : kvs.length < LINE) : sPut i k a ρ = some (.nx, ρ.set i (some (.dic (dicPut kvs z d)))) := by
  unfold sPut
  rw [h1]
  show lft (a ρ) ρ _ = _
  rw [h2]
  show lft (k ρ) ρ _ = _
  rw [h3]
  exact if_pos ⟨hz, hl⟩
theorem dicPut_new {kvs : List (Dat × Dat)} {k v : Dat} (h : ∀ p ∈ kvs, eqv p.1 k = false) : dicPut kvs k v = kvs ++ [(k, v)] := by
  unfold dicPut
  rw [if_neg]
  simp only [List.any_eq_true, not_exists, not_and, Bool.not_eq_true]
  exact fun p hp => h p hp
@[simp] theorem eqv_str {x y : List Nat} : eqv (.str x) (.str y) = (x == y) := Eq.trans (by unfold eqv; rfl) rfl
@[simp] theorem eqv_int {x y : Int} : eqv (.int x) (.int y) = (x == y) := Eq.trans (by unfold eqv; rfl) rfl
end
end PL

namespace PL
set_option autoImplicit false
noncomputable section
def b_cell : SM := (sSeq (sIf (tE (e2 ltD (eV 1) (e1 lenD (eV 0))))
    (sRet (e1 intD (e2 idxD (eV 0) (eV 1))))
    sSkip)
    (sRet (eC (.int 0))))
def b_numbers : SM := (sSeq (sNew 3 (eLst eNil))
    (sSeq (sAsg (gV 4) (eV 0))
    (sSeq (sFor (iR1 (eV 1)) (gV 5)
    (sIf (tAnd (tE (e2 geD (eV 0) (e2 powD (eC (.int 10)) (eC (.int 18))))) (tE (e2 gtD (eV 4) (eC (.int 0)))))
    (sSeq (sApp 3 (e2 modD (e1 intD (eV 4)) (eV 2)))
    (sAsg (gV 4) (e2 fdivD (e1 intD (eV 4)) (eV 2))))
    (sSeq (sAsg (gV 6) (e2 modD (e1 intD (e2 addD (e2 addD (e2 mulD (eV 0) (eC (.int 48271))) (e2 mulD (eV 5) (eC (.int 69621)))) (eC (.int 7)))) (eC (.int 2147483647))))
    (sSeq (sAsg (gV 6) (e2 modD (e1 intD (e2 addD (e2 addD (e2 addD (e2 mulD (eV 6) (eV 6)) (e2 mulD (eV 6) (eC (.int 40692)))) (e2 mulD (eV 5) (eC (.int 16807)))) (eC (.int 11)))) (eC (.int 2147483399))))
    (sApp 3 (e2 modD (e1 intD (e2 fdivD (eV 6) (eC (.int 32)))) (eV 2)))))))
    (sRet (eV 3)))))
def b_same (IHm : List Dat → R Dat) : SM := (sSeq (sIf (tE (e1 (isTy .list) (eV 1)))
    (sIf (tOr (tNot (tE (e1 (isTy .list) (eV 0)))) (tE (e2 neD (e1 lenD (eV 0)) (e1 lenD (eV 1)))))
    (sRet (eC (.bl false)))
    sSkip)
    (sIf (tE (e1 (isTy .tuple) (eV 1)))
    (sIf (tOr (tNot (tE (e1 (isTy .tuple) (eV 0)))) (tE (e2 neD (e1 lenD (eV 0)) (e1 lenD (eV 1)))))
    (sRet (eC (.bl false)))
    sSkip)
    (sIf (tE (e1 isN (eV 1)))
    (sRet (e1 isN (eV 0)))
    (sIf (tE (e1 (isTy .bool) (eV 1)))
    (sRet (eAnd (e1 (isTy .bool) (eV 0)) (e2 eqD (eV 0) (eV 1))))
    (sIf (tE (e1 (isTy .int) (eV 1)))
    (sRet (eAnd (e1 (isTy .int) (eV 0)) (eAnd (e1 notB (e1 (isTy .bool) (eV 0))) (e2 eqD (eV 0) (eV 1)))))
    (sRet (eAnd (e1 (isTy .str) (eV 0)) (e2 eqD (eV 0) (eV 1)))))))))
    (sSeq (sFor (iR1 (e1 lenD (eV 1))) (gV 2)
    (sIf (tNot (tE (eCall IHm (eCons (e2 idxD (eV 0) (eV 2)) (eCons (e2 idxD (eV 1) (eV 2)) eNil)))))
    (sRet (eC (.bl false)))
    sSkip))
    (sRet (eC (.bl true)))))
def f_same : Nat → List Dat → R Dat
  | 0 => fun _ => .bad
  | n + 1 => run 3 (b_same (f_same n))
end
theorem cell_ok (ns : List Int) (k : Nat) (h : ns.length ≤ 1000000) : ∃ z : Int, run 2 b_cell [.lst (ns.map .int), .int k] = .ok (.int z) := by
  by_cases hk : k < ns.length
  · refine ⟨ns[k], run_at [some (.lst (ns.map .int)), some (.int k)] ?_⟩
    unfold b_cell
    refine wp_seq ?_
    simp only [sIf_ap, tE_ap, e2_ap, e1_ap, eV_zero, eV_succ, R.bnd_ok, lenD_lst, ltD_int, tru_bl, lft_ok, List.length_map]
    rw [if_pos (by rw [decide_eq_true_iff]; omega)]
    simp only [sRet_ap, e2_ap, e1_ap, eV_zero, eV_succ, R.bnd_ok]
    rw [idxD_lst (by simpa using hk)]
    simp
  · refine ⟨0, run_at [some (.lst (ns.map .int)), some (.int k)] ?_⟩
    unfold b_cell
    refine wp_seq ?_
    simp only [sIf_ap, tE_ap, e2_ap, e1_ap, eV_zero, eV_succ, R.bnd_ok, lenD_lst, ltD_int, tru_bl, lft_ok, List.length_map]
    rw [if_neg (by rw [decide_eq_true_iff]; omega)]
    simp
/-- numbers as data -/
abbrev nums (l : List Nat) : Dat := .lst (l.map fun x => .int (x : Nat))
theorem numbers_ok (cell : Int) (count limit : Nat) (hc : count ≤ 1000000) (h0 : 0 < limit) (h1 : limit < 1073741824) : ∃ l : List Nat, run 7 b_numbers [.int cell, .int count, .int limit] = .ok (nums l) ∧ l.length = count ∧ ∀ x ∈ l, x < limit := by
  have key : wp (b_numbers [some (.int cell), some (.int count), some (.int limit), none, none, none, none]) fun f _ => ∃ l : List Nat, endR f = .ok (nums l) ∧ l.length = count ∧ ∀ x ∈ l, x < limit := by
    unfold b_numbers
    refine wp_seq ?_
    rw [sNew_lst (xs := []) (by simp [LINE]) (by simp)]
    simp only [wp_some, Nxt_nx, List.set_cons_succ, List.set_cons_zero]
    refine wp_seq ?_
    simp only [sAsg_ap, eV_zero, lft_ok, gV_succ, gV_zero, R.bnd_ok, gok_ok, wp_some, Nxt_nx]
    refine wp_seq ?_
    rw [sFor_ap]
    simp only [iR1_ap, eV_succ, eV_zero, R.bnd_ok]
    rw [rng1_nat (by omega)]
    simp only [lft_ok]
    have push : ∀ (k : Nat) (l : List Nat) (v : Int) (o o2 o3 : Option Dat) (e : EM), l.length = k → k < count → (∀ x ∈ l, x < limit) → e [some (.int cell), some (.int count), some (.int limit), some (nums l), o, o2, o3] = .ok (.int (v % (limit : Int))) →
        ∃ l' : List Nat, sApp 3 e [some (.int cell), some (.int count), some (.int limit), some (nums l), o, o2, o3] = some (.nx, [some (.int cell), some (.int count), some (.int limit), some (nums l'), o, o2, o3]) ∧ l'.length = k + 1 ∧ ∀ x ∈ l', x < limit := by
      intro k l v o o2 o3 e hl hk hx he
      have hv0 := Int.emod_nonneg v (show (limit : Int) ≠ 0 by omega)
      have hv1 := Int.emod_lt_of_pos v (show (0 : Int) < limit by omega)
      refine ⟨l ++ [(v % (limit : Int)).toNat], ?_, by simp [hl], ?_⟩
      · rw [sApp_ap (xs := l.map fun x => .int (x : Nat)) (d := .int (v % (limit : Int))) (by simp) he (by simp; unfold LINE; omega)]
        simp [nums, Int.toNat_of_nonneg hv0]
      · intro x hxx
        rcases List.mem_append.mp hxx with h | h
        · exact hx x h
        · simp at h
          omega
    refine wp_for (fun k ρ => ∃ (l : List Nat) (rest : Int) (o2 o3 : Option Dat), l.length = k ∧ (∀ x ∈ l, x < limit) ∧ ρ = [some (.int cell), some (.int count), some (.int limit), some (nums l), some (.int rest), o2, o3]) ⟨[], cell, none, none, rfl, by simp, rfl⟩ (fun k d ρ hk ⟨l, rest, o2, o3, w1, w2, e⟩ => ?_) (fun ρ ⟨l, rest, o2, o3, w1, w2, e⟩ => ?_)
    · obtain ⟨hk2, rfl⟩ := range_get hk
      subst e
      refine ⟨[some (.int cell), some (.int count), some (.int limit), some (nums l), some (.int rest), some (.int k), o3], by simp, ?_⟩
      simp only [sIf_ap, tAnd_ap, tE_ap, e2_ap, eV_zero, eV_succ, eC_ap, R.bnd_ok]
      rw [show powD (.int 10) (.int 18) = .ok (.int 1000000000000000000) from by rfl]
      simp only [R.bnd_ok, geD_int, gtD_int, tru_bl]
      have hif : ∀ (b1 b2 : Bool), (if b1 = true then R.ok b2 else R.ok false) = R.ok (b1 && b2) := by intro b1 b2; cases b1 <;> rfl
      rw [hif]
      simp only [lft_ok]
      split
      · refine wp_seq ?_
        obtain ⟨l', q1, q2, q3⟩ := push k l rest (some (.int rest)) (some (.int k)) o3 (e2 modD (e1 intD (eV 4)) (eV 2)) w1 hk2 w2 (by simp [modD_int (show (0 : Int) < limit by omega)])
        rw [q1]
        simp only [wp_some, Nxt_nx, sAsg_ap, e2_ap, e1_ap, eV_zero, eV_succ, R.bnd_ok, intD_int, fdivD_int (show (0 : Int) < limit ∧ (limit : Int) < 1073741824 by omega), lft_ok, gV_succ, gV_zero, gok_ok]
        exact ⟨.inl trivial, l', _, _, _, q2, q3, rfl⟩
      · refine wp_seq ?_
        simp only [sAsg_ap, e2_ap, e1_ap, eV_zero, eV_succ, eC_ap, R.bnd_ok, mulD_int (show small64 cell ∨ small64 48271 from .inr ⟨by omega, by omega⟩), mulD_int (show small64 (k : Int) ∨ small64 69621 from .inr ⟨by omega, by omega⟩), addD_int, intD_int, modD_int (show (0 : Int) < 2147483647 by omega), lft_ok, gV_succ, gV_zero, gok_ok, wp_some, Nxt_nx]
        refine wp_seq ?_
        generalize hm : (cell * 48271 + (k : Int) * 69621 + 7) % 2147483647 = mx
        have hm0 : 0 ≤ mx ∧ mx < 2147483647 := by rw [← hm]; exact ⟨Int.emod_nonneg _ (by omega), Int.emod_lt_of_pos _ (by omega)⟩
        simp only [sAsg_ap, e2_ap, e1_ap, eV_zero, eV_succ, eC_ap, R.bnd_ok, mulD_int (show small64 mx ∨ small64 mx from .inr ⟨by omega, by omega⟩), mulD_int (show small64 mx ∨ small64 40692 from .inr ⟨by omega, by omega⟩), mulD_int (show small64 (k : Int) ∨ small64 16807 from .inr ⟨by omega, by omega⟩), addD_int, intD_int, modD_int (show (0 : Int) < 2147483399 by omega), lft_ok, gV_succ, gV_zero, gok_ok, wp_some, Nxt_nx]
        generalize (mx * mx + mx * 40692 + (k : Int) * 16807 + 11) % 2147483399 = my
        obtain ⟨l', q1, q2, q3⟩ := push k l (my / 32) (some (.int rest)) (some (.int k)) (some (.int my)) (e2 modD (e1 intD (e2 fdivD (eV 6) (eC (.int 32)))) (eV 2)) w1 hk2 w2 (by simp [modD_int (show (0 : Int) < limit by omega), fdivD_int (show (0 : Int) < 32 ∧ (32 : Int) < 1073741824 by omega)])
        rw [q1]
        exact wp_some.mpr ⟨.inl rfl, l', _, _, _, q2, q3, rfl⟩
    · subst e
      rw [List.length_map, List.length_range] at w1
      simp only [Nxt_nx, sRet_ap, eV_zero, eV_succ, lft_ok, wp_some, endR_rt]
      exact ⟨l, rfl, w1, w2⟩
  obtain ⟨f, ρ, e, l, h1, h2, h3⟩ := key
  exact ⟨l, run_at _ ⟨f, ρ, e, h1⟩, h2, h3⟩
/-- data that is told alike with itself, of so many levels -/
def gd : Nat → Dat → Prop
  | _, .non => True
  | _, .bl _ => True
  | _, .int _ => True
  | _, .str _ => True
  | n + 1, .lst xs => xs.length ≤ LINE ∧ ∀ x ∈ xs, gd n x
  | n + 1, .tup xs => xs.length ≤ LINE ∧ ∀ x ∈ xs, gd n x
  | _, _ => False
theorem isTy_lst {xs : List Dat} : isTy .list (.lst xs) = .ok (.bl true) ∧ isTy .list (.tup xs) = .ok (.bl false) ∧ isTy .tuple (.tup xs) = .ok (.bl true) := ⟨rfl, rfl, rfl⟩
theorem same_loop {n : Nat} {xs : List Dat} {mk : List Dat → Dat} (hl : xs.length ≤ LINE) (hlen : lenD (mk xs) = .ok (.int xs.length)) (hidx : ∀ (k : Nat) (h : k < xs.length), idxD (mk xs) (.int k) = .ok xs[k]) (ih : ∀ x ∈ xs, f_same n [x, x] = .ok (.bl true)) (o : Option Dat) :
    wp (sSeq (sFor (iR1 (e1 lenD (eV 1))) (gV 2) (sIf (tNot (tE (eCall (f_same n) (eCons (e2 idxD (eV 0) (eV 2)) (eCons (e2 idxD (eV 1) (eV 2)) eNil))))) (sRet (eC (.bl false))) sSkip)) (sRet (eC (.bl true))) [some (mk xs), some (mk xs), o]) fun f _ => endR f = .ok (.bl true) := by
  unfold LINE at hl
  refine wp_seq ?_
  rw [sFor_ap]
  simp only [iR1_ap, e1_ap, eV_succ, eV_zero, R.bnd_ok, hlen]
  rw [rng1_nat (by omega)]
  simp only [lft_ok]
  refine wp_for (fun k ρ => ∃ o, ρ = [some (mk xs), some (mk xs), o]) ⟨o, rfl⟩ (fun k d ρ hk ⟨o, e⟩ => ?_) (fun ρ ⟨o, e⟩ => ?_)
  · obtain ⟨hk2, rfl⟩ := range_get hk
    subst e
    refine ⟨[some (mk xs), some (mk xs), some (.int k)], by simp, ?_⟩
    simp only [sIf_ap, tNot_ap, tE_ap, eCall_ap, eCons_ap, eNil_ap, e2_ap, eV_zero, eV_succ, R.bnd_ok, hidx k hk2, ih _ (List.getElem_mem hk2), tru_bl, lft_ok]
    simp only [Bool.not_true, Bool.false_eq_true, if_false, sSkip_ap, wp_some]
    exact ⟨.inl trivial, _, rfl⟩
  · subst e
    simp
theorem same_refl : ∀ (n : Nat) (d : Dat), gd n d → f_same (n + 1) [d, d] = .ok (.bl true) := by
  intro n
  induction n with
  | zero =>
    intro d h
    refine run_at [some d, some d, none] ?_
    unfold b_same
    refine wp_seq ?_
    cases d with
    | lst xs => exact h.elim
    | tup xs => exact h.elim
    | dic xs => exact h.elim
    | exc k => exact h.elim
    | non => simp [isTy]
    | bl b => simp [isTy]; rw [show eqD (.bl b) (.bl b) = .ok (.bl (b == b)) from rfl]; simp
    | int i => simp [isTy]
    | str z => simp [isTy]
  | succ n ih =>
    intro d h
    refine run_at [some d, some d, none] ?_
    unfold b_same
    refine wp_seq ?_
    cases d with
    | dic xs => exact h.elim
    | exc k => exact h.elim
    | non => simp [isTy]
    | bl b => simp [isTy]; rw [show eqD (.bl b) (.bl b) = .ok (.bl (b == b)) from rfl]; simp
    | int i => simp [isTy]
    | str z => simp [isTy]
    | lst xs =>
      obtain ⟨hl, hx⟩ := h
      simp only [sIf_ap, tE_ap, tOr_ap, tNot_ap, e1_ap, e2_ap, eV_zero, eV_succ, R.bnd_ok, isTy_lst, tru_bl, lft_ok, lenD_lst, neD_int]
      simp
      exact same_loop (mk := .lst) hl rfl (fun k h => idxD_lst h) (fun x hxx => ih x (hx x hxx)) none
    | tup xs =>
      obtain ⟨hl, hx⟩ := h
      simp only [sIf_ap, tE_ap, tOr_ap, tNot_ap, e1_ap, e2_ap, eV_zero, eV_succ, R.bnd_ok, isTy_lst, tru_bl, lft_ok, lenD_tup, neD_int]
      simp [isTy_lst]
      exact same_loop (mk := .tup) hl rfl (fun k h => idxD_tup h) (fun x hxx => ih x (hx x hxx)) none
theorem gd_up : ∀ (n : Nat) (d : Dat), gd n d → gd (n + 1) d
  | _, .non, _ => trivial
  | _, .bl _, _ => trivial
  | _, .int _, _ => trivial
  | _, .str _, _ => trivial
  | n + 1, .lst xs, h => ⟨h.1, fun x hx => gd_up n x (h.2 x hx)⟩
  | n + 1, .tup xs, h => ⟨h.1, fun x hx => gd_up n x (h.2 x hx)⟩
  | 0, .lst xs, h => h.elim
  | 0, .tup xs, h => h.elim
  | 0, .dic xs, h => h.elim
  | 0, .exc xs, h => h.elim
  | _ + 1, .dic xs, h => h.elim
  | _ + 1, .exc xs, h => h.elim
theorem gd_le {n m : Nat} {d : Dat} (h : n ≤ m) (g : gd n d) : gd m d := by
  induction h with
  | refl => exact g
  | step _ ih => exact gd_up _ d ih
theorem idx_nums {l : List Nat} {k : Nat} (h : k < l.length) : idxD (nums l) (.int k) = .ok (.int (l[k] : Nat)) := by
  rw [idxD_lst (by simpa using h)]
  simp
theorem idx_nums0 {l : List Nat} (h : 0 < l.length) : idxD (nums l) (.int 0) = .ok (.int (l[0] : Nat)) := idx_nums (k := 0) h
theorem len_nums {l : List Nat} : lenD (nums l) = .ok (.int l.length) := by simp [nums]

/-! ### while -/
theorem whlN_up {t : TM} {b : SM} : ∀ (n : Nat) (ρ : Env) (r : Fl × Env), whlN t b n ρ = some r → ∀ k, whlN t b (n + k) ρ = some r
  | 0, ρ, r, h, k => by cases h
  | n + 1, ρ, r, h, k => by
    rw [show n + 1 + k = (n + k) + 1 by omega]
    unfold whlN at h ⊢
    cases q : t ρ with
    | bad => rw [q] at h; cases h
    | exc x => rw [q] at h; exact h
    | ok c =>
      rw [q] at h
      simp only [lft_ok] at h ⊢
      cases c with
      | false => exact h
      | true =>
        simp only [if_true] at h ⊢
        match hb : b ρ with
        | none => rw [hb] at h; cases h
        | some (.nx, ρ') => rw [hb] at h; exact whlN_up n ρ' r h k
        | some (.ct, ρ') => rw [hb] at h; exact whlN_up n ρ' r h k
        | some (.bk, ρ') => rw [hb] at h; exact h
        | some (.rt d, ρ') => rw [hb] at h; exact h
        | some (.ex c, ρ') => rw [hb] at h; exact h
theorem sWhl_at {t : TM} {b : SM} {n : Nat} {ρ : Env} {r : Fl × Env} (h : whlN t b n ρ = some r) : sWhl t b ρ = some r := by
  unfold sWhl
  have ex : ∃ n, (whlN t b n ρ).isSome = true := ⟨n, by rw [h]; rfl⟩
  rw [dif_pos ex]
  cases q : whlN t b ex.choose ρ with
  | none =>
    have := ex.choose_spec
    rw [q] at this
    cases this
  | some r' =>
    have h1 := whlN_up n ρ r h ex.choose
    have h2 := whlN_up _ ρ r' q n
    rw [Nat.add_comm] at h1
    exact h2.symm.trans h1
/-- a while loop by an invariant with a measure -/
theorem wp_whl {t : TM} {b : SM} {P : Fl → Env → Prop} (I : Nat → Env → Prop) (hs : ∀ n ρ, I n ρ → ∃ c, t ρ = .ok c ∧ (c = true → wp (b ρ) (Lp (fun ρ' => ∃ m, m < n ∧ I m ρ') P)) ∧ (c = false → P .nx ρ)) {n : Nat} {ρ : Env} (h : I n ρ) : wp (sWhl t b ρ) P := by
  have key : ∀ n ρ, I n ρ → ∃ N f ρ', whlN t b N ρ = some (f, ρ') ∧ P f ρ' := by
    intro n
    induction n using Nat.strongRecOn with
    | ind n ih =>
      intro ρ h
      obtain ⟨c, e, h1, h2⟩ := hs n ρ h
      cases c with
      | false =>
        refine ⟨1, .nx, ρ, ?_, h2 rfl⟩
        unfold whlN
        rw [e]
        rfl
      | true =>
        obtain ⟨f, ρ', e2, h3⟩ := h1 rfl
        have go : (∃ m, m < n ∧ I m ρ') → (∀ N, whlN t b (N + 1) ρ = whlN t b N ρ') → ∃ N f ρ', whlN t b N ρ = some (f, ρ') ∧ P f ρ' := fun ⟨m, hm, hi⟩ st => by
          obtain ⟨N, f, ρ2, e3, h4⟩ := ih m hm ρ' hi
          exact ⟨N + 1, f, ρ2, (st N).trans e3, h4⟩
        have st : ∀ N, whlN t b (N + 1) ρ = (match b ρ with
          | some (.nx, ρ') => whlN t b N ρ'
          | some (.ct, ρ') => whlN t b N ρ'
          | some (.bk, ρ') => some (.nx, ρ')
          | q => q) := fun N => by
          conv => lhs; unfold whlN
          rw [e]
          rfl
        cases f with
        | nx => exact go h3 fun N => by rw [st, e2]
        | ct => exact go h3 fun N => by rw [st, e2]
        | bk => exact ⟨1, .nx, ρ', by rw [st, e2], h3⟩
        | rt d => exact ⟨1, .rt d, ρ', by rw [st, e2], h3⟩
        | ex d => exact ⟨1, .ex d, ρ', by rw [st, e2], h3⟩
  obtain ⟨N, f, ρ', e, hp⟩ := key n ρ h
  exact ⟨f, ρ', sWhl_at e, hp⟩
/-! ### more of loops, comprehensions, equality -/
theorem compL_cons {g : GM} {t : TM} {e : EM} {ρ : Env} {d : Dat} {r : List Dat} : compL g t e ρ (d :: r) = (noX (g d ρ)).bnd fun ρ' => (noX (t ρ')).bnd fun b => if b then (noX (e ρ')).bnd fun y => (compL g t e ρ r).bnd fun ys => .ok (y :: ys) else compL g t e ρ r := rfl
theorem compD_cons {g : GM} {t : TM} {ek ev : EM} {ρ : Env} {d : Dat} {r : List Dat} {acc : List (Dat × Dat)} : compD g t ek ev ρ (d :: r) acc = (noX (g d ρ)).bnd fun ρ' => (noX (t ρ')).bnd fun b =>
    if b then (noX (ek ρ')).bnd fun k => (noX (ev ρ')).bnd fun v => if isKey k ∧ acc.length < LINE then compD g t ek ev ρ r (dicPut acc k v) else .bad else compD g t ek ev ρ r acc := rfl
/-- for k in range(n): if not bit k: return False -/
theorem wp_forB {g : GM} {t : TM} {P : Fl → Env → Prop} {n : Nat} (bits : Nat → Bool) (E : Option Dat → Env) (hg : ∀ k o, g (.int (k : Nat)) (E o) = .ok (E (some (.int (k : Nat))))) (ht : ∀ k, k < n → t (E (some (.int (k : Nat)))) = .ok (!bits k))
    (h1 : (∀ k, k < n → bits k = true) → ∀ o, P .nx (E o)) (h2 : (∃ k, k < n ∧ bits k = false) → ∀ o, P (.rt (.bl false)) (E o)) (o : Option Dat) : wp (forL g (sIf t (sRet (eC (.bl false))) sSkip) ((List.range n).map fun k => Dat.int ((k : Nat) : Int)) (E o)) P := by
  refine wp_forX (fun k ρ => (∀ j, j < k → bits j = true) ∧ ∃ o, ρ = E o) ⟨fun j h => absurd h (by omega), o, rfl⟩ (fun k d ρ hk ⟨w, o, e⟩ => ?_) (fun ρ ⟨w, o, e⟩ => ?_)
  · obtain ⟨hk2, rfl⟩ := range_get hk
    subst e
    refine ⟨_, hg k o, ?_⟩
    rw [sIf_ap, ht k hk2]
    simp only [lft_ok]
    cases q : bits k with
    | true =>
      simp only [Bool.not_true, Bool.false_eq_true, if_false, sSkip_ap, wp_some, Lp_nx]
      refine ⟨fun j hj => ?_, _, rfl⟩
      by_cases h : j = k
      · subst h; exact q
      · exact w j (by omega)
    | false =>
      simp only [Bool.not_false, if_true, sRet_ap, eC_ap, lft_ok, wp_some, Lp_rt]
      exact h2 ⟨k, hk2, q⟩ _
  · subst e
    rw [List.length_map, List.length_range] at w
    exact h1 w o
mutual
theorem eqv_refl : ∀ (d : Dat) (n : Nat), shp n d = true → eqv d d = true
  | .non, _, _ => rfl
  | .bl b, _, _ => by simp [eqv]
  | .int b, _, _ => by simp [eqv]
  | .str b, _, _ => by simp [eqv]
  | .lst xs, n + 1, h => by unfold eqv; exact eqvL_refl xs n h
  | .tup xs, n + 1, h => by unfold eqv; exact eqvL_refl xs n h
  | .lst xs, 0, h => by simp [shp] at h
  | .tup xs, 0, h => by simp [shp] at h
  | .dic xs, n, h => by cases n <;> simp [shp] at h
  | .exc xs, n, h => by cases n <;> simp [shp] at h
theorem eqvL_refl : ∀ (d : List Dat) (n : Nat), shpL n d = true → eqvL d d = true
  | [], _, _ => rfl
  | x :: r, n, h => by
    simp only [shpL, Bool.and_eq_true] at h
    unfold eqvL
    rw [eqv_refl x n h.1, eqvL_refl r n h.2]
    rfl
end
theorem eqD_refl {d : Dat} (h : shp DEEP d = true) : eqD d d = .ok (.bl true) := by
  unfold eqD
  rw [h]
  simp [eqv_refl d DEEP h]
theorem shpL_of {n : Nat} : ∀ {ds : List Dat}, (∀ d ∈ ds, shp n d = true) → shpL n ds = true
  | [], _ => by simp [shpL]
  | x :: r, h => by
    simp only [shpL, Bool.and_eq_true]
    exact ⟨h x List.mem_cons_self, shpL_of fun d hd => h d (List.mem_cons_of_mem _ hd)⟩
theorem shpL_to {n : Nat} : ∀ {ds : List Dat}, shpL n ds = true → ∀ d ∈ ds, shp n d = true
  | [], _, d, hd => (by cases hd)
  | x :: r, h, d, hd => by
    simp only [shpL, Bool.and_eq_true] at h
    rcases List.mem_cons.mp hd with e | e
    · subst e; exact h.1
    · exact shpL_to h.2 d e
mutual
theorem shp_up : ∀ (n : Nat) (d : Dat), shp n d = true → shp (n + 1) d = true
  | _, .non, _ => by simp [shp]
  | _, .bl _, _ => by simp [shp]
  | _, .int _, _ => by simp [shp]
  | _, .str _, _ => by simp [shp]
  | n + 1, .lst xs, h => by unfold shp at h ⊢; exact shpL_up n xs h
  | n + 1, .tup xs, h => by unfold shp at h ⊢; exact shpL_up n xs h
  | 0, .lst xs, h => by simp [shp] at h
  | 0, .tup xs, h => by simp [shp] at h
  | n, .dic xs, h => by cases n <;> simp [shp] at h
  | n, .exc xs, h => by cases n <;> simp [shp] at h
theorem shpL_up : ∀ (n : Nat) (d : List Dat), shpL n d = true → shpL (n + 1) d = true
  | _, [], _ => by simp [shpL]
  | n, x :: r, h => by
    simp only [shpL, Bool.and_eq_true] at h ⊢
    exact ⟨shp_up n x h.1, shpL_up n r h.2⟩
end
theorem shp_le {n m : Nat} {d : Dat} (h : n ≤ m) (g : shp n d = true) : shp m d = true := by
  induction h with
  | refl => exact g
  | step _ ih => exact shp_up _ d ih
/-- a text taken out of a place -/
theorem begins_take {α : Type} [BEq α] [LawfulBEq α] : ∀ (x y : List α), begins x y = (y.take x.length == x)
  | [], y => by cases y <;> simp [begins]
  | a :: x, [] => by simp [begins]
  | a :: x, b :: y => by
    simp only [begins, List.length_cons, List.take_succ_cons]
    rw [begins_take x y]
    show (a == b && y.take x.length == x) = (b == a && y.take x.length == x)
    rw [BEq.comm]
/-- the first of the numbers that fulfil p -/
theorem filter_first {p : Nat → Bool} {n k : Nat} (hk : k < n) (h0 : ∀ j, j < k → p j = false) (h1 : p k = true) : ∃ r, (List.range n).filter p = k :: r := by
  refine ⟨((List.range' (k + 1) (n - k - 1)).filter p), ?_⟩
  have e : List.range n = List.range' 0 k ++ (k :: List.range' (k + 1) (n - k - 1)) := by
    rw [List.range_eq_range', show List.range' 0 n = List.range' 0 (k + (n - k)) by rw [show k + (n - k) = n by omega], ← List.range'_append_1, Nat.zero_add]
    congr 1
    rw [show n - k = (n - k - 1) + 1 by omega, List.range'_succ]
    rfl
  rw [e, List.filter_append, List.filter_cons_of_pos h1]
  have e0 : (List.range' 0 k).filter p = [] := by
    rw [List.filter_eq_nil_iff]
    intro a ha
    have := (List.mem_range'_1.mp ha)
    rw [h0 a (by omega)]
    decide
  rw [e0]
  rfl
theorem filter_none {p : Nat → Bool} {n : Nat} (h0 : ∀ j, j < n → p j = false) : (List.range n).filter p = [] := by
  rw [List.filter_eq_nil_iff]
  intro a ha
  rw [h0 a (List.mem_range.mp ha)]
  decide
end PL

set_option maxRecDepth 100000
namespace PL
set_option autoImplicit false
theorem ltS_one {a b : Nat} : ltS [a] [b] = decide (a < b) := by
  unfold ltS
  rw [Bool.eq_iff_iff, decide_eq_true_iff, decide_eq_true_iff, List.cons_lt_cons_iff]
  simp
theorem leD_one {a b : Nat} : leD (.str [a]) (.str [b]) = .ok (.bl (decide (a ≤ b))) := by
  show R.ok (Dat.bl (!ltS [b] [a])) = _
  rw [ltS_one]
  congr 2
  rw [Bool.eq_iff_iff]
  simp
def okc (c : Nat) : Bool := decide (32 ≤ c) && decide (c ≤ 126)
theorem noX_of {n : Nat} {d : Dat} (h : shp n d = true) : ∀ x, d ≠ .exc x := fun x e => by
  subst e
  cases n <;> simp [shp] at h
theorem isTy_str_of {d : Dat} (h : ∀ x, d ≠ .exc x) : isTy .str d = .ok (.bl (match d with | .str _ => true | _ => false)) := by
  cases d with
  | exc x => exact absurd rfl (h x)
  | _ => rfl
theorem isTy_tup_of {d : Dat} (h : ∀ x, d ≠ .exc x) : isTy .tuple d = .ok (.bl (match d with | .tup _ => true | _ => false)) := by
  cases d with
  | exc x => exact absurd rfl (h x)
  | _ => rfl
@[simp] theorem ordD_one {c : Nat} : ordD (.str [c]) = .ok (.int c) := rfl
abbrev sg (c : Nat) : Dat := .str [c]
def dk (s a : List Nat) : List Nat := s.foldl (fun a c => if c ∈ a then a else a ++ [c]) a
abbrev dkv (c : Nat) : Dat × Dat := (sg c, .bl true)
theorem put_dk (a : List Nat) (c : Nat) : dicPut (a.map dkv) (sg c) (.bl true) = (if c ∈ a then a else a ++ [c]).map dkv := by
  have hk : ∀ b, keyEq (sg c) (dkv b) = (b == c) := fun b => by unfold keyEq; simp [sg]
  unfold dicPut
  by_cases h : c ∈ a
  · rw [if_pos (by rw [List.any_eq_true]; exact ⟨dkv c, List.mem_map.mpr ⟨c, h, rfl⟩, by rw [hk]; simp⟩), if_pos h, List.map_map]
    refine List.map_congr_left fun b hb => ?_
    show (if keyEq (sg c) (dkv b) = true then ((dkv b).1, Dat.bl true) else dkv b) = dkv b
    split <;> rfl
  · rw [if_neg, if_neg h]
    · simp [dkv]
    · rw [List.any_eq_true]
      rintro ⟨p, hp, e⟩
      obtain ⟨b, hb, rfl⟩ := List.mem_map.mp hp
      rw [hk, beq_iff_eq] at e
      exact h (e ▸ hb)
theorem dk_len : ∀ (s a : List Nat), (dk s a).length ≤ s.length + a.length
  | [], a => by simp [dk]
  | c :: r, a => by
    have := dk_len r (if c ∈ a then a else a ++ [c])
    unfold dk at this ⊢
    simp only [List.foldl_cons, List.length_cons]
    split at this <;> rename_i h <;> simp only [h, if_true, if_false] <;> simp at this ⊢ <;> omega
theorem dk_nodup : ∀ (s a : List Nat), a.Nodup → (dk s a).Nodup
  | [], a, h => h
  | c :: r, a, h => by
    unfold dk
    simp only [List.foldl_cons]
    refine dk_nodup r _ ?_
    split
    · exact h
    · rename_i hc
      rw [List.nodup_append]
      exact ⟨h, by simp, fun x hx y hy => by rw [List.mem_singleton] at hy; subst hy; exact fun e => hc (e ▸ hx)⟩
theorem dk_self : ∀ (s a : List Nat), (a ++ s).Nodup → dk s a = a ++ s
  | [], a, h => by simp [dk]
  | c :: r, a, h => by
    have hc : c ∉ a := fun hm => (List.nodup_append.mp h).2.2 c hm c List.mem_cons_self rfl
    unfold dk
    simp only [List.foldl_cons, if_neg hc]
    have := dk_self r (a ++ [c]) (by simpa using h)
    unfold dk at this
    rw [this]
    simp
theorem sortable_sg (l : List Nat) : sortable (l.map sg) = true := by
  unfold sortable
  rw [Bool.and_eq_true, Bool.and_eq_true, Bool.or_eq_true, List.all_eq_true]
  refine ⟨⟨fun x hx => List.all_eq_true.mpr fun y hy => ?_, .inr (List.all_eq_true.mpr fun x hx => ?_)⟩, shpL_of fun x hx => ?_⟩
  · obtain ⟨a, _, rfl⟩ := List.mem_map.mp hx
    obtain ⟨b, _, rfl⟩ := List.mem_map.mp hy
    rfl
  · obtain ⟨a, _, rfl⟩ := List.mem_map.mp hx
    rfl
  · obtain ⟨a, _, rfl⟩ := List.mem_map.mp hx
    rfl
abbrev leN (a b : Nat) : Bool := decide (a ≤ b)
theorem sortL_sg (l : List Nat) : sortL (l.map sg) = (l.mergeSort leN).map sg := by
  unfold sortL
  symm
  refine List.map_mergeSort fun a _ b _ => ?_
  show decide (a ≤ b) = leT (.str [a]) (.str [b])
  unfold leT
  rw [ltT_str, Bool.eq_iff_iff, Bool.not_eq_true', decide_eq_true_iff, decide_eq_false_iff_not, List.cons_lt_cons_iff]
  simp
theorem eqvL_sg : ∀ s m : List Nat, eqvL (s.map sg) (m.map sg) = (s == m)
  | [], [] => rfl
  | [], _ :: _ => rfl
  | _ :: _, [] => rfl
  | a :: s, b :: m => by
    rw [List.map_cons, List.map_cons, eqvL, eqvL_sg s m]
    simp [sg]
theorem shpL_sg (l : List Nat) (n : Nat) : shpL n (l.map sg) = true := shpL_of fun x hx => by
  obtain ⟨a, _, rfl⟩ := List.mem_map.mp hx
  cases n <;> rfl
theorem eqD_sg (s m : List Nat) : eqD (.lst (s.map sg)) (.lst (m.map sg)) = .ok (.bl (s == m)) := by
  have h : ∀ l : List Nat, shp DEEP (.lst (l.map sg)) = true := fun l => by unfold DEEP shp; exact shpL_sg l 39
  unfold eqD
  rw [h, h]
  simp only [Bool.and_self, if_true]
  unfold eqv
  rw [eqvL_sg]
def asc (s : List Nat) : Bool := decide (s.Pairwise (· < ·))
theorem sorted_asc (s : List Nat) : (s == (dk s []).mergeSort leN) = asc s := by
  unfold asc
  rw [Bool.eq_iff_iff, beq_iff_eq, decide_eq_true_iff]
  constructor
  · intro e
    have h1 : ((dk s []).mergeSort leN).Pairwise (fun a b => leN a b = true) := List.pairwise_mergeSort (le := leN) (fun a b c h1 h2 => by simp only [leN, decide_eq_true_iff] at *; omega) (fun a b => by simp only [leN, Bool.or_eq_true, decide_eq_true_iff]; omega) _
    have h2 : ((dk s []).mergeSort leN).Nodup := (List.mergeSort_perm _ _).nodup_iff.mpr (dk_nodup s [] List.nodup_nil)
    rw [← e] at h1 h2
    have h3 := h1.and h2
    exact h3.imp fun {a b} h => by
      have := h.1
      simp only [leN, decide_eq_true_iff] at this
      have h4 := h.2
      omega
  · intro h
    have nd : s.Nodup := h.imp fun {a b} h => by omega
    rw [dk_self s [] (by simpa using nd), List.nil_append]
    exact (List.mergeSort_of_pairwise (h.imp fun {a b} h => by simp only [leN, decide_eq_true_iff]; omega)).symm
theorem startsAt_nat {x y : List Nat} {p : Nat} (h : p ≤ x.length) : startsAtD (.str x) (.str y) (.int p) = .ok (.bl (begins y (x.drop p))) := by
  show (if 0 ≤ (p : Int) then (if (p : Int) ≤ x.length then R.ok (Dat.bl (begins y (x.drop (p : Int).toNat))) else .ok (.bl false)) else .bad) = _
  rw [if_pos (by omega), if_pos (by omega), Int.toNat_natCast]
@[simp] theorem eM2_ap {f : Dat → Dat → Dat → R Dat} {a b c : EM} {ρ : Env} : eM2 f a b c ρ = (a ρ).bnd fun x => (isS x).bnd fun x => (b ρ).bnd fun y => (c ρ).bnd fun z => f x y z := rfl
theorem notIn_one {c : Nat} {ls : List Nat} : notInD (.str [c]) (.str ls) = .ok (.bl (!decide (c ∈ ls))) := by
  unfold notInD
  rw [inD_one]
  rfl
theorem shpT {n : Nat} {xs : List Dat} (h : shp (n + 1) (.tup xs) = true) : ∀ x ∈ xs, shp n x = true := fun x hx => shpL_to (by simpa [shp] using h) x hx
theorem shpL' {n : Nat} {xs : List Dat} (h : shp (n + 1) (.lst xs) = true) : ∀ x ∈ xs, shp n x = true := fun x hx => shpL_to (by simpa [shp] using h) x hx
theorem bb (x y : Bool) : (match Dat.bl x with
  | .bl true => R.ok (Dat.bl y)
  | .bl false => .ok (.bl false)
  | _ => .bad) = .ok (.bl (x && y)) := by cases x <;> rfl
theorem asc_iff (s : List Nat) : asc s = true ↔ ∀ k (h : k + 1 < s.length), s[k] < s[k + 1] := by
  unfold asc
  rw [decide_eq_true_iff]
  constructor
  · intro h k hk
    exact List.pairwise_iff_getElem.mp h k (k + 1) (by omega) hk (by omega)
  · intro h
    rw [List.pairwise_iff_getElem]
    intro i j hi hj hij
    induction j with
    | zero => omega
    | succ j ih =>
      have := h j hj
      by_cases e : i = j
      · subst e; exact this
      · have := ih (by omega) (by omega)
        omega
theorem idxN {l : List Nat} {k : Nat} (h : k < l.length) {z : Int} (e : z = (k : Int)) : idxD (nums l) (.int z) = .ok (.int (l[k] : Nat)) := by
  subst e
  exact idx_nums h
noncomputable def b_word : SM := (sSeq (sAsg (gV 5) (eC (.str [])))
    (sSeq (sFor (iR1 (e2 addD (eV 3) (e2 modD (e2 idxD (eV 0) (eV 1)) (e2 addD (e2 subD (eV 4) (eV 3)) (eC (.int 1)))))) (gV 6)
    (sAsg (gV 5) (e2 addD (eV 5) (e2 idxD (eV 2) (e2 modD (e2 idxD (eV 0) (e2 addD (e2 addD (eV 1) (eC (.int 1))) (eV 6))) (e1 lenD (eV 2)))))))
    (sRet (eV 5))))
theorem word_ok {dr : List Nat} (at0 least most : Nat) {signs : List Nat} (hs : signs ≠ []) (h1 : least ≤ most) (h2 : most ≤ 6) (h3 : at0 + 7 < dr.length) : ∃ w : List Nat, run 7 b_word [nums dr, .int at0, .str signs, .int least, .int most] = .ok (.str w) ∧ least ≤ w.length ∧ w.length ≤ most ∧ ∀ c ∈ w, c ∈ signs := by
  have hsl : 0 < signs.length := List.length_pos_iff.mpr hs
  have key : wp (b_word [some (nums dr), some (.int at0), some (.str signs), some (.int least), some (.int most), none, none]) fun f _ => ∃ w : List Nat, endR f = .ok (.str w) ∧ least ≤ w.length ∧ w.length ≤ most ∧ ∀ c ∈ w, c ∈ signs := by
    unfold b_word
    refine wp_seq ?_
    simp only [sAsg_ap, eC_ap, lft_ok, gV_succ, gV_zero, R.bnd_ok, gok_ok, wp_some, Nxt_nx]
    refine wp_seq ?_
    rw [sFor_ap]
    simp only [iR1_ap, e2_ap, eC_ap, eV_succ, eV_zero, R.bnd_ok, subD_int, addD_int]
    rw [idxN (k := at0) (by omega) rfl]
    simp only [R.bnd_ok]
    rw [show ((most : Int) - (least : Int) + 1) = ((most - least + 1 : Nat) : Int) by omega, modD_nat (by omega)]
    simp only [R.bnd_ok, addD_int]
    have hm : dr[at0]'(by omega) % (most - least + 1) < most - least + 1 := Nat.mod_lt _ (by omega)
    generalize dr[at0]'(by omega) % (most - least + 1) = m at hm
    rw [show ((least : Int) + (m : Int)) = ((least + m : Nat) : Int) by omega, rng1_nat (by omega)]
    simp only [lft_ok]
    refine wp_for (fun k ρ => ∃ (w : List Nat) (o : Option Dat), w.length = k ∧ (∀ c ∈ w, c ∈ signs) ∧ ρ = [some (nums dr), some (.int at0), some (.str signs), some (.int least), some (.int most), some (.str w), o]) ⟨[], none, rfl, fun _ h => absurd h (by simp), rfl⟩ (fun k d ρ hk ⟨w, o, hw, hm2, e⟩ => ?_) (fun ρ ⟨w, o, hw, hm2, e⟩ => ?_)
    · obtain ⟨hk2, rfl⟩ := range_get hk
      subst e
      refine ⟨_, by simp only [gV_succ, gV_zero, R.bnd_ok]; rfl, ?_⟩
      simp only [sAsg_ap, e1_ap, e2_ap, eC_ap, eV_succ, eV_zero, R.bnd_ok, addD_int, lenD_str]
      rw [idxN (k := at0 + 1 + k) (by omega) (by omega)]
      simp only [R.bnd_ok]
      rw [modD_nat hsl]
      simp only [R.bnd_ok]
      rw [idxD_str (Nat.mod_lt _ hsl)]
      simp only [R.bnd_ok]
      rw [addD_str (by simp; unfold LINE; omega)]
      simp only [lft_ok, gV_succ, gV_zero, R.bnd_ok, gok_ok, wp_some]
      refine ⟨.inl trivial, _, _, by simp; exact hw, fun c hc => ?_, rfl⟩
      rcases List.mem_append.mp hc with q | q
      · exact hm2 c q
      · rw [List.mem_singleton] at q
        subst q
        exact List.getElem_mem _
    · subst e
      rw [List.length_map, List.length_range] at hw
      simp only [Nxt_nx, sRet_ap, eV_succ, eV_zero, lft_ok, wp_some, endR_rt]
      exact ⟨w, rfl, by omega, by omega, hm2⟩
  obtain ⟨f, ρ, e, w, h⟩ := key
  exact ⟨w, run_at _ ⟨f, ρ, e, h.1⟩, h.2⟩
theorem repMem {α : Type} {n : Nat} {x : List α} {y : α} (h : y ∈ rep n x) : y ∈ x := by
  unfold rep at h
  obtain ⟨l, h1, h2⟩ := List.mem_flatten.mp h
  rw [List.eq_of_mem_replicate h1] at h2
  exact h2
theorem repLen {α : Type} (n : Nat) (x : List α) : (rep n x).length = x.length * n := by
  unfold rep
  rw [List.length_flatten, List.map_replicate, List.sum_replicate_nat, Nat.mul_comm]
theorem neD_refl {d : Dat} (h : shp DEEP d = true) : neD d d = .ok (.bl false) := by
  unfold neD
  rw [h]
  simp [eqv_refl d DEEP h]
noncomputable def b_numbers2 : SM := (sSeq (sNew 3 (eLst eNil))
    (sSeq (sIf (tE (e2 geD (eV 0) (e2 powD (eC (.int 10)) (eC (.int 18)))))
    (sSeq (sFor (iR1 (eV 1)) (gV 4)
    (sSeq (sApp 3 (e2 modD (e1 intD (eV 0)) (eV 2)))
    (sAsg (gV 0) (e2 fdivD (e1 intD (eV 0)) (eV 2)))))
    (sRet (eV 3)))
    sSkip)
    (sSeq (sFor (iR1 (eV 1)) (gV 4)
    (sSeq (sAsg (gV 5) (e2 modD (e1 intD (e2 addD (e2 addD (e2 mulD (eV 0) (eC (.int 48271))) (e2 mulD (eV 4) (eC (.int 69621)))) (eC (.int 7)))) (eC (.int 2147483647))))
    (sSeq (sAsg (gV 5) (e2 modD (e1 intD (e2 addD (e2 addD (e2 addD (e2 mulD (eV 5) (eV 5)) (e2 mulD (eV 5) (eC (.int 40692)))) (e2 mulD (eV 4) (eC (.int 16807)))) (eC (.int 11)))) (eC (.int 2147483399))))
    (sApp 3 (e2 modD (e1 intD (e2 fdivD (eV 5) (eC (.int 32)))) (eV 2))))))
    (sRet (eV 3)))))
theorem numbers2_ok (cell : Int) (count limit : Nat) (hc : count ≤ 1000000) (h0 : 0 < limit) (h1 : limit < 1073741824) : ∃ l : List Nat, run 6 b_numbers2 [.int cell, .int count, .int limit] = .ok (nums l) ∧ l.length = count ∧ ∀ x ∈ l, x < limit := by
  have key : wp (b_numbers2 [some (.int cell), some (.int count), some (.int limit), none, none, none]) fun f _ => ∃ l : List Nat, endR f = .ok (nums l) ∧ l.length = count ∧ ∀ x ∈ l, x < limit := by
    have push : ∀ (k : Nat) (l : List Nat) (v z : Int) (o o2 : Option Dat) (e : EM), l.length = k → k < count → (∀ x ∈ l, x < limit) → e [some (.int z), some (.int count), some (.int limit), some (nums l), o, o2] = .ok (.int (v % (limit : Int))) →
        ∃ l' : List Nat, sApp 3 e [some (.int z), some (.int count), some (.int limit), some (nums l), o, o2] = some (.nx, [some (.int z), some (.int count), some (.int limit), some (nums l'), o, o2]) ∧ l'.length = k + 1 ∧ ∀ x ∈ l', x < limit := by
      intro k l v z o o2 e hl hk hx he
      have hv0 := Int.emod_nonneg v (show (limit : Int) ≠ 0 by omega)
      have hv1 := Int.emod_lt_of_pos v (show (0 : Int) < limit by omega)
      refine ⟨l ++ [(v % (limit : Int)).toNat], ?_, by simp [hl], ?_⟩
      · rw [sApp_ap (xs := l.map fun x => .int (x : Nat)) (d := .int (v % (limit : Int))) (by simp) he (by simp; unfold LINE; omega)]
        simp [nums, Int.toNat_of_nonneg hv0]
      · intro x hxx
        rcases List.mem_append.mp hxx with h | h
        · exact hx x h
        · simp at h
          omega
    unfold b_numbers2
    refine wp_seq ?_
    rw [sNew_lst (xs := []) (by simp [LINE]) (by simp)]
    simp only [wp_some, Nxt_nx, List.set_cons_succ, List.set_cons_zero]
    refine wp_seq ?_
    simp only [sIf_ap, tE_ap, e2_ap, eV_zero, eV_succ, eC_ap, R.bnd_ok]
    rw [show powD (.int 10) (.int 18) = .ok (.int 1000000000000000000) from by rfl]
    simp only [R.bnd_ok, geD_int, tru_bl, lft_ok]
    split
    · refine wp_seq ?_
      rw [sFor_ap]
      simp only [iR1_ap, eV_succ, eV_zero, R.bnd_ok]
      rw [rng1_nat (by omega)]
      simp only [lft_ok]
      refine wp_for (fun k ρ => ∃ (l : List Nat) (z : Int) (o o2 : Option Dat), l.length = k ∧ (∀ x ∈ l, x < limit) ∧ ρ = [some (.int z), some (.int count), some (.int limit), some (nums l), o, o2]) ⟨[], cell, none, none, rfl, fun _ h => absurd h (by simp), rfl⟩ (fun k d ρ hk ⟨l, z, o, o2, w1, w2, e⟩ => ?_) (fun ρ ⟨l, z, o, o2, w1, w2, e⟩ => ?_)
      · obtain ⟨hk2, rfl⟩ := range_get hk
        subst e
        refine ⟨_, by simp only [gV_succ, gV_zero, R.bnd_ok]; rfl, ?_⟩
        refine wp_seq ?_
        obtain ⟨l', q1, q2, q3⟩ := push k l z z (some (.int k)) o2 (e2 modD (e1 intD (eV 0)) (eV 2)) w1 hk2 w2 (by simp [modD_int (show (0 : Int) < limit by omega)])
        rw [q1]
        simp only [wp_some, Nxt_nx, sAsg_ap, e2_ap, e1_ap, eV_zero, eV_succ, R.bnd_ok, intD_int, fdivD_int (show (0 : Int) < limit ∧ (limit : Int) < 1073741824 by omega), lft_ok, gV_succ, gV_zero, gok_ok]
        exact ⟨.inl trivial, l', _, _, _, q2, q3, rfl⟩
      · subst e
        rw [List.length_map, List.length_range] at w1
        simp only [Nxt_nx, sRet_ap, eV_zero, eV_succ, lft_ok, wp_some, Nxt_rt, endR_rt]
        exact ⟨l, rfl, w1, w2⟩
    · simp only [sSkip_ap, wp_some, Nxt_nx]
      refine wp_seq ?_
      rw [sFor_ap]
      simp only [iR1_ap, eV_succ, eV_zero, R.bnd_ok]
      rw [rng1_nat (by omega)]
      simp only [lft_ok]
      refine wp_for (fun k ρ => ∃ (l : List Nat) (o o2 : Option Dat), l.length = k ∧ (∀ x ∈ l, x < limit) ∧ ρ = [some (.int cell), some (.int count), some (.int limit), some (nums l), o, o2]) ⟨[], none, none, rfl, fun _ h => absurd h (by simp), rfl⟩ (fun k d ρ hk ⟨l, o, o2, w1, w2, e⟩ => ?_) (fun ρ ⟨l, o, o2, w1, w2, e⟩ => ?_)
      · obtain ⟨hk2, rfl⟩ := range_get hk
        subst e
        refine ⟨_, by simp only [gV_succ, gV_zero, R.bnd_ok]; rfl, ?_⟩
        refine wp_seq ?_
        simp only [sAsg_ap, e2_ap, e1_ap, eV_zero, eV_succ, eC_ap, R.bnd_ok, mulD_int (show small64 cell ∨ small64 48271 from .inr ⟨by omega, by omega⟩), mulD_int (show small64 (k : Int) ∨ small64 69621 from .inr ⟨by omega, by omega⟩), addD_int, intD_int, modD_int (show (0 : Int) < 2147483647 by omega), lft_ok, gV_succ, gV_zero, gok_ok, wp_some, Nxt_nx]
        refine wp_seq ?_
        generalize hm : (cell * 48271 + (k : Int) * 69621 + 7) % 2147483647 = mx
        have hm0 : 0 ≤ mx ∧ mx < 2147483647 := by rw [← hm]; exact ⟨Int.emod_nonneg _ (by omega), Int.emod_lt_of_pos _ (by omega)⟩
        simp only [sAsg_ap, e2_ap, e1_ap, eV_zero, eV_succ, eC_ap, R.bnd_ok, mulD_int (show small64 mx ∨ small64 mx from .inr ⟨by omega, by omega⟩), mulD_int (show small64 mx ∨ small64 40692 from .inr ⟨by omega, by omega⟩), mulD_int (show small64 (k : Int) ∨ small64 16807 from .inr ⟨by omega, by omega⟩), addD_int, intD_int, modD_int (show (0 : Int) < 2147483399 by omega), lft_ok, gV_succ, gV_zero, gok_ok, wp_some, Nxt_nx]
        generalize (mx * mx + mx * 40692 + (k : Int) * 16807 + 11) % 2147483399 = my
        obtain ⟨l', q1, q2, q3⟩ := push k l (my / 32) cell (some (.int k)) (some (.int my)) (e2 modD (e1 intD (e2 fdivD (eV 5) (eC (.int 32)))) (eV 2)) w1 hk2 w2 (by simp [modD_int (show (0 : Int) < limit by omega), fdivD_int (show (0 : Int) < 32 ∧ (32 : Int) < 1073741824 by omega)])
        rw [q1]
        exact wp_some.mpr ⟨.inl rfl, l', _, _, q2, q3, rfl⟩
      · subst e
        rw [List.length_map, List.length_range] at w1
        simp only [Nxt_nx, sRet_ap, eV_zero, eV_succ, lft_ok, wp_some, endR_rt]
        exact ⟨l, rfl, w1, w2⟩
  obtain ⟨f, ρ, e, l, h1, h2, h3⟩ := key
  exact ⟨l, run_at _ ⟨f, ρ, e, h1⟩, h2, h3⟩
/-- two rows without repetition and of the same signs, sorted -/
theorem sort_same {x y : List Nat} (hx : x.Nodup) (hy : y.Nodup) (h : ∀ c, c ∈ x ↔ c ∈ y) : x.mergeSort leN = y.mergeSort leN := by
  have tr : ∀ a b c, leN a b = true → leN b c = true → leN a c = true := fun a b c h1 h2 => by simp only [leN, decide_eq_true_iff] at *; omega
  have tt : ∀ a b, (leN a b || leN b a) = true := fun a b => by simp only [leN, Bool.or_eq_true, decide_eq_true_iff]; omega
  have p : x.Perm y := (List.perm_ext_iff_of_nodup hx hy).mpr h
  refine List.Perm.eq_of_pairwise (le := fun a b => leN a b = true) (fun a b _ _ h1 h2 => ?_) (List.pairwise_mergeSort tr tt x) (List.pairwise_mergeSort tr tt y) (((List.mergeSort_perm x leN).trans p).trans (List.mergeSort_perm y leN).symm)
  simp only [leN, decide_eq_true_iff] at h1 h2
  omega
theorem dk_mem : ∀ (s a : List Nat) (c : Nat), c ∈ dk s a ↔ c ∈ s ∨ c ∈ a
  | [], a, c => by simp [dk]
  | x :: r, a, c => by
    have ih := dk_mem r (if x ∈ a then a else a ++ [x]) c
    have e : dk (x :: r) a = dk r (if x ∈ a then a else a ++ [x]) := rfl
    rw [e, ih]
    by_cases h : x ∈ a
    · rw [if_pos h]
      constructor
      · rintro (q | q)
        · exact .inl (List.mem_cons_of_mem _ q)
        · exact .inr q
      · rintro (q | q)
        · rcases List.mem_cons.mp q with q | q
          · subst q; exact .inr h
          · exact .inl q
        · exact .inr q
    · rw [if_neg h]
      simp only [List.mem_append, List.mem_cons, List.not_mem_nil, or_false]
      constructor
      · rintro (q | q | q)
        · exact .inl (.inr q)
        · exact .inr q
        · exact .inl (.inl q)
      · rintro ((q | q) | q)
        · exact .inr (.inr q)
        · exact .inl q
        · exact .inr (.inl q)
/-- a text taken off a text -/
theorem begins_drop {x : List Nat} {t : List Nat} {p : Nat} (h : begins x (t.drop p) = true) : t.drop p = x ++ t.drop (p + x.length) := by
  rw [begins_take, beq_iff_eq] at h
  have := List.take_append_drop x.length (t.drop p)
  rw [h, List.drop_drop] at this
  exact this.symm
end PL

set_option maxRecDepth 100000
namespace PL
set_option autoImplicit false
abbrev dStrs (xs : List (List Nat)) : Dat := .lst (xs.map .str)
theorem any_str (c : List Nat) : ∀ xs : List (List Nat), (xs.map Dat.str).any (fun y => eqv y (.str c)) = decide (c ∈ xs)
  | [] => rfl
  | x :: r => by
    simp only [List.map_cons, List.any_cons, any_str c r, eqv_str]
    by_cases h : x = c
    · subst h; simp
    · simp [h, Ne.symm h]
theorem shpL_strs (xs : List (List Nat)) (n : Nat) : shpL n (xs.map .str) = true := shpL_of fun d hd => by
  obtain ⟨k, _, rfl⟩ := List.mem_map.mp hd
  cases n <;> rfl
theorem inD_strs (c : List Nat) (xs : List (List Nat)) : inD (.str c) (dStrs xs) = .ok (.bl (decide (c ∈ xs))) := by
  show (if (shp DEEP (.str c) && shpL DEEP (xs.map .str)) = true then R.ok (Dat.bl ((xs.map Dat.str).any fun y => eqv y (.str c))) else .bad) = _
  rw [if_pos (by rw [shpL_strs]; rfl), any_str]
theorem notInD_strs (c : List Nat) (xs : List (List Nat)) : notInD (.str c) (dStrs xs) = .ok (.bl (!decide (c ∈ xs))) := by
  unfold notInD
  rw [inD_strs]
  rfl
abbrev dNats (ks : List Nat) : Dat := .lst (ks.map fun k => .int (k : Nat))
theorem any_nat (c : Nat) : ∀ xs : List Nat, (xs.map fun k => Dat.int (k : Nat)).any (fun y => eqv y (.int (c : Nat))) = decide (c ∈ xs)
  | [] => rfl
  | x :: r => by
    simp only [List.map_cons, List.any_cons, any_nat c r, eqv_int]
    by_cases h : x = c
    · subst h; simp
    · have : ((x : Int) == (c : Int)) = false := by simp; omega
      rw [this]
      simp [Ne.symm h]
theorem shpL_nats (xs : List Nat) (n : Nat) : shpL n (xs.map fun k => Dat.int (k : Nat)) = true := shpL_of fun d hd => by
  obtain ⟨k, _, rfl⟩ := List.mem_map.mp hd
  cases n <;> rfl
theorem inD_nats (c : Nat) (xs : List Nat) : inD (.int (c : Nat)) (dNats xs) = .ok (.bl (decide (c ∈ xs))) := by
  show (if (shp DEEP (.int (c : Nat)) && shpL DEEP (xs.map fun k => Dat.int (k : Nat))) = true then R.ok (Dat.bl ((xs.map fun k => Dat.int (k : Nat)).any fun y => eqv y (.int (c : Nat)))) else .bad) = _
  rw [if_pos (by rw [shpL_nats]; rfl), any_nat]
theorem notInD_nats (c : Nat) (xs : List Nat) : notInD (.int (c : Nat)) (dNats xs) = .ok (.bl (!decide (c ∈ xs))) := by
  unfold notInD
  rw [inD_nats]
  rfl
theorem beqI (a b : Nat) : ((a : Int) == (b : Int)) = (a == b) := by
  by_cases h : a = b
  · subst h; simp
  · have : ((a : Int) == (b : Int)) = false := by simp; omega
    rw [this]
    simp [h]
theorem ltI (a b : Nat) : decide ((a : Int) < (b : Int)) = decide (a < b) := by
  by_cases h : a < b
  · rw [decide_eq_true h, decide_eq_true (by omega)]
  · rw [decide_eq_false h, decide_eq_false (by omega)]
theorem leI (a b : Nat) : decide ((a : Int) ≤ (b : Int)) = decide (a ≤ b) := by
  by_cases h : a ≤ b
  · rw [decide_eq_true h, decide_eq_true (by omega)]
  · rw [decide_eq_false h, decide_eq_false (by omega)]
theorem rng1_pred {n : Nat} (h : n < 2 ^ 62) : rng1 (.int ((n : Int) - 1)) = .ok ((List.range (n - 1)).map fun k => .int (k : Nat)) := by
  cases n with
  | zero => rfl
  | succ n => rw [show (((n + 1 : Nat) : Int) - 1) = (n : Int) by omega]; exact rng1_nat (by omega)
/-- what is made of neighbours -/
def adj {α β : Type} (f : α → α → β) : List α → List β
  | x :: y :: r => f x y :: adj f (y :: r)
  | _ => []
theorem adj_len {α β : Type} (f : α → α → β) : ∀ l : List α, (adj f l).length = l.length - 1
  | [] => rfl
  | [_] => rfl
  | x :: y :: r => by
    show (adj f (y :: r)).length + 1 = _
    rw [adj_len f (y :: r)]
    simp
theorem adj_get {α β : Type} (f : α → α → β) : ∀ (l : List α) (k : Nat) (h : k + 1 < l.length), (adj f l)[k]'(by rw [adj_len]; omega) = f (l[k]'(by omega)) l[k + 1]
  | [], k, h => by simp at h
  | [_], k, h => by simp at h
  | x :: y :: r, 0, h => rfl
  | x :: y :: r, k + 1, h => adj_get f (y :: r) k (by simpa using h)
theorem adj_range {α β : Type} (f : α → α → β) (D : β → Dat) (G : Nat → Dat) (l : List α) (h : ∀ k (hk : k + 1 < l.length), G k = D (f (l[k]'(by omega)) l[k + 1])) : (List.range (l.length - 1)).map G = (adj f l).map D := by
  refine List.ext_getElem (by simp [adj_len]) fun k h1 h2 => ?_
  simp only [List.length_map, List.length_range] at h1
  rw [List.getElem_map, List.getElem_map, adj_get f l k (by omega), List.getElem_range, h k (by omega)]
theorem intsOf_nat : ∀ l : List Nat, intsOf (l.map fun k => Dat.int (k : Nat)) = some (l.map fun k => ((k : Nat) : Int))
  | [] => rfl
  | b :: r => by
    show (intsOf (r.map fun k => Dat.int (k : Nat))).map ((b : Int) :: ·) = _
    rw [intsOf_nat r]
    rfl
theorem maxI_nat : ∀ (l : List Nat) (a : Nat), maxI (a : Int) (l.map fun k => ((k : Nat) : Int)) = ((l.foldl max a : Nat) : Int)
  | [], a => rfl
  | b :: r, a => by
    simp only [List.map_cons, maxI, List.foldl_cons]
    rw [show (if (b : Int) > (a : Int) then (b : Int) else (a : Int)) = ((max a b : Nat) : Int) by split <;> omega]
    exact maxI_nat r (max a b)
theorem maxD_nat (l : List Nat) (a : Nat) : maxD (.lst (.int (a : Nat) :: l.map fun k => .int (k : Nat))) = .ok (.int ((l.foldl max a : Nat) : Int)) := by
  show (match intsOf (.int (a : Nat) :: l.map fun k => Dat.int (k : Nat)) with | some (i :: r) => R.ok (Dat.int (maxI i r)) | _ => .bad) = _
  rw [show (Dat.int (a : Nat) :: l.map fun k => Dat.int (k : Nat)) = (a :: l).map fun k => Dat.int (k : Nat) from rfl, intsOf_nat]
  show R.ok (Dat.int (maxI (a : Int) (l.map fun k => ((k : Nat) : Int)))) = _
  rw [maxI_nat]
theorem max2_nat (a b : Nat) : max2 (.int (a : Nat)) (.int (b : Nat)) = .ok (.int ((max a b : Nat) : Int)) := by
  rw [max2_int]
  congr 2
  split <;> omega
theorem zT_get : ∀ {xs ys : List Dat} {k : Nat} {d : Dat}, (zipT xs ys)[k]? = some d → ∃ x y, xs[k]? = some x ∧ ys[k]? = some y ∧ d = .tup [x, y]
  | [], ys, k, d, h => by cases ys <;> simp [zipT] at h
  | x :: r, [], k, d, h => by simp [zipT] at h
  | x :: r, y :: t, 0, d, h => ⟨x, y, rfl, rfl, by simpa [zipT] using h.symm⟩
  | x :: r, y :: t, k + 1, d, h => by
    have : (zipT r t)[k]? = some d := by simpa [zipT] using h
    simpa using zT_get this
theorem zT_len : ∀ (xs ys : List Dat), (zipT xs ys).length = min xs.length ys.length
  | [], ys => by cases ys <;> simp [zipT]
  | x :: r, [] => by simp [zipT]
  | x :: r, y :: t => by simp [zipT, zT_len r t]
theorem eCompK_at {i : Nat} {own vs : List Nat} {g : GM} {t : TM} {e : EM} {ρ ρ2 : Env} {kvs : List (Dat × Dat)} {ys : List Dat} (h1 : eV i ρ = .ok (.dic kvs)) (h2 : (own.all (fun j => j != i) && ownNd own ρ) = true) (h3 : shutD ρ = ρ2) (h4 : compL g t e (wipe ρ2 vs) (kvs.map (·.1)) = .ok ys) (h5 : ys.length ≤ LINE) : eCompK i own vs g t e ρ = .ok (.lst ys) := by
  subst h3
  unfold eCompK
  rw [h1]
  simp only [h2, if_true]
  exact eComp_of rfl h4 h5
theorem nodicL_strs : ∀ xs : List (List Nat), nodicL (xs.map .str) = true
  | [] => by simp [nodicL]
  | x :: r => by simp [nodicL, nodic, nodicL_strs r]
theorem shut_yes {d : Dat} (h : nodic d = true) : shutO (some d) = some d := if_pos h
theorem shut_dic {kvs : List (Dat × Dat)} : shutO (some (.dic kvs)) = none := by
  have h : nodic (.dic kvs) = false := by simp [nodic]
  show (if nodic (.dic kvs) = true then some (Dat.dic kvs) else none) = none
  rw [h]
  rfl
end PL

set_option maxRecDepth 100000
namespace PL.K43
set_option autoImplicit false
/-! ### signs of a text, the ends -/
def sgn (t : List Nat) (p : Int) : Nat := if 0 ≤ p ∧ p < t.length then t.getD p.toNat 0 else 124
theorem idx_sgn {t : List Nat} {p : Int} (h : 0 ≤ p ∧ p < t.length) : idxD (.str t) (.int p) = .ok (.str [sgn t p]) := by
  obtain ⟨k, rfl⟩ := Int.eq_ofNat_of_zero_le h.1
  have hk : k < t.length := by omega
  rw [show ((k : Int)) = ((k : Nat) : Int) from rfl, idxD_str hk]
  unfold sgn
  rw [if_pos h, Int.toNat_natCast]
  simp [hk]
theorem sign_at_eq (t : List Nat) (p : Int) : f_sign_at [.str t, .int p] = .ok (.str [sgn t p]) := by
  refine run_at (s := b_sign_at) [some (.str t), some (.int p)] ?_
  unfold b_sign_at
  refine wp_seq ?_
  simp only [sIf_ap, tE_ap, eChain_ap, eC_ap, eV_zero, eV_succ, R.bnd_ok, leD_int, e1_ap, lenD_str, ltD_int]
  by_cases h0 : 0 ≤ p
  · by_cases h1 : p < t.length
    · simp [h0, h1, idx_sgn ⟨h0, h1⟩]
    · simp [h0, h1, d_END, sgn]
  · simp [h0, d_END, sgn]
theorem lsign_at_eq (t : List Nat) (p : Int) : f__law_sign_at [.str t, .int p] = .ok (.str [sgn t p]) := by
  refine run_at (s := b__law_sign_at) [some (.str t), some (.int p)] ?_
  unfold b__law_sign_at
  refine wp_seq ?_
  simp only [sIf_ap, tE_ap, tOr_ap, e2_ap, eC_ap, eV_zero, eV_succ, R.bnd_ok, ltD_int, geD_int, e1_ap, lenD_str, tru_bl]
  by_cases h0 : p < 0
  · simp [h0, sgn, show ¬ (0 ≤ p) by omega]
  · by_cases h1 : (t.length : Int) ≤ p
    · simp [h0, h1, sgn, show ¬ (p < t.length) by omega]
    · simp [h0, h1, idx_sgn (t := t) (p := p) ⟨by omega, by omega⟩]
/-! ### rules -/
structure Ru where
  l : List Nat
  r : List Nat
  b : List (List Nat)
  a : List (List Nat)
def dR (x : Ru) : Dat := .tup [.str x.l, .str x.r, .tup (x.b.map .str), .tup (x.a.map .str)]
/-- a rule as drawn -/
structure okR (x : Ru) : Prop where
  l1 : 1 ≤ x.l.length
  l4 : x.l.length ≤ 4
  r6 : x.r.length ≤ 6
  b2 : x.b.length ≤ 2
  a2 : x.a.length ≤ 2
def lb (t : List Nat) : List (List Nat) → Int → List Bool
  | [], _ => []
  | c :: r, p => decide (sgn t p ∈ c) :: lb t r (p + 1)
theorem lb_len (t : List Nat) : ∀ (s : List (List Nat)) (p : Int), (lb t s p).length = s.length
  | [], _ => rfl
  | c :: r, p => by simp [lb, lb_len t r]
theorem lb_get (t : List Nat) : ∀ (s : List (List Nat)) (p : Int) (k : Nat) (h : k < s.length), (lb t s p)[k]? = some (decide (sgn t (p + k) ∈ s[k]))
  | c :: r, p, 0, h => by simp [lb]
  | c :: r, p, k + 1, h => by
    rw [lb, List.getElem?_cons_succ, lb_get t r (p + 1) k (by simpa using h)]
    simp only [List.getElem_cons_succ]
    rw [show p + 1 + (k : Int) = p + ((k + 1 : Nat) : Int) by omega]
  | [], _, _, h => by simp at h
def letsF (t : List Nat) (s : List (List Nat)) (p : Int) : Bool := (lb t s p).all id
theorem lets_comp (t : List Nat) (p : Int) (x : Option Dat) : ∀ (s : List (List Nat)) (k : Nat), compL (gTup 2 (gCons (gV 3) (gCons (gV 4) gNil))) tYes (e2 inD (eCall f_sign_at (eCons (eV 1) (eCons (e2 addD (eV 2) (eV 3)) eNil))) (eV 4)) [x, some (.str t), some (.int p), none, none] (enumFrom k (s.map .str)) =
    .ok ((lb t s (p + k)).map .bl)
  | [], k => rfl
  | c :: r, k => by
    rw [List.map_cons, enumFrom, compL_cons]
    simp only [gTup_ap, List.length_cons, List.length_nil, if_true, gCons_ap, gV_succ, gV_zero, R.bnd_ok, gNil_ap, noX_ok, tYes_ap, e2_ap, eCall_ap, eCons_ap, eNil_ap, eV_succ, eV_zero, addD_int, sign_at_eq, inD_one]
    rw [lets_comp t p x r (k + 1)]
    simp only [R.bnd_ok, lb, List.map_cons]
    rw [show p + ((k + 1 : Nat) : Int) = p + k + 1 by omega]
theorem lets_eq (t : List Nat) (s : List (List Nat)) (hs : s.length ≤ 2) (p : Int) : f_lets [.tup (s.map .str), .str t, .int p] = .ok (.bl (letsF t s p)) := by
  refine run_at (s := b_lets) [some (.tup (s.map .str)), some (.str t), some (.int p), none, none] ?_
  unfold b_lets
  simp only [sRet_ap, e1_ap]
  rw [eComp_of (ds := enumFrom 0 (s.map .str)) (ys := (lb t s p).map .bl) (by simp) (by
    have := lets_comp t p (some (.tup (s.map .str))) s 0
    simpa [wipe] using this) (by rw [List.length_map, lb_len]; unfold LINE; omega)]
  simp only [R.bnd_ok, allD_map, lft_ok, wp_some, endR_rt]
  rfl
def fitsF (x : Ru) (t : List Nat) (p : Nat) : Bool := begins x.l (t.drop p) && (letsF t x.b ((p : Int) - x.b.length) && letsF t x.a ((p : Int) + x.l.length))
theorem fits_eq {x : Ru} (ok : okR x) (t : List Nat) {p : Nat} (hp : p ≤ t.length) : f_fits_at [dR x, .str t, .int p] = .ok (.bl (fitsF x t p)) := by
  have hb := ok.b2
  have ha := ok.a2
  refine run_at (s := b_fits_at) [some (dR x), some (.str t), some (.int p), none, none, none, none] ?_
  unfold b_fits_at dR
  refine wp_seq ?_
  simp only [sAsg_ap, eV_zero, lft_ok, gTup_ap, List.length_cons, List.length_nil, if_true, gCons_ap, gV_succ, gV_zero, R.bnd_ok, gNil_ap, gok_ok, wp_some, Nxt_nx]
  refine wp_seq ?_
  simp only [sIf_ap, tNot_ap, tE_ap, eM2_ap, eV_succ, eV_zero, R.bnd_ok, isS_str, startsAt_nat hp, tru_bl, lft_ok]
  unfold fitsF
  cases q : begins x.l (t.drop p) with
  | false => simp
  | true =>
    simp only [Bool.not_true, Bool.false_eq_true, if_false, sSkip_ap, wp_some, Nxt_nx, sRet_ap, eAnd_ap, eCall_ap, eCons_ap, eNil_ap, e2_ap, e1_ap, eV_succ, eV_zero, R.bnd_ok, lenD_tup, lenD_str, subD_int, addD_int, List.length_map, lets_eq _ _ hb, lets_eq _ _ ha]
    cases letsF t x.b ((p : Int) - x.b.length) <;> simp
theorem letsF_iff (t : List Nat) (s : List (List Nat)) (p : Int) : (∀ k (h : k < s.length), decide (sgn t (p + k) ∈ s[k]) = true) ↔ letsF t s p = true := by
  unfold letsF
  rw [List.all_eq_true]
  constructor
  · intro h b hb
    obtain ⟨k, hk, e⟩ := List.getElem_of_mem hb
    have hk2 : k < s.length := by rw [lb_len] at hk; exact hk
    have := lb_get t s p k hk2
    rw [List.getElem?_eq_getElem hk] at this
    have := Option.some.inj this
    rw [← e, this]
    exact h k hk2
  · intro h k hk
    have := lb_get t s p k hk
    exact h _ (List.mem_of_getElem? this)
theorem lfits_eq {x : Ru} (ok : okR x) (t : List Nat) (p : Nat) : f__law_fits [dR x, .str t, .int p] = .ok (.bl (fitsF x t p)) := by
  have hb := ok.b2
  have ha := ok.a2
  refine run_at (s := b__law_fits) [some (dR x), some (.str t), some (.int p), none, none, none, none, none] ?_
  unfold b__law_fits
  refine wp_seq ?_
  simp only [sAsg_ap, eV_zero, lft_ok]
  conv in gTup _ _ _ _ => unfold dR
  simp only [gTup_ap, List.length_cons, List.length_nil, if_true, gCons_ap, gV_succ, gV_zero, R.bnd_ok, gNil_ap, gok_ok, wp_some, Nxt_nx]
  refine wp_seq ?_
  simp only [sIf_ap, tE_ap, e2_ap, e1_ap, eSli_ap, pS_ap, eV_succ, eV_zero, R.bnd_ok, optInt_int, addD_int, lenD_str, sliD_str, tru_bl]
  rw [show ((p : Int) + (x.l.length : Int)) = ((p + x.l.length : Nat) : Int) by omega, cut_nat]
  simp only [neD_str, R.bnd_ok, tru_bl, lft_ok]
  rw [show p + x.l.length - p = x.l.length by omega, ← begins_take]
  unfold fitsF
  cases q : begins x.l (t.drop p) with
  | false => simp
  | true =>
    simp only [Bool.not_true, Bool.false_eq_true, if_false, sSkip_ap, wp_some, Nxt_nx]
    refine wp_seq ?_
    rw [sFor_ap]
    simp only [iR1_ap, e1_ap, eV_succ, eV_zero, R.bnd_ok, lenD_tup, List.length_map]
    rw [rng1_nat (by omega)]
    simp only [lft_ok]
    have get : ∀ (s : List (List Nat)) (k : Nat) (h : k < s.length), idxD (.tup (s.map .str)) (.int k) = .ok (.str s[k]) := fun s k h => by
      rw [idxD_tup (by simpa using h)]
      simp
    refine wp_forB (fun k => decide (∃ h : k < x.b.length, sgn t ((p : Int) - x.b.length + k) ∈ x.b[k])) (fun o => [some (dR x), some (.str t), some (.int p), some (.str x.l), some (.str x.r), some (.tup (x.b.map .str)), some (.tup (x.a.map .str)), o]) (fun k o => by simp) (fun k hk => ?_) (fun h o => ?_) (fun ⟨k, hk, h⟩ o => ?_) none
    · simp only [tE_ap, e2_ap, e1_ap, eCall_ap, eCons_ap, eNil_ap, eV_succ, eV_zero, R.bnd_ok, lenD_tup, List.length_map, subD_int, addD_int, lsign_at_eq, get x.b k hk, notIn_one, tru_bl]
      simp [hk]
    · have hL : letsF t x.b ((p : Int) - x.b.length) = true := (letsF_iff _ _ _).mp fun k hk => by
        have := h k hk
        rw [decide_eq_true_iff] at this ⊢
        exact this.2
      rw [hL]
      simp only [Nxt_nx]
      refine wp_seq ?_
      rw [sFor_ap]
      simp only [iR1_ap, e1_ap, eV_succ, eV_zero, R.bnd_ok, lenD_tup, List.length_map]
      rw [rng1_nat (by omega)]
      simp only [lft_ok]
      refine wp_forB (fun k => decide (∃ h : k < x.a.length, sgn t ((p : Int) + x.l.length + k) ∈ x.a[k])) (fun o => [some (dR x), some (.str t), some (.int p), some (.str x.l), some (.str x.r), some (.tup (x.b.map .str)), some (.tup (x.a.map .str)), o]) (fun k o => by simp) (fun k hk => ?_) (fun h o => ?_) (fun ⟨k, hk, h⟩ o => ?_) o
      · simp only [tE_ap, e2_ap, e1_ap, eCall_ap, eCons_ap, eNil_ap, eV_succ, eV_zero, R.bnd_ok, lenD_tup, lenD_str, List.length_map, subD_int, addD_int, lsign_at_eq, get x.a k hk, notIn_one, tru_bl]
        simp [hk]
      · have hL : letsF t x.a ((p : Int) + x.l.length) = true := (letsF_iff _ _ _).mp fun k hk => by
          have := h k hk
          rw [decide_eq_true_iff] at this ⊢
          exact this.2
        rw [hL]
        simp
      · have hL : letsF t x.a ((p : Int) + x.l.length) = false := by
          rw [← Bool.not_eq_true]
          intro hh
          have := (letsF_iff _ _ _).mpr hh k hk
          rw [decide_eq_false_iff_not] at h
          exact h ⟨hk, by simpa using this⟩
        rw [hL]
        simp
    · have hL : letsF t x.b ((p : Int) - x.b.length) = false := by
        rw [← Bool.not_eq_true]
        intro hh
        have := (letsF_iff _ _ _).mpr hh k hk
        rw [decide_eq_false_iff_not] at h
        exact h ⟨hk, by simpa using this⟩
      rw [hL]
      simp
end PL.K43

set_option maxRecDepth 100000
namespace PL.K43
set_option autoImplicit false
/-! ### the choice at a place, the places -/
abbrev dRs (rs : List Ru) : Dat := .lst (rs.map dR)
def fitK (rs : List Ru) (t : List Nat) (p k : Nat) : Bool := match rs[k]? with | some x => fitsF x t p | none => false
def fitL (rs : List Ru) (t : List Nat) (p : Nat) : List Nat := (List.range rs.length).filter (fitK rs t p)
def choF (rs : List Ru) (t : List Nat) (p : Nat) : Option Nat := (fitL rs t p).head?
def choI : Option Nat → Int
  | none => -1
  | some k => k
structure okRs (rs : List Ru) : Prop where
  n1 : 1 ≤ rs.length
  n12 : rs.length ≤ 12
  all : ∀ x ∈ rs, okR x
theorem fitK_at {rs : List Ru} {t : List Nat} {p k : Nat} (h : k < rs.length) : fitK rs t p k = fitsF rs[k] t p := by
  unfold fitK
  rw [List.getElem?_eq_getElem h]
theorem cho_lt {rs : List Ru} {t : List Nat} {p k : Nat} (h : choF rs t p = some k) : k < rs.length := by
  unfold choF fitL at h
  have := List.mem_of_mem_head? (Option.mem_def.mpr h)
  exact List.mem_range.mp (List.mem_filter.mp this).1
theorem choice_eq {rs : List Ru} (ok : okRs rs) (t : List Nat) {p : Nat} (hp : p ≤ t.length) : f_choice_at [dRs rs, .str t, .int p] = .ok (.int (choI (choF rs t p))) := by
  refine run_at (s := b_choice_at) [some (dRs rs), some (.str t), some (.int p), none, none] ?_
  unfold b_choice_at
  refine wp_seq ?_
  rw [sFor_ap]
  simp only [iEnum_ap, eV_zero, R.bnd_ok, enumD_lst, lft_ok]
  refine wp_forX (fun k ρ => (∀ j, j < k → fitK rs t p j = false) ∧ ∃ o o2, ρ = [some (dRs rs), some (.str t), some (.int p), o, o2]) ⟨fun j h => absurd h (by omega), none, none, rfl⟩ (fun k d ρ hk ⟨w, o, o2, e⟩ => ?_) (fun ρ ⟨w, o, o2, e⟩ => ?_)
  · obtain ⟨y, hy, rfl⟩ := enumR_get hk
    obtain ⟨hk2, rfl⟩ := map_get hy
    subst e
    refine ⟨[some (dRs rs), some (.str t), some (.int p), some (.int k), some (dR rs[k])], by simp, ?_⟩
    simp only [sIf_ap, tE_ap, eCall_ap, eCons_ap, eNil_ap, eV_succ, eV_zero, R.bnd_ok, fits_eq (ok.all _ (List.getElem_mem hk2)) t hp, tru_bl, lft_ok]
    cases q : fitsF rs[k] t p with
    | false =>
      simp only [Bool.false_eq_true, if_false, sSkip_ap, wp_some, Lp_nx]
      refine ⟨fun j hj => ?_, _, _, rfl⟩
      by_cases h : j = k
      · subst h; rw [fitK_at hk2]; exact q
      · exact w j (by omega)
    | true =>
      simp only [if_true, sRet_ap, eV_succ, eV_zero, lft_ok, wp_some, Lp_rt, Nxt_rt, endR_rt]
      obtain ⟨r, hr⟩ := filter_first hk2 w (by rw [fitK_at hk2]; exact q)
      unfold choF fitL
      rw [hr]
      rfl
  · subst e
    rw [enumR_len, List.length_map] at w
    simp only [Nxt_nx, sRet_ap, e1_ap, eC_ap, R.bnd_ok, negD_int, lft_ok, wp_some, endR_rt]
    unfold choF fitL
    rw [filter_none w]
    rfl
def stepF (rs : List Ru) (t : List Nat) (p : Nat) : Nat := match choF rs t p with
  | none => 1
  | some k => max 1 (match rs[k]? with | some x => x.l.length | none => 1)
theorem step_pos (rs : List Ru) (t : List Nat) (p : Nat) : 1 ≤ stepF rs t p := by
  unfold stepF
  split <;> omega
theorem step_some {rs : List Ru} (ok : okRs rs) {t : List Nat} {p k : Nat} (h : choF rs t p = some k) : stepF rs t p = (rs[k]'(cho_lt h)).l.length := by
  unfold stepF
  rw [h]
  simp only
  rw [List.getElem?_eq_getElem (cho_lt h)]
  simp only
  have := (ok.all _ (List.getElem_mem (cho_lt h))).l1
  omega
def plc (rs : List Ru) (t : List Nat) : Nat → Nat → List (Nat × Option Nat)
  | 0, _ => []
  | n + 1, p => if p < t.length then (p, choF rs t p) :: plc rs t n (p + stepF rs t p) else []
theorem plc_out {rs : List Ru} {t : List Nat} {n p : Nat} (h : t.length ≤ p) : plc rs t n p = [] := by
  cases n with
  | zero => rfl
  | succ n => unfold plc; rw [if_neg (by omega)]
theorem plc_fuel {rs : List Ru} {t : List Nat} : ∀ (n m p : Nat), t.length - p ≤ n → t.length - p ≤ m → plc rs t n p = plc rs t m p
  | 0, m, p, h1, h2 => by rw [plc_out (n := m) (by omega)]; rfl
  | n + 1, 0, p, h1, h2 => by rw [plc_out (n := n + 1) (by omega)]; rfl
  | n + 1, m + 1, p, h1, h2 => by
    unfold plc
    have := step_pos rs t p
    by_cases h : p < t.length
    · rw [if_pos h, if_pos h, plc_fuel n m _ (by omega) (by omega)]
    · rw [if_neg h, if_neg h]
/-- all places, with what is chosen -/
def plcs (rs : List Ru) (t : List Nat) : List (Nat × Option Nat) := plc rs t t.length 0
def dP (x : Nat × Option Nat) : Dat := .tup [.int (x.1 : Nat), .int (choI x.2)]
theorem plc_len {rs : List Ru} {t : List Nat} : ∀ (n p : Nat), (plc rs t n p).length ≤ n
  | 0, p => by simp [plc]
  | n + 1, p => by
    unfold plc
    split
    · have := plc_len (rs := rs) (t := t) n (p + stepF rs t p)
      simp only [List.length_cons]
      omega
    · simp
theorem plc_mem {rs : List Ru} {t : List Nat} : ∀ (n p : Nat) (x : Nat × Option Nat), x ∈ plc rs t n p → x.1 < t.length ∧ ∀ k, x.2 = some k → k < rs.length
  | 0, p, x, h => by simp [plc] at h
  | n + 1, p, x, h => by
    unfold plc at h
    split at h
    · rcases List.mem_cons.mp h with e | e
      · subst e
        exact ⟨by assumption, fun k hk => cho_lt hk⟩
      · exact plc_mem n _ x e
    · cases h
theorem places_eq {rs : List Ru} (ok : okRs rs) (t : List Nat) (ht : t.length ≤ 1000) : f_places_of [dRs rs, .str t] = .ok (.lst ((plcs rs t).map dP)) := by
  refine run_at (s := b_places_of) [some (dRs rs), some (.str t), none, none, none] ?_
  unfold b_places_of
  refine wp_seq ?_
  rw [sNew_lst (xs := []) (by simp [LINE]) (by simp)]
  simp only [wp_some, Nxt_nx, List.set_cons_succ, List.set_cons_zero]
  refine wp_seq ?_
  simp only [sAsg_ap, eC_ap, lft_ok, gV_succ, gV_zero, R.bnd_ok, gok_ok, wp_some, Nxt_nx]
  refine wp_seq ?_
  refine wp_whl (fun n ρ => ∃ (f : List (Nat × Option Nat)) (p : Nat) (o : Option Dat), n = t.length - p ∧ f ++ plc rs t (t.length - p) p = plcs rs t ∧ f.length ≤ p ∧ ρ = [some (dRs rs), some (.str t), some (.lst (f.map dP)), some (.int (p : Nat)), o]) (fun n ρ ⟨f, p, o, hn, hf, hl, e⟩ => ?_) (n := t.length) ⟨[], 0, none, rfl, rfl, Nat.le_refl _, rfl⟩
  subst e
  refine ⟨decide ((p : Int) < t.length), by simp, fun h => ?_, fun h => ?_⟩
  · have hp : p < t.length := by rw [decide_eq_true_iff] at h; omega
    have hs := step_pos rs t p
    have hf2 : f ++ [(p, choF rs t p)] ++ plc rs t (t.length - (p + stepF rs t p)) (p + stepF rs t p) = plcs rs t := by
      rw [← hf, List.append_assoc]
      congr 1
      rw [show t.length - p = (t.length - p - 1) + 1 by omega]
      conv => rhs; unfold plc
      rw [if_pos hp, plc_fuel (t.length - (p + stepF rs t p)) (t.length - p - 1) _ (by omega) (by omega)]
      rfl
    refine wp_seq ?_
    simp only [sAsg_ap, eCall_ap, eCons_ap, eNil_ap, eV_succ, eV_zero, R.bnd_ok, choice_eq ok t (Nat.le_of_lt hp), lft_ok, gV_succ, gV_zero, gok_ok, wp_some, Nxt_nx]
    refine wp_seq ?_
    rw [sApp_ap (xs := f.map dP) (d := dP (p, choF rs t p)) (by simp) (by simp [dP, LINE]) (by rw [List.length_map]; unfold LINE; omega)]
    simp only [wp_some, Nxt_nx, List.set_cons_succ, List.set_cons_zero]
    simp only [sIf_ap, tE_ap, e2_ap, eV_succ, eV_zero, eC_ap, R.bnd_ok, ltD_int, tru_bl, lft_ok]
    cases q : choF rs t p with
    | none =>
      rw [if_pos (show decide (choI none < 0) = true from rfl)]
      simp only [choI]
      simp only [sAug_ap, eV_succ, eV_zero, eC_ap, R.bnd_ok, addF_int, lft_ok, gV_succ, gV_zero, gok_ok, wp_some, Lp_nx]
      have e1 : stepF rs t p = 1 := by unfold stepF; rw [q]
      rw [e1, q] at hf2
      refine ⟨t.length - (p + 1), by omega, f ++ [(p, none)], p + 1, some (.int (-1)), rfl, hf2, by simp; omega, ?_⟩
      simp
    | some k =>
      have hk := cho_lt q
      have hst := step_some ok q
      rw [if_neg (show ¬ decide (choI (some k) < 0) = true by rw [decide_eq_true_iff]; show ¬ ((k : Int) < 0); omega)]
      simp only [choI]
      have i1 : idxD (dRs rs) (.int (k : Nat)) = .ok (dR rs[k]) := by
        rw [idxD_lst (by simpa using hk)]
        simp
      have i2 : idxD (dR rs[k]) (.int 0) = .ok (.str rs[k].l) := idxD_tup (k := 0) (by simp)
      simp only [sAug_ap, e1_ap, e2_ap, eV_succ, eV_zero, eC_ap, R.bnd_ok, i1, i2, lenD_str, addF_int, lft_ok, gV_succ, gV_zero, gok_ok, wp_some, Lp_nx]
      rw [hst, q] at hf2
      refine ⟨t.length - (p + rs[k].l.length), by omega, f ++ [(p, some k)], p + rs[k].l.length, some (.int (k : Nat)), rfl, hf2, by simp; omega, ?_⟩
      simp
  · have hp : t.length ≤ p := by rw [decide_eq_false_iff_not] at h; omega
    rw [plc_out hp, List.append_nil] at hf
    simp only [Nxt_nx, sRet_ap, eV_succ, eV_zero, lft_ok, wp_some, endR_rt]
    rw [hf]
theorem lchoices_eq {rs : List Ru} (ok : okRs rs) (t : List Nat) (ht : t.length ≤ 1000) : f__law_choices [dRs rs, .str t] = .ok (.lst ((plcs rs t).map dP)) := by
  have hn := ok.n12
  refine run_at (s := b__law_choices) [some (dRs rs), some (.str t), none, none, none, none, none] ?_
  unfold b__law_choices
  refine wp_seq ?_
  rw [sNew_lst (xs := []) (by simp [LINE]) (by simp)]
  simp only [wp_some, Nxt_nx, List.set_cons_succ, List.set_cons_zero]
  refine wp_seq ?_
  simp only [sAsg_ap, eC_ap, lft_ok, gV_succ, gV_zero, R.bnd_ok, gok_ok, wp_some, Nxt_nx]
  refine wp_seq ?_
  rw [sFor_ap]
  simp only [iR1_ap, e1_ap, eV_succ, eV_zero, R.bnd_ok, lenD_str]
  rw [rng1_nat (by omega)]
  simp only [lft_ok]
  refine wp_for (fun m ρ => ∃ (f : List (Nat × Option Nat)) (p : Nat) (o o2 o3 : Option Dat), m ≤ p ∧ f ++ plc rs t (t.length - p) p = plcs rs t ∧ f.length ≤ m ∧ ρ = [some (dRs rs), some (.str t), some (.lst (f.map dP)), some (.int (p : Nat)), o, o2, o3]) ⟨[], 0, none, none, none, Nat.le_refl _, rfl, Nat.le_refl _, rfl⟩ (fun m d ρ hm ⟨f, p, o, o2, o3, hmp, hf, hl, e⟩ => ?_) (fun ρ ⟨f, p, o, o2, o3, hmp, hf, hl, e⟩ => ?_)
  · obtain ⟨hm2, rfl⟩ := range_get hm
    subst e
    refine ⟨_, by simp only [gV_succ, gV_zero, R.bnd_ok]; rfl, ?_⟩
    simp only [sIf_ap, tE_ap, e1_ap, e2_ap, eV_succ, eV_zero, R.bnd_ok, lenD_str, ltD_int, tru_bl, lft_ok]
    by_cases hp : p < t.length
    · rw [if_pos (by rw [decide_eq_true_iff]; omega)]
      have hs := step_pos rs t p
      have hf2 : f ++ [(p, choF rs t p)] ++ plc rs t (t.length - (p + stepF rs t p)) (p + stepF rs t p) = plcs rs t := by
        rw [← hf, List.append_assoc]
        congr 1
        rw [show t.length - p = (t.length - p - 1) + 1 by omega]
        conv => rhs; unfold plc
        rw [if_pos hp, plc_fuel (t.length - (p + stepF rs t p)) (t.length - p - 1) _ (by omega) (by omega)]
        rfl
      refine wp_seq ?_
      rw [sNew_lst (xs := (fitL rs t p).map fun k => .int (k : Nat)) ?_ (by simp)]
      · simp only [wp_some, Nxt_nx, List.set_cons_succ, List.set_cons_zero, sIf_ap, tE_ap, e1_ap, e2_ap, eV_succ, eV_zero, eC_ap, R.bnd_ok, lenD_lst, eqD_int, tru_bl, lft_ok, List.length_map]
        cases q : fitL rs t p with
        | nil =>
          have qc : choF rs t p = none := by unfold choF; rw [q]; rfl
          have e1 : stepF rs t p = 1 := by unfold stepF; rw [qc]
          rw [e1, qc] at hf2
          simp only [List.length_nil]
          rw [if_pos (by decide)]
          refine wp_seq ?_
          rw [sApp_ap (xs := f.map dP) (d := dP (p, none)) (by simp) (by simp [dP, LINE, choI]) (by rw [List.length_map]; unfold LINE; omega)]
          simp only [wp_some, Nxt_nx, List.set_cons_succ, List.set_cons_zero, sAsg_ap, e2_ap, eV_succ, eV_zero, eC_ap, R.bnd_ok, addD_int, lft_ok, gV_succ, gV_zero, gok_ok]
          exact ⟨.inl trivial, f ++ [(p, none)], p + 1, _, _, _, by omega, hf2, by simp; omega, by simp; exact ⟨rfl, rfl, rfl⟩⟩
        | cons k r =>
          have qc : choF rs t p = some k := by unfold choF; rw [q]; rfl
          have hk := cho_lt qc
          have hst := step_some ok qc
          rw [hst, qc] at hf2
          simp only [List.length_cons]
          rw [if_neg (by simp; omega)]
          have i0 : idxD (.lst ((k :: r).map fun k => Dat.int (k : Nat))) (.int 0) = .ok (.int (k : Nat)) := idxD_lst (k := 0) (by simp)
          have i1 : idxD (dRs rs) (.int (k : Nat)) = .ok (dR rs[k]) := by
            rw [idxD_lst (by simpa using hk)]
            simp
          have i2 : idxD (dR rs[k]) (.int 0) = .ok (.str rs[k].l) := idxD_tup (k := 0) (by simp)
          refine wp_seq ?_
          rw [sApp_ap (xs := f.map dP) (d := dP (p, some k)) (by simp) (by simp only [eTup_ap, eCons_ap, eNil_ap, e2_ap, eV_succ, eV_zero, eC_ap, R.bnd_ok, i0]; simp [dP, LINE, choI]) (by rw [List.length_map]; unfold LINE; omega)]
          simp only [wp_some, Nxt_nx, List.set_cons_succ, List.set_cons_zero, sAsg_ap, e1_ap, e2_ap, eV_succ, eV_zero, eC_ap, R.bnd_ok, i0, i1, i2, lenD_str, addD_int, lft_ok, gV_succ, gV_zero, gok_ok]
          have := (ok.all _ (List.getElem_mem hk)).l1
          exact ⟨.inl trivial, f ++ [(p, some k)], p + rs[k].l.length, _, _, _, by omega, hf2, by simp; omega, by simp; exact ⟨rfl, rfl, rfl⟩⟩
      · refine eComp_of (ds := (List.range rs.length).map fun k => .int (k : Nat)) (by simp [rng1_nat (show rs.length < 2 ^ 62 by omega)]) ?_ (by
          rw [List.length_map]
          have := List.length_filter_le (fitK rs t p) (List.range rs.length)
          rw [List.length_range] at this
          unfold fitL LINE
          omega)
        refine compL_filter (fun k : Nat => Dat.int (k : Nat)) (fitK rs t p) (fun k => .int (k : Nat)) fun k hk => ?_
        have hk := List.mem_range.mp hk
        have i1 : idxD (dRs rs) (.int (k : Nat)) = .ok (dR rs[k]) := by
          rw [idxD_lst (by simpa using hk)]
          simp
        refine ⟨[some (dRs rs), some (.str t), some (.lst (f.map dP)), some (.int (p : Nat)), some (.int (m : Nat)), o2, some (.int (k : Nat))], by simp [wipe], ?_, fun _ => by simp⟩
        simp only [tE_ap, eCall_ap, eCons_ap, eNil_ap, e2_ap, eV_succ, eV_zero, R.bnd_ok, i1, lfits_eq (ok.all _ (List.getElem_mem hk)) t p, tru_bl, fitK_at hk]
    · rw [if_neg (by rw [decide_eq_true_iff]; omega)]
      simp only [sSkip_ap, wp_some]
      exact ⟨.inl trivial, f, p, _, _, _, by omega, hf, by omega, rfl⟩
  · subst e
    rw [List.length_map, List.length_range] at hmp
    rw [plc_out hmp, List.append_nil] at hf
    simp only [Nxt_nx, sRet_ap, eV_succ, eV_zero, lft_ok, wp_some, endR_rt]
    rw [hf]
end PL.K43

set_option maxRecDepth 100000
namespace PL.K43
set_option autoImplicit false
/-! ### choices, spell -/
theorem plcs_len (rs : List Ru) (t : List Nat) : (plcs rs t).length ≤ t.length := plc_len _ _
/-- what is put out at the places -/
def out1 (rs : List Ru) (t : List Nat) (x : Nat × Option Nat) : List Nat := match x.2 with
  | none => [t.getD x.1 0]
  | some k => match rs[k]? with | some y => y.r | none => []
def outF (rs : List Ru) (t : List Nat) (ps : List (Nat × Option Nat)) : List Nat := (ps.map (out1 rs t)).flatten
theorem out1_len {rs : List Ru} (ok : okRs rs) (t : List Nat) (x : Nat × Option Nat) : (out1 rs t x).length ≤ 6 := by
  unfold out1
  split
  · simp
  · split
    · rename_i y h
      exact (ok.all _ (List.mem_of_getElem? h)).r6
    · simp
theorem outF_len {rs : List Ru} (ok : okRs rs) (t : List Nat) : ∀ ps, (outF rs t ps).length ≤ 6 * ps.length
  | [] => by simp [outF]
  | x :: r => by
    have h1 := out1_len ok t x
    have h2 := outF_len ok t r
    unfold outF at h2 ⊢
    simp only [List.map_cons, List.flatten_cons, List.length_append, List.length_cons]
    omega
theorem outF_snoc (rs : List Ru) (t : List Nat) (ps : List (Nat × Option Nat)) (x : Nat × Option Nat) : outF rs t (ps ++ [x]) = outF rs t ps ++ out1 rs t x := by
  unfold outF
  simp
/-- one turn of either -/
theorem turn_out {rs : List Ru} (ok : okRs rs) {t : List Nat} {x : Nat × Option Nat} (h : x ∈ plcs rs t) (op : Dat → Dat → R Dat) (hop : ∀ a b : List Nat, a.length + b.length ≤ LINE → op (.str a) (.str b) = .ok (.str (a ++ b))) {o : List Nat} (hl : o.length + 6 ≤ LINE) {ρ : Env}
    (e : ρ = [some (dRs rs), some (.str t), some (.str o), some (.int (x.1 : Nat)), some (.int (choI x.2))]) (s1 s2 : SM) (h1 : ∀ d, (e2 op (eV 2) (e2 idxD (eV 1) (eV 3))) ρ = .ok d → s1 ρ = some (.nx, ρ.set 2 (some d))) (h2 : ∀ d, (e2 op (eV 2) (e2 idxD (e2 idxD (eV 0) (eV 4)) (eC (.int 1)))) ρ = .ok d → s2 ρ = some (.nx, ρ.set 2 (some d))) :
    sIf (tE (e2 ltD (eV 4) (eC (.int 0)))) s1 s2 ρ = some (.nx, [some (dRs rs), some (.str t), some (.str (o ++ out1 rs t x)), some (.int (x.1 : Nat)), some (.int (choI x.2))]) := by
  obtain ⟨m1, m2⟩ := plc_mem _ _ _ h
  have hlen := out1_len ok t x
  obtain ⟨p, c⟩ := x
  subst e
  simp only at m1 m2 hlen
  cases c with
  | none =>
    rw [sIf_ap, show tE (e2 ltD (eV 4) (eC (.int 0))) [some (dRs rs), some (.str t), some (.str o), some (.int (p : Nat)), some (.int (choI none))] = .ok true from rfl]
    simp only [lft_ok, if_true]
    rw [h1 (.str (o ++ [t[p]])) (by simp only [e2_ap, eV_succ, eV_zero, R.bnd_ok, idxD_str m1]; exact hop _ _ (by simp; omega))]
    simp [out1, m1]
  | some k =>
    have hk := m2 k rfl
    rw [sIf_ap, show tE (e2 ltD (eV 4) (eC (.int 0))) [some (dRs rs), some (.str t), some (.str o), some (.int (p : Nat)), some (.int (choI (some k)))] = .ok false by
      simp only [tE_ap, e2_ap, eV_succ, eV_zero, eC_ap, R.bnd_ok, ltD_int, tru_bl, choI]
      exact congrArg R.ok (decide_eq_false_iff_not.mpr (by omega))]
    simp only [lft_ok, Bool.false_eq_true, if_false]
    have i1 : idxD (dRs rs) (.int (k : Nat)) = .ok (dR rs[k]) := by
      rw [idxD_lst (by simpa using hk)]
      simp
    have i2 : idxD (dR rs[k]) (.int 1) = .ok (.str rs[k].r) := idxD_tup (k := 1) (by simp)
    have hlr : rs[k].r.length ≤ 6 := (ok.all _ (List.getElem_mem hk)).r6
    rw [h2 (.str (o ++ rs[k].r)) (by simp only [e2_ap, eV_succ, eV_zero, eC_ap, R.bnd_ok, choI, i1, i2]; exact hop _ _ (by omega))]
    simp [out1, hk]
theorem spell_eq {rs : List Ru} (ok : okRs rs) (t : List Nat) (ht : t.length ≤ 1000) : f_spell [dRs rs, .str t] = .ok (.str (outF rs t (plcs rs t))) := by
  have hn := plcs_len rs t
  refine run_at (s := b_spell) [some (dRs rs), some (.str t), none, none, none] ?_
  unfold b_spell
  refine wp_seq ?_
  simp only [sAsg_ap, eC_ap, lft_ok, gV_succ, gV_zero, R.bnd_ok, gok_ok, wp_some, Nxt_nx]
  refine wp_seq ?_
  rw [sFor_ap]
  simp only [iOf_ap, eCall_ap, eCons_ap, eNil_ap, eV_succ, eV_zero, R.bnd_ok, places_eq ok t ht, itemsD_lst, lft_ok]
  refine wp_for (fun k ρ => ∃ o3 o4, ρ = [some (dRs rs), some (.str t), some (.str (outF rs t ((plcs rs t).take k))), o3, o4]) ⟨none, none, by simp [outF]⟩ (fun k d ρ hk ⟨o3, o4, e⟩ => ?_) (fun ρ ⟨o3, o4, e⟩ => ?_)
  · obtain ⟨hk2, rfl⟩ := map_get hk
    subst e
    refine ⟨[some (dRs rs), some (.str t), some (.str (outF rs t ((plcs rs t).take k))), some (.int ((plcs rs t)[k].1 : Nat)), some (.int (choI (plcs rs t)[k].2))], by simp [dP], ?_⟩
    have hlo := outF_len ok t ((plcs rs t).take k)
    rw [List.length_take] at hlo
    rw [turn_out ok (List.getElem_mem hk2) addF (fun a b h => if_pos h) (by unfold LINE; omega) rfl _ _ (fun d hd => by
      rw [sAug_ap]
      rw [e2_ap] at hd
      rw [hd]
      simp) (fun d hd => by
      rw [sAug_ap]
      rw [e2_ap] at hd
      rw [hd]
      simp)]
    simp only [wp_some]
    refine ⟨.inl trivial, some (.int ((plcs rs t)[k].1 : Nat)), some (.int (choI (plcs rs t)[k].2)), ?_⟩
    rw [List.take_succ_eq_append_getElem hk2, outF_snoc]
  · subst e
    rw [List.length_map, List.take_length]
    simp
theorem lspell_eq {rs : List Ru} (ok : okRs rs) (t : List Nat) (ht : t.length ≤ 1000) : f__law_spell [dRs rs, .str t] = .ok (.str (outF rs t (plcs rs t))) := by
  have hn := plcs_len rs t
  refine run_at (s := b__law_spell) [some (dRs rs), some (.str t), none, none, none] ?_
  unfold b__law_spell
  refine wp_seq ?_
  simp only [sAsg_ap, eC_ap, lft_ok, gV_succ, gV_zero, R.bnd_ok, gok_ok, wp_some, Nxt_nx]
  refine wp_seq ?_
  rw [sFor_ap]
  simp only [iOf_ap, eCall_ap, eCons_ap, eNil_ap, eV_succ, eV_zero, R.bnd_ok, lchoices_eq ok t ht, itemsD_lst, lft_ok]
  refine wp_for (fun k ρ => ∃ o3 o4, ρ = [some (dRs rs), some (.str t), some (.str (outF rs t ((plcs rs t).take k))), o3, o4]) ⟨none, none, by simp [outF]⟩ (fun k d ρ hk ⟨o3, o4, e⟩ => ?_) (fun ρ ⟨o3, o4, e⟩ => ?_)
  · obtain ⟨hk2, rfl⟩ := map_get hk
    subst e
    refine ⟨[some (dRs rs), some (.str t), some (.str (outF rs t ((plcs rs t).take k))), some (.int ((plcs rs t)[k].1 : Nat)), some (.int (choI (plcs rs t)[k].2))], by simp [dP], ?_⟩
    have hlo := outF_len ok t ((plcs rs t).take k)
    rw [List.length_take] at hlo
    rw [turn_out ok (List.getElem_mem hk2) addD (fun a b h => if_pos h) (by unfold LINE; omega) rfl _ _ (fun d hd => by
      rw [sAsg_ap, hd]
      simp) (fun d hd => by
      rw [sAsg_ap, hd]
      simp)]
    simp only [wp_some]
    refine ⟨.inl trivial, some (.int ((plcs rs t)[k].1 : Nat)), some (.int (choI (plcs rs t)[k].2)), ?_⟩
    rw [List.take_succ_eq_append_getElem hk2, outF_snoc]
  · subst e
    rw [List.length_map, List.take_length]
    simp
end PL.K43

set_option maxRecDepth 100000
namespace PL.K43
set_option autoImplicit false
/-! ### greatest numbers -/
def mx (l : List Nat) : Nat := l.foldl max 0
theorem mx_ge : ∀ (l : List Nat) (a : Nat), a ≤ l.foldl max a ∧ ∀ x ∈ l, x ≤ l.foldl max a
  | [], a => ⟨Nat.le_refl _, fun x h => (by cases h)⟩
  | b :: r, a => by
    obtain ⟨h1, h2⟩ := mx_ge r (max a b)
    refine ⟨by rw [List.foldl_cons]; omega, fun x hx => ?_⟩
    rw [List.foldl_cons]
    rcases List.mem_cons.mp hx with e | e
    · subst e; omega
    · exact h2 x e
theorem le_mx {l : List Nat} {x : Nat} (h : x ∈ l) : x ≤ mx l := (mx_ge l 0).2 x h
theorem mx_le : ∀ (l : List Nat) (a n : Nat), a ≤ n → (∀ x ∈ l, x ≤ n) → l.foldl max a ≤ n
  | [], a, n, h, _ => h
  | b :: r, a, n, h, hb => mx_le r (max a b) n (by have := hb b List.mem_cons_self; omega) fun x hx => hb x (List.mem_cons_of_mem _ hx)
theorem maxD_mx {l : List Nat} (h : l ≠ []) : maxD (dNats l) = .ok (.int (mx l : Nat)) := by
  cases l with
  | nil => exact absurd rfl h
  | cons a r =>
    rw [show dNats (a :: r) = .lst (.int (a : Nat) :: r.map fun k => .int (k : Nat)) from rfl, maxD_nat]
    unfold mx
    rw [List.foldl_cons, Nat.zero_max]
def tS (rs : List Ru) : Nat := mx (rs.map fun x => x.b.length)
def rch (rs : List Ru) : Nat := mx (rs.map fun x => x.l.length + x.a.length)
theorem ne_of {rs : List Ru} (ok : okRs rs) {F : Ru → Nat} : rs.map F ≠ [] := fun e => by
  have := ok.n1
  rw [List.map_eq_nil_iff] at e
  subst e
  simp at this
theorem tS_le {rs : List Ru} (ok : okRs rs) : tS rs ≤ 2 := mx_le _ 0 2 (by omega) fun x hx => by
  obtain ⟨y, hy, rfl⟩ := List.mem_map.mp hx
  exact (ok.all y hy).b2
theorem rch_le {rs : List Ru} (ok : okRs rs) : rch rs ≤ 6 := mx_le _ 0 6 (by omega) fun x hx => by
  obtain ⟨y, hy, rfl⟩ := List.mem_map.mp hx
  have := (ok.all y hy).l4
  have := (ok.all y hy).a2
  omega
theorem b_tS {rs : List Ru} {x : Ru} (h : x ∈ rs) : x.b.length ≤ tS rs := le_mx (List.mem_map.mpr ⟨x, h, rfl⟩)
theorem l_rch {rs : List Ru} {x : Ru} (h : x ∈ rs) : x.l.length + x.a.length ≤ rch rs := le_mx (List.mem_map.mpr ⟨x, h, rfl⟩)
theorem r_l (x : Ru) : idxD (dR x) (.int 0) = .ok (.str x.l) := idxD_tup (k := 0) (by simp)
theorem r_r (x : Ru) : idxD (dR x) (.int 1) = .ok (.str x.r) := idxD_tup (k := 1) (by simp)
theorem r_b (x : Ru) : idxD (dR x) (.int 2) = .ok (.tup (x.b.map .str)) := idxD_tup (k := 2) (by simp)
theorem r_a (x : Ru) : idxD (dR x) (.int 3) = .ok (.tup (x.a.map .str)) := idxD_tup (k := 3) (by simp)
theorem rs_tab {rs : List Ru} {k : Nat} (h : k < rs.length) : idxD (dRs rs) (.int k) = .ok (dR rs[k]) := by
  rw [idxD_lst (by simpa using h)]
  simp
theorem max_comp {rs : List Ru} (ok : okRs rs) (F : Ru → Nat) {src : LM} {vs : List Nat} {g : GM} {e : EM} {ρ : Env} (hs : src ρ = .ok (rs.map dR)) (E : Ru → Env) (hg : ∀ x, g (dR x) (wipe ρ vs) = .ok (E x)) (he : ∀ x, e (E x) = .ok (.int (F x : Nat))) : (e1 maxD (eComp src vs g tYes e)) ρ = .ok (.int (mx (rs.map F) : Nat)) := by
  have := ok.n12
  rw [e1_ap, eComp_of (ys := (rs.map F).map fun k => .int (k : Nat)) hs (by
    rw [List.map_map]
    exact compL_map dR (fun x => .int (F x : Nat)) fun x hx => ⟨E x, hg x, rfl, hx, he x⟩) (by rw [List.length_map, List.length_map]; unfold LINE; omega)]
  simp only [R.bnd_ok]
  exact maxD_mx (ne_of ok)
theorem reach_eq {rs : List Ru} (ok : okRs rs) : f_reach [dRs rs] = .ok (.int (rch rs : Nat)) := by
  refine run_at (s := b_reach) [some (dRs rs), none, none, none] ?_
  unfold b_reach
  rw [sRet_ap, max_comp ok (fun x => x.l.length + x.a.length) (by simp) (fun x => [some (dRs rs), some (.str x.l), some (.tup (x.b.map .str)), some (.tup (x.a.map .str))]) (fun x => by simp [wipe, dR]) (fun x => by simp)]
  simp [rch]
theorem lreach_eq {rs : List Ru} (ok : okRs rs) : f__law_reach [dRs rs] = .ok (.int (rch rs : Nat)) := by
  refine run_at (s := b__law_reach) [some (dRs rs), none] ?_
  unfold b__law_reach
  rw [sRet_ap, max_comp ok (fun x => x.l.length + x.a.length) (by simp) (fun x => [some (dRs rs), some (dR x)]) (fun x => by simp [wipe]) (fun x => by simp [r_l, r_a])]
  simp [rch]
theorem tail_size_eq {rs : List Ru} (ok : okRs rs) : f_tail_size [dRs rs] = .ok (.int (tS rs : Nat)) := by
  refine run_at (s := b_tail_size) [some (dRs rs), none, none] ?_
  unfold b_tail_size
  rw [sRet_ap, max_comp ok (fun x => x.b.length) (by simp) (fun x => [some (dRs rs), some (.tup (x.a.map .str)), some (.tup (x.b.map .str))]) (fun x => by simp [wipe, dR]) (fun x => by simp)]
  simp [tS]
abbrev dSt (tl rest : List Nat) : Dat := .tup [.str tl, .str rest]
theorem rep_one (n : Nat) : rep n [124] = List.replicate n 124 := by
  unfold rep
  induction n with
  | zero => rfl
  | succ n ih => rw [List.replicate_succ, List.flatten_cons, ih, List.replicate_succ]; rfl
theorem mul_end {n : Nat} (h : n ≤ 100) : mulD (.str [124]) (.int (n : Nat)) = .ok (.str (List.replicate n 124)) := by
  rw [mulD_str (by refine ⟨by omega, by omega, ?_⟩; rw [Int.toNat_natCast]; unfold LINE; simp; omega), Int.toNat_natCast, rep_one]
theorem first_eq {rs : List Ru} (ok : okRs rs) : f_first_state [dRs rs] = .ok (dSt (List.replicate (tS rs) 124) []) := by
  have := tS_le ok
  refine run_at (s := b_first_state) [some (dRs rs)] ?_
  unfold b_first_state
  simp only [sRet_ap, eTup_ap, eCons_ap, eNil_ap, e2_ap, eC_ap, eCall_ap, eV_zero, R.bnd_ok, tail_size_eq ok, d_END, mul_end (show tS rs ≤ 100 by omega)]
  rw [if_pos (by simp [LINE])]
  simp
theorem lfirst_eq {rs : List Ru} (ok : okRs rs) : f__law_first [dRs rs] = .ok (dSt (List.replicate (tS rs) 124) []) := by
  have := tS_le ok
  refine run_at (s := b__law_first) [some (dRs rs), none] ?_
  unfold b__law_first
  simp only [sRet_ap, eTup_ap, eCons_ap, eNil_ap, e2_ap, eC_ap, R.bnd_ok]
  rw [max_comp ok (fun x => x.b.length) (by simp) (fun x => [some (dRs rs), some (dR x)]) (fun x => by simp [wipe]) (fun x => by simp [r_b])]
  simp only [R.bnd_ok]
  rw [show mx (rs.map fun x => x.b.length) = tS rs from rfl, mul_end (show tS rs ≤ 100 by omega)]
  simp only [R.bnd_ok]
  rw [if_pos (by simp [LINE])]
  simp
/-! ### is a rule known to be taken -/
def asked (x : Ru) : List (List Nat) := x.l.map (fun c => [c]) ++ x.a
def scan : List Nat → List (List Nat) → Bool → Nat
  | _, [], _ => 2
  | c :: r, s :: t, e => if c ∈ s then scan r t e else 0
  | [], s :: t, e => if e then (if 124 ∈ s then scan [] t e else 0) else 1
def known (x : Ru) (tl rest : List Nat) (e : Bool) : Nat := if letsF tl x.b ((tl.length : Int) - x.b.length) = true then scan rest (asked x) e else 0
theorem scan_nil (r : List Nat) (e : Bool) : scan r [] e = 2 := by cases r <;> rfl
theorem scan_in {rest : List Nat} {s : List (List Nat)} {e : Bool} {k : Nat} (h1 : k < s.length) (h2 : k < rest.length) : scan (rest.drop k) (s.drop k) e = if rest[k] ∈ s[k] then scan (rest.drop (k + 1)) (s.drop (k + 1)) e else 0 := by
  rw [List.drop_eq_getElem_cons h1, List.drop_eq_getElem_cons h2]
  rfl
theorem scan_end {rest : List Nat} {s : List (List Nat)} {e : Bool} {k : Nat} (h1 : k < s.length) (h2 : rest.length ≤ k) : scan (rest.drop k) (s.drop k) e = if e then (if 124 ∈ s[k] then scan (rest.drop (k + 1)) (s.drop (k + 1)) e else 0) else 1 := by
  rw [List.drop_eq_getElem_cons h1, List.drop_of_length_le h2, List.drop_of_length_le (show rest.length ≤ k + 1 by omega)]
  rfl
theorem asked_len {x : Ru} (ok : okR x) : (asked x).length ≤ 6 := by
  have := ok.l4
  have := ok.a2
  unfold asked
  rw [List.length_append, List.length_map]
  omega
theorem signs_dat (l : List Nat) : signs l = (l.map fun c => [c]).map .str := by
  unfold signs
  rw [List.map_map]
  rfl
theorem asked_eq {x : Ru} (ok : okR x) : f_asked [dR x] = .ok (.tup ((asked x).map .str)) := by
  have h1 := ok.l4
  have h2 := ok.a2
  refine run_at (s := b_asked) [some (dR x)] ?_
  unfold b_asked
  simp only [sRet_ap, e1_ap, e2_ap, eC_ap, eV_zero, R.bnd_ok, r_l, r_a]
  rw [show tupleD (.str x.l) = .ok (.tup (signs x.l)) from rfl]
  simp only [R.bnd_ok]
  rw [show addD (.tup (signs x.l)) (.tup (x.a.map .str)) = .ok (.tup (signs x.l ++ x.a.map .str)) from if_pos (by simp [signs]; unfold LINE; omega)]
  simp only [lft_ok, wp_some, endR_rt]
  rw [signs_dat]
  unfold asked
  rw [List.map_append]
theorem tail_comp (t : List Nat) (p : Int) (x : Option Dat) : ∀ (s : List (List Nat)) (k : Nat), 0 ≤ p + k → p + k + s.length ≤ t.length → compL (gTup 2 (gCons (gV 3) (gCons (gV 4) gNil))) tYes (e2 inD (e2 idxD (eV 1) (e2 addD (eV 2) (eV 3))) (eV 4)) [x, some (.str t), some (.int p), none, none] (enumFrom k (s.map .str)) =
    .ok ((lb t s (p + k)).map .bl)
  | [], k, _, _ => rfl
  | c :: r, k, h0, h => by
    simp only [List.length_cons] at h
    rw [List.map_cons, enumFrom, compL_cons]
    simp only [gTup_ap, List.length_cons, List.length_nil, if_true, gCons_ap, gV_succ, gV_zero, R.bnd_ok, gNil_ap, noX_ok, tYes_ap, e2_ap, eV_succ, eV_zero, addD_int]
    rw [idx_sgn ⟨by omega, by omega⟩]
    simp only [R.bnd_ok, inD_one, noX_ok]
    rw [tail_comp t p x r (k + 1) (by omega) (by omega)]
    simp only [R.bnd_ok, lb, List.map_cons]
    rw [show p + ((k + 1 : Nat) : Int) = p + k + 1 by omega]
theorem lets_tail_eq {b : List (List Nat)} {tl : List Nat} (h : b.length ≤ tl.length) (hl : tl.length ≤ 100) : f_lets_tail [.tup (b.map .str), .str tl] = .ok (.bl (letsF tl b ((tl.length : Int) - b.length))) := by
  refine run_at (s := b_lets_tail) [some (.tup (b.map .str)), some (.str tl), none, none, none] ?_
  unfold b_lets_tail
  refine wp_seq ?_
  simp only [sAsg_ap, e1_ap, e2_ap, eV_succ, eV_zero, R.bnd_ok, lenD_str, lenD_tup, List.length_map, subD_int, lft_ok, gV_succ, gV_zero, gok_ok, wp_some, Nxt_nx, sRet_ap]
  rw [eComp_of (ds := enumFrom 0 (b.map .str)) (ys := (lb tl b ((tl.length : Int) - b.length)).map .bl) (by simp) (by
    have := tail_comp tl ((tl.length : Int) - b.length) (some (.tup (b.map .str))) b 0 (by omega) (by omega)
    simpa [wipe] using this) (by rw [List.length_map, lb_len]; unfold LINE; omega)]
  simp only [R.bnd_ok, allD_map, lft_ok, wp_some, endR_rt]
  rfl
theorem standing_eq {x : Ru} (ok : okR x) {tl rest : List Nat} (h : x.b.length ≤ tl.length) (hl : tl.length ≤ 100) (e : Bool) : f_standing [dR x, dSt tl rest, .bl e] = .ok (.int (known x tl rest e : Nat)) := by
  have hal := asked_len ok
  refine run_at (s := b_standing) [some (dR x), some (dSt tl rest), some (.bl e), none, none, none, none] ?_
  unfold b_standing
  refine wp_seqN (ρ' := [some (dR x), some (dSt tl rest), some (.bl e), some (.str tl), some (.str rest), none, none]) (by simp) ?_
  refine wp_seq ?_
  simp only [sIf_ap, tNot_ap, tE_ap, eCall_ap, eCons_ap, eNil_ap, e2_ap, eC_ap, eV_succ, eV_zero, R.bnd_ok, r_b, lets_tail_eq h hl, tru_bl, lft_ok]
  unfold known
  cases q : letsF tl x.b ((tl.length : Int) - x.b.length) with
  | false => simp [d_OUT]
  | true =>
    simp only [Bool.not_true, Bool.false_eq_true, if_false, sSkip_ap, wp_some, Nxt_nx, if_true]
    refine wp_seq ?_
    rw [sFor_ap]
    simp only [iEnum_ap, eCall_ap, eCons_ap, eNil_ap, eV_succ, eV_zero, R.bnd_ok, asked_eq ok, enumD_tup, lft_ok]
    generalize asked x = s at hal
    refine wp_forX (fun k ρ => scan rest s e = scan (rest.drop k) (s.drop k) e ∧ ∃ o o2 : Option Dat, ρ = [some (dR x), some (dSt tl rest), some (.bl e), some (.str tl), some (.str rest), o, o2]) ⟨rfl, none, none, rfl⟩ (fun k d ρ hk ⟨w, o, o2, e'⟩ => ?_) (fun ρ ⟨w, o, o2, e'⟩ => ?_)
    · obtain ⟨y, hy, rfl⟩ := enumR_get hk
      obtain ⟨k1, rfl⟩ := map_get hy
      rw [Nat.zero_add]
      subst e'
      refine ⟨[some (dR x), some (dSt tl rest), some (.bl e), some (.str tl), some (.str rest), some (.int (k : Nat)), some (.str s[k])], by simp, ?_⟩
      simp only [sIf_ap, tE_ap, e1_ap, e2_ap, eV_succ, eV_zero, R.bnd_ok, lenD_str, ltD_int, ltI, tru_bl, lft_ok]
      by_cases h2 : k < rest.length
      · rw [decide_eq_true h2]
        rw [scan_in k1 h2] at w
        simp only [if_true, idxD_str h2, R.bnd_ok, notIn_one, tru_bl, lft_ok]
        by_cases hm : rest[k] ∈ s[k]
        · rw [if_pos hm] at w
          rw [decide_eq_true hm]
          simp only [Bool.not_true, Bool.false_eq_true, if_false, sSkip_ap, wp_some, Lp_nx]
          exact ⟨w, _, _, rfl⟩
        · rw [if_neg hm] at w
          rw [decide_eq_false hm, w]
          simp [d_OUT]
      · rw [decide_eq_false h2]
        rw [scan_end k1 (by omega)] at w
        simp only [Bool.false_eq_true, if_false, tNot_ap, tE_ap, eV_succ, eV_zero, R.bnd_ok, tru_bl, lft_ok]
        cases e with
        | false =>
          rw [w]
          simp [d_NOT_YET]
        | true =>
          simp only [if_true] at w
          simp only [Bool.not_true, Bool.false_eq_true, if_false, eC_ap, e2_ap, eV_succ, eV_zero, R.bnd_ok, d_END, notIn_one, tru_bl, lft_ok]
          by_cases hm : 124 ∈ s[k]
          · rw [if_pos hm] at w
            rw [decide_eq_true hm]
            simp only [Bool.not_true, Bool.false_eq_true, if_false, sSkip_ap, wp_some, Lp_nx]
            exact ⟨w, _, _, rfl⟩
          · rw [if_neg hm] at w
            rw [decide_eq_false hm, w]
            simp [d_OUT]
    · subst e'
      rw [enumR_len, List.length_map, List.drop_of_length_le (Nat.le_refl s.length), scan_nil] at w
      rw [w]
      simp [d_IN]
theorem lknown_eq {x : Ru} (ok : okR x) {tl rest : List Nat} (h : x.b.length ≤ tl.length) (hl : tl.length ≤ 100) (e : Bool) : f__law_known [dR x, dSt tl rest, .bl e] = .ok (.int (known x tl rest e : Nat)) := by
  have hal := asked_len ok
  have hb := ok.b2
  refine run_at (s := b__law_known) [some (dR x), some (dSt tl rest), some (.bl e), none, none, none, none, none] ?_
  unfold b__law_known
  refine wp_seqN (ρ' := [some (dR x), some (dSt tl rest), some (.bl e), some (.str tl), some (.str rest), none, none, none]) (by simp) ?_
  refine wp_seq ?_
  rw [sFor_ap]
  simp only [iR1_ap, e1_ap, e2_ap, eC_ap, eV_succ, eV_zero, R.bnd_ok, r_b, lenD_tup, List.length_map]
  rw [rng1_nat (by omega)]
  simp only [lft_ok]
  refine wp_forX (fun k ρ => (∀ j (hj : j < x.b.length), j < k → decide (sgn tl (((tl.length : Int) - x.b.length) + j) ∈ x.b[j]) = true) ∧ ∃ o : Option Dat, ρ = [some (dR x), some (dSt tl rest), some (.bl e), some (.str tl), some (.str rest), o, none, none]) ⟨fun j _ hj => absurd hj (by omega), none, rfl⟩ (fun k d ρ hk ⟨w, o, e'⟩ => ?_) (fun ρ ⟨w, o, e'⟩ => ?_)
  · obtain ⟨k1, rfl⟩ := range_get hk
    subst e'
    refine ⟨_, by simp only [gV_succ, gV_zero, R.bnd_ok]; rfl, ?_⟩
    simp only [sIf_ap, tE_ap, e1_ap, e2_ap, eC_ap, eV_succ, eV_zero, R.bnd_ok, r_b, lenD_tup, lenD_str, List.length_map, subD_int, addD_int]
    rw [idx_sgn ⟨by omega, by omega⟩, show idxD (.tup (x.b.map .str)) (.int (k : Nat)) = .ok (.str x.b[k]) by rw [idxD_tup (by simpa using k1)]; simp]
    simp only [R.bnd_ok, notIn_one, tru_bl, lft_ok]
    cases q : decide (sgn tl (((tl.length : Int) - x.b.length) + k) ∈ x.b[k]) with
    | true =>
      simp only [Bool.not_true, Bool.false_eq_true, if_false, sSkip_ap, wp_some, Lp_nx]
      refine ⟨fun j hj hjk => ?_, _, rfl⟩
      by_cases hq : j = k
      · subst hq; exact q
      · exact w j hj (by omega)
    | false =>
      have : ¬ letsF tl x.b ((tl.length : Int) - x.b.length) = true := fun z => by
        have := (letsF_iff tl x.b ((tl.length : Int) - x.b.length)).mpr z k k1
        rw [q] at this
        cases this
      simp only [Bool.not_false, if_true, sRet_ap, eC_ap, lft_ok, wp_some, Lp_rt, Nxt_rt, endR_rt]
      unfold known
      rw [if_neg this]
      rfl
  · subst e'
    rw [List.length_map, List.length_range] at w
    have hlt := (letsF_iff tl x.b ((tl.length : Int) - x.b.length)).mp fun k hk => w k hk hk
    unfold known
    rw [if_pos hlt]
    simp only [Nxt_nx]
    refine wp_seqN (ρ' := [some (dR x), some (dSt tl rest), some (.bl e), some (.str tl), some (.str rest), o, some (dStrs (asked x)), none]) ?_ ?_
    · have l4 := ok.l4
      have a2 := ok.a2
      rw [sAsg_ap, e2_ap, eComp_of (ds := signs x.l) (ys := signs x.l) (by simp [r_l]) (by
        show compL _ _ _ _ (x.l.map sg) = .ok (x.l.map sg)
        exact compL_map sg sg fun c hc => ⟨[some (dR x), some (dSt tl rest), some (.bl e), some (.str tl), some (.str rest), o, none, some (sg c)], by simp [wipe], rfl, hc, by simp⟩) (by simp [signs]; unfold LINE; omega)]
      simp only [e1_ap, e2_ap, eC_ap, eV_zero, R.bnd_ok, r_a]
      rw [show listD (.tup (x.a.map .str)) = .ok (.lst (x.a.map .str)) from rfl]
      simp only [R.bnd_ok]
      rw [addD_lst (by simp [signs]; unfold LINE; omega)]
      simp only [lft_ok, gV_succ, gV_zero, R.bnd_ok, gok_ok]
      rw [signs_dat, ← List.map_append]
      rfl
    refine wp_seq ?_
    rw [sFor_ap]
    simp only [iR1_ap, e1_ap, eV_succ, eV_zero, R.bnd_ok, lenD_lst, List.length_map]
    rw [rng1_nat (by omega)]
    simp only [lft_ok]
    generalize asked x = s at hal
    refine wp_forX (fun k ρ => scan rest s e = scan (rest.drop k) (s.drop k) e ∧ ∃ o : Option Dat, ρ = [some (dR x), some (dSt tl rest), some (.bl e), some (.str tl), some (.str rest), o, some (dStrs s), none]) ⟨rfl, o, rfl⟩ (fun k d ρ hk ⟨w, o, e'⟩ => ?_) (fun ρ ⟨w, o, e'⟩ => ?_)
    · obtain ⟨k1, rfl⟩ := range_get hk
      subst e'
      have hi : idxD (dStrs s) (.int (k : Nat)) = .ok (.str s[k]) := by rw [idxD_lst (by simpa using k1)]; simp
      refine ⟨_, by simp only [gV_succ, gV_zero, R.bnd_ok]; rfl, ?_⟩
      simp only [sIf_ap, tE_ap, e1_ap, e2_ap, eV_succ, eV_zero, R.bnd_ok, lenD_str, ltD_int, ltI, tru_bl, lft_ok]
      by_cases h2 : k < rest.length
      · rw [decide_eq_true h2]
        rw [scan_in k1 h2] at w
        simp only [if_true, idxD_str h2, hi, R.bnd_ok, notIn_one, tru_bl, lft_ok]
        by_cases hm : rest[k] ∈ s[k]
        · rw [if_pos hm] at w
          rw [decide_eq_true hm]
          simp only [Bool.not_true, Bool.false_eq_true, if_false, sSkip_ap, wp_some, Lp_nx]
          exact ⟨w, _, rfl⟩
        · rw [if_neg hm] at w
          rw [decide_eq_false hm, w]
          simp
      · rw [decide_eq_false h2]
        rw [scan_end k1 (by omega)] at w
        simp only [Bool.false_eq_true, if_false, tNot_ap, tE_ap, eV_succ, eV_zero, R.bnd_ok, tru_bl, lft_ok]
        cases e with
        | false =>
          rw [w]
          simp
        | true =>
          simp only [if_true] at w
          simp only [Bool.not_true, Bool.false_eq_true, if_false, eC_ap, e2_ap, eV_succ, eV_zero, R.bnd_ok, hi, notIn_one, tru_bl, lft_ok]
          by_cases hm : 124 ∈ s[k]
          · rw [if_pos hm] at w
            rw [decide_eq_true hm]
            simp only [Bool.not_true, Bool.false_eq_true, if_false, sSkip_ap, wp_some, Lp_nx]
            exact ⟨w, _, rfl⟩
          · rw [if_neg hm] at w
            rw [decide_eq_false hm, w]
            simp
    · subst e'
      rw [List.length_map, List.length_range, List.drop_of_length_le (Nat.le_refl s.length), scan_nil] at w
      rw [w]
      simp
end PL.K43

set_option maxRecDepth 100000
namespace PL.K43
set_option autoImplicit false
/-! ### what is settled -/
def stlL (tl rest : List Nat) (e : Bool) : List Ru → Nat → Option (Option Nat)
  | [], _ => some none
  | x :: r, k => if known x tl rest e = 2 then some (some k) else if known x tl rest e = 1 then none else stlL tl rest e r (k + 1)
def stl (rs : List Ru) (tl rest : List Nat) (e : Bool) : Option (Option Nat) := stlL tl rest e rs 0
def dS : Option (Option Nat) → Dat
  | none => .non
  | some c => .int (choI c)
theorem stl_drop {rs : List Ru} {tl rest : List Nat} {e : Bool} {k : Nat} (h : k < rs.length) : stlL tl rest e (rs.drop k) k = if known rs[k] tl rest e = 2 then some (some k) else if known rs[k] tl rest e = 1 then none else stlL tl rest e (rs.drop (k + 1)) (k + 1) := by
  rw [List.drop_eq_getElem_cons h]
  rfl
theorem stl_lt {tl rest : List Nat} {e : Bool} : ∀ (r : List Ru) (k0 k : Nat), stlL tl rest e r k0 = some (some k) → k < k0 + r.length
  | [], k0, k, h => by cases h
  | x :: r, k0, k, h => by
    unfold stlL at h
    split at h
    · cases h
      simp
    · split at h
      · cases h
      · have := stl_lt r (k0 + 1) k h
        simp only [List.length_cons]
        omega
theorem eqK (n m : Nat) : eqD (.int (n : Nat)) (.int (m : Nat)) = .ok (.bl (n == m)) := by rw [eqD_int, beqI]
theorem settled_eq {rs : List Ru} (ok : okRs rs) {tl rest : List Nat} (h : tl.length = tS rs) (e : Bool) : f_settled_choice [dRs rs, dSt tl rest, .bl e] = .ok (dS (stl rs tl rest e)) := by
  have hT := tS_le ok
  refine run_at (s := b_settled_choice) [some (dRs rs), some (dSt tl rest), some (.bl e), none, none, none] ?_
  unfold b_settled_choice
  refine wp_seq ?_
  rw [sFor_ap]
  simp only [iEnum_ap, eV_zero, R.bnd_ok, enumD_lst, lft_ok]
  refine wp_forX (fun k ρ => stl rs tl rest e = stlL tl rest e (rs.drop k) k ∧ ∃ o o2 o3 : Option Dat, ρ = [some (dRs rs), some (dSt tl rest), some (.bl e), o, o2, o3]) ⟨rfl, none, none, none, rfl⟩ (fun k d ρ hk ⟨w, o, o2, o3, e'⟩ => ?_) (fun ρ ⟨w, o, o2, o3, e'⟩ => ?_)
  · obtain ⟨y, hy, rfl⟩ := enumR_get hk
    obtain ⟨k1, rfl⟩ := map_get hy
    rw [Nat.zero_add]
    subst e'
    rw [stl_drop k1] at w
    refine ⟨[some (dRs rs), some (dSt tl rest), some (.bl e), some (.int (k : Nat)), some (dR rs[k]), o3], by simp, ?_⟩
    refine wp_seq ?_
    have hx := List.getElem_mem k1
    have hb := b_tS hx
    simp only [sAsg_ap, eCall_ap, eCons_ap, eNil_ap, eV_succ, eV_zero, R.bnd_ok, standing_eq (ok.all _ hx) (show rs[k].b.length ≤ tl.length by omega) (show tl.length ≤ 100 by omega) e, lft_ok, gV_succ, gV_zero, gok_ok, wp_some, Nxt_nx]
    generalize known rs[k] tl rest e = n at w
    refine wp_seq ?_
    simp only [sIf_ap, tE_ap, e2_ap, eC_ap, eV_succ, eV_zero, R.bnd_ok, d_IN]
    rw [show eqD (.int (n : Nat)) (.int 2) = .ok (.bl (n == 2)) from eqK n 2]
    simp only [R.bnd_ok, tru_bl, lft_ok]
    by_cases h2 : n = 2
    · rw [if_pos h2] at w
      rw [w]
      simp [h2, dS, choI]
    · rw [if_neg h2] at w
      rw [show (n == 2) = false by simpa using h2]
      simp only [Bool.false_eq_true, if_false, sSkip_ap, wp_some, Nxt_nx]
      simp only [sIf_ap, tE_ap, e2_ap, eC_ap, eV_succ, eV_zero, R.bnd_ok, d_NOT_YET]
      rw [show eqD (.int (n : Nat)) (.int 1) = .ok (.bl (n == 1)) from eqK n 1]
      simp only [R.bnd_ok, tru_bl, lft_ok]
      by_cases h1 : n = 1
      · rw [if_pos h1] at w
        rw [w]
        simp [h1, dS]
      · rw [if_neg h1] at w
        rw [show (n == 1) = false by simpa using h1]
        simp only [Bool.false_eq_true, if_false, sSkip_ap, wp_some, Lp_nx]
        exact ⟨w, _, _, _, rfl⟩
  · subst e'
    rw [enumR_len, List.length_map, List.drop_of_length_le (Nat.le_refl _)] at w
    rw [w]
    simp [stlL, dS, choI]
theorem lsettled_eq {rs : List Ru} (ok : okRs rs) {tl rest : List Nat} (h : tl.length = tS rs) (e : Bool) : f__law_settled [dRs rs, dSt tl rest, .bl e] = .ok (dS (stl rs tl rest e)) := by
  have hT := tS_le ok
  have hn := ok.n12
  refine run_at (s := b__law_settled) [some (dRs rs), some (dSt tl rest), some (.bl e), none, none] ?_
  unfold b__law_settled
  refine wp_seq ?_
  rw [sFor_ap]
  simp only [iR1_ap, e1_ap, eV_zero, R.bnd_ok, lenD_lst, List.length_map]
  rw [rng1_nat (by omega)]
  simp only [lft_ok]
  refine wp_forX (fun k ρ => stl rs tl rest e = stlL tl rest e (rs.drop k) k ∧ ∃ o o2 : Option Dat, ρ = [some (dRs rs), some (dSt tl rest), some (.bl e), o, o2]) ⟨rfl, none, none, rfl⟩ (fun k d ρ hk ⟨w, o, o2, e'⟩ => ?_) (fun ρ ⟨w, o, o2, e'⟩ => ?_)
  · obtain ⟨k1, rfl⟩ := range_get hk
    subst e'
    rw [stl_drop k1] at w
    refine ⟨[some (dRs rs), some (dSt tl rest), some (.bl e), some (.int (k : Nat)), o2], by simp, ?_⟩
    refine wp_seq ?_
    have hx := List.getElem_mem k1
    have hb := b_tS hx
    simp only [sAsg_ap, eCall_ap, eCons_ap, eNil_ap, e2_ap, eV_succ, eV_zero, R.bnd_ok, rs_tab k1, lknown_eq (ok.all _ hx) (show rs[k].b.length ≤ tl.length by omega) (show tl.length ≤ 100 by omega) e, lft_ok, gV_succ, gV_zero, gok_ok, wp_some, Nxt_nx]
    generalize known rs[k] tl rest e = n at w
    refine wp_seq ?_
    simp only [sIf_ap, tE_ap, e2_ap, eC_ap, eV_succ, eV_zero, R.bnd_ok]
    rw [show eqD (.int (n : Nat)) (.int 2) = .ok (.bl (n == 2)) from eqK n 2]
    simp only [R.bnd_ok, tru_bl, lft_ok]
    by_cases h2 : n = 2
    · rw [if_pos h2] at w
      rw [w]
      simp [h2, dS, choI]
    · rw [if_neg h2] at w
      rw [show (n == 2) = false by simpa using h2]
      simp only [Bool.false_eq_true, if_false, sSkip_ap, wp_some, Nxt_nx]
      simp only [sIf_ap, tE_ap, e2_ap, eC_ap, eV_succ, eV_zero, R.bnd_ok]
      rw [show eqD (.int (n : Nat)) (.int 1) = .ok (.bl (n == 1)) from eqK n 1]
      simp only [R.bnd_ok, tru_bl, lft_ok]
      by_cases h1 : n = 1
      · rw [if_pos h1] at w
        rw [w]
        simp [h1, dS]
      · rw [if_neg h1] at w
        rw [show (n == 1) = false by simpa using h1]
        simp only [Bool.false_eq_true, if_false, sSkip_ap, wp_some, Lp_nx]
        exact ⟨w, _, _, rfl⟩
  · subst e'
    rw [List.length_map, List.length_range, List.drop_of_length_le (Nat.le_refl _)] at w
    rw [w]
    simp [stlL, dS, choI]
/-! ### what is taken -/
def sz (rs : List Ru) : Option Nat → Nat
  | none => 1
  | some k => max 1 (match rs[k]? with | some x => x.l.length | none => 1)
theorem sz_pos (rs : List Ru) (c : Option Nat) : 1 ≤ sz rs c := by
  cases c <;> simp only [sz] <;> omega
theorem sz_at {rs : List Ru} (ok : okRs rs) {k : Nat} (h : k < rs.length) : sz rs (some k) = rs[k].l.length := by
  have := (ok.all _ (List.getElem_mem h)).l1
  show max 1 (match rs[k]? with | some x => x.l.length | none => 1) = _
  rw [List.getElem?_eq_getElem h]
  simp only
  omega
def ot (rs : List Ru) (rest : List Nat) : Option Nat → List Nat
  | none => rest.take 1
  | some k => match rs[k]? with | some y => y.r | none => []
theorem ot_at {rs : List Ru} {rest : List Nat} {k : Nat} (h : k < rs.length) : ot rs rest (some k) = rs[k].r := by
  show (match rs[k]? with | some y => y.r | none => []) = _
  rw [List.getElem?_eq_getElem h]
theorem ot_len {rs : List Ru} (ok : okRs rs) (rest : List Nat) (c : Option Nat) : (ot rs rest c).length ≤ 6 := by
  cases c with
  | none => simp only [ot, List.length_take]; omega
  | some k =>
    by_cases h : k < rs.length
    · rw [ot_at h]
      exact (ok.all _ (List.getElem_mem h)).r6
    · show (match rs[k]? with | some y => y.r | none => []).length ≤ 6
      rw [List.getElem?_eq_none (by omega)]
      simp
def psd (tl rest : List Nat) (s : Nat) : List Nat := (tl ++ rest.take s).drop ((tl ++ rest.take s).length - tl.length)
theorem psd_len (tl rest : List Nat) (s : Nat) : (psd tl rest s).length = tl.length := by
  unfold psd
  rw [List.length_drop, List.length_append]
  omega
abbrev Tk := List Nat × List Nat × List Nat × List Int
def tk (rs : List Ru) (e : Bool) : Nat → List Nat → List Nat → Tk
  | 0, tl, rest => (tl, rest, [], [])
  | n + 1, tl, rest => if rest = [] then (tl, rest, [], []) else match stl rs tl rest e with
    | none => (tl, rest, [], [])
    | some c => ((tk rs e n (psd tl rest (sz rs c)) (rest.drop (sz rs c))).1, (tk rs e n (psd tl rest (sz rs c)) (rest.drop (sz rs c))).2.1, ot rs rest c ++ (tk rs e n (psd tl rest (sz rs c)) (rest.drop (sz rs c))).2.2.1, choI c :: (tk rs e n (psd tl rest (sz rs c)) (rest.drop (sz rs c))).2.2.2)
theorem tk_nil (rs : List Ru) (e : Bool) (n : Nat) (tl : List Nat) : tk rs e n tl [] = (tl, [], [], []) := by
  cases n with
  | zero => rfl
  | succ n => unfold tk; rw [if_pos rfl]
theorem tk_fuel (rs : List Ru) (e : Bool) : ∀ (n m : Nat) (tl rest : List Nat), rest.length ≤ n → rest.length ≤ m → tk rs e n tl rest = tk rs e m tl rest
  | 0, m, tl, rest, h1, h2 => by
    have : rest = [] := List.eq_nil_of_length_eq_zero (by omega)
    subst this
    rw [tk_nil, tk_nil]
  | n + 1, 0, tl, rest, h1, h2 => by
    have : rest = [] := List.eq_nil_of_length_eq_zero (by omega)
    subst this
    rw [tk_nil, tk_nil]
  | n + 1, m + 1, tl, rest, h1, h2 => by
    unfold tk
    by_cases h : rest = []
    · rw [if_pos h, if_pos h]
    · rw [if_neg h, if_neg h]
      cases q : stl rs tl rest e with
      | none => rfl
      | some c =>
        have := sz_pos rs c
        simp only
        rw [tk_fuel rs e n m _ _ (by rw [List.length_drop]; omega) (by rw [List.length_drop]; omega)]
def tkF (rs : List Ru) (e : Bool) (tl rest : List Nat) : Tk := tk rs e rest.length tl rest
def ak (out : List Nat) (nums : List Int) (q : Tk) : Tk := (q.1, q.2.1, out ++ q.2.2.1, nums ++ q.2.2.2)
theorem tkF_none {rs : List Ru} {e : Bool} {tl rest : List Nat} (h : stl rs tl rest e = none) : tkF rs e tl rest = (tl, rest, [], []) := by
  unfold tkF
  cases hr : rest.length with
  | zero => rfl
  | succ n =>
    unfold tk
    rw [h]
    split <;> rfl
theorem tkF_some {rs : List Ru} {e : Bool} {tl rest : List Nat} {c : Option Nat} (hr : rest ≠ []) (h : stl rs tl rest e = some c) : tkF rs e tl rest = ak (ot rs rest c) [choI c] (tkF rs e (psd tl rest (sz rs c)) (rest.drop (sz rs c))) := by
  have hp := sz_pos rs c
  have hl : 0 < rest.length := List.length_pos_iff.mpr hr
  unfold tkF
  rw [show rest.length = (rest.length - 1) + 1 by omega]
  conv => lhs; unfold tk
  rw [if_neg hr, h]
  simp only
  rw [tk_fuel rs e (rest.length - 1) (rest.drop (sz rs c)).length _ _ (by rw [List.length_drop]; omega) (Nat.le_refl _)]
  rfl
theorem ak_ak (o1 o2 : List Nat) (n1 n2 : List Int) (q : Tk) : ak o1 n1 (ak o2 n2 q) = ak (o1 ++ o2) (n1 ++ n2) q := by
  unfold ak
  simp
def dTk (q : Tk) : Dat := .tup [dSt q.1 q.2.1, .str q.2.2.1, .lst (q.2.2.2.map .int)]
theorem s_0 (tl rest : List Nat) : idxD (dSt tl rest) (.int 0) = .ok (.str tl) := idxD_tup (k := 0) (by simp)
theorem s_1 (tl rest : List Nat) : idxD (dSt tl rest) (.int 1) = .ok (.str rest) := idxD_tup (k := 1) (by simp)
theorem passed_eq (tl rest : List Nat) (s : Nat) (h : tl.length ≤ 1000) (h2 : rest.length ≤ 1000) : f_passed [dSt tl rest, .int (s : Nat)] = .ok (dSt (psd tl rest s) (rest.drop s)) := by
  refine run_at (s := b_passed) [some (dSt tl rest), some (.int (s : Nat)), none, none, none] ?_
  unfold b_passed
  refine wp_seqN (ρ' := [some (dSt tl rest), some (.int (s : Nat)), some (.str tl), some (.str rest), none]) (by simp) ?_
  refine wp_seqN (ρ' := [some (dSt tl rest), some (.int (s : Nat)), some (.str tl), some (.str rest), some (.str (tl ++ rest.take s))]) ?_ ?_
  · simp only [sAsg_ap, e2_ap, eSli_ap, pN_ap, pS_ap, eV_succ, eV_zero, R.bnd_ok, optInt_int, sliD_str, cut_to]
    rw [addD_str (by rw [List.length_take]; unfold LINE; omega)]
    simp only [lft_ok, gV_succ, gV_zero, R.bnd_ok, gok_ok]
  · have hl : tl.length ≤ (tl ++ rest.take s).length := by rw [List.length_append]; omega
    unfold psd
    generalize tl ++ rest.take s = g at hl
    simp only [sRet_ap, eTup_ap, eCons_ap, eNil_ap, e1_ap, e2_ap, eSli_ap, pN_ap, pS_ap, eV_succ, eV_zero, R.bnd_ok, lenD_str, subD_int]
    rw [show ((g.length : Int) - (tl.length : Int)) = ((g.length - tl.length : Nat) : Int) by omega]
    simp only [optInt_int, R.bnd_ok, sliD_str, cut_from]
    rw [if_pos (by simp [LINE])]
    simp
theorem stl_k {rs : List Ru} {tl rest : List Nat} {e : Bool} {k : Nat} (h : stl rs tl rest e = some (some k)) : k < rs.length := by
  have := stl_lt rs 0 k h
  omega
theorem taken_eq {rs : List Ru} (ok : okRs rs) {tl rest : List Nat} (h : tl.length = tS rs) (hr : rest.length ≤ 1000) (e : Bool) : f_taken [dRs rs, dSt tl rest, .bl e] = .ok (dTk (tkF rs e tl rest)) := by
  have hT := tS_le ok
  refine run_at (s := b_taken) [some (dRs rs), some (dSt tl rest), some (.bl e), none, none, none] ?_
  unfold b_taken
  refine wp_seqN (ρ' := [some (dRs rs), some (dSt tl rest), some (.bl e), some (.str []), none, none]) (by simp) ?_
  refine wp_seqN (ρ' := [some (dRs rs), some (dSt tl rest), some (.bl e), some (.str []), some (.lst []), none]) (by rw [sNew_lst (xs := []) (by simp [LINE]) (by simp)]; rfl) ?_
  refine wp_seq ?_
  have fin : ∀ (tl2 rest2 out : List Nat) (nums : List Int) (o : Option Dat), tkF rs e tl rest = ak out nums (tl2, rest2, [], []) → wp (sRet (eTup (eCons (eV 1) (eCons (eV 3) (eCons (eV 4) eNil)))) [some (dRs rs), some (dSt tl2 rest2), some (.bl e), some (.str out), some (.lst (nums.map .int)), o]) fun f _ => endR f = .ok (dTk (tkF rs e tl rest)) := fun tl2 rest2 out nums o hq => by
    rw [hq]
    simp only [sRet_ap, eTup_ap, eCons_ap, eNil_ap, eV_succ, eV_zero, R.bnd_ok]
    rw [if_pos (by simp [LINE])]
    simp [dTk, ak]
  refine wp_whl (fun n ρ => ∃ (tl2 rest2 out : List Nat) (nums : List Int) (o : Option Dat), n = rest2.length ∧ tl2.length = tS rs ∧ tkF rs e tl rest = ak out nums (tkF rs e tl2 rest2) ∧ rest2.length + nums.length ≤ rest.length ∧ out.length ≤ 6 * nums.length ∧ ρ = [some (dRs rs), some (dSt tl2 rest2), some (.bl e), some (.str out), some (.lst (nums.map .int)), o]) (fun n ρ ⟨tl2, rest2, out, nums, o, hn, h1, h2, h3, h4, e'⟩ => ?_) (n := rest.length) ⟨tl, rest, [], [], none, rfl, h, by simp [ak], by simp, by simp, rfl⟩
  subst e'
  refine ⟨!(rest2 == []), by simp [s_1], fun hc => ?_, fun hc => ?_⟩
  · have hne : rest2 ≠ [] := by simpa using hc
    have hpos : 0 < rest2.length := List.length_pos_iff.mpr hne
    refine wp_seq ?_
    simp only [sAsg_ap, eCall_ap, eCons_ap, eNil_ap, eV_succ, eV_zero, R.bnd_ok, settled_eq ok h1 e, lft_ok, gV_succ, gV_zero, gok_ok, wp_some, Nxt_nx]
    cases q : stl rs tl2 rest2 e with
    | none =>
      refine wp_seq ?_
      simp only [dS, sIf_ap, tE_ap, e1_ap, eV_succ, eV_zero, R.bnd_ok, isN_non, tru_bl, lft_ok, if_true, sBrk_ap, wp_some, Nxt_bk, Lp_bk, Nxt_nx]
      rw [tkF_none q] at h2
      exact fin _ _ _ _ _ h2
    | some c =>
      rw [tkF_some hne q, ak_ak] at h2
      have hp := sz_pos rs c
      have ho := ot_len ok rest2 c
      refine wp_seq ?_
      simp only [dS, sIf_ap, tE_ap, e1_ap, eV_succ, eV_zero, R.bnd_ok, isN_int, tru_bl, lft_ok, Bool.false_eq_true, if_false, sSkip_ap, wp_some, Nxt_nx]
      refine wp_seq ?_
      rw [sApp_ap (xs := nums.map .int) (d := .int (choI c)) (by simp) (by simp) (by rw [List.length_map]; unfold LINE; omega)]
      simp only [wp_some, Nxt_nx, List.set_cons_succ, List.set_cons_zero]
      have goal : ∀ o : Option Dat, ∃ m, m < n ∧ ∃ (tl2' rest2' out' : List Nat) (nums' : List Int) (o' : Option Dat), m = rest2'.length ∧ tl2'.length = tS rs ∧ tkF rs e tl rest = ak out' nums' (tkF rs e tl2' rest2') ∧ rest2'.length + nums'.length ≤ rest.length ∧ out'.length ≤ 6 * nums'.length ∧ [some (dRs rs), some (dSt (psd tl2 rest2 (sz rs c)) (rest2.drop (sz rs c))), some (.bl e), some (.str (out ++ ot rs rest2 c)), some (.lst (nums.map .int ++ [.int (choI c)])), o] = [some (dRs rs), some (dSt tl2' rest2'), some (.bl e), some (.str out'), some (.lst (nums'.map .int)), o'] := fun o =>
        ⟨(rest2.drop (sz rs c)).length, by rw [List.length_drop]; omega, _, _, out ++ ot rs rest2 c, nums ++ [choI c], o, rfl, by rw [psd_len]; exact h1, h2, by rw [List.length_drop, List.length_append]; simp; omega, by rw [List.length_append, List.length_append]; simp; omega, by simp⟩
      cases c with
      | none =>
        simp only [sIf_ap, tE_ap, e2_ap, eC_ap, eV_succ, eV_zero, R.bnd_ok, choI, ltD_int, tru_bl, lft_ok]
        rw [if_pos (by decide)]
        refine wp_seq ?_
        simp only [sAug_ap, e2_ap, eC_ap, eV_succ, eV_zero, R.bnd_ok, s_1]
        have h0 : idxD (.str rest2) (.int 0) = .ok (.str (rest2.take 1)) := by
          have := idxD_str (xs := rest2) (k := 0) hpos
          rw [show ((0 : Nat) : Int) = 0 from rfl] at this
          rw [this]
          cases rest2 with
          | nil => exact absurd rfl hne
          | cons a r => rfl
        rw [h0]
        simp only [R.bnd_ok]
        rw [show addF (.str out) (.str (rest2.take 1)) = .ok (.str (out ++ rest2.take 1)) from if_pos (by rw [List.length_take]; unfold LINE; omega)]
        simp only [lft_ok, gV_succ, gV_zero, R.bnd_ok, gok_ok, wp_some, Nxt_nx, sAsg_ap, eCall_ap, eCons_ap, eNil_ap, eC_ap, eV_succ, eV_zero]
        rw [show f_passed [dSt tl2 rest2, .int 1] = .ok (dSt (psd tl2 rest2 1) (rest2.drop 1)) from passed_eq tl2 rest2 1 (by omega) (by omega)]
        simp only [lft_ok, gV_succ, gV_zero, R.bnd_ok, gok_ok, wp_some, Lp_nx]
        exact goal _
      | some k =>
        have hk := stl_k q
        simp only [sIf_ap, tE_ap, e2_ap, eC_ap, eV_succ, eV_zero, R.bnd_ok, choI, ltD_int, tru_bl, lft_ok]
        rw [if_neg (by rw [decide_eq_true_iff]; omega)]
        refine wp_seq ?_
        rw [ot_at hk] at ho goal
        rw [sz_at ok hk] at goal
        simp only [sAug_ap, e2_ap, eC_ap, eV_succ, eV_zero, R.bnd_ok, rs_tab hk, r_r]
        rw [show addF (.str out) (.str rs[k].r) = .ok (.str (out ++ rs[k].r)) from if_pos (by unfold LINE; omega)]
        simp only [lft_ok, gV_succ, gV_zero, R.bnd_ok, gok_ok, wp_some, Nxt_nx, sAsg_ap, eCall_ap, eCons_ap, eNil_ap, e1_ap, e2_ap, eC_ap, eV_succ, eV_zero, rs_tab hk, r_l, lenD_str, passed_eq tl2 rest2 rs[k].l.length (show tl2.length ≤ 1000 by omega) (show rest2.length ≤ 1000 by omega), Lp_nx]
        exact goal _
  · have hne : rest2 = [] := by simpa using hc
    subst hne
    simp only [Nxt_nx]
    exact fin _ _ _ _ _ h2
end PL.K43

set_option maxRecDepth 100000
namespace PL.K43
set_option autoImplicit false
theorem cut0 {α : Type} {xs : List α} {k : Nat} : cut xs (some 0) (some (k : Int)) = xs.take k := by
  have := cut_nat (xs := xs) (j := 0) (k := k)
  rw [show ((0 : Nat) : Int) = 0 from rfl] at this
  rw [this]
  simp
theorem sSeq_assoc (a b c : SM) : sSeq (sSeq a b) c = sSeq a (sSeq b c) := by
  funext ρ
  unfold sSeq
  cases a ρ with
  | none => rfl
  | some p =>
    obtain ⟨f, ρ'⟩ := p
    cases f <;> rfl
theorem ltaken_eq {rs : List Ru} (ok : okRs rs) {tl rest : List Nat} (h : tl.length = tS rs) (hr : rest.length ≤ 1000) (e : Bool) : f__law_taken [dRs rs, dSt tl rest, .bl e] = .ok (dTk (tkF rs e tl rest)) := by
  have hT := tS_le ok
  refine run_at (s := b__law_taken) [some (dRs rs), some (dSt tl rest), some (.bl e), none, none, none, none, none, none, none, none] ?_
  unfold b__law_taken
  refine wp_seqN (ρ' := [some (dRs rs), some (dSt tl rest), some (.bl e), some (.str tl), some (.str rest), none, none, none, none, none, none]) (by simp) ?_
  refine wp_seqN (ρ' := [some (dRs rs), some (dSt tl rest), some (.bl e), some (.str tl), some (.str rest), some (.str []), none, none, none, none, none]) (by simp) ?_
  refine wp_seqN (ρ' := [some (dRs rs), some (dSt tl rest), some (.bl e), some (.str tl), some (.str rest), some (.str []), some (.lst []), none, none, none, none]) (by rw [sNew_lst (xs := []) (by simp [LINE]) (by simp)]; rfl) ?_
  refine wp_seq ?_
  rw [sFor_ap]
  simp only [iR1_ap, e1_ap, eV_succ, eV_zero, R.bnd_ok, lenD_str]
  rw [rng1_nat (by omega)]
  simp only [lft_ok]
  have fin : ∀ (tl2 rest2 out : List Nat) (nums : List Int) (o7 o8 o9 o10 : Option Dat), tkF rs e tl rest = ak out nums (tl2, rest2, [], []) → wp (sRet (eTup (eCons (eTup (eCons (eV 3) (eCons (eV 4) eNil))) (eCons (eV 5) (eCons (eV 6) eNil)))) [some (dRs rs), some (dSt tl rest), some (.bl e), some (.str tl2), some (.str rest2), some (.str out), some (.lst (nums.map .int)), o7, o8, o9, o10]) fun f _ => endR f = .ok (dTk (tkF rs e tl rest)) := fun tl2 rest2 out nums o7 o8 o9 o10 hq => by
    rw [hq]
    simp only [sRet_ap, eTup_ap, eCons_ap, eNil_ap, eV_succ, eV_zero, R.bnd_ok]
    rw [if_pos (by simp [LINE])]
    simp only [R.bnd_ok]
    rw [if_pos (by simp [LINE])]
    simp [dTk, ak]
  refine wp_forX (fun m ρ => ∃ (tl2 rest2 out : List Nat) (nums : List Int) (o7 o8 o9 o10 : Option Dat), m + rest2.length ≤ rest.length ∧ tl2.length = tS rs ∧ tkF rs e tl rest = ak out nums (tkF rs e tl2 rest2) ∧ nums.length ≤ m ∧ out.length ≤ 6 * nums.length ∧ ρ = [some (dRs rs), some (dSt tl rest), some (.bl e), some (.str tl2), some (.str rest2), some (.str out), some (.lst (nums.map .int)), o7, o8, o9, o10]) ⟨tl, rest, [], [], none, none, none, none, by omega, h, by simp [ak], by simp, by simp, rfl⟩ (fun m d ρ hm ⟨tl2, rest2, out, nums, o7, o8, o9, o10, hn, h1, h2, h3, h4, e'⟩ => ?_) (fun ρ ⟨tl2, rest2, out, nums, o7, o8, o9, o10, hn, h1, h2, h3, h4, e'⟩ => ?_)
  · obtain ⟨m1, rfl⟩ := range_get hm
    subst e'
    refine ⟨_, by simp only [gV_succ, gV_zero, R.bnd_ok]; rfl, ?_⟩
    simp only [sIf_ap, tE_ap, e2_ap, eC_ap, eV_succ, eV_zero, R.bnd_ok, neD_str, tru_bl, lft_ok]
    by_cases hne : rest2 = []
    · rw [show (rest2 == []) = true by simpa using hne]
      simp only [Bool.not_true, Bool.false_eq_true, if_false, sSkip_ap, wp_some, Lp_nx]
      exact ⟨tl2, rest2, out, nums, _, _, _, _, by rw [hne]; simp; omega, h1, h2, by omega, h4, rfl⟩
    · rw [show (rest2 == []) = false by simpa using hne]
      have hpos : 0 < rest2.length := List.length_pos_iff.mpr hne
      simp only [Bool.not_false, if_true]
      refine wp_seq ?_
      simp only [sAsg_ap, eCall_ap, eTup_ap, eCons_ap, eNil_ap, eV_succ, eV_zero, R.bnd_ok]
      rw [if_pos (by simp [LINE])]
      simp only [R.bnd_ok, lsettled_eq ok h1 e, lft_ok, gV_succ, gV_zero, gok_ok, wp_some, Nxt_nx]
      cases q : stl rs tl2 rest2 e with
      | none =>
        refine wp_seq ?_
        simp only [dS, sIf_ap, tE_ap, e1_ap, eV_succ, eV_zero, R.bnd_ok, isN_non, tru_bl, lft_ok, if_true]
        rw [tkF_none q] at h2
        refine wp_imp (fin _ _ _ _ _ _ _ _ h2) fun f ρ' hf => ?_
        cases f with
        | rt d => exact hf
        | nx => cases hf
        | bk => cases hf
        | ct => cases hf
        | ex c => cases hf
      | some c =>
        rw [tkF_some hne q, ak_ak] at h2
        have hp := sz_pos rs c
        have ho := ot_len ok rest2 c
        refine wp_seq ?_
        simp only [dS, sIf_ap, tE_ap, e1_ap, eV_succ, eV_zero, R.bnd_ok, isN_int, tru_bl, lft_ok, Bool.false_eq_true, if_false, sSkip_ap, wp_some, Nxt_nx]
        refine wp_seq ?_
        rw [sApp_ap (xs := nums.map .int) (d := .int (choI c)) (by simp) (by simp) (by rw [List.length_map]; unfold LINE; omega)]
        simp only [wp_some, Nxt_nx, List.set_cons_succ, List.set_cons_zero]
        refine wp_seq ?_
        simp only [sAsg_ap, eC_ap, lft_ok, gV_succ, gV_zero, R.bnd_ok, gok_ok, wp_some, Nxt_nx]
        refine wp_seqE (fun ρ' => ρ' = [some (dRs rs), some (dSt tl rest), some (.bl e), some (.str tl2), some (.str rest2), some (.str (out ++ ot rs rest2 c)), some (.lst (nums.map .int ++ [.int (choI c)])), some (.int (m : Nat)), some (.int (choI c)), some (.int (sz rs c : Nat)), o10]) ?_ fun ρ e' => ?_
        · cases c with
          | none =>
            simp only [sIf_ap, tE_ap, e2_ap, eC_ap, eV_succ, eV_zero, R.bnd_ok, choI, ltD_int, tru_bl, lft_ok]
            rw [if_pos (by decide)]
            have h0 : idxD (.str rest2) (.int 0) = .ok (.str (rest2.take 1)) := by
              have := idxD_str (xs := rest2) (k := 0) hpos
              rw [show ((0 : Nat) : Int) = 0 from rfl] at this
              rw [this]
              cases rest2 with
              | nil => exact absurd rfl hne
              | cons a r => rfl
            simp only [sAsg_ap, e2_ap, eC_ap, eV_succ, eV_zero, R.bnd_ok, h0]
            rw [addD_str (by rw [List.length_take]; unfold LINE; omega)]
            simp only [lft_ok, gV_succ, gV_zero, R.bnd_ok, gok_ok, wp_some]
            exact ⟨trivial, rfl⟩
          | some k =>
            have hk := stl_k q
            simp only [sIf_ap, tE_ap, e2_ap, eC_ap, eV_succ, eV_zero, R.bnd_ok, choI, ltD_int, tru_bl, lft_ok]
            rw [if_neg (by rw [decide_eq_true_iff]; omega)]
            rw [ot_at hk] at ho ⊢
            rw [sz_at ok hk]
            refine wp_seq ?_
            simp only [sAsg_ap, e2_ap, eC_ap, eV_succ, eV_zero, R.bnd_ok, rs_tab hk, r_r]
            rw [addD_str (by unfold LINE; omega)]
            simp only [lft_ok, gV_succ, gV_zero, R.bnd_ok, gok_ok, wp_some, Nxt_nx, sAsg_ap, e1_ap, e2_ap, eC_ap, eV_succ, eV_zero, rs_tab hk, r_l, lenD_str]
            exact ⟨trivial, trivial⟩
        · subst e'
          refine wp_seq ?_
          simp only [sAsg_ap, e2_ap, eSli_ap, pS_ap, eC_ap, eV_succ, eV_zero, R.bnd_ok, optInt_int, sliD_str, cut0]
          rw [addD_str (by rw [List.length_take]; unfold LINE; omega)]
          simp only [lft_ok, gV_succ, gV_zero, R.bnd_ok, gok_ok, wp_some, Nxt_nx]
          refine wp_seq ?_
          have hgl : tl2.length ≤ (tl2 ++ rest2.take (sz rs c)).length := by rw [List.length_append]; omega
          simp only [sAsg_ap, e1_ap, e2_ap, eSli_ap, pS_ap, pN_ap, eV_succ, eV_zero, R.bnd_ok, lenD_str, subD_int]
          rw [show (((tl2 ++ rest2.take (sz rs c)).length : Int) - (tl2.length : Int)) = (((tl2 ++ rest2.take (sz rs c)).length - tl2.length : Nat) : Int) by omega]
          simp only [optInt_int, R.bnd_ok, sliD_str, cut_from, lft_ok, gV_succ, gV_zero, gok_ok, wp_some, Nxt_nx]
          simp only [sAsg_ap, eSli_ap, pS_ap, pN_ap, eV_succ, eV_zero, R.bnd_ok, optInt_int, sliD_str, cut_from, lft_ok, gV_succ, gV_zero, gok_ok, wp_some, Lp_nx]
          rw [show (tl2 ++ rest2.take (sz rs c)).drop ((tl2 ++ rest2.take (sz rs c)).length - tl2.length) = psd tl2 rest2 (sz rs c) from rfl]
          exact ⟨_, _, out ++ ot rs rest2 c, nums ++ [choI c], some (.int (m : Nat)), some (.int (choI c)), some (.int (sz rs c : Nat)), some (.str (tl2 ++ rest2.take (sz rs c))), by rw [List.length_drop]; omega, by rw [psd_len]; exact h1, h2, by simp; omega, by simp; omega, by simp⟩
  · subst e'
    rw [List.length_map, List.length_range] at hn
    have hne : rest2 = [] := List.eq_nil_of_length_eq_zero (by omega)
    subst hne
    simp only [Nxt_nx]
    exact fin _ _ _ _ _ _ _ _ h2
theorem read_eq {rs : List Ru} (ok : okRs rs) {tl rest : List Nat} (c : Nat) (h : tl.length = tS rs) (hr : rest.length + 1 ≤ 1000) : f_read_sign [dRs rs, dSt tl rest, .str [c]] = .ok (dTk (tkF rs false tl (rest ++ [c]))) ∧ f__law_read [dRs rs, dSt tl rest, .str [c]] = .ok (dTk (tkF rs false tl (rest ++ [c]))) := by
  constructor
  · refine run_at (s := b_read_sign) [some (dRs rs), some (dSt tl rest), some (.str [c])] ?_
    unfold b_read_sign
    simp only [sRet_ap, eCall_ap, eCons_ap, eNil_ap, eTup_ap, e2_ap, eC_ap, eV_succ, eV_zero, R.bnd_ok, s_0, s_1]
    rw [addD_str (by simp; unfold LINE; omega)]
    simp only [R.bnd_ok]
    rw [if_pos (by simp [LINE])]
    simp only [R.bnd_ok, taken_eq ok h (show (rest ++ [c]).length ≤ 1000 by simp; omega) false, lft_ok, wp_some, endR_rt]
  · refine run_at (s := b__law_read) [some (dRs rs), some (dSt tl rest), some (.str [c])] ?_
    unfold b__law_read
    simp only [sRet_ap, eCall_ap, eCons_ap, eNil_ap, eTup_ap, e2_ap, eC_ap, eV_succ, eV_zero, R.bnd_ok, s_0, s_1]
    rw [addD_str (by simp; unfold LINE; omega)]
    simp only [R.bnd_ok]
    rw [if_pos (by simp [LINE])]
    simp only [R.bnd_ok, ltaken_eq ok h (show (rest ++ [c]).length ≤ 1000 by simp; omega) false, lft_ok, wp_some, endR_rt]
theorem watch_eq {rs : List Ru} (ok : okRs rs) {tl rest : List Nat} (c : Nat) (h : tl.length = tS rs) (hr : rest.length + 1 ≤ 1000) : f_watch [dRs rs, dSt tl rest, .str [c]] = .ok (.tup [dSt (tkF rs false tl (rest ++ [c])).1 (tkF rs false tl (rest ++ [c])).2.1, .str (tkF rs false tl (rest ++ [c])).2.2.1]) := by
  refine run_at (s := b_watch) [some (dRs rs), some (dSt tl rest), some (.str [c]), none, none, none] ?_
  unfold b_watch
  refine wp_seq ?_
  simp only [sAsg_ap, eCall_ap, eCons_ap, eNil_ap, eV_succ, eV_zero, R.bnd_ok, (read_eq ok c h hr).1, lft_ok, dTk]
  generalize tkF rs false tl (rest ++ [c]) = q
  simp [LINE]
theorem leave_eq {rs : List Ru} (ok : okRs rs) {tl rest : List Nat} (h : tl.length = tS rs) (hr : rest.length ≤ 1000) : f_leave [dRs rs, dSt tl rest] = .ok (.str (tkF rs true tl rest).2.2.1) := by
  refine run_at (s := b_leave) [some (dRs rs), some (dSt tl rest)] ?_
  unfold b_leave
  simp only [sRet_ap, e2_ap, eCall_ap, eCons_ap, eNil_ap, eC_ap, eV_succ, eV_zero, R.bnd_ok, taken_eq ok h hr true]
  rw [show idxD (dTk (tkF rs true tl rest)) (.int 1) = .ok (.str (tkF rs true tl rest).2.2.1) from idxD_tup (k := 1) (by simp)]
  simp
/-! ### what has the form of a state -/
def isSt (rs : List Ru) (ss a b : List Nat) : Bool := decide (a.length = tS rs) && decide (b.length < rch rs) && (a.all (fun c => decide (c ∈ ss ++ [124])) && b.all fun c => decide (c ∈ ss))
theorem all_comp {a : List Nat} (h : a.length ≤ 1000) (p : Nat → Bool) {src : LM} {vs : List Nat} {g : GM} {e : EM} {ρ : Env} (hs : src ρ = .ok (signs a)) (E : Nat → Env) (hg : ∀ c, g (sg c) (wipe ρ vs) = .ok (E c)) (he : ∀ c, e (E c) = .ok (.bl (p c))) : (e1 allD (eComp src vs g tYes e)) ρ = .ok (.bl (a.all p)) := by
  rw [e1_ap, eComp_of (ys := (a.map p).map .bl) hs (by
    rw [List.map_map]
    show compL _ _ _ _ (a.map sg) = _
    exact compL_map sg (fun c => .bl (p c)) fun c hc => ⟨E c, hg c, rfl, hc, he c⟩) (by rw [List.length_map, List.length_map]; unfold LINE; omega)]
  simp only [R.bnd_ok, allD_map, List.all_map]
  rfl
theorem none_comp {a : List Nat} (h : a.length ≤ 1000) (p : Nat → Bool) {src : LM} {vs : List Nat} {g : GM} {t : TM} {e : EM} {ρ : Env} (hs : src ρ = .ok (signs a)) (E : Nat → Env) (hg : ∀ c, g (sg c) (wipe ρ vs) = .ok (E c)) (ht : ∀ c, t (E c) = .ok (!p c)) (he : ∀ c, e (E c) = .ok (sg c)) : (e2 eqD (e1 lenD (eComp src vs g t e)) (eC (.int 0))) ρ = .ok (.bl (a.all p)) := by
  have hl := List.length_filter_le (fun c => !p c) a
  rw [e2_ap, e1_ap, eComp_of (ys := (a.filter fun c => !p c).map sg) hs (by
    show compL _ _ _ _ (a.map sg) = _
    exact compL_filter sg (fun c => !p c) sg fun c hc => ⟨E c, hg c, ht c, fun _ => he c⟩) (by rw [List.length_map]; unfold LINE; omega)]
  simp only [R.bnd_ok, lenD_lst, List.length_map, eC_ap]
  rw [show eqD (.int ((a.filter fun c => !p c).length : Nat)) (.int 0) = .ok (.bl ((a.filter fun c => !p c).length == 0)) from eqK _ 0]
  congr 2
  rw [Bool.eq_iff_iff, beq_iff_eq, List.length_eq_zero_iff, List.filter_eq_nil_iff, List.all_eq_true]
  constructor
  · intro z c hc
    have := z c hc
    simpa using this
  · intro z c hc
    simp [z c hc]
theorem is_state_eq {rs : List Ru} (ok : okRs rs) {ss a b : List Nat} (ha : a.length ≤ 1000) (hb : b.length ≤ 1000) (hs : ss.length ≤ 1000) : f_is_state [dRs rs, .str ss, dSt a b] = .ok (.bl (isSt rs ss a b)) := by
  refine run_at (s := b_is_state) [some (dRs rs), some (.str ss), some (dSt a b), none, none, none] ?_
  unfold b_is_state
  refine wp_seqN (ρ' := [some (dRs rs), some (.str ss), some (dSt a b), some (.str a), some (.str b), none]) (by simp) ?_
  refine wp_seq ?_
  simp only [sIf_ap, tOr_ap, tE_ap, e1_ap, e2_ap, eCall_ap, eCons_ap, eNil_ap, eV_succ, eV_zero, R.bnd_ok, lenD_str, tail_size_eq ok, reach_eq ok, neD_int, geD_int, beqI, leI, tru_bl]
  unfold isSt
  by_cases h1 : a.length = tS rs
  · rw [show (a.length == tS rs) = true by simpa using h1, decide_eq_true h1]
    by_cases h2 : b.length < rch rs
    · rw [decide_eq_false (show ¬ rch rs ≤ b.length by omega), decide_eq_true h2]
      simp only [Bool.not_true, Bool.false_eq_true, if_false, lft_ok, sSkip_ap, wp_some, Nxt_nx, sRet_ap, eAnd_ap]
      rw [all_comp ha (fun c => decide (c ∈ ss ++ [124])) (by simp) (fun c => [some (dRs rs), some (.str ss), some (dSt a b), some (.str a), some (.str b), some (sg c)]) (fun c => by simp [wipe]) (fun c => by
        simp only [e2_ap, eC_ap, eV_succ, eV_zero, R.bnd_ok, d_END]
        rw [addD_str (by simp; unfold LINE; omega)]
        simp only [R.bnd_ok, inD_one])]
      rw [all_comp hb (fun c => decide (c ∈ ss)) (by simp) (fun c => [some (dRs rs), some (.str ss), some (dSt a b), some (.str a), some (.str b), some (sg c)]) (fun c => by simp [wipe]) (fun c => by
        simp only [e2_ap, eV_succ, eV_zero, R.bnd_ok, inD_one])]
      cases a.all (fun c => decide (c ∈ ss ++ [124])) <;> simp
    · rw [decide_eq_true (show rch rs ≤ b.length by omega), decide_eq_false h2]
      simp
  · rw [show (a.length == tS rs) = false by simpa using h1, decide_eq_false h1]
    simp
theorem lis_state_eq {rs : List Ru} (ok : okRs rs) {ss a b : List Nat} (ha : a.length ≤ 1000) (hb : b.length ≤ 1000) (hs : ss.length ≤ 1000) : f__law_is_state [dRs rs, .str ss, dSt a b] = .ok (.bl (isSt rs ss a b)) := by
  refine run_at (s := b__law_is_state) [some (dRs rs), some (.str ss), some (dSt a b), none, none, none, none] ?_
  unfold b__law_is_state
  refine wp_seqN (ρ' := [some (dRs rs), some (.str ss), some (dSt a b), some (.str a), some (.str b), none, none]) (by simp) ?_
  refine wp_seq ?_
  simp only [sIf_ap, tOr_ap, tE_ap, e2_ap]
  rw [max_comp ok (fun x => x.b.length) (by simp) (fun x => [some (dRs rs), some (.str ss), some (dSt a b), some (.str a), some (.str b), some (dR x), none]) (fun x => by simp [wipe]) (fun x => by simp [r_b])]
  simp only [e1_ap, eCall_ap, eCons_ap, eNil_ap, eV_succ, eV_zero, R.bnd_ok, lenD_str, lreach_eq ok, neD_int, geD_int, leI, tru_bl]
  rw [show mx (rs.map fun x => x.b.length) = tS rs from rfl, beqI]
  unfold isSt
  by_cases h1 : a.length = tS rs
  · rw [show (a.length == tS rs) = true by simpa using h1, decide_eq_true h1]
    by_cases h2 : b.length < rch rs
    · rw [decide_eq_false (show ¬ rch rs ≤ b.length by omega), decide_eq_true h2]
      simp only [Bool.not_true, Bool.false_eq_true, if_false, lft_ok, sSkip_ap, wp_some, Nxt_nx, sRet_ap, eAnd_ap]
      rw [none_comp ha (fun c => decide (c ∈ ss ++ [124])) (by simp) (fun c => [some (dRs rs), some (.str ss), some (dSt a b), some (.str a), some (.str b), none, some (sg c)]) (fun c => by simp [wipe]) (fun c => by
        simp only [tE_ap, e2_ap, eC_ap, eV_succ, eV_zero, R.bnd_ok]
        rw [addD_str (by simp; unfold LINE; omega)]
        simp only [R.bnd_ok, notIn_one, tru_bl]) (fun c => by simp)]
      rw [none_comp hb (fun c => decide (c ∈ ss)) (by simp) (fun c => [some (dRs rs), some (.str ss), some (dSt a b), some (.str a), some (.str b), none, some (sg c)]) (fun c => by simp [wipe]) (fun c => by
        simp only [tE_ap, e2_ap, eV_succ, eV_zero, R.bnd_ok, notIn_one, tru_bl]) (fun c => by simp)]
      cases a.all (fun c => decide (c ∈ ss ++ [124])) <;> simp
    · rw [decide_eq_true (show rch rs ≤ b.length by omega), decide_eq_false h2]
      simp
  · rw [show (a.length == tS rs) = false by simpa using h1, decide_eq_false h1]
    simp
end PL.K43

set_option maxRecDepth 100000
namespace PL.K43
set_option autoImplicit false
/-! ### what is put out sign by sign is the told text -/
theorem letsF_cons (t : List Nat) (s : List Nat) (r : List (List Nat)) (p : Int) : letsF t (s :: r) p = (decide (sgn t p ∈ s) && letsF t r (p + 1)) := rfl
theorem letsF_nil (t : List Nat) (p : Int) : letsF t [] p = true := rfl
theorem sgn_in {t : List Nat} {p : Nat} (h : p < t.length) : sgn t (p : Int) = t[p] := by
  unfold sgn
  rw [if_pos ⟨by omega, by omega⟩, Int.toNat_natCast, List.getD_eq_getElem?_getD, List.getElem?_eq_getElem h]
  rfl
theorem sgn_out {t : List Nat} {p : Int} (h : ¬ (0 ≤ p ∧ p < t.length)) : sgn t p = 124 := by
  unfold sgn
  rw [if_neg h]
theorem scan_full (t : List Nat) : ∀ (s : List (List Nat)) (p : Nat), scan (t.drop p) s true = if letsF t s (p : Int) = true then 2 else 0
  | [], p => by rw [scan_nil, letsF_nil]; rfl
  | s :: r, p => by
    have ih := scan_full t r (p + 1)
    rw [letsF_cons, show ((p : Int) + 1) = ((p + 1 : Nat) : Int) by omega]
    by_cases h : p < t.length
    · rw [List.drop_eq_getElem_cons h, sgn_in h]
      show (if t[p] ∈ s then scan (t.drop (p + 1)) r true else 0) = _
      rw [ih]
      by_cases hm : t[p] ∈ s
      · rw [if_pos hm, decide_eq_true hm, Bool.true_and]
      · rw [if_neg hm, decide_eq_false hm]
        simp
    · rw [List.drop_of_length_le (by omega), sgn_out (by omega)]
      rw [List.drop_of_length_le (by omega)] at ih
      show (if 124 ∈ s then scan [] r true else 0) = _
      rw [ih]
      by_cases hm : 124 ∈ s
      · rw [if_pos hm, decide_eq_true hm, Bool.true_and]
      · rw [if_neg hm, decide_eq_false hm]
        simp
theorem letsF_app (t : List Nat) : ∀ (s r : List (List Nat)) (p : Int), letsF t (s ++ r) p = (letsF t s p && letsF t r (p + s.length))
  | [], r, p => by rw [letsF_nil]; simp
  | s :: q, r, p => by
    rw [List.cons_append, letsF_cons, letsF_cons, letsF_app t q r (p + 1), Bool.and_assoc]
    rw [show p + ((s :: q).length : Int) = p + 1 + (q.length : Int) by simp only [List.length_cons]; omega]
theorem letsF_one (t : List Nat) : ∀ (l : List Nat) (p : Nat), 124 ∉ l → letsF t (l.map fun c => [c]) (p : Int) = begins l (t.drop p)
  | [], p, _ => by
    rw [List.map_nil, letsF_nil]
    cases t.drop p <;> rfl
  | c :: l, p, h => by
    have ih := letsF_one t l (p + 1) (fun z => h (List.mem_cons_of_mem _ z))
    rw [List.map_cons, letsF_cons, show ((p : Int) + 1) = ((p + 1 : Nat) : Int) by omega, ih]
    by_cases hp : p < t.length
    · rw [List.drop_eq_getElem_cons hp, sgn_in hp]
      show _ = (c == t[p] && begins l (t.drop (p + 1)))
      congr 1
      by_cases q : t[p] = c
      · simp [q]
      · simp [q, Ne.symm q]
    · rw [List.drop_of_length_le (show t.length ≤ p by omega), sgn_out (by omega)]
      have : 124 ≠ c := fun z => h (z ▸ List.mem_cons_self)
      show (decide (124 ∈ [c]) && _) = false
      simp [this]
def tlA (T : Nat) (t : List Nat) (p : Nat) : List Nat := (List.replicate T 124 ++ t.take p).drop p
theorem tlA_len {T : Nat} {t : List Nat} {p : Nat} (h : p ≤ t.length) : (tlA T t p).length = T := by
  unfold tlA
  rw [List.length_drop, List.length_append, List.length_replicate, List.length_take]
  omega
theorem tlA_zero (T : Nat) (t : List Nat) : tlA T t 0 = List.replicate T 124 := by
  unfold tlA
  simp
theorem tlA_sgn {T : Nat} {t : List Nat} {p j : Nat} (h : p ≤ t.length) (hj : j < T) : sgn (tlA T t p) (j : Int) = sgn t ((p : Int) - T + j) := by
  have hl := tlA_len (T := T) h
  rw [sgn_in (by omega)]
  unfold tlA
  rw [List.getElem_drop]
  by_cases hq : p + j < T
  · rw [List.getElem_append_left (by simpa using hq), List.getElem_replicate, sgn_out (by omega)]
  · rw [List.getElem_append_right (by simp; omega), List.getElem_take]
    rw [show ((p : Int) - T + j) = ((p + j - T : Nat) : Int) by omega, sgn_in (by omega)]
    simp
theorem letsF_tail {T : Nat} {t : List Nat} {p : Nat} {b : List (List Nat)} (h : p ≤ t.length) (hb : b.length ≤ T) : letsF (tlA T t p) b ((T : Int) - b.length) = letsF t b ((p : Int) - b.length) := by
  rw [Bool.eq_iff_iff, ← letsF_iff, ← letsF_iff]
  have e : ∀ k, k < b.length → sgn (tlA T t p) ((T : Int) - b.length + k) = sgn t ((p : Int) - b.length + k) := fun k hk => by
    rw [show ((T : Int) - b.length + k) = ((T - b.length + k : Nat) : Int) by omega, tlA_sgn h (by omega)]
    congr 1
    omega
  constructor
  · intro z k hk
    rw [← e k hk]
    exact z k hk
  · intro z k hk
    rw [e k hk]
    exact z k hk
section
variable {rs : List Ru} {t : List Nat}
theorem known_full (x : Ru) (h1 : 124 ∉ x.l) {T p : Nat} (h : p ≤ t.length) (hb : x.b.length ≤ T) : known x (tlA T t p) (t.drop p) true = if fitsF x t p = true then 2 else 0 := by
  unfold known
  rw [tlA_len h, letsF_tail h hb, scan_full]
  unfold asked fitsF
  rw [letsF_app, letsF_one t x.l p h1, List.length_map]
  cases letsF t x.b ((p : Int) - x.b.length) <;> cases begins x.l (t.drop p) <;> simp
theorem stl_full (hx : ∀ x ∈ rs, 124 ∉ x.l) {p : Nat} (h : p ≤ t.length) : stl rs (tlA (tS rs) t p) (t.drop p) true = some (choF rs t p) := by
  have key : ∀ n k, n = rs.length - k → k ≤ rs.length → (∀ j, j < k → fitK rs t p j = false) → stlL (tlA (tS rs) t p) (t.drop p) true (rs.drop k) k = some (choF rs t p) := by
    intro n
    induction n with
    | zero =>
      intro k hk hk2 w
      have : k = rs.length := by omega
      subst this
      rw [List.drop_of_length_le (Nat.le_refl _)]
      unfold choF fitL
      rw [filter_none w]
      rfl
    | succ n ih =>
      intro k hk hk2 w
      have k1 : k < rs.length := by omega
      rw [stl_drop k1, known_full _ (hx _ (List.getElem_mem k1)) h (b_tS (List.getElem_mem k1))]
      cases q : fitsF rs[k] t p with
      | true =>
        obtain ⟨r, hr⟩ := filter_first k1 w (by rw [fitK_at k1]; exact q)
        unfold choF fitL
        rw [hr]
        rfl
      | false =>
        rw [if_neg (by simp), if_neg (by simp)]
        refine ih (k + 1) (by omega) k1 fun j hj => ?_
        by_cases e : j = k
        · subst e; rw [fitK_at k1]; exact q
        · exact w j (by omega)
  exact key _ 0 rfl (Nat.zero_le _) fun j hj => absurd hj (by omega)
theorem scan_more (more : List Nat) : ∀ (s : List (List Nat)) (rest : List Nat), scan rest s false ≠ 1 → scan (rest ++ more) s true = scan rest s false
  | [], rest, _ => by rw [scan_nil, scan_nil]
  | s :: r, [], h => absurd rfl h
  | s :: r, c :: rest, h => by
    show (if c ∈ s then scan (rest ++ more) r true else 0) = (if c ∈ s then scan rest r false else 0)
    by_cases hm : c ∈ s
    · rw [if_pos hm, if_pos hm]
      refine scan_more more r rest fun z => h ?_
      show (if c ∈ s then scan rest r false else 0) = 1
      rw [if_pos hm, z]
    · rw [if_neg hm, if_neg hm]
theorem scan_two : ∀ (s : List (List Nat)) (rest : List Nat), scan rest s false = 2 → s.length ≤ rest.length
  | [], rest, _ => Nat.zero_le _
  | s :: r, [], h => by
    have : (1 : Nat) = 2 := h
    cases this
  | s :: r, c :: rest, h => by
    have h : (if c ∈ s then scan rest r false else 0) = 2 := h
    by_cases hm : c ∈ s
    · rw [if_pos hm] at h
      have := scan_two r rest h
      simpa using this
    · rw [if_neg hm] at h
      cases h
theorem scan_onE : ∀ (s : List (List Nat)) (rest : List Nat), scan rest s false = 1 → rest.length < s.length
  | [], rest, h => by rw [scan_nil] at h; cases h
  | s :: r, [], h => by simp
  | s :: r, c :: rest, h => by
    have h : (if c ∈ s then scan rest r false else 0) = 1 := h
    by_cases hm : c ∈ s
    · rw [if_pos hm] at h
      have := scan_onE r rest h
      simpa using this
    · rw [if_neg hm] at h
      cases h
theorem known_more (x : Ru) (tl rest more : List Nat) (h : known x tl rest false ≠ 1) : known x tl (rest ++ more) true = known x tl rest false := by
  unfold known at h ⊢
  by_cases q : letsF tl x.b ((tl.length : Int) - x.b.length) = true
  · rw [if_pos q] at h
    rw [if_pos q, if_pos q]
    exact scan_more more _ _ h
  · rw [if_neg q, if_neg q]
theorem stl_moreL (tl rest more : List Nat) : ∀ (r : List Ru) (k : Nat) (c : Option Nat), stlL tl rest false r k = some c → stlL tl (rest ++ more) true r k = some c
  | [], k, c, h => h
  | x :: r, k, c, h => by
    unfold stlL at h ⊢
    by_cases h1 : known x tl rest false = 1
    · rw [h1] at h
      simp at h
    · rw [known_more x tl rest more h1]
      by_cases h2 : known x tl rest false = 2
      · rw [if_pos h2] at h ⊢
        exact h
      · rw [if_neg h2, if_neg h1] at h ⊢
        exact stl_moreL tl rest more r (k + 1) c h
theorem stl_knownL (tl rest : List Nat) (e : Bool) : ∀ (r : List Ru) (k0 k : Nat), stlL tl rest e r k0 = some (some k) → k0 ≤ k ∧ ∃ x, r[k - k0]? = some x ∧ known x tl rest e = 2
  | [], k0, k, h => by cases h
  | x :: r, k0, k, h => by
    unfold stlL at h
    by_cases h2 : known x tl rest e = 2
    · rw [if_pos h2] at h
      cases h
      exact ⟨Nat.le_refl _, x, by simp, h2⟩
    · rw [if_neg h2] at h
      by_cases h1 : known x tl rest e = 1
      · rw [if_pos h1] at h; cases h
      · rw [if_neg h1] at h
        obtain ⟨g1, y, g2, g3⟩ := stl_knownL tl rest e r (k0 + 1) k h
        refine ⟨by omega, y, ?_, g3⟩
        rw [show k - k0 = (k - (k0 + 1)) + 1 by omega]
        simpa using g2
theorem stl_noneL (tl rest : List Nat) (e : Bool) : ∀ (r : List Ru) (k0 : Nat), stlL tl rest e r k0 = none → ∃ x ∈ r, known x tl rest e = 1
  | [], k0, h => by cases h
  | x :: r, k0, h => by
    unfold stlL at h
    by_cases h2 : known x tl rest e = 2
    · rw [if_pos h2] at h; cases h
    · rw [if_neg h2] at h
      by_cases h1 : known x tl rest e = 1
      · exact ⟨x, List.mem_cons_self, h1⟩
      · rw [if_neg h1] at h
        obtain ⟨y, hy, g⟩ := stl_noneL tl rest e r (k0 + 1) h
        exact ⟨y, List.mem_cons_of_mem _ hy, g⟩
theorem begins_len : ∀ (x y : List Nat), begins x y = true → x.length ≤ y.length
  | [], y, _ => Nat.zero_le _
  | a :: x, [], h => by cases h
  | a :: x, b :: y, h => by
    have h : (a == b && begins x y) = true := h
    rw [Bool.and_eq_true] at h
    have := begins_len x y h.2
    simpa using this
theorem cho_fits {p k : Nat} (h : choF rs t p = some k) : ∃ hk : k < rs.length, fitsF rs[k] t p = true := by
  have hk := cho_lt h
  refine ⟨hk, ?_⟩
  unfold choF fitL at h
  have := List.mem_of_mem_head? (Option.mem_def.mpr h)
  have := (List.mem_filter.mp this).2
  rw [fitK_at hk] at this
  exact this
theorem psd_tlA {T p s : Nat} {rest more : List Nat} (hm : rest ++ more = t.drop p) (hp : p ≤ t.length) (hs : s ≤ rest.length) : psd (tlA T t p) rest s = tlA T t (p + s) := by
  have ht : rest.take s = (t.drop p).take s := by
    rw [← hm, List.take_append_of_le_length hs]
  unfold psd
  rw [List.length_append, List.length_take, Nat.add_sub_cancel_left, show min s rest.length = s by omega, ht]
  unfold tlA
  rw [← List.drop_drop]
  congr 1
  rw [List.take_add, ← List.append_assoc]
  exact (List.drop_append_of_le_length (by rw [List.length_append, List.length_replicate, List.length_take]; omega)).symm
def plR (rs : List Ru) (t : List Nat) (p : Nat) : List (Nat × Option Nat) := plc rs t (t.length - p) p
theorem plR_step {p : Nat} (h : p < t.length) : plR rs t p = (p, choF rs t p) :: plR rs t (p + stepF rs t p) := by
  have := step_pos rs t p
  unfold plR
  rw [show t.length - p = (t.length - p - 1) + 1 by omega]
  conv => lhs; unfold plc
  rw [if_pos h, plc_fuel (t.length - p - 1) (t.length - (p + stepF rs t p)) _ (by omega) (by omega)]
theorem plR_out {p : Nat} (h : t.length ≤ p) : plR rs t p = [] := plc_out h
theorem sz_step (p : Nat) : sz rs (choF rs t p) = stepF rs t p := by
  unfold stepF
  cases choF rs t p <;> rfl
theorem ot_out {p : Nat} {rest more : List Nat} (hr : rest ≠ []) (hm : rest ++ more = t.drop p) (c : Option Nat) : ot rs rest c = out1 rs t (p, c) := by
  cases c with
  | some k => rfl
  | none =>
    cases rest with
    | nil => exact absurd rfl hr
    | cons a r =>
      show [a] = [t.getD p 0]
      have h : p < t.length := by
        have := congrArg List.length hm
        rw [List.length_drop, List.length_append, List.length_cons] at this
        omega
      rw [List.drop_eq_getElem_cons h] at hm
      have : a = t[p] := (List.cons.inj hm).1
      rw [List.getD_eq_getElem?_getD, List.getElem?_eq_getElem h, this]
      rfl
theorem outF_cons (x : Nat × Option Nat) (r : List (Nat × Option Nat)) : outF rs t (x :: r) = out1 rs t x ++ outF rs t r := by
  unfold outF
  simp
theorem stream (ok : okRs rs) (hx : ∀ x ∈ rs, 124 ∉ x.l) (e : Bool) (more : List Nat) (he : e = true → more = []) : ∀ (n : Nat) (p : Nat) (rest : List Nat), rest.length = n → p ≤ t.length → rest ++ more = t.drop p →
    ∃ (p' : Nat) (rest' o : List Nat) (nums : List Int), tkF rs e (tlA (tS rs) t p) rest = (tlA (tS rs) t p', rest', o, nums) ∧ p ≤ p' ∧ p' ≤ t.length ∧ rest' ++ more = t.drop p' ∧ o ++ outF rs t (plR rs t p') = outF rs t (plR rs t p) ∧ rest'.length < rch rs ∧ (e = true → rest' = []) := by
  have hr0 : 0 < rch rs := by
    have h1 := ok.n1
    have hm := List.getElem_mem (show 0 < rs.length by omega)
    have h2 := (ok.all _ hm).l1
    have h3 := l_rch hm
    omega
  intro n
  induction n using Nat.strongRecOn with
  | ind n ih =>
    intro p rest hn hp hm
    by_cases hr : rest = []
    · subst hr
      refine ⟨p, [], [], [], ?_, Nat.le_refl _, hp, hm, by simp, by simpa using hr0, fun _ => rfl⟩
      unfold tkF
      exact tk_nil _ _ _ _
    · have hlen := congrArg List.length hm
      rw [List.length_append, List.length_drop] at hlen
      have hpos : 0 < rest.length := List.length_pos_iff.mpr hr
      have hpl : p < t.length := by omega
      cases q : stl rs (tlA (tS rs) t p) rest e with
      | none =>
        have hef : e = false := by
          cases e with
          | false => rfl
          | true =>
            have hmm := he rfl
            subst hmm
            rw [List.append_nil] at hm
            rw [hm, stl_full hx hp] at q
            cases q
        subst hef
        refine ⟨p, rest, [], [], tkF_none q, Nat.le_refl _, hp, hm, by simp, ?_, fun z => by cases z⟩
        obtain ⟨x, hxm, hk⟩ := stl_noneL _ _ _ _ _ q
        unfold known at hk
        split at hk
        · have h1 := scan_onE _ _ hk
          have h2 := l_rch hxm
          unfold asked at h1
          rw [List.length_append, List.length_map] at h1
          omega
        · cases hk
      | some c =>
        have hc : c = choF rs t p := by
          have hfull := stl_full (t := t) hx hp
          rw [← hm] at hfull
          cases e with
          | true =>
            have hmm := he rfl
            subst hmm
            rw [List.append_nil] at hfull
            rw [q] at hfull
            exact Option.some.inj hfull
          | false =>
            have := stl_moreL _ _ more _ _ _ q
            rw [show stlL (tlA (tS rs) t p) (rest ++ more) true rs 0 = stl rs (tlA (tS rs) t p) (rest ++ more) true from rfl, hfull] at this
            exact (Option.some.inj this).symm
        have hs : sz rs c ≤ rest.length := by
          cases c with
          | none => exact hpos
          | some k =>
            have hk := stl_k q
            rw [sz_at ok hk]
            cases e with
            | true =>
              have hmm := he rfl
              subst hmm
              obtain ⟨_, hf⟩ := cho_fits hc.symm
              unfold fitsF at hf
              rw [Bool.and_eq_true] at hf
              have := begins_len _ _ hf.1
              rw [← hm, List.append_nil] at this
              exact this
            | false =>
              obtain ⟨_, x, g1, g2⟩ := stl_knownL _ _ _ _ _ _ q
              rw [Nat.sub_zero, List.getElem?_eq_getElem hk] at g1
              have g1 := Option.some.inj g1
              subst g1
              unfold known at g2
              split at g2
              · have := scan_two _ _ g2
                unfold asked at this
                rw [List.length_append, List.length_map] at this
                omega
              · cases g2
        have hsp := sz_pos rs c
        rw [tkF_some hr q, psd_tlA hm hp hs]
        obtain ⟨p', rest', o, nums, g1, g2, g3, g4, g5, g6, g7⟩ := ih (rest.length - sz rs c) (by omega) (p + sz rs c) (rest.drop (sz rs c)) (by rw [List.length_drop]) (by omega) (by
          rw [← List.drop_drop, ← hm, List.drop_append_of_le_length hs])
        refine ⟨p', rest', ot rs rest c ++ o, [choI c] ++ nums, ?_, by omega, g3, g4, ?_, g6, g7⟩
        · rw [g1]
          rfl
        · rw [List.append_assoc, g5, plR_step hpl, outF_cons, ot_out hr hm, hc, sz_step]
end
end PL.K43

set_option maxRecDepth 100000
namespace PL.K43
set_option autoImplicit false
/-! ### what is drawn -/
theorem same_eq (n : Nat) : f__law_same n = f_same n := by
  induction n with
  | zero => rfl
  | succ n ih =>
    show run 3 (b__law_same (f__law_same n)) = _
    rw [ih]
    rfl
theorem same12 {d : Dat} (h : gd 11 d) : f__law_same 12 [d, d] = .ok (.bl true) := by
  rw [same_eq]
  exact same_refl 11 d h
theorem cellK (ns : List Int) (h : ns.length ≤ 63) (k : Nat) : ∃ z : Int, f__law_cell [.lst (ns.map .int), .int k] = .ok (.int z) := cell_ok ns k (by omega)
theorem numsK (z : Int) (count : Nat) (h : count ≤ 1000) : ∃ l : List Nat, f__law_numbers [.int z, .int count, .int 5040] = .ok (nums l) ∧ l.length = count ∧ ∀ x ∈ l, x < 5040 := numbers_ok z count 5040 (by omega) (by decide) (by decide)
theorem wordK {dr : List Nat} (at0 least most : Nat) {signs : List Nat} (hs : signs ≠ []) (h1 : least ≤ most) (h2 : most ≤ 6) (h3 : at0 + 7 < dr.length) : ∃ w : List Nat, f__law_word [nums dr, .int at0, .str signs, .int least, .int most] = .ok (.str w) ∧ least ≤ w.length ∧ w.length ≤ most ∧ ∀ c ∈ w, c ∈ signs := word_ok at0 least most hs h1 h2 h3
def pool : List Nat := [32, 33, 34, 35, 36, 38, 39, 40, 41, 42, 43, 44, 45, 46, 47, 48, 49, 50, 51, 52, 53, 54, 55, 56, 57, 58, 59, 60, 61, 62, 63, 64, 65, 66, 67, 68, 69, 70, 71, 72, 73, 74, 75, 76, 77, 78, 79, 80, 81, 82, 83, 84, 85, 86, 87, 88, 89, 90, 91, 92, 93, 94, 95, 96, 97, 98, 99, 100, 101, 102, 103, 104, 105, 106, 107, 108, 109, 110, 111, 112, 113, 114, 115, 116, 117, 118, 119, 120, 121, 122, 123, 125, 126]
theorem pool_ok : ∀ c ∈ pool, c ≠ 124 := by decide +kernel
theorem signs_ok (draw count : Nat) (hd : draw < 5040) (hc : count ≤ 100) : ∃ s : List Nat, f__law_signs [.int draw, .int count] = .ok (.str s) ∧ s.length = count ∧ ∀ c ∈ s, c ≠ 124 := by
  have hp : pool.length = 93 := by decide
  let F : Nat → Nat := fun k => pool.getD ((draw + k * (1 + draw / 93 % 30)) % 93) 0
  refine ⟨(List.range count).map F, run_at (s := b__law_signs) [some (.int draw), some (.int count), none, none] ?_, by simp, fun c hc => ?_⟩
  rotate_left
  · obtain ⟨k, _, rfl⟩ := List.mem_map.mp hc
    refine pool_ok _ ?_
    have hm : (draw + k * (1 + draw / 93 % 30)) % 93 < pool.length := by rw [hp]; omega
    simp only [F]
    rw [List.getD_eq_getElem?_getD, List.getElem?_eq_getElem hm]
    exact List.getElem_mem _
  unfold b__law_signs
  refine wp_seq ?_
  simp only [sAsg_ap, eC_ap, lft_ok, gV_succ, gV_zero, R.bnd_ok, gok_ok, wp_some, Nxt_nx, sRet_ap, eM1_ap, isS_str]
  rw [eComp_of (ds := (List.range count).map fun k => .int (k : Nat)) (ys := ((List.range count).map F).map fun c => .str [c]) (by simp [rng1_nat (show count < 2 ^ 62 by omega)]) (by
    rw [List.map_map]
    refine compL_map (fun k : Nat => Dat.int (k : Nat)) (fun k => .str [F k]) fun k hk => ⟨[some (.int draw), some (.int count), some (.str pool), some (.int (k : Nat))], by simp [wipe]; rfl, by simp, hk, ?_⟩
    have hk := List.mem_range.mp hk
    simp only [e2_ap, eC_ap, eV_succ, eV_zero, R.bnd_ok]
    rw [show fdivD (.int draw) (.int 93) = .ok (.int ((draw / 93 : Nat) : Int)) from fdivD_nat (j := 93) (by decide) (by decide)]
    simp only [R.bnd_ok]
    rw [show modD (.int ((draw / 93 : Nat) : Int)) (.int 30) = .ok (.int ((draw / 93 % 30 : Nat) : Int)) from modD_nat (j := 30) (by decide)]
    simp only [R.bnd_ok, addD_int]
    rw [show ((1 : Int) + ((draw / 93 % 30 : Nat) : Int)) = ((1 + draw / 93 % 30 : Nat) : Int) by omega, mulL_int (i := k) (by omega)]
    simp only [R.bnd_ok, addD_int]
    rw [show ((draw : Int) + (k : Int) * ((1 + draw / 93 % 30 : Nat) : Int)) = ((draw + k * (1 + draw / 93 % 30) : Nat) : Int) by push_cast; rfl, show modD (.int ((draw + k * (1 + draw / 93 % 30) : Nat) : Int)) (.int 93) = .ok (.int (((draw + k * (1 + draw / 93 % 30)) % 93 : Nat) : Int)) from modD_nat (j := 93) (by decide)]
    simp only [R.bnd_ok]
    have hm : (draw + k * (1 + draw / 93 % 30)) % 93 < pool.length := by rw [hp]; omega
    rw [idxD_str hm]
    simp [F, hm]) (by simp; unfold LINE; omega)]
  simp only [R.bnd_ok]
  rw [joinD_ones (by simp; unfold LINE; omega)]
  simp
theorem class_ok (draw : Int) {signs : List Nat} (hs : signs ≠ []) (hl : signs.length ≤ 10) : ∃ w : List Nat, f__law_class [.int draw, .str signs] = .ok (.str w) := by
  have hsl : 0 < signs.length := List.length_pos_iff.mpr hs
  have key : wp (b__law_class [some (.int draw), some (.str signs), none, none, none]) fun f _ => ∃ w : List Nat, endR f = .ok (.str w) := by
    unfold b__law_class
    refine wp_seq ?_
    simp only [sAsg_ap, eC_ap, lft_ok, gV_succ, gV_zero, R.bnd_ok, gok_ok, wp_some, Nxt_nx]
    refine wp_seq ?_
    rw [sFor_ap]
    simp only [iOf_ap, e1_ap, e2_ap]
    rw [eComp_of (ds := signs.map sg) (ys := signs.map sg) (by simp; rfl) (compL_map sg sg fun c hc => ⟨[some (.int draw), some (.str signs), some (.str []), none, some (sg c)], by simp [wipe], by simp, hc, by simp⟩) (by rw [List.length_map]; unfold LINE; omega)]
    simp only [eLst_ap, eCons_ap, eNil_ap, eC_ap, R.bnd_ok]
    rw [if_pos (by simp [LINE])]
    simp only [R.bnd_ok]
    rw [addD_lst (by simp; unfold LINE; omega)]
    simp only [R.bnd_ok]
    have e1 : signs.map sg ++ [Dat.str [124]] = (signs ++ [124]).map sg := by simp
    have hsort : sortD (.lst ((signs ++ [124]).map sg)) = .ok (.lst (((signs ++ [124]).mergeSort leN).map sg)) := by
      show (if sortable ((signs ++ [124]).map sg) = true then R.ok (Dat.lst (sortL ((signs ++ [124]).map sg))) else .bad) = _
      rw [if_pos (sortable_sg _), sortL_sg]
    rw [e1, hsort]
    simp only [R.bnd_ok, itemsD_lst, lft_ok]
    have hml : ((signs ++ [124]).mergeSort leN).length ≤ 11 := by rw [List.length_mergeSort]; simp; omega
    generalize (signs ++ [124]).mergeSort leN = L at hml
    refine wp_for (fun k ρ => ∃ (w : List Nat) (z : Int) (o o2 : Option Dat), w.length ≤ k ∧ ρ = [some (.int z), some (.str signs), some (.str w), o, o2]) ⟨[], draw, none, none, Nat.le_refl _, rfl⟩ (fun k d ρ hk ⟨w, z, o, o2, hw, e⟩ => ?_) (fun ρ ⟨w, z, o, o2, hw, e⟩ => ?_)
    · obtain ⟨hk2, rfl⟩ := map_get hk
      subst e
      refine ⟨_, by simp only [gV_succ, gV_zero, R.bnd_ok]; rfl, ?_⟩
      refine wp_seq ?_
      simp only [sIf_ap, tE_ap, e2_ap, eC_ap, eV_succ, eV_zero, R.bnd_ok]
      rw [modD_int (by decide)]
      simp only [R.bnd_ok, eqD_int, tru_bl, lft_ok]
      have fd : fdivD (.int z) (.int 2) = .ok (.int (z / 2)) := fdivD_int ⟨by decide, by decide⟩
      split
      · simp only [sAsg_ap, e2_ap, eV_succ, eV_zero, R.bnd_ok]
        rw [addD_str (by simp; unfold LINE; omega)]
        simp only [lft_ok, gV_succ, gV_zero, R.bnd_ok, gok_ok, wp_some, Nxt_nx, sAsg_ap, e2_ap, eC_ap, eV_zero, fd]
        exact ⟨.inl trivial, _, _, _, _, by simp; exact hw, rfl⟩
      · simp only [sSkip_ap, lft_ok, gV_succ, gV_zero, R.bnd_ok, gok_ok, wp_some, Nxt_nx, sAsg_ap, e2_ap, eC_ap, eV_zero, fd]
        exact ⟨.inl trivial, _, _, _, _, by omega, rfl⟩
    · subst e
      simp only [Nxt_nx]
      refine wp_seq ?_
      simp only [sIf_ap, tE_ap, e2_ap, eC_ap, eV_succ, eV_zero, R.bnd_ok, eqD_str, tru_bl, lft_ok]
      split
      · have i0 : idxD (.str signs) (.int 0) = .ok (.str [signs[0]]) := idxD_str (k := 0) hsl
        simp only [sRet_ap, e2_ap, eC_ap, eV_succ, eV_zero, R.bnd_ok, i0, lft_ok, wp_some, Nxt_rt, endR_rt]
        exact ⟨_, rfl⟩
      · simp
  obtain ⟨f, ρ, e, w, h⟩ := key
  exact ⟨w, run_at _ ⟨f, ρ, e, h⟩⟩
theorem side_ok {dr : List Nat} (at0 most : Nat) {signs : List Nat} (hs : signs ≠ []) (hl : signs.length ≤ 10) (h2 : most ≤ 2) (h3 : at0 + 3 < dr.length) : ∃ cs : List (List Nat), f__law_side [nums dr, .int at0, .str signs, .int most] = .ok (.tup (cs.map .str)) ∧ cs.length ≤ most := by
  have hm : dr[at0]'(by omega) % (most + 1) < most + 1 := Nat.mod_lt _ (by omega)
  let C : Nat → List Nat := fun k => if h : at0 + 1 + k < dr.length then (class_ok (dr[at0 + 1 + k] : Nat) hs hl).choose else []
  have hC : ∀ k, k < 2 → ∃ h : at0 + 1 + k < dr.length, f__law_class [.int (dr[at0 + 1 + k] : Nat), .str signs] = .ok (.str (C k)) := fun k hk => by
    have h : at0 + 1 + k < dr.length := by omega
    refine ⟨h, ?_⟩
    simp only [C, dif_pos h]
    exact (class_ok (dr[at0 + 1 + k] : Nat) hs hl).choose_spec
  refine ⟨(List.range (dr[at0]'(by omega) % (most + 1))).map C, run_at (s := b__law_side) [some (nums dr), some (.int at0), some (.str signs), some (.int most), none] ?_, by simp; omega⟩
  have e0 : (e2 modD (e2 idxD (eV 0) (eV 1)) (e2 addD (eV 3) (eC (.int 1)))) [some (nums dr), some (.int at0), some (.str signs), some (.int most), none] = .ok (.int ((dr[at0]'(by omega) % (most + 1) : Nat) : Int)) := by
    simp only [e2_ap, eC_ap, eV_succ, eV_zero, R.bnd_ok]
    rw [idxN (k := at0) (by omega) rfl]
    simp only [R.bnd_ok, addD_int]
    exact modD_nat (j := most + 1) (by omega)
  generalize dr[at0]'(by omega) % (most + 1) = m at hm e0
  unfold b__law_side
  simp only [sRet_ap, e1_ap]
  rw [eComp_of (ds := (List.range m).map fun k => .int (k : Nat)) (ys := ((List.range m).map C).map .str) (by rw [iR1_ap, e0]; simp only [R.bnd_ok]; exact rng1_nat (by omega)) (by
    rw [List.map_map]
    refine compL_map (fun k : Nat => Dat.int (k : Nat)) (fun k => .str (C k)) fun k hk => ⟨[some (nums dr), some (.int at0), some (.str signs), some (.int most), some (.int (k : Nat))], by simp [wipe], by simp, hk, ?_⟩
    have hk := List.mem_range.mp hk
    obtain ⟨h, hc⟩ := hC k (by omega)
    simp only [eCall_ap, eCons_ap, eNil_ap, e2_ap, eC_ap, eV_succ, eV_zero, R.bnd_ok, addD_int]
    rw [idxN (k := at0 + 1 + k) h (by omega)]
    simp only [R.bnd_ok]
    exact hc) (by simp; unfold LINE; omega)]
  simp [tupleD]
theorem rules_ok (ns : List Int) (hns : ns.length ≤ 63) {signs out : List Nat} (hs : signs ≠ []) (hl : signs.length ≤ 4) (ho : out ≠ []) (a b c : Nat) (ha : 1 ≤ a ∧ a ≤ 4) (hb : b ≤ 2) (hc : c ≤ 2) :
    ∃ rs : List Ru, f__law_rules [.lst (ns.map .int), .int 0, .str signs, .str out, .int 8, .lst [.int a, .int b, .int c]] = .ok (.lst (rs.map dR)) ∧ okRs rs ∧ ∀ x ∈ rs, ∀ c ∈ x.l, c ∈ signs := by
  have key : wp (b__law_rules ([.lst (ns.map .int), .int 0, .str signs, .str out, .int 8, .lst [.int a, .int b, .int c]].map some ++ List.replicate 8 none)) fun f _ => ∃ rs : List Ru, endR f = .ok (.lst (rs.map dR)) ∧ okRs rs ∧ ∀ x ∈ rs, ∀ c ∈ x.l, c ∈ signs := by
    obtain ⟨z, hz⟩ := cellK ns hns 0
    obtain ⟨dr, hdr, hlen, hlt⟩ := numsK z 194 (by decide)
    have s0 : idxD (.lst [.int a, .int b, .int c]) (.int 0) = .ok (.int a) := idxD_lst (k := 0) (by simp)
    have s1 : idxD (.lst [.int a, .int b, .int c]) (.int 1) = .ok (.int b) := idxD_lst (k := 1) (by simp)
    have s2 : idxD (.lst [.int a, .int b, .int c]) (.int 2) = .ok (.int c) := idxD_lst (k := 2) (by simp)
    generalize hS : Dat.lst (ns.map .int) = S at hz
    generalize hZ : Dat.lst [.int a, .int b, .int c] = Z at s0 s1 s2
    simp only [List.map_cons, List.map_nil, List.cons_append, List.nil_append, List.replicate]
    unfold b__law_rules
    refine wp_seq ?_
    simp only [sAsg_ap, eCall_ap, eCons_ap, eNil_ap, e2_ap, eC_ap, eV_succ, eV_zero, R.bnd_ok]
    rw [show f__law_cell [S, .int 0] = .ok (.int z) from hz]
    simp only [R.bnd_ok]
    rw [show mulD (.int 24) (.int 8) = .ok (.int 192) from rfl]
    simp only [R.bnd_ok, addD_int]
    rw [show f__law_numbers [.int z, .int (192 + 2), .int 5040] = .ok (nums dr) from hdr]
    simp only [lft_ok, gV_succ, gV_zero, R.bnd_ok, gok_ok, wp_some, Nxt_nx]
    refine wp_seq ?_
    rw [sNew_lst (xs := []) (by simp [LINE]) (by simp)]
    simp only [wp_some, Nxt_nx, List.set_cons_succ, List.set_cons_zero]
    refine wp_seq ?_
    rw [sFor_ap]
    simp only [iR1_ap, e2_ap, eC_ap, eV_succ, eV_zero, R.bnd_ok]
    rw [idxN (k := 0) (z := 0) (by omega) rfl]
    simp only [R.bnd_ok]
    rw [show modD (.int (dr[0]'(by omega) : Nat)) (.int 8) = .ok (.int ((dr[0]'(by omega) % 8 : Nat) : Int)) from modD_nat (j := 8) (by decide)]
    simp only [R.bnd_ok, addD_int]
    have hm : dr[0]'(by omega) % 8 < 8 := Nat.mod_lt _ (by decide)
    generalize dr[0]'(by omega) % 8 = m at hm
    rw [show ((1 : Int) + (m : Int)) = ((1 + m : Nat) : Int) by omega, rng1_nat (by omega)]
    simp only [lft_ok]
    have six : ∃ q : Nat, (q = 2 ∨ q = 6) ∧ (e2 addD (eC (.int 2)) (e2 mulD (eC (.int 4)) (e1 intD (e2 eqD (e2 modD (e2 idxD (eC (nums dr)) (eC (.int 1))) (eC (.int 6))) (eC (.int 0)))))) [] = .ok (.int (q : Nat)) := by
      simp only [e1_ap, e2_ap, eC_ap, R.bnd_ok]
      rw [idxN (k := 1) (z := 1) (by omega) rfl]
      simp only [R.bnd_ok]
      rw [show modD (.int (dr[1]'(by omega) : Nat)) (.int 6) = .ok (.int ((dr[1]'(by omega) % 6 : Nat) : Int)) from modD_nat (j := 6) (by decide)]
      simp only [R.bnd_ok, eqD_int, intD_bl]
      cases ((dr[1]'(by omega) % 6 : Nat) : Int) == 0 with
      | true => exact ⟨6, .inr rfl, rfl⟩
      | false => exact ⟨2, .inl rfl, rfl⟩
    obtain ⟨q, hq, hsix⟩ := six
    simp only [e1_ap, e2_ap, eC_ap, R.bnd_ok] at hsix
    refine wp_for (fun k ρ => ∃ (rs : List Ru) (o8 o9 o10 o11 o12 o13 : Option Dat), rs.length = k ∧ (∀ x ∈ rs, okR x ∧ ∀ c ∈ x.l, c ∈ signs) ∧ ρ = [some S, some (.int 0), some (.str signs), some (.str out), some (.int 8), some Z, some (nums dr), some (.lst (rs.map dR)), o8, o9, o10, o11, o12, o13]) ⟨[], none, none, none, none, none, none, rfl, (fun _ h => absurd h (by simp)), rfl⟩ (fun k d ρ hk ⟨rs, o8, o9, o10, o11, o12, o13, hrl, hro, e⟩ => ?_) (fun ρ ⟨rs, o8, o9, o10, o11, o12, o13, hrl, hro, e⟩ => ?_)
    · obtain ⟨hk2, rfl⟩ := range_get hk
      subst e
      refine ⟨_, by simp only [gV_succ, gV_zero, R.bnd_ok]; rfl, ?_⟩
      obtain ⟨w1, e1', w1a, w1b, w1c⟩ := wordK (dr := dr) (2 + 24 * k) 1 a hs ha.1 (by omega) (by omega)
      obtain ⟨w2, e2', w2a, w2b, w2c⟩ := wordK (dr := dr) (2 + 24 * k + 5) 0 q ho (by omega) (by omega) (by omega)
      obtain ⟨c1, e3', c1l⟩ := side_ok (dr := dr) (2 + 24 * k + 13) b hs (by omega) hb (by omega)
      obtain ⟨c2, e4', c2l⟩ := side_ok (dr := dr) (2 + 24 * k + 17) c hs (by omega) hc (by omega)
      refine wp_seq ?_
      simp only [sAsg_ap, e2_ap, eC_ap, eV_succ, eV_zero, R.bnd_ok]
      rw [show mulD (.int 24) (.int (k : Nat)) = .ok (.int ((24 : Nat) * (k : Int))) from mulL_int (i := 24) (by decide)]
      simp only [R.bnd_ok, addD_int]
      rw [show ((2 : Int) + ((24 : Nat) : Int) * (k : Int)) = ((2 + 24 * k : Nat) : Int) by push_cast; rfl]
      simp only [lft_ok, gV_succ, gV_zero, R.bnd_ok, gok_ok, wp_some, Nxt_nx]
      refine wp_seq ?_
      simp only [sAsg_ap, eCall_ap, eCons_ap, eNil_ap, e2_ap, eC_ap, eV_succ, eV_zero, R.bnd_ok, s0]
      rw [show f__law_word [nums dr, .int ((2 + 24 * k : Nat) : Int), .str signs, .int 1, .int (a : Nat)] = .ok (.str w1) from e1']
      simp only [lft_ok, gV_succ, gV_zero, R.bnd_ok, gok_ok, wp_some, Nxt_nx]
      refine wp_seq ?_
      simp only [sAsg_ap, eCall_ap, eCons_ap, eNil_ap, e1_ap, e2_ap, eC_ap, eV_succ, eV_zero, R.bnd_ok, addD_int]
      rw [hsix]
      simp only [R.bnd_ok]
      rw [show f__law_word [nums dr, .int (((2 + 24 * k : Nat) : Int) + 5), .str out, .int 0, .int (q : Nat)] = .ok (.str w2) from e2']
      simp only [lft_ok, gV_succ, gV_zero, R.bnd_ok, gok_ok, wp_some, Nxt_nx]
      refine wp_seq ?_
      simp only [sAsg_ap, eCall_ap, eCons_ap, eNil_ap, e1_ap, e2_ap, eC_ap, eV_succ, eV_zero, R.bnd_ok, addD_int, s1]
      rw [show f__law_side [nums dr, .int (((2 + 24 * k : Nat) : Int) + 13), .str signs, .int (b : Nat)] = .ok (.tup (c1.map .str)) from e3']
      simp only [lft_ok, gV_succ, gV_zero, R.bnd_ok, gok_ok, wp_some, Nxt_nx]
      refine wp_seq ?_
      simp only [sAsg_ap, eCall_ap, eCons_ap, eNil_ap, e1_ap, e2_ap, eC_ap, eV_succ, eV_zero, R.bnd_ok, addD_int, s2]
      rw [show f__law_side [nums dr, .int (((2 + 24 * k : Nat) : Int) + 17), .str signs, .int (c : Nat)] = .ok (.tup (c2.map .str)) from e4']
      simp only [lft_ok, gV_succ, gV_zero, R.bnd_ok, gok_ok, wp_some, Nxt_nx]
      rw [sApp_ap (xs := rs.map dR) (d := dR ⟨w1, w2, c1, c2⟩) (by simp) (by simp only [eTup_ap, eCons_ap, eNil_ap, eV_succ, eV_zero, R.bnd_ok]; rw [if_pos (by simp [LINE])]; rfl) (by rw [List.length_map]; unfold LINE; omega)]
      simp only [wp_some, List.set_cons_succ, List.set_cons_zero]
      refine ⟨.inl trivial, rs ++ [⟨w1, w2, c1, c2⟩], _, _, _, _, _, _, by simp; exact hrl, fun x hx => ?_, by rw [List.map_append]; rfl⟩
      rcases List.mem_append.mp hx with hx | hx
      · exact hro x hx
      · rw [List.mem_singleton] at hx
        subst hx
        exact ⟨⟨w1a, by show w1.length ≤ 4; omega, by show w2.length ≤ 6; omega, by show c1.length ≤ 2; omega, by show c2.length ≤ 2; omega⟩, w1c⟩
    · subst e
      rw [List.length_map, List.length_range] at hrl
      simp only [Nxt_nx, sRet_ap, eV_succ, eV_zero, lft_ok, wp_some, endR_rt]
      exact ⟨rs, rfl, ⟨by omega, by omega, fun x hx => (hro x hx).1⟩, fun x hx => (hro x hx).2⟩
  obtain ⟨f, ρ, e, rs, h⟩ := key
  exact ⟨rs, run_of ⟨f, ρ, e, h.1⟩, h.2⟩
theorem text_ok (ns : List Int) (hns : ns.length ≤ 63) (at0 : Nat) {signs : List Nat} (hs : signs ≠ []) : ∃ t : List Nat, f__law_text [.lst (ns.map .int), .int at0, .str signs, .int 16] = .ok (.str t) ∧ t.length ≤ 16 := by
  have hsl : 0 < signs.length := List.length_pos_iff.mpr hs
  obtain ⟨z, hz⟩ := cellK ns hns at0
  obtain ⟨dr, hdr, hlen, hlt⟩ := numsK z 18 (by decide)
  have hm : dr[0]'(by omega) % 17 < 17 := Nat.mod_lt _ (by decide)
  let F : Nat → Nat := fun k => signs.getD (dr.getD (2 + k) 0 % signs.length) 0
  refine ⟨(List.range (dr[0]'(by omega) % 17)).map F, run_at (s := b__law_text) [some (.lst (ns.map .int)), some (.int at0), some (.str signs), some (.int 16), none, none] ?_, by simp; omega⟩
  unfold b__law_text
  refine wp_seq ?_
  simp only [sAsg_ap, eCall_ap, eCons_ap, eNil_ap, e2_ap, eC_ap, eV_succ, eV_zero, R.bnd_ok, hz, addD_int]
  rw [show f__law_numbers [.int z, .int (2 + 16), .int 5040] = .ok (nums dr) from hdr]
  simp only [lft_ok, gV_succ, gV_zero, R.bnd_ok, gok_ok, wp_some, Nxt_nx, sRet_ap, eM1_ap, eC_ap, isS_str]
  have e0 : (e2 modD (e2 idxD (eV 4) (eC (.int 0))) (e2 addD (eV 3) (eC (.int 1)))) [some (.lst (ns.map .int)), some (.int at0), some (.str signs), some (.int 16), some (nums dr), none] = .ok (.int ((dr[0]'(by omega) % 17 : Nat) : Int)) := by
    simp only [e2_ap, eC_ap, eV_succ, eV_zero, R.bnd_ok]
    rw [idxN (k := 0) (z := 0) (by omega) rfl]
    simp only [R.bnd_ok, addD_int]
    exact modD_nat (j := 17) (by omega)
  generalize dr[0]'(by omega) % 17 = m at hm e0
  rw [eComp_of (ds := (List.range m).map fun k => .int (k : Nat)) (ys := ((List.range m).map F).map fun c => .str [c]) (by rw [iR1_ap, e0]; simp only [R.bnd_ok]; exact rng1_nat (by omega)) (by
    rw [List.map_map]
    refine compL_map (fun k : Nat => Dat.int (k : Nat)) (fun k => .str [F k]) fun k hk => ⟨[some (.lst (ns.map .int)), some (.int at0), some (.str signs), some (.int 16), some (nums dr), some (.int (k : Nat))], by simp [wipe], by simp, hk, ?_⟩
    have hk := List.mem_range.mp hk
    simp only [e1_ap, e2_ap, eC_ap, eV_succ, eV_zero, R.bnd_ok, addD_int, lenD_str]
    rw [idxN (k := 2 + k) (by omega) (by omega)]
    simp only [R.bnd_ok]
    rw [modD_nat hsl]
    simp only [R.bnd_ok]
    rw [idxD_str (Nat.mod_lt _ hsl)]
    have h2 : 2 + k < dr.length := by omega
    have h3 : dr[2 + k] % signs.length < signs.length := Nat.mod_lt _ hsl
    simp [F, h2, h3]) (by simp; unfold LINE; omega)]
  simp only [R.bnd_ok]
  rw [joinD_ones (by simp; unfold LINE; omega)]
  simp
end PL.K43

set_option maxRecDepth 100000
namespace PL.K43
set_option autoImplicit false
/-! ### the law -/
theorem pr_ap {a b : EM} {ρ : Env} {x y : List Nat} (h1 : a ρ = .ok (.str x)) (h2 : b ρ = .ok (.str y)) : eTup (eCons a (eCons b eNil)) ρ = .ok (dSt x y) := by
  simp only [eTup_ap, eCons_ap, eNil_ap, h1, h2, R.bnd_ok]
  rw [if_pos (by simp [LINE])]
theorem pairs_ok {tl rest ss : List Nat} (h1 : tl.length ≤ 2) (h2 : rest.length ≤ 6) (h3 : 2 ≤ ss.length) (h4 : ss.length ≤ 4) {dr : List Nat} (hd : 0 < dr.length) : ∃ ps : List (List Nat × List Nat), f__law_pairs [dSt tl rest, .str ss, nums dr] = .ok (.lst (ps.map fun q => dSt q.1 q.2)) ∧ ∀ q ∈ ps, q.1.length ≤ 1000 ∧ q.2.length ≤ 1000 := by
  obtain ⟨c0, c1, r, rfl⟩ : ∃ c0 c1 r, ss = c0 :: c1 :: r := by
    match ss, h3 with
    | c0 :: c1 :: r, _ => exact ⟨c0, c1, r, rfl⟩
  have hlen : (c0 :: c1 :: r).length ≤ 4 := h4
  have i0 : idxD (.str (c0 :: c1 :: r)) (.int 0) = .ok (.str [c0]) := idxD_str (k := 0) (by simp)
  have i1 : idxD (.str (c0 :: c1 :: r)) (.int 1) = .ok (.str [c1]) := idxD_str (k := 1) (by simp)
  have hrl := repLen 3 (c0 :: c1 :: r)
  have hrl2 : (rep tl.length [124]).length = tl.length := by rw [repLen]; simp
  have m1 : mulD (.str (c0 :: c1 :: r)) (.int 3) = .ok (.str (rep 3 (c0 :: c1 :: r))) := mulD_str (by refine ⟨by decide, by decide, ?_⟩; unfold LINE; rw [show ((3 : Int).toNat) = 3 from rfl]; omega)
  have m2 : mulD (.str [124]) (.int (tl.length : Nat)) = .ok (.str (rep tl.length [124])) := by
    have := mulD_str (x := [124]) (n := (tl.length : Nat)) (by refine ⟨by omega, by omega, ?_⟩; rw [Int.toNat_natCast]; unfold LINE; simp; omega)
    rw [Int.toNat_natCast] at this
    exact this
  have hq : dr[0] % (c0 :: c1 :: r).length < (c0 :: c1 :: r).length := Nat.mod_lt _ (by simp)
  generalize hss : c0 :: c1 :: r = ss at *
  refine ⟨[(tl, rest), (tl, []), (tl ++ [124], rest), (tl.drop 1, rest), (tl, rest ++ [c0]), (tl, rest ++ rep 3 ss)] ++ [(tl, [124]), (tl, rest.drop 1 ++ [126, 126]), (rep tl.length [124], rest), ((([c0] ++ [124]) ++ [c1]).take tl.length, rest)] ++ [(([126] ++ ss).take tl.length, rest), ([], rest), (tl, [ss[dr[0] % ss.length]])], run_at (s := b__law_pairs) [some (dSt tl rest), some (.str ss), some (nums dr), none, none, none] ?_, fun q hqm => ?_⟩
  · unfold b__law_pairs
    refine wp_seqN (ρ' := [some (dSt tl rest), some (.str ss), some (nums dr), some (.str tl), some (.str rest), none]) (by simp) ?_
    refine wp_seqN (ρ' := [some (dSt tl rest), some (.str ss), some (nums dr), some (.str tl), some (.str rest), some (.lst ([(tl, rest), (tl, []), (tl ++ [124], rest), (tl.drop 1, rest), (tl, rest ++ [c0]), (tl, rest ++ rep 3 ss)].map fun q : List Nat × List Nat => dSt q.1 q.2))]) ?_ ?_
    · rw [sAsg_ap, eLst_ap, eCons_ap, eCons_ap, eCons_ap, eCons_ap, eCons_ap, eCons_ap]
      rw [pr_ap (x := tl) (y := []) (by simp) (by simp), pr_ap (x := tl ++ [124]) (y := rest) (by simp only [e2_ap, eC_ap, eV_succ, eV_zero, R.bnd_ok]; exact addD_str (by simp; unfold LINE; omega)) (by simp), pr_ap (x := tl.drop 1) (y := rest) (by simp only [eSli_ap, pS_ap, pN_ap, eC_ap, eV_succ, eV_zero, R.bnd_ok, optInt_int, sliD_str]; rw [show cut tl (some 1) none = tl.drop 1 from cut_from (j := 1)]) (by simp), pr_ap (x := tl) (y := rest ++ [c0]) (by simp) (by simp only [e2_ap, eC_ap, eV_succ, eV_zero, R.bnd_ok, i0]; exact addD_str (by simp; unfold LINE; omega)), pr_ap (x := tl) (y := rest ++ rep 3 ss) (by simp) (by simp only [e2_ap, eC_ap, eV_succ, eV_zero, R.bnd_ok, m1]; exact addD_str (by unfold LINE; omega))]
      simp only [eV_zero, eNil_ap, R.bnd_ok]
      rw [if_pos (by simp [LINE])]
      simp
    refine wp_seqN (ρ' := [some (dSt tl rest), some (.str ss), some (nums dr), some (.str tl), some (.str rest), some (.lst (([(tl, rest), (tl, []), (tl ++ [124], rest), (tl.drop 1, rest), (tl, rest ++ [c0]), (tl, rest ++ rep 3 ss)] ++ [(tl, [124]), (tl, rest.drop 1 ++ [126, 126]), (rep tl.length [124], rest), ((([c0] ++ [124]) ++ [c1]).take tl.length, rest)]).map fun q : List Nat × List Nat => dSt q.1 q.2))]) ?_ ?_
    · rw [sAsg_ap, e2_ap, eLst_ap, eCons_ap, eCons_ap, eCons_ap, eCons_ap]
      rw [pr_ap (x := tl) (y := [124]) (by simp) (by simp), pr_ap (x := tl) (y := rest.drop 1 ++ [126, 126]) (by simp) (by
        simp only [e2_ap, eSli_ap, pS_ap, pN_ap, eC_ap, eV_succ, eV_zero, R.bnd_ok, optInt_int, sliD_str]
        rw [show cut rest (some 1) none = rest.drop 1 from cut_from (j := 1)]
        exact addD_str (by rw [List.length_drop]; simp; unfold LINE; omega)), pr_ap (x := rep tl.length [124]) (y := rest) (by simp only [e1_ap, e2_ap, eC_ap, eV_succ, eV_zero, R.bnd_ok, lenD_str, m2]) (by simp), pr_ap (x := (([c0] ++ [124]) ++ [c1]).take tl.length) (y := rest) (by
        simp only [e1_ap, e2_ap, eSli_ap, pS_ap, eC_ap, eV_succ, eV_zero, R.bnd_ok, i0, i1, lenD_str, optInt_int]
        rw [addD_str (by simp [LINE])]
        simp only [R.bnd_ok]
        rw [addD_str (by simp [LINE])]
        simp only [R.bnd_ok, sliD_str, cut0]) (by simp)]
      simp only [eV_succ, eV_zero, eNil_ap, R.bnd_ok]
      rw [if_pos (by simp [LINE])]
      simp only [R.bnd_ok]
      rw [addD_lst (by simp [LINE])]
      simp
    · rw [sRet_ap, e2_ap, eLst_ap, eCons_ap, eCons_ap, eCons_ap]
      rw [pr_ap (x := ([126] ++ ss).take tl.length) (y := rest) (by
        simp only [e1_ap, e2_ap, eSli_ap, pS_ap, eC_ap, eV_succ, eV_zero, R.bnd_ok, lenD_str, optInt_int]
        rw [addD_str (by simp; unfold LINE; omega)]
        simp only [R.bnd_ok, sliD_str, cut0]) (by simp), pr_ap (x := []) (y := rest) (by simp) (by simp), pr_ap (x := tl) (y := [ss[dr[0] % ss.length]]) (by simp) (by
        simp only [e1_ap, e2_ap, eC_ap, eV_succ, eV_zero, R.bnd_ok, lenD_str]
        rw [idxN (k := 0) (z := 0) hd rfl]
        simp only [R.bnd_ok]
        rw [modD_nat (by omega)]
        simp only [R.bnd_ok]
        exact idxD_str hq)]
      simp only [eV_succ, eV_zero, eNil_ap, R.bnd_ok]
      rw [if_pos (by simp [LINE])]
      simp only [R.bnd_ok]
      rw [addD_lst (by simp [LINE])]
      simp
  · simp only [List.mem_append, List.mem_cons, List.not_mem_nil, or_false] at hqm
    rcases hqm with ((rfl | rfl | rfl | rfl | rfl | rfl) | (rfl | rfl | rfl | rfl)) | (rfl | rfl | rfl) <;> simp <;> omega
section
variable {ns : List Int} {dr ss : List Nat} {rs : List Ru} {x3 x6 x7 x8 x9 x10 x11 x12 x13 x14 x15 : Option Dat}
theorem plR_zero (t : List Nat) : plR rs t 0 = plcs rs t := rfl
theorem out_bound (ok : okRs rs) {t : List Nat} (ht : t.length ≤ 100) {p : Nat} {o : List Nat} (h : o ++ outF rs t (plR rs t p) = outF rs t (plR rs t 0)) : o.length ≤ 600 := by
  have h1 := congrArg List.length h
  rw [List.length_append] at h1
  have h2 := outF_len ok t (plR rs t 0)
  have h3 : (plR rs t 0).length ≤ t.length := plc_len _ _
  omega
/-- the signs are read one by one -/
theorem read_st (ok : okRs rs) (hx : ∀ x ∈ rs, 124 ∉ x.l) {t : List Nat} (ht : t.length ≤ 100) : wp (sFor (iOf (eV 7)) (gV 10)
    (sSeq (sAsg (gTup 3 (gCons (gV 11) (gCons (gV 12) (gCons (gV 13) gNil)))) (eCall f__law_read (eCons (eV 4) (eCons (eV 8) (eCons (eV 10) eNil)))))
    (sSeq (sIf (tNot (tE (eCall (f__law_same 12) (eCons (eCall f_watch (eCons (eV 4) (eCons (eV 8) (eCons (eV 10) eNil)))) (eCons (eTup (eCons (eV 11) (eCons (eV 12) eNil))) eNil)))))
    (sRet (eC (.bl false)))
    sSkip)
    (sSeq (sAsg (gV 8) (eV 11))
    (sSeq (sAsg (gV 9) (e2 addD (eV 9) (eV 12)))
    (sSeq (sIf (tNot (tE (eCall (f__law_same 12) (eCons (eCall f_leave (eCons (eV 4) (eCons (eV 8) eNil))) (eCons (e2 idxD (eCall f__law_taken (eCons (eV 4) (eCons (eV 8) (eCons (eC (.bl true)) eNil)))) (eC (.int 1))) eNil)))))
    (sRet (eC (.bl false)))
    sSkip)
    (sIf (tE (e2 geD (e1 lenD (e2 idxD (eV 8) (eC (.int 1)))) (eCall f__law_reach (eCons (eV 4) eNil))))
    (sRet (eC (.bl false)))
    sSkip)))))) [some (.lst (ns.map .int)), some (nums dr), some (.str ss), x3, some (dRs rs), some (dRs rs), x6, some (.str t), some (dSt (List.replicate (tS rs) 124) []), some (.str []), x10, x11, x12, x13, x14, x15]) fun f ρ' => f = .nx ∧ ∃ (p : Nat) (rest out : List Nat) (x10 x11 x12 x13 : Option Dat), p ≤ t.length ∧ rest = t.drop p ∧ out ++ outF rs t (plR rs t p) = outF rs t (plR rs t 0) ∧ rest.length < rch rs ∧ ρ' = [some (.lst (ns.map .int)), some (nums dr), some (.str ss), x3, some (dRs rs), some (dRs rs), x6, some (.str t), some (dSt (tlA (tS rs) t p) rest), some (.str out), x10, x11, x12, x13, x14, x15] := by
  have hT := tS_le ok
  have hR := rch_le ok
  have hr0 : 0 < rch rs := by
    have h1 := ok.n1
    have hm := List.getElem_mem (show 0 < rs.length by omega)
    have h2 := (ok.all _ hm).l1
    have h3 := l_rch hm
    omega
  rw [sFor_ap]
  simp only [iOf_ap, eV_succ, eV_zero, R.bnd_ok, itemsD_str, lft_ok]
  show wp (forL _ _ (t.map sg) _) _
  refine wp_for (fun n ρ' => ∃ (p : Nat) (rest out : List Nat) (x10 x11 x12 x13 : Option Dat), p ≤ t.length ∧ rest ++ t.drop n = t.drop p ∧ out ++ outF rs t (plR rs t p) = outF rs t (plR rs t 0) ∧ rest.length < rch rs ∧ ρ' = [some (.lst (ns.map .int)), some (nums dr), some (.str ss), x3, some (dRs rs), some (dRs rs), x6, some (.str t), some (dSt (tlA (tS rs) t p) rest), some (.str out), x10, x11, x12, x13, x14, x15]) ⟨0, [], [], x10, x11, x12, x13, Nat.zero_le _, by simp, by simp, by simpa using hr0, by rw [tlA_zero]⟩ (fun n d ρ hn ⟨p, rest, out, x10, x11, x12, x13, hp, hm, ho, hr, e⟩ => ?_) (fun ρ ⟨p, rest, out, x10, x11, x12, x13, hp, hm, ho, hr, e⟩ => ⟨rfl, p, rest, out, x10, x11, x12, x13, hp, by rw [List.length_map, List.drop_of_length_le (Nat.le_refl _), List.append_nil] at hm; exact hm, ho, hr, e⟩)
  obtain ⟨hn2, rfl⟩ := map_get hn
  subst e
  rw [List.drop_eq_getElem_cons hn2] at hm
  have hm2 : (rest ++ [t[n]]) ++ t.drop (n + 1) = t.drop p := by rw [← hm]; simp
  generalize t[n] = c at hm2
  have htl := tlA_len (T := tS rs) hp
  obtain ⟨p', rest', o, nu, g1, g2, g3, g4, g5, g6, g7⟩ := stream ok hx false (t.drop (n + 1)) (fun z => by cases z) _ p (rest ++ [c]) rfl hp hm2
  have htl' := tlA_len (T := tS rs) g3
  have ho2 : (out ++ o) ++ outF rs t (plR rs t p') = outF rs t (plR rs t 0) := by rw [List.append_assoc, g5, ho]
  have hob := out_bound ok ht ho2
  rw [List.length_append] at hob
  refine ⟨_, by simp only [gV_succ, gV_zero, R.bnd_ok]; rfl, ?_⟩
  refine wp_seqN (ρ' := [some (.lst (ns.map .int)), some (nums dr), some (.str ss), x3, some (dRs rs), some (dRs rs), x6, some (.str t), some (dSt (tlA (tS rs) t p) rest), some (.str out), some (sg c), some (dSt (tlA (tS rs) t p') rest'), some (.str o), some (.lst (nu.map .int)), x14, x15]) ?_ ?_
  · simp only [sAsg_ap, eCall_ap, eCons_ap, eNil_ap, eV_succ, eV_zero, R.bnd_ok, (read_eq ok c htl (show rest.length + 1 ≤ 1000 by omega)).2, g1, dTk, lft_ok]
    simp
  refine wp_seqN (ρ' := [some (.lst (ns.map .int)), some (nums dr), some (.str ss), x3, some (dRs rs), some (dRs rs), x6, some (.str t), some (dSt (tlA (tS rs) t p) rest), some (.str out), some (sg c), some (dSt (tlA (tS rs) t p') rest'), some (.str o), some (.lst (nu.map .int)), x14, x15]) ?_ ?_
  · simp only [sIf_ap, tNot_ap, tE_ap, eCall_ap, eTup_ap, eCons_ap, eNil_ap, eV_succ, eV_zero, R.bnd_ok, watch_eq ok c htl (show rest.length + 1 ≤ 1000 by omega), g1]
    rw [if_pos (by simp [LINE])]
    simp only [R.bnd_ok]
    rw [same12 (show gd 11 (.tup [dSt (tlA (tS rs) t p') rest', .str o]) from ⟨by simp [LINE], fun d hd => by
      simp only [List.mem_cons, List.not_mem_nil, or_false] at hd
      rcases hd with rfl | rfl
      · refine ⟨by simp [LINE], fun d hd => ?_⟩
        simp only [List.mem_cons, List.not_mem_nil, or_false] at hd
        rcases hd with rfl | rfl <;> trivial
      · trivial⟩)]
    simp
  refine wp_seqN (ρ' := [some (.lst (ns.map .int)), some (nums dr), some (.str ss), x3, some (dRs rs), some (dRs rs), x6, some (.str t), some (dSt (tlA (tS rs) t p') rest'), some (.str out), some (sg c), some (dSt (tlA (tS rs) t p') rest'), some (.str o), some (.lst (nu.map .int)), x14, x15]) (by simp only [sAsg_ap, eV_succ, eV_zero, lft_ok, gV_succ, gV_zero, R.bnd_ok, gok_ok]) ?_
  refine wp_seqN (ρ' := [some (.lst (ns.map .int)), some (nums dr), some (.str ss), x3, some (dRs rs), some (dRs rs), x6, some (.str t), some (dSt (tlA (tS rs) t p') rest'), some (.str (out ++ o)), some (sg c), some (dSt (tlA (tS rs) t p') rest'), some (.str o), some (.lst (nu.map .int)), x14, x15]) ?_ ?_
  · simp only [sAsg_ap, e2_ap, eV_succ, eV_zero, R.bnd_ok]
    rw [addD_str (by unfold LINE; omega)]
    simp only [lft_ok, gV_succ, gV_zero, R.bnd_ok, gok_ok]
  refine wp_seqN (ρ' := [some (.lst (ns.map .int)), some (nums dr), some (.str ss), x3, some (dRs rs), some (dRs rs), x6, some (.str t), some (dSt (tlA (tS rs) t p') rest'), some (.str (out ++ o)), some (sg c), some (dSt (tlA (tS rs) t p') rest'), some (.str o), some (.lst (nu.map .int)), x14, x15]) ?_ ?_
  · have hi : idxD (dTk (tkF rs true (tlA (tS rs) t p') rest')) (.int 1) = .ok (.str (tkF rs true (tlA (tS rs) t p') rest').2.2.1) := idxD_tup (k := 1) (by simp)
    simp only [sIf_ap, tNot_ap, tE_ap, eCall_ap, eCons_ap, eNil_ap, e2_ap, eC_ap, eV_succ, eV_zero, R.bnd_ok, leave_eq ok htl' (show rest'.length ≤ 1000 by omega), ltaken_eq ok htl' (show rest'.length ≤ 1000 by omega) true, hi, same12 (show gd 11 (.str (tkF rs true (tlA (tS rs) t p') rest').2.2.1) from trivial), tru_bl, Bool.not_true, lft_ok, Bool.false_eq_true, if_false, sSkip_ap]
  · simp only [sIf_ap, tE_ap, eCall_ap, eCons_ap, eNil_ap, e1_ap, e2_ap, eC_ap, eV_succ, eV_zero, R.bnd_ok, s_1, lenD_str, lreach_eq ok, geD_int, leI, tru_bl, lft_ok]
    rw [decide_eq_false (show ¬ rch rs ≤ rest'.length by omega)]
    simp only [Bool.false_eq_true, if_false, sSkip_ap, wp_some]
    exact ⟨.inl trivial, p', rest', out ++ o, _, _, _, _, g3, g4, ho2, g6, rfl⟩
theorem st6 (hns : ns.length ≤ 63) (ok : okRs rs) (hx : ∀ x ∈ rs, 124 ∉ x.l) (h2 : 2 ≤ ss.length) (h4 : ss.length ≤ 4) (hd : dr.length = 8) : wp (t_law_6 [some (.lst (ns.map .int)), some (nums dr), some (.str ss), x3, some (dRs rs), some (dRs rs), x6, x7, x8, x9, x10, x11, x12, x13, x14, x15]) fun f ρ' => f = .nx ∧ ∃ x6 x7 x8 x9 x10 x11 x12 x13 x14 x15 : Option Dat, ρ' = [some (.lst (ns.map .int)), some (nums dr), some (.str ss), x3, some (dRs rs), some (dRs rs), x6, x7, x8, x9, x10, x11, x12, x13, x14, x15] := by
  have hT := tS_le ok
  have hR := rch_le ok
  unfold t_law_6
  rw [sFor_ap]
  simp only [iR1_ap, eC_ap, R.bnd_ok]
  rw [show rng1 (.int 3) = .ok ((List.range 3).map fun k => .int (k : Nat)) from rng1_nat (n := 3) (by decide)]
  simp only [lft_ok]
  refine wp_for (fun k ρ' => ∃ x6 x7 x8 x9 x10 x11 x12 x13 x14 x15 : Option Dat, ρ' = [some (.lst (ns.map .int)), some (nums dr), some (.str ss), x3, some (dRs rs), some (dRs rs), x6, x7, x8, x9, x10, x11, x12, x13, x14, x15]) ⟨x6, x7, x8, x9, x10, x11, x12, x13, x14, x15, rfl⟩ (fun k d ρ hk ⟨x6, x7, x8, x9, x10, x11, x12, x13, x14, x15, e⟩ => ?_) (fun ρ h => ⟨rfl, h⟩)
  obtain ⟨hk2, rfl⟩ := range_get hk
  subst e
  refine ⟨_, by simp only [gV_succ, gV_zero, R.bnd_ok]; rfl, ?_⟩
  obtain ⟨t, ht, htl⟩ := text_ok ns hns (2 + k) (signs := ss) (fun e => by rw [e] at h2; simp at h2)
  refine wp_seqN (ρ' := [some (.lst (ns.map .int)), some (nums dr), some (.str ss), x3, some (dRs rs), some (dRs rs), some (.int (k : Nat)), some (.str t), x8, x9, x10, x11, x12, x13, x14, x15]) ?_ ?_
  · simp only [sAsg_ap, eCall_ap, eCons_ap, eNil_ap, e2_ap, eC_ap, eV_succ, eV_zero, R.bnd_ok, addD_int]
    rw [show ((2 : Int) + (k : Int)) = ((2 + k : Nat) : Int) by omega, ht]
    simp only [lft_ok, gV_succ, gV_zero, R.bnd_ok, gok_ok]
  refine wp_seqN (ρ' := [some (.lst (ns.map .int)), some (nums dr), some (.str ss), x3, some (dRs rs), some (dRs rs), some (.int (k : Nat)), some (.str t), some (dSt (List.replicate (tS rs) 124) []), x9, x10, x11, x12, x13, x14, x15]) (by simp only [sAsg_ap, eCall_ap, eCons_ap, eNil_ap, eV_succ, eV_zero, R.bnd_ok, lfirst_eq ok, lft_ok, gV_succ, gV_zero, gok_ok]) ?_
  refine wp_seqN (ρ' := [some (.lst (ns.map .int)), some (nums dr), some (.str ss), x3, some (dRs rs), some (dRs rs), some (.int (k : Nat)), some (.str t), some (dSt (List.replicate (tS rs) 124) []), some (.str []), x10, x11, x12, x13, x14, x15]) (by simp only [sAsg_ap, eC_ap, lft_ok, gV_succ, gV_zero, R.bnd_ok, gok_ok]) ?_
  refine wp_seqE _ (read_st ok hx (t := t) (by omega)) fun ρ ⟨p, rest, out, x10, x11, x12, x13, hp, hm, ho, hr, e⟩ => ?_
  subst e
  have htlA := tlA_len (T := tS rs) hp
  refine wp_seqN (ρ' := [some (.lst (ns.map .int)), some (nums dr), some (.str ss), x3, some (dRs rs), some (dRs rs), some (.int (k : Nat)), some (.str t), some (dSt (tlA (tS rs) t p) rest), some (.str out), x10, x11, x12, x13, some (.str (outF rs t (plcs rs t))), x15]) (by simp only [sAsg_ap, eCall_ap, eCons_ap, eNil_ap, eV_succ, eV_zero, R.bnd_ok, lspell_eq ok t (show t.length ≤ 1000 by omega), lft_ok, gV_succ, gV_zero, gok_ok]) ?_
  obtain ⟨p', rest', o, nu, g1, g2, g3, g4, g5, g6, g7⟩ := stream ok hx true [] (fun _ => rfl) _ p rest rfl hp (by rw [List.append_nil]; exact hm)
  have hend : t.length ≤ p' := by
    rw [g7 rfl, List.append_nil] at g4
    have := congrArg List.length g4
    rw [List.length_drop] at this
    simp at this
    omega
  rw [plR_out hend] at g5
  have ho2 : out ++ o = outF rs t (plcs rs t) := by
    rw [← plR_zero, ← ho, ← g5]
    simp [outF]
  have hob := outF_len ok t (plcs rs t)
  have hpl := plcs_len rs t
  rw [← ho2, List.length_append] at hob
  refine wp_seqN (ρ' := [some (.lst (ns.map .int)), some (nums dr), some (.str ss), x3, some (dRs rs), some (dRs rs), some (.int (k : Nat)), some (.str t), some (dSt (tlA (tS rs) t p) rest), some (.str out), x10, x11, x12, x13, some (.str (outF rs t (plcs rs t))), x15]) ?_ ?_
  · simp only [sIf_ap, tOr_ap, tNot_ap, tE_ap, eCall_ap, eCons_ap, eNil_ap, e2_ap, eV_succ, eV_zero, R.bnd_ok, leave_eq ok htlA (show rest.length ≤ 1000 by omega), g1]
    rw [addD_str (by unfold LINE; omega)]
    simp only [R.bnd_ok, ho2, neD_str, tru_bl]
    rw [show (!(outF rs t (plcs rs t) == outF rs t (plcs rs t))) = false by simp]
    simp only [Bool.false_eq_true, if_false, spell_eq ok t (show t.length ≤ 1000 by omega), R.bnd_ok, same12 (show gd 11 (.str (outF rs t (plcs rs t))) from trivial), tru_bl, Bool.not_true, lft_ok, sSkip_ap]
  obtain ⟨ps, hps, hpb⟩ := pairs_ok (tl := tlA (tS rs) t p) (rest := rest) (ss := ss) (by omega) (by omega) h2 h4 (dr := dr.drop 3) (by rw [List.length_drop]; omega)
  rw [sFor_ap]
  simp only [iOf_ap, eCall_ap, eCons_ap, eNil_ap, eSli_ap, pS_ap, pN_ap, eC_ap, eV_succ, eV_zero, R.bnd_ok, optInt_int, sliD_lst]
  rw [show cut (dr.map fun x => Dat.int (x : Nat)) (some 3) none = (dr.drop 3).map fun x => Dat.int (x : Nat) by
    have := cut_from (xs := dr.map fun x => Dat.int (x : Nat)) (j := 3)
    rw [List.map_drop]
    exact this]
  rw [show f__law_pairs [dSt (tlA (tS rs) t p) rest, .str ss, .lst ((dr.drop 3).map fun x => Dat.int (x : Nat))] = .ok (.lst (ps.map fun q => dSt q.1 q.2)) from hps]
  simp only [R.bnd_ok, itemsD_lst, lft_ok]
  refine wp_for (fun j ρ' => ∃ x15 : Option Dat, ρ' = [some (.lst (ns.map .int)), some (nums dr), some (.str ss), x3, some (dRs rs), some (dRs rs), some (.int (k : Nat)), some (.str t), some (dSt (tlA (tS rs) t p) rest), some (.str out), x10, x11, x12, x13, some (.str (outF rs t (plcs rs t))), x15]) ⟨x15, rfl⟩ (fun j d ρ hj ⟨x15, e⟩ => ?_) (fun ρ ⟨x15, e⟩ => ⟨.inl rfl, _, _, _, _, _, _, _, _, _, _, e⟩)
  obtain ⟨hj2, rfl⟩ := map_get hj
  subst e
  obtain ⟨b1, b2⟩ := hpb _ (List.getElem_mem hj2)
  generalize ps[j] = q at b1 b2
  refine ⟨_, by simp only [gV_succ, gV_zero, R.bnd_ok]; rfl, ?_⟩
  simp only [sIf_ap, tNot_ap, tE_ap, eCall_ap, eCons_ap, eNil_ap, eV_succ, eV_zero, R.bnd_ok, is_state_eq ok b1 b2 (show ss.length ≤ 1000 by omega), lis_state_eq ok b1 b2 (show ss.length ≤ 1000 by omega), same12 (show gd 11 (.bl (isSt rs ss q.1 q.2)) from trivial), tru_bl, Bool.not_true, lft_ok, Bool.false_eq_true, if_false, sSkip_ap, wp_some]
  exact ⟨.inl trivial, _, rfl⟩
end
theorem sizes4 : ∀ m : Nat, m < 4 → ∃ p q r : Nat, (1 ≤ p ∧ p ≤ 4) ∧ q ≤ 2 ∧ r ≤ 2 ∧ idxD (.lst [.lst [.int 1, .int 1, .int 1], .lst [.int 2, .int 1, .int 2], .lst [.int 3, .int 2, .int 2], .lst [.int 4, .int 2, .int 2]]) (.int m) = .ok (.lst [.int p, .int q, .int r])
  | 0, _ => ⟨1, 1, 1, by decide, by decide, by decide, rfl⟩
  | 1, _ => ⟨2, 1, 2, by decide, by decide, by decide, rfl⟩
  | 2, _ => ⟨3, 2, 2, by decide, by decide, by decide, rfl⟩
  | 3, _ => ⟨4, 2, 2, by decide, by decide, by decide, rfl⟩
  | _ + 4, h => by omega
theorem dR_shp (x : Ru) : shp 3 (dR x) = true := by
  unfold dR shp
  simp only [shpL, Bool.and_eq_true]
  refine ⟨rfl, rfl, ?_, ?_, trivial⟩
  · unfold shp
    exact shpL_strs _ 1
  · unfold shp
    exact shpL_strs _ 1
theorem law_true : ∀ ns : List Int, ns.length ≤ 63 → f_law [.lst (ns.map .int)] = .ok (.bl true) := by
  intro ns hns
  obtain ⟨z1, hz1⟩ := cellK ns hns 1
  obtain ⟨dr, hdr, hd, hlt⟩ := numsK z1 8 (by decide)
  have hm3 : dr[1]'(by omega) % 3 < 3 := Nat.mod_lt _ (by decide)
  obtain ⟨ss, hss, hsl, hs124⟩ := signs_ok (dr[0]'(by omega)) (2 + dr[1]'(by omega) % 3) (hlt _ (List.getElem_mem _)) (by omega)
  obtain ⟨a, b, c, ha, hb, hc, hsz⟩ := sizes4 (dr[2]'(by omega) % 4) (Nat.mod_lt _ (by decide))
  have hs0 : ss ≠ [] := fun e => by rw [e] at hsl; simp at hsl; omega
  obtain ⟨rs, hrs, ok, hmem⟩ := rules_ok ns hns (signs := ss) (out := [120, 121] ++ ss) hs0 (by omega) (by simp) a b c ha hb hc
  have hx : ∀ x ∈ rs, 124 ∉ x.l := fun x hx z => hs124 124 (hmem x hx 124 z) rfl
  refine run_at (s := b_law) [some (.lst (ns.map .int)), none, none, none, none, none, none, none, none, none, none, none, none, none, none, none] ?_
  unfold b_law
  refine wp_seqN (ρ' := [some (.lst (ns.map .int)), some (nums dr), none, none, none, none, none, none, none, none, none, none, none, none, none, none]) ?_ ?_
  · unfold t_law_0
    simp only [sAsg_ap, eCall_ap, eCons_ap, eNil_ap, eV_zero, eC_ap, R.bnd_ok]
    rw [show f__law_cell [.lst (ns.map .int), .int 1] = .ok (.int z1) from hz1]
    simp only [R.bnd_ok]
    rw [show f__law_numbers [.int z1, .int 8, .int 5040] = .ok (nums dr) from hdr]
    simp only [lft_ok, gV_succ, gV_zero, R.bnd_ok, gok_ok]
  refine wp_seqN (ρ' := [some (.lst (ns.map .int)), some (nums dr), some (.str ss), none, none, none, none, none, none, none, none, none, none, none, none, none]) ?_ ?_
  · unfold t_law_1
    simp only [sAsg_ap, eCall_ap, eCons_ap, eNil_ap, e2_ap, eV_succ, eV_zero, eC_ap, R.bnd_ok]
    rw [idxN (k := 0) (z := 0) (by omega) rfl, idxN (k := 1) (z := 1) (by omega) rfl]
    simp only [R.bnd_ok]
    rw [show modD (.int (dr[1]'(by omega) : Nat)) (.int 3) = .ok (.int ((dr[1]'(by omega) % 3 : Nat) : Int)) from modD_nat (j := 3) (by decide)]
    simp only [R.bnd_ok, addD_int]
    rw [show ((2 : Int) + ((dr[1]'(by omega) % 3 : Nat) : Int)) = ((2 + dr[1]'(by omega) % 3 : Nat) : Int) by omega, hss]
    simp only [lft_ok, gV_succ, gV_zero, R.bnd_ok, gok_ok]
  refine wp_seqN (ρ' := [some (.lst (ns.map .int)), some (nums dr), some (.str ss), some (.lst [.int a, .int b, .int c]), none, none, none, none, none, none, none, none, none, none, none, none]) ?_ ?_
  · unfold t_law_2
    rw [sAsg_ap, e2_ap]
    rw [show eLst (eCons (eLst (eCons (eC (.int 1)) (eCons (eC (.int 1)) (eCons (eC (.int 1)) eNil)))) (eCons (eLst (eCons (eC (.int 2)) (eCons (eC (.int 1)) (eCons (eC (.int 2)) eNil)))) (eCons (eLst (eCons (eC (.int 3)) (eCons (eC (.int 2)) (eCons (eC (.int 2)) eNil)))) (eCons (eLst (eCons (eC (.int 4)) (eCons (eC (.int 2)) (eCons (eC (.int 2)) eNil)))) eNil)))) [some (.lst (ns.map .int)), some (nums dr), some (.str ss), none, none, none, none, none, none, none, none, none, none, none, none, none] = .ok (.lst [.lst [.int 1, .int 1, .int 1], .lst [.int 2, .int 1, .int 2], .lst [.int 3, .int 2, .int 2], .lst [.int 4, .int 2, .int 2]]) from by simp [LINE]]
    simp only [e2_ap, eV_succ, eV_zero, eC_ap, R.bnd_ok]
    rw [idxN (k := 2) (z := 2) (by omega) rfl]
    simp only [R.bnd_ok]
    rw [show modD (.int (dr[2]'(by omega) : Nat)) (.int 4) = .ok (.int ((dr[2]'(by omega) % 4 : Nat) : Int)) from modD_nat (j := 4) (by decide)]
    simp only [R.bnd_ok, hsz, lft_ok, gV_succ, gV_zero, gok_ok]
  refine wp_seqN (ρ' := [some (.lst (ns.map .int)), some (nums dr), some (.str ss), some (.lst [.int a, .int b, .int c]), some (dRs rs), none, none, none, none, none, none, none, none, none, none, none]) ?_ ?_
  · unfold t_law_3
    simp only [sAsg_ap, eCall_ap, eCons_ap, eNil_ap, e2_ap, eV_succ, eV_zero, eC_ap, R.bnd_ok]
    rw [addD_str (by simp; unfold LINE; omega)]
    simp only [R.bnd_ok, hrs, lft_ok, gV_succ, gV_zero, gok_ok]
  refine wp_seqN (ρ' := [some (.lst (ns.map .int)), some (nums dr), some (.str ss), some (.lst [.int a, .int b, .int c]), some (dRs rs), some (dRs rs), none, none, none, none, none, none, none, none, none, none]) (by
    simp only [sAsg_ap, e1_ap, eV_succ, eV_zero, R.bnd_ok]
    rw [show listD (dRs rs) = .ok (dRs rs) from rfl]
    simp only [lft_ok, gV_succ, gV_zero, R.bnd_ok, gok_ok]) ?_
  refine wp_seqN (ρ' := [some (.lst (ns.map .int)), some (nums dr), some (.str ss), some (.lst [.int a, .int b, .int c]), some (dRs rs), some (dRs rs), none, none, none, none, none, none, none, none, none, none]) ?_ ?_
  · unfold t_law_5
    simp only [sIf_ap, tOr_ap, tNot_ap, tE_ap, eCall_ap, eCons_ap, eNil_ap, eV_succ, eV_zero, R.bnd_ok, reach_eq ok, lreach_eq ok, same12 (show gd 11 (.int (rch rs : Nat)) from trivial), tru_bl, Bool.not_true, Bool.false_eq_true, if_false, first_eq ok, lfirst_eq ok]
    rw [same12 (show gd 11 (dSt (List.replicate (tS rs) 124) []) from ⟨by simp [LINE], fun d hd => by
      simp only [List.mem_cons, List.not_mem_nil, or_false] at hd
      rcases hd with rfl | rfl <;> trivial⟩)]
    simp
  refine wp_seqE _ (st6 hns ok hx (by omega) (by omega) hd) fun ρ ⟨x6, x7, x8, x9, x10, x11, x12, x13, x14, x15, e⟩ => ?_
  subst e
  have hsh : shp DEEP (dRs rs) = true := by
    unfold DEEP shp
    refine shpL_of fun d hd => ?_
    obtain ⟨x, _, rfl⟩ := List.mem_map.mp hd
    exact shp_le (by decide) (dR_shp x)
  simp only [sRet_ap, e2_ap, eV_succ, eV_zero, R.bnd_ok, eqD_refl hsh, lft_ok, wp_some, endR_rt]
end PL.K43

set_option maxRecDepth 100000
open PySem PySem.W PyProof.Rows
set_option maxHeartbeats 0 in
theorem PySem.Challenge.cw_lettersacross_k43_watchers_read_sign_by_holds : PySem.Challenge.rw_lettersacross_k43_watchers_read_sign_by.Holds := by
  w_on; o_law; k_head; (case hw => w_witness2)
  k_fill
  refine L2.walk_of (l := PySem.Challenge.rw_lettersacross_k43_watchers_read_sign_by) (n := 63) (k := 14) (x := "script") (CX := fun w => L2.CX PySem.Challenge.rw_lettersacross_k43_watchers_read_sign_by.prog w) (sp := fun w => PL.spLaw _) rfl (by decide) rfl ⟨rfl, by decide, by decide⟩ (fun w h Y => PySem.W.kIn_of Y) ?F (fun _ _ a ns hl _ hS => ⟨a, ns, rfl, hS, hl, fun _ => rfl⟩) (fun _ _ _ _ _ h => PL.cx_no h)
  case F =>
    intro w mg fa h KX G hmg
    refine' PL.K43.all_mk KX G hmg ?q0 ?q1 ?q2 ?q3 ?q4 ?q5 ?q6 ?q7 ?q8 ?q9 ?q10 ?q11 ?q12 ?q13 ?q14 ?q15 ?q16 ?q17 ?q18 ?q19 ?q20 ?q21 ?q22 ?q23 ?q24 ?q25 ?q26 ?q27 ?q28 ?q29 ?q30 ?q31 ?q32 ?q33 ?q34 ?q35 ?q36 ?q37 ?q38 ?q39 ?q40 ?q41 ?q42 ?q43 ?q44 ?q45 ?q46 ?q47 ?q48 ?q49 ?q50 ?q51 ?q52 ?q53 ?q54 ?q55 ?q56 ?q57 ?q58 ?q59 ?q60 ?q61 ?q62 ?q63 ?q64 ?q65 ?q66 ?q67 ?q68 ?q69 ?q70 ?q71 ?q72 ?q73 ?q74 ?q75 ?q76 ?q77 ?q78 ?q79 ?q80 ?q81 ?q82 ?q83 ?q84 ?q85 ?q86 ?q87 ?q88 ?q89 ?q90 ?q91 ?q92 ?q93 ?q94 ?q95 ?q96 ?q97 ?q98 ?q99 ?q100 ?q101 ?q102 ?q103 ?q104 ?q105 ?q106 ?q107 ?q108 ?q109 ?q110 ?q111 ?q112 ?q113 ?q114 ?q115 ?q116 ?q117 ?q118 ?q119 ?q120 ?q121 ?q122 ?q123 ?q124 ?q125 ?q126 ?q127 ?q128 ?q129 ?q130 ?q131 ?q132 ?q133 ?q134 ?q135 ?q136 ?q137 ?q138 ?q139 ?q140 ?q141 ?q142 ?q143 ?q144 ?q145 ?q146 ?q147 ?q148 ?q149 ?q150 ?q151 ?q152 ?q153 ?q154 ?q155 ?q156 ?q157 ?q158 ?q159 ?q160 ?q161 ?q162 ?q163 ?q164 ?q165 ?q166 ?q167 ?q168 ?q169 ?q170 ?q171 ?q172 ?q173 ?q174 ?q175 ?q176 ?q177 ?q178 ?q179 ?q180 PL.K43.law_true
    (case q0 => k_is)
    (case q1 => k_is)
    (case q2 => k_is)
    (case q3 => k_is)
    (case q4 => k_is)
    (case q5 => k_is)
    (case q6 => k_is)
    (case q7 => k_is)
    (case q8 => k_is)
    (case q9 => k_is)
    (case q10 => k_is)
    (case q11 => k_is)
    (case q12 => k_is)
    (case q13 => k_is)
    (case q14 => k_is)
    (case q15 => k_is)
    (case q16 => k_is)
    (case q17 => k_is)
    (case q18 => k_is)
    (case q19 => k_is)
    (case q20 => k_is)
    (case q21 => k_is)
    (case q22 => k_is)
    (case q23 => k_is)
    (case q24 => k_is)
    (case q25 => k_is)
    (case q26 => k_is)
    (case q27 => k_is)
    (case q28 => k_is)
    (case q29 => k_is)
    (case q30 => k_is)
    (case q31 => k_is)
    (case q32 => k_is)
    (case q33 => k_is)
    (case q34 => k_is)
    (case q35 => k_is)
    (case q36 => k_is)
    (case q37 => k_is)
    (case q38 => k_is)
    (case q39 => k_is)
    (case q40 => k_is)
    (case q41 => k_is)
    (case q42 => k_is)
    (case q43 => k_is)
    (case q44 => k_is)
    (case q45 => k_is)
    (case q46 => k_is)
    (case q47 => k_is)
    (case q48 => k_is)
    (case q49 => k_is)
    (case q50 => k_is)
    (case q51 => k_is)
    (case q52 => k_is)
    (case q53 => k_is)
    (case q54 => k_is)
    (case q55 => k_is)
    (case q56 => k_is)
    (case q57 => k_is)
    (case q58 => k_is)
    (case q59 => k_is)
    (case q60 => k_is)
    (case q61 => k_is)
    (case q62 => k_is)
    (case q63 => k_is)
    (case q64 => k_is)
    (case q65 => k_is)
    (case q66 => k_is)
    (case q67 => k_is)
    (case q68 => k_is)
    (case q69 => k_is)
    (case q70 => k_is)
    (case q71 => k_is)
    (case q72 => k_is)
    (case q73 => k_is)
    (case q74 => k_is)
    (case q75 => k_is)
    (case q76 => k_is)
    (case q77 => k_is)
    (case q78 => k_is)
    (case q79 => k_is)
    (case q80 => k_is)
    (case q81 => k_is)
    (case q82 => k_is)
    (case q83 => k_is)
    (case q84 => k_is)
    (case q85 => k_is)
    (case q86 => k_is)
    (case q87 => k_is)
    (case q88 => k_is)
    (case q89 => k_is)
    (case q90 => k_is)
    (case q91 => k_is)
    (case q92 => k_is)
    (case q93 => k_is)
    (case q94 => k_is)
    (case q95 => k_is)
    (case q96 => k_is)
    (case q97 => k_is)
    (case q98 => k_is)
    (case q99 => k_is)
    (case q100 => k_is)
    (case q101 => k_is)
    (case q102 => k_is)
    (case q103 => k_is)
    (case q104 => k_is)
    (case q105 => k_is)
    (case q106 => k_is)
    (case q107 => k_is)
    (case q108 => k_is)
    (case q109 => k_is)
    (case q110 => k_is)
    (case q111 => k_is)
    (case q112 => k_is)
    (case q113 => k_is)
    (case q114 => k_is)
    (case q115 => k_is)
    (case q116 => k_is)
    (case q117 => k_is)
    (case q118 => k_is)
    (case q119 => k_is)
    (case q120 => k_is)
    (case q121 => k_is)
    (case q122 => k_is)
    (case q123 => k_is)
    (case q124 => k_is)
    (case q125 => k_is)
    (case q126 => k_is)
    (case q127 => k_is)
    (case q128 => k_is)
    (case q129 => k_is)
    (case q130 => k_is)
    (case q131 => k_is)
    (case q132 => k_is)
    (case q133 => k_is)
    (case q134 => k_is)
    (case q135 => k_is)
    (case q136 => k_is)
    (case q137 => k_is)
    (case q138 => k_is)
    (case q139 => k_is)
    (case q140 => k_is)
    (case q141 => k_is)
    (case q142 => k_is)
    (case q143 => k_is)
    (case q144 => k_is)
    (case q145 => k_is)
    (case q146 => k_is)
    (case q147 => k_is)
    (case q148 => k_is)
    (case q149 => k_is)
    (case q150 => k_is)
    (case q151 => k_is)
    (case q152 => k_is)
    (case q153 => k_is)
    (case q154 => k_is)
    (case q155 => k_is)
    (case q156 => k_is)
    (case q157 => k_is)
    (case q158 => k_is)
    (case q159 => k_is)
    (case q160 => k_is)
    (case q161 => k_is)
    (case q162 => k_is)
    (case q163 => k_is)
    (case q164 => k_is)
    (case q165 => k_is)
    (case q166 => k_is)
    (case q167 => k_is)
    (case q168 => k_is)
    (case q169 => k_is)
    (case q170 => k_is)
    (case q171 => k_is)
    (case q172 => k_is)
    (case q173 => k_is)
    (case q174 => k_is)
    (case q175 => k_is)
    (case q177 => k_is)
    (case q176 => first | rfl | decide +kernel)
    (case q178 => k_is)
    (case q179 => k_is)
    (case q180 => k_is)

