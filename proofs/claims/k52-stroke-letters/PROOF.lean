import PyProof.Rows.All
import Wide.All
import OpenK.AllK
import Wide.FinOn
import PySem.PyData
import HandS.ForMost
import HandS.Exc
import HandS.TryOnly
import HandS.TryMany
import HandS.ExcOwn
import HandS.ExcIs
import HandS.WordsExc
import HandS.StrMore
import HandS.IsInst
import HandS.TupAny
import HandS.Style
import HandS.Wide
import HandS.Replace
import HandS.Codes
import HandS.Small
import HandS.Iter
import HandS.Ends
import PySem.Challenge.RW_lettersacross_k52_stroke_letters_there_a
set_option Elab.async false
set_option linter.all false
set_option autoImplicit true
namespace PL

/-- plain data: what a value is, its lists and tuples and dicts with it -/
inductive Dat where
  | non | bl (b : Bool) | int (i : Int) | str (s : List Nat) | lst (xs : List Dat) | tup (xs : List Dat) | dic (kvs : List (Dat × Dat)) | exc (c : Nat)
  deriving Inhabited

/-- a result: a value, an own error (its class's number), or nothing that is said -/
inductive R (α : Type) where
  | ok (a : α) | exc (c : Nat) | bad

def R.bnd {α β : Type} (r : R α) (f : α → R β) : R β := match r with
  | .ok a => f a
  | .exc c => .exc c
  | .bad => .bad
@[simp] theorem R.bnd_ok {α β : Type} (a : α) (f : α → R β) : (R.ok a).bnd f = f a := Eq.trans rfl rfl
@[simp] theorem R.bnd_exc {α β : Type} (c : Nat) (f : α → R β) : (R.exc c : R α).bnd f = .exc c := Eq.trans rfl rfl
@[simp] theorem R.bnd_bad {α β : Type} (f : α → R β) : (R.bad : R α).bnd f = .bad := Eq.trans rfl rfl
theorem R.bnd_assoc {α β γ : Type} (r : R α) (f : α → R β) (g : β → R γ) : (r.bnd f).bnd g = r.bnd fun a => (f a).bnd g := by cases r <;> rfl

/-- what must hold of a result -/
def Post {α : Type} (r : R α) (p : α → Prop) (x : Nat → Prop) : Prop := match r with
  | .ok a => p a
  | .exc c => x c
  | .bad => False
theorem Post.bnd {α β : Type} {r : R α} {f : α → R β} {p : β → Prop} {x : Nat → Prop} (h : Post (r.bnd f) p x) : Post r (fun a => Post (f a) p x) x := by
  cases r with
  | ok a => exact h
  | exc c => exact h
  | bad => exact h
theorem Post.imp {α : Type} {r : R α} {p q : α → Prop} {x y : Nat → Prop} (h : Post r p x) (hp : ∀ a, p a → q a) (hx : ∀ c, x c → y c) : Post r q y := by
  cases r with
  | ok a => exact hp a h
  | exc c => exact hx c h
  | bad => exact h

/-- the longest list, the longest text -/
def LINE : Nat := 16777216

def guardR {α : Type} (c : Prop) [Decidable c] (a : α) : R α := if c then .ok a else .bad

/-! ### equality -/
def b2i (b : Bool) : Int := if b then 1 else 0
mutual
def eqv : Dat → Dat → Bool
  | .non, .non => true
  | .bl a, .bl b => a == b
  | .bl a, .int j => b2i a == j
  | .int i, .bl b => i == b2i b
  | .int i, .int j => i == j
  | .str x, .str y => x == y
  | .lst xs, .lst ys => eqvL xs ys
  | .tup xs, .tup ys => eqvL xs ys
  | _, _ => false
def eqvL : List Dat → List Dat → Bool
  | [], [] => true
  | x :: xs, y :: ys => eqv x y && eqvL xs ys
  | _, _ => false
end
mutual
/-- data of depth at most n without dicts and errors -/
def shp : Nat → Dat → Bool
  | _, .non => true
  | _, .bl _ => true
  | _, .int _ => true
  | _, .str _ => true
  | n + 1, .lst xs => shpL n xs
  | n + 1, .tup xs => shpL n xs
  | _, _ => false
def shpL : Nat → List Dat → Bool
  | _, [] => true
  | n, x :: xs => shp n x && shpL n xs
end
def DEEP : Nat := 40
def eqD (x y : Dat) : R Dat := if shp DEEP x && shp DEEP y then .ok (.bl (eqv x y)) else .bad
def neD (x y : Dat) : R Dat := if shp DEEP x && shp DEEP y then .ok (.bl (!eqv x y)) else .bad

/-! ### numbers -/
def small64 (i : Int) : Prop := -(2 ^ 64) < i ∧ i < 2 ^ 64
instance (i : Int) : Decidable (small64 i) := by unfold small64; infer_instance
def addD : Dat → Dat → R Dat
  | .int i, .int j => .ok (.int (i + j))
  | .str x, .str y => if x.length + y.length ≤ LINE then .ok (.str (x ++ y)) else .bad
  | .lst x, .lst y => if x.length + y.length ≤ LINE then .ok (.lst (x ++ y)) else .bad
  | .tup x, .tup y => if x.length + y.length ≤ LINE then .ok (.tup (x ++ y)) else .bad
  | _, _ => .bad
/-- of numbers and texts -/
def addF : Dat → Dat → R Dat
  | .int i, .int j => .ok (.int (i + j))
  | .str x, .str y => if x.length + y.length ≤ LINE then .ok (.str (x ++ y)) else .bad
  | _, _ => .bad
def subD : Dat → Dat → R Dat
  | .int i, .int j => .ok (.int (i - j))
  | _, _ => .bad
/-- n times -/
def rep {α : Type} (n : Nat) (xs : List α) : List α := (List.replicate n xs).flatten
def mulD : Dat → Dat → R Dat
  | .int i, .int j => if small64 i ∨ small64 j then .ok (.int (i * j)) else .bad
  | .str x, .int n => if -(2 ^ 63) ≤ n ∧ n < 2 ^ 63 ∧ x.length * n.toNat ≤ LINE then .ok (.str (rep n.toNat x)) else .bad
  | _, _ => .bad
/-- [..] * n -/
def repD : Dat → Dat → R Dat
  | .lst x, .int n => if -(2 ^ 63) ≤ n ∧ n < 2 ^ 63 ∧ x.length * n.toNat ≤ LINE then .ok (.lst (rep n.toNat x)) else .bad
  | _, _ => .bad
def fdivD : Dat → Dat → R Dat
  | .int i, .int j => if 0 < j ∧ j < 1073741824 then .ok (.int (i / j)) else .bad
  | _, _ => .bad
def modD : Dat → Dat → R Dat
  | .int i, .int j => if 0 < j then .ok (.int (i % j)) else .bad
  | _, _ => .bad
def powD : Dat → Dat → R Dat
  | .int i, .int j => if 0 ≤ j ∧ j ≤ 1000000 ∧ i.natAbs < 2 ^ 64 then .ok (.int (i ^ j.toNat)) else .bad
  | _, _ => .bad
def negD : Dat → R Dat
  | .int i => .ok (.int (-i))
  | _ => .bad

/-! ### order -/
def ltS (x y : List Nat) : Bool := decide (x < y)
def ltD : Dat → Dat → R Dat
  | .int i, .int j => .ok (.bl (decide (i < j)))
  | .str x, .str y => .ok (.bl (ltS x y))
  | _, _ => .bad
def leD : Dat → Dat → R Dat
  | .int i, .int j => .ok (.bl (decide (i ≤ j)))
  | .str x, .str y => .ok (.bl (!ltS y x))
  | _, _ => .bad
def gtD (x y : Dat) : R Dat := match x, y with
  | .int i, .int j => .ok (.bl (decide (j < i)))
  | .str x, .str y => .ok (.bl (ltS y x))
  | _, _ => .bad
def geD (x y : Dat) : R Dat := match x, y with
  | .int i, .int j => .ok (.bl (decide (j ≤ i)))
  | .str x, .str y => .ok (.bl (!ltS x y))
  | _, _ => .bad

/-! ### is None, not, truth -/
def isN : Dat → R Dat
  | .non => .ok (.bl true)
  | .exc _ => .bad
  | _ => .ok (.bl false)
def notN : Dat → R Dat
  | .non => .ok (.bl false)
  | .exc _ => .bad
  | _ => .ok (.bl true)
/-- truth, of boolsOf alone -/
def tru : Dat → R Bool
  | .bl b => .ok b
  | _ => .bad

/-! ### places -/
/-- the place that an index means in a row of so many -/
def placeOf (i : Int) (n : Nat) : Option Nat := if 0 ≤ i then (if i < n then some i.toNat else none) else if -(n : Int) ≤ i then some (i + n).toNat else none
def atPlace {α : Type} (xs : List α) (i : Int) : Option α := (placeOf i xs.length).bind fun k => xs[k]?
/-- where a slice begins or ends in a row of n -/
def cutAt (n : Nat) (dflt : Nat) : Option Int → Nat
  | none => dflt
  | some i => if i < 0 then (i + (n : Int)).toNat else min i.toNat n
def cut {α : Type} (xs : List α) (lo hi : Option Int) : List α := (xs.drop (cutAt xs.length 0 lo)).take (cutAt xs.length xs.length hi - cutAt xs.length 0 lo)
def keyEq (k : Dat) (p : Dat × Dat) : Bool := eqv p.1 k
def dicGet (kvs : List (Dat × Dat)) (k : Dat) : Option Dat := (kvs.find? (keyEq k)).map (·.2)
/-- keys of dicts: intsOf and texts -/
def isKey : Dat → Bool
  | .int _ => true
  | .str _ => true
  | _ => false
def idxD : Dat → Dat → R Dat
  | .lst xs, .int i => match atPlace xs i with | some d => .ok d | none => .bad
  | .tup xs, .int i => match atPlace xs i with | some d => .ok d | none => .bad
  | .str s, .int i => match atPlace s i with | some c => .ok (.str [c]) | none => .bad
  | .dic kvs, k => if isKey k then (match dicGet kvs k with | some d => .ok d | none => .bad) else .bad
  | _, _ => .bad
def optInt : Dat → R (Option Int)
  | .int i => .ok (some i)
  | _ => .bad
def sliD (lo hi : Option Int) : Dat → R Dat
  | .lst xs => .ok (.lst (cut xs lo hi))
  | .tup xs => .ok (.tup (cut xs lo hi))
  | .str s => .ok (.str (cut s lo hi))
  | _ => .bad
/-- x[::-1] -/
def revD : Dat → R Dat
  | .lst xs => .ok (.lst xs.reverse)
  | .str s => .ok (.str s.reverse)
  | _ => .bad

/-! ### in -/
/-- one row stands within another from a place on -/
def begins {α : Type} [BEq α] : List α → List α → Bool
  | [], _ => true
  | _ :: _, [] => false
  | x :: xs, y :: ys => x == y && begins xs ys
def within : List Nat → List Nat → Bool
  | z, [] => begins z []
  | z, y :: ys => begins z (y :: ys) || within z ys
def inD : Dat → Dat → R Dat
  | x, .lst ys => if shp DEEP x && shpL DEEP ys then .ok (.bl (ys.any fun y => eqv y x)) else .bad
  | x, .tup ys => if shp DEEP x && shpL DEEP ys then .ok (.bl (ys.any fun y => eqv y x)) else .bad
  | .str x, .str y => .ok (.bl (within x y))
  | x, .dic kvs => if isKey x then .ok (.bl (dicGet kvs x).isSome) else .bad
  | _, _ => .bad
def notB : Dat → R Dat
  | .bl b => .ok (.bl (!b))
  | _ => .bad
def notInD (x y : Dat) : R Dat := (inD x y).bnd notB

/-! ### calls -/
def lenD : Dat → R Dat
  | .lst xs => .ok (.int xs.length)
  | .tup xs => .ok (.int xs.length)
  | .str s => .ok (.int s.length)
  | .dic kvs => .ok (.int kvs.length)
  | _ => .bad
/-- int(x) of a number or a bool -/
def intD : Dat → R Dat
  | .int i => .ok (.int i)
  | .bl b => .ok (.int (b2i b))
  | _ => .bad
inductive Ty where | int | str | bool | list | tuple | dict
  deriving DecidableEq
def isTy : Ty → Dat → R Dat
  | _, .exc _ => .bad
  | .int, .int _ => .ok (.bl true)
  | .int, .bl _ => .ok (.bl true)
  | .bool, .bl _ => .ok (.bl true)
  | .str, .str _ => .ok (.bl true)
  | .list, .lst _ => .ok (.bl true)
  | .tuple, .tup _ => .ok (.bl true)
  | .dict, .dic _ => .ok (.bl true)
  | _, _ => .ok (.bl false)
def joinS (sep : List Nat) : List (List Nat) → List Nat
  | [] => []
  | [x] => x
  | x :: y :: r => x ++ sep ++ joinS sep (y :: r)
def strsOf : List Dat → Option (List (List Nat))
  | [] => some []
  | .str s :: r => (strsOf r).map (s :: ·)
  | _ :: _ => none
def joinD : Dat → Dat → R Dat
  | .str sep, .lst xs => match strsOf xs with | some ss => if (ss.map (·.length)).sum + ss.length * sep.length ≤ LINE then .ok (.str (joinS sep ss)) else .bad | none => .bad
  | .str sep, .tup xs => match strsOf xs with | some ss => if (ss.map (·.length)).sum + ss.length * sep.length ≤ LINE then .ok (.str (joinS sep ss)) else .bad | none => .bad
  | _, _ => .bad
def boolsOf : List Dat → Option (List Bool)
  | [] => some []
  | .bl b :: r => (boolsOf r).map (b :: ·)
  | _ :: _ => none
def allD : Dat → R Dat
  | .lst xs => match boolsOf xs with | some bs => .ok (.bl (bs.all id)) | none => .bad
  | _ => .bad
def anyD : Dat → R Dat
  | .lst xs => match boolsOf xs with | some bs => .ok (.bl (bs.any id)) | none => .bad
  | _ => .bad
def intsOf : List Dat → Option (List Int)
  | [] => some []
  | .int b :: r => (intsOf r).map (b :: ·)
  | _ :: _ => none
def minI : Int → List Int → Int
  | x, [] => x
  | x, y :: r => minI (if y < x then y else x) r
def maxI : Int → List Int → Int
  | x, [] => x
  | x, y :: r => maxI (if y > x then y else x) r
def minD : Dat → R Dat
  | .lst xs => match intsOf xs with | some (i :: r) => .ok (.int (minI i r)) | _ => .bad
  | _ => .bad
def maxD : Dat → R Dat
  | .lst xs => match intsOf xs with | some (i :: r) => .ok (.int (maxI i r)) | _ => .bad
  | _ => .bad
def min2 : Dat → Dat → R Dat
  | .int i, .int j => .ok (.int (if j < i then j else i))
  | _, _ => .bad
def max2 : Dat → Dat → R Dat
  | .int i, .int j => .ok (.int (if j > i then j else i))
  | _, _ => .bad
def sumD : Dat → R Dat
  | .lst xs => match intsOf xs with | some is => .ok (.int is.sum) | none => .bad
  | _ => .bad
/-- the number of the first place of a sign in a text; a text without it is not asked -/
def indexD : Dat → Dat → R Dat
  | .str s, .str [c] => match s.findIdx? (· == c) with | some k => .ok (.int k) | none => .bad
  | _, _ => .bad
def startsD : Dat → Dat → R Dat
  | .str x, .str y => .ok (.bl (begins y x))
  | _, _ => .bad
def startsAtD : Dat → Dat → Dat → R Dat
  | .str x, .str y, .int i => if 0 ≤ i then (if i ≤ x.length then .ok (.bl (begins y (x.drop i.toNat))) else .ok (.bl false)) else .bad
  | _, _, _ => .bad
def ordD : Dat → R Dat
  | .str [c] => .ok (.int c)
  | _ => .bad
/-- what is walked -/
def signs (s : List Nat) : List Dat := s.map fun c => .str [c]
def itemsD : Dat → R (List Dat)
  | .lst xs => .ok xs
  | .tup xs => .ok xs
  | .str s => .ok (signs s)
  | _ => .bad
def fits62 (i : Int) : Prop := -(2 ^ 62) ≤ i ∧ i < 2 ^ 62
instance (i : Int) : Decidable (fits62 i) := by unfold fits62; infer_instance
/-- lo, lo + 1, .. below hi -/
def upTo (lo hi : Int) : List Int := (List.range (hi - lo).toNat).map fun k => lo + (k : Nat)
/-- lo, lo + st, .. (st > 0) below hi -/
def stepTo (lo hi st : Int) : List Int := (List.range ((hi - lo + st - 1) / st).toNat).map fun k => lo + (k : Nat) * st
def rng1 : Dat → R (List Dat)
  | .int n => if fits62 n then .ok ((upTo 0 n).map .int) else .bad
  | _ => .bad
def rng2 : Dat → Dat → R (List Dat)
  | .int m, .int n => if fits62 m ∧ fits62 n then .ok ((upTo m n).map .int) else .bad
  | _, _ => .bad
def rng3 : Dat → Dat → Dat → R (List Dat)
  | .int m, .int n, .int st => if fits62 m ∧ fits62 n ∧ 0 < st ∧ st < 2 ^ 30 then .ok ((stepTo m n st).map .int) else .bad
  | _, _, _ => .bad
def enumFrom (k : Nat) : List Dat → List Dat
  | [] => []
  | x :: r => .tup [.int k, x] :: enumFrom (k + 1) r
def zipT : List Dat → List Dat → List Dat
  | x :: r, y :: t => .tup [x, y] :: zipT r t
  | _, _ => []
/-- list(x), tuple(x) -/
def listD : Dat → R Dat
  | .lst xs => .ok (.lst xs)
  | .tup xs => .ok (.lst xs)
  | .str s => .ok (.lst (signs s))
  | _ => .bad
def listLD : Dat → R Dat
  | .lst xs => .ok (.lst xs)
  | .tup xs => .ok (.lst xs)
  | _ => .bad
def tupleD : Dat → R Dat
  | .lst xs => .ok (.tup xs)
  | .tup xs => .ok (.tup xs)
  | _ => .bad

/-! ### the slots, expressions -/
abbrev Env := List (Option Dat)
abbrev EM := Env → R Dat
abbrev LM := Env → R (List Dat)
abbrev TM := Env → R Bool
def eV (i : Nat) : EM := fun ρ => match ρ[i]? with
  | some (some d) => .ok d
  | _ => .bad
def eC (d : Dat) : EM := fun _ => .ok d
def e1 (f : Dat → R Dat) (a : EM) : EM := fun ρ => (a ρ).bnd f
def e2 (f : Dat → Dat → R Dat) (a b : EM) : EM := fun ρ => (a ρ).bnd fun x => (b ρ).bnd fun y => f x y
def e3 (f : Dat → Dat → Dat → R Dat) (a b c : EM) : EM := fun ρ => (a ρ).bnd fun x => (b ρ).bnd fun y => (c ρ).bnd fun z => f x y z
def eNil : LM := fun _ => .ok []
def eCons (a : EM) (r : LM) : LM := fun ρ => (a ρ).bnd fun x => (r ρ).bnd fun xs => .ok (x :: xs)
def eLst (as : LM) : EM := fun ρ => (as ρ).bnd fun xs => if xs.length ≤ LINE then .ok (.lst xs) else .bad
def eTup (as : LM) : EM := fun ρ => (as ρ).bnd fun xs => if xs.length ≤ LINE then .ok (.tup xs) else .bad
def eDic0 : EM := fun _ => .ok (.dic [])
/-- the pairs of a display -/
def ePrs : List (EM × EM) → Env → R (List (Dat × Dat))
  | [], _ => .ok []
  | (k, v) :: r, ρ => (k ρ).bnd fun x => (v ρ).bnd fun y => (ePrs r ρ).bnd fun t => .ok ((x, y) :: t)
/-- a text's method with one, two arguments -/
def isS : Dat → R Dat
  | .str s => .ok (.str s)
  | _ => .bad
def eM1 (f : Dat → Dat → R Dat) (a b : EM) : EM := fun ρ => (a ρ).bnd fun x => (isS x).bnd fun x => (b ρ).bnd fun y => f x y
def eM2 (f : Dat → Dat → Dat → R Dat) (a b c : EM) : EM := fun ρ => (a ρ).bnd fun x => (isS x).bnd fun x => (b ρ).bnd fun y => (c ρ).bnd fun z => f x y z
/-- a call of a def -/
def eCall (f : List Dat → R Dat) (as : LM) : EM := fun ρ => (as ρ).bnd f
/-- a op1 b op2 c -/
def eChain (f g : Dat → Dat → R Dat) (a b c : EM) : EM := fun ρ => (a ρ).bnd fun x => (b ρ).bnd fun y => (f x y).bnd fun z => match z with
  | .bl true => (c ρ).bnd fun w => g y w
  | .bl false => .ok (.bl false)
  | _ => .bad
def eAnd (a b : EM) : EM := fun ρ => (a ρ).bnd fun x => match x with
  | .bl true => b ρ
  | .bl false => .ok (.bl false)
  | _ => .bad
def eOr (a b : EM) : EM := fun ρ => (a ρ).bnd fun x => match x with
  | .bl true => .ok (.bl true)
  | .bl false => b ρ
  | _ => .bad
def tE (a : EM) : TM := fun ρ => (a ρ).bnd tru
def tNot (t : TM) : TM := fun ρ => (t ρ).bnd fun b => .ok (!b)
def tAnd (t u : TM) : TM := fun ρ => (t ρ).bnd fun b => if b then u ρ else .ok false
def tOr (t u : TM) : TM := fun ρ => (t ρ).bnd fun b => if b then .ok true else u ρ
def eT (t : TM) : EM := fun ρ => (t ρ).bnd fun b => .ok (.bl b)
def eIf (t : TM) (a b : EM) : EM := fun ρ => (t ρ).bnd fun c => if c then a ρ else b ρ
abbrev PM := Env → R (Option Int)
def pN : PM := fun _ => .ok none
def pS (e : EM) : PM := fun ρ => (e ρ).bnd optInt
def eSli (lo hi : PM) (a : EM) : EM := fun ρ => (a ρ).bnd fun x => (lo ρ).bnd fun l => (hi ρ).bnd fun h => sliD l h x

/-! ### what is walked; targets; comprehensions -/
def iOf (a : EM) : LM := fun ρ => (a ρ).bnd itemsD
def iR1 (a : EM) : LM := fun ρ => (a ρ).bnd rng1
def iR2 (a b : EM) : LM := fun ρ => (a ρ).bnd fun x => (b ρ).bnd fun y => rng2 x y
def iR3 (a b c : EM) : LM := fun ρ => (a ρ).bnd fun x => (b ρ).bnd fun y => (c ρ).bnd fun z => rng3 x y z
def lstD : Dat → R (List Dat)
  | .lst xs => .ok xs
  | _ => .bad
def enumD (x : Dat) : R (List Dat) := (lstD x).bnd fun xs => .ok (enumFrom 0 xs)
def zipD (x y : Dat) : R (List Dat) := (lstD x).bnd fun xs => (lstD y).bnd fun ys => .ok (zipT xs ys)
def iEnum (a : EM) : LM := fun ρ => (a ρ).bnd enumD
def iZip (a b : EM) : LM := fun ρ => (a ρ).bnd fun x => (b ρ).bnd fun y => zipD x y
abbrev GM := Dat → Env → R Env
def gV (i : Nat) : GM := fun d ρ => if i < ρ.length then .ok (ρ.set i (some d)) else .bad
abbrev GsM := List Dat → Env → R Env
def gNil : GsM := fun ds ρ => match ds with | [] => .ok ρ | _ => .bad
def gCons (g : GM) (r : GsM) : GsM := fun ds ρ => match ds with | d :: t => (g d ρ).bnd fun ρ' => r t ρ' | [] => .bad
def gTup (n : Nat) (g : GsM) : GM := fun d ρ => match d with | .tup xs => if xs.length = n then g xs ρ else .bad | _ => .bad

def wipe (ρ : Env) : List Nat → Env
  | [] => ρ
  | v :: vs => (wipe ρ vs).set v none
/-- an own error within a comprehension is not spoken of -/
def noX {α : Type} : R α → R α
  | .ok a => .ok a
  | _ => .bad
/-- the items that a comprehension makes -/
def compL (g : GM) (t : TM) (e : EM) (ρ : Env) : List Dat → R (List Dat)
  | [] => .ok []
  | d :: r => (noX (g d ρ)).bnd fun ρ' => (noX (t ρ')).bnd fun b =>
    if b then (noX (e ρ')).bnd fun y => (compL g t e ρ r).bnd fun ys => .ok (y :: ys) else compL g t e ρ r
def eComp (src : LM) (own : List Nat) (g : GM) (t : TM) (e : EM) : EM := fun ρ => (src ρ).bnd fun ds => (compL g t e (wipe ρ own) ds).bnd fun ys => if ys.length ≤ LINE then .ok (.lst ys) else .bad
def tYes : TM := fun _ => .ok true

/-! ### statements -/
inductive Fl where
  | nx | bk | ct | rt (d : Dat) | ex (c : Nat)
/-- how a statement ends; none: nothing is said -/
abbrev O := Option (Fl × Env)
abbrev SM := Env → O
def lft {α : Type} (r : R α) (ρ : Env) (k : α → O) : O := match r with
  | .ok a => k a
  | .exc c => some (.ex c, ρ)
  | .bad => none
@[simp] theorem lft_ok {α : Type} (a : α) (ρ : Env) (k : α → O) : lft (R.ok a) ρ k = k a := Eq.trans rfl rfl
@[simp] theorem lft_exc {α : Type} (c : Nat) (ρ : Env) (k : α → O) : lft (R.exc c : R α) ρ k = some (.ex c, ρ) := Eq.trans rfl rfl
@[simp] theorem lft_bad {α : Type} (ρ : Env) (k : α → O) : lft (R.bad : R α) ρ k = none := Eq.trans rfl rfl
/-- what a target leaves -/
def gok (r : R Env) (k : Env → O) : O := match r with
  | .ok a => k a
  | _ => none
@[simp] theorem gok_ok (a : Env) (k : Env → O) : gok (R.ok a) k = k a := Eq.trans rfl rfl
@[simp] theorem gok_bad (k : Env → O) : gok R.bad k = none := Eq.trans rfl rfl
def sSkip : SM := fun ρ => some (.nx, ρ)
def sAsg (g : GM) (e : EM) : SM := fun ρ => lft (e ρ) ρ fun d => gok (g d ρ) fun ρ' => some (.nx, ρ')
/-- a new list or dict, the def's own from here on -/
def sNew (i : Nat) (e : EM) : SM := fun ρ => lft (e ρ) ρ fun d => match d with
  | .lst xs => if i < ρ.length then some (.nx, ρ.set i (some (.lst xs))) else none
  | .dic xs => if i < ρ.length then some (.nx, ρ.set i (some (.dic xs))) else none
  | _ => none
def sDrop (e : EM) : SM := fun ρ => lft (e ρ) ρ fun _ => some (.nx, ρ)
def sRet (e : EM) : SM := fun ρ => lft (e ρ) ρ fun d => some (.rt d, ρ)
def sRaise (c : Nat) : SM := fun ρ => some (.ex c, ρ)
def sBrk : SM := fun ρ => some (.bk, ρ)
def sCnt : SM := fun ρ => some (.ct, ρ)
def sSeq (a b : SM) : SM := fun ρ => match a ρ with
  | some (.nx, ρ') => b ρ'
  | r => r
def sIf (t : TM) (a b : SM) : SM := fun ρ => lft (t ρ) ρ fun c => if c then a ρ else b ρ
/-- a op= e at the slot i -/
def sAug (f : Dat → Dat → R Dat) (i : Nat) (e : EM) : SM := sAsg (gV i) (e2 f (eV i) e)
/-- x.append(e), x the list in the slot i -/
def sApp (i : Nat) (e : EM) : SM := fun ρ => match ρ[i]? with
  | some (some (.lst xs)) => lft (e ρ) ρ fun d => if xs.length < LINE then some (.nx, ρ.set i (some (.lst (xs ++ [d])))) else none
  | _ => none
def dicPut (kvs : List (Dat × Dat)) (k v : Dat) : List (Dat × Dat) := if kvs.any (keyEq k) then kvs.map (fun p => if keyEq k p then (p.1, v) else p) else kvs ++ [(k, v)]
/-- {k: v, ..} with keys ints and texts -/
def eDisp (ps : List (EM × EM)) : EM := fun ρ => (ePrs ps ρ).bnd fun t => if t.all (fun p => isKey p.1) then .ok (.dic (t.foldl (fun d p => dicPut d p.1 p.2) [])) else .bad
/-- x[k] = e, x the list or dict in the slot i: the value first, then the key -/
def sPut (i : Nat) (k e : EM) : SM := fun ρ => match ρ[i]? with
  | some (some (.lst xs)) => lft (e ρ) ρ fun d => lft (k ρ) ρ fun z => match z with
    | .int j => (match placeOf j xs.length with | some n => some (.nx, ρ.set i (some (.lst (xs.set n d)))) | none => none)
    | _ => none
  | some (some (.dic kvs)) => lft (e ρ) ρ fun d => lft (k ρ) ρ fun z => if isKey z ∧ kvs.length < LINE then some (.nx, ρ.set i (some (.dic (dicPut kvs z d)))) else none
  | _ => none
def forL (g : GM) (b : SM) : List Dat → SM
  | [], ρ => some (.nx, ρ)
  | d :: r, ρ => gok (g d ρ) fun ρ1 => match b ρ1 with
    | some (.nx, ρ2) => forL g b r ρ2
    | some (.ct, ρ2) => forL g b r ρ2
    | some (.bk, ρ2) => some (.nx, ρ2)
    | q => q
def sFor (src : LM) (g : GM) (b : SM) : SM := fun ρ => lft (src ρ) ρ fun ds => forL g b ds ρ
def whlN (t : TM) (b : SM) : Nat → SM
  | 0, _ => none
  | n + 1, ρ => lft (t ρ) ρ fun c => if c then (match b ρ with
    | some (.nx, ρ') => whlN t b n ρ'
    | some (.ct, ρ') => whlN t b n ρ'
    | some (.bk, ρ') => some (.nx, ρ')
    | q => q) else some (.nx, ρ)
open Classical in
noncomputable def sWhl (t : TM) (b : SM) : SM := fun ρ => if h : ∃ n, (whlN t b n ρ).isSome = true then whlN t b h.choose ρ else none
/-- an own error out of an except suite is not spoken of -/
def noEx : O → O
  | some (.ex _, _) => none
  | o => o
/-- the except clauses: which classes, the error's slot, the suite -/
def hand : List ((Nat → Bool) × Option Nat × SM) → Nat → SM
  | [], c, ρ => some (.ex c, ρ)
  | (p, none, u) :: r, c, ρ => if p c then noEx (u ρ) else hand r c ρ
  | (p, some i, u) :: r, c, ρ => if p c then (if i < ρ.length then (match noEx (u (ρ.set i (some (.exc c)))) with
    | some (f, ρ') => some (f, ρ'.set i none)
    | none => none) else none) else hand r c ρ
def sTry (hs : List ((Nat → Bool) × Option Nat × SM)) (a : SM) : SM := fun ρ => match a ρ with
  | some (.ex c, ρ') => hand hs c ρ'
  | q => q
/-- isinstance(e, X), e an error held by a suite: sub tells which classes lie under which -/
def isX (sub : Nat → Nat → Bool) (n : Nat) : Dat → R Dat
  | .exc c => .ok (.bl (sub c n))
  | _ => .bad
/-- a def: its body from its arguments, N slots in all -/
def run (n : Nat) (b : SM) (as : List Dat) : R Dat := match b (as.map some ++ List.replicate (n - as.length) none) with
  | some (.nx, _) => .ok .non
  | some (.rt d, _) => .ok d
  | some (.ex c, _) => .exc c
  | _ => .bad
end PL

set_option maxRecDepth 100000
set_option maxHeartbeats 4000000
namespace PL
open PySem PySem.Spec PyProof.Rows L2
set_option autoImplicit false
abbrev St := L2.St

/-! ### data in the heap -/
/-- a list, a tuple of the written part -/
def KLst (K : PySem.W.Frag) (a : Addr) (xs : List V) : Prop := ∃ (o : Obj) (its : Array Value) (n : Nat), K.lookup a = some o ∧ o.cls = .type "list" ∧ o.dict = none ∧ o.data = .seq its n ∧ its.size ≤ sizeLine ∧ Vals xs its.toList
def KTup (K : PySem.W.Frag) (a : Addr) (xs : List V) : Prop := ∃ (o : Obj) (its : Array Value) (n : Nat), K.lookup a = some o ∧ o.cls = .type "tuple" ∧ o.data = .seq its n ∧ its.size ≤ sizeLine ∧ Vals xs its.toList
def kD : Key → Dat
  | .inl i => .int i
  | .inr x => .str x.cps.toList
abbrev ZS := Addr → Prop
/-- code points, not too many -/
def okS (s : List Nat) : Prop := (∀ c ∈ s, c < 1114112) ∧ s.length ≤ LINE
def okK : Key → Prop
  | .inl _ => True
  | .inr x => okS x.cps.toList
mutual
/-- the value v is the data d, all of it settled (Z) -/
inductive Rep (K : PySem.W.Frag) (Z : ZS) (H : Hp) : V → Dat → Prop
  | non : Rep K Z H .non .non
  | bl (b : Bool) : Rep K Z H (.bl b) (.bl b)
  | int (i : Int) : Rep K Z H (.int i) (.int i)
  | str (x : Str) : okS x.cps.toList → Rep K Z H (.str x) (.str x.cps.toList)
  | lst {a : Addr} {xs : List V} {ds : List Dat} : Z a → Rd H a (.lst xs) → RepA K Z H xs ds → Rep K Z H (.ref a) (.lst ds)
  | lstK {a : Addr} {xs : List V} {ds : List Dat} : KLst K a xs → RepA K Z H xs ds → Rep K Z H (.ref a) (.lst ds)
  | tup {a : Addr} {xs : List V} {ds : List Dat} : Z a → Rd H a (.tup xs) → RepA K Z H xs ds → Rep K Z H (.ref a) (.tup ds)
  | tupK {a : Addr} {xs : List V} {ds : List Dat} : KTup K a xs → RepA K Z H xs ds → Rep K Z H (.ref a) (.tup ds)
  | dic {a : Addr} {ks : List (Key × V)} {kvs : List (Dat × Dat)} : Z a → H a = some (.dK ks) → RepD K Z H ks kvs → Rep K Z H (.ref a) (.dic kvs)
inductive RepA (K : PySem.W.Frag) (Z : ZS) (H : Hp) : List V → List Dat → Prop
  | nil : RepA K Z H [] []
  | cons {v : V} {vs : List V} {d : Dat} {ds : List Dat} : Rep K Z H v d → RepA K Z H vs ds → RepA K Z H (v :: vs) (d :: ds)
inductive RepD (K : PySem.W.Frag) (Z : ZS) (H : Hp) : List (Key × V) → List (Dat × Dat) → Prop
  | nil : RepD K Z H [] []
  | cons {k : Key} {v : V} {r : List (Key × V)} {d : Dat} {t : List (Dat × Dat)} : okK k → Rep K Z H v d → RepD K Z H r t → RepD K Z H ((k, v) :: r) ((kD k, d) :: t)
end

/-- what is settled stays -/
def Adv (Z : ZS) (H : Hp) (Z' : ZS) (H' : Hp) : Prop := ∀ a, Z a → Z' a ∧ ∀ o, H a = some o → H' a = some o
theorem Adv.refl {Z : ZS} {H : Hp} : Adv Z H Z H := fun _ h => ⟨h, fun _ e => e⟩
theorem Adv.trans {Z Z1 Z2 : ZS} {H H1 H2 : Hp} (x : Adv Z H Z1 H1) (y : Adv Z1 H1 Z2 H2) : Adv Z H Z2 H2 := fun a h => ⟨(y a (x a h).1).1, fun o e => (y a (x a h).1).2 o ((x a h).2 o e)⟩
theorem Rd.adv {H H' : Hp} {a : Addr} {u : HO} (h : Rd H a u) (k : ∀ o, H a = some o → H' a = some o) : Rd H' a u := by
  rcases h with h | ⟨o, h⟩
  · exact .inl (k _ h)
  · exact .inr ⟨o, k _ h⟩
section
variable {K : PySem.W.Frag} {Z Z' : ZS} {H H' : Hp}
mutual
theorem Rep.adv (x : Adv Z H Z' H') : ∀ {v : V} {d : Dat}, Rep K Z H v d → Rep K Z' H' v d
  | _, _, .non => .non
  | _, _, .bl b => .bl b
  | _, _, .int i => .int i
  | _, _, .str s h => .str s h
  | _, _, .lst z h r => .lst (x _ z).1 (Rd.adv h (x _ z).2) (RepA.adv x r)
  | _, _, .lstK k r => .lstK k (RepA.adv x r)
  | _, _, .tup z h r => .tup (x _ z).1 (Rd.adv h (x _ z).2) (RepA.adv x r)
  | _, _, .tupK k r => .tupK k (RepA.adv x r)
  | _, _, .dic z h r => .dic (x _ z).1 ((x _ z).2 _ h) (RepD.adv x r)
theorem RepA.adv (x : Adv Z H Z' H') : ∀ {v : List V} {d : List Dat}, RepA K Z H v d → RepA K Z' H' v d
  | _, _, .nil => .nil
  | _, _, .cons h r => .cons (Rep.adv x h) (RepA.adv x r)
theorem RepD.adv (x : Adv Z H Z' H') : ∀ {v : List (Key × V)} {d : List (Dat × Dat)}, RepD K Z H v d → RepD K Z' H' v d
  | _, _, .nil => .nil
  | _, _, .cons o h r => .cons o (Rep.adv x h) (RepD.adv x r)
end
theorem RepA.len : ∀ {v : List V} {d : List Dat}, RepA K Z H v d → v.length = d.length
  | _, _, .nil => rfl
  | _, _, .cons _ r => by simp [RepA.len r]
theorem RepA.get : ∀ {v : List V} {d : List Dat} {i : Nat} {x : Dat}, RepA K Z H v d → d[i]? = some x → ∃ u, v[i]? = some u ∧ Rep K Z H u x
  | _, _, _, _, .nil, e => by simp at e
  | _, _, 0, _, .cons h _, e => by simp at e; subst e; exact ⟨_, rfl, h⟩
  | _, _, i + 1, _, .cons _ r, e => by simpa using RepA.get (i := i) r (by simpa using e)
theorem RepA.append : ∀ {v w : List V} {d e : List Dat}, RepA K Z H v d → RepA K Z H w e → RepA K Z H (v ++ w) (d ++ e)
  | _, _, _, _, .nil, s => s
  | _, _, _, _, .cons h r, s => .cons h (RepA.append r s)
theorem RepA.take : ∀ {v : List V} {d : List Dat} (n : Nat), RepA K Z H v d → RepA K Z H (v.take n) (d.take n)
  | _, _, 0, _ => .nil
  | _, _, _ + 1, .nil => .nil
  | _, _, n + 1, .cons h r => .cons h (RepA.take n r)
theorem RepA.drop : ∀ {v : List V} {d : List Dat} (n : Nat), RepA K Z H v d → RepA K Z H (v.drop n) (d.drop n)
  | _, _, 0, r => r
  | _, _, _ + 1, .nil => .nil
  | _, _, n + 1, .cons _ r => RepA.drop n r
theorem RepA.set : ∀ {v : List V} {d : List Dat} (i : Nat) {x : V} {y : Dat}, RepA K Z H v d → Rep K Z H x y → RepA K Z H (v.set i x) (d.set i y)
  | _, _, _, _, _, .nil, _ => .nil
  | _, _, 0, _, _, .cons _ r, q => .cons q r
  | _, _, i + 1, _, _, .cons h r, q => .cons h (RepA.set i r q)
theorem RepD.len : ∀ {v : List (Key × V)} {d : List (Dat × Dat)}, RepD K Z H v d → v.length = d.length
  | _, _, .nil => rfl
  | _, _, .cons _ _ r => by simp [RepD.len r]
end

/-- what an expression may do: lay new objects, settle some of these -/
structure Ext (Z : ZS) (H : Hp) (Z' : ZS) (H' : Hp) : Prop where
  sub : ∀ a, Z a → Z' a
  same : Same H H'
  trk : ∀ a, Z' a → ∃ o, H' a = some o
  new : ∀ a, Z' a → Z a ∨ H a = none
def Trk (Z : ZS) (H : Hp) : Prop := ∀ a, Z a → ∃ o, H a = some o
section
variable {K : PySem.W.Frag} {Z Z1 Z2 Z' : ZS} {H H1 H2 H' Hs : Hp}
theorem Ext.refl (t : Trk Z H) : Ext Z H Z H := ⟨fun _ h => h, fun _ _ e => e, t, fun _ h => .inl h⟩
theorem Ext.adv (x : Ext Z H Z' H') : Adv Z H Z' H' := fun a h => ⟨x.sub a h, fun o e => x.same a o e⟩
theorem Ext.trans (x : Ext Z H Z1 H1) (y : Ext Z1 H1 Z2 H2) : Ext Z H Z2 H2 where
  sub := fun a h => y.sub a (x.sub a h)
  same := x.same.trans y.same
  trk := y.trk
  new := fun a h => by
    rcases y.new a h with h | h
    · exact x.new a h
    · exact .inr (x.same.free h)
/-- a new object at p -/
theorem Ext.laid {p : Addr} {o : HO} (t : Trk Z H) (hp : H p = none) : Ext Z H Z (upd H p o) where
  sub := fun _ h => h
  same := fun b x e => by rw [upd_ne (ne_of_none e hp)]; exact e
  trk := fun a h => by
    obtain ⟨o', e⟩ := t a h
    exact ⟨o', by rw [upd_ne (ne_of_none e hp)]; exact e⟩
  new := fun _ h => .inl h
def Zadd (Z : ZS) (p : Addr) : ZS := fun a => Z a ∨ a = p
/-- .. settled at once -/
theorem Ext.laidZ {p : Addr} {o : HO} (t : Trk Z H) (hp : H p = none) : Ext Z H (Zadd Z p) (upd H p o) where
  sub := fun _ h => .inl h
  same := (Ext.laid (o := o) t hp).same
  trk := fun a h => by
    rcases h with h | h
    · exact (Ext.laid (o := o) t hp).trk a h
    · subst h; exact ⟨o, upd_same⟩
  new := fun a h => by
    rcases h with h | h
    · exact .inl h
    · subst h; exact .inr hp
/-- an object that came since the start is settled -/
theorem Ext.settle {p : Addr} {o : HO} (x : Ext Z H Z' H') (hp : H p = none) (e : H' p = some o) : Ext Z H (Zadd Z' p) H' where
  sub := fun a h => .inl (x.sub a h)
  same := x.same
  trk := fun a h => by
    rcases h with h | h
    · exact x.trk a h
    · subst h; exact ⟨o, e⟩
  new := fun a h => by
    rcases h with h | h
    · exact x.new a h
    · subst h; exact .inr hp
theorem Adv.add {p : Addr} : Adv Z H (Zadd Z p) H := fun _ h => ⟨.inl h, fun _ e => e⟩
end

/-! ### how a value is held -/
/-- settled; new (its top is the caller's own); to be read -/
inductive Kd where | frz | new | sh
/-- the top of a list or dict of one's own -/
def Top (K : PySem.W.Frag) (Z : ZS) (H : Hp) (a : Addr) : Dat → Prop
  | .lst ds => ∃ xs, H a = some (.lst xs) ∧ RepA K Z H xs ds
  | .dic kvs => ∃ ks, H a = some (.dK ks) ∧ RepD K Z H ks kvs
  | _ => False
/-- a settled tuple -/
def STup (K : PySem.W.Frag) (Z : ZS) (H : Hp) (a : Addr) (xs : List V) : Prop := (Z a ∧ Rd H a (.tup xs)) ∨ KTup K a xs
theorem STup.sq {K : PySem.W.Frag} {Z : ZS} {H : Hp} {a : Addr} {xs : List V} (h : STup K Z H a xs) : SqT K H a xs := by
  rcases h with h | h
  · exact .inl h.2
  · exact .inr h
theorem STup.rep {K : PySem.W.Frag} {Z : ZS} {H : Hp} {a : Addr} {xs : List V} {ds : List Dat} (h : STup K Z H a xs) (r : RepA K Z H xs ds) : Rep K Z H (.ref a) (.tup ds) := by
  rcases h with h | h
  · exact .tup h.1 h.2 r
  · exact .tupK h r
theorem STup.adv {K : PySem.W.Frag} {Z Z' : ZS} {H H' : Hp} {a : Addr} {xs : List V} (x : Adv Z H Z' H') (h : STup K Z H a xs) : STup K Z' H' a xs := by
  rcases h with h | h
  · exact .inl ⟨(x _ h.1).1, Rd.adv h.2 (x _ h.1).2⟩
  · exact .inr h
/-- to be read: the top whatever, what is within settled -/
inductive Sh (K : PySem.W.Frag) (Z : ZS) (H : Hp) : V → Dat → Prop
  | non : Sh K Z H .non .non
  | bl (b : Bool) : Sh K Z H (.bl b) (.bl b)
  | int (i : Int) : Sh K Z H (.int i) (.int i)
  | str (x : Str) : okS x.cps.toList → Sh K Z H (.str x) (.str x.cps.toList)
  | lst {a : Addr} {xs : List V} {ds : List Dat} : SqL K H a xs → RepA K Z H xs ds → Sh K Z H (.ref a) (.lst ds)
  | tup {a : Addr} {xs : List V} {ds : List Dat} : STup K Z H a xs → RepA K Z H xs ds → Sh K Z H (.ref a) (.tup ds)
  | dic {a : Addr} {ks : List (Key × V)} {kvs : List (Dat × Dat)} : H a = some (.dK ks) → RepD K Z H ks kvs → Sh K Z H (.ref a) (.dic kvs)
def isBox : Dat → Bool
  | .lst _ => true
  | .dic _ => true
  | _ => false
def Val (K : PySem.W.Frag) (Z : ZS) (H Hs : Hp) : Kd → V → Dat → Prop
  | .frz, v, d => Rep K Z H v d
  | .new, v, d => (isBox d = true → ∃ a, v = .ref a ∧ ¬ Z a ∧ Hs a = none ∧ Top K Z H a d) ∧ (isBox d = false → Rep K Z H v d)
  | .sh, v, d => Sh K Z H v d
section
variable {K : PySem.W.Frag} {Z Z1 Z2 Z' : ZS} {H H1 H2 H' Hs : Hp} {v : V} {d : Dat} {a : Addr}
theorem Rep.sh (h : Rep K Z H v d) : Sh K Z H v d := by
  cases h with
  | non => exact .non
  | bl b => exact .bl b
  | int i => exact .int i
  | str x h => exact .str x h
  | lst z h r => exact .lst (.inl h) r
  | lstK k r => exact .lst (.inr k) r
  | tup z h r => exact .tup (.inl ⟨z, h⟩) r
  | tupK k r => exact .tup (.inr k) r
  | dic z h r => exact .dic h r
theorem Top.sh (h : Top K Z H a d) : Sh K Z H (.ref a) d := by
  cases d with
  | lst ds => obtain ⟨xs, e, r⟩ := h; exact .lst (.inl (.inl e)) r
  | dic kvs => obtain ⟨ks, e, r⟩ := h; exact .dic e r
  | _ => exact h.elim
theorem Top.there (h : Top K Z H a d) : ∃ o, H a = some o := by
  cases d with
  | lst ds => obtain ⟨xs, e, r⟩ := h; exact ⟨_, e⟩
  | dic kvs => obtain ⟨ks, e, r⟩ := h; exact ⟨_, e⟩
  | _ => exact h.elim
theorem Top.ext (x : Ext Z H Z' H') (h : Top K Z H a d) : Top K Z' H' a d := by
  cases d with
  | lst ds => obtain ⟨xs, e, r⟩ := h; exact ⟨xs, x.same _ _ e, r.adv x.adv⟩
  | dic kvs => obtain ⟨ks, e, r⟩ := h; exact ⟨ks, x.same _ _ e, r.adv x.adv⟩
  | _ => exact h.elim
theorem Top.settled (h : Top K Z H a d) : Rep K (Zadd Z a) H (.ref a) d := by
  cases d with
  | lst ds => obtain ⟨xs, e, r⟩ := h; exact .lst (.inr rfl) (.inl e) (r.adv .add)
  | dic kvs => obtain ⟨ks, e, r⟩ := h; exact .dic (.inr rfl) e (r.adv .add)
  | _ => exact h.elim
theorem Sh.ext (x : Ext Z H Z' H') (h : Sh K Z H v d) : Sh K Z' H' v d := by
  cases h with
  | non => exact .non
  | bl b => exact .bl b
  | int i => exact .int i
  | str x h => exact .str x h
  | lst h r =>
    refine .lst ?_ (r.adv x.adv)
    rcases h with h | h
    · exact .inl (Rd.adv h fun o e => x.same _ _ e)
    · exact .inr h
  | tup h r => exact .tup (h.adv x.adv) (r.adv x.adv)
  | dic h r => exact .dic (x.same _ _ h) (r.adv x.adv)
theorem Val.ext {k : Kd} (x : Ext Z H Z' H') (h : Val K Z H Hs k v d) : Val K Z' H' Hs k v d := by
  cases k with
  | frz => exact Rep.adv x.adv h
  | sh => exact Sh.ext x h
  | new =>
    refine ⟨fun b => ?_, fun b => Rep.adv x.adv (h.2 b)⟩
    obtain ⟨a, e, n, q, t⟩ := h.1 b
    refine ⟨a, e, fun z => ?_, q, t.ext x⟩
    obtain ⟨o, ho⟩ := t.there
    rcases x.new a z with z | z
    · exact n z
    · rw [ho] at z; cases z
theorem Val.early {k : Kd} (s : Same Hs H1) (h : Val K Z H H1 k v d) : Val K Z H Hs k v d := by
  cases k with
  | frz => exact h
  | sh => exact h
  | new =>
    refine ⟨fun b => ?_, h.2⟩
    obtain ⟨a, e, n, q, t⟩ := h.1 b
    exact ⟨a, e, n, s.free q, t⟩
theorem Val.sh {k : Kd} (h : Val K Z H Hs k v d) : Sh K Z H v d := by
  cases k with
  | frz => exact Rep.sh h
  | sh => exact h
  | new =>
    cases b : isBox d with
    | true =>
      obtain ⟨a, e, n, q, t⟩ := h.1 b
      subst e
      exact t.sh
    | false => exact Rep.sh (h.2 b)
/-- a value is settled -/
theorem Val.settle {k : Kd} (x : Ext Z H Z' H') (h : Val K Z' H' H k v d) (hk : k ≠ .sh) : ∃ Z'', Ext Z H Z'' H' ∧ Adv Z' H' Z'' H' ∧ Rep K Z'' H' v d := by
  cases k with
  | frz => exact ⟨Z', x, .refl, h⟩
  | sh => exact absurd rfl hk
  | new =>
    cases b : isBox d with
    | false => exact ⟨Z', x, .refl, h.2 b⟩
    | true =>
      obtain ⟨a, e, n, q, t⟩ := h.1 b
      subst e
      obtain ⟨o, ho⟩ := t.there
      exact ⟨Zadd Z' a, x.settle q ho, .add, t.settled⟩
end

/-! ### the slots -/
structure Ct where
  K : PySem.W.Frag
  EC : Nat → Addr
  Z0 : ZS
  H0 : Hp
  xs : Option (Nat × Addr × Nat)
/-- the slots hold the data; own: the slots whose list or dict is the def's own -/
structure SE (c : Ct) (own : List Nat) (Z : ZS) (H : Hp) (σ : St) (ρ : Env) : Prop where
  ext : Ext c.Z0 c.H0 Z H
  len : σ.length = ρ.length
  val : ∀ (i : Nat) (d : Dat), ρ[i]? = some (some d) → i ∉ own → (∀ x, d ≠ .exc x) → ∃ v, σ[i]? = some (some v) ∧ Rep c.K Z H v d
  exc : ∀ (i : Nat) (x : Nat), ρ[i]? = some (some (.exc x)) → ∃ a, c.xs = some (i, a, x) ∧ σ[i]? = some (some (.ref a))
  ow : ∀ i ∈ own, ∃ a d, ρ[i]? = some (some d) ∧ σ[i]? = some (some (.ref a)) ∧ ¬ Z a ∧ c.H0 a = none ∧ Top c.K Z H a d
  inj : ∀ i ∈ own, ∀ j ∈ own, i ≠ j → σ[i]? ≠ σ[j]?
section
variable {c : Ct} {own : List Nat} {Z Z' : ZS} {H H' : Hp} {σ : St} {ρ : Env}
theorem SE.trk (S : SE c own Z H σ ρ) : Trk Z H := S.ext.trk
theorem SE.move (S : SE c own Z H σ ρ) (x : Ext Z H Z' H') : SE c own Z' H' σ ρ where
  ext := S.ext.trans x
  len := S.len
  val := fun i d e n nx => by
    obtain ⟨v, h, r⟩ := S.val i d e n nx
    exact ⟨v, h, r.adv x.adv⟩
  exc := S.exc
  ow := fun i hi => by
    obtain ⟨a, d, e1, e2, nz, h0, t⟩ := S.ow i hi
    refine ⟨a, d, e1, e2, fun z => ?_, h0, t.ext x⟩
    obtain ⟨o, ho⟩ := t.there
    rcases x.new a z with z | z
    · exact nz z
    · rw [ho] at z; cases z
  inj := S.inj
theorem SE.sh (S : SE c own Z H σ ρ) {i : Nat} {d : Dat} (e : ρ[i]? = some (some d)) (nx : ∀ x, d ≠ .exc x) : ∃ v, σ[i]? = some (some v) ∧ Sh c.K Z H v d := by
  by_cases hi : i ∈ own
  · obtain ⟨a, d', e1, e2, _, _, t⟩ := S.ow i hi
    rw [e] at e1
    cases e1
    exact ⟨_, e2, t.sh⟩
  · obtain ⟨v, h, r⟩ := S.val i d e hi nx
    exact ⟨v, h, r.sh⟩
/-- some slots are no longer own: what they hold is settled -/
theorem SE.drop (S : SE c own Z H σ ρ) {own' : List Nat} (h : ∀ i ∈ own', i ∈ own) : ∃ Z', Adv Z H Z' H ∧ SE c own' Z' H σ ρ := by
  let Zn : ZS := fun a => Z a ∨ ∃ i, i ∈ own ∧ i ∉ own' ∧ σ[i]? = some (some (.ref a))
  have ad : Adv Z H Zn H := fun a h => ⟨.inl h, fun _ e => e⟩
  have at0 : ∀ a, Zn a → Z a ∨ (c.H0 a = none ∧ ∃ o, H a = some o) := fun a z => by
    rcases z with z | ⟨i, hi, _, e⟩
    · exact .inl z
    · obtain ⟨b, d, e1, e2, nz, h0, t⟩ := S.ow i hi
      rw [e] at e2
      cases e2
      exact .inr ⟨h0, t.there⟩
  refine ⟨Zn, ad, ⟨⟨fun a z => .inl (S.ext.sub a z), S.ext.same, fun a z => ?_, fun a z => ?_⟩, S.len, fun i d e n nx => ?_, S.exc, fun i hi => ?_, fun i hi j hj => S.inj i (h i hi) j (h j hj)⟩⟩
  · rcases at0 a z with z | ⟨_, z⟩
    · exact S.ext.trk a z
    · exact z
  · rcases at0 a z with z | ⟨z, _⟩
    · exact S.ext.new a z
    · exact .inr z
  · by_cases hi : i ∈ own
    · obtain ⟨a, d', e1, e2, nz, h0, t⟩ := S.ow i hi
      rw [e] at e1
      cases e1
      refine ⟨_, e2, t.settled.adv fun b z => ⟨?_, fun _ q => q⟩⟩
      rcases z with z | z
      · exact .inl z
      · subst z; exact .inr ⟨i, hi, n, e2⟩
    · obtain ⟨v, hv, r⟩ := S.val i d e hi nx
      exact ⟨v, hv, r.adv ad⟩
  · obtain ⟨a, d, e1, e2, nz, h0, t⟩ := S.ow i (h i hi)
    refine ⟨a, d, e1, e2, fun z => ?_, h0, ?_⟩
    · rcases z with z | ⟨j, hj, hj', e⟩
      · exact nz z
      · exact S.inj i (h i hi) j hj (fun q => hj' (q ▸ hi)) (e2.trans e.symm)
    · cases d with
      | lst ds => obtain ⟨xs, e, r⟩ := t; exact ⟨xs, e, r.adv ad⟩
      | dic kvs => obtain ⟨ks, e, r⟩ := t; exact ⟨ks, e, r.adv ad⟩
      | _ => exact t.elim
end

/-! ### the canonical readings -/
abbrev PX (c : Ct) (W : WX) (Z : ZS) (H : Hp) (σ : St) : Nat → Prop := fun x => ∀ Z' H', Ext Z H Z' H' → W (.ref (c.EC x)) none σ H'
def qE (c : Ct) (W : WX) (own : List Nat) (k : Kd) (m : EM) : TE := fun σ H Q => ∃ Z ρ, SE c own Z H σ ρ ∧
  Post (m ρ) (fun d => ∀ v Z' H', Ext Z H Z' H' → Val c.K Z' H' H k v d → Q v H') (PX c W Z H σ)
def qT (c : Ct) (W : WX) (own : List Nat) (m : TM) : TT := fun σ H Q => ∃ Z ρ, SE c own Z H σ ρ ∧
  Post (m ρ) (fun b => ∀ Z' H', Ext Z H Z' H' → Q b H') (PX c W Z H σ)
/-- a row of values, each held so -/
inductive ValA (K : PySem.W.Frag) (Z : ZS) (H Hs : Hp) (k : Kd) : List V → List Dat → Prop
  | nil : ValA K Z H Hs k [] []
  | cons {v : V} {vs : List V} {d : Dat} {ds : List Dat} : Val K Z H Hs k v d → ValA K Z H Hs k vs ds → ValA K Z H Hs k (v :: vs) (d :: ds)
theorem ValA.ext {K : PySem.W.Frag} {Z Z' : ZS} {H H' Hs : Hp} {k : Kd} (x : Ext Z H Z' H') : ∀ {vs : List V} {ds : List Dat}, ValA K Z H Hs k vs ds → ValA K Z' H' Hs k vs ds
  | _, _, .nil => .nil
  | _, _, .cons h r => .cons (h.ext x) (ValA.ext x r)
theorem ValA.early {K : PySem.W.Frag} {Z : ZS} {H H1 Hs : Hp} {k : Kd} (x : Same Hs H1) : ∀ {vs : List V} {ds : List Dat}, ValA K Z H H1 k vs ds → ValA K Z H Hs k vs ds
  | _, _, .nil => .nil
  | _, _, .cons h r => .cons (h.early x) (ValA.early x r)
theorem ValA.rep {K : PySem.W.Frag} {Z : ZS} {H Hs : Hp} : ∀ {vs : List V} {ds : List Dat}, ValA K Z H Hs .frz vs ds → RepA K Z H vs ds
  | _, _, .nil => .nil
  | _, _, .cons h r => .cons h (ValA.rep r)
def qA (c : Ct) (W : WX) (own : List Nat) (k : Kd) (m : LM) : TA := fun σ H Q => ∃ Z ρ, SE c own Z H σ ρ ∧
  Post (m ρ) (fun ds => ∀ vs Z' H', Ext Z H Z' H' → ValA c.K Z' H' H k vs ds → Q vs H') (PX c W Z H σ)

theorem _root_.L2.PE.imp {X : Cx} {e : Expr} {t t' : TE} (h : PE X e t) (f : ∀ σ H Q, t' σ H Q → t σ H Q) : PE X e t' := ⟨fun pins s σ H Q I hw => h.run pins s σ H Q I (f σ H Q hw)⟩
theorem _root_.L2.PT.imp {X : Cx} {e : Expr} {t t' : TT} (h : PT X e t) (f : ∀ σ H Q, t' σ H Q → t σ H Q) : PT X e t' := ⟨fun pins s σ H Q I hw => h.run pins s σ H Q I (f σ H Q hw)⟩
theorem _root_.L2.PW.imp {X : Cx} {e : Expr} {t t' : TT} (h : PW X e t) (f : ∀ σ H Q, t' σ H Q → t σ H Q) : PW X e t' := ⟨fun wh pins s σ H Q I hw => h.run wh pins s σ H Q I (f σ H Q hw)⟩
theorem _root_.L2.PA.imp {X : Cx} {e : List Expr} {t t' : TA} (h : PA X e t) (f : ∀ σ H Q, t' σ H Q → t σ H Q) : PA X e t' := ⟨fun pos pins s σ H Q I hw => h.run pos pins s σ H Q I (f σ H Q hw)⟩
theorem _root_.L2.PS.imp {X : Cx} {e : Stmt} {t t' : TS} (h : PS X e t) (f : ∀ D σ H, t' D σ H → t D σ H) : PS X e t' := ⟨fun pins s σ H D I hw => h.run pins s σ H D I (f D σ H hw)⟩
theorem _root_.L2.PSs.imp {X : Cx} {e : List Stmt} {t t' : TS} (h : PSs X e t) (f : ∀ D σ H, t' D σ H → t D σ H) : PSs X e t' := ⟨fun pins s σ H D I hw => h.run pins s σ H D I (f D σ H hw)⟩

section
variable {X : Cx} {c : Ct} {W : WX} {own : List Nat} {k k1 k2 k3 : Kd} {e a b : Expr} {m m1 m2 m3 : EM} {t : TE} {Z : ZS} {H : Hp} {σ : St} {ρ : Env} {Q : VK}
/-- the reading goes on: what is wanted of the value -/
theorem qE.of (S : SE c own Z H σ ρ) (p : Post (m ρ) (fun d => ∀ v Z' H', Ext Z H Z' H' → Val c.K Z' H' H k v d → Q v H') (PX c W Z H σ)) : qE c W own k m σ H Q := ⟨Z, ρ, S, p⟩
theorem PX.move {Z' : ZS} {H' : Hp} (x : Ext Z H Z' H') {n : Nat} (h : PX c W Z H σ n) : PX c W Z' H' σ n := fun Z2 H2 y => h Z2 H2 (x.trans y)
/-- a new value is settled -/
theorem q_frz (h : PE X e (qE c W own .new m)) : PE X e (qE c W own .frz m) := h.imp fun σ H Q ⟨Z, ρ, S, p⟩ => ⟨Z, ρ, S, p.imp (fun d q v Z' H' x hv => by
  obtain ⟨Z2, x2, _, r⟩ := hv.settle x (by simp)
  exact q v Z2 H' x2 r) fun _ q => q⟩
theorem q_sh (h : PE X e (qE c W own k m)) : PE X e (qE c W own .sh m) := h.imp fun σ H Q ⟨Z, ρ, S, p⟩ => ⟨Z, ρ, S, p.imp (fun d q v Z' H' x hv => q v Z' H' x hv.sh) fun _ q => q⟩
/-- a name that holds what is settled -/
theorem q_var {i : Nat} {x : Str} {pos : Pos} (hi : i ∉ own) (hn : c.xs.all (fun p => p.1 != i) = true) (hN : X.N[i]? = some x) (hv : Vis X.env.scope x) (hd : (x == ("__debug__" : Str)) = false) (hcd : (x == ("__classdict__" : Str)) = false) : PE X (.Name x pos) (qE c W own .frz (eV i)) :=
  (pe_var hN hv hd hcd).imp fun σ H Q ⟨Z, ρ, S, p⟩ => by
    unfold eV at p
    split at p
    · rename_i d e
      have nx : ∀ x, d ≠ .exc x := fun x z => by
        subst z
        obtain ⟨a, e1, _⟩ := S.exc i x e
        rw [e1] at hn
        simp at hn
      obtain ⟨v, h, r⟩ := S.val i d e hi nx
      exact ⟨v, h, p v Z H (.refl S.trk) r⟩
    · exact p.elim
/-- a name, read -/
theorem q_varS {i : Nat} {x : Str} {pos : Pos} (hn : c.xs.all (fun p => p.1 != i) = true) (hN : X.N[i]? = some x) (hv : Vis X.env.scope x) (hd : (x == ("__debug__" : Str)) = false) (hcd : (x == ("__classdict__" : Str)) = false) : PE X (.Name x pos) (qE c W own .sh (eV i)) :=
  (pe_var hN hv hd hcd).imp fun σ H Q ⟨Z, ρ, S, p⟩ => by
    unfold eV at p
    split at p
    · rename_i d e
      have nx : ∀ x, d ≠ .exc x := fun x z => by
        subst z
        obtain ⟨a, e1, _⟩ := S.exc i x e
        rw [e1] at hn
        simp at hn
      obtain ⟨v, h, r⟩ := S.sh e nx
      exact ⟨v, h, p v Z H (.refl S.trk) r⟩
    · exact p.elim
theorem q_const {v : V} {d : Dat} (h : PE X e (tC v)) (r : ∀ K Z H, Rep K Z H v d) : PE X e (qE c W own .frz (eC d)) :=
  h.imp fun σ H Q ⟨Z, ρ, S, p⟩ => p v Z H (.refl S.trk) (r _ _ _)
theorem q_int {i j pos} : PE X (.Constant (.int i) j pos) (qE c W own .frz (eC (.int i))) := q_const pe_int fun _ _ _ => .int i
theorem q_bl {i j pos} : PE X (.Constant (.bool i) j pos) (qE c W own .frz (eC (.bl i))) := q_const pe_bl fun _ _ _ => .bl i
theorem q_non {j pos} : PE X (.Constant .none j pos) (qE c W own .frz (eC .non)) := q_const pe_non fun _ _ _ => .non
theorem q_str {x : Str} {j pos} {s : List Nat} (h : (x.cps.toList == s && s.all (· < 1114112) && decide (s.length ≤ LINE)) = true) : PE X (.Constant (.str x) j pos) (qE c W own .frz (eC (.str s))) := by
  rw [Bool.and_eq_true, Bool.and_eq_true, beq_iff_eq, List.all_eq_true, decide_eq_true_iff] at h
  obtain ⟨⟨h, h2⟩, h3⟩ := h
  subst h
  exact q_const pe_str fun _ _ _ => .str x ⟨fun c hc => by simpa using h2 c hc, h3⟩

/-- a rule for two values -/
def Op2 (K : PySem.W.Frag) (r : R2) (k1 k2 k : Kd) (f : Dat → Dat → R Dat) : Prop := ∀ (Z : ZS) (H Hs : Hp) (v u : V) (d e : Dat) (Q : VK), Trk Z H → Same Hs H → Val K Z H Hs k1 v d → Val K Z H Hs k2 u e →
  Post (f d e) (fun z => ∀ w Z' H', Ext Z H Z' H' → Val K Z' H' Hs k w z → Q w H') (fun _ => False) → r v u H Q
def Op1 (K : PySem.W.Frag) (r : V → Hp → VK → Prop) (k1 k : Kd) (f : Dat → R Dat) : Prop := ∀ (Z : ZS) (H Hs : Hp) (v : V) (d : Dat) (Q : VK), Trk Z H → Same Hs H → Val K Z H Hs k1 v d →
  Post (f d) (fun z => ∀ w Z' H', Ext Z H Z' H' → Val K Z' H' Hs k w z → Q w H') (fun _ => False) → r v H Q
/-- an operation lets no own error out -/
def NoX1 (f : Dat → R Dat) : Prop := ∀ d x, f d ≠ .exc x
def NoX2 (f : Dat → Dat → R Dat) : Prop := ∀ d e x, f d e ≠ .exc x
theorem Post.nox {α : Type} {r : R α} {p : α → Prop} {x : Nat → Prop} (n : ∀ c, r ≠ .exc c) (h : Post r p x) : Post r p (fun _ => False) := by
  cases r with
  | ok a => exact h
  | exc c => exact absurd rfl (n c)
  | bad => exact h
theorem q_bin {r : R2} {f : Dat → Dat → R Dat} (ha : PE X a (qE c W own k1 m1)) (hb : PE X b (qE c W own k2 m2)) (hPE : ∀ ta tb, PE X a ta → PE X b tb → PE X e (tOp r ta tb))
    (ho : Op2 c.K r k1 k2 k f) (nx : NoX2 f) : PE X e (qE c W own k (e2 f m1 m2)) := (hPE _ _ ha hb).imp fun σ H Q ⟨Z, ρ, S, p⟩ => by
  refine ⟨Z, ρ, S, (Post.bnd p).imp (fun d p1 v Z1 H1 x1 hv => ⟨Z1, ρ, S.move x1, (Post.bnd p1).imp (fun d' p2 u Z2 H2 x2 hu => ?_) fun n q => q.move x1⟩) fun _ q => q⟩
  exact ho Z2 H2 H v u d d' Q x2.trk (x1.same.trans x2.same) (hv.ext x2) (hu.early x1.same) ((Post.nox (nx d d') p2).imp (fun z q w Z3 H3 x3 hw => q w Z3 H3 ((x1.trans x2).trans x3) hw) fun _ q => q)
theorem q_un {r : V → Hp → VK → Prop} {f : Dat → R Dat} (ha : PE X a (qE c W own k1 m1)) (hPE : ∀ ta, PE X a ta → PE X e (tUn r ta)) (ho : Op1 c.K r k1 k f) (nx : NoX1 f) : PE X e (qE c W own k (e1 f m1)) := (hPE _ ha).imp fun σ H Q ⟨Z, ρ, S, p⟩ => by
  refine ⟨Z, ρ, S, (Post.bnd p).imp (fun d p1 v Z1 H1 x1 hv => ?_) fun _ q => q⟩
  exact ho Z1 H1 H v d Q x1.trk x1.same hv ((Post.nox (nx d) p1).imp (fun z q w Z3 H3 x3 hw => q w Z3 H3 (x1.trans x3) hw) fun _ q => q)
end
end PL

set_option maxRecDepth 100000
set_option maxHeartbeats 4000000
namespace PL
open PySem PySem.Spec PyProof.Rows L2
set_option autoImplicit false
abbrev KF := PySem.W.Frag

theorem line_eq : LINE = sizeLine := by rw [sizeLine_eq]; rfl
theorem okS_nil : okS [] := ⟨fun _ h => (by cases h), Nat.zero_le _⟩
theorem okS_app {x y : List Nat} (h : okS x) (k : okS y) (hl : x.length + y.length ≤ LINE) : okS (x ++ y) := ⟨fun c hc => by
  rcases List.mem_append.mp hc with h' | h'
  · exact h.1 c h'
  · exact k.1 c h', by rw [List.length_append]; exact hl⟩
theorem okS_sub {x y : List Nat} (h : okS x) (k : ∀ c ∈ y, c ∈ x) (hl : y.length ≤ x.length) : okS y := ⟨fun c hc => h.1 c (k c hc), Nat.le_trans hl h.2⟩
theorem okS_one {x : List Nat} {c : Nat} (h : okS x) (k : c ∈ x) : okS [c] := ⟨fun q hq => (by rw [show q = c by simpa using hq]; exact h.1 c k), by show 1 ≤ LINE; decide⟩
section
variable {K : KF} {Z Z' : ZS} {H H' Hs : Hp} {v u : V} {d e : Dat} {Q : VK} {k : Kd}
theorem Rep.ofS {x : Str} {s : List Nat} (e : x.cps.toList = s) (h : okS s) : Rep K Z H (.str x) (.str s) := by
  subst e
  exact .str x h
theorem Post.ite {α : Type} {b : Prop} [Decidable b] {a : α} {p : α → Prop} {x : Nat → Prop} (h : Post (if b then .ok a else .bad) p x) : b ∧ p a := by
  by_cases hb : b
  · rw [if_pos hb] at h
    exact ⟨hb, h⟩
  · rw [if_neg hb] at h
    exact h.elim
abbrev Wnt (K : KF) (Z : ZS) (H Hs : Hp) (k : Kd) (Q : VK) : Dat → Prop := fun z => ∀ w Z' H', Ext Z H Z' H' → Val K Z' H' Hs k w z → Q w H'
/-- a settled result, here and now -/
theorem Wnt.frz {w : V} {z : Dat} (t : Trk Z H) (p : Wnt K Z H Hs .frz Q z) (r : Rep K Z H w z) : Q w H := p w Z H (.refl t) r
theorem Wnt.new {w : V} {z : Dat} (t : Trk Z H) (p : Wnt K Z H Hs .new Q z) (r : Rep K Z H w z) (b : isBox z = false) : Q w H := p w Z H (.refl t) ⟨fun z => (by rw [b] at z; cases z), fun _ => r⟩
theorem Wnt.newL {p : Addr} {xs : List V} {ds : List Dat} (t : Trk Z H) (s : Same Hs H) (q : Wnt K Z H Hs .new Q (.lst ds)) (r : RepA K Z H xs ds) (hp : H p = none) : Q (.ref p) (upd H p (.lst xs)) :=
  q (.ref p) Z _ (.laid t hp) ⟨fun _ => ⟨p, rfl, fun z => (by obtain ⟨o, e⟩ := t p z; rw [hp] at e; cases e), s.free hp, xs, upd_same, r.adv (Ext.laid t hp).adv⟩, fun z => (by cases z)⟩
theorem Wnt.newD {p : Addr} {ks : List (Key × V)} {kvs : List (Dat × Dat)} (t : Trk Z H) (s : Same Hs H) (q : Wnt K Z H Hs .new Q (.dic kvs)) (r : RepD K Z H ks kvs) (hp : H p = none) : Q (.ref p) (upd H p (.dK ks)) :=
  q (.ref p) Z _ (.laid t hp) ⟨fun _ => ⟨p, rfl, fun z => (by obtain ⟨o, e⟩ := t p z; rw [hp] at e; cases e), s.free hp, ks, upd_same, r.adv (Ext.laid t hp).adv⟩, fun z => (by cases z)⟩
theorem Rep.kd {w : V} {z : Dat} (k : Kd) (r : Rep K Z H w z) (b : isBox z = false) : Val K Z H Hs k w z := by
  cases k with
  | frz => exact r
  | sh => exact Rep.sh r
  | new => exact ⟨fun z => (by rw [b] at z; cases z), fun _ => r⟩
/-- a new tuple, settled -/
theorem Wnt.tup {p : Addr} {xs : List V} {ds : List Dat} (t : Trk Z H) (q : Wnt K Z H Hs k Q (.tup ds)) (r : RepA K Z H xs ds) (hp : H p = none) : Q (.ref p) (upd H p (.tup xs)) :=
  q (.ref p) (Zadd Z p) _ (.laidZ t hp) ((Rep.tup (.inr rfl) (.inl upd_same) (r.adv (Ext.laidZ t hp).adv)).kd k rfl)
theorem Wnt.at {w : V} {z : Dat} (t : Trk Z H) (p : Wnt K Z H Hs k Q z) (r : Rep K Z H w z) (b : isBox z = false) : Q w H := p w Z H (.refl t) (r.kd k b)
theorem Wnt.int (t : Trk Z H) {i : Int} (p : Wnt K Z H Hs k Q (.int i)) : Q (.int i) H := p.at t (.int i) rfl
theorem Wnt.bl (t : Trk Z H) {b : Bool} (p : Wnt K Z H Hs k Q (.bl b)) : Q (.bl b) H := p.at t (.bl b) rfl
theorem Wnt.str (t : Trk Z H) {x : Str} {s : List Nat} (p : Wnt K Z H Hs k Q (.str s)) (e : x.cps.toList = s) (h : okS s) : Q (.str x) H := p.at t (.ofS e h) rfl
end

section
variable {X : Cx}
/-! ### + -/
theorem op_catS : OpR X (binaryOp .Add) (fun x y H Q => ∃ l b xs zs, x = .ref l ∧ y = .ref b ∧ SqL X.K H l xs ∧ SqL X.K H b zs ∧ xs.length + zs.length ≤ sizeLine ∧ ∀ p, H p = none → Q (.ref p) (upd H p (.lst (xs ++ zs)))) := by
  intro pins s σ H x y v u Q I rx ry h
  obtain ⟨l, b, xs, zs, rfl, rfl, hH, hB, hz, q⟩ := h
  cases rx
  cases ry
  obtain ⟨its, r, ⟨⟨c1, d1, t1, s1⟩, n, g1, g2, g3, g4⟩, z⟩ := I.list hH
  obtain ⟨its2, r2, ⟨⟨c2, d2, t2, s2⟩, n2, k1, k2, k3, k4⟩, z2⟩ := I.list hB
  simp only at g2 g3 g4 k2 k3 k4
  subst g2 g3 g4 k2 k3 k4
  have el := r.length
  have el2 := r2.length
  have ea : its.toArray ++ its2.toArray = (its ++ its2).toArray := by simp
  refine concat_meets ⟨_, g1, rfl⟩ ⟨_, k1, rfl⟩ noFill_list_add seq_list_add F.slot_list_add F.entry_list_add (F.args_list_add_2 _ _) (list_addW l b its.toArray its2.toArray n n2 none none s1 s2 (by simp only [List.size_toArray]; omega)) ⟨g1, k1, ?_⟩
  rw [ea]
  exact ⟨.ref _, _, I.lnew (t' := s.toks) (r.append r2) (by rw [List.length_append]; omega), rfl, q _ I.fresh⟩
def rAddU (K : KF) : R2 := fun x y H Q => (∃ i j, x = .int i ∧ y = .int j ∧ Q (.int (i + j)) H) ∨ (∃ i j, x = .str i ∧ y = .str j ∧ i.length + j.length ≤ sizeLine ∧ Q (.str (i ++ j)) H) ∨
  (∃ l b xs zs, x = .ref l ∧ y = .ref b ∧ SqL K H l xs ∧ SqL K H b zs ∧ xs.length + zs.length ≤ sizeLine ∧ ∀ p, H p = none → Q (.ref p) (upd H p (.lst (xs ++ zs)))) ∨ rCatA K x y H Q
theorem opU_add : OpR X (binaryOp .Add) (rAddU X.K) := op_add.or (op_add_str.or (op_catS.or op_catA))
theorem cpsApp (i j : Str) : (i ++ j).cps.toList = i.cps.toList ++ j.cps.toList := by
  show (i.cps ++ j.cps).toList = _
  simp
theorem RepA.nil_iff {K : KF} {Z : ZS} {H : Hp} {xs : List V} {ds : List Dat} (r : RepA K Z H xs ds) : xs = [] → ds = [] := fun e => by
  subst e
  cases r
  rfl
theorem o2_add {K : KF} : Op2 K (rAddU K) .sh .sh .new addD := by
  intro Z H Hs v u d e Q t s hv hu p
  cases hv with
  | int i =>
    cases hu with
    | int j => exact .inl ⟨i, j, rfl, rfl, Wnt.int t p⟩
    | _ => exact False.elim p
  | str x hx =>
    cases hu with
    | str y hy =>
      obtain ⟨hz, p⟩ := Post.ite p
      have hz2 := hz
      rw [line_eq] at hz
      exact .inr (.inl ⟨x, y, rfl, rfl, by simpa [Str.length] using hz, Wnt.str t p (cpsApp x y) (okS_app hx hy hz2)⟩)
    | _ => exact False.elim p
  | lst h r =>
    cases hu with
    | lst h2 r2 =>
      obtain ⟨hz, p⟩ := Post.ite p
      rw [line_eq, ← r.len, ← r2.len] at hz
      exact .inr (.inr (.inl ⟨_, _, _, _, rfl, rfl, h, h2, hz, fun q hq => Wnt.newL t s p (r.append r2) hq⟩))
    | _ => exact False.elim p
  | tup h r =>
    cases hu with
    | tup h2 r2 =>
      obtain ⟨hz, p⟩ := Post.ite p
      rw [line_eq, ← r.len, ← r2.len] at hz
      refine .inr (.inr (.inr ⟨_, _, _, _, rfl, rfl, h.sq, h2.sq, hz, fun z => ?_, fun _ z => ?_, fun _ z q hq => Wnt.tup t p (r.append r2) hq⟩))
      · subst z
        cases r
        exact Wnt.at t p (h2.rep r2) rfl
      · subst z
        cases r2
        rw [List.append_nil] at p
        exact Wnt.at t p (h.rep r) rfl
    | _ => exact False.elim p
  | _ => exact False.elim p

/-! ### numbers -/
/-- a rule of two ints -/
theorem o2_int {K : KF} {C : Int → Int → Prop} {g : Int → Int → V} {f : Dat → Dat → R Dat} (h : ∀ d e (p : Dat → Prop) (x : Nat → Prop), Post (f d e) p x → ∃ i j z, d = .int i ∧ e = .int j ∧ C i j ∧ p z ∧ isBox z = false ∧ ∀ K Z H, Rep K Z H (g i j) z) : Op2 K (rI C g) .sh .sh .new f := by
  intro Z H Hs v u d e Q t s hv hu p
  obtain ⟨i, j, z, rfl, rfl, hc, q, b, r⟩ := h d e _ _ p
  cases hv
  cases hu
  exact ⟨i, j, rfl, rfl, hc, Wnt.at t q (r _ _ _) b⟩
theorem o2_int0 {K : KF} {g : Int → Int → V} {f : Dat → Dat → R Dat} (h : ∀ d e (p : Dat → Prop) (x : Nat → Prop), Post (f d e) p x → ∃ i j z, d = .int i ∧ e = .int j ∧ p z ∧ isBox z = false ∧ ∀ K Z H, Rep K Z H (g i j) z) : Op2 K (rI0 g) .sh .sh .new f := by
  intro Z H Hs v u d e Q t s hv hu p
  obtain ⟨i, j, z, rfl, rfl, q, b, r⟩ := h d e _ _ p
  cases hv
  cases hu
  exact ⟨i, j, rfl, rfl, Wnt.at t q (r _ _ _) b⟩
theorem o2_sub {K : KF} : Op2 K (rI0 fun i j => .int (i - j)) .sh .sh .new subD := o2_int0 fun d e p x h => by
  cases d <;> cases e <;> first | exact ⟨_, _, _, rfl, rfl, h, rfl, fun _ _ _ => .int _⟩ | exact False.elim h
theorem o2_mod {K : KF} : Op2 K (rI (fun _ j => 0 < j) fun i j => .int (i % j)) .sh .sh .new modD := o2_int fun d e p x h => by
  cases d <;> cases e <;> first | exact ⟨_, _, _, rfl, rfl, (Post.ite h).1, (Post.ite h).2, rfl, fun _ _ _ => .int _⟩ | exact False.elim h
theorem o2_fdiv {K : KF} : Op2 K (rI CDiv fun i j => .int (i / j)) .sh .sh .new fdivD := o2_int fun d e p x h => by
  cases d <;> cases e <;> first | exact ⟨_, _, _, rfl, rfl, (Post.ite h).1, (Post.ite h).2, rfl, fun _ _ _ => .int _⟩ | exact False.elim h
theorem o2_pow {K : KF} : Op2 K (rI CPow fun i j => .int (i ^ j.toNat)) .sh .sh .new powD := o2_int fun d e p x h => by
  cases d <;> cases e <;> first | exact ⟨_, _, _, rfl, rfl, (Post.ite h).1, (Post.ite h).2, rfl, fun _ _ _ => .int _⟩ | exact False.elim h
/-! ### order, None -/
def rOrd (p : Int → Int → Bool) (q : List Nat → List Nat → Bool) : R2 := fun x y H Q => (∃ i j, x = .int i ∧ y = .int j ∧ Q (.bl (p i j)) H) ∨ (∃ i j, x = .str i ∧ y = .str j ∧ Q (.bl (q i.cps.toList j.cps.toList)) H)
theorem opU_lt : OpR X (compareOp .Lt) (rOrd (fun i j => decide (i < j)) fun x y => ltS x y) := op_lt.or op_lt_str
theorem opU_le : OpR X (compareOp .LtE) (rOrd (fun i j => decide (i ≤ j)) fun x y => !ltS y x) := op_le.or op_le_str
theorem opU_gt : OpR X (compareOp .Gt) (rOrd (fun i j => decide (j < i)) fun x y => ltS y x) := op_gt.or op_gt_str
theorem opU_ge : OpR X (compareOp .GtE) (rOrd (fun i j => decide (j ≤ i)) fun x y => !ltS x y) := op_ge.or op_ge_str
theorem o2_ord {K : KF} {p : Int → Int → Bool} {q : List Nat → List Nat → Bool} {f : Dat → Dat → R Dat} (hi : ∀ i j, f (.int i) (.int j) = .ok (.bl (p i j))) (hs : ∀ x y, f (.str x) (.str y) = .ok (.bl (q x y)))
    (hn : ∀ d e, (∃ z, f d e = .ok z) → (∃ i j, d = .int i ∧ e = .int j) ∨ ∃ x y, d = .str x ∧ e = .str y) : Op2 K (rOrd p q) .sh .sh .new f := by
  intro Z H Hs v u d e Q t s hv hu pp
  have h0 : ∃ z, f d e = .ok z := by
    cases h : f d e with
    | ok z => exact ⟨z, rfl⟩
    | exc c => rw [h] at pp; exact False.elim pp
    | bad => rw [h] at pp; exact False.elim pp
  rcases hn d e h0 with ⟨i, j, rfl, rfl⟩ | ⟨x, y, rfl, rfl⟩
  · rw [hi] at pp
    cases hv
    cases hu
    exact .inl ⟨i, j, rfl, rfl, Wnt.bl t pp⟩
  · rw [hs] at pp
    cases hv
    cases hu
    exact .inr ⟨_, _, rfl, rfl, Wnt.bl t pp⟩
theorem o2_lt {K : KF} : Op2 K (rOrd (fun i j => decide (i < j)) fun x y => ltS x y) .sh .sh .new ltD := o2_ord (fun _ _ => rfl) (fun _ _ => rfl) fun d e ⟨z, h⟩ => by
  cases d <;> cases e <;> first | exact .inl ⟨_, _, rfl, rfl⟩ | exact .inr ⟨_, _, rfl, rfl⟩ | cases h
theorem o2_le {K : KF} : Op2 K (rOrd (fun i j => decide (i ≤ j)) fun x y => !ltS y x) .sh .sh .new leD := o2_ord (fun _ _ => rfl) (fun _ _ => rfl) fun d e ⟨z, h⟩ => by
  cases d <;> cases e <;> first | exact .inl ⟨_, _, rfl, rfl⟩ | exact .inr ⟨_, _, rfl, rfl⟩ | cases h
theorem o2_gt {K : KF} : Op2 K (rOrd (fun i j => decide (j < i)) fun x y => ltS y x) .sh .sh .new gtD := o2_ord (fun _ _ => rfl) (fun _ _ => rfl) fun d e ⟨z, h⟩ => by
  cases d <;> cases e <;> first | exact .inl ⟨_, _, rfl, rfl⟩ | exact .inr ⟨_, _, rfl, rfl⟩ | cases h
theorem o2_ge {K : KF} : Op2 K (rOrd (fun i j => decide (j ≤ i)) fun x y => !ltS x y) .sh .sh .new geD := o2_ord (fun _ _ => rfl) (fun _ _ => rfl) fun d e ⟨z, h⟩ => by
  cases d <;> cases e <;> first | exact .inl ⟨_, _, rfl, rfl⟩ | exact .inr ⟨_, _, rfl, rfl⟩ | cases h
theorem sh_non {K : KF} {Z : ZS} {H : Hp} {v : V} {d : Dat} (h : Sh K Z H v d) : isN d = .ok (.bl (decide (v = .non))) ∧ notN d = .ok (.bl (!decide (v = .non))) := by
  cases h <;> exact ⟨by simp [isN], by simp [notN]⟩
theorem q_isN {c : Ct} {W : WX} {own : List Nat} {a : Expr} {m : EM} {j : Nat} {p2 pos : Pos} (ha : PE X a (qE c W own .sh m)) : PE X (.Compare a [.Is] [.Constant .none j p2] pos) (qE c W own .new (e1 isN m)) :=
  (pe_cmp (pc_isN ha)).imp fun σ H Q ⟨Z, ρ, S, p⟩ => ⟨Z, ρ, S, (Post.bnd p).imp (fun d p1 v Z1 H1 x1 hv => by
    rw [(sh_non hv).1] at p1
    exact p1 (.bl _) Z1 H1 x1 (Rep.kd .new (.bl _) rfl)) fun _ q => q⟩
theorem q_notN {c : Ct} {W : WX} {own : List Nat} {a : Expr} {m : EM} {j : Nat} {p2 pos : Pos} (ha : PE X a (qE c W own .sh m)) : PE X (.Compare a [.IsNot] [.Constant .none j p2] pos) (qE c W own .new (e1 notN m)) :=
  (pe_cmp (pc_notN ha)).imp fun σ H Q ⟨Z, ρ, S, p⟩ => ⟨Z, ρ, S, (Post.bnd p).imp (fun d p1 v Z1 H1 x1 hv => by
    rw [(sh_non hv).2] at p1
    exact p1 (.bl _) Z1 H1 x1 (Rep.kd .new (.bl _) rfl)) fun _ q => q⟩

/-! ### equality at any depth -/
mutual
def toPy : Dat → PyData
  | .non => .none
  | .bl b => .bool b
  | .int i => .int i
  | .str s => .str ⟨s.toArray⟩
  | .lst xs => .list (toPyL xs)
  | .tup xs => .tuple (toPyL xs)
  | .dic _ => .none
  | .exc _ => .none
def toPyL : List Dat → List PyData
  | [] => []
  | d :: r => toPy d :: toPyL r
end
theorem b2i_eq (b : Bool) : b2i b = (if b then 1 else 0) := rfl
mutual
theorem eqv_py : ∀ (d e : Dat) (n m : Nat), shp n d = true → shp m e = true → PyData.eqv (toPy d) (toPy e) = eqv d e
  | .non, e, n, m, h, k => by cases e <;> first | rfl | (cases m <;> exact absurd k (by simp [shp]))
  | .bl b, e, n, m, h, k => by cases e <;> first | rfl | (cases m <;> exact absurd k (by simp [shp]))
  | .int i, e, n, m, h, k => by cases e <;> first | rfl | (cases m <;> exact absurd k (by simp [shp]))
  | .str s, e, n, m, h, k => by
    cases e with
    | str t =>
      show ((⟨s.toArray⟩ : Str) == ⟨t.toArray⟩) = (s == t)
      rw [Bool.eq_iff_iff, beq_iff_eq, beq_iff_eq]
      constructor
      · intro q
        injection q with q
        simpa using congrArg Array.toList q
      · intro q
        subst q
        rfl
    | _ => first | rfl | (cases m <;> exact absurd k (by simp [shp]))
  | .lst xs, e, n, m, h, k => by
    cases n with
    | zero => exact absurd h (by simp [shp])
    | succ n =>
      cases e with
      | lst ys =>
        cases m with
        | zero => exact absurd k (by simp [shp])
        | succ m => exact eqv_pyL xs ys n m h k
      | _ => first | rfl | (cases m <;> exact absurd k (by simp [shp]))
  | .tup xs, e, n, m, h, k => by
    cases n with
    | zero => exact absurd h (by simp [shp])
    | succ n =>
      cases e with
      | tup ys =>
        cases m with
        | zero => exact absurd k (by simp [shp])
        | succ m => exact eqv_pyL xs ys n m h k
      | _ => first | rfl | (cases m <;> exact absurd k (by simp [shp]))
  | .dic _, e, n, m, h, k => by cases n <;> exact absurd h (by simp [shp])
  | .exc _, e, n, m, h, k => by cases n <;> exact absurd h (by simp [shp])
theorem eqv_pyL : ∀ (d e : List Dat) (n m : Nat), shpL n d = true → shpL m e = true → PyData.eqvAll (toPyL d) (toPyL e) = eqvL d e
  | [], [], _, _, _, _ => rfl
  | [], _ :: _, _, _, _, _ => rfl
  | _ :: _, [], _, _, _, _ => rfl
  | d :: r, e :: t, n, m, h, k => by
    simp only [shpL, Bool.and_eq_true] at h k
    simp only [toPyL, PyData.eqvAll, eqvL, eqv_py d e n m h.1 k.1, eqv_pyL r t n m h.2 k.2]
end
theorem okS_ok {x : Str} (h : okS x.cps.toList) : PyData.strOk x = true := by
  unfold PyData.strOk
  rw [← Array.all_toList, List.all_eq_true]
  intro c hc
  have := h.1 c hc
  simpa using this
section
variable {K : KF} {Z : ZS} {H : Hp}
mutual
theorem Rep.dp : ∀ {v : V} {d : Dat} {n : Nat}, Rep K Z H v d → shp n d = true → Dp K H v (toPy d) ∧ (toPy d).canLay0 = true ∧ (toPy d).depth ≤ n
  | _, _, _, .non, _ => ⟨.non, by simp [toPy, PyData.canLay0], by simp [toPy, PyData.depth]⟩
  | _, _, _, .bl b, _ => ⟨.bl b, by simp [toPy, PyData.canLay0], by simp [toPy, PyData.depth]⟩
  | _, _, _, .int i, _ => ⟨.int i, by simp [toPy, PyData.canLay0], by simp [toPy, PyData.depth]⟩
  | _, _, _, .str x hx, _ => ⟨by simpa [toPy] using Dp.str x, by simpa [toPy, PyData.canLay0] using okS_ok hx, by simp [toPy, PyData.depth]⟩
  | _, _, 0, .lst z h r, s => absurd s (by simp [shp])
  | _, _, n + 1, .lst z h r, s => by
    obtain ⟨h1, h2, h3⟩ := RepA.dp r (show shpL n _ = true from s)
    exact ⟨.lst (.inl h) h1, by simpa [toPy, PyData.canLay0] using h2, by simpa [toPy, PyData.depth] using h3⟩
  | _, _, 0, .lstK h r, s => absurd s (by simp [shp])
  | _, _, n + 1, .lstK h r, s => by
    obtain ⟨h1, h2, h3⟩ := RepA.dp r (show shpL n _ = true from s)
    exact ⟨.lst (.inr h) h1, by simpa [toPy, PyData.canLay0] using h2, by simpa [toPy, PyData.depth] using h3⟩
  | _, _, 0, .tup z h r, s => absurd s (by simp [shp])
  | _, _, n + 1, .tup z h r, s => by
    obtain ⟨h1, h2, h3⟩ := RepA.dp r (show shpL n _ = true from s)
    exact ⟨.tup (.inl h) h1, by simpa [toPy, PyData.canLay0] using h2, by simpa [toPy, PyData.depth] using h3⟩
  | _, _, 0, .tupK h r, s => absurd s (by simp [shp])
  | _, _, n + 1, .tupK h r, s => by
    obtain ⟨h1, h2, h3⟩ := RepA.dp r (show shpL n _ = true from s)
    exact ⟨.tup (.inr h) h1, by simpa [toPy, PyData.canLay0] using h2, by simpa [toPy, PyData.depth] using h3⟩
  | _, _, n, .dic z h r, s => absurd s (by cases n <;> simp [shp])
theorem RepA.dp : ∀ {v : List V} {d : List Dat} {n : Nat}, RepA K Z H v d → shpL n d = true → DpAll K H v (toPyL d) ∧ PyData.canLayAll0 (toPyL d) = true ∧ PyData.depthAll (toPyL d) ≤ n
  | _, _, _, .nil, _ => ⟨.nil, by simp [toPyL, PyData.canLayAll0], by simp [toPyL, PyData.depthAll]⟩
  | _, _, n, .cons h r, s => by
    simp only [shpL, Bool.and_eq_true] at s
    obtain ⟨h1, h2, h3⟩ := Rep.dp h s.1
    obtain ⟨k1, k2, k3⟩ := RepA.dp r s.2
    exact ⟨.cons h1 k1, by simp [toPyL, PyData.canLayAll0, h2, k2], by simp only [toPyL, PyData.depthAll]; omega⟩
end
theorem Sh.dp {v : V} {d : Dat} {n : Nat} (h : Sh K Z H v d) (s : shp n d = true) : Dp K H v (toPy d) ∧ (toPy d).canLay0 = true ∧ (toPy d).depth ≤ n := by
  cases h with
  | non => exact Rep.dp (K := K) (Z := Z) .non s
  | bl b => exact Rep.dp (K := K) (Z := Z) (.bl b) s
  | int i => exact Rep.dp (K := K) (Z := Z) (.int i) s
  | str x hx => exact Rep.dp (K := K) (Z := Z) (.str x hx) s
  | lst h r =>
    cases n with
    | zero => exact absurd s (by simp [shp])
    | succ n =>
      obtain ⟨h1, h2, h3⟩ := RepA.dp r (show shpL n _ = true from s)
      exact ⟨.lst h h1, by simpa [toPy, PyData.canLay0] using h2, by simpa [toPy, PyData.depth] using h3⟩
  | tup h r => exact Rep.dp (h.rep r) s
  | dic h r => exact absurd s (by cases n <;> simp [shp])
theorem shaped_of {d : PyData} (h : d.canLay0 = true) (k : d.depth ≤ DEEP) : SeqAt.shaped d = true := by
  unfold SeqAt.shaped
  rw [h, Bool.true_and]
  exact decide_eq_true (Nat.le_trans k (by decide))
end
theorem post_eq {d e : Dat} {b : Bool} {p : Dat → Prop} {x : Nat → Prop} (h : Post (if (shp DEEP d && shp DEEP e) = true then R.ok (.bl b) else .bad) p x) : shp DEEP d = true ∧ shp DEEP e = true ∧ p (.bl b) := by
  obtain ⟨h, q⟩ := Post.ite h
  rw [Bool.and_eq_true] at h
  exact ⟨h.1, h.2, q⟩
theorem o2_eq {K : KF} : Op2 K (rEqD K) .sh .sh .new eqD := by
  intro Z H Hs v u d e Q t s hv hu p
  obtain ⟨h1, h2, q⟩ := post_eq p
  obtain ⟨a1, a2, a3⟩ := Sh.dp hv h1
  obtain ⟨b1, b2, b3⟩ := Sh.dp hu h2
  exact ⟨_, _, a1, b1, shaped_of a2 a3, shaped_of b2 b3, by rw [eqv_py d e _ _ h1 h2]; exact Wnt.bl t q⟩
theorem o2_ne {K : KF} : Op2 K (rNeD K) .sh .sh .new neD := by
  intro Z H Hs v u d e Q t s hv hu p
  obtain ⟨h1, h2, q⟩ := post_eq p
  obtain ⟨a1, a2, a3⟩ := Sh.dp hv h1
  obtain ⟨b1, b2, b3⟩ := Sh.dp hu h2
  exact ⟨_, _, a1, b1, shaped_of a2 a3, shaped_of b2 b3, by rw [eqv_py d e _ _ h1 h2]; exact Wnt.bl t q⟩
end
end PL

set_option maxRecDepth 100000
set_option maxHeartbeats 4000000
namespace PL
open PySem PySem.Spec PyProof.Rows L2
set_option autoImplicit false

section
variable {X : Cx} {c : Ct} {W : WX} {own own' : List Nat} {k k1 k2 : Kd} {e a b : Expr} {es : List Expr} {m m1 m2 : EM} {t u : TM} {ms : LM} {pos : Pos}

/-! ### argument lists, displays -/
theorem qa_nil : PA X [] (qA c W own k eNil) := pa_nil.imp fun σ H Q ⟨Z, ρ, S, p⟩ => p [] Z H (.refl S.trk) .nil
theorem qa_cons (ha : PE X e (qE c W own k m)) (hr : PA X es (qA c W own k ms)) (hs : starEach (e :: es) X.env = (false, eval e X.env) :: starEach es X.env := by rfl) : PA X (e :: es) (qA c W own k (eCons m ms)) :=
  (pa_cons ha hr hs).imp fun σ H Q ⟨Z, ρ, S, p⟩ => ⟨Z, ρ, S, (Post.bnd p).imp (fun d p1 v Z1 H1 x1 hv => ⟨Z1, ρ, S.move x1, (Post.bnd p1).imp (fun ds p2 vs Z2 H2 x2 hvs =>
    p2 (v :: vs) Z2 H2 (x1.trans x2) (.cons (hv.ext x2) (hvs.early x1.same))) fun n q => q.move x1⟩) fun _ q => q⟩
theorem q_lst (h : PA X es (qA c W own .frz ms)) : PE X (.List es pos) (qE c W own .new (eLst ms)) := (pe_lst h).imp fun σ H Q ⟨Z, ρ, S, p⟩ => ⟨Z, ρ, S, (Post.bnd p).imp (fun ds p1 vs Z1 H1 x1 hv => by
    obtain ⟨hl, p2⟩ := Post.ite p1
    have r := hv.rep
    refine ⟨by rw [← line_eq, r.len]; exact hl, fun q hq => ?_⟩
    exact Wnt.newL (Hs := H) x1.trk x1.same (fun w Z' H' x hw => p2 w Z' H' (x1.trans x) hw) r hq) fun _ q => q⟩
theorem q_tup {x1 : Nat} (h : PA X es (qA c W own .frz ms)) : PE X (.Tuple es x1 pos) (qE c W own .frz (eTup ms)) := (pe_tup h).imp fun σ H Q ⟨Z, ρ, S, p⟩ => ⟨Z, ρ, S, (Post.bnd p).imp (fun ds p1 vs Z1 H1 x1 hv => by
    obtain ⟨hl, p2⟩ := Post.ite p1
    have r := hv.rep
    refine ⟨by rw [← line_eq, r.len]; exact hl, fun q hq => ?_⟩
    exact Wnt.tup (Hs := H) (k := .frz) x1.trk (fun w Z' H' x hw => p2 w Z' H' (x1.trans x) hw) r hq) fun _ q => q⟩
theorem q_dic0 : PE X (.Dict [] [] pos) (qE c W own .new eDic0) := pe_dnewK.imp fun σ H Q ⟨Z, ρ, S, p⟩ => fun d hd => Wnt.newD (Hs := H) S.trk (Same.refl H) p .nil hd

/-! ### tests -/
/-- a bool's reading as a test -/
theorem qt_of (h : ∀ t, PE X e t → PT X e (tB t)) (he : PE X e (qE c W own k m)) : PT X e (qT c W own (tE m)) := (h _ he).imp fun σ H Q ⟨Z, ρ, S, p⟩ => ⟨Z, ρ, S, (Post.bnd p).imp (fun d p1 v Z1 H1 x1 hv => by
    have hs := hv.sh
    cases hs with
    | bl b => exact ⟨b, rfl, p1 Z1 H1 x1⟩
    | _ => exact False.elim p1) fun _ q => q⟩
/-- of a form that is no comparison, and, or, not -/
theorem qt_val (he : PE X e (qE c W own k m)) (hp : ∀ whole, isTrue e X.env whole = (do let v ← whole; standAt e.pos; holding [v] (truthy v)) := by intro _; rfl) : PT X e (qT c W own (tE m)) := qt_of (fun _ h => pt_val h hp) he
theorem qt_cmp {op : CmpOp} {r : R2} {f : Dat → Dat → R Dat} (ha : PE X a (qE c W own k1 m1)) (hb : PE X b (qE c W own k2 m2)) (ho : OpR X (compareOp op) r) (hm : behindInMarks op b = false)
    (h2 : Op2 c.K r k1 k2 k f) (nx : NoX2 f) : PT X (.Compare a [op] [b] pos) (qT c W own (tE (e2 f m1 m2))) := (pt_cmpR ho ha hb hm).imp fun σ H Q ⟨Z, ρ, S, p⟩ => by
  refine ⟨Z, ρ, S, (Post.bnd (Post.bnd p)).imp (fun d p1 v Z1 H1 x1 hv => ⟨Z1, ρ, S.move x1, (Post.bnd p1).imp (fun d' p2 u Z2 H2 x2 hu => ?_) fun n q => q.move x1⟩) fun _ q => q⟩
  refine h2 Z2 H2 H v u d d' _ x2.trk (x1.same.trans x2.same) (hv.ext x2) (hu.early x1.same) ((Post.nox (nx d d') p2).imp (fun z q w Z3 H3 x3 hw => ?_) fun _ q => q)
  have hs := hw.sh
  cases hs with
  | bl b => exact ⟨b, rfl, q Z3 H3 ((x1.trans x2).trans x3)⟩
  | _ => exact False.elim q
theorem qt_not (h : PT X a (qT c W own t)) : PT X (.UnaryOp .Not a pos) (qT c W own (tNot t)) := (pt_not h).imp fun σ H Q ⟨Z, ρ, S, p⟩ => ⟨Z, ρ, S, (Post.bnd p).imp (fun b p1 => p1) fun _ q => q⟩
theorem qw_and1 (h : PT X a (qT c W own t)) : PW X (.BoolOp .And [a] pos) (qT c W own t) := pw_and1 h
theorem qw_or1 (h : PT X a (qT c W own t)) : PW X (.BoolOp .Or [a] pos) (qT c W own t) := pw_or1 h
theorem qw_and (ha : PT X a (qT c W own t)) (hb : PW X (.BoolOp .And (b :: es) pos) (qT c W own u)) : PW X (.BoolOp .And (a :: b :: es) pos) (qT c W own (tAnd t u)) := (pw_and ha hb).imp fun σ H Q ⟨Z, ρ, S, p⟩ =>
  ⟨Z, ρ, S, (Post.bnd p).imp (fun b p1 Z1 H1 x1 => by
    cases b with
    | true => exact ⟨Z1, ρ, S.move x1, Post.imp p1 (fun b q Z2 H2 x2 => q Z2 H2 (x1.trans x2)) fun _ q => q.move x1⟩
    | false => exact p1 Z1 H1 x1) fun _ q => q⟩
theorem qw_or (ha : PT X a (qT c W own t)) (hb : PW X (.BoolOp .Or (b :: es) pos) (qT c W own u)) : PW X (.BoolOp .Or (a :: b :: es) pos) (qT c W own (tOr t u)) := (pw_or ha hb).imp fun σ H Q ⟨Z, ρ, S, p⟩ =>
  ⟨Z, ρ, S, (Post.bnd p).imp (fun b p1 Z1 H1 x1 => by
    cases b with
    | false => exact ⟨Z1, ρ, S.move x1, Post.imp p1 (fun b q Z2 H2 x2 => q Z2 H2 (x1.trans x2)) fun _ q => q.move x1⟩
    | true => exact p1 Z1 H1 x1) fun _ q => q⟩
/-! ### and, or, not, if as values -/
theorem q_one {op} (h : PE X a (qE c W own k m)) : PE X (.BoolOp op [a] pos) (qE c W own k m) := pe_one h
theorem q_and (ha : PE X a (qE c W own k1 m1)) (hb : PE X (.BoolOp .And (b :: es) pos) (qE c W own k m2)) : PE X (.BoolOp .And (a :: b :: es) pos) (qE c W own k (eAnd m1 m2)) := (pe_and ha hb).imp fun σ H Q ⟨Z, ρ, S, p⟩ =>
  ⟨Z, ρ, S, (Post.bnd p).imp (fun d p1 v Z1 H1 x1 hv => by
    have hs := hv.sh
    cases hs with
    | bl b =>
      cases b with
      | true => exact ⟨true, rfl, Z1, ρ, S.move x1, Post.imp p1 (fun b q w Z2 H2 x2 hw => q w Z2 H2 (x1.trans x2) (hw.early x1.same)) fun _ q => q.move x1⟩
      | false => exact ⟨false, rfl, p1 (.bl false) Z1 H1 x1 (Rep.kd k (.bl false) rfl)⟩
    | _ => exact False.elim p1) fun _ q => q⟩
theorem q_or (ha : PE X a (qE c W own k1 m1)) (hb : PE X (.BoolOp .Or (b :: es) pos) (qE c W own k m2)) : PE X (.BoolOp .Or (a :: b :: es) pos) (qE c W own k (eOr m1 m2)) := (pe_or ha hb).imp fun σ H Q ⟨Z, ρ, S, p⟩ =>
  ⟨Z, ρ, S, (Post.bnd p).imp (fun d p1 v Z1 H1 x1 hv => by
    have hs := hv.sh
    cases hs with
    | bl b =>
      cases b with
      | false => exact ⟨false, rfl, Z1, ρ, S.move x1, Post.imp p1 (fun b q w Z2 H2 x2 hw => q w Z2 H2 (x1.trans x2) (hw.early x1.same)) fun _ q => q.move x1⟩
      | true => exact ⟨true, rfl, p1 (.bl true) Z1 H1 x1 (Rep.kd k (.bl true) rfl)⟩
    | _ => exact False.elim p1) fun _ q => q⟩
theorem nx_not : NoX1 notB := fun d x h => by cases d <;> cases h
theorem q_not (ha : PE X a (qE c W own k m)) : PE X (.UnaryOp .Not a pos) (qE c W own .new (e1 notB m)) := (pe_not ha).imp fun σ H Q ⟨Z, ρ, S, p⟩ =>
  ⟨Z, ρ, S, (Post.bnd p).imp (fun d p1 v Z1 H1 x1 hv => by
    have hs := hv.sh
    cases hs with
    | bl b => exact ⟨b, rfl, p1 (.bl (!b)) Z1 H1 x1 (Rep.kd .new (.bl (!b)) rfl)⟩
    | _ => exact False.elim p1) fun _ q => q⟩
theorem q_ifExp {e0 : Expr} (hc : PT X e0 (qT c W own t)) (ha : PE X a (qE c W own k m1)) (hb : PE X b (qE c W own k m2)) : PE X (.IfExp e0 a b pos) (qE c W own k (eIf t m1 m2)) := (pe_ifExp hc ha hb).imp fun σ H Q ⟨Z, ρ, S, p⟩ =>
  ⟨Z, ρ, S, (Post.bnd p).imp (fun d p1 Z1 H1 x1 => by
    cases d with
    | true => exact ⟨Z1, ρ, S.move x1, Post.imp p1 (fun b q w Z2 H2 x2 hw => q w Z2 H2 (x1.trans x2) (hw.early x1.same)) fun _ q => q.move x1⟩
    | false => exact ⟨Z1, ρ, S.move x1, Post.imp p1 (fun b q w Z2 H2 x2 hw => q w Z2 H2 (x1.trans x2) (hw.early x1.same)) fun _ q => q.move x1⟩) fun _ q => q⟩
end

/-! ### a def's promise -/
/-- a def does what its mirror says -/
def spM (K : KF) (EC : Nat → Addr) (n : Nat) (f : List Dat → R Dat) : Sp := fun vs H Q E => vs.length = n ∧ ∃ (Z : ZS) (ds : List Dat), Trk Z H ∧ RepA K Z H vs ds ∧
  Post (f ds) (fun d => ∀ v Z' H', Ext Z H Z' H' → Rep K Z' H' v d → Q v H') (fun x => ∀ Z' H', Ext Z H Z' H' → E (.ref (EC x)) none H')
section
variable {X : Cx} {c : Ct} {W : WX} {own : List Nat} {es : List Expr} {e : Expr} {ms : LM} {pos p : Pos} {x : Str} {f : Addr} {fd : FuncData} {ps : List Str} {F : List Dat → R Dat} {j n : Nat}
/-- a call of a def -/
theorem q_call (G : FnOk X.prog X.w X.K X.mg X.base (L2.CX X.prog X.w) j f fd ps (spM c.K c.EC n F)) (hn : (e :: es).length = n) (hr : Room j X.A) (hg : Gl X x) (hm : X.mg x = some (.ref f)) (hk : PySem.W.keepIn X.K (.ref f) = true) (hb : Binds X.K fd ps []) (tk : Takes X W)
    (ha : PA X (e :: es) (qA c W own .frz ms)) (hlen : ∀ ρ ds, ms ρ = .ok ds → ds.length = n) (hdb : (x == ("__debug__" : Str)) = false) (he : starEach (e :: es) X.env = (false, eval e X.env) :: starEach es X.env := by rfl) (hpl : (backTo pos (starEach es X.env)).any (·.1) = false := by rfl) :
    PE X (.Call (.Name x p) (e :: es) [] pos) (qE c W own .frz (eCall F ms)) := (pe_callS G hr hg hm hk hb (fun σ => passAt tk σ) ha hdb he hpl).imp fun σ H Q ⟨Z, ρ, S, p⟩ => by
  have p := Post.bnd p
  refine ⟨Z, ρ, S, ?_⟩
  cases q : ms ρ with
  | bad => rw [q] at p; exact p.elim
  | exc x => rw [q] at p; exact p
  | ok ds =>
    rw [q] at p
    intro vs Z1 H1 x1 hv
    refine ⟨by rw [hv.rep.len]; exact hlen ρ ds q, Z1, ds, x1.trk, hv.rep, Post.imp p (fun d q2 v Z2 H2 x2 hw => q2 v Z2 H2 (x1.trans x2) hw) fun n q2 Z2 H2 x2 => q2 Z2 H2 (x1.trans x2)⟩
end

/-! ### targets -/
/-- what a target wants: the slots behind it -/
def Tch (ts : List Nat) (σ σ' : St) : Prop := σ'.length = σ.length ∧ ∀ j, j ∉ ts → σ'[j]? = σ[j]?
def qG (c : Ct) (own own' ts : List Nat) (g : GM) : TG := fun v σ H Q => ∃ Z ρ d, SE c own Z H σ ρ ∧ Rep c.K Z H v d ∧ Post (g d ρ) (fun ρ' => ∀ σ', Tch ts σ σ' → SE c own' Z H σ' ρ' → Q σ' H) (fun _ => False)
def qGs (c : Ct) (own own' ts : List Nat) (g : GsM) : TGs := fun vs σ H Q => ∃ Z ρ ds, SE c own Z H σ ρ ∧ RepA c.K Z H vs ds ∧ Post (g ds ρ) (fun ρ' => ∀ σ', Tch ts σ σ' → SE c own' Z H σ' ρ' → Q σ' H) (fun _ => False)
section
variable {c : Ct} {own own' : List Nat} {Z : ZS} {H : Hp} {σ : St} {ρ : Env} {i : Nat} {v : V} {d : Dat}
theorem get_set {α : Type} (l : List α) (i j : Nat) (x : α) : (l.set i x)[j]? = if i = j ∧ j < l.length then some x else l[j]? := by
  rw [List.getElem?_set]
  by_cases h : i = j
  · subst h
    by_cases h2 : i < l.length
    · simp [h2]
    · simp [h2, List.getElem?_eq_none (by omega : l.length ≤ i)]
  · simp [h]
/-- a settled value is stored: the slot is not own -/
theorem SE.set (S : SE c own Z H σ ρ) (r : Rep c.K Z H v d) (hi : i < ρ.length) : SE c (own.filter (· != i)) Z H (σ.set i (some v)) (ρ.set i (some d)) where
  ext := S.ext
  len := by simp [S.len]
  val := fun j d' e n nx => by
    rw [get_set] at e
    rw [get_set, S.len]
    by_cases h : i = j ∧ j < ρ.length
    · rw [if_pos h] at e ⊢
      cases e
      exact ⟨v, rfl, r⟩
    · rw [if_neg h] at e ⊢
      refine S.val j d' e (fun z => n ?_) nx
      rw [List.mem_filter]
      refine ⟨z, ?_⟩
      have : j ≠ i := fun q => h ⟨q.symm, by subst q; exact hi⟩
      simpa using this
  exc := fun j x e => by
    rw [get_set] at e
    rw [get_set, S.len]
    by_cases h : i = j ∧ j < ρ.length
    · rw [if_pos h] at e
      cases e
      cases r
    · rw [if_neg h] at e ⊢
      exact S.exc j x e
  ow := fun j hj => by
    obtain ⟨hj, hne⟩ := List.mem_filter.mp hj
    have hne : j ≠ i := by simpa using hne
    obtain ⟨a, d', e1, e2, q⟩ := S.ow j hj
    refine ⟨a, d', ?_, ?_, q⟩
    · rw [get_set, if_neg (fun z => hne z.1.symm)]; exact e1
    · rw [get_set, if_neg (fun z => hne z.1.symm)]; exact e2
  inj := fun j hj l hl hne => by
    obtain ⟨hj, h1⟩ := List.mem_filter.mp hj
    obtain ⟨hl, h2⟩ := List.mem_filter.mp hl
    have h1 : j ≠ i := by simpa using h1
    have h2 : l ≠ i := by simpa using h2
    rw [get_set, get_set, if_neg (fun z => h1 z.1.symm), if_neg (fun z => h2 z.1.symm)]
    exact S.inj j hj l hl hne
/-- a new list or dict is stored: the slot is own -/
theorem SE.setN {Hs : Hp} (S : SE c own Z H σ ρ) (r : Val c.K Z H Hs .new v d) (b : isBox d = true) (hi : i < ρ.length) (h0 : Same c.H0 Hs) (hs : ∀ j ∈ own, ∀ a, σ[j]? = some (some (.ref a)) → Hs a ≠ none) :
    SE c (i :: own.filter (· != i)) Z H (σ.set i (some v)) (ρ.set i (some d)) where
  ext := S.ext
  len := by simp [S.len]
  val := fun j d' e n nx => by
    have hji : j ≠ i := fun q => n (by subst q; exact List.mem_cons_self)
    rw [get_set, if_neg (fun z => hji z.1.symm)] at e ⊢
    refine S.val j d' e (fun z => n (List.mem_cons_of_mem _ (List.mem_filter.mpr ⟨z, by simpa using hji⟩))) nx
  exc := fun j x e => by
    rw [get_set] at e
    rw [get_set, S.len]
    by_cases h : i = j ∧ j < ρ.length
    · rw [if_pos h] at e
      cases e
      cases b
    · rw [if_neg h] at e ⊢
      exact S.exc j x e
  ow := fun j hj => by
    obtain ⟨a, ev, nz, hn, t⟩ := r.1 b
    by_cases h : j = i
    · subst h
      refine ⟨a, d, ?_, ?_, nz, h0.free hn, t⟩
      · rw [get_set, if_pos ⟨rfl, hi⟩]
      · rw [get_set, if_pos ⟨rfl, by rw [S.len]; exact hi⟩, ev]
    · rcases List.mem_cons.mp hj with hj | hj
      · exact absurd hj h
      · obtain ⟨hj, _⟩ := List.mem_filter.mp hj
        obtain ⟨a', d', e1, e2, q⟩ := S.ow j hj
        refine ⟨a', d', ?_, ?_, q⟩
        · rw [get_set, if_neg (fun z => h z.1.symm)]; exact e1
        · rw [get_set, if_neg (fun z => h z.1.symm)]; exact e2
  inj := fun j hj l hl hne => by
    obtain ⟨a, ev, nz, hn, t⟩ := r.1 b
    have hlt : i < σ.length := by rw [S.len]; exact hi
    have key : ∀ j, j ≠ i → j ∈ i :: own.filter (· != i) → j ∈ own := fun j h z => by
      rcases List.mem_cons.mp z with z | z
      · exact absurd z h
      · exact (List.mem_filter.mp z).1
    by_cases h1 : j = i
    · by_cases h2 : l = i
      · exact absurd (h1.trans h2.symm) hne
      · rw [get_set, get_set, if_pos ⟨h1.symm, by rw [h1]; exact hlt⟩, if_neg (fun z => h2 z.1.symm)]
        intro q
        exact hs l (key l h2 hl) a (by rw [← q, ev]) hn
    · by_cases h2 : l = i
      · rw [get_set, get_set, if_neg (fun z => h1 z.1.symm), if_pos ⟨h2.symm, by rw [h2]; exact hlt⟩]
        intro q
        exact hs j (key j h1 hj) a (by rw [q, ev]) hn
      · rw [get_set, get_set, if_neg (fun z => h1 z.1.symm), if_neg (fun z => h2 z.1.symm)]
        exact S.inj j (key j h1 hj) l (key l h2 hl) hne
end
end PL

set_option maxRecDepth 100000
set_option maxHeartbeats 4000000
namespace PL
open PySem PySem.Spec PyProof.Rows L2
set_option autoImplicit false

/-! ### targets -/
section
variable {X : Cx} {c : Ct} {W : WX} {own own' own1 ownL ts : List Nat} {i n : Nat} {x : Str} {pos : Pos} {e : Expr} {es : List Expr} {g : GM} {gs : GsM}
theorem qg_name (hN : X.N.Nodup) (hi : X.N[i]? = some x) (hx : Loc X.env.scope x) (hf : X.fn x = true ∨ X.env.scope.names.lookup x = some .local) (ho : own' = own.filter (· != i)) (ht : i ∈ ts) : PG X (.Name x pos) (qG c own own' ts (gV i)) := by
  subst ho
  refine ⟨fun pins s σ H v u Q I r h => (pg_name hN hi hx hf).run pins s σ H v u Q I r ?_⟩
  obtain ⟨Z, ρ, d, S, rv, p⟩ := h
  unfold gV at p
  obtain ⟨hl, p⟩ := Post.ite p
  refine p _ ⟨List.length_set, fun j hj => ?_⟩ (S.set rv hl)
  rw [get_set, if_neg (fun z => hj (by rw [← z.1]; exact ht))]
theorem qgs_nil : PGs X [] (qGs c own own ts gNil) := by
  refine ⟨fun pins s σ H vs us Q I r h => pgs_nil.run pins s σ H vs us Q I r ?_⟩
  obtain ⟨Z, ρ, ds, S, rv, p⟩ := h
  cases rv with
  | nil => exact ⟨rfl, p _ ⟨rfl, fun _ _ => rfl⟩ S⟩
  | cons _ _ => exact p.elim
theorem qgs_cons (h1 : PG X e (qG c own own1 ts g)) (h2 : PGs X es (qGs c own1 own' ts gs)) (hst : (assignEach (e :: es) X.env).map (·.2) = assign e X.env :: (assignEach es X.env).map (·.2) := by rfl) : PGs X (e :: es) (qGs c own own' ts (gCons g gs)) := by
  refine ⟨fun pins s σ H vs us Q I r h => (pgs_cons h1 h2 hst).run pins s σ H vs us Q I r ?_⟩
  obtain ⟨Z, ρ, ds, S, rv, p⟩ := h
  cases rv with
  | nil => exact p.elim
  | cons r1 r2 => exact ⟨_, _, rfl, Z, ρ, _, S, r1, (Post.bnd p).imp (fun ρ1 q σ1 t1 S1 => ⟨Z, ρ1, _, S1, r2, Post.imp q (fun ρ2 q2 σ2 t2 S2 => q2 σ2 ⟨t2.1.trans t1.1, fun j hj => (t2.2 j hj).trans (t1.2 j hj)⟩ S2) fun _ q => q⟩) fun _ q => q⟩
theorem qg_tup {k : Nat} (hK : c.K = X.K) (hc : X.calm = true) (h : PGs X es (qGs c own own' ts gs)) (hn : (assignEach es X.env).length = n := by rfl) (hst : (assignEach es X.env).findIdx? (·.1) = none := by rfl) : PG X (.Tuple es k pos) (qG c own own' ts (gTup n gs)) := by
  refine ⟨fun pins s σ H v u Q I r hh => (pg_tup hc h hn hst).run pins s σ H v u Q I r ?_⟩
  obtain ⟨Z, ρ, d, S, rv, p⟩ := hh
  cases rv with
  | @tup a xs ds z e r2 =>
    have p : Post (if ds.length = n then gs ds ρ else .bad) _ _ := p
    by_cases hl : ds.length = n
    · rw [if_pos hl] at p
      exact ⟨_, _, rfl, .inl e, by rw [r2.len]; exact hl, Z, ρ, _, S, r2, p⟩
    · rw [if_neg hl] at p
      exact p.elim
  | @tupK a xs ds e r2 =>
    have p : Post (if ds.length = n then gs ds ρ else .bad) _ _ := p
    by_cases hl : ds.length = n
    · rw [if_pos hl] at p
      exact ⟨_, _, rfl, .inr (by rw [← hK]; exact e), by rw [r2.len]; exact hl, Z, ρ, _, S, r2, p⟩
    · rw [if_neg hl] at p
      exact p.elim
  | _ => exact p.elim
end

/-! ### what is walked -/
/-- J hands out the items -/
def ItOk (K : KF) (J : It) (Z : ZS) (H : Hp) (ds : List Dat) : Prop := ∀ Z1 H1, Adv Z H Z1 H1 → Trk Z1 H1 → ∀ i : Nat, (∀ d, ds[i]? = some d → J.go i H1 ∧ ∀ x H2, J.yld i H1 x H2 → ∃ Z2, Ext Z1 H1 Z2 H2 ∧ Rep K Z2 H2 x d) ∧ (ds.length ≤ i → J.stop i H1)
def qI (c : Ct) (W : WX) (own : List Nat) (m : LM) : TI := fun σ H R => ∃ Z ρ, SE c own Z H σ ρ ∧ Post (m ρ) (fun ds => ∀ J Z' H', Ext Z H Z' H' → ItOk c.K J Z' H' ds → R J H') (PX c W Z H σ)
section
variable {K : KF} {Z : ZS} {H : Hp} {a b : Addr} {xs ys : List V} {ds es : List Dat}
theorem itl_ok (h : ∀ Z1 H1, Adv Z H Z1 H1 → SqL K H1 a xs ∧ RepA K Z1 H1 xs ds) (u : ∀ H1 zs, SqL K H1 a xs → SqL K H1 a zs → zs = xs) : ItOk K (Itl K a) Z H ds := fun Z1 H1 ad t i => by
  obtain ⟨h1, r⟩ := h Z1 H1 ad
  refine ⟨fun d e => ?_, fun hl => ⟨xs, h1, by rw [r.len]; exact hl⟩⟩
  obtain ⟨v, ev, rv⟩ := r.get e
  refine ⟨⟨xs, v, h1, ev⟩, fun x H2 y => ?_⟩
  obtain ⟨rfl, y⟩ := y
  have := y xs h1
  rw [ev] at this
  cases this
  exact ⟨Z1, .refl t, rv⟩
theorem itt_ok (h : ∀ Z1 H1, Adv Z H Z1 H1 → SqT K H1 a xs ∧ RepA K Z1 H1 xs ds) : ItOk K (Itt K a) Z H ds := fun Z1 H1 ad t i => by
  obtain ⟨h1, r⟩ := h Z1 H1 ad
  refine ⟨fun d e => ?_, fun hl => ⟨xs, h1, by rw [r.len]; exact hl⟩⟩
  obtain ⟨v, ev, rv⟩ := r.get e
  refine ⟨⟨xs, v, h1, ev⟩, fun x H2 y => ?_⟩
  obtain ⟨rfl, y⟩ := y
  have := y xs h1
  rw [ev] at this
  cases this
  exact ⟨Z1, .refl t, rv⟩
theorem its_ok {x : Str} (hx : okS x.cps.toList) : ItOk K (Its x) Z H (signs x.cps.toList) := fun Z1 H1 ad t i => by
  refine ⟨fun d e => ?_, fun hl => ?_⟩
  · unfold signs at e
    rw [List.getElem?_map] at e
    obtain ⟨ch, ec, rfl⟩ := Option.map_eq_some_iff.mp e
    have hlt : i < x.cps.size := by
      have := (List.getElem?_eq_some_iff.mp ec).1
      simpa using this
    refine ⟨hlt, fun v H2 y => ?_⟩
    obtain ⟨rfl, c2, e2, rfl⟩ := y
    have e3 : c2 = ch := by
      rw [← Array.getElem?_toList] at e2
      rw [e2] at ec
      exact Option.some.inj ec
    subst e3
    exact ⟨Z1, .refl t, .ofS rfl (okS_one hx (List.mem_of_getElem? ec))⟩
  · show x.cps.size ≤ i
    unfold signs at hl
    simpa using hl
theorem itr_ok {lo : Int} {n : Nat} {zs : List Int} (hz : zs = (List.range n).map fun k => lo + (k : Nat)) : ItOk K (Itr lo n) Z H (zs.map .int) := fun Z1 H1 ad t i => by
  subst hz
  refine ⟨fun d e => ?_, fun hl => (show n ≤ i by simpa using hl)⟩
  rw [List.getElem?_map, List.getElem?_map] at e
  obtain ⟨z, ez, rfl⟩ := Option.map_eq_some_iff.mp e
  obtain ⟨k, ek, rfl⟩ := Option.map_eq_some_iff.mp ez
  obtain ⟨h1, h2⟩ := List.getElem?_eq_some_iff.mp ek
  have hk : k = i := by simpa using h2.symm
  subst hk
  refine ⟨(show k < n by simpa using h1), fun x H2 y => ?_⟩
  obtain ⟨rfl, rfl⟩ := y
  exact ⟨Z1, .refl t, .int _⟩
theorem enumFrom_get : ∀ {ds : List Dat} {k i : Nat} {d : Dat}, (enumFrom k ds)[i]? = some d → ∃ x, ds[i]? = some x ∧ d = .tup [.int ((k + i : Nat) : Int), x]
  | [], _, _, _, h => by simp [enumFrom] at h
  | x :: r, k, 0, d, h => ⟨x, rfl, by simpa [enumFrom] using h.symm⟩
  | x :: r, k, i + 1, d, h => by
    obtain ⟨y, h1, h2⟩ := enumFrom_get (ds := r) (k := k + 1) (i := i) (by simpa [enumFrom] using h)
    exact ⟨y, by simpa using h1, by rw [h2]; congr 3; omega⟩
theorem enumFrom_len : ∀ {ds : List Dat} {k : Nat}, (enumFrom k ds).length = ds.length
  | [], _ => rfl
  | _ :: r, k => by simp [enumFrom, enumFrom_len (ds := r)]
theorem ite_ok (h : ∀ Z1 H1, Adv Z H Z1 H1 → SqL K H1 a xs ∧ RepA K Z1 H1 xs ds) : ItOk K (Ite K a) Z H (enumFrom 0 ds) := fun Z1 H1 ad t i => by
  obtain ⟨h1, r⟩ := h Z1 H1 ad
  refine ⟨fun d e => ?_, fun hl => ⟨xs, h1, by rw [r.len]; rw [enumFrom_len] at hl; exact hl⟩⟩
  obtain ⟨x, ex, rfl⟩ := enumFrom_get e
  obtain ⟨v, ev, rv⟩ := r.get ex
  refine ⟨⟨xs, v, h1, ev⟩, fun w H2 y => ?_⟩
  obtain ⟨T, v2, rfl, hT, rfl, y⟩ := y
  have := y xs h1
  rw [ev] at this
  cases this
  refine ⟨Zadd Z1 T, .laidZ t hT, .tup (.inr rfl) (.inl upd_same) (.cons ?_ (.cons (rv.adv (Ext.laidZ t hT).adv) .nil))⟩
  rw [Nat.zero_add]
  exact .int _
theorem zipT_get : ∀ {ds es : List Dat} {i : Nat} {d : Dat}, (zipT ds es)[i]? = some d → ∃ x y, ds[i]? = some x ∧ es[i]? = some y ∧ d = .tup [x, y]
  | [], _, _, _, h => by simp [zipT] at h
  | _ :: _, [], _, _, h => by simp [zipT] at h
  | x :: r, y :: t, 0, d, h => ⟨x, y, rfl, rfl, by simpa [zipT] using h.symm⟩
  | x :: r, y :: t, i + 1, d, h => by
    obtain ⟨u, v, h1, h2, h3⟩ := zipT_get (ds := r) (es := t) (i := i) (by simpa [zipT] using h)
    exact ⟨u, v, by simpa using h1, by simpa using h2, h3⟩
theorem zipT_len : ∀ {ds es : List Dat}, (zipT ds es).length = min ds.length es.length
  | [], _ => by simp [zipT]
  | _ :: _, [] => by simp [zipT]
  | _ :: r, _ :: t => by simp only [zipT, List.length_cons, zipT_len (ds := r) (es := t)]; omega
theorem itz_ok (h : ∀ Z1 H1, Adv Z H Z1 H1 → SqL K H1 a xs ∧ RepA K Z1 H1 xs ds) (k : ∀ Z1 H1, Adv Z H Z1 H1 → SqL K H1 b ys ∧ RepA K Z1 H1 ys es) : ItOk K (Itz K a b) Z H (zipT ds es) := fun Z1 H1 ad t i => by
  obtain ⟨h1, r⟩ := h Z1 H1 ad
  obtain ⟨k1, q⟩ := k Z1 H1 ad
  refine ⟨fun d e => ?_, fun hl => ⟨xs, ys, h1, k1, by rw [r.len, q.len]; rw [zipT_len] at hl; omega⟩⟩
  obtain ⟨x, y, ex, ey, rfl⟩ := zipT_get e
  obtain ⟨v, ev, rv⟩ := r.get ex
  obtain ⟨w, ew, rw'⟩ := q.get ey
  refine ⟨⟨xs, ys, v, w, h1, k1, ev, ew⟩, fun u H2 yy => ?_⟩
  obtain ⟨T, v2, w2, rfl, hT, rfl, y1, y2⟩ := yy
  have e1 := y1 xs h1
  have e2 := y2 ys k1
  rw [ev] at e1
  rw [ew] at e2
  cases e1
  cases e2
  exact ⟨Zadd Z1 T, .laidZ t hT, .tup (.inr rfl) (.inl upd_same) (.cons (rv.adv (Ext.laidZ t hT).adv) (.cons (rw'.adv (Ext.laidZ t hT).adv) .nil))⟩
/-- a settled list stays to be read -/
theorem Rep.stays {v : V} (h : Rep K Z H v (.lst ds)) : ∃ a xs, v = .ref a ∧ SqL K H a xs ∧ ∀ Z1 H1, Adv Z H Z1 H1 → SqL K H1 a xs ∧ RepA K Z1 H1 xs ds := by
  cases h with
  | lst z e r => exact ⟨_, _, rfl, .inl e, fun Z1 H1 ad => ⟨.inl (Rd.adv e (ad _ z).2), r.adv ad⟩⟩
  | lstK e r => exact ⟨_, _, rfl, .inr e, fun Z1 H1 ad => ⟨.inr e, r.adv ad⟩⟩
theorem Rep.staysT {v : V} (h : Rep K Z H v (.tup ds)) : ∃ a xs, v = .ref a ∧ SqT K H a xs ∧ ∀ Z1 H1, Adv Z H Z1 H1 → SqT K H1 a xs ∧ RepA K Z1 H1 xs ds := by
  cases h with
  | tup z e r => exact ⟨_, _, rfl, .inl e, fun Z1 H1 ad => ⟨.inl (Rd.adv e (ad _ z).2), r.adv ad⟩⟩
  | tupK e r => exact ⟨_, _, rfl, .inr e, fun Z1 H1 ad => ⟨.inr e, r.adv ad⟩⟩
end
section
variable {X : Cx} {c : Ct} {W : WX} {own : List Nat} {tg e e2 e3 : Expr} {m m2 m3 : EM} {pos p tpos : Pos} {k : Kd}
theorem qi_of (hK : c.K = X.K) (he : PE X e (qE c W own .frz m)) : PI X tg e (qI c W own (iOf m)) := by
  refine ⟨fun pins s σ H R I h => ?_⟩
  obtain ⟨Z, ρ, S, p⟩ := h
  have p := Post.bnd p
  cases q : m ρ with
  | bad => rw [q] at p; exact p.elim
  | exc x =>
    rw [q] at p
    exact (pi_list he).run pins s σ H R I ⟨Z, ρ, S, by rw [q]; exact p⟩
  | ok d =>
    rw [q] at p
    cases d with
    | lst ds =>
      refine (pi_list he).run pins s σ H R I ⟨Z, ρ, S, ?_⟩
      rw [q]
      intro v Z1 H1 x1 hv
      obtain ⟨a, xs, rfl, hs, hh⟩ := Rep.stays hv
      rw [hK] at hs hh
      refine ⟨a, rfl, ⟨xs, hs⟩, p _ Z1 H1 x1 ?_⟩
      rw [hK]
      intro Z2 H2 ad t i
      obtain ⟨h1, r⟩ := hh Z2 H2 ad
      refine ⟨fun d e => ?_, fun hl => ⟨xs, h1, by rw [r.len]; exact hl⟩⟩
      obtain ⟨v, ev, rv⟩ := r.get e
      refine ⟨⟨xs, v, h1, ev⟩, fun x H2 y => ?_⟩
      obtain ⟨rfl, y⟩ := y
      have := y xs h1
      rw [ev] at this
      cases this
      exact ⟨Z2, .refl t, rv⟩
    | tup ds =>
      refine (pi_tup he).run pins s σ H R I ⟨Z, ρ, S, ?_⟩
      rw [q]
      intro v Z1 H1 x1 hv
      obtain ⟨a, xs, rfl, hs, hh⟩ := Rep.staysT hv
      rw [hK] at hs hh
      exact ⟨a, rfl, ⟨xs, hs⟩, p _ Z1 H1 x1 (by rw [hK]; exact itt_ok hh)⟩
    | str z =>
      refine (pi_str he).run pins s σ H R I ⟨Z, ρ, S, ?_⟩
      rw [q]
      intro v Z1 H1 x1 hv
      have hv : Rep c.K Z1 H1 v (.str z) := hv
      cases hv with
      | str x hx => exact ⟨x, rfl, p _ Z1 H1 x1 (its_ok hx)⟩
    | _ => exact p.elim
theorem qi_r1 (hg : Gl X "range") (hm : X.mg "range" = none) (ha : PE X e (qE c W own k m)) (hs : starEach [e] X.env = [(false, eval e X.env)] := by rfl) : PI X tg (.Call (.Name "range" p) [e] [] pos) (qI c W own (iR1 m)) := by
  refine ⟨fun pins s σ H R I h => (pi_range1 hg hm (qa_cons ha qa_nil hs) hs).run pins s σ H R I ?_⟩
  obtain ⟨Z, ρ, S, p⟩ := h
  refine ⟨Z, ρ, S, ?_⟩
  have p := Post.bnd p
  unfold eCons eNil
  cases q : m ρ with
  | bad => rw [q] at p; exact p.elim
  | exc x => rw [q] at p; exact p
  | ok d =>
    rw [q] at p
    intro vs Z1 H1 x1 hv
    cases hv with
    | cons h1 h2 =>
      cases h2
      have hs := h1.sh
      cases hs with
      | int j =>
        obtain ⟨hf, p⟩ := Post.ite p
        refine ⟨j, rfl, hf.1, hf.2, p _ Z1 H1 x1 ?_⟩
        refine itr_ok (lo := 0) ?_
        unfold upTo
        rw [Int.sub_zero]
      | _ => exact p.elim
theorem qi_r2 (hg : Gl X "range") (hm : X.mg "range" = none) (ha : PE X e (qE c W own k m)) (hb : PE X e2 (qE c W own k m2)) (hs : starEach [e, e2] X.env = [(false, eval e X.env), (false, eval e2 X.env)] := by rfl) (hs2 : starEach [e2] X.env = [(false, eval e2 X.env)] := by rfl) :
    PI X tg (.Call (.Name "range" p) [e, e2] [] pos) (qI c W own (iR2 m m2)) := by
  refine ⟨fun pins s σ H R I h => (pi_range2 hg hm (qa_cons ha (qa_cons hb qa_nil hs2) (by rw [hs, hs2])) hs hs2).run pins s σ H R I ?_⟩
  obtain ⟨Z, ρ, S, p⟩ := h
  refine ⟨Z, ρ, S, ?_⟩
  have p := Post.bnd p
  unfold eCons eNil
  cases q : m ρ with
  | bad => rw [q] at p; exact p.elim
  | exc x => rw [q] at p; exact p
  | ok d =>
    rw [q] at p
    have p := Post.bnd p
    rw [PL.R.bnd_ok]
    cases q2 : m2 ρ with
    | bad => rw [q2] at p; exact p.elim
    | exc x => rw [q2] at p; exact p
    | ok d2 =>
      rw [q2] at p
      intro vs Z1 H1 x1 hv
      cases hv with
      | cons h1 h2 =>
        cases h2 with
        | cons h2 h3 =>
          cases h3
          have hs := h1.sh
          have hs2 := h2.sh
          cases hs with
          | int i =>
            cases hs2 with
            | int j =>
              obtain ⟨⟨hf, hf2⟩, p⟩ := Post.ite p
              exact ⟨i, j, rfl, ⟨hf.1, hf.2, hf2.1, hf2.2⟩, p _ Z1 H1 x1 (itr_ok rfl)⟩
            | _ => exact p.elim
          | _ => exact p.elim
theorem qi_enum {elts : List Expr} {kk : Nat} (hK : c.K = X.K) (hg : Gl X "enumerate") (hm : X.mg "enumerate" = none) (ha : PE X e (qE c W own .frz m)) (hs : starEach [e] X.env = [(false, eval e X.env)] := by rfl) : PI X (.Tuple elts kk tpos) (.Call (.Name "enumerate" p) [e] [] pos) (qI c W own (iEnum m)) := by
  refine ⟨fun pins s σ H R I h => (pi_enum hg hm (qa_cons ha qa_nil hs) hs).run pins s σ H R I ?_⟩
  obtain ⟨Z, ρ, S, p⟩ := h
  refine ⟨Z, ρ, S, ?_⟩
  have p := Post.bnd p
  unfold eCons eNil
  cases q : m ρ with
  | bad => rw [q] at p; exact p.elim
  | exc x => rw [q] at p; exact p
  | ok d =>
    rw [q] at p
    intro vs Z1 H1 x1 hv
    cases hv with
    | cons h1 h2 =>
      cases h2
      cases d with
      | lst ds =>
        obtain ⟨a, xs, rfl, hs, hh⟩ := Rep.stays h1
        rw [hK] at hs hh
        exact ⟨a, xs, rfl, hs, p _ Z1 H1 x1 (by rw [hK]; exact ite_ok hh)⟩
      | _ => exact p.elim
theorem qi_zip {elts : List Expr} {kk : Nat} (hK : c.K = X.K) (hg : Gl X "zip") (hm : X.mg "zip" = none) (ha : PE X e (qE c W own .frz m)) (hb : PE X e2 (qE c W own .frz m2)) (hs : starEach [e, e2] X.env = (false, eval e X.env) :: starEach [e2] X.env := by rfl) (hs2 : starEach [e2] X.env = (false, eval e2 X.env) :: starEach [] X.env := by rfl)
    (hpl : (backTo pos (starEach [e2] X.env)).any (·.1) = false := by rfl) : PI X (.Tuple elts kk tpos) (.Call (.Name "zip" p) [e, e2] [] pos) (qI c W own (iZip m m2)) := by
  refine ⟨fun pins s σ H R I h => (pi_zip hg hm (qa_cons ha (qa_cons hb qa_nil hs2) hs) hs hpl).run pins s σ H R I ?_⟩
  obtain ⟨Z, ρ, S, p⟩ := h
  refine ⟨Z, ρ, S, ?_⟩
  have p := Post.bnd p
  unfold eCons eNil
  cases q : m ρ with
  | bad => rw [q] at p; exact p.elim
  | exc x => rw [q] at p; exact p
  | ok d =>
    rw [q] at p
    have p := Post.bnd p
    rw [PL.R.bnd_ok]
    cases q2 : m2 ρ with
    | bad => rw [q2] at p; exact p.elim
    | exc x => rw [q2] at p; exact p
    | ok d2 =>
      rw [q2] at p
      intro vs Z1 H1 x1 hv
      cases hv with
      | cons h1 h2 =>
        cases h2 with
        | cons h2 h3 =>
          cases h3
          cases d with
          | lst ds =>
            cases d2 with
            | lst es =>
              obtain ⟨a, xs, rfl, hs, hh⟩ := Rep.stays h1
              obtain ⟨b, ys, rfl, ks, kk⟩ := Rep.stays h2
              rw [hK] at hs hh ks kk
              exact ⟨a, b, xs, ys, rfl, hs, ks, p _ Z1 H1 x1 (by rw [hK]; exact itz_ok hh kk)⟩
            | _ => exact p.elim
          | _ => exact p.elim
end
end PL

set_option maxRecDepth 100000
set_option maxHeartbeats 4000000
namespace PL
open PySem PySem.Spec PyProof.Rows L2
set_option autoImplicit false

/-- how a statement's end is wanted -/
def PostS (c : Ct) (W : WX) (own' ownL : List Nat) (Z : ZS) (H : Hp) (D : Ends) : O → Prop
  | none => False
  | some (.nx, ρ') => ∀ Z' H' σ', Adv Z H Z' H' → SE c own' Z' H' σ' ρ' → D.nx σ' H'
  | some (.ct, ρ') => ∀ Z' H' σ', Adv Z H Z' H' → SE c ownL Z' H' σ' ρ' → D.ct σ' H'
  | some (.bk, ρ') => ∀ Z' H' σ', Adv Z H Z' H' → SE c ownL Z' H' σ' ρ' → D.bk σ' H'
  | some (.rt d, _) => ∀ v Z' H', Adv Z H Z' H' → Ext c.Z0 c.H0 Z' H' → Rep c.K Z' H' v d → D.rt v H'
  | some (.ex x, ρ') => ∀ Z' H' σ', Adv Z H Z' H' → SE c [] Z' H' σ' ρ' → W (.ref (c.EC x)) none σ' H'
def qS (c : Ct) (W : WX) (own own' ownL : List Nat) (m : SM) : TS := fun D σ H => ∃ Z ρ, SE c own Z H σ ρ ∧ PostS c W own' ownL Z H D (m ρ)

section
variable {c : Ct} {W : WX} {own own' own1 own2 ownL : List Nat} {Z Z' : ZS} {H H' : Hp} {σ : St} {ρ : Env} {D D' : Ends} {o : O}
theorem PostS.move (a : Adv Z H Z' H') (h : PostS c W own' ownL Z H D o) : PostS c W own' ownL Z' H' D o := by
  match o, h with
  | some (.nx, ρ'), h => exact fun Z2 H2 σ2 x S => h Z2 H2 σ2 (a.trans x) S
  | some (.ct, ρ'), h => exact fun Z2 H2 σ2 x S => h Z2 H2 σ2 (a.trans x) S
  | some (.bk, ρ'), h => exact fun Z2 H2 σ2 x S => h Z2 H2 σ2 (a.trans x) S
  | some (.rt d, ρ'), h => exact fun v Z2 H2 x e r => h v Z2 H2 (a.trans x) e r
  | some (.ex y, ρ'), h => exact fun Z2 H2 σ2 x S => h Z2 H2 σ2 (a.trans x) S
/-- an own error out of an expression -/
theorem PostS.exc (S : SE c own Z H σ ρ) {x : Nat} (h : PostS c W own' ownL Z H D (some (.ex x, ρ))) : PX c W Z H σ x := fun Z1 H1 e => by
  obtain ⟨Z2, a2, S2⟩ := (S.move e).drop (own' := []) (fun _ z => absurd z (by simp))
  exact h Z2 H1 σ (e.adv.trans a2) S2
theorem PostS.lft {α : Type} {r : R α} {k : α → O} (S : SE c own Z H σ ρ) (h : PostS c W own' ownL Z H D (lft r ρ k)) : Post r (fun a => PostS c W own' ownL Z H D (k a)) (PX c W Z H σ) := by
  cases r with
  | ok a => exact h
  | exc x => exact PostS.exc S h
  | bad => exact h
theorem PostS.gok {r : R Env} {k : Env → O} (h : PostS c W own' ownL Z H D (gok r k)) : Post r (fun a => PostS c W own' ownL Z H D (k a)) (fun _ => False) := by
  cases r with
  | ok a => exact h
  | exc x => exact h
  | bad => exact h
theorem PostS.nx_of (n : D.nx = D'.nx ∨ True) : True := trivial
end

section
variable {X : Cx} {c : Ct} {W : WX} {own own' own1 own2 ownL ts : List Nat} {e a b tg iter : Expr} {st : Stmt} {sts : List Stmt} {m : EM} {t : TM} {s s1 s2 : SM} {g : GM} {src : LM} {pos : Pos} {k : Kd} {i : Nat} {x : Str}
theorem qs_nil : PSs X [] (qS c W own own ownL sSkip) := pss_nil.imp fun D σ H ⟨Z, ρ, S, p⟩ => p Z H σ .refl S
theorem qs_pass : PS X (.Pass pos) (qS c W own own ownL sSkip) := ps_pass.imp fun D σ H ⟨Z, ρ, S, p⟩ => p Z H σ .refl S
theorem qs_doc {x : Str} {j : Nat} {p2 : Pos} : PS X (.Expr (.Constant (.str x) j p2) pos) (qS c W own own ownL sSkip) := ps_doc.imp fun D σ H ⟨Z, ρ, S, p⟩ => p Z H σ .refl S
theorem qs_cons (h1 : PS X st (qS c W own own1 ownL s1)) (h2 : PSs X sts (qS c W own1 own' ownL s2)) : PSs X (st :: sts) (qS c W own own' ownL (sSeq s1 s2)) := (pss_cons h1 h2).imp fun D σ H ⟨Z, ρ, S, p⟩ => by
  refine ⟨Z, ρ, S, ?_⟩
  unfold sSeq at p
  split at p
  · rename_i ρ1 q
    rw [q]
    exact fun Z1 H1 σ1 ad S1 => ⟨Z1, ρ1, S1, p.move ad⟩
  · rename_i r q
    match hr : s1 ρ with
    | none => rw [hr] at p; exact p
    | some (.nx, ρ') => exact absurd hr (q ρ')
    | some (.ct, ρ') => rw [hr] at p; exact p
    | some (.bk, ρ') => rw [hr] at p; exact p
    | some (.rt d, ρ') => rw [hr] at p; exact p
    | some (.ex y, ρ') => rw [hr] at p; exact p
theorem qs_one (h1 : PS X st (qS c W own own' ownL s1)) : PSs X [st] (qS c W own own' ownL s1) := pss_one h1
/-- fewer own slots behind -/
theorem qs_weak (h : PSs X sts (qS c W own own1 ownL s)) (hs : ∀ i ∈ own', i ∈ own1) : PSs X sts (qS c W own own' ownL s) := h.imp fun D σ H ⟨Z, ρ, S, p⟩ => ⟨Z, ρ, S, by
  match hr : s ρ with
  | none => rw [hr] at p; exact p
  | some (.nx, ρ') =>
    rw [hr] at p
    exact fun Z1 H1 σ1 ad S1 => by
      obtain ⟨Z2, a2, S2⟩ := S1.drop hs
      exact p Z2 H1 σ1 (ad.trans a2) S2
  | some (.ct, ρ') => rw [hr] at p; exact p
  | some (.bk, ρ') => rw [hr] at p; exact p
  | some (.rt d, ρ') => rw [hr] at p; exact p
  | some (.ex y, ρ') => rw [hr] at p; exact p⟩
/-- fewer own slots ahead -/
theorem qs_pre (h : PSs X sts (qS c W own own' ownL s)) (hs : ∀ i ∈ own, i ∈ own1) : PSs X sts (qS c W own1 own' ownL s) := h.imp fun D σ H ⟨Z, ρ, S, p⟩ => by
  obtain ⟨Z2, a2, S2⟩ := S.drop hs
  exact ⟨Z2, ρ, S2, p.move a2⟩
theorem qs_pre1 (h : PS X st (qS c W own own' ownL s)) (hs : ∀ i ∈ own, i ∈ own1) : PS X st (qS c W own1 own' ownL s) := h.imp fun D σ H ⟨Z, ρ, S, p⟩ => by
  obtain ⟨Z2, a2, S2⟩ := S.drop hs
  exact ⟨Z2, ρ, S2, p.move a2⟩
theorem qs_asg (he : PE X e (qE c W own .frz m)) (hg : PG X tg (qG c own own' ts g)) (hs : swapsWithSole [tg] e pos.line X.env = pure false := by rfl) (hw : swappedStores [tg] e X.env = pure none := by rfl) (h1 : (assignEach [tg] X.env).map (·.2) = [assign tg X.env] := by rfl) : PS X (.Assign [tg] e pos) (qS c W own own' ownL (sAsg g m)) := (ps_asg he hg hs hw h1).imp fun D σ H ⟨Z, ρ, S, p⟩ =>
  ⟨Z, ρ, S, (PostS.lft S p).imp (fun d p1 v Z1 H1 x1 hv => ⟨Z1, ρ, d, S.move x1, hv, (PostS.gok p1).imp (fun ρ1 q σ1 _ S1 => q Z1 H1 σ1 x1.adv S1) fun _ q => q⟩) fun _ q => q⟩
theorem own_there {Z : ZS} {H : Hp} {σ : St} {ρ : Env} (S : SE c own Z H σ ρ) : ∀ j ∈ own, ∀ a, σ[j]? = some (some (.ref a)) → H a ≠ none := fun j hj a e => by
  obtain ⟨b, d, e1, e2, _, _, t⟩ := S.ow j hj
  rw [e] at e2
  cases e2
  obtain ⟨o, ho⟩ := t.there
  rw [ho]
  exact fun z => by cases z
theorem qs_new (hN : X.N.Nodup) (hi : X.N[i]? = some x) (hx : Loc X.env.scope x) (hf : X.fn x = true ∨ X.env.scope.names.lookup x = some .local) {p2 : Pos} (he : PE X e (qE c W own .new m)) (hs : swapsWith e (some (.Name x p2)) pos.line X.env = pure false := by rfl) (ho : own' = i :: own.filter (· != i)) :
    PS X (.Assign [.Name x p2] e pos) (qS c W own own' ownL (sNew i m)) := by
  subst ho
  refine (ps_set hN hi hx he hs hf).imp fun D σ H ⟨Z, ρ, S, p⟩ => ⟨Z, ρ, S, (PostS.lft S p).imp (fun d p1 v Z1 H1 x1 hv => ?_) fun _ q => q⟩
  have key : ∀ (hb : isBox d = true) (hl : i < ρ.length), SE c (i :: own.filter (· != i)) Z1 H1 (σ.set i (some v)) (ρ.set i (some d)) := fun hb hl => (S.move x1).setN hv hb hl S.ext.same (own_there S)
  cases d with
  | lst ys =>
    dsimp only at p1
    split at p1
    · rename_i hl; exact p1 Z1 H1 _ x1.adv (key rfl hl)
    · exact p1.elim
  | dic ys =>
    dsimp only at p1
    split at p1
    · rename_i hl; exact p1 Z1 H1 _ x1.adv (key rfl hl)
    · exact p1.elim
  | _ => exact p1.elim
theorem qs_drop (he : PE X e (qE c W own k m)) (hs : swapsWith e none pos.line X.env = pure false := by rfl) : PS X (.Expr e pos) (qS c W own own ownL (sDrop m)) := (ps_expr he hs).imp fun D σ H ⟨Z, ρ, S, p⟩ =>
  ⟨Z, ρ, S, (PostS.lft S p).imp (fun d p1 v Z1 H1 x1 hv => p1 Z1 H1 σ x1.adv (S.move x1)) fun _ q => q⟩
theorem qs_ret (he : PE X e (qE c W own .frz m)) : PS X (.Return (some e) pos) (qS c W own own' ownL (sRet m)) := (ps_ret he).imp fun D σ H ⟨Z, ρ, S, p⟩ =>
  ⟨Z, ρ, S, (PostS.lft S p).imp (fun d p1 v Z1 H1 x1 hv => p1 v Z1 H1 x1.adv (S.ext.trans x1) hv) fun _ q => q⟩
theorem qs_retN : PS X (.Return none pos) (qS c W own own' ownL (sRet (eC .non))) := ps_retN.imp fun D σ H ⟨Z, ρ, S, p⟩ => p .non Z H .refl S.ext .non
theorem qs_brk (h : ∀ i ∈ ownL, i ∈ own) : PS X (.Break pos) (qS c W own own' ownL sBrk) := ps_break.imp fun D σ H ⟨Z, ρ, S, p⟩ => by
  obtain ⟨Z2, a2, S2⟩ := S.drop h
  exact p Z2 H σ a2 S2
theorem qs_cnt (h : ∀ i ∈ ownL, i ∈ own) : PS X (.Continue pos) (qS c W own own' ownL sCnt) := ps_continue.imp fun D σ H ⟨Z, ρ, S, p⟩ => by
  obtain ⟨Z2, a2, S2⟩ := S.drop h
  exact p Z2 H σ a2 S2
theorem qs_if {sa sb : List Stmt} (hc : PT X e (qT c W own t)) (ha : PSs X sa (qS c W own own' ownL s1)) (hb : PSs X sb (qS c W own own' ownL s2)) : PS X (.If e sa sb pos) (qS c W own own' ownL (sIf t s1 s2)) := (ps_if hc ha hb).imp fun D σ H ⟨Z, ρ, S, p⟩ =>
  ⟨Z, ρ, S, (PostS.lft S p).imp (fun b p1 Z1 H1 x1 => by
    cases b with
    | true => exact ⟨Z1, ρ, S.move x1, PostS.move x1.adv p1⟩
    | false => exact ⟨Z1, ρ, S.move x1, PostS.move x1.adv p1⟩) fun _ q => q⟩

/-! ### loops -/
/-- the body's end within the loop, from the loop's end behind the items left -/
theorem loop_body {ownX : List Nat} {Z : ZS} {H : Hp} {D : Ends} {N : St → Hp → Prop} {o : O} {rest : SM} (h : PostS c W own' ownX Z H D (match o with
    | some (.nx, ρ2) => rest ρ2
    | some (.ct, ρ2) => rest ρ2
    | some (.bk, ρ2) => some (.nx, ρ2)
    | q => q)) (hN : ∀ ρ2 Z2 H2 σ2, Adv Z H Z2 H2 → SE c own' Z2 H2 σ2 ρ2 → PostS c W own' ownX Z2 H2 D (rest ρ2) → N σ2 H2) : PostS c W own' own' Z H { D with nx := N, ct := N, bk := D.nx } o := by
  match o, h with
  | some (.nx, ρ'), h => exact fun Z2 H2 σ2 a S => hN ρ' Z2 H2 σ2 a S (PostS.move a h)
  | some (.ct, ρ'), h => exact fun Z2 H2 σ2 a S => hN ρ' Z2 H2 σ2 a S (PostS.move a h)
  | some (.bk, ρ'), h => exact h
  | some (.rt d, ρ'), h => exact h
  | some (.ex y, ρ'), h => exact h
theorem qs_for {ownX : List Nat} {body : List Stmt} (hp : PassesOwn (model X.prog X.w) X.A X.env X.xe) (hc : X.calm = true) (hi : PI X tg iter (qI c W own src)) (hL : ∀ i ∈ own', i ∈ own) (hg : PG X tg (qG c own' own1 ts g)) (hb : PSs X body (qS c W own1 own' own' s))
    (hs : ∀ x, foldedSetIterable iter X.env x = pure x := by intro _; rfl) (hK : c.K = X.K) : PS X (.For tg iter body [] pos) (qS c W own own' ownX (sFor src g s)) := (ps_for hp hc hi hg hb hs).imp fun D σ H ⟨Z, ρ, S, p⟩ => by
  refine ⟨Z, ρ, S, (PostS.lft S p).imp (fun ds p1 J Z1 H1 x1 it => ?_) fun _ q => q⟩
  obtain ⟨Z1', a1, S1⟩ := (S.move x1).drop hL
  have p1 := PostS.move (x1.adv.trans a1) p1
  refine ⟨fun i m σ' H' => ∃ Z' ρ', Adv Z1' H1 Z' H' ∧ SE c own' Z' H' σ' ρ' ∧ i + m = ds.length ∧ PostS c W own' ownX Z' H' D (forL g s (ds.drop i) ρ'), ⟨ds.length, Z1', ρ, .refl, S1, by omega, by rw [List.drop_zero]; exact p1⟩, ?_⟩
  rintro i m σ' H' ⟨Z', ρ', ad, S', hm, p2⟩
  obtain ⟨h1, h2⟩ := it Z' H' (a1.trans ad) S'.trk i
  cases e : ds[i]? with
  | none =>
    have hl : ds.length ≤ i := List.getElem?_eq_none_iff.mp e
    rw [List.drop_of_length_le hl] at p2
    exact .inl ⟨h2 hl, p2 Z' H' σ' .refl S'⟩
  | some d =>
    obtain ⟨hlt, hd⟩ := List.getElem?_eq_some_iff.mp e
    rw [List.drop_eq_getElem_cons hlt, hd] at p2
    obtain ⟨go, yld⟩ := h1 d e
    refine .inr ⟨go, fun σ2 H2 => ∃ Z2 ρ2, Adv Z1' H1 Z2 H2 ∧ SE c own' Z2 H2 σ2 ρ2 ∧ PostS c W own' ownX Z2 H2 D (forL g s (ds.drop (i + 1)) ρ2), fun σ2 H2 ⟨Z2, ρ2, b1, b2, b3⟩ => ⟨m - 1, by omega, Z2, ρ2, b1, b2, by omega, b3⟩, fun x H2 y => ?_⟩
    obtain ⟨Z2, x2, rx⟩ := yld x H2 y
    have p3 : PostS c W own' ownX Z' H' D (gok (g d ρ') fun ρ1 => match s ρ1 with
      | some (.nx, ρ2) => forL g s (ds.drop (i + 1)) ρ2
      | some (.ct, ρ2) => forL g s (ds.drop (i + 1)) ρ2
      | some (.bk, ρ2) => some (.nx, ρ2)
      | q => q) := p2
    refine ⟨Z2, ρ', d, S'.move x2, rx, (PostS.gok p3).imp (fun ρ1 q σ1 _ Sg => ⟨Z2, ρ1, Sg, ?_⟩) fun _ q => q⟩
    refine loop_body (rest := forL g s (ds.drop (i + 1))) (PostS.move x2.adv q) fun ρ2 Z3 H3 σ3 a3 S3 p4 => ⟨Z3, ρ2, (ad.trans x2.adv).trans a3, S3, p4⟩
theorem whlN_more {t : TM} {b : SM} : ∀ (n : Nat) (ρ : Env) (r : Fl × Env), whlN t b n ρ = some r → ∀ k, whlN t b (n + k) ρ = some r
  | 0, ρ, r, h, k => by cases h
  | n + 1, ρ, r, h, k => by
    rw [show n + 1 + k = (n + k) + 1 by omega]
    unfold whlN at h ⊢
    cases q : t ρ with
    | bad => rw [q] at h; exact h
    | exc x => rw [q] at h; exact h
    | ok cd =>
      rw [q] at h
      simp only [lft_ok] at h ⊢
      cases cd with
      | false => exact h
      | true =>
        simp only [if_true] at h ⊢
        match hb : b ρ with
        | none => rw [hb] at h; exact h
        | some (.nx, ρ') => rw [hb] at h; exact whlN_more n ρ' r h k
        | some (.ct, ρ') => rw [hb] at h; exact whlN_more n ρ' r h k
        | some (.bk, ρ') => rw [hb] at h; exact h
        | some (.rt d, ρ') => rw [hb] at h; exact h
        | some (.ex y, ρ') => rw [hb] at h; exact h
theorem sWhl_of {t : TM} {b : SM} {n : Nat} {ρ : Env} {r : Fl × Env} (h : whlN t b n ρ = some r) : sWhl t b ρ = some r := by
  unfold sWhl
  have ex : ∃ n, (whlN t b n ρ).isSome = true := ⟨n, by rw [h]; rfl⟩
  rw [dif_pos ex]
  cases q : whlN t b ex.choose ρ with
  | none =>
    have := ex.choose_spec
    rw [q] at this
    cases this
  | some r' =>
    have h1 := whlN_more n ρ r h ex.choose
    have h2 := whlN_more _ ρ r' q n
    rw [Nat.add_comm] at h1
    rw [h1] at h2
    exact h2.symm
theorem qs_whl {ownX : List Nat} {body : List Stmt} (hp : PassesOwn (model X.prog X.w) X.A X.env X.xe) (hL : ∀ i ∈ own', i ∈ own) (hc : PT X e (qT c W own' t)) (hb : PSs X body (qS c W own' own' own' s)) : PS X (.While e body [] pos) (qS c W own own' ownX (sWhl t s)) := (ps_while hp hc hb).imp fun D σ H ⟨Z, ρ, S, p⟩ => by
  obtain ⟨Z1, a1, S1⟩ := S.drop hL
  have p := PostS.move a1 p
  unfold sWhl at p
  split at p
  · rename_i ex
    refine ⟨fun n σ' H' => ∃ Z' ρ', SE c own' Z' H' σ' ρ' ∧ PostS c W own' ownX Z' H' D (whlN t s n ρ'), ⟨ex.choose, Z1, ρ, S1, p⟩, ?_⟩
    rintro n σ' H' ⟨Z', ρ', S', q⟩
    cases n with
    | zero => exact q.elim
    | succ n =>
      unfold whlN at q
      refine ⟨Z', ρ', S', (PostS.lft S' q).imp (fun b q1 Z2 H2 x2 => ?_) fun _ q => q⟩
      cases b with
      | false =>
        simp only [Bool.false_eq_true, if_false] at q1 ⊢
        exact q1 Z2 H2 σ' x2.adv (S'.move x2)
      | true =>
        simp only [if_true] at q1 ⊢
        refine ⟨fun σ2 H2 => ∃ Z2 ρ2, SE c own' Z2 H2 σ2 ρ2 ∧ PostS c W own' ownX Z2 H2 D (whlN t s n ρ2), fun σ2 H2 ⟨Z2, ρ2, b1, b2⟩ => ⟨n, Nat.lt_succ_self n, Z2, ρ2, b1, b2⟩, Z2, ρ', S'.move x2, ?_⟩
        exact loop_body (rest := whlN t s n) (PostS.move x2.adv q1) fun ρ2 Z3 H3 σ3 a3 S3 p4 => ⟨Z3, ρ2, S3, p4⟩
  · exact p.elim
end
end PL

set_option maxRecDepth 100000
set_option maxHeartbeats 4000000
namespace PL
open PySem PySem.Spec PyProof.Rows L2
set_option autoImplicit false

section
variable {X : Cx} {c : Ct} {W : WX} {own own' own1 own2 ownL ts : List Nat} {e a b tg iter : Expr} {st : Stmt} {sts : List Stmt} {m m2 : EM} {t : TM} {s s1 s2 : SM} {g : GM} {src : LM} {pos : Pos} {k : Kd} {i : Nat} {x : Str}
variable {Z Z' : ZS} {H H' : Hp} {σ : St} {ρ : Env} {p : Addr} {o : HO} {d : Dat}
/-- an own list or dict is changed in its place -/
theorem SE.mut (S : SE c own Z H σ ρ) (hi : i ∈ own) (hp : σ[i]? = some (some (.ref p))) (ht : Top c.K Z (upd H p o) p d) (hd : ∀ y, d ≠ .exc y) : Adv Z H Z (upd H p o) ∧ SE c own Z (upd H p o) σ (ρ.set i (some d)) := by
  obtain ⟨a, d0, e1, e2, nz, h0, t0⟩ := S.ow i hi
  have ea : a = p := by rw [hp] at e2; cases e2; rfl
  subst ea
  have hl : i < ρ.length := (List.getElem?_eq_some_iff.mp e1).1
  have ad : Adv Z H Z (upd H a o) := fun b zb => ⟨zb, fun u q => by rw [upd_ne (fun z : b = a => nz (z ▸ zb))]; exact q⟩
  refine ⟨ad, ⟨⟨S.ext.sub, fun b u q => ?_, fun b zb => ?_, S.ext.new⟩, by simp [S.len], fun j d' e n nx => ?_, fun j y e => ?_, fun j hj => ?_, S.inj⟩⟩
  · rw [upd_ne (fun z => by rw [z, h0] at q; cases q)]
    exact S.ext.same b u q
  · obtain ⟨u, q⟩ := S.ext.trk b zb
    exact ⟨u, (ad b zb).2 u q⟩
  · rw [get_set] at e
    by_cases h : i = j ∧ j < ρ.length
    · exact absurd (h.1 ▸ hi) n
    · rw [if_neg h] at e
      obtain ⟨v, hv, r⟩ := S.val j d' e n nx
      exact ⟨v, hv, r.adv ad⟩
  · rw [get_set] at e
    by_cases h : i = j ∧ j < ρ.length
    · rw [if_pos h] at e
      cases e
      exact absurd rfl (hd y)
    · rw [if_neg h] at e
      exact S.exc j y e
  · by_cases h : j = i
    · subst h
      exact ⟨a, d, by rw [get_set, if_pos ⟨rfl, hl⟩], e2, nz, h0, ht⟩
    · obtain ⟨a', d', f1, f2, g1, g2, tt⟩ := S.ow j hj
      have hne : a' ≠ a := fun z => S.inj j hj i hi h (by rw [f2, e2, z])
      refine ⟨a', d', by rw [get_set, if_neg (fun z => h z.1.symm)]; exact f1, f2, g1, g2, ?_⟩
      cases d' with
      | lst ds => obtain ⟨xs, q, r⟩ := tt; exact ⟨xs, by rw [upd_ne hne]; exact q, r.adv ad⟩
      | dic ds => obtain ⟨xs, q, r⟩ := tt; exact ⟨xs, by rw [upd_ne hne]; exact q, r.adv ad⟩
      | _ => exact tt.elim
theorem qs_app {p0 apos : Pos} (hK : c.K = X.K) (hi : i ∈ own) (hv : PE X (.Name x p0) (tVar i)) (he : PE X e (qE c W own .frz m))
    (hbase : attributeBase (.Name x p0) "append" X.env (eval (.Name x p0) X.env) = eval (.Name x p0) X.env := by rfl)
    (hfew : ((backTo pos (starEach (e :: []) X.env)).all (fun x => !x.1) && (backToKw pos (keywordEach [] X.env)).all (fun x => x.1.isSome)
      && decide ((e :: []).length + ([] : List Keyword).length + (if ([] : List Keyword).isEmpty then 0 else 1) < 30)) = true := by rfl)
    (hline : (apos.endLine == pos.line) = true := by rfl) (hst : starEach (e :: []) X.env = (false, eval e X.env) :: starEach [] X.env := by rfl) (hpl : (backTo pos (starEach [] X.env)).any (·.1) = false := by rfl) {spos : Pos}
    (hsw : swapsWith (.Call (.Attribute (.Name x p0) "append" apos) [e] [] pos) none spos.line X.env = pure false := by rfl) :
    PS X (.Expr (.Call (.Attribute (.Name x p0) "append" apos) [e] [] pos) spos) (qS c W own own ownL (sApp i m)) := (ps_expr (pe_bm PySem.F.plainAttrs_list PySem.F.slot_list_append PySem.F.type_list_append mt_append hv (qa_cons he qa_nil hst) hbase hfew hline hst hpl) hsw).imp fun D σ H ⟨Z, ρ, S, p⟩ => by
  unfold sApp at p
  split at p
  · rename_i ds eρ
    obtain ⟨l, d0, e1, e2, nz, h0, t0⟩ := S.ow i hi
    rw [eρ] at e1
    cases e1
    obtain ⟨xs, hH, hr⟩ := t0
    refine ⟨_, e2, .inl ⟨rfl, xs, .inl (.inl hH)⟩, Z, ρ, S, ?_⟩
    unfold eCons eNil
    have p := PostS.lft S p
    cases q : m ρ with
    | bad => rw [q] at p; exact p.elim
    | exc y => rw [q] at p; exact p
    | ok d =>
      rw [q] at p
      intro vs Z1 H1 x1 hvs
      have p : PostS c W own ownL Z H D (if ds.length < LINE then some (.nx, ρ.set i (some (.lst (ds ++ [d])))) else none) := p
      by_cases hz : ds.length < LINE
      · rw [if_pos hz] at p
        have S1 := S.move x1
        have hr1 := hr.adv x1.adv
        have hvr := hvs.rep
        cases hvr with
        | cons r1 r2 =>
          cases r2
          have hH1 := x1.same _ _ hH
          refine ⟨l, xs, _, rfl, rfl, hH1, by rw [hr.len, ← line_eq]; exact hz, ?_⟩
          have nl : ¬ Z1 l := fun z => by
            rcases x1.new l z with z2 | z2
            · exact nz z2
            · rw [hH] at z2; cases z2
          have ad : ∀ o, Adv Z1 H1 Z1 (upd H1 l o) := fun o b zb => ⟨zb, fun u q => by
            rw [upd_ne (fun z : b = l => nl (z ▸ zb))]
            exact q⟩
          obtain ⟨ad2, S2⟩ := S1.mut (d := .lst (ds ++ [d])) hi e2 ⟨xs ++ [_], upd_same, (hr1.adv (ad _)).append (.cons (r1.adv (ad _)) .nil)⟩ (fun y z => by cases z)
          exact p Z1 _ σ (x1.adv.trans ad2) S2
      · rw [if_neg hz] at p
        exact p.elim
  · exact p.elim
end

/-! ### comprehensions -/
theorem wipe_get : ∀ (ρ : Env) (vs : List Nat) (j : Nat), (wipe ρ vs)[j]? = if j ∈ vs ∧ j < ρ.length then some none else ρ[j]?
  | ρ, [], j => by simp [wipe]
  | ρ, v :: vs, j => by
    have hl : (wipe ρ vs).length = ρ.length := by
      clear j
      induction vs with
      | nil => rfl
      | cons v vs ih => simp [wipe, ih]
    unfold wipe
    rw [get_set, hl, wipe_get ρ vs j]
    by_cases h : v = j
    · subst h
      by_cases h2 : v < ρ.length
      · simp [h2]
      · simp [h2]
    · have h' : ¬ j = v := fun z => h z.symm
      simp [h, h']
theorem wipe_len : ∀ (ρ : Env) (vs : List Nat), (wipe ρ vs).length = ρ.length
  | ρ, [] => rfl
  | ρ, v :: vs => by simp [wipe, wipe_len ρ vs]
theorem wipeS_get : ∀ (σ : St) (vs : List Nat) (j : Nat), (L2.wipe σ vs)[j]? = if j ∈ vs ∧ j < σ.length then some none else σ[j]?
  | σ, [], j => by simp [L2.wipe]
  | σ, v :: vs, j => by
    unfold L2.wipe
    rw [get_set, L2.wipe_length, wipeS_get σ vs j]
    by_cases h : v = j
    · subst h
      by_cases h2 : v < σ.length
      · simp [h2]
      · simp [h2]
    · have h' : ¬ j = v := fun z => h z.symm
      simp [h, h']
theorem wipeS_eq {σ σ' : St} {vs : List Nat} (h : Tch vs (L2.wipe σ vs) σ') : L2.wipe σ' vs = L2.wipe σ vs := by
  obtain ⟨hl, h⟩ := h
  rw [L2.wipe_length] at hl
  apply List.ext_getElem?
  intro j
  rw [wipeS_get, wipeS_get, hl]
  by_cases hj : j ∈ vs
  · by_cases h2 : j < σ.length
    · simp [hj, h2]
    · simp only [hj, h2, and_false, if_false]
      rw [List.getElem?_eq_none (by omega), List.getElem?_eq_none (by omega)]
  · simp only [hj, false_and, if_false]
    rw [h j hj, wipeS_get]
    simp [hj]
section
variable {c : Ct} {own vs : List Nat} {Z Z' : ZS} {H H' : Hp} {σ : St} {ρ : Env} {p : Addr} {o : HO}
theorem SE.wipe (S : SE c own Z H σ ρ) (h : ∀ j ∈ vs, j ∉ own) : SE c own Z H (L2.wipe σ vs) (PL.wipe ρ vs) where
  ext := S.ext
  len := by rw [L2.wipe_length, wipe_len, S.len]
  val := fun j d e n nx => by
    rw [wipe_get] at e
    rw [wipeS_get, S.len]
    by_cases hj : j ∈ vs ∧ j < ρ.length
    · rw [if_pos hj] at e; cases e
    · rw [if_neg hj] at e ⊢; exact S.val j d e n nx
  exc := fun j x e => by
    rw [wipe_get] at e
    rw [wipeS_get, S.len]
    by_cases hj : j ∈ vs ∧ j < ρ.length
    · rw [if_pos hj] at e; cases e
    · rw [if_neg hj] at e ⊢; exact S.exc j x e
  ow := fun j hj => by
    obtain ⟨a, d, e1, e2, q⟩ := S.ow j hj
    have n : ¬ (j ∈ vs ∧ j < ρ.length) := fun z => h j z.1 hj
    refine ⟨a, d, ?_, ?_, q⟩
    · rw [wipe_get, if_neg n]; exact e1
    · rw [wipeS_get, S.len, if_neg n]; exact e2
  inj := fun j hj l hl ne => by
    rw [wipeS_get, wipeS_get, if_neg (fun z => h j z.1 hj), if_neg (fun z => h l z.1 hl)]
    exact S.inj j hj l hl ne
/-- a new object of one's own is changed -/
theorem Ext.chg (x : Ext Z H Z' H') (hp : H p = none) (n : ¬ Z' p) : Ext Z H Z' (upd H' p o) where
  sub := x.sub
  same := fun b u q => by rw [upd_ne (ne_of_none q hp)]; exact x.same b u q
  trk := fun b z => by
    obtain ⟨u, q⟩ := x.trk b z
    exact ⟨u, by rw [upd_ne (fun e : b = p => n (e ▸ z))]; exact q⟩
  new := x.new
theorem Adv.chg (n : ¬ Z p) : Adv Z H Z (upd H p o) := fun b zb => ⟨zb, fun u q => by rw [upd_ne (fun e : b = p => n (e ▸ zb))]; exact q⟩
theorem Ext.not (x : Ext Z H Z' H') (h : H p = some o) (n : ¬ Z p) : ¬ Z' p := fun z => by
  rcases x.new p z with q | q
  · exact n q
  · rw [h] at q; cases q
end
theorem noX_post {α : Type} {r : R α} {p : α → Prop} {x : Nat → Prop} (h : Post (noX r) p x) : Post r p (fun _ => False) := by
  cases r with
  | ok a => exact h
  | exc c => exact h
  | bad => exact h
abbrev W0 : WX := fun _ _ _ _ => False
section
variable {X : Cx} {c : Ct} {W : WX} {own own' vs : List Nat} {elt tg iter : Expr} {ifs : List Expr} {scope : Scope} {ob : List (Str × Nat)} {pos : Pos} {m : EM} {t : TM} {g : GM} {src : LM} {k : Kd}
/-- a clause's tests -/
theorem qts_nil : PTs X [] (qT c W own tYes) := ⟨fun pins s σ H Q I ⟨Z, ρ, S, p⟩ => pts_nil.run pins s σ H Q I (p Z H (.refl S.trk))⟩
theorem lc_read {σ : St} {H : Hp} {Q : VK} (hd : ∀ j ∈ vs, j ∉ own) (h : qE c W own .new (eComp src vs g t m) σ H Q) : tLc (qI c W own src) (qG c own own vs g) (qT c W0 own t) (qE c W0 own .frz m) vs σ H Q := by
  obtain ⟨Z, ρ, S, p⟩ := h
  refine ⟨Z, ρ, S, (Post.bnd p).imp (fun ds p1 J Z1 H1 x1 it D hD => ?_) fun _ q => q⟩
  have S1 := S.move x1
  have hl1 : Ext Z1 H1 Z1 (upd H1 D (.lst [])) := .laid x1.trk hD
  have nD1 : ¬ Z1 D := fun z => by
    obtain ⟨u, q⟩ := x1.trk D z
    rw [hD] at q; cases q
  cases hc : compL g t m (PL.wipe ρ vs) ds with
  | bad => rw [hc] at p1; exact p1.elim
  | exc y =>
    exfalso
    have : ∀ ds, compL g t m (PL.wipe ρ vs) ds ≠ .exc y := by
      intro ds
      induction ds with
      | nil => intro q; cases q
      | cons d r ih =>
        intro q
        unfold compL at q
        cases q1 : g d (PL.wipe ρ vs) with
        | ok ρ1 =>
          rw [q1] at q
          simp only [noX, PL.R.bnd_ok] at q
          cases q2 : t ρ1 with
          | ok bb =>
            rw [q2] at q
            simp only [noX, PL.R.bnd_ok] at q
            cases bb with
            | false => exact ih q
            | true =>
              simp only [if_true] at q
              cases q3 : m ρ1 with
              | ok y1 =>
                rw [q3] at q
                simp only [noX, PL.R.bnd_ok] at q
                cases q4 : compL g t m (PL.wipe ρ vs) r with
                | ok ys => rw [q4] at q; cases q
                | exc z => rw [q4] at q; exact ih (by rw [q4]; exact q)
                | bad => rw [q4] at q; cases q
              | exc z => rw [q3] at q; cases q
              | bad => rw [q3] at q; cases q
          | exc z => rw [q2] at q; cases q
          | bad => rw [q2] at q; cases q
        | exc z => rw [q1] at q; cases q
        | bad => rw [q1] at q; cases q
    exact this ds hc
  | ok total =>
    rw [hc] at p1
    obtain ⟨hlen, p2⟩ := Post.ite (b := total.length ≤ LINE) p1
    refine ⟨fun i mm H' => ∃ Z' acc ys rest, Ext Z1 H1 Z' H' ∧ ¬ Z' D ∧ H' D = some (.lst acc) ∧ RepA c.K Z' H' acc ys ∧ i + mm = ds.length ∧ compL g t m (PL.wipe ρ vs) (ds.drop i) = .ok rest ∧ total = ys ++ rest,
      ⟨ds.length, Z1, [], [], total, hl1, nD1, upd_same, .nil, by omega, by rw [List.drop_zero]; exact hc, rfl⟩, ?_⟩
    rintro i mm H' ⟨Z', acc, ys, rest, x2, nD, hH, hr, hm, hcr, ht⟩
    obtain ⟨h1, h2⟩ := it Z' H' x2.adv x2.trk i
    cases e : ds[i]? with
    | none =>
      have hl : ds.length ≤ i := List.getElem?_eq_none_iff.mp e
      rw [List.drop_of_length_le hl] at hcr
      cases hcr
      rw [List.append_nil] at ht
      subst ht
      refine .inl ⟨h2 hl, p2 (.ref D) Z' H' (x1.trans x2) ⟨fun _ => ⟨D, rfl, nD, x1.same.free hD, acc, hH, hr⟩, fun z => by cases z⟩⟩
    | some d =>
      obtain ⟨hlt, hdd⟩ := List.getElem?_eq_some_iff.mp e
      rw [List.drop_eq_getElem_cons hlt, hdd] at hcr
      obtain ⟨go, yld⟩ := h1 d e
      refine .inr ⟨go, fun H3 => ∃ Z3 acc ys rest, Ext Z1 H1 Z3 H3 ∧ ¬ Z3 D ∧ H3 D = some (.lst acc) ∧ RepA c.K Z3 H3 acc ys ∧ compL g t m (PL.wipe ρ vs) (ds.drop (i + 1)) = .ok rest ∧ total = ys ++ rest,
        fun H3 ⟨Z3, acc3, ys3, rest3, q1, q2, q3, q4, q5, q6⟩ => ⟨mm - 1, by omega, Z3, acc3, ys3, rest3, q1, q2, q3, q4, by omega, q5, q6⟩, fun x H2 y => ?_⟩
      obtain ⟨Z2, xx, rx⟩ := yld x H2 y
      have S2 := ((S1.move x2).move xx).wipe (vs := vs) hd
      have nD2 : ¬ Z2 D := xx.not hH nD
      have hH2 := xx.same _ _ hH
      have hr2 := hr.adv xx.adv
      have x12 := x2.trans xx
      -- the turn of the mirror
      unfold compL at hcr
      have P0 : Post ((noX (g d (PL.wipe ρ vs))).bnd fun ρ' => (noX (t ρ')).bnd fun b => if b then (noX (m ρ')).bnd fun y => (compL g t m (PL.wipe ρ vs) (ds.drop (i + 1))).bnd fun ys => .ok (y :: ys) else compL g t m (PL.wipe ρ vs) (ds.drop (i + 1))) (fun z => z = rest) (fun _ => False) := by
        rw [hcr]
        rfl
      refine ⟨Z2, PL.wipe ρ vs, d, S2, rx, (noX_post (Post.bnd P0)).imp (fun ρ1 P1 σ1 tch Sg => ⟨wipeS_eq tch, ?_⟩) fun _ q => q⟩
      · refine ⟨Z2, ρ1, Sg, (noX_post (Post.bnd P1)).imp (fun b P2 Z4 H4 x4 => ?_) fun _ q => q.elim⟩
        cases b with
        | false =>
          simp only [Bool.false_eq_true, if_false] at P2 ⊢
          cases q : compL g t m (PL.wipe ρ vs) (ds.drop (i + 1)) with
          | ok r2 =>
            rw [q] at P2
            have P2 : r2 = rest := P2
            subst P2
            exact ⟨Z4, acc, ys, r2, x12.trans x4, x4.not hH2 nD2, x4.same _ _ hH2, hr2.adv x4.adv, rfl, ht⟩
          | exc z => rw [q] at P2; exact P2.elim
          | bad => rw [q] at P2; exact P2.elim
        | true =>
          simp only [if_true] at P2 ⊢
          refine ⟨Z4, ρ1, Sg.move x4, (noX_post (Post.bnd P2)).imp (fun y1 P3 v Z5 H5 x5 hv => ?_) fun _ q => q.elim⟩
          have P3 := Post.bnd P3
          cases q : compL g t m (PL.wipe ρ vs) (ds.drop (i + 1)) with
          | ok r2 =>
            rw [q] at P3
            have P3 : y1 :: r2 = rest := P3
            subst P3
            have x45 := x4.trans x5
            have hH5 := x45.same _ _ hH2
            have nD5 := x45.not hH2 nD2
            have al : acc.length < sizeLine := by
              rw [hr.len, ← line_eq]
              have hl2 := congrArg List.length ht
              rw [List.length_append, List.length_cons] at hl2
              omega
            refine ⟨acc, hH5, al, Z5, acc ++ [v], ys ++ [y1], r2, (x12.trans x45).chg hD nD5, nD5, upd_same, ?_, rfl, by rw [ht]; simp⟩
            exact ((hr2.adv x45.adv).adv (.chg nD5)).append (.cons (Rep.adv (.chg nD5) hv) .nil)
          | exc z => rw [q] at P3; exact P3.elim
          | bad => rw [q] at P3; exact P3.elim
theorem q_lc (hc : X.calm = true) (hN : X.N.Nodup) (hi : PI X tg iter (qI c W own src)) (ok : BlkOk X.N X.env.scope scope ob) (hv : ob.map (·.2) = vs) (hd : ∀ j ∈ vs, j ∉ own)
    (hg : ∀ (s : Shared) (H : Hp) (C : Addr) (cl : List (Str × Addr)) (fp : List Addr), PG (X.blk s H scope (compEnvC scope cl C X.env) fp) tg (qG c own own vs g)) (ht : ∀ (s : Shared) (H : Hp) (C : Addr) (cl : List (Str × Addr)) (fp : List Addr), PTs (X.blk s H scope (compEnvC scope cl C X.env) fp) ifs (qT c W0 own t))
    (he : ∀ (s : Shared) (H : Hp) (C : Addr) (cl : List (Str × Addr)) (fp : List Addr), PE (X.blk s H scope (compEnvC scope cl C X.env) fp) elt (qE c W0 own .frz m)) (hs : ∀ x, foldedSetIterable iter X.env x = pure x := by intro _; rfl) :
    PE X (.ListComp elt [⟨tg, iter, ifs, 0⟩] scope pos) (qE c W own .new (eComp src vs g t m)) := by
  have h := pe_lc (pos := pos) hc hN hi ok hg ht he hs
  rw [hv] at h
  exact h.imp fun σ H Q hq => lc_read hd hq
theorem qs_setLc {i : Nat} {y : Str} {py spos : Pos} {ownL : List Nat} (hc : X.calm = true) (hN : X.N.Nodup) (hy : X.N[i]? = some y) (hyl : X.env.scope.names.lookup y = some .local)
    (hsw : swapsWith (.ListComp elt [⟨tg, iter, ifs, 0⟩] scope pos) (some (.Name y py)) spos.line X.env = pure true) (hi : PI X tg iter (qI c W own src)) (ok : BlkOk X.N X.env.scope scope ob) (hv : ob.map (·.2) = vs) (hd : ∀ j ∈ vs, j ∉ own)
    (hg : ∀ (s : Shared) (H : Hp) (C : Addr) (cl : List (Str × Addr)) (fp : List Addr), PG (X.blk s H scope (compEnvC scope cl C X.env) fp) tg (qG c own own vs g)) (ht : ∀ (s : Shared) (H : Hp) (C : Addr) (cl : List (Str × Addr)) (fp : List Addr), PTs (X.blk s H scope (compEnvC scope cl C X.env) fp) ifs (qT c W0 own t))
    (he : ∀ (s : Shared) (H : Hp) (C : Addr) (cl : List (Str × Addr)) (fp : List Addr), PE (X.blk s H scope (compEnvC scope cl C X.env) fp) elt (qE c W0 own .frz m)) (hs : ∀ x, foldedSetIterable iter X.env x = pure x := by intro _; rfl) (ho : own' = i :: own.filter (· != i)) :
    PS X (.Assign [.Name y py] (.ListComp elt [⟨tg, iter, ifs, 0⟩] scope pos) spos) (qS c W own own' ownL (sNew i (eComp src vs g t m))) := by
  subst ho
  have h := ps_setLc (pos := pos) hc hN hy hyl hsw hi ok hg ht he hs
  rw [hv] at h
  refine h.imp fun D σ H ⟨Z, ρ, S, p⟩ => ?_
  show tLc _ _ _ _ _ σ H fun x H1 => gName i x σ H1 D.nx
  refine lc_read hd ⟨Z, ρ, S, (PostS.lft S p).imp (fun d p1 v Z1 H1 x1 hv => ?_) fun _ q => q⟩
  have key : ∀ (hb : isBox d = true) (hl : i < ρ.length), SE c (i :: own.filter (· != i)) Z1 H1 (σ.set i (some v)) (ρ.set i (some d)) := fun hb hl => (S.move x1).setN hv hb hl S.ext.same (own_there S)
  cases d with
  | lst ys =>
    dsimp only at p1
    split at p1
    · rename_i hl; exact p1 Z1 H1 _ x1.adv (key rfl hl)
    · exact p1.elim
  | dic ys =>
    dsimp only at p1
    split at p1
    · rename_i hl; exact p1 Z1 H1 _ x1.adv (key rfl hl)
    · exact p1.elim
  | _ => exact p1.elim
end

/-! ### raise -/
section
variable {X : Cx} {c : Ct} {W : WX} {own own' ownL : List Nat} {n : Nat}
theorem qs_raise {x m : Str} {j : Nat} {p p2 pos pos2 : Pos} {bmB : List Value} {B newId initId : String} (hc : X.calm = true) (tk : Takes X W) (F : ExcBaseFacts B newId initId bmB) (q : PySem.W.excIn X.K (c.EC n) bmB newId = true) (gC : X.mg x = some (.ref (c.EC n))) (kC : PySem.W.keepIn X.K (.ref (c.EC n)) = true) (r : Raises X (.ref (c.EC n))) (hg : Gl X x)
    (hdb : (x == ("__debug__" : Str)) = false) : PS X (.Raise (some (.Call (.Name x p) [.Constant (.str m) j p2] [] pos)) none pos2) (qS c W own own' ownL (sRaise n)) := (ps_raise hc tk (pmk_own F q gC kC r hg hdb)).imp fun D σ H ⟨Z, ρ, S, p⟩ => by
  obtain ⟨Z2, a2, S2⟩ := S.drop (own' := []) (fun _ z => absurd z (by simp))
  exact p Z2 H σ a2 S2
end

/-! ### a def -/
section
variable {P : Program} {w : World} {K : KF} {mg : Str → Option Value} {base : Heap}
theorem start_get {N : List Str} {vs : List V} {ds : List Dat} {Z : ZS} {H : Hp} {K : KF} (r : RepA K Z H vs ds) (hl : vs.length ≤ N.length) (i : Nat) (d : Dat) (e : (ds.map some ++ List.replicate (N.length - ds.length) none)[i]? = some (some d)) : ∃ v, (L2.start N vs)[i]? = some (some v) ∧ Rep K Z H v d := by
  have hl2 := r.len
  by_cases h : i < ds.length
  · rw [List.getElem?_append_left (by simpa using h), List.getElem?_map] at e
    obtain ⟨d', e1, e2⟩ := Option.map_eq_some_iff.mp e
    cases e2
    obtain ⟨v, ev, rv⟩ := r.get e1
    refine ⟨v, ?_, rv⟩
    unfold L2.start
    rw [List.getElem?_append_left (by simp; omega), List.getElem?_map, ev]
    rfl
  · rw [List.getElem?_append_right (by simp; omega), List.getElem?_replicate] at e
    split at e <;> cases e
/-- THE RULE: a def does what its mirror says, if its body does -/
theorem fn_ok {x qual : Str} {st : Stmt} {f : Addr} {fd : FuncData} {N ps : List Str} {k n : Nat} {EC : Nat → Addr} {b : SM} {own' : List Nat} (F : Fun K x qual st f fd) (Sc : FnScope N ps (defScope st)) (hn : ps.length = n) (hN : ps.length ≤ N.length)
    (hb : ∀ (cdv : Value) (A : Around) (outer : List PySem.Env) (s : Shared) (H : Hp) (E : XK) (Z : ZS), Room k (A.deeper (envOfC qual (defScope st) s.heap.objs.size f cdv)) →
      PSs (cxOf (L2.CX P w) P w K mg base N qual (defScope st) f cdv A outer s H E) (defBody st) (qS ⟨K, EC, Z, H, none⟩ (fun cls d _ H' => E cls d H') [] own' [] b)) :
    FnOk P w K mg base (L2.CX P w) (k + 1) f fd ps (spM K EC n (run N.length b)) := by
  refine F.okX Sc (fun vs H Q E h => by rw [hn]; exact h.1) (fun cdv A outer s H vs Q E hr h => ?_)
  obtain ⟨hl, Z, ds, tr, r, p⟩ := h
  refine ⟨_, hb cdv A outer s H E Z hr, Z, ds.map some ++ List.replicate (N.length - ds.length) none, ⟨.refl tr, ?_, fun i d e _ _ => start_get r (by omega) i d e, fun i y e => ?_, fun i hi => absurd hi (by simp), fun i hi => absurd hi (by simp)⟩, ?_⟩
  · have := r.len
    unfold L2.start
    simp
    omega
  · obtain ⟨v, _, rv⟩ := start_get r (by omega) i _ e
    cases rv
  · unfold run at p
    match hq : b (ds.map some ++ List.replicate (N.length - ds.length) none) with
    | none => rw [hq] at p; exact p.elim
    | some (.nx, ρ') =>
      rw [hq] at p
      exact fun Z' H' σ' ad S => p .non Z' H' S.ext .non
    | some (.rt d, ρ') =>
      rw [hq] at p
      exact fun v Z' H' ad e r => p v Z' H' e r
    | some (.ex y, ρ') =>
      rw [hq] at p
      exact fun Z' H' σ' ad S => p Z' H' S.ext
    | some (.bk, ρ') => rw [hq] at p; exact p.elim
    | some (.ct, ρ') => rw [hq] at p; exact p.elim
end
end PL

set_option maxRecDepth 100000
set_option maxHeartbeats 4000000
namespace PL
open PySem PySem.Spec PyProof.Rows L2
set_option autoImplicit false

/-! ### no own error out of these -/
theorem nx_add : NoX2 addD := fun d e x h => by cases d <;> cases e <;> simp only [addD] at h <;> first | cases h | (split at h <;> cases h)
theorem nx_sub : NoX2 subD := fun d e x h => by cases d <;> cases e <;> simp only [subD] at h <;> first | cases h | (split at h <;> cases h)
theorem nx_mul : NoX2 mulD := fun d e x h => by cases d <;> cases e <;> simp only [mulD] at h <;> first | cases h | (split at h <;> cases h)
theorem nx_fdiv : NoX2 fdivD := fun d e x h => by cases d <;> cases e <;> simp only [fdivD] at h <;> first | cases h | (split at h <;> cases h)
theorem nx_mod : NoX2 modD := fun d e x h => by cases d <;> cases e <;> simp only [modD] at h <;> first | cases h | (split at h <;> cases h)
theorem nx_pow : NoX2 powD := fun d e x h => by cases d <;> cases e <;> simp only [powD] at h <;> first | cases h | (split at h <;> cases h)
theorem nx_neg : NoX1 negD := fun d x h => by cases d <;> cases h
theorem nx_lt : NoX2 ltD := fun d e x h => by cases d <;> cases e <;> cases h
theorem nx_le : NoX2 leD := fun d e x h => by cases d <;> cases e <;> cases h
theorem nx_gt : NoX2 gtD := fun d e x h => by cases d <;> cases e <;> cases h
theorem nx_ge : NoX2 geD := fun d e x h => by cases d <;> cases e <;> cases h
theorem nx_eq : NoX2 eqD := fun d e x h => by unfold eqD at h; split at h <;> cases h
theorem nx_ne : NoX2 neD := fun d e x h => by unfold neD at h; split at h <;> cases h
theorem nx_in : NoX2 inD := fun d e x h => by unfold inD at h; split at h <;> first | cases h | (split at h <;> cases h)
theorem nx_notIn : NoX2 notInD := fun d e x h => by
  unfold notInD at h
  cases q : inD d e with
  | ok z => rw [q] at h; exact nx_not z x h
  | exc y => exact nx_in d e y q
  | bad => rw [q] at h; cases h
theorem nx_idx : NoX2 idxD := fun d e x h => by
  unfold idxD at h
  split at h <;> first | cases h | (split at h <;> first | cases h | (split at h <;> cases h))

section
variable {X : Cx} {c : Ct} {W : WX} {own : List Nat} {a b : Expr} {m m1 m2 : EM} {pos : Pos} {k k1 k2 : Kd}
/-! ### the operators -/
theorem q_add (hK : c.K = X.K) (ha : PE X a (qE c W own .sh m1)) (hb : PE X b (qE c W own .sh m2)) : PE X (.BinOp a .Add b pos) (qE c W own .new (e2 addD m1 m2)) := q_bin ha hb (fun _ _ h k => pe_op opU_add h k) (by rw [hK]; exact o2_add) nx_add
theorem q_sub (ha : PE X a (qE c W own .sh m1)) (hb : PE X b (qE c W own .sh m2)) : PE X (.BinOp a .Sub b pos) (qE c W own .new (e2 subD m1 m2)) := q_bin ha hb (fun _ _ h k => pe_op op_sub h k) o2_sub nx_sub
theorem q_fdiv (ha : PE X a (qE c W own .sh m1)) (hb : PE X b (qE c W own .sh m2)) : PE X (.BinOp a .FloorDiv b pos) (qE c W own .new (e2 fdivD m1 m2)) := q_bin ha hb (fun _ _ h k => pe_op op_fdiv h k) o2_fdiv nx_fdiv
theorem q_mod (ha : PE X a (qE c W own .sh m1)) (hb : PE X b (qE c W own .sh m2)) : PE X (.BinOp a .Mod b pos) (qE c W own .new (e2 modD m1 m2)) := q_bin ha hb (fun _ _ h k => pe_op op_mod h k) o2_mod nx_mod
theorem q_pow (ha : PE X a (qE c W own .sh m1)) (hb : PE X b (qE c W own .sh m2)) : PE X (.BinOp a .Pow b pos) (qE c W own .new (e2 powD m1 m2)) := q_bin ha hb (fun _ _ h k => pe_op op_pow h k) o2_pow nx_pow
theorem o1_neg {K : KF} : Op1 K (rU fun i => .int (-i)) .sh .new negD := by
  intro Z H Hs v d Q t s hv p
  cases hv with
  | int i => exact ⟨i, rfl, Wnt.int t p⟩
  | _ => exact False.elim p
theorem q_neg (ha : PE X a (qE c W own .sh m)) : PE X (.UnaryOp .USub a pos) (qE c W own .new (e1 negD m)) := q_un ha (fun _ h => pe_un un_neg h) o1_neg nx_neg
/-! ### comparisons -/
theorem q_cmp {op : CmpOp} {r : R2} {f : Dat → Dat → R Dat} (ha : PE X a (qE c W own k1 m1)) (hb : PE X b (qE c W own k2 m2)) (ho : OpR X (compareOp op) r) (hm : behindInMarks op b = false) (h2 : Op2 c.K r k1 k2 k f) (nx : NoX2 f) : PE X (.Compare a [op] [b] pos) (qE c W own k (e2 f m1 m2)) :=
  q_bin ha hb (fun _ _ h k => pe_cmpR ho h k hm) h2 nx
/-- a comparison: the operator's rule, its meaning -/
structure CmpOk (X : Cx) (K : KF) (op : CmpOp) (f : Dat → Dat → R Dat) : Prop where
  ok : ∃ r, OpR X (compareOp op) r ∧ Op2 K r .sh .sh .new f
  nx : NoX2 f
theorem ck_lt : CmpOk X c.K .Lt ltD := ⟨⟨_, opU_lt, o2_lt⟩, nx_lt⟩
theorem ck_le : CmpOk X c.K .LtE leD := ⟨⟨_, opU_le, o2_le⟩, nx_le⟩
theorem ck_gt : CmpOk X c.K .Gt gtD := ⟨⟨_, opU_gt, o2_gt⟩, nx_gt⟩
theorem ck_ge : CmpOk X c.K .GtE geD := ⟨⟨_, opU_ge, o2_ge⟩, nx_ge⟩
theorem ck_eq (hK : c.K = X.K) (hu : X.A.units + 64 < cLine) : CmpOk X c.K .Eq eqD := ⟨⟨_, op_eqD hu, by rw [hK]; exact o2_eq⟩, nx_eq⟩
theorem ck_ne (hK : c.K = X.K) (hu : X.A.units + 64 < cLine) : CmpOk X c.K .NotEq neD := ⟨⟨_, op_neD hu, by rw [hK]; exact o2_ne⟩, nx_ne⟩
theorem q_cmpO {op : CmpOp} {f : Dat → Dat → R Dat} (ho : CmpOk X c.K op f) (ha : PE X a (qE c W own .sh m1)) (hb : PE X b (qE c W own .sh m2)) (hm : behindInMarks op b = false) : PE X (.Compare a [op] [b] pos) (qE c W own .new (e2 f m1 m2)) := by
  obtain ⟨⟨r, h1, h2⟩, nx⟩ := ho
  exact q_cmp ha hb h1 hm h2 nx
theorem qt_cmpO {op : CmpOp} {f : Dat → Dat → R Dat} (ho : CmpOk X c.K op f) (ha : PE X a (qE c W own .sh m1)) (hb : PE X b (qE c W own .sh m2)) (hm : behindInMarks op b = false) : PT X (.Compare a [op] [b] pos) (qT c W own (tE (e2 f m1 m2))) := by
  obtain ⟨⟨r, h1, h2⟩, nx⟩ := ho
  exact qt_cmp ha hb h1 hm h2 nx
theorem chain_read {σ : St} {H : Hp} {Q : VK} {r r' : R2} {f g : Dat → Dat → R Dat} {m3 : EM} (h2 : Op2 c.K r .sh .sh .new f) (nx : NoX2 f) (h2' : Op2 c.K r' .sh .sh .new g) (nx' : NoX2 g) (h : qE c W own .new (eChain f g m1 m2 m3) σ H Q) :
    tChain r r' (qE c W own .sh m1) (qE c W own .sh m2) (qE c W own .sh m3) σ H Q := by
  obtain ⟨Z, ρ, S, p⟩ := h
  refine ⟨Z, ρ, S, (Post.bnd p).imp (fun d p1 v Z1 H1 x1 hv => ⟨Z1, ρ, S.move x1, (Post.bnd p1).imp (fun d' p2 u Z2 H2 x2 hu => ?_) fun n q => q.move x1⟩) fun _ q => q⟩
  refine h2 Z2 H2 H v u d d' _ x2.trk (x1.same.trans x2.same) (hv.ext x2) (hu.early x1.same) ((Post.nox (nx d d') (Post.bnd p2)).imp (fun z q w Z3 H3 x3 hw => ?_) fun _ q => q)
  have hs := hw.sh
  have x13 := (x1.trans x2).trans x3
  cases hs with
  | bl kk =>
    refine ⟨kk, rfl, ?_⟩
    cases kk with
    | false => exact q (.bl false) Z3 H3 x13 (Rep.kd .new (.bl false) rfl)
    | true =>
      refine ⟨Z3, ρ, S.move x13, (Post.bnd q).imp (fun e q1 w4 Z4 H4 x4 hw4 => ?_) fun _ q => q.move x13⟩
      exact h2' Z4 H4 H u w4 d' e Q x4.trk (x13.same.trans x4.same) (((Val.early (Hs := H) x1.same hu).ext x3).ext x4) hw4 ((Post.nox (nx' d' e) q1).imp (fun z q w5 Z5 H5 x5 hw5 => q w5 Z5 H5 ((x13.trans x4).trans x5) hw5) fun _ q => q)
  | _ => exact False.elim q
theorem q_chain {op op' : CmpOp} {f g : Dat → Dat → R Dat} {e3 : Expr} {m3 : EM} (ho : CmpOk X c.K op f) (ho' : CmpOk X c.K op' g) (ha : PE X a (qE c W own .sh m1)) (hb : PE X b (qE c W own .sh m2)) (hc : PE X e3 (qE c W own .sh m3)) (hm : lastMarks [op, op'] [b, e3] = false := by with_unfolding_all rfl) :
    PE X (.Compare a [op, op'] [b, e3] pos) (qE c W own .new (eChain f g m1 m2 m3)) := by
  obtain ⟨⟨r, h1, h2⟩, nx⟩ := ho
  obtain ⟨⟨r', h1', h2'⟩, nx'⟩ := ho'
  exact (pe_chain h1 h1' ha hb hc hm).imp fun σ H Q h => chain_read h2 nx h2' nx' h
theorem qt_chain {op op' : CmpOp} {f g : Dat → Dat → R Dat} {e3 : Expr} {m3 : EM} (ho : CmpOk X c.K op f) (ho' : CmpOk X c.K op' g) (ha : PE X a (qE c W own .sh m1)) (hb : PE X b (qE c W own .sh m2)) (hc : PE X e3 (qE c W own .sh m3)) (hm : lastMarks [op, op'] [b, e3] = false := by with_unfolding_all rfl) :
    PT X (.Compare a [op, op'] [b, e3] pos) (qT c W own (tE (eChain f g m1 m2 m3))) := by
  obtain ⟨⟨r, h1, h2⟩, nx⟩ := ho
  obtain ⟨⟨r', h1', h2'⟩, nx'⟩ := ho'
  refine (pt_chain h1 h1' ha hb hc hm).imp fun σ H Q ⟨Z, ρ, S, p⟩ => chain_read h2 nx h2' nx' ⟨Z, ρ, S, (Post.bnd p).imp (fun d p1 v Z1 H1 x1 hv => ?_) fun _ q => q⟩
  have hs := hv.sh
  cases hs with
  | bl kk => exact ⟨kk, rfl, p1 Z1 H1 x1⟩
  | _ => exact False.elim p1

/-! ### x[i] -/
theorem kv_rep {K : KF} {Z : ZS} {H : Hp} {v : V} {d : Dat} (h : Sh K Z H v d) (hk : isKey d = true) : ∃ kk, v = kV kk ∧ d = kD kk ∧ okK kk := by
  cases h with
  | int i => exact ⟨.inl i, rfl, rfl, trivial⟩
  | str x hx => exact ⟨.inr x, rfl, rfl, hx⟩
  | _ => cases hk
theorem kD_eq (j l : Key) : eqv (kD j) (kD l) = decide (j = l) := by
  cases j with
  | inl i =>
    cases l with
    | inl i' =>
      show (i == i') = _
      rw [Bool.eq_iff_iff]
      simp
    | inr y => rw [decide_eq_false (fun q => nomatch q)]; rfl
  | inr x =>
    cases l with
    | inl i' => rw [decide_eq_false (fun q => nomatch q)]; rfl
    | inr y =>
      show (x.cps.toList == y.cps.toList) = _
      rw [Bool.eq_iff_iff, beq_iff_eq, decide_eq_true_iff]
      constructor
      · intro q
        have : x.cps = y.cps := Array.toList_inj.mp q
        cases x
        cases y
        simp only at this
        rw [this]
      · intro q
        cases q
        rfl
theorem dic_get {K : KF} {Z : ZS} {H : Hp} {kk : Key} : ∀ {ks : List (Key × V)} {kvs : List (Dat × Dat)}, RepD K Z H ks kvs → (∀ d, dicGet kvs (kD kk) = some d → ∃ v, valV ks kk = some v ∧ Rep K Z H v d) ∧ (dicGet kvs (kD kk) = none → valV ks kk = none)
  | _, _, .nil => ⟨fun d h => (by cases h), fun _ => rfl⟩
  | _, _, @RepD.cons _ _ _ k v r d t ok h rr => by
    have ih := dic_get (kk := kk) rr
    by_cases e : k = kk
    · subst e
      have e1 : dicGet ((kD k, d) :: t) (kD k) = some d := by
        unfold dicGet keyEq
        rw [List.find?_cons_of_pos (by show eqv (kD k) (kD k) = true; rw [kD_eq]; simp)]
        rfl
      have e2 : valV ((k, v) :: r) k = some v := by
        unfold valV
        rw [List.find?_cons_of_pos (by simp)]
        rfl
      exact ⟨fun d' hd => (by rw [e1] at hd; cases hd; exact ⟨v, e2, h⟩), fun hd => (by rw [e1] at hd; cases hd)⟩
    · have e1 : dicGet ((kD k, d) :: t) (kD kk) = dicGet t (kD kk) := by
        unfold dicGet keyEq
        rw [List.find?_cons_of_neg (by show ¬ eqv (kD k) (kD kk) = true; rw [kD_eq]; simpa using e)]
      have e2 : valV ((k, v) :: r) kk = valV r kk := by
        unfold valV
        rw [List.find?_cons_of_neg (by simpa using e)]
      rw [e1, e2]
      exact ih
def rIdxU (K : KF) : R2 := fun x y H Q => rIx K x y H Q ∨ (∃ a v, x = .ref a ∧ DGet H a y (some v) ∧ Q v H)
theorem ix_dict (hu : X.A.units + 1 < cLine) : IxR X (fun x y H Q => ∃ a v, x = .ref a ∧ DGet H a y (some v) ∧ Q v H) := by
  intro value slice pins s σ H x y v u Q I rx ry h hs
  obtain ⟨a, z, rfl, g, q⟩ := h
  cases rx
  exact tail_any (dict_typeIs I g) PySem.F.slot_dict_getitem.lookup (d_getItem hu I g ry fun w' s' I' rw' => ⟨z, H, I', rw', q⟩) hs
theorem ixU (hu : X.A.units + 1 < cLine) : IxR X (rIdxU X.K) := ix_seq.or (ix_dict hu)
theorem atPlace_eq {α : Type} (xs : List α) (i : Int) : atPlace xs i = atI xs i := rfl
theorem RepA.atI {K : KF} {Z : ZS} {H : Hp} {xs : List V} {ds : List Dat} {i : Int} {d : Dat} (r : RepA K Z H xs ds) (h : atPlace ds i = some d) : ∃ v, L2.atI xs i = some v ∧ Rep K Z H v d := by
  unfold atPlace at h
  unfold L2.atI
  have e : ixN xs.length i = placeOf i ds.length := by rw [r.len]; rfl
  rw [e]
  cases q : placeOf i ds.length with
  | none => rw [q] at h; cases h
  | some j =>
    rw [q] at h
    exact r.get h
theorem o2_idx {K : KF} : Op2 K (rIdxU K) .sh .sh .frz idxD := by
  intro Z H Hs v u d e Q t s hv hu p
  cases hv with
  | @lst a xs ds h r =>
    cases e with
    | int i =>
      cases hu
      have p : Post (match atPlace ds i with | some d => R.ok d | none => .bad) (Wnt K Z H Hs .frz Q) (fun _ => False) := p
      cases hz : atPlace ds i with
      | none => rw [hz] at p; exact p.elim
      | some z =>
        rw [hz] at p
        obtain ⟨w, e1, rw'⟩ := r.atI hz
        exact .inl (.inl ⟨_, _, i, w, rfl, rfl, h, e1, Wnt.frz t p rw'⟩)
    | _ => exact False.elim p
  | @tup a xs ds h r =>
    cases e with
    | int i =>
      cases hu
      have p : Post (match atPlace ds i with | some d => R.ok d | none => .bad) (Wnt K Z H Hs .frz Q) (fun _ => False) := p
      cases hz : atPlace ds i with
      | none => rw [hz] at p; exact p.elim
      | some z =>
        rw [hz] at p
        obtain ⟨w, e1, rw'⟩ := r.atI hz
        exact .inl (.inr (.inl ⟨_, _, i, w, rfl, rfl, h.sq, e1, Wnt.frz t p rw'⟩))
    | _ => exact False.elim p
  | str x hx =>
    cases e with
    | int i =>
      cases hu
      have p : Post (match atPlace x.cps.toList i with | some c => R.ok (.str [c]) | none => .bad) (Wnt K Z H Hs .frz Q) (fun _ => False) := p
      cases hz : atPlace x.cps.toList i with
      | none => rw [hz] at p; exact p.elim
      | some ch =>
        rw [hz] at p
        have hm : ch ∈ x.cps.toList := by
          unfold atPlace at hz
          cases q : placeOf i x.cps.toList.length with
          | none => rw [q] at hz; cases hz
          | some j => rw [q] at hz; exact List.mem_of_getElem? hz
        have hl := hx.2
        rw [line_eq] at hl
        exact .inl (.inr (.inr ⟨x, i, ch, rfl, rfl, by simpa [Str.length] using hl, hz, Wnt.frz t p (.ofS rfl (okS_one hx hm))⟩))
    | _ => exact False.elim p
  | @dic a ks kvs h r =>
    have p : Post (if isKey e then (match dicGet kvs e with | some d => R.ok d | none => .bad) else .bad) (Wnt K Z H Hs .frz Q) (fun _ => False) := by
      cases e <;> exact p
    by_cases hk : isKey e = true
    · rw [if_pos hk] at p
      obtain ⟨kk, rfl, rfl, _⟩ := kv_rep hu hk
      cases hz : dicGet kvs (kD kk) with
      | none => rw [hz] at p; exact p.elim
      | some z =>
        rw [hz] at p
        obtain ⟨w, e1, rw'⟩ := (dic_get r).1 z hz
        exact .inr ⟨_, w, rfl, by rw [← e1]; exact DGet.k h, Wnt.frz t p rw'⟩
    · rw [if_neg hk] at p
      exact p.elim
  | _ => exact False.elim p
theorem q_idx (hK : c.K = X.K) (hu : X.A.units + 1 < cLine) (ha : PE X a (qE c W own .sh m1)) (hb : PE X b (qE c W own .sh m2)) (hs : PlainIx b) : PE X (.Subscript a b pos) (qE c W own .frz (e2 idxD m1 m2)) := q_bin ha hb (fun _ _ h k => pe_ix (ixU hu) h k hs) (by rw [hK]; exact o2_idx) nx_idx
end
end PL

set_option maxRecDepth 100000
set_option maxHeartbeats 4000000
namespace PL
open PySem PySem.Spec PyProof.Rows L2
set_option autoImplicit false

section
variable {X : Cx} {c : Ct} {W : WX} {own : List Nat} {a b e : Expr} {es : List Expr} {m m1 m2 : EM} {ms : LM} {pos p p2 : Pos} {k k1 k2 : Kd}
/-! ### x[lo:hi] -/
def qP (c : Ct) (W : WX) (own : List Nat) (m : PM) : TO := fun σ H Q => ∃ Z ρ, SE c own Z H σ ρ ∧ Post (m ρ) (fun o => ∀ Z' H', Ext Z H Z' H' → Q o H') (PX c W Z H σ)
theorem qp_none : PO X none (qP c W own pN) := ⟨fun pins s σ H Q I ⟨Z, ρ, S, p⟩ => po_none.run pins s σ H Q I (p Z H (.refl S.trk))⟩
theorem qp_some (he : PE X e (qE c W own k m)) : PO X (some e) (qP c W own (pS m)) := ⟨fun pins s σ H Q I ⟨Z, ρ, S, p⟩ => (po_some he).run pins s σ H Q I ⟨Z, ρ, S, (Post.bnd p).imp (fun d p1 v Z1 H1 x1 hv => by
  have hs := hv.sh
  cases hs with
  | int i => exact ⟨i, rfl, p1 Z1 H1 x1⟩
  | _ => exact False.elim p1) fun _ q => q⟩⟩
theorem RepA.cutR {K : KF} {Z : ZS} {H : Hp} {xs : List V} {ds : List Dat} {lo hi : Option Int} (r : RepA K Z H xs ds) : RepA K Z H (cutV xs lo hi) (cut ds lo hi) := by
  unfold cutV cut
  rw [r.len]
  exact RepA.take _ (RepA.drop _ r)
theorem cut_whole {ds : List Dat} {lo hi : Option Int} (h1 : HT.sIx ds.length 0 lo = 0) (h2 : HT.sIx ds.length ds.length hi = ds.length) : cut ds lo hi = ds := by
  show (ds.drop (HT.sIx ds.length 0 lo)).take (HT.sIx ds.length ds.length hi - HT.sIx ds.length 0 lo) = ds
  rw [h1, h2]
  simp
theorem cutS_cps (z : Str) (lo hi : Option Int) : (cutS z lo hi).cps.toList = cut z.cps.toList lo hi := by
  unfold cutS cut
  show ((z.cps.toList.drop (HT.sIx z.length 0 lo)).take (HT.sIx z.length z.length hi - HT.sIx z.length 0 lo)).toArray.toList = _
  rw [show z.length = z.cps.toList.length by simp [Str.length]]
  rfl
theorem cut_mem {α : Type} {xs : List α} {lo hi : Option Int} {x : α} (h : x ∈ cut xs lo hi) : x ∈ xs := List.mem_of_mem_drop (List.mem_of_mem_take h)
theorem cut_len {α : Type} {xs : List α} {lo hi : Option Int} : (cut xs lo hi).length ≤ xs.length := by
  unfold cut
  rw [List.length_take, List.length_drop]
  omega
def rSlU (K : KF) : V → Option Int → Option Int → Hp → VK → Prop := fun x lo hi H Q => rSlL K x lo hi H Q ∨ rSlA K x lo hi H Q ∨ rSlS x lo hi H Q
theorem slU : SlR X (rSlU X.K) := sl_list.or (sl_tupA.or sl_str)
theorem sl_read {K : KF} {Z : ZS} {H Hs : Hp} {v : V} {d : Dat} {lo hi : Option Int} {Q : VK} (t : Trk Z H) (s : Same Hs H) (hv : Sh K Z H v d) (p : Post (sliD lo hi d) (Wnt K Z H Hs .new Q) (fun _ => False)) : rSlU K v lo hi H Q := by
  cases hv with
  | lst h r => exact .inl ⟨_, _, rfl, h, fun q hq => Wnt.newL t s p r.cutR hq⟩
  | tup h r =>
    refine .inr (.inl ⟨_, _, rfl, h.sq, fun hw => ?_, fun hw q hq => Wnt.tup t p r.cutR hq⟩)
    have hw2 := hw
    rw [r.len] at hw2
    have p : Wnt K Z H Hs .new Q (.tup (cut _ lo hi)) := p
    rw [cut_whole hw2.1 hw2.2] at p
    exact Wnt.at t p (h.rep r) rfl
  | str x hx =>
    have hl := hx.2
    rw [line_eq] at hl
    exact .inr (.inr ⟨x, rfl, by simpa [Str.length] using hl, Wnt.str t p (cutS_cps x lo hi) (okS_sub hx (fun q hq => cut_mem hq) cut_len)⟩)
  | _ => exact False.elim p
theorem nx_sli {lo hi : Option Int} : NoX1 (sliD lo hi) := fun d x h => by cases d <;> cases h
theorem q_sli {lo hi : Option Expr} {ml mh : PM} (hK : c.K = X.K) (he : PE X e (qE c W own .sh m)) (hl : PO X lo (qP c W own ml)) (hh : PO X hi (qP c W own mh)) : PE X (.Subscript e (.Slice lo hi none p2) pos) (qE c W own .new (eSli ml mh m)) := (pe_slice slU he hl hh).imp fun σ H Q ⟨Z, ρ, S, p⟩ => by
  refine ⟨Z, ρ, S, (Post.bnd p).imp (fun d p1 v Z1 H1 x1 hv => ⟨Z1, ρ, S.move x1, (Post.bnd p1).imp (fun lo p2 Z2 H2 x2 => ⟨Z2, ρ, (S.move x1).move x2, (Post.bnd p2).imp (fun hi p3 Z3 H3 x3 => ?_) fun _ q => (PX.move (x1.trans x2) q)⟩) fun _ q => q.move x1⟩) fun _ q => q⟩
  have x13 := (x1.trans x2).trans x3
  rw [← hK]
  exact sl_read x13.trk x13.same ((hv.sh.ext x2).ext x3) ((Post.nox (nx_sli d) p3).imp (fun z q w Z4 H4 x4 hw => q w Z4 H4 (x13.trans x4) hw) fun _ q => q)
/-- xs[::-1] of a list -/
theorem RepA.reverse {K : KF} {Z : ZS} {H : Hp} : ∀ {xs : List V} {ds : List Dat}, RepA K Z H xs ds → RepA K Z H xs.reverse ds.reverse
  | _, _, .nil => .nil
  | _, _, .cons h r => by
    rw [List.reverse_cons, List.reverse_cons]
    exact (RepA.reverse r).append (.cons h .nil)

/-! ### x[::-1] -/
theorem sliceBy_rev (z : Str) (u : Tok) : (Txt.sliceBy z none none (-1, u)).cps.toList = z.cps.toList.reverse := by
  rw [step_rev_list]
  apply List.ext_getElem
  · simp [Str.length]
  · intro i h1 h2
    have hi : i < z.length := by simpa using h1
    have hi2 : z.length - 1 - i < z.cps.size := by
      have : z.length = z.cps.size := rfl
      omega
    rw [List.getElem_map, List.getElem_range, List.getElem_reverse, Array.getElem_toList]
    rw [Array.getD, dif_pos hi2]
    simp [Str.length]
theorem pe_revS {te : TE} {j : Nat} {q1 q2 q3 : Pos} (he : PE X e te) : PE X (.Subscript e (.Slice none none (some (.UnaryOp .USub (.Constant (.int 1) j q1) q2)) q3) pos)
    (fun σ H Q => te σ H fun x H1 => ∃ z r, x = .str z ∧ z.length ≤ sizeLine ∧ r.cps.toList = z.cps.toList.reverse ∧ Q (.str r) H1) := by
  constructor
  intro pins s σ H Q I h
  apply Subscript_
  apply thn (he.run pins s σ H _ I h)
  rintro v s1 ⟨x, H1, I1, r1, z, r, ex, hz, hr, q⟩
  subst ex
  obtain ⟨tz, ev⟩ := r1
  subst ev
  have one : PO X (some (.UnaryOp .USub (.Constant (.int 1) j q1) q2)) (tPart (tUn (rU fun i => .int (-i)) (tC (.int 1)))) := po_some (pe_un un_neg pe_int)
  apply wpAny_Slice
  apply thn (po_none.run pins s1 σ H1 (fun o G => o = none ∧ G = H1) I1 ⟨rfl, rfl⟩)
  rintro vl s2 ⟨l, H2, I2, pl, el, eH⟩
  subst el eH
  apply thn (po_none.run pins s2 σ H2 (fun o G => o = none ∧ G = H2) I2 ⟨rfl, rfl⟩)
  rintro vu s3 ⟨u, H3, I3, pu, eu, eH⟩
  subst eu eH
  apply thn (one.run pins s3 σ H3 (fun o G => o = some (-1) ∧ G = H3) I3 ⟨1, rfl, -1, rfl, rfl, rfl⟩)
  rintro vs s4 ⟨o, H4, I4, ps, eo, eH⟩
  subst eo eH
  obtain ⟨l0, e1, e2⟩ := IsPart.raw pl
  obtain ⟨u0, e3, e4⟩ := IsPart.raw pu
  obtain ⟨w0, e5, e6⟩ := IsPart.raw ps
  have hl0 : l0 = none := by cases l0 with | none => rfl | some y => cases e2
  have hu0 : u0 = none := by cases u0 with | none => rfl | some y => cases e4
  subst hl0 hu0 e1 e3 e5
  cases w0 with
  | none => cases e6
  | some y =>
    obtain ⟨k0, t0⟩ := y
    cases e6
    show wpAny (model X.prog X.w) X.A (subscriptTail e (.Slice none none (some (.UnaryOp .USub (.Constant (.int 1) j q1) q2)) q3) (.str z tz) (.ref s4.heap.objs.size)) (EP X pins σ Q) X.xe { s4 with heap := s4.heap.push { cls := .type "slice", data := .fields #[.none, .none, .int (-1) t0] } }
    refine tail_any (ops := [.ref s4.heap.objs.size, .str z tz]) (typeIs_str _ _ _) F.slot_str_getitem.lookup ?_ (by with_unfolding_all rfl)
    refine wpAny_getItem_str_slice (l := none) (u := none) (st := some (-1, t0)) ⟨_, Heap.get?_push_size _ rfl, rfl, rfl⟩ rfl ?_
    refine post_val_or_str ⟨Nat.le_trans (Txt.sliceBy_le z _ _ (-1, t0) (show (-1 : Int) ≠ 0 by decide)) hz, fun t' k' => ?_⟩
    refine ⟨.str r, H4, (I4.kept (t' := k') fun b ob g => Heap.get?_push_of_some _ g), ⟨t', ?_⟩, q⟩
    have : Txt.sliceBy z none none (-1, t0) = r := by
      have e9 := (sliceBy_rev z t0).trans hr.symm
      have e10 := Array.toList_inj.mp e9
      cases hq : Txt.sliceBy z none none (-1, t0)
      cases r
      rw [hq] at e10
      simp only at e10
      rw [e10]
    rw [← this]
    rfl
theorem q_rev {j : Nat} {q1 q2 q3 : Pos} (hK : c.K = X.K) (he : PE X e (qE c W own .sh m)) : PE X (.Subscript e (.Slice none none (some (.UnaryOp .USub (.Constant (.int 1) j q1) q2)) q3) pos) (qE c W own .new (e1 revD m)) := by
  refine ⟨fun pins s σ H Q I h => ?_⟩
  obtain ⟨Z, ρ, S, p⟩ := h
  have p := Post.bnd p
  cases q : m ρ with
  | bad => rw [q] at p; exact p.elim
  | exc x =>
    rw [q] at p
    exact (pe_revL he).run pins s σ H Q I ⟨Z, ρ, S, by rw [q]; exact p⟩
  | ok d =>
    rw [q] at p
    cases d with
    | lst ds =>
      refine (pe_revL he).run pins s σ H Q I ⟨Z, ρ, S, ?_⟩
      rw [q]
      intro v Z1 H1 x1 hv
      have hv : Sh c.K Z1 H1 v (.lst ds) := hv
      cases hv with
      | lst h r => exact ⟨_, _, rfl, by rw [← hK]; exact h, fun l hl => Wnt.newL (Hs := H) x1.trk x1.same (fun w Z' H' x hw => p w Z' H' (x1.trans x) hw) r.reverse hl⟩
    | str y =>
      refine (pe_revS he).run pins s σ H Q I ⟨Z, ρ, S, ?_⟩
      rw [q]
      intro v Z1 H1 x1 hv
      have hv : Sh c.K Z1 H1 v (.str y) := hv
      cases hv with
      | str x hx =>
        have hl := hx.2
        rw [line_eq] at hl
        exact ⟨x, ⟨x.cps.toList.reverse.toArray⟩, rfl, by simpa [Str.length] using hl, by simp, Wnt.str (Hs := H) (k := .new) x1.trk (fun w Z' H' x hw => p w Z' H' (x1.trans x) hw) (by simp) (okS_sub hx (fun q hq => by simpa using hq) (by simp))⟩
    | _ => exact p.elim

/-! ### in -/
theorem begins_iff : ∀ (y z : List Nat), begins y z = true ↔ y.length ≤ z.length ∧ z.take y.length = y
  | [], z => by simp [begins]
  | a :: y, [] => by simp [begins]
  | a :: y, b :: z => by
    rw [begins, Bool.and_eq_true, beq_iff_eq, begins_iff y z]
    simp only [List.length_cons, List.take_succ_cons, List.cons.injEq]
    constructor
    · rintro ⟨rfl, h1, h2⟩
      exact ⟨by omega, rfl, h2⟩
    · rintro ⟨h1, rfl, h2⟩
      exact ⟨rfl, by omega, h2⟩
theorem within_iff (y : List Nat) : ∀ (z : List Nat), within y z = true ↔ ∃ i, i + y.length ≤ z.length ∧ (z.drop i).take y.length = y
  | [] => by
    rw [within, begins_iff]
    constructor
    · rintro ⟨h1, h2⟩
      exact ⟨0, by omega, by simpa using h2⟩
    · rintro ⟨i, h1, h2⟩
      exact ⟨by omega, by simpa using h2⟩
  | b :: z => by
    rw [within, Bool.or_eq_true, begins_iff, within_iff y z]
    constructor
    · rintro (⟨h1, h2⟩ | ⟨i, h1, h2⟩)
      · exact ⟨0, by omega, h2⟩
      · exact ⟨i + 1, by simp only [List.length_cons]; omega, by simpa using h2⟩
    · rintro ⟨i, h1, h2⟩
      cases i with
      | zero => exact .inl ⟨by omega, h2⟩
      | succ i => exact .inr ⟨i, by simp only [List.length_cons] at h1; omega, by simpa using h2⟩
theorem sub_iff (x y : Str) (i : Nat) : Builtin.Str.subAt x y i = true ↔ (x.cps.toList.drop i).take y.cps.toList.length = y.cps.toList := by
  rw [StrLaws.subAt_eq, beq_iff_eq]
  simp [Str.length]
theorem within_occ (x y : Str) : (!(Builtin.Str.occurrences x y 0 x.length 1).isEmpty) = within y.cps.toList x.cps.toList := by
  rw [Bool.eq_iff_iff, StrLaws.found_iff, within_iff]
  constructor
  · rintro ⟨i, h1, h2⟩
    exact ⟨i, by simpa [Str.length] using h1, (sub_iff x y i).mp h2⟩
  · rintro ⟨i, h1, h2⟩
    exact ⟨i, by simpa [Str.length] using h1, (sub_iff x y i).mpr h2⟩
/-- x in a list or tuple, at any depth -/
def rInL (K : KF) (neg : Bool) : R2 := fun x y H Q => ∃ d e ds, (e = .list ds ∨ e = .tuple ds) ∧ Dp K H x d ∧ Dp K H y e ∧ d.canLay0 = true ∧ e.canLay0 = true ∧ d.depth ≤ DEEP ∧ Q (.bl (if neg then !(ds.any fun z => PyData.eqv z d) else ds.any fun z => PyData.eqv z d)) H
theorem roomL {A : Around} {d : PyData} {ds : List PyData} (hd : d.depth ≤ DEEP) (hu : A.units + 64 < cLine) : A.units + 1 + min (PyData.depthAll ds) d.depth < cLine := by
  have h2 : min (PyData.depthAll ds) d.depth ≤ d.depth := Nat.min_le_right _ _
  have h3 : DEEP = 40 := rfl
  omega
theorem op_inL (hu : X.A.units + 64 < cLine) : OpR X (compareOp .In) (rInL X.K false) := by
  intro pins s σ H x y v u Q I rx ry h
  obtain ⟨d, e, ds, he, hx, hy, hc, hce, hd, q⟩ := h
  obtain ⟨as, r1⟩ := Dp.reads I d x v hx rx
  obtain ⟨bs, r2⟩ := Dp.reads I e y u hy ry
  rcases he with rfl | rfl
  · exact SeqAt.in_list_reads r2 r1 hce hc (roomL hd hu) ⟨.bl _, H, I, rfl, q⟩
  · exact SeqAt.in_tuple_reads r2 r1 hce hc (roomL hd hu) ⟨.bl _, H, I, rfl, q⟩
theorem op_notInL (hu : X.A.units + 64 < cLine) : OpR X (compareOp .NotIn) (rInL X.K true) := by
  intro pins s σ H x y v u Q I rx ry h
  obtain ⟨d, e, ds, he, hx, hy, hc, hce, hd, q⟩ := h
  obtain ⟨as, r1⟩ := Dp.reads I d x v hx rx
  obtain ⟨bs, r2⟩ := Dp.reads I e y u hy ry
  rcases he with rfl | rfl
  · exact SeqAt.notIn_list_reads r2 r1 hce hc (roomL hd hu) ⟨.bl _, H, I, rfl, q⟩
  · exact SeqAt.notIn_tuple_reads r2 r1 hce hc (roomL hd hu) ⟨.bl _, H, I, rfl, q⟩
def rInU (K : KF) : R2 := fun x y H Q => rInL K false x y H Q ∨ (∃ i j, x = .str i ∧ y = .str j ∧ Q (.bl (!(Builtin.Str.occurrences j i 0 j.length 1).isEmpty)) H) ∨ (∃ a o, y = .ref a ∧ DGet H a x o ∧ Q (.bl o.isSome) H)
def rNotInU (K : KF) : R2 := fun x y H Q => rInL K true x y H Q ∨ (∃ i j, x = .str i ∧ y = .str j ∧ Q (.bl (!(!(Builtin.Str.occurrences j i 0 j.length 1).isEmpty))) H) ∨ (∃ a o, y = .ref a ∧ DGet H a x o ∧ Q (.bl (!o.isSome)) H)
theorem op_inD (hu : X.A.units + 1 < cLine) : OpR X (compareOp .In) (fun x y H Q => ∃ a o, y = .ref a ∧ DGet H a x o ∧ Q (.bl o.isSome) H) := by
  intro pins s σ H x y v u Q I rx ry h
  obtain ⟨a, o, rfl, g, q⟩ := h
  cases ry
  exact d_in hu I g rx fun s' I' => ⟨.bl o.isSome, H, I', rfl, q⟩
theorem op_notInD (hu : X.A.units + 1 < cLine) : OpR X (compareOp .NotIn) (fun x y H Q => ∃ a o, y = .ref a ∧ DGet H a x o ∧ Q (.bl (!o.isSome)) H) := by
  intro pins s σ H x y v u Q I rx ry h
  obtain ⟨a, o, rfl, g, q⟩ := h
  cases ry
  exact d_notIn hu I g rx fun s' I' => ⟨.bl (!o.isSome), H, I', rfl, q⟩
theorem opU_in (hu : X.A.units + 64 < cLine) : OpR X (compareOp .In) (rInU X.K) := (op_inL hu).or (op_in_str.or (op_inD (by omega)))
theorem opU_notIn (hu : X.A.units + 64 < cLine) : OpR X (compareOp .NotIn) (rNotInU X.K) := (op_notInL hu).or (op_notIn_str.or (op_notInD (by omega)))
theorem any_py (d : Dat) (n : Nat) (hd : shp n d = true) : ∀ (ds : List Dat), shpL n ds = true → (toPyL ds).any (fun z => PyData.eqv z (toPy d)) = ds.any fun z => eqv z d
  | [], _ => rfl
  | e :: r, h => by
    simp only [shpL, Bool.and_eq_true] at h
    rw [toPyL, List.any_cons, List.any_cons, eqv_py e d n n h.1 hd, any_py d n hd r h.2]
theorem in_read {K : KF} {Z : ZS} {H : Hp} {v u : V} {d e : Dat} {Q : Bool → Prop} (hv : Sh K Z H v d) (hu : Sh K Z H u e) (p : Post (inD d e) (fun z => ∀ b, z = Dat.bl b → Q b) (fun _ => False)) :
    (∃ d' e' ds, (e' = .list ds ∨ e' = .tuple ds) ∧ Dp K H v d' ∧ Dp K H u e' ∧ d'.canLay0 = true ∧ e'.canLay0 = true ∧ d'.depth ≤ DEEP ∧ Q (ds.any fun z => PyData.eqv z d')) ∨ (∃ i j, v = .str i ∧ u = .str j ∧ Q (!(Builtin.Str.occurrences j i 0 j.length 1).isEmpty)) ∨ (∃ a o, u = .ref a ∧ DGet H a v o ∧ Q o.isSome) := by
  cases hu with
  | @lst a xs ds h r =>
    have p : Post (if (shp DEEP d && shpL DEEP ds) = true then R.ok (.bl (ds.any fun y => eqv y d)) else .bad) (fun z => ∀ b, z = Dat.bl b → Q b) (fun _ => False) := by cases d <;> exact p
    obtain ⟨hs, q⟩ := Post.ite p
    rw [Bool.and_eq_true] at hs
    obtain ⟨h1, h2, h3⟩ := hv.dp hs.1
    obtain ⟨k1, k2, k3⟩ := r.dp hs.2
    refine .inl ⟨_, .list (toPyL ds), toPyL ds, .inl rfl, h1, .lst h k1, h2, by simpa [PyData.canLay0] using k2, h3, ?_⟩
    rw [any_py d DEEP hs.1 ds hs.2]
    exact q _ rfl
  | @tup a xs ds h r =>
    have p : Post (if (shp DEEP d && shpL DEEP ds) = true then R.ok (.bl (ds.any fun y => eqv y d)) else .bad) (fun z => ∀ b, z = Dat.bl b → Q b) (fun _ => False) := by cases d <;> exact p
    obtain ⟨hs, q⟩ := Post.ite p
    rw [Bool.and_eq_true] at hs
    obtain ⟨h1, h2, h3⟩ := hv.dp hs.1
    obtain ⟨k1, k2, k3⟩ := r.dp hs.2
    refine .inl ⟨_, .tuple (toPyL ds), toPyL ds, .inr rfl, h1, .tup h.sq k1, h2, by simpa [PyData.canLay0] using k2, h3, ?_⟩
    rw [any_py d DEEP hs.1 ds hs.2]
    exact q _ rfl
  | str y hy =>
    cases hv with
    | str x hx =>
      refine .inr (.inl ⟨x, y, rfl, rfl, ?_⟩)
      rw [within_occ]
      exact p _ rfl
    | _ => exact False.elim p
  | @dic a ks kvs h r =>
    have p : Post (if isKey d = true then R.ok (.bl (dicGet kvs d).isSome) else .bad) (fun z => ∀ b, z = Dat.bl b → Q b) (fun _ => False) := by cases d <;> exact p
    obtain ⟨hk, q⟩ := Post.ite p
    obtain ⟨kk, rfl, rfl, _⟩ := kv_rep hv hk
    refine .inr (.inr ⟨a, valV ks kk, rfl, DGet.k h, ?_⟩)
    have e : (valV ks kk).isSome = (dicGet kvs (kD kk)).isSome := by
      cases hz : dicGet kvs (kD kk) with
      | none =>
        rw [(dic_get r).2 hz]
        rfl
      | some z =>
        obtain ⟨w, e1, _⟩ := (dic_get r).1 z hz
        rw [e1]
        rfl
    rw [e]
    exact q _ rfl
  | _ => cases d <;> exact False.elim p
theorem in_bl {d e : Dat} {z : Dat} (h : inD d e = .ok z) : ∃ b, z = .bl b := by
  unfold inD at h
  split at h <;> first | (split at h <;> cases h; exact ⟨_, rfl⟩) | (cases h; exact ⟨_, rfl⟩) | cases h
theorem o2_in {K : KF} : Op2 K (rInU K) .sh .sh .new inD := by
  intro Z H Hs v u d e Q t s hv hu p
  have := in_read (Q := fun b => Q (.bl b) H) hv hu (p.imp (fun z q b hz => by subst hz; exact Wnt.bl t q) fun _ q => q)
  rcases this with ⟨d', e', ds, h1, h2, h3, h4, h5, h6, h7⟩ | h | h
  · exact .inl ⟨d', e', ds, h1, h2, h3, h4, h5, h6, h7⟩
  · exact .inr (.inl h)
  · exact .inr (.inr h)
theorem o2_notIn {K : KF} : Op2 K (rNotInU K) .sh .sh .new notInD := by
  intro Z H Hs v u d e Q t s hv hu p
  have := in_read (Q := fun b => Q (.bl (!b)) H) hv hu ((Post.bnd p).imp (fun z q b hz => by subst hz; exact Wnt.bl t q) fun _ q => q)
  rcases this with ⟨d', e', ds, h1, h2, h3, h4, h5, h6, h7⟩ | h | h
  · exact .inl ⟨d', e', ds, h1, h2, h3, h4, h5, h6, h7⟩
  · exact .inr (.inl h)
  · exact .inr (.inr h)
theorem ck_in (hK : c.K = X.K) (hu : X.A.units + 64 < cLine) : CmpOk X c.K .In inD := ⟨⟨_, opU_in hu, by rw [hK]; exact o2_in⟩, nx_in⟩
theorem ck_notIn (hK : c.K = X.K) (hu : X.A.units + 64 < cLine) : CmpOk X c.K .NotIn notInD := ⟨⟨_, opU_notIn hu, by rw [hK]; exact o2_notIn⟩, nx_notIn⟩
end
end PL

set_option maxRecDepth 100000
set_option maxHeartbeats 4000000
namespace PL
open PySem PySem.Spec PyProof.Rows L2
set_option autoImplicit false

section
variable {X : Cx} {c : Ct} {W : WX} {own : List Nat} {a b ee o : Expr} {es : List Expr} {m m1 m2 m3 : EM} {ms : LM} {pos p p2 apos : Pos} {k k1 k2 : Kd} {x : Str} {id T : String}
/-- a built-in's rule for one, two arguments -/
def CallV1 (K : KF) (r : List V → Hp → VK → Prop) (k1 k : Kd) (f : Dat → R Dat) : Prop := ∀ (Z : ZS) (H Hs : Hp) (v : V) (d : Dat) (Q : VK), Trk Z H → Same Hs H → Val K Z H Hs k1 v d → Post (f d) (Wnt K Z H Hs k Q) (fun _ => False) → r [v] H Q
def CallV2 (K : KF) (r : List V → Hp → VK → Prop) (k1 k : Kd) (f : Dat → Dat → R Dat) : Prop := ∀ (Z : ZS) (H Hs : Hp) (v u : V) (d e : Dat) (Q : VK), Trk Z H → Same Hs H → Val K Z H Hs k1 v d → Val K Z H Hs k1 u e → Post (f d e) (Wnt K Z H Hs k Q) (fun _ => False) → r [v, u] H Q
theorem arg1 {r : List V → Hp → VK → Prop} {f : Dat → R Dat} {σ : St} {H : Hp} {Q : VK} (hr : CallV1 c.K r k1 k f) (nx : NoX1 f) (h : qE c W own k (e1 f m) σ H Q) : qA c W own k1 (eCons m eNil) σ H (fun vs H1 => r vs H1 Q) := by
  obtain ⟨Z, ρ, S, p⟩ := h
  have p := Post.bnd p
  refine ⟨Z, ρ, S, ?_⟩
  unfold eCons eNil
  cases q : m ρ with
  | bad => rw [q] at p; exact p.elim
  | exc x => rw [q] at p; exact p
  | ok d =>
    rw [q] at p
    intro vs Z1 H1 x1 hv
    cases hv with
    | cons h1 h2 =>
      cases h2
      exact hr Z1 H1 H _ d Q x1.trk x1.same h1 ((Post.nox (nx d) p).imp (fun z q w Z2 H2 x2 hw => q w Z2 H2 (x1.trans x2) hw) fun _ q => q)
theorem arg2 {r : List V → Hp → VK → Prop} {f : Dat → Dat → R Dat} {σ : St} {H : Hp} {Q : VK} (hr : CallV2 c.K r k1 k f) (nx : NoX2 f) (h : qE c W own k (e2 f m1 m2) σ H Q) : qA c W own k1 (eCons m1 (eCons m2 eNil)) σ H (fun vs H1 => r vs H1 Q) := by
  obtain ⟨Z, ρ, S, p⟩ := h
  have p := Post.bnd p
  refine ⟨Z, ρ, S, ?_⟩
  unfold eCons eNil
  cases q : m1 ρ with
  | bad => rw [q] at p; exact p.elim
  | exc x => rw [q] at p; exact p
  | ok d =>
    rw [q] at p
    have p := Post.bnd p
    rw [PL.R.bnd_ok]
    cases q2 : m2 ρ with
    | bad => rw [q2] at p; exact p.elim
    | exc x => rw [q2] at p; exact p
    | ok d2 =>
      rw [q2] at p
      intro vs Z1 H1 x1 hv
      cases hv with
      | cons h1 h2 =>
        cases h2 with
        | cons h2 h3 =>
          cases h3
          exact hr Z1 H1 H _ _ d d2 Q x1.trk x1.same h1 h2 ((Post.nox (nx d d2) p).imp (fun z q w Z2 H2 x2 hw => q w Z2 H2 (x1.trans x2) hw) fun _ q => q)
theorem q_b1 {r : List V → Hp → VK → Prop} {f : Dat → R Dat} (hc : CallR X (.builtin id) r) (hr : CallV1 c.K r k1 k f) (nx : NoX1 f) (hg : Gl X x) (hm : X.mg x = none) (hv : bootBuiltins x = some (.builtin id)) (ha : PE X a (qE c W own k1 m)) (hn : x ≠ "__name__") (hdb : (x == ("__debug__" : Str)) = false)
    (hs : starEach (a :: []) X.env = (false, eval a X.env) :: starEach [] X.env := by rfl) (hpl : (backTo pos (starEach [] X.env)).any (·.1) = false := by rfl) : PE X (.Call (.Name x p) [a] [] pos) (qE c W own k (e1 f m)) :=
  (pe_callB hc hg hm hv (qa_cons ha qa_nil hs) hn hdb hs hpl).imp fun σ H Q h => arg1 hr nx h
theorem q_t1 {r : List V → Hp → VK → Prop} {f : Dat → R Dat} (hc : CallR X (.type T) r) (hr : CallV1 c.K r k1 k f) (nx : NoX1 f) (hg : Gl X x) (hm : X.mg x = none) (hv : bootBuiltins x = some (.type T)) (ha : PE X a (qE c W own k1 m)) (hn : x ≠ "__name__") (hdb : (x == ("__debug__" : Str)) = false)
    (hs : starEach (a :: []) X.env = (false, eval a X.env) :: starEach [] X.env := by rfl) (hpl : (backTo pos (starEach [] X.env)).any (·.1) = false := by rfl) : PE X (.Call (.Name x p) [a] [] pos) (qE c W own k (e1 f m)) :=
  (pe_callTy hc hg hm hv (qa_cons ha qa_nil hs) hn hdb hs hpl).imp fun σ H Q h => arg1 hr nx h
theorem q_b2 {r : List V → Hp → VK → Prop} {f : Dat → Dat → R Dat} (hc : CallR X (.builtin id) r) (hr : CallV2 c.K r k1 k f) (nx : NoX2 f) (hg : Gl X x) (hm : X.mg x = none) (hv : bootBuiltins x = some (.builtin id)) (ha : PE X a (qE c W own k1 m1)) (hb : PE X b (qE c W own k1 m2)) (hn : x ≠ "__name__") (hdb : (x == ("__debug__" : Str)) = false)
    (hs : starEach (a :: [b]) X.env = (false, eval a X.env) :: starEach [b] X.env := by rfl) (hs2 : starEach (b :: []) X.env = (false, eval b X.env) :: starEach [] X.env := by rfl) (hpl : (backTo pos (starEach [b] X.env)).any (·.1) = false := by rfl) : PE X (.Call (.Name x p) [a, b] [] pos) (qE c W own k (e2 f m1 m2)) :=
  (pe_callB hc hg hm hv (qa_cons ha (qa_cons hb qa_nil hs2) hs) hn hdb hs hpl).imp fun σ H Q h => arg2 hr nx h

/-! ### len, int, all, any, sum .. -/
theorem callR_or {f : Value} {r r' : List V → Hp → VK → Prop} (h : CallR X f r) (h' : CallR X f r') : CallR X f (fun xs H Q => r xs H Q ∨ r' xs H Q) := by
  intro pins s σ H xs us Q I rr q
  rcases q with q | q
  · exact h pins s σ H xs us Q I rr q
  · exact h' pins s σ H xs us Q I rr q
def rLenU (K : KF) : List V → Hp → VK → Prop := fun xs H Q => (∃ x n, xs = [x] ∧ LenV K x H n ∧ Q (.int n) H) ∨ (∃ a kvs, xs = [V.ref a] ∧ H a = some (.dK kvs) ∧ Q (.int kvs.length) H)
theorem cu_len : CallR X (.builtin "len") (rLenU X.K) := callR_or call_len call_lenD
theorem cv_len {K : KF} : CallV1 K (rLenU K) .sh .new lenD := by
  intro Z H Hs v d Q t s hv p
  cases hv with
  | lst h r => exact .inl ⟨_, _, rfl, .inl ⟨_, h, rfl⟩, by rw [r.len]; exact Wnt.int t p⟩
  | tup h r => exact .inl ⟨_, _, rfl, .inr ⟨_, h.sq, rfl⟩, by rw [r.len]; exact Wnt.int t p⟩
  | str x hx =>
    have hl := hx.2
    rw [line_eq] at hl
    refine .inl ⟨_, x.length, rfl, ⟨by simpa [Str.length] using hl, rfl⟩, ?_⟩
    rw [show x.length = x.cps.toList.length by simp [Str.length]]
    exact Wnt.int t p
  | dic h r => exact .inr ⟨_, _, rfl, h, by rw [r.len]; exact Wnt.int t p⟩
  | _ => exact False.elim p
theorem nx_len : NoX1 lenD := fun d x h => by cases d <;> cases h
theorem cv_int {K : KF} : CallV1 K (fun xs H Q => (∃ i, xs = [.int i] ∧ Q (.int i) H) ∨ ∃ k, xs = [.bl k] ∧ Q (.int (if k then 1 else 0)) H) .sh .new intD := by
  intro Z H Hs v d Q t s hv p
  cases hv with
  | int i => exact .inl ⟨i, rfl, Wnt.int t p⟩
  | bl b => exact .inr ⟨b, rfl, Wnt.int t p⟩
  | _ => exact False.elim p
theorem nx_int : NoX1 intD := fun d x h => by cases d <;> cases h
theorem bools_rep {K : KF} {Z : ZS} {H : Hp} : ∀ {ds : List Dat} {bs : List Bool} {xs : List V}, boolsOf ds = some bs → RepA K Z H xs ds → xs = bs.map V.bl
  | [], _, _, h, .nil => by cases h; rfl
  | d :: r, bs, _, h, .cons hd hr => by
    cases d with
    | bl b =>
      unfold boolsOf at h
      obtain ⟨bs', h1, rfl⟩ := Option.map_eq_some_iff.mp h
      cases hd
      rw [bools_rep h1 hr]
      rfl
    | _ => cases h
theorem ints_rep {K : KF} {Z : ZS} {H : Hp} : ∀ {ds : List Dat} {bs : List Int} {xs : List V}, intsOf ds = some bs → RepA K Z H xs ds → xs = bs.map V.int
  | [], _, _, h, .nil => by cases h; rfl
  | d :: r, bs, _, h, .cons hd hr => by
    cases d with
    | int b =>
      unfold intsOf at h
      obtain ⟨bs', h1, rfl⟩ := Option.map_eq_some_iff.mp h
      cases hd
      rw [ints_rep h1 hr]
      rfl
    | _ => cases h
theorem cv_all {K : KF} : CallV1 K (rAll K) .sh .new allD := by
  intro Z H Hs v d Q t s hv p
  cases hv with
  | @lst a xs ds h r =>
    have p : Post (match boolsOf ds with | some bs => R.ok (.bl (bs.all _root_.id)) | none => .bad) (Wnt K Z H Hs .new Q) (fun _ => False) := p
    cases q : boolsOf ds with
    | none => rw [q] at p; exact p.elim
    | some bs =>
      rw [q] at p
      exact ⟨a, bs, rfl, by rw [← bools_rep q r]; exact h, Wnt.bl t p⟩
  | _ => exact False.elim p
theorem nx_all : NoX1 allD := fun d x h => by cases d <;> simp only [allD] at h <;> first | cases h | (split at h <;> cases h)
theorem cv_any {K : KF} : CallV1 K (rAny K) .sh .new anyD := by
  intro Z H Hs v d Q t s hv p
  cases hv with
  | @lst a xs ds h r =>
    have p : Post (match boolsOf ds with | some bs => R.ok (.bl (bs.any _root_.id)) | none => .bad) (Wnt K Z H Hs .new Q) (fun _ => False) := p
    cases q : boolsOf ds with
    | none => rw [q] at p; exact p.elim
    | some bs =>
      rw [q] at p
      exact ⟨a, bs, rfl, by rw [← bools_rep q r]; exact h, Wnt.bl t p⟩
  | _ => exact False.elim p
theorem nx_any : NoX1 anyD := fun d x h => by cases d <;> simp only [anyD] at h <;> first | cases h | (split at h <;> cases h)
theorem cv_sum {K : KF} : CallV1 K (rSum K) .sh .new sumD := by
  intro Z H Hs v d Q t s hv p
  cases hv with
  | @lst a xs ds h r =>
    have p : Post (match intsOf ds with | some bs => R.ok (.int bs.sum) | none => .bad) (Wnt K Z H Hs .new Q) (fun _ => False) := p
    cases q : intsOf ds with
    | none => rw [q] at p; exact p.elim
    | some bs =>
      rw [q] at p
      exact ⟨a, bs, rfl, by rw [← ints_rep q r]; exact h, Wnt.int t p⟩
  | _ => exact False.elim p
theorem nx_sum : NoX1 sumD := fun d x h => by cases d <;> simp only [sumD] at h <;> first | cases h | (split at h <;> cases h)
theorem minI_spec : ∀ (r : List Int) (x : Int), minI x r ∈ x :: r ∧ ∀ y ∈ x :: r, minI x r ≤ y
  | [], x => ⟨List.mem_cons_self, fun y hy => by rw [show y = x by simpa using hy]; exact Int.le_refl _⟩
  | z :: r, x => by
    unfold minI
    by_cases hz : z < x
    · rw [if_pos hz]
      obtain ⟨h1, h2⟩ := minI_spec r z
      refine ⟨List.mem_cons_of_mem _ h1, fun y hy => ?_⟩
      have h3 := h2 z List.mem_cons_self
      rcases List.mem_cons.mp hy with rfl | hy
      · omega
      · exact h2 y hy
    · rw [if_neg hz]
      obtain ⟨h1, h2⟩ := minI_spec r x
      have h3 := h2 x List.mem_cons_self
      refine ⟨?_, fun y hy => ?_⟩
      · rcases List.mem_cons.mp h1 with h | h
        · rw [h]
          exact List.mem_cons_self
        · exact List.mem_cons_of_mem _ (List.mem_cons_of_mem _ h)
      · rcases List.mem_cons.mp hy with rfl | hy
        · exact h3
        · rcases List.mem_cons.mp hy with rfl | hy
          · omega
          · exact h2 y (List.mem_cons_of_mem _ hy)
theorem maxI_spec : ∀ (r : List Int) (x : Int), maxI x r ∈ x :: r ∧ ∀ y ∈ x :: r, y ≤ maxI x r
  | [], x => ⟨List.mem_cons_self, fun y hy => by rw [show y = x by simpa using hy]; exact Int.le_refl _⟩
  | z :: r, x => by
    unfold maxI
    by_cases hz : z > x
    · rw [if_pos hz]
      obtain ⟨h1, h2⟩ := maxI_spec r z
      refine ⟨List.mem_cons_of_mem _ h1, fun y hy => ?_⟩
      have h3 := h2 z List.mem_cons_self
      rcases List.mem_cons.mp hy with rfl | hy
      · omega
      · exact h2 y hy
    · rw [if_neg hz]
      obtain ⟨h1, h2⟩ := maxI_spec r x
      have h3 := h2 x List.mem_cons_self
      refine ⟨?_, fun y hy => ?_⟩
      · rcases List.mem_cons.mp h1 with h | h
        · rw [h]
          exact List.mem_cons_self
        · exact List.mem_cons_of_mem _ (List.mem_cons_of_mem _ h)
      · rcases List.mem_cons.mp hy with rfl | hy
        · exact h3
        · rcases List.mem_cons.mp hy with rfl | hy
          · omega
          · exact h2 y (List.mem_cons_of_mem _ hy)
theorem cv_min {K : KF} : CallV1 K (rMin K) .sh .new minD := by
  intro Z H Hs v d Q t s hv p
  cases hv with
  | @lst a xs ds h r =>
    have p : Post (match intsOf ds with | some (i :: r) => R.ok (.int (minI i r)) | _ => .bad) (Wnt K Z H Hs .new Q) (fun _ => False) := p
    match q : intsOf ds with
    | none => rw [q] at p; exact p.elim
    | some [] => rw [q] at p; exact p.elim
    | some (i :: bs) =>
      rw [q] at p
      obtain ⟨h1, h2⟩ := minI_spec bs i
      refine ⟨a, i :: bs, rfl, by rw [← ints_rep q r]; exact h, by simp, fun mm m1 m2 => ?_⟩
      have e : mm = minI i bs := Int.le_antisymm (m2 _ h1) (h2 _ m1)
      rw [e]
      exact Wnt.int t p
  | _ => exact False.elim p
theorem nx_min : NoX1 minD := fun d x h => by cases d <;> simp only [minD] at h <;> first | cases h | (split at h <;> cases h)
theorem cv_max {K : KF} : CallV1 K (rMax K) .sh .new maxD := by
  intro Z H Hs v d Q t s hv p
  cases hv with
  | @lst a xs ds h r =>
    have p : Post (match intsOf ds with | some (i :: r) => R.ok (.int (maxI i r)) | _ => .bad) (Wnt K Z H Hs .new Q) (fun _ => False) := p
    match q : intsOf ds with
    | none => rw [q] at p; exact p.elim
    | some [] => rw [q] at p; exact p.elim
    | some (i :: bs) =>
      rw [q] at p
      obtain ⟨h1, h2⟩ := maxI_spec bs i
      refine ⟨a, i :: bs, rfl, by rw [← ints_rep q r]; exact h, by simp, fun mm m1 m2 => ?_⟩
      have e : mm = maxI i bs := Int.le_antisymm (h2 _ m1) (m2 _ h1)
      rw [e]
      exact Wnt.int t p
  | _ => exact False.elim p
theorem nx_max : NoX1 maxD := fun d x h => by cases d <;> simp only [maxD] at h <;> first | cases h | (split at h <;> cases h)
theorem cv_min2 {K : KF} : CallV2 K (fun xs H Q => ∃ i j, xs = [.int i, .int j] ∧ Q (.int (if j < i then j else i)) H) .sh .new min2 := by
  intro Z H Hs v u d e Q t s hv hu p
  cases hv with
  | int i =>
    cases hu with
    | int j => exact ⟨i, j, rfl, Wnt.int t p⟩
    | _ => exact False.elim p
  | _ => exact False.elim p
theorem nx_min2 : NoX2 min2 := fun d e x h => by cases d <;> cases e <;> cases h
theorem cv_max2 {K : KF} : CallV2 K (fun xs H Q => ∃ i j, xs = [.int i, .int j] ∧ Q (.int (if j > i then j else i)) H) .sh .new max2 := by
  intro Z H Hs v u d e Q t s hv hu p
  cases hv with
  | int i =>
    cases hu with
    | int j => exact ⟨i, j, rfl, Wnt.int t p⟩
    | _ => exact False.elim p
  | _ => exact False.elim p
theorem nx_max2 : NoX2 max2 := fun d e x h => by cases d <;> cases e <;> cases h
theorem cv_ord {K : KF} : CallV1 K (fun xs H Q => ∃ x : Str, xs = [.str x] ∧ x.length = 1 ∧ Q (.int (x.cps.getD 0 0 : Nat)) H) .sh .new ordD := by
  intro Z H Hs v d Q t s hv p
  cases hv with
  | str x hx =>
    match q : x.cps.toList with
    | [] => rw [q] at p; exact False.elim p
    | [ch] =>
      rw [q] at p
      have hl : x.cps.size = 1 := by rw [← Array.length_toList, q]; rfl
      refine ⟨x, rfl, hl, ?_⟩
      have e : x.cps.getD 0 0 = ch := by
        rw [Array.getD, dif_pos (by omega)]
        have : x.cps[0]? = some ch := by rw [← Array.getElem?_toList, q]; rfl
        simpa [Array.getElem?_eq_getElem (show 0 < x.cps.size by omega)] using this
      rw [e]
      exact Wnt.int t p
    | _ :: _ :: _ => rw [q] at p; exact False.elim p
  | _ => exact False.elim p
theorem nx_ord : NoX1 ordD := fun d x h => by unfold ordD at h; split at h <;> cases h

/-! ### list(x), tuple(x) -/
theorem cv_listL {K : KF} : CallV1 K (fun xs H Q => ∃ p ys, xs = [.ref p] ∧ (SqL K H p ys ∨ SqT K H p ys) ∧ ∀ l, H l = none → Q (.ref l) (upd H l (.lst ys))) .sh .new listLD := by
  intro Z H Hs v d Q t s hv p
  cases hv with
  | lst h r => exact ⟨_, _, rfl, .inl h, fun l hl => Wnt.newL t s p r hl⟩
  | tup h r => exact ⟨_, _, rfl, .inr h.sq, fun l hl => Wnt.newL t s p r hl⟩
  | _ => exact False.elim p
theorem cv_tuple {K : KF} : CallV1 K (fun xs H Q => ∃ p ys, xs = [.ref p] ∧ ((SqL K H p ys ∧ ∀ l, H l = none → Q (.ref l) (upd H l (.tup ys))) ∨ (SqT K H p ys ∧ Q (.ref p) H))) .sh .new tupleD := by
  intro Z H Hs v d Q t s hv p
  cases hv with
  | lst h r => exact ⟨_, _, rfl, .inl ⟨h, fun l hl => Wnt.tup t p r hl⟩⟩
  | tup h r => exact ⟨_, _, rfl, .inr ⟨h.sq, Wnt.at t p (h.rep r) rfl⟩⟩
  | _ => exact False.elim p
theorem nx_listL : NoX1 listLD := fun d x h => by cases d <;> cases h
theorem nx_tuple : NoX1 tupleD := fun d x h => by cases d <;> cases h

/-! ### isinstance -/
def tyS : Ty → String
  | .int => "int" | .str => "str" | .bool => "bool" | .list => "list" | .tuple => "tuple" | .dict => "dict"
theorem kit_tab : ∀ T : Ty, kitB "NoneType" (tyS T) = some false ∧ kitB "bool" (tyS T) = some (T == .int || T == .bool) ∧ kitB "int" (tyS T) = some (T == .int) ∧ kitB "str" (tyS T) = some (T == .str) ∧ kitB "list" (tyS T) = some (T == .list) ∧ kitB "tuple" (tyS T) = some (T == .tuple) ∧ kitB "dict" (tyS T) = some (T == .dict)
  | .int => by decide +kernel
  | .str => by decide +kernel
  | .bool => by decide +kernel
  | .list => by decide +kernel
  | .tuple => by decide +kernel
  | .dict => by decide +kernel
theorem isi_read {K : KF} {Z : ZS} {H : Hp} {v : V} {d : Dat} {Q : VK} {T : Ty} (hv : Sh K Z H v d) (p : ∀ b, isTy T d = .ok (.bl b) → Q (.bl b) H) : rIsi K [v, .ty (tyS T)] H Q := by
  obtain ⟨h1, h2, h3, h4, h5, h6, h7⟩ := kit_tab T
  cases hv with
  | non => exact ⟨_, _, _, _, _, rfl, .ty _, .base .non, kit_ty h1, p _ (by cases T <;> rfl)⟩
  | bl b => exact ⟨_, _, _, _, _, rfl, .ty _, .base (.bl b), kit_ty h2, p _ (by cases T <;> rfl)⟩
  | int i => exact ⟨_, _, _, _, _, rfl, .ty _, .base (.int i), kit_ty h3, p _ (by cases T <;> rfl)⟩
  | str x hx => exact ⟨_, _, _, _, _, rfl, .ty _, .base (.str x), kit_ty h4, p _ (by cases T <;> rfl)⟩
  | @lst a xs ds h r =>
    have ty : TyX K H (.ref a) (.type "list") := by
      rcases h with (h | ⟨o, h⟩) | ⟨o, its, n, h, hc, _⟩
      · exact .base (.lst h)
      · exact .base (.frz h)
      · exact .kList h hc
    exact ⟨_, _, _, _, _, rfl, .ty _, ty, kit_ty h5, p _ (by cases T <;> rfl)⟩
  | @tup a xs ds h r =>
    have ty : TyX K H (.ref a) (.type "tuple") := by
      rcases h with ⟨_, h | ⟨o, h⟩⟩ | ⟨o, its, n, h, hc, _⟩
      · exact .base (.tup h)
      · exact .fTuple h
      · exact .kTuple h hc
    exact ⟨_, _, _, _, _, rfl, .ty _, ty, kit_ty h6, p _ (by cases T <;> rfl)⟩
  | dic h r => exact ⟨_, _, _, _, _, rfl, .ty _, .base (.dK h), kit_ty h7, p _ (by cases T <;> rfl)⟩
theorem q_isi {y : Str} {T : Ty} {py : Pos} (hK : c.K = X.K) (hg : Gl X "isinstance") (hm : X.mg "isinstance" = none) (hgT : Gl X y) (hmT : X.mg y = none) (hvT : bootBuiltins y = some (.type (tyS T))) (hnT : y ≠ "__name__") (hdT : (y == ("__debug__" : Str)) = false) (ha : PE X a (qE c W own .sh m))
    (hs : starEach (a :: [.Name y py]) X.env = (false, eval a X.env) :: starEach [.Name y py] X.env := by rfl) (hs2 : starEach (.Name y py :: []) X.env = (false, eval (.Name y py) X.env) :: starEach [] X.env := by rfl) (hpl : (backTo pos (starEach [.Name y py] X.env)).any (·.1) = false := by rfl) :
    PE X (.Call (.Name "isinstance" p) [a, .Name y py] [] pos) (qE c W own .new (e1 (isTy T) m)) := by
  have hT : PE X (.Name y py) (tC (.ty (tyS T))) := pe_bltn hgT hmT hvT rfl hnT hdT
  refine (pe_callB call_isi hg hm boot_isinstance (pa_cons ha (pa_cons hT pa_nil hs2) hs) (by decide) (by decide) hs hpl).imp fun σ H Q ⟨Z, ρ, S, p⟩ => ⟨Z, ρ, S, (Post.bnd p).imp (fun d p1 v Z1 H1 x1 hv => ?_) fun _ q => q⟩
  show rIsi X.K [v, .ty (tyS T)] H1 Q
  rw [← hK]
  refine isi_read hv fun b hb => ?_
  rw [hb] at p1
  exact p1 (.bl b) Z1 H1 x1 (Rep.kd .new (.bl b) rfl)
end
end PL

set_option maxRecDepth 100000
set_option maxHeartbeats 4000000
namespace PL
open PySem PySem.Spec PyProof.Rows L2
set_option autoImplicit false

section
variable {X : Cx} {c : Ct} {W : WX} {own own' ownL : List Nat} {a b ee o : Expr} {es : List Expr} {m m1 m2 m3 : EM} {ms : LM} {pos p p2 apos : Pos} {k k1 k2 : Kd} {x : Str} {id T : String}
/-! ### sep.join(xs) -/
theorem strs_rep {K : KF} {Z : ZS} {H : Hp} : ∀ {ds : List Dat} {ss : List (List Nat)} {xs : List V}, strsOf ds = some ss → RepA K Z H xs ds → ∃ ys : List Str, xs = ys.map V.str ∧ ss = ys.map (fun y => y.cps.toList) ∧ ∀ y ∈ ys, okS y.cps.toList
  | [], _, _, h, .nil => by cases h; exact ⟨[], rfl, rfl, fun y hy => (by cases hy)⟩
  | d :: r, ss, _, h, .cons hd hr => by
    cases d with
    | str b =>
      unfold strsOf at h
      obtain ⟨ss', h1, rfl⟩ := Option.map_eq_some_iff.mp h
      cases hd with
      | str y hy =>
        obtain ⟨ys, rfl, rfl, h3⟩ := strs_rep h1 hr
        refine ⟨y :: ys, rfl, rfl, fun z hz => ?_⟩
        rcases List.mem_cons.mp hz with rfl | hz
        · exact hy
        · exact h3 z hz
    | _ => cases h
theorem join_cps (sep : Str) : ∀ ys : List Str, (Str.join sep ys).cps.toList = joinS sep.cps.toList (ys.map fun y => y.cps.toList)
  | [] => rfl
  | [y] => rfl
  | y :: z :: r => by
    show (y ++ sep ++ Str.join sep (z :: r)).cps.toList = _
    rw [cpsApp, cpsApp, join_cps sep (z :: r)]
    rfl
theorem joinS_ok {sep : List Nat} (hs : okS sep) : ∀ {ss : List (List Nat)}, (∀ s ∈ ss, okS s) → (∀ c ∈ joinS sep ss, c < 1114112) ∧ (joinS sep ss).length ≤ (ss.map (·.length)).sum + ss.length * sep.length
  | [], _ => ⟨fun c hc => (by cases hc), by simp [joinS]⟩
  | [s], h => ⟨fun c hc => (h s List.mem_cons_self).1 c hc, by simp [joinS]⟩
  | s :: z :: r, h => by
    obtain ⟨h1, h2⟩ := joinS_ok hs (ss := z :: r) fun y hy => h y (List.mem_cons_of_mem _ hy)
    refine ⟨fun c hc => ?_, ?_⟩
    · rcases List.mem_append.mp (show c ∈ s ++ sep ++ joinS sep (z :: r) from hc) with q | q
      · rcases List.mem_append.mp q with q | q
        · exact (h s List.mem_cons_self).1 c q
        · exact hs.1 c q
      · exact h1 c q
    · show (s ++ sep ++ joinS sep (z :: r)).length ≤ _
      rw [List.length_append, List.length_append]
      simp only [List.map_cons, List.sum_cons, List.length_cons] at h2 ⊢
      rw [Nat.add_mul, Nat.one_mul]
      omega
theorem mt_read1 {r : V → List V → Hp → VK → Prop} {f : Dat → Dat → R Dat} {σ : St} {H : Hp} {Q : VK} (hr : ∀ (Z : ZS) (H Hs : Hp) (z : Str) (u : V) (e : Dat) (Q : VK), Trk Z H → Same Hs H → okS z.cps.toList → Sh c.K Z H u e → Post (f (.str z.cps.toList) e) (Wnt c.K Z H Hs .new Q) (fun _ => False) → r (.str z) [u] H Q)
    (nx : NoX2 f) (h : qE c W own .new (eM1 f m1 m2) σ H Q) : tM1 r (qE c W own .sh m1) (qE c W own .sh m2) σ H Q := by
  obtain ⟨Z, ρ, S, p⟩ := h
  refine ⟨Z, ρ, S, (Post.bnd p).imp (fun d p v Z1 H1 x1 hv => ?_) fun _ q => q⟩
  have hv : Sh c.K Z1 H1 v d := hv
  cases hv with
  | str z hz =>
    have p : Post ((m2 ρ).bnd fun y => f (.str z.cps.toList) y) _ _ := p
    exact ⟨⟨z, rfl⟩, Z1, ρ, S.move x1, (Post.bnd p).imp (fun e' p2 u Z2 H2 x2 hu => hr Z2 H2 H z u e' Q x2.trk (x1.same.trans x2.same) hz hu ((Post.nox (nx _ e') p2).imp (fun z q w Z3 H3 x3 hw => q w Z3 H3 ((x1.trans x2).trans x3) hw) fun _ q => q)) fun n q => q.move x1⟩
  | _ => exact False.elim p
theorem nx_join : NoX2 joinD := fun d e x h => by
  unfold joinD at h
  split at h <;> first | cases h | (split at h <;> first | cases h | (split at h <;> cases h))
theorem join_read {K : KF} {Z : ZS} {H Hs : Hp} {z : Str} {u : V} {e : Dat} {Q : VK} (t : Trk Z H) (hz : okS z.cps.toList) (hu : Sh K Z H u e) (p : Post (joinD (.str z.cps.toList) e) (Wnt K Z H Hs .new Q) (fun _ => False)) :
    ∃ a p, ∃ ys : List Str, V.str z = .str a ∧ [u] = [.ref p] ∧ (SqL K H p (ys.map V.str) ∨ SqT K H p (ys.map V.str)) ∧ (ys.map (·.length)).sum + ys.length * a.length ≤ 16777216 ∧ Q (.str (Txt.join a ys)) H := by
  have key : ∀ (q : Addr) (xs : List V) (ds : List Dat), RepA K Z H xs ds → (SqL K H q xs ∨ SqT K H q xs) → Post (match strsOf ds with | some ss => if (ss.map (·.length)).sum + ss.length * z.cps.toList.length ≤ LINE then R.ok (.str (joinS z.cps.toList ss)) else .bad | none => .bad) (Wnt K Z H Hs .new Q) (fun _ => False) →
      ∃ a p, ∃ ys : List Str, V.str z = .str a ∧ [V.ref q] = [.ref p] ∧ (SqL K H p (ys.map V.str) ∨ SqT K H p (ys.map V.str)) ∧ (ys.map (·.length)).sum + ys.length * a.length ≤ 16777216 ∧ Q (.str (Txt.join a ys)) H := fun q xs ds r hq p => by
    cases hs : strsOf ds with
    | none => rw [hs] at p; exact p.elim
    | some ss =>
      rw [hs] at p
      obtain ⟨hl, p⟩ := Post.ite p
      obtain ⟨ys, rfl, rfl, hy⟩ := strs_rep hs r
      have e1 : (ys.map fun y => y.cps.toList).map (·.length) = ys.map (·.length) := by
        rw [List.map_map]
        apply List.map_congr_left
        intro y _
        simp [Str.length]
      have e2 : z.cps.toList.length = z.length := by simp [Str.length]
      obtain ⟨j1, j2⟩ := joinS_ok hz (ss := ys.map fun y => y.cps.toList) (fun s hs => by
        obtain ⟨y, h1, rfl⟩ := List.mem_map.mp hs
        exact hy y h1)
      refine ⟨z, q, ys, rfl, rfl, hq, ?_, ?_⟩
      · rw [e1, List.length_map, e2] at hl
        exact hl
      · have e3 : Txt.join z ys = Str.join z ys := StrLaws.glued_eq_join z ys
        rw [e3]
        exact Wnt.str t p (join_cps z ys) ⟨j1, Nat.le_trans j2 hl⟩
  cases hu with
  | lst h r => exact key _ _ _ r (.inl h) p
  | tup h r => exact key _ _ _ r (.inr h.sq) p
  | _ => exact False.elim p
theorem q_join (hK : c.K = X.K) (ho : PE X o (qE c W own .sh m1)) (he : PE X ee (qE c W own .sh m2)) (hs : starEach [ee] X.env = [(false, eval ee X.env)] := by rfl) (hbase : attributeBase o "join" X.env (eval o X.env) = eval o X.env := by rfl) (hline : (apos.endLine == pos.line) = true := by rfl) :
    PE X (.Call (.Attribute o "join" apos) [ee] [] pos) (qE c W own .new (eM1 joinD m1 m2)) :=
  (pe_m1 (PySem.F.slot_str_join) PySem.F.type_str_join mt_join ho he hs hbase hline).imp fun σ H Q h => mt_read1 (fun Z H Hs z u e Q t s hz hu p => by rw [← hK]; exact join_read t hz hu p) nx_join h
/-! ### x.startswith(y) -/
theorem starts_eq (x y : Str) : Txt.startswith x y = begins y.cps.toList x.cps.toList := by
  unfold Txt.startswith
  rw [Bool.eq_iff_iff, Bool.and_eq_true, decide_eq_true_iff, sub_iff, begins_iff]
  simp only [Str.length, List.drop_zero, Array.length_toList, Nat.zero_add]
theorem nx_starts : NoX2 startsD := fun d e x h => by cases d <;> cases e <;> cases h
theorem q_starts (ho : PE X o (qE c W own .sh m1)) (he : PE X ee (qE c W own .sh m2)) (hs : starEach [ee] X.env = [(false, eval ee X.env)] := by rfl) (hbase : attributeBase o "startswith" X.env (eval o X.env) = eval o X.env := by rfl) (hline : (apos.endLine == pos.line) = true := by rfl) :
    PE X (.Call (.Attribute o "startswith" apos) [ee] [] pos) (qE c W own .new (eM1 startsD m1 m2)) :=
  (pe_m1 (PySem.F.slot_str_startswith) PySem.F.type_str_startswith mt_startswith ho he hs hbase hline).imp fun σ H Q h => mt_read1 (fun Z H Hs z u e Q t s hz hu p => by
    cases hu with
    | str y hy => exact ⟨z, y, rfl, rfl, by rw [starts_eq]; exact Wnt.bl t p⟩
    | _ => exact False.elim p) nx_starts h
/-! ### x.index(sign) -/
theorem occ_kept (s sub : Str) (hi : Nat) : ∀ (l : List Nat) (k free : Nat), (forIn l ((#[k] : Array Nat), free) (StrLaws.occBody s sub hi 1)).run.fst = #[k]
  | [], k, free => rfl
  | a :: l, k, free => by
    rw [List.forIn_cons]
    unfold StrLaws.occBody
    rw [if_neg (by simp)]
    exact occ_kept s sub hi l k free
theorem occ_first (s sub : Str) (hi : Nat) : ∀ (n lo free : Nat), free ≤ lo → ∀ k, lo ≤ k → k < lo + n → (k + sub.length ≤ hi ∧ Builtin.Str.subAt s sub k = true) → (∀ j, lo ≤ j → j < k → ¬ (j + sub.length ≤ hi ∧ Builtin.Str.subAt s sub j = true)) →
    (forIn (List.range' lo n) ((#[] : Array Nat), free) (StrLaws.occBody s sub hi 1)).run.fst = #[k]
  | 0, lo, free, hf, k, h1, h2, _, _ => by omega
  | n + 1, lo, free, hf, k, h1, h2, hk, hn => by
    rw [List.range'_succ, List.forIn_cons]
    unfold StrLaws.occBody
    by_cases e : lo = k
    · subst e
      rw [if_pos ⟨⟨⟨by simp, hf⟩, hk.1⟩, hk.2⟩]
      exact occ_kept s sub hi _ lo _
    · rw [if_neg (fun z => hn lo (Nat.le_refl _) (by omega) ⟨z.1.2, z.2⟩)]
      exact occ_first s sub hi n (lo + 1) free (by omega) k (by omega) (by omega) hk fun j j1 j2 => hn j (by omega) j2
theorem index_occ {s : Str} {ch k : Nat} (h : s.cps.toList.findIdx? (· == ch) = some k) : Builtin.Str.occurrences s ⟨#[ch]⟩ 0 s.length 1 = [k] := by
  obtain ⟨hk, h1, h2⟩ := List.findIdx?_eq_some_iff_getElem.mp h
  rw [StrLaws.occ_eq]
  have hsz : s.cps.toList.length = s.length := by simp [Str.length]
  rw [occ_first s ⟨#[ch]⟩ s.length _ 0 0 (Nat.le_refl _) k (Nat.zero_le _) (by omega) ((StrLaws.subAt_one s ch k).mpr ?_) fun j _ hj z => ?_]
  · rw [List.getElem?_eq_getElem hk]
    congr 1
    simpa using h1
  · have := (StrLaws.subAt_one s ch j).mp z
    have h3 := h2 j hj
    rw [List.getElem?_eq_getElem (by omega)] at this
    exact h3 (by simpa using Option.some.inj this)
theorem nx_index : NoX2 indexD := fun d e x h => by
  unfold indexD at h
  split at h <;> first | cases h | (split at h <;> cases h)
theorem q_index (ho : PE X o (qE c W own .sh m1)) (he : PE X ee (qE c W own .sh m2)) (hs : starEach [ee] X.env = [(false, eval ee X.env)] := by rfl) (hbase : attributeBase o "index" X.env (eval o X.env) = eval o X.env := by rfl) (hline : (apos.endLine == pos.line) = true := by rfl) :
    PE X (.Call (.Attribute o "index" apos) [ee] [] pos) (qE c W own .new (eM1 indexD m1 m2)) :=
  (pe_m1 (PySem.F.slot_str_index) PySem.F.type_str_index mt_sindex ho he hs hbase hline).imp fun σ H Q h => mt_read1 (fun Z H Hs z u e Q t s hz hu p => by
    cases hu with
    | str y hy =>
      match q : y.cps.toList with
      | [] => rw [q] at p; exact False.elim p
      | [ch] =>
        rw [q] at p
        have ey : y = ⟨#[ch]⟩ := by
          cases y with
          | mk cps => rw [show cps = #[ch] from Array.toList_inj.mp q]
        have p : Post (match z.cps.toList.findIdx? (· == ch) with | some k => R.ok (Dat.int k) | none => .bad) (Wnt c.K Z H Hs .new Q) (fun _ => False) := p
        cases hf : z.cps.toList.findIdx? (· == ch) with
        | none => rw [hf] at p; exact p.elim
        | some kk =>
          rw [hf] at p
          exact ⟨z, y, kk, [], rfl, rfl, by rw [ey]; exact index_occ hf, Wnt.int t p⟩
      | _ :: _ :: _ => rw [q] at p; exact False.elim p
    | _ => exact False.elim p) nx_index h
end
end PL

set_option maxRecDepth 100000
set_option maxHeartbeats 4000000
namespace PL
open PySem PySem.Spec PyProof.Rows L2
set_option autoImplicit false

section
variable {X : Cx} {c : Ct} {W : WX} {own own' ownL : List Nat} {a b ee o : Expr} {es : List Expr} {m m1 m2 m3 : EM} {ms : LM} {pos p p2 apos tpos : Pos} {k k1 k2 : Kd} {x : Str} {i : Nat}
/-! ### x op= e -/
theorem iopU_add : PIp X .Add (fun x y H Q => (∃ i j, x = .int i ∧ y = .int j ∧ Q (.int (i + j)) H) ∨ (∃ i j, x = .str i ∧ y = .str j ∧ i.length + j.length ≤ sizeLine ∧ Q (.str (i ++ j)) H)) := fun pins s σ H x y v u Q I rx ry q => by
  rcases q with q | q
  · exact iop_add pins s σ H x y v u Q I rx ry q
  · exact iop_add_str pins s σ H x y v u Q I rx ry q
theorem nx_addF : NoX2 addF := fun d e x h => by cases d <;> cases e <;> simp only [addF] at h <;> first | cases h | (split at h <;> cases h)
theorem qs_augG {op : Operator} {ti : TIp} {f : Dat → Dat → R Dat} (hN : X.N.Nodup) (hi : X.N[i]? = some x) (hx : Loc X.env.scope x) (hf : X.fn x = true ∨ X.env.scope.names.lookup x = some .local) (hio : i ∉ own) (hn : c.xs.all (fun p => p.1 != i) = true) (he : PE X ee (qE c W own .sh m)) (hop : PIp X op ti) (nx : NoX2 f)
    (hr : ∀ (Z : ZS) (H Hs : Hp) (v u : V) (d e : Dat) (Q : VK), Trk Z H → Same Hs H → Sh c.K Z H v d → Sh c.K Z H u e → Post (f d e) (Wnt c.K Z H Hs .frz Q) (fun _ => False) → ti v u H Q) :
    PS X (.AugAssign (.Name x p) op ee pos) (qS c W own own ownL (sAug f i m)) := (ps_aug hN hi hx he hop hf).imp fun D σ H ⟨Z, ρ, S, p⟩ => by
  unfold sAug sAsg e2 eV at p
  have p := PostS.lft S p
  have p := Post.bnd p
  cases e : ρ[i]? with
  | none => rw [e] at p; exact p.elim
  | some od =>
    cases od with
    | none => rw [e] at p; exact p.elim
    | some d =>
      rw [e] at p
      have p := Post.bnd p
      have nex : ∀ y, d ≠ .exc y := fun y z => by
        subst z
        obtain ⟨a, e1, _⟩ := S.exc i y e
        rw [e1] at hn
        simp at hn
      obtain ⟨v, hv, rv⟩ := S.val i d e hio nex
      refine ⟨v, hv, Z, ρ, S, Post.imp p (fun e' p2 u Z1 H1 x1 hu => ?_) fun _ q => q⟩
      refine hr Z1 H1 H v u d e' _ x1.trk x1.same (Sh.ext x1 rv.sh) hu ((Post.nox (nx d e') p2).imp (fun z q w Z2 H2 x2 hw => ?_) fun _ q => q)
      have q := PostS.gok q
      unfold gV at q
      obtain ⟨hl, q⟩ := Post.ite q
      have S2 := ((S.move x1).move x2).set (i := i) hw hl
      have hfil : own.filter (· != i) = own := List.filter_eq_self.mpr fun j hj => by simpa using fun z : j = i => hio (z ▸ hj)
      rw [hfil] at S2
      exact q Z2 H2 _ (x1.trans x2).adv S2
theorem qs_augAdd (hN : X.N.Nodup) (hi : X.N[i]? = some x) (hx : Loc X.env.scope x) (hf : X.fn x = true ∨ X.env.scope.names.lookup x = some .local) (hio : i ∉ own) (hn : c.xs.all (fun p => p.1 != i) = true) (he : PE X ee (qE c W own .sh m)) :
    PS X (.AugAssign (.Name x p) .Add ee pos) (qS c W own own ownL (sAug addF i m)) := qs_augG hN hi hx hf hio hn he iopU_add nx_addF fun Z H Hs v u d e Q t s hv hu p => by
  cases hv with
  | int i =>
    cases hu with
    | int j => exact .inl ⟨i, j, rfl, rfl, Wnt.int t p⟩
    | _ => exact False.elim p
  | str x hx =>
    cases hu with
    | str y hy =>
      obtain ⟨hz, p⟩ := Post.ite p
      have hz2 := hz
      rw [line_eq] at hz
      exact .inr ⟨x, y, rfl, rfl, by simpa [Str.length] using hz, Wnt.str t p (cpsApp x y) (okS_app hx hy hz2)⟩
    | _ => exact False.elim p
  | _ => exact False.elim p
theorem qs_augSub (hN : X.N.Nodup) (hi : X.N[i]? = some x) (hx : Loc X.env.scope x) (hf : X.fn x = true ∨ X.env.scope.names.lookup x = some .local) (hio : i ∉ own) (hn : c.xs.all (fun p => p.1 != i) = true) (he : PE X ee (qE c W own .sh m)) :
    PS X (.AugAssign (.Name x p) .Sub ee pos) (qS c W own own ownL (sAug subD i m)) := qs_augG hN hi hx hf hio hn he (ti := rI0 fun i j => .int (i - j)) iop_sub nx_sub fun Z H Hs v u d e Q t s hv hu p => by
  cases hv with
  | int i =>
    cases hu with
    | int j => exact ⟨i, j, rfl, rfl, Wnt.int t p⟩
    | _ => exact False.elim p
  | _ => exact False.elim p

/-! ### x[k] = e, x own -/
section
variable {K : KF} {Z : ZS} {H : Hp} {kk : Key} {v : V} {d : Dat}
theorem dic_any : ∀ {ks : List (Key × V)} {kvs : List (Dat × Dat)}, RepD K Z H ks kvs → (ks.any fun kv => decide (kv.1 = kk)) = kvs.any (keyEq (kD kk))
  | _, _, .nil => rfl
  | _, _, @RepD.cons _ _ _ j w r e t ok h rr => by
    rw [List.any_cons, List.any_cons, dic_any rr]
    congr 1
    exact (kD_eq j kk).symm
theorem dic_map (hv : Rep K Z H v d) : ∀ {ks : List (Key × V)} {kvs : List (Dat × Dat)}, RepD K Z H ks kvs → RepD K Z H (ks.map fun kv => if kv.1 = kk then (kv.1, v) else kv) (kvs.map fun p => if keyEq (kD kk) p then (p.1, d) else p)
  | _, _, .nil => .nil
  | _, _, @RepD.cons _ _ _ j w r e t ok h rr => by
    rw [List.map_cons, List.map_cons]
    have q : keyEq (kD kk) (kD j, e) = decide (j = kk) := kD_eq j kk
    by_cases hj : j = kk
    · rw [if_pos hj, if_pos (by rw [q]; exact decide_eq_true hj)]
      exact .cons ok hv (dic_map hv rr)
    · rw [if_neg hj, if_neg (by rw [q]; simpa using hj)]
      exact .cons ok h (dic_map hv rr)
theorem RepD.append : ∀ {a b : List (Key × V)} {d e : List (Dat × Dat)}, RepD K Z H a d → RepD K Z H b e → RepD K Z H (a ++ b) (d ++ e)
  | _, _, _, _, .nil, s => s
  | _, _, _, _, .cons o h r, s => .cons o h (RepD.append r s)
theorem dic_put (hv : Rep K Z H v d) (ok : okK kk) {ks : List (Key × V)} {kvs : List (Dat × Dat)} (r : RepD K Z H ks kvs) : RepD K Z H (putK ks kk v) (dicPut kvs (kD kk) d) := by
  unfold putK dicPut
  rw [dic_any r]
  by_cases h : kvs.any (keyEq (kD kk)) = true
  · rw [if_pos h, if_pos h]
    exact dic_map hv r
  · rw [if_neg h, if_neg h]
    exact r.append (.cons ok hv .nil)
end
theorem set_U (hu : X.A.units + 1 < cLine) : PSet X (fun o i v H Q => rSetL o i v H Q ∨ rSetD o i v H Q) := by
  intro pins s σ H o i v ov iv u Q I ro ri rv h
  rcases h with h | h
  · exact set_list pins s σ H o i v ov iv u Q I ro ri rv h
  · exact set_dict hu pins s σ H o i v ov iv u Q I ro ri rv h
theorem qs_put {kx : Expr} {mk : EM} {p0 : Pos} (hu : X.A.units + 1 < cLine) (hi : i ∈ own) (hv : PE X (.Name x p0) (tVar i)) (hk : PE X kx (qE c W own .sh mk)) (he : PE X ee (qE c W own .frz m))
    (hs : swapsWithSole [.Subscript (.Name x p0) kx tpos] ee pos.line X.env = pure false := by rfl) (hw : swappedStores [.Subscript (.Name x p0) kx tpos] ee X.env = pure none := by rfl)
    (h1 : (assignEach [.Subscript (.Name x p0) kx tpos] X.env).map (·.2) = [assign (.Subscript (.Name x p0) kx tpos) X.env] := by rfl)
    (ha : ∀ v, assign (.Subscript (.Name x p0) kx tpos) X.env v = (do
      let ov ← holding [v] (eval (.Name x p0) X.env)
      let iv ← holding [v, ov] (eval kx X.env)
      standAt tpos
      holding [v, ov, iv] (setItem ov iv v)
      release [v, ov, iv] []) := by intro _; rfl) : PS X (.Assign [.Subscript (.Name x p0) kx tpos] ee pos) (qS c W own own ownL (sPut i mk m)) := (ps_asg he (pg_sub hv hk (set_U hu) ha) hs hw h1).imp fun D σ H ⟨Z, ρ, S, p⟩ => by
  obtain ⟨l, d0, e1, e2, nz, h0, t0⟩ := S.ow i hi
  unfold sPut at p
  rw [e1] at p
  cases d0 with
  | lst ds =>
    obtain ⟨xs, hH, hr⟩ := t0
    refine ⟨Z, ρ, S, (PostS.lft S p).imp (fun d p1 v Z1 H1 x1 hvv => ⟨_, e2, Z1, ρ, S.move x1, (PostS.lft (S.move x1) (PostS.move x1.adv p1)).imp (fun z p2 w Z2 H2 x2 hw => ?_) fun _ q => q⟩) fun _ q => q⟩
    cases z with
    | int j =>
      have hw : Sh c.K Z2 H2 w (.int j) := hw
      cases hw
      have p2 : PostS c W own ownL Z1 H1 D (match placeOf j ds.length with | some n => some (.nx, ρ.set i (some (.lst (ds.set n d)))) | none => none) := p2
      cases hp : placeOf j ds.length with
      | none => rw [hp] at p2; exact p2.elim
      | some n =>
        rw [hp] at p2
        have S2 := (S.move x1).move x2
        have x12 := x1.trans x2
        have hH2 := x12.same _ _ hH
        have nl : ¬ Z2 l := x12.not hH nz
        obtain ⟨ad2, S3⟩ := S2.mut (d := .lst (ds.set n d)) hi e2 ⟨xs.set n v, upd_same, (RepA.set n (hr.adv x12.adv) (Rep.adv x2.adv hvv)).adv (.chg nl)⟩ (fun y z => by cases z)
        exact .inl ⟨l, xs, j, n, rfl, rfl, hH2, by rw [hr.len]; exact hp, p2 Z2 _ σ (x2.adv.trans ad2) S3⟩
    | _ => exact False.elim p2
  | dic ds =>
    obtain ⟨ks, hH, hr⟩ := t0
    refine ⟨Z, ρ, S, (PostS.lft S p).imp (fun d p1 v Z1 H1 x1 hvv => ⟨_, e2, Z1, ρ, S.move x1, (PostS.lft (S.move x1) (PostS.move x1.adv p1)).imp (fun z p2 w Z2 H2 x2 hw => ?_) fun _ q => q⟩) fun _ q => q⟩
    have p2 : PostS c W own ownL Z1 H1 D (if isKey z = true ∧ ds.length < LINE then some (.nx, ρ.set i (some (.dic (dicPut ds z d)))) else none) := p2
    by_cases hz : isKey z = true ∧ ds.length < LINE
    · rw [if_pos hz] at p2
      obtain ⟨kk, rfl, rfl, ok⟩ := kv_rep hw hz.1
      have S2 := (S.move x1).move x2
      have x12 := x1.trans x2
      have hH2 := x12.same _ _ hH
      have nl : ¬ Z2 l := x12.not hH nz
      obtain ⟨ad2, S3⟩ := S2.mut (d := .dic (dicPut ds (kD kk) d)) hi e2 ⟨putK ks kk v, upd_same, (dic_put (Rep.adv x2.adv hvv) ok (hr.adv x12.adv)).adv (.chg nl)⟩ (fun y z => by cases z)
      exact .inr ⟨l, _, rfl, DPut.k hH2 (by rw [hr.len, ← line_eq]; exact hz.2), p2 Z2 _ σ (x2.adv.trans ad2) S3⟩
    · rw [if_neg hz] at p2
      exact p2.elim
  | _ => exact t0.elim

/-! ### {k: v, ..} -/
/-- the readings of a display's pairs -/
def qPrs (c : Ct) (W : WX) (own : List Nat) (ps : List (EM × EM)) : List (TE × TE) := ps.map fun p => (qE c W own .sh p.1, qE c W own .frz p.2)
theorem prs_read {c : Ct} {W : WX} {own : List Nat} : ∀ (ps : List (EM × EM)) {σ : St} {Z : ZS} {H : Hp} {ρ : Env} {Q : List (V × V) → Hp → Prop}, SE c own Z H σ ρ →
    Post (ePrs ps ρ) (fun t => ∀ vs Z' H', Ext Z H Z' H' → vs.length = t.length → (∀ (i : Nat) p d, vs[i]? = some p → t[i]? = some d → Sh c.K Z' H' p.1 d.1 ∧ Rep c.K Z' H' p.2 d.2) → Q vs H') (PX c W Z H σ) → tPairs (qPrs c W own ps) σ H Q
  | [], σ, Z, H, ρ, Q, S, p => p [] Z H (.refl S.trk) rfl (fun i p d h => by simp at h)
  | (k, v) :: r, σ, Z, H, ρ, Q, S, p => by
    refine ⟨Z, ρ, S, (Post.bnd p).imp (fun dk p1 x Z1 H1 x1 hx => ⟨Z1, ρ, S.move x1, (Post.bnd p1).imp (fun dv p2 y Z2 H2 x2 hy => ?_) fun n q => PX.move x1 q⟩) fun _ q => q⟩
    refine prs_read r ((S.move x1).move x2) ((Post.bnd p2).imp (fun t p3 vs Z3 H3 x3 hl hh => ?_) fun n q => PX.move (x1.trans x2) q)
    refine p3 ((x, y) :: vs) Z3 H3 ((x1.trans x2).trans x3) (by simp [hl]) fun i p d h1 h2 => ?_
    cases i with
    | zero =>
      cases h1
      cases h2
      exact ⟨(Sh.ext x2 hx).ext x3, Rep.adv x3.adv hy⟩
    | succ i => exact hh i p d (by simpa using h1) (by simpa using h2)
theorem keys_of {K : KF} {Z : ZS} {H : Hp} : ∀ {vs : List (V × V)} {t : List (Dat × Dat)}, vs.length = t.length → t.all (fun p => isKey p.1) = true → (∀ (i : Nat) p d, vs[i]? = some p → t[i]? = some d → Sh K Z H p.1 d.1 ∧ Rep K Z H p.2 d.2) → ∃ kvs : List (Key × V), vs = kvs.map (fun kv => (kV kv.1, kv.2)) ∧ kvs.length = t.length ∧
    ∀ (ks0 : List (Key × V)) (d0 : List (Dat × Dat)), RepD K Z H ks0 d0 → RepD K Z H (mergeK ks0 kvs) (t.foldl (fun d p => dicPut d p.1 p.2) d0)
  | [], [], _, _, _ => ⟨[], rfl, rfl, fun ks0 d0 h => h⟩
  | p :: vs, d :: t, hl, hk, hh => by
    rw [List.all_cons, Bool.and_eq_true] at hk
    obtain ⟨kvs, h1, h2, h3⟩ := keys_of (vs := vs) (t := t) (by simpa using hl) hk.2 fun i p d e1 e2 => hh (i + 1) p d (by simpa using e1) (by simpa using e2)
    obtain ⟨q1, q2⟩ := hh 0 p d rfl rfl
    obtain ⟨kk, e1, e2, ok⟩ := kv_rep q1 hk.1
    refine ⟨(kk, p.2) :: kvs, by rw [h1, List.map_cons, ← e1], by simp [h2], fun ks0 d0 h => ?_⟩
    show RepD K Z H (mergeK (putK ks0 kk p.2) kvs) (t.foldl (fun d p => dicPut d p.1 p.2) (dicPut d0 d.1 d.2))
    rw [e2]
    exact h3 _ _ (dic_put q2 ok h)
theorem q_disp {keys : List (Option Expr)} {values : List Expr} {ps : List (EM × EM)} (h : PPs X pos keys values (qPrs c W own ps)) (hall : keys.all (·.isSome) = true) (hl : keys.length = values.length) (h0 : keys ≠ []) (h15 : keys.length ≤ 15) (hp : ps.length ≤ 15) : PE X (.Dict keys values pos) (qE c W own .new (eDisp ps)) := (pe_disp h hall hl h0 h15).imp fun σ H Q ⟨Z, ρ, S, p⟩ => fun d hd => by
  have x0 : Ext Z H Z (upd H d (.dK [])) := .laid S.trk hd
  have nd : ¬ Z d := fun z => by
    obtain ⟨o, e⟩ := S.trk d z
    rw [hd] at e; cases e
  refine prs_read ps (S.move x0) ?_
  have hlen : ∀ (ps : List (EM × EM)) t, ePrs ps ρ = .ok t → t.length = ps.length := by
    intro ps
    induction ps with
    | nil => intro t h; cases h; rfl
    | cons p r ih =>
      intro t h
      obtain ⟨k, v⟩ := p
      unfold ePrs at h
      cases q1 : k ρ with
      | ok x =>
        rw [q1] at h
        simp only [PL.R.bnd_ok] at h
        cases q2 : v ρ with
        | ok y =>
          rw [q2] at h
          simp only [PL.R.bnd_ok] at h
          cases q3 : ePrs r ρ with
          | ok t' =>
            rw [q3] at h
            cases h
            simp [ih t' q3]
          | exc z => rw [q3] at h; cases h
          | bad => rw [q3] at h; cases h
        | exc z => rw [q2] at h; cases h
        | bad => rw [q2] at h; cases h
      | exc z => rw [q1] at h; cases h
      | bad => rw [q1] at h; cases h
  have p := Post.bnd p
  cases q : ePrs ps ρ with
  | bad => rw [q] at p; exact p.elim
  | exc y => rw [q] at p; exact PX.move x0 p
  | ok t =>
    rw [q] at p
    obtain ⟨hk, p⟩ := Post.ite (b := t.all (fun p => isKey p.1) = true) p
    intro vs Z1 H1 x1 hl hh
    obtain ⟨kvs, h1, h2, h3⟩ := keys_of hl hk hh
    have nd1 := x1.not (o := .dK []) upd_same nd
    refine ⟨x1.same _ _ upd_same, kvs, h1, by rw [h2, hlen ps t q]; exact hp, ?_⟩
    have x2 := ((x0.trans x1).chg (o := .dK (mergeK [] kvs)) hd nd1)
    exact p (.ref d) Z1 _ x2 ⟨fun _ => ⟨d, rfl, nd1, hd, _, upd_same, (h3 [] [] .nil).adv (.chg nd1)⟩, fun z => by cases z⟩
end
end PL

set_option maxRecDepth 100000
set_option maxHeartbeats 4000000
namespace PL
open PySem PySem.Spec PyProof.Rows L2
set_option autoImplicit false

/-- the context of an except suite that holds an error -/
def Ct.held (c : Ct) (i : Nat) (a : Addr) (y : Nat) : Ct := { c with xs := some (i, a, y) }
section
variable {c : Ct} {own : List Nat} {Z : ZS} {H : Hp} {σ : St} {ρ : Env} {i y : Nat} {a : Addr}
theorem SE.hold (S : SE c [] Z H σ ρ) (hx : c.xs = none) (hi : i < ρ.length) : SE (c.held i a y) [] Z H (σ.set i (some (.ref a))) (ρ.set i (some (.exc y))) where
  ext := S.ext
  len := by simp [S.len]
  val := fun j d e n nx => by
    rw [get_set] at e
    rw [get_set, S.len]
    by_cases h : i = j ∧ j < ρ.length
    · rw [if_pos h] at e
      cases e
      exact absurd rfl (nx y)
    · rw [if_neg h] at e ⊢
      exact S.val j d e n nx
  exc := fun j x e => by
    rw [get_set] at e
    rw [get_set, S.len]
    by_cases h : i = j ∧ j < ρ.length
    · rw [if_pos h] at e ⊢
      cases e
      exact ⟨a, by rw [h.1]; rfl, rfl⟩
    · rw [if_neg h] at e
      obtain ⟨b, e1, _⟩ := S.exc j x e
      rw [hx] at e1
      cases e1
  ow := fun j hj => by cases hj
  inj := fun j hj => by cases hj
theorem SE.letgo (S : SE (c.held i a y) own Z H σ ρ) (hi : i ∉ own) : SE c own Z H (σ.set i none) (ρ.set i none) where
  ext := S.ext
  len := by simp [S.len]
  val := fun j d e n nx => by
    rw [get_set] at e
    rw [get_set, S.len]
    by_cases h : i = j ∧ j < ρ.length
    · rw [if_pos h] at e; cases e
    · rw [if_neg h] at e ⊢
      exact S.val j d e n nx
  exc := fun j x e => by
    rw [get_set] at e
    by_cases h : i = j ∧ j < ρ.length
    · rw [if_pos h] at e; cases e
    · rw [if_neg h] at e
      obtain ⟨b, e1, e2⟩ := S.exc j x e
      have e1 : some (i, a, y) = some (j, b, x) := e1
      cases e1
      exact absurd ⟨rfl, (List.getElem?_eq_some_iff.mp e).1⟩ h
  ow := fun j hj => by
    obtain ⟨b, d, e1, e2, q⟩ := S.ow j hj
    have hne : ¬ i = j := fun z => hi (z ▸ hj)
    refine ⟨b, d, ?_, ?_, q⟩
    · rw [get_set, if_neg (fun z => hne z.1)]; exact e1
    · rw [get_set, if_neg (fun z => hne z.1)]; exact e2
  inj := fun j hj l hl ne => by
    have h1 : ¬ i = j := fun z => hi (z ▸ hj)
    have h2 : ¬ i = l := fun z => hi (z ▸ hl)
    rw [get_set, get_set, if_neg (fun z => h1 z.1), if_neg (fun z => h2 z.1)]
    exact S.inj j hj l hl ne
end

section
variable {X : Cx} {c : Ct} {W : WX} {own own' ownL : List Nat} {sa su : SM} {body suite : List Stmt} {b₀ : Stmt} {x n : Str} {i N : Nat} {np pos pos' : Pos} {sub : Nat → Nat → Bool}
/-- under each class that the error may have -/
theorem suite_of {sts : List Stmt} {t : Nat → TS} {cls : Value} {d : Option Addr} (h : ∀ y, cls = .ref (c.EC y) → d = none → PSs X sts (t y)) : PSs X sts (fun D σ H => ∃ y, cls = .ref (c.EC y) ∧ d = none ∧ t y D σ H) :=
  ⟨fun pins s σ H D I ⟨y, e1, e2, q⟩ => (h y e1 e2).run pins s σ H D I q⟩
theorem try_body {W' : WX} {Z : ZS} {H : Hp} {D : Ends} {o : O} {hs : List ((Nat → Bool) × Option Nat × SM)} (h : PostS c W own' ownL Z H D (match o with
    | some (.ex y, ρ') => hand hs y ρ'
    | q => q)) (hw : ∀ y ρ' Z' H' σ', Adv Z H Z' H' → SE c [] Z' H' σ' ρ' → PostS c W own' ownL Z' H' D (hand hs y ρ') → W' (.ref (c.EC y)) none σ' H') : PostS c W' own' ownL Z H D o := by
  match o, h with
  | some (.nx, ρ'), h => exact h
  | some (.ct, ρ'), h => exact h
  | some (.bk, ρ'), h => exact h
  | some (.rt d, ρ'), h => exact h
  | some (.ex y, ρ'), h => exact fun Z' H' σ' ad S => hw y ρ' Z' H' σ' ad S (PostS.move ad h)
theorem noEx_post {W' : WX} {Z : ZS} {H : Hp} {D : Ends} {o : O} (h : PostS c W own' ownL Z H D (noEx o)) : PostS c W' own' ownL Z H D o := by
  match o, h with
  | some (.nx, ρ'), h => exact h
  | some (.ct, ρ'), h => exact h
  | some (.bk, ρ'), h => exact h
  | some (.rt d, ρ'), h => exact h
/-- try: body / except X: suite -/
theorem qs_try_only (hs : X.stack = X.env :: X.outer) (hf : X.env.frame = some X.env.locals) (hc : Names X x (.ref (c.EC N))) (tk : Takes X W) (hex : ∀ y, PySem.W.exmOne X.K (.ref (c.EC y)) (.ref (c.EC N)) = some (sub y N))
    (hb : ∀ (W' : WX) (pn : List (Addr × Obj)) (xe : Value → Shared → Prop), Takes (X.tr pn xe) W' → PassesOwn (model X.prog X.w) X.A X.env xe → PSs (X.tr pn xe) body (qS c W' own own' ownL sa))
    (hsu : ∀ (a : Addr) (oe : Obj) (y : Nat) (pn : List (Addr × Obj)), Zc (.ref (c.EC y)) none oe → (∃ vs, oe.data = .fields vs) → PSs (X.suite a ((a, oe) :: pn)) (b₀ :: suite) (qS c W0 [] own' ownL su)) :
    PS X (.Try body [.ExceptHandler (some (.Name x np)) none (b₀ :: suite) pos'] [] [] pos) (qS c W own own' ownL (sTry [((fun y => sub y N), none, su)] sa)) := by
  refine (ps_try_only (tb := fun W' => qS c W' own own' ownL sa) (ts := fun a cls d D σ H => ∃ y, cls = .ref (c.EC y) ∧ d = none ∧ qS c W0 [] own' ownL su D σ H) (Wout := W) hs hf hc tk hb (fun a oe cls d pn hz hd => suite_of fun y e1 e2 => ?_)).imp fun D σ H ⟨Z, ρ, S, p⟩ => ⟨Z, ρ, S, ?_⟩
  · subst e1 e2
    exact hsu a oe y pn hz hd
  · refine try_body (hs := [((fun y => sub y N), none, su)]) p fun y ρ' Z' H' σ' ad S' q => ⟨sub y N, hex y, fun hy a ha => ⟨y, rfl, rfl, Z', ρ', S', ?_⟩, fun hy => ?_⟩
    · unfold hand at q
      rw [if_pos hy] at q
      exact noEx_post q
    · unfold hand at q
      rw [if_neg (show ¬ sub y N = true by rw [hy]; exact Bool.false_ne_true)] at q
      exact q Z' H' σ' .refl S'
/-- try: body / except X as n: suite -/
theorem qs_try_as (hs : X.stack = X.env :: X.outer) (hf : X.env.frame = some X.env.locals) (hN : X.N.Nodup) (hi : X.N[i]? = some n) (hln : X.env.kindOf n = some .local) (hc : Names X x (.ref (c.EC N))) (tk : Takes X W) (hex : ∀ y, PySem.W.exmOne X.K (.ref (c.EC y)) (.ref (c.EC N)) = some (sub y N))
    (hx : c.xs = none) (hio : i ∉ own') (hiL : i ∉ ownL)
    (hb : ∀ (W' : WX) (pn : List (Addr × Obj)) (xe : Value → Shared → Prop), Takes (X.tr pn xe) W' → PassesOwn (model X.prog X.w) X.A X.env xe → PSs (X.tr pn xe) body (qS c W' own own' ownL sa))
    (hsu : ∀ (a : Addr) (oe : Obj) (y : Nat) (pn : List (Addr × Obj)), Zc (.ref (c.EC y)) none oe → (∃ vs, oe.data = .fields vs) → PSs (X.suite a ((a, oe) :: pn)) (b₀ :: suite) (qS (c.held i a y) W0 [] own' ownL su)) :
    PS X (.Try body [.ExceptHandler (some (.Name x np)) (some n) (b₀ :: suite) pos'] [] [] pos) (qS c W own own' ownL (sTry [((fun y => sub y N), some i, su)] sa)) := by
  have hlen : ∀ {pins : List (Addr × Obj)} {σ : St} {H : Hp} {s : Shared}, Inv X pins σ H s → i < σ.length := fun {pins σ H s} I => by
    rw [I.len]
    exact (List.getElem?_eq_some_iff.mp hi).1
  have key := ps_try_as (pos := pos) (pos' := pos') (np := np) (tb := fun W' => qS c W' own own' ownL sa) (ts := fun a cls d D σ H => ∃ y, cls = .ref (c.EC y) ∧ d = none ∧ qS (c.held i a y) W0 [] own' ownL su D σ H) (Wout := W) hs hf hN hi hln hc tk hb (fun a oe cls d pn hz hd => suite_of fun y e1 e2 => by
    subst e1 e2
    exact hsu a oe y pn hz hd)
  refine ⟨fun pins s σ H D I ⟨Z, ρ, S, p⟩ => key.run pins s σ H D I ⟨Z, ρ, S, ?_⟩⟩
  refine try_body (hs := [((fun y => sub y N), some i, su)]) p fun y ρ' Z' H' σ' ad S' q => ⟨sub y N, hex y, fun hy a ha => ⟨y, rfl, rfl, ?_⟩, fun hy => ?_⟩
  · unfold hand at q
    rw [if_pos hy] at q
    by_cases hl : i < ρ'.length
    · rw [if_pos hl] at q
      refine ⟨Z', ρ'.set i (some (.exc y)), S'.hold hx hl, noEx_post (W := W) (own' := own') (ownL := ownL) ?_⟩
      match ho : noEx (su (ρ'.set i (some (.exc y)))) with
      | none => rw [ho] at q; exact q
      | some (.nx, ρ2) => rw [ho] at q; exact fun Z2 H2 σ2 a2 S2 => q Z2 H2 _ a2 (S2.letgo hio)
      | some (.ct, ρ2) => rw [ho] at q; exact fun Z2 H2 σ2 a2 S2 => q Z2 H2 _ a2 (S2.letgo hiL)
      | some (.bk, ρ2) => rw [ho] at q; exact fun Z2 H2 σ2 a2 S2 => q Z2 H2 _ a2 (S2.letgo hiL)
      | some (.rt d, ρ2) => rw [ho] at q; exact q
      | some (.ex z, ρ2) =>
        exfalso
        match h2 : su (ρ'.set i (some (.exc y))), ho with
        | none, ho => cases ho
        | some (.nx, _), ho => cases ho
        | some (.ct, _), ho => cases ho
        | some (.bk, _), ho => cases ho
        | some (.rt _, _), ho => cases ho
        | some (.ex _, _), ho => cases ho
    · rw [if_neg hl] at q
      exact q.elim
  · unfold hand at q
    rw [if_neg (show ¬ sub y N = true by rw [hy]; exact Bool.false_ne_true)] at q
    exact q Z' H' σ' .refl S'
end
end PL

set_option maxRecDepth 100000
set_option maxHeartbeats 4000000
namespace PL
open PySem PySem.Spec PyProof.Rows L2
set_option autoImplicit false

section
variable {X : Cx} {c : Ct} {W : WX} {own : List Nat} {a b e eb ec : Expr} {m m1 m2 m3 : EM} {t : TM} {pos p p2 : Pos} {k : Kd} {x : Str} {i : Nat} {tg : Expr}
/-! ### products -/
theorem foldl_app {α : Type} (z : Array α) : ∀ (n : Nat) (acc : Array α), ((List.replicate n z).foldl (· ++ ·) acc).toList = acc.toList ++ rep n z.toList
  | 0, acc => by simp [rep]
  | n + 1, acc => by
    rw [List.replicate_succ, List.foldl_cons, foldl_app z n, Array.toList_append]
    show acc.toList ++ z.toList ++ rep n z.toList = acc.toList ++ rep (n + 1) z.toList
    unfold rep
    rw [List.replicate_succ, List.flatten_cons, List.append_assoc]
theorem mulText (z : Str) (n : Int) : (Txt.mul z n).cps.toList = rep n.toNat z.cps.toList := by
  unfold Txt.mul
  by_cases h1 : n < 1
  · rw [if_pos h1, show n.toNat = 0 by omega]
    rfl
  · rw [if_neg h1]
    by_cases h2 : (n == 1 || z.length == 0) = true
    · rw [if_pos h2]
      rw [Bool.or_eq_true, beq_iff_eq, beq_iff_eq] at h2
      rcases h2 with h2 | h2
      · subst h2
        simp [rep]
      · have : z.cps.toList = [] := List.eq_nil_of_length_eq_zero (by simpa [Str.length] using h2)
        rw [this]
        simp [rep]
    · rw [if_neg h2]
      show ((List.replicate n.toNat z.cps).foldl (· ++ ·) #[]).toList = _
      rw [foldl_app]
      rfl
theorem op_mul_strU : OpR X (binaryOp .Mult) (fun x y H Q => ∃ (z : Str) (n : Int), x = .str z ∧ y = .int n ∧ MulOk z n ∧ Q (.str (Txt.mul z n)) H) := by
  intro pins s σ H x y v u Q I rx ry h
  obtain ⟨i, j, rfl, rfl, hz, q⟩ := h
  obtain ⟨t, rfl⟩ := rx
  obtain ⟨t', rfl⟩ := ry
  exact SB.mul hz fun t' tk => ⟨.str (Txt.mul i j), H, I.tok _, ⟨_, rfl⟩, q⟩
theorem opU_mul : OpR X (binaryOp .Mult) (fun x y H Q => rI CMul (fun i j => .int (i * j)) x y H Q ∨ ∃ (z : Str) (n : Int), x = .str z ∧ y = .int n ∧ MulOk z n ∧ Q (.str (Txt.mul z n)) H) := op_mul.or op_mul_strU
theorem rep_len {α : Type} (n : Nat) (x : List α) : (rep n x).length = x.length * n := by
  unfold rep
  rw [List.length_flatten, List.map_replicate, List.sum_replicate_nat, Nat.mul_comm]
theorem rep_mem {α : Type} {n : Nat} {x : List α} {y : α} (h : y ∈ rep n x) : y ∈ x := by
  unfold rep at h
  obtain ⟨l, h1, h2⟩ := List.mem_flatten.mp h
  rw [List.eq_of_mem_replicate h1] at h2
  exact h2
theorem tooLong_no {n : Nat} (h : n ≤ LINE) : Builtin.Str.tooLong n = false := by
  unfold Builtin.Str.tooLong
  rw [decide_eq_false_iff_not]
  unfold LINE at h
  have : sizeLine = 16777216 := sizeLine_eq
  omega
theorem o2_mul {K : KF} : Op2 K (fun x y H Q => rI CMul (fun i j => .int (i * j)) x y H Q ∨ ∃ (z : Str) (n : Int), x = .str z ∧ y = .int n ∧ MulOk z n ∧ Q (.str (Txt.mul z n)) H) .sh .sh .new mulD := by
  intro Z H Hs v u d e Q t s hv hu p
  cases hv with
  | int i =>
    cases hu with
    | int j =>
      obtain ⟨hz, p⟩ := Post.ite p
      exact .inl ⟨i, j, rfl, rfl, hz, Wnt.int t p⟩
    | _ => exact False.elim p
  | str x hx =>
    cases hu with
    | int n =>
      obtain ⟨⟨h1, h2, h3⟩, p⟩ := Post.ite p
      have hl : x.length * n.toNat ≤ LINE := by
        rw [show x.length = x.cps.toList.length from (Array.length_toList).symm]
        exact h3
      refine .inr ⟨x, n, rfl, rfl, ⟨?_, fun h4 h5 h6 => ?_, fun _ _ => tooLong_no hl⟩, Wnt.str t p (mulText x n) ⟨fun ch hc => hx.1 ch (rep_mem hc), by rw [rep_len]; exact h3⟩⟩
      · rw [Bool.or_eq_false_iff, decide_eq_false_iff_not, decide_eq_false_iff_not]
        exact ⟨by omega, by omega⟩
      · have h7 : (0 : Int) < n := by omega
        have h8 : (x.length : Int) * n ≤ 16777216 := by
          have e : ((x.length * n.toNat : Nat) : Int) = (x.length : Int) * n := by
            rw [Int.natCast_mul, Int.toNat_of_nonneg (by omega)]
          rw [← e]
          have h9 : x.length * n.toNat ≤ 16777216 := hl
          omega
        have h9 : (x.length : Int) ≤ (2 ^ 63 - 1) / n := Int.le_ediv_of_mul_le h7 (by omega)
        omega
    | _ => exact False.elim p
  | _ => exact False.elim p
theorem q_mul (ha : PE X a (qE c W own .sh m1)) (hb : PE X b (qE c W own .sh m2)) : PE X (.BinOp a .Mult b pos) (qE c W own .new (e2 mulD m1 m2)) := q_bin ha hb (fun _ _ h k => pe_op opU_mul h k) o2_mul nx_mul
theorem nx_rep : NoX2 repD := fun d e x h => by cases d <;> cases e <;> simp only [repD] at h <;> first | cases h | (split at h <;> cases h)
theorem RepA.rep {K : KF} {Z : ZS} {H : Hp} {xs : List V} {ds : List Dat} (r : RepA K Z H xs ds) : ∀ n : Nat, RepA K Z H (List.replicate n xs).flatten (PL.rep n ds)
  | 0 => .nil
  | n + 1 => by
    unfold PL.rep
    rw [List.replicate_succ, List.replicate_succ, List.flatten_cons, List.flatten_cons]
    exact RepA.append r (RepA.rep r n)
theorem o2_rep {K : KF} : Op2 K rRep .new .sh .new repD := by
  intro Z H Hs v u d e Q t s hv hu p
  cases d with
  | lst ds =>
    obtain ⟨l, rfl, nz, hl, xs, hH, r⟩ := hv.1 rfl
    cases hu with
    | int n =>
      obtain ⟨⟨h1, h2, h3⟩, p⟩ := Post.ite p
      refine ⟨l, n, xs, rfl, rfl, hH, h1, h2, by rw [r.len, ← line_eq]; exact h3, fun q hq => Wnt.newL t s p (r.rep n.toNat) hq⟩
    | _ => exact False.elim p
  | _ => cases hu <;> exact False.elim p
/-- [..] * n -/
theorem q_rep (ha : PE X a (qE c W own .new m1)) (hb : PE X b (qE c W own .sh m2)) : PE X (.BinOp a .Mult b pos) (qE c W own .new (e2 repD m1 m2)) := q_bin ha hb (fun _ _ h k => pe_op op_rep h k) o2_rep nx_rep
theorem qts_one (h : PT X e (qT c W own t)) : PTs X [e] (qT c W own t) := pts_one h
/-! ### range(i, j, c), 0 < c -/
theorem step_eq {i j st : Int} (h : 0 < st) : (j - i + st - 1) / st = (j - i - 1) / st + 1 := by
  rw [show j - i + st - 1 = (j - i - 1) + 1 * st by omega, Int.add_mul_ediv_right _ _ (by omega)]
theorem step_size {i j st : Int} (h : 0 < st) : Builtin.Range.rangeSize i j st = ((((j - i + st - 1) / st).toNat : Nat) : Int) := by
  unfold Builtin.Range.rangeSize
  rw [if_pos (show st > 0 from h), step_eq h]
  by_cases hij : i < j
  · rw [if_pos hij]
    have := Int.ediv_nonneg (show 0 ≤ j - i - 1 by omega) (show 0 ≤ st by omega)
    omega
  · rw [if_neg hij]
    have : (j - i - 1) / st < 0 := Int.ediv_neg_of_neg_of_pos (by omega) h
    omega
theorem step_small {i j st : Int} (h1 : fits62 i) (h2 : fits62 j) (h : 0 < st) (h3 : st < 2 ^ 30) : Builtin.Range.small i j st = true := by
  unfold fits62 at h1 h2
  have e := step_size (i := i) (j := j) h
  have b1 : Builtin.Range.rangeSize i j st < 2 ^ 63 ∧ 0 ≤ Builtin.Range.rangeSize i j st := by
    rw [e, step_eq h]
    have : (j - i - 1) / st ≤ 2 ^ 63 - 2 := by
      by_cases hij : 0 ≤ j - i - 1
      · have h5 : (j - i - 1) / st ≤ j - i - 1 := Int.ediv_le_self st hij
        omega
      · have : (j - i - 1) / st < 0 := Int.ediv_neg_of_neg_of_pos (by omega) h
        omega
    omega
  unfold Builtin.Range.small
  simp only [Builtin.Range.rangeFitsLong, Bool.and_eq_true, Bool.or_eq_true, decide_eq_true_eq, beq_iff_eq, show st > 0 from h, if_true]
  refine ⟨⟨⟨⟨⟨?_, ?_⟩, ⟨?_, ?_⟩⟩, ⟨?_, ?_⟩⟩, ⟨?_, ?_⟩⟩, .inr ⟨?_, ?_⟩⟩ <;> omega
theorem itc_ok {K : KF} {Z : ZS} {H : Hp} {lo st : Int} {n : Nat} {zs : List Int} (hz : zs = (List.range n).map fun k => lo + (k : Nat) * st) : ItOk K (Itc lo st n) Z H (zs.map .int) := fun Z1 H1 ad t i => by
  subst hz
  refine ⟨fun d e => ?_, fun hl => (show n ≤ i by simpa using hl)⟩
  rw [List.getElem?_map, List.getElem?_map] at e
  obtain ⟨z, ez, rfl⟩ := Option.map_eq_some_iff.mp e
  obtain ⟨k, ek, rfl⟩ := Option.map_eq_some_iff.mp ez
  obtain ⟨h1, h2⟩ := List.getElem?_eq_some_iff.mp ek
  have hk : k = i := by simpa using h2.symm
  subst hk
  refine ⟨(show k < n by simpa using h1), fun x H2 y => ?_⟩
  obtain ⟨rfl, rfl⟩ := y
  exact ⟨Z1, .refl t, .int _⟩
theorem qi_r3 (hg : Gl X "range") (hm : X.mg "range" = none) (ha : PE X e (qE c W own k m)) (hb : PE X eb (qE c W own k m2)) (hd : PE X ec (qE c W own k m3)) (hs : starEach [e, eb, ec] X.env = (false, eval e X.env) :: starEach [eb, ec] X.env := by rfl)
    (hs2 : starEach [eb, ec] X.env = (false, eval eb X.env) :: starEach [ec] X.env := by rfl) (hs3 : starEach [ec] X.env = (false, eval ec X.env) :: starEach [] X.env := by rfl) (hpl : (backTo pos (starEach [eb, ec] X.env)).any (·.1) = false := by rfl) :
    PI X tg (.Call (.Name "range" p) [e, eb, ec] [] pos) (qI c W own (iR3 m m2 m3)) := by
  refine ⟨fun pins s σ H R I h => (pi_range3 hg hm (qa_cons ha (qa_cons hb (qa_cons hd qa_nil hs3) hs2) hs) hs hpl).run pins s σ H R I ?_⟩
  obtain ⟨Z, ρ, S, p⟩ := h
  refine ⟨Z, ρ, S, ?_⟩
  have p := Post.bnd p
  unfold eCons eNil
  cases q : m ρ with
  | bad => rw [q] at p; exact p.elim
  | exc x => rw [q] at p; exact p
  | ok d =>
    rw [q] at p
    have p := Post.bnd p
    rw [PL.R.bnd_ok]
    cases q2 : m2 ρ with
    | bad => rw [q2] at p; exact p.elim
    | exc x => rw [q2] at p; exact p
    | ok d2 =>
      rw [q2] at p
      have p := Post.bnd p
      rw [PL.R.bnd_ok]
      cases q3 : m3 ρ with
      | bad => rw [q3] at p; exact p.elim
      | exc x => rw [q3] at p; exact p
      | ok d3 =>
        rw [q3] at p
        intro vs Z1 H1 x1 hv
        cases hv with
        | cons h1 h2 =>
          cases h2 with
          | cons h2 h3 =>
            cases h3 with
            | cons h3 h4 =>
              cases h4
              have hs := h1.sh
              have hs2 := h2.sh
              have hs3 := h3.sh
              cases hs with
              | int i =>
                cases hs2 with
                | int j =>
                  cases hs3 with
                  | int st =>
                    obtain ⟨⟨hf, hf2, h0, hst⟩, p⟩ := Post.ite p
                    refine ⟨i, j, st, ((j - i + st - 1) / st).toNat, rfl, ?_, p _ Z1 H1 x1 ?_⟩
                    · exact ⟨by omega, by omega, step_small hf hf2 h0 hst, by rw [step_size h0]⟩
                    · exact itc_ok rfl
                  | _ => exact p.elim
                | _ => exact p.elim
              | _ => exact p.elim
/-! ### isinstance(e, C), e the error that the suite holds -/
theorem nx_isx {sub : Nat → Nat → Bool} {n : Nat} : NoX1 (isX sub n) := fun d x h => by cases d <;> cases h
theorem q_isx {A : Addr} {oe : Obj} {pn : List (Addr × Obj)} {y n : Nat} {xe xc : Str} {pe' pc : Pos} {sub : Nat → Nat → Bool} (hK : c.K = X.K) (hx : c.xs = some (i, A, y)) (hz : Zc (.ref (c.EC y)) none oe) (hf : ∃ vs, oe.data = .fields vs) (hC : ExcC X.K (c.EC y))
    (hN : X.N[i]? = some xe) (hv : Vis X.env.scope xe) (hd : (xe == ("__debug__" : Str)) = false) (hcd : (xe == ("__classdict__" : Str)) = false)
    (hg : Gl X "isinstance") (hm : X.mg "isinstance" = none) (hgc : Gl X xc) (hmc : X.mg xc = some (.ref (c.EC n))) (hdc : (xc == ("__debug__" : Str)) = false)
    (hkit : ∀ y, PySem.W.kitOne X.K (.ref (c.EC y)) (.ref (c.EC n)) = some (sub y n))
    (hs : starEach (.Name xe pe' :: [.Name xc pc]) X.env = (false, eval (.Name xe pe') X.env) :: starEach [.Name xc pc] X.env := by rfl) (hs2 : starEach (.Name xc pc :: []) X.env = (false, eval (.Name xc pc) X.env) :: starEach [] X.env := by rfl) (hpl : (backTo pos (starEach [.Name xc pc] X.env)).any (·.1) = false := by rfl) :
    PE (X.suite A ((A, oe) :: pn)) (.Call (.Name "isinstance" p) [.Name xe pe', .Name xc pc] [] pos) (qE c W own .new (e1 (isX sub n) (eV i))) := by
  have h1 : PE (X.suite A ((A, oe) :: pn)) (.Name xe pe') (tVar i) := pe_var hN hv hd hcd
  have h2 : PE (X.suite A ((A, oe) :: pn)) (.Name xc pc) (tC (.ref (c.EC n))) := pe_glob hgc hmc rfl hdc
  refine (pe_callB (call_isE (pn := pn) hC hz hf) hg hm boot_isinstance (pa_cons h1 (pa_cons h2 pa_nil hs2) hs) (by decide) (by decide) hs hpl).imp fun σ H Q ⟨Z, ρ, S, p⟩ => ?_
  have p := Post.bnd p
  unfold eV at p
  cases e : ρ[i]? with
  | none => rw [e] at p; exact p.elim
  | some od =>
    cases od with
    | none => rw [e] at p; exact p.elim
    | some d =>
      rw [e] at p
      cases d with
      | exc y' =>
        obtain ⟨A', e1, e2⟩ := S.exc i y' e
        rw [hx] at e1
        cases e1
        have p : ∀ v Z' H', Ext Z H Z' H' → Val c.K Z' H' H .new v (.bl (sub y n)) → Q v H' := p
        exact ⟨_, e2, .ref (c.EC n), .ref (c.EC n), sub y n, rfl, fun u r => r, hkit y, p _ Z H (.refl S.trk) (Rep.kd .new (.bl _) rfl)⟩
      | _ => exact p.elim
/-- a constant of the module -/
theorem q_glob {u : Value} {d : Dat} {v : V} (hg : Gl X x) (hm : X.mg x = some u) (r : RelV v u) (hv : ∀ Z H, Rep c.K Z H v d) (hd : (x == ("__debug__" : Str)) = false) : PE X (.Name x pos) (qE c W own .frz (eC d)) := (pe_glob hg hm r hd).imp fun σ H Q ⟨Z, ρ, S, p⟩ => p v Z H (.refl S.trk) (hv Z H)
end
end PL

set_option maxRecDepth 100000
set_option maxHeartbeats 4000000
namespace PL
open PySem PySem.Spec PyProof.Rows L2
set_option autoImplicit false

/-- what a scope says of the slots and of the names of the module -/
structure Scp (X : Cx) (vis loc : List Nat) (gls : List Str) : Prop where
  nd : X.N.Nodup
  vis : ∀ i ∈ vis, ∀ x, X.N[i]? = some x → Vis X.env.scope x ∧ (x == ("__debug__" : Str)) = false ∧ (x == ("__classdict__" : Str)) = false
  loc : ∀ i ∈ loc, ∀ x, X.N[i]? = some x → L2.Loc X.env.scope x ∧ (X.fn x = true ∨ X.env.scope.names.lookup x = some .local)
  gl : ∀ (j : Nat) x, gls[j]? = some x → Gl X x ∧ (x == ("__debug__" : Str)) = false ∧ x ≠ "__name__"
def visC (sc : Scope) (x : Str) : Bool := match sc.names.lookup x with
  | some .local => true
  | some .cell => true
  | some .free => true
  | _ => false
def locC (sc : Scope) (x : Str) : Bool := match sc.names.lookup x with
  | some .local => true
  | some .cell => true
  | _ => false
def scpC (N : List Str) (sc : Scope) (vis loc : List Nat) (gls : List Str) : Bool :=
  decide N.Nodup && vis.all (fun i => match N[i]? with | some x => visC sc x && !(x == ("__debug__" : Str)) && !(x == ("__classdict__" : Str)) | none => true) && loc.all (fun i => match N[i]? with | some x => locC sc x | none => true)
  && gls.all (fun x => decide (sc.names.lookup x = some .globalImplicit) && !(x == ("__debug__" : Str)) && decide (x ≠ "__name__"))
theorem visC_ok {sc : Scope} {x : Str} (h : visC sc x = true) : Vis sc x := by
  unfold visC at h
  unfold Vis
  split at h
  · exact .inl ‹_›
  · exact .inr (.inl ‹_›)
  · exact .inr (.inr ‹_›)
  · cases h
theorem locC_ok {sc : Scope} {x : Str} (h : locC sc x = true) : L2.Loc sc x := by
  unfold locC at h
  unfold L2.Loc
  split at h
  · exact .inl ‹_›
  · exact .inr ‹_›
  · cases h
theorem scp_of {X : Cx} {sc : Scope} {vis loc : List Nat} {gls : List Str} (h : scpC X.N sc vis loc gls = true) (hr : ∀ x, X.env.scope.names.lookup x = sc.names.lookup x ∨ (sc.names.lookup x = some .free ∧ X.env.scope.names.lookup x = some .cell))
    (hf : ∀ x, sc.names.lookup x = some .cell → X.fn x = true) (hk : ∀ x, X.env.scope.names.lookup x = some .globalImplicit → Gl X x) : Scp X vis loc gls := by
  unfold scpC at h
  simp only [Bool.and_eq_true, decide_eq_true_eq, List.all_eq_true, Bool.not_eq_true'] at h
  obtain ⟨⟨⟨h0, h1⟩, h2⟩, h3⟩ := h
  refine ⟨h0, fun i hi x hx => ?_, fun i hi x hx => ?_, fun j x hx => ?_⟩
  · have q := h1 i hi
    rw [hx] at q
    simp only [Bool.and_eq_true, Bool.not_eq_true'] at q
    refine ⟨?_, q.1.2, q.2⟩
    have v := visC_ok q.1.1
    unfold Vis at v ⊢
    rcases hr x with e | ⟨_, e⟩
    · rw [e]; exact v
    · exact .inr (.inl e)
  · have q := h2 i hi
    rw [hx] at q
    have q2 := locC_ok q
    unfold L2.Loc at q2 ⊢
    rcases hr x with e | ⟨e, _⟩
    · rw [e]
      refine ⟨q2, ?_⟩
      rcases q2 with q2 | q2
      · exact .inr q2
      · exact .inl (hf x q2)
    · rw [e] at q2
      rcases q2 with q2 | q2 <;> cases q2
  · have q := h3 x (List.mem_of_getElem? hx)
    refine ⟨hk x ?_, q.1.2, q.2⟩
    rcases hr x with e | ⟨e, _⟩
    · rw [e]; exact q.1.1
    · rw [e] at q
      cases q.1.1
theorem look_relabel {env : PySem.Env} (names : List (Str × NameKind)) (x : Str) :
    (names.map fun (n, k) => if (k == NameKind.free && env.scope.kind == .function && env.kindOf n == some .cell) then (n, NameKind.cell) else (n, k)).lookup x = names.lookup x ∨
    (names.lookup x = some .free ∧ (names.map fun (n, k) => if (k == NameKind.free && env.scope.kind == .function && env.kindOf n == some .cell) then (n, NameKind.cell) else (n, k)).lookup x = some .cell) := by
  induction names with
  | nil => exact .inl rfl
  | cons p r ih =>
    obtain ⟨n, k⟩ := p
    show (List.lookup x ((if (k == NameKind.free && env.scope.kind == .function && env.kindOf n == some .cell) = true then (n, NameKind.cell) else (n, k)) :: _) = _) ∨ (_ ∧ List.lookup x ((if (k == NameKind.free && env.scope.kind == .function && env.kindOf n == some .cell) = true then (n, NameKind.cell) else (n, k)) :: _) = _)
    by_cases hc : (k == NameKind.free && env.scope.kind == .function && env.kindOf n == some .cell) = true
    · rw [if_pos hc]
      cases hx : x == n with
      | true =>
        refine .inr ⟨?_, by simp [List.lookup_cons, hx]⟩
        simp only [Bool.and_eq_true, beq_iff_eq] at hc
        simp [List.lookup_cons, hx, hc.1.1]
      | false => simpa only [List.lookup_cons, hx] using ih
    · rw [if_neg hc]
      cases hx : x == n with
      | true => exact .inl (by simp [List.lookup_cons, hx])
      | false => simpa only [List.lookup_cons, hx] using ih
theorem blk_rel {N : List Str} {sc scope : Scope} {own : List (Str × Nat)} (h : blkC N sc scope own = true) (env : PySem.Env) : BlkOk N (relabel sc env) scope own := by
  have h := blkOk_by h
  refine ⟨h.kind, h.uniq, h.ix, fun y hy hf => ?_, h.own⟩
  rcases look_relabel (env := env) sc.names y.1 with e | ⟨_, e⟩
  · have := h.free y hy hf
    unfold relabel
    rw [e]
    exact this
  · exact .inl e
section
variable {X : Cx} {vis loc vis' loc' : List Nat} {gls gls' : List Str}
theorem scp_blk {N : List Str} {s : Shared} {H : Hp} {C : Addr} {cl : List (Str × Addr)} {fp : List Addr} {scope : Scope} (h : scpC N scope vis loc gls = true) (hN : X.N = N) : Scp (X.blk s H scope (compEnvC scope cl C X.env) fp) vis loc gls := by
  subst hN
  refine scp_of (X := X.blk s H scope (compEnvC scope cl C X.env) fp) h (fun x => look_relabel scope.names x) (fun x hx => ?_) (fun x hx => hx)
  show (scope.names.lookup x == some .cell) = true
  rw [hx]
  rfl
theorem Scp.tr (V : Scp X vis loc gls) (pn : List (Addr × Obj)) (xe : Value → Shared → Prop) : Scp (X.tr pn xe) vis loc gls := ⟨V.nd, V.vis, V.loc, V.gl⟩
theorem Scp.suite (V : Scp X vis loc gls) (a : Addr) (pn : List (Addr × Obj)) : Scp (X.suite a pn) vis loc gls := ⟨V.nd, V.vis, V.loc, V.gl⟩
end
section
variable {P : Program} {w : World} {K : KF} {mg : Str → Option Value} {base : Heap} {N : List Str} {qual : Str} {scope : Scope} {f : Addr} {cd : Value} {A : Around} {outer : List PySem.Env} {s : Shared} {H : Hp} {E : XK} {vis loc : List Nat} {gls : List Str}
theorem scp_def (h : scpC N scope vis loc gls = true) : Scp (cxOf (L2.CX P w) P w K mg base N qual scope f cd A outer s H E) vis loc gls := scp_of (X := cxOf (L2.CX P w) P w K mg base N qual scope f cd A outer s H E) h (fun _ => .inl rfl) (fun _ _ => rfl) (fun _ hx => hx)
theorem tk_def : Takes (cxOf (L2.CX P w) P w K mg base N qual scope f cd A outer s H E) (fun cls d _ H' => E cls d H') := takes_of rfl rfl rfl rfl
theorem ps_def : PassesOwn (model P w) (cxOf (L2.CX P w) P w K mg base N qual scope f cd A outer s H E).A (cxOf (L2.CX P w) P w K mg base N qual scope f cd A outer s H E).env (cxOf (L2.CX P w) P w K mg base N qual scope f cd A outer s H E).xe := passes_of (X := cxOf (L2.CX P w) P w K mg base N qual scope f cd A outer s H E) rfl
end

section
variable {X : Cx} {vis loc : List Nat} {gls : List Str} {c : Ct} {W : WX} {own own' own1 ownL ts : List Nat} {a b e : Expr} {es : List Expr} {m m1 m2 : EM} {ms : LM} {t : TM} {pos p p2 spos apos : Pos} {k : Kd} {x : Str} {i j n : Nat} {sm : SM} {g : GM} {tg : Expr}
theorem xV (i : Nat) (V : Scp X vis loc gls) (hm : i ∈ vis) (hN : X.N[i]? = some x) (hi : i ∉ own) (hn : c.xs.all (fun p => p.1 != i) = true) : PE X (.Name x pos) (qE c W own .frz (eV i)) := q_var hi hn hN (V.vis i hm x hN).1 (V.vis i hm x hN).2.1 (V.vis i hm x hN).2.2
theorem xS (i : Nat) (V : Scp X vis loc gls) (hm : i ∈ vis) (hN : X.N[i]? = some x) (hn : c.xs.all (fun p => p.1 != i) = true) : PE X (.Name x pos) (qE c W own .sh (eV i)) := q_varS hn hN (V.vis i hm x hN).1 (V.vis i hm x hN).2.1 (V.vis i hm x hN).2.2
theorem xT (i : Nat) (V : Scp X vis loc gls) (hm : i ∈ vis) (hN : X.N[i]? = some x) : PE X (.Name x pos) (tVar i) := pe_var hN (V.vis i hm x hN).1 (V.vis i hm x hN).2.1 (V.vis i hm x hN).2.2
theorem gV' (i : Nat) (V : Scp X vis loc gls) (hm : i ∈ loc) (hN : X.N[i]? = some x) (ho : own' = own.filter (· != i)) (ht : i ∈ ts) : PG X (.Name x pos) (qG c own own' ts (gV i)) := qg_name V.nd hN (V.loc i hm x hN).1 (V.loc i hm x hN).2 ho ht
/-! ### the built-ins -/
structure B1 (X : Cx) (K : KF) (x : Str) (k1 k : Kd) (f : Dat → R Dat) : Prop where
  ex : ∃ id r, CallR X (.builtin id) r ∧ CallV1 K r k1 k f ∧ bootBuiltins x = some (.builtin id)
  nx : NoX1 f
structure T1 (X : Cx) (K : KF) (x : Str) (k1 k : Kd) (f : Dat → R Dat) : Prop where
  ex : ∃ id r, CallR X (.type id) r ∧ CallV1 K r k1 k f ∧ bootBuiltins x = some (.type id)
  nx : NoX1 f
structure B2 (X : Cx) (K : KF) (x : Str) (k1 k : Kd) (f : Dat → Dat → R Dat) : Prop where
  ex : ∃ id r, CallR X (.builtin id) r ∧ CallV2 K r k1 k f ∧ bootBuiltins x = some (.builtin id)
  nx : NoX2 f
theorem cB1 {f : Dat → R Dat} {k1 k : Kd} (B : B1 X c.K x k1 k f) (j : Nat) (V : Scp X vis loc gls) (hj : gls[j]? = some x) (hm : X.mg x = none) (ha : PE X a (qE c W own k1 m)) (hs : starEach (a :: []) X.env = (false, eval a X.env) :: starEach [] X.env := by rfl) (hpl : (backTo pos (starEach [] X.env)).any (·.1) = false := by rfl) :
    PE X (.Call (.Name x p) [a] [] pos) (qE c W own k (e1 f m)) := by
  obtain ⟨id, r, h1, h2, h3⟩ := B.ex
  exact q_b1 h1 h2 B.nx (V.gl j _ hj).1 hm h3 ha (V.gl j _ hj).2.2 (V.gl j _ hj).2.1 hs hpl
theorem cT1 {f : Dat → R Dat} {k1 k : Kd} (B : T1 X c.K x k1 k f) (j : Nat) (V : Scp X vis loc gls) (hj : gls[j]? = some x) (hm : X.mg x = none) (ha : PE X a (qE c W own k1 m)) (hs : starEach (a :: []) X.env = (false, eval a X.env) :: starEach [] X.env := by rfl) (hpl : (backTo pos (starEach [] X.env)).any (·.1) = false := by rfl) :
    PE X (.Call (.Name x p) [a] [] pos) (qE c W own k (e1 f m)) := by
  obtain ⟨id, r, h1, h2, h3⟩ := B.ex
  exact q_t1 h1 h2 B.nx (V.gl j _ hj).1 hm h3 ha (V.gl j _ hj).2.2 (V.gl j _ hj).2.1 hs hpl
theorem cB2 {f : Dat → Dat → R Dat} {k1 k : Kd} (B : B2 X c.K x k1 k f) (j : Nat) (V : Scp X vis loc gls) (hj : gls[j]? = some x) (hm : X.mg x = none) (ha : PE X a (qE c W own k1 m1)) (hb : PE X b (qE c W own k1 m2))
    (hs : starEach (a :: [b]) X.env = (false, eval a X.env) :: starEach [b] X.env := by rfl) (hs2 : starEach (b :: []) X.env = (false, eval b X.env) :: starEach [] X.env := by rfl) (hpl : (backTo pos (starEach [b] X.env)).any (·.1) = false := by rfl) : PE X (.Call (.Name x p) [a, b] [] pos) (qE c W own k (e2 f m1 m2)) := by
  obtain ⟨id, r, h1, h2, h3⟩ := B.ex
  exact q_b2 h1 h2 B.nx (V.gl j _ hj).1 hm h3 ha hb (V.gl j _ hj).2.2 (V.gl j _ hj).2.1 hs hs2 hpl
theorem B_len (hK : c.K = X.K) : B1 X c.K "len" .sh .new lenD := ⟨⟨_, _, cu_len, by rw [hK]; exact cv_len, PySem.boot_len⟩, nx_len⟩
theorem B_all (hK : c.K = X.K) (hc : X.calm = true) : B1 X c.K "all" .sh .new allD := ⟨⟨_, _, cr_all hc, by rw [hK]; exact cv_all, by decide +kernel⟩, nx_all⟩
theorem B_any (hK : c.K = X.K) (hc : X.calm = true) : B1 X c.K "any" .sh .new anyD := ⟨⟨_, _, cr_any hc, by rw [hK]; exact cv_any, by decide +kernel⟩, nx_any⟩
theorem B_sum (hK : c.K = X.K) (hc : X.calm = true) : B1 X c.K "sum" .sh .new sumD := ⟨⟨_, _, cr_sum hc, by rw [hK]; exact cv_sum, by decide +kernel⟩, nx_sum⟩
theorem B_min (hK : c.K = X.K) (hc : X.calm = true) : B1 X c.K "min" .sh .new minD := ⟨⟨_, _, cr_min hc, by rw [hK]; exact cv_min, by decide +kernel⟩, nx_min⟩
theorem B_max (hK : c.K = X.K) (hc : X.calm = true) : B1 X c.K "max" .sh .new maxD := ⟨⟨_, _, cr_max hc, by rw [hK]; exact cv_max, by decide +kernel⟩, nx_max⟩
theorem B_ord : B1 X c.K "ord" .sh .new ordD := ⟨⟨_, _, call_ord, cv_ord, by decide +kernel⟩, nx_ord⟩
theorem B_min2 (hc : X.calm = true) : B2 X c.K "min" .sh .new min2 := ⟨⟨_, _, call_min2 hc, cv_min2, by decide +kernel⟩, nx_min2⟩
theorem B_max2 (hc : X.calm = true) : B2 X c.K "max" .sh .new max2 := ⟨⟨_, _, call_max2 hc, cv_max2, by decide +kernel⟩, nx_max2⟩
theorem T_int : T1 X c.K "int" .sh .new intD := ⟨⟨_, _, call_int1, cv_int, by decide +kernel⟩, nx_int⟩
theorem T_list (hK : c.K = X.K) : T1 X c.K "list" .sh .new listLD := ⟨⟨_, _, call_list_of, by rw [hK]; exact cv_listL, by decide +kernel⟩, nx_listL⟩
theorem T_tuple (hK : c.K = X.K) : T1 X c.K "tuple" .sh .new tupleD := ⟨⟨_, _, call_tuple_of, by rw [hK]; exact cv_tuple, by decide +kernel⟩, nx_tuple⟩
theorem tyB : ∀ T : Ty, bootBuiltins (Str.ofString (tyS T)) = some (.type (tyS T))
  | .int => by decide +kernel
  | .str => by decide +kernel
  | .bool => by decide +kernel
  | .list => by decide +kernel
  | .tuple => by decide +kernel
  | .dict => by decide +kernel
/-- isinstance(x, T) -/
theorem cIsi {T : Ty} {py : Pos} (j jT : Nat) (V : Scp X vis loc gls) (hK : c.K = X.K) (hj : gls[j]? = some ("isinstance" : Str)) (hm : X.mg "isinstance" = none) (hjT : gls[jT]? = some x) (hT : x = Str.ofString (tyS T)) (hmT : X.mg x = none) (ha : PE X a (qE c W own .sh m))
    (hs : starEach (a :: [.Name x py]) X.env = (false, eval a X.env) :: starEach [.Name x py] X.env := by rfl) (hs2 : starEach (.Name x py :: []) X.env = (false, eval (.Name x py) X.env) :: starEach [] X.env := by rfl) (hpl : (backTo pos (starEach [.Name x py] X.env)).any (·.1) = false := by rfl) :
    PE X (.Call (.Name "isinstance" p) [a, .Name x py] [] pos) (qE c W own .new (e1 (isTy T) m)) := q_isi hK (V.gl j _ hj).1 hm (V.gl jT _ hjT).1 hmT (by rw [hT]; exact tyB T) (V.gl jT _ hjT).2.2 (V.gl jT _ hjT).2.1 ha hs hs2 hpl
/-! ### calls of defs -/
theorem cDef {F : List Dat → R Dat} {f : Addr} {fd : FuncData} {ps : List Str} {lv k0 : Nat} (j : Nat) (V : Scp X vis loc gls) (G : FnOk X.prog X.w X.K X.mg X.base (L2.CX X.prog X.w) lv f fd ps (spM c.K c.EC n F)) (hn : (e :: es).length = n) (hr : Room k0 X.A) (hl : lv ≤ k0) (hj : gls[j]? = some x) (hm : X.mg x = some (.ref f)) (hk : PySem.W.keepIn X.K (.ref f) = true) (hb : Binds X.K fd ps []) (tk : Takes X W)
    (ha : PA X (e :: es) (qA c W own .frz ms)) (hlen : ∀ ρ ds, ms ρ = .ok ds → ds.length = n) (he : starEach (e :: es) X.env = (false, eval e X.env) :: starEach es X.env := by rfl) (hpl : (backTo pos (starEach es X.env)).any (·.1) = false := by rfl) :
    PE X (.Call (.Name x p) (e :: es) [] pos) (qE c W own .frz (eCall F ms)) := q_call G hn (hr.mono hl) (V.gl j _ hj).1 hm hk hb tk ha hlen (V.gl j _ hj).2.1 he hpl
theorem len_nil {ρ : Env} {ds : List Dat} (h : eNil ρ = .ok ds) : ds.length = 0 := by cases h; rfl
theorem len_cons {ρ : Env} {ds : List Dat} {n : Nat} (hr : ∀ ds, ms ρ = .ok ds → ds.length = n) (h : eCons m ms ρ = .ok ds) : ds.length = n + 1 := by
  unfold eCons at h
  cases q : m ρ with
  | ok x =>
    rw [q] at h
    simp only [PL.R.bnd_ok] at h
    cases q2 : ms ρ with
    | ok xs =>
      rw [q2] at h
      cases h
      simp [hr xs q2]
    | exc y => rw [q2] at h; cases h
    | bad => rw [q2] at h; cases h
  | exc y => rw [q] at h; cases h
  | bad => rw [q] at h; cases h
theorem ln0 : ∀ ρ ds, eNil ρ = .ok ds → ds.length = 0 := fun _ _ h => len_nil h
theorem lnS (h : ∀ ρ ds, ms ρ = .ok ds → ds.length = n) : ∀ ρ ds, eCons m ms ρ = .ok ds → ds.length = n + 1 := fun ρ _ q => len_cons (h ρ) q
/-! ### loops' sources -/
theorem iRa1 {k : Kd} (j : Nat) (V : Scp X vis loc gls) (hj : gls[j]? = some ("range" : Str)) (hm : X.mg "range" = none) (ha : PE X e (qE c W own k m)) (hs : starEach [e] X.env = [(false, eval e X.env)] := by rfl) : PI X tg (.Call (.Name "range" p) [e] [] pos) (qI c W own (iR1 m)) := qi_r1 (V.gl j _ hj).1 hm ha hs
theorem iRa2 {k : Kd} (j : Nat) (V : Scp X vis loc gls) (hj : gls[j]? = some ("range" : Str)) (hm : X.mg "range" = none) (ha : PE X e (qE c W own k m)) (hb : PE X b (qE c W own k m2)) (hs : starEach [e, b] X.env = [(false, eval e X.env), (false, eval b X.env)] := by rfl) (hs2 : starEach [b] X.env = [(false, eval b X.env)] := by rfl) : PI X tg (.Call (.Name "range" p) [e, b] [] pos) (qI c W own (iR2 m m2)) := qi_r2 (V.gl j _ hj).1 hm ha hb hs hs2
theorem iRa3 {k : Kd} {d : Expr} {m3 : EM} (j : Nat) (V : Scp X vis loc gls) (hj : gls[j]? = some ("range" : Str)) (hm : X.mg "range" = none) (ha : PE X e (qE c W own k m)) (hb : PE X b (qE c W own k m2)) (hd : PE X d (qE c W own k m3)) (hs : starEach [e, b, d] X.env = (false, eval e X.env) :: starEach [b, d] X.env := by rfl)
    (hs2 : starEach [b, d] X.env = (false, eval b X.env) :: starEach [d] X.env := by rfl) (hs3 : starEach [d] X.env = (false, eval d X.env) :: starEach [] X.env := by rfl) (hpl : (backTo pos (starEach [b, d] X.env)).any (·.1) = false := by rfl) : PI X tg (.Call (.Name "range" p) [e, b, d] [] pos) (qI c W own (iR3 m m2 m3)) := qi_r3 (V.gl j _ hj).1 hm ha hb hd hs hs2 hs3 hpl
theorem iEnu {elts : List Expr} {kk : Nat} {tpos : Pos} (j : Nat) (V : Scp X vis loc gls) (hK : c.K = X.K) (hj : gls[j]? = some ("enumerate" : Str)) (hm : X.mg "enumerate" = none) (ha : PE X e (qE c W own .frz m)) (hs : starEach [e] X.env = [(false, eval e X.env)] := by rfl) : PI X (.Tuple elts kk tpos) (.Call (.Name "enumerate" p) [e] [] pos) (qI c W own (iEnum m)) := qi_enum hK (V.gl j _ hj).1 hm ha hs
theorem iZi {elts : List Expr} {kk : Nat} {tpos : Pos} (j : Nat) (V : Scp X vis loc gls) (hK : c.K = X.K) (hj : gls[j]? = some ("zip" : Str)) (hm : X.mg "zip" = none) (ha : PE X e (qE c W own .frz m)) (hb : PE X b (qE c W own .frz m2)) (hs : starEach [e, b] X.env = (false, eval e X.env) :: starEach [b] X.env := by rfl) (hs2 : starEach [b] X.env = (false, eval b X.env) :: starEach [] X.env := by rfl)
    (hpl : (backTo pos (starEach [b] X.env)).any (·.1) = false := by rfl) : PI X (.Tuple elts kk tpos) (.Call (.Name "zip" p) [e, b] [] pos) (qI c W own (iZip m m2)) := qi_zip hK (V.gl j _ hj).1 hm ha hb hs hs2 hpl
end
end PL

set_option maxRecDepth 100000
set_option maxHeartbeats 4000000
namespace PL
open PySem PySem.Spec PyProof.Rows L2
set_option autoImplicit false

section
variable {X : Cx} {vis loc : List Nat} {gls : List Str} {c : Ct} {W : WX} {own own' own1 ownL ts : List Nat} {a b e : Expr} {es : List Expr} {m m1 m2 : EM} {ms : LM} {t : TM} {pos p p2 spos apos py tpos : Pos} {k : Kd} {x : Str} {i j n : Nat} {sm : SM} {g : GM} {src : LM} {tg : Expr} {iter elt : Expr} {ifs : List Expr} {scope : Scope} {ob : List (Str × Nat)} {vs : List Nat}
theorem sN (i : Nat) (V : Scp X vis loc gls) (hm : i ∈ loc) (hN : X.N[i]? = some x) (he : PE X e (qE c W own .new m)) (hs : swapsWith e (some (.Name x p2)) pos.line X.env = pure false := by rfl) (ho : own' = i :: own.filter (· != i)) :
    PS X (.Assign [.Name x p2] e pos) (qS c W own own' ownL (sNew i m)) := qs_new V.nd hN (V.loc i hm x hN).1 (V.loc i hm x hN).2 he hs ho
theorem sA (he : PE X e (qE c W own .frz m)) (hg : PG X tg (qG c own own' ts g)) (hs : swapsWithSole [tg] e pos.line X.env = pure false := by rfl) (hw : swappedStores [tg] e X.env = pure none := by rfl) (h1 : (assignEach [tg] X.env).map (·.2) = [assign tg X.env] := by rfl) : PS X (.Assign [tg] e pos) (qS c W own own' ownL (sAsg g m)) := qs_asg he hg hs hw h1
theorem sApd (i : Nat) (V : Scp X vis loc gls) (hm : i ∈ vis) (hN : X.N[i]? = some x) (hK : c.K = X.K) (hi : i ∈ own) (he : PE X e (qE c W own .frz m))
    (hbase : attributeBase (.Name x p) "append" X.env (eval (.Name x p) X.env) = eval (.Name x p) X.env := by rfl)
    (hfew : ((backTo pos (starEach (e :: []) X.env)).all (fun x => !x.1) && (backToKw pos (keywordEach [] X.env)).all (fun x => x.1.isSome)
      && decide ((e :: []).length + ([] : List Keyword).length + (if ([] : List Keyword).isEmpty then 0 else 1) < 30)) = true := by rfl)
    (hline : (apos.endLine == pos.line) = true := by rfl) (hst : starEach (e :: []) X.env = (false, eval e X.env) :: starEach [] X.env := by rfl) (hpl : (backTo pos (starEach [] X.env)).any (·.1) = false := by rfl)
    (hsw : swapsWith (.Call (.Attribute (.Name x p) "append" apos) [e] [] pos) none spos.line X.env = pure false := by rfl) :
    PS X (.Expr (.Call (.Attribute (.Name x p) "append" apos) [e] [] pos) spos) (qS c W own own ownL (sApp i m)) := qs_app hK hi (xT i V hm hN) he hbase hfew hline hst hpl hsw
theorem sPutE {kx : Expr} {mk : EM} (i : Nat) (V : Scp X vis loc gls) (hm : i ∈ vis) (hN : X.N[i]? = some x) (hu : X.A.units + 64 < cLine) (hi : i ∈ own) (hk : PE X kx (qE c W own .sh mk)) (he : PE X e (qE c W own .frz m))
    (hs : swapsWithSole [.Subscript (.Name x p) kx tpos] e pos.line X.env = pure false := by rfl) (hw : swappedStores [.Subscript (.Name x p) kx tpos] e X.env = pure none := by rfl)
    (h1 : (assignEach [.Subscript (.Name x p) kx tpos] X.env).map (·.2) = [assign (.Subscript (.Name x p) kx tpos) X.env] := by rfl)
    (ha : ∀ v, assign (.Subscript (.Name x p) kx tpos) X.env v = (do
      let ov ← holding [v] (eval (.Name x p) X.env)
      let iv ← holding [v, ov] (eval kx X.env)
      standAt tpos
      holding [v, ov, iv] (setItem ov iv v)
      release [v, ov, iv] []) := by intro _; rfl) : PS X (.Assign [.Subscript (.Name x p) kx tpos] e pos) (qS c W own own ownL (sPut i mk m)) := qs_put (Nat.lt_of_le_of_lt (by omega) hu) hi (xT i V hm hN) hk he hs hw h1 ha
theorem sAddE (i : Nat) (V : Scp X vis loc gls) (hm : i ∈ loc) (hN : X.N[i]? = some x) (hio : i ∉ own) (hn : c.xs.all (fun p => p.1 != i) = true) (he : PE X e (qE c W own .sh m)) : PS X (.AugAssign (.Name x p) .Add e pos) (qS c W own own ownL (sAug addF i m)) := qs_augAdd V.nd hN (V.loc i hm x hN).1 (V.loc i hm x hN).2 hio hn he
theorem sSubE (i : Nat) (V : Scp X vis loc gls) (hm : i ∈ loc) (hN : X.N[i]? = some x) (hio : i ∉ own) (hn : c.xs.all (fun p => p.1 != i) = true) (he : PE X e (qE c W own .sh m)) : PS X (.AugAssign (.Name x p) .Sub e pos) (qS c W own own ownL (sAug subD i m)) := qs_augSub V.nd hN (V.loc i hm x hN).1 (V.loc i hm x hN).2 hio hn he
/-! ### comprehensions -/
theorem own_all {vs own : List Nat} (hd : vs.all (fun j => own.all (· != j)) = true) : ∀ j ∈ vs, j ∉ own := fun j hj hj' => by
  rw [List.all_eq_true] at hd
  have := hd j hj
  rw [List.all_eq_true] at this
  simpa using this j hj'
theorem xLc {N : List Str} {vis1 loc1 : List Nat} {gls1 : List Str} (V : Scp X vis loc gls) (hc : X.calm = true) (hi : PI X tg iter (qI c W own src)) (ok : BlkOk X.N X.env.scope scope ob) (hv : ob.map (·.2) = vs) (hd : vs.all (fun j => own.all (· != j)) = true) (hV : scpC N scope vis1 loc1 gls1 = true) (hNN : X.N = N)
    (hg : ∀ (s : Shared) (H : Hp) (C : Addr) (cl : List (Str × Addr)) (fp : List Addr), Scp (X.blk s H scope (compEnvC scope cl C X.env) fp) vis1 loc1 gls1 → PG (X.blk s H scope (compEnvC scope cl C X.env) fp) tg (qG c own own vs g))
    (ht : ∀ (s : Shared) (H : Hp) (C : Addr) (cl : List (Str × Addr)) (fp : List Addr), Scp (X.blk s H scope (compEnvC scope cl C X.env) fp) vis1 loc1 gls1 → PTs (X.blk s H scope (compEnvC scope cl C X.env) fp) ifs (qT c W0 own t))
    (he : ∀ (s : Shared) (H : Hp) (C : Addr) (cl : List (Str × Addr)) (fp : List Addr), Scp (X.blk s H scope (compEnvC scope cl C X.env) fp) vis1 loc1 gls1 → PE (X.blk s H scope (compEnvC scope cl C X.env) fp) elt (qE c W0 own .frz m)) (hs : ∀ x, foldedSetIterable iter X.env x = pure x := by intro _; rfl) :
    PE X (.ListComp elt [⟨tg, iter, ifs, 0⟩] scope pos) (qE c W own .new (eComp src vs g t m)) := q_lc hc V.nd hi ok hv (own_all hd) (fun s H C cl fp => hg s H C cl fp (scp_blk hV hNN)) (fun s H C cl fp => ht s H C cl fp (scp_blk hV hNN)) (fun s H C cl fp => he s H C cl fp (scp_blk hV hNN)) hs
theorem sLc {N : List Str} {vis1 loc1 : List Nat} {gls1 : List Str} (i : Nat) (V : Scp X vis loc gls) (hNi : X.N[i]? = some x) (hyl : X.env.scope.names.lookup x = some .local) (hc : X.calm = true)
    (hsw : swapsWith (.ListComp elt [⟨tg, iter, ifs, 0⟩] scope pos) (some (.Name x py)) spos.line X.env = pure true) (hi : PI X tg iter (qI c W own src)) (ok : BlkOk X.N X.env.scope scope ob) (hv : ob.map (·.2) = vs) (hd : vs.all (fun j => own.all (· != j)) = true) (hV : scpC N scope vis1 loc1 gls1 = true) (hNN : X.N = N)
    (hg : ∀ (s : Shared) (H : Hp) (C : Addr) (cl : List (Str × Addr)) (fp : List Addr), Scp (X.blk s H scope (compEnvC scope cl C X.env) fp) vis1 loc1 gls1 → PG (X.blk s H scope (compEnvC scope cl C X.env) fp) tg (qG c own own vs g))
    (ht : ∀ (s : Shared) (H : Hp) (C : Addr) (cl : List (Str × Addr)) (fp : List Addr), Scp (X.blk s H scope (compEnvC scope cl C X.env) fp) vis1 loc1 gls1 → PTs (X.blk s H scope (compEnvC scope cl C X.env) fp) ifs (qT c W0 own t))
    (he : ∀ (s : Shared) (H : Hp) (C : Addr) (cl : List (Str × Addr)) (fp : List Addr), Scp (X.blk s H scope (compEnvC scope cl C X.env) fp) vis1 loc1 gls1 → PE (X.blk s H scope (compEnvC scope cl C X.env) fp) elt (qE c W0 own .frz m)) (ho : own' = i :: own.filter (· != i)) (hs : ∀ x, foldedSetIterable iter X.env x = pure x := by intro _; rfl) :
    PS X (.Assign [.Name x py] (.ListComp elt [⟨tg, iter, ifs, 0⟩] scope pos) spos) (qS c W own own' ownL (sNew i (eComp src vs g t m))) := qs_setLc hc V.nd hNi hyl hsw hi ok hv (own_all hd) (fun s H C cl fp => hg s H C cl fp (scp_blk hV hNN)) (fun s H C cl fp => ht s H C cl fp (scp_blk hV hNN)) (fun s H C cl fp => he s H C cl fp (scp_blk hV hNN)) hs ho
theorem okD {P : Program} {w : World} {K : KF} {mg : Str → Option Value} {base : Heap} {N : List Str} {qual : Str} {sc : Scope} {f : Addr} {cd : Value} {A : Around} {outer : List PySem.Env} {s : Shared} {H : Hp} {E : XK} (h : blkC N sc scope ob = true) :
    BlkOk (cxOf (L2.CX P w) P w K mg base N qual sc f cd A outer s H E).N (cxOf (L2.CX P w) P w K mg base N qual sc f cd A outer s H E).env.scope scope ob := blkOk_by h
theorem lcl_def {P : Program} {w : World} {K : KF} {mg : Str → Option Value} {base : Heap} {N : List Str} {qual : Str} {sc : Scope} {f : Addr} {cd : Value} {A : Around} {outer : List PySem.Env} {s : Shared} {H : Hp} {E : XK} (h : sc.names.lookup x = some .local) :
    (cxOf (L2.CX P w) P w K mg base N qual sc f cd A outer s H E).env.scope.names.lookup x = some .local := h
/-! ### is None as a test; loops -/
theorem qt_isN {jj : Nat} (ha : PE X a (qE c W own .sh m)) : PT X (.Compare a [.Is] [.Constant .none jj p2] pos) (qT c W own (tE (e1 isN m))) := (pt_cmp (pc_isN ha)).imp fun σ H Q ⟨Z, ρ, S, p⟩ => ⟨Z, ρ, S, (Post.bnd (Post.bnd p)).imp (fun d p1 v Z1 H1 x1 hv => by
  rw [(sh_non hv).1] at p1
  exact ⟨_, rfl, p1 Z1 H1 x1⟩) fun _ q => q⟩
theorem qt_notN {jj : Nat} (ha : PE X a (qE c W own .sh m)) : PT X (.Compare a [.IsNot] [.Constant .none jj p2] pos) (qT c W own (tE (e1 notN m))) := (pt_cmp (pc_notN ha)).imp fun σ H Q ⟨Z, ρ, S, p⟩ => ⟨Z, ρ, S, (Post.bnd (Post.bnd p)).imp (fun d p1 v Z1 H1 x1 hv => by
  rw [(sh_non hv).2] at p1
  exact ⟨_, rfl, p1 Z1 H1 x1⟩) fun _ q => q⟩
/-! ### own errors -/
/-- what is known of the classes of own errors -/
structure Errs (K : KF) (EC : Nat → Addr) (sub : Nat → Nat → Bool) : Prop where
  ex : ∀ n, ∃ bmB B newId initId, ExcBaseFacts B newId initId bmB ∧ PySem.W.excIn K (EC n) bmB newId = true
  keep : ∀ n, PySem.W.keepIn K (.ref (EC n)) = true
  top : ∀ n, PySem.W.subIn K (.ref (EC n)) (.type "BaseException") = some true
  ty : ∀ n, PySem.W.typeIn K (.ref (EC n)) = some (.type "type")
  exm : ∀ y n, PySem.W.exmOne K (.ref (EC y)) (.ref (EC n)) = some (sub y n)
  kit : ∀ y n, PySem.W.kitOne K (.ref (EC y)) (.ref (EC n)) = some (sub y n)
  cls : ∀ y, ExcC K (EC y)
theorem sRse {s : Str} {kk : Nat} {sub : Nat → Nat → Bool} (n j : Nat) (V : Scp X vis loc gls) (hc : X.calm = true) (tk : Takes X W) (Er : Errs X.K c.EC sub) (hj : gls[j]? = some x) (hm : X.mg x = some (.ref (c.EC n))) : PS X (.Raise (some (.Call (.Name x p) [.Constant (.str s) kk p2] [] pos)) none spos) (qS c W own own' ownL (sRaise n)) := by
  obtain ⟨bmB, B, newId, initId, F, q⟩ := Er.ex n
  exact qs_raise hc tk F q hm (Er.keep n) (raises_own (Er.top n) (Er.ty n)) (V.gl j _ hj).1 (V.gl j _ hj).2.1
/-! ### try -/
theorem sTryO {b₀ : Stmt} {body suite : List Stmt} {np pos' : Pos} {sub : Nat → Nat → Bool} {sa su : SM} (n j : Nat) (V : Scp X vis loc gls) (hs : X.stack = X.env :: X.outer) (hf : X.env.frame = some X.env.locals) (tk : Takes X W) (Er : Errs X.K c.EC sub) (hj : gls[j]? = some x) (hm : X.mg x = some (.ref (c.EC n)))
    (hb : ∀ (W' : WX) (pn : List (Addr × Obj)) (xe : Value → Shared → Prop), Scp (X.tr pn xe) vis loc gls → Takes (X.tr pn xe) W' → PassesOwn (model X.prog X.w) X.A X.env xe → PSs (X.tr pn xe) body (qS c W' own own' ownL sa))
    (hsu : ∀ (a : Addr) (oe : Obj) (y : Nat) (pn : List (Addr × Obj)), Scp (X.suite a ((a, oe) :: pn)) vis loc gls → Zc (.ref (c.EC y)) none oe → (∃ vs, oe.data = .fields vs) → PSs (X.suite a ((a, oe) :: pn)) (b₀ :: suite) (qS c W0 [] own' ownL su)) :
    PS X (.Try body [.ExceptHandler (some (.Name x np)) none (b₀ :: suite) pos'] [] [] pos) (qS c W own own' ownL (sTry [((fun y => sub y n), none, su)] sa)) :=
  qs_try_only hs hf ⟨(V.gl j _ hj).1, (V.gl j _ hj).2.1, .inl hm⟩ tk (fun y => Er.exm y n) (fun W' pn xe => hb W' pn xe (V.tr pn xe)) (fun a oe y pn => hsu a oe y pn (V.suite a _))
theorem sTryA {b₀ : Stmt} {body suite : List Stmt} {np pos' : Pos} {nn : Str} {sub : Nat → Nat → Bool} {sa su : SM} (i n j : Nat) (V : Scp X vis loc gls) (hs : X.stack = X.env :: X.outer) (hf : X.env.frame = some X.env.locals) (hN : X.N[i]? = some nn) (hln : X.env.kindOf nn = some .local) (tk : Takes X W) (Er : Errs X.K c.EC sub) (hj : gls[j]? = some x) (hm : X.mg x = some (.ref (c.EC n)))
    (hx : c.xs = none) (hio : i ∉ own') (hiL : i ∉ ownL)
    (hb : ∀ (W' : WX) (pn : List (Addr × Obj)) (xe : Value → Shared → Prop), Scp (X.tr pn xe) vis loc gls → Takes (X.tr pn xe) W' → PassesOwn (model X.prog X.w) X.A X.env xe → PSs (X.tr pn xe) body (qS c W' own own' ownL sa))
    (hsu : ∀ (a : Addr) (oe : Obj) (y : Nat) (pn : List (Addr × Obj)), Scp (X.suite a ((a, oe) :: pn)) vis loc gls → Zc (.ref (c.EC y)) none oe → (∃ vs, oe.data = .fields vs) → PSs (X.suite a ((a, oe) :: pn)) (b₀ :: suite) (qS (c.held i a y) W0 [] own' ownL su)) :
    PS X (.Try body [.ExceptHandler (some (.Name x np)) (some nn) (b₀ :: suite) pos'] [] [] pos) (qS c W own own' ownL (sTry [((fun y => sub y n), some i, su)] sa)) :=
  qs_try_as hs hf V.nd hN hln ⟨(V.gl j _ hj).1, (V.gl j _ hj).2.1, .inl hm⟩ tk (fun y => Er.exm y n) hx hio hiL (fun W' pn xe => hb W' pn xe (V.tr pn xe)) (fun a oe y pn => hsu a oe y pn (V.suite a _))
/-- isinstance(e, X) in a suite -/
theorem xIsx {A : Addr} {oe : Obj} {pn : List (Addr × Obj)} {y : Nat} {xe xc : Str} {pe' pc : Pos} {sub : Nat → Nat → Bool} (i n j jc : Nat) (V : Scp (X.suite A ((A, oe) :: pn)) vis loc gls) (hK : c.K = X.K) (hx : c.xs = some (i, A, y)) (hz : Zc (.ref (c.EC y)) none oe) (hf : ∃ vs, oe.data = .fields vs) (Er : Errs X.K c.EC sub)
    (hi : i ∈ vis) (hN : X.N[i]? = some xe) (hj : gls[j]? = some ("isinstance" : Str)) (hm : X.mg "isinstance" = none) (hjc : gls[jc]? = some xc) (hmc : X.mg xc = some (.ref (c.EC n)))
    (hs : starEach (.Name xe pe' :: [.Name xc pc]) X.env = (false, eval (.Name xe pe') X.env) :: starEach [.Name xc pc] X.env := by rfl) (hs2 : starEach (.Name xc pc :: []) X.env = (false, eval (.Name xc pc) X.env) :: starEach [] X.env := by rfl) (hpl : (backTo pos (starEach [.Name xc pc] X.env)).any (·.1) = false := by rfl) :
    PE (X.suite A ((A, oe) :: pn)) (.Call (.Name "isinstance" p) [.Name xe pe', .Name xc pc] [] pos) (qE c W own .new (e1 (isX sub n) (eV i))) :=
  q_isx hK hx hz hf (Er.cls y) hN (V.vis i hi xe hN).1 (V.vis i hi xe hN).2.1 (V.vis i hi xe hN).2.2 (V.gl j _ hj).1 hm (V.gl jc _ hjc).1 hmc (V.gl jc _ hjc).2.1 (fun y => Er.kit y n) hs hs2 hpl
/-! ### constants of the module -/
def ModC (K : KF) (mg : Str → Option Value) (x : Str) (d : Dat) : Prop := ∃ u v, mg x = some u ∧ RelV v u ∧ ∀ Z H, Rep K Z H v d
theorem xG {d : Dat} (j : Nat) (V : Scp X vis loc gls) (hj : gls[j]? = some x) (h : ModC c.K X.mg x d) : PE X (.Name x pos) (qE c W own .frz (eC d)) := by
  obtain ⟨u, v, h1, h2, h3⟩ := h
  exact q_glob (V.gl j _ hj).1 h1 h2 h3 (V.gl j _ hj).2.1
end
end PL

set_option maxRecDepth 100000
set_option maxHeartbeats 4000000
namespace PL
open PySem PySem.Spec PyProof.Rows L2
set_option autoImplicit false

theorem rep_str {K : KF} {Z : ZS} {H : Hp} {x : Str} {s : List Nat} (e : x.cps.toList = s) (h : (s.all (· < 1114112) && decide (s.length ≤ LINE)) = true) : Rep K Z H (.str x) (.str s) := by
  subst e
  rw [Bool.and_eq_true, List.all_eq_true, decide_eq_true_iff] at h
  exact .str x ⟨fun c hc => by simpa using h.1 c hc, h.2⟩
theorem rel_str {x : Str} {t : Tok} : RelV (.str x) (.str x t) := ⟨t, rfl⟩
theorem rel_int {i : Int} {t : Tok} : RelV (.int i) (.int i t) := ⟨t, rfl⟩
theorem le_line {n : Nat} (h : n ≤ 16777216) : n ≤ sizeLine := by
  rw [sizeLine_eq]
  exact h
theorem kit_ref {K : KF} {y C : Addr} {b : Bool} (hd : PySem.W.hasDictIn K C = true) (ht : PySem.W.typeIn K (.ref C) = some (.type "type")) (hs : PySem.W.subIn K (.ref C) (.ref C) = some true) (h4 : PySem.W.subIn K (.ref y) (.ref C) = some b) : PySem.W.kitOne K (.ref y) (.ref C) = some b := by
  obtain ⟨cd, hc, _⟩ := PySem.W.any_some hd
  unfold PySem.W.kitOne
  by_cases q : ((Value.ref y : Value) == Value.ref C) = true
  · rw [if_pos q]
    have e : y = C := Value.ref.inj (beq_iff_eq.mp q)
    subst e
    rw [hs] at h4
    exact h4
  · rw [if_neg q]
    have e2 : ((PySem.W.clsIn K C).isSome && PySem.W.typeIn K (.ref C) == some (.type "type")) = true := by rw [hc, ht] <;> rfl
    show (if ((PySem.W.clsIn K C).isSome && PySem.W.typeIn K (.ref C) == some (.type "type")) = true then PySem.W.subIn K (.ref y) (.ref C) else none) = some b
    rw [if_pos e2]
    exact h4
def spLaw (K : KF) : Sp := fun vs H Q _ => ∃ (a : Addr) (ns : List Int), vs = [.ref a] ∧ SqL K H a (ns.map V.int) ∧ ns.length ≤ 63 ∧ ∀ H', Q (.bl true) H'
theorem rep_ints {K : KF} {Z : ZS} {H : Hp} : ∀ ns : List Int, RepA K Z H (ns.map V.int) (ns.map Dat.int)
  | [] => .nil
  | n :: r => .cons (.int n) (rep_ints r)
theorem law_sp {K : KF} {EC : Nat → Addr} {f : List Dat → R Dat} (h : ∀ ns : List Int, ns.length ≤ 63 → f [.lst (ns.map .int)] = .ok (.bl true)) : ∀ vs H Q E, spLaw K vs H Q E → spM K EC 1 f vs H Q E := by
  rintro vs H Q E ⟨a, ns, rfl, hS, hl, q⟩
  refine ⟨rfl, ?_⟩
  have e := h ns hl
  rcases hS with hS | hS
  · refine ⟨fun b => b = a, [.lst (ns.map .int)], fun b hb => ?_, .cons (.lst rfl hS (rep_ints ns)) .nil, ?_⟩
    · subst hb
      rcases hS with z | ⟨o, z⟩
      · exact ⟨_, z⟩
      · exact ⟨_, z⟩
    · rw [e]
      intro v Z' H' x hv
      cases hv
      exact q H'
  · refine ⟨fun _ => False, [.lst (ns.map .int)], fun b hb => hb.elim, .cons (.lstK hS (rep_ints ns)) .nil, ?_⟩
    rw [e]
    intro v Z' H' x hv
    cases hv
    exact q H'
theorem cx_no {P : Program} {w : World} {H : Hp} {s : Shared} {e : Value} {s' : Shared} (h : L2.CX P w [] H s (fun _ _ _ => False) e s') : False := by
  obtain ⟨_, _, _, _, _, _, _, _, _, _, _, _, h⟩ := h
  exact h
end PL

set_option maxRecDepth 100000
namespace PL.K52
set_option autoImplicit false
noncomputable section
def d_SHAPES : Dat := .tup [.str [], .str [111], .str [111, 111], .str [111, 111, 111], .str [111, 102], .str [102], .str [102, 111], .str [102, 111, 111], .str [102, 111, 111, 111], .str [111, 116]]
/-- which class lies under which -/
def subT : List (List Bool) := [[true, false, false, false], [true, true, false, false], [true, false, true, false], [true, false, false, true]]
def cl (n : Nat) : Nat := match n with | 0 => 0 | 1 => 1 | 2 => 2 | _ => 3
def sub (y n : Nat) : Bool := ((subT.getD (cl y) []).getD (cl n) false)
/-! worth_of: 0 place 1 worth 2 _ -/
def b_worth_of : SM := (sSeq (sAsg (gV 1) (eC (.int 1)))
    (sSeq (sFor (iR1 (e2 fdivD (eV 0) (eC (.int 2)))) (gV 2)
    (sAsg (gV 1) (e2 mulD (eV 1) (eC (.int 10)))))
    (sSeq (sIf (tE (e2 eqD (e2 modD (eV 0) (eC (.int 2))) (eC (.int 1))))
    (sRet (e2 mulD (eV 1) (eC (.int 5))))
    sSkip)
    (sRet (eV 1)))))
noncomputable def f_worth_of : List Dat → R Dat := run 3 b_worth_of
/-! greatest: 0 letters -/
def b_greatest : SM := (sRet (e2 subD (e2 mulD (eC (.int 4)) (eCall f_worth_of (eCons (e2 subD (e1 lenD (eV 0)) (eC (.int 1))) eNil))) (eC (.int 1))))
noncomputable def f_greatest : List Dat → R Dat := run 1 b_greatest
/-! written_figure: 0 letters 1 place 2 figure 3 own 4 part -/
def b_written_figure : SM := (sSeq (sAsg (gV 3) (eDisp [((eC (.str [111])), (e2 idxD (eV 0) (eV 1))), ((eC (.str [102])), (eSli (pS (e2 addD (eV 1) (eC (.int 1)))) (pS (e2 addD (eV 1) (eC (.int 2)))) (eV 0))), ((eC (.str [116])), (eSli (pS (e2 addD (eV 1) (eC (.int 2)))) (pS (e2 addD (eV 1) (eC (.int 3)))) (eV 0)))]))
    (sRet (eM1 joinD (eC (.str [])) (eComp (iOf (e2 idxD (eC d_SHAPES) (eV 2))) [4] (gV 4) tYes (e2 idxD (eV 3) (eV 4))))))
noncomputable def f_written_figure : List Dat → R Dat := run 5 b_written_figure
/-! write_strokes: 0 letters 1 number 2 out 3 place -/
def b_write_strokes : SM := (sSeq (sIf (tNot (tE (eChain leD leD (eC (.int 1)) (eV 1) (eCall f_greatest (eCons (eV 0) eNil)))))
    (sRaise 2)
    sSkip)
    (sSeq (sAsg (gV 2) (eC (.str [])))
    (sSeq (sFor (iR3 (eC (.int 0)) (e1 lenD (eV 0)) (eC (.int 2))) (gV 3)
    (sSeq (sAsg (gV 2) (e2 addD (eCall f_written_figure (eCons (eV 0) (eCons (eV 3) (eCons (e2 modD (eV 1) (eC (.int 10))) eNil)))) (eV 2)))
    (sAsg (gV 1) (e2 fdivD (eV 1) (eC (.int 10))))))
    (sRet (eV 2)))))
noncomputable def f_write_strokes : List Dat → R Dat := run 4 b_write_strokes
/-! sum_of_strokes: 0 letters 1 text 2 worths 3 total 4 k 5 worth 6 sign -/
def b_sum_of_strokes : SM := (sSeq (sNew 2 (eComp (iOf (eV 1)) [6] (gV 6) tYes (eCall f_worth_of (eCons (eM1 indexD (eV 0) (eV 6)) eNil))))
    (sSeq (sAsg (gV 3) (eC (.int 0)))
    (sSeq (sFor (iEnum (eV 2)) (gTup 2 (gCons (gV 4) (gCons (gV 5) gNil)))
    (sIf (tAnd (tE (e2 ltD (e2 addD (eV 4) (eC (.int 1))) (e1 lenD (eV 2)))) (tE (e2 gtD (e2 idxD (eV 2) (e2 addD (eV 4) (eC (.int 1)))) (eV 5))))
    (sAug subD 3 (eV 5))
    (sAug addF 3 (eV 5))))
    (sRet (eV 3)))))
noncomputable def f_sum_of_strokes : List Dat → R Dat := run 7 b_sum_of_strokes
/-! read_strokes: 0 letters 1 text 2 number 3 sign -/
def b_read_strokes : SM := (sSeq (sIf (tNot (tE (e1 allD (eComp (iOf (eV 1)) [3] (gV 3) tYes (e2 inD (eV 3) (eV 0))))))
    (sRaise 3)
    sSkip)
    (sSeq (sAsg (gV 2) (eCall f_sum_of_strokes (eCons (eV 0) (eCons (eV 1) eNil))))
    (sSeq (sIf (tOr (tNot (tE (eChain leD leD (eC (.int 1)) (eV 2) (eCall f_greatest (eCons (eV 0) eNil))))) (tE (e2 neD (eCall f_write_strokes (eCons (eV 0) (eCons (eV 2) eNil))) (eV 1))))
    (sRaise 3)
    sSkip)
    (sRet (eV 2)))))
noncomputable def f_read_strokes : List Dat → R Dat := run 4 b_read_strokes
/-! _law_cell: 0 script 1 k -/
def b__law_cell : SM := (sSeq (sIf (tE (e2 ltD (eV 1) (e1 lenD (eV 0))))
    (sRet (e1 intD (e2 idxD (eV 0) (eV 1))))
    sSkip)
    (sRet (eC (.int 0))))
noncomputable def f__law_cell : List Dat → R Dat := run 2 b__law_cell
/-! _law_numbers: 0 cell 1 count 2 limit 3 found 4 rest 5 k 6 mixed -/
def b__law_numbers : SM := (sSeq (sNew 3 (eLst eNil))
    (sSeq (sAsg (gV 4) (eV 0))
    (sSeq (sFor (iR1 (eV 1)) (gV 5)
    (sIf (tAnd (tE (e2 geD (eV 0) (e2 powD (eC (.int 10)) (eC (.int 18))))) (tE (e2 gtD (eV 4) (eC (.int 0)))))
    (sSeq (sApp 3 (e2 modD (e1 intD (eV 4)) (eV 2)))
    (sAsg (gV 4) (e2 fdivD (e1 intD (eV 4)) (eV 2))))
    (sSeq (sAsg (gV 6) (e2 modD (e1 intD (e2 addD (e2 addD (e2 mulD (eV 0) (eC (.int 48271))) (e2 mulD (eV 5) (eC (.int 69621)))) (eC (.int 7)))) (eC (.int 2147483647))))
    (sSeq (sAsg (gV 6) (e2 modD (e1 intD (e2 addD (e2 addD (e2 addD (e2 mulD (eV 6) (eV 6)) (e2 mulD (eV 6) (eC (.int 40692)))) (e2 mulD (eV 5) (eC (.int 16807)))) (eC (.int 11)))) (eC (.int 2147483399))))
    (sApp 3 (e2 modD (e1 intD (e2 fdivD (eV 6) (eC (.int 32)))) (eV 2)))))))
    (sRet (eV 3)))))
noncomputable def f__law_numbers : List Dat → R Dat := run 7 b__law_numbers
/-! _law_same: 0 answer 1 due 2 k -/
def b__law_same (IHm : List Dat → R Dat) : SM := (sSeq (sIf (tE (e1 (isTy .list) (eV 1)))
    (sIf (tOr (tNot (tE (e1 (isTy .list) (eV 0)))) (tE (e2 neD (e1 lenD (eV 0)) (e1 lenD (eV 1)))))
    (sRet (eC (.bl false)))
    sSkip)
    (sIf (tE (e1 (isTy .tuple) (eV 1)))
    (sIf (tOr (tNot (tE (e1 (isTy .tuple) (eV 0)))) (tE (e2 neD (e1 lenD (eV 0)) (e1 lenD (eV 1)))))
    (sRet (eC (.bl false)))
    sSkip)
    (sIf (tE (e1 isN (eV 1)))
    (sRet (e1 isN (eV 0)))
    (sIf (tE (e1 (isTy .bool) (eV 1)))
    (sRet (eAnd (e1 (isTy .bool) (eV 0)) (e2 eqD (eV 0) (eV 1))))
    (sIf (tE (e1 (isTy .int) (eV 1)))
    (sRet (eAnd (e1 (isTy .int) (eV 0)) (eAnd (e1 notB (e1 (isTy .bool) (eV 0))) (e2 eqD (eV 0) (eV 1)))))
    (sRet (eAnd (e1 (isTy .str) (eV 0)) (e2 eqD (eV 0) (eV 1)))))))))
    (sSeq (sFor (iR1 (e1 lenD (eV 1))) (gV 2)
    (sIf (tNot (tE (eCall IHm (eCons (e2 idxD (eV 0) (eV 2)) (eCons (e2 idxD (eV 1) (eV 2)) eNil)))))
    (sRet (eC (.bl false)))
    sSkip))
    (sRet (eC (.bl true)))))
def f__law_same : Nat → List Dat → R Dat
  | 0 => fun _ => .bad
  | n + 1 => run 3 (b__law_same (f__law_same n))
/-! _law_signs: 0 draw 1 count 2 pool 3 k -/
def b__law_signs : SM := (sSeq (sAsg (gV 2) (eC (.str [32, 33, 34, 35, 36, 38, 39, 40, 41, 42, 43, 44, 45, 46, 47, 48, 49, 50, 51, 52, 53, 54, 55, 56, 57, 58, 59, 60, 61, 62, 63, 64, 65, 66, 67, 68, 69, 70, 71, 72, 73, 74, 75, 76, 77, 78, 79, 80, 81, 82, 83, 84, 85, 86, 87, 88, 89, 90, 91, 92, 93, 94, 95, 96, 97, 98, 99, 100, 101, 102, 103, 104, 105, 106, 107, 108, 109, 110, 111, 112, 113, 114, 115, 116, 117, 118, 119, 120, 121, 122, 123, 125, 126])))
    (sRet (eM1 joinD (eC (.str [])) (eComp (iR1 (eV 1)) [3] (gV 3) tYes (e2 idxD (eV 2) (e2 modD (e2 addD (eV 0) (e2 mulD (eV 3) (e2 addD (eC (.int 1)) (e2 modD (e2 fdivD (eV 0) (eC (.int 93))) (eC (.int 30)))))) (eC (.int 93))))))))
noncomputable def f__law_signs : List Dat → R Dat := run 4 b__law_signs
/-! _law_pieces: 0 letters 1 found 2 worth 3 k 4 more -/
def b__law_pieces : SM := (sSeq (sAsg (gV 1) (eLst eNil))
    (sSeq (sAsg (gV 2) (eC (.int 1)))
    (sSeq (sFor (iR3 (eC (.int 0)) (e1 lenD (eV 0)) (eC (.int 2))) (gV 3)
    (sSeq (sAsg (gV 4) (eLst (eCons (eTup (eCons (eV 2) (eCons (e2 idxD (eV 0) (eV 3)) eNil))) eNil)))
    (sSeq (sIf (tE (e2 ltD (e2 addD (eV 3) (eC (.int 2))) (e1 lenD (eV 0))))
    (sAsg (gV 4) (e2 addD (eV 4) (eLst (eCons (eTup (eCons (e2 mulD (eV 2) (eC (.int 4))) (eCons (e2 addD (e2 idxD (eV 0) (eV 3)) (e2 idxD (eV 0) (e2 addD (eV 3) (eC (.int 1))))) eNil))) (eCons (eTup (eCons (e2 mulD (eV 2) (eC (.int 5))) (eCons (e2 idxD (eV 0) (e2 addD (eV 3) (eC (.int 1)))) eNil))) (eCons (eTup (eCons (e2 mulD (eV 2) (eC (.int 9))) (eCons (e2 addD (e2 idxD (eV 0) (eV 3)) (e2 idxD (eV 0) (e2 addD (eV 3) (eC (.int 2))))) eNil))) eNil))))))
    sSkip)
    (sSeq (sAsg (gV 1) (e2 addD (eV 1) (eV 4)))
    (sAsg (gV 2) (e2 mulD (eV 2) (eC (.int 10))))))))
    (sRet (e1 revD (eV 1))))))
noncomputable def f__law_pieces : List Dat → R Dat := run 5 b__law_pieces
/-! _law_write: 0 letters 1 number 2 out 3 worth 4 piece 5 turn -/
def b__law_write : SM := (sSeq (sAsg (gV 2) (eC (.str [])))
    (sSeq (sFor (iOf (eCall f__law_pieces (eCons (eV 0) eNil))) (gTup 2 (gCons (gV 3) (gCons (gV 4) gNil)))
    (sFor (iR1 (eC (.int 3))) (gV 5)
    (sIf (tE (e2 geD (eV 1) (eV 3)))
    (sSeq (sAsg (gV 2) (e2 addD (eV 2) (eV 4)))
    (sAsg (gV 1) (e2 subD (eV 1) (eV 3))))
    sSkip)))
    (sRet (eV 2))))
noncomputable def f__law_write : List Dat → R Dat := run 6 b__law_write
/-! _law_worths: 0 letters 1 text 2 found 3 sign 4 at 5 k -/
def b__law_worths : SM := (sSeq (sNew 2 (eLst eNil))
    (sSeq (sFor (iOf (eV 1)) (gV 3)
    (sSeq (sNew 4 (eComp (iR1 (e1 lenD (eV 0))) [5] (gV 5) (tE (e2 eqD (e2 idxD (eV 0) (eV 5)) (eV 3))) (eV 5)))
    (sSeq (sIf (tE (e2 eqD (e1 lenD (eV 4)) (eC (.int 0))))
    (sRet (eC .non))
    sSkip)
    (sApp 2 (e2 idxD (eLst (eCons (eC (.int 1)) (eCons (eC (.int 5)) (eCons (eC (.int 10)) (eCons (eC (.int 50)) (eCons (eC (.int 100)) (eCons (eC (.int 500)) (eCons (eC (.int 1000)) (eCons (eC (.int 5000)) (eCons (eC (.int 10000)) eNil)))))))))) (e2 idxD (eV 4) (eC (.int 0))))))))
    (sRet (eV 2))))
noncomputable def f__law_worths : List Dat → R Dat := run 6 b__law_worths
/-! _law_sum: 0 letters 1 text 2 worths 3 total 4 k -/
def b__law_sum : SM := (sSeq (sAsg (gV 2) (eCall f__law_worths (eCons (eV 0) (eCons (eV 1) eNil))))
    (sSeq (sAsg (gV 3) (eC (.int 0)))
    (sSeq (sFor (iR1 (e1 lenD (eV 2))) (gV 4)
    (sIf (tAnd (tE (e2 ltD (e2 addD (eV 4) (eC (.int 1))) (e1 lenD (eV 2)))) (tE (e2 gtD (e2 idxD (eV 2) (e2 addD (eV 4) (eC (.int 1)))) (e2 idxD (eV 2) (eV 4)))))
    (sAsg (gV 3) (e2 subD (eV 3) (e2 idxD (eV 2) (eV 4))))
    (sAsg (gV 3) (e2 addD (eV 3) (e2 idxD (eV 2) (eV 4))))))
    (sRet (eV 3)))))
noncomputable def f__law_sum : List Dat → R Dat := run 5 b__law_sum
/-! _law_read: 0 letters 1 text 2 most 3 number -/
def b__law_read : SM := (sSeq (sIf (tE (e1 isN (eCall f__law_worths (eCons (eV 0) (eCons (eV 1) eNil)))))
    (sRet (eC .non))
    sSkip)
    (sSeq (sAsg (gV 3) (eCall f__law_sum (eCons (eV 0) (eCons (eV 1) eNil))))
    (sSeq (sIf (tOr (tE (e2 ltD (eV 3) (eC (.int 1)))) (tOr (tE (e2 gtD (eV 3) (eV 2))) (tE (e2 neD (eCall f__law_write (eCons (eV 0) (eCons (eV 3) eNil))) (eV 1)))))
    (sRet (eC .non))
    sSkip)
    (sRet (eV 3)))))
noncomputable def f__law_read : List Dat → R Dat := run 4 b__law_read
/-! _law_asked: 0 letters 1 text 2 e -/
def b__law_asked : SM := (sTry [((fun y => sub y 3), some 2, (sRet (e2 idxD (eLst (eCons (eC .non) (eCons (eC (.str [111, 116, 104, 101, 114])) eNil))) (e1 intD (eOr (e1 notB (e1 (isX sub 0) (eV 2))) (e1 (isX sub 2) (eV 2)))))))]
    (sRet (eCall f_read_strokes (eCons (eV 0) (eCons (eV 1) eNil)))))
noncomputable def f__law_asked : List Dat → R Dat := run 3 b__law_asked
/-! _law_refused: 0 letters 1 number 2 e -/
def b__law_refused : SM := (sTry [((fun y => sub y 2), some 2, (sRet (e2 idxD (eLst (eCons (eC .non) (eCons (eC (.str [111, 116, 104, 101, 114])) eNil))) (e1 intD (eOr (e1 notB (e1 (isX sub 0) (eV 2))) (eOr (e1 (isX sub 3) (eV 2)) (e1 (isX sub 1) (eV 2))))))))]
    (sRet (eCall f_write_strokes (eCons (eV 0) (eCons (eV 1) eNil)))))
noncomputable def f__law_refused : List Dat → R Dat := run 3 b__law_refused
/-! _law_texts: 0 letters 1 text 2 draws 3 at 4 letter 5 found -/
def b__law_texts : SM := (sSeq (sAsg (gV 3) (e2 modD (e2 idxD (eV 2) (eC (.int 0))) (e1 lenD (eV 1))))
    (sSeq (sAsg (gV 4) (e2 idxD (eV 0) (e2 modD (e2 idxD (eV 2) (eC (.int 1))) (e1 lenD (eV 0)))))
    (sSeq (sAsg (gV 5) (eLst (eCons (e2 addD (eSli (pS (eC (.int 0))) (pS (eV 3)) (eV 1)) (eSli (pS (e2 addD (eV 3) (eC (.int 1)))) pN (eV 1))) (eCons (e2 addD (e2 addD (eSli (pS (eC (.int 0))) (pS (eV 3)) (eV 1)) (e2 idxD (eV 1) (eV 3))) (eSli (pS (eV 3)) pN (eV 1))) (eCons (e2 addD (e2 addD (eSli (pS (eC (.int 0))) (pS (eV 3)) (eV 1)) (eV 4)) (eSli (pS (eV 3)) pN (eV 1))) (eCons (e2 addD (e2 addD (eSli (pS (eC (.int 0))) (pS (eV 3)) (eV 1)) (eV 4)) (eSli (pS (e2 addD (eV 3) (eC (.int 1)))) pN (eV 1))) eNil))))))
    (sRet (e2 addD (eV 5) (eLst (eCons (e1 revD (eV 1)) (eCons (e2 addD (eV 1) (eV 4)) (eCons (e2 addD (eV 4) (eV 1)) (eCons (e2 addD (eV 1) (eC (.str [126]))) (eCons (e2 addD (eC (.str [126])) (eV 1)) (eCons (eC (.str [])) eNil))))))))))))
noncomputable def f__law_texts : List Dat → R Dat := run 6 b__law_texts
/-! _law_grown: 0 level 1 letters 2 found 3 text 4 letter -/
def b__law_grown : SM := (sSeq (sAsg (gV 2) (eLst eNil))
    (sSeq (sFor (iOf (eV 0)) (gV 3)
    (sAsg (gV 2) (e2 addD (eV 2) (eComp (iOf (eV 1)) [4] (gV 4) tYes (e2 addD (eV 3) (eV 4))))))
    (sRet (eV 2))))
noncomputable def f__law_grown : List Dat → R Dat := run 5 b__law_grown
/-! law: 0 script 1 draws 2 letters 3 most 4 k 5 number 6 known 7 shown 8 text 9 texts 10 j 11 some 12 level 13 size 14 due -/
def t_law_0 : SM := (sAsg (gV 1) (eCall f__law_numbers (eCons (eCall f__law_cell (eCons (eV 0) (eCons (eC (.int 0)) eNil))) (eCons (eC (.int 12)) (eCons (eC (.int 5040)) eNil)))))
def t_law_1 : SM := (sAsg (gV 2) (eCall f__law_signs (eCons (e2 idxD (eV 1) (eC (.int 0))) (eCons (e2 idxD (eLst (eCons (eC (.int 1)) (eCons (eC (.int 3)) (eCons (eC (.int 5)) (eCons (eC (.int 7)) (eCons (eC (.int 9)) eNil)))))) (e2 modD (e2 idxD (eV 1) (eC (.int 1))) (eC (.int 5)))) eNil))))
def t_law_3 : SM := (sFor (iR1 (e2 fdivD (e1 lenD (eV 2)) (eC (.int 2)))) (gV 4)
    (sAsg (gV 3) (e2 mulD (eV 3) (eC (.int 10)))))
def t_law_5 : SM := (sIf (tNot (tE (eCall (f__law_same 12) (eCons (eCall f_greatest (eCons (eV 2) eNil)) (eCons (eV 3) eNil)))))
    (sRet (eC (.bl false)))
    sSkip)
def t_law_6 : SM := (sFor (iOf (eLst (eCons (eC (.int 0)) (eCons (e1 negD (eC (.int 1))) (eCons (e2 addD (eV 3) (eC (.int 1))) (eCons (e2 subD (e1 negD (eC (.int 1))) (e2 idxD (eV 1) (eC (.int 2)))) (eCons (e2 addD (e2 addD (eV 3) (eC (.int 1))) (e2 idxD (eV 1) (eC (.int 3)))) (eCons (e2 powD (eC (.int 10)) (eC (.int 30))) eNil)))))))) (gV 5)
    (sIf (tNot (tE (eCall (f__law_same 12) (eCons (eCall f__law_refused (eCons (eV 2) (eCons (eV 5) eNil))) (eCons (eC .non) eNil)))))
    (sRet (eC (.bl false)))
    sSkip))
def t_law_8 : SM := (sFor (iR2 (eC (.int 1)) (e2 addD (e2 min2 (eV 3) (eC (.int 399))) (eC (.int 1)))) (gV 5)
    (sPut 6 (eCall f__law_write (eCons (eV 2) (eCons (eV 5) eNil))) (eV 5)))
def t_law_9 : SM := (sIf (tE (e2 neD (e1 lenD (eV 6)) (e2 min2 (eV 3) (eC (.int 399)))))
    (sRet (eC (.bl false)))
    sSkip)
def t_law_10 : SM := (sNew 7 (eComp (iR2 (eC (.int 1)) (e2 addD (e2 min2 (eV 3) (eC (.int 399))) (eC (.int 1)))) [5] (gV 5) (tE (e2 eqD (e2 modD (eV 5) (e2 addD (eC (.int 1)) (e2 modD (e2 idxD (eV 1) (eC (.int 4))) (eC (.int 13))))) (eC (.int 0)))) (eV 5)))
def t_law_11 : SM := (sFor (iOf (e2 addD (e2 addD (eV 7) (eLst (eCons (eV 3) eNil))) (eComp (iR1 (eC (.int 5))) [4] (gV 4) tYes (e2 addD (eC (.int 1)) (e2 modD (e2 addD (e2 mulD (e2 idxD (eV 1) (e2 addD (eC (.int 5)) (eV 4))) (eC (.int 37))) (e2 idxD (eV 1) (eC (.int 6)))) (eV 3)))))) (gV 5)
    (sSeq (sAsg (gV 8) (eCall f__law_write (eCons (eV 2) (eCons (eV 5) eNil))))
    (sSeq (sIf (tOr (tNot (tE (eCall (f__law_same 12) (eCons (eCall f_write_strokes (eCons (eV 2) (eCons (eV 5) eNil))) (eCons (eV 8) eNil))))) (tNot (tE (eCall (f__law_same 12) (eCons (eCall f_read_strokes (eCons (eV 2) (eCons (eV 8) eNil))) (eCons (eV 5) eNil))))))
    (sRet (eC (.bl false)))
    sSkip)
    (sIf (tNot (tE (eCall (f__law_same 12) (eCons (eCall f_sum_of_strokes (eCons (eV 2) (eCons (eV 8) eNil))) (eCons (eV 5) eNil)))))
    (sRet (eC (.bl false)))
    sSkip))))
def t_law_13 : SM := (sFor (iR1 (eC (.int 4))) (gV 10)
    (sSeq (sAsg (gV 11) (eCall f__law_numbers (eCons (eCall f__law_cell (eCons (eV 0) (eCons (e2 addD (eC (.int 1)) (eV 10)) eNil))) (eCons (eC (.int 18)) (eCons (eC (.int 5040)) eNil)))))
    (sSeq (sNew 9 (e2 addD (eV 9) (eCall f__law_texts (eCons (eV 2) (eCons (eCall f__law_write (eCons (eV 2) (eCons (e2 addD (eC (.int 1)) (e2 modD (e2 addD (e2 mulD (e2 idxD (eV 11) (eC (.int 0))) (eC (.int 7))) (e2 idxD (eV 11) (eC (.int 1)))) (eV 3))) eNil))) (eCons (eSli (pS (eC (.int 2))) pN (eV 11)) eNil))))))
    (sApp 9 (eM1 joinD (eC (.str [])) (eComp (iR1 (e2 modD (e2 idxD (eV 11) (eC (.int 3))) (eC (.int 15)))) [4] (gV 4) tYes (e2 idxD (eV 2) (e2 modD (e2 idxD (eV 11) (e2 addD (eC (.int 4)) (eV 4))) (e1 lenD (eV 2))))))))))
def t_law_14 : SM := (sIf (tE (e2 ltD (e1 lenD (eV 2)) (eC (.int 4))))
    (sSeq (sAsg (gV 12) (eLst (eCons (eC (.str [])) eNil)))
    (sFor (iR1 (eC (.int 4))) (gV 13)
    (sSeq (sAsg (gV 12) (eCall f__law_grown (eCons (eV 12) (eCons (eV 2) eNil))))
    (sNew 9 (e2 addD (eV 9) (eV 12))))))
    sSkip)
def t_law_15 : SM := (sFor (iOf (eV 9)) (gV 8)
    (sSeq (sAsg (gV 14) (eCall f__law_read (eCons (eV 2) (eCons (eV 8) (eCons (eV 3) eNil)))))
    (sSeq (sIf (tNot (tE (eCall (f__law_same 12) (eCons (eCall f__law_asked (eCons (eV 2) (eCons (eV 8) eNil))) (eCons (eV 14) eNil)))))
    (sRet (eC (.bl false)))
    sSkip)
    (sSeq (sIf (tAnd (tE (e2 ltD (eV 3) (eC (.int 400)))) (tE (e2 neD (e2 inD (eV 8) (eV 6)) (e1 notN (eV 14)))))
    (sRet (eC (.bl false)))
    sSkip)
    (sIf (tAnd (tE (e1 notN (eCall f__law_worths (eCons (eV 2) (eCons (eV 8) eNil))))) (tNot (tE (eCall (f__law_same 12) (eCons (eCall f_sum_of_strokes (eCons (eV 2) (eCons (eV 8) eNil))) (eCons (eCall f__law_sum (eCons (eV 2) (eCons (eV 8) eNil))) eNil))))))
    (sRet (eC (.bl false)))
    sSkip)))))
def b_law : SM := (sSeq t_law_0
    (sSeq t_law_1
    (sSeq (sAsg (gV 3) (eC (.int 4)))
    (sSeq t_law_3
    (sSeq (sAsg (gV 3) (e2 subD (eV 3) (eC (.int 1))))
    (sSeq t_law_5
    (sSeq t_law_6
    (sSeq (sNew 6 eDic0)
    (sSeq t_law_8
    (sSeq t_law_9
    (sSeq t_law_10
    (sSeq t_law_11
    (sSeq (sNew 9 (eLst eNil))
    (sSeq t_law_13
    (sSeq t_law_14
    (sSeq t_law_15
    (sRet (eC (.bl true)))))))))))))))))))
noncomputable def f_law : List Dat → R Dat := run 15 b_law
end
end PL.K52

set_option maxRecDepth 100000
set_option maxHeartbeats 4000000
namespace PL.K52
open PySem PySem.Spec PyProof.Rows L2
set_option autoImplicit false
noncomputable section
def top (i : Nat) : Stmt := PySem.Challenge.pw_lettersacross_k52_stroke_letters_there_a.main.body.getD i (.Pass ⟨0, 0, 0, 0⟩)
abbrev s_worth_of : Stmt := top 7
abbrev s_greatest : Stmt := top 8
abbrev s_written_figure : Stmt := top 9
abbrev s_write_strokes : Stmt := top 10
abbrev s_sum_of_strokes : Stmt := top 11
abbrev s_read_strokes : Stmt := top 12
abbrev s__law_cell : Stmt := top 14
abbrev s__law_numbers : Stmt := top 15
abbrev s__law_same : Stmt := top 16
abbrev s__law_signs : Stmt := top 17
abbrev s__law_pieces : Stmt := top 18
abbrev s__law_write : Stmt := top 19
abbrev s__law_worths : Stmt := top 20
abbrev s__law_sum : Stmt := top 21
abbrev s__law_read : Stmt := top 22
abbrev s__law_asked : Stmt := top 23
abbrev s__law_refused : Stmt := top 24
abbrev s__law_texts : Stmt := top 25
abbrev s__law_grown : Stmt := top 26
abbrev s_law : Stmt := top 27
structure Txt (K : KF) (mg : Str → Option Value) (EC : Nat → Addr) (fa : Nat → Addr) (fd : Nat → FuncData) : Prop where
  F0 : Fun K "worth_of" "worth_of" s_worth_of (fa 0) (fd 0)
  g0 : mg "worth_of" = some (.ref (fa 0))
  k0 : PySem.W.keepIn K (.ref (fa 0)) = true
  b0 : Binds K (fd 0) ["place"] []
  F1 : Fun K "greatest" "greatest" s_greatest (fa 1) (fd 1)
  g1 : mg "greatest" = some (.ref (fa 1))
  k1 : PySem.W.keepIn K (.ref (fa 1)) = true
  b1 : Binds K (fd 1) ["letters"] []
  F2 : Fun K "written_figure" "written_figure" s_written_figure (fa 2) (fd 2)
  g2 : mg "written_figure" = some (.ref (fa 2))
  k2 : PySem.W.keepIn K (.ref (fa 2)) = true
  b2 : Binds K (fd 2) ["letters", "place", "figure"] []
  F3 : Fun K "write_strokes" "write_strokes" s_write_strokes (fa 3) (fd 3)
  g3 : mg "write_strokes" = some (.ref (fa 3))
  k3 : PySem.W.keepIn K (.ref (fa 3)) = true
  b3 : Binds K (fd 3) ["letters", "number"] []
  F4 : Fun K "sum_of_strokes" "sum_of_strokes" s_sum_of_strokes (fa 4) (fd 4)
  g4 : mg "sum_of_strokes" = some (.ref (fa 4))
  k4 : PySem.W.keepIn K (.ref (fa 4)) = true
  b4 : Binds K (fd 4) ["letters", "text"] []
  F5 : Fun K "read_strokes" "read_strokes" s_read_strokes (fa 5) (fd 5)
  g5 : mg "read_strokes" = some (.ref (fa 5))
  k5 : PySem.W.keepIn K (.ref (fa 5)) = true
  b5 : Binds K (fd 5) ["letters", "text"] []
  F6 : Fun K "_law_cell" "_law_cell" s__law_cell (fa 6) (fd 6)
  g6 : mg "_law_cell" = some (.ref (fa 6))
  k6 : PySem.W.keepIn K (.ref (fa 6)) = true
  b6 : Binds K (fd 6) ["script", "k"] []
  F7 : Fun K "_law_numbers" "_law_numbers" s__law_numbers (fa 7) (fd 7)
  g7 : mg "_law_numbers" = some (.ref (fa 7))
  k7 : PySem.W.keepIn K (.ref (fa 7)) = true
  b7 : Binds K (fd 7) ["cell", "count", "limit"] []
  F8 : Fun K "_law_same" "_law_same" s__law_same (fa 8) (fd 8)
  g8 : mg "_law_same" = some (.ref (fa 8))
  k8 : PySem.W.keepIn K (.ref (fa 8)) = true
  b8 : Binds K (fd 8) ["answer", "due"] []
  F9 : Fun K "_law_signs" "_law_signs" s__law_signs (fa 9) (fd 9)
  g9 : mg "_law_signs" = some (.ref (fa 9))
  k9 : PySem.W.keepIn K (.ref (fa 9)) = true
  b9 : Binds K (fd 9) ["draw", "count"] []
  F10 : Fun K "_law_pieces" "_law_pieces" s__law_pieces (fa 10) (fd 10)
  g10 : mg "_law_pieces" = some (.ref (fa 10))
  k10 : PySem.W.keepIn K (.ref (fa 10)) = true
  b10 : Binds K (fd 10) ["letters"] []
  F11 : Fun K "_law_write" "_law_write" s__law_write (fa 11) (fd 11)
  g11 : mg "_law_write" = some (.ref (fa 11))
  k11 : PySem.W.keepIn K (.ref (fa 11)) = true
  b11 : Binds K (fd 11) ["letters", "number"] []
  F12 : Fun K "_law_worths" "_law_worths" s__law_worths (fa 12) (fd 12)
  g12 : mg "_law_worths" = some (.ref (fa 12))
  k12 : PySem.W.keepIn K (.ref (fa 12)) = true
  b12 : Binds K (fd 12) ["letters", "text"] []
  F13 : Fun K "_law_sum" "_law_sum" s__law_sum (fa 13) (fd 13)
  g13 : mg "_law_sum" = some (.ref (fa 13))
  k13 : PySem.W.keepIn K (.ref (fa 13)) = true
  b13 : Binds K (fd 13) ["letters", "text"] []
  F14 : Fun K "_law_read" "_law_read" s__law_read (fa 14) (fd 14)
  g14 : mg "_law_read" = some (.ref (fa 14))
  k14 : PySem.W.keepIn K (.ref (fa 14)) = true
  b14 : Binds K (fd 14) ["letters", "text", "most"] []
  F15 : Fun K "_law_asked" "_law_asked" s__law_asked (fa 15) (fd 15)
  g15 : mg "_law_asked" = some (.ref (fa 15))
  k15 : PySem.W.keepIn K (.ref (fa 15)) = true
  b15 : Binds K (fd 15) ["letters", "text"] []
  F16 : Fun K "_law_refused" "_law_refused" s__law_refused (fa 16) (fd 16)
  g16 : mg "_law_refused" = some (.ref (fa 16))
  k16 : PySem.W.keepIn K (.ref (fa 16)) = true
  b16 : Binds K (fd 16) ["letters", "number"] []
  F17 : Fun K "_law_texts" "_law_texts" s__law_texts (fa 17) (fd 17)
  g17 : mg "_law_texts" = some (.ref (fa 17))
  k17 : PySem.W.keepIn K (.ref (fa 17)) = true
  b17 : Binds K (fd 17) ["letters", "text", "draws"] []
  F18 : Fun K "_law_grown" "_law_grown" s__law_grown (fa 18) (fd 18)
  g18 : mg "_law_grown" = some (.ref (fa 18))
  k18 : PySem.W.keepIn K (.ref (fa 18)) = true
  b18 : Binds K (fd 18) ["level", "letters"] []
  F19 : Fun K "law" "law" s_law (fa 19) (fd 19)
  g19 : mg "law" = some (.ref (fa 19))
  k19 : PySem.W.keepIn K (.ref (fa 19)) = true
  b19 : Binds K (fd 19) ["script"] []
  z_all : mg "all" = none
  z_bool : mg "bool" = none
  z_enumerate : mg "enumerate" = none
  z_int : mg "int" = none
  z_isinstance : mg "isinstance" = none
  z_len : mg "len" = none
  z_list : mg "list" = none
  z_min : mg "min" = none
  z_range : mg "range" = none
  z_str : mg "str" = none
  z_tuple : mg "tuple" = none
  c_SHAPES : ModC K mg "SHAPES" d_SHAPES
  er : Errs K EC sub
  e_ScriptError : mg "ScriptError" = some (.ref (EC 0))
  e_InvalidFigures : mg "InvalidFigures" = some (.ref (EC 1))
  e_NumberOutOfRange : mg "NumberOutOfRange" = some (.ref (EC 2))
  e_NotNumber : mg "NotNumber" = some (.ref (EC 3))
variable {P : Program} {w : World} {K : KF} {mg : Str → Option Value} {base : Heap} {EC : Nat → Addr} {fa : Nat → Addr} {fd : Nat → FuncData}
abbrev N_worth_of : List Str := ["place", "worth", "_"]
theorem ok_worth_of (T : Txt K mg EC fa fd) : FnOk P w K mg base (L2.CX P w) 1 (fa 0) (fd 0) ["place"] (spM K EC 1 f_worth_of) := by
  unfold f_worth_of b_worth_of
  refine fn_ok (k := 0) (N := N_worth_of) (own' := []) T.F0 (C8.fnScope_by (by decide +kernel)) rfl (by decide) (fun cdv A outer s H E Z hr => ?_)
  have V : Scp (cxOf (L2.CX P w) P w K mg base N_worth_of "worth_of" (defScope s_worth_of) (fa 0) cdv A outer s H E) [0, 1, 2] [0, 1, 2] ["range"] := scp_def (by decide +kernel)
  have tk := tk_def (P := P) (w := w) (K := K) (mg := mg) (base := base) (N := N_worth_of) (qual := "worth_of") (scope := defScope s_worth_of) (f := fa 0) (cd := cdv) (A := A) (outer := outer) (s := s) (H := H) (E := E)
  have hp := ps_def (P := P) (w := w) (K := K) (mg := mg) (base := base) (N := N_worth_of) (qual := "worth_of") (scope := defScope s_worth_of) (f := fa 0) (cd := cdv) (A := A) (outer := outer) (s := s) (H := H) (E := E)
  have hu := hr.units
  have hu1 := hu_of hr
  exact (qs_cons (own1 := []) (sA (ts := [1]) q_int (gV' 1 V (by decide) rfl rfl (by decide)))
    (qs_cons (own1 := []) (qs_for (own' := []) (own1 := []) (ts := [2]) hp rfl (iRa1 0 V rfl T.z_range (q_sh (q_fdiv (xS 0 V (by decide) rfl rfl) (q_sh q_int)))) (by decide) (gV' 2 V (by decide) rfl rfl (by decide))
    (qs_one (sA (ts := [1]) (q_frz (q_mul (xS 1 V (by decide) rfl rfl) (q_sh q_int))) (gV' 1 V (by decide) rfl rfl (by decide)))) (hK := rfl))
    (qs_cons (own1 := []) (qs_if (qt_cmpO (ck_eq rfl hu) (q_sh (q_mod (xS 0 V (by decide) rfl rfl) (q_sh q_int))) (q_sh q_int) rfl)
    (qs_one (qs_ret (q_frz (q_mul (xS 1 V (by decide) rfl rfl) (q_sh q_int)))))
    qs_nil)
    (qs_one (qs_ret (xV 1 V (by decide) rfl (by decide) rfl))))))
abbrev N_greatest : List Str := ["letters"]
theorem ok_greatest (T : Txt K mg EC fa fd) : FnOk P w K mg base (L2.CX P w) 2 (fa 1) (fd 1) ["letters"] (spM K EC 1 f_greatest) := by
  unfold f_greatest b_greatest
  refine fn_ok (k := 1) (N := N_greatest) (own' := []) T.F1 (C8.fnScope_by (by decide +kernel)) rfl (by decide) (fun cdv A outer s H E Z hr => ?_)
  have V : Scp (cxOf (L2.CX P w) P w K mg base N_greatest "greatest" (defScope s_greatest) (fa 1) cdv A outer s H E) [0] [0] ["worth_of", "len"] := scp_def (by decide +kernel)
  have tk := tk_def (P := P) (w := w) (K := K) (mg := mg) (base := base) (N := N_greatest) (qual := "greatest") (scope := defScope s_greatest) (f := fa 1) (cd := cdv) (A := A) (outer := outer) (s := s) (H := H) (E := E)
  have hp := ps_def (P := P) (w := w) (K := K) (mg := mg) (base := base) (N := N_greatest) (qual := "greatest") (scope := defScope s_greatest) (f := fa 1) (cd := cdv) (A := A) (outer := outer) (s := s) (H := H) (E := E)
  have hu := hr.units
  have hu1 := hu_of hr
  exact (qs_one (qs_ret (q_frz (q_sub (q_sh (q_mul (q_sh q_int) (q_sh (cDef 0 V (ok_worth_of T) rfl hr (by first | decide | omega) rfl T.g0 T.k0 T.b0 tk (qa_cons (q_frz (q_sub (q_sh (cB1 (B_len rfl) 1 V rfl T.z_len (xS 0 V (by decide) rfl rfl))) (q_sh q_int))) qa_nil) (lnS ln0))))) (q_sh q_int)))))
abbrev N_written_figure : List Str := ["letters", "place", "figure", "own", "part"]
theorem ok_written_figure (T : Txt K mg EC fa fd) : FnOk P w K mg base (L2.CX P w) 1 (fa 2) (fd 2) ["letters", "place", "figure"] (spM K EC 3 f_written_figure) := by
  unfold f_written_figure b_written_figure
  refine fn_ok (k := 0) (N := N_written_figure) (own' := []) T.F2 (C8.fnScope_by (by decide +kernel)) rfl (by decide) (fun cdv A outer s H E Z hr => ?_)
  have V : Scp (cxOf (L2.CX P w) P w K mg base N_written_figure "written_figure" (defScope s_written_figure) (fa 2) cdv A outer s H E) [0, 1, 2, 3] [0, 1, 2, 3] ["SHAPES"] := scp_def (by decide +kernel)
  have tk := tk_def (P := P) (w := w) (K := K) (mg := mg) (base := base) (N := N_written_figure) (qual := "written_figure") (scope := defScope s_written_figure) (f := fa 2) (cd := cdv) (A := A) (outer := outer) (s := s) (H := H) (E := E)
  have hp := ps_def (P := P) (w := w) (K := K) (mg := mg) (base := base) (N := N_written_figure) (qual := "written_figure") (scope := defScope s_written_figure) (f := fa 2) (cd := cdv) (A := A) (outer := outer) (s := s) (H := H) (E := E)
  have hu := hr.units
  have hu1 := hu_of hr
  exact (qs_cons (own1 := []) (sA (ts := [3]) (q_frz (q_disp (pps_cons (q_sh (q_str (by decide +kernel))) (q_idx rfl hu1 (xS 0 V (by decide) rfl rfl) (xS 1 V (by decide) rfl rfl) (fun _ _ => rfl)) (pps_cons (q_sh (q_str (by decide +kernel))) (q_frz (q_sli rfl (xS 0 V (by decide) rfl rfl) (qp_some (q_sh (q_add rfl (xS 1 V (by decide) rfl rfl) (q_sh q_int)))) (qp_some (q_sh (q_add rfl (xS 1 V (by decide) rfl rfl) (q_sh q_int)))))) (pps_cons (q_sh (q_str (by decide +kernel))) (q_frz (q_sli rfl (xS 0 V (by decide) rfl rfl) (qp_some (q_sh (q_add rfl (xS 1 V (by decide) rfl rfl) (q_sh q_int)))) (qp_some (q_sh (q_add rfl (xS 1 V (by decide) rfl rfl) (q_sh q_int)))))) pps_nil))) rfl rfl (by simp) (by decide) (by decide))) (gV' 3 V (by decide) rfl rfl (by decide)))
    (qs_one (qs_ret (q_frz (q_join rfl (q_sh (q_str (by decide +kernel))) (q_sh (xLc V rfl (qi_of rfl (q_idx rfl hu1 (q_sh (xG 0 V rfl T.c_SHAPES)) (xS 2 V (by decide) rfl rfl) (fun _ _ => rfl))) (ob := [("part", 4)]) (okD (N := N_written_figure) (by decide +kernel)) rfl rfl (N := N_written_figure) (vis1 := [3, 4]) (loc1 := [4]) (gls1 := []) (by decide +kernel) rfl (fun _ _ _ _ _ V1 => (gV' 4 V1 (by decide) rfl rfl (by decide))) (fun _ _ _ _ _ V1 => qts_nil) (fun _ _ _ _ _ V1 => (q_idx rfl hu1 (xS 3 V1 (by decide) rfl rfl) (xS 4 V1 (by decide) rfl rfl) (fun _ _ => rfl))))))))))
abbrev N_write_strokes : List Str := ["letters", "number", "out", "place"]
theorem ok_write_strokes (T : Txt K mg EC fa fd) : FnOk P w K mg base (L2.CX P w) 3 (fa 3) (fd 3) ["letters", "number"] (spM K EC 2 f_write_strokes) := by
  unfold f_write_strokes b_write_strokes
  refine fn_ok (k := 2) (N := N_write_strokes) (own' := []) T.F3 (C8.fnScope_by (by decide +kernel)) rfl (by decide) (fun cdv A outer s H E Z hr => ?_)
  have V : Scp (cxOf (L2.CX P w) P w K mg base N_write_strokes "write_strokes" (defScope s_write_strokes) (fa 3) cdv A outer s H E) [0, 1, 2, 3] [0, 1, 2, 3] ["greatest", "NumberOutOfRange", "range", "len", "written_figure"] := scp_def (by decide +kernel)
  have tk := tk_def (P := P) (w := w) (K := K) (mg := mg) (base := base) (N := N_write_strokes) (qual := "write_strokes") (scope := defScope s_write_strokes) (f := fa 3) (cd := cdv) (A := A) (outer := outer) (s := s) (H := H) (E := E)
  have hp := ps_def (P := P) (w := w) (K := K) (mg := mg) (base := base) (N := N_write_strokes) (qual := "write_strokes") (scope := defScope s_write_strokes) (f := fa 3) (cd := cdv) (A := A) (outer := outer) (s := s) (H := H) (E := E)
  have hu := hr.units
  have hu1 := hu_of hr
  exact (qs_cons (own1 := []) (qs_if (qt_not (qt_chain ck_le ck_le (q_sh q_int) (xS 1 V (by decide) rfl rfl) (q_sh (cDef 0 V (ok_greatest T) rfl hr (by first | decide | omega) rfl T.g1 T.k1 T.b1 tk (qa_cons (xV 0 V (by decide) rfl (by decide) rfl) qa_nil) (lnS ln0)))))
    (qs_one (sRse 2 1 V rfl tk T.er rfl T.e_NumberOutOfRange))
    qs_nil)
    (qs_cons (own1 := []) (sA (ts := [2]) (q_str (by decide +kernel)) (gV' 2 V (by decide) rfl rfl (by decide)))
    (qs_cons (own1 := []) (qs_for (own' := []) (own1 := []) (ts := [3]) hp rfl (iRa3 2 V rfl T.z_range (q_sh q_int) (q_sh (cB1 (B_len rfl) 3 V rfl T.z_len (xS 0 V (by decide) rfl rfl))) (q_sh q_int)) (by decide) (gV' 3 V (by decide) rfl rfl (by decide))
    (qs_cons (own1 := []) (sA (ts := [2]) (q_frz (q_add rfl (q_sh (cDef 4 V (ok_written_figure T) rfl hr (by first | decide | omega) rfl T.g2 T.k2 T.b2 tk (qa_cons (xV 0 V (by decide) rfl (by decide) rfl) (qa_cons (xV 3 V (by decide) rfl (by decide) rfl) (qa_cons (q_frz (q_mod (xS 1 V (by decide) rfl rfl) (q_sh q_int))) qa_nil))) (lnS (lnS (lnS ln0))))) (xS 2 V (by decide) rfl rfl))) (gV' 2 V (by decide) rfl rfl (by decide)))
    (qs_one (sA (ts := [1]) (q_frz (q_fdiv (xS 1 V (by decide) rfl rfl) (q_sh q_int))) (gV' 1 V (by decide) rfl rfl (by decide))))) (hK := rfl))
    (qs_one (qs_ret (xV 2 V (by decide) rfl (by decide) rfl))))))
abbrev N_sum_of_strokes : List Str := ["letters", "text", "worths", "total", "k", "worth", "sign"]
theorem ok_sum_of_strokes (T : Txt K mg EC fa fd) : FnOk P w K mg base (L2.CX P w) 2 (fa 4) (fd 4) ["letters", "text"] (spM K EC 2 f_sum_of_strokes) := by
  unfold f_sum_of_strokes b_sum_of_strokes
  refine fn_ok (k := 1) (N := N_sum_of_strokes) (own' := []) T.F4 (C8.fnScope_by (by decide +kernel)) rfl (by decide) (fun cdv A outer s H E Z hr => ?_)
  have V : Scp (cxOf (L2.CX P w) P w K mg base N_sum_of_strokes "sum_of_strokes" (defScope s_sum_of_strokes) (fa 4) cdv A outer s H E) [0, 1, 2, 3, 4, 5] [0, 1, 2, 3, 4, 5] ["enumerate", "len"] := scp_def (by decide +kernel)
  have tk := tk_def (P := P) (w := w) (K := K) (mg := mg) (base := base) (N := N_sum_of_strokes) (qual := "sum_of_strokes") (scope := defScope s_sum_of_strokes) (f := fa 4) (cd := cdv) (A := A) (outer := outer) (s := s) (H := H) (E := E)
  have hp := ps_def (P := P) (w := w) (K := K) (mg := mg) (base := base) (N := N_sum_of_strokes) (qual := "sum_of_strokes") (scope := defScope s_sum_of_strokes) (f := fa 4) (cd := cdv) (A := A) (outer := outer) (s := s) (H := H) (E := E)
  have hu := hr.units
  have hu1 := hu_of hr
  exact (qs_cons (own1 := [2]) (sLc 2 V rfl (lcl_def (by decide +kernel)) rfl (by rfl) (qi_of rfl (xV 1 V (by decide) rfl (by decide) rfl)) (ob := [("sign", 6)]) (okD (N := N_sum_of_strokes) (by decide +kernel)) rfl rfl (N := N_sum_of_strokes) (vis1 := [0, 6]) (loc1 := [6]) (gls1 := ["worth_of"]) (by decide +kernel) rfl (fun _ _ _ _ _ V1 => (gV' 6 V1 (by decide) rfl rfl (by decide))) (fun _ _ _ _ _ V1 => qts_nil) (fun _ _ _ _ _ V1 => (cDef 0 V1 (ok_worth_of T) rfl hr (by first | decide | omega) rfl T.g0 T.k0 T.b0 takes0 (qa_cons (q_frz (q_index (xS 0 V1 (by decide) rfl rfl) (xS 6 V1 (by decide) rfl rfl))) qa_nil) (lnS ln0))) rfl)
    (qs_cons (own1 := [2]) (sA (ts := [3]) q_int (gV' 3 V (by decide) rfl rfl (by decide)))
    (qs_cons (own1 := []) (qs_pre1 (own := []) (qs_for (own' := []) (own1 := []) (ts := [4, 5]) hp rfl (iEnu 0 V rfl rfl T.z_enumerate (xV 2 V (by decide) rfl (by decide) rfl)) (by decide) (qg_tup rfl rfl (qgs_cons (gV' 4 V (by decide) rfl rfl (by decide)) (qgs_cons (gV' 5 V (by decide) rfl rfl (by decide)) qgs_nil)))
    (qs_one (qs_if (qw_and (qt_cmpO ck_lt (q_sh (q_add rfl (xS 4 V (by decide) rfl rfl) (q_sh q_int))) (q_sh (cB1 (B_len rfl) 1 V rfl T.z_len (xS 2 V (by decide) rfl rfl))) rfl) (qw_and1 (qt_cmpO ck_gt (q_sh (q_idx rfl hu1 (xS 2 V (by decide) rfl rfl) (q_sh (q_add rfl (xS 4 V (by decide) rfl rfl) (q_sh q_int))) (fun _ _ => rfl))) (xS 5 V (by decide) rfl rfl) rfl))).pt
    (qs_one (sSubE 3 V (by decide) rfl (by decide) rfl (xS 5 V (by decide) rfl rfl)))
    (qs_one (sAddE 3 V (by decide) rfl (by decide) rfl (xS 5 V (by decide) rfl rfl))))) (hK := rfl)) (by decide))
    (qs_one (qs_ret (xV 3 V (by decide) rfl (by decide) rfl))))))
abbrev N_read_strokes : List Str := ["letters", "text", "number", "sign"]
theorem ok_read_strokes (T : Txt K mg EC fa fd) : FnOk P w K mg base (L2.CX P w) 4 (fa 5) (fd 5) ["letters", "text"] (spM K EC 2 f_read_strokes) := by
  unfold f_read_strokes b_read_strokes
  refine fn_ok (k := 3) (N := N_read_strokes) (own' := []) T.F5 (C8.fnScope_by (by decide +kernel)) rfl (by decide) (fun cdv A outer s H E Z hr => ?_)
  have V : Scp (cxOf (L2.CX P w) P w K mg base N_read_strokes "read_strokes" (defScope s_read_strokes) (fa 5) cdv A outer s H E) [0, 1, 2] [0, 1, 2] ["all", "NotNumber", "sum_of_strokes", "greatest", "write_strokes"] := scp_def (by decide +kernel)
  have tk := tk_def (P := P) (w := w) (K := K) (mg := mg) (base := base) (N := N_read_strokes) (qual := "read_strokes") (scope := defScope s_read_strokes) (f := fa 5) (cd := cdv) (A := A) (outer := outer) (s := s) (H := H) (E := E)
  have hp := ps_def (P := P) (w := w) (K := K) (mg := mg) (base := base) (N := N_read_strokes) (qual := "read_strokes") (scope := defScope s_read_strokes) (f := fa 5) (cd := cdv) (A := A) (outer := outer) (s := s) (H := H) (E := E)
  have hu := hr.units
  have hu1 := hu_of hr
  exact (qs_cons (own1 := []) (qs_if (qt_not (qt_val (q_sh (cB1 (B_all rfl rfl) 0 V rfl T.z_all (q_sh (xLc V rfl (qi_of rfl (xV 1 V (by decide) rfl (by decide) rfl)) (ob := [("sign", 3)]) (okD (N := N_read_strokes) (by decide +kernel)) rfl rfl (N := N_read_strokes) (vis1 := [0, 3]) (loc1 := [3]) (gls1 := []) (by decide +kernel) rfl (fun _ _ _ _ _ V1 => (gV' 3 V1 (by decide) rfl rfl (by decide))) (fun _ _ _ _ _ V1 => qts_nil) (fun _ _ _ _ _ V1 => (q_frz (q_cmpO (ck_in rfl hu) (xS 3 V1 (by decide) rfl rfl) (xS 0 V1 (by decide) rfl rfl) rfl)))))))))
    (qs_one (sRse 3 1 V rfl tk T.er rfl T.e_NotNumber))
    qs_nil)
    (qs_cons (own1 := []) (sA (ts := [2]) (cDef 2 V (ok_sum_of_strokes T) rfl hr (by first | decide | omega) rfl T.g4 T.k4 T.b4 tk (qa_cons (xV 0 V (by decide) rfl (by decide) rfl) (qa_cons (xV 1 V (by decide) rfl (by decide) rfl) qa_nil)) (lnS (lnS ln0))) (gV' 2 V (by decide) rfl rfl (by decide)))
    (qs_cons (own1 := []) (qs_if (qw_or (qt_not (qt_chain ck_le ck_le (q_sh q_int) (xS 2 V (by decide) rfl rfl) (q_sh (cDef 3 V (ok_greatest T) rfl hr (by first | decide | omega) rfl T.g1 T.k1 T.b1 tk (qa_cons (xV 0 V (by decide) rfl (by decide) rfl) qa_nil) (lnS ln0))))) (qw_or1 (qt_cmpO (ck_ne rfl hu) (q_sh (cDef 4 V (ok_write_strokes T) rfl hr (by first | decide | omega) rfl T.g3 T.k3 T.b3 tk (qa_cons (xV 0 V (by decide) rfl (by decide) rfl) (qa_cons (xV 2 V (by decide) rfl (by decide) rfl) qa_nil)) (lnS (lnS ln0)))) (xS 1 V (by decide) rfl rfl) rfl))).pt
    (qs_one (sRse 3 1 V rfl tk T.er rfl T.e_NotNumber))
    qs_nil)
    (qs_one (qs_ret (xV 2 V (by decide) rfl (by decide) rfl))))))
abbrev N__law_cell : List Str := ["script", "k"]
theorem ok__law_cell (T : Txt K mg EC fa fd) : FnOk P w K mg base (L2.CX P w) 1 (fa 6) (fd 6) ["script", "k"] (spM K EC 2 f__law_cell) := by
  unfold f__law_cell b__law_cell
  refine fn_ok (k := 0) (N := N__law_cell) (own' := []) T.F6 (C8.fnScope_by (by decide +kernel)) rfl (by decide) (fun cdv A outer s H E Z hr => ?_)
  have V : Scp (cxOf (L2.CX P w) P w K mg base N__law_cell "_law_cell" (defScope s__law_cell) (fa 6) cdv A outer s H E) [0, 1] [0, 1] ["len", "int"] := scp_def (by decide +kernel)
  have tk := tk_def (P := P) (w := w) (K := K) (mg := mg) (base := base) (N := N__law_cell) (qual := "_law_cell") (scope := defScope s__law_cell) (f := fa 6) (cd := cdv) (A := A) (outer := outer) (s := s) (H := H) (E := E)
  have hp := ps_def (P := P) (w := w) (K := K) (mg := mg) (base := base) (N := N__law_cell) (qual := "_law_cell") (scope := defScope s__law_cell) (f := fa 6) (cd := cdv) (A := A) (outer := outer) (s := s) (H := H) (E := E)
  have hu := hr.units
  have hu1 := hu_of hr
  exact (qs_cons (own1 := []) (qs_if (qt_cmpO ck_lt (xS 1 V (by decide) rfl rfl) (q_sh (cB1 (B_len rfl) 0 V rfl T.z_len (xS 0 V (by decide) rfl rfl))) rfl)
    (qs_one (qs_ret (q_frz (cT1 (T_int) 1 V rfl T.z_int (q_sh (q_idx rfl hu1 (xS 0 V (by decide) rfl rfl) (xS 1 V (by decide) rfl rfl) (fun _ _ => rfl)))))))
    qs_nil)
    (qs_one (qs_ret q_int)))
abbrev N__law_numbers : List Str := ["cell", "count", "limit", "found", "rest", "k", "mixed"]
theorem ok__law_numbers (T : Txt K mg EC fa fd) : FnOk P w K mg base (L2.CX P w) 1 (fa 7) (fd 7) ["cell", "count", "limit"] (spM K EC 3 f__law_numbers) := by
  unfold f__law_numbers b__law_numbers
  refine fn_ok (k := 0) (N := N__law_numbers) (own' := []) T.F7 (C8.fnScope_by (by decide +kernel)) rfl (by decide) (fun cdv A outer s H E Z hr => ?_)
  have V : Scp (cxOf (L2.CX P w) P w K mg base N__law_numbers "_law_numbers" (defScope s__law_numbers) (fa 7) cdv A outer s H E) [0, 1, 2, 3, 4, 5, 6] [0, 1, 2, 3, 4, 5, 6] ["range", "int"] := scp_def (by decide +kernel)
  have tk := tk_def (P := P) (w := w) (K := K) (mg := mg) (base := base) (N := N__law_numbers) (qual := "_law_numbers") (scope := defScope s__law_numbers) (f := fa 7) (cd := cdv) (A := A) (outer := outer) (s := s) (H := H) (E := E)
  have hp := ps_def (P := P) (w := w) (K := K) (mg := mg) (base := base) (N := N__law_numbers) (qual := "_law_numbers") (scope := defScope s__law_numbers) (f := fa 7) (cd := cdv) (A := A) (outer := outer) (s := s) (H := H) (E := E)
  have hu := hr.units
  have hu1 := hu_of hr
  exact (qs_cons (own1 := [3]) (sN 3 V (by decide) rfl (q_lst qa_nil) (ho := rfl))
    (qs_cons (own1 := [3]) (sA (ts := [4]) (xV 0 V (by decide) rfl (by decide) rfl) (gV' 4 V (by decide) rfl rfl (by decide)))
    (qs_cons (own1 := [3]) (qs_for (own' := [3]) (own1 := [3]) (ts := [5]) hp rfl (iRa1 0 V rfl T.z_range (xS 1 V (by decide) rfl rfl)) (by decide) (gV' 5 V (by decide) rfl rfl (by decide))
    (qs_one (qs_if (qw_and (qt_cmpO ck_ge (xS 0 V (by decide) rfl rfl) (q_sh (q_pow (q_sh q_int) (q_sh q_int))) rfl) (qw_and1 (qt_cmpO ck_gt (xS 4 V (by decide) rfl rfl) (q_sh q_int) rfl))).pt
    (qs_cons (own1 := [3]) (sApd 3 V (by decide) rfl rfl (by decide) (q_frz (q_mod (q_sh (cT1 (T_int) 1 V rfl T.z_int (xS 4 V (by decide) rfl rfl))) (xS 2 V (by decide) rfl rfl))))
    (qs_one (sA (ts := [4]) (q_frz (q_fdiv (q_sh (cT1 (T_int) 1 V rfl T.z_int (xS 4 V (by decide) rfl rfl))) (xS 2 V (by decide) rfl rfl))) (gV' 4 V (by decide) rfl rfl (by decide)))))
    (qs_cons (own1 := [3]) (sA (ts := [6]) (q_frz (q_mod (q_sh (cT1 (T_int) 1 V rfl T.z_int (q_sh (q_add rfl (q_sh (q_add rfl (q_sh (q_mul (xS 0 V (by decide) rfl rfl) (q_sh q_int))) (q_sh (q_mul (xS 5 V (by decide) rfl rfl) (q_sh q_int))))) (q_sh q_int))))) (q_sh q_int))) (gV' 6 V (by decide) rfl rfl (by decide)))
    (qs_cons (own1 := [3]) (sA (ts := [6]) (q_frz (q_mod (q_sh (cT1 (T_int) 1 V rfl T.z_int (q_sh (q_add rfl (q_sh (q_add rfl (q_sh (q_add rfl (q_sh (q_mul (xS 6 V (by decide) rfl rfl) (xS 6 V (by decide) rfl rfl))) (q_sh (q_mul (xS 6 V (by decide) rfl rfl) (q_sh q_int))))) (q_sh (q_mul (xS 5 V (by decide) rfl rfl) (q_sh q_int))))) (q_sh q_int))))) (q_sh q_int))) (gV' 6 V (by decide) rfl rfl (by decide)))
    (qs_one (sApd 3 V (by decide) rfl rfl (by decide) (q_frz (q_mod (q_sh (cT1 (T_int) 1 V rfl T.z_int (q_sh (q_fdiv (xS 6 V (by decide) rfl rfl) (q_sh q_int))))) (xS 2 V (by decide) rfl rfl))))))))) (hK := rfl))
    (qs_one (qs_pre1 (own := []) (qs_ret (xV 3 V (by decide) rfl (by decide) rfl)) (by decide))))))
abbrev N__law_same : List Str := ["answer", "due", "k"]
theorem ok__law_same (T : Txt K mg EC fa fd) : ∀ n : Nat, FnOk P w K mg base (L2.CX P w) (n + 1) (fa 8) (fd 8) ["answer", "due"] (spM K EC 2 (f__law_same n))
  | 0 => ⟨fun vs H Q E h => h.1, fun A outer s H args us vs Q E hr he hb hv h => by obtain ⟨_, _, _, _, _, h⟩ := h; exact h.elim⟩
  | n + 1 => by
    have IH := ok__law_same T n
    have lvIH := Nat.le_refl (n + 1)
    show FnOk P w K mg base (L2.CX P w) ((n + 1) + 1) (fa 8) (fd 8) ["answer", "due"] (spM K EC 2 (run 3 (b__law_same (f__law_same n))))
    generalize f__law_same n = IHm at IH ⊢
    unfold b__law_same
    refine fn_ok (k := n + 1) (N := N__law_same) (own' := []) T.F8 (C8.fnScope_by (by decide +kernel)) rfl (by decide) (fun cdv A outer s H E Z hr => ?_)
    have V : Scp (cxOf (L2.CX P w) P w K mg base N__law_same "_law_same" (defScope s__law_same) (fa 8) cdv A outer s H E) [0, 1, 2] [0, 1, 2] ["isinstance", "list", "len", "tuple", "bool", "int", "str", "range", "_law_same"] := scp_def (by decide +kernel)
    have tk := tk_def (P := P) (w := w) (K := K) (mg := mg) (base := base) (N := N__law_same) (qual := "_law_same") (scope := defScope s__law_same) (f := fa 8) (cd := cdv) (A := A) (outer := outer) (s := s) (H := H) (E := E)
    have hp := ps_def (P := P) (w := w) (K := K) (mg := mg) (base := base) (N := N__law_same) (qual := "_law_same") (scope := defScope s__law_same) (f := fa 8) (cd := cdv) (A := A) (outer := outer) (s := s) (H := H) (E := E)
    have hu := hr.units
    have hu1 := hu_of hr
    exact (qs_cons (own1 := []) (qs_if (qt_val (q_sh (cIsi (T := .list) 0 1 V rfl rfl T.z_isinstance rfl rfl T.z_list (xS 1 V (by decide) rfl rfl))))
    (qs_one (qs_if (qw_or (qt_not (qt_val (q_sh (cIsi (T := .list) 0 1 V rfl rfl T.z_isinstance rfl rfl T.z_list (xS 0 V (by decide) rfl rfl))))) (qw_or1 (qt_cmpO (ck_ne rfl hu) (q_sh (cB1 (B_len rfl) 2 V rfl T.z_len (xS 0 V (by decide) rfl rfl))) (q_sh (cB1 (B_len rfl) 2 V rfl T.z_len (xS 1 V (by decide) rfl rfl))) rfl))).pt
    (qs_one (qs_ret q_bl))
    qs_nil))
    (qs_one (qs_if (qt_val (q_sh (cIsi (T := .tuple) 0 3 V rfl rfl T.z_isinstance rfl rfl T.z_tuple (xS 1 V (by decide) rfl rfl))))
    (qs_one (qs_if (qw_or (qt_not (qt_val (q_sh (cIsi (T := .tuple) 0 3 V rfl rfl T.z_isinstance rfl rfl T.z_tuple (xS 0 V (by decide) rfl rfl))))) (qw_or1 (qt_cmpO (ck_ne rfl hu) (q_sh (cB1 (B_len rfl) 2 V rfl T.z_len (xS 0 V (by decide) rfl rfl))) (q_sh (cB1 (B_len rfl) 2 V rfl T.z_len (xS 1 V (by decide) rfl rfl))) rfl))).pt
    (qs_one (qs_ret q_bl))
    qs_nil))
    (qs_one (qs_if (qt_isN (xS 1 V (by decide) rfl rfl))
    (qs_one (qs_ret (q_frz (q_isN (xS 0 V (by decide) rfl rfl)))))
    (qs_one (qs_if (qt_val (q_sh (cIsi (T := .bool) 0 4 V rfl rfl T.z_isinstance rfl rfl T.z_bool (xS 1 V (by decide) rfl rfl))))
    (qs_one (qs_ret (q_and (q_sh (cIsi (T := .bool) 0 4 V rfl rfl T.z_isinstance rfl rfl T.z_bool (xS 0 V (by decide) rfl rfl))) (q_one (q_frz (q_cmpO (ck_eq rfl hu) (xS 0 V (by decide) rfl rfl) (xS 1 V (by decide) rfl rfl) rfl))))))
    (qs_one (qs_if (qt_val (q_sh (cIsi (T := .int) 0 5 V rfl rfl T.z_isinstance rfl rfl T.z_int (xS 1 V (by decide) rfl rfl))))
    (qs_one (qs_ret (q_and (q_sh (cIsi (T := .int) 0 5 V rfl rfl T.z_isinstance rfl rfl T.z_int (xS 0 V (by decide) rfl rfl))) (q_and (q_sh (q_not (q_sh (cIsi (T := .bool) 0 4 V rfl rfl T.z_isinstance rfl rfl T.z_bool (xS 0 V (by decide) rfl rfl))))) (q_one (q_frz (q_cmpO (ck_eq rfl hu) (xS 0 V (by decide) rfl rfl) (xS 1 V (by decide) rfl rfl) rfl)))))))
    (qs_one (qs_ret (q_and (q_sh (cIsi (T := .str) 0 6 V rfl rfl T.z_isinstance rfl rfl T.z_str (xS 0 V (by decide) rfl rfl))) (q_one (q_frz (q_cmpO (ck_eq rfl hu) (xS 0 V (by decide) rfl rfl) (xS 1 V (by decide) rfl rfl) rfl)))))))))))))))
    (qs_cons (own1 := []) (qs_for (own' := []) (own1 := []) (ts := [2]) hp rfl (iRa1 7 V rfl T.z_range (q_sh (cB1 (B_len rfl) 2 V rfl T.z_len (xS 1 V (by decide) rfl rfl)))) (by decide) (gV' 2 V (by decide) rfl rfl (by decide))
    (qs_one (qs_if (qt_not (qt_val (q_sh (cDef 8 V IH rfl hr (by first | decide | omega) rfl T.g8 T.k8 T.b8 tk (qa_cons (q_idx rfl hu1 (xS 0 V (by decide) rfl rfl) (xS 2 V (by decide) rfl rfl) (fun _ _ => rfl)) (qa_cons (q_idx rfl hu1 (xS 1 V (by decide) rfl rfl) (xS 2 V (by decide) rfl rfl) (fun _ _ => rfl)) qa_nil)) (lnS (lnS ln0))))))
    (qs_one (qs_ret q_bl))
    qs_nil)) (hK := rfl))
    (qs_one (qs_ret q_bl))))
abbrev N__law_signs : List Str := ["draw", "count", "pool", "k"]
theorem ok__law_signs (T : Txt K mg EC fa fd) : FnOk P w K mg base (L2.CX P w) 1 (fa 9) (fd 9) ["draw", "count"] (spM K EC 2 f__law_signs) := by
  unfold f__law_signs b__law_signs
  refine fn_ok (k := 0) (N := N__law_signs) (own' := []) T.F9 (C8.fnScope_by (by decide +kernel)) rfl (by decide) (fun cdv A outer s H E Z hr => ?_)
  have V : Scp (cxOf (L2.CX P w) P w K mg base N__law_signs "_law_signs" (defScope s__law_signs) (fa 9) cdv A outer s H E) [0, 1, 2] [0, 1, 2] ["range"] := scp_def (by decide +kernel)
  have tk := tk_def (P := P) (w := w) (K := K) (mg := mg) (base := base) (N := N__law_signs) (qual := "_law_signs") (scope := defScope s__law_signs) (f := fa 9) (cd := cdv) (A := A) (outer := outer) (s := s) (H := H) (E := E)
  have hp := ps_def (P := P) (w := w) (K := K) (mg := mg) (base := base) (N := N__law_signs) (qual := "_law_signs") (scope := defScope s__law_signs) (f := fa 9) (cd := cdv) (A := A) (outer := outer) (s := s) (H := H) (E := E)
  have hu := hr.units
  have hu1 := hu_of hr
  exact (qs_cons (own1 := []) (sA (ts := [2]) (q_str (by decide +kernel)) (gV' 2 V (by decide) rfl rfl (by decide)))
    (qs_one (qs_ret (q_frz (q_join rfl (q_sh (q_str (by decide +kernel))) (q_sh (xLc V rfl (iRa1 0 V rfl T.z_range (xS 1 V (by decide) rfl rfl)) (ob := [("k", 3)]) (okD (N := N__law_signs) (by decide +kernel)) rfl rfl (N := N__law_signs) (vis1 := [0, 2, 3]) (loc1 := [3]) (gls1 := []) (by decide +kernel) rfl (fun _ _ _ _ _ V1 => (gV' 3 V1 (by decide) rfl rfl (by decide))) (fun _ _ _ _ _ V1 => qts_nil) (fun _ _ _ _ _ V1 => (q_idx rfl hu1 (xS 2 V1 (by decide) rfl rfl) (q_sh (q_mod (q_sh (q_add rfl (xS 0 V1 (by decide) rfl rfl) (q_sh (q_mul (xS 3 V1 (by decide) rfl rfl) (q_sh (q_add rfl (q_sh q_int) (q_sh (q_mod (q_sh (q_fdiv (xS 0 V1 (by decide) rfl rfl) (q_sh q_int))) (q_sh q_int))))))))) (q_sh q_int))) (fun _ _ => rfl))))))))))
abbrev N__law_pieces : List Str := ["letters", "found", "worth", "k", "more"]
theorem ok__law_pieces (T : Txt K mg EC fa fd) : FnOk P w K mg base (L2.CX P w) 1 (fa 10) (fd 10) ["letters"] (spM K EC 1 f__law_pieces) := by
  unfold f__law_pieces b__law_pieces
  refine fn_ok (k := 0) (N := N__law_pieces) (own' := []) T.F10 (C8.fnScope_by (by decide +kernel)) rfl (by decide) (fun cdv A outer s H E Z hr => ?_)
  have V : Scp (cxOf (L2.CX P w) P w K mg base N__law_pieces "_law_pieces" (defScope s__law_pieces) (fa 10) cdv A outer s H E) [0, 1, 2, 3, 4] [0, 1, 2, 3, 4] ["range", "len"] := scp_def (by decide +kernel)
  have tk := tk_def (P := P) (w := w) (K := K) (mg := mg) (base := base) (N := N__law_pieces) (qual := "_law_pieces") (scope := defScope s__law_pieces) (f := fa 10) (cd := cdv) (A := A) (outer := outer) (s := s) (H := H) (E := E)
  have hp := ps_def (P := P) (w := w) (K := K) (mg := mg) (base := base) (N := N__law_pieces) (qual := "_law_pieces") (scope := defScope s__law_pieces) (f := fa 10) (cd := cdv) (A := A) (outer := outer) (s := s) (H := H) (E := E)
  have hu := hr.units
  have hu1 := hu_of hr
  exact (qs_cons (own1 := []) (sA (ts := [1]) (q_frz (q_lst qa_nil)) (gV' 1 V (by decide) rfl rfl (by decide)))
    (qs_cons (own1 := []) (sA (ts := [2]) q_int (gV' 2 V (by decide) rfl rfl (by decide)))
    (qs_cons (own1 := []) (qs_for (own' := []) (own1 := []) (ts := [3]) hp rfl (iRa3 0 V rfl T.z_range (q_sh q_int) (q_sh (cB1 (B_len rfl) 1 V rfl T.z_len (xS 0 V (by decide) rfl rfl))) (q_sh q_int)) (by decide) (gV' 3 V (by decide) rfl rfl (by decide))
    (qs_cons (own1 := []) (sA (ts := [4]) (q_frz (q_lst (qa_cons (q_tup (qa_cons (xV 2 V (by decide) rfl (by decide) rfl) (qa_cons (q_idx rfl hu1 (xS 0 V (by decide) rfl rfl) (xS 3 V (by decide) rfl rfl) (fun _ _ => rfl)) qa_nil))) qa_nil))) (gV' 4 V (by decide) rfl rfl (by decide)))
    (qs_cons (own1 := []) (qs_if (qt_cmpO ck_lt (q_sh (q_add rfl (xS 3 V (by decide) rfl rfl) (q_sh q_int))) (q_sh (cB1 (B_len rfl) 1 V rfl T.z_len (xS 0 V (by decide) rfl rfl))) rfl)
    (qs_one (sA (ts := [4]) (q_frz (q_add rfl (xS 4 V (by decide) rfl rfl) (q_sh (q_lst (qa_cons (q_tup (qa_cons (q_frz (q_mul (xS 2 V (by decide) rfl rfl) (q_sh q_int))) (qa_cons (q_frz (q_add rfl (q_sh (q_idx rfl hu1 (xS 0 V (by decide) rfl rfl) (xS 3 V (by decide) rfl rfl) (fun _ _ => rfl))) (q_sh (q_idx rfl hu1 (xS 0 V (by decide) rfl rfl) (q_sh (q_add rfl (xS 3 V (by decide) rfl rfl) (q_sh q_int))) (fun _ _ => rfl))))) qa_nil))) (qa_cons (q_tup (qa_cons (q_frz (q_mul (xS 2 V (by decide) rfl rfl) (q_sh q_int))) (qa_cons (q_idx rfl hu1 (xS 0 V (by decide) rfl rfl) (q_sh (q_add rfl (xS 3 V (by decide) rfl rfl) (q_sh q_int))) (fun _ _ => rfl)) qa_nil))) (qa_cons (q_tup (qa_cons (q_frz (q_mul (xS 2 V (by decide) rfl rfl) (q_sh q_int))) (qa_cons (q_frz (q_add rfl (q_sh (q_idx rfl hu1 (xS 0 V (by decide) rfl rfl) (xS 3 V (by decide) rfl rfl) (fun _ _ => rfl))) (q_sh (q_idx rfl hu1 (xS 0 V (by decide) rfl rfl) (q_sh (q_add rfl (xS 3 V (by decide) rfl rfl) (q_sh q_int))) (fun _ _ => rfl))))) qa_nil))) qa_nil))))))) (gV' 4 V (by decide) rfl rfl (by decide))))
    qs_nil)
    (qs_cons (own1 := []) (sA (ts := [1]) (q_frz (q_add rfl (xS 1 V (by decide) rfl rfl) (xS 4 V (by decide) rfl rfl))) (gV' 1 V (by decide) rfl rfl (by decide)))
    (qs_one (sA (ts := [2]) (q_frz (q_mul (xS 2 V (by decide) rfl rfl) (q_sh q_int))) (gV' 2 V (by decide) rfl rfl (by decide))))))) (hK := rfl))
    (qs_one (qs_ret (q_frz (q_rev rfl (xS 1 V (by decide) rfl rfl))))))))
abbrev N__law_write : List Str := ["letters", "number", "out", "worth", "piece", "turn"]
theorem ok__law_write (T : Txt K mg EC fa fd) : FnOk P w K mg base (L2.CX P w) 2 (fa 11) (fd 11) ["letters", "number"] (spM K EC 2 f__law_write) := by
  unfold f__law_write b__law_write
  refine fn_ok (k := 1) (N := N__law_write) (own' := []) T.F11 (C8.fnScope_by (by decide +kernel)) rfl (by decide) (fun cdv A outer s H E Z hr => ?_)
  have V : Scp (cxOf (L2.CX P w) P w K mg base N__law_write "_law_write" (defScope s__law_write) (fa 11) cdv A outer s H E) [0, 1, 2, 3, 4, 5] [0, 1, 2, 3, 4, 5] ["_law_pieces", "range"] := scp_def (by decide +kernel)
  have tk := tk_def (P := P) (w := w) (K := K) (mg := mg) (base := base) (N := N__law_write) (qual := "_law_write") (scope := defScope s__law_write) (f := fa 11) (cd := cdv) (A := A) (outer := outer) (s := s) (H := H) (E := E)
  have hp := ps_def (P := P) (w := w) (K := K) (mg := mg) (base := base) (N := N__law_write) (qual := "_law_write") (scope := defScope s__law_write) (f := fa 11) (cd := cdv) (A := A) (outer := outer) (s := s) (H := H) (E := E)
  have hu := hr.units
  have hu1 := hu_of hr
  exact (qs_cons (own1 := []) (sA (ts := [2]) (q_str (by decide +kernel)) (gV' 2 V (by decide) rfl rfl (by decide)))
    (qs_cons (own1 := []) (qs_for (own' := []) (own1 := []) (ts := [3, 4]) hp rfl (qi_of rfl (cDef 0 V (ok__law_pieces T) rfl hr (by first | decide | omega) rfl T.g10 T.k10 T.b10 tk (qa_cons (xV 0 V (by decide) rfl (by decide) rfl) qa_nil) (lnS ln0))) (by decide) (qg_tup rfl rfl (qgs_cons (gV' 3 V (by decide) rfl rfl (by decide)) (qgs_cons (gV' 4 V (by decide) rfl rfl (by decide)) qgs_nil)))
    (qs_one (qs_for (own' := []) (own1 := []) (ts := [5]) hp rfl (iRa1 1 V rfl T.z_range (q_sh q_int)) (by decide) (gV' 5 V (by decide) rfl rfl (by decide))
    (qs_one (qs_if (qt_cmpO ck_ge (xS 1 V (by decide) rfl rfl) (xS 3 V (by decide) rfl rfl) rfl)
    (qs_cons (own1 := []) (sA (ts := [2]) (q_frz (q_add rfl (xS 2 V (by decide) rfl rfl) (xS 4 V (by decide) rfl rfl))) (gV' 2 V (by decide) rfl rfl (by decide)))
    (qs_one (sA (ts := [1]) (q_frz (q_sub (xS 1 V (by decide) rfl rfl) (xS 3 V (by decide) rfl rfl))) (gV' 1 V (by decide) rfl rfl (by decide)))))
    qs_nil)) (hK := rfl))) (hK := rfl))
    (qs_one (qs_ret (xV 2 V (by decide) rfl (by decide) rfl)))))
abbrev N__law_worths : List Str := ["letters", "text", "found", "sign", "at", "k"]
theorem ok__law_worths (T : Txt K mg EC fa fd) : FnOk P w K mg base (L2.CX P w) 1 (fa 12) (fd 12) ["letters", "text"] (spM K EC 2 f__law_worths) := by
  unfold f__law_worths b__law_worths
  refine fn_ok (k := 0) (N := N__law_worths) (own' := []) T.F12 (C8.fnScope_by (by decide +kernel)) rfl (by decide) (fun cdv A outer s H E Z hr => ?_)
  have V : Scp (cxOf (L2.CX P w) P w K mg base N__law_worths "_law_worths" (defScope s__law_worths) (fa 12) cdv A outer s H E) [0, 1, 2, 3, 4] [0, 1, 2, 3, 4] ["range", "len"] := scp_def (by decide +kernel)
  have tk := tk_def (P := P) (w := w) (K := K) (mg := mg) (base := base) (N := N__law_worths) (qual := "_law_worths") (scope := defScope s__law_worths) (f := fa 12) (cd := cdv) (A := A) (outer := outer) (s := s) (H := H) (E := E)
  have hp := ps_def (P := P) (w := w) (K := K) (mg := mg) (base := base) (N := N__law_worths) (qual := "_law_worths") (scope := defScope s__law_worths) (f := fa 12) (cd := cdv) (A := A) (outer := outer) (s := s) (H := H) (E := E)
  have hu := hr.units
  have hu1 := hu_of hr
  exact (qs_cons (own1 := [2]) (sN 2 V (by decide) rfl (q_lst qa_nil) (ho := rfl))
    (qs_cons (own1 := [2]) (qs_for (own' := [2]) (own1 := [2]) (ts := [3]) hp rfl (qi_of rfl (xV 1 V (by decide) rfl (by decide) rfl)) (by decide) (gV' 3 V (by decide) rfl rfl (by decide))
    (qs_cons (own1 := [4, 2]) (sLc 4 V rfl (lcl_def (by decide +kernel)) rfl (by rfl) (iRa1 0 V rfl T.z_range (q_sh (cB1 (B_len rfl) 1 V rfl T.z_len (xS 0 V (by decide) rfl rfl)))) (ob := [("k", 5)]) (okD (N := N__law_worths) (by decide +kernel)) rfl rfl (N := N__law_worths) (vis1 := [0, 3, 5]) (loc1 := [5]) (gls1 := []) (by decide +kernel) rfl (fun _ _ _ _ _ V1 => (gV' 5 V1 (by decide) rfl rfl (by decide))) (fun _ _ _ _ _ V1 => (qts_one (qt_cmpO (ck_eq rfl hu) (q_sh (q_idx rfl hu1 (xS 0 V1 (by decide) rfl rfl) (xS 5 V1 (by decide) rfl rfl) (fun _ _ => rfl))) (xS 3 V1 (by decide) rfl rfl) rfl))) (fun _ _ _ _ _ V1 => (xV 5 V1 (by decide) rfl (by decide) rfl)) rfl)
    (qs_cons (own1 := [4, 2]) (qs_if (qt_cmpO (ck_eq rfl hu) (q_sh (cB1 (B_len rfl) 1 V rfl T.z_len (xS 4 V (by decide) rfl rfl))) (q_sh q_int) rfl)
    (qs_one (qs_ret q_non))
    qs_nil)
    (qs_weak (own1 := [4, 2]) (qs_one (sApd 2 V (by decide) rfl rfl (by decide) (q_idx rfl hu1 (q_sh (q_lst (qa_cons q_int (qa_cons q_int (qa_cons q_int (qa_cons q_int (qa_cons q_int (qa_cons q_int (qa_cons q_int (qa_cons q_int (qa_cons q_int qa_nil))))))))))) (q_sh (q_idx rfl hu1 (xS 4 V (by decide) rfl rfl) (q_sh q_int) (fun _ _ => rfl))) (fun _ _ => rfl)))) (by decide)))) (hK := rfl))
    (qs_one (qs_pre1 (own := []) (qs_ret (xV 2 V (by decide) rfl (by decide) rfl)) (by decide)))))
abbrev N__law_sum : List Str := ["letters", "text", "worths", "total", "k"]
theorem ok__law_sum (T : Txt K mg EC fa fd) : FnOk P w K mg base (L2.CX P w) 2 (fa 13) (fd 13) ["letters", "text"] (spM K EC 2 f__law_sum) := by
  unfold f__law_sum b__law_sum
  refine fn_ok (k := 1) (N := N__law_sum) (own' := []) T.F13 (C8.fnScope_by (by decide +kernel)) rfl (by decide) (fun cdv A outer s H E Z hr => ?_)
  have V : Scp (cxOf (L2.CX P w) P w K mg base N__law_sum "_law_sum" (defScope s__law_sum) (fa 13) cdv A outer s H E) [0, 1, 2, 3, 4] [0, 1, 2, 3, 4] ["_law_worths", "range", "len"] := scp_def (by decide +kernel)
  have tk := tk_def (P := P) (w := w) (K := K) (mg := mg) (base := base) (N := N__law_sum) (qual := "_law_sum") (scope := defScope s__law_sum) (f := fa 13) (cd := cdv) (A := A) (outer := outer) (s := s) (H := H) (E := E)
  have hp := ps_def (P := P) (w := w) (K := K) (mg := mg) (base := base) (N := N__law_sum) (qual := "_law_sum") (scope := defScope s__law_sum) (f := fa 13) (cd := cdv) (A := A) (outer := outer) (s := s) (H := H) (E := E)
  have hu := hr.units
  have hu1 := hu_of hr
  exact (qs_cons (own1 := []) (sA (ts := [2]) (cDef 0 V (ok__law_worths T) rfl hr (by first | decide | omega) rfl T.g12 T.k12 T.b12 tk (qa_cons (xV 0 V (by decide) rfl (by decide) rfl) (qa_cons (xV 1 V (by decide) rfl (by decide) rfl) qa_nil)) (lnS (lnS ln0))) (gV' 2 V (by decide) rfl rfl (by decide)))
    (qs_cons (own1 := []) (sA (ts := [3]) q_int (gV' 3 V (by decide) rfl rfl (by decide)))
    (qs_cons (own1 := []) (qs_for (own' := []) (own1 := []) (ts := [4]) hp rfl (iRa1 1 V rfl T.z_range (q_sh (cB1 (B_len rfl) 2 V rfl T.z_len (xS 2 V (by decide) rfl rfl)))) (by decide) (gV' 4 V (by decide) rfl rfl (by decide))
    (qs_one (qs_if (qw_and (qt_cmpO ck_lt (q_sh (q_add rfl (xS 4 V (by decide) rfl rfl) (q_sh q_int))) (q_sh (cB1 (B_len rfl) 2 V rfl T.z_len (xS 2 V (by decide) rfl rfl))) rfl) (qw_and1 (qt_cmpO ck_gt (q_sh (q_idx rfl hu1 (xS 2 V (by decide) rfl rfl) (q_sh (q_add rfl (xS 4 V (by decide) rfl rfl) (q_sh q_int))) (fun _ _ => rfl))) (q_sh (q_idx rfl hu1 (xS 2 V (by decide) rfl rfl) (xS 4 V (by decide) rfl rfl) (fun _ _ => rfl))) rfl))).pt
    (qs_one (sA (ts := [3]) (q_frz (q_sub (xS 3 V (by decide) rfl rfl) (q_sh (q_idx rfl hu1 (xS 2 V (by decide) rfl rfl) (xS 4 V (by decide) rfl rfl) (fun _ _ => rfl))))) (gV' 3 V (by decide) rfl rfl (by decide))))
    (qs_one (sA (ts := [3]) (q_frz (q_add rfl (xS 3 V (by decide) rfl rfl) (q_sh (q_idx rfl hu1 (xS 2 V (by decide) rfl rfl) (xS 4 V (by decide) rfl rfl) (fun _ _ => rfl))))) (gV' 3 V (by decide) rfl rfl (by decide)))))) (hK := rfl))
    (qs_one (qs_ret (xV 3 V (by decide) rfl (by decide) rfl))))))
abbrev N__law_read : List Str := ["letters", "text", "most", "number"]
theorem ok__law_read (T : Txt K mg EC fa fd) : FnOk P w K mg base (L2.CX P w) 3 (fa 14) (fd 14) ["letters", "text", "most"] (spM K EC 3 f__law_read) := by
  unfold f__law_read b__law_read
  refine fn_ok (k := 2) (N := N__law_read) (own' := []) T.F14 (C8.fnScope_by (by decide +kernel)) rfl (by decide) (fun cdv A outer s H E Z hr => ?_)
  have V : Scp (cxOf (L2.CX P w) P w K mg base N__law_read "_law_read" (defScope s__law_read) (fa 14) cdv A outer s H E) [0, 1, 2, 3] [0, 1, 2, 3] ["_law_worths", "_law_sum", "_law_write"] := scp_def (by decide +kernel)
  have tk := tk_def (P := P) (w := w) (K := K) (mg := mg) (base := base) (N := N__law_read) (qual := "_law_read") (scope := defScope s__law_read) (f := fa 14) (cd := cdv) (A := A) (outer := outer) (s := s) (H := H) (E := E)
  have hp := ps_def (P := P) (w := w) (K := K) (mg := mg) (base := base) (N := N__law_read) (qual := "_law_read") (scope := defScope s__law_read) (f := fa 14) (cd := cdv) (A := A) (outer := outer) (s := s) (H := H) (E := E)
  have hu := hr.units
  have hu1 := hu_of hr
  exact (qs_cons (own1 := []) (qs_if (qt_isN (q_sh (cDef 0 V (ok__law_worths T) rfl hr (by first | decide | omega) rfl T.g12 T.k12 T.b12 tk (qa_cons (xV 0 V (by decide) rfl (by decide) rfl) (qa_cons (xV 1 V (by decide) rfl (by decide) rfl) qa_nil)) (lnS (lnS ln0)))))
    (qs_one (qs_ret q_non))
    qs_nil)
    (qs_cons (own1 := []) (sA (ts := [3]) (cDef 1 V (ok__law_sum T) rfl hr (by first | decide | omega) rfl T.g13 T.k13 T.b13 tk (qa_cons (xV 0 V (by decide) rfl (by decide) rfl) (qa_cons (xV 1 V (by decide) rfl (by decide) rfl) qa_nil)) (lnS (lnS ln0))) (gV' 3 V (by decide) rfl rfl (by decide)))
    (qs_cons (own1 := []) (qs_if (qw_or (qt_cmpO ck_lt (xS 3 V (by decide) rfl rfl) (q_sh q_int) rfl) (qw_or (qt_cmpO ck_gt (xS 3 V (by decide) rfl rfl) (xS 2 V (by decide) rfl rfl) rfl) (qw_or1 (qt_cmpO (ck_ne rfl hu) (q_sh (cDef 2 V (ok__law_write T) rfl hr (by first | decide | omega) rfl T.g11 T.k11 T.b11 tk (qa_cons (xV 0 V (by decide) rfl (by decide) rfl) (qa_cons (xV 3 V (by decide) rfl (by decide) rfl) qa_nil)) (lnS (lnS ln0)))) (xS 1 V (by decide) rfl rfl) rfl)))).pt
    (qs_one (qs_ret q_non))
    qs_nil)
    (qs_one (qs_ret (xV 3 V (by decide) rfl (by decide) rfl))))))
abbrev N__law_asked : List Str := ["letters", "text", "e"]
theorem ok__law_asked (T : Txt K mg EC fa fd) : FnOk P w K mg base (L2.CX P w) 5 (fa 15) (fd 15) ["letters", "text"] (spM K EC 2 f__law_asked) := by
  unfold f__law_asked b__law_asked
  refine fn_ok (k := 4) (N := N__law_asked) (own' := []) T.F15 (C8.fnScope_by (by decide +kernel)) rfl (by decide) (fun cdv A outer s H E Z hr => ?_)
  have V : Scp (cxOf (L2.CX P w) P w K mg base N__law_asked "_law_asked" (defScope s__law_asked) (fa 15) cdv A outer s H E) [0, 1, 2] [0, 1, 2] ["read_strokes", "NotNumber", "int", "isinstance", "ScriptError", "NumberOutOfRange"] := scp_def (by decide +kernel)
  have tk := tk_def (P := P) (w := w) (K := K) (mg := mg) (base := base) (N := N__law_asked) (qual := "_law_asked") (scope := defScope s__law_asked) (f := fa 15) (cd := cdv) (A := A) (outer := outer) (s := s) (H := H) (E := E)
  have hp := ps_def (P := P) (w := w) (K := K) (mg := mg) (base := base) (N := N__law_asked) (qual := "_law_asked") (scope := defScope s__law_asked) (f := fa 15) (cd := cdv) (A := A) (outer := outer) (s := s) (H := H) (E := E)
  have hu := hr.units
  have hu1 := hu_of hr
  exact (qs_one (sTryA 2 3 1 V rfl rfl rfl (by rfl) tk T.er rfl T.e_NotNumber rfl (by decide) (by decide)
    (fun W_0 _ _ V_0 tk_0 hp_0 => (qs_one (qs_ret (cDef 0 (V_0) (ok_read_strokes T) rfl hr (by first | decide | omega) rfl T.g5 T.k5 T.b5 tk_0 (qa_cons (xV 0 (V_0) (by decide) rfl (by decide) rfl) (qa_cons (xV 1 (V_0) (by decide) rfl (by decide) rfl) qa_nil)) (lnS (lnS ln0))))))
    (fun _ _ _ _ V_0 hz hf => (qs_one (qs_ret (q_idx rfl hu1 (q_sh (q_lst (qa_cons q_non (qa_cons (q_str (by decide +kernel)) qa_nil)))) (q_sh (cT1 (T_int) 2 (V_0) rfl T.z_int (q_sh (q_or (q_sh (q_not (q_sh (xIsx 2 0 3 4 (V_0) rfl rfl hz hf T.er (by decide) rfl rfl T.z_isinstance rfl T.e_ScriptError)))) (q_one (q_frz (xIsx 2 2 3 5 (V_0) rfl rfl hz hf T.er (by decide) rfl rfl T.z_isinstance rfl T.e_NumberOutOfRange))))))) (fun _ _ => rfl)))))))
abbrev N__law_refused : List Str := ["letters", "number", "e"]
theorem ok__law_refused (T : Txt K mg EC fa fd) : FnOk P w K mg base (L2.CX P w) 4 (fa 16) (fd 16) ["letters", "number"] (spM K EC 2 f__law_refused) := by
  unfold f__law_refused b__law_refused
  refine fn_ok (k := 3) (N := N__law_refused) (own' := []) T.F16 (C8.fnScope_by (by decide +kernel)) rfl (by decide) (fun cdv A outer s H E Z hr => ?_)
  have V : Scp (cxOf (L2.CX P w) P w K mg base N__law_refused "_law_refused" (defScope s__law_refused) (fa 16) cdv A outer s H E) [0, 1, 2] [0, 1, 2] ["write_strokes", "NumberOutOfRange", "int", "isinstance", "ScriptError", "NotNumber", "InvalidFigures"] := scp_def (by decide +kernel)
  have tk := tk_def (P := P) (w := w) (K := K) (mg := mg) (base := base) (N := N__law_refused) (qual := "_law_refused") (scope := defScope s__law_refused) (f := fa 16) (cd := cdv) (A := A) (outer := outer) (s := s) (H := H) (E := E)
  have hp := ps_def (P := P) (w := w) (K := K) (mg := mg) (base := base) (N := N__law_refused) (qual := "_law_refused") (scope := defScope s__law_refused) (f := fa 16) (cd := cdv) (A := A) (outer := outer) (s := s) (H := H) (E := E)
  have hu := hr.units
  have hu1 := hu_of hr
  exact (qs_one (sTryA 2 2 1 V rfl rfl rfl (by rfl) tk T.er rfl T.e_NumberOutOfRange rfl (by decide) (by decide)
    (fun W_0 _ _ V_0 tk_0 hp_0 => (qs_one (qs_ret (cDef 0 (V_0) (ok_write_strokes T) rfl hr (by first | decide | omega) rfl T.g3 T.k3 T.b3 tk_0 (qa_cons (xV 0 (V_0) (by decide) rfl (by decide) rfl) (qa_cons (xV 1 (V_0) (by decide) rfl (by decide) rfl) qa_nil)) (lnS (lnS ln0))))))
    (fun _ _ _ _ V_0 hz hf => (qs_one (qs_ret (q_idx rfl hu1 (q_sh (q_lst (qa_cons q_non (qa_cons (q_str (by decide +kernel)) qa_nil)))) (q_sh (cT1 (T_int) 2 (V_0) rfl T.z_int (q_sh (q_or (q_sh (q_not (q_sh (xIsx 2 0 3 4 (V_0) rfl rfl hz hf T.er (by decide) rfl rfl T.z_isinstance rfl T.e_ScriptError)))) (q_or (q_sh (xIsx 2 3 3 5 (V_0) rfl rfl hz hf T.er (by decide) rfl rfl T.z_isinstance rfl T.e_NotNumber)) (q_one (q_frz (xIsx 2 1 3 6 (V_0) rfl rfl hz hf T.er (by decide) rfl rfl T.z_isinstance rfl T.e_InvalidFigures)))))))) (fun _ _ => rfl)))))))
abbrev N__law_texts : List Str := ["letters", "text", "draws", "at", "letter", "found"]
theorem ok__law_texts (T : Txt K mg EC fa fd) : FnOk P w K mg base (L2.CX P w) 1 (fa 17) (fd 17) ["letters", "text", "draws"] (spM K EC 3 f__law_texts) := by
  unfold f__law_texts b__law_texts
  refine fn_ok (k := 0) (N := N__law_texts) (own' := []) T.F17 (C8.fnScope_by (by decide +kernel)) rfl (by decide) (fun cdv A outer s H E Z hr => ?_)
  have V : Scp (cxOf (L2.CX P w) P w K mg base N__law_texts "_law_texts" (defScope s__law_texts) (fa 17) cdv A outer s H E) [0, 1, 2, 3, 4, 5] [0, 1, 2, 3, 4, 5] ["len"] := scp_def (by decide +kernel)
  have tk := tk_def (P := P) (w := w) (K := K) (mg := mg) (base := base) (N := N__law_texts) (qual := "_law_texts") (scope := defScope s__law_texts) (f := fa 17) (cd := cdv) (A := A) (outer := outer) (s := s) (H := H) (E := E)
  have hp := ps_def (P := P) (w := w) (K := K) (mg := mg) (base := base) (N := N__law_texts) (qual := "_law_texts") (scope := defScope s__law_texts) (f := fa 17) (cd := cdv) (A := A) (outer := outer) (s := s) (H := H) (E := E)
  have hu := hr.units
  have hu1 := hu_of hr
  exact (qs_cons (own1 := []) (sA (ts := [3]) (q_frz (q_mod (q_sh (q_idx rfl hu1 (xS 2 V (by decide) rfl rfl) (q_sh q_int) (fun _ _ => rfl))) (q_sh (cB1 (B_len rfl) 0 V rfl T.z_len (xS 1 V (by decide) rfl rfl))))) (gV' 3 V (by decide) rfl rfl (by decide)))
    (qs_cons (own1 := []) (sA (ts := [4]) (q_idx rfl hu1 (xS 0 V (by decide) rfl rfl) (q_sh (q_mod (q_sh (q_idx rfl hu1 (xS 2 V (by decide) rfl rfl) (q_sh q_int) (fun _ _ => rfl))) (q_sh (cB1 (B_len rfl) 0 V rfl T.z_len (xS 0 V (by decide) rfl rfl))))) (fun _ _ => rfl)) (gV' 4 V (by decide) rfl rfl (by decide)))
    (qs_cons (own1 := []) (sA (ts := [5]) (q_frz (q_lst (qa_cons (q_frz (q_add rfl (q_sh (q_sli rfl (xS 1 V (by decide) rfl rfl) (qp_some (q_sh q_int)) (qp_some (xS 3 V (by decide) rfl rfl)))) (q_sh (q_sli rfl (xS 1 V (by decide) rfl rfl) (qp_some (q_sh (q_add rfl (xS 3 V (by decide) rfl rfl) (q_sh q_int)))) qp_none)))) (qa_cons (q_frz (q_add rfl (q_sh (q_add rfl (q_sh (q_sli rfl (xS 1 V (by decide) rfl rfl) (qp_some (q_sh q_int)) (qp_some (xS 3 V (by decide) rfl rfl)))) (q_sh (q_idx rfl hu1 (xS 1 V (by decide) rfl rfl) (xS 3 V (by decide) rfl rfl) (fun _ _ => rfl))))) (q_sh (q_sli rfl (xS 1 V (by decide) rfl rfl) (qp_some (xS 3 V (by decide) rfl rfl)) qp_none)))) (qa_cons (q_frz (q_add rfl (q_sh (q_add rfl (q_sh (q_sli rfl (xS 1 V (by decide) rfl rfl) (qp_some (q_sh q_int)) (qp_some (xS 3 V (by decide) rfl rfl)))) (xS 4 V (by decide) rfl rfl))) (q_sh (q_sli rfl (xS 1 V (by decide) rfl rfl) (qp_some (xS 3 V (by decide) rfl rfl)) qp_none)))) (qa_cons (q_frz (q_add rfl (q_sh (q_add rfl (q_sh (q_sli rfl (xS 1 V (by decide) rfl rfl) (qp_some (q_sh q_int)) (qp_some (xS 3 V (by decide) rfl rfl)))) (xS 4 V (by decide) rfl rfl))) (q_sh (q_sli rfl (xS 1 V (by decide) rfl rfl) (qp_some (q_sh (q_add rfl (xS 3 V (by decide) rfl rfl) (q_sh q_int)))) qp_none)))) qa_nil)))))) (gV' 5 V (by decide) rfl rfl (by decide)))
    (qs_one (qs_ret (q_frz (q_add rfl (xS 5 V (by decide) rfl rfl) (q_sh (q_lst (qa_cons (q_frz (q_rev rfl (xS 1 V (by decide) rfl rfl))) (qa_cons (q_frz (q_add rfl (xS 1 V (by decide) rfl rfl) (xS 4 V (by decide) rfl rfl))) (qa_cons (q_frz (q_add rfl (xS 4 V (by decide) rfl rfl) (xS 1 V (by decide) rfl rfl))) (qa_cons (q_frz (q_add rfl (xS 1 V (by decide) rfl rfl) (q_sh (q_str (by decide +kernel))))) (qa_cons (q_frz (q_add rfl (q_sh (q_str (by decide +kernel))) (xS 1 V (by decide) rfl rfl))) (qa_cons (q_str (by decide +kernel)) qa_nil)))))))))))))))
abbrev N__law_grown : List Str := ["level", "letters", "found", "text", "letter"]
theorem ok__law_grown (T : Txt K mg EC fa fd) : FnOk P w K mg base (L2.CX P w) 1 (fa 18) (fd 18) ["level", "letters"] (spM K EC 2 f__law_grown) := by
  unfold f__law_grown b__law_grown
  refine fn_ok (k := 0) (N := N__law_grown) (own' := []) T.F18 (C8.fnScope_by (by decide +kernel)) rfl (by decide) (fun cdv A outer s H E Z hr => ?_)
  have V : Scp (cxOf (L2.CX P w) P w K mg base N__law_grown "_law_grown" (defScope s__law_grown) (fa 18) cdv A outer s H E) [0, 1, 2, 3] [0, 1, 2, 3] [] := scp_def (by decide +kernel)
  have tk := tk_def (P := P) (w := w) (K := K) (mg := mg) (base := base) (N := N__law_grown) (qual := "_law_grown") (scope := defScope s__law_grown) (f := fa 18) (cd := cdv) (A := A) (outer := outer) (s := s) (H := H) (E := E)
  have hp := ps_def (P := P) (w := w) (K := K) (mg := mg) (base := base) (N := N__law_grown) (qual := "_law_grown") (scope := defScope s__law_grown) (f := fa 18) (cd := cdv) (A := A) (outer := outer) (s := s) (H := H) (E := E)
  have hu := hr.units
  have hu1 := hu_of hr
  exact (qs_cons (own1 := []) (sA (ts := [2]) (q_frz (q_lst qa_nil)) (gV' 2 V (by decide) rfl rfl (by decide)))
    (qs_cons (own1 := []) (qs_for (own' := []) (own1 := []) (ts := [3]) hp rfl (qi_of rfl (xV 0 V (by decide) rfl (by decide) rfl)) (by decide) (gV' 3 V (by decide) rfl rfl (by decide))
    (qs_one (sA (ts := [2]) (q_frz (q_add rfl (xS 2 V (by decide) rfl rfl) (q_sh (xLc V rfl (qi_of rfl (xV 1 V (by decide) rfl (by decide) rfl)) (ob := [("letter", 4)]) (okD (N := N__law_grown) (by decide +kernel)) rfl rfl (N := N__law_grown) (vis1 := [3, 4]) (loc1 := [4]) (gls1 := []) (by decide +kernel) rfl (fun _ _ _ _ _ V1 => (gV' 4 V1 (by decide) rfl rfl (by decide))) (fun _ _ _ _ _ V1 => qts_nil) (fun _ _ _ _ _ V1 => (q_frz (q_add rfl (xS 3 V1 (by decide) rfl rfl) (xS 4 V1 (by decide) rfl rfl)))))))) (gV' 2 V (by decide) rfl rfl (by decide)))) (hK := rfl))
    (qs_one (qs_ret (xV 2 V (by decide) rfl (by decide) rfl)))))
abbrev N_law : List Str := ["script", "draws", "letters", "most", "k", "number", "known", "shown", "text", "texts", "j", "some", "level", "size", "due"]
theorem ok_law (T : Txt K mg EC fa fd) : FnOk P w K mg base (L2.CX P w) 14 (fa 19) (fd 19) ["script"] (spM K EC 1 f_law) := by
  unfold f_law b_law
  refine fn_ok (k := 13) (N := N_law) (own' := []) T.F19 (C8.fnScope_by (by decide +kernel)) rfl (by decide) (fun cdv A outer s H E Z hr => ?_)
  have V : Scp (cxOf (L2.CX P w) P w K mg base N_law "law" (defScope s_law) (fa 19) cdv A outer s H E) [0, 1, 2, 3, 4, 5, 6, 7, 8, 9, 10, 11, 12, 13, 14] [0, 1, 2, 3, 4, 5, 6, 7, 8, 9, 10, 11, 12, 13, 14] ["_law_numbers", "_law_cell", "_law_signs", "range", "len", "_law_same", "greatest", "_law_refused", "min", "_law_write", "write_strokes", "read_strokes", "sum_of_strokes", "_law_texts", "_law_grown", "_law_read", "_law_asked", "_law_worths", "_law_sum"] := scp_def (by decide +kernel)
  have tk := tk_def (P := P) (w := w) (K := K) (mg := mg) (base := base) (N := N_law) (qual := "law") (scope := defScope s_law) (f := fa 19) (cd := cdv) (A := A) (outer := outer) (s := s) (H := H) (E := E)
  have hp := ps_def (P := P) (w := w) (K := K) (mg := mg) (base := base) (N := N_law) (qual := "law") (scope := defScope s_law) (f := fa 19) (cd := cdv) (A := A) (outer := outer) (s := s) (H := H) (E := E)
  have hu := hr.units
  have hu1 := hu_of hr
  exact (qs_cons (own1 := []) (sA (ts := [1]) (cDef 0 V (ok__law_numbers T) rfl hr (by first | decide | omega) rfl T.g7 T.k7 T.b7 tk (qa_cons (cDef 1 V (ok__law_cell T) rfl hr (by first | decide | omega) rfl T.g6 T.k6 T.b6 tk (qa_cons (xV 0 V (by decide) rfl (by decide) rfl) (qa_cons q_int qa_nil)) (lnS (lnS ln0))) (qa_cons q_int (qa_cons q_int qa_nil))) (lnS (lnS (lnS ln0)))) (gV' 1 V (by decide) rfl rfl (by decide)))
    (qs_cons (own1 := []) (sA (ts := [2]) (cDef 2 V (ok__law_signs T) rfl hr (by first | decide | omega) rfl T.g9 T.k9 T.b9 tk (qa_cons (q_idx rfl hu1 (xS 1 V (by decide) rfl rfl) (q_sh q_int) (fun _ _ => rfl)) (qa_cons (q_idx rfl hu1 (q_sh (q_lst (qa_cons q_int (qa_cons q_int (qa_cons q_int (qa_cons q_int (qa_cons q_int qa_nil))))))) (q_sh (q_mod (q_sh (q_idx rfl hu1 (xS 1 V (by decide) rfl rfl) (q_sh q_int) (fun _ _ => rfl))) (q_sh q_int))) (fun _ _ => rfl)) qa_nil)) (lnS (lnS ln0))) (gV' 2 V (by decide) rfl rfl (by decide)))
    (qs_cons (own1 := []) (sA (ts := [3]) q_int (gV' 3 V (by decide) rfl rfl (by decide)))
    (qs_cons (own1 := []) (qs_for (own' := []) (own1 := []) (ts := [4]) hp rfl (iRa1 3 V rfl T.z_range (q_sh (q_fdiv (q_sh (cB1 (B_len rfl) 4 V rfl T.z_len (xS 2 V (by decide) rfl rfl))) (q_sh q_int)))) (by decide) (gV' 4 V (by decide) rfl rfl (by decide))
    (qs_one (sA (ts := [3]) (q_frz (q_mul (xS 3 V (by decide) rfl rfl) (q_sh q_int))) (gV' 3 V (by decide) rfl rfl (by decide)))) (hK := rfl))
    (qs_cons (own1 := []) (sA (ts := [3]) (q_frz (q_sub (xS 3 V (by decide) rfl rfl) (q_sh q_int))) (gV' 3 V (by decide) rfl rfl (by decide)))
    (qs_cons (own1 := []) (qs_if (qt_not (qt_val (q_sh (cDef 5 V (ok__law_same T 12) rfl hr (by first | decide | omega) rfl T.g8 T.k8 T.b8 tk (qa_cons (cDef 6 V (ok_greatest T) rfl hr (by first | decide | omega) rfl T.g1 T.k1 T.b1 tk (qa_cons (xV 2 V (by decide) rfl (by decide) rfl) qa_nil) (lnS ln0)) (qa_cons (xV 3 V (by decide) rfl (by decide) rfl) qa_nil)) (lnS (lnS ln0))))))
    (qs_one (qs_ret q_bl))
    qs_nil)
    (qs_cons (own1 := []) (qs_for (own' := []) (own1 := []) (ts := [5]) hp rfl (qi_of rfl (q_frz (q_lst (qa_cons q_int (qa_cons (q_frz (q_neg (q_sh q_int))) (qa_cons (q_frz (q_add rfl (xS 3 V (by decide) rfl rfl) (q_sh q_int))) (qa_cons (q_frz (q_sub (q_sh (q_neg (q_sh q_int))) (q_sh (q_idx rfl hu1 (xS 1 V (by decide) rfl rfl) (q_sh q_int) (fun _ _ => rfl))))) (qa_cons (q_frz (q_add rfl (q_sh (q_add rfl (xS 3 V (by decide) rfl rfl) (q_sh q_int))) (q_sh (q_idx rfl hu1 (xS 1 V (by decide) rfl rfl) (q_sh q_int) (fun _ _ => rfl))))) (qa_cons (q_frz (q_pow (q_sh q_int) (q_sh q_int))) qa_nil))))))))) (by decide) (gV' 5 V (by decide) rfl rfl (by decide))
    (qs_one (qs_if (qt_not (qt_val (q_sh (cDef 5 V (ok__law_same T 12) rfl hr (by first | decide | omega) rfl T.g8 T.k8 T.b8 tk (qa_cons (cDef 7 V (ok__law_refused T) rfl hr (by first | decide | omega) rfl T.g16 T.k16 T.b16 tk (qa_cons (xV 2 V (by decide) rfl (by decide) rfl) (qa_cons (xV 5 V (by decide) rfl (by decide) rfl) qa_nil)) (lnS (lnS ln0))) (qa_cons q_non qa_nil)) (lnS (lnS ln0))))))
    (qs_one (qs_ret q_bl))
    qs_nil)) (hK := rfl))
    (qs_cons (own1 := [6]) (sN 6 V (by decide) rfl q_dic0 (ho := rfl))
    (qs_cons (own1 := [6]) (qs_for (own' := [6]) (own1 := [6]) (ts := [5]) hp rfl (iRa2 3 V rfl T.z_range (q_sh q_int) (q_sh (q_add rfl (q_sh (cB2 (B_min2 rfl) 8 V rfl T.z_min (xS 3 V (by decide) rfl rfl) (q_sh q_int))) (q_sh q_int)))) (by decide) (gV' 5 V (by decide) rfl rfl (by decide))
    (qs_one (sPutE 6 V (by decide) rfl hu (by decide) (q_sh (cDef 9 V (ok__law_write T) rfl hr (by first | decide | omega) rfl T.g11 T.k11 T.b11 tk (qa_cons (xV 2 V (by decide) rfl (by decide) rfl) (qa_cons (xV 5 V (by decide) rfl (by decide) rfl) qa_nil)) (lnS (lnS ln0)))) (xV 5 V (by decide) rfl (by decide) rfl))) (hK := rfl))
    (qs_cons (own1 := [6]) (qs_if (qt_cmpO (ck_ne rfl hu) (q_sh (cB1 (B_len rfl) 4 V rfl T.z_len (xS 6 V (by decide) rfl rfl))) (q_sh (cB2 (B_min2 rfl) 8 V rfl T.z_min (xS 3 V (by decide) rfl rfl) (q_sh q_int))) rfl)
    (qs_one (qs_ret q_bl))
    qs_nil)
    (qs_cons (own1 := [7, 6]) (sLc 7 V rfl (lcl_def (by decide +kernel)) rfl (by rfl) (iRa2 3 V rfl T.z_range (q_sh q_int) (q_sh (q_add rfl (q_sh (cB2 (B_min2 rfl) 8 V rfl T.z_min (xS 3 V (by decide) rfl rfl) (q_sh q_int))) (q_sh q_int)))) (ob := [("number", 5)]) (okD (N := N_law) (by decide +kernel)) rfl rfl (N := N_law) (vis1 := [1, 5]) (loc1 := [5]) (gls1 := []) (by decide +kernel) rfl (fun _ _ _ _ _ V1 => (gV' 5 V1 (by decide) rfl rfl (by decide))) (fun _ _ _ _ _ V1 => (qts_one (qt_cmpO (ck_eq rfl hu) (q_sh (q_mod (xS 5 V1 (by decide) rfl rfl) (q_sh (q_add rfl (q_sh q_int) (q_sh (q_mod (q_sh (q_idx rfl hu1 (xS 1 V1 (by decide) rfl rfl) (q_sh q_int) (fun _ _ => rfl))) (q_sh q_int))))))) (q_sh q_int) rfl))) (fun _ _ _ _ _ V1 => (xV 5 V1 (by decide) rfl (by decide) rfl)) rfl)
    (qs_cons (own1 := [7, 6]) (qs_for (own' := [7, 6]) (own1 := [7, 6]) (ts := [5]) hp rfl (qi_of rfl (q_frz (q_add rfl (q_sh (q_add rfl (xS 7 V (by decide) rfl rfl) (q_sh (q_lst (qa_cons (xV 3 V (by decide) rfl (by decide) rfl) qa_nil))))) (q_sh (xLc V rfl (iRa1 3 V rfl T.z_range (q_sh q_int)) (ob := [("k", 4)]) (okD (N := N_law) (by decide +kernel)) rfl rfl (N := N_law) (vis1 := [1, 3, 4]) (loc1 := [4]) (gls1 := []) (by decide +kernel) rfl (fun _ _ _ _ _ V1 => (gV' 4 V1 (by decide) rfl rfl (by decide))) (fun _ _ _ _ _ V1 => qts_nil) (fun _ _ _ _ _ V1 => (q_frz (q_add rfl (q_sh q_int) (q_sh (q_mod (q_sh (q_add rfl (q_sh (q_mul (q_sh (q_idx rfl hu1 (xS 1 V1 (by decide) rfl rfl) (q_sh (q_add rfl (q_sh q_int) (xS 4 V1 (by decide) rfl rfl))) (fun _ _ => rfl))) (q_sh q_int))) (q_sh (q_idx rfl hu1 (xS 1 V1 (by decide) rfl rfl) (q_sh q_int) (fun _ _ => rfl))))) (xS 3 V1 (by decide) rfl rfl))))))))))) (by decide) (gV' 5 V (by decide) rfl rfl (by decide))
    (qs_cons (own1 := [7, 6]) (sA (ts := [8]) (cDef 9 V (ok__law_write T) rfl hr (by first | decide | omega) rfl T.g11 T.k11 T.b11 tk (qa_cons (xV 2 V (by decide) rfl (by decide) rfl) (qa_cons (xV 5 V (by decide) rfl (by decide) rfl) qa_nil)) (lnS (lnS ln0))) (gV' 8 V (by decide) rfl rfl (by decide)))
    (qs_cons (own1 := [7, 6]) (qs_if (qw_or (qt_not (qt_val (q_sh (cDef 5 V (ok__law_same T 12) rfl hr (by first | decide | omega) rfl T.g8 T.k8 T.b8 tk (qa_cons (cDef 10 V (ok_write_strokes T) rfl hr (by first | decide | omega) rfl T.g3 T.k3 T.b3 tk (qa_cons (xV 2 V (by decide) rfl (by decide) rfl) (qa_cons (xV 5 V (by decide) rfl (by decide) rfl) qa_nil)) (lnS (lnS ln0))) (qa_cons (xV 8 V (by decide) rfl (by decide) rfl) qa_nil)) (lnS (lnS ln0)))))) (qw_or1 (qt_not (qt_val (q_sh (cDef 5 V (ok__law_same T 12) rfl hr (by first | decide | omega) rfl T.g8 T.k8 T.b8 tk (qa_cons (cDef 11 V (ok_read_strokes T) rfl hr (by first | decide | omega) rfl T.g5 T.k5 T.b5 tk (qa_cons (xV 2 V (by decide) rfl (by decide) rfl) (qa_cons (xV 8 V (by decide) rfl (by decide) rfl) qa_nil)) (lnS (lnS ln0))) (qa_cons (xV 5 V (by decide) rfl (by decide) rfl) qa_nil)) (lnS (lnS ln0)))))))).pt
    (qs_one (qs_ret q_bl))
    qs_nil)
    (qs_one (qs_if (qt_not (qt_val (q_sh (cDef 5 V (ok__law_same T 12) rfl hr (by first | decide | omega) rfl T.g8 T.k8 T.b8 tk (qa_cons (cDef 12 V (ok_sum_of_strokes T) rfl hr (by first | decide | omega) rfl T.g4 T.k4 T.b4 tk (qa_cons (xV 2 V (by decide) rfl (by decide) rfl) (qa_cons (xV 8 V (by decide) rfl (by decide) rfl) qa_nil)) (lnS (lnS ln0))) (qa_cons (xV 5 V (by decide) rfl (by decide) rfl) qa_nil)) (lnS (lnS ln0))))))
    (qs_one (qs_ret q_bl))
    qs_nil)))) (hK := rfl))
    (qs_cons (own1 := [9, 7, 6]) (sN 9 V (by decide) rfl (q_lst qa_nil) (ho := rfl))
    (qs_cons (own1 := [9, 7, 6]) (qs_for (own' := [9, 7, 6]) (own1 := [9, 7, 6]) (ts := [10]) hp rfl (iRa1 3 V rfl T.z_range (q_sh q_int)) (by decide) (gV' 10 V (by decide) rfl rfl (by decide))
    (qs_cons (own1 := [9, 7, 6]) (sA (ts := [11]) (cDef 0 V (ok__law_numbers T) rfl hr (by first | decide | omega) rfl T.g7 T.k7 T.b7 tk (qa_cons (cDef 1 V (ok__law_cell T) rfl hr (by first | decide | omega) rfl T.g6 T.k6 T.b6 tk (qa_cons (xV 0 V (by decide) rfl (by decide) rfl) (qa_cons (q_frz (q_add rfl (q_sh q_int) (xS 10 V (by decide) rfl rfl))) qa_nil)) (lnS (lnS ln0))) (qa_cons q_int (qa_cons q_int qa_nil))) (lnS (lnS (lnS ln0)))) (gV' 11 V (by decide) rfl rfl (by decide)))
    (qs_cons (own1 := [9, 7, 6]) (sN 9 V (by decide) rfl (q_add rfl (xS 9 V (by decide) rfl rfl) (q_sh (cDef 13 V (ok__law_texts T) rfl hr (by first | decide | omega) rfl T.g17 T.k17 T.b17 tk (qa_cons (xV 2 V (by decide) rfl (by decide) rfl) (qa_cons (cDef 9 V (ok__law_write T) rfl hr (by first | decide | omega) rfl T.g11 T.k11 T.b11 tk (qa_cons (xV 2 V (by decide) rfl (by decide) rfl) (qa_cons (q_frz (q_add rfl (q_sh q_int) (q_sh (q_mod (q_sh (q_add rfl (q_sh (q_mul (q_sh (q_idx rfl hu1 (xS 11 V (by decide) rfl rfl) (q_sh q_int) (fun _ _ => rfl))) (q_sh q_int))) (q_sh (q_idx rfl hu1 (xS 11 V (by decide) rfl rfl) (q_sh q_int) (fun _ _ => rfl))))) (xS 3 V (by decide) rfl rfl))))) qa_nil)) (lnS (lnS ln0))) (qa_cons (q_frz (q_sli rfl (xS 11 V (by decide) rfl rfl) (qp_some (q_sh q_int)) qp_none)) qa_nil))) (lnS (lnS (lnS ln0)))))) (ho := rfl))
    (qs_one (sApd 9 V (by decide) rfl rfl (by decide) (q_frz (q_join rfl (q_sh (q_str (by decide +kernel))) (q_sh (xLc V rfl (iRa1 3 V rfl T.z_range (q_sh (q_mod (q_sh (q_idx rfl hu1 (xS 11 V (by decide) rfl rfl) (q_sh q_int) (fun _ _ => rfl))) (q_sh q_int)))) (ob := [("k", 4)]) (okD (N := N_law) (by decide +kernel)) rfl rfl (N := N_law) (vis1 := [2, 4, 11]) (loc1 := [4]) (gls1 := ["len"]) (by decide +kernel) rfl (fun _ _ _ _ _ V1 => (gV' 4 V1 (by decide) rfl rfl (by decide))) (fun _ _ _ _ _ V1 => qts_nil) (fun _ _ _ _ _ V1 => (q_idx rfl hu1 (xS 2 V1 (by decide) rfl rfl) (q_sh (q_mod (q_sh (q_idx rfl hu1 (xS 11 V1 (by decide) rfl rfl) (q_sh (q_add rfl (q_sh q_int) (xS 4 V1 (by decide) rfl rfl))) (fun _ _ => rfl))) (q_sh (cB1 (B_len rfl) 0 V1 rfl T.z_len (xS 2 V1 (by decide) rfl rfl))))) (fun _ _ => rfl))))))))))) (hK := rfl))
    (qs_cons (own1 := [9, 7, 6]) (qs_if (qt_cmpO ck_lt (q_sh (cB1 (B_len rfl) 4 V rfl T.z_len (xS 2 V (by decide) rfl rfl))) (q_sh q_int) rfl)
    (qs_cons (own1 := [9, 7, 6]) (sA (ts := [12]) (q_frz (q_lst (qa_cons (q_str (by decide +kernel)) qa_nil))) (gV' 12 V (by decide) rfl rfl (by decide)))
    (qs_one (qs_for (own' := [9, 7, 6]) (own1 := [9, 7, 6]) (ts := [13]) hp rfl (iRa1 3 V rfl T.z_range (q_sh q_int)) (by decide) (gV' 13 V (by decide) rfl rfl (by decide))
    (qs_cons (own1 := [9, 7, 6]) (sA (ts := [12]) (cDef 14 V (ok__law_grown T) rfl hr (by first | decide | omega) rfl T.g18 T.k18 T.b18 tk (qa_cons (xV 12 V (by decide) rfl (by decide) rfl) (qa_cons (xV 2 V (by decide) rfl (by decide) rfl) qa_nil)) (lnS (lnS ln0))) (gV' 12 V (by decide) rfl rfl (by decide)))
    (qs_one (sN 9 V (by decide) rfl (q_add rfl (xS 9 V (by decide) rfl rfl) (xS 12 V (by decide) rfl rfl)) (ho := rfl)))) (hK := rfl))))
    qs_nil)
    (qs_cons (own1 := [7, 6]) (qs_pre1 (own := [7, 6]) (qs_for (own' := [7, 6]) (own1 := [7, 6]) (ts := [8]) hp rfl (qi_of rfl (xV 9 V (by decide) rfl (by decide) rfl)) (by decide) (gV' 8 V (by decide) rfl rfl (by decide))
    (qs_cons (own1 := [7, 6]) (sA (ts := [14]) (cDef 15 V (ok__law_read T) rfl hr (by first | decide | omega) rfl T.g14 T.k14 T.b14 tk (qa_cons (xV 2 V (by decide) rfl (by decide) rfl) (qa_cons (xV 8 V (by decide) rfl (by decide) rfl) (qa_cons (xV 3 V (by decide) rfl (by decide) rfl) qa_nil))) (lnS (lnS (lnS ln0)))) (gV' 14 V (by decide) rfl rfl (by decide)))
    (qs_cons (own1 := [7, 6]) (qs_if (qt_not (qt_val (q_sh (cDef 5 V (ok__law_same T 12) rfl hr (by first | decide | omega) rfl T.g8 T.k8 T.b8 tk (qa_cons (cDef 16 V (ok__law_asked T) rfl hr (by first | decide | omega) rfl T.g15 T.k15 T.b15 tk (qa_cons (xV 2 V (by decide) rfl (by decide) rfl) (qa_cons (xV 8 V (by decide) rfl (by decide) rfl) qa_nil)) (lnS (lnS ln0))) (qa_cons (xV 14 V (by decide) rfl (by decide) rfl) qa_nil)) (lnS (lnS ln0))))))
    (qs_one (qs_ret q_bl))
    qs_nil)
    (qs_cons (own1 := [7, 6]) (qs_if (qw_and (qt_cmpO ck_lt (xS 3 V (by decide) rfl rfl) (q_sh q_int) rfl) (qw_and1 (qt_cmpO (ck_ne rfl hu) (q_sh (q_cmpO (ck_in rfl hu) (xS 8 V (by decide) rfl rfl) (xS 6 V (by decide) rfl rfl) rfl)) (q_sh (q_notN (xS 14 V (by decide) rfl rfl))) rfl))).pt
    (qs_one (qs_ret q_bl))
    qs_nil)
    (qs_one (qs_if (qw_and (qt_notN (q_sh (cDef 17 V (ok__law_worths T) rfl hr (by first | decide | omega) rfl T.g12 T.k12 T.b12 tk (qa_cons (xV 2 V (by decide) rfl (by decide) rfl) (qa_cons (xV 8 V (by decide) rfl (by decide) rfl) qa_nil)) (lnS (lnS ln0))))) (qw_and1 (qt_not (qt_val (q_sh (cDef 5 V (ok__law_same T 12) rfl hr (by first | decide | omega) rfl T.g8 T.k8 T.b8 tk (qa_cons (cDef 12 V (ok_sum_of_strokes T) rfl hr (by first | decide | omega) rfl T.g4 T.k4 T.b4 tk (qa_cons (xV 2 V (by decide) rfl (by decide) rfl) (qa_cons (xV 8 V (by decide) rfl (by decide) rfl) qa_nil)) (lnS (lnS ln0))) (qa_cons (cDef 18 V (ok__law_sum T) rfl hr (by first | decide | omega) rfl T.g13 T.k13 T.b13 tk (qa_cons (xV 2 V (by decide) rfl (by decide) rfl) (qa_cons (xV 8 V (by decide) rfl (by decide) rfl) qa_nil)) (lnS (lnS ln0))) qa_nil)) (lnS (lnS ln0)))))))).pt
    (qs_one (qs_ret q_bl))
    qs_nil))))) (hK := rfl)) (by decide))
    (qs_one (qs_ret q_bl))))))))))))))))))
end
theorem all_mk {P : Program} {w : World} {K : KF} {h : Heap} {mg : Str → Option Value} {fa : Addr} (X : K.In h) (G : h.Ns mainGlobals mg) (hfa : mg "law" = some (.ref fa))
    {f_0 : Addr} {od_1 : Option Addr} {an_2 : Option Addr} {sl_3 : Array (Option Value)} {oc_4 : Value} {kV_5 : Value} {dc_6 : Value} {pm_7 : Value} {cd_8 : Value} {ct_9 : Value} {f_10 : Addr} {od_11 : Option Addr} {an_12 : Option Addr} {sl_13 : Array (Option Value)} {oc_14 : Value} {kV_15 : Value} {dc_16 : Value} {pm_17 : Value} {cd_18 : Value} {ct_19 : Value} {f_20 : Addr} {od_21 : Option Addr} {an_22 : Option Addr} {sl_23 : Array (Option Value)} {oc_24 : Value} {kV_25 : Value} {dc_26 : Value} {pm_27 : Value} {cd_28 : Value} {ct_29 : Value} {f_30 : Addr} {od_31 : Option Addr} {an_32 : Option Addr} {sl_33 : Array (Option Value)} {oc_34 : Value} {kV_35 : Value} {dc_36 : Value} {pm_37 : Value} {cd_38 : Value} {ct_39 : Value} {f_40 : Addr} {od_41 : Option Addr} {an_42 : Option Addr} {sl_43 : Array (Option Value)} {oc_44 : Value} {kV_45 : Value} {dc_46 : Value} {pm_47 : Value} {cd_48 : Value} {ct_49 : Value} {f_50 : Addr} {od_51 : Option Addr} {an_52 : Option Addr} {sl_53 : Array (Option Value)} {oc_54 : Value} {kV_55 : Value} {dc_56 : Value} {pm_57 : Value} {cd_58 : Value} {ct_59 : Value} {f_60 : Addr} {od_61 : Option Addr} {an_62 : Option Addr} {sl_63 : Array (Option Value)} {oc_64 : Value} {kV_65 : Value} {dc_66 : Value} {pm_67 : Value} {cd_68 : Value} {ct_69 : Value} {f_70 : Addr} {od_71 : Option Addr} {an_72 : Option Addr} {sl_73 : Array (Option Value)} {oc_74 : Value} {kV_75 : Value} {dc_76 : Value} {pm_77 : Value} {cd_78 : Value} {ct_79 : Value} {f_80 : Addr} {od_81 : Option Addr} {an_82 : Option Addr} {sl_83 : Array (Option Value)} {oc_84 : Value} {kV_85 : Value} {dc_86 : Value} {pm_87 : Value} {cd_88 : Value} {ct_89 : Value} {f_90 : Addr} {od_91 : Option Addr} {an_92 : Option Addr} {sl_93 : Array (Option Value)} {oc_94 : Value} {kV_95 : Value} {dc_96 : Value} {pm_97 : Value} {cd_98 : Value} {ct_99 : Value} {f_100 : Addr} {od_101 : Option Addr} {an_102 : Option Addr} {sl_103 : Array (Option Value)} {oc_104 : Value} {kV_105 : Value} {dc_106 : Value} {pm_107 : Value} {cd_108 : Value} {ct_109 : Value} {f_110 : Addr} {od_111 : Option Addr} {an_112 : Option Addr} {sl_113 : Array (Option Value)} {oc_114 : Value} {kV_115 : Value} {dc_116 : Value} {pm_117 : Value} {cd_118 : Value} {ct_119 : Value} {f_120 : Addr} {od_121 : Option Addr} {an_122 : Option Addr} {sl_123 : Array (Option Value)} {oc_124 : Value} {kV_125 : Value} {dc_126 : Value} {pm_127 : Value} {cd_128 : Value} {ct_129 : Value} {f_130 : Addr} {od_131 : Option Addr} {an_132 : Option Addr} {sl_133 : Array (Option Value)} {oc_134 : Value} {kV_135 : Value} {dc_136 : Value} {pm_137 : Value} {cd_138 : Value} {ct_139 : Value} {f_140 : Addr} {od_141 : Option Addr} {an_142 : Option Addr} {sl_143 : Array (Option Value)} {oc_144 : Value} {kV_145 : Value} {dc_146 : Value} {pm_147 : Value} {cd_148 : Value} {ct_149 : Value} {f_150 : Addr} {od_151 : Option Addr} {an_152 : Option Addr} {sl_153 : Array (Option Value)} {oc_154 : Value} {kV_155 : Value} {dc_156 : Value} {pm_157 : Value} {cd_158 : Value} {ct_159 : Value} {f_160 : Addr} {od_161 : Option Addr} {an_162 : Option Addr} {sl_163 : Array (Option Value)} {oc_164 : Value} {kV_165 : Value} {dc_166 : Value} {pm_167 : Value} {cd_168 : Value} {ct_169 : Value} {f_170 : Addr} {od_171 : Option Addr} {an_172 : Option Addr} {sl_173 : Array (Option Value)} {oc_174 : Value} {kV_175 : Value} {dc_176 : Value} {pm_177 : Value} {cd_178 : Value} {ct_179 : Value} {f_180 : Addr} {od_181 : Option Addr} {an_182 : Option Addr} {sl_183 : Array (Option Value)} {oc_184 : Value} {kV_185 : Value} {dc_186 : Value} {pm_187 : Value} {cd_188 : Value} {ct_189 : Value} {f_190 : Addr} {od_191 : Option Addr} {an_192 : Option Addr} {sl_193 : Array (Option Value)} {oc_194 : Value} {kV_195 : Value} {dc_196 : Value} {pm_197 : Value} {cd_198 : Value} {ct_199 : Value} {t_200 : Tok} {x_201 : Str} {t_202 : Tok} {x_203 : Str} {t_204 : Tok} {x_205 : Str} {t_206 : Tok} {x_207 : Str} {t_208 : Tok} {x_209 : Str} {t_210 : Tok} {x_211 : Str} {t_212 : Tok} {x_213 : Str} {t_214 : Tok} {x_215 : Str} {t_216 : Tok} {x_217 : Str} {t_218 : Tok} {x_219 : Str} {a_220 : Addr} {od_221 : Option Addr} {n_222 : Nat} {sl_223 : Array (Option Value)} {C_224 : Addr} {C_225 : Addr} {C_226 : Addr} {C_227 : Addr}
    (q0 : PySem.W.nsIn K mainGlobals "worth_of" = some (some (.ref f_0)))
    (q1 : K.lookup f_0 = some ⟨oc_4, od_1, .func (PySem.W.fnOf "worth_of" "worth_of" (defArgs s_worth_of) (defBody s_worth_of) (defScope s_worth_of) .none kV_5 dc_6 pm_7 an_2 cd_8 ct_9), sl_3⟩)
    (q2 : PySem.W.codeIn K cd_8 "worth_of" = true)
    (q3 : PySem.W.keepIn K (.ref f_0) = true)
    (q4 : PySem.W.nsIn K mainGlobals "greatest" = some (some (.ref f_10)))
    (q5 : K.lookup f_10 = some ⟨oc_14, od_11, .func (PySem.W.fnOf "greatest" "greatest" (defArgs s_greatest) (defBody s_greatest) (defScope s_greatest) .none kV_15 dc_16 pm_17 an_12 cd_18 ct_19), sl_13⟩)
    (q6 : PySem.W.codeIn K cd_18 "greatest" = true)
    (q7 : PySem.W.keepIn K (.ref f_10) = true)
    (q8 : PySem.W.nsIn K mainGlobals "written_figure" = some (some (.ref f_20)))
    (q9 : K.lookup f_20 = some ⟨oc_24, od_21, .func (PySem.W.fnOf "written_figure" "written_figure" (defArgs s_written_figure) (defBody s_written_figure) (defScope s_written_figure) .none kV_25 dc_26 pm_27 an_22 cd_28 ct_29), sl_23⟩)
    (q10 : PySem.W.codeIn K cd_28 "written_figure" = true)
    (q11 : PySem.W.keepIn K (.ref f_20) = true)
    (q12 : PySem.W.nsIn K mainGlobals "write_strokes" = some (some (.ref f_30)))
    (q13 : K.lookup f_30 = some ⟨oc_34, od_31, .func (PySem.W.fnOf "write_strokes" "write_strokes" (defArgs s_write_strokes) (defBody s_write_strokes) (defScope s_write_strokes) .none kV_35 dc_36 pm_37 an_32 cd_38 ct_39), sl_33⟩)
    (q14 : PySem.W.codeIn K cd_38 "write_strokes" = true)
    (q15 : PySem.W.keepIn K (.ref f_30) = true)
    (q16 : PySem.W.nsIn K mainGlobals "sum_of_strokes" = some (some (.ref f_40)))
    (q17 : K.lookup f_40 = some ⟨oc_44, od_41, .func (PySem.W.fnOf "sum_of_strokes" "sum_of_strokes" (defArgs s_sum_of_strokes) (defBody s_sum_of_strokes) (defScope s_sum_of_strokes) .none kV_45 dc_46 pm_47 an_42 cd_48 ct_49), sl_43⟩)
    (q18 : PySem.W.codeIn K cd_48 "sum_of_strokes" = true)
    (q19 : PySem.W.keepIn K (.ref f_40) = true)
    (q20 : PySem.W.nsIn K mainGlobals "read_strokes" = some (some (.ref f_50)))
    (q21 : K.lookup f_50 = some ⟨oc_54, od_51, .func (PySem.W.fnOf "read_strokes" "read_strokes" (defArgs s_read_strokes) (defBody s_read_strokes) (defScope s_read_strokes) .none kV_55 dc_56 pm_57 an_52 cd_58 ct_59), sl_53⟩)
    (q22 : PySem.W.codeIn K cd_58 "read_strokes" = true)
    (q23 : PySem.W.keepIn K (.ref f_50) = true)
    (q24 : PySem.W.nsIn K mainGlobals "_law_cell" = some (some (.ref f_60)))
    (q25 : K.lookup f_60 = some ⟨oc_64, od_61, .func (PySem.W.fnOf "_law_cell" "_law_cell" (defArgs s__law_cell) (defBody s__law_cell) (defScope s__law_cell) .none kV_65 dc_66 pm_67 an_62 cd_68 ct_69), sl_63⟩)
    (q26 : PySem.W.codeIn K cd_68 "_law_cell" = true)
    (q27 : PySem.W.keepIn K (.ref f_60) = true)
    (q28 : PySem.W.nsIn K mainGlobals "_law_numbers" = some (some (.ref f_70)))
    (q29 : K.lookup f_70 = some ⟨oc_74, od_71, .func (PySem.W.fnOf "_law_numbers" "_law_numbers" (defArgs s__law_numbers) (defBody s__law_numbers) (defScope s__law_numbers) .none kV_75 dc_76 pm_77 an_72 cd_78 ct_79), sl_73⟩)
    (q30 : PySem.W.codeIn K cd_78 "_law_numbers" = true)
    (q31 : PySem.W.keepIn K (.ref f_70) = true)
    (q32 : PySem.W.nsIn K mainGlobals "_law_same" = some (some (.ref f_80)))
    (q33 : K.lookup f_80 = some ⟨oc_84, od_81, .func (PySem.W.fnOf "_law_same" "_law_same" (defArgs s__law_same) (defBody s__law_same) (defScope s__law_same) .none kV_85 dc_86 pm_87 an_82 cd_88 ct_89), sl_83⟩)
    (q34 : PySem.W.codeIn K cd_88 "_law_same" = true)
    (q35 : PySem.W.keepIn K (.ref f_80) = true)
    (q36 : PySem.W.nsIn K mainGlobals "_law_signs" = some (some (.ref f_90)))
    (q37 : K.lookup f_90 = some ⟨oc_94, od_91, .func (PySem.W.fnOf "_law_signs" "_law_signs" (defArgs s__law_signs) (defBody s__law_signs) (defScope s__law_signs) .none kV_95 dc_96 pm_97 an_92 cd_98 ct_99), sl_93⟩)
    (q38 : PySem.W.codeIn K cd_98 "_law_signs" = true)
    (q39 : PySem.W.keepIn K (.ref f_90) = true)
    (q40 : PySem.W.nsIn K mainGlobals "_law_pieces" = some (some (.ref f_100)))
    (q41 : K.lookup f_100 = some ⟨oc_104, od_101, .func (PySem.W.fnOf "_law_pieces" "_law_pieces" (defArgs s__law_pieces) (defBody s__law_pieces) (defScope s__law_pieces) .none kV_105 dc_106 pm_107 an_102 cd_108 ct_109), sl_103⟩)
    (q42 : PySem.W.codeIn K cd_108 "_law_pieces" = true)
    (q43 : PySem.W.keepIn K (.ref f_100) = true)
    (q44 : PySem.W.nsIn K mainGlobals "_law_write" = some (some (.ref f_110)))
    (q45 : K.lookup f_110 = some ⟨oc_114, od_111, .func (PySem.W.fnOf "_law_write" "_law_write" (defArgs s__law_write) (defBody s__law_write) (defScope s__law_write) .none kV_115 dc_116 pm_117 an_112 cd_118 ct_119), sl_113⟩)
    (q46 : PySem.W.codeIn K cd_118 "_law_write" = true)
    (q47 : PySem.W.keepIn K (.ref f_110) = true)
    (q48 : PySem.W.nsIn K mainGlobals "_law_worths" = some (some (.ref f_120)))
    (q49 : K.lookup f_120 = some ⟨oc_124, od_121, .func (PySem.W.fnOf "_law_worths" "_law_worths" (defArgs s__law_worths) (defBody s__law_worths) (defScope s__law_worths) .none kV_125 dc_126 pm_127 an_122 cd_128 ct_129), sl_123⟩)
    (q50 : PySem.W.codeIn K cd_128 "_law_worths" = true)
    (q51 : PySem.W.keepIn K (.ref f_120) = true)
    (q52 : PySem.W.nsIn K mainGlobals "_law_sum" = some (some (.ref f_130)))
    (q53 : K.lookup f_130 = some ⟨oc_134, od_131, .func (PySem.W.fnOf "_law_sum" "_law_sum" (defArgs s__law_sum) (defBody s__law_sum) (defScope s__law_sum) .none kV_135 dc_136 pm_137 an_132 cd_138 ct_139), sl_133⟩)
    (q54 : PySem.W.codeIn K cd_138 "_law_sum" = true)
    (q55 : PySem.W.keepIn K (.ref f_130) = true)
    (q56 : PySem.W.nsIn K mainGlobals "_law_read" = some (some (.ref f_140)))
    (q57 : K.lookup f_140 = some ⟨oc_144, od_141, .func (PySem.W.fnOf "_law_read" "_law_read" (defArgs s__law_read) (defBody s__law_read) (defScope s__law_read) .none kV_145 dc_146 pm_147 an_142 cd_148 ct_149), sl_143⟩)
    (q58 : PySem.W.codeIn K cd_148 "_law_read" = true)
    (q59 : PySem.W.keepIn K (.ref f_140) = true)
    (q60 : PySem.W.nsIn K mainGlobals "_law_asked" = some (some (.ref f_150)))
    (q61 : K.lookup f_150 = some ⟨oc_154, od_151, .func (PySem.W.fnOf "_law_asked" "_law_asked" (defArgs s__law_asked) (defBody s__law_asked) (defScope s__law_asked) .none kV_155 dc_156 pm_157 an_152 cd_158 ct_159), sl_153⟩)
    (q62 : PySem.W.codeIn K cd_158 "_law_asked" = true)
    (q63 : PySem.W.keepIn K (.ref f_150) = true)
    (q64 : PySem.W.nsIn K mainGlobals "_law_refused" = some (some (.ref f_160)))
    (q65 : K.lookup f_160 = some ⟨oc_164, od_161, .func (PySem.W.fnOf "_law_refused" "_law_refused" (defArgs s__law_refused) (defBody s__law_refused) (defScope s__law_refused) .none kV_165 dc_166 pm_167 an_162 cd_168 ct_169), sl_163⟩)
    (q66 : PySem.W.codeIn K cd_168 "_law_refused" = true)
    (q67 : PySem.W.keepIn K (.ref f_160) = true)
    (q68 : PySem.W.nsIn K mainGlobals "_law_texts" = some (some (.ref f_170)))
    (q69 : K.lookup f_170 = some ⟨oc_174, od_171, .func (PySem.W.fnOf "_law_texts" "_law_texts" (defArgs s__law_texts) (defBody s__law_texts) (defScope s__law_texts) .none kV_175 dc_176 pm_177 an_172 cd_178 ct_179), sl_173⟩)
    (q70 : PySem.W.codeIn K cd_178 "_law_texts" = true)
    (q71 : PySem.W.keepIn K (.ref f_170) = true)
    (q72 : PySem.W.nsIn K mainGlobals "_law_grown" = some (some (.ref f_180)))
    (q73 : K.lookup f_180 = some ⟨oc_184, od_181, .func (PySem.W.fnOf "_law_grown" "_law_grown" (defArgs s__law_grown) (defBody s__law_grown) (defScope s__law_grown) .none kV_185 dc_186 pm_187 an_182 cd_188 ct_189), sl_183⟩)
    (q74 : PySem.W.codeIn K cd_188 "_law_grown" = true)
    (q75 : PySem.W.keepIn K (.ref f_180) = true)
    (q76 : PySem.W.nsIn K mainGlobals "law" = some (some (.ref f_190)))
    (q77 : K.lookup f_190 = some ⟨oc_194, od_191, .func (PySem.W.fnOf "law" "law" (defArgs s_law) (defBody s_law) (defScope s_law) .none kV_195 dc_196 pm_197 an_192 cd_198 ct_199), sl_193⟩)
    (q78 : PySem.W.codeIn K cd_198 "law" = true)
    (q79 : PySem.W.keepIn K (.ref f_190) = true)
    (q80 : PySem.W.nsIn K mainGlobals "all" = some none)
    (q81 : PySem.W.nsIn K mainGlobals "bool" = some none)
    (q82 : PySem.W.nsIn K mainGlobals "enumerate" = some none)
    (q83 : PySem.W.nsIn K mainGlobals "int" = some none)
    (q84 : PySem.W.nsIn K mainGlobals "isinstance" = some none)
    (q85 : PySem.W.nsIn K mainGlobals "len" = some none)
    (q86 : PySem.W.nsIn K mainGlobals "list" = some none)
    (q87 : PySem.W.nsIn K mainGlobals "min" = some none)
    (q88 : PySem.W.nsIn K mainGlobals "range" = some none)
    (q89 : PySem.W.nsIn K mainGlobals "str" = some none)
    (q90 : PySem.W.nsIn K mainGlobals "tuple" = some none)
    (q91 : x_201.cps.toList = [])
    (q92 : x_203.cps.toList = [111])
    (q93 : x_205.cps.toList = [111, 111])
    (q94 : x_207.cps.toList = [111, 111, 111])
    (q95 : x_209.cps.toList = [111, 102])
    (q96 : x_211.cps.toList = [102])
    (q97 : x_213.cps.toList = [102, 111])
    (q98 : x_215.cps.toList = [102, 111, 111])
    (q99 : x_217.cps.toList = [102, 111, 111, 111])
    (q100 : x_219.cps.toList = [111, 116])
    (q101 : K.lookup a_220 = some ⟨.type "tuple", od_221, .seq #[.str x_201 t_200, .str x_203 t_202, .str x_205 t_204, .str x_207 t_206, .str x_209 t_208, .str x_211 t_210, .str x_213 t_212, .str x_215 t_214, .str x_217 t_216, .str x_219 t_218] n_222, sl_223⟩)
    (q102 : PySem.W.nsIn K mainGlobals "SHAPES" = some (some (.ref a_220)))
    (q103 : PySem.W.nsIn K mainGlobals "ScriptError" = some (some (.ref C_224)))
    (q104 : PySem.W.nsIn K mainGlobals "InvalidFigures" = some (some (.ref C_225)))
    (q105 : PySem.W.nsIn K mainGlobals "NumberOutOfRange" = some (some (.ref C_226)))
    (q106 : PySem.W.nsIn K mainGlobals "NotNumber" = some (some (.ref C_227)))
    (q107 : PySem.W.excIn K C_224 [.type "ValueError", .type "Exception", .type "BaseException", .type "object"] "ValueError.__new__" = true)
    (q108 : PySem.W.keepIn K (.ref C_224) = true)
    (q109 : PySem.W.subIn K (.ref C_224) (.type "BaseException") = some true)
    (q110 : PySem.W.typeIn K (.ref C_224) = some (.type "type"))
    (q111 : PySem.W.hasDictIn K C_224 = true)
    (q112 : PySem.W.subIn K (.ref C_224) (.ref C_224) = some true)
    (q113 : PySem.W.subIn K (.ref C_224) (.ref C_225) = some false)
    (q114 : PySem.W.subIn K (.ref C_224) (.ref C_226) = some false)
    (q115 : PySem.W.subIn K (.ref C_224) (.ref C_227) = some false)
    (q116 : PySem.W.findIn K (.ref C_224) "__getattribute__" = some (some (.builtin "BaseException.__getattribute__")))
    (q117 : PySem.W.findIn K (.ref C_224) "__getattr__" = some none)
    (q118 : PySem.W.findIn K (.ref C_224) "__class__" = some (some (.builtin "object.__class__")))
    (q119 : PySem.W.mroIn K C_224 (.type "object") = some true)
    (q120 : PySem.W.excIn K C_225 [.type "ValueError", .type "Exception", .type "BaseException", .type "object"] "ValueError.__new__" = true)
    (q121 : PySem.W.keepIn K (.ref C_225) = true)
    (q122 : PySem.W.subIn K (.ref C_225) (.type "BaseException") = some true)
    (q123 : PySem.W.typeIn K (.ref C_225) = some (.type "type"))
    (q124 : PySem.W.hasDictIn K C_225 = true)
    (q125 : PySem.W.subIn K (.ref C_225) (.ref C_224) = some true)
    (q126 : PySem.W.subIn K (.ref C_225) (.ref C_225) = some true)
    (q127 : PySem.W.subIn K (.ref C_225) (.ref C_226) = some false)
    (q128 : PySem.W.subIn K (.ref C_225) (.ref C_227) = some false)
    (q129 : PySem.W.findIn K (.ref C_225) "__getattribute__" = some (some (.builtin "BaseException.__getattribute__")))
    (q130 : PySem.W.findIn K (.ref C_225) "__getattr__" = some none)
    (q131 : PySem.W.findIn K (.ref C_225) "__class__" = some (some (.builtin "object.__class__")))
    (q132 : PySem.W.mroIn K C_225 (.type "object") = some true)
    (q133 : PySem.W.excIn K C_226 [.type "ValueError", .type "Exception", .type "BaseException", .type "object"] "ValueError.__new__" = true)
    (q134 : PySem.W.keepIn K (.ref C_226) = true)
    (q135 : PySem.W.subIn K (.ref C_226) (.type "BaseException") = some true)
    (q136 : PySem.W.typeIn K (.ref C_226) = some (.type "type"))
    (q137 : PySem.W.hasDictIn K C_226 = true)
    (q138 : PySem.W.subIn K (.ref C_226) (.ref C_224) = some true)
    (q139 : PySem.W.subIn K (.ref C_226) (.ref C_225) = some false)
    (q140 : PySem.W.subIn K (.ref C_226) (.ref C_226) = some true)
    (q141 : PySem.W.subIn K (.ref C_226) (.ref C_227) = some false)
    (q142 : PySem.W.findIn K (.ref C_226) "__getattribute__" = some (some (.builtin "BaseException.__getattribute__")))
    (q143 : PySem.W.findIn K (.ref C_226) "__getattr__" = some none)
    (q144 : PySem.W.findIn K (.ref C_226) "__class__" = some (some (.builtin "object.__class__")))
    (q145 : PySem.W.mroIn K C_226 (.type "object") = some true)
    (q146 : PySem.W.excIn K C_227 [.type "ValueError", .type "Exception", .type "BaseException", .type "object"] "ValueError.__new__" = true)
    (q147 : PySem.W.keepIn K (.ref C_227) = true)
    (q148 : PySem.W.subIn K (.ref C_227) (.type "BaseException") = some true)
    (q149 : PySem.W.typeIn K (.ref C_227) = some (.type "type"))
    (q150 : PySem.W.hasDictIn K C_227 = true)
    (q151 : PySem.W.subIn K (.ref C_227) (.ref C_224) = some true)
    (q152 : PySem.W.subIn K (.ref C_227) (.ref C_225) = some false)
    (q153 : PySem.W.subIn K (.ref C_227) (.ref C_226) = some false)
    (q154 : PySem.W.subIn K (.ref C_227) (.ref C_227) = some true)
    (q155 : PySem.W.findIn K (.ref C_227) "__getattribute__" = some (some (.builtin "BaseException.__getattribute__")))
    (q156 : PySem.W.findIn K (.ref C_227) "__getattr__" = some none)
    (q157 : PySem.W.findIn K (.ref C_227) "__class__" = some (some (.builtin "object.__class__")))
    (q158 : PySem.W.mroIn K C_227 (.type "object") = some true)
    (q159 : PySem.W.specialIn K (.builtin "object.__class__") "__get__" = some (some (.builtin "getset_descriptor.__get__")))
    (q160 : PySem.W.takesIn K (.builtin "object.__class__") = some true)
    (law_true : ∀ ns : List Int, ns.length ≤ 63 → f_law [.lst (ns.map .int)] = .ok (.bl true)) :
    ∃ fd : FuncData, (∀ (s : Shared) (u : Value), BindsTo s fd ⟨[u], []⟩ [("script", u)]) ∧ ∀ base : Heap, K.In base → base.Ns mainGlobals mg → FnOk P w K mg base (L2.CX P w) 14 fa fd ["script"] (spLaw K) := by
  have e := hfa.symm.trans (PySem.W.mg_of X G q76)
  obtain rfl : f_190 = fa := by cases e; rfl
  have F0 := fun_mk (st := s_worth_of) q1 q2 q3
  have B0 := F0.binds (ps := ["place"]) fun _ _ _ _ _ _ us hl => match us, hl with | [_], _ => rfl
  have F1 := fun_mk (st := s_greatest) q5 q6 q7
  have B1 := F1.binds (ps := ["letters"]) fun _ _ _ _ _ _ us hl => match us, hl with | [_], _ => rfl
  have F2 := fun_mk (st := s_written_figure) q9 q10 q11
  have B2 := F2.binds (ps := ["letters", "place", "figure"]) fun _ _ _ _ _ _ us hl => match us, hl with | [_, _, _], _ => rfl
  have F3 := fun_mk (st := s_write_strokes) q13 q14 q15
  have B3 := F3.binds (ps := ["letters", "number"]) fun _ _ _ _ _ _ us hl => match us, hl with | [_, _], _ => rfl
  have F4 := fun_mk (st := s_sum_of_strokes) q17 q18 q19
  have B4 := F4.binds (ps := ["letters", "text"]) fun _ _ _ _ _ _ us hl => match us, hl with | [_, _], _ => rfl
  have F5 := fun_mk (st := s_read_strokes) q21 q22 q23
  have B5 := F5.binds (ps := ["letters", "text"]) fun _ _ _ _ _ _ us hl => match us, hl with | [_, _], _ => rfl
  have F6 := fun_mk (st := s__law_cell) q25 q26 q27
  have B6 := F6.binds (ps := ["script", "k"]) fun _ _ _ _ _ _ us hl => match us, hl with | [_, _], _ => rfl
  have F7 := fun_mk (st := s__law_numbers) q29 q30 q31
  have B7 := F7.binds (ps := ["cell", "count", "limit"]) fun _ _ _ _ _ _ us hl => match us, hl with | [_, _, _], _ => rfl
  have F8 := fun_mk (st := s__law_same) q33 q34 q35
  have B8 := F8.binds (ps := ["answer", "due"]) fun _ _ _ _ _ _ us hl => match us, hl with | [_, _], _ => rfl
  have F9 := fun_mk (st := s__law_signs) q37 q38 q39
  have B9 := F9.binds (ps := ["draw", "count"]) fun _ _ _ _ _ _ us hl => match us, hl with | [_, _], _ => rfl
  have F10 := fun_mk (st := s__law_pieces) q41 q42 q43
  have B10 := F10.binds (ps := ["letters"]) fun _ _ _ _ _ _ us hl => match us, hl with | [_], _ => rfl
  have F11 := fun_mk (st := s__law_write) q45 q46 q47
  have B11 := F11.binds (ps := ["letters", "number"]) fun _ _ _ _ _ _ us hl => match us, hl with | [_, _], _ => rfl
  have F12 := fun_mk (st := s__law_worths) q49 q50 q51
  have B12 := F12.binds (ps := ["letters", "text"]) fun _ _ _ _ _ _ us hl => match us, hl with | [_, _], _ => rfl
  have F13 := fun_mk (st := s__law_sum) q53 q54 q55
  have B13 := F13.binds (ps := ["letters", "text"]) fun _ _ _ _ _ _ us hl => match us, hl with | [_, _], _ => rfl
  have F14 := fun_mk (st := s__law_read) q57 q58 q59
  have B14 := F14.binds (ps := ["letters", "text", "most"]) fun _ _ _ _ _ _ us hl => match us, hl with | [_, _, _], _ => rfl
  have F15 := fun_mk (st := s__law_asked) q61 q62 q63
  have B15 := F15.binds (ps := ["letters", "text"]) fun _ _ _ _ _ _ us hl => match us, hl with | [_, _], _ => rfl
  have F16 := fun_mk (st := s__law_refused) q65 q66 q67
  have B16 := F16.binds (ps := ["letters", "number"]) fun _ _ _ _ _ _ us hl => match us, hl with | [_, _], _ => rfl
  have F17 := fun_mk (st := s__law_texts) q69 q70 q71
  have B17 := F17.binds (ps := ["letters", "text", "draws"]) fun _ _ _ _ _ _ us hl => match us, hl with | [_, _, _], _ => rfl
  have F18 := fun_mk (st := s__law_grown) q73 q74 q75
  have B18 := F18.binds (ps := ["level", "letters"]) fun _ _ _ _ _ _ us hl => match us, hl with | [_, _], _ => rfl
  have F19 := fun_mk (st := s_law) q77 q78 q79
  have B19 := F19.binds (ps := ["script"]) fun _ _ _ _ _ _ us hl => match us, hl with | [_], _ => rfl
  let fdv : Nat → FuncData := fun n => match n with
    | 0 => PySem.W.fnOf "worth_of" "worth_of" (defArgs s_worth_of) (defBody s_worth_of) (defScope s_worth_of) .none kV_5 dc_6 pm_7 an_2 cd_8 ct_9
    | 1 => PySem.W.fnOf "greatest" "greatest" (defArgs s_greatest) (defBody s_greatest) (defScope s_greatest) .none kV_15 dc_16 pm_17 an_12 cd_18 ct_19
    | 2 => PySem.W.fnOf "written_figure" "written_figure" (defArgs s_written_figure) (defBody s_written_figure) (defScope s_written_figure) .none kV_25 dc_26 pm_27 an_22 cd_28 ct_29
    | 3 => PySem.W.fnOf "write_strokes" "write_strokes" (defArgs s_write_strokes) (defBody s_write_strokes) (defScope s_write_strokes) .none kV_35 dc_36 pm_37 an_32 cd_38 ct_39
    | 4 => PySem.W.fnOf "sum_of_strokes" "sum_of_strokes" (defArgs s_sum_of_strokes) (defBody s_sum_of_strokes) (defScope s_sum_of_strokes) .none kV_45 dc_46 pm_47 an_42 cd_48 ct_49
    | 5 => PySem.W.fnOf "read_strokes" "read_strokes" (defArgs s_read_strokes) (defBody s_read_strokes) (defScope s_read_strokes) .none kV_55 dc_56 pm_57 an_52 cd_58 ct_59
    | 6 => PySem.W.fnOf "_law_cell" "_law_cell" (defArgs s__law_cell) (defBody s__law_cell) (defScope s__law_cell) .none kV_65 dc_66 pm_67 an_62 cd_68 ct_69
    | 7 => PySem.W.fnOf "_law_numbers" "_law_numbers" (defArgs s__law_numbers) (defBody s__law_numbers) (defScope s__law_numbers) .none kV_75 dc_76 pm_77 an_72 cd_78 ct_79
    | 8 => PySem.W.fnOf "_law_same" "_law_same" (defArgs s__law_same) (defBody s__law_same) (defScope s__law_same) .none kV_85 dc_86 pm_87 an_82 cd_88 ct_89
    | 9 => PySem.W.fnOf "_law_signs" "_law_signs" (defArgs s__law_signs) (defBody s__law_signs) (defScope s__law_signs) .none kV_95 dc_96 pm_97 an_92 cd_98 ct_99
    | 10 => PySem.W.fnOf "_law_pieces" "_law_pieces" (defArgs s__law_pieces) (defBody s__law_pieces) (defScope s__law_pieces) .none kV_105 dc_106 pm_107 an_102 cd_108 ct_109
    | 11 => PySem.W.fnOf "_law_write" "_law_write" (defArgs s__law_write) (defBody s__law_write) (defScope s__law_write) .none kV_115 dc_116 pm_117 an_112 cd_118 ct_119
    | 12 => PySem.W.fnOf "_law_worths" "_law_worths" (defArgs s__law_worths) (defBody s__law_worths) (defScope s__law_worths) .none kV_125 dc_126 pm_127 an_122 cd_128 ct_129
    | 13 => PySem.W.fnOf "_law_sum" "_law_sum" (defArgs s__law_sum) (defBody s__law_sum) (defScope s__law_sum) .none kV_135 dc_136 pm_137 an_132 cd_138 ct_139
    | 14 => PySem.W.fnOf "_law_read" "_law_read" (defArgs s__law_read) (defBody s__law_read) (defScope s__law_read) .none kV_145 dc_146 pm_147 an_142 cd_148 ct_149
    | 15 => PySem.W.fnOf "_law_asked" "_law_asked" (defArgs s__law_asked) (defBody s__law_asked) (defScope s__law_asked) .none kV_155 dc_156 pm_157 an_152 cd_158 ct_159
    | 16 => PySem.W.fnOf "_law_refused" "_law_refused" (defArgs s__law_refused) (defBody s__law_refused) (defScope s__law_refused) .none kV_165 dc_166 pm_167 an_162 cd_168 ct_169
    | 17 => PySem.W.fnOf "_law_texts" "_law_texts" (defArgs s__law_texts) (defBody s__law_texts) (defScope s__law_texts) .none kV_175 dc_176 pm_177 an_172 cd_178 ct_179
    | 18 => PySem.W.fnOf "_law_grown" "_law_grown" (defArgs s__law_grown) (defBody s__law_grown) (defScope s__law_grown) .none kV_185 dc_186 pm_187 an_182 cd_188 ct_189
    | _ => PySem.W.fnOf "law" "law" (defArgs s_law) (defBody s_law) (defScope s_law) .none kV_195 dc_196 pm_197 an_192 cd_198 ct_199
  let fav : Nat → Addr := fun n => match n with
    | 0 => f_0
    | 1 => f_10
    | 2 => f_20
    | 3 => f_30
    | 4 => f_40
    | 5 => f_50
    | 6 => f_60
    | 7 => f_70
    | 8 => f_80
    | 9 => f_90
    | 10 => f_100
    | 11 => f_110
    | 12 => f_120
    | 13 => f_130
    | 14 => f_140
    | 15 => f_150
    | 16 => f_160
    | 17 => f_170
    | 18 => f_180
    | _ => f_190
  let EC : Nat → Addr := fun n => match cl n with
    | 0 => C_224
    | 1 => C_225
    | 2 => C_226
    | _ => C_227
  have er : Errs K EC sub := ⟨(fun n => match n with | 0 => ⟨_, _, _, _, PySem.F.excBase_ValueError, q107⟩ | 1 => ⟨_, _, _, _, PySem.F.excBase_ValueError, q120⟩ | 2 => ⟨_, _, _, _, PySem.F.excBase_ValueError, q133⟩ | _ + 3 => ⟨_, _, _, _, PySem.F.excBase_ValueError, q146⟩),
    (fun n => match n with | 0 => q108 | 1 => q121 | 2 => q134 | _ + 3 => q147),
    (fun n => match n with | 0 => q109 | 1 => q122 | 2 => q135 | _ + 3 => q148),
    (fun n => match n with | 0 => q110 | 1 => q123 | 2 => q136 | _ + 3 => q149),
    (fun y n => match y, n with | 0, 0 => PySem.W.exm_ref q109 q111 q110 q112 | 0, 1 => PySem.W.exm_ref q122 q124 q123 q113 | 0, 2 => PySem.W.exm_ref q135 q137 q136 q114 | 0, _ + 3 => PySem.W.exm_ref q148 q150 q149 q115 | 1, 0 => PySem.W.exm_ref q109 q111 q110 q125 | 1, 1 => PySem.W.exm_ref q122 q124 q123 q126 | 1, 2 => PySem.W.exm_ref q135 q137 q136 q127 | 1, _ + 3 => PySem.W.exm_ref q148 q150 q149 q128 | 2, 0 => PySem.W.exm_ref q109 q111 q110 q138 | 2, 1 => PySem.W.exm_ref q122 q124 q123 q139 | 2, 2 => PySem.W.exm_ref q135 q137 q136 q140 | 2, _ + 3 => PySem.W.exm_ref q148 q150 q149 q141 | _ + 3, 0 => PySem.W.exm_ref q109 q111 q110 q151 | _ + 3, 1 => PySem.W.exm_ref q122 q124 q123 q152 | _ + 3, 2 => PySem.W.exm_ref q135 q137 q136 q153 | _ + 3, _ + 3 => PySem.W.exm_ref q148 q150 q149 q154),
    (fun y n => match y, n with | 0, 0 => kit_ref q111 q110 q112 q112 | 0, 1 => kit_ref q124 q123 q126 q113 | 0, 2 => kit_ref q137 q136 q140 q114 | 0, _ + 3 => kit_ref q150 q149 q154 q115 | 1, 0 => kit_ref q111 q110 q112 q125 | 1, 1 => kit_ref q124 q123 q126 q126 | 1, 2 => kit_ref q137 q136 q140 q127 | 1, _ + 3 => kit_ref q150 q149 q154 q128 | 2, 0 => kit_ref q111 q110 q112 q138 | 2, 1 => kit_ref q124 q123 q126 q139 | 2, 2 => kit_ref q137 q136 q140 q140 | 2, _ + 3 => kit_ref q150 q149 q154 q141 | _ + 3, 0 => kit_ref q111 q110 q112 q151 | _ + 3, 1 => kit_ref q124 q123 q126 q152 | _ + 3, 2 => kit_ref q137 q136 q140 q153 | _ + 3, _ + 3 => kit_ref q150 q149 q154 q154),
    (fun n => match n with | 0 => ⟨q116, q117, q109, q111, q118, q159, q160, q119⟩ | 1 => ⟨q129, q130, q122, q124, q131, q159, q160, q132⟩ | 2 => ⟨q142, q143, q135, q137, q144, q159, q160, q145⟩ | _ + 3 => ⟨q155, q156, q148, q150, q157, q159, q160, q158⟩)⟩
  have T : Txt K mg EC fav fdv := { F0 := F0, g0 := PySem.W.mg_of X G q0, k0 := q3, b0 := B0, F1 := F1, g1 := PySem.W.mg_of X G q4, k1 := q7, b1 := B1, F2 := F2, g2 := PySem.W.mg_of X G q8, k2 := q11, b2 := B2, F3 := F3, g3 := PySem.W.mg_of X G q12, k3 := q15, b3 := B3, F4 := F4, g4 := PySem.W.mg_of X G q16, k4 := q19, b4 := B4, F5 := F5, g5 := PySem.W.mg_of X G q20, k5 := q23, b5 := B5, F6 := F6, g6 := PySem.W.mg_of X G q24, k6 := q27, b6 := B6, F7 := F7, g7 := PySem.W.mg_of X G q28, k7 := q31, b7 := B7, F8 := F8, g8 := PySem.W.mg_of X G q32, k8 := q35, b8 := B8, F9 := F9, g9 := PySem.W.mg_of X G q36, k9 := q39, b9 := B9, F10 := F10, g10 := PySem.W.mg_of X G q40, k10 := q43, b10 := B10, F11 := F11, g11 := PySem.W.mg_of X G q44, k11 := q47, b11 := B11, F12 := F12, g12 := PySem.W.mg_of X G q48, k12 := q51, b12 := B12, F13 := F13, g13 := PySem.W.mg_of X G q52, k13 := q55, b13 := B13, F14 := F14, g14 := PySem.W.mg_of X G q56, k14 := q59, b14 := B14, F15 := F15, g15 := PySem.W.mg_of X G q60, k15 := q63, b15 := B15, F16 := F16, g16 := PySem.W.mg_of X G q64, k16 := q67, b16 := B16, F17 := F17, g17 := PySem.W.mg_of X G q68, k17 := q71, b17 := B17, F18 := F18, g18 := PySem.W.mg_of X G q72, k18 := q75, b18 := B18, F19 := F19, g19 := PySem.W.mg_of X G q76, k19 := q79, b19 := B19, z_all := PySem.W.mg_none_of X G q80, z_bool := PySem.W.mg_none_of X G q81, z_enumerate := PySem.W.mg_none_of X G q82, z_int := PySem.W.mg_none_of X G q83, z_isinstance := PySem.W.mg_none_of X G q84, z_len := PySem.W.mg_none_of X G q85, z_list := PySem.W.mg_none_of X G q86, z_min := PySem.W.mg_none_of X G q87, z_range := PySem.W.mg_none_of X G q88, z_str := PySem.W.mg_none_of X G q89, z_tuple := PySem.W.mg_none_of X G q90, c_SHAPES := ⟨_, .ref a_220, PySem.W.mg_of X G q102, rfl, fun Z H => .tupK ⟨_, _, _, q101, rfl, rfl, (le_line (n := 10) (by decide)), .cons (rel_str) (.cons (rel_str) (.cons (rel_str) (.cons (rel_str) (.cons (rel_str) (.cons (rel_str) (.cons (rel_str) (.cons (rel_str) (.cons (rel_str) (.cons (rel_str) (.nil))))))))))⟩ (.cons ((rep_str q91 (by decide +kernel))) (.cons ((rep_str q92 (by decide +kernel))) (.cons ((rep_str q93 (by decide +kernel))) (.cons ((rep_str q94 (by decide +kernel))) (.cons ((rep_str q95 (by decide +kernel))) (.cons ((rep_str q96 (by decide +kernel))) (.cons ((rep_str q97 (by decide +kernel))) (.cons ((rep_str q98 (by decide +kernel))) (.cons ((rep_str q99 (by decide +kernel))) (.cons ((rep_str q100 (by decide +kernel))) (.nil)))))))))))⟩, er := er, e_ScriptError := PySem.W.mg_of X G q103, e_InvalidFigures := PySem.W.mg_of X G q104, e_NumberOutOfRange := PySem.W.mg_of X G q105, e_NotNumber := PySem.W.mg_of X G q106 }
  exact ⟨_, fun s u => .of_eq rfl, fun base _ _ => (ok_law T).imp (law_sp law_true)⟩
end PL.K52

set_option maxRecDepth 100000
namespace PL
set_option autoImplicit false
section
variable {α β : Type} {ρ ρ' : Env} {a b c : EM} {m r : LM} {t u : TM} {d x y : Dat} {i n : Nat} {g : GM} {gs : GsM} {s s1 s2 : SM} {f : Dat → R Dat} {f2 : Dat → Dat → R Dat} {o : Option Dat}
@[simp] theorem eV_zero : eV 0 (some d :: ρ) = .ok d := Eq.trans rfl rfl
@[simp] theorem eV_succ : eV (n + 1) (o :: ρ) = eV n ρ := by unfold eV; rw [List.getElem?_cons_succ]
@[simp] theorem eC_ap : eC d ρ = .ok d := Eq.trans rfl rfl
@[simp] theorem e1_ap : e1 f a ρ = (a ρ).bnd f := Eq.trans rfl rfl
@[simp] theorem e2_ap : e2 f2 a b ρ = (a ρ).bnd fun x => (b ρ).bnd fun y => f2 x y := Eq.trans rfl rfl
@[simp] theorem eNil_ap : eNil ρ = .ok [] := Eq.trans rfl rfl
@[simp] theorem eCons_ap : eCons a m ρ = (a ρ).bnd fun x => (m ρ).bnd fun xs => .ok (x :: xs) := Eq.trans rfl rfl
@[simp] theorem eLst_ap : eLst m ρ = (m ρ).bnd fun xs => if xs.length ≤ LINE then .ok (.lst xs) else .bad := Eq.trans rfl rfl
@[simp] theorem eTup_ap : eTup m ρ = (m ρ).bnd fun xs => if xs.length ≤ LINE then .ok (.tup xs) else .bad := Eq.trans rfl rfl
@[simp] theorem eDic0_ap : eDic0 ρ = .ok (.dic []) := Eq.trans rfl rfl
@[simp] theorem eCall_ap {F : List Dat → R Dat} : eCall F m ρ = (m ρ).bnd F := Eq.trans rfl rfl
@[simp] theorem eM1_ap : eM1 f2 a b ρ = (a ρ).bnd fun x => (isS x).bnd fun x => (b ρ).bnd fun y => f2 x y := Eq.trans rfl rfl
@[simp] theorem tE_ap : tE a ρ = (a ρ).bnd tru := Eq.trans rfl rfl
@[simp] theorem tNot_ap : tNot t ρ = (t ρ).bnd fun b => .ok (!b) := Eq.trans rfl rfl
@[simp] theorem tAnd_ap : tAnd t u ρ = (t ρ).bnd fun b => if b then u ρ else .ok false := Eq.trans rfl rfl
@[simp] theorem tOr_ap : tOr t u ρ = (t ρ).bnd fun b => if b then .ok true else u ρ := Eq.trans rfl rfl
@[simp] theorem eIf_ap : eIf t a b ρ = (t ρ).bnd fun c => if c then a ρ else b ρ := Eq.trans rfl rfl
@[simp] theorem eChain_ap {f g : Dat → Dat → R Dat} : eChain f g a b c ρ = (a ρ).bnd fun x => (b ρ).bnd fun y => (f x y).bnd fun z => match z with
  | .bl true => (c ρ).bnd fun w => g y w
  | .bl false => .ok (.bl false)
  | _ => .bad := Eq.trans rfl rfl
@[simp] theorem eAnd_ap : eAnd a b ρ = (a ρ).bnd fun x => match x with
  | .bl true => b ρ
  | .bl false => .ok (.bl false)
  | _ => .bad := Eq.trans rfl rfl
@[simp] theorem eOr_ap : eOr a b ρ = (a ρ).bnd fun x => match x with
  | .bl true => .ok (.bl true)
  | .bl false => b ρ
  | _ => .bad := Eq.trans rfl rfl
@[simp] theorem pN_ap : pN ρ = .ok none := Eq.trans rfl rfl
@[simp] theorem pS_ap : pS a ρ = (a ρ).bnd optInt := Eq.trans rfl rfl
@[simp] theorem optInt_int {k : Int} : optInt (.int k) = .ok (some k) := Eq.trans rfl rfl
@[simp] theorem eSli_ap {lo hi : PM} : eSli lo hi a ρ = (a ρ).bnd fun x => (lo ρ).bnd fun l => (hi ρ).bnd fun h => sliD l h x := Eq.trans rfl rfl
@[simp] theorem iOf_ap : iOf a ρ = (a ρ).bnd itemsD := Eq.trans rfl rfl
@[simp] theorem iR1_ap : iR1 a ρ = (a ρ).bnd rng1 := Eq.trans rfl rfl
@[simp] theorem iR2_ap : iR2 a b ρ = (a ρ).bnd fun x => (b ρ).bnd fun y => rng2 x y := Eq.trans rfl rfl
@[simp] theorem iR3_ap : iR3 a b c ρ = (a ρ).bnd fun x => (b ρ).bnd fun y => (c ρ).bnd fun z => rng3 x y z := Eq.trans rfl rfl
@[simp] theorem iEnum_ap : iEnum a ρ = (a ρ).bnd enumD := Eq.trans rfl rfl
@[simp] theorem iZip_ap : iZip a b ρ = (a ρ).bnd fun x => (b ρ).bnd fun y => zipD x y := Eq.trans rfl rfl
@[simp] theorem enumD_lst {xs : List Dat} : enumD (.lst xs) = .ok (enumFrom 0 xs) := Eq.trans rfl rfl
@[simp] theorem zipD_lst {xs ys : List Dat} : zipD (.lst xs) (.lst ys) = .ok (zipT xs ys) := Eq.trans rfl rfl
@[simp] theorem gV_zero : gV 0 d (o :: ρ) = .ok (some d :: ρ) := Eq.trans rfl rfl
@[simp] theorem gV_succ : gV (n + 1) d (o :: ρ) = (gV n d ρ).bnd fun r => .ok (o :: r) := by
  unfold gV
  by_cases h : n < ρ.length
  · rw [if_pos h, if_pos (by simpa using h)]; rfl
  · rw [if_neg h, if_neg (by simpa using h)]; rfl
@[simp] theorem gTup_ap {xs : List Dat} : gTup n gs (.tup xs) ρ = if xs.length = n then gs xs ρ else .bad := Eq.trans rfl rfl
@[simp] theorem gNil_ap : gNil [] ρ = .ok ρ := Eq.trans rfl rfl
@[simp] theorem gCons_ap {xs : List Dat} : gCons g gs (d :: xs) ρ = (g d ρ).bnd fun ρ' => gs xs ρ' := Eq.trans rfl rfl
@[simp] theorem noX_ok {v : α} : noX (R.ok v) = .ok v := Eq.trans rfl rfl
@[simp] theorem tYes_ap : tYes ρ = .ok true := Eq.trans rfl rfl
@[simp] theorem tru_bl {k : Bool} : tru (.bl k) = .ok k := Eq.trans rfl rfl
@[simp] theorem isS_str {z : List Nat} : isS (.str z) = .ok (.str z) := Eq.trans rfl rfl
/-! operations -/
@[simp] theorem addD_int {i j : Int} : addD (.int i) (.int j) = .ok (.int (i + j)) := Eq.trans rfl rfl
@[simp] theorem subD_int {i j : Int} : subD (.int i) (.int j) = .ok (.int (i - j)) := Eq.trans rfl rfl
@[simp] theorem addF_int {i j : Int} : addF (.int i) (.int j) = .ok (.int (i + j)) := Eq.trans rfl rfl
@[simp] theorem negD_int {i : Int} : negD (.int i) = .ok (.int (-i)) := Eq.trans rfl rfl
theorem mulD_int {i j : Int} (h : small64 i ∨ small64 j) : mulD (.int i) (.int j) = .ok (.int (i * j)) := if_pos h
theorem fdivD_int {i j : Int} (h : 0 < j ∧ j < 1073741824) : fdivD (.int i) (.int j) = .ok (.int (i / j)) := if_pos h
theorem modD_int {i j : Int} (h : 0 < j) : modD (.int i) (.int j) = .ok (.int (i % j)) := if_pos h
theorem addD_str {x y : List Nat} (h : x.length + y.length ≤ LINE) : addD (.str x) (.str y) = .ok (.str (x ++ y)) := if_pos h
theorem addD_lst {x y : List Dat} (h : x.length + y.length ≤ LINE) : addD (.lst x) (.lst y) = .ok (.lst (x ++ y)) := if_pos h
@[simp] theorem ltD_int {i j : Int} : ltD (.int i) (.int j) = .ok (.bl (decide (i < j))) := Eq.trans rfl rfl
@[simp] theorem leD_int {i j : Int} : leD (.int i) (.int j) = .ok (.bl (decide (i ≤ j))) := Eq.trans rfl rfl
@[simp] theorem gtD_int {i j : Int} : gtD (.int i) (.int j) = .ok (.bl (decide (j < i))) := Eq.trans rfl rfl
@[simp] theorem geD_int {i j : Int} : geD (.int i) (.int j) = .ok (.bl (decide (j ≤ i))) := Eq.trans rfl rfl
@[simp] theorem eqD_int {i j : Int} : eqD (.int i) (.int j) = .ok (.bl (i == j)) := Eq.trans rfl rfl
@[simp] theorem neD_int {i j : Int} : neD (.int i) (.int j) = .ok (.bl (!(i == j))) := Eq.trans rfl rfl
@[simp] theorem eqD_str {x y : List Nat} : eqD (.str x) (.str y) = .ok (.bl (x == y)) := Eq.trans rfl rfl
@[simp] theorem neD_str {x y : List Nat} : neD (.str x) (.str y) = .ok (.bl (!(x == y))) := Eq.trans rfl rfl
@[simp] theorem isN_non : isN .non = .ok (.bl true) := Eq.trans rfl rfl
@[simp] theorem isN_int {k : Int} : isN (.int k) = .ok (.bl false) := Eq.trans rfl rfl
@[simp] theorem isN_str {k : List Nat} : isN (.str k) = .ok (.bl false) := Eq.trans rfl rfl
@[simp] theorem isN_lst {k : List Dat} : isN (.lst k) = .ok (.bl false) := Eq.trans rfl rfl
@[simp] theorem isN_tup {k : List Dat} : isN (.tup k) = .ok (.bl false) := Eq.trans rfl rfl
@[simp] theorem isN_bl {k : Bool} : isN (.bl k) = .ok (.bl false) := Eq.trans rfl rfl
@[simp] theorem notN_non : notN .non = .ok (.bl false) := Eq.trans rfl rfl
@[simp] theorem notN_int {k : Int} : notN (.int k) = .ok (.bl true) := Eq.trans rfl rfl
@[simp] theorem notN_str {k : List Nat} : notN (.str k) = .ok (.bl true) := Eq.trans rfl rfl
@[simp] theorem notN_lst {k : List Dat} : notN (.lst k) = .ok (.bl true) := Eq.trans rfl rfl
@[simp] theorem notN_tup {k : List Dat} : notN (.tup k) = .ok (.bl true) := Eq.trans rfl rfl
@[simp] theorem notB_bl {k : Bool} : notB (.bl k) = .ok (.bl (!k)) := Eq.trans rfl rfl
@[simp] theorem lenD_lst {xs : List Dat} : lenD (.lst xs) = .ok (.int xs.length) := Eq.trans rfl rfl
@[simp] theorem lenD_tup {xs : List Dat} : lenD (.tup xs) = .ok (.int xs.length) := Eq.trans rfl rfl
@[simp] theorem lenD_str {xs : List Nat} : lenD (.str xs) = .ok (.int xs.length) := Eq.trans rfl rfl
@[simp] theorem lenD_dic {xs : List (Dat × Dat)} : lenD (.dic xs) = .ok (.int xs.length) := Eq.trans rfl rfl
@[simp] theorem intD_int {k : Int} : intD (.int k) = .ok (.int k) := Eq.trans rfl rfl
@[simp] theorem intD_bl {k : Bool} : intD (.bl k) = .ok (.int (b2i k)) := Eq.trans rfl rfl
@[simp] theorem itemsD_lst {xs : List Dat} : itemsD (.lst xs) = .ok xs := Eq.trans rfl rfl
@[simp] theorem itemsD_tup {xs : List Dat} : itemsD (.tup xs) = .ok xs := Eq.trans rfl rfl
@[simp] theorem itemsD_str {z : List Nat} : itemsD (.str z) = .ok (signs z) := Eq.trans rfl rfl
@[simp] theorem min2_int {i j : Int} : min2 (.int i) (.int j) = .ok (.int (if j < i then j else i)) := Eq.trans rfl rfl
@[simp] theorem max2_int {i j : Int} : max2 (.int i) (.int j) = .ok (.int (if j > i then j else i)) := Eq.trans rfl rfl
theorem atPlace_nat {xs : List α} {k : Nat} (h : k < xs.length) : atPlace xs (k : Int) = some xs[k] := by
  unfold atPlace placeOf
  rw [if_pos (by omega), if_pos (by omega)]
  show xs[(k : Int).toNat]? = _
  rw [Int.toNat_natCast, List.getElem?_eq_getElem h]
theorem idxD_lst {xs : List Dat} {k : Nat} (h : k < xs.length) : idxD (.lst xs) (.int k) = .ok xs[k] := by
  show (match atPlace xs k with | some d => R.ok d | none => .bad) = _
  rw [atPlace_nat h]
theorem idxD_tup {xs : List Dat} {k : Nat} (h : k < xs.length) : idxD (.tup xs) (.int k) = .ok xs[k] := by
  show (match atPlace xs k with | some d => R.ok d | none => .bad) = _
  rw [atPlace_nat h]
theorem idxD_str {xs : List Nat} {k : Nat} (h : k < xs.length) : idxD (.str xs) (.int k) = .ok (.str [xs[k]]) := by
  show (match atPlace xs k with | some c => R.ok (Dat.str [c]) | none => R.bad) = _
  rw [atPlace_nat h]
theorem upTo_zero (n : Nat) : upTo 0 n = (List.range n).map fun k => ((k : Nat) : Int) := by
  unfold upTo
  rw [show ((n : Int) - 0).toNat = n by omega]
  simp
theorem rng1_nat {n : Nat} (h : n < 2 ^ 62) : rng1 (.int n) = .ok ((List.range n).map fun k => .int (k : Nat)) := by
  show (if fits62 (n : Int) then R.ok ((upTo 0 n).map Dat.int) else .bad) = _
  rw [if_pos ⟨by omega, by omega⟩, upTo_zero, List.map_map]
  rfl
/-! ### statements -/
/-- a statement ends so -/
structure wp (o : O) (P : Fl → Env → Prop) : Prop where
  ex : ∃ f ρ, o = some (f, ρ) ∧ P f ρ
@[simp] theorem wp_some {f : Fl} {P : Fl → Env → Prop} : wp (some (f, ρ)) P ↔ P f ρ := ⟨fun ⟨_, _, e, h⟩ => by cases e; exact h, fun h => ⟨_, _, rfl, h⟩⟩
theorem wp_imp {o : O} {P Q : Fl → Env → Prop} (h : wp o P) (k : ∀ f ρ, P f ρ → Q f ρ) : wp o Q := by
  obtain ⟨f, ρ, e, h⟩ := h
  exact ⟨f, ρ, e, k f ρ h⟩
/-- what is wanted of a first statement -/
def Nxt (s : SM) (P : Fl → Env → Prop) : Fl → Env → Prop
  | .nx, ρ => wp (s ρ) P
  | f, ρ => P f ρ
@[simp] theorem Nxt_nx {P : Fl → Env → Prop} : Nxt s P .nx ρ = wp (s ρ) P := Eq.trans rfl rfl
@[simp] theorem Nxt_bk {P : Fl → Env → Prop} : Nxt s P .bk ρ = P .bk ρ := Eq.trans rfl rfl
@[simp] theorem Nxt_ct {P : Fl → Env → Prop} : Nxt s P .ct ρ = P .ct ρ := Eq.trans rfl rfl
@[simp] theorem Nxt_rt {P : Fl → Env → Prop} : Nxt s P (.rt d) ρ = P (.rt d) ρ := Eq.trans rfl rfl
@[simp] theorem Nxt_ex {P : Fl → Env → Prop} {k : Nat} : Nxt s P (.ex k) ρ = P (.ex k) ρ := Eq.trans rfl rfl
theorem wp_seq {P : Fl → Env → Prop} (h : wp (s1 ρ) (Nxt s2 P)) : wp (sSeq s1 s2 ρ) P := by
  obtain ⟨f, ρ', e, h⟩ := h
  unfold sSeq
  rw [e]
  cases f with
  | nx => exact h
  | bk => exact ⟨_, _, rfl, h⟩
  | ct => exact ⟨_, _, rfl, h⟩
  | rt d => exact ⟨_, _, rfl, h⟩
  | ex k => exact ⟨_, _, rfl, h⟩
theorem wp_seqN {P : Fl → Env → Prop} (h1 : s1 ρ = some (.nx, ρ')) (h : wp (s2 ρ') P) : wp (sSeq s1 s2 ρ) P := by
  unfold sSeq
  rw [h1]
  exact h
/-- what a def's end tells -/
def endR : Fl → R Dat
  | .nx => .ok .non
  | .rt d => .ok d
  | .ex c => .exc c
  | _ => .bad
@[simp] theorem endR_nx : endR .nx = .ok .non := Eq.trans rfl rfl
@[simp] theorem endR_rt : endR (.rt d) = .ok d := Eq.trans rfl rfl
@[simp] theorem endR_ex {k : Nat} : endR (.ex k) = .exc k := Eq.trans rfl rfl
theorem run_of {as : List Dat} {q : R Dat} (h : wp (s (as.map some ++ List.replicate (n - as.length) none)) fun f _ => endR f = q) : run n s as = q := by
  obtain ⟨f, ρ', e, h⟩ := h
  unfold run
  rw [e]
  cases f <;> exact h
theorem run_at (ρ0 : Env) {as : List Dat} {q : R Dat} (h : wp (s ρ0) fun f _ => endR f = q) (h0 : as.map some ++ List.replicate (n - as.length) none = ρ0 := by rfl) : run n s as = q := by
  subst h0
  exact run_of h
@[simp] theorem sSkip_ap : sSkip ρ = some (.nx, ρ) := Eq.trans rfl rfl
@[simp] theorem sAsg_ap : sAsg g a ρ = lft (a ρ) ρ fun d => gok (g d ρ) fun ρ' => some (.nx, ρ') := Eq.trans rfl rfl
@[simp] theorem sRet_ap : sRet a ρ = lft (a ρ) ρ fun d => some (.rt d, ρ) := Eq.trans rfl rfl
@[simp] theorem sRaise_ap {k : Nat} : sRaise k ρ = some (.ex k, ρ) := Eq.trans rfl rfl
@[simp] theorem sBrk_ap : sBrk ρ = some (.bk, ρ) := Eq.trans rfl rfl
@[simp] theorem sCnt_ap : sCnt ρ = some (.ct, ρ) := Eq.trans rfl rfl
@[simp] theorem sIf_ap : sIf t s1 s2 ρ = lft (t ρ) ρ fun c => if c then s1 ρ else s2 ρ := Eq.trans rfl rfl
@[simp] theorem sFor_ap {src : LM} : sFor src g s ρ = lft (src ρ) ρ fun ds => forL g s ds ρ := Eq.trans rfl rfl
@[simp] theorem sAug_ap : sAug f2 i a ρ = lft ((eV i ρ).bnd fun x => (a ρ).bnd fun y => f2 x y) ρ fun d => gok (gV i d ρ) fun ρ' => some (.nx, ρ') := Eq.trans rfl rfl
theorem sNew_lst {xs : List Dat} (h : a ρ = .ok (.lst xs)) (hi : i < ρ.length) : sNew i a ρ = some (.nx, ρ.set i (some (.lst xs))) := by
  unfold sNew
  rw [h]
  show (if i < ρ.length then _ else _) = _
  rw [if_pos hi]
theorem sNew_dic {xs : List (Dat × Dat)} (h : a ρ = .ok (.dic xs)) (hi : i < ρ.length) : sNew i a ρ = some (.nx, ρ.set i (some (.dic xs))) := by
  unfold sNew
  rw [h]
  show (if i < ρ.length then _ else _) = _
  rw [if_pos hi]
theorem sApp_ap {xs : List Dat} (h1 : ρ[i]? = some (some (.lst xs))) (h : a ρ = .ok d) (hl : xs.length < LINE) : sApp i a ρ = some (.nx, ρ.set i (some (.lst (xs ++ [d])))) := by
  unfold sApp
  rw [h1]
  show lft (a ρ) ρ _ = _
  rw [h]
  exact if_pos hl
theorem forL_nil : forL g s [] ρ = some (.nx, ρ) := rfl
/-- a loop by an invariant: each turn goes on -/
theorem forL_inv {as : List Dat} (I : Nat → Env → Prop) (h0 : I 0 ρ) (hs : ∀ (k : Nat) d ρ, as[k]? = some d → I k ρ → ∃ ρ1, g d ρ = .ok ρ1 ∧ wp (s ρ1) fun f ρ2 => (f = .nx ∨ f = .ct) ∧ I (k + 1) ρ2) : ∃ ρ', forL g s as ρ = some (.nx, ρ') ∧ I as.length ρ' := by
  induction as generalizing ρ I with
  | nil => exact ⟨ρ, rfl, h0⟩
  | cons d r ih =>
    obtain ⟨ρ1, e1, h1⟩ := hs 0 d ρ rfl h0
    have step : ∀ ρ2, I 1 ρ2 → ∃ ρ', forL g s r ρ2 = some (.nx, ρ') ∧ I (r.length + 1) ρ' := fun ρ2 h2 => ih (fun k => I (k + 1)) h2 fun k d' ρ3 e h3 => hs (k + 1) d' ρ3 (by simpa using e) h3
    show ∃ ρ', gok (g d ρ) (fun ρ1 => match s ρ1 with
      | some (.nx, ρ2) => forL g s r ρ2
      | some (.ct, ρ2) => forL g s r ρ2
      | some (.bk, ρ2) => some (.nx, ρ2)
      | q => q) = some (.nx, ρ') ∧ _
    rw [e1]
    obtain ⟨f, ρ2, e2, h2, h3⟩ := h1
    simp only [gok_ok, e2]
    rcases h2 with rfl | rfl
    · exact step ρ2 h3
    · exact step ρ2 h3
/-- a loop, each turn a change of a state -/
theorem forL_fold {σ τ : Type} (E : σ → Env) (D : τ → Dat) (F : σ → τ → σ) (J : σ → Prop) {as : List τ} {z : σ} (h0 : J z) (hs : ∀ z a, a ∈ as → J z → J (F z a) ∧ ∃ ρ1, g (D a) (E z) = .ok ρ1 ∧ (s ρ1 = some (.nx, E (F z a)) ∨ s ρ1 = some (.ct, E (F z a)))) :
    forL g s (as.map D) (E z) = some (.nx, E (as.foldl F z)) ∧ J (as.foldl F z) := by
  induction as generalizing z with
  | nil => exact ⟨rfl, h0⟩
  | cons a r ih =>
    obtain ⟨j1, ρ1, e1, h1⟩ := hs z a List.mem_cons_self h0
    have ih := ih j1 fun z a h j => hs z a (List.mem_cons_of_mem _ h) j
    refine ⟨?_, ih.2⟩
    show gok (g (D a) (E z)) (fun ρ1 => match s ρ1 with
      | some (.nx, ρ2) => forL g s (r.map D) ρ2
      | some (.ct, ρ2) => forL g s (r.map D) ρ2
      | some (.bk, ρ2) => some (.nx, ρ2)
      | q => q) = some (.nx, E (r.foldl F (F z a)))
    rw [e1]
    rcases h1 with h1 | h1
    · simp only [gok_ok, h1]; exact ih.1
    · simp only [gok_ok, h1]; exact ih.1
/-- a comprehension that maps -/
theorem compL_map {τ : Type} (D : τ → Dat) (H : τ → Dat) {as : List τ} (h : ∀ a ∈ as, ∃ ρ1, g (D a) ρ = .ok ρ1 ∧ t ρ1 = .ok true ∧ a ∈ as ∧ c ρ1 = .ok (H a)) : compL g t c ρ (as.map D) = .ok (as.map H) := by
  induction as with
  | nil => rfl
  | cons a r ih =>
    obtain ⟨ρ1, e1, e2, _, e3⟩ := h a List.mem_cons_self
    have ih := ih fun a ha => by
      obtain ⟨ρ1, e1, e2, _, e3⟩ := h a (List.mem_cons_of_mem _ ha)
      exact ⟨ρ1, e1, e2, ha, e3⟩
    show (noX (g (D a) ρ)).bnd (fun ρ' => (noX (t ρ')).bnd fun b => if b then (noX (c ρ')).bnd fun y => (compL g t c ρ (r.map D)).bnd fun ys => .ok (y :: ys) else compL g t c ρ (r.map D)) = _
    rw [e1]
    simp [e2, e3, ih]
/-- .. that chooses and maps -/
theorem compL_filter {τ : Type} (D : τ → Dat) (p : τ → Bool) (H : τ → Dat) {as : List τ} (h : ∀ a ∈ as, ∃ ρ1, g (D a) ρ = .ok ρ1 ∧ t ρ1 = .ok (p a) ∧ (p a = true → c ρ1 = .ok (H a))) : compL g t c ρ (as.map D) = .ok ((as.filter p).map H) := by
  induction as with
  | nil => rfl
  | cons a r ih =>
    obtain ⟨ρ1, e1, e2, e3⟩ := h a List.mem_cons_self
    have ih := ih fun a ha => h a (List.mem_cons_of_mem _ ha)
    show (noX (g (D a) ρ)).bnd (fun ρ' => (noX (t ρ')).bnd fun b => if b then (noX (c ρ')).bnd fun y => (compL g t c ρ (r.map D)).bnd fun ys => .ok (y :: ys) else compL g t c ρ (r.map D)) = _
    rw [e1]
    cases q : p a with
    | true => simp [e2, q, e3 q, ih]
    | false => simp [e2, q, ih]
theorem eComp_of {src : LM} {vs : List Nat} {ds ys : List Dat} (h1 : src ρ = .ok ds) (h2 : compL g t c (wipe ρ vs) ds = .ok ys) (h3 : ys.length ≤ LINE) : eComp src vs g t c ρ = .ok (.lst ys) := by
  unfold eComp
  rw [h1]
  simp [h2, h3]
theorem range_get {α : Type} {n k : Nat} {F : Nat → α} {d : α} (h : ((List.range n).map F)[k]? = some d) : k < n ∧ d = F k := by
  rw [List.getElem?_map] at h
  obtain ⟨j, h1, h2⟩ := Option.map_eq_some_iff.mp h
  obtain ⟨h3, h4⟩ := List.getElem?_eq_some_iff.mp h1
  rw [List.getElem_range] at h4
  rw [List.length_range] at h3
  subst h4
  exact ⟨h3, h2.symm⟩
theorem fdivD_nat {i j : Nat} (h : 0 < j) (h2 : j < 1073741824) : fdivD (.int i) (.int j) = .ok (.int ((i / j : Nat) : Int)) := by
  rw [fdivD_int ⟨by omega, by omega⟩]
  rfl
theorem modD_nat {i j : Nat} (h : 0 < j) : modD (.int i) (.int j) = .ok (.int ((i % j : Nat) : Int)) := by
  rw [modD_int (by omega)]
  rfl
theorem mulR_int {i : Int} {j : Nat} (h : j < 2 ^ 64) : mulD (.int i) (.int j) = .ok (.int (i * j)) := mulD_int (.inr ⟨by omega, by omega⟩)
theorem mulL_int {i : Nat} {j : Int} (h : i < 2 ^ 64) : mulD (.int i) (.int j) = .ok (.int (i * j)) := mulD_int (.inl ⟨by omega, by omega⟩)
/-- a loop is passed -/
theorem wp_for {P : Fl → Env → Prop} {as : List Dat} (I : Nat → Env → Prop) (h0 : I 0 ρ) (hs : ∀ (k : Nat) d ρ, as[k]? = some d → I k ρ → ∃ ρ1, g d ρ = .ok ρ1 ∧ wp (s ρ1) fun f ρ2 => (f = .nx ∨ f = .ct) ∧ I (k + 1) ρ2) (h : ∀ ρ', I as.length ρ' → P .nx ρ') : wp (forL g s as ρ) P := by
  obtain ⟨ρ', e, h2⟩ := forL_inv I h0 hs
  rw [e]
  exact wp_some.mpr (h ρ' h2)
@[simp] theorem ePrs_nil : ePrs [] ρ = .ok [] := Eq.trans rfl rfl
@[simp] theorem ePrs_cons {ps : List (EM × EM)} : ePrs ((a, b) :: ps) ρ = (a ρ).bnd fun x => (b ρ).bnd fun y => (ePrs ps ρ).bnd fun t => .ok ((x, y) :: t) := Eq.trans rfl rfl
@[simp] theorem eDisp_ap {ps : List (EM × EM)} : eDisp ps ρ = (ePrs ps ρ).bnd fun t => if t.all (fun p => isKey p.1) then .ok (.dic (t.foldl (fun d p => dicPut d p.1 p.2) [])) else .bad := Eq.trans rfl rfl
theorem drop_min {xs : List α} {k : Nat} : xs.drop (min k xs.length) = xs.drop k := by
  rcases Nat.le_total k xs.length with h | h
  · rw [Nat.min_eq_left h]
  · rw [Nat.min_eq_right h, List.drop_of_length_le h, List.drop_of_length_le (Nat.le_refl _)]
theorem cutAt_nat {n d k : Nat} : cutAt n d (some (k : Int)) = min k n := by
  show (if (k : Int) < 0 then ((k : Int) + n).toNat else min (k : Int).toNat n) = _
  rw [if_neg (by omega), Int.toNat_natCast]
theorem cutAt_none {n d : Nat} : cutAt n d none = d := rfl
theorem cut_nat {xs : List α} {j k : Nat} : cut xs (some (j : Int)) (some (k : Int)) = (xs.drop j).take (k - j) := by
  unfold cut
  rw [cutAt_nat, cutAt_nat, drop_min]
  rcases Nat.le_total k xs.length with h | h
  · rw [Nat.min_eq_left h]
    rcases Nat.le_total j xs.length with h2 | h2
    · rw [Nat.min_eq_left h2]
    · rw [Nat.min_eq_right h2, List.drop_of_length_le h2]
      simp
  · rw [Nat.min_eq_right h]
    rcases Nat.le_total j xs.length with h2 | h2
    · rw [Nat.min_eq_left h2, List.take_of_length_le (by simp), List.take_of_length_le (by simp; omega)]
    · rw [Nat.min_eq_right h2, List.drop_of_length_le h2]
      simp
theorem cut_from {xs : List α} {j : Nat} : cut xs (some (j : Int)) none = xs.drop j := by
  unfold cut
  rw [cutAt_nat, cutAt_none, drop_min]
  rcases Nat.le_total j xs.length with h2 | h2
  · rw [Nat.min_eq_left h2, List.take_of_length_le (by simp)]
  · rw [Nat.min_eq_right h2, List.drop_of_length_le h2]
    simp
theorem cut_to {xs : List α} {k : Nat} : cut xs none (some (k : Int)) = xs.take k := by
  unfold cut
  rw [cutAt_nat, cutAt_none, List.drop_zero, Nat.sub_zero]
  rcases Nat.le_total k xs.length with h | h
  · rw [Nat.min_eq_left h]
  · rw [Nat.min_eq_right h, List.take_of_length_le h, List.take_of_length_le (Nat.le_refl _)]
@[simp] theorem sliD_lst {xs : List Dat} {lo hi : Option Int} : sliD lo hi (.lst xs) = .ok (.lst (cut xs lo hi)) := Eq.trans rfl rfl
@[simp] theorem sliD_tup {xs : List Dat} {lo hi : Option Int} : sliD lo hi (.tup xs) = .ok (.tup (cut xs lo hi)) := Eq.trans rfl rfl
@[simp] theorem sliD_str {xs : List Nat} {lo hi : Option Int} : sliD lo hi (.str xs) = .ok (.str (cut xs lo hi)) := Eq.trans rfl rfl
theorem joinS_nil : ∀ xs : List (List Nat), joinS [] xs = xs.flatten
  | [] => rfl
  | [x] => by simp [joinS]
  | x :: y :: r => by
    show x ++ [] ++ joinS [] (y :: r) = _
    rw [joinS_nil (y :: r)]
    simp
theorem strsOf_map : ∀ xs : List (List Nat), strsOf (xs.map .str) = some xs
  | [] => rfl
  | x :: r => by
    show (strsOf (r.map .str)).map (x :: ·) = _
    rw [strsOf_map r]
    rfl
theorem joinD_lst {sep : List Nat} {xs : List (List Nat)} (h : (xs.map (·.length)).sum + xs.length * sep.length ≤ LINE) : joinD (.str sep) (.lst (xs.map .str)) = .ok (.str (joinS sep xs)) := by
  show (match strsOf (xs.map .str) with | some ss => if (ss.map (fun z : List Nat => z.length)).sum + ss.length * sep.length ≤ LINE then R.ok (Dat.str (joinS sep ss)) else R.bad | none => R.bad) = _
  rw [strsOf_map]
  exact if_pos h
theorem rng3_int {m n st : Int} : rng3 (.int m) (.int n) (.int st) = if fits62 m ∧ fits62 n ∧ 0 < st ∧ st < 2 ^ 30 then .ok ((stepTo m n st).map .int) else .bad := rfl
theorem rng3_nat {n st : Nat} (h : n < 2 ^ 62) (h0 : 0 < st) (h1 : st < 2 ^ 30) : rng3 (.int 0) (.int n) (.int st) = .ok ((List.range ((n + st - 1) / st)).map fun k => .int ((k * st : Nat) : Int)) := by
  rw [rng3_int, if_pos ⟨⟨by omega, by omega⟩, ⟨by omega, by omega⟩, by omega, by omega⟩]
  unfold stepTo
  rw [show ((n : Int) - 0 + st - 1) = ((n + st - 1 : Nat) : Int) by omega, show (((n + st - 1 : Nat) : Int) / (st : Int)) = (((n + st - 1) / st : Nat) : Int) from rfl, Int.toNat_natCast, List.map_map]
  congr 2
  funext k
  simp
/-! ### loops that may end early -/
/-- what is wanted of a turn -/
def Lp (I : Env → Prop) (P : Fl → Env → Prop) : Fl → Env → Prop
  | .nx, ρ => I ρ
  | .ct, ρ => I ρ
  | .bk, ρ => P .nx ρ
  | f, ρ => P f ρ
section
variable {I : Env → Prop} {P : Fl → Env → Prop}
@[simp] theorem Lp_nx : Lp I P .nx ρ = I ρ := rfl
@[simp] theorem Lp_ct : Lp I P .ct ρ = I ρ := rfl
@[simp] theorem Lp_bk : Lp I P .bk ρ = P .nx ρ := rfl
@[simp] theorem Lp_rt : Lp I P (.rt d) ρ = P (.rt d) ρ := rfl
@[simp] theorem Lp_ex {k : Nat} : Lp I P (.ex k) ρ = P (.ex k) ρ := rfl
end
theorem wp_forX {P : Fl → Env → Prop} {as : List Dat} (I : Nat → Env → Prop) (h0 : I 0 ρ) (hs : ∀ (k : Nat) d ρ, as[k]? = some d → I k ρ → ∃ ρ1, g d ρ = .ok ρ1 ∧ wp (s ρ1) (Lp (I (k + 1)) P)) (h : ∀ ρ', I as.length ρ' → P .nx ρ') : wp (forL g s as ρ) P := by
  induction as generalizing ρ I with
  | nil => exact ⟨_, _, rfl, h ρ h0⟩
  | cons d r ih =>
    obtain ⟨ρ1, e1, f, ρ2, e2, h2⟩ := hs 0 d ρ rfl h0
    have step : ∀ ρ2, I 1 ρ2 → wp (forL g s r ρ2) P := fun ρ2 h2 => ih (fun k => I (k + 1)) h2 (fun k d' ρ3 e h3 => hs (k + 1) d' ρ3 (by simpa using e) h3) h
    show wp (gok (g d ρ) (fun ρ1 => match s ρ1 with
      | some (.nx, ρ2) => forL g s r ρ2
      | some (.ct, ρ2) => forL g s r ρ2
      | some (.bk, ρ2) => some (.nx, ρ2)
      | q => q)) P
    rw [e1]
    simp only [gok_ok, e2]
    cases f with
    | nx => exact step ρ2 h2
    | ct => exact step ρ2 h2
    | bk => exact ⟨_, _, rfl, h2⟩
    | rt d => exact ⟨_, _, rfl, h2⟩
    | ex c => exact ⟨_, _, rfl, h2⟩
theorem enumR_get : ∀ {ds : List Dat} {k i : Nat} {d : Dat}, (enumFrom k ds)[i]? = some d → ∃ x, ds[i]? = some x ∧ d = .tup [.int ((k + i : Nat) : Int), x]
  | [], _, _, _, h => by simp [enumFrom] at h
  | x :: r, k, 0, d, h => ⟨x, rfl, by simpa [enumFrom] using h.symm⟩
  | x :: r, k, i + 1, d, h => by
    obtain ⟨y, h1, h2⟩ := enumR_get (ds := r) (k := k + 1) (i := i) (by simpa [enumFrom] using h)
    exact ⟨y, by simpa using h1, by rw [h2]; congr 3; omega⟩
theorem enumR_len : ∀ {ds : List Dat} {k : Nat}, (enumFrom k ds).length = ds.length
  | [], _ => rfl
  | _ :: r, k => by simp [enumFrom, enumR_len (ds := r)]
theorem map_get {α : Type} {l : List α} {k : Nat} {F : α → Dat} {d : Dat} (h : (l.map F)[k]? = some d) : ∃ hk : k < l.length, d = F l[k] := by
  rw [List.getElem?_map] at h
  obtain ⟨j, h1, h2⟩ := Option.map_eq_some_iff.mp h
  obtain ⟨h3, h4⟩ := List.getElem?_eq_some_iff.mp h1
  exact ⟨h3, by rw [h4]; exact h2.symm⟩
/-! ### try -/
@[simp] theorem sTry_ap {hs : List ((Nat → Bool) × Option Nat × SM)} : sTry hs s ρ = match s ρ with
  | some (.ex c, ρ') => hand hs c ρ'
  | q => q := Eq.trans rfl rfl
@[simp] theorem hand_nil {k : Nat} : hand [] k ρ = some (.ex k, ρ) := Eq.trans rfl rfl
@[simp] theorem hand_none {p : Nat → Bool} {r : List ((Nat → Bool) × Option Nat × SM)} {k : Nat} : hand ((p, none, s) :: r) k ρ = if p k then noEx (s ρ) else hand r k ρ := Eq.trans rfl rfl
@[simp] theorem hand_some {p : Nat → Bool} {r : List ((Nat → Bool) × Option Nat × SM)} {k : Nat} : hand ((p, some i, s) :: r) k ρ = if p k then (if i < ρ.length then (match noEx (s (ρ.set i (some (.exc k)))) with
    | some (f, ρ') => some (f, ρ'.set i none)
    | none => none) else none) else hand r k ρ := Eq.trans rfl rfl
@[simp] theorem noEx_rt : noEx (some (.rt d, ρ)) = some (.rt d, ρ) := Eq.trans rfl rfl
@[simp] theorem noEx_nx : noEx (some (.nx, ρ)) = some (.nx, ρ) := Eq.trans rfl rfl
@[simp] theorem isX_exc {sub : Nat → Nat → Bool} {k j : Nat} : isX sub j (.exc k) = .ok (.bl (sub k j)) := Eq.trans rfl rfl
theorem within_one {c : Nat} : ∀ ls : List Nat, within [c] ls = decide (c ∈ ls)
  | [] => rfl
  | y :: ys => by
    show (begins [c] (y :: ys) || within [c] ys) = _
    rw [within_one ys]
    show ((c == y && begins [] ys) || decide (c ∈ ys)) = _
    have : begins ([] : List Nat) ys = true := by cases ys <;> rfl
    rw [this, Bool.and_true]
    by_cases h : c = y
    · subst h; simp
    · simp [h]
theorem inD_one {c : Nat} {ls : List Nat} : inD (.str [c]) (.str ls) = .ok (.bl (decide (c ∈ ls))) := by
  show R.ok (Dat.bl (within [c] ls)) = _
  rw [within_one]
theorem boolsOf_map : ∀ bs : List Bool, boolsOf (bs.map .bl) = some bs
  | [] => rfl
  | b :: r => by
    show (boolsOf (r.map .bl)).map (b :: ·) = _
    rw [boolsOf_map r]
    rfl
theorem allD_map {bs : List Bool} : allD (.lst (bs.map .bl)) = .ok (.bl (bs.all id)) := by
  show (match boolsOf (bs.map .bl) with | some bs => R.ok (Dat.bl (bs.all id)) | none => R.bad) = _
  rw [boolsOf_map]
theorem anyD_map {bs : List Bool} : anyD (.lst (bs.map .bl)) = .ok (.bl (bs.any id)) := by
  show (match boolsOf (bs.map .bl) with | some bs => R.ok (Dat.bl (bs.any id)) | none => R.bad) = _
  rw [boolsOf_map]
theorem flat_ones : ∀ l : List Nat, (l.map fun c => [c]).flatten = l
  | [] => rfl
  | x :: r => by simp [flat_ones r]
theorem sum_ones : ∀ l : List Nat, ((l.map fun c => [c]).map (fun z : List Nat => z.length)).sum = l.length
  | [] => rfl
  | x :: r => by
    rw [List.map_cons, List.map_cons, List.sum_cons, sum_ones r]
    simp
    omega
theorem joinD_ones {l : List Nat} (h : l.length ≤ LINE) : joinD (.str []) (.lst (l.map fun c => .str [c])) = .ok (.str l) := by
  have e : (l.map fun c => Dat.str [c]) = (l.map fun c => [c]).map .str := by rw [List.map_map]; rfl
  rw [e, joinD_lst, joinS_nil, flat_ones]
  rw [sum_ones]
  simpa using h
@[simp] theorem revD_str {xs : List Nat} : revD (.str xs) = .ok (.str xs.reverse) := Eq.trans rfl rfl
@[simp] theorem revD_lst {xs : List Dat} : revD (.lst xs) = .ok (.lst xs.reverse) := Eq.trans rfl rfl
theorem lenL {α : Type} {xs : List α} {n : Nat} (h : xs.length = n) (h2 : n ≤ 1000000) : xs.length ≤ LINE := by unfold LINE; omega
theorem wp_seqE {P : Fl → Env → Prop} (I : Env → Prop) (h1 : wp (s1 ρ) fun f ρ' => f = .nx ∧ I ρ') (h2 : ∀ ρ', I ρ' → wp (s2 ρ') P) : wp (sSeq s1 s2 ρ) P := by
  refine wp_seq (wp_imp h1 fun f ρ' ⟨e, h⟩ => ?_)
  subst e
  exact h2 ρ' h
theorem rng2_int {m n : Int} : rng2 (.int m) (.int n) = if fits62 m ∧ fits62 n then .ok ((upTo m n).map .int) else .bad := rfl
theorem rng2_nat {m n : Nat} (hm : m < 2 ^ 62) (h : n < 2 ^ 62) : rng2 (.int m) (.int n) = .ok ((List.range (n - m)).map fun k => .int ((m + k : Nat) : Int)) := by
  rw [rng2_int, if_pos ⟨⟨by omega, by omega⟩, ⟨by omega, by omega⟩⟩]
  unfold upTo
  rw [show ((n : Int) - (m : Int)).toNat = n - m by omega, List.map_map]
  rfl
theorem sPut_dic {k : EM} {kvs : List (Dat × Dat)} {z : Dat} (h1 : ρ[i]? = some (some (.dic kvs))) (h2 : a ρ = .ok d) (h3 : k ρ = .ok z) (hz : isKey z = true) (hl : kvs.length < LINE) : sPut i k a ρ = some (.nx, ρ.set i (some (.dic (dicPut kvs z d)))) := by
  unfold sPut
  rw [h1]
  show lft (a ρ) ρ _ = _
  rw [h2]
  show lft (k ρ) ρ _ = _
  rw [h3]
  exact if_pos ⟨hz, hl⟩
theorem dicPut_new {kvs : List (Dat × Dat)} {k v : Dat} (h : ∀ p ∈ kvs, eqv p.1 k = false) : dicPut kvs k v = kvs ++ [(k, v)] := by
  unfold dicPut
  rw [if_neg]
  simp only [List.any_eq_true, not_exists, not_and, Bool.not_eq_true]
  exact fun p hp => h p hp
@[simp] theorem eqv_str {x y : List Nat} : eqv (.str x) (.str y) = (x == y) := Eq.trans (by unfold eqv; rfl) rfl
@[simp] theorem eqv_int {x y : Int} : eqv (.int x) (.int y) = (x == y) := Eq.trans (by unfold eqv; rfl) rfl
end
end PL

namespace PL
set_option autoImplicit false
noncomputable section
def b_cell : SM := (sSeq (sIf (tE (e2 ltD (eV 1) (e1 lenD (eV 0))))
    (sRet (e1 intD (e2 idxD (eV 0) (eV 1))))
    sSkip)
    (sRet (eC (.int 0))))
def b_numbers : SM := (sSeq (sNew 3 (eLst eNil))
    (sSeq (sAsg (gV 4) (eV 0))
    (sSeq (sFor (iR1 (eV 1)) (gV 5)
    (sIf (tAnd (tE (e2 geD (eV 0) (e2 powD (eC (.int 10)) (eC (.int 18))))) (tE (e2 gtD (eV 4) (eC (.int 0)))))
    (sSeq (sApp 3 (e2 modD (e1 intD (eV 4)) (eV 2)))
    (sAsg (gV 4) (e2 fdivD (e1 intD (eV 4)) (eV 2))))
    (sSeq (sAsg (gV 6) (e2 modD (e1 intD (e2 addD (e2 addD (e2 mulD (eV 0) (eC (.int 48271))) (e2 mulD (eV 5) (eC (.int 69621)))) (eC (.int 7)))) (eC (.int 2147483647))))
    (sSeq (sAsg (gV 6) (e2 modD (e1 intD (e2 addD (e2 addD (e2 addD (e2 mulD (eV 6) (eV 6)) (e2 mulD (eV 6) (eC (.int 40692)))) (e2 mulD (eV 5) (eC (.int 16807)))) (eC (.int 11)))) (eC (.int 2147483399))))
    (sApp 3 (e2 modD (e1 intD (e2 fdivD (eV 6) (eC (.int 32)))) (eV 2)))))))
    (sRet (eV 3)))))
def b_same (IHm : List Dat → R Dat) : SM := (sSeq (sIf (tE (e1 (isTy .list) (eV 1)))
    (sIf (tOr (tNot (tE (e1 (isTy .list) (eV 0)))) (tE (e2 neD (e1 lenD (eV 0)) (e1 lenD (eV 1)))))
    (sRet (eC (.bl false)))
    sSkip)
    (sIf (tE (e1 (isTy .tuple) (eV 1)))
    (sIf (tOr (tNot (tE (e1 (isTy .tuple) (eV 0)))) (tE (e2 neD (e1 lenD (eV 0)) (e1 lenD (eV 1)))))
    (sRet (eC (.bl false)))
    sSkip)
    (sIf (tE (e1 isN (eV 1)))
    (sRet (e1 isN (eV 0)))
    (sIf (tE (e1 (isTy .bool) (eV 1)))
    (sRet (eAnd (e1 (isTy .bool) (eV 0)) (e2 eqD (eV 0) (eV 1))))
    (sIf (tE (e1 (isTy .int) (eV 1)))
    (sRet (eAnd (e1 (isTy .int) (eV 0)) (eAnd (e1 notB (e1 (isTy .bool) (eV 0))) (e2 eqD (eV 0) (eV 1)))))
    (sRet (eAnd (e1 (isTy .str) (eV 0)) (e2 eqD (eV 0) (eV 1)))))))))
    (sSeq (sFor (iR1 (e1 lenD (eV 1))) (gV 2)
    (sIf (tNot (tE (eCall IHm (eCons (e2 idxD (eV 0) (eV 2)) (eCons (e2 idxD (eV 1) (eV 2)) eNil)))))
    (sRet (eC (.bl false)))
    sSkip))
    (sRet (eC (.bl true)))))
def f_same : Nat → List Dat → R Dat
  | 0 => fun _ => .bad
  | n + 1 => run 3 (b_same (f_same n))
end
theorem cell_ok (ns : List Int) (k : Nat) (h : ns.length ≤ 1000000) : ∃ z : Int, run 2 b_cell [.lst (ns.map .int), .int k] = .ok (.int z) := by
  by_cases hk : k < ns.length
  · refine ⟨ns[k], run_at [some (.lst (ns.map .int)), some (.int k)] ?_⟩
    unfold b_cell
    refine wp_seq ?_
    simp only [sIf_ap, tE_ap, e2_ap, e1_ap, eV_zero, eV_succ, R.bnd_ok, lenD_lst, ltD_int, tru_bl, lft_ok, List.length_map]
    rw [if_pos (by rw [decide_eq_true_iff]; omega)]
    simp only [sRet_ap, e2_ap, e1_ap, eV_zero, eV_succ, R.bnd_ok]
    rw [idxD_lst (by simpa using hk)]
    simp
  · refine ⟨0, run_at [some (.lst (ns.map .int)), some (.int k)] ?_⟩
    unfold b_cell
    refine wp_seq ?_
    simp only [sIf_ap, tE_ap, e2_ap, e1_ap, eV_zero, eV_succ, R.bnd_ok, lenD_lst, ltD_int, tru_bl, lft_ok, List.length_map]
    rw [if_neg (by rw [decide_eq_true_iff]; omega)]
    simp
/-- numbers as data -/
abbrev nums (l : List Nat) : Dat := .lst (l.map fun x => .int (x : Nat))
theorem numbers_ok (cell : Int) (count limit : Nat) (hc : count ≤ 1000000) (h0 : 0 < limit) (h1 : limit < 1073741824) : ∃ l : List Nat, run 7 b_numbers [.int cell, .int count, .int limit] = .ok (nums l) ∧ l.length = count ∧ ∀ x ∈ l, x < limit := by
  have key : wp (b_numbers [some (.int cell), some (.int count), some (.int limit), none, none, none, none]) fun f _ => ∃ l : List Nat, endR f = .ok (nums l) ∧ l.length = count ∧ ∀ x ∈ l, x < limit := by
    unfold b_numbers
    refine wp_seq ?_
    rw [sNew_lst (xs := []) (by simp [LINE]) (by simp)]
    simp only [wp_some, Nxt_nx, List.set_cons_succ, List.set_cons_zero]
    refine wp_seq ?_
    simp only [sAsg_ap, eV_zero, lft_ok, gV_succ, gV_zero, R.bnd_ok, gok_ok, wp_some, Nxt_nx]
    refine wp_seq ?_
    rw [sFor_ap]
    simp only [iR1_ap, eV_succ, eV_zero, R.bnd_ok]
    rw [rng1_nat (by omega)]
    simp only [lft_ok]
    have push : ∀ (k : Nat) (l : List Nat) (v : Int) (o o2 o3 : Option Dat) (e : EM), l.length = k → k < count → (∀ x ∈ l, x < limit) → e [some (.int cell), some (.int count), some (.int limit), some (nums l), o, o2, o3] = .ok (.int (v % (limit : Int))) →
        ∃ l' : List Nat, sApp 3 e [some (.int cell), some (.int count), some (.int limit), some (nums l), o, o2, o3] = some (.nx, [some (.int cell), some (.int count), some (.int limit), some (nums l'), o, o2, o3]) ∧ l'.length = k + 1 ∧ ∀ x ∈ l', x < limit := by
      intro k l v o o2 o3 e hl hk hx he
      have hv0 := Int.emod_nonneg v (show (limit : Int) ≠ 0 by omega)
      have hv1 := Int.emod_lt_of_pos v (show (0 : Int) < limit by omega)
      refine ⟨l ++ [(v % (limit : Int)).toNat], ?_, by simp [hl], ?_⟩
      · rw [sApp_ap (xs := l.map fun x => .int (x : Nat)) (d := .int (v % (limit : Int))) (by simp) he (by simp; unfold LINE; omega)]
        simp [nums, Int.toNat_of_nonneg hv0]
      · intro x hxx
        rcases List.mem_append.mp hxx with h | h
        · exact hx x h
        · simp at h
          omega
    refine wp_for (fun k ρ => ∃ (l : List Nat) (rest : Int) (o2 o3 : Option Dat), l.length = k ∧ (∀ x ∈ l, x < limit) ∧ ρ = [some (.int cell), some (.int count), some (.int limit), some (nums l), some (.int rest), o2, o3]) ⟨[], cell, none, none, rfl, by simp, rfl⟩ (fun k d ρ hk ⟨l, rest, o2, o3, w1, w2, e⟩ => ?_) (fun ρ ⟨l, rest, o2, o3, w1, w2, e⟩ => ?_)
    · obtain ⟨hk2, rfl⟩ := range_get hk
      subst e
      refine ⟨[some (.int cell), some (.int count), some (.int limit), some (nums l), some (.int rest), some (.int k), o3], by simp, ?_⟩
      simp only [sIf_ap, tAnd_ap, tE_ap, e2_ap, eV_zero, eV_succ, eC_ap, R.bnd_ok]
      rw [show powD (.int 10) (.int 18) = .ok (.int 1000000000000000000) from by rfl]
      simp only [R.bnd_ok, geD_int, gtD_int, tru_bl]
      have hif : ∀ (b1 b2 : Bool), (if b1 = true then R.ok b2 else R.ok false) = R.ok (b1 && b2) := by intro b1 b2; cases b1 <;> rfl
      rw [hif]
      simp only [lft_ok]
      split
      · refine wp_seq ?_
        obtain ⟨l', q1, q2, q3⟩ := push k l rest (some (.int rest)) (some (.int k)) o3 (e2 modD (e1 intD (eV 4)) (eV 2)) w1 hk2 w2 (by simp [modD_int (show (0 : Int) < limit by omega)])
        rw [q1]
        simp only [wp_some, Nxt_nx, sAsg_ap, e2_ap, e1_ap, eV_zero, eV_succ, R.bnd_ok, intD_int, fdivD_int (show (0 : Int) < limit ∧ (limit : Int) < 1073741824 by omega), lft_ok, gV_succ, gV_zero, gok_ok]
        exact ⟨.inl trivial, l', _, _, _, q2, q3, rfl⟩
      · refine wp_seq ?_
        simp only [sAsg_ap, e2_ap, e1_ap, eV_zero, eV_succ, eC_ap, R.bnd_ok, mulD_int (show small64 cell ∨ small64 48271 from .inr ⟨by omega, by omega⟩), mulD_int (show small64 (k : Int) ∨ small64 69621 from .inr ⟨by omega, by omega⟩), addD_int, intD_int, modD_int (show (0 : Int) < 2147483647 by omega), lft_ok, gV_succ, gV_zero, gok_ok, wp_some, Nxt_nx]
        refine wp_seq ?_
        generalize hm : (cell * 48271 + (k : Int) * 69621 + 7) % 2147483647 = mx
        have hm0 : 0 ≤ mx ∧ mx < 2147483647 := by rw [← hm]; exact ⟨Int.emod_nonneg _ (by omega), Int.emod_lt_of_pos _ (by omega)⟩
        simp only [sAsg_ap, e2_ap, e1_ap, eV_zero, eV_succ, eC_ap, R.bnd_ok, mulD_int (show small64 mx ∨ small64 mx from .inr ⟨by omega, by omega⟩), mulD_int (show small64 mx ∨ small64 40692 from .inr ⟨by omega, by omega⟩), mulD_int (show small64 (k : Int) ∨ small64 16807 from .inr ⟨by omega, by omega⟩), addD_int, intD_int, modD_int (show (0 : Int) < 2147483399 by omega), lft_ok, gV_succ, gV_zero, gok_ok, wp_some, Nxt_nx]
        generalize (mx * mx + mx * 40692 + (k : Int) * 16807 + 11) % 2147483399 = my
        obtain ⟨l', q1, q2, q3⟩ := push k l (my / 32) (some (.int rest)) (some (.int k)) (some (.int my)) (e2 modD (e1 intD (e2 fdivD (eV 6) (eC (.int 32)))) (eV 2)) w1 hk2 w2 (by simp [modD_int (show (0 : Int) < limit by omega), fdivD_int (show (0 : Int) < 32 ∧ (32 : Int) < 1073741824 by omega)])
        rw [q1]
        exact wp_some.mpr ⟨.inl rfl, l', _, _, _, q2, q3, rfl⟩
    · subst e
      rw [List.length_map, List.length_range] at w1
      simp only [Nxt_nx, sRet_ap, eV_zero, eV_succ, lft_ok, wp_some, endR_rt]
      exact ⟨l, rfl, w1, w2⟩
  obtain ⟨f, ρ, e, l, h1, h2, h3⟩ := key
  exact ⟨l, run_at _ ⟨f, ρ, e, h1⟩, h2, h3⟩
/-- data that is told alike with itself, of so many levels -/
def gd : Nat → Dat → Prop
  | _, .non => True
  | _, .bl _ => True
  | _, .int _ => True
  | _, .str _ => True
  | n + 1, .lst xs => xs.length ≤ LINE ∧ ∀ x ∈ xs, gd n x
  | n + 1, .tup xs => xs.length ≤ LINE ∧ ∀ x ∈ xs, gd n x
  | _, _ => False
theorem isTy_lst {xs : List Dat} : isTy .list (.lst xs) = .ok (.bl true) ∧ isTy .list (.tup xs) = .ok (.bl false) ∧ isTy .tuple (.tup xs) = .ok (.bl true) := ⟨rfl, rfl, rfl⟩
theorem same_loop {n : Nat} {xs : List Dat} {mk : List Dat → Dat} (hl : xs.length ≤ LINE) (hlen : lenD (mk xs) = .ok (.int xs.length)) (hidx : ∀ (k : Nat) (h : k < xs.length), idxD (mk xs) (.int k) = .ok xs[k]) (ih : ∀ x ∈ xs, f_same n [x, x] = .ok (.bl true)) (o : Option Dat) :
    wp (sSeq (sFor (iR1 (e1 lenD (eV 1))) (gV 2) (sIf (tNot (tE (eCall (f_same n) (eCons (e2 idxD (eV 0) (eV 2)) (eCons (e2 idxD (eV 1) (eV 2)) eNil))))) (sRet (eC (.bl false))) sSkip)) (sRet (eC (.bl true))) [some (mk xs), some (mk xs), o]) fun f _ => endR f = .ok (.bl true) := by
  unfold LINE at hl
  refine wp_seq ?_
  rw [sFor_ap]
  simp only [iR1_ap, e1_ap, eV_succ, eV_zero, R.bnd_ok, hlen]
  rw [rng1_nat (by omega)]
  simp only [lft_ok]
  refine wp_for (fun k ρ => ∃ o, ρ = [some (mk xs), some (mk xs), o]) ⟨o, rfl⟩ (fun k d ρ hk ⟨o, e⟩ => ?_) (fun ρ ⟨o, e⟩ => ?_)
  · obtain ⟨hk2, rfl⟩ := range_get hk
    subst e
    refine ⟨[some (mk xs), some (mk xs), some (.int k)], by simp, ?_⟩
    simp only [sIf_ap, tNot_ap, tE_ap, eCall_ap, eCons_ap, eNil_ap, e2_ap, eV_zero, eV_succ, R.bnd_ok, hidx k hk2, ih _ (List.getElem_mem hk2), tru_bl, lft_ok]
    simp only [Bool.not_true, Bool.false_eq_true, if_false, sSkip_ap, wp_some]
    exact ⟨.inl trivial, _, rfl⟩
  · subst e
    simp
theorem same_refl : ∀ (n : Nat) (d : Dat), gd n d → f_same (n + 1) [d, d] = .ok (.bl true) := by
  intro n
  induction n with
  | zero =>
    intro d h
    refine run_at [some d, some d, none] ?_
    unfold b_same
    refine wp_seq ?_
    cases d with
    | lst xs => exact h.elim
    | tup xs => exact h.elim
    | dic xs => exact h.elim
    | exc k => exact h.elim
    | non => simp [isTy]
    | bl b => simp [isTy]; rw [show eqD (.bl b) (.bl b) = .ok (.bl (b == b)) from rfl]; simp
    | int i => simp [isTy]
    | str z => simp [isTy]
  | succ n ih =>
    intro d h
    refine run_at [some d, some d, none] ?_
    unfold b_same
    refine wp_seq ?_
    cases d with
    | dic xs => exact h.elim
    | exc k => exact h.elim
    | non => simp [isTy]
    | bl b => simp [isTy]; rw [show eqD (.bl b) (.bl b) = .ok (.bl (b == b)) from rfl]; simp
    | int i => simp [isTy]
    | str z => simp [isTy]
    | lst xs =>
      obtain ⟨hl, hx⟩ := h
      simp only [sIf_ap, tE_ap, tOr_ap, tNot_ap, e1_ap, e2_ap, eV_zero, eV_succ, R.bnd_ok, isTy_lst, tru_bl, lft_ok, lenD_lst, neD_int]
      simp
      exact same_loop (mk := .lst) hl rfl (fun k h => idxD_lst h) (fun x hxx => ih x (hx x hxx)) none
    | tup xs =>
      obtain ⟨hl, hx⟩ := h
      simp only [sIf_ap, tE_ap, tOr_ap, tNot_ap, e1_ap, e2_ap, eV_zero, eV_succ, R.bnd_ok, isTy_lst, tru_bl, lft_ok, lenD_tup, neD_int]
      simp [isTy_lst]
      exact same_loop (mk := .tup) hl rfl (fun k h => idxD_tup h) (fun x hxx => ih x (hx x hxx)) none
theorem gd_up : ∀ (n : Nat) (d : Dat), gd n d → gd (n + 1) d
  | _, .non, _ => trivial
  | _, .bl _, _ => trivial
  | _, .int _, _ => trivial
  | _, .str _, _ => trivial
  | n + 1, .lst xs, h => ⟨h.1, fun x hx => gd_up n x (h.2 x hx)⟩
  | n + 1, .tup xs, h => ⟨h.1, fun x hx => gd_up n x (h.2 x hx)⟩
  | 0, .lst xs, h => h.elim
  | 0, .tup xs, h => h.elim
  | 0, .dic xs, h => h.elim
  | 0, .exc xs, h => h.elim
  | _ + 1, .dic xs, h => h.elim
  | _ + 1, .exc xs, h => h.elim
theorem gd_le {n m : Nat} {d : Dat} (h : n ≤ m) (g : gd n d) : gd m d := by
  induction h with
  | refl => exact g
  | step _ ih => exact gd_up _ d ih
theorem idx_nums {l : List Nat} {k : Nat} (h : k < l.length) : idxD (nums l) (.int k) = .ok (.int (l[k] : Nat)) := by
  rw [idxD_lst (by simpa using h)]
  simp
theorem idx_nums0 {l : List Nat} (h : 0 < l.length) : idxD (nums l) (.int 0) = .ok (.int (l[0] : Nat)) := idx_nums (k := 0) h
theorem len_nums {l : List Nat} : lenD (nums l) = .ok (.int l.length) := by simp [nums]
end PL

namespace PL.K52
set_option autoImplicit false
/-! ### worth_of -/
def worth (p : Nat) : Nat := 10 ^ (p / 2) * (if p % 2 = 1 then 5 else 1)
theorem sp_worth {p : Nat} (h : p < 1152921504606846976) : f_worth_of [.int p] = .ok (.int (worth p)) := by
  refine run_at (s := b_worth_of) [some (.int p), none, none] ?_
  unfold b_worth_of
  refine wp_seq ?_
  simp
  refine wp_seq ?_
  rw [sFor_ap]
  simp
  rw [show fdivD (.int p) (.int 2) = .ok (.int ((p / 2 : Nat) : Int)) from fdivD_nat (by decide) (by decide)]
  simp only [R.bnd_ok]
  rw [rng1_nat (by omega)]
  simp only [lft_ok]
  refine wp_for (fun k ρ => ∃ o, ρ = [some (.int p), some (.int ((10 ^ k : Nat) : Int)), o]) ⟨none, rfl⟩ (fun k d ρ hk ⟨o, e⟩ => ?_) (fun ρ ⟨o, e⟩ => ?_)
  · obtain ⟨_, rfl⟩ := range_get hk
    subst e
    refine ⟨_, by simp; rfl, ?_⟩
    simp
    rw [show mulD (.int (10 ^ k)) (.int 10) = .ok (.int (10 ^ k * 10)) from mulR_int (j := 10) (by decide)]
    simp [Int.pow_succ]
  · subst e
    simp
    refine wp_seq ?_
    simp
    rw [show modD (.int p) (.int 2) = .ok (.int ((p % 2 : Nat) : Int)) from modD_nat (by decide)]
    simp
    unfold worth
    by_cases h1 : p % 2 = 1
    · rw [if_pos h1, if_pos (by omega), show mulD (.int (10 ^ (p / 2))) (.int 5) = .ok (.int (10 ^ (p / 2) * 5)) from mulR_int (j := 5) (by decide)]
      simp
    · rw [if_neg h1, if_neg (by omega)]
      simp
/-! ### greatest -/
/-- the letters: so many pairs and one more -/
def most (ls : List Nat) : Nat := 4 * 10 ^ (ls.length / 2) - 1
def odd (ls : List Nat) : Prop := ls.length % 2 = 1 ∧ ls.length ≤ 9
theorem sp_greatest {ls : List Nat} (h : odd ls) : f_greatest [.str ls] = .ok (.int (most ls)) := by
  obtain ⟨h1, h2⟩ := h
  refine run_at (s := b_greatest) [some (.str ls)] ?_
  unfold b_greatest
  simp
  rw [show ((ls.length : Int) - 1) = ((ls.length - 1 : Nat) : Int) by omega, sp_worth (by omega)]
  simp
  rw [show mulD (.int 4) (.int (worth (ls.length - 1))) = .ok (.int (4 * (worth (ls.length - 1) : Nat))) from mulL_int (i := 4) (by decide)]
  simp
  unfold worth most
  rw [if_neg (by omega), show (ls.length - 1) / 2 = ls.length / 2 by omega]
  have : 0 < 10 ^ (ls.length / 2) := Nat.pow_pos (by decide)
  omega
/-! ### written_figure -/
/-- what the figure d is written as, over the letters o, f, t, if there are such -/
def fig (o f t : List Nat) : Nat → List Nat
  | 0 => []
  | 1 => o
  | 2 => o ++ o
  | 3 => o ++ o ++ o
  | 4 => o ++ f
  | 5 => f
  | 6 => f ++ o
  | 7 => f ++ o ++ o
  | 8 => f ++ o ++ o ++ o
  | _ => o ++ t
theorem sp_fig {ls : List Nat} {p d : Nat} (hp : p < ls.length) (hl : ls.length ≤ 9) (hd : d < 10) : f_written_figure [.str ls, .int p, .int d] = .ok (.str (fig [ls[p]] ((ls.drop (p + 1)).take 1) ((ls.drop (p + 2)).take 1) d)) := by
  refine run_at (s := b_written_figure) [some (.str ls), some (.int p), some (.int d), none, none] ?_
  unfold b_written_figure
  refine wp_seq ?_
  have c1 : cut ls (some ((p : Int) + 1)) (some ((p : Int) + 2)) = (ls.drop (p + 1)).take 1 := by
    have := cut_nat (xs := ls) (j := p + 1) (k := p + 2)
    rw [show p + 2 - (p + 1) = 1 by omega] at this
    exact this
  have c2 : cut ls (some ((p : Int) + 2)) (some ((p : Int) + 3)) = (ls.drop (p + 2)).take 1 := by
    have := cut_nat (xs := ls) (j := p + 2) (k := p + 3)
    rw [show p + 3 - (p + 2) = 1 by omega] at this
    exact this
  simp [idxD_str hp, c1, c2]
  have l1 : ((ls.drop (p + 1)).take 1).length ≤ 1 := by simp; omega
  have l2 : ((ls.drop (p + 2)).take 1).length ≤ 1 := by simp; omega
  generalize (ls.drop (p + 1)).take 1 = f at l1 ⊢
  generalize (ls.drop (p + 2)).take 1 = t at l2 ⊢
  generalize ls[p] = o
  rw [show isKey (Dat.str [111]) = true from rfl, show isKey (Dat.str [102]) = true from rfl, show isKey (Dat.str [116]) = true from rfl]
  simp
  rw [show dicPut (dicPut (dicPut [] (Dat.str [111]) (Dat.str [o])) (Dat.str [102]) (Dat.str f)) (Dat.str [116]) (Dat.str t) = [(.str [111], .str [o]), (.str [102], .str f), (.str [116], .str t)] from rfl]
  generalize hD : ([(.str [111], .str [o]), (.str [102], .str f), (.str [116], .str t)] : List (Dat × Dat)) = D
  let hh : Nat → List Nat := fun c => if c = 111 then [o] else if c = 102 then f else t
  have key : ∀ sh : List Nat, idxD d_SHAPES (.int d) = .ok (.str sh) → (∀ c ∈ sh, c = 111 ∨ c = 102 ∨ c = 116) → sh.length ≤ 4 →
      eComp (iOf (e2 idxD (eC d_SHAPES) (eV 2))) [4] (gV 4) tYes (e2 idxD (eV 3) (eV 4)) [some (.str ls), some (.int p), some (.int d), some (.dic D), none] = .ok (.lst ((sh.map hh).map .str)) := by
    intro sh h1 h2 h3
    refine eComp_of (ds := sh.map fun c => .str [c]) ?_ ?_ ?_
    · simp [h1]
      rfl
    · rw [List.map_map]
      refine compL_map (fun c => .str [c]) (fun c => .str (hh c)) fun c hc => ?_
      refine ⟨[some (.str ls), some (.int p), some (.int d), some (.dic D), some (.str [c])], by simp [wipe], rfl, hc, ?_⟩
      simp
      subst hD
      rcases h2 c hc with rfl | rfl | rfl <;> rfl
    · simp
      unfold LINE
      omega
  have hlen : ∀ c, (hh c).length ≤ 1 := fun c => by
    show (if c = 111 then [o] else if c = 102 then f else t).length ≤ 1
    split
    · simp
    · split
      · exact l1
      · exact l2
  have fin : ∀ sh : List Nat, idxD d_SHAPES (.int d) = .ok (.str sh) → (∀ c ∈ sh, c = 111 ∨ c = 102 ∨ c = 116) → sh.length ≤ 4 → (sh.map hh).flatten = fig [o] f t d → wp
      (lft ((eComp (iOf (e2 idxD (eC d_SHAPES) (eV 2))) [4] (gV 4) tYes (e2 idxD (eV 3) (eV 4)) [some (.str ls), some (.int p), some (.int d), some (.dic D), none]).bnd fun y => joinD (Dat.str []) y) [some (.str ls), some (.int p), some (.int d), some (.dic D), none] fun d_1 => some (Fl.rt d_1, [some (.str ls), some (.int p), some (.int d), some (.dic D), none]))
      fun f_1 x => endR f_1 = R.ok (Dat.str (fig [o] f t d)) := by
    intro sh h1 h2 h3 h4
    rw [key sh h1 h2 h3]
    simp only [R.bnd_ok]
    rw [joinD_lst, joinS_nil, h4]
    · simp
    · have : ((sh.map hh).map (·.length)).sum ≤ sh.length := by
        clear h1 h2 h3 h4
        induction sh with
        | nil => simp
        | cons c r ih =>
          have := hlen c
          simp at ih ⊢
          omega
      simp only [List.length_nil, Nat.mul_zero, Nat.add_zero]
      unfold LINE
      omega
  clear key
  match d, hd with
  | 0, _ => exact fin [] rfl (by decide) (by decide) rfl
  | 1, _ => exact fin [111] rfl (by decide) (by decide) rfl
  | 2, _ => exact fin [111, 111] rfl (by decide) (by decide) rfl
  | 3, _ => exact fin [111, 111, 111] rfl (by decide) (by decide) rfl
  | 4, _ => exact fin [111, 102] rfl (by decide) (by decide) (by simp [hh, fig])
  | 5, _ => exact fin [102] rfl (by decide) (by decide) (by simp [hh, fig])
  | 6, _ => exact fin [102, 111] rfl (by decide) (by decide) (by simp [hh, fig])
  | 7, _ => exact fin [102, 111, 111] rfl (by decide) (by decide) (by simp [hh, fig])
  | 8, _ => exact fin [102, 111, 111, 111] rfl (by decide) (by decide) (by simp [hh, fig])
  | 9, _ => exact fin [111, 116] rfl (by decide) (by decide) (by simp [hh, fig])
  | _ + 10, h => omega
/-! ### write_strokes -/
def wr : List Nat → Nat → List Nat
  | [], _ => []
  | [o], n => fig [o] [] [] (n % 10)
  | o :: f :: r, n => wr r (n / 10) ++ fig [o] [f] (r.take 1) (n % 10)
theorem fig_len {o f t : List Nat} {d : Nat} (ho : o.length ≤ 1) (hf : f.length ≤ 1) (ht : t.length ≤ 1) : (fig o f t d).length ≤ 4 := by
  unfold fig
  split
  all_goals try simp only [List.length_append, List.length_nil]
  all_goals omega
theorem wr_step {ls : List Nat} {p n : Nat} (hp : p < ls.length) : wr (ls.drop p) n = wr (ls.drop (p + 2)) (n / 10) ++ fig [ls[p]] ((ls.drop (p + 1)).take 1) ((ls.drop (p + 2)).take 1) (n % 10) := by
  rw [List.drop_eq_getElem_cons hp]
  by_cases h : p + 1 < ls.length
  · rw [show ls.drop (p + 1) = ls[p + 1] :: ls.drop (p + 2) from List.drop_eq_getElem_cons h]
    simp only [wr, List.take_succ_cons, List.take_zero]
  · rw [List.drop_of_length_le (by omega : ls.length ≤ p + 1), List.drop_of_length_le (by omega : ls.length ≤ p + 2)]
    simp [wr]
theorem sp_write {ls : List Nat} (ho : odd ls) {n : Nat} (h1 : 1 ≤ n) (h2 : n ≤ most ls) : f_write_strokes [.str ls, .int n] = .ok (.str (wr ls n)) := by
  refine run_at (s := b_write_strokes) [some (.str ls), some (.int n), none, none] ?_
  unfold b_write_strokes
  refine wp_seq ?_
  simp [sp_greatest ho]
  rw [decide_eq_true (by omega : (1 : Int) ≤ n)]
  simp
  rw [if_neg (by omega)]
  simp
  refine wp_seq ?_
  simp
  refine wp_seq ?_
  rw [sFor_ap]
  simp
  rw [show rng3 (.int 0) (.int ls.length) (.int 2) = _ from rng3_nat (st := 2) (by have := ho.2; omega) (by decide) (by decide)]
  simp only [lft_ok]
  have hl9 := ho.2
  refine wp_for (fun k ρ => ∃ out o, wr (ls.drop (k * 2)) (n / 10 ^ k) ++ out = wr ls n ∧ out.length ≤ 4 * k ∧ ρ = [some (.str ls), some (.int ((n / 10 ^ k : Nat) : Int)), some (.str out), o]) ⟨[], none, by simp, by simp, by simp⟩ (fun k d ρ hk ⟨out, o, e1, e2, e⟩ => ?_) (fun ρ ⟨out, o, e1, e2, e⟩ => ?_)
  · obtain ⟨hk, rfl⟩ := range_get hk
    subst e
    have hp : k * 2 < ls.length := by omega
    refine ⟨[some (.str ls), some (.int ((n / 10 ^ k : Nat) : Int)), some (.str out), some (.int ((k * 2 : Nat) : Int))], by simp, ?_⟩
    refine wp_seq ?_
    have m1 : modD (.int ((n / 10 ^ k : Nat) : Int)) (.int 10) = .ok (.int ((n / 10 ^ k % 10 : Nat) : Int)) := modD_nat (j := 10) (by decide)
    have m2 : fdivD (.int ((n / 10 ^ k : Nat) : Int)) (.int 10) = .ok (.int ((n / 10 ^ k / 10 : Nat) : Int)) := fdivD_nat (j := 10) (by decide) (by decide)
    generalize hq : n / 10 ^ k = q at m1 m2 e1 ⊢
    have hf := sp_fig (d := q % 10) hp hl9 (by omega)
    have st := wr_step (n := q) hp
    have l1 := fig_len (o := [ls[k * 2]]) (f := (ls.drop (k * 2 + 1)).take 1) (t := (ls.drop (k * 2 + 2)).take 1) (d := q % 10) (by simp) (by simp; omega) (by simp; omega)
    generalize fig [ls[k * 2]] ((ls.drop (k * 2 + 1)).take 1) ((ls.drop (k * 2 + 2)).take 1) (q % 10) = F at hf st l1
    simp only [sAsg_ap, e2_ap, eCall_ap, eCons_ap, eNil_ap, eV_zero, eV_succ, eC_ap, R.bnd_ok, m1, hf]
    rw [addD_str (by unfold LINE; omega)]
    have hq2 : q / 10 = n / 10 ^ (k + 1) := by rw [← hq, Nat.div_div_eq_div_mul, ← Nat.pow_succ]
    rw [hq2] at m2
    simp only [R.bnd_ok, lft_ok, gV_succ, gV_zero, gok_ok, wp_some, Nxt_nx, sAsg_ap, e2_ap, eV_zero, eV_succ, eC_ap, m2]
    refine ⟨.inl trivial, F ++ out, _, ?_, ?_, rfl⟩
    · rw [← e1, st, hq2, show (k + 1) * 2 = k * 2 + 2 by omega, List.append_assoc]
    · rw [List.length_append]
      omega
  · subst e
    rw [List.length_map, List.length_range, List.drop_of_length_le (by omega)] at e1
    simp [wr] at e1
    simp [e1]
theorem sp_write_x {ls : List Nat} (ho : odd ls) {n : Int} (h : n < 1 ∨ most ls < n) : f_write_strokes [.str ls, .int n] = .exc 2 := by
  refine run_at (s := b_write_strokes) [some (.str ls), some (.int n), none, none] ?_
  unfold b_write_strokes
  refine wp_seq ?_
  simp [sp_greatest ho]
  by_cases h1 : 1 ≤ n
  · rw [decide_eq_true h1]
    simp
    rw [if_pos (by omega)]
    simp
  · rw [decide_eq_false h1]
    simp
theorem sp_refused {ls : List Nat} (ho : odd ls) {n : Int} (h : n < 1 ∨ most ls < n) : f__law_refused [.str ls, .int n] = .ok .non := by
  refine run_at (s := b__law_refused) [some (.str ls), some (.int n), none] ?_
  unfold b__law_refused
  simp [sp_write_x ho h]
  rw [show sub 2 2 = true from rfl, show sub 2 0 = true from rfl, show sub 2 3 = false from rfl, show sub 2 1 = false from rfl]
  simp [LINE]
  rw [show idxD (Dat.lst [Dat.non, Dat.str [111, 116, 104, 101, 114]]) (Dat.int (b2i false)) = .ok .non from rfl]
  simp
/-! ### sums -/
/-- where a sign stands among the letters -/
def pos (ls : List Nat) (c : Nat) : Nat := ((List.range ls.length).find? fun k => ls[k]? == some c).getD 0
theorem pos_some {ls : List Nat} {c : Nat} (h : c ∈ ls) : (List.range ls.length).find? (fun k => ls[k]? == some c) = some (pos ls c) := by
  obtain ⟨i, hi, e⟩ := List.getElem_of_mem h
  cases q : (List.range ls.length).find? (fun k => ls[k]? == some c) with
  | none =>
    rw [List.find?_eq_none] at q
    have := q i (List.mem_range.mpr hi)
    simp [List.getElem?_eq_getElem hi, e] at this
  | some j => unfold pos; rw [q]; rfl
theorem pos_spec {ls : List Nat} {c : Nat} (h : c ∈ ls) : pos ls c < ls.length ∧ ls[pos ls c]? = some c ∧ ∀ j, j < pos ls c → ls[j]? ≠ some c := by
  have q := pos_some h
  rw [List.find?_range_eq_some] at q
  obtain ⟨h1, h2, h3⟩ := q
  refine ⟨List.mem_range.mp h2, by simpa using h1, fun j hj e => ?_⟩
  have := h3 j hj
  simp [e] at this
theorem pos_idx {ls : List Nat} {c : Nat} (h : c ∈ ls) : ls.findIdx? (· == c) = some (pos ls c) := by
  obtain ⟨h1, h2, h3⟩ := pos_spec h
  rw [List.findIdx?_eq_some_iff_getElem]
  refine ⟨h1, ?_, fun j hj => ?_⟩
  · rw [List.getElem?_eq_getElem h1] at h2
    simpa using h2
  · have := h3 j hj
    rw [List.getElem?_eq_getElem (by omega)] at this
    simpa using this
def W (ls : List Nat) (c : Nat) : Nat := worth (pos ls c)
def S : List Nat → Int
  | [] => 0
  | [a] => a
  | a :: b :: r => (if a < b then -(a : Int) else a) + S (b :: r)
theorem S_step {ws : List Nat} {k : Nat} (h : k < ws.length) : S (ws.drop k) = (if h2 : k + 1 < ws.length then (if ws[k] < ws[k + 1] then -(ws[k] : Int) else ws[k]) else ws[k]) + S (ws.drop (k + 1)) := by
  rw [List.drop_eq_getElem_cons h]
  by_cases h2 : k + 1 < ws.length
  · rw [dif_pos h2, show ws.drop (k + 1) = ws[k + 1] :: ws.drop (k + 2) from List.drop_eq_getElem_cons h2]
    rfl
  · rw [dif_neg h2, List.drop_of_length_le (by omega : ws.length ≤ k + 1)]
    simp [S]
theorem gets {ws : List Nat} {k : Nat} (h : k < ws.length) : (ws.map fun w => Dat.int (w : Nat))[k]? = some (.int (ws[k] : Nat)) := by
  rw [List.getElem?_map, List.getElem?_eq_getElem h]
  rfl
theorem idxW {ws : List Nat} {k : Nat} (h : k < ws.length) : idxD (.lst (ws.map fun w => Dat.int (w : Nat))) (.int k) = .ok (.int (ws[k] : Nat)) := by
  rw [idxD_lst (by simpa using h)]
  simp
theorem signs_map (t : List Nat) : signs t = t.map fun c => .str [c] := rfl
theorem sp_sum {ls : List Nat} (ho : odd ls) {t : List Nat} (ht : ∀ c ∈ t, c ∈ ls) (hl : t.length ≤ 1000000) : f_sum_of_strokes [.str ls, .str t] = .ok (.int (S (t.map (W ls)))) := by
  refine run_at (s := b_sum_of_strokes) [some (.str ls), some (.str t), none, none, none, none, none] ?_
  unfold b_sum_of_strokes
  refine wp_seq ?_
  rw [sNew_lst (xs := (t.map (W ls)).map fun w => .int (w : Nat)) ?_ (by simp)]
  · simp only [wp_some, Nxt_nx, List.set_cons_succ, List.set_cons_zero]
    refine wp_seq ?_
    simp only [sAsg_ap, eC_ap, lft_ok, gV_succ, gV_zero, R.bnd_ok, gok_ok, wp_some, Nxt_nx]
    refine wp_seq ?_
    rw [sFor_ap]
    simp only [iEnum_ap, eV_succ, eV_zero, R.bnd_ok, enumD_lst, lft_ok]
    generalize hw : t.map (W ls) = ws
    refine wp_for (fun k ρ => ∃ z o o2, z + S (ws.drop k) = S ws ∧ ρ = [some (.str ls), some (.str t), some (.lst (ws.map fun w => .int (w : Nat))), some (.int z), o, o2, none]) ⟨0, none, none, by simp, rfl⟩ (fun k d ρ hk ⟨z, o, o2, e1, e⟩ => ?_) (fun ρ ⟨z, o, o2, e1, e⟩ => ?_)
    · obtain ⟨x, hx, rfl⟩ := enumR_get hk
      obtain ⟨hk2, rfl⟩ := map_get hx
      subst e
      rw [Nat.zero_add]
      refine ⟨[some (.str ls), some (.str t), some (.lst (ws.map fun w => .int (w : Nat))), some (.int z), some (.int k), some (.int (ws[k] : Nat)), none], by simp, ?_⟩
      have st := S_step hk2
      simp only [sIf_ap, tAnd_ap, tE_ap, e2_ap, e1_ap, eV_succ, eV_zero, eC_ap, R.bnd_ok, addD_int, lenD_lst, ltD_int, tru_bl, List.length_map]
      by_cases h2 : k + 1 < ws.length
      · rw [decide_eq_true (by omega : ((k : Int) + 1 < (ws.length : Int)))]
        rw [dif_pos h2] at st
        simp only [if_true]
        rw [show ((k : Int) + 1) = ((k + 1 : Nat) : Int) by omega, idxW h2]
        simp only [R.bnd_ok, gtD_int, tru_bl, lft_ok]
        by_cases h3 : ws[k] < ws[k + 1]
        · rw [decide_eq_true (by omega : ((ws[k] : Nat) : Int) < ((ws[k + 1] : Nat) : Int))]
          rw [if_pos h3] at st
          simp
          rw [← e1, st]
          omega
        · rw [decide_eq_false (by omega : ¬ ((ws[k] : Nat) : Int) < ((ws[k + 1] : Nat) : Int))]
          rw [if_neg h3] at st
          simp
          rw [← e1, st]
          omega
      · rw [decide_eq_false (by omega : ¬ ((k : Int) + 1 < (ws.length : Int)))]
        rw [dif_neg h2] at st
        simp
        rw [← e1, st]
        omega
    · subst e
      rw [enumR_len, List.length_map, List.drop_length] at e1
      simp [S] at e1
      simp [e1]
  · refine eComp_of (ds := t.map fun c => .str [c]) (by simp [signs_map]) ?_ (by simp; unfold LINE; omega)
    rw [List.map_map]
    refine compL_map (fun c => .str [c]) (fun c => .int ((W ls c : Nat) : Int)) fun c hc => ?_
    refine ⟨[some (.str ls), some (.str t), none, none, none, none, some (.str [c])], by simp [wipe], rfl, hc, ?_⟩
    simp
    have hi : indexD (.str ls) (.str [c]) = .ok (.int (pos ls c)) := by
      show (match ls.findIdx? (· == c) with | some k => R.ok (Dat.int k) | none => R.bad) = _
      rw [pos_idx (ht c hc)]
    rw [hi]
    simp
    rw [sp_worth (by have := (pos_spec (ht c hc)).1; have := ho.2; omega)]
    rfl
/-! ### worths, worked out -/
theorem tab9 : ∀ k : Nat, k < 9 → idxD (.lst [.int 1, .int 5, .int 10, .int 50, .int 100, .int 500, .int 1000, .int 5000, .int 10000]) (.int k) = .ok (.int (worth k))
  | 0, _ => rfl
  | 1, _ => rfl
  | 2, _ => rfl
  | 3, _ => rfl
  | 4, _ => rfl
  | 5, _ => rfl
  | 6, _ => rfl
  | 7, _ => rfl
  | 8, _ => rfl
  | _ + 9, h => by omega
theorem find_head {α : Type} (p : α → Bool) : ∀ l : List α, (l.filter p).head? = l.find? p
  | [] => rfl
  | x :: r => by
    by_cases h : p x = true
    · simp [h]
    · simp [h, find_head p r]
theorem sp_worths {ls : List Nat} (hl9 : ls.length ≤ 9) {t : List Nat} (hl : t.length ≤ 1000000) : f__law_worths [.str ls, .str t] = if ∀ c ∈ t, c ∈ ls then .ok (.lst ((t.map (W ls)).map fun w => .int (w : Nat))) else .ok .non := by
  refine run_at (s := b__law_worths) [some (.str ls), some (.str t), none, none, none, none] ?_
  unfold b__law_worths
  refine wp_seq ?_
  rw [sNew_lst (xs := []) (by simp [LINE]) (by simp)]
  simp only [wp_some, Nxt_nx, List.set_cons_succ, List.set_cons_zero]
  refine wp_seq ?_
  rw [sFor_ap]
  simp only [iOf_ap, eV_succ, eV_zero, R.bnd_ok, itemsD_str, lft_ok, signs_map]
  refine wp_forX (fun k ρ => ∃ o o2, (∀ c ∈ t.take k, c ∈ ls) ∧ ρ = [some (.str ls), some (.str t), some (.lst (((t.take k).map (W ls)).map fun w => .int (w : Nat))), o, o2, none]) ⟨none, none, by simp, by simp⟩ (fun k d ρ hk ⟨o, o2, w1, e⟩ => ?_) (fun ρ ⟨o, o2, w1, e⟩ => ?_)
  · obtain ⟨hk2, rfl⟩ := map_get hk
    subst e
    generalize hD : (((t.take k).map (W ls)).map fun w => Dat.int (w : Nat)) = D
    refine ⟨[some (.str ls), some (.str t), some (.lst D), some (.str [t[k]]), o2, none], by simp, ?_⟩
    have hat : ∀ o2 : Option Dat, eComp (iR1 (e1 lenD (eV 0))) [5] (gV 5) (tE (e2 eqD (e2 idxD (eV 0) (eV 5)) (eV 3))) (eV 5) [some (.str ls), some (.str t), some (.lst D), some (.str [t[k]]), o2, none] =
        .ok (.lst (((List.range ls.length).filter fun j => ls[j]? == some t[k]).map fun j => .int (j : Nat))) := by
      intro o2
      refine eComp_of (ds := (List.range ls.length).map fun j => .int (j : Nat)) ?_ ?_ ?_
      · simp
        rw [rng1_nat (by omega)]
      · refine compL_filter (fun j => .int (j : Nat)) (fun j => ls[j]? == some t[k]) (fun j => .int (j : Nat)) fun j hj => ?_
        have hj := List.mem_range.mp hj
        refine ⟨[some (.str ls), some (.str t), some (.lst D), some (.str [t[k]]), o2, some (.int j)], by simp [wipe], ?_, fun _ => by simp⟩
        simp [idxD_str hj, List.getElem?_eq_getElem hj]
      · have : ((List.range ls.length).filter fun j => ls[j]? == some t[k]).length ≤ (List.range ls.length).length := List.length_filter_le _ _
        simp at this ⊢
        unfold LINE
        omega
    refine wp_seq ?_
    rw [sNew_lst (hat o2) (by simp)]
    simp only [wp_some, Nxt_nx, List.set_cons_succ, List.set_cons_zero]
    refine wp_seq ?_
    simp only [sIf_ap, tE_ap, e2_ap, e1_ap, eV_succ, eV_zero, eC_ap, R.bnd_ok, lenD_lst, eqD_int, tru_bl, lft_ok]
    have hh := find_head (fun j => ls[j]? == some t[k]) (List.range ls.length)
    by_cases hc : t[k] ∈ ls
    · rw [pos_some hc] at hh
      obtain ⟨hp1, hp2, hp3⟩ := pos_spec hc
      cases hf : (List.range ls.length).filter fun j => ls[j]? == some t[k] with
      | nil => rw [hf] at hh; cases hh
      | cons j r =>
        rw [hf] at hh
        have hj : j = pos ls t[k] := by simpa using hh
        subst hj
        rw [if_neg (by simp; omega)]
        simp only [sSkip_ap, wp_some, Nxt_nx]
        rw [sApp_ap (xs := D) (d := .int (worth (pos ls t[k]))) (by simp) ?_ ?_]
        · simp only [wp_some, Lp_nx, List.set_cons_succ, List.set_cons_zero]
          refine ⟨some (.str [t[k]]), some (.lst ((pos ls t[k] :: r).map fun j => .int (j : Nat))), ?_, ?_⟩
          · intro c hcc
            rw [List.take_add_one, List.getElem?_eq_getElem hk2] at hcc
            rcases List.mem_append.mp hcc with h | h
            · exact w1 c h
            · have : c = t[k] := by simpa using h
              rw [this]; exact hc
          · rw [List.take_add_one, List.getElem?_eq_getElem hk2, ← hD]
            simp only [Option.toList_some, List.map_append, List.map_cons, List.map_nil]
            rfl
        · simp only [e2_ap, eLst_ap, eCons_ap, eNil_ap, eC_ap, R.bnd_ok, eV_succ, eV_zero]
          rw [if_pos (by simp [LINE])]
          simp only [R.bnd_ok]
          have e0 : idxD (.lst ((pos ls t[k] :: r).map fun j => Dat.int (j : Nat))) (.int 0) = .ok (.int (pos ls t[k])) := idxD_lst (k := 0) (by simp)
          rw [e0]
          simp only [R.bnd_ok]
          exact tab9 _ (by omega)
        · rw [← hD]
          simp
          unfold LINE
          omega
    · have : (List.range ls.length).filter (fun j => ls[j]? == some t[k]) = [] := by
        rw [List.filter_eq_nil_iff]
        intro j hj q
        have := List.mem_of_getElem? (by simpa using q : ls[j]? = some t[k])
        exact hc this
      rw [this]
      simp
      exact ⟨t[k], List.getElem_mem hk2, hc⟩
  · subst e
    rw [List.length_map, List.take_length] at w1
    simp
    exact w1
theorem sp_lsum {ls : List Nat} (hl9 : ls.length ≤ 9) {t : List Nat} (hl : t.length ≤ 1000000) (ht : ∀ c ∈ t, c ∈ ls) : f__law_sum [.str ls, .str t] = .ok (.int (S (t.map (W ls)))) := by
  refine run_at (s := b__law_sum) [some (.str ls), some (.str t), none, none, none] ?_
  unfold b__law_sum
  refine wp_seq ?_
  simp only [sAsg_ap, eCall_ap, eCons_ap, eNil_ap, eV_zero, eV_succ, R.bnd_ok, sp_worths hl9 hl, if_pos ht, lft_ok, gV_succ, gV_zero, gok_ok, wp_some, Nxt_nx]
  refine wp_seq ?_
  simp only [sAsg_ap, eC_ap, lft_ok, gV_succ, gV_zero, R.bnd_ok, gok_ok, wp_some, Nxt_nx]
  refine wp_seq ?_
  rw [sFor_ap]
  have hwl : (t.map (W ls)).length ≤ 1000000 := by simpa using hl
  generalize t.map (W ls) = ws at hwl
  simp only [iR1_ap, e1_ap, eV_succ, eV_zero, R.bnd_ok, lenD_lst, lft_ok, List.length_map]
  rw [rng1_nat (by omega)]
  simp only [lft_ok]
  refine wp_for (fun k ρ => ∃ z o, z + S (ws.drop k) = S ws ∧ ρ = [some (.str ls), some (.str t), some (.lst (ws.map fun w => .int (w : Nat))), some (.int z), o]) ⟨0, none, by simp, rfl⟩ (fun k d ρ hk ⟨z, o, w1, e⟩ => ?_) (fun ρ ⟨z, o, w1, e⟩ => ?_)
  · obtain ⟨hk2, rfl⟩ := range_get hk
    subst e
    refine ⟨[some (.str ls), some (.str t), some (.lst (ws.map fun w => .int (w : Nat))), some (.int z), some (.int k)], by simp, ?_⟩
    have st := S_step hk2
    simp only [sIf_ap, tAnd_ap, tE_ap, e2_ap, e1_ap, eV_succ, eV_zero, eC_ap, R.bnd_ok, addD_int, lenD_lst, ltD_int, tru_bl, List.length_map]
    by_cases h2 : k + 1 < ws.length
    · rw [decide_eq_true (by omega : ((k : Int) + 1 < (ws.length : Int)))]
      rw [dif_pos h2] at st
      simp only [if_true]
      rw [show ((k : Int) + 1) = ((k + 1 : Nat) : Int) by omega, idxW h2, idxW hk2]
      simp only [R.bnd_ok, gtD_int, tru_bl, lft_ok]
      by_cases h3 : ws[k] < ws[k + 1]
      · rw [decide_eq_true (by omega : ((ws[k] : Nat) : Int) < ((ws[k + 1] : Nat) : Int))]
        rw [if_pos h3] at st
        simp [idxW hk2]
        rw [← w1, st]
        omega
      · rw [decide_eq_false (by omega : ¬ ((ws[k] : Nat) : Int) < ((ws[k + 1] : Nat) : Int))]
        rw [if_neg h3] at st
        simp [idxW hk2]
        rw [← w1, st]
        omega
    · rw [decide_eq_false (by omega : ¬ ((k : Int) + 1 < (ws.length : Int)))]
      rw [dif_neg h2] at st
      simp [idxW hk2]
      rw [← w1, st]
      omega
  · subst e
    rw [List.length_map, List.length_range, List.drop_length] at w1
    simp [S] at w1
    simp [w1]
/-! ### written by the greatest pieces -/
def pc (ls : List Nat) (w : Nat) : List (Nat × List Nat) := match ls with
  | [] => []
  | [o] => [(w, [o])]
  | o :: f :: [] => [(w, [o])]
  | o :: f :: t :: r => pc (t :: r) (10 * w) ++ [(9 * w, [o, t]), (5 * w, [f]), (4 * w, [o, f]), (w, [o])]
def pD (p : Nat × List Nat) : Dat := .tup [.int (p.1 : Nat), .str p.2]
theorem pc_step {ls : List Nat} (w : Nat) {p : Nat} (hp : p < ls.length) (ho : ls.length % 2 = 1) (hpe : p % 2 = 0) : pc (ls.drop p) w = pc (ls.drop (p + 2)) (10 * w) ++ (if h : p + 2 < ls.length then [(9 * w, [ls[p], ls[p + 2]]), (5 * w, [ls[p + 1]]), (4 * w, [ls[p], ls[p + 1]]), (w, [ls[p]])] else [(w, [ls[p]])]) := by
  rw [List.drop_eq_getElem_cons hp]
  by_cases h : p + 2 < ls.length
  · rw [dif_pos h, show ls.drop (p + 1) = ls[p + 1] :: ls.drop (p + 2) from List.drop_eq_getElem_cons (by omega), show ls.drop (p + 2) = ls[p + 2] :: ls.drop (p + 3) from List.drop_eq_getElem_cons h]
    rfl
  · rw [dif_neg h, List.drop_of_length_le (by omega : ls.length ≤ p + 1), List.drop_of_length_le (by omega : ls.length ≤ p + 2)]
    rfl
theorem sp_pieces {ls : List Nat} (ho : odd ls) : f__law_pieces [.str ls] = .ok (.lst ((pc ls 1).map pD)) := by
  obtain ⟨hod, hl9⟩ := ho
  refine run_at (s := b__law_pieces) [some (.str ls), none, none, none, none] ?_
  unfold b__law_pieces
  refine wp_seq ?_
  simp only [sAsg_ap, eLst_ap, eNil_ap, R.bnd_ok]
  rw [if_pos (by simp [LINE])]
  simp only [lft_ok, gV_succ, gV_zero, R.bnd_ok, gok_ok, wp_some, Nxt_nx]
  refine wp_seq ?_
  simp only [sAsg_ap, eC_ap, lft_ok, gV_succ, gV_zero, R.bnd_ok, gok_ok, wp_some, Nxt_nx]
  refine wp_seq ?_
  rw [sFor_ap]
  simp only [iR3_ap, e1_ap, eC_ap, eV_zero, R.bnd_ok, lenD_str]
  rw [show rng3 (.int 0) (.int ls.length) (.int 2) = _ from rng3_nat (st := 2) (by omega) (by decide) (by decide)]
  simp only [lft_ok]
  refine wp_for (fun k ρ => ∃ fnd o o2, pc (ls.drop (k * 2)) (10 ^ k) ++ fnd.reverse = pc ls 1 ∧ fnd.length ≤ 4 * k ∧ ρ = [some (.str ls), some (.lst (fnd.map pD)), some (.int ((10 ^ k : Nat) : Int)), o, o2]) ⟨[], none, none, by simp, by simp, rfl⟩ (fun k d ρ hk ⟨fnd, o, o2, w1, w2, e⟩ => ?_) (fun ρ ⟨fnd, o, o2, w1, w2, e⟩ => ?_)
  · obtain ⟨hk, rfl⟩ := range_get hk
    subst e
    have hp : k * 2 < ls.length := by omega
    have hst := pc_step (10 ^ k) hp hod (by omega)
    refine ⟨[some (.str ls), some (.lst (fnd.map pD)), some (.int ((10 ^ k : Nat) : Int)), some (.int ((k * 2 : Nat) : Int)), o2], by simp, ?_⟩
    generalize hw : 10 ^ k = w at hst w1 ⊢
    have hw2 : 10 * w = 10 ^ (k + 1) := by rw [← hw, Nat.pow_succ, Nat.mul_comm]
    have q1 : ∀ c : Nat, c < 2 ^ 60 → mulD (.int (w : Nat)) (.int (c : Nat)) = .ok (.int ((c * w : Nat) : Int)) := fun c hc => by
      rw [mulR_int (by omega), Nat.mul_comm]
      rfl
    have n1 : ((k * 2 : Nat) : Int) + 1 = ((k * 2 + 1 : Nat) : Int) := rfl
    have n2 : ((k * 2 : Nat) : Int) + 2 = ((k * 2 + 2 : Nat) : Int) := rfl
    have m4 : mulD (.int (w : Nat)) (.int 4) = .ok (.int ((4 * w : Nat) : Int)) := q1 4 (by decide)
    have m5 : mulD (.int (w : Nat)) (.int 5) = .ok (.int ((5 * w : Nat) : Int)) := q1 5 (by decide)
    have m9 : mulD (.int (w : Nat)) (.int 9) = .ok (.int ((9 * w : Nat) : Int)) := q1 9 (by decide)
    have m10 : mulD (.int (w : Nat)) (.int 10) = .ok (.int ((10 * w : Nat) : Int)) := q1 10 (by decide)
    have le2 : ∀ {a b : Dat}, [a, b].length ≤ LINE := by simp [LINE]
    have le1 : ∀ {a : Dat}, [a].length ≤ LINE := by simp [LINE]
    have le3 : ∀ {a b c : Dat}, [a, b, c].length ≤ LINE := by simp [LINE]
    refine wp_seq ?_
    simp only [sAsg_ap, eLst_ap, eTup_ap, eCons_ap, eNil_ap, e2_ap, eV_zero, eV_succ, R.bnd_ok, idxD_str hp, if_pos le2, if_pos le1, lft_ok, gV_succ, gV_zero, gok_ok, wp_some, Nxt_nx]
    refine wp_seq ?_
    simp only [sIf_ap, tE_ap, e2_ap, e1_ap, eV_zero, eV_succ, eC_ap, R.bnd_ok, addD_int, lenD_str, ltD_int, tru_bl, lft_ok, n2]
    have fin : ∀ more : List (Nat × List Nat), more.length ≤ 4 → pc (ls.drop (k * 2)) w = pc (ls.drop (k * 2 + 2)) (10 * w) ++ more.reverse → wp (sSeq (sAsg (gV 1) (e2 addD (eV 1) (eV 4))) (sAsg (gV 2) (e2 mulD (eV 2) (eC (.int 10)))) [some (.str ls), some (.lst (fnd.map pD)), some (.int (w : Nat)), some (.int ((k * 2 : Nat) : Int)), some (.lst (more.map pD))])
        fun f ρ2 => (f = Fl.nx ∨ f = Fl.ct) ∧ ∃ (fnd : List (Nat × List Nat)) (o o2 : Option Dat), pc (ls.drop ((k + 1) * 2)) (10 ^ (k + 1)) ++ fnd.reverse = pc ls 1 ∧ fnd.length ≤ 4 * (k + 1) ∧ ρ2 = [some (.str ls), some (.lst (fnd.map pD)), some (.int ((10 ^ (k + 1) : Nat) : Int)), o, o2] := by
      intro more hm1 hm2
      refine wp_seq ?_
      simp only [sAsg_ap, e2_ap, eV_zero, eV_succ, eC_ap, R.bnd_ok]
      rw [addD_lst (by simp; unfold LINE; omega)]
      simp only [R.bnd_ok, lft_ok, gV_succ, gV_zero, gok_ok, wp_some, Nxt_nx, sAsg_ap, e2_ap, eV_zero, eV_succ, eC_ap, m10]
      refine ⟨.inl trivial, fnd ++ more, some (.int ((k * 2 : Nat) : Int)), some (.lst (more.map pD)), ?_, ?_, ?_⟩
      · rw [List.reverse_append, ← hw2, ← w1, hm2, show (k + 1) * 2 = k * 2 + 2 by omega, List.append_assoc]
      · rw [List.length_append]
        omega
      · rw [List.map_append, hw2]
    by_cases h2 : k * 2 + 2 < ls.length
    · rw [dif_pos h2] at hst
      rw [if_pos (by rw [decide_eq_true_iff]; omega)]
      simp only [sAsg_ap, eLst_ap, eTup_ap, eCons_ap, eNil_ap, e2_ap, eV_zero, eV_succ, eC_ap, R.bnd_ok, addD_int, idxD_str hp, n1, n2, idxD_str h2, idxD_str (show k * 2 + 1 < ls.length by omega), m4, m5, m9, if_pos le2, if_pos le3]
      rw [addD_str (by simp [LINE]), addD_str (by simp [LINE])]
      simp only [R.bnd_ok, if_pos le2, if_pos le3]
      rw [addD_lst (by simp [LINE])]
      simp only [R.bnd_ok, lft_ok, gV_succ, gV_zero, gok_ok, wp_some, Nxt_nx]
      exact fin [(w, [ls[k * 2]]), (4 * w, [ls[k * 2], ls[k * 2 + 1]]), (5 * w, [ls[k * 2 + 1]]), (9 * w, [ls[k * 2], ls[k * 2 + 2]])] (by simp) hst
    · rw [dif_neg h2] at hst
      rw [if_neg (by rw [decide_eq_true_iff]; omega)]
      simp only [sSkip_ap, wp_some, Nxt_nx]
      exact fin [(w, [ls[k * 2]])] (by simp) hst
  · subst e
    rw [List.length_map, List.length_range, List.drop_of_length_le (by omega)] at w1
    rw [show pc [] (10 ^ ((ls.length + 2 - 1) / 2)) = [] from rfl, List.nil_append] at w1
    simp only [Nxt_nx, sRet_ap, e1_ap, eV_zero, eV_succ, R.bnd_ok]
    rw [show revD (.lst (fnd.map pD)) = .ok (.lst (fnd.map pD).reverse) from rfl, ← List.map_reverse, w1]
    simp
/-- one piece is taken up to three times -/
def take1 (p : Nat × List Nat) (z : Nat × List Nat) : Nat × List Nat := if p.1 ≤ z.1 then (z.1 - p.1, z.2 ++ p.2) else z
def take3 (z : Nat × List Nat) (p : Nat × List Nat) : Nat × List Nat := take1 p (take1 p (take1 p z))
theorem take1_len {p z : Nat × List Nat} (h : p.2.length ≤ 2) : (take1 p z).2.length ≤ z.2.length + 2 := by
  unfold take1
  split
  · simp; omega
  · omega
theorem pc_len : ∀ (ls : List Nat) (w : Nat), (pc ls w).length ≤ 4 * ls.length ∧ ∀ p ∈ pc ls w, p.2.length ≤ 2
  | [], _ => by simp [pc]
  | [o], _ => by simp [pc]
  | [o, f], _ => by simp [pc]
  | o :: f :: t :: r, w => by
    obtain ⟨h1, h2⟩ := pc_len (t :: r) (10 * w)
    unfold pc
    constructor
    · simp at h1 ⊢
      omega
    · intro p hp
      rcases List.mem_append.mp hp with hp | hp
      · exact h2 p hp
      · simp at hp
        rcases hp with rfl | rfl | rfl | rfl <;> simp
theorem sp_lwrite {ls : List Nat} (ho : odd ls) {n : Nat} : f__law_write [.str ls, .int n] = .ok (.str ((pc ls 1).foldl take3 (n, [])).2) := by
  have hl9 := ho.2
  refine run_at (s := b__law_write) [some (.str ls), some (.int n), none, none, none, none] ?_
  unfold b__law_write
  refine wp_seq ?_
  simp only [sAsg_ap, eC_ap, lft_ok, gV_succ, gV_zero, R.bnd_ok, gok_ok, wp_some, Nxt_nx]
  refine wp_seq ?_
  rw [sFor_ap]
  simp only [iOf_ap, eCall_ap, eCons_ap, eNil_ap, eV_zero, R.bnd_ok, sp_pieces ho, itemsD_lst, lft_ok]
  obtain ⟨hc1, hc2⟩ := pc_len ls 1
  generalize hpc : pc ls 1 = ps at hc1 hc2
  refine wp_for (fun k ρ => ∃ o o2 o3, ((ps.take k).foldl take3 (n, [])).2.length ≤ 6 * k ∧ ρ = [some (.str ls), some (.int (((ps.take k).foldl take3 (n, [])).1 : Nat)), some (.str ((ps.take k).foldl take3 (n, [])).2), o, o2, o3]) ⟨none, none, none, by simp, by simp⟩ (fun k d ρ hk ⟨o, o2, o3, w2, e⟩ => ?_) (fun ρ ⟨o, o2, o3, w2, e⟩ => ?_)
  · obtain ⟨hk2, rfl⟩ := map_get hk
    subst e
    have hp2 := hc2 _ (List.getElem_mem hk2)
    have hfold : (ps.take (k + 1)).foldl take3 (n, []) = take3 ((ps.take k).foldl take3 (n, [])) ps[k] := by
      rw [List.take_add_one, List.getElem?_eq_getElem hk2, Option.toList_some, List.foldl_append]
      rfl
    rw [hfold]
    generalize (ps.take k).foldl take3 (n, []) = z at w2
    generalize ps[k] = p at hp2
    have hkl : k < 36 := by omega
    refine ⟨[some (.str ls), some (.int (z.1 : Nat)), some (.str z.2), some (.int (p.1 : Nat)), some (.str p.2), o3], by simp [pD], ?_⟩
    rw [sFor_ap]
    simp only [iR1_ap, eC_ap, R.bnd_ok]
    rw [show rng1 (.int 3) = .ok [.int 0, .int 1, .int 2] from rfl]
    simp only [lft_ok]
    have turn : ∀ (z : Nat × List Nat) (o3 : Option Dat) (j : Dat), z.2.length ≤ 1000 → (sIf (tE (e2 geD (eV 1) (eV 3))) (sSeq (sAsg (gV 2) (e2 addD (eV 2) (eV 4))) (sAsg (gV 1) (e2 subD (eV 1) (eV 3)))) sSkip) [some (.str ls), some (.int (z.1 : Nat)), some (.str z.2), some (.int (p.1 : Nat)), some (.str p.2), some j] =
        some (.nx, [some (.str ls), some (.int ((take1 p z).1 : Nat)), some (.str (take1 p z).2), some (.int (p.1 : Nat)), some (.str p.2), some j]) := by
      intro z o3 j hz
      simp only [sIf_ap, tE_ap, e2_ap, eV_zero, eV_succ, R.bnd_ok, geD_int, tru_bl, lft_ok]
      unfold take1
      by_cases h : p.1 ≤ z.1
      · rw [if_pos (by rw [decide_eq_true_iff]; omega), if_pos h]
        unfold sSeq
        simp only [sAsg_ap, e2_ap, eV_zero, eV_succ, R.bnd_ok]
        rw [addD_str (by unfold LINE; omega)]
        simp only [R.bnd_ok, lft_ok, gV_succ, gV_zero, gok_ok, sAsg_ap, e2_ap, eV_zero, eV_succ, subD_int]
        rw [Int.ofNat_sub h]
      · rw [if_neg (by rw [decide_eq_true_iff]; omega), if_neg h]
        rfl
    have l1 := take1_len (p := p) (z := z) hp2
    have l2 := take1_len (p := p) (z := take1 p z) hp2
    have l3 := take1_len (p := p) (z := take1 p (take1 p z)) hp2
    simp only [forL, gV_succ, gV_zero, R.bnd_ok, gok_ok]
    rw [turn z none _ (by omega)]
    simp only [gV_succ, gV_zero, R.bnd_ok, gok_ok]
    rw [turn (take1 p z) none _ (by omega)]
    simp only [gV_succ, gV_zero, R.bnd_ok, gok_ok]
    rw [turn (take1 p (take1 p z)) none _ (by omega)]
    simp only [wp_some]
    exact ⟨.inl trivial, _, _, _, by unfold take3; omega, rfl⟩
  · subst e
    rw [List.length_map, List.take_length] at *
    simp
theorem t0 {M c : Nat} {out p : List Nat} (h : M < c) : take3 (M, out) (c, p) = (M, out) := by
  have e : take1 (c, p) (M, out) = (M, out) := if_neg (by show ¬ c ≤ M; omega)
  unfold take3
  rw [e, e, e]
theorem t1 {M c : Nat} {out p : List Nat} (h : c ≤ M) (h2 : M < 2 * c) : take3 (M, out) (c, p) = (M - c, out ++ p) := by
  have e : take1 (c, p) (M, out) = (M - c, out ++ p) := if_pos h
  have e' : take1 (c, p) (M - c, out ++ p) = (M - c, out ++ p) := if_neg (by show ¬ c ≤ M - c; omega)
  unfold take3
  rw [e, e', e']
theorem t2 {M c : Nat} {out p : List Nat} (h : 2 * c ≤ M) (h2 : M < 3 * c) : take3 (M, out) (c, p) = (M - c - c, out ++ p ++ p) := by
  have e : take1 (c, p) (M, out) = (M - c, out ++ p) := if_pos (by show c ≤ M; omega)
  have e' : take1 (c, p) (M - c, out ++ p) = (M - c - c, out ++ p ++ p) := if_pos (by show c ≤ M - c; omega)
  have e2 : take1 (c, p) (M - c - c, out ++ p ++ p) = (M - c - c, out ++ p ++ p) := if_neg (by show ¬ c ≤ M - c - c; omega)
  unfold take3
  rw [e, e', e2]
theorem t3 {M c : Nat} {out p : List Nat} (h : 3 * c ≤ M) : take3 (M, out) (c, p) = (M - c - c - c, out ++ p ++ p ++ p) := by
  have e : take1 (c, p) (M, out) = (M - c, out ++ p) := if_pos (by show c ≤ M; omega)
  have e' : take1 (c, p) (M - c, out ++ p) = (M - c - c, out ++ p ++ p) := if_pos (by show c ≤ M - c; omega)
  have e2 : take1 (c, p) (M - c - c, out ++ p ++ p) = (M - c - c - c, out ++ p ++ p ++ p) := if_pos (by show c ≤ M - c - c; omega)
  unfold take3
  rw [e, e', e2]
theorem quad {d e w o f t : Nat} {out : List Nat} (he : e < w) (hd : d < 10) : [(9 * w, [o, t]), (5 * w, [f]), (4 * w, [o, f]), (w, [o])].foldl take3 (d * w + e, out) = (e, out ++ fig [o] [f] [t] d) := by
  simp only [List.foldl]
  match d, hd with
  | 0, _ => rw [t0 (M := 0 * w + e) (by omega), t0 (M := 0 * w + e) (by omega), t0 (M := 0 * w + e) (by omega), t0 (M := 0 * w + e) (by omega), show 0 * w + e = e by omega]; simp [fig]
  | 1, _ => rw [t0 (M := 1 * w + e) (by omega), t0 (M := 1 * w + e) (by omega), t0 (M := 1 * w + e) (by omega), t1 (M := 1 * w + e) (by omega) (by omega), show 1 * w + e - w = e by omega]; simp [fig]
  | 2, _ => rw [t0 (M := 2 * w + e) (by omega), t0 (M := 2 * w + e) (by omega), t0 (M := 2 * w + e) (by omega), t2 (M := 2 * w + e) (by omega) (by omega), show 2 * w + e - w - w = e by omega]; simp [fig]
  | 3, _ => rw [t0 (M := 3 * w + e) (by omega), t0 (M := 3 * w + e) (by omega), t0 (M := 3 * w + e) (by omega), t3 (M := 3 * w + e) (by omega), show 3 * w + e - w - w - w = e by omega]; simp [fig]
  | 4, _ => rw [t0 (M := 4 * w + e) (by omega), t0 (M := 4 * w + e) (by omega), t1 (M := 4 * w + e) (by omega) (by omega), t0 (M := 4 * w + e - 4 * w) (by omega), show 4 * w + e - 4 * w = e by omega]; simp [fig]
  | 5, _ => rw [t0 (M := 5 * w + e) (by omega), t1 (M := 5 * w + e) (by omega) (by omega), t0 (M := 5 * w + e - 5 * w) (by omega), t0 (M := 5 * w + e - 5 * w) (by omega), show 5 * w + e - 5 * w = e by omega]; simp [fig]
  | 6, _ => rw [t0 (M := 6 * w + e) (by omega), t1 (M := 6 * w + e) (by omega) (by omega), t0 (M := 6 * w + e - 5 * w) (by omega), t1 (M := 6 * w + e - 5 * w) (by omega) (by omega), show 6 * w + e - 5 * w - w = e by omega]; simp [fig]
  | 7, _ => rw [t0 (M := 7 * w + e) (by omega), t1 (M := 7 * w + e) (by omega) (by omega), t0 (M := 7 * w + e - 5 * w) (by omega), t2 (M := 7 * w + e - 5 * w) (by omega) (by omega), show 7 * w + e - 5 * w - w - w = e by omega]; simp [fig]
  | 8, _ => rw [t0 (M := 8 * w + e) (by omega), t1 (M := 8 * w + e) (by omega) (by omega), t0 (M := 8 * w + e - 5 * w) (by omega), t3 (M := 8 * w + e - 5 * w) (by omega), show 8 * w + e - 5 * w - w - w - w = e by omega]; simp [fig]
  | 9, _ => rw [t1 (M := 9 * w + e) (by omega) (by omega), t0 (M := 9 * w + e - 9 * w) (by omega), t0 (M := 9 * w + e - 9 * w) (by omega), t0 (M := 9 * w + e - 9 * w) (by omega), show 9 * w + e - 9 * w = e by omega]; simp [fig]
  | _ + 10, h => omega
theorem greedy : ∀ (ls : List Nat) (w N : Nat) (out : List Nat), ls.length % 2 = 1 → 0 < w → N < 4 * 10 ^ (ls.length / 2) * w → (pc ls w).foldl take3 (N, out) = (N % w, out ++ wr ls (N / w))
  | [], _, _, _, h, _, _ => by simp at h
  | [_, _], _, _, _, h, _, _ => by simp at h
  | [o], w, N, out, _, hw, hN => by
    have hN : N < 4 * w := by simpa using hN
    have hd : N / w < 4 := Nat.div_lt_of_lt_mul (by omega)
    have hdm := Nat.div_add_mod N w
    have he := Nat.mod_lt N hw
    generalize N / w = d at *
    generalize N % w = e at *
    subst hdm
    show take3 _ (w, [o]) = _
    unfold wr
    match d, hd with
    | 0, _ => rw [t0 (by omega)]; simp [fig]
    | 1, _ => rw [t1 (by omega) (by omega), show w * 1 + e - w = e by omega]; simp [fig]
    | 2, _ => rw [t2 (by omega) (by omega), show w * 2 + e - w - w = e by omega]; simp [fig]
    | 3, _ => rw [t3 (by omega), show w * 3 + e - w - w - w = e by omega]; simp [fig]
    | _ + 4, h => omega
  | o :: f :: t :: r, w, N, out, ho, hw, hN => by
    have ih := greedy (t :: r) (10 * w) N out (by simp at ho ⊢; omega) (by omega) (by
      have e : (o :: f :: t :: r).length / 2 = (t :: r).length / 2 + 1 := by simp; omega
      rw [e, Nat.pow_succ] at hN
      rw [show 4 * 10 ^ ((t :: r).length / 2) * (10 * w) = 4 * (10 ^ ((t :: r).length / 2) * 10) * w by
        rw [← Nat.mul_assoc, Nat.mul_assoc 4]]
      exact hN)
    unfold pc
    rw [List.foldl_append, ih]
    have h1 : N % (10 * w) = (N / w % 10) * w + N % w := by
      rw [Nat.mul_comm 10 w, Nat.mod_mul]
      rw [Nat.mul_comm w, Nat.add_comm]
    rw [h1, quad (Nat.mod_lt N hw) (Nat.mod_lt _ (by decide))]
    rw [show wr (o :: f :: t :: r) (N / w) = wr (t :: r) (N / w / 10) ++ fig [o] [f] [t] (N / w % 10) from rfl]
    rw [Nat.mul_comm 10 w, ← Nat.div_div_eq_div_mul, List.append_assoc]
theorem lwrite_eq {ls : List Nat} (ho : odd ls) {n : Nat} (h : n ≤ most ls) : f__law_write [.str ls, .int n] = .ok (.str (wr ls n)) := by
  rw [sp_lwrite ho, greedy ls 1 n [] ho.1 (by decide) (by
    have : 0 < 10 ^ (ls.length / 2) := Nat.pow_pos (by decide)
    unfold most at h
    omega)]
  simp
/-! ### what is written sums to the number -/
theorem S_append : ∀ (A B : List Nat), (∀ a ∈ A, ∀ b, B.head? = some b → b ≤ a) → S (A ++ B) = S A + S B
  | [], B, _ => by simp [S]
  | [a], [], _ => by simp [S]
  | [a], b :: r, h => by
    have := h a (by simp) b rfl
    show (if a < b then -(a : Int) else a) + S (b :: r) = (a : Int) + S (b :: r)
    rw [if_neg (by omega)]
  | a :: a' :: r, B, h => by
    have ih := S_append (a' :: r) B fun x hx => h x (by simp at hx ⊢; exact .inr hx)
    show (if a < a' then -(a : Int) else a) + S ((a' :: r) ++ B) = ((if a < a' then -(a : Int) else a) + S (a' :: r)) + S B
    rw [ih]
    omega
/-- the weights of the letters -/
def Wt (V : Nat → Nat) : List Nat → Nat → Prop
  | [], _ => True
  | [o], w => V o = w
  | o :: f :: r, w => V o = w ∧ V f = 5 * w ∧ Wt V r (10 * w)
theorem fig_S {V : Nat → Nat} {o f t w d : Nat} (hw : 0 < w) (ho : V o = w) (hf : V f = 5 * w) (ht : V t = 10 * w) (hd : d < 10) : S ((fig [o] [f] [t] d).map V) = (d * w : Nat) ∧ (∀ b, ((fig [o] [f] [t] d).map V).head? = some b → b ≤ 10 * w) ∧ ∀ a ∈ (fig [o] [f] [t] d).map V, w ≤ a := by
  have i1 : ¬ w < w := by omega
  have i2 : w < 5 * w := by omega
  have i3 : w < 10 * w := by omega
  have i4 : ¬ 5 * w < w := by omega
  match d, hd with
  | 0, _ => simp [fig, S]
  | 1, _ => simp [fig, S, ho]; omega
  | 2, _ => simp [fig, S, ho]; omega
  | 3, _ => simp [fig, S, ho]; omega
  | 4, _ => simp [fig, S, ho, hf, i2]; omega
  | 5, _ => simp [fig, S, hf]; omega
  | 6, _ => simp [fig, S, ho, hf, i4]; omega
  | 7, _ => simp [fig, S, ho, hf, i4]; omega
  | 8, _ => simp [fig, S, ho, hf, i4]; omega
  | 9, _ => simp [fig, S, ho, ht, i3]; omega
  | _ + 10, h => omega
theorem wr_S {V : Nat → Nat} : ∀ (s : List Nat) (w n : Nat), s.length % 2 = 1 → 0 < w → Wt V s w → n < 4 * 10 ^ (s.length / 2) → S ((wr s n).map V) = (n * w : Nat) ∧ ∀ a ∈ (wr s n).map V, w ≤ a
  | [], _, _, h, _, _, _ => by simp at h
  | [_, _], _, _, h, _, _, _ => by simp at h
  | [o], w, n, _, hw, ho, hn => by
    have hn : n < 4 := by simpa using hn
    have ho : V o = w := ho
    match n, hn with
    | 0, _ => simp [wr, fig, S]
    | 1, _ => simp [wr, fig, S, ho]
    | 2, _ => simp [wr, fig, S, ho]; omega
    | 3, _ => simp [wr, fig, S, ho]; omega
    | _ + 4, h => omega
  | o :: f :: t :: r, w, n, hod, hw, ⟨ho, hf, ht⟩, hn => by
    have e : (o :: f :: t :: r).length / 2 = (t :: r).length / 2 + 1 := by simp; omega
    rw [e, Nat.pow_succ] at hn
    have hn2 : n / 10 < 4 * 10 ^ ((t :: r).length / 2) := Nat.div_lt_of_lt_mul (by omega)
    obtain ⟨h1, h2⟩ := wr_S (t :: r) (10 * w) (n / 10) (by simp at hod ⊢; omega) (by omega) ht hn2
    have hvt : V t = 10 * w := by
      cases r with
      | nil => exact ht
      | cons _ _ => exact ht.1
    obtain ⟨f1, f2, f3⟩ := fig_S (d := n % 10) hw ho hf hvt (Nat.mod_lt _ (by decide))
    rw [show wr (o :: f :: t :: r) n = wr (t :: r) (n / 10) ++ fig [o] [f] [t] (n % 10) from rfl, List.map_append]
    constructor
    · rw [S_append, h1, f1]
      · have := Nat.div_add_mod n 10
        have e2 : n / 10 * (10 * w) + n % 10 * w = n * w := by
          rw [← Nat.mul_assoc, ← Nat.add_mul, Nat.mul_comm (n / 10) 10, this]
        omega
      · intro a ha b hb
        have := h2 a ha
        have := f2 b hb
        omega
    · intro a ha
      rcases List.mem_append.mp ha with ha | ha
      · have := h2 a ha
        omega
      · exact f3 a ha
theorem pos_at {ls : List Nat} (nd : ls.Nodup) {p : Nat} (hp : p < ls.length) : pos ls ls[p] = p := by
  obtain ⟨h1, h2, h3⟩ := pos_spec (List.getElem_mem hp)
  rcases Nat.lt_trichotomy (pos ls ls[p]) p with h | h | h
  · rw [List.getElem?_eq_getElem h1] at h2
    exact absurd (Option.some.inj h2) (List.pairwise_iff_getElem.mp nd _ _ h1 hp h)
  · exact h
  · exact absurd (List.getElem?_eq_getElem hp) (h3 p h)
theorem W_at {ls : List Nat} (nd : ls.Nodup) {p : Nat} (hp : p < ls.length) : W ls ls[p] = worth p := by
  unfold W
  rw [pos_at nd hp]
theorem Wt_drop {ls : List Nat} (nd : ls.Nodup) : ∀ (k p : Nat), ls.length - p ≤ k → p % 2 = 0 → Wt (W ls) (ls.drop p) (10 ^ (p / 2))
  | 0, p, h, _ => by
    rw [List.drop_of_length_le (by omega)]
    trivial
  | k + 1, p, h, h2 => by
    by_cases hp : p < ls.length
    · rw [List.drop_eq_getElem_cons hp]
      have e0 : W ls ls[p] = 10 ^ (p / 2) := by
        rw [W_at nd hp]
        unfold worth
        rw [if_neg (by omega), Nat.mul_one]
      by_cases hp2 : p + 1 < ls.length
      · rw [List.drop_eq_getElem_cons hp2]
        refine ⟨e0, ?_, ?_⟩
        · rw [W_at nd hp2]
          unfold worth
          rw [if_pos (by omega), show (p + 1) / 2 = p / 2 by omega, Nat.mul_comm]
        · have := Wt_drop nd k (p + 2) (by omega) (by omega)
          rw [show (p + 2) / 2 = p / 2 + 1 by omega, Nat.pow_succ, Nat.mul_comm] at this
          exact this
      · rw [List.drop_of_length_le (by omega : ls.length ≤ p + 1)]
        exact e0
    · rw [List.drop_of_length_le (by omega)]
      trivial
theorem fig_mem {o f t : List Nat} {d c : Nat} (h : c ∈ fig o f t d) : c ∈ o ∨ c ∈ f ∨ c ∈ t := by
  unfold fig at h
  split at h
  all_goals try simp only [List.mem_append, List.not_mem_nil] at h
  all_goals grind
theorem wr_mem : ∀ (s : List Nat) (n c : Nat), c ∈ wr s n → c ∈ s
  | [], _, _, h => by simp [wr] at h
  | [o], n, c, h => by
    rcases fig_mem h with h | h | h
    · exact h
    · cases h
    · cases h
  | o :: f :: r, n, c, h => by
    rcases List.mem_append.mp h with h | h
    · have := wr_mem r (n / 10) c h
      simp [this]
    · rcases fig_mem h with h | h | h
      · simp at h; simp [h]
      · simp at h; simp [h]
      · have := List.mem_of_mem_take h
        simp [this]
theorem wr_len : ∀ (s : List Nat) (n : Nat), (wr s n).length ≤ 4 * s.length
  | [], _ => by simp [wr]
  | [o], n => fig_len (o := [o]) (f := []) (t := []) (by simp) (by simp) (by simp)
  | o :: f :: r, n => by
    have h1 := wr_len r (n / 10)
    have h2 := fig_len (o := [o]) (f := [f]) (t := r.take 1) (d := n % 10) (by simp) (by simp) (by simp; omega)
    unfold wr
    simp only [List.length_append, List.length_cons]
    omega
theorem sum_wr {ls : List Nat} (nd : ls.Nodup) (ho : odd ls) {n : Nat} (h : n ≤ most ls) : S ((wr ls n).map (W ls)) = n := by
  have w := Wt_drop nd ls.length 0 (by omega) rfl
  have := (wr_S ls 1 n ho.1 (by decide) w (by
    have : 0 < 10 ^ (ls.length / 2) := Nat.pow_pos (by decide)
    unfold most at h
    omega)).1
  rw [this]
  omega
/-! ### reading -/
def rdOk (ls t : List Nat) (n : Nat) : Prop := 1 ≤ n ∧ n ≤ most ls ∧ wr ls n = t
theorem sp_lread {ls t : List Nat} (nd : ls.Nodup) (ho : odd ls) {n : Nat} (h : rdOk ls t n) : f__law_read [.str ls, .str t, .int (most ls)] = .ok (.int n) := by
  obtain ⟨h1, h2, rfl⟩ := h
  have hin : ∀ c ∈ wr ls n, c ∈ ls := fun c hc => wr_mem ls n c hc
  have hl := wr_len ls n
  have hl9 := ho.2
  refine run_at (s := b__law_read) [some (.str ls), some (.str (wr ls n)), some (.int (most ls)), none] ?_
  unfold b__law_read
  refine wp_seq ?_
  simp only [sIf_ap, tE_ap, e1_ap, eCall_ap, eCons_ap, eNil_ap, eV_zero, eV_succ, R.bnd_ok, sp_worths hl9 (show (wr ls n).length ≤ 1000000 by omega), if_pos hin, isN_lst, tru_bl, lft_ok]
  simp only [Bool.false_eq_true, if_false, sSkip_ap, wp_some, Nxt_nx]
  refine wp_seq ?_
  simp only [sAsg_ap, eCall_ap, eCons_ap, eNil_ap, eV_zero, eV_succ, R.bnd_ok, sp_lsum hl9 (show (wr ls n).length ≤ 1000000 by omega) hin, sum_wr nd ho h2, lft_ok, gV_succ, gV_zero, gok_ok, wp_some, Nxt_nx]
  refine wp_seq ?_
  simp only [sIf_ap, tE_ap, tOr_ap, e2_ap, eCall_ap, eCons_ap, eNil_ap, eV_zero, eV_succ, eC_ap, R.bnd_ok, ltD_int, gtD_int, tru_bl, lwrite_eq ho h2, neD_str]
  rw [decide_eq_false (by omega), decide_eq_false (by omega)]
  simp
theorem allIn {ls t : List Nat} (hl : t.length ≤ 1000000) (o o3 : Option Dat) : (e1 allD (eComp (iOf (eV 1)) [3] (gV 3) tYes (e2 inD (eV 3) (eV 0)))) [some (.str ls), some (.str t), o, o3] = .ok (.bl (decide (∀ c ∈ t, c ∈ ls))) := by
  have hc : eComp (iOf (eV 1)) [3] (gV 3) tYes (e2 inD (eV 3) (eV 0)) [some (.str ls), some (.str t), o, o3] = .ok (.lst ((t.map fun c => decide (c ∈ ls)).map .bl)) := by
    refine eComp_of (ds := t.map fun c => .str [c]) (by simp [signs_map]) ?_ (by simp; unfold LINE; omega)
    rw [List.map_map]
    refine compL_map (fun c => .str [c]) (fun c => .bl (decide (c ∈ ls))) fun c hc => ?_
    exact ⟨[some (.str ls), some (.str t), o, some (.str [c])], by simp [wipe], rfl, hc, by simp [inD_one]⟩
  rw [e1_ap, hc, R.bnd_ok, allD_map]
  congr 2
  rw [Bool.eq_iff_iff]
  simp
theorem sp_read {ls t : List Nat} (nd : ls.Nodup) (ho : odd ls) {n : Nat} (h : rdOk ls t n) : f_read_strokes [.str ls, .str t] = .ok (.int n) := by
  obtain ⟨h1, h2, rfl⟩ := h
  have hin : ∀ c ∈ wr ls n, c ∈ ls := fun c hc => wr_mem ls n c hc
  have hl := wr_len ls n
  have hl9 := ho.2
  have hl1 : (wr ls n).length ≤ 1000000 := by omega
  refine run_at (s := b_read_strokes) [some (.str ls), some (.str (wr ls n)), none, none] ?_
  unfold b_read_strokes
  refine wp_seq ?_
  rw [sIf_ap, tNot_ap, tE_ap, allIn hl1, decide_eq_true hin]
  simp only [R.bnd_ok, tru_bl, lft_ok, Bool.not_true, Bool.false_eq_true, if_false, sSkip_ap, wp_some, Nxt_nx]
  refine wp_seq ?_
  simp only [sAsg_ap, eCall_ap, eCons_ap, eNil_ap, eV_zero, eV_succ, R.bnd_ok, sp_sum ho hin hl1, sum_wr nd ho h2, lft_ok, gV_succ, gV_zero, gok_ok, wp_some, Nxt_nx]
  refine wp_seq ?_
  simp only [sIf_ap, tE_ap, tNot_ap, tOr_ap, eChain_ap, e2_ap, eCall_ap, eCons_ap, eNil_ap, eV_zero, eV_succ, eC_ap, R.bnd_ok, leD_int, tru_bl, sp_greatest ho, sp_write ho h1 h2, neD_str]
  rw [decide_eq_true (by omega : (1 : Int) ≤ n)]
  simp only [R.bnd_ok, leD_int, tru_bl]
  rw [decide_eq_true (by omega : (n : Int) ≤ most ls)]
  simp
theorem sp_lread_x {ls t : List Nat} (nd : ls.Nodup) (ho : odd ls) (hl : t.length ≤ 1000000) (h : ∀ n, ¬ rdOk ls t n) : f__law_read [.str ls, .str t, .int (most ls)] = .ok .non := by
  have hl9 := ho.2
  refine run_at (s := b__law_read) [some (.str ls), some (.str t), some (.int (most ls)), none] ?_
  unfold b__law_read
  refine wp_seq ?_
  simp only [sIf_ap, tE_ap, e1_ap, eCall_ap, eCons_ap, eNil_ap, eV_zero, eV_succ, R.bnd_ok, sp_worths hl9 hl]
  by_cases hin : ∀ c ∈ t, c ∈ ls
  · simp only [if_pos hin, R.bnd_ok, isN_lst, tru_bl, lft_ok, Bool.false_eq_true, if_false, sSkip_ap, wp_some, Nxt_nx]
    refine wp_seq ?_
    simp only [sAsg_ap, eCall_ap, eCons_ap, eNil_ap, eV_zero, eV_succ, R.bnd_ok, sp_lsum hl9 hl hin, lft_ok, gV_succ, gV_zero, gok_ok, wp_some, Nxt_nx]
    refine wp_seq ?_
    simp only [sIf_ap, tE_ap, tOr_ap, e2_ap, eCall_ap, eCons_ap, eNil_ap, eV_zero, eV_succ, eC_ap, R.bnd_ok, ltD_int, gtD_int, tru_bl]
    generalize hz : S (t.map (W ls)) = z
    by_cases hz1 : z < 1
    · rw [decide_eq_true hz1]
      simp
    · rw [decide_eq_false hz1]
      by_cases hz2 : (most ls : Int) < z
      · rw [decide_eq_true hz2]
        simp
      · rw [decide_eq_false hz2]
        obtain ⟨n, rfl⟩ : ∃ n : Nat, z = n := ⟨z.toNat, by omega⟩
        have hne : ¬ wr ls n = t := fun q => h n ⟨by omega, by omega, q⟩
        simp [lwrite_eq ho (show n ≤ most ls by omega), hne]
  · simp [if_neg hin]
theorem sp_read_x {ls t : List Nat} (nd : ls.Nodup) (ho : odd ls) (hl : t.length ≤ 1000000) (h : ∀ n, ¬ rdOk ls t n) : f_read_strokes [.str ls, .str t] = .exc 3 := by
  refine run_at (s := b_read_strokes) [some (.str ls), some (.str t), none, none] ?_
  unfold b_read_strokes
  refine wp_seq ?_
  rw [sIf_ap, tNot_ap, tE_ap, allIn hl]
  by_cases hin : ∀ c ∈ t, c ∈ ls
  · rw [decide_eq_true hin]
    simp only [R.bnd_ok, tru_bl, lft_ok, Bool.not_true, Bool.false_eq_true, if_false, sSkip_ap, wp_some, Nxt_nx]
    refine wp_seq ?_
    simp only [sAsg_ap, eCall_ap, eCons_ap, eNil_ap, eV_zero, eV_succ, R.bnd_ok, sp_sum ho hin hl, lft_ok, gV_succ, gV_zero, gok_ok, wp_some, Nxt_nx]
    refine wp_seq ?_
    simp only [sIf_ap, tE_ap, tNot_ap, tOr_ap, eChain_ap, e2_ap, eCall_ap, eCons_ap, eNil_ap, eV_zero, eV_succ, eC_ap, R.bnd_ok, leD_int, tru_bl, sp_greatest ho]
    generalize hz : S (t.map (W ls)) = z
    by_cases hz1 : 1 ≤ z
    · rw [decide_eq_true hz1]
      simp only [R.bnd_ok, leD_int, tru_bl]
      by_cases hz2 : z ≤ (most ls : Int)
      · rw [decide_eq_true hz2]
        obtain ⟨n, rfl⟩ : ∃ n : Nat, z = n := ⟨z.toNat, by omega⟩
        have hne : ¬ wr ls n = t := fun q => h n ⟨by omega, by omega, q⟩
        simp [sp_write ho (show 1 ≤ n by omega) (show n ≤ most ls by omega), hne]
      · rw [decide_eq_false hz2]
        simp
    · rw [decide_eq_false hz1]
      simp
  · rw [decide_eq_false hin]
    simp
theorem sp_asked {ls t : List Nat} (nd : ls.Nodup) (ho : odd ls) {n : Nat} (h : rdOk ls t n) : f__law_asked [.str ls, .str t] = .ok (.int n) := by
  refine run_at (s := b__law_asked) [some (.str ls), some (.str t), none] ?_
  unfold b__law_asked
  simp [sp_read nd ho h]
theorem sp_asked_x {ls t : List Nat} (nd : ls.Nodup) (ho : odd ls) (hl : t.length ≤ 1000000) (h : ∀ n, ¬ rdOk ls t n) : f__law_asked [.str ls, .str t] = .ok .non := by
  refine run_at (s := b__law_asked) [some (.str ls), some (.str t), none] ?_
  unfold b__law_asked
  simp [sp_read_x nd ho hl h]
  rw [show sub 3 3 = true from rfl, show sub 3 0 = true from rfl, show sub 3 2 = false from rfl]
  simp [LINE]
  rw [show idxD (Dat.lst [Dat.non, Dat.str [111, 116, 104, 101, 114]]) (Dat.int (b2i false)) = .ok .non from rfl]
  simp
/-! ### what the law draws -/
def pool : List Nat := [32, 33, 34, 35, 36, 38, 39, 40, 41, 42, 43, 44, 45, 46, 47, 48, 49, 50, 51, 52, 53, 54, 55, 56, 57, 58, 59, 60, 61, 62, 63, 64, 65, 66, 67, 68, 69, 70, 71, 72, 73, 74, 75, 76, 77, 78, 79, 80, 81, 82, 83, 84, 85, 86, 87, 88, 89, 90, 91, 92, 93, 94, 95, 96, 97, 98, 99, 100, 101, 102, 103, 104, 105, 106, 107, 108, 109, 110, 111, 112, 113, 114, 115, 116, 117, 118, 119, 120, 121, 122, 123, 125, 126]
def stride (draw : Nat) : Nat := 1 + draw / 93 % 30
def drawn (draw count : Nat) : List Nat := (List.range count).map fun k => pool.getD ((draw + k * stride draw) % 93) 0
theorem pool_nd : ∀ i, i < 93 → ∀ j, j < 93 → pool.getD i 0 = pool.getD j 0 → i = j := by decide +kernel
theorem stride_nz : ∀ a, a < 9 → ∀ b, b < 31 → 0 < a → 0 < b → a * b % 93 ≠ 0 := by decide +kernel
theorem drawn_nd (draw : Nat) {count : Nat} (h : count ≤ 9) : (drawn draw count).Nodup := by
  unfold drawn
  rw [List.Nodup, List.pairwise_map]
  have : (List.range count).Pairwise (fun a b => a < b ∧ b < count) := by
    rw [List.pairwise_iff_getElem]
    intro i j hi hj hij
    simp at hi hj ⊢
    omega
  refine this.imp ?_
  intro a b ⟨hab, hb⟩ q
  have hs : 0 < stride draw ∧ stride draw < 31 := by unfold stride; omega
  have e := pool_nd _ (Nat.mod_lt _ (by decide)) _ (Nat.mod_lt _ (by decide)) q
  have hz := stride_nz (b - a) (by omega) (stride draw) hs.2 (by omega) hs.1
  have hmul : b * stride draw = a * stride draw + (b - a) * stride draw := by rw [← Nat.add_mul]; congr 1; omega
  rw [hmul] at e
  generalize a * stride draw = A at e
  generalize (b - a) * stride draw = B at e hz
  omega
theorem sp_signs {draw count : Nat} (h : count ≤ 9) (hd : draw < 1000000) : f__law_signs [.int draw, .int count] = .ok (.str (drawn draw count)) := by
  refine run_at (s := b__law_signs) [some (.int draw), some (.int count), none, none] ?_
  unfold b__law_signs
  refine wp_seq ?_
  rw [show ([32, 33, 34, 35, 36, 38, 39, 40, 41, 42, 43, 44, 45, 46, 47, 48, 49, 50, 51, 52, 53, 54, 55, 56, 57, 58, 59, 60, 61, 62, 63, 64, 65, 66, 67, 68, 69, 70, 71, 72, 73, 74, 75, 76, 77, 78, 79, 80, 81, 82, 83, 84, 85, 86, 87, 88, 89, 90, 91, 92, 93, 94, 95, 96, 97, 98, 99, 100, 101, 102, 103, 104, 105, 106, 107, 108, 109, 110, 111, 112, 113, 114, 115, 116, 117, 118, 119, 120, 121, 122, 123, 125, 126] : List Nat) = pool from rfl]
  simp only [sAsg_ap, eC_ap, lft_ok, gV_succ, gV_zero, R.bnd_ok, gok_ok, wp_some, Nxt_nx]
  have hp : pool.length = 93 := by decide +kernel
  have hs : stride draw < 31 := by unfold stride; omega
  have hc : ∀ e, e = eComp (iR1 (eV 1)) [3] (gV 3) tYes (e2 idxD (eV 2) (e2 modD (e2 addD (eV 0) (e2 mulD (eV 3) (e2 addD (eC (.int 1)) (e2 modD (e2 fdivD (eV 0) (eC (.int 93))) (eC (.int 30)))))) (eC (.int 93)))) → e [some (.int draw), some (.int count), some (.str pool), none] = .ok (.lst ((drawn draw count).map fun c => .str [c])) := by
    intro e he
    subst he
    refine eComp_of (ds := (List.range count).map fun k => .int (k : Nat)) ?_ ?_ ?_
    · simp
      rw [rng1_nat (by omega)]
    · unfold drawn
      rw [List.map_map]
      refine compL_map (fun k => .int (k : Nat)) _ fun k hk => ?_
      have hk := List.mem_range.mp hk
      refine ⟨[some (.int draw), some (.int count), some (.str pool), some (.int k)], by simp [wipe], rfl, List.mem_range.mpr hk, ?_⟩
      simp only [e2_ap, eV_zero, eV_succ, eC_ap, R.bnd_ok]
      rw [show fdivD (.int draw) (.int 93) = .ok (.int ((draw / 93 : Nat) : Int)) from fdivD_nat (j := 93) (by decide) (by decide)]
      simp only [R.bnd_ok]
      rw [show modD (.int ((draw / 93 : Nat) : Int)) (.int 30) = .ok (.int ((draw / 93 % 30 : Nat) : Int)) from modD_nat (j := 30) (by decide)]
      simp only [R.bnd_ok, addD_int]
      rw [show (1 + ((draw / 93 % 30 : Nat) : Int)) = ((stride draw : Nat) : Int) by unfold stride; omega, mulR_int (by omega)]
      simp only [R.bnd_ok, addD_int]
      rw [show ((draw : Int) + (k : Int) * ((stride draw : Nat) : Int)) = ((draw + k * stride draw : Nat) : Int) by simp, show modD (.int ((draw + k * stride draw : Nat) : Int)) (.int 93) = .ok (.int (((draw + k * stride draw) % 93 : Nat) : Int)) from modD_nat (j := 93) (by decide)]
      simp only [R.bnd_ok]
      have hlt : (draw + k * stride draw) % 93 < pool.length := by rw [hp]; exact Nat.mod_lt _ (by decide)
      rw [idxD_str hlt]
      show _ = R.ok (Dat.str [pool.getD ((draw + k * stride draw) % 93) 0])
      rw [List.getD_eq_getElem?_getD, List.getElem?_eq_getElem hlt]
      rfl
    · simp [drawn]
      unfold LINE
      omega
  simp only [sRet_ap, eM1_ap, eC_ap, R.bnd_ok, isS_str]
  rw [hc _ rfl]
  simp only [R.bnd_ok]
  rw [joinD_ones (by simp [drawn]; unfold LINE; omega)]
  simp
theorem sp_texts {ls t ds : List Nat} (ht : 0 < t.length) (htl : t.length ≤ 1000) (hls : 0 < ls.length) (hd : 2 ≤ ds.length) : ∃ ts : List (List Nat), f__law_texts [.str ls, .str t, nums ds] = .ok (.lst (ts.map .str)) ∧ ts.length = 10 ∧ ∀ x ∈ ts, x.length ≤ 2002 := by
  have hat : ds[0] % t.length < t.length := Nat.mod_lt _ ht
  have hal : ds[1] % ls.length < ls.length := Nat.mod_lt _ hls
  generalize hA : ds[0] % t.length = at0 at hat
  generalize hB : ds[1] % ls.length = al at hal
  have m0 : modD (.int (ds[0] : Nat)) (.int (t.length : Nat)) = .ok (.int (at0 : Nat)) := by rw [modD_nat ht, hA]
  have m1 : modD (.int (ds[1] : Nat)) (.int (ls.length : Nat)) = .ok (.int (al : Nat)) := by rw [modD_nat hls, hB]
  have c0 : cut t (some 0) (some (at0 : Int)) = t.take at0 := cut_nat (j := 0) (k := at0)
  have c1 : cut t (some ((at0 : Int) + 1)) none = t.drop (at0 + 1) := cut_from (j := at0 + 1)
  have c2 : cut t (some (at0 : Int)) none = t.drop at0 := cut_from
  have l0 : (t.take at0).length ≤ t.length := by simp; omega
  have l1 : (t.drop (at0 + 1)).length ≤ t.length := by simp
  have l2 : (t.drop at0).length ≤ t.length := by simp
  have hx : idxD (.str t) (.int (at0 : Nat)) = .ok (.str [t[at0]]) := idxD_str hat
  have hl : idxD (.str ls) (.int (al : Nat)) = .ok (.str [ls[al]]) := idxD_str hal
  have d0 : idxD (nums ds) (.int 0) = .ok (.int (ds[0] : Nat)) := idx_nums (k := 0) (by omega)
  have d1 : idxD (nums ds) (.int 1) = .ok (.int (ds[1] : Nat)) := idx_nums (k := 1) (by omega)
  generalize t.take at0 = a at *
  generalize t.drop (at0 + 1) = b at *
  generalize t.drop at0 = c at *
  generalize t[at0] = x at *
  generalize ls[al] = l at *
  refine ⟨[a ++ b, a ++ [x] ++ c, a ++ [l] ++ c, a ++ [l] ++ b] ++ [t.reverse, t ++ [l], [l] ++ t, t ++ [126], [126] ++ t, []], ?_, by simp, ?_⟩
  · refine run_at [some (.str ls), some (.str t), some (nums ds), none, none, none] ?_
    unfold b__law_texts
    refine wp_seq ?_
    simp only [sAsg_ap, e2_ap, e1_ap, eV_zero, eV_succ, eC_ap, R.bnd_ok, d0, lenD_str, m0, lft_ok, gV_succ, gV_zero, gok_ok, wp_some, Nxt_nx]
    refine wp_seq ?_
    simp only [sAsg_ap, e2_ap, e1_ap, eV_zero, eV_succ, eC_ap, R.bnd_ok, d1, lenD_str, m1, hl, lft_ok, gV_succ, gV_zero, gok_ok, wp_some, Nxt_nx]
    refine wp_seq ?_
    have s1 : addD (.str a) (.str b) = .ok (.str (a ++ b)) := addD_str (by unfold LINE; omega)
    have s2 : addD (.str a) (.str [x]) = .ok (.str (a ++ [x])) := addD_str (by simp; unfold LINE; omega)
    have s3 : addD (.str (a ++ [x])) (.str c) = .ok (.str (a ++ [x] ++ c)) := addD_str (by simp; unfold LINE; omega)
    have s4 : addD (.str a) (.str [l]) = .ok (.str (a ++ [l])) := addD_str (by simp; unfold LINE; omega)
    have s5 : addD (.str (a ++ [l])) (.str c) = .ok (.str (a ++ [l] ++ c)) := addD_str (by simp; unfold LINE; omega)
    have s6 : addD (.str (a ++ [l])) (.str b) = .ok (.str (a ++ [l] ++ b)) := addD_str (by simp; unfold LINE; omega)
    simp only [sAsg_ap, eLst_ap, eCons_ap, eNil_ap, e2_ap, e1_ap, eSli_ap, pS_ap, pN_ap, optInt_int, sliD_str, addD_int, eV_zero, eV_succ, eC_ap, R.bnd_ok, c0, c1, c2, hx, s1, s2, s3, s4, s5, s6]
    rw [if_pos (by simp [LINE])]
    simp only [lft_ok, gV_succ, gV_zero, R.bnd_ok, gok_ok, wp_some, Nxt_nx]
    have s7 : addD (.str t) (.str [l]) = .ok (.str (t ++ [l])) := addD_str (by simp; unfold LINE; omega)
    have s8 : addD (.str [l]) (.str t) = .ok (.str ([l] ++ t)) := addD_str (by simp; unfold LINE; omega)
    have s9 : addD (.str t) (.str [126]) = .ok (.str (t ++ [126])) := addD_str (by simp; unfold LINE; omega)
    have s10 : addD (.str [126]) (.str t) = .ok (.str ([126] ++ t)) := addD_str (by simp; unfold LINE; omega)
    simp only [sRet_ap, eLst_ap, eCons_ap, eNil_ap, e2_ap, e1_ap, eV_zero, eV_succ, eC_ap, R.bnd_ok, revD_str, s7, s8, s9, s10]
    rw [if_pos (by simp [LINE])]
    simp only [R.bnd_ok]
    rw [addD_lst (by simp [LINE])]
    simp
  · intro y hy
    simp at hy
    rcases hy with rfl | rfl | rfl | rfl | rfl | rfl | rfl | rfl | rfl | rfl <;> simp <;> omega
theorem flatL {ls : List Nat} : ∀ (level : List (List Nat)) (m : Nat), (∀ x ∈ level, x.length ≤ m) → ((level.flatMap fun x => ls.map fun c => x ++ [c])).length = level.length * ls.length ∧ ∀ y ∈ (level.flatMap fun x => ls.map fun c => x ++ [c]), y.length ≤ m + 1
  | [], m, _ => by simp
  | x :: r, m, h => by
    obtain ⟨h1, h2⟩ := flatL r m fun y hy => h y (List.mem_cons_of_mem _ hy)
    have hx := h x List.mem_cons_self
    constructor
    · rw [List.flatMap_cons, List.length_append, h1, List.length_map, List.length_cons, Nat.add_mul]
      omega
    · intro y hy
      rw [List.flatMap_cons] at hy
      rcases List.mem_append.mp hy with hy | hy
      · obtain ⟨c, _, rfl⟩ := List.mem_map.mp hy
        simp
        omega
      · exact h2 y hy
theorem sp_grown {ls : List Nat} {level : List (List Nat)} {m : Nat} (h : ∀ x ∈ level, x.length ≤ m) (hm : m ≤ 1000) (hl : level.length * ls.length ≤ 1000000) (hls : ls.length ≤ 9) (hlv : level.length ≤ 1000000) :
    f__law_grown [.lst (level.map .str), .str ls] = .ok (.lst ((level.flatMap fun x => ls.map fun c => x ++ [c]).map .str)) := by
  refine run_at (s := b__law_grown) [some (.lst (level.map .str)), some (.str ls), none, none, none] ?_
  unfold b__law_grown
  refine wp_seq ?_
  simp only [sAsg_ap, eLst_ap, eNil_ap, R.bnd_ok]
  rw [if_pos (by simp [LINE])]
  simp only [lft_ok, gV_succ, gV_zero, R.bnd_ok, gok_ok, wp_some, Nxt_nx]
  refine wp_seq ?_
  rw [sFor_ap]
  simp only [iOf_ap, eV_zero, R.bnd_ok, itemsD_lst, lft_ok]
  refine wp_for (fun k ρ => ∃ o, ρ = [some (.lst (level.map .str)), some (.str ls), some (.lst (((level.take k).flatMap fun x => ls.map fun c => x ++ [c]).map .str)), o, none]) ⟨none, by simp⟩ (fun k d ρ hk ⟨o, e⟩ => ?_) (fun ρ ⟨o, e⟩ => ?_)
  · obtain ⟨hk2, rfl⟩ := map_get hk
    subst e
    have hx := h _ (List.getElem_mem hk2)
    have hf := (flatL (ls := ls) (level.take k) m fun x hx => h x (List.mem_of_mem_take hx)).1
    have hfl : ((level.take k).flatMap fun x => ls.map fun c => x ++ [c]).length ≤ 1000000 := by
      rw [hf]
      refine Nat.le_trans (Nat.mul_le_mul_right _ ?_) hl
      simp
      omega
    have hadd : (level.take (k + 1)).flatMap (fun x => ls.map fun c => x ++ [c]) = (level.take k).flatMap (fun x => ls.map fun c => x ++ [c]) ++ ls.map fun c => level[k] ++ [c] := by
      rw [List.take_add_one, List.getElem?_eq_getElem hk2, Option.toList_some, List.flatMap_append]
      simp
    rw [hadd]
    generalize (level.take k).flatMap (fun x => ls.map fun c => x ++ [c]) = F at hfl
    generalize level[k] = x at hx
    refine ⟨[some (.lst (level.map .str)), some (.str ls), some (.lst (F.map .str)), some (.str x), none], by simp, ?_⟩
    have hc : eComp (iOf (eV 1)) [4] (gV 4) tYes (e2 addD (eV 3) (eV 4)) [some (.lst (level.map .str)), some (.str ls), some (.lst (F.map .str)), some (.str x), none] = .ok (.lst ((ls.map fun c => x ++ [c]).map .str)) := by
      refine eComp_of (ds := ls.map fun c => .str [c]) (by simp [signs_map]) ?_ (by simp; unfold LINE; omega)
      rw [List.map_map]
      refine compL_map (fun c => .str [c]) _ fun c hc => ?_
      refine ⟨[some (.lst (level.map .str)), some (.str ls), some (.lst (F.map .str)), some (.str x), some (.str [c])], by simp [wipe], rfl, hc, ?_⟩
      simp only [e2_ap, eV_zero, eV_succ, R.bnd_ok]
      rw [addD_str (by simp; unfold LINE; omega)]
      rfl
    simp only [sAsg_ap, e2_ap, eV_zero, eV_succ, R.bnd_ok, hc]
    rw [addD_lst (by simp; unfold LINE; omega)]
    simp only [lft_ok, gV_succ, gV_zero, R.bnd_ok, gok_ok, wp_some]
    exact ⟨.inl trivial, _, by rw [List.map_append]⟩
  · subst e
    rw [List.length_map, List.take_length]
    simp
end PL.K52

namespace PL.K52
set_option autoImplicit false
/-! ### the law, statement by statement -/
theorem same_eq (n : Nat) : f__law_same n = f_same n := by
  induction n with
  | zero => rfl
  | succ n ih =>
    show run 3 (b__law_same (f__law_same n)) = _
    rw [ih]
    rfl
theorem same12 {d : Dat} (h : gd 11 d) : f__law_same 12 [d, d] = .ok (.bl true) := by
  rw [same_eq]
  exact same_refl 11 d h
theorem cellK (ns : List Int) (h : ns.length ≤ 63) (k : Nat) : ∃ z : Int, f__law_cell [.lst (ns.map .int), .int k] = .ok (.int z) := cell_ok ns k (by omega)
theorem numsK (z : Int) (count : Nat) (h : count ≤ 1000) : ∃ l : List Nat, f__law_numbers [.int z, .int count, .int 5040] = .ok (nums l) ∧ l.length = count ∧ ∀ x ∈ l, x < 5040 := numbers_ok z count 5040 (by omega) (by decide) (by decide)
section
variable {ls : List Nat} {a b x3 x4 x5 x6 x7 x8 x9 x10 x11 x12 x13 x14 : Option Dat}
theorem st3 (ho : odd ls) : wp (t_law_3 [a, b, some (.str ls), some (.int 4), x4, x5, x6, x7, x8, x9, x10, x11, x12, x13, x14]) fun f ρ' => f = .nx ∧ ∃ o, ρ' = [a, b, some (.str ls), some (.int ((4 * 10 ^ (ls.length / 2) : Nat) : Int)), o, x5, x6, x7, x8, x9, x10, x11, x12, x13, x14] := by
  have hl9 := ho.2
  unfold t_law_3
  rw [sFor_ap]
  simp only [iR1_ap, e1_ap, e2_ap, eV_zero, eV_succ, eC_ap, R.bnd_ok, lenD_str]
  rw [show fdivD (.int ls.length) (.int 2) = .ok (.int ((ls.length / 2 : Nat) : Int)) from fdivD_nat (j := 2) (by decide) (by decide)]
  simp only [R.bnd_ok]
  rw [rng1_nat (by omega)]
  simp only [lft_ok]
  refine wp_for (fun k ρ => ∃ o, ρ = [a, b, some (.str ls), some (.int ((4 * 10 ^ k : Nat) : Int)), o, x5, x6, x7, x8, x9, x10, x11, x12, x13, x14]) ⟨x4, rfl⟩ (fun k d ρ hk ⟨o, e⟩ => ?_) (fun ρ ⟨o, e⟩ => ?_)
  · obtain ⟨hk2, rfl⟩ := range_get hk
    subst e
    refine ⟨[a, b, some (.str ls), some (.int ((4 * 10 ^ k : Nat) : Int)), some (.int k), x5, x6, x7, x8, x9, x10, x11, x12, x13, x14], by simp, ?_⟩
    simp only [sAsg_ap, e2_ap, eV_zero, eV_succ, eC_ap, R.bnd_ok]
    rw [show mulD (.int ((4 * 10 ^ k : Nat) : Int)) (.int 10) = .ok (.int ((4 * 10 ^ k : Nat) * 10 : Int)) from mulR_int (j := 10) (by decide)]
    simp only [lft_ok, gV_succ, gV_zero, R.bnd_ok, gok_ok, wp_some]
    refine ⟨.inl trivial, some (.int k), ?_⟩
    rw [Nat.pow_succ, ← Nat.mul_assoc]
    rfl
  · subst e
    rw [List.length_map, List.length_range]
    exact ⟨rfl, o, rfl⟩
theorem ten30 : most ls < 10 ^ 30 ∨ 9 < ls.length := by
  by_cases h : 9 < ls.length
  · exact .inr h
  · left
    unfold most
    have : 10 ^ (ls.length / 2) ≤ 10 ^ 4 := Nat.pow_le_pow_right (by decide) (by omega)
    omega
theorem st5 (ho : odd ls) : wp (t_law_5 [a, b, some (.str ls), some (.int (most ls)), x4, x5, x6, x7, x8, x9, x10, x11, x12, x13, x14]) fun f ρ' => f = .nx ∧ ρ' = [a, b, some (.str ls), some (.int (most ls)), x4, x5, x6, x7, x8, x9, x10, x11, x12, x13, x14] := by
  unfold t_law_5
  simp only [sIf_ap, tNot_ap, tE_ap, eCall_ap, eCons_ap, eNil_ap, eV_zero, eV_succ, R.bnd_ok, sp_greatest ho, same12 (show gd 11 (.int (most ls)) from trivial), tru_bl, lft_ok]
  simp
theorem st6 (ho : odd ls) {dr : List Nat} (hd : dr.length = 12) : wp (t_law_6 [a, some (nums dr), some (.str ls), some (.int (most ls)), x4, x5, x6, x7, x8, x9, x10, x11, x12, x13, x14]) fun f ρ' => f = .nx ∧ ∃ o, ρ' = [a, some (nums dr), some (.str ls), some (.int (most ls)), x4, o, x6, x7, x8, x9, x10, x11, x12, x13, x14] := by
  have hm : most ls < 10 ^ 30 := by
    rcases ten30 (ls := ls) with h | h
    · exact h
    · have := ho.2; omega
  have d2 : idxD (nums dr) (.int 2) = .ok (.int (dr[2] : Nat)) := idx_nums (k := 2) (by omega)
  have d3 : idxD (nums dr) (.int 3) = .ok (.int (dr[3] : Nat)) := idx_nums (k := 3) (by omega)
  generalize dr[2] = p at d2
  generalize dr[3] = q at d3
  unfold t_law_6
  rw [sFor_ap]
  simp only [iOf_ap, eLst_ap, eCons_ap, eNil_ap, e1_ap, e2_ap, eV_zero, eV_succ, eC_ap, R.bnd_ok, d2, d3, negD_int, addD_int, subD_int]
  rw [show powD (.int 10) (.int 30) = .ok (.int 1000000000000000000000000000000) from by rfl]
  simp only [R.bnd_ok]
  rw [if_pos (by simp [LINE])]
  simp only [R.bnd_ok, itemsD_lst, lft_ok]
  refine wp_for (fun k ρ => ∃ o, ρ = [a, some (nums dr), some (.str ls), some (.int (most ls)), x4, o, x6, x7, x8, x9, x10, x11, x12, x13, x14]) ⟨x5, rfl⟩ (fun k d ρ hk ⟨o, e⟩ => ?_) (fun ρ ⟨o, e⟩ => ⟨rfl, o, e⟩)
  subst e
  have hz : ∃ z : Int, d = .int z ∧ (z < 1 ∨ (most ls : Int) < z) := by
    have hmem := List.mem_of_getElem? hk
    simp only [List.mem_cons, List.not_mem_nil, or_false] at hmem
    rcases hmem with rfl | rfl | rfl | rfl | rfl | rfl
    · exact ⟨_, rfl, by omega⟩
    · exact ⟨_, rfl, by omega⟩
    · exact ⟨_, rfl, by omega⟩
    · exact ⟨_, rfl, by omega⟩
    · exact ⟨_, rfl, by omega⟩
    · exact ⟨_, rfl, by omega⟩
  obtain ⟨z, rfl, hz⟩ := hz
  refine ⟨[a, some (nums dr), some (.str ls), some (.int (most ls)), x4, some (.int z), x6, x7, x8, x9, x10, x11, x12, x13, x14], by simp, ?_⟩
  simp only [sIf_ap, tNot_ap, tE_ap, eCall_ap, eCons_ap, eNil_ap, eC_ap, eV_zero, eV_succ, R.bnd_ok, sp_refused ho hz, same12 (show gd 11 .non from trivial), tru_bl, lft_ok]
  simp
/-- all written numbers so far -/
def kn (ls : List Nat) (k : Nat) : List (Dat × Dat) := (List.range k).map fun i => (.str (wr ls (i + 1)), .int ((i + 1 : Nat) : Int))
theorem wr_inj (nd : ls.Nodup) (ho : odd ls) {i j : Nat} (hi : i ≤ most ls) (hj : j ≤ most ls) (h : wr ls i = wr ls j) : i = j := by
  have h1 := sum_wr nd ho hi
  have h2 := sum_wr nd ho hj
  rw [h] at h1
  omega
theorem min_eq (m : Nat) : min2 (.int m) (.int 399) = .ok (.int ((min m 399 : Nat) : Int)) := by
  rw [min2_int]
  congr 2
  split <;> omega
theorem src_eq (m : Nat) : rng2 (.int 1) (.int (((min m 399 : Nat) : Int) + 1)) = .ok ((List.range (min m 399)).map fun k => .int ((1 + k : Nat) : Int)) := by
  have := rng2_nat (m := 1) (n := min m 399 + 1) (by decide) (by omega)
  rw [show min m 399 + 1 - 1 = min m 399 by omega] at this
  exact this
theorem st8 (nd : ls.Nodup) (ho : odd ls) : wp (t_law_8 [a, b, some (.str ls), some (.int (most ls)), x4, x5, some (.dic []), x7, x8, x9, x10, x11, x12, x13, x14]) fun f ρ' => f = .nx ∧ ∃ o, ρ' = [a, b, some (.str ls), some (.int (most ls)), x4, o, some (.dic (kn ls (min (most ls) 399))), x7, x8, x9, x10, x11, x12, x13, x14] := by
  unfold t_law_8
  rw [sFor_ap]
  simp only [iR2_ap, e2_ap, eV_zero, eV_succ, eC_ap, R.bnd_ok, min_eq, addD_int, src_eq, lft_ok]
  refine wp_for (fun k ρ => ∃ o, ρ = [a, b, some (.str ls), some (.int (most ls)), x4, o, some (.dic (kn ls k)), x7, x8, x9, x10, x11, x12, x13, x14]) ⟨x5, rfl⟩ (fun k d ρ hk ⟨o, e⟩ => ?_) (fun ρ ⟨o, e⟩ => ?_)
  · obtain ⟨hk2, rfl⟩ := range_get hk
    subst e
    refine ⟨[a, b, some (.str ls), some (.int (most ls)), x4, some (.int ((1 + k : Nat) : Int)), some (.dic (kn ls k)), x7, x8, x9, x10, x11, x12, x13, x14], by simp, ?_⟩
    rw [sPut_dic (kvs := kn ls k) (z := .str (wr ls (1 + k))) (d := .int ((1 + k : Nat) : Int)) rfl (by simp) (by
      simp only [eCall_ap, eCons_ap, eNil_ap, eV_zero, eV_succ, R.bnd_ok]
      exact lwrite_eq ho (by omega)) rfl (by unfold kn; simp; unfold LINE; omega)]
    rw [wp_some]
    refine ⟨.inl rfl, some (.int ((1 + k : Nat) : Int)), ?_⟩
    rw [dicPut_new]
    · have : kn ls (k + 1) = kn ls k ++ [(.str (wr ls (1 + k)), .int ((1 + k : Nat) : Int))] := by
        unfold kn
        rw [List.range_succ, List.map_append, Nat.add_comm 1 k]
        rfl
      rw [this]
      rfl
    · intro p hp
      obtain ⟨i, hi, rfl⟩ := List.mem_map.mp hp
      have hi := List.mem_range.mp hi
      rw [eqv_str]
      simp only [beq_eq_false_iff_ne]
      intro q
      have := wr_inj nd ho (by omega) (by omega) q
      omega
  · subst e
    rw [List.length_map, List.length_range]
    exact ⟨rfl, o, rfl⟩
theorem st9 : wp (t_law_9 [a, b, some (.str ls), some (.int (most ls)), x4, x5, some (.dic (kn ls (min (most ls) 399))), x7, x8, x9, x10, x11, x12, x13, x14]) fun f ρ' => f = .nx ∧ ρ' = [a, b, some (.str ls), some (.int (most ls)), x4, x5, some (.dic (kn ls (min (most ls) 399))), x7, x8, x9, x10, x11, x12, x13, x14] := by
  unfold t_law_9
  simp only [sIf_ap, tE_ap, e1_ap, e2_ap, eV_zero, eV_succ, eC_ap, R.bnd_ok, min_eq, lenD_dic, neD_int, tru_bl, lft_ok]
  simp [kn]
theorem st10 (ho : odd ls) {dr : List Nat} (hd : dr.length = 12) : wp (t_law_10 [a, some (nums dr), some (.str ls), some (.int (most ls)), x4, x5, x6, x7, x8, x9, x10, x11, x12, x13, x14]) fun f ρ' => f = .nx ∧ ∃ sh : List Nat, sh.length ≤ 399 ∧ (∀ n ∈ sh, 1 ≤ n ∧ n ≤ most ls) ∧ ρ' = [a, some (nums dr), some (.str ls), some (.int (most ls)), x4, x5, x6, some (nums sh), x8, x9, x10, x11, x12, x13, x14] := by
  have d4 : idxD (nums dr) (.int 4) = .ok (.int (dr[4] : Nat)) := idx_nums (k := 4) (by omega)
  generalize dr[4] = p at d4
  unfold t_law_10
  rw [sNew_lst (xs := (((List.range (min (most ls) 399)).filter fun k => (1 + k) % (1 + p % 13) == 0).map fun k => .int ((1 + k : Nat) : Int))) ?_ (by simp)]
  · rw [wp_some]
    refine ⟨rfl, ((List.range (min (most ls) 399)).filter fun k => (1 + k) % (1 + p % 13) == 0).map fun k => 1 + k, ?_, ?_, ?_⟩
    · rw [List.length_map]
      refine Nat.le_trans (List.length_filter_le _ _) ?_
      simp
      omega
    · intro n hn
      obtain ⟨k, hk, rfl⟩ := List.mem_map.mp hn
      have := List.mem_range.mp (List.mem_filter.mp hk).1
      omega
    · simp [nums]
  · refine eComp_of (ds := (List.range (min (most ls) 399)).map fun k => .int ((1 + k : Nat) : Int)) ?_ ?_ ?_
    · simp only [iR2_ap, e2_ap, eV_zero, eV_succ, eC_ap, R.bnd_ok, min_eq, addD_int, src_eq]
    · refine compL_filter (fun k => .int ((1 + k : Nat) : Int)) (fun k => (1 + k) % (1 + p % 13) == 0) (fun k => .int ((1 + k : Nat) : Int)) fun k hk => ?_
      refine ⟨[a, some (nums dr), some (.str ls), some (.int (most ls)), x4, some (.int ((1 + k : Nat) : Int)), x6, x7, x8, x9, x10, x11, x12, x13, x14], by simp [wipe], ?_, fun _ => by simp⟩
      simp only [tE_ap, e2_ap, eV_zero, eV_succ, eC_ap, R.bnd_ok, d4]
      rw [show modD (.int p) (.int 13) = .ok (.int ((p % 13 : Nat) : Int)) from modD_nat (j := 13) (by decide)]
      simp only [R.bnd_ok, addD_int]
      rw [show ((1 : Int) + ((p % 13 : Nat) : Int)) = ((1 + p % 13 : Nat) : Int) by omega, modD_nat (by omega)]
      simp only [R.bnd_ok, eqD_int, tru_bl]
      congr 1
      rw [Bool.eq_iff_iff, beq_iff_eq, beq_iff_eq]
      omega
    · rw [List.length_map]
      refine Nat.le_trans (List.length_filter_le _ _) ?_
      simp [LINE]
      omega
theorem most_pos : 1 ≤ most ls := by
  unfold most
  have : 0 < 10 ^ (ls.length / 2) := Nat.pow_pos (by decide)
  omega
theorem st11 (nd : ls.Nodup) (ho : odd ls) {dr sh : List Nat} (hd : dr.length = 12) (h1 : sh.length ≤ 399) (h2 : ∀ n ∈ sh, 1 ≤ n ∧ n ≤ most ls) : wp (t_law_11 [a, some (nums dr), some (.str ls), some (.int (most ls)), x4, x5, x6, some (nums sh), x8, x9, x10, x11, x12, x13, x14]) fun f ρ' => f = .nx ∧ ∃ o o2, ρ' = [a, some (nums dr), some (.str ls), some (.int (most ls)), x4, o, x6, some (nums sh), o2, x9, x10, x11, x12, x13, x14] := by
  have hm1 := most_pos (ls := ls)
  unfold t_law_11
  rw [sFor_ap]
  have hsrc : ∃ all : List Nat, (∀ n ∈ all, 1 ≤ n ∧ n ≤ most ls) ∧ (iOf (e2 addD (e2 addD (eV 7) (eLst (eCons (eV 3) eNil))) (eComp (iR1 (eC (.int 5))) [4] (gV 4) tYes (e2 addD (eC (.int 1)) (e2 modD (e2 addD (e2 mulD (e2 idxD (eV 1) (e2 addD (eC (.int 5)) (eV 4))) (eC (.int 37))) (e2 idxD (eV 1) (eC (.int 6)))) (eV 3)))))) [a, some (nums dr), some (.str ls), some (.int (most ls)), x4, x5, x6, some (nums sh), x8, x9, x10, x11, x12, x13, x14] = .ok (all.map fun n => .int (n : Nat)) := by
    refine ⟨sh ++ [most ls] ++ (List.range 5).map fun k => 1 + ((dr.getD (5 + k) 0) * 37 + dr.getD 6 0) % most ls, ?_, ?_⟩
    · intro n hn
      rcases List.mem_append.mp hn with hn | hn
      · rcases List.mem_append.mp hn with hn | hn
        · exact h2 n hn
        · simp at hn
          omega
      · obtain ⟨k, _, rfl⟩ := List.mem_map.mp hn
        have := Nat.mod_lt ((dr.getD (5 + k) 0) * 37 + dr.getD 6 0) (show 0 < most ls by omega)
        omega
    · have hc : eComp (iR1 (eC (.int 5))) [4] (gV 4) tYes (e2 addD (eC (.int 1)) (e2 modD (e2 addD (e2 mulD (e2 idxD (eV 1) (e2 addD (eC (.int 5)) (eV 4))) (eC (.int 37))) (e2 idxD (eV 1) (eC (.int 6)))) (eV 3))) [a, some (nums dr), some (.str ls), some (.int (most ls)), x4, x5, x6, some (nums sh), x8, x9, x10, x11, x12, x13, x14] = .ok (.lst ((List.range 5).map fun k => .int ((1 + ((dr.getD (5 + k) 0) * 37 + dr.getD 6 0) % most ls : Nat) : Int))) := by
        refine eComp_of (ds := (List.range 5).map fun k => .int (k : Nat)) (by simp only [iR1_ap, eC_ap, R.bnd_ok]; rfl) ?_ (by simp [LINE])
        refine compL_map (fun k => .int (k : Nat)) _ fun k hk => ?_
        have hk5 := List.mem_range.mp hk
        refine ⟨[a, some (nums dr), some (.str ls), some (.int (most ls)), some (.int k), x5, x6, some (nums sh), x8, x9, x10, x11, x12, x13, x14], by simp [wipe], rfl, hk, ?_⟩
        simp only [e2_ap, eV_zero, eV_succ, eC_ap, R.bnd_ok, addD_int]
        rw [show ((5 : Int) + (k : Int)) = ((5 + k : Nat) : Int) by omega, idx_nums (show 5 + k < dr.length by omega), show idxD (nums dr) (.int 6) = .ok (.int (dr[6] : Nat)) from idx_nums (k := 6) (by omega)]
        simp only [R.bnd_ok]
        rw [show mulD (.int ((dr[5 + k] : Nat) : Int)) (.int 37) = .ok (.int (((dr[5 + k] : Nat) : Int) * (37 : Int))) from mulR_int (j := 37) (by decide)]
        simp only [R.bnd_ok, addD_int]
        rw [show (((dr[5 + k] : Nat) : Int) * (37 : Int) + ((dr[6] : Nat) : Int)) = ((dr[5 + k] * 37 + dr[6] : Nat) : Int) by omega, modD_nat (by omega)]
        simp only [R.bnd_ok, addD_int]
        rw [List.getD_eq_getElem?_getD, List.getD_eq_getElem?_getD, List.getElem?_eq_getElem (show 5 + k < dr.length by omega), List.getElem?_eq_getElem (show 6 < dr.length by omega)]
        rfl
      simp only [iOf_ap]
      rw [e2_ap, e2_ap, hc]
      simp only [eLst_ap, eCons_ap, eNil_ap, eV_zero, eV_succ, R.bnd_ok]
      rw [if_pos (by simp [LINE])]
      simp only [R.bnd_ok, nums]
      rw [addD_lst (by simp; unfold LINE; omega)]
      simp only [R.bnd_ok]
      rw [addD_lst (by simp; unfold LINE; omega)]
      simp only [R.bnd_ok, itemsD_lst]
      simp
  obtain ⟨all, ha, hsrc⟩ := hsrc
  rw [hsrc]
  simp only [lft_ok]
  refine wp_for (fun k ρ => ∃ o o2, ρ = [a, some (nums dr), some (.str ls), some (.int (most ls)), x4, o, x6, some (nums sh), o2, x9, x10, x11, x12, x13, x14]) ⟨x5, x8, rfl⟩ (fun k d ρ hk ⟨o, o2, e⟩ => ?_) (fun ρ ⟨o, o2, e⟩ => ⟨rfl, o, o2, e⟩)
  obtain ⟨hk2, rfl⟩ := map_get hk
  subst e
  obtain ⟨n1, n2⟩ := ha _ (List.getElem_mem hk2)
  generalize all[k] = n at n1 n2
  have hin : ∀ c ∈ wr ls n, c ∈ ls := fun c hc => wr_mem ls n c hc
  have hl := wr_len ls n
  have hl9 := ho.2
  have hl1 : (wr ls n).length ≤ 1000000 := by omega
  refine ⟨[a, some (nums dr), some (.str ls), some (.int (most ls)), x4, some (.int n), x6, some (nums sh), o2, x9, x10, x11, x12, x13, x14], by simp, ?_⟩
  refine wp_seq ?_
  simp only [sAsg_ap, eCall_ap, eCons_ap, eNil_ap, eV_zero, eV_succ, R.bnd_ok, lwrite_eq ho n2, lft_ok, gV_succ, gV_zero, gok_ok, wp_some, Nxt_nx]
  refine wp_seq ?_
  simp only [sIf_ap, tOr_ap, tNot_ap, tE_ap, eCall_ap, eCons_ap, eNil_ap, eV_zero, eV_succ, R.bnd_ok, sp_write ho n1 n2, sp_read nd ho ⟨n1, n2, rfl⟩, same12 (show gd 11 (.str (wr ls n)) from trivial), same12 (show gd 11 (.int n) from trivial), tru_bl, lft_ok]
  simp only [Bool.not_true, Bool.false_eq_true, if_false, R.bnd_ok, lft_ok, sSkip_ap, wp_some, Nxt_nx, sIf_ap, tNot_ap, tE_ap, eCall_ap, eCons_ap, eNil_ap, eV_zero, eV_succ, sp_sum ho hin hl1, sum_wr nd ho n2, same12 (show gd 11 (.int n) from trivial), tru_bl]
  exact ⟨.inl trivial, _, _, rfl⟩
/-- texts that are not too long -/
def okT (n m : Nat) (ts : List (List Nat)) : Prop := ts.length ≤ n ∧ ∀ x ∈ ts, x.length ≤ m
theorem st13 (nd : ls.Nodup) (ho : odd ls) (ns : List Int) (hns : ns.length ≤ 63) : wp (t_law_13 [some (.lst (ns.map .int)), b, some (.str ls), some (.int (most ls)), x4, x5, x6, x7, x8, some (.lst []), x10, x11, x12, x13, x14]) fun f ρ' => f = .nx ∧ ∃ (ts : List (List Nat)) (o o2 : Option Dat), okT 44 3000 ts ∧ ρ' = [some (.lst (ns.map .int)), b, some (.str ls), some (.int (most ls)), x4, x5, x6, x7, x8, some (.lst (ts.map .str)), o, o2, x12, x13, x14] := by
  have hm1 := most_pos (ls := ls)
  have hl9 := ho.2
  have hl1 : 0 < ls.length := by have := ho.1; omega
  unfold t_law_13
  rw [sFor_ap]
  simp only [iR1_ap, eC_ap, R.bnd_ok]
  rw [show rng1 (.int 4) = .ok ((List.range 4).map fun k => .int (k : Nat)) from rng1_nat (n := 4) (by decide)]
  simp only [lft_ok]
  refine wp_for (fun k ρ => ∃ (ts : List (List Nat)) (o o2 : Option Dat), okT (11 * k) 3000 ts ∧ ρ = [some (.lst (ns.map .int)), b, some (.str ls), some (.int (most ls)), x4, x5, x6, x7, x8, some (.lst (ts.map .str)), o, o2, x12, x13, x14]) ⟨[], x10, x11, ⟨by simp, by simp⟩, rfl⟩ (fun k d ρ hk ⟨ts, o, o2, hts, e⟩ => ?_) (fun ρ ⟨ts, o, o2, hts, e⟩ => ⟨rfl, ts, o, o2, hts, e⟩)
  obtain ⟨hk2, rfl⟩ := range_get hk
  subst e
  obtain ⟨z, hz⟩ := cellK ns hns (1 + k)
  obtain ⟨some0, hn, hlen, hlt⟩ := numsK z 18 (by decide)
  refine ⟨[some (.lst (ns.map .int)), b, some (.str ls), some (.int (most ls)), x4, x5, x6, x7, x8, some (.lst (ts.map .str)), some (.int k), o2, x12, x13, x14], by simp, ?_⟩
  refine wp_seq ?_
  simp only [sAsg_ap, eCall_ap, eCons_ap, eNil_ap, e2_ap, eV_zero, eV_succ, eC_ap, R.bnd_ok, addD_int]
  rw [show ((1 : Int) + (k : Int)) = ((1 + k : Nat) : Int) by omega, hz]
  simp only [R.bnd_ok]
  rw [show f__law_numbers [.int z, .int 18, .int 5040] = .ok (nums some0) from hn]
  simp only [lft_ok, gV_succ, gV_zero, R.bnd_ok, gok_ok, wp_some, Nxt_nx]
  -- the number, its text, the texts made of it
  have i0 : idxD (nums some0) (.int 0) = .ok (.int (some0[0] : Nat)) := idx_nums (k := 0) (by omega)
  have i1 : idxD (nums some0) (.int 1) = .ok (.int (some0[1] : Nat)) := idx_nums (k := 1) (by omega)
  have i3 : idxD (nums some0) (.int 3) = .ok (.int (some0[3] : Nat)) := idx_nums (k := 3) (by omega)
  have hcut : cut (some0.map fun x => Dat.int (x : Nat)) (some 2) none = (some0.drop 2).map fun x => Dat.int (x : Nat) := by
    rw [show cut (some0.map fun x => Dat.int (x : Nat)) (some 2) none = _ from cut_from (j := 2), List.map_drop]
  have hnr := Nat.mod_lt (some0[0] * 7 + some0[1]) (show 0 < most ls by omega)
  have hnum : ((e2 addD (eC (.int 1)) (e2 modD (e2 addD (e2 mulD (e2 idxD (eV 11) (eC (.int 0))) (eC (.int 7))) (e2 idxD (eV 11) (eC (.int 1)))) (eV 3)))) [some (.lst (ns.map .int)), b, some (.str ls), some (.int (most ls)), x4, x5, x6, x7, x8, some (.lst (ts.map .str)), some (.int k), some (nums some0), x12, x13, x14] = .ok (.int ((1 + (some0[0] * 7 + some0[1]) % most ls : Nat) : Int)) := by
    simp only [e2_ap, eV_zero, eV_succ, eC_ap, R.bnd_ok, i0, i1]
    rw [show mulD (.int ((some0[0] : Nat) : Int)) (.int 7) = .ok (.int (((some0[0] : Nat) : Int) * (7 : Int))) from mulR_int (j := 7) (by decide)]
    simp only [R.bnd_ok, addD_int]
    rw [show (((some0[0] : Nat) : Int) * (7 : Int) + ((some0[1] : Nat) : Int)) = ((some0[0] * 7 + some0[1] : Nat) : Int) by omega, modD_nat (by omega)]
    rfl
  generalize hnn : 1 + (some0[0] * 7 + some0[1]) % most ls = n at hnum
  have hn1 : 1 ≤ n ∧ n ≤ most ls := by omega
  have hwl := wr_len ls n
  have hw0 : 0 < (wr ls n).length := by
    rcases Nat.eq_zero_or_pos (wr ls n).length with h | h
    · have := sum_wr nd ho hn1.2
      rw [List.eq_nil_of_length_eq_zero h] at this
      simp [S] at this
      omega
    · exact h
  obtain ⟨tx, htx, htl, htm⟩ := sp_texts (ds := some0.drop 2) hw0 (by omega) hl1 (by simp; omega)
  have step : sNew 9 (e2 addD (eV 9) (eCall f__law_texts (eCons (eV 2) (eCons (eCall f__law_write (eCons (eV 2) (eCons (e2 addD (eC (.int 1)) (e2 modD (e2 addD (e2 mulD (e2 idxD (eV 11) (eC (.int 0))) (eC (.int 7))) (e2 idxD (eV 11) (eC (.int 1)))) (eV 3))) eNil))) (eCons (eSli (pS (eC (.int 2))) pN (eV 11)) eNil))))) [some (.lst (ns.map .int)), b, some (.str ls), some (.int (most ls)), x4, x5, x6, x7, x8, some (.lst (ts.map .str)), some (.int k), some (nums some0), x12, x13, x14] =
      some (.nx, [some (.lst (ns.map .int)), b, some (.str ls), some (.int (most ls)), x4, x5, x6, x7, x8, some (.lst ((ts ++ tx).map .str)), some (.int k), some (nums some0), x12, x13, x14]) := by
    rw [sNew_lst (xs := (ts ++ tx).map .str) ?_ (by simp)]
    · rfl
    · rw [e2_ap, eCall_ap, eCons_ap, eCons_ap, eCons_ap, eCall_ap, eCons_ap, eCons_ap, hnum]
      simp only [eV_zero, eV_succ, R.bnd_ok, eNil_ap, lwrite_eq ho hn1.2, eSli_ap, pS_ap, pN_ap, eC_ap, optInt_int, nums, sliD_lst, hcut]
      rw [show f__law_texts [.str ls, .str (wr ls n), .lst ((some0.drop 2).map fun x => Dat.int (x : Nat))] = _ from htx]
      simp only [R.bnd_ok]
      rw [addD_lst (by have := hts.1; simp; unfold LINE; omega), List.map_append]
  refine wp_seqN step ?_
  -- one drawn text more
  have hlt3 := Nat.mod_lt some0[3] (show 0 < 15 by decide)
  have hj : ∃ t : List Nat, t.length ≤ 15 ∧ (eM1 joinD (eC (.str [])) (eComp (iR1 (e2 modD (e2 idxD (eV 11) (eC (.int 3))) (eC (.int 15)))) [4] (gV 4) tYes (e2 idxD (eV 2) (e2 modD (e2 idxD (eV 11) (e2 addD (eC (.int 4)) (eV 4))) (e1 lenD (eV 2)))))) [some (.lst (ns.map .int)), b, some (.str ls), some (.int (most ls)), x4, x5, x6, x7, x8, some (.lst ((ts ++ tx).map .str)), some (.int k), some (nums some0), x12, x13, x14] = .ok (.str t) := by
    refine ⟨(List.range (some0[3] % 15)).map fun j => ls.getD (some0.getD (4 + j) 0 % ls.length) 0, by simp; omega, ?_⟩
    have hc : eComp (iR1 (e2 modD (e2 idxD (eV 11) (eC (.int 3))) (eC (.int 15)))) [4] (gV 4) tYes (e2 idxD (eV 2) (e2 modD (e2 idxD (eV 11) (e2 addD (eC (.int 4)) (eV 4))) (e1 lenD (eV 2)))) [some (.lst (ns.map .int)), b, some (.str ls), some (.int (most ls)), x4, x5, x6, x7, x8, some (.lst ((ts ++ tx).map .str)), some (.int k), some (nums some0), x12, x13, x14] = .ok (.lst (((List.range (some0[3] % 15)).map fun j => ls.getD (some0.getD (4 + j) 0 % ls.length) 0).map fun c => .str [c])) := by
      refine eComp_of (ds := (List.range (some0[3] % 15)).map fun j => .int (j : Nat)) ?_ ?_ (by simp; unfold LINE; omega)
      · simp only [iR1_ap, e2_ap, eV_zero, eV_succ, eC_ap, R.bnd_ok, i3]
        rw [show modD (.int ((some0[3] : Nat) : Int)) (.int 15) = .ok (.int ((some0[3] % 15 : Nat) : Int)) from modD_nat (j := 15) (by decide)]
        simp only [R.bnd_ok]
        rw [rng1_nat (by omega)]
      · rw [List.map_map]
        refine compL_map (fun j => .int (j : Nat)) _ fun j hj => ?_
        have hj5 := List.mem_range.mp hj
        refine ⟨[some (.lst (ns.map .int)), b, some (.str ls), some (.int (most ls)), some (.int j), x5, x6, x7, x8, some (.lst ((ts ++ tx).map .str)), some (.int k), some (nums some0), x12, x13, x14], by simp [wipe], rfl, hj, ?_⟩
        simp only [e1_ap, e2_ap, eV_zero, eV_succ, eC_ap, R.bnd_ok, addD_int, lenD_str]
        rw [show ((4 : Int) + (j : Int)) = ((4 + j : Nat) : Int) by omega, idx_nums (show 4 + j < some0.length by omega)]
        simp only [R.bnd_ok]
        rw [modD_nat hl1]
        simp only [R.bnd_ok]
        have hq := Nat.mod_lt some0[4 + j] hl1
        rw [idxD_str hq]
        show _ = R.ok (Dat.str [ls.getD (some0.getD (4 + j) 0 % ls.length) 0])
        rw [List.getD_eq_getElem?_getD, List.getD_eq_getElem?_getD, List.getElem?_eq_getElem (show 4 + j < some0.length by omega)]
        simp only [Option.getD_some]
        rw [List.getElem?_eq_getElem hq]
        rfl
    rw [eM1_ap, hc]
    simp only [eC_ap, R.bnd_ok, isS_str]
    rw [joinD_ones (by simp; unfold LINE; omega)]
  obtain ⟨t, ht1, ht2⟩ := hj
  rw [sApp_ap (xs := (ts ++ tx).map .str) rfl ht2 (by have := hts.1; simp; unfold LINE; omega)]
  rw [wp_some]
  refine ⟨.inl rfl, ts ++ tx ++ [t], some (.int k), some (nums some0), ⟨?_, ?_⟩, ?_⟩
  · have := hts.1
    simp
    omega
  · intro x hx
    rcases List.mem_append.mp hx with hx | hx
    · rcases List.mem_append.mp hx with hx | hx
      · exact hts.2 x hx
      · have := htm x hx
        omega
    · have : x = t := by simpa using hx
      subst this
      omega
  · rw [List.map_append (l₂ := [t])]
    rfl
theorem st14 (ho : odd ls) {ts : List (List Nat)} (hts : okT 44 3000 ts) : wp (t_law_14 [a, b, some (.str ls), x3, x4, x5, x6, x7, x8, some (.lst (ts.map .str)), x10, x11, x12, x13, x14]) fun f ρ' => f = .nx ∧ ∃ (ts : List (List Nat)) (o o2 : Option Dat), okT 1000 3000 ts ∧ ρ' = [a, b, some (.str ls), x3, x4, x5, x6, x7, x8, some (.lst (ts.map .str)), x10, x11, o, o2, x14] := by
  unfold t_law_14
  simp only [sIf_ap, tE_ap, e2_ap, e1_ap, eV_zero, eV_succ, eC_ap, R.bnd_ok, lenD_str, ltD_int, tru_bl, lft_ok]
  by_cases h4 : ls.length < 4
  · rw [if_pos (by rw [decide_eq_true_iff]; omega)]
    refine wp_seqN (ρ' := [a, b, some (.str ls), x3, x4, x5, x6, x7, x8, some (.lst (ts.map .str)), x10, x11, some (.lst [.str []]), x13, x14]) ?_ ?_
    · simp only [sAsg_ap, eLst_ap, eCons_ap, eNil_ap, eC_ap, R.bnd_ok]
      rw [if_pos (by simp [LINE])]
      simp only [lft_ok, gV_succ, gV_zero, R.bnd_ok, gok_ok]
    · rw [sFor_ap]
      simp only [iR1_ap, eC_ap, R.bnd_ok]
      rw [show rng1 (.int 4) = .ok ((List.range 4).map fun k => .int (k : Nat)) from rng1_nat (n := 4) (by decide)]
      simp only [lft_ok]
      refine wp_for (fun k ρ => ∃ (ts level : List (List Nat)) (o : Option Dat), okT (44 + 100 * k) 3000 ts ∧ level.length ≤ 3 ^ k ∧ (∀ x ∈ level, x.length ≤ k) ∧ ρ = [a, b, some (.str ls), x3, x4, x5, x6, x7, x8, some (.lst (ts.map .str)), x10, x11, some (.lst (level.map .str)), o, x14]) ⟨ts, [[]], x13, hts, by simp, by simp, rfl⟩ (fun k d ρ hk ⟨ts, level, o, h1, h2, h3, e⟩ => ?_) (fun ρ ⟨ts, level, o, h1, h2, h3, e⟩ => ⟨rfl, ts, some (.lst (level.map .str)), o, ⟨Nat.le_trans h1.1 (by simp), h1.2⟩, e⟩)
      obtain ⟨hk2, rfl⟩ := range_get hk
      subst e
      have h3k : 3 ^ k ≤ 27 := by
        have : 3 ^ k ≤ 3 ^ 3 := Nat.pow_le_pow_right (by decide) (by omega)
        omega
      have hmul : level.length * ls.length ≤ 3 ^ (k + 1) := by
        rw [Nat.pow_succ]
        exact Nat.mul_le_mul h2 (by omega)
      have h3k2 : 3 ^ (k + 1) ≤ 81 := by rw [Nat.pow_succ]; omega
      obtain ⟨f1, f2⟩ := flatL (ls := ls) level k h3
      have hg := sp_grown (ls := ls) h3 (by omega) (by omega) (by omega) (by omega)
      generalize (level.flatMap fun x => ls.map fun c => x ++ [c]) = lv at f1 f2 hg
      refine ⟨[a, b, some (.str ls), x3, x4, x5, x6, x7, x8, some (.lst (ts.map .str)), x10, x11, some (.lst (level.map .str)), some (.int k), x14], by simp, ?_⟩
      refine wp_seqN (ρ' := [a, b, some (.str ls), x3, x4, x5, x6, x7, x8, some (.lst (ts.map .str)), x10, x11, some (.lst (lv.map .str)), some (.int k), x14]) ?_ ?_
      · simp only [sAsg_ap, eCall_ap, eCons_ap, eNil_ap, eV_zero, eV_succ, R.bnd_ok, hg, lft_ok, gV_succ, gV_zero, gok_ok]
      · rw [sNew_lst (xs := (ts ++ lv).map .str) ?_ (by simp)]
        · rw [wp_some]
          refine ⟨.inl rfl, ts ++ lv, lv, some (.int k), ⟨?_, ?_⟩, by omega, f2, rfl⟩
          · have := h1.1
            simp
            omega
          · intro x hx
            rcases List.mem_append.mp hx with hx | hx
            · exact h1.2 x hx
            · have := f2 x hx
              omega
        · simp only [e2_ap, eV_zero, eV_succ, R.bnd_ok]
          rw [addD_lst (by have := h1.1; simp; unfold LINE; omega), List.map_append]
  · rw [if_neg (by rw [decide_eq_true_iff]; omega)]
    simp only [sSkip_ap, wp_some]
    exact ⟨trivial, ts, x12, x13, ⟨Nat.le_trans hts.1 (by decide), hts.2⟩, rfl⟩
theorem dicGet_some {kvs : List (Dat × Dat)} {k : Dat} : (dicGet kvs k).isSome = kvs.any (keyEq k) := by
  unfold dicGet
  rw [Option.isSome_map, Bool.eq_iff_iff, List.find?_isSome, List.any_eq_true]
open Classical in
noncomputable def isW (ls t : List Nat) (k : Nat) : Bool := decide (∃ n, 1 ≤ n ∧ n ≤ k ∧ wr ls n = t)
theorem isW_iff {t : List Nat} {k : Nat} : isW ls t k = true ↔ ∃ n, 1 ≤ n ∧ n ≤ k ∧ wr ls n = t := by
  unfold isW
  exact @decide_eq_true_iff _ (Classical.propDecidable _)
theorem in_kn {t : List Nat} {k : Nat} : inD (.str t) (.dic (kn ls k)) = .ok (.bl (isW ls t k)) := by
  show (if isKey (.str t) then R.ok (Dat.bl (dicGet (kn ls k) (.str t)).isSome) else R.bad) = _
  rw [if_pos (show isKey (.str t) = true from rfl), dicGet_some]
  congr 2
  rw [Bool.eq_iff_iff, List.any_eq_true, isW_iff]
  constructor
  · rintro ⟨p, hp, q⟩
    obtain ⟨i, hi, rfl⟩ := List.mem_map.mp hp
    have hi := List.mem_range.mp hi
    unfold keyEq at q
    rw [eqv_str, beq_iff_eq] at q
    exact ⟨i + 1, by omega, by omega, q⟩
  · rintro ⟨n, h1, h2, h3⟩
    refine ⟨(.str (wr ls (n - 1 + 1)), .int ((n - 1 + 1 : Nat) : Int)), List.mem_map.mpr ⟨n - 1, List.mem_range.mpr (by omega), rfl⟩, ?_⟩
    unfold keyEq
    rw [eqv_str, beq_iff_eq, show n - 1 + 1 = n by omega]
    exact h3
theorem neD_bl {x y : Bool} : neD (.bl x) (.bl y) = .ok (.bl (!(x == y))) := rfl
theorem st15 (nd : ls.Nodup) (ho : odd ls) {ts : List (List Nat)} (hts : okT 1000 3000 ts) : wp (t_law_15 [a, b, some (.str ls), some (.int (most ls)), x4, x5, some (.dic (kn ls (min (most ls) 399))), x7, x8, some (.lst (ts.map .str)), x10, x11, x12, x13, x14]) fun f ρ' => f = .nx := by
  have hl9 := ho.2
  unfold t_law_15
  rw [sFor_ap]
  simp only [iOf_ap, eV_zero, eV_succ, R.bnd_ok, itemsD_lst, lft_ok]
  refine wp_for (fun k ρ => ∃ o o2, ρ = [a, b, some (.str ls), some (.int (most ls)), x4, x5, some (.dic (kn ls (min (most ls) 399))), x7, o, some (.lst (ts.map .str)), x10, x11, x12, x13, o2]) ⟨x8, x14, rfl⟩ (fun k d ρ hk ⟨o, o2, e⟩ => ?_) (fun ρ _ => rfl)
  obtain ⟨hk2, rfl⟩ := map_get hk
  subst e
  have htl := hts.2 _ (List.getElem_mem hk2)
  generalize ts[k] = t at htl
  have hl1 : t.length ≤ 1000000 := by omega
  -- what is due, what is asked
  have due : ∃ d : Dat, gd 11 d ∧ f__law_read [.str ls, .str t, .int (most ls)] = .ok d ∧ f__law_asked [.str ls, .str t] = .ok d ∧ notN d = .ok (.bl (isW ls t (most ls))) := by
    by_cases h : ∃ n, rdOk ls t n
    · obtain ⟨n, hn⟩ := h
      exact ⟨.int n, trivial, sp_lread nd ho hn, sp_asked nd ho hn, by rw [isW_iff.mpr ⟨n, hn⟩]; rfl⟩
    · have h' : ∀ n, ¬ rdOk ls t n := fun n hn => h ⟨n, hn⟩
      exact ⟨.non, trivial, sp_lread_x nd ho hl1 h', sp_asked_x nd ho hl1 h', by rw [Bool.eq_false_iff.mpr (fun q => (isW_iff.mp q).elim h')]; rfl⟩
  obtain ⟨due, g, r1, r2, r3⟩ := due
  refine ⟨[a, b, some (.str ls), some (.int (most ls)), x4, x5, some (.dic (kn ls (min (most ls) 399))), x7, some (.str t), some (.lst (ts.map .str)), x10, x11, x12, x13, o2], by simp, ?_⟩
  refine wp_seqN (ρ' := [a, b, some (.str ls), some (.int (most ls)), x4, x5, some (.dic (kn ls (min (most ls) 399))), x7, some (.str t), some (.lst (ts.map .str)), x10, x11, x12, x13, some due]) ?_ ?_
  · simp only [sAsg_ap, eCall_ap, eCons_ap, eNil_ap, eV_zero, eV_succ, R.bnd_ok, r1, lft_ok, gV_succ, gV_zero, gok_ok]
  refine wp_seqN (ρ' := [a, b, some (.str ls), some (.int (most ls)), x4, x5, some (.dic (kn ls (min (most ls) 399))), x7, some (.str t), some (.lst (ts.map .str)), x10, x11, x12, x13, some due]) ?_ ?_
  · simp only [sIf_ap, tNot_ap, tE_ap, eCall_ap, eCons_ap, eNil_ap, eV_zero, eV_succ, R.bnd_ok, r2, same12 g, tru_bl, lft_ok]
    simp
  refine wp_seqN (ρ' := [a, b, some (.str ls), some (.int (most ls)), x4, x5, some (.dic (kn ls (min (most ls) 399))), x7, some (.str t), some (.lst (ts.map .str)), x10, x11, x12, x13, some due]) ?_ ?_
  · simp only [sIf_ap, tAnd_ap, tE_ap, e1_ap, e2_ap, eV_zero, eV_succ, eC_ap, R.bnd_ok, ltD_int, tru_bl, in_kn, r3, neD_bl]
    by_cases h4 : most ls < 400
    · rw [show min (most ls) 399 = most ls by omega]
      simp
    · rw [decide_eq_false (by omega)]
      simp
  · simp only [sIf_ap, tAnd_ap, tNot_ap, tE_ap, e1_ap, eCall_ap, eCons_ap, eNil_ap, eV_zero, eV_succ, R.bnd_ok, sp_worths hl9 hl1]
    by_cases hin : ∀ c ∈ t, c ∈ ls
    · rw [if_pos hin]
      simp only [R.bnd_ok, notN_lst, tru_bl, if_true, sp_sum ho hin hl1, sp_lsum hl9 hl1 hin, same12 (show gd 11 (.int (S (t.map (W ls)))) from trivial), lft_ok]
      simp
    · rw [if_neg hin]
      simp
theorem tab5 : ∀ m : Nat, m < 5 → idxD (.lst [.int 1, .int 3, .int 5, .int 7, .int 9]) (.int m) = .ok (.int ((2 * m + 1 : Nat) : Int))
  | 0, _ => rfl
  | 1, _ => rfl
  | 2, _ => rfl
  | 3, _ => rfl
  | 4, _ => rfl
  | _ + 5, h => by omega
end
theorem law_true : ∀ ns : List Int, ns.length ≤ 63 → f_law [.lst (ns.map .int)] = .ok (.bl true) := by
  intro ns hns
  obtain ⟨z, hz⟩ := cellK ns hns 0
  obtain ⟨dr, hdr, hd, hlt⟩ := numsK z 12 (by decide)
  have i0 : idxD (nums dr) (.int 0) = .ok (.int (dr[0] : Nat)) := idx_nums (k := 0) (by omega)
  have i1 : idxD (nums dr) (.int 1) = .ok (.int (dr[1] : Nat)) := idx_nums (k := 1) (by omega)
  have hm5 := Nat.mod_lt dr[1] (show 0 < 5 by decide)
  have hlt0 := hlt _ (List.getElem_mem (show 0 < dr.length by omega))
  generalize hls : drawn dr[0] (2 * (dr[1] % 5) + 1) = ls
  have hlen : ls.length = 2 * (dr[1] % 5) + 1 := by rw [← hls]; simp [drawn]
  have ho : odd ls := ⟨by omega, by omega⟩
  have nd : ls.Nodup := by rw [← hls]; exact drawn_nd _ (by omega)
  have hsg := sp_signs (draw := dr[0]) (count := 2 * (dr[1] % 5) + 1) (by omega) (by omega)
  rw [hls] at hsg
  refine run_at (s := b_law) [some (.lst (ns.map .int)), none, none, none, none, none, none, none, none, none, none, none, none, none, none] ?_
  unfold b_law
  refine wp_seqN (ρ' := [some (.lst (ns.map .int)), some (nums dr), none, none, none, none, none, none, none, none, none, none, none, none, none]) ?_ ?_
  · unfold t_law_0
    simp only [sAsg_ap, eCall_ap, eCons_ap, eNil_ap, eV_zero, eC_ap, R.bnd_ok]
    rw [show f__law_cell [.lst (ns.map .int), .int 0] = .ok (.int z) from hz]
    simp only [R.bnd_ok]
    rw [show f__law_numbers [.int z, .int 12, .int 5040] = .ok (nums dr) from hdr]
    simp only [lft_ok, gV_succ, gV_zero, R.bnd_ok, gok_ok]
  refine wp_seqN (ρ' := [some (.lst (ns.map .int)), some (nums dr), some (.str ls), none, none, none, none, none, none, none, none, none, none, none, none]) ?_ ?_
  · unfold t_law_1
    simp only [sAsg_ap, eCall_ap, eCons_ap, eNil_ap, e2_ap, eLst_ap, eV_zero, eV_succ, eC_ap, R.bnd_ok, i0, i1]
    rw [if_pos (by simp [LINE]), show modD (.int ((dr[1] : Nat) : Int)) (.int 5) = .ok (.int ((dr[1] % 5 : Nat) : Int)) from modD_nat (j := 5) (by decide)]
    simp only [R.bnd_ok]
    rw [tab5 _ hm5]
    simp only [R.bnd_ok, hsg, lft_ok, gV_succ, gV_zero, gok_ok]
  refine wp_seqN (ρ' := [some (.lst (ns.map .int)), some (nums dr), some (.str ls), some (.int 4), none, none, none, none, none, none, none, none, none, none, none]) (by simp) ?_
  refine wp_seqE _ (st3 ho) fun ρ ⟨o, e⟩ => ?_
  subst e
  refine wp_seqN (ρ' := [some (.lst (ns.map .int)), some (nums dr), some (.str ls), some (.int (most ls)), o, none, none, none, none, none, none, none, none, none, none]) ?_ ?_
  · simp only [sAsg_ap, e2_ap, eV_zero, eV_succ, eC_ap, R.bnd_ok, subD_int, lft_ok, gV_succ, gV_zero, gok_ok]
    rw [show (((4 * 10 ^ (ls.length / 2) : Nat) : Int) - 1) = ((most ls : Nat) : Int) by
      unfold most
      have : 0 < 10 ^ (ls.length / 2) := Nat.pow_pos (by decide)
      omega]
  refine wp_seqE _ (st5 ho) fun ρ e => ?_
  subst e
  refine wp_seqE _ (st6 ho hd) fun ρ ⟨o, e⟩ => ?_
  subst e
  refine wp_seqN (ρ' := [some (.lst (ns.map .int)), some (nums dr), some (.str ls), some (.int (most ls)), _, o, some (.dic []), none, none, none, none, none, none, none, none]) (by rw [sNew_dic (xs := []) (by simp) (by simp)]; rfl) ?_
  refine wp_seqE _ (st8 nd ho) fun ρ ⟨o, e⟩ => ?_
  subst e
  refine wp_seqE _ st9 fun ρ e => ?_
  subst e
  refine wp_seqE _ (st10 ho hd) fun ρ ⟨sh, h1, h2, e⟩ => ?_
  subst e
  refine wp_seqE _ (st11 nd ho hd h1 h2) fun ρ ⟨o, o2, e⟩ => ?_
  subst e
  refine wp_seqN (ρ' := [some (.lst (ns.map .int)), some (nums dr), some (.str ls), some (.int (most ls)), _, o, some (.dic (kn ls (min (most ls) 399))), some (nums sh), o2, some (.lst []), none, none, none, none, none]) (by rw [sNew_lst (xs := []) (by simp [LINE]) (by simp)]; rfl) ?_
  refine wp_seqE _ (st13 nd ho ns hns) fun ρ ⟨ts, o3, o4, hts, e⟩ => ?_
  subst e
  refine wp_seqE _ (st14 ho hts) fun ρ ⟨ts, o5, o6, hts, e⟩ => ?_
  subst e
  refine wp_seqE (fun _ => True) (wp_imp (st15 nd ho hts) fun f ρ h => ⟨h, trivial⟩) fun ρ _ => ?_
  simp
end PL.K52

set_option maxRecDepth 100000
open PySem PySem.W PyProof.Rows
set_option maxHeartbeats 0 in
theorem PySem.Challenge.cw_lettersacross_k52_stroke_letters_there_a_holds : PySem.Challenge.rw_lettersacross_k52_stroke_letters_there_a.Holds := by
  w_on; o_law; k_head; (case hw => w_witness2)
  k_fill
  refine L2.walk_of (l := PySem.Challenge.rw_lettersacross_k52_stroke_letters_there_a) (n := 63) (k := 14) (x := "script") (CX := fun w => L2.CX PySem.Challenge.rw_lettersacross_k52_stroke_letters_there_a.prog w) (sp := fun w => PL.spLaw _) rfl (by decide) rfl ⟨rfl, by decide, by decide⟩ (fun w h Y => PySem.W.kIn_of Y) ?F (fun _ _ a ns hl _ hS => ⟨a, ns, rfl, hS, hl, fun _ => rfl⟩) (fun _ _ _ _ _ h => PL.cx_no h)
  case F =>
    intro w mg fa h KX G hmg
    refine' PL.K52.all_mk KX G hmg ?q0 ?q1 ?q2 ?q3 ?q4 ?q5 ?q6 ?q7 ?q8 ?q9 ?q10 ?q11 ?q12 ?q13 ?q14 ?q15 ?q16 ?q17 ?q18 ?q19 ?q20 ?q21 ?q22 ?q23 ?q24 ?q25 ?q26 ?q27 ?q28 ?q29 ?q30 ?q31 ?q32 ?q33 ?q34 ?q35 ?q36 ?q37 ?q38 ?q39 ?q40 ?q41 ?q42 ?q43 ?q44 ?q45 ?q46 ?q47 ?q48 ?q49 ?q50 ?q51 ?q52 ?q53 ?q54 ?q55 ?q56 ?q57 ?q58 ?q59 ?q60 ?q61 ?q62 ?q63 ?q64 ?q65 ?q66 ?q67 ?q68 ?q69 ?q70 ?q71 ?q72 ?q73 ?q74 ?q75 ?q76 ?q77 ?q78 ?q79 ?q80 ?q81 ?q82 ?q83 ?q84 ?q85 ?q86 ?q87 ?q88 ?q89 ?q90 ?q91 ?q92 ?q93 ?q94 ?q95 ?q96 ?q97 ?q98 ?q99 ?q100 ?q101 ?q102 ?q103 ?q104 ?q105 ?q106 ?q107 ?q108 ?q109 ?q110 ?q111 ?q112 ?q113 ?q114 ?q115 ?q116 ?q117 ?q118 ?q119 ?q120 ?q121 ?q122 ?q123 ?q124 ?q125 ?q126 ?q127 ?q128 ?q129 ?q130 ?q131 ?q132 ?q133 ?q134 ?q135 ?q136 ?q137 ?q138 ?q139 ?q140 ?q141 ?q142 ?q143 ?q144 ?q145 ?q146 ?q147 ?q148 ?q149 ?q150 ?q151 ?q152 ?q153 ?q154 ?q155 ?q156 ?q157 ?q158 ?q159 ?q160 PL.K52.law_true
    (case q0 => k_is)
    (case q1 => k_is)
    (case q2 => k_is)
    (case q3 => k_is)
    (case q4 => k_is)
    (case q5 => k_is)
    (case q6 => k_is)
    (case q7 => k_is)
    (case q8 => k_is)
    (case q9 => k_is)
    (case q10 => k_is)
    (case q11 => k_is)
    (case q12 => k_is)
    (case q13 => k_is)
    (case q14 => k_is)
    (case q15 => k_is)
    (case q16 => k_is)
    (case q17 => k_is)
    (case q18 => k_is)
    (case q19 => k_is)
    (case q20 => k_is)
    (case q21 => k_is)
    (case q22 => k_is)
    (case q23 => k_is)
    (case q24 => k_is)
    (case q25 => k_is)
    (case q26 => k_is)
    (case q27 => k_is)
    (case q28 => k_is)
    (case q29 => k_is)
    (case q30 => k_is)
    (case q31 => k_is)
    (case q32 => k_is)
    (case q33 => k_is)
    (case q34 => k_is)
    (case q35 => k_is)
    (case q36 => k_is)
    (case q37 => k_is)
    (case q38 => k_is)
    (case q39 => k_is)
    (case q40 => k_is)
    (case q41 => k_is)
    (case q42 => k_is)
    (case q43 => k_is)
    (case q44 => k_is)
    (case q45 => k_is)
    (case q46 => k_is)
    (case q47 => k_is)
    (case q48 => k_is)
    (case q49 => k_is)
    (case q50 => k_is)
    (case q51 => k_is)
    (case q52 => k_is)
    (case q53 => k_is)
    (case q54 => k_is)
    (case q55 => k_is)
    (case q56 => k_is)
    (case q57 => k_is)
    (case q58 => k_is)
    (case q59 => k_is)
    (case q60 => k_is)
    (case q61 => k_is)
    (case q62 => k_is)
    (case q63 => k_is)
    (case q64 => k_is)
    (case q65 => k_is)
    (case q66 => k_is)
    (case q67 => k_is)
    (case q68 => k_is)
    (case q69 => k_is)
    (case q70 => k_is)
    (case q71 => k_is)
    (case q72 => k_is)
    (case q73 => k_is)
    (case q74 => k_is)
    (case q75 => k_is)
    (case q76 => k_is)
    (case q77 => k_is)
    (case q78 => k_is)
    (case q79 => k_is)
    (case q80 => k_is)
    (case q81 => k_is)
    (case q82 => k_is)
    (case q83 => k_is)
    (case q84 => k_is)
    (case q85 => k_is)
    (case q86 => k_is)
    (case q87 => k_is)
    (case q88 => k_is)
    (case q89 => k_is)
    (case q90 => k_is)
    (case q102 => k_is)
    (case q101 => k_is)
    (case q100 => first | rfl | decide +kernel)
    (case q99 => first | rfl | decide +kernel)
    (case q98 => first | rfl | decide +kernel)
    (case q97 => first | rfl | decide +kernel)
    (case q96 => first | rfl | decide +kernel)
    (case q95 => first | rfl | decide +kernel)
    (case q94 => first | rfl | decide +kernel)
    (case q93 => first | rfl | decide +kernel)
    (case q92 => first | rfl | decide +kernel)
    (case q91 => first | rfl | decide +kernel)
    (case q103 => k_is)
    (case q104 => k_is)
    (case q105 => k_is)
    (case q106 => k_is)
    (case q107 => k_exc)
    (case q108 => k_is)
    (case q109 => k_is)
    (case q110 => k_is)
    (case q111 => k_is)
    (case q112 => k_is)
    (case q113 => k_is)
    (case q114 => k_is)
    (case q115 => k_is)
    (case q116 => k_is)
    (case q117 => k_is)
    (case q118 => k_is)
    (case q119 => k_is)
    (case q120 => k_exc)
    (case q121 => k_is)
    (case q122 => k_is)
    (case q123 => k_is)
    (case q124 => k_is)
    (case q125 => k_is)
    (case q126 => k_is)
    (case q127 => k_is)
    (case q128 => k_is)
    (case q129 => k_is)
    (case q130 => k_is)
    (case q131 => k_is)
    (case q132 => k_is)
    (case q133 => k_exc)
    (case q134 => k_is)
    (case q135 => k_is)
    (case q136 => k_is)
    (case q137 => k_is)
    (case q138 => k_is)
    (case q139 => k_is)
    (case q140 => k_is)
    (case q141 => k_is)
    (case q142 => k_is)
    (case q143 => k_is)
    (case q144 => k_is)
    (case q145 => k_is)
    (case q146 => k_exc)
    (case q147 => k_is)
    (case q148 => k_is)
    (case q149 => k_is)
    (case q150 => k_is)
    (case q151 => k_is)
    (case q152 => k_is)
    (case q153 => k_is)
    (case q154 => k_is)
    (case q155 => k_is)
    (case q156 => k_is)
    (case q157 => k_is)
    (case q158 => k_is)
    (case q159 => k_is)
    (case q160 => k_is)

