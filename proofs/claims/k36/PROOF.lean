import PyProof.Rows.All
import Wide.All
import OpenK.AllK
import Wide.FinOn
import HandS.ForExc
import HandS.Comp
import HandS.Iter
import HandS.Zip
import HandS.TupAny
import HandS.Gcd
import HandS.IsInst
import HandS.Wide
import HandS.Flow
import HandS.CallLocal
import HandS.Lambda
import HandS.EndTab
import HandS.HeadWalk
import HandS.HeadHook4
import HandS.Head3
import HandS.ExcIs
import HandS.HotCalls
import HandS.Text
import HandS.Deep
import HandS.Style
import HandS.SetFor
import HandS.WideBits
import HandS.TupMul
import HandS.TupSets
import HandS.TryMany
import PySem.Challenge.RW_linesruled_k36_whole_agreeing_swings

section
set_option Elab.async false
set_option linter.all false
set_option maxRecDepth 100000
/-! Px: a small pure interpreter for the part of Python that the given program and its laws use. -/
namespace Px
open PySem (Str PyData)

/-! ### data -/
inductive D where
  | non | bl (b : Bool) | int (i : Int) | str (x : Str)
  | tup (xs : List D) | lst (xs : List D)
  /-- a list that is only read (the script) -/
  | rl (xs : List D)
  /-- a list that is changed: the i-th cell of the store -/
  | cel (i : Nat)
  /-- a def of the module -/
  | fn (n : Nat)
  /-- no value: the pairs of a changed list's items and of these, walked -/
  | zc (i : Nat) (ys : List D)
  deriving Inhabited

abbrev Sto := List (List D)
abbrev Env := List (Option D)

inductive R (α : Type) where
  | ok (a : α) (s : Sto) | exc (c : Nat) (s : Sto) | bad

abbrev M (α : Type) := Sto → R α

@[inline] def R.bind {α β : Type} (r : R α) (f : α → Sto → R β) : R β := match r with
  | .ok a s => f a s
  | .exc c s => .exc c s
  | .bad => .bad

@[simp] theorem R.bind_ok {α β : Type} (a : α) (s : Sto) (f : α → Sto → R β) : (R.ok a s).bind f = f a s := rfl
@[simp] theorem R.bind_exc {α β : Type} (c : Nat) (s : Sto) (f : α → Sto → R β) : (R.exc c s).bind f = .exc c s := rfl
@[simp] theorem R.bind_bad {α β : Type} (f : α → Sto → R β) : (R.bad : R α).bind f = .bad := rfl

/-- what a call of a def does; what it does two frames deeper (within a lambda that was handed on) -/
structure PC where
  call : Nat → List D → M D
  low : Option (Nat → List D → M D)
/-- nothing can be called -/
def noC : Nat → List D → M D := fun _ _ _ => .bad
/-- what a def that tries a lambda gives: if it ran through, if it raised an error of a class -/
structure Td where
  fin : D
  at_ : List (Nat × D)
def tdAt : List (Nat × D) → Nat → Option D
  | [], _ => none
  | (m, d) :: r, n => if Nat.beq m n = true then some d else tdAt r n
def tdR (t : Td) (r : R D) : R D := match r with
  | .ok _ s => .ok t.fin s
  | .exc c s => match tdAt t.at_ c with
    | some d => .ok d s
    | none => .bad
  | .bad => .bad

/-! ### syntax -/
inductive Bo where | add | sub | mul | fdiv | mod | pow
  deriving DecidableEq
inductive Co where | eq | ne | lt | le | gt | ge | isN | isNot | isin | notin
  deriving DecidableEq
inductive Bi where | len | abs | int | list | tuple | max2 | min2 | max1 | min1 | sum | all | any | gcd | isqrt
  deriving DecidableEq
inductive Ty where | int | bool | str | tuple | list
  deriving DecidableEq
inductive Me where | append | pop | popAt
  deriving DecidableEq
inductive Tg where | name (i : Nat) | tup (l : Tg) | nil | cons (a r : Tg)

inductive RE where
  | var (i : Nat)
  | c (d : D)
  | gl (n : Nat)
  | nil | cons (a r : RE)
  | tup (l : RE) | lst (mu : Bool) (l : RE)
  | bin (op : Bo) (mu : Bool) (a b : RE)
  | neg (a : RE)
  | cmp (op : Co) (a b : RE)
  | chain (o1 o2 : Co) (a b c : RE)
  | and (a b : RE) | or (a b : RE) | not (a : RE)
  | ite (c a b : RE)
  | call (n : Nat) (l : RE)
  | callv (i : Nat) (l : RE)
  | bi (b : Bi) (mu : Bool) (l : RE)
  | isi (a : RE) (t : Ty)
  | sub (a i : RE)
  | slc (mu : Bool) (a lo hi : RE)
  | rev (mu : Bool) (a : RE)
  | meth (m : Me) (a l : RE)
  | comp (mu : Bool) (elt : RE) (own : List Nat) (tg : Tg) (it : RE) (cond : RE)
  -- what is walked
  | seq (a : RE) | rng (l : RE) | zip (a b : RE) | enum (a : RE)
  -- how many unlike ones a tuple of tuples of ints holds
  | lset (a : RE)
  -- n(lambda: e)
  | lamc (n : Nat) (t : Td) (e : RE)

inductive RS where
  | pass
  | seq (a b : RS)
  | set (tg : Tg) (e : RE)
  | ret (e : RE)
  | ifs (c : RE) (a b : RS)
  | for (tg : Tg) (it : RE) (body : RS)
  | wh (fuel : Nat) (c : RE) (body : RS)
  | drop (e : RE)
  | raise (n : Nat)
  | brk | cont
  | put (a i e : RE)

/-! ### values -/
def seqOf (s : Sto) : D → Option (List D)
  | .tup xs => some xs
  | .lst xs => some xs
  | .rl xs => some xs
  | .cel i => s[i]?
  | _ => none

def mapO {α β : Type} (f : α → Option β) : List α → Option (List β)
  | [] => some []
  | x :: xs => match f x, mapO f xs with
    | some y, some ys => some (y :: ys)
    | _, _ => none

/-- the data that a value stands for (the lists of the store looked up, less than n levels deep) -/
def toPy : Nat → Sto → D → Option PyData
  | 0, _, _ => none
  | n + 1, s, d => match d with
    | .non => some .none
    | .bl b => some (.bool b)
    | .int i => some (.int i)
    | .str x => some (.str x)
    | .tup xs => match mapO (toPy n s) xs with
      | some ys => some (.tuple ys)
      | none => none
    | .lst xs => match mapO (toPy n s) xs with
      | some ys => some (.list ys)
      | none => none
    | .rl xs => match mapO (toPy n s) xs with
      | some ys => some (.list ys)
      | none => none
    | .cel i => match s[i]? with
      | some xs => match mapO (toPy n s) xs with
        | some ys => some (.list ys)
        | none => none
      | none => none
    | _ => none

/-- the nesting that == is asked at -/
def deep : Nat := 30

def fit (n : Nat) : Bool := Nat.ble n 16777216

def allocL (mu : Bool) (xs : List D) (s : Sto) : R D := match mu with
  | true => .ok (.cel s.length) (s ++ [xs])
  | false => .ok (.lst xs) s

def isL (s : Sto) : D → Option (List D)
  | .lst xs => some xs
  | .cel i => s[i]?
  | _ => none

/-- list + list, tuple + tuple, text + text -/
def catD (mu : Bool) (x y : D) (s : Sto) : R D := match x, y with
  | .tup xs, .tup ys => if fit (xs.length + ys.length) = true then .ok (.tup (xs ++ ys)) s else .bad
  | .str a, .str b => if fit (a.length + b.length) = true then .ok (.str (a ++ b)) s else .bad
  | x, y => match isL s x, isL s y with
    | some xs, some ys => if fit (xs.length + ys.length) = true then allocL mu (xs ++ ys) s else .bad
    | _, _ => .bad

def mulOk (i j : Int) : Bool := decide (i.natAbs.log2 + j.natAbs.log2 < 134217000)
def divOk (j : Int) : Bool := decide (j.natAbs.log2 < 9000)
def powOk (i j : Int) : Bool := decide (0 ≤ j) && (decide (j ≤ 1000000) && decide (i.natAbs < 18446744073709551616))
def repOk (n : Nat) (k : Int) : Bool := decide (-9223372036854775808 ≤ k) && (decide (k < 9223372036854775808) && fit (n * k.toNat))

def repTOk (n : Nat) (k : Int) : Bool := Nat.ble 1 n && (Nat.ble n 1000 && (decide (2 ≤ k) && decide (k ≤ 1000)))
def binD (op : Bo) (mu : Bool) (x y : D) (s : Sto) : R D := match op with
  | .add => match x, y with
    | .int i, .int j => .ok (.int (i + j)) s
    | x, y => catD mu x y s
  | .sub => match x, y with
    | .int i, .int j => .ok (.int (i - j)) s
    | _, _ => .bad
  | .mul => match x, y with
    | .int i, .int j => if mulOk i j = true then .ok (.int (i * j)) s else .bad
    | .tup xs, .int k => if repTOk xs.length k = true then .ok (.tup (List.replicate k.toNat xs).flatten) s else .bad
    | x, .int k => match isL s x with
      | some xs => if repOk xs.length k = true then allocL mu (List.replicate k.toNat xs).flatten s else .bad
      | none => .bad
    | _, _ => .bad
  | .fdiv => match x, y with
    | .int i, .int j => if 0 < j then (if divOk j = true then .ok (.int (i / j)) s else .bad) else if j < 0 then (if divOk j = true then .ok (.int (i.fdiv j)) s else .bad) else .bad
    | _, _ => .bad
  | .mod => match x, y with
    | .int i, .int j => if 0 < j then .ok (.int (i % j)) s else if j < 0 then .ok (.int (i.fmod j)) s else .bad
    | _, _ => .bad
  | .pow => match x, y with
    | .int i, .int j => if powOk i j = true then .ok (.int (i ^ j.toNat)) s else .bad
    | _, _ => .bad

def eqD (s : Sto) (x y : D) : Option Bool := match toPy deep s x, toPy deep s y with
  | some a, some b => if PySem.SeqAt.shaped a = true then (if PySem.SeqAt.shaped b = true then some (PyData.eqv a b) else none) else none
  | _, _ => none

/-- the items of data -/
def itemsP : PyData → Option (List PyData)
  | .list bs => some bs
  | .tuple bs => some bs
  | _ => none
/-- x in y -/
def inD (s : Sto) (x y : D) : Option Bool := match toPy deep s x, toPy deep s y with
  | some a, some b => match itemsP b with
    | some bs => if PySem.SeqAt.shaped a = true then (if PySem.SeqAt.shaped b = true then some (bs.any fun b => PyData.eqv b a) else none) else none
    | none => none
  | _, _ => none

def ob (o : Option Bool) (s : Sto) : R D := match o with
  | some b => .ok (.bl b) s
  | none => .bad
def isNon : D → Bool
  | .non => true
  | _ => false

def cmpD (op : Co) (x y : D) (s : Sto) : R D := match op with
  | .eq => match x, y with
    | .int i, .int j => .ok (.bl (decide (i = j))) s
    | x, y => ob (eqD s x y) s
  | .ne => match x, y with
    | .int i, .int j => .ok (.bl (!decide (i = j))) s
    | x, y => ob ((eqD s x y).map (!·)) s
  | .lt => match x, y with
    | .int i, .int j => .ok (.bl (decide (i < j))) s
    | _, _ => .bad
  | .le => match x, y with
    | .int i, .int j => .ok (.bl (decide (i ≤ j))) s
    | _, _ => .bad
  | .gt => match x, y with
    | .int i, .int j => .ok (.bl (decide (j < i))) s
    | _, _ => .bad
  | .ge => match x, y with
    | .int i, .int j => .ok (.bl (decide (j ≤ i))) s
    | _, _ => .bad
  | .isN => match y with
    | .non => .ok (.bl (isNon x)) s
    | .bl b => match x with
      | .bl a => .ok (.bl (decide (a = b))) s
      | _ => .bad
    | _ => .bad
  | .isNot => match y with
    | .non => .ok (.bl (!isNon x)) s
    | .bl b => match x with
      | .bl a => .ok (.bl (!decide (a = b))) s
      | _ => .bad
    | _ => .bad
  | .isin => ob (inD s x y) s
  | .notin => ob ((inD s x y).map (!·)) s

def tyOf (s : Sto) : D → Option Ty
  | .bl _ => some .bool
  | .int _ => some .int
  | .str _ => some .str
  | .tup _ => some .tuple
  | .lst _ => some .list
  | .cel _ => some .list
  | _ => none
/-- isinstance: no class of ours is asked here -/
def isiD (x : D) (t : Ty) : Option Bool := match x, t with
  | .non, _ => some false
  | .bl _, .bool => some true
  | .bl _, .int => some true
  | .bl _, _ => some false
  | .int _, .int => some true
  | .int _, _ => some false
  | .str _, .str => some true
  | .str _, _ => some false
  | .tup _, .tuple => some true
  | .tup _, _ => some false
  | .lst _, .list => some true
  | .lst _, _ => some false
  | .cel _, .list => some true
  | .cel _, _ => some false
  | _, _ => none

def intO : D → Option Int
  | .int i => some i
  | _ => none
def blO : D → Option Bool
  | .bl b => some b
  | _ => none

def maxI : Int → List Int → Int
  | m, [] => m
  | m, x :: xs => maxI (if m < x then x else m) xs
def minI : Int → List Int → Int
  | m, [] => m
  | m, x :: xs => minI (if x < m then x else m) xs

def lsR (s : Sto) : D → Option (List D)
  | .lst xs => some xs
  | .rl xs => some xs
  | .cel i => s[i]?
  | _ => none

def isqrtOk (i : Int) : Bool := decide (0 ≤ i) && decide (i.toNat.log2 < 13000)

def biD (b : Bi) (mu : Bool) (as : List D) (s : Sto) : R D := match b with
  | .len => match as with
    | [.str x] => if fit x.length = true then .ok (.int x.length) s else .bad
    | [x] => match seqOf s x with
      | some xs => .ok (.int xs.length) s
      | none => .bad
    | _ => .bad
  | .abs => match as with
    | [.int i] => .ok (.int (if i < 0 then -i else i)) s
    | _ => .bad
  | .int => match as with
    | [.int i] => .ok (.int i) s
    | [.bl b] => .ok (.int (if b then 1 else 0)) s
    | _ => .bad
  | .list => match as with
    | [x] => match seqOf s x with
      | some xs => allocL mu xs s
      | none => .bad
    | _ => .bad
  | .tuple => match as with
    | [.tup xs] => .ok (.tup xs) s
    | [x] => match lsR s x with
      | some xs => .ok (.tup xs) s
      | none => .bad
    | _ => .bad
  | .max2 => match as with
    | [.int i, .int j] => .ok (.int (if j > i then j else i)) s
    | _ => .bad
  | .min2 => match as with
    | [.int i, .int j] => .ok (.int (if j < i then j else i)) s
    | _ => .bad
  | .max1 => match as with
    | [x] => match lsR s x with
      | some xs => match mapO intO xs with
        | some (n :: ns) => .ok (.int (maxI n ns)) s
        | _ => .bad
      | none => .bad
    | _ => .bad
  | .min1 => match as with
    | [x] => match lsR s x with
      | some xs => match mapO intO xs with
        | some (n :: ns) => .ok (.int (minI n ns)) s
        | _ => .bad
      | none => .bad
    | _ => .bad
  | .sum => match as with
    | [x] => match lsR s x with
      | some xs => match mapO intO xs with
        | some ns => .ok (.int ns.sum) s
        | none => .bad
      | none => .bad
    | _ => .bad
  | .all => match as with
    | [x] => match lsR s x with
      | some xs => match mapO blO xs with
        | some bs => .ok (.bl (bs.all id)) s
        | none => .bad
      | none => .bad
    | _ => .bad
  | .any => match as with
    | [x] => match lsR s x with
      | some xs => match mapO blO xs with
        | some bs => .ok (.bl (bs.any id)) s
        | none => .bad
      | none => .bad
    | _ => .bad
  | .gcd => match as with
    | [.int a, .int b] => .ok (.int ((Nat.gcd a.natAbs b.natAbs : Nat) : Int)) s
    | _ => .bad
  | .isqrt => match as with
    | [.int i] => if isqrtOk i = true then .ok (.int ((PySem.Float64.isqrt i.toNat : Nat) : Int)) s else .bad
    | _ => .bad

def intsO : D → Option (List Int)
  | .tup ds => mapO intO ds
  | _ => none
/-- how many unlike ones -/
def countD : List (List Int) → Nat
  | [] => 0
  | k :: ks => if k ∈ ks then countD ks else countD ks + 1
def lsetD (x : D) (s : Sto) : R D := match x with
  | .tup xs => match mapO intsO xs with
    | some ks => if Nat.ble ks.length 63 = true then .ok (.int (countD ks : Nat)) s else .bad
    | none => .bad
  | _ => .bad

/-! ### places -/
def smallI (i : Int) : Bool := decide (-4611686018427387904 ≤ i) && decide (i < 4611686018427387904)
def ixN (n : Nat) (i : Int) : Option Nat := if 0 ≤ i then (if i < n then some i.toNat else none) else if -(n : Int) ≤ i then some (i + n).toNat else none
def atI {α : Type} (xs : List α) (i : Int) : Option α := match ixN xs.length i with
  | some j => xs[j]?
  | none => none
def subD (x i : D) (s : Sto) : R D := match i with
  | .int k => match x with
    | .str _ => .bad
    | x => match seqOf s x with
      | some xs => match atI xs k with
        | some d => .ok d s
        | none => .bad
      | none => .bad
  | _ => .bad
/-- a slice's end: n places, d where none is written -/
def sIx (n d : Nat) : Option Int → Nat
  | none => d
  | some i => if i < 0 then (i + n).toNat else min i.toNat n
def cut {α : Type} (xs : List α) (lo hi : Option Int) : List α := (xs.drop (sIx xs.length 0 lo)).take (sIx xs.length xs.length hi - sIx xs.length 0 lo)
def partO : D → Option (Option Int)
  | .non => some none
  | .int i => some (some i)
  | _ => none
def slcD (mu : Bool) (x : D) (l h : Option Int) (s : Sto) : R D := match x with
  | .tup xs => .ok (.tup (cut xs l h)) s
  | x => match lsR s x with
    | some xs => allocL mu (cut xs l h) s
    | none => .bad

def revD (mu : Bool) (x : D) (s : Sto) : R D := match x with
  | .tup xs => .ok (.tup xs.reverse) s
  | x => match lsR s x with
    | some xs => allocL mu xs.reverse s
    | none => .bad
/-- a list's methods that change it: the answer, the list behind it -/
def meL (m : Me) (ys as : List D) : Option (D × List D) := match m with
  | .append => match as with
    | [d] => if ys.length < 16777216 then some (.non, ys ++ [d]) else none
    | _ => none
  | .pop => match as with
    | [] => match ys[ys.length - 1]? with
      | some y => some (y, ys.dropLast)
      | none => none
    | _ => none
  | .popAt => match as with
    | [.int k] => if smallI k = true then (match ixN ys.length k with
      | some j => match ys[j]? with
        | some y => some (y, ys.eraseIdx j)
        | none => none
      | none => none) else none
    | _ => none
def meD (m : Me) (i : Nat) (as : List D) (s : Sto) : R D := match s[i]? with
  | some ys => match meL m ys as with
    | some (d, zs) => .ok d (s.set i zs)
    | none => .bad
  | none => .bad

/-! ### targets, loops -/
def setT (s : Sto) : Tg → D → Env → Option Env
  | .name i, d, ρ => some (ρ.set i (some d))
  | .tup l, d, ρ => match seqOf s d with
    | some xs => setTs l xs ρ
    | none => none
  | .nil, _, _ => none
  | .cons _ _, _, _ => none
where setTs : Tg → List D → Env → Option Env
  | .nil, [], ρ => some ρ
  | .cons a r, x :: xs, ρ => match setT s a x ρ with
    | some ρ' => setTs r xs ρ'
    | none => none
  | _, _, _ => none

def wipe (ρ : Env) : List Nat → Env
  | [] => ρ
  | v :: vs => (wipe ρ vs).set v none

/-- what is walked: written items, or a list of the store as it stands at each turn -/
@[inline] def R.calm {α β : Type} (r : R α) (f : α → Sto → R β) : R β := match r with
  | .ok a s => f a s
  | _ => .bad
@[simp] theorem R.calm_ok {α β : Type} (a : α) (s : Sto) (f : α → Sto → R β) : (R.ok a s).calm f = f a s := rfl
@[simp] theorem R.calm_exc {α β : Type} (c : Nat) (s : Sto) (f : α → Sto → R β) : (R.exc c s : R α).calm f = .bad := rfl
@[simp] theorem R.calm_bad {α β : Type} (f : α → Sto → R β) : (R.bad : R α).calm f = .bad := rfl
def compL (f : D → Sto → R (Option D)) : List D → List D → Sto → R (List D)
  | [], acc, s => .ok acc s
  | x :: xs, acc, s => (f x s).calm fun o s' => match o with
    | some y => compL f xs (acc ++ [y]) s'
    | none => compL f xs acc s'
def compM (f : D → Sto → R (Option D)) (g : Sto → Option (List D)) : Nat → Nat → List D → Sto → R (List D)
  | 0, i, acc, s => match g s with
    | some xs => if xs.length ≤ i then .ok acc s else .bad
    | none => .bad
  | n + 1, i, acc, s => match g s with
    | some xs => match xs[i]? with
      | some x => (f x s).calm fun o s' => match o with
        | some y => compM f g n (i + 1) (acc ++ [y]) s'
        | none => compM f g n (i + 1) acc s'
      | none => .bad
    | none => .bad

def rngL (lo : Int) : Nat → List D
  | 0 => []
  | n + 1 => .int lo :: rngL (lo + 1) n
def rngD (as : List D) (s : Sto) : R D := match as with
  | [.int n] => if smallI n = true then .ok (.lst (rngL 0 n.toNat)) s else .bad
  | [.int a, .int b] => if (smallI a && smallI b) = true then .ok (.lst (rngL a (b - a).toNat)) s else .bad
  | _ => .bad
def zipL : List D → List D → List D
  | x :: xs, y :: ys => .tup [x, y] :: zipL xs ys
  | _, _ => []
def lsF : D → Option (List D)
  | .lst xs => some xs
  | .rl xs => some xs
  | _ => none
def zipD (x y : D) (s : Sto) : R D := match x, y with
  | .tup xs, .tup ys => .ok (.lst (zipL xs ys)) s
  | .cel i, y => match lsF y with
    | some ys => .ok (.zc i ys) s
    | none => .bad
  | x, y => match lsF x, lsF y with
    | some xs, some ys => .ok (.lst (zipL xs ys)) s
    | _, _ => .bad
def enumL (k : Int) : List D → List D
  | [] => []
  | x :: xs => .tup [.int k, x] :: enumL (k + 1) xs
def enumD (x : D) (s : Sto) : R D := match lsF x with
  | some xs => .ok (.lst (enumL 0 xs)) s
  | none => .bad

/-- a turn of a comprehension -/
def itemZ (c e : Env → Sto → R D) (own : List Nat) (tg : Tg) (ρ : Env) : D → Sto → R (Option D) := fun y s => match setT s tg y (wipe ρ own) with
  | some ρ' => (c ρ' s).bind fun t s => match t with
    | .bl true => (e ρ' s).bind fun z s => .ok (some z) s
    | .bl false => .ok none s
    | _ => .bad
  | none => .bad
/-- how a walk's datum is looked up -/
def gOf : D → Option (Sto → Option (List D))
  | .lst xs => some fun _ => some xs
  | .cel i => some fun S => S[i]?
  | .zc i ys => some fun S => match S[i]? with
    | some xs => some (zipL xs ys)
    | none => none
  | _ => none
def compZ (f : D → Sto → R (Option D)) (mu : Bool) : D → Sto → R D := fun x s => match x with
  | .lst xs => if fit xs.length = true then (compL f xs [] s).bind fun ys s => allocL mu ys s else .bad
  | x => match gOf x with
    | some g => match g s with
      | some xs => if fit xs.length = true then (compM f g xs.length 0 [] s).bind fun ys s => allocL mu ys s else .bad
      | none => .bad
    | none => .bad

/-! ### what expressions mean -/
def den : RE → PC → Env → Sto → R D
  | .var i, _, ρ, s => match ρ[i]? with
    | some (some d) => .ok d s
    | _ => .bad
  | .c d, _, _, s => .ok d s
  | .gl n, _, _, s => .ok (.fn n) s
  | .nil, _, _, s => .ok (.lst []) s
  | .cons a r, P, ρ, s => (den a P ρ s).bind fun x s => (den r P ρ s).bind fun ys s => match ys with
    | .lst xs => .ok (.lst (x :: xs)) s
    | _ => .bad
  | .tup l, P, ρ, s => (den l P ρ s).bind fun ys s => match ys with
    | .lst xs => .ok (.tup xs) s
    | _ => .bad
  | .lst mu l, P, ρ, s => (den l P ρ s).bind fun ys s => match ys with
    | .lst xs => allocL mu xs s
    | _ => .bad
  | .bin op mu a b, P, ρ, s => (den a P ρ s).bind fun x s => (den b P ρ s).bind fun y s => binD op mu x y s
  | .neg a, P, ρ, s => (den a P ρ s).bind fun x s => match x with
    | .int i => .ok (.int (-i)) s
    | _ => .bad
  | .cmp op a b, P, ρ, s => (den a P ρ s).bind fun x s => (den b P ρ s).bind fun y s => cmpD op x y s
  | .chain o1 o2 a b c, P, ρ, s => (den a P ρ s).bind fun x s => (den b P ρ s).bind fun y s => (cmpD o1 x y s).bind fun t s => match t with
    | .bl true => (den c P ρ s).bind fun z s => cmpD o2 y z s
    | .bl false => .ok (.bl false) s
    | _ => .bad
  | .and a b, P, ρ, s => (den a P ρ s).bind fun x s => match x with
    | .bl true => den b P ρ s
    | .bl false => .ok (.bl false) s
    | _ => .bad
  | .or a b, P, ρ, s => (den a P ρ s).bind fun x s => match x with
    | .bl true => .ok (.bl true) s
    | .bl false => den b P ρ s
    | _ => .bad
  | .not a, P, ρ, s => (den a P ρ s).bind fun x s => match x with
    | .bl b => .ok (.bl (!b)) s
    | _ => .bad
  | .ite c a b, P, ρ, s => (den c P ρ s).bind fun x s => match x with
    | .bl true => den a P ρ s
    | .bl false => den b P ρ s
    | _ => .bad
  | .call n l, P, ρ, s => (den l P ρ s).bind fun ys s => match ys with
    | .lst xs => P.call n xs s
    | _ => .bad
  | .callv i l, P, ρ, s => match ρ[i]? with
    | some (some (.fn n)) => (den l P ρ s).bind fun ys s => match ys with
      | .lst xs => P.call n xs s
      | _ => .bad
    | _ => .bad
  | .bi b mu l, P, ρ, s => (den l P ρ s).bind fun ys s => match ys with
    | .lst xs => biD b mu xs s
    | _ => .bad
  | .isi a t, P, ρ, s => (den a P ρ s).bind fun x s => ob (isiD x t) s
  | .sub a i, P, ρ, s => (den a P ρ s).bind fun x s => (den i P ρ s).bind fun y s => subD x y s
  | .slc mu a lo hi, P, ρ, s => (den a P ρ s).bind fun x s => (den lo P ρ s).bind fun l s => match partO l with
    | some l => (den hi P ρ s).bind fun h s => match partO h with
      | some h => slcD mu x l h s
      | none => .bad
    | none => .bad
  | .rev mu a, P, ρ, s => (den a P ρ s).bind fun x s => revD mu x s
  | .meth m a l, P, ρ, s => (den a P ρ s).bind fun x s => match x with
    | .cel i => (den l P ρ s).bind fun ys s => match ys with
      | .lst xs => meD m i xs s
      | _ => .bad
    | _ => .bad
  | .comp mu elt own tg it cond, P, ρ, s => (den it P ρ s).bind (compZ (itemZ (den cond P) (den elt P) own tg ρ) mu)
  | .seq a, P, ρ, s => (den a P ρ s).bind fun x s => match x with
    | .tup xs => .ok (.lst xs) s
    | .lst xs => .ok (.lst xs) s
    | .rl xs => .ok (.lst xs) s
    | .cel i => .ok (.cel i) s
    | _ => .bad
  | .rng l, P, ρ, s => (den l P ρ s).bind fun ys s => match ys with
    | .lst xs => rngD xs s
    | _ => .bad
  | .zip a b, P, ρ, s => (den a P ρ s).bind fun x s => (den b P ρ s).bind fun y s => zipD x y s
  | .enum a, P, ρ, s => (den a P ρ s).bind fun x s => enumD x s
  | .lset a, P, ρ, s => (den a P ρ s).bind fun x s => lsetD x s
  | .lamc _ t e, P, ρ, s => match P.low with
    | some c => tdR t (den e ⟨c, none⟩ ρ s)
    | none => .bad

/-! ### what statements do -/
inductive F where
  | nx (ρ : Env) (s : Sto) | rt (d : D) (s : Sto) | bk (ρ : Env) (s : Sto) | ct (ρ : Env) (s : Sto) | ex (c : Nat) (ρ : Env) (s : Sto) | bad
@[inline] def R.fl (r : R D) (ρ : Env) (f : D → Sto → F) : F := match r with
  | .ok a s => f a s
  | .exc c s => .ex c ρ s
  | .bad => .bad
@[inline] def F.seq (r : F) (f : Env → Sto → F) : F := match r with
  | .nx ρ s => f ρ s
  | r => r
@[simp] theorem R.fl_ok (a : D) (s : Sto) (ρ : Env) (f : D → Sto → F) : (R.ok a s).fl ρ f = f a s := rfl
@[simp] theorem R.fl_exc (c : Nat) (s : Sto) (ρ : Env) (f : D → Sto → F) : (R.exc c s).fl ρ f = .ex c ρ s := rfl
@[simp] theorem R.fl_bad (ρ : Env) (f : D → Sto → F) : (R.bad : R D).fl ρ f = .bad := rfl
@[simp] theorem F.seq_nx (ρ : Env) (s : Sto) (f : Env → Sto → F) : (F.nx ρ s).seq f = f ρ s := rfl
@[simp] theorem F.seq_rt (d : D) (s : Sto) (f : Env → Sto → F) : (F.rt d s).seq f = .rt d s := rfl
@[simp] theorem F.seq_bk (ρ : Env) (s : Sto) (f : Env → Sto → F) : (F.bk ρ s).seq f = .bk ρ s := rfl
@[simp] theorem F.seq_ct (ρ : Env) (s : Sto) (f : Env → Sto → F) : (F.ct ρ s).seq f = .ct ρ s := rfl
@[simp] theorem F.seq_ex (c : Nat) (ρ : Env) (s : Sto) (f : Env → Sto → F) : (F.ex c ρ s).seq f = .ex c ρ s := rfl
@[simp] theorem F.seq_bad (f : Env → Sto → F) : F.bad.seq f = .bad := rfl
/-- the end of a loop's turn: k is the next turn -/
@[inline] def F.turn (r : F) (k : Env → Sto → F) : F := match r with
  | .nx ρ s => k ρ s
  | .ct ρ s => k ρ s
  | .bk ρ s => .nx ρ s
  | r => r
@[simp] theorem F.turn_nx (ρ : Env) (s : Sto) (f : Env → Sto → F) : (F.nx ρ s).turn f = f ρ s := rfl
@[simp] theorem F.turn_rt (d : D) (s : Sto) (f : Env → Sto → F) : (F.rt d s).turn f = .rt d s := rfl
@[simp] theorem F.turn_bk (ρ : Env) (s : Sto) (f : Env → Sto → F) : (F.bk ρ s).turn f = .nx ρ s := rfl
@[simp] theorem F.turn_ct (ρ : Env) (s : Sto) (f : Env → Sto → F) : (F.ct ρ s).turn f = f ρ s := rfl
@[simp] theorem F.turn_ex (c : Nat) (ρ : Env) (s : Sto) (f : Env → Sto → F) : (F.ex c ρ s).turn f = .ex c ρ s := rfl
@[simp] theorem F.turn_bad (f : Env → Sto → F) : F.bad.turn f = .bad := rfl

def forL (f : D → Env → Sto → F) : List D → Env → Sto → F
  | [], ρ, s => .nx ρ s
  | x :: xs, ρ, s => (f x ρ s).turn (forL f xs)
def forM (f : D → Env → Sto → F) (g : Sto → Option (List D)) : Nat → Nat → Env → Sto → F
  | 0, i, ρ, s => match g s with
    | some xs => if xs.length ≤ i then .nx ρ s else .bad
    | none => .bad
  | n + 1, i, ρ, s => match g s with
    | some xs => match xs[i]? with
      | some x => (f x ρ s).turn (forM f g n (i + 1))
      | none => .bad
    | none => .bad
def whL (c : Env → Sto → R D) (b : Env → Sto → F) : Nat → Env → Sto → F
  | 0, _, _ => .bad
  | n + 1, ρ, s => (c ρ s).fl ρ fun x s => match x with
    | .bl true => (b ρ s).turn (whL c b n)
    | .bl false => .nx ρ s
    | _ => .bad

def setL (s : Sto) (x i d : D) : Option Sto := match x, i with
  | .cel m, .int k => match s[m]? with
    | some xs => match ixN xs.length k with
      | some j => some (s.set m (xs.set j d))
      | none => none
    | none => none
  | _, _ => none

def ex : RS → PC → Env → Sto → F
  | .pass, _, ρ, s => .nx ρ s
  | .seq a b, P, ρ, s => (ex a P ρ s).seq (ex b P)
  | .set tg e, P, ρ, s => (den e P ρ s).fl ρ fun d s => match setT s tg d ρ with
    | some ρ' => .nx ρ' s
    | none => .bad
  | .ret e, P, ρ, s => (den e P ρ s).fl ρ fun d s => .rt d s
  | .ifs c a b, P, ρ, s => (den c P ρ s).fl ρ fun x s => match x with
    | .bl true => ex a P ρ s
    | .bl false => ex b P ρ s
    | _ => .bad
  | .for tg it body, P, ρ, s => (den it P ρ s).fl ρ fun x s =>
      let f := fun y ρ s => match setT s tg y ρ with
        | some ρ' => ex body P ρ' s
        | none => .bad
      match x with
        | .lst xs => forL f xs ρ s
        | x => match gOf x with
          | some g => match g s with
            | some xs => forM f g xs.length 0 ρ s
            | none => .bad
          | none => .bad
  | .wh n c body, P, ρ, s => whL (den c P) (ex body P) n ρ s
  | .drop e, P, ρ, s => (den e P ρ s).fl ρ fun _ s => .nx ρ s
  | .raise n, _, ρ, s => .ex n ρ s
  | .brk, _, ρ, s => .bk ρ s
  | .cont, _, ρ, s => .ct ρ s
  | .put a i e, P, ρ, s => (den e P ρ s).fl ρ fun d s => (den a P ρ s).fl ρ fun x s => (den i P ρ s).fl ρ fun k s => match setL s x k d with
    | some s' => .nx ρ s'
    | none => .bad

/-! ### a program -/
structure FD where
  arity : Nat
  slots : Nat
  body : RS
abbrev Tab := Nat → Option FD

def endF : F → R D
  | .nx _ s => .ok .non s
  | .rt d s => .ok d s
  | .ex c _ s => .exc c s
  | .bk _ _ => .bad
  | .ct _ _ => .bad
  | .bad => .bad

/-- a def run -/
def runC (G : Tab) (P : PC) : Nat → List D → M D := fun n as s => match G n with
  | some f => if as.length = f.arity then endF (ex f.body P (as.map some ++ List.replicate (f.slots - f.arity) none) s) else .bad
  | none => .bad
/-- the last three -/
def tri (G : Tab) : Nat → (Nat → List D → M D) × Option (Nat → List D → M D) × Option (Nat → List D → M D)
  | 0 => (noC, none, none)
  | k + 1 => (runC G ⟨(tri G k).1, (tri G k).2.2⟩, some (tri G k).1, (tri G k).2.1)
def call (G : Tab) (k : Nat) : Nat → List D → M D := (tri G k).1
def low (G : Tab) (k : Nat) : Option (Nat → List D → M D) := (tri G k).2.2
theorem low_some (G : Tab) {k : Nat} {c : Nat → List D → M D} (h : low G k = some c) : ∃ j, k = j + 2 ∧ c = call G j := by
  match k, h with
  | 0, h => cases h
  | 1, h => cases h
  | j + 2, h => exact ⟨j, rfl, (Option.some.inj h).symm⟩
theorem low_eq (G : Tab) (k : Nat) : low G (k + 2) = some (call G k) := rfl
theorem call_zero (G : Tab) : call G 0 = noC := rfl
theorem call_succ (G : Tab) (k : Nat) : call G (k + 1) = runC G ⟨call G k, low G k⟩ := rfl
end Px
end

section
set_option Elab.async false
set_option linter.all false
set_option maxRecDepth 100000
set_option maxHeartbeats 1000000
/-! Px: how data lie in the abstract heap; the store; what is kept. -/
namespace Px
open PySem PySem.Spec PyProof.Rows L2

/-- what is fixed of a program: its written part, the code tables, where its defs and classes stand -/
structure Fx where
  K : PySem.W.Frag
  T : List (Addr × Str)
  fa : Nat → Addr
  ca : Nat → Addr
  kn : Nat → Bool

/-- the addresses of the store's lists; the lists that are being made -/
structure Ad where
  c : List Addr
  o : List Addr
instance : Membership Addr Ad := ⟨fun A a => a ∈ A.c ∨ a ∈ A.o⟩
def Ad.add (A : Ad) (p : Addr) : Ad := ⟨A.c ++ [p], A.o⟩
def Ad.opn (A : Ad) (p : Addr) : Ad := ⟨A.c, p :: A.o⟩

section
variable (X : Fx)
/-- a list that nobody changes -/
def RdL (K : PySem.W.Frag) (H : Hp) (a : Addr) (xs : List V) : Prop :=
  (∃ o, H a = some (.frz o (.lst xs))) ∨
    ∃ (o : Obj) (its : Array Value) (n : Nat), K.lookup a = some o ∧ o.cls = .type "list" ∧ o.dict = none ∧ o.data = .seq its n ∧ its.size ≤ sizeLine ∧ Vals xs its.toList
/-- a list that stays as it is -/
def FxL (K : PySem.W.Frag) (H : Hp) (as : Ad) (a : Addr) (vs : List V) : Prop := RdL K H a vs ∨ (H a = some (.lst vs) ∧ a ∉ as)
mutual
inductive Rep (H : Hp) (as : Ad) : D → V → Prop
  | non : Rep H as .non .non
  | bl (b : Bool) : Rep H as (.bl b) (.bl b)
  | int (i : Int) : Rep H as (.int i) (.int i)
  | str (x : Str) : Rep H as (.str x) (.str x)
  | tup {a : Addr} {vs : List V} {ds : List D} : SqT X.K H a vs → vs.length ≤ sizeLine → RepL H as ds vs → Rep H as (.tup ds) (.ref a)
  | lst {a : Addr} {vs : List V} {ds : List D} : H a = some (.lst vs) → a ∉ as → vs.length ≤ sizeLine → RepL H as ds vs → Rep H as (.lst ds) (.ref a)
  | rl {a : Addr} {vs : List V} {ds : List D} : FxL X.K H as a vs → vs.length ≤ sizeLine → RepL H as ds vs → Rep H as (.rl ds) (.ref a)
  | cel {i : Nat} {a : Addr} : as.c[i]? = some a → Rep H as (.cel i) (.ref a)
  | fn (n : Nat) : X.kn n = true → Rep H as (.fn n) (.ref (X.fa n))
inductive RepL (H : Hp) (as : Ad) : List D → List V → Prop
  | nil : RepL H as [] []
  | cons {d : D} {v : V} {ds : List D} {vs : List V} : Rep H as d v → RepL H as ds vs → RepL H as (d :: ds) (v :: vs)
end

/-- what is kept on the way from H to H' -/
structure Ext (H : Hp) (as : Ad) (H' : Hp) (as' : Ad) : Prop where
  keep : ∀ b o, H b = some o → (∀ ps, o ≠ .tbl ps) → (b ∈ as.c → ∀ vs, o ≠ .lst vs) → H' b = some o
  there : ∀ b vs, H b = some (.lst vs) → ∃ us, H' b = some (.lst us)
  more : ∃ t, as'.c = as.c ++ t ∧ ∀ a ∈ t, ∀ vs, H a ≠ some (.lst vs)
  opn : as'.o = as.o
/-- the store lies in the heap -/
structure Wd (H : Hp) (as : Ad) (S : Sto) : Prop where
  len : as.c.length = S.length
  nd : as.c.Nodup
  od : as.o.Nodup
  op : ∀ a ∈ as.o, a ∉ as.c ∧ ∃ vs, H a = some (.lst vs)
  cell : ∀ (i : Nat) (a : Addr) (ds : List D), as.c[i]? = some a → S[i]? = some ds → ∃ vs, H a = some (.lst vs) ∧ vs.length ≤ sizeLine ∧ RepL X H as ds vs
  tabs : LamX.Tabs X.T H
end

section
variable {X : Fx} {H H1 H2 H' : Hp} {as as1 as2 as' : Ad} {S S' : Sto}
theorem RepL.length : ∀ {ds : List D} {vs : List V}, RepL X H as ds vs → ds.length = vs.length
  | _, _, .nil => rfl
  | _, _, .cons _ r => congrArg Nat.succ (RepL.length r)
theorem RepL.append : ∀ {ds es : List D} {vs ws : List V}, RepL X H as ds vs → RepL X H as es ws → RepL X H as (ds ++ es) (vs ++ ws)
  | _, _, _, _, .nil, s => s
  | _, _, _, _, .cons r t, s => .cons r (RepL.append t s)
theorem RepL.take : ∀ {ds : List D} {vs : List V} (n : Nat), RepL X H as ds vs → RepL X H as (ds.take n) (vs.take n)
  | _, _, 0, _ => by rw [List.take_zero, List.take_zero]; exact .nil
  | _, _, _ + 1, .nil => .nil
  | _, _, n + 1, .cons r t => .cons r (RepL.take n t)
theorem RepL.drop : ∀ {ds : List D} {vs : List V} (n : Nat), RepL X H as ds vs → RepL X H as (ds.drop n) (vs.drop n)
  | _, _, 0, r => r
  | _, _, _ + 1, .nil => .nil
  | _, _, n + 1, .cons _ t => RepL.drop n t
theorem RepL.get : ∀ {ds : List D} {vs : List V} {i : Nat} {d : D}, RepL X H as ds vs → ds[i]? = some d → ∃ v, vs[i]? = some v ∧ Rep X H as d v
  | _, _, _, _, .nil, e => by simp at e
  | _, _, 0, _, .cons r _, e => by simp at e; subst e; exact ⟨_, rfl, r⟩
  | _, _, i + 1, _, .cons _ t, e => RepL.get (i := i) t (by simpa using e)
theorem RepL.get' : ∀ {ds : List D} {vs : List V} {i : Nat} {v : V}, RepL X H as ds vs → vs[i]? = some v → ∃ d, ds[i]? = some d ∧ Rep X H as d v
  | _, _, _, _, .nil, e => by simp at e
  | _, _, 0, _, .cons r _, e => by simp at e; subst e; exact ⟨_, rfl, r⟩
  | _, _, i + 1, _, .cons _ t, e => RepL.get' (i := i) t (by simpa using e)
theorem RepL.set {d : D} {v : V} (r : Rep X H as d v) : ∀ {ds : List D} {vs : List V} (i : Nat), RepL X H as ds vs → RepL X H as (ds.set i d) (vs.set i v)
  | _, _, _, .nil => .nil
  | _, _, 0, .cons _ t => .cons r t
  | _, _, i + 1, .cons q t => .cons q (RepL.set r i t)
theorem RepL.replicate {ds : List D} {vs : List V} (r : RepL X H as ds vs) : ∀ n : Nat, RepL X H as (List.replicate n ds).flatten (List.replicate n vs).flatten
  | 0 => .nil
  | n + 1 => by
    rw [List.replicate_succ, List.replicate_succ, List.flatten_cons, List.flatten_cons]
    exact r.append (RepL.replicate r n)

theorem Ext.refl : Ext H as H as := ⟨fun _ _ e _ _ => e, fun _ o e => ⟨o, e⟩, ⟨[], by simp, fun _ h => by cases h⟩, rfl⟩
theorem Ext.free (e : Ext H as H1 as1) {b : Addr} (h : ∀ vs, H1 b ≠ some (.lst vs)) : ∀ vs, H b ≠ some (.lst vs) := fun vs q => by
  obtain ⟨us, z⟩ := e.there b vs q
  exact h us z
theorem Ext.mem (e : Ext H as H1 as1) {b : Addr} {vs : List V} (q : H b = some (.lst vs)) (m : b ∈ as1) : b ∈ as := by
  obtain ⟨t, ht, nt⟩ := e.more
  have m : b ∈ as1.c ∨ b ∈ as1.o := m
  show b ∈ as.c ∨ b ∈ as.o
  rw [ht, e.opn] at m
  rcases m with m | m
  · rcases List.mem_append.mp m with m | m
    · exact .inl m
    · exact absurd q (nt b m vs)
  · exact .inr m
theorem Ext.memc (e : Ext H as H1 as1) {b : Addr} {vs : List V} (q : H b = some (.lst vs)) (m : b ∈ as1.c) : b ∈ as.c := by
  obtain ⟨t, ht, nt⟩ := e.more
  rw [ht] at m
  rcases List.mem_append.mp m with m | m
  · exact m
  · exact absurd q (nt b m vs)
theorem Ext.trans (e : Ext H as H1 as1) (f : Ext H1 as1 H2 as2) : Ext H as H2 as2 := by
  obtain ⟨t, ht, nt⟩ := e.more
  obtain ⟨u, hu, nu⟩ := f.more
  refine ⟨fun b o q n1 n2 => f.keep b o (e.keep b o q n1 n2) n1 fun m vs z => ?_, fun b o q => ?_, ⟨t ++ u, by rw [hu, ht, List.append_assoc], fun a m => ?_⟩, by rw [f.opn, e.opn]⟩
  · rw [z] at q
    exact n2 (e.memc q m) vs z
  · obtain ⟨o', q'⟩ := e.there b o q
    exact f.there b o' q'
  · rcases List.mem_append.mp m with m | m
    · exact nt a m
    · exact e.free (nu a m)
theorem Ext.at {i : Nat} {a : Addr} (e : Ext H as H1 as1) (h : as.c[i]? = some a) : as1.c[i]? = some a := by
  obtain ⟨t, ht, _⟩ := e.more
  rw [ht, List.getElem?_append_left (List.getElem?_eq_some_iff.mp h).1]
  exact h
theorem Ext.tup {K : PySem.W.Frag} {a : Addr} {vs : List V} (e : Ext H as H1 as1) (h : SqT K H a vs) : SqT K H1 a vs := by
  rcases h with (h | ⟨o, h⟩) | h
  · exact .inl (.inl (e.keep _ _ h (fun _ z => by cases z) fun _ _ z => by cases z))
  · exact .inl (.inr ⟨o, e.keep _ _ h (fun _ z => by cases z) fun _ _ z => by cases z⟩)
  · exact .inr h
theorem Ext.rdl {K : PySem.W.Frag} {a : Addr} {vs : List V} (e : Ext H as H1 as1) (h : RdL K H a vs) : RdL K H1 a vs := by
  rcases h with ⟨o, h⟩ | h
  · exact .inl ⟨o, e.keep _ _ h (fun _ z => by cases z) fun _ _ z => by cases z⟩
  · exact .inr h
theorem Ext.out {a : Addr} {vs : List V} (e : Ext H as H1 as1) (h : H a = some (.lst vs)) (n : a ∉ as) : a ∉ as1 := fun m => n (e.mem h m)
theorem RdL.sq {K : PySem.W.Frag} {a : Addr} {vs : List V} (h : RdL K H a vs) : SqL K H a vs := by
  rcases h with ⟨o, h⟩ | h
  · exact .inl (.inr ⟨o, h⟩)
  · exact .inr h
theorem FxL.sq {K : PySem.W.Frag} {a : Addr} {vs : List V} (h : FxL K H as a vs) : SqL K H a vs := by
  rcases h with h | ⟨h, _⟩
  · exact h.sq
  · exact .inl (.inl h)
theorem FxL.ext {K : PySem.W.Frag} {a : Addr} {vs : List V} (e : Ext H as H1 as1) (h : FxL K H as a vs) : FxL K H1 as1 a vs := by
  rcases h with h | ⟨h, n⟩
  · exact .inl (e.rdl h)
  · exact .inr ⟨e.keep _ _ h (fun _ z => by cases z) fun m => absurd (.inl m) n, e.out h n⟩
mutual
theorem Rep.ext (e : Ext H as H1 as1) : ∀ {d : D} {v : V}, Rep X H as d v → Rep X H1 as1 d v
  | _, _, .non => .non
  | _, _, .bl b => .bl b
  | _, _, .int i => .int i
  | _, _, .str x => .str x
  | _, _, .tup h z r => .tup (e.tup h) z (RepL.ext e r)
  | _, _, .lst h n z r => .lst (e.keep _ _ h (fun _ z => by cases z) fun m => absurd (.inl m) n) (e.out h n) z (RepL.ext e r)
  | _, _, .rl h z r => .rl (h.ext e) z (RepL.ext e r)
  | _, _, .cel h => .cel (e.at h)
  | _, _, .fn n h => .fn n h
theorem RepL.ext (e : Ext H as H1 as1) : ∀ {ds : List D} {vs : List V}, RepL X H as ds vs → RepL X H1 as1 ds vs
  | _, _, .nil => .nil
  | _, _, .cons r t => .cons (Rep.ext e r) (RepL.ext e t)
end

/-- the slots of a frame -/
def EnvR (X : Fx) (H : Hp) (as : Ad) (ρ : Env) (σ : L2.St) : Prop := ρ.length = σ.length ∧ ∀ (i : Nat) (d : D), ρ[i]? = some (some d) → ∃ v, σ[i]? = some (some v) ∧ Rep X H as d v
theorem EnvR.ext {ρ : Env} {σ : L2.St} (e : Ext H as H1 as1) (h : EnvR X H as ρ σ) : EnvR X H1 as1 ρ σ := ⟨h.1, fun i d q => by
  obtain ⟨v, h1, h2⟩ := h.2 i d q
  exact ⟨v, h1, h2.ext e⟩⟩
theorem EnvR.set {ρ : Env} {σ : L2.St} {d : D} {v : V} (h : EnvR X H as ρ σ) (r : Rep X H as d v) (i : Nat) : EnvR X H as (ρ.set i (some d)) (σ.set i (some v)) := by
  refine ⟨by rw [List.length_set, List.length_set]; exact h.1, fun j d' q => ?_⟩
  by_cases e : i = j
  · subst e
    by_cases hl : i < ρ.length
    · rw [List.getElem?_set_self hl] at q
      rw [List.getElem?_set_self (by rw [← h.1]; exact hl)]
      cases q
      exact ⟨v, rfl, r⟩
    · rw [List.getElem?_eq_none (by rw [List.length_set]; omega)] at q
      cases q
  · rw [List.getElem?_set_ne e] at q ⊢
    exact h.2 j d' q
theorem EnvR.wipe {ρ : Env} {σ : L2.St} (h : EnvR X H as ρ σ) : ∀ vs : List Nat, EnvR X H as (Px.wipe ρ vs) (L2.wipe σ vs)
  | [] => h
  | v :: vs => by
    have ih := EnvR.wipe h vs
    refine ⟨by show ((Px.wipe ρ vs).set v none).length = ((L2.wipe σ vs).set v none).length; rw [List.length_set, List.length_set]; exact ih.1, fun j d q => ?_⟩
    have q : ((Px.wipe ρ vs).set v none)[j]? = some (some d) := q
    show ∃ x, ((L2.wipe σ vs).set v none)[j]? = some (some x) ∧ _
    by_cases e : v = j
    · subst e
      by_cases hl : v < (Px.wipe ρ vs).length
      · rw [List.getElem?_set_self hl] at q
        cases q
      · rw [List.getElem?_eq_none (by rw [List.length_set]; omega)] at q
        cases q
    · rw [List.getElem?_set_ne e] at q ⊢
      exact ih.2 j d q

/-! ### the ways on -/
theorem tabs_new {T : List (Addr × Str)} {p : Addr} {o : HO} (t : LamX.Tabs T H) (n : H p = none) : LamX.Tabs T (upd H p o) := t.ext fun b o' e => by
  rw [upd_ne (ne_of_none e n)]
  exact e
/-- a new object, not of the store -/
theorem Ext.new {p : Addr} {o : HO} (n : H p = none) : Ext H as (upd H p o) as :=
  ⟨fun b o' e _ _ => by rw [upd_ne (ne_of_none e n)]; exact e, fun b o' e => ⟨o', by rw [upd_ne (ne_of_none e n)]; exact e⟩, ⟨[], by simp, fun _ h => by cases h⟩, rfl⟩
theorem Wd.mem (w : Wd X H as S) {a : Addr} (h : a ∈ as) : ∃ vs, H a = some (.lst vs) := by
  have h : a ∈ as.c ∨ a ∈ as.o := h
  rcases h with h | h
  · obtain ⟨i, hi, e⟩ := List.mem_iff_getElem.mp h
    have hs : i < S.length := by rw [← w.len]; exact hi
    obtain ⟨vs, h1, _⟩ := w.cell i a S[i] (by rw [List.getElem?_eq_getElem hi, e]) (List.getElem?_eq_getElem hs)
    exact ⟨vs, h1⟩
  · exact (w.op a h).2
theorem Wd.notMem (w : Wd X H as S) {a : Addr} (n : H a = none) : a ∉ as := fun h => by
  obtain ⟨vs, z⟩ := w.mem h
  rw [n] at z
  cases z
theorem Wd.new {p : Addr} {o : HO} (w : Wd X H as S) (n : H p = none) : Wd X (upd H p o) as S := by
  refine ⟨w.len, w.nd, w.od, fun a h => ?_, fun i a ds h1 h2 => ?_, tabs_new w.tabs n⟩
  · obtain ⟨h1, vs, h2⟩ := w.op a h
    exact ⟨h1, vs, by rw [upd_ne (ne_of_none h2 n)]; exact h2⟩
  · obtain ⟨vs, e, z, r⟩ := w.cell i a ds h1 h2
    exact ⟨vs, by rw [upd_ne (ne_of_none e n)]; exact e, z, r.ext (Ext.new n)⟩
/-- a lambda is made: all but the tables stay -/
theorem Ext.ofN (e : LamX.ExtN H H') : Ext H as H' as :=
  ⟨fun b o q n _ => e b o q n, fun b vs q => ⟨vs, e b _ q fun ps z => by cases z⟩, ⟨[], by simp, fun _ h => by cases h⟩, rfl⟩
theorem Wd.ofN (w : Wd X H as S) (e : LamX.ExtN H H') (t : LamX.Tabs X.T H') : Wd X H' as S := by
  refine ⟨w.len, w.nd, w.od, fun a h => ?_, fun i a ds h1 h2 => ?_, t⟩
  · obtain ⟨h1, vs, h2⟩ := w.op a h
    exact ⟨h1, vs, e _ _ h2 (fun ps z => by cases z)⟩
  · obtain ⟨vs, q, z, r⟩ := w.cell i a ds h1 h2
    exact ⟨vs, e _ _ q (fun ps z => by cases z), z, r.ext (Ext.ofN e)⟩
/-- a new list of the store -/
theorem Ext.newM {p : Addr} {o : HO} (n : H p = none) : Ext H as (upd H p o) (as.add p) :=
  ⟨fun b o' e _ _ => by rw [upd_ne (ne_of_none e n)]; exact e, fun b o' e => ⟨o', by rw [upd_ne (ne_of_none e n)]; exact e⟩, ⟨[p], rfl, fun a h => by rw [List.mem_singleton.mp h]; exact fun vs z => by rw [n] at z; cases z⟩, rfl⟩
theorem Wd.newM {p : Addr} {vs : List V} {ds : List D} (w : Wd X H as S) (n : H p = none) (z : vs.length ≤ sizeLine) (r : RepL X H as ds vs) : Wd X (upd H p (.lst vs)) (as.add p) (S ++ [ds]) := by
  have ex : Ext H as (upd H p (.lst vs)) (as.add p) := Ext.newM n
  have nc : p ∉ as.c := fun h => w.notMem n (.inl h)
  refine ⟨by simp [Ad.add, w.len], ?_, w.od, fun a h => ?_, fun i a es h1 h2 => ?_, tabs_new w.tabs n⟩
  · show (as.c ++ [p]).Nodup
    rw [List.nodup_append]
    exact ⟨w.nd, by simp, fun a ha b hb => by rw [List.mem_singleton.mp hb]; exact fun z => nc (z ▸ ha)⟩
  · obtain ⟨h1, vs', h2⟩ := w.op a h
    refine ⟨fun m => ?_, vs', by rw [upd_ne (ne_of_none h2 n)]; exact h2⟩
    rcases List.mem_append.mp (show a ∈ as.c ++ [p] from m) with m | m
    · exact h1 m
    · rw [List.mem_singleton.mp m, n] at h2
      cases h2
  · have h1 : (as.c ++ [p])[i]? = some a := h1
    by_cases hi : i < as.c.length
    · rw [List.getElem?_append_left hi] at h1
      rw [List.getElem?_append_left (by rw [← w.len]; exact hi)] at h2
      obtain ⟨us, e, z', r'⟩ := w.cell i a es h1 h2
      exact ⟨us, by rw [upd_ne (ne_of_none e n)]; exact e, z', r'.ext ex⟩
    · have hj : i = as.c.length := by
        have := (List.getElem?_eq_some_iff.mp h1).1
        simp at this
        omega
      subst hj
      have e1 : p = a := by simpa using h1
      have e2 : ds = es := by
        rw [w.len] at h2
        simpa using h2
      subst e1 e2
      exact ⟨vs, upd_same, z, r.ext ex⟩
/-- a list of the store is written -/
theorem Ext.put {p : Addr} {vs : List V} (w : Wd X H as S) (m : p ∈ as.c) : Ext H as (upd H p (.lst vs)) as := by
  refine ⟨fun b o' e _ n => ?_, fun b o' e => ?_, ⟨[], by simp, fun _ h => by cases h⟩, rfl⟩
  · by_cases q : b = p
    · subst q
      obtain ⟨us, z⟩ := w.mem (.inl m)
      rw [z] at e
      cases e
      exact absurd rfl (n m us)
    · rw [upd_ne q]
      exact e
  · by_cases q : b = p
    · subst q
      exact ⟨_, upd_same⟩
    · exact ⟨o', by rw [upd_ne q]; exact e⟩
theorem Wd.tabs_put {p : Addr} {vs : List V} (w : Wd X H as S) (m : p ∈ as) : LamX.Tabs X.T (upd H p (.lst vs)) := fun q hq => by
  obtain ⟨ps, h1, h2, h3⟩ := w.tabs q hq
  obtain ⟨us, hp⟩ := w.mem m
  refine ⟨ps, by rw [upd_ne (ne_of h1 hp (by intro z; cases z))]; exact h1, h2, fun pos cv hc => ?_⟩
  obtain ⟨c, e1, e2⟩ := h3 pos cv hc
  refine ⟨c, e1, ?_⟩
  rw [upd_ne (ne_of e2 hp (by intro z; unfold LamX.CodeO at z; cases z))]
  exact e2
theorem Wd.put {i : Nat} {p : Addr} {vs : List V} {ds : List D} (w : Wd X H as S) (h : as.c[i]? = some p) (z : vs.length ≤ sizeLine) (r : RepL X H as ds vs) : Wd X (upd H p (.lst vs)) as (S.set i ds) := by
  have mc : p ∈ as.c := List.mem_of_getElem? h
  have m : p ∈ as := .inl mc
  have ex : Ext H as (upd H p (.lst vs)) as := Ext.put w mc
  have hi : i < as.c.length := (List.getElem?_eq_some_iff.mp h).1
  refine ⟨by rw [List.length_set]; exact w.len, w.nd, w.od, fun a ha => ?_, fun j a es h1 h2 => ?_, w.tabs_put m⟩
  · obtain ⟨g1, vs', g2⟩ := w.op a ha
    have ne : a ≠ p := fun e => g1 (e ▸ mc)
    exact ⟨g1, vs', by rw [upd_ne ne]; exact g2⟩
  · by_cases e : i = j
    · subst e
      rw [List.getElem?_set_self (by rw [← w.len]; exact hi)] at h2
      rw [h] at h1
      cases h1
      cases h2
      exact ⟨vs, upd_same, z, r.ext ex⟩
    · rw [List.getElem?_set_ne e] at h2
      obtain ⟨us, e', z', r'⟩ := w.cell j a es h1 h2
      have ne : a ≠ p := fun q => by
        subst q
        exact e ((List.getElem_inj w.nd).mp ((List.getElem?_eq_some_iff.mp h).2.trans (List.getElem?_eq_some_iff.mp h1).2.symm))
      exact ⟨us, by rw [upd_ne ne]; exact e', z', r'.ext ex⟩

/-! ### a list that is being made -/
theorem opn_mem {p b : Addr} : b ∈ as.opn p ↔ b = p ∨ b ∈ as := by
  show (b ∈ as.c ∨ b ∈ p :: as.o) ↔ b = p ∨ (b ∈ as.c ∨ b ∈ as.o)
  rw [List.mem_cons]
  constructor
  · rintro (h | h | h)
    · exact .inr (.inl h)
    · exact .inl h
    · exact .inr (.inr h)
  · rintro (h | h | h)
    · exact .inr (.inl h)
    · exact .inl h
    · exact .inr (.inr h)
theorem FxL.close {K : PySem.W.Frag} {a p : Addr} {vs : List V} (h : FxL K H (as.opn p) a vs) : FxL K H as a vs := by
  rcases h with h | ⟨h, n⟩
  · exact .inl h
  · exact .inr ⟨h, fun m => n (opn_mem.mpr (.inr m))⟩
theorem FxL.open {K : PySem.W.Frag} {a p : Addr} {o : HO} {vs : List V} (n : H p = none) (h : FxL K H as a vs) : FxL K (upd H p o) (as.opn p) a vs := by
  rcases h with h | ⟨h, m⟩
  · exact .inl ((Ext.new (as := as) n).rdl h)
  · exact .inr ⟨by rw [upd_ne (ne_of_none h n)]; exact h, fun q => (opn_mem.mp q).elim (fun e => by rw [e, n] at h; cases h) m⟩
mutual
/-- it is no longer being made -/
theorem Rep.close {p : Addr} : ∀ {d : D} {v : V}, Rep X H (as.opn p) d v → Rep X H as d v
  | _, _, .non => .non
  | _, _, .bl b => .bl b
  | _, _, .int i => .int i
  | _, _, .str x => .str x
  | _, _, .tup h z r => .tup h z (RepL.close r)
  | _, _, .lst h n z r => .lst h (fun m => n (opn_mem.mpr (.inr m))) z (RepL.close r)
  | _, _, .rl h z r => .rl h.close z (RepL.close r)
  | _, _, .cel h => .cel h
  | _, _, .fn n h => .fn n h
theorem RepL.close {p : Addr} : ∀ {ds : List D} {vs : List V}, RepL X H (as.opn p) ds vs → RepL X H as ds vs
  | _, _, .nil => .nil
  | _, _, .cons r t => .cons (Rep.close r) (RepL.close t)
end
mutual
/-- a new list begins to be made -/
theorem Rep.open {p : Addr} {o : HO} (n : H p = none) : ∀ {d : D} {v : V}, Rep X H as d v → Rep X (upd H p o) (as.opn p) d v
  | _, _, .non => .non
  | _, _, .bl b => .bl b
  | _, _, .int i => .int i
  | _, _, .str x => .str x
  | _, _, .tup h z r => .tup ((Ext.new (as := as) n).tup h) z (RepL.open n r)
  | _, _, .lst h m z r => .lst (by rw [upd_ne (ne_of_none h n)]; exact h) (fun q => (opn_mem.mp q).elim (fun e => by rw [e, n] at h; cases h) m) z (RepL.open n r)
  | _, _, .rl h z r => .rl (h.open n) z (RepL.open n r)
  | _, _, .cel h => .cel h
  | _, _, .fn n h => .fn n h
theorem RepL.open {p : Addr} {o : HO} (n : H p = none) : ∀ {ds : List D} {vs : List V}, RepL X H as ds vs → RepL X (upd H p o) (as.opn p) ds vs
  | _, _, .nil => .nil
  | _, _, .cons r t => .cons (Rep.open n r) (RepL.open n t)
end
theorem EnvR.open {ρ : Env} {σ : L2.St} {p : Addr} {o : HO} (n : H p = none) (h : EnvR X H as ρ σ) : EnvR X (upd H p o) (as.opn p) ρ σ := ⟨h.1, fun i d q => by
  obtain ⟨v, h1, h2⟩ := h.2 i d q
  exact ⟨v, h1, h2.open n⟩⟩
theorem Wd.open {p : Addr} {vs : List V} (w : Wd X H as S) (n : H p = none) : Wd X (upd H p (.lst vs)) (as.opn p) S := by
  have w' : Wd X (upd H p (.lst vs)) as S := w.new n
  refine ⟨w.len, w.nd, List.nodup_cons.mpr ⟨fun m => w.notMem n (.inr m), w.od⟩, fun a h => ?_, fun i a ds h1 h2 => ?_, w'.tabs⟩
  · rcases List.mem_cons.mp (show a ∈ p :: as.o from h) with e | h
    · rw [e]
      exact ⟨fun m => w.notMem n (.inl m), vs, upd_same⟩
    · exact w'.op a h
  · obtain ⟨us, e, z, r⟩ := w.cell i a ds h1 h2
    exact ⟨us, by rw [upd_ne (ne_of_none e n)]; exact e, z, r.open n⟩
theorem sqT_grow {K : PySem.W.Frag} {p a : Addr} {us ws vs : List V} (n : H p = some (.lst us)) (h : SqT K H a vs) : SqT K (upd H p (.lst ws)) a vs := by
  rcases h with (h | ⟨o, h⟩) | h
  · exact .inl (.inl (by rw [upd_ne (ne_of h n (by intro z; cases z))]; exact h))
  · exact .inl (.inr ⟨o, by rw [upd_ne (ne_of h n (by intro z; cases z))]; exact h⟩)
  · exact .inr h
theorem rdl_grow {K : PySem.W.Frag} {p a : Addr} {us ws vs : List V} (n : H p = some (.lst us)) (h : RdL K H a vs) : RdL K (upd H p (.lst ws)) a vs := by
  rcases h with ⟨o, h⟩ | h
  · exact .inl ⟨o, by rw [upd_ne (ne_of h n (by intro z; cases z))]; exact h⟩
  · exact .inr h
theorem FxL.grow {K : PySem.W.Frag} {p a : Addr} {us ws vs : List V} (n : H p = some (.lst us)) (h : FxL K H (as.opn p) a vs) : FxL K (upd H p (.lst ws)) (as.opn p) a vs := by
  rcases h with h | ⟨h, m⟩
  · exact .inl (rdl_grow n h)
  · exact .inr ⟨by rw [upd_ne (fun e => m (opn_mem.mpr (.inl e)))]; exact h, m⟩
mutual
theorem Rep.grow {p : Addr} {us ws : List V} (n : H p = some (.lst us)) : ∀ {d : D} {v : V}, Rep X H (as.opn p) d v → Rep X (upd H p (.lst ws)) (as.opn p) d v
  | _, _, .non => .non
  | _, _, .bl b => .bl b
  | _, _, .int i => .int i
  | _, _, .str x => .str x
  | _, _, .tup h z r => .tup (sqT_grow n h) z (RepL.grow n r)
  | _, _, .lst h m z r => .lst (by rw [upd_ne (fun e => m (opn_mem.mpr (.inl e)))]; exact h) m z (RepL.grow n r)
  | _, _, .rl h z r => .rl (h.grow n) z (RepL.grow n r)
  | _, _, .cel h => .cel h
  | _, _, .fn n h => .fn n h
theorem RepL.grow {p : Addr} {us ws : List V} (n : H p = some (.lst us)) : ∀ {ds : List D} {vs : List V}, RepL X H (as.opn p) ds vs → RepL X (upd H p (.lst ws)) (as.opn p) ds vs
  | _, _, .nil => .nil
  | _, _, .cons r t => .cons (Rep.grow n r) (RepL.grow n t)
end
theorem EnvR.grow {ρ : Env} {σ : L2.St} {p : Addr} {us ws : List V} (n : H p = some (.lst us)) (h : EnvR X H (as.opn p) ρ σ) : EnvR X (upd H p (.lst ws)) (as.opn p) ρ σ := ⟨h.1, fun i d q => by
  obtain ⟨v, h1, h2⟩ := h.2 i d q
  exact ⟨v, h1, h2.grow n⟩⟩
/-- the list that is being made grows -/
theorem Wd.grow {p : Addr} {us vs : List V} (w : Wd X H (as.opn p) S) (n : H p = some (.lst us)) : Wd X (upd H p (.lst vs)) (as.opn p) S := by
  have m : p ∈ as.opn p := opn_mem.mpr (.inl rfl)
  obtain ⟨np, _⟩ := w.op p (List.mem_cons_self)
  refine ⟨w.len, w.nd, w.od, fun a h => ?_, fun i a ds h1 h2 => ?_, w.tabs_put m⟩
  · obtain ⟨g1, us, g2⟩ := w.op a h
    by_cases e : a = p
    · exact ⟨g1, vs, by rw [e, upd_same]⟩
    · exact ⟨g1, us, by rw [upd_ne e]; exact g2⟩
  · obtain ⟨us, e, z, r⟩ := w.cell i a ds h1 h2
    have ne : a ≠ p := fun q => np (by
      have := List.mem_of_getElem? h1
      rw [q] at this
      exact this)
    exact ⟨us, by rw [upd_ne ne]; exact e, z, r.grow n⟩
/-- from a heap where it was not -/
theorem Ext.upd1 {p : Addr} {o : HO} (n : H p = none) (e : Ext H as H1 as1) : Ext H as (upd H1 p o) as1 := by
  refine ⟨fun b o' q n1 n2 => ?_, fun b o' q => ?_, e.more, e.opn⟩
  · rw [upd_ne (ne_of_none q n)]
    exact e.keep b o' q n1 n2
  · obtain ⟨o2, z⟩ := e.there b o' q
    exact ⟨o2, by rw [upd_ne (ne_of_none q n)]; exact z⟩
theorem Ext.thru {p : Addr} {a2 : Ad} (n : H p = none) (e : Ext H as H1 as1) (f : Ext H1 (as1.opn p) H2 a2) : ∃ as2, a2 = as2.opn p ∧ Ext H as H2 as2 := by
  obtain ⟨t, ht, nt⟩ := e.more
  obtain ⟨u, hu, nu⟩ := f.more
  have hu : a2.c = as1.c ++ u := hu
  have ho : a2.o = p :: as1.o := f.opn
  refine ⟨⟨a2.c, as1.o⟩, ?_, fun b o' q n1 n2 => ?_, fun b o' q => ?_, ⟨t ++ u, by show a2.c = _; rw [hu, ht, List.append_assoc], fun a m => ?_⟩, e.opn⟩
  · obtain ⟨c1, o1⟩ := a2
    have ho : o1 = p :: as1.o := ho
    rw [ho]
    rfl
  · exact f.keep b o' (e.keep b o' q n1 n2) n1 fun m vs z => by
      rw [z] at q
      exact n2 (e.memc q m) vs z
  · obtain ⟨o2, z⟩ := e.there b o' q
    exact f.there b o2 z
  · rcases List.mem_append.mp m with m | m
    · exact nt a m
    · exact e.free (nu a m)
theorem Ext.addc {p : Addr} (n : H p = none) (e : Ext H as H1 as1) : Ext H as H1 (as1.add p) := by
  obtain ⟨t, ht, nt⟩ := e.more
  refine ⟨e.keep, e.there, ⟨t ++ [p], by show as1.c ++ [p] = _; rw [ht, List.append_assoc], fun a m => ?_⟩, e.opn⟩
  rcases List.mem_append.mp m with m | m
  · exact nt a m
  · rw [List.mem_singleton.mp m]
    exact fun vs z => by rw [n] at z; cases z
/-- made at last: a list of its own -/
theorem Wd.shut {p : Addr} (w : Wd X H (as.opn p) S) : Wd X H as S := by
  refine ⟨w.len, w.nd, (List.nodup_cons.mp w.od).2, fun a h => w.op a (List.mem_cons_of_mem _ h), fun i a ds h1 h2 => ?_, w.tabs⟩
  obtain ⟨us, e, z, r⟩ := w.cell i a ds h1 h2
  exact ⟨us, e, z, r.close⟩
theorem add_mem {p b : Addr} : b ∈ as.add p ↔ b = p ∨ b ∈ as := by
  show (b ∈ as.c ++ [p] ∨ b ∈ as.o) ↔ b = p ∨ (b ∈ as.c ∨ b ∈ as.o)
  rw [List.mem_append, List.mem_singleton]
  constructor
  · rintro ((h | h) | h)
    · exact .inr (.inl h)
    · exact .inl h
    · exact .inr (.inr h)
  · rintro (h | h | h)
    · exact .inl (.inr h)
    · exact .inl (.inl h)
    · exact .inr h
theorem cAt {p a : Addr} {i : Nat} (h : as.c[i]? = some a) : (as.add p).c[i]? = some a := by
  show (as.c ++ [p])[i]? = some a
  rw [List.getElem?_append_left (List.getElem?_eq_some_iff.mp h).1]
  exact h
theorem FxL.toAdd {K : PySem.W.Frag} {a p : Addr} {vs : List V} (h : FxL K H (as.opn p) a vs) : FxL K H (as.add p) a vs := by
  rcases h with h | ⟨h, n⟩
  · exact .inl h
  · exact .inr ⟨h, fun m => n (opn_mem.mpr (add_mem.mp m))⟩
mutual
theorem Rep.toAdd {p : Addr} : ∀ {d : D} {v : V}, Rep X H (as.opn p) d v → Rep X H (as.add p) d v
  | _, _, .non => .non
  | _, _, .bl b => .bl b
  | _, _, .int i => .int i
  | _, _, .str x => .str x
  | _, _, .tup h z r => .tup h z (RepL.toAdd r)
  | _, _, .lst h n z r => .lst h (fun m => n (opn_mem.mpr (add_mem.mp m))) z (RepL.toAdd r)
  | _, _, .rl h z r => .rl h.toAdd z (RepL.toAdd r)
  | _, _, .cel h => .cel (cAt h)
  | _, _, .fn n h => .fn n h
theorem RepL.toAdd {p : Addr} : ∀ {ds : List D} {vs : List V}, RepL X H (as.opn p) ds vs → RepL X H (as.add p) ds vs
  | _, _, .nil => .nil
  | _, _, .cons r t => .cons (Rep.toAdd r) (RepL.toAdd t)
end
/-- .. a list of the store -/
theorem Wd.shutM {p : Addr} {vs : List V} {ds : List D} (w : Wd X H (as.opn p) S) (h : H p = some (.lst vs)) (z : vs.length ≤ sizeLine) (r : RepL X H (as.opn p) ds vs) : Wd X H (as.add p) (S ++ [ds]) := by
  obtain ⟨np, _⟩ := w.op p (List.mem_cons_self)
  have np : p ∉ as.c := np
  have wl : as.c.length = S.length := w.len
  have wn : as.c.Nodup := w.nd
  refine ⟨by simp [Ad.add, wl], ?_, (List.nodup_cons.mp w.od).2, fun a ha => ?_, fun i a es h1 h2 => ?_, w.tabs⟩
  · show (as.c ++ [p]).Nodup
    rw [List.nodup_append]
    exact ⟨wn, by simp, fun a ha b hb => by rw [List.mem_singleton.mp hb]; exact fun z => np (z ▸ ha)⟩
  · obtain ⟨g1, g2⟩ := w.op a (List.mem_cons_of_mem _ ha)
    refine ⟨fun m => ?_, g2⟩
    rcases List.mem_append.mp (show a ∈ as.c ++ [p] from m) with m | m
    · exact g1 m
    · rw [List.mem_singleton.mp m] at ha
      exact (List.nodup_cons.mp w.od).1 ha
  · have h1 : (as.c ++ [p])[i]? = some a := h1
    by_cases hi : i < as.c.length
    · rw [List.getElem?_append_left hi] at h1
      rw [List.getElem?_append_left (by rw [← wl]; exact hi)] at h2
      obtain ⟨us, e, z', r'⟩ := w.cell i a es h1 h2
      exact ⟨us, e, z', r'.toAdd⟩
    · have hj : i = as.c.length := by
        have := (List.getElem?_eq_some_iff.mp h1).1
        simp at this
        omega
      subst hj
      have e1 : p = a := by simpa using h1
      have e2 : ds = es := by
        rw [wl] at h2
        simpa using h2
      subst e1 e2
      exact ⟨vs, h, z, r.toAdd⟩
end
end Px
end

section
set_option Elab.async false
set_option linter.all false
set_option maxRecDepth 100000
set_option maxHeartbeats 1000000
/-! Px: operators and built-ins, each by its rule. -/
namespace Px
open PySem PySem.Spec PyProof.Rows L2

/-! ### readings -/
def Post (Y : Fx) (H : Hp) (as : Ad) (σ : L2.St) (W : WX) (r : R D) (Z : D → Hp → Ad → Prop) : Prop := match r with
  | .ok d S => ∀ H' as', Ext H as H' as' → Wd Y H' as' S → Z d H' as'
  | .exc c S => ∀ H' as', Ext H as H' as' → Wd Y H' as' S → W (.ref (Y.ca c)) none σ H'
  | .bad => False
theorem Post.ext {Y : Fx} {H H' : Hp} {as as' : Ad} {σ : L2.St} {W : WX} {r : R D} {Z : D → Hp → Ad → Prop} (h : Post Y H as σ W r Z) (e : Ext H as H' as') : Post Y H' as' σ W r Z := by
  cases r with
  | ok d S => exact fun H2 as2 f w => h H2 as2 (e.trans f) w
  | exc c S => exact fun H2 as2 f w => h H2 as2 (e.trans f) w
  | bad => exact h
theorem Post.imp {Y : Fx} {H : Hp} {as : Ad} {σ : L2.St} {W : WX} {r : R D} {Z Z' : D → Hp → Ad → Prop} (h : Post Y H as σ W r Z) (k : ∀ d H' as', Z d H' as' → Z' d H' as') : Post Y H as σ W r Z' := by
  cases r with
  | ok d S => exact fun H2 as2 f w => k _ _ _ (h H2 as2 f w)
  | exc c S => exact h
  | bad => exact h
/-- what is wanted of a value, of a test's answer, of values -/
def zE (Y : Fx) (Q : VK) : D → Hp → Ad → Prop := fun d H as => ∀ v, Rep Y H as d v → Q v H
def zT (Q : Bool → Hp → Prop) : D → Hp → Ad → Prop := fun d H _ => match d with
  | .bl b => Q b H
  | _ => False
def zA (Y : Fx) (Q : List V → Hp → Prop) : D → Hp → Ad → Prop := fun d H as => match d with
  | .lst ds => ∀ vs, RepL Y H as ds vs → Q vs H
  | _ => False
def tE (Y : Fx) (W : WX) (m : Env → Sto → R D) : TE := fun σ H Q => ∃ ρ as S, EnvR Y H as ρ σ ∧ Wd Y H as S ∧ Post Y H as σ W (m ρ S) (zE Y Q)
def tT (Y : Fx) (W : WX) (m : Env → Sto → R D) : TT := fun σ H Q => ∃ ρ as S, EnvR Y H as ρ σ ∧ Wd Y H as S ∧ Post Y H as σ W (m ρ S) (zT Q)
def tAs (Y : Fx) (W : WX) (m : Env → Sto → R D) : TA := fun σ H Q => ∃ ρ as S, EnvR Y H as ρ σ ∧ Wd Y H as S ∧ Post Y H as σ W (m ρ S) (zA Y Q)

section
variable {Y : Fx} {H H1 H' : Hp} {as as1 as' : Ad} {S S' : Sto} {ρ : Env} {σ : L2.St} {W : WX} {Z : D → Hp → Ad → Prop}
/-- one step, then the rest -/
theorem post_bind {m : Env → Sto → R D} {k : D → Sto → R D} {T : VK} (hρ : EnvR Y H as ρ σ) (w : Wd Y H as S) (h : Post Y H as σ W ((m ρ S).bind k) Z)
    (hk : ∀ d v S' H' as', Ext H as H' as' → Wd Y H' as' S' → EnvR Y H' as' ρ σ → Rep Y H' as' d v → Post Y H' as' σ W (k d S') Z → T v H') : tE Y W m σ H T := by
  refine ⟨ρ, as, S, hρ, w, ?_⟩
  cases e : m ρ S with
  | ok d S' =>
    rw [e] at h
    exact fun H' as' ex w' v r => hk d v S' H' as' ex w' (hρ.ext ex) r (h.ext ex)
  | exc c S' =>
    rw [e] at h
    exact h
  | bad =>
    rw [e] at h
    exact h
theorem post_bindT {m : Env → Sto → R D} {k : D → Sto → R D} {T : Bool → Hp → Prop} (hρ : EnvR Y H as ρ σ) (w : Wd Y H as S) (h : Post Y H as σ W ((m ρ S).bind k) Z) (hn : ∀ d S' H' as', (∀ b, d ≠ .bl b) → Post Y H' as' σ W (k d S') Z → False)
    (hk : ∀ b S' H' as', Ext H as H' as' → Wd Y H' as' S' → EnvR Y H' as' ρ σ → Post Y H' as' σ W (k (.bl b) S') Z → T b H') : tT Y W m σ H T := by
  refine ⟨ρ, as, S, hρ, w, ?_⟩
  cases e : m ρ S with
  | ok d S' =>
    rw [e] at h
    refine fun H' as' ex w' => ?_
    have h' : Post Y H' as' σ W (k d S') Z := h.ext ex
    cases d with
    | bl b => exact hk b S' H' as' ex w' (hρ.ext ex) h'
    | _ => exact hn _ S' H' as' (fun b z => by cases z) h'
  | exc c S' =>
    rw [e] at h
    exact h
  | bad =>
    rw [e] at h
    exact h
theorem post_bindA {m : Env → Sto → R D} {k : D → Sto → R D} {T : List V → Hp → Prop} (hρ : EnvR Y H as ρ σ) (w : Wd Y H as S) (h : Post Y H as σ W ((m ρ S).bind k) Z) (hn : ∀ d S' H' as', (∀ ds, d ≠ .lst ds) → Post Y H' as' σ W (k d S') Z → False)
    (hk : ∀ ds vs S' H' as', Ext H as H' as' → Wd Y H' as' S' → EnvR Y H' as' ρ σ → RepL Y H' as' ds vs → Post Y H' as' σ W (k (.lst ds) S') Z → T vs H') : tAs Y W m σ H T := by
  refine ⟨ρ, as, S, hρ, w, ?_⟩
  cases e : m ρ S with
  | ok d S' =>
    rw [e] at h
    refine fun H' as' ex w' => ?_
    have h' : Post Y H' as' σ W (k d S') Z := h.ext ex
    cases d with
    | lst ds => exact fun vs r => hk ds vs S' H' as' ex w' (hρ.ext ex) r h'
    | _ => exact hn _ S' H' as' (fun b z => by cases z) h'
  | exc c S' =>
    rw [e] at h
    exact h
  | bad =>
    rw [e] at h
    exact h

/-! ### lists and tuples that are read -/
theorem isL_rep (w : Wd Y H as S) {d : D} {v : V} {ds : List D} (r : Rep Y H as d v) (h : isL S d = some ds) : ∃ a vs, v = .ref a ∧ H a = some (.lst vs) ∧ vs.length ≤ sizeLine ∧ RepL Y H as ds vs := by
  cases r with
  | lst h1 n z q =>
    have e := Option.some.inj (show some _ = some ds from h)
    subst e
    exact ⟨_, _, rfl, h1, z, q⟩
  | @cel i a h1 =>
    obtain ⟨vs, h2, z, q⟩ := w.cell i a ds h1 h
    exact ⟨_, _, rfl, h2, z, q⟩
  | _ => cases h
theorem lsR_rep (w : Wd Y H as S) {d : D} {v : V} {ds : List D} (r : Rep Y H as d v) (h : lsR S d = some ds) : ∃ a vs, v = .ref a ∧ SqL Y.K H a vs ∧ vs.length ≤ sizeLine ∧ RepL Y H as ds vs := by
  cases r with
  | lst h1 n z q =>
    have e := Option.some.inj (show some _ = some ds from h)
    subst e
    exact ⟨_, _, rfl, SqL.of h1, z, q⟩
  | rl h1 z q =>
    have e := Option.some.inj (show some _ = some ds from h)
    subst e
    exact ⟨_, _, rfl, h1.sq, z, q⟩
  | @cel i a h1 =>
    obtain ⟨vs, h2, z, q⟩ := w.cell i a ds h1 h
    exact ⟨_, _, rfl, SqL.of h2, z, q⟩
  | _ => cases h
theorem seqOf_rep (w : Wd Y H as S) {d : D} {v : V} {ds : List D} (r : Rep Y H as d v) (h : seqOf S d = some ds) : ∃ a vs, v = .ref a ∧ (SqL Y.K H a vs ∨ SqT Y.K H a vs) ∧ vs.length ≤ sizeLine ∧ RepL Y H as ds vs := by
  cases r with
  | tup h1 z q =>
    have e := Option.some.inj (show some _ = some ds from h)
    subst e
    exact ⟨_, _, rfl, .inr h1, z, q⟩
  | lst h1 n z q =>
    have e := Option.some.inj (show some _ = some ds from h)
    subst e
    exact ⟨_, _, rfl, .inl (SqL.of h1), z, q⟩
  | rl h1 z q =>
    have e := Option.some.inj (show some _ = some ds from h)
    subst e
    exact ⟨_, _, rfl, .inl h1.sq, z, q⟩
  | @cel i a h1 =>
    obtain ⟨vs, h2, z, q⟩ := w.cell i a ds h1 h
    exact ⟨_, _, rfl, .inl (SqL.of h2), z, q⟩
  | _ => cases h
/-- a new list -/
theorem alloc_post {Q : VK} {mu : Bool} {ds : List D} {vs : List V} {p : Addr} (w : Wd Y H as S) (r : RepL Y H as ds vs) (z : vs.length ≤ sizeLine) (n : H p = none) (h : Post Y H as σ W (allocL mu ds S) (zE Y Q)) : Q (.ref p) (upd H p (.lst vs)) := by
  cases mu with
  | false => exact h _ as (Ext.new n) (w.new n) _ (.lst upd_same (w.notMem n) z (r.ext (Ext.new n)))
  | true =>
    refine h _ (as.add p) (Ext.newM n) (w.newM n z r) _ (.cel ?_)
    show (as.c ++ [p])[S.length]? = some p
    rw [← w.len]
    simp
/-- a new tuple -/
theorem tup_post {Q : VK} {ds : List D} {vs : List V} {p : Addr} (w : Wd Y H as S) (r : RepL Y H as ds vs) (z : vs.length ≤ sizeLine) (n : H p = none) (h : Post Y H as σ W (.ok (.tup ds) S) (zE Y Q)) : Q (.ref p) (upd H p (.tup vs)) :=
  h _ as (Ext.new n) (w.new n) _ (.tup (SqT.of upd_same) z (r.ext (Ext.new n)))
theorem fit_le {n : Nat} (h : fit n = true) : n ≤ sizeLine := by
  rw [sizeLine_eq]
  exact Nat.le_of_ble_eq_true h
theorem now {Q : VK} {d : D} {v : V} (w : Wd Y H as S) (h : Post Y H as σ W (.ok d S) (zE Y Q)) (r : Rep Y H as d v) : Q v H := h H as Ext.refl w v r

/-! ### == -/
theorem dp_of (w : Wd Y H as S) : ∀ (n : Nat) {d : D} {v : V} {y : PyData}, toPy n S d = some y → Rep Y H as d v → Dp Y.K H v y := by
  intro n
  induction n with
  | zero => intro d v y h _; cases h
  | succ n ih =>
    have all : ∀ {ds : List D} {vs : List V} {ys : List PyData}, mapO (toPy n S) ds = some ys → RepL Y H as ds vs → DpAll Y.K H vs ys := by
      intro ds
      induction ds with
      | nil =>
        intro vs ys h r
        cases r
        have e := Option.some.inj (show some [] = some ys from h)
        subst e
        exact .nil
      | cons d ds ihd =>
        intro vs ys h r
        cases r with
        | cons r1 r2 =>
          cases e1 : toPy n S d with
          | none => rw [mapO, e1] at h; cases h
          | some y1 =>
            cases e2 : mapO (toPy n S) ds with
            | none => rw [mapO, e1, e2] at h; cases h
            | some ys2 =>
              rw [mapO, e1, e2] at h
              have e := Option.some.inj h
              subst e
              exact .cons (ih e1 r1) (ihd e2 r2)
    intro d v y h r
    cases r with
    | non => have e := Option.some.inj (show some PyData.none = some y from h); subst e; exact .non
    | bl b => have e := Option.some.inj (show some (PyData.bool b) = some y from h); subst e; exact .bl b
    | int i => have e := Option.some.inj (show some (PyData.int i) = some y from h); subst e; exact .int i
    | str x => have e := Option.some.inj (show some (PyData.str x) = some y from h); subst e; exact .str x
    | @tup a vs ds h1 z q =>
      have h' : (match mapO (toPy n S) ds with
        | some ys => some (PyData.tuple ys)
        | none => none) = some y := h
      cases e1 : mapO (toPy n S) ds with
      | none => rw [e1] at h'; cases h'
      | some ys =>
        rw [e1] at h'
        have e := Option.some.inj h'
        subst e
        exact .tup h1 (all e1 q)
    | @lst a vs ds h1 hn z q =>
      have h' : (match mapO (toPy n S) ds with
        | some ys => some (PyData.list ys)
        | none => none) = some y := h
      cases e1 : mapO (toPy n S) ds with
      | none => rw [e1] at h'; cases h'
      | some ys =>
        rw [e1] at h'
        have e := Option.some.inj h'
        subst e
        exact .lst (SqL.of h1) (all e1 q)
    | @rl a vs ds h1 z q =>
      have h' : (match mapO (toPy n S) ds with
        | some ys => some (PyData.list ys)
        | none => none) = some y := h
      cases e1 : mapO (toPy n S) ds with
      | none => rw [e1] at h'; cases h'
      | some ys =>
        rw [e1] at h'
        have e := Option.some.inj h'
        subst e
        exact .lst h1.sq (all e1 q)
    | @cel i a h1 =>
      cases e0 : S[i]? with
      | none =>
        have h' : (match S[i]? with
          | some xs => match mapO (toPy n S) xs with
            | some ys => some (PyData.list ys)
            | none => none
          | none => none) = some y := h
        rw [e0] at h'
        cases h'
      | some ds =>
        obtain ⟨vs, h2, z, q⟩ := w.cell i a ds h1 e0
        have h' : (match S[i]? with
          | some xs => match mapO (toPy n S) xs with
            | some ys => some (PyData.list ys)
            | none => none
          | none => none) = some y := h
        rw [e0] at h'
        have h'' : (match mapO (toPy n S) ds with
          | some ys => some (PyData.list ys)
          | none => none) = some y := h'
        cases e1 : mapO (toPy n S) ds with
        | none => rw [e1] at h''; cases h''
        | some ys =>
          rw [e1] at h''
          have e := Option.some.inj h''
          subst e
          exact .lst (SqL.of h2) (all e1 q)
    | fn m _ => cases h
theorem eqD_dp (w : Wd Y H as S) {x y : D} {v u : V} {b : Bool} (h : eqD S x y = some b) (rx : Rep Y H as x v) (ry : Rep Y H as y u) : ∃ d e, Dp Y.K H v d ∧ Dp Y.K H u e ∧ SeqAt.shaped d = true ∧ SeqAt.shaped e = true ∧ PyData.eqv d e = b := by
  unfold eqD at h
  cases e1 : toPy deep S x with
  | none => rw [e1] at h; cases h
  | some d =>
    cases e2 : toPy deep S y with
    | none => rw [e1, e2] at h; cases h
    | some e =>
      rw [e1, e2] at h
      have h : (if SeqAt.shaped d = true then (if SeqAt.shaped e = true then some (PyData.eqv d e) else none) else none) = some b := h
      by_cases s1 : SeqAt.shaped d = true
      · rw [if_pos s1] at h
        by_cases s2 : SeqAt.shaped e = true
        · rw [if_pos s2] at h
          exact ⟨d, e, dp_of w _ e1 rx, dp_of w _ e2 ry, s1, s2, Option.some.inj h⟩
        · rw [if_neg s2] at h; cases h
      · rw [if_neg s1] at h; cases h
end

/-! ### operators -/
/-- a two-place operation of data as a reading -/
def rD (Y : Fx) (σ : L2.St) (W : WX) (f : D → D → Sto → R D) : R2 := fun x y H Q => ∃ d e as S, Wd Y H as S ∧ Rep Y H as d x ∧ Rep Y H as e y ∧ Post Y H as σ W (f d e S) (zE Y Q)
section
variable {X : Cx} {Y : Fx} {τ : L2.St} {W : WX}
theorem catD_ok (hK : X.K = Y.K) (mu : Bool) : OpR X (binaryOp .Add) (rD Y τ W (catD mu)) := by
  intro pins s σ H x y v u Q I rx ry ⟨d, e, as, S, w, rd, re, h⟩
  unfold catD at h
  split at h
  · rename_i xs ys
    split at h
    · rename_i hf
      cases rd with
      | @tup a vs _ h1 z1 q1 =>
        cases re with
        | @tup b us _ h2 z2 q2 =>
          have hz : vs.length + us.length ≤ sizeLine := by
            rw [← q1.length, ← q2.length]
            exact fit_le hf
          refine op_catA pins s σ H _ _ v u Q I rx ry ⟨a, b, vs, us, rfl, rfl, by rw [hK]; exact h1, by rw [hK]; exact h2, hz, fun e0 => ?_, fun _ e0 => ?_, fun _ _ p np => ?_⟩
          · subst e0
            cases q1
            exact now w h (.tup h2 z2 q2)
          · subst e0
            cases q2
            rw [List.append_nil] at h
            exact now w h (.tup h1 z1 q1)
          · exact tup_post w (q1.append q2) (by rw [List.length_append]; exact hz) np h
    · exact h.elim
  · rename_i a b
    split at h
    · rename_i hf
      cases rd
      cases re
      exact op_add_str pins s σ H _ _ v u Q I rx ry ⟨a, b, rfl, rfl, fit_le hf, now w h (.str _)⟩
    · exact h.elim
  · split at h
    · rename_i xs ys e1 e2
      split at h
      · rename_i hf
        obtain ⟨a, vs, rfl, h1, z1, q1⟩ := isL_rep w rd e1
        obtain ⟨b, us, rfl, h2, z2, q2⟩ := isL_rep w re e2
        have hz : vs.length + us.length ≤ sizeLine := by
          rw [← q1.length, ← q2.length]
          exact fit_le hf
        exact op_cat pins s σ H _ _ v u Q I rx ry ⟨a, b, vs, us, rfl, rfl, h1, h2, hz, fun p np => alloc_post w (q1.append q2) (by rw [List.length_append]; exact hz) np h⟩
      · exact h.elim
    · exact h.elim
theorem op_fdivP {i j : Int} {t u : Tok} {A : Around} {E : Value → Shared → Prop} {s : Shared} {P : Program} {w : World} {Q : Value → Shared → Prop} (hj : j ≠ 0) (hz : divOk j = true) (h : Q (.int (i.fdiv j) s.toks) { s with toks := s.toks + 1 }) :
    wpAny (model P w) A (binaryOp .FloorDiv (.int i t) (.int j u)) Q E s := floordiv_int hj h (.inl (PyProof.noPylong_of_log2 (of_decide_eq_true hz)))
theorem bin_add (hK : X.K = Y.K) (mu : Bool) : OpR X (binaryOp .Add) (rD Y τ W (binD .add mu)) := by
  intro pins s σ H x y v u Q I rx ry ⟨d, e, as, S, w, rd, re, h⟩
  replace h : Post Y H as τ W (match (generalizing := false) d, e with
    | .int i, .int j => .ok (.int (i + j)) S
    | x, y => catD mu x y S) (zE Y Q) := h
  split at h
  · rename_i i j
    cases rd
    cases re
    exact op_add pins s σ H _ _ v u Q I rx ry ⟨i, j, rfl, rfl, now w h (.int _)⟩
  · exact catD_ok hK mu pins s σ H x y v u Q I rx ry ⟨d, e, as, S, w, rd, re, h⟩
theorem bin_sub (mu : Bool) : OpR X (binaryOp .Sub) (rD Y τ W (binD .sub mu)) := by
  intro pins s σ H x y v u Q I rx ry ⟨d, e, as, S, w, rd, re, h⟩
  replace h : Post Y H as τ W (match (generalizing := false) d, e with
    | .int i, .int j => .ok (.int (i - j)) S
    | _, _ => .bad) (zE Y Q) := h
  split at h
  · rename_i i j
    cases rd
    cases re
    exact op_sub pins s σ H _ _ v u Q I rx ry ⟨i, j, rfl, rfl, now w h (.int _)⟩
  · exact h.elim
theorem mulOk_bits {i j : Int} (h : mulOk i j = true) : CMulX i j := by
  have b : ∀ x : Int, Builtin.Int.intBits x ≤ x.natAbs.log2 + 1 := fun x => by
    unfold Builtin.Int.intBits
    split <;> omega
  have q : i.natAbs.log2 + j.natAbs.log2 < 134217000 := of_decide_eq_true h
  have b1 := b i
  have b2 := b j
  unfold CMulX
  omega
theorem bin_mul (hK : X.K = Y.K) (mu : Bool) : OpR X (binaryOp .Mult) (rD Y τ W (binD .mul mu)) := by
  intro pins s σ H x y v u Q I rx ry ⟨d, e, as, S, w, rd, re, h⟩
  replace h : Post Y H as τ W (match (generalizing := false) d, e with
    | .int i, .int j => if mulOk i j = true then .ok (.int (i * j)) S else .bad
    | .tup xs, .int k => if repTOk xs.length k = true then .ok (.tup (List.replicate k.toNat xs).flatten) S else .bad
    | x, .int k => match isL S x with
      | some xs => if repOk xs.length k = true then allocL mu (List.replicate k.toNat xs).flatten S else .bad
      | none => .bad
    | _, _ => .bad) (zE Y Q) := h
  split at h
  · rename_i i j
    split at h
    · rename_i hm
      cases rd
      cases re
      exact op_mulX pins s σ H _ _ v u Q I rx ry ⟨i, j, rfl, rfl, mulOk_bits hm, now w h (.int _)⟩
    · exact h.elim
  · rename_i xs k
    split at h
    · rename_i hm
      cases rd with
      | @tup a vs _ h1 z1 q1 =>
        cases re
        unfold repTOk at hm
        rw [Bool.and_eq_true, Bool.and_eq_true, Bool.and_eq_true] at hm
        obtain ⟨m1, m2, m3, m4⟩ := hm
        have m1 : 1 ≤ xs.length := Nat.le_of_ble_eq_true m1
        have m2 : xs.length ≤ 1000 := Nat.le_of_ble_eq_true m2
        have m3 := of_decide_eq_true m3
        have m4 := of_decide_eq_true m4
        rw [q1.length] at m1 m2
        refine op_repT pins s σ H _ _ v u Q I rx ry ⟨a, k, vs, rfl, rfl, by rw [hK]; exact h1, (fun e => by rw [e] at m1; cases m1), m3, m4, m2, fun p np => tup_post w (q1.replicate _) ?_ np h⟩
        rw [List.length_flatten, List.map_replicate, List.sum_replicate_nat, sizeLine_eq]
        have a1 : k.toNat * vs.length ≤ 1000 * 1000 := Nat.mul_le_mul (by omega) m2
        omega
    · exact h.elim
  · rename_i k _ _
    cases e1 : isL S d with
    | none => rw [e1] at h; exact h.elim
    | some xs =>
      rw [e1] at h
      replace h : Post Y H as τ W (if repOk xs.length k = true then allocL mu (List.replicate k.toNat xs).flatten S else .bad) (zE Y Q) := h
      split at h
      · rename_i hm
        obtain ⟨a, vs, rfl, h1, z1, q1⟩ := isL_rep w rd e1
        cases re
        unfold repOk at hm
        rw [Bool.and_eq_true, Bool.and_eq_true] at hm
        obtain ⟨m1, m2, m3⟩ := hm
        have hz : vs.length * k.toNat ≤ sizeLine := by
          rw [← q1.length]
          exact fit_le m3
        refine op_rep pins s σ H _ _ v u Q I rx ry ⟨a, k, vs, rfl, rfl, h1, of_decide_eq_true m1, of_decide_eq_true m2, hz, fun p np => alloc_post w (q1.replicate _) ?_ np h⟩
        rw [List.length_flatten, List.map_replicate, List.sum_replicate_nat, Nat.mul_comm]
        exact hz
      · exact h.elim
  · exact h.elim
theorem bin_fdiv (mu : Bool) : OpR X (binaryOp .FloorDiv) (rD Y τ W (binD .fdiv mu)) := by
  intro pins s σ H x y v u Q I rx ry ⟨d, e, as, S, w, rd, re, h⟩
  replace h : Post Y H as τ W (match (generalizing := false) d, e with
    | .int i, .int j => if 0 < j then (if divOk j = true then .ok (.int (i / j)) S else .bad) else if j < 0 then (if divOk j = true then .ok (.int (i.fdiv j)) S else .bad) else .bad
    | _, _ => .bad) (zE Y Q) := h
  split at h
  · rename_i i j
    cases rd
    cases re
    obtain ⟨t, rfl⟩ := rx
    obtain ⟨t', rfl⟩ := ry
    split at h
    · rename_i hj
      split at h
      · rename_i hz
        refine op_fdivP (by omega) hz ?_
        rw [Int.fdiv_eq_ediv_of_nonneg i (by omega)]
        exact ⟨.int (i / j), H, I.tok _, ⟨_, rfl⟩, now w h (.int _)⟩
      · exact h.elim
    · split at h
      · rename_i hj
        split at h
        · rename_i hz
          exact op_fdivP (by omega) hz ⟨.int (i.fdiv j), H, I.tok _, ⟨_, rfl⟩, now w h (.int _)⟩
        · exact h.elim
      · exact h.elim
  · exact h.elim
theorem bin_mod (mu : Bool) : OpR X (binaryOp .Mod) (rD Y τ W (binD .mod mu)) := by
  intro pins s σ H x y v u Q I rx ry ⟨d, e, as, S, w, rd, re, h⟩
  replace h : Post Y H as τ W (match (generalizing := false) d, e with
    | .int i, .int j => if 0 < j then .ok (.int (i % j)) S else if j < 0 then .ok (.int (i.fmod j)) S else .bad
    | _, _ => .bad) (zE Y Q) := h
  split at h
  · rename_i i j
    cases rd
    cases re
    split at h
    · rename_i hj
      exact op_mod pins s σ H _ _ v u Q I rx ry ⟨i, j, rfl, rfl, hj, now w h (.int _)⟩
    · split at h
      · rename_i hj
        exact op_modN pins s σ H _ _ v u Q I rx ry ⟨i, j, rfl, rfl, by omega, now w h (.int _)⟩
      · exact h.elim
  · exact h.elim
theorem bin_pow (mu : Bool) : OpR X (binaryOp .Pow) (rD Y τ W (binD .pow mu)) := by
  intro pins s σ H x y v u Q I rx ry ⟨d, e, as, S, w, rd, re, h⟩
  replace h : Post Y H as τ W (match (generalizing := false) d, e with
    | .int i, .int j => if powOk i j = true then .ok (.int (i ^ j.toNat)) S else .bad
    | _, _ => .bad) (zE Y Q) := h
  split at h
  · rename_i i j
    cases rd
    cases re
    split at h
    · rename_i hj
      unfold powOk at hj
      rw [Bool.and_eq_true, Bool.and_eq_true] at hj
      obtain ⟨m1, m2, m3⟩ := hj
      exact op_pow pins s σ H _ _ v u Q I rx ry ⟨i, j, rfl, rfl, ⟨of_decide_eq_true m1, of_decide_eq_true m2, of_decide_eq_true m3⟩, now w h (.int _)⟩
    · exact h.elim
  · exact h.elim

/-! ### comparisons -/
theorem ob_post {H : Hp} {as : Ad} {S : Sto} {o : Option Bool} {Q : VK} (w : Wd Y H as S) (h : Post Y H as τ W (ob o S) (zE Y Q)) : ∃ b, o = some b ∧ Q (.bl b) H := by
  cases o with
  | none => exact h.elim
  | some b => exact ⟨b, rfl, now w h (.bl b)⟩
theorem cmp_eq (hK : X.K = Y.K) (hu : X.A.units + 64 < cLine) : OpR X (compareOp .Eq) (rD Y τ W (cmpD .eq)) := by
  intro pins s σ H x y v u Q I rx ry ⟨d, e, as, S, w, rd, re, h⟩
  replace h : Post Y H as τ W (match (generalizing := false) d, e with
    | .int i, .int j => .ok (.bl (decide (i = j))) S
    | x, y => ob (eqD S x y) S) (zE Y Q) := h
  split at h
  · rename_i i j
    cases rd
    cases re
    refine op_eq pins s σ H _ _ v u Q I rx ry ⟨rfl, ?_⟩
    rw [show decide (V.int i = V.int j) = decide (i = j) by rw [dec_int, Bool.beq_eq_decide_eq]]
    exact now w h (.bl _)
  · obtain ⟨b, hb, q⟩ := ob_post w h
    obtain ⟨d', e', h1, h2, h3, h4, h5⟩ := eqD_dp w hb rd re
    exact op_eqD hu pins s σ H _ _ v u Q I rx ry ⟨d', e', by rw [hK]; exact h1, by rw [hK]; exact h2, h3, h4, by rw [h5]; exact q⟩
theorem cmp_ne (hK : X.K = Y.K) (hu : X.A.units + 64 < cLine) : OpR X (compareOp .NotEq) (rD Y τ W (cmpD .ne)) := by
  intro pins s σ H x y v u Q I rx ry ⟨d, e, as, S, w, rd, re, h⟩
  replace h : Post Y H as τ W (match (generalizing := false) d, e with
    | .int i, .int j => .ok (.bl (!decide (i = j))) S
    | x, y => ob ((eqD S x y).map (!·)) S) (zE Y Q) := h
  split at h
  · rename_i i j
    cases rd
    cases re
    refine op_ne pins s σ H _ _ v u Q I rx ry ⟨rfl, ?_⟩
    rw [show decide (V.int i = V.int j) = decide (i = j) by rw [dec_int, Bool.beq_eq_decide_eq]]
    exact now w h (.bl _)
  · obtain ⟨b, hb, q⟩ := ob_post w h
    obtain ⟨b', hb', rfl⟩ := Option.map_eq_some_iff.mp hb
    obtain ⟨d', e', h1, h2, h3, h4, h5⟩ := eqD_dp w hb' rd re
    exact op_neD hu pins s σ H _ _ v u Q I rx ry ⟨d', e', by rw [hK]; exact h1, by rw [hK]; exact h2, h3, h4, by rw [h5]; exact q⟩
theorem cmp_int {op : CmpOp} {co : Co} {p : Int → Int → Bool} (rule : OpR X (compareOp op) (rI0 fun i j => .bl (p i j))) (hf : ∀ d e S, cmpD co d e S = match d, e with
    | .int i, .int j => .ok (.bl (p i j)) S
    | _, _ => .bad) : OpR X (compareOp op) (rD Y τ W (cmpD co)) := by
  intro pins s σ H x y v u Q I rx ry ⟨d, e, as, S, w, rd, re, h⟩
  rw [hf] at h
  split at h
  · rename_i i j
    cases rd
    cases re
    exact rule pins s σ H _ _ v u Q I rx ry ⟨i, j, rfl, rfl, now w h (.bl _)⟩
  · exact h.elim
theorem cmp_lt : OpR X (compareOp .Lt) (rD Y τ W (cmpD .lt)) := cmp_int op_lt fun d e S => by cases d <;> first | rfl | (cases e <;> rfl)
theorem cmp_le : OpR X (compareOp .LtE) (rD Y τ W (cmpD .le)) := cmp_int op_le fun d e S => by cases d <;> first | rfl | (cases e <;> rfl)
theorem cmp_gt : OpR X (compareOp .Gt) (rD Y τ W (cmpD .gt)) := cmp_int op_gt fun d e S => by cases d <;> first | rfl | (cases e <;> rfl)
theorem cmp_ge : OpR X (compareOp .GtE) (rD Y τ W (cmpD .ge)) := cmp_int op_ge fun d e S => by cases d <;> first | rfl | (cases e <;> rfl)
theorem isNon_rep {H : Hp} {as : Ad} {d : D} {v : V} (r : Rep Y H as d v) : isNon d = decide (v = .non) := by
  cases r <;> rfl
theorem cmp_isN : OpR X (compareOp .Is) (rD Y τ W (cmpD .isN)) := by
  intro pins s σ H x y v u Q I rx ry ⟨d, e, as, S, w, rd, re, h⟩
  replace h : Post Y H as τ W (match (generalizing := false) e with
    | .non => .ok (.bl (isNon d)) S
    | .bl b => match (generalizing := false) d with
      | .bl a => .ok (.bl (decide (a = b))) S
      | _ => .bad
    | _ => .bad) (zE Y Q) := h
  split at h
  · cases re
    refine op_isN pins s σ H _ _ v u Q I rx ry ⟨rfl, ?_⟩
    rw [← isNon_rep rd]
    exact now w h (.bl _)
  · split at h
    · cases re
      cases rd
      exact op_isBl pins s σ H _ _ v u Q I rx ry ⟨_, _, rfl, rfl, now w h (.bl _)⟩
    · exact h.elim
  · exact h.elim
theorem cmp_isNot : OpR X (compareOp .IsNot) (rD Y τ W (cmpD .isNot)) := by
  intro pins s σ H x y v u Q I rx ry ⟨d, e, as, S, w, rd, re, h⟩
  replace h : Post Y H as τ W (match (generalizing := false) e with
    | .non => .ok (.bl (!isNon d)) S
    | .bl b => match (generalizing := false) d with
      | .bl a => .ok (.bl (!decide (a = b))) S
      | _ => .bad
    | _ => .bad) (zE Y Q) := h
  split at h
  · cases re
    refine op_notN pins s σ H _ _ v u Q I rx ry ⟨rfl, ?_⟩
    rw [← isNon_rep rd]
    exact now w h (.bl _)
  · split at h
    · cases re
      cases rd
      exact op_notBl pins s σ H _ _ v u Q I rx ry ⟨_, _, rfl, rfl, now w h (.bl _)⟩
    · exact h.elim
  · exact h.elim
theorem inD_cases {H : Hp} {as : Ad} {S : Sto} {x y : D} {v u : V} {b : Bool} (w : Wd Y H as S) (h : inD S x y = some b) (rx : Rep Y H as x v) (ry : Rep Y H as y u) :
    ∃ d e ds, Dp Y.K H v d ∧ Dp Y.K H u e ∧ itemsP e = some ds ∧ SeqAt.shaped d = true ∧ SeqAt.shaped e = true ∧ (ds.any fun z => PyData.eqv z d) = b := by
  unfold inD at h
  split at h
  · rename_i d e e1 e2
    split at h
    · rename_i ds e3
      split at h
      · rename_i s1
        split at h
        · rename_i s2
          exact ⟨d, e, ds, dp_of w _ e1 rx, dp_of w _ e2 ry, e3, s1, s2, Option.some.inj h⟩
        · cases h
      · cases h
    · cases h
  · cases h
theorem cmp_in (hK : X.K = Y.K) (hu : X.A.units + 65 < cLine) : OpR X (compareOp .In) (rD Y τ W (cmpD .isin)) := by
  intro pins s σ H x y v u Q I rx ry ⟨d, e, as, S, w, rd, re, h⟩
  obtain ⟨b, hb, q⟩ := ob_post w (show Post Y H as τ W (ob (inD S d e) S) (zE Y Q) from h)
  obtain ⟨d', e', ds, h1, h2, h3, h4, h5, rfl⟩ := inD_cases w hb rd re
  rw [← hK] at h1 h2
  obtain ⟨ps, r1⟩ := Dp.reads I d' x v h1 rx
  obtain ⟨qs, r2⟩ := Dp.reads I e' y u h2 ry
  cases e' <;> first | (cases h3; done) | skip
  · cases h3
    exact SeqAt.in_list_reads r2 r1 (SeqAt.canLay_of_shaped h5) (SeqAt.canLay_of_shaped h4) (room_in_shaped h4 hu) ⟨.bl _, H, I, rfl, q⟩
  · cases h3
    exact SeqAt.in_tuple_reads r2 r1 (SeqAt.canLay_of_shaped h5) (SeqAt.canLay_of_shaped h4) (room_in_shaped h4 hu) ⟨.bl _, H, I, rfl, q⟩
theorem cmp_notin (hK : X.K = Y.K) (hu : X.A.units + 65 < cLine) : OpR X (compareOp .NotIn) (rD Y τ W (cmpD .notin)) := by
  intro pins s σ H x y v u Q I rx ry ⟨d, e, as, S, w, rd, re, h⟩
  obtain ⟨b, hb, q⟩ := ob_post w (show Post Y H as τ W (ob ((inD S d e).map (!·)) S) (zE Y Q) from h)
  obtain ⟨b', hb', rfl⟩ := Option.map_eq_some_iff.mp hb
  obtain ⟨d', e', ds, h1, h2, h3, h4, h5, rfl⟩ := inD_cases w hb' rd re
  rw [← hK] at h1 h2
  obtain ⟨ps, r1⟩ := Dp.reads I d' x v h1 rx
  obtain ⟨qs, r2⟩ := Dp.reads I e' y u h2 ry
  cases e' <;> first | (cases h3; done) | skip
  · cases h3
    exact SeqAt.notIn_list_reads r2 r1 (SeqAt.canLay_of_shaped h5) (SeqAt.canLay_of_shaped h4) (room_in_shaped h4 hu) ⟨.bl _, H, I, rfl, q⟩
  · cases h3
    exact SeqAt.notIn_tuple_reads r2 r1 (SeqAt.canLay_of_shaped h5) (SeqAt.canLay_of_shaped h4) (room_in_shaped h4 hu) ⟨.bl _, H, I, rfl, q⟩
end
end Px
end

section
set_option Elab.async false
set_option linter.all false
set_option maxRecDepth 100000
set_option maxHeartbeats 1000000
/-! Px: built-ins called by name, subscripts, slices, isinstance. -/
namespace Px
open PySem PySem.Spec PyProof.Rows L2

/-- a built-in of data as a reading -/
def rB (Y : Fx) (σ : L2.St) (W : WX) (f : List D → Sto → R D) : List V → Hp → VK → Prop := fun vs H Q => ∃ ds as S, Wd Y H as S ∧ RepL Y H as ds vs ∧ Post Y H as σ W (f ds S) (zE Y Q)
section
variable {X : Cx} {Y : Fx} {τ : L2.St} {W : WX}
theorem RepL.one {H : Hp} {as : Ad} {d : D} {vs : List V} (r : RepL Y H as [d] vs) : ∃ v, vs = [v] ∧ Rep Y H as d v := by
  cases r with
  | cons r1 r2 =>
    cases r2
    exact ⟨_, rfl, r1⟩
theorem RepL.two {H : Hp} {as : Ad} {d e : D} {vs : List V} (r : RepL Y H as [d, e] vs) : ∃ v u, vs = [v, u] ∧ Rep Y H as d v ∧ Rep Y H as e u := by
  cases r with
  | cons r1 r2 =>
    obtain ⟨u, rfl, r3⟩ := r2.one
    exact ⟨_, _, rfl, r1, r3⟩
theorem ints_rep {H : Hp} {as : Ad} : ∀ {ds : List D} {vs : List V} {ns : List Int}, RepL Y H as ds vs → mapO intO ds = some ns → vs = ns.map V.int
  | _, _, ns, .nil, h => by
    have e := Option.some.inj (show some [] = some ns from h)
    subst e
    rfl
  | d :: ds, _, ns, .cons r t, h => by
    cases e1 : intO d with
    | none => rw [mapO, e1] at h; cases h
    | some i =>
      cases e2 : mapO intO ds with
      | none => rw [mapO, e1, e2] at h; cases h
      | some ms =>
        rw [mapO, e1, e2] at h
        have e := Option.some.inj h
        subst e
        have ih := ints_rep t e2
        subst ih
        cases r with
        | int j =>
          have e := Option.some.inj (show some j = some i from e1)
          subst e
          rfl
        | _ => cases e1
theorem bls_rep {H : Hp} {as : Ad} : ∀ {ds : List D} {vs : List V} {ns : List Bool}, RepL Y H as ds vs → mapO blO ds = some ns → vs = ns.map V.bl
  | _, _, ns, .nil, h => by
    have e := Option.some.inj (show some [] = some ns from h)
    subst e
    rfl
  | d :: ds, _, ns, .cons r t, h => by
    cases e1 : blO d with
    | none => rw [mapO, e1] at h; cases h
    | some i =>
      cases e2 : mapO blO ds with
      | none => rw [mapO, e1, e2] at h; cases h
      | some ms =>
        rw [mapO, e1, e2] at h
        have e := Option.some.inj h
        subst e
        have ih := bls_rep t e2
        subst ih
        cases r with
        | bl j =>
          have e := Option.some.inj (show some j = some i from e1)
          subst e
          rfl
        | _ => cases e1
theorem SqL.ofK {K K' : PySem.W.Frag} (h : K = K') {H : Hp} {a : Addr} {xs : List V} (s : SqL K' H a xs) : SqL K H a xs := by
  rw [h]
  exact s
theorem bi_len (hK : X.K = Y.K) (mu : Bool) : CallR X (.builtin "len") (rB Y τ W (biD .len mu)) := by
  intro pins s σ H xs us Q I r ⟨ds, as, S, w, rs, h⟩
  replace h : Post Y H as τ W (match (generalizing := false) ds with
    | [.str x] => if fit x.length = true then .ok (.int x.length) S else .bad
    | [x] => match seqOf S x with
      | some xs => .ok (.int xs.length) S
      | none => .bad
    | _ => .bad) (zE Y Q) := h
  split at h
  · rename_i x
    obtain ⟨v, rfl, rv⟩ := rs.one
    cases rv
    split at h
    · rename_i hf
      exact call_len_str pins s σ H _ us Q I r ⟨x, rfl, fit_le hf, now w h (.int _)⟩
    · exact h.elim
  · obtain ⟨v, rfl, rv⟩ := rs.one
    split at h
    · rename_i xs e
      obtain ⟨a, vs, rfl, h1, z1, q1⟩ := seqOf_rep w rv e
      refine call_len_seq pins s σ H _ us Q I r ⟨a, vs, rfl, by rw [hK]; exact h1, ?_⟩
      rw [← q1.length]
      exact now w h (.int _)
    · exact h.elim
  · exact h.elim
theorem bi_abs (mu : Bool) : CallR X (.builtin "abs") (rB Y τ W (biD .abs mu)) := by
  intro pins s σ H xs us Q I r ⟨ds, as, S, w, rs, h⟩
  replace h : Post Y H as τ W (match (generalizing := false) ds with
    | [.int i] => .ok (.int (if i < 0 then -i else i)) S
    | _ => .bad) (zE Y Q) := h
  split at h
  · rename_i i
    obtain ⟨v, rfl, rv⟩ := rs.one
    cases rv
    exact call_abs pins s σ H _ us Q I r ⟨i, rfl, now w h (.int _)⟩
  · exact h.elim
theorem bi_int (mu : Bool) : CallR X (.type "int") (rB Y τ W (biD .int mu)) := by
  intro pins s σ H xs us Q I r ⟨ds, as, S, w, rs, h⟩
  replace h : Post Y H as τ W (match (generalizing := false) ds with
    | [.int i] => .ok (.int i) S
    | [.bl b] => .ok (.int (if b then 1 else 0)) S
    | _ => .bad) (zE Y Q) := h
  split at h
  · rename_i i
    obtain ⟨v, rfl, rv⟩ := rs.one
    cases rv
    exact call_int1 pins s σ H _ us Q I r (.inl ⟨i, rfl, now w h (.int _)⟩)
  · rename_i b
    obtain ⟨v, rfl, rv⟩ := rs.one
    cases rv
    exact call_int1 pins s σ H _ us Q I r (.inr ⟨b, rfl, now w h (.int _)⟩)
  · exact h.elim
theorem bi_list (hK : X.K = Y.K) (mu : Bool) : CallR X (.type "list") (rB Y τ W (biD .list mu)) := by
  intro pins s σ H xs us Q I r ⟨ds, as, S, w, rs, h⟩
  replace h : Post Y H as τ W (match (generalizing := false) ds with
    | [x] => match seqOf S x with
      | some xs => allocL mu xs S
      | none => .bad
    | _ => .bad) (zE Y Q) := h
  split at h
  · obtain ⟨v, rfl, rv⟩ := rs.one
    split at h
    · rename_i xs e
      obtain ⟨a, vs, rfl, h1, z1, q1⟩ := seqOf_rep w rv e
      exact call_list_of pins s σ H _ us Q I r ⟨a, vs, rfl, by rw [hK]; exact h1, fun p np => alloc_post w q1 z1 np h⟩
    · exact h.elim
  · exact h.elim
theorem bi_tuple (hK : X.K = Y.K) (mu : Bool) : CallR X (.type "tuple") (rB Y τ W (biD .tuple mu)) := by
  intro pins s σ H xs us Q I r ⟨ds, as, S, w, rs, h⟩
  replace h : Post Y H as τ W (match (generalizing := false) ds with
    | [.tup xs] => .ok (.tup xs) S
    | [x] => match lsR S x with
      | some xs => .ok (.tup xs) S
      | none => .bad
    | _ => .bad) (zE Y Q) := h
  split at h
  · obtain ⟨v, rfl, rv⟩ := rs.one
    cases rv with
    | @tup a vs _ h1 z1 q1 => exact call_tuple_of pins s σ H _ us Q I r ⟨a, vs, rfl, .inr ⟨by rw [hK]; exact h1, now w h (.tup h1 z1 q1)⟩⟩
  · obtain ⟨v, rfl, rv⟩ := rs.one
    split at h
    · rename_i xs e
      obtain ⟨a, vs, rfl, h1, z1, q1⟩ := lsR_rep w rv e
      exact call_tuple_of pins s σ H _ us Q I r ⟨a, vs, rfl, .inl ⟨by rw [hK]; exact h1, fun p np => tup_post w q1 z1 np h⟩⟩
    · exact h.elim
  · exact h.elim
theorem bi_max2 (hc : X.calm = true) (mu : Bool) : CallR X (.builtin "max") (rB Y τ W (biD .max2 mu)) := by
  intro pins s σ H xs us Q I r ⟨ds, as, S, w, rs, h⟩
  replace h : Post Y H as τ W (match (generalizing := false) ds with
    | [.int i, .int j] => .ok (.int (if j > i then j else i)) S
    | _ => .bad) (zE Y Q) := h
  split at h
  · rename_i i j
    obtain ⟨v, u, rfl, rv, ru⟩ := rs.two
    cases rv
    cases ru
    exact call_max2 hc pins s σ H _ us Q I r ⟨i, j, rfl, now w h (.int _)⟩
  · exact h.elim
theorem bi_min2 (hc : X.calm = true) (mu : Bool) : CallR X (.builtin "min") (rB Y τ W (biD .min2 mu)) := by
  intro pins s σ H xs us Q I r ⟨ds, as, S, w, rs, h⟩
  replace h : Post Y H as τ W (match (generalizing := false) ds with
    | [.int i, .int j] => .ok (.int (if j < i then j else i)) S
    | _ => .bad) (zE Y Q) := h
  split at h
  · rename_i i j
    obtain ⟨v, u, rfl, rv, ru⟩ := rs.two
    cases rv
    cases ru
    exact call_min2 hc pins s σ H _ us Q I r ⟨i, j, rfl, now w h (.int _)⟩
  · exact h.elim
theorem maxI_spec : ∀ (ns : List Int) (n : Int), maxI n ns ∈ n :: ns ∧ ∀ y ∈ n :: ns, y ≤ maxI n ns
  | [], n => ⟨List.mem_cons_self, fun y h => by rw [List.mem_singleton.mp h]; exact Int.le_refl _⟩
  | x :: xs, n => by
    obtain ⟨h1, h2⟩ := maxI_spec xs (if n < x then x else n)
    refine ⟨?_, fun y hy => ?_⟩
    · show maxI (if n < x then x else n) xs ∈ _
      rcases List.mem_cons.mp h1 with e | e
      · rw [e]
        split <;> simp
      · simp [e]
    · show y ≤ maxI (if n < x then x else n) xs
      have h0 := h2 _ List.mem_cons_self
      have h3 : ∀ y ∈ xs, _ := fun y e => h2 y (List.mem_cons_of_mem _ e)
      generalize maxI (if n < x then x else n) xs = m at h0 h3 ⊢
      rcases List.mem_cons.mp hy with e | e
      · subst e
        split at h0 <;> omega
      · rcases List.mem_cons.mp e with e | e
        · subst e
          split at h0 <;> omega
        · exact h3 y e
theorem minI_spec : ∀ (ns : List Int) (n : Int), minI n ns ∈ n :: ns ∧ ∀ y ∈ n :: ns, minI n ns ≤ y
  | [], n => ⟨List.mem_cons_self, fun y h => by rw [List.mem_singleton.mp h]; exact Int.le_refl _⟩
  | x :: xs, n => by
    obtain ⟨h1, h2⟩ := minI_spec xs (if x < n then x else n)
    refine ⟨?_, fun y hy => ?_⟩
    · show minI (if x < n then x else n) xs ∈ _
      rcases List.mem_cons.mp h1 with e | e
      · rw [e]
        split <;> simp
      · simp [e]
    · show minI (if x < n then x else n) xs ≤ y
      have h0 := h2 _ List.mem_cons_self
      have h3 : ∀ y ∈ xs, _ := fun y e => h2 y (List.mem_cons_of_mem _ e)
      generalize minI (if x < n then x else n) xs = m at h0 h3 ⊢
      rcases List.mem_cons.mp hy with e | e
      · subst e
        split at h0 <;> omega
      · rcases List.mem_cons.mp e with e | e
        · subst e
          split at h0 <;> omega
        · exact h3 y e
theorem bi_max1 (hK : X.K = Y.K) (hc : X.calm = true) (mu : Bool) : CallR X (.builtin "max") (rB Y τ W (biD .max1 mu)) := by
  intro pins s σ H xs us Q I r ⟨ds, as, S, w, rs, h⟩
  replace h : Post Y H as τ W (match (generalizing := false) ds with
    | [x] => match lsR S x with
      | some xs => match mapO intO xs with
        | some (n :: ns) => .ok (.int (maxI n ns)) S
        | _ => .bad
      | none => .bad
    | _ => .bad) (zE Y Q) := h
  split at h
  · obtain ⟨v, rfl, rv⟩ := rs.one
    split at h
    · rename_i xs e
      obtain ⟨a, vs, rfl, h1, z1, q1⟩ := lsR_rep w rv e
      split at h
      · rename_i n ns e2
        have ev := ints_rep q1 e2
        subst ev
        refine cr_max hc pins s σ H _ us Q I r ⟨a, n :: ns, rfl, by rw [hK]; exact h1, Nat.succ_pos _, fun m hm hle => ?_⟩
        obtain ⟨g1, g2⟩ := maxI_spec ns n
        have em : m = maxI n ns := Int.le_antisymm (g2 m hm) (hle _ g1)
        subst em
        exact now w h (.int _)
      · exact h.elim
    · exact h.elim
  · exact h.elim
theorem bi_min1 (hK : X.K = Y.K) (hc : X.calm = true) (mu : Bool) : CallR X (.builtin "min") (rB Y τ W (biD .min1 mu)) := by
  intro pins s σ H xs us Q I r ⟨ds, as, S, w, rs, h⟩
  replace h : Post Y H as τ W (match (generalizing := false) ds with
    | [x] => match lsR S x with
      | some xs => match mapO intO xs with
        | some (n :: ns) => .ok (.int (minI n ns)) S
        | _ => .bad
      | none => .bad
    | _ => .bad) (zE Y Q) := h
  split at h
  · obtain ⟨v, rfl, rv⟩ := rs.one
    split at h
    · rename_i xs e
      obtain ⟨a, vs, rfl, h1, z1, q1⟩ := lsR_rep w rv e
      split at h
      · rename_i n ns e2
        have ev := ints_rep q1 e2
        subst ev
        refine cr_min hc pins s σ H _ us Q I r ⟨a, n :: ns, rfl, by rw [hK]; exact h1, Nat.succ_pos _, fun m hm hle => ?_⟩
        obtain ⟨g1, g2⟩ := minI_spec ns n
        have em : m = minI n ns := Int.le_antisymm (hle _ g1) (g2 m hm)
        subst em
        exact now w h (.int _)
      · exact h.elim
    · exact h.elim
  · exact h.elim
theorem bi_sum (hK : X.K = Y.K) (hc : X.calm = true) (mu : Bool) : CallR X (.builtin "sum") (rB Y τ W (biD .sum mu)) := by
  intro pins s σ H xs us Q I r ⟨ds, as, S, w, rs, h⟩
  replace h : Post Y H as τ W (match (generalizing := false) ds with
    | [x] => match lsR S x with
      | some xs => match mapO intO xs with
        | some ns => .ok (.int ns.sum) S
        | none => .bad
      | none => .bad
    | _ => .bad) (zE Y Q) := h
  split at h
  · obtain ⟨v, rfl, rv⟩ := rs.one
    split at h
    · rename_i xs e
      obtain ⟨a, vs, rfl, h1, z1, q1⟩ := lsR_rep w rv e
      split at h
      · rename_i ns e2
        have ev := ints_rep q1 e2
        subst ev
        exact cr_sum hc pins s σ H _ us Q I r ⟨a, ns, rfl, by rw [hK]; exact h1, now w h (.int _)⟩
      · exact h.elim
    · exact h.elim
  · exact h.elim
theorem bi_all (hK : X.K = Y.K) (hc : X.calm = true) (mu : Bool) : CallR X (.builtin "all") (rB Y τ W (biD .all mu)) := by
  intro pins s σ H xs us Q I r ⟨ds, as, S, w, rs, h⟩
  replace h : Post Y H as τ W (match (generalizing := false) ds with
    | [x] => match lsR S x with
      | some xs => match mapO blO xs with
        | some bs => .ok (.bl (bs.all id)) S
        | none => .bad
      | none => .bad
    | _ => .bad) (zE Y Q) := h
  split at h
  · obtain ⟨v, rfl, rv⟩ := rs.one
    split at h
    · rename_i xs e
      obtain ⟨a, vs, rfl, h1, z1, q1⟩ := lsR_rep w rv e
      split at h
      · rename_i ns e2
        have ev := bls_rep q1 e2
        subst ev
        exact cr_all hc pins s σ H _ us Q I r ⟨a, ns, rfl, by rw [hK]; exact h1, now w h (.bl _)⟩
      · exact h.elim
    · exact h.elim
  · exact h.elim
theorem bi_any (hK : X.K = Y.K) (hc : X.calm = true) (mu : Bool) : CallR X (.builtin "any") (rB Y τ W (biD .any mu)) := by
  intro pins s σ H xs us Q I r ⟨ds, as, S, w, rs, h⟩
  replace h : Post Y H as τ W (match (generalizing := false) ds with
    | [x] => match lsR S x with
      | some xs => match mapO blO xs with
        | some bs => .ok (.bl (bs.any id)) S
        | none => .bad
      | none => .bad
    | _ => .bad) (zE Y Q) := h
  split at h
  · obtain ⟨v, rfl, rv⟩ := rs.one
    split at h
    · rename_i xs e
      obtain ⟨a, vs, rfl, h1, z1, q1⟩ := lsR_rep w rv e
      split at h
      · rename_i ns e2
        have ev := bls_rep q1 e2
        subst ev
        exact cr_any hc pins s σ H _ us Q I r ⟨a, ns, rfl, by rw [hK]; exact h1, now w h (.bl _)⟩
      · exact h.elim
    · exact h.elim
  · exact h.elim
theorem bi_gcd (mu : Bool) : CallR X (.builtin "math.gcd") (rB Y τ W (biD .gcd mu)) := by
  intro pins s σ H xs us Q I r ⟨ds, as, S, w, rs, h⟩
  replace h : Post Y H as τ W (match (generalizing := false) ds with
    | [.int a, .int b] => .ok (.int ((Nat.gcd a.natAbs b.natAbs : Nat) : Int)) S
    | _ => .bad) (zE Y Q) := h
  split at h
  · rename_i i j
    obtain ⟨v, u, rfl, rv, ru⟩ := rs.two
    cases rv
    cases ru
    exact cr_gcd pins s σ H _ us Q I r ⟨i, j, rfl, now w h (.int _)⟩
  · exact h.elim
theorem bi_isqrt (mu : Bool) : CallR X (.builtin "math.isqrt") (rB Y τ W (biD .isqrt mu)) := by
  intro pins s σ H xs us Q I r ⟨ds, as, S, w, rs, h⟩
  replace h : Post Y H as τ W (match (generalizing := false) ds with
    | [.int i] => if isqrtOk i = true then .ok (.int ((PySem.Float64.isqrt i.toNat : Nat) : Int)) S else .bad
    | _ => .bad) (zE Y Q) := h
  split at h
  · rename_i i
    obtain ⟨v, rfl, rv⟩ := rs.one
    cases rv
    split at h
    · rename_i hi
      unfold isqrtOk at hi
      rw [Bool.and_eq_true] at hi
      have h0 : 0 ≤ i := of_decide_eq_true hi.1
      have h1 : i.toNat.log2 < 13000 := of_decide_eq_true hi.2
      obtain ⟨u, rfl, t, rfl⟩ := vals1 r
      exact call_function_meets PySem.W.MGF.kind_isqrt PySem.W.MGF.plain_isqrt PySem.W.MGF.entry_isqrt (PySem.W.MGF.args_isqrt _) (PySem.W.mg_run_isqrt i t (by omega) (by omega) (by omega)).meets ⟨.int _, H, I.tok _, ⟨_, rfl⟩, now w h (.int _)⟩
    · exact h.elim
  · exact h.elim

/-! ### subscripts, slices -/
theorem atI_eq {α : Type} (xs : List α) (i : Int) : Px.atI xs i = L2.atI xs i := by
  unfold Px.atI L2.atI
  show _ = (Px.ixN xs.length i).bind _
  cases Px.ixN xs.length i <;> rfl
theorem RepL.atI {H : Hp} {as : Ad} {ds : List D} {vs : List V} {i : Int} {d : D} (r : RepL Y H as ds vs) (h : Px.atI ds i = some d) : ∃ v, L2.atI vs i = some v ∧ Rep Y H as d v := by
  rw [atI_eq] at h
  unfold L2.atI at h ⊢
  rw [r.length] at h
  cases e : L2.ixN vs.length i with
  | none => rw [e] at h; cases h
  | some j =>
    rw [e] at h
    exact r.get (show ds[j]? = some d from h)
theorem ix_sub (hK : X.K = Y.K) : IxR X (rD Y τ W subD) := by
  intro value slice pins s σ H x y v u Q I rx ry ⟨d, e, as, S, w, rd, re, h⟩ hs
  replace h : Post Y H as τ W (match (generalizing := false) e with
    | .int k => match (generalizing := false) d with
      | .str _ => .bad
      | x => match seqOf S x with
        | some xs => match Px.atI xs k with
          | some d => .ok d S
          | none => .bad
        | none => .bad
    | _ => .bad) (zE Y Q) := h
  split at h
  · rename_i k
    cases re
    split at h
    · exact h.elim
    · split at h
      · rename_i xs e1
        split at h
        · rename_i d' e2
          obtain ⟨a, vs, rfl, h1, z1, q1⟩ := seqOf_rep w rd e1
          obtain ⟨v', h3, r3⟩ := q1.atI e2
          rcases h1 with h1 | h1
          · exact ix_list value slice pins s σ H _ _ v u Q I rx ry ⟨a, vs, k, v', rfl, rfl, by rw [hK]; exact h1, h3, now w h r3⟩ hs
          · exact ix_tup value slice pins s σ H _ _ v u Q I rx ry ⟨a, vs, k, v', rfl, rfl, by rw [hK]; exact h1, h3, now w h r3⟩ hs
        · exact h.elim
      · exact h.elim
  · exact h.elim
theorem sIx_eq (n d : Nat) (i : Option Int) : HT.sIx n d i = Px.sIx n d i := by
  cases i <;> rfl
theorem RepL.cut {H : Hp} {as : Ad} {ds : List D} {vs : List V} {lo hi : Option Int} (r : RepL Y H as ds vs) : RepL Y H as (Px.cut ds lo hi) (cutV vs lo hi) := by
  unfold Px.cut cutV
  rw [sIx_eq, sIx_eq, r.length]
  exact (r.drop _).take _
/-- a slice by values -/
def rSl (Y : Fx) (σ : L2.St) (W : WX) (mu : Bool) : V → Option Int → Option Int → Hp → VK → Prop := fun x lo hi H Q => ∃ d as S, Wd Y H as S ∧ Rep Y H as d x ∧ Post Y H as σ W (slcD mu d lo hi S) (zE Y Q)
theorem cut_all {vs : List V} {lo hi : Option Int} (h : HT.sIx vs.length 0 lo = 0 ∧ HT.sIx vs.length vs.length hi = vs.length) : cutV vs lo hi = vs := by
  unfold cutV
  rw [h.1, h.2]
  simp
theorem cutD_all {n : Nat} {ds : List D} {lo hi : Option Int} (e : ds.length = n) (h : HT.sIx n 0 lo = 0 ∧ HT.sIx n n hi = n) : Px.cut ds lo hi = ds := by
  subst e
  unfold Px.cut
  rw [← sIx_eq, ← sIx_eq, h.1, h.2]
  simp
theorem sl_any (hK : X.K = Y.K) (mu : Bool) : SlR X (rSl Y τ W mu) := by
  intro pins s σ H x v vl vu lo hi sl Q I rx hs pl pu ⟨d, as, S, w, rd, h⟩
  unfold slcD at h
  split at h
  · rename_i xs
    cases rd with
    | @tup a vs _ h1 z1 q1 =>
      refine sl_tupA pins s σ H _ v vl vu lo hi sl Q I rx hs pl pu ⟨a, vs, rfl, by rw [hK]; exact h1, fun ha => ?_, fun _ p np => ?_⟩
      · rw [cutD_all q1.length ha] at h
        exact now w h (.tup h1 z1 q1)
      · exact tup_post w q1.cut (Nat.le_trans (cutV_length _ _ _) z1) np h
  · split at h
    · rename_i xs e
      obtain ⟨a, vs, rfl, h1, z1, q1⟩ := lsR_rep w rd e
      exact sl_list pins s σ H _ v vl vu lo hi sl Q I rx hs pl pu ⟨a, vs, rfl, by rw [hK]; exact h1, fun p np => alloc_post w q1.cut (Nat.le_trans (cutV_length _ _ _) z1) np h⟩
    · exact h.elim

/-! ### isinstance of data -/
def tyN : Ty → String
  | .int => "int" | .bool => "bool" | .str => "str" | .tuple => "tuple" | .list => "list"
theorem kit_all {K : PySem.W.Frag} : ∀ (t : Ty), PySem.W.kitOne K (.type "NoneType") (.type (tyN t)) = some false ∧
    PySem.W.kitOne K (.type "bool") (.type (tyN t)) = some (decide (t = .bool) || decide (t = .int)) ∧ PySem.W.kitOne K (.type "int") (.type (tyN t)) = some (decide (t = .int)) ∧
    PySem.W.kitOne K (.type "str") (.type (tyN t)) = some (decide (t = .str)) ∧ PySem.W.kitOne K (.type "tuple") (.type (tyN t)) = some (decide (t = .tuple)) ∧ PySem.W.kitOne K (.type "list") (.type (tyN t)) = some (decide (t = .list))
  | .int => ⟨kit_ty (by decide +kernel), kit_ty (by decide +kernel), kit_ty (by decide +kernel), kit_ty (by decide +kernel), kit_ty (by decide +kernel), kit_ty (by decide +kernel)⟩
  | .bool => ⟨kit_ty (by decide +kernel), kit_ty (by decide +kernel), kit_ty (by decide +kernel), kit_ty (by decide +kernel), kit_ty (by decide +kernel), kit_ty (by decide +kernel)⟩
  | .str => ⟨kit_ty (by decide +kernel), kit_ty (by decide +kernel), kit_ty (by decide +kernel), kit_ty (by decide +kernel), kit_ty (by decide +kernel), kit_ty (by decide +kernel)⟩
  | .tuple => ⟨kit_ty (by decide +kernel), kit_ty (by decide +kernel), kit_ty (by decide +kernel), kit_ty (by decide +kernel), kit_ty (by decide +kernel), kit_ty (by decide +kernel)⟩
  | .list => ⟨kit_ty (by decide +kernel), kit_ty (by decide +kernel), kit_ty (by decide +kernel), kit_ty (by decide +kernel), kit_ty (by decide +kernel), kit_ty (by decide +kernel)⟩
theorem tyX_tup {K : PySem.W.Frag} {H : Hp} {a : Addr} {xs : List V} (h : SqT K H a xs) : TyX K H (.ref a) (.type "tuple") := by
  rcases h with (h | ⟨o, h⟩) | ⟨o, its, n, h1, h2, _⟩
  · exact .base (.tup h)
  · exact .fTuple h
  · exact .kTuple h1 h2
theorem isi_kit {H : Hp} {as : Ad} {S : Sto} {d : D} {v : V} {t : Ty} {b : Bool} (w : Wd Y H as S) (r : Rep Y H as d v) (h : isiD d t = some b) : ∃ tv, TyX Y.K H v tv ∧ PySem.W.kitOne Y.K tv (.type (tyN t)) = some b := by
  obtain ⟨k1, k2, k3, k4, k5, k6⟩ := kit_all (K := Y.K) t
  have fin : ∀ {c : Bool} {tv : Value}, TyX Y.K H v tv → PySem.W.kitOne Y.K tv (.type (tyN t)) = some c → c = b → ∃ tv, TyX Y.K H v tv ∧ PySem.W.kitOne Y.K tv (.type (tyN t)) = some b := fun a k e => ⟨_, a, by rw [k, e]⟩
  cases r with
  | non => exact fin (.base .non) k1 (by cases t <;> exact Option.some.inj h)
  | bl x => exact fin (.base (.bl x)) k2 (by cases t <;> exact Option.some.inj h)
  | int x => exact fin (.base (.int x)) k3 (by cases t <;> exact Option.some.inj h)
  | str x => exact fin (.base (.str x)) k4 (by cases t <;> exact Option.some.inj h)
  | tup h1 z q => exact fin (tyX_tup h1) k5 (by cases t <;> exact Option.some.inj h)
  | lst h1 n z q => exact fin (.base (.lst h1)) k6 (by cases t <;> exact Option.some.inj h)
  | @cel i a h1 =>
    obtain ⟨vs, hv⟩ := w.mem (.inl (List.mem_of_getElem? h1))
    exact fin (.base (.lst hv)) k6 (by cases t <;> exact Option.some.inj h)
  | rl h1 z q => cases h
  | fn n _ => cases h
end
end Px
end

section
set_option Elab.async false
set_option linter.all false
set_option maxRecDepth 100000
set_option maxHeartbeats 1000000
/-! Px: the checker: the given tree beside ours. -/
namespace Px
open PySem PySem.Spec PyProof.Rows L2

/-- what stands behind the module's names -/
structure Tb where
  fns : List (Nat × Str)
  csts : List (Str × D)
  free : List Str
  mfn : List (Str × String)
  cls : List (Nat × Str)
  /-- the defs that try a lambda -/
  tds : List (Nat × Str × Td)
  /-- whether a lambda may be made here -/
  lam : Bool

def dbeqL (f : D → D → Bool) : List D → List D → Bool
  | [], [] => true
  | x :: xs, y :: ys => f x y && dbeqL f xs ys
  | _, _ => false
def dbeq : Nat → D → D → Bool
  | 0, _, _ => false
  | n + 1, a, b => match a, b with
    | .non, .non => true
    | .bl a, .bl b => a == b
    | .int a, .int b => decide (a = b)
    | .str a, .str b => decide (a = b)
    | .tup a, .tup b => dbeqL (dbeq n) a b
    | .lst a, .lst b => dbeqL (dbeq n) a b
    | .rl a, .rl b => dbeqL (dbeq n) a b
    | .cel a, .cel b => decide (a = b)
    | .fn a, .fn b => decide (a = b)
    | _, _ => false
theorem dbeqL_eq {f : D → D → Bool} (hf : ∀ a b, f a b = true → a = b) : ∀ {xs ys : List D}, dbeqL f xs ys = true → xs = ys
  | [], [], _ => rfl
  | [], _ :: _, h => by cases h
  | _ :: _, [], h => by cases h
  | x :: xs, y :: ys, h => by
    rw [dbeqL, Bool.and_eq_true] at h
    rw [hf _ _ h.1, dbeqL_eq hf h.2]
theorem dbeq_eq : ∀ (n : Nat) {a b : D}, dbeq n a b = true → a = b := by
  intro n
  induction n with
  | zero => intro a b h; cases h
  | succ n ih =>
    intro a b h
    cases a <;> cases b <;> first
      | rfl
      | (cases (show false = true from h); done)
      | (exact congrArg D.bl (eq_of_beq (show (_ == _) = true from h)))
      | (exact congrArg D.int (of_decide_eq_true (show decide (_ = _) = true from h)))
      | (exact congrArg D.str (of_decide_eq_true (show decide (_ = _) = true from h)))
      | (exact congrArg D.cel (of_decide_eq_true (show decide (_ = _) = true from h)))
      | (exact congrArg D.fn (of_decide_eq_true (show decide (_ = _) = true from h)))
      | (exact congrArg D.tup (dbeqL_eq (fun a b h => ih h) (show dbeqL (dbeq n) _ _ = true from h)))
      | (exact congrArg D.lst (dbeqL_eq (fun a b h => ih h) (show dbeqL (dbeq n) _ _ = true from h)))
      | (exact congrArg D.rl (dbeqL_eq (fun a b h => ih h) (show dbeqL (dbeq n) _ _ = true from h)))

/-! ### names -/
def nodbg (x : Str) : Bool := !(x == ("__debug__" : Str)) && !(x == ("__classdict__" : Str))
def visB (sc : Scope) (x : Str) : Bool := match sc.names.lookup x with
  | some .local => true | some .cell => true | some .free => true
  | _ => false
def locB (sc : Scope) (x : Str) : Bool := match sc.names.lookup x with
  | some .local => true | some .cell => true
  | _ => false
def glB (sc : Scope) (x : Str) : Bool := match sc.names.lookup x with
  | some .globalImplicit => true
  | _ => false
def eqS (x y : Str) : Bool := decide (x = y)
def memS (x : Str) : List Str → Bool
  | [] => false
  | y :: ys => if decide (x = y) = true then true else memS x ys
def lookN (n : Nat) : List (Nat × Str) → Option Str
  | [] => none
  | (m, x) :: r => if Nat.beq n m = true then some x else lookN n r
def lookC {α : Type} (x : Str) : List (Str × α) → Option α
  | [] => none
  | (y, d) :: r => if decide (x = y) = true then some d else lookC x r
theorem visB_ok {sc : Scope} {x : Str} (h : visB sc x = true) : Vis sc x := by
  unfold visB at h
  split at h <;> first
    | exact .inl (by assumption)
    | exact .inr (.inl (by assumption))
    | exact .inr (.inr (by assumption))
    | cases h
theorem locB_ok {sc : Scope} {x : Str} (h : locB sc x = true) : Loc sc x := by
  unfold locB at h
  split at h <;> first
    | exact .inl (by assumption)
    | exact .inr (by assumption)
    | cases h
theorem glB_ok {sc : Scope} {x : Str} (h : glB sc x = true) : sc.names.lookup x = some .globalImplicit := by
  unfold glB at h
  split at h <;> first | assumption | cases h
theorem nodbg_ok {x : Str} (h : nodbg x = true) : (x == ("__debug__" : Str)) = false ∧ (x == ("__classdict__" : Str)) = false := by
  unfold nodbg at h
  rw [Bool.and_eq_true, Bool.not_eq_true', Bool.not_eq_true'] at h
  exact h
theorem memS_ok {x : Str} : ∀ {l : List Str}, memS x l = true → x ∈ l
  | [], h => by cases h
  | y :: ys, h => by
    unfold memS at h
    split at h
    · rename_i e
      rw [of_decide_eq_true e]
      exact List.mem_cons_self
    · exact List.mem_cons_of_mem _ (memS_ok h)
theorem lookN_ok {n : Nat} {x : Str} : ∀ {l : List (Nat × Str)}, lookN n l = some x → (n, x) ∈ l
  | [], h => by cases h
  | (m, y) :: r, h => by
    unfold lookN at h
    split at h
    · rename_i e
      have e1 : n = m := Nat.eq_of_beq_eq_true e
      have e2 := Option.some.inj h
      rw [e1, ← e2]
      exact List.mem_cons_self
    · exact List.mem_cons_of_mem _ (lookN_ok h)
theorem lookC_ok {α : Type} {x : Str} {d : α} : ∀ {l : List (Str × α)}, lookC x l = some d → (x, d) ∈ l
  | [], h => by cases h
  | (y, e) :: r, h => by
    unfold lookC at h
    split at h
    · rename_i q
      have e1 := of_decide_eq_true q
      have e2 := Option.some.inj h
      rw [e1, ← e2]
      exact List.mem_cons_self
    · exact List.mem_cons_of_mem _ (lookC_ok h)

/-! ### a lambda that is tried -/
def lookT (n : Nat) : List (Nat × Str × Td) → Option (Str × Td)
  | [] => none
  | (m, x) :: r => if Nat.beq n m = true then some x else lookT n r
theorem lookT_ok {n : Nat} {x : Str} {t : Td} : ∀ {l : List (Nat × Str × Td)}, lookT n l = some (x, t) → (n, x, t) ∈ l
  | [], h => by cases h
  | (m, y) :: r, h => by
    unfold lookT at h
    split at h
    · rename_i e
      have e1 : n = m := Nat.eq_of_beq_eq_true e
      have e2 := Option.some.inj h
      rw [e1, ← e2]
      exact List.mem_cons_self
    · exact List.mem_cons_of_mem _ (lookT_ok h)
def atEq : List (Nat × D) → List (Nat × D) → Bool
  | [], [] => true
  | (m, x) :: r, (n, y) :: q => Nat.beq m n && (dbeq 5 x y && atEq r q)
  | _, _ => false
theorem atEq_ok : ∀ {a b : List (Nat × D)}, atEq a b = true → a = b
  | [], [], _ => rfl
  | (m, x) :: r, (n, y) :: q, h => by
    rw [atEq, Bool.and_eq_true, Bool.and_eq_true] at h
    rw [Nat.eq_of_beq_eq_true h.1, dbeq_eq 5 h.2.1, atEq_ok h.2.2]
  | [], _ :: _, h => by cases h
  | _ :: _, [], h => by cases h
def tdEq (a b : Td) : Bool := dbeq 5 a.fin b.fin && atEq a.at_ b.at_
theorem tdEq_ok {a b : Td} (h : tdEq a b = true) : a = b := by
  obtain ⟨f, l⟩ := a
  obtain ⟨g, m⟩ := b
  rw [tdEq, Bool.and_eq_true] at h
  have e1 : f = g := dbeq_eq 5 h.1
  have e2 : l = m := atEq_ok h.2
  rw [e1, e2]
def tdB (B : Tb) (n : Nat) (x : Str) (t : Td) : Bool := match lookT n B.tds with
  | some q => eqS q.1 x && tdEq q.2 t
  | none => false
theorem tdB_ok {B : Tb} {n : Nat} {x : Str} {t : Td} (h : tdB B n x t = true) : (n, x, t) ∈ B.tds := by
  unfold tdB at h
  split at h
  · rename_i q e
    obtain ⟨y, u⟩ := q
    rw [Bool.and_eq_true] at h
    have e1 : y = x := of_decide_eq_true h.1
    have e2 : u = t := tdEq_ok h.2
    rw [e1, e2] at e
    exact lookT_ok e
  · cases h
def noArgs (p : Arguments) : Bool := p.posonlyargs.isEmpty && (p.args.isEmpty && (p.vararg.isNone && (p.kwonlyargs.isEmpty && (p.kw_defaults.isEmpty && (p.kwarg.isNone && p.defaults.isEmpty)))))

/-! ### plain trees -/
def plainE : PySem.Expr → Bool
  | .Starred .. => false
  | .Set .. => false
  | .Slice .. => false
  | _ => true
theorem star_cons {e : PySem.Expr} (h : plainE e = true) (es : List PySem.Expr) (env : PySem.Env) : starEach (e :: es) env = (false, eval e env) :: starEach es env := by
  cases e <;> first | rfl | cases h
theorem mark_plain {e : PySem.Expr} (h : plainE e = true) (op : CmpOp) : behindInMarks op e = false := by
  cases e <;> first | rfl | cases h
theorem ix_plain {e : PySem.Expr} (h : plainE e = true) : PlainIx e := by
  cases e <;> first | exact fun _ _ => rfl | cases h
theorem fold_plain {e : PySem.Expr} (h : plainE e = true) (env : PySem.Env) (x : Value) : foldedSetIterable e env x = pure x := by
  cases e <;> first | rfl | cases h
theorem last_plain {o1 o2 : CmpOp} {b c : PySem.Expr} (h : plainE c = true) : lastMarks [o1, o2] [b, c] = false := mark_plain h o2
def plainL : List PySem.Expr → Bool
  | [] => true
  | e :: es => plainE e && plainL es
theorem star_none : ∀ {es : List PySem.Expr} {env : PySem.Env} {pos : Pos}, plainL es = true → (backTo pos (starEach es env)).any (·.1) = false
  | [], _, _, _ => rfl
  | e :: es, env, pos, h => by
    rw [plainL, Bool.and_eq_true] at h
    rw [star_cons h.1]
    exact star_none h.2

/-! ### operators -/
def opB : Bo → Operator → Bool
  | .add, .Add => true | .sub, .Sub => true | .mul, .Mult => true | .fdiv, .FloorDiv => true | .mod, .Mod => true | .pow, .Pow => true
  | _, _ => false
def coB : Co → CmpOp → Bool
  | .eq, .Eq => true | .ne, .NotEq => true | .lt, .Lt => true | .le, .LtE => true | .gt, .Gt => true | .ge, .GtE => true
  | .isN, .Is => true | .isNot, .IsNot => true | .isin, .In => true | .notin, .NotIn => true
  | _, _ => false
/-- the built-in's name, whether it is a type, its id -/
def biN : Bi → Str × Bool × String
  | .len => ("len", false, "len") | .abs => ("abs", false, "abs") | .int => ("int", true, "int") | .list => ("list", true, "list") | .tuple => ("tuple", true, "tuple")
  | .max2 => ("max", false, "max") | .min2 => ("min", false, "min") | .max1 => ("max", false, "max") | .min1 => ("min", false, "min")
  | .sum => ("sum", false, "sum") | .all => ("all", false, "all") | .any => ("any", false, "any") | .gcd => ("gcd", false, "math.gcd") | .isqrt => ("isqrt", false, "math.isqrt")
def mathB : Bi → Bool
  | .gcd => true | .isqrt => true
  | _ => false
def tyS : Ty → Str
  | .int => "int" | .bool => "bool" | .str => "str" | .tuple => "tuple" | .list => "list"
def constB : Const → D → Bool
  | .none, .non => true
  | .bool a, .bl b => a == b
  | .int i, .int j => decide (i = j)
  | .str x, .str y => decide (x = y)
  | _, _ => false
/-- whether a tree's test is its value's truth by a rule of ours -/
def tst : RE → Bool
  | .ite _ _ _ => false
  | .and a b => tst a && tst b
  | .or a b => tst a && tst b
  | .not a => tst a
  | .nil => false
  | .cons _ _ => false
  | _ => true

inductive Qx where
  | E (e : PySem.Expr) | L (es : List PySem.Expr) | I (tg e : PySem.Expr)
inductive Qt where
  | E (e : PySem.Expr) | L (es : List PySem.Expr)
def isYes : RE → Bool
  | .c (.bl true) => true
  | _ => false
def isNo : RE → Bool
  | .c .non => true
  | _ => false
def isTupE : PySem.Expr → Bool
  | .Tuple .. => true
  | _ => false

def chkT (N : List Str) (sc : Scope) (fnb : Str → Bool) : Tg → Qt → Bool
  | .name i, .E (.Name x _) => decide (N[i]? = some x) && (locB sc x && (fnb x || (match sc.names.lookup x with | some .local => true | _ => false)))
  | .tup l, .E (.Tuple es _ _) => plainL es && chkT N sc fnb l (.L es)
  | .nil, .L [] => true
  | .cons a r, .L (e :: es) => chkT N sc fnb a (.E e) && chkT N sc fnb r (.L es)
  | _, _ => false

/-- every name of a target is among these -/
def tgIn : Tg → List Nat → Bool
  | .name i, own => own.contains i
  | .tup l, own => tgIn l own
  | .nil, _ => true
  | .cons a r, own => tgIn a own && tgIn r own
def blkFn (scope : Scope) : Str → Bool := fun x => scope.names.lookup x == some .cell
def ownB (N : List Str) (own : List Nat) : List (Str × Nat) := own.filterMap fun i => match N[i]? with
  | some x => some (x, i)
  | none => none

def meN : Me → Str
  | .append => "append" | .pop => "pop" | .popAt => "pop"
def meC : Me → List PySem.Expr → Bool
  | .append, [_] => true
  | .pop, [] => true
  | .popAt, [_] => true
  | _, _ => false
def notCall : PySem.Expr → Bool
  | .Call .. => false
  | _ => true
def revC (e : PySem.Expr) (f : Int → PySem.Expr → Bool) : Bool := match e with
  | .Subscript x (.Slice none none (some (.UnaryOp .USub (.Constant (.int i) _ _) _)) _) _ => f i x
  | _ => false
def chk (B : Tb) (N : List Str) : RE → Scope → Qx → Bool
  | .var i, sc, .E (.Name x _) => decide (N[i]? = some x) && (visB sc x && nodbg x)
  | .c d, sc, .E e => match e with
    | .Constant k _ _ => constB k d
    | .Name x _ => glB sc x && (nodbg x && (match lookC x B.csts with | some d' => dbeq 100 d' d | none => false))
    | _ => false
  | .gl n, sc, .E (.Name x _) => glB sc x && (nodbg x && (match lookN n B.fns with | some y => eqS x y | none => false))
  | .tup l, sc, .E (.Tuple es _ _) => Nat.ble es.length 100000 && chk B N l sc (.L es)
  | .lst _ l, sc, .E (.List es _) => Nat.ble es.length 100000 && chk B N l sc (.L es)
  | .bin op _ a b, sc, .E (.BinOp x o y _) => opB op o && (chk B N a sc (.E x) && chk B N b sc (.E y))
  | .neg a, sc, .E (.UnaryOp .USub x _) => chk B N a sc (.E x)
  | .cmp op a b, sc, .E (.Compare x [o] [y] _) => coB op o && (plainE y && (chk B N a sc (.E x) && chk B N b sc (.E y)))
  | .chain o1 o2 a b c, sc, .E (.Compare x [p1, p2] [y, z] _) => coB o1 p1 && (coB o2 p2 && (plainE z && (chk B N a sc (.E x) && (chk B N b sc (.E y) && chk B N c sc (.E z)))))
  | .and a b, sc, .E (.BoolOp .And (x :: y :: rest) pos) => chk B N a sc (.E x) && (match rest with
    | [] => chk B N b sc (.E y)
    | z :: t => chk B N b sc (.E (.BoolOp .And (y :: z :: t) pos)))
  | .or a b, sc, .E (.BoolOp .Or (x :: y :: rest) pos) => chk B N a sc (.E x) && (match rest with
    | [] => chk B N b sc (.E y)
    | z :: t => chk B N b sc (.E (.BoolOp .Or (y :: z :: t) pos)))
  | .not a, sc, .E (.UnaryOp .Not x _) => tst a && chk B N a sc (.E x)
  | .ite c a b, sc, .E (.IfExp x y z _) => tst c && (chk B N c sc (.E x) && (chk B N a sc (.E y) && chk B N b sc (.E z)))
  | .call n l, sc, .E (.Call (.Name x _) (e :: es) [] _) => glB sc x && (nodbg x && ((match lookN n B.fns with | some y => eqS x y | none => false) && (plainL (e :: es) && chk B N l sc (.L (e :: es)))))
  | .callv i l, sc, .E (.Call (.Name x _) (e :: es) [] _) => decide (N[i]? = some x) && (visB sc x && (nodbg x && (plainL (e :: es) && chk B N l sc (.L (e :: es)))))
  | .lset a, sc, .E (.Call (.Name x _) [.Call (.Name y _) [e] [] _] [] _) => eqS x "len" && (glB sc x && (memS x B.free && (eqS y "set" && (glB sc y && (memS y B.free && (plainE e && chk B N a sc (.E e)))))))
  | .bi b _ l, sc, .E (.Call (.Name x _) (e :: es) [] _) => eqS x (biN b).1 && (glB sc x && ((if mathB b = true then (match lookC x B.mfn with | some id => decide (id = (biN b).2.2) | none => false) else memS x B.free) && (plainL (e :: es) && chk B N l sc (.L (e :: es)))))
  | .isi a t, sc, .E (.Call (.Name x _) [e, .Name ty _] [] _) => eqS x "isinstance" && (glB sc x && (memS x B.free && (eqS ty (tyS t) && (glB sc ty && (memS ty B.free && (plainE e && chk B N a sc (.E e)))))))
  | .sub a i, sc, .E (.Subscript x y _) => plainE y && (chk B N a sc (.E x) && chk B N i sc (.E y))
  | .slc _ a lo hi, sc, .E (.Subscript x (.Slice l h none _) _) => chk B N a sc (.E x) && ((match l with
      | some l => chk B N lo sc (.E l)
      | none => isNo lo) && (match h with
      | some h => chk B N hi sc (.E h)
      | none => isNo hi))
  | .rev _ a, sc, .E e => revC e fun i x => decide (i = 1) && chk B N a sc (.E x)
  | .comp _ elt own tg it cond, sc, .E (.ListComp e [g] scope _) => decide (g.is_async = 0) &&
    (blkC N sc scope (ownB N own) && (decide ((ownB N own).map (·.2) = own) && (tgIn tg own && (plainE g.iter && (chk B N it sc (.I g.target g.iter) && (chkT N (relS scope sc) (blkFn scope) tg (.E g.target) &&
      ((match g.ifs with
        | [] => isYes cond
        | [c] => tst cond && chk B N cond (relS scope sc) (.E c)
        | _ => false) && chk B N elt (relS scope sc) (.E e))))))))
  | .meth m a l, sc, .E (.Call (.Attribute o name apos) es [] cpos) => eqS name (meN m) && (notCall o && (decide (apos.endLine = cpos.line) && (plainL es && (meC m es && (chk B N a sc (.E o) && chk B N l sc (.L es))))))
  | .lamc n t a, sc, .E (.Call (.Name x _) [.Lambda ps e scope _] [] _) => B.lam && (glB sc x && (nodbg x && (tdB B n x t && (noArgs ps && (LamX.lamSB sc scope && chk B N a scope (.E e))))))
  | .nil, _, .L [] => true
  | .cons a r, sc, .L (e :: es) => plainE e && (chk B N a sc (.E e) && chk B N r sc (.L es))
  | .seq a, sc, .I _ e => chk B N a sc (.E e)
  | .rng l, sc, .I _ (.Call (.Name x _) es [] _) => eqS x "range" && (glB sc x && (memS x B.free && (plainL es && ((match es with
      | [_] => true
      | [_, _] => true
      | _ => false) && chk B N l sc (.L es)))))
  | .zip a b, sc, .I tg (.Call (.Name x _) [e, e2] [] _) => isTupE tg && (eqS x "zip" && (glB sc x && (memS x B.free && (plainE e && (plainE e2 && (chk B N a sc (.E e) && chk B N b sc (.E e2)))))))
  | .enum a, sc, .I tg (.Call (.Name x _) [e] [] _) => isTupE tg && (eqS x "enumerate" && (glB sc x && (memS x B.free && (plainE e && chk B N a sc (.E e)))))
  | _, _, _ => false
end Px
end

section
set_option Elab.async false
set_option linter.all false
set_option maxRecDepth 100000
set_option maxHeartbeats 1000000
/-! Px: what the checker's yes says of the tree (printed by geninv.py). -/
namespace Px
open PySem PySem.Spec PyProof.Rows L2
theorem inv_var {B : Tb} {N : List Str} {sc : Scope} {i : Nat} {e : PySem.Expr} (h : chk B N (.var i) sc (.E e) = true) : ∃ x p, e = .Name x p ∧ (decide (N[i]? = some x) && (visB sc x && nodbg x)) = true := by
  cases e with
  | Name x p => exact ⟨_, _, rfl, h⟩
  | _ => exact absurd (show false = true from h) Bool.false_ne_true

theorem inv_gl {B : Tb} {N : List Str} {sc : Scope} {n : Nat} {e : PySem.Expr} (h : chk B N (.gl n) sc (.E e) = true) : ∃ x p, e = .Name x p ∧ (glB sc x && (nodbg x && (match lookN n B.fns with | some y => eqS x y | none => false))) = true := by
  cases e with
  | Name x p => exact ⟨_, _, rfl, h⟩
  | _ => exact absurd (show false = true from h) Bool.false_ne_true

theorem inv_tup {B : Tb} {N : List Str} {sc : Scope} {l : RE} {e : PySem.Expr} (h : chk B N (.tup l) sc (.E e) = true) : ∃ es k p, e = .Tuple es k p ∧ (Nat.ble es.length 100000 && chk B N l sc (.L es)) = true := by
  cases e with
  | Tuple es k p => exact ⟨_, _, _, rfl, h⟩
  | _ => exact absurd (show false = true from h) Bool.false_ne_true

theorem inv_lst {B : Tb} {N : List Str} {sc : Scope} {mu : Bool} {l : RE} {e : PySem.Expr} (h : chk B N (.lst mu l) sc (.E e) = true) : ∃ es p, e = .List es p ∧ (Nat.ble es.length 100000 && chk B N l sc (.L es)) = true := by
  cases e with
  | List es p => exact ⟨_, _, rfl, h⟩
  | _ => exact absurd (show false = true from h) Bool.false_ne_true

theorem inv_bin {B : Tb} {N : List Str} {sc : Scope} {op : Bo} {mu : Bool} {a b : RE} {e : PySem.Expr} (h : chk B N (.bin op mu a b) sc (.E e) = true) : ∃ x o y p, e = .BinOp x o y p ∧ (opB op o && (chk B N a sc (.E x) && chk B N b sc (.E y))) = true := by
  cases e with
  | BinOp x o y p => exact ⟨_, _, _, _, rfl, h⟩
  | _ => exact absurd (show false = true from h) Bool.false_ne_true

theorem inv_ite {B : Tb} {N : List Str} {sc : Scope} {c a b : RE} {e : PySem.Expr} (h : chk B N (.ite c a b) sc (.E e) = true) : ∃ x y z p, e = .IfExp x y z p ∧ (tst c && (chk B N c sc (.E x) && (chk B N a sc (.E y) && chk B N b sc (.E z)))) = true := by
  cases e with
  | IfExp x y z p => exact ⟨_, _, _, _, rfl, h⟩
  | _ => exact absurd (show false = true from h) Bool.false_ne_true

theorem inv_neg {B : Tb} {N : List Str} {sc : Scope} {a : RE} {e : PySem.Expr} (h : chk B N (.neg a) sc (.E e) = true) : ∃ x p, e = .UnaryOp .USub x p ∧ (chk B N a sc (.E x)) = true := by
  cases e with
  | UnaryOp o x p =>
    cases o with
    | USub => exact ⟨_, _, rfl, h⟩
    | _ => exact absurd (show false = true from h) Bool.false_ne_true
  | _ => exact absurd (show false = true from h) Bool.false_ne_true

theorem inv_not {B : Tb} {N : List Str} {sc : Scope} {a : RE} {e : PySem.Expr} (h : chk B N (.not a) sc (.E e) = true) : ∃ x p, e = .UnaryOp .Not x p ∧ (tst a && chk B N a sc (.E x)) = true := by
  cases e with
  | UnaryOp o x p =>
    cases o with
    | Not => exact ⟨_, _, rfl, h⟩
    | _ => exact absurd (show false = true from h) Bool.false_ne_true
  | _ => exact absurd (show false = true from h) Bool.false_ne_true

theorem inv_cmp {B : Tb} {N : List Str} {sc : Scope} {op : Co} {a b : RE} {e : PySem.Expr} (h : chk B N (.cmp op a b) sc (.E e) = true) : ∃ x o y p, e = .Compare x [o] [y] p ∧ (coB op o && (plainE y && (chk B N a sc (.E x) && chk B N b sc (.E y)))) = true := by
  cases e with
  | Compare x os ys p =>
    cases os with
    | nil => exact absurd (show false = true from h) Bool.false_ne_true
    | cons o os =>
      cases os with
      | cons _ _ => cases ys with
        | nil => exact absurd (show false = true from h) Bool.false_ne_true
        | cons y ys => cases ys with
          | nil => exact absurd (show false = true from h) Bool.false_ne_true
          | cons _ _ => exact absurd (show false = true from h) Bool.false_ne_true
      | nil => cases ys with
        | nil => exact absurd (show false = true from h) Bool.false_ne_true
        | cons y ys => cases ys with
          | nil => exact ⟨_, _, _, _, rfl, h⟩
          | cons _ _ => exact absurd (show false = true from h) Bool.false_ne_true
  | _ => exact absurd (show false = true from h) Bool.false_ne_true

theorem inv_chain {B : Tb} {N : List Str} {sc : Scope} {o1 o2 : Co} {a b c : RE} {e : PySem.Expr} (h : chk B N (.chain o1 o2 a b c) sc (.E e) = true) : ∃ x p1 p2 y z p, e = .Compare x [p1, p2] [y, z] p ∧ (coB o1 p1 && (coB o2 p2 && (plainE z && (chk B N a sc (.E x) && (chk B N b sc (.E y) && chk B N c sc (.E z)))))) = true := by
  cases e with
  | Compare x os ys p =>
    rcases os with _ | ⟨p1, _ | ⟨p2, _ | ⟨p3, os⟩⟩⟩ <;> rcases ys with _ | ⟨y, _ | ⟨z, _ | ⟨z2, ys⟩⟩⟩ <;> first
      | exact ⟨_, _, _, _, _, _, rfl, h⟩
      | exact absurd (show false = true from h) Bool.false_ne_true
  | _ => exact absurd (show false = true from h) Bool.false_ne_true

theorem inv_and {B : Tb} {N : List Str} {sc : Scope} {a b : RE} {e : PySem.Expr} (h : chk B N (.and a b) sc (.E e) = true) : ∃ x y rest p, e = .BoolOp .And (x :: y :: rest) p ∧ (chk B N a sc (.E x) && (match rest with | [] => chk B N b sc (.E y) | z :: t => chk B N b sc (.E (.BoolOp .And (y :: z :: t) p)))) = true := by
  cases e with
  | BoolOp o xs p =>
    cases o with
    | And =>
      rcases xs with _ | ⟨x, _ | ⟨y, xs⟩⟩
      · exact absurd (show false = true from h) Bool.false_ne_true
      · exact absurd (show false = true from h) Bool.false_ne_true
      · exact ⟨_, _, _, _, rfl, h⟩
    | _ => exact absurd (show false = true from h) Bool.false_ne_true
  | _ => exact absurd (show false = true from h) Bool.false_ne_true

theorem inv_or {B : Tb} {N : List Str} {sc : Scope} {a b : RE} {e : PySem.Expr} (h : chk B N (.or a b) sc (.E e) = true) : ∃ x y rest p, e = .BoolOp .Or (x :: y :: rest) p ∧ (chk B N a sc (.E x) && (match rest with | [] => chk B N b sc (.E y) | z :: t => chk B N b sc (.E (.BoolOp .Or (y :: z :: t) p)))) = true := by
  cases e with
  | BoolOp o xs p =>
    cases o with
    | Or =>
      rcases xs with _ | ⟨x, _ | ⟨y, xs⟩⟩
      · exact absurd (show false = true from h) Bool.false_ne_true
      · exact absurd (show false = true from h) Bool.false_ne_true
      · exact ⟨_, _, _, _, rfl, h⟩
    | _ => exact absurd (show false = true from h) Bool.false_ne_true
  | _ => exact absurd (show false = true from h) Bool.false_ne_true

theorem inv_call {B : Tb} {N : List Str} {sc : Scope} {n : Nat} {l : RE} {e : PySem.Expr} (h : chk B N (.call n l) sc (.E e) = true) : ∃ x q e1 es p, e = .Call (.Name x q) (e1 :: es) [] p ∧ (glB sc x && (nodbg x && ((match lookN n B.fns with | some y => eqS x y | none => false) && (plainL (e1 :: es) && chk B N l sc (.L (e1 :: es)))))) = true := by
  cases e with
  | Call f xs ks p =>
    cases f with
    | Name x q =>
      rcases xs with _ | ⟨e1, es⟩ <;> rcases ks with _ | ⟨k, ks⟩ <;> first
        | exact ⟨_, _, _, _, _, rfl, h⟩
        | exact absurd (show false = true from h) Bool.false_ne_true
    | _ => exact absurd (show false = true from h) Bool.false_ne_true
  | _ => exact absurd (show false = true from h) Bool.false_ne_true

theorem inv_callv {B : Tb} {N : List Str} {sc : Scope} {i : Nat} {l : RE} {e : PySem.Expr} (h : chk B N (.callv i l) sc (.E e) = true) : ∃ x q e1 es p, e = .Call (.Name x q) (e1 :: es) [] p ∧ (decide (N[i]? = some x) && (visB sc x && (nodbg x && (plainL (e1 :: es) && chk B N l sc (.L (e1 :: es)))))) = true := by
  cases e with
  | Call f xs ks p =>
    cases f with
    | Name x q =>
      rcases xs with _ | ⟨e1, es⟩ <;> rcases ks with _ | ⟨k, ks⟩ <;> first
        | exact ⟨_, _, _, _, _, rfl, h⟩
        | exact absurd (show false = true from h) Bool.false_ne_true
    | _ => exact absurd (show false = true from h) Bool.false_ne_true
  | _ => exact absurd (show false = true from h) Bool.false_ne_true

theorem inv_bi {B : Tb} {N : List Str} {sc : Scope} {b : Bi} {mu : Bool} {l : RE} {e : PySem.Expr} (h : chk B N (.bi b mu l) sc (.E e) = true) : ∃ x q e1 es p, e = .Call (.Name x q) (e1 :: es) [] p ∧ (eqS x (biN b).1 && (glB sc x && ((if mathB b = true then (match lookC x B.mfn with | some id => decide (id = (biN b).2.2) | none => false) else memS x B.free) && (plainL (e1 :: es) && chk B N l sc (.L (e1 :: es)))))) = true := by
  cases e with
  | Call f xs ks p =>
    cases f with
    | Name x q =>
      rcases xs with _ | ⟨e1, es⟩ <;> rcases ks with _ | ⟨k, ks⟩ <;> first
        | exact ⟨_, _, _, _, _, rfl, h⟩
        | exact absurd (show false = true from h) Bool.false_ne_true
    | _ => exact absurd (show false = true from h) Bool.false_ne_true
  | _ => exact absurd (show false = true from h) Bool.false_ne_true

theorem inv_lset {B : Tb} {N : List Str} {sc : Scope} {a : RE} {e : PySem.Expr} (h : chk B N (.lset a) sc (.E e) = true) : ∃ x q y q2 e1 p2 p, e = .Call (.Name x q) [.Call (.Name y q2) [e1] [] p2] [] p ∧ (eqS x "len" && (glB sc x && (memS x B.free && (eqS y "set" && (glB sc y && (memS y B.free && (plainE e1 && chk B N a sc (.E e1)))))))) = true := by
  cases e with
  | Call f xs ks p =>
    cases f with
    | Name x q =>
      rcases xs with _ | ⟨e1, _ | ⟨e2, es⟩⟩ <;> rcases ks with _ | ⟨k, ks⟩ <;> first
        | exact absurd (show false = true from h) Bool.false_ne_true
        | (cases e1 with
           | Call f ys ls p2 =>
             cases f with
             | Name y q2 =>
               rcases ys with _ | ⟨e1, _ | ⟨e2, es⟩⟩ <;> rcases ls with _ | ⟨k, ks⟩ <;> first
                 | exact ⟨_, _, _, _, _, _, _, rfl, h⟩
                 | exact absurd (show false = true from h) Bool.false_ne_true
             | _ => exact absurd (show false = true from h) Bool.false_ne_true
           | _ => exact absurd (show false = true from h) Bool.false_ne_true)
    | _ => exact absurd (show false = true from h) Bool.false_ne_true
  | _ => exact absurd (show false = true from h) Bool.false_ne_true

theorem inv_isi {B : Tb} {N : List Str} {sc : Scope} {a : RE} {t : Ty} {e : PySem.Expr} (h : chk B N (.isi a t) sc (.E e) = true) : ∃ x q e1 ty q2 p, e = .Call (.Name x q) [e1, .Name ty q2] [] p ∧ (eqS x "isinstance" && (glB sc x && (memS x B.free && (eqS ty (tyS t) && (glB sc ty && (memS ty B.free && (plainE e1 && chk B N a sc (.E e1)))))))) = true := by
  cases e with
  | Call f xs ks p =>
    cases f with
    | Name x q =>
      rcases xs with _ | ⟨e1, _ | ⟨e2, _ | ⟨e3, es⟩⟩⟩ <;> rcases ks with _ | ⟨k, ks⟩ <;> first
        | exact absurd (show false = true from h) Bool.false_ne_true
        | (cases e2 <;> first
          | exact absurd (show false = true from h) Bool.false_ne_true
          | exact ⟨_, _, _, _, _, _, rfl, h⟩)
    | _ => exact absurd (show false = true from h) Bool.false_ne_true
  | _ => exact absurd (show false = true from h) Bool.false_ne_true

theorem inv_lamc {B : Tb} {N : List Str} {sc : Scope} {n : Nat} {t : Td} {a : RE} {e : PySem.Expr} (h : chk B N (.lamc n t a) sc (.E e) = true) : ∃ x q ps e1 scope p2 p, e = .Call (.Name x q) [.Lambda ps e1 scope p2] [] p ∧ (B.lam && (glB sc x && (nodbg x && (tdB B n x t && (noArgs ps && (LamX.lamSB sc scope && chk B N a scope (.E e1))))))) = true := by
  cases e with
  | Call f xs ks p =>
    cases f with
    | Name x q =>
      rcases xs with _ | ⟨e1, _ | ⟨e2, es⟩⟩ <;> rcases ks with _ | ⟨k, ks⟩ <;> first
        | exact absurd (show false = true from h) Bool.false_ne_true
        | (cases e1 <;> first
          | exact absurd (show false = true from h) Bool.false_ne_true
          | exact ⟨_, _, _, _, _, _, _, rfl, h⟩)
    | _ => exact absurd (show false = true from h) Bool.false_ne_true
  | _ => exact absurd (show false = true from h) Bool.false_ne_true

theorem inv_sub {B : Tb} {N : List Str} {sc : Scope} {a i : RE} {e : PySem.Expr} (h : chk B N (.sub a i) sc (.E e) = true) : ∃ x y p, e = .Subscript x y p ∧ (plainE y && (chk B N a sc (.E x) && chk B N i sc (.E y))) = true := by
  cases e with
  | Subscript x y p => exact ⟨_, _, _, rfl, h⟩
  | _ => exact absurd (show false = true from h) Bool.false_ne_true

theorem inv_slc {B : Tb} {N : List Str} {sc : Scope} {mu : Bool} {a lo hi : RE} {e : PySem.Expr} (h : chk B N (.slc mu a lo hi) sc (.E e) = true) : ∃ x l hh p2 p, e = .Subscript x (.Slice l hh none p2) p ∧ (chk B N a sc (.E x) && ((match l with | some l => chk B N lo sc (.E l) | none => isNo lo) && (match hh with | some hh => chk B N hi sc (.E hh) | none => isNo hi))) = true := by
  cases e with
  | Subscript x y p =>
    cases y with
    | Slice l hh st p2 =>
      cases st with
      | none => exact ⟨_, _, _, _, _, rfl, h⟩
      | some st => exact absurd (show false = true from h) Bool.false_ne_true
    | _ => exact absurd (show false = true from h) Bool.false_ne_true
  | _ => exact absurd (show false = true from h) Bool.false_ne_true

theorem inv_rev {B : Tb} {N : List Str} {sc : Scope} {mu : Bool} {a : RE} {e : PySem.Expr} (h : chk B N (.rev mu a) sc (.E e) = true) : ∃ x i j p1 p2 p3 p, e = .Subscript x (.Slice none none (some (.UnaryOp .USub (.Constant (.int i) j p1) p2)) p3) p ∧ (decide (i = 1) && chk B N a sc (.E x)) = true := by
  replace h : revC e (fun i x => decide (i = 1) && chk B N a sc (.E x)) = true := h
  unfold revC at h
  split at h
  · exact ⟨_, _, _, _, _, _, _, rfl, h⟩
  · cases h

theorem inv_meth {B : Tb} {N : List Str} {sc : Scope} {m : Me} {a l : RE} {e : PySem.Expr} (h : chk B N (.meth m a l) sc (.E e) = true) : ∃ o name apos es cpos, e = .Call (.Attribute o name apos) es [] cpos ∧ (eqS name (meN m) && (notCall o && (decide (apos.endLine = cpos.line) && (plainL es && (meC m es && (chk B N a sc (.E o) && chk B N l sc (.L es))))))) = true := by
  cases e with
  | Call f xs ks p =>
    cases f with
    | Attribute o name apos =>
      rcases ks with _ | ⟨k, ks⟩ <;> first
        | exact ⟨_, _, _, _, _, rfl, h⟩
        | exact absurd (show false = true from h) Bool.false_ne_true
    | _ => exact absurd (show false = true from h) Bool.false_ne_true
  | _ => exact absurd (show false = true from h) Bool.false_ne_true

theorem inv_comp {B : Tb} {N : List Str} {sc : Scope} {mu : Bool} {elt : RE} {own : List Nat} {tg : Tg} {it cond : RE} {e : PySem.Expr} (h : chk B N (.comp mu elt own tg it cond) sc (.E e) = true) : ∃ e1 g scope p, e = .ListComp e1 [g] scope p ∧ (decide (g.is_async = 0) && (blkC N sc scope (ownB N own) && (decide ((ownB N own).map (·.2) = own) && (tgIn tg own && (plainE g.iter && (chk B N it sc (.I g.target g.iter) && (chkT N (relS scope sc) (blkFn scope) tg (.E g.target) &&
      ((match g.ifs with | [] => isYes cond | [c] => tst cond && chk B N cond (relS scope sc) (.E c) | _ => false) && chk B N elt (relS scope sc) (.E e1))))))))) = true := by
  cases e with
  | ListComp e1 gs scope p =>
    rcases gs with _ | ⟨g, _ | ⟨g2, gs⟩⟩
    · exact absurd (show false = true from h) Bool.false_ne_true
    · exact ⟨_, _, _, _, rfl, h⟩
    · exact absurd (show false = true from h) Bool.false_ne_true
  | _ => exact absurd (show false = true from h) Bool.false_ne_true

theorem inv_rng {B : Tb} {N : List Str} {sc : Scope} {l : RE} {tg e : PySem.Expr} (h : chk B N (.rng l) sc (.I tg e) = true) : ∃ x q es p, e = .Call (.Name x q) es [] p ∧ (eqS x "range" && (glB sc x && (memS x B.free && (plainL es && ((match es with | [_] => true | [_, _] => true | _ => false) && chk B N l sc (.L es)))))) = true := by
  cases e with
  | Call f xs ks p =>
    cases f with
    | Name x q =>
      rcases ks with _ | ⟨k, ks⟩
      · exact ⟨_, _, _, _, rfl, h⟩
      · exact absurd (show false = true from h) Bool.false_ne_true
    | _ => exact absurd (show false = true from h) Bool.false_ne_true
  | _ => exact absurd (show false = true from h) Bool.false_ne_true

theorem inv_zip {B : Tb} {N : List Str} {sc : Scope} {a b : RE} {tg e : PySem.Expr} (h : chk B N (.zip a b) sc (.I tg e) = true) : ∃ x q e1 e2 p, e = .Call (.Name x q) [e1, e2] [] p ∧ (isTupE tg && (eqS x "zip" && (glB sc x && (memS x B.free && (plainE e1 && (plainE e2 && (chk B N a sc (.E e1) && chk B N b sc (.E e2)))))))) = true := by
  cases e with
  | Call f xs ks p =>
    cases f with
    | Name x q =>
      rcases xs with _ | ⟨e1, _ | ⟨e2, _ | ⟨e3, es⟩⟩⟩ <;> rcases ks with _ | ⟨k, ks⟩ <;> first
        | exact ⟨_, _, _, _, _, rfl, h⟩
        | exact absurd (show false = true from h) Bool.false_ne_true
    | _ => exact absurd (show false = true from h) Bool.false_ne_true
  | _ => exact absurd (show false = true from h) Bool.false_ne_true

theorem inv_enum {B : Tb} {N : List Str} {sc : Scope} {a : RE} {tg e : PySem.Expr} (h : chk B N (.enum a) sc (.I tg e) = true) : ∃ x q e1 p, e = .Call (.Name x q) [e1] [] p ∧ (isTupE tg && (eqS x "enumerate" && (glB sc x && (memS x B.free && (plainE e1 && chk B N a sc (.E e1)))))) = true := by
  cases e with
  | Call f xs ks p =>
    cases f with
    | Name x q =>
      rcases xs with _ | ⟨e1, _ | ⟨e2, es⟩⟩ <;> rcases ks with _ | ⟨k, ks⟩ <;> first
        | exact ⟨_, _, _, _, rfl, h⟩
        | exact absurd (show false = true from h) Bool.false_ne_true
    | _ => exact absurd (show false = true from h) Bool.false_ne_true
  | _ => exact absurd (show false = true from h) Bool.false_ne_true

end Px
end

section
set_option Elab.async false
set_option linter.all false
set_option maxRecDepth 100000
set_option maxHeartbeats 1000000
/-! Px: expressions: each rule beside our meaning. -/
namespace L2
open PySem PySem.Spec PyProof.Rows
theorem PE.mono {X : Cx} {e : PySem.Expr} {t t' : TE} (h : PE X e t) (k : ∀ σ H Q, t' σ H Q → t σ H Q) : PE X e t' := ⟨fun pins s σ H Q I q => h.run pins s σ H Q I (k _ _ _ q)⟩
theorem PT.mono {X : Cx} {e : PySem.Expr} {t t' : TT} (h : PT X e t) (k : ∀ σ H Q, t' σ H Q → t σ H Q) : PT X e t' := ⟨fun pins s σ H Q I q => h.run pins s σ H Q I (k _ _ _ q)⟩
theorem PW.mono {X : Cx} {e : PySem.Expr} {t t' : TT} (h : PW X e t) (k : ∀ σ H Q, t' σ H Q → t σ H Q) : PW X e t' := ⟨fun wh pins s σ H Q I q => h.run wh pins s σ H Q I (k _ _ _ q)⟩
theorem PA.mono {X : Cx} {es : List PySem.Expr} {t t' : TA} (h : PA X es t) (k : ∀ σ H Q, t' σ H Q → t σ H Q) : PA X es t' := ⟨fun pos pins s σ H Q I q => h.run pos pins s σ H Q I (k _ _ _ q)⟩
theorem PI.mono {X : Cx} {tg e : PySem.Expr} {t t' : TI} (h : PI X tg e t) (k : ∀ σ H Q, t' σ H Q → t σ H Q) : PI X tg e t' := ⟨fun pins s σ H Q I q => h.run pins s σ H Q I (k _ _ _ q)⟩

end L2
namespace Px
open PySem PySem.Spec PyProof.Rows L2

/-! ### a def that tries a lambda -/
def cvD : D → Option V
  | .non => some .non
  | .bl b => some (.bl b)
  | .int i => some (.int i)
  | .str x => some (.str x)
  | _ => none
theorem cvD_rep {Y : Fx} {d : D} {v : V} (h : cvD d = some v) (H : Hp) (as : Ad) : Rep Y H as d v := by
  cases d with
  | non => cases h; exact .non
  | bl b => cases h; exact .bl b
  | int i => cases h; exact .int i
  | str x => cases h; exact .str x
  | _ => cases h
/-- what such a def makes of the lambda's reading -/
def tdTT (Y : Fx) (t : Td) : (XK → Hp → VK → Prop) → Hp → VK → Prop := fun tl H Q =>
  tl (fun cls _ H' => ∃ c d, cls = .ref (Y.ca c) ∧ tdAt t.at_ c = some d ∧ ∀ v, cvD d = some v → Q v H') H (fun _ H' => ∀ v, cvD t.fin = some v → Q v H')
structure TdOk (Y : Fx) (mg : Str → Option Value) (x : Str) (t : Td) : Prop where
  ex : ∃ (g : Addr) (a : Str) (pg : Arguments) (bg : List Stmt) (sg : Scope) (dV kV doc pm cdv ct oc : Value) (an od : Option Addr) (osl : Array (Option Value)) (Ng : List Str),
    mg x = some (.ref g) ∧ PySem.W.keepIn Y.K (.ref g) = true ∧ Y.K.lookup g = some ⟨oc, od, .func (PySem.W.fnOf x x pg bg sg dV kV doc pm an cdv ct), osl⟩ ∧ PySem.W.codeIn Y.K cdv x = true ∧
    L2.Binds Y.K (PySem.W.fnOf x x pg bg sg dV kV doc pm an cdv ct) [a] [] ∧ FnScope Ng [a] sg ∧ Ng[0]? = some a ∧ Vis sg a ∧ nodbg a = true ∧
    ∀ (X : Cx) (q : Str), X.K = Y.K → X.mg = mg → LamX.GivesTo X Ng x sg g cdv bg a q (tdTT Y t)

/-! ### what a place in the program knows -/
structure TbOk (B : Tb) (Y : Fx) (mg : Str → Option Value) : Prop where
  fn : ∀ n x, (n, x) ∈ B.fns → mg x = some (.ref (Y.fa n)) ∧ PySem.W.keepIn Y.K (.ref (Y.fa n)) = true ∧ Y.kn n = true
  kn : ∀ n, Y.kn n = true → ∃ x, (n, x) ∈ B.fns
  cst : ∀ x d, (x, d) ∈ B.csts → ∃ u v, mg x = some u ∧ RelV v u ∧ ∀ H as, Rep Y H as d v
  free : ∀ x, x ∈ B.free → mg x = none
  mfn : ∀ x id, (x, id) ∈ B.mfn → mg x = some (.builtin id)
  exc : ∀ n x, (n, x) ∈ B.cls → ∃ (Bn newId initId : String) (bm : List Value), ExcBaseFacts Bn newId initId bm ∧ PySem.W.excIn Y.K (Y.ca n) bm newId = true ∧ mg x = some (.ref (Y.ca n)) ∧ PySem.W.keepIn Y.K (.ref (Y.ca n)) = true ∧
    PySem.W.subIn Y.K (.ref (Y.ca n)) (.type "BaseException") = some true ∧ PySem.W.typeIn Y.K (.ref (Y.ca n)) = some (.type "type")
  td : ∀ n x t, (n, x, t) ∈ B.tds → TdOk Y mg x t
/-- what a def promises that does f -/
def spC (Y : Fx) (f : List D → Sto → R D) : Sp := fun vs H Q E => ∃ ds as S, Wd Y H as S ∧ RepL Y H as ds vs ∧ (match f ds S with
  | .ok d S' => ∀ v H' as', Ext H as H' as' → Wd Y H' as' S' → Rep Y H' as' d v → Q v H'
  | .exc c S' => ∀ H' as', Ext H as H' as' → Wd Y H' as' S' → E (.ref (Y.ca c)) none H'
  | .bad => False)
/-- a def that makes lambdas: its code object and the table -/
def MkOk (X : Cx) (Y : Fx) : Prop := ∃ c P, LamX.TabB X.base X.mg c P ∧ X.env.code = .ref c ∧ (P, X.env.qual ++ "<lambda>") ∈ Y.T ∧ ∀ p ∈ Y.T, p.1 = P → p.2 = X.env.qual ++ "<lambda>"
structure CallsOk (X : Cx) (Y : Fx) (B : Tb) (P : PC) (k : Nat) : Prop where
  fn : ∀ n x, (n, x) ∈ B.fns → ∃ fd ps, FnOk X.prog X.w X.K X.mg X.base (L2.CX X.prog X.w) k (Y.fa n) fd ps (spC Y (P.call n)) ∧ Binds X.K fd ps []
  low : ∀ c, P.low = some c → ∃ j, k = j + 2 ∧ (∀ n x, (n, x) ∈ B.fns → ∃ fd ps, FnOk X.prog X.w X.K X.mg X.base (L2.CX X.prog X.w) j (Y.fa n) fd ps (spC Y (c n)) ∧ Binds X.K fd ps []) ∧ (B.lam = true → MkOk X Y)
structure Cg (X : Cx) (Y : Fx) (B : Tb) (N : List Str) (sc : Scope) (fnb : Str → Bool) (k : Nat) : Prop where
  calm : X.calm = true
  n : X.N = N
  nd : N.Nodup
  sc : X.env.scope = sc
  K : X.K = Y.K
  fnb : X.fn = fnb
  room : Room k X.A
  pass : PassesOwn (model X.prog X.w) X.A X.env X.xe
  tb : TbOk B Y X.mg
/-! ### rules, whatever the slots -/
def rD' (Y : Fx) (W : WX) (f : D → D → Sto → R D) : R2 := fun x y H Q => ∃ τ, rD Y τ W f x y H Q
def rB' (Y : Fx) (W : WX) (f : List D → Sto → R D) : List V → Hp → VK → Prop := fun vs H Q => ∃ τ, rB Y τ W f vs H Q
def rSl' (Y : Fx) (W : WX) (mu : Bool) : V → Option Int → Option Int → Hp → VK → Prop := fun x lo hi H Q => ∃ τ, rSl Y τ W mu x lo hi H Q
section
variable {X : Cx} {Y : Fx} {B : Tb} {N : List Str} {sc : Scope} {fnb : Str → Bool} {k : Nat} {W : WX} {P : PC}
theorem OpR.all {f : Value → Value → Sem Value} {g : D → D → Sto → R D} (h : ∀ τ, OpR X f (rD Y τ W g)) : OpR X f (rD' Y W g) := fun pins s σ H x y v u Q I rx ry ⟨τ, q⟩ => h τ pins s σ H x y v u Q I rx ry q
theorem CallR.all {f : Value} {g : List D → Sto → R D} (h : ∀ τ, CallR X f (rB Y τ W g)) : CallR X f (rB' Y W g) := fun pins s σ H xs us Q I r ⟨τ, q⟩ => h τ pins s σ H xs us Q I r q
theorem Cg.hu (c : Cg X Y B N sc fnb k) : X.A.units + 65 < cLine := by
  have := c.room.un
  omega
theorem Cg.gl (c : Cg X Y B N sc fnb k) {x : Str} (h : glB sc x = true) : Gl X x := by
  show X.env.scope.names.lookup x = some .globalImplicit
  rw [c.sc]
  exact glB_ok h
theorem Cg.vis (c : Cg X Y B N sc fnb k) {x : Str} (h : visB sc x = true) : Vis X.env.scope x := by
  rw [c.sc]
  exact visB_ok h

/-- two parts, then a rule -/
theorem two_post {ma mb : Env → Sto → R D} {g : D → D → Sto → R D} {σ : L2.St} {H : Hp} {Q : VK} (h : tE Y W (fun ρ s => (ma ρ s).bind fun x s => (mb ρ s).bind fun y s => g x y s) σ H Q) :
    tOp (rD' Y W g) (tE Y W ma) (tE Y W mb) σ H Q := by
  obtain ⟨ρ, as, S, hρ, w, h⟩ := h
  refine post_bind hρ w h fun d v S1 H1 as1 e1 w1 hρ1 r1 h1 => ?_
  refine post_bind (m := mb) hρ1 w1 h1 fun d2 v2 S2 H2 as2 e2 w2 hρ2 r2 h2 => ?_
  exact ⟨σ, d, d2, as2, S2, w2, r1.ext e2, r2, h2⟩
theorem e_bin (c : Cg X Y B N sc fnb k) {op : Bo} {o : Operator} {mu : Bool} {x y : PySem.Expr} {p : Pos} {ma mb : Env → Sto → R D} (ho : opB op o = true) (ha : PE X x (tE Y W ma)) (hb : PE X y (tE Y W mb)) :
    PE X (.BinOp x o y p) (tE Y W fun ρ s => (ma ρ s).bind fun x s => (mb ρ s).bind fun y s => binD op mu x y s) := by
  have r : OpR X (binaryOp o) (rD' Y W (binD op mu)) := by
    match op, o, ho with
    | .add, .Add, _ => exact OpR.all fun τ => bin_add c.K mu
    | .sub, .Sub, _ => exact OpR.all fun τ => bin_sub mu
    | .mul, .Mult, _ => exact OpR.all fun τ => bin_mul c.K mu
    | .fdiv, .FloorDiv, _ => exact OpR.all fun τ => bin_fdiv mu
    | .mod, .Mod, _ => exact OpR.all fun τ => bin_mod mu
    | .pow, .Pow, _ => exact OpR.all fun τ => bin_pow mu
  exact (pe_op r ha hb).mono fun σ H Q h => two_post h
theorem cmp_rule (c : Cg X Y B N sc fnb k) {op : Co} {o : CmpOp} (ho : coB op o = true) : OpR X (compareOp o) (rD' Y W (cmpD op)) := by
  have hu := c.hu
  match op, o, ho with
  | .eq, .Eq, _ => exact OpR.all fun τ => cmp_eq c.K (by omega)
  | .ne, .NotEq, _ => exact OpR.all fun τ => cmp_ne c.K (by omega)
  | .lt, .Lt, _ => exact OpR.all fun τ => cmp_lt
  | .le, .LtE, _ => exact OpR.all fun τ => cmp_le
  | .gt, .Gt, _ => exact OpR.all fun τ => cmp_gt
  | .ge, .GtE, _ => exact OpR.all fun τ => cmp_ge
  | .isN, .Is, _ => exact OpR.all fun τ => cmp_isN
  | .isNot, .IsNot, _ => exact OpR.all fun τ => cmp_isNot
  | .isin, .In, _ => exact OpR.all fun τ => cmp_in c.K hu
  | .notin, .NotIn, _ => exact OpR.all fun τ => cmp_notin c.K hu
theorem e_cmp (c : Cg X Y B N sc fnb k) {op : Co} {o : CmpOp} {x y : PySem.Expr} {p : Pos} {ma mb : Env → Sto → R D} (ho : coB op o = true) (hp : plainE y = true) (ha : PE X x (tE Y W ma)) (hb : PE X y (tE Y W mb)) :
    PE X (.Compare x [o] [y] p) (tE Y W fun ρ s => (ma ρ s).bind fun x s => (mb ρ s).bind fun y s => cmpD op x y s) :=
  (pe_cmpR (cmp_rule c ho) ha hb (mark_plain hp o)).mono fun σ H Q h => two_post h
/-- a test, from the wish for a value that is a truth -/
theorem tT_tE {m : Env → Sto → R D} {σ : L2.St} {H : Hp} {Q : Bool → Hp → Prop} (h : tT Y W m σ H Q) : tE Y W m σ H fun x H' => ∃ k, x = .bl k ∧ Q k H' := by
  obtain ⟨ρ, as, S, hρ, w, h⟩ := h
  refine ⟨ρ, as, S, hρ, w, h.imp fun d H' as' z v r => ?_⟩
  cases d with
  | bl b =>
    cases r
    exact ⟨b, rfl, z⟩
  | _ => exact (show False from z).elim
theorem t_cmp (c : Cg X Y B N sc fnb k) {op : Co} {o : CmpOp} {x y : PySem.Expr} {p : Pos} {ma mb : Env → Sto → R D} (ho : coB op o = true) (hp : plainE y = true) (ha : PE X x (tE Y W ma)) (hb : PE X y (tE Y W mb)) :
    PT X (.Compare x [o] [y] p) (tT Y W fun ρ s => (ma ρ s).bind fun x s => (mb ρ s).bind fun y s => cmpD op x y s) :=
  (pt_cmpR (cmp_rule c ho) ha hb (mark_plain hp o)).mono fun σ H Q h => two_post (tT_tE h)
theorem t_val {e : PySem.Expr} {m : Env → Sto → R D} (h : PE X e (tE Y W m)) (he : ∀ whole, isTrue e X.env whole = (do let v ← whole; standAt e.pos; holding [v] (truthy v))) : PT X e (tT Y W m) :=
  (pt_val h he).mono fun σ H Q q => tT_tE q

/-! ### chains -/
def chD (o1 o2 : Co) (ma mb mc : Env → Sto → R D) : Env → Sto → R D := fun ρ s => (ma ρ s).bind fun x s => (mb ρ s).bind fun y s => (cmpD o1 x y s).bind fun t s => match t with
    | .bl true => (mc ρ s).bind fun z s => cmpD o2 y z s
    | .bl false => .ok (.bl false) s
    | _ => .bad
theorem cmpD_ob {op : Co} {d e : D} {S : Sto} : (∃ b, cmpD op d e S = .ok (.bl b) S) ∨ cmpD op d e S = .bad := by
  have hob : ∀ o : Option Bool, (∃ b, ob o S = .ok (.bl b) S) ∨ ob o S = .bad := fun o => by
    cases o with
    | none => exact .inr rfl
    | some b => exact .inl ⟨b, rfl⟩
  cases op <;> simp only [cmpD] <;> first
    | exact hob _
    | (split <;> first
      | exact .inl ⟨_, rfl⟩
      | exact .inr rfl
      | exact hob _
      | (split <;> first
        | exact .inl ⟨_, rfl⟩
        | exact .inr rfl))
theorem chain_post (c : Cg X Y B N sc fnb k) {o1 o2 : Co} {ma mb mc : Env → Sto → R D} {σ : L2.St} {H : Hp} {Q : VK} (h : tE Y W (chD o1 o2 ma mb mc) σ H Q) :
    tChain (rD' Y W (cmpD o1)) (rD' Y W (cmpD o2)) (tE Y W ma) (tE Y W mb) (tE Y W mc) σ H Q := by
  obtain ⟨ρ, as, S, hρ, w, h⟩ := h
  refine post_bind hρ w h fun d v S1 H1 as1 e1 w1 hρ1 r1 h1 => ?_
  refine post_bind (m := mb) hρ1 w1 h1 fun d2 v2 S2 H2 as2 e2 w2 hρ2 r2 h2 => ?_
  refine ⟨σ, d, d2, as2, S2, w2, r1.ext e2, r2, ?_⟩
  rcases cmpD_ob (op := o1) (d := d) (e := d2) (S := S2) with ⟨b, e⟩ | e
  · rw [e]
    refine fun H3 as3 e3 w3 v3 r3 => ?_
    cases r3
    refine ⟨b, rfl, ?_⟩
    rw [e] at h2
    cases b with
    | false =>
      rw [if_neg Bool.false_ne_true]
      exact h2 H3 as3 e3 w3 _ (.bl false)
    | true =>
      rw [if_pos rfl]
      have h3 : Post Y H3 as3 σ W ((mc ρ S2).bind fun z s => cmpD o2 d2 z s) (zE Y Q) := Post.ext (show Post Y H2 as2 σ W ((mc ρ S2).bind fun z s => cmpD o2 d2 z s) (zE Y Q) from h2) e3
      refine post_bind (m := mc) (hρ2.ext e3) w3 h3 fun d4 v4 S4 H4 as4 e4 w4 hρ4 r4 h4 => ?_
      exact ⟨σ, d2, d4, as4, S4, w4, (r2.ext e3).ext e4, r4, h4⟩
  · rw [e] at h2
    exact h2.elim
theorem e_chain (c : Cg X Y B N sc fnb k) {o1 o2 : Co} {p1 p2 : CmpOp} {x y z : PySem.Expr} {p : Pos} {ma mb mc : Env → Sto → R D} (h1 : coB o1 p1 = true) (h2 : coB o2 p2 = true) (hp : plainE z = true) (ha : PE X x (tE Y W ma)) (hb : PE X y (tE Y W mb)) (hz : PE X z (tE Y W mc)) :
    PE X (.Compare x [p1, p2] [y, z] p) (tE Y W (chD o1 o2 ma mb mc)) :=
  (pe_chain (cmp_rule c h1) (cmp_rule c h2) ha hb hz (last_plain hp)).mono fun σ H Q h => chain_post c h
theorem t_chain (c : Cg X Y B N sc fnb k) {o1 o2 : Co} {p1 p2 : CmpOp} {x y z : PySem.Expr} {p : Pos} {ma mb mc : Env → Sto → R D} (h1 : coB o1 p1 = true) (h2 : coB o2 p2 = true) (hp : plainE z = true) (ha : PE X x (tE Y W ma)) (hb : PE X y (tE Y W mb)) (hz : PE X z (tE Y W mc)) :
    PT X (.Compare x [p1, p2] [y, z] p) (tT Y W (chD o1 o2 ma mb mc)) :=
  (pt_chain (cmp_rule c h1) (cmp_rule c h2) ha hb hz (last_plain hp)).mono fun σ H Q h => chain_post c (tT_tE h)

/-! ### and, or, not, if -/
def andD (ma mb : Env → Sto → R D) : Env → Sto → R D := fun ρ s => (ma ρ s).bind fun x s => match x with
    | .bl true => mb ρ s
    | .bl false => .ok (.bl false) s
    | _ => .bad
def orD (ma mb : Env → Sto → R D) : Env → Sto → R D := fun ρ s => (ma ρ s).bind fun x s => match x with
    | .bl true => .ok (.bl true) s
    | .bl false => mb ρ s
    | _ => .bad
def notD (ma : Env → Sto → R D) : Env → Sto → R D := fun ρ s => (ma ρ s).bind fun x s => match x with
    | .bl b => .ok (.bl (!b)) s
    | _ => .bad
def iteD (mc ma mb : Env → Sto → R D) : Env → Sto → R D := fun ρ s => (mc ρ s).bind fun x s => match x with
    | .bl true => ma ρ s
    | .bl false => mb ρ s
    | _ => .bad
theorem e_and {x y : PySem.Expr} {rest : List PySem.Expr} {p : Pos} {ma mb : Env → Sto → R D} (ha : PE X x (tE Y W ma)) (hb : PE X (.BoolOp .And (y :: rest) p) (tE Y W mb)) : PE X (.BoolOp .And (x :: y :: rest) p) (tE Y W (andD ma mb)) := by
  refine (pe_and ha hb).mono fun σ H Q h => ?_
  obtain ⟨ρ, as, S, hρ, w, h⟩ := h
  refine post_bind hρ w h fun d v S1 H1 as1 e1 w1 hρ1 r1 h1 => ?_
  cases r1 with
  | bl b =>
    refine ⟨b, rfl, ?_⟩
    cases b with
    | true =>
      rw [if_pos rfl]
      exact ⟨ρ, as1, S1, hρ1, w1, h1⟩
    | false =>
      rw [if_neg Bool.false_ne_true]
      exact now w1 h1 (.bl false)
  | _ => exact h1.elim
theorem e_or {x y : PySem.Expr} {rest : List PySem.Expr} {p : Pos} {ma mb : Env → Sto → R D} (ha : PE X x (tE Y W ma)) (hb : PE X (.BoolOp .Or (y :: rest) p) (tE Y W mb)) : PE X (.BoolOp .Or (x :: y :: rest) p) (tE Y W (orD ma mb)) := by
  refine (pe_or ha hb).mono fun σ H Q h => ?_
  obtain ⟨ρ, as, S, hρ, w, h⟩ := h
  refine post_bind hρ w h fun d v S1 H1 as1 e1 w1 hρ1 r1 h1 => ?_
  cases r1 with
  | bl b =>
    refine ⟨b, rfl, ?_⟩
    cases b with
    | true =>
      rw [if_pos rfl]
      exact now w1 h1 (.bl true)
    | false =>
      rw [if_neg Bool.false_ne_true]
      exact ⟨ρ, as1, S1, hρ1, w1, h1⟩
  | _ => exact h1.elim
theorem t_and {x : PySem.Expr} {ma mb : Env → Sto → R D} {y : PySem.Expr} {rest : List PySem.Expr} {p : Pos} (ha : PT X x (tT Y W ma)) (hb : PW X (.BoolOp .And (y :: rest) p) (tT Y W mb)) : PW X (.BoolOp .And (x :: y :: rest) p) (tT Y W (andD ma mb)) := by
  refine (pw_and ha hb).mono fun σ H Q h => ?_
  obtain ⟨ρ, as, S, hρ, w, h⟩ := h
  refine post_bindT hρ w h (fun d S' H' as' hn h' => by
      cases d with
      | bl b => exact hn b rfl
      | _ => exact h') fun b S1 H1 as1 e1 w1 hρ1 h1 => ?_
  cases b with
  | true =>
    rw [if_pos rfl]
    exact ⟨ρ, as1, S1, hρ1, w1, h1⟩
  | false =>
    rw [if_neg Bool.false_ne_true]
    exact h1 H1 as1 Ext.refl w1
theorem t_or {x : PySem.Expr} {ma mb : Env → Sto → R D} {y : PySem.Expr} {rest : List PySem.Expr} {p : Pos} (ha : PT X x (tT Y W ma)) (hb : PW X (.BoolOp .Or (y :: rest) p) (tT Y W mb)) : PW X (.BoolOp .Or (x :: y :: rest) p) (tT Y W (orD ma mb)) := by
  refine (pw_or ha hb).mono fun σ H Q h => ?_
  obtain ⟨ρ, as, S, hρ, w, h⟩ := h
  refine post_bindT hρ w h (fun d S' H' as' hn h' => by
      cases d with
      | bl b => exact hn b rfl
      | _ => exact h') fun b S1 H1 as1 e1 w1 hρ1 h1 => ?_
  cases b with
  | true =>
    rw [if_pos rfl]
    exact h1 H1 as1 Ext.refl w1
  | false =>
    rw [if_neg Bool.false_ne_true]
    exact ⟨ρ, as1, S1, hρ1, w1, h1⟩
theorem not_post {ma : Env → Sto → R D} {σ : L2.St} {H : Hp} {Q : Bool → Hp → Prop} (h : tT Y W (notD ma) σ H Q) : tT Y W ma σ H fun b H' => Q (!b) H' := by
  obtain ⟨ρ, as, S, hρ, w, h⟩ := h
  refine post_bindT hρ w h (fun d S' H' as' hn h' => ?_) fun b S1 H1 as1 e1 w1 hρ1 h1 => h1 H1 as1 Ext.refl w1
  cases d with
  | bl b => exact hn b rfl
  | _ => exact h'
theorem e_not {x : PySem.Expr} {p : Pos} {ma : Env → Sto → R D} (ha : PE X x (tE Y W ma)) : PE X (.UnaryOp .Not x p) (tE Y W (notD ma)) := by
  refine (pe_not ha).mono fun σ H Q h => ?_
  obtain ⟨ρ, as, S, hρ, w, h⟩ := h
  refine post_bind hρ w h fun d v S1 H1 as1 e1 w1 hρ1 r1 h1 => ?_
  cases r1 with
  | bl b => exact ⟨b, rfl, now w1 h1 (.bl _)⟩
  | _ => exact h1.elim
theorem t_not {x : PySem.Expr} {p : Pos} {ma : Env → Sto → R D} (ha : PT X x (tT Y W ma)) : PT X (.UnaryOp .Not x p) (tT Y W (notD ma)) :=
  (pt_not ha).mono fun σ H Q h => not_post h
theorem e_ite {x y z : PySem.Expr} {p : Pos} {mc ma mb : Env → Sto → R D} (hc : PT X x (tT Y W mc)) (ha : PE X y (tE Y W ma)) (hb : PE X z (tE Y W mb)) : PE X (.IfExp x y z p) (tE Y W (iteD mc ma mb)) := by
  refine (pe_ifExp hc ha hb).mono fun σ H Q h => ?_
  obtain ⟨ρ, as, S, hρ, w, h⟩ := h
  refine post_bindT hρ w h (fun d S' H' as' hn h' => by
      cases d with
      | bl b => exact hn b rfl
      | _ => exact h') fun b S1 H1 as1 e1 w1 hρ1 h1 => ?_
  cases b with
  | true =>
    rw [if_pos rfl]
    exact ⟨ρ, as1, S1, hρ1, w1, h1⟩
  | false =>
    rw [if_neg Bool.false_ne_true]
    exact ⟨ρ, as1, S1, hρ1, w1, h1⟩
end
end Px
end

section
set_option Elab.async false
set_option linter.all false
set_option maxRecDepth 100000
set_option maxHeartbeats 1000000
/-! Px: names, displays, calls, subscripts. -/
namespace Px
open PySem PySem.Spec PyProof.Rows L2
section
variable {X : Cx} {Y : Fx} {B : Tb} {N : List Str} {sc : Scope} {fnb : Str → Bool} {k : Nat} {W : WX} {P : PC}

theorem e_var (c : Cg X Y B N sc fnb k) {i : Nat} {x : Str} {p : Pos} (h : (decide (N[i]? = some x) && (visB sc x && nodbg x)) = true) : PE X (.Name x p) (tE Y W (den (.var i) P)) := by
  rw [Bool.and_eq_true, Bool.and_eq_true] at h
  obtain ⟨h1, h2, h3⟩ := h
  obtain ⟨d1, d2⟩ := nodbg_ok h3
  refine (pe_var (i := i) (by rw [c.n]; exact of_decide_eq_true h1) (c.vis h2) d1 d2).mono fun σ H Q h => ?_
  obtain ⟨ρ, as, S, hρ, w, h⟩ := h
  unfold den at h
  cases e : ρ[i]? with
  | none => rw [e] at h; exact h.elim
  | some o =>
    cases o with
    | none => rw [e] at h; exact h.elim
    | some d =>
      rw [e] at h
      obtain ⟨v, hv, r⟩ := hρ.2 i d e
      exact ⟨v, hv, now w h r⟩
theorem e_const {j : Const} {n : Nat} {p : Pos} {d : D} (h : constB j d = true) : PE X (.Constant j n p) (tE Y W (den (.c d) P)) := by
  have fin : ∀ {v : V}, (∀ H as, Rep Y H as d v) → PE X (.Constant j n p) (tC v) → PE X (.Constant j n p) (tE Y W (den (.c d) P)) := fun r q => q.mono fun σ H Q ⟨ρ, as, S, hρ, w, h⟩ => now w h (r H as)
  cases j <;> cases d <;> first
    | (cases (show false = true from h); done)
    | exact fin (fun _ _ => .non) pe_non
    | (have e := eq_of_beq (show (_ == _) = true from h); subst e; exact fin (fun _ _ => .bl _) pe_bl)
    | (have e := of_decide_eq_true (show decide (_ = _) = true from h); subst e; exact fin (fun _ _ => .int _) pe_int)
    | (have e := of_decide_eq_true (show decide (_ = _) = true from h); subst e; exact fin (fun _ _ => .str _) pe_str)
theorem e_cst (c : Cg X Y B N sc fnb k) {x : Str} {p : Pos} {d : D} (h : (glB sc x && (nodbg x && (match lookC x B.csts with | some d' => dbeq 100 d' d | none => false))) = true) : PE X (.Name x p) (tE Y W (den (.c d) P)) := by
  rw [Bool.and_eq_true, Bool.and_eq_true] at h
  obtain ⟨h1, h2, h3⟩ := h
  cases e : lookC x B.csts with
  | none => rw [e] at h3; cases h3
  | some d' =>
    rw [e] at h3
    have ed : d' = d := dbeq_eq _ h3
    subst ed
    obtain ⟨u, v, g1, g2, g3⟩ := c.tb.cst x d' (lookC_ok e)
    exact (pe_glob (c.gl h1) g1 g2 (nodbg_ok h2).1).mono fun σ H Q ⟨ρ, as, S, hρ, w, h⟩ => now w h (g3 H as)
theorem fnB_ok {n : Nat} {x : Str} (h : (match lookN n B.fns with | some y => eqS x y | none => false) = true) : (n, x) ∈ B.fns := by
  cases e : lookN n B.fns with
  | none => rw [e] at h; cases h
  | some y =>
    rw [e] at h
    have ey : x = y := of_decide_eq_true h
    subst ey
    exact lookN_ok e
theorem e_gl (c : Cg X Y B N sc fnb k) {n : Nat} {x : Str} {p : Pos} (h : (glB sc x && (nodbg x && (match lookN n B.fns with | some y => eqS x y | none => false))) = true) : PE X (.Name x p) (tE Y W (den (.gl n) P)) := by
  rw [Bool.and_eq_true, Bool.and_eq_true] at h
  obtain ⟨h1, h2, h3⟩ := h
  obtain ⟨g1, g2, g3⟩ := c.tb.fn n x (fnB_ok h3)
  exact (pe_glob (v := .ref (Y.fa n)) (c.gl h1) g1 rfl (nodbg_ok h2).1).mono fun σ H Q ⟨ρ, as, S, hρ, w, h⟩ => now w h (.fn n g3)
theorem a_nil : PA X [] (tAs Y W (den .nil P)) := pa_nil.mono fun σ H Q ⟨ρ, as, S, hρ, w, h⟩ => h H as Ext.refl w [] .nil
theorem a_cons {a r : RE} {e : PySem.Expr} {es : List PySem.Expr} (hp : plainE e = true) (ha : PE X e (tE Y W (den a P))) (hr : PA X es (tAs Y W (den r P))) : PA X (e :: es) (tAs Y W (den (.cons a r) P)) := by
  refine (pa_cons ha hr (star_cons hp es X.env)).mono fun σ H Q ⟨ρ, as, S, hρ, w, h⟩ => ?_
  unfold den at h
  refine post_bind (m := den a P) hρ w h fun d v S1 H1 as1 e1 w1 hρ1 r1 h1 => ?_
  refine post_bindA (m := den r P) hρ1 w1 h1 (fun d S' H' as' hn h' => by
    cases d with
    | lst ds => exact hn ds rfl
    | _ => exact h') fun ds vs S2 H2 as2 e2 w2 hρ2 r2 h2 => ?_
  exact h2 H2 as2 Ext.refl w2 _ (.cons (r1.ext e2) r2)
/-- from the wish behind a list of arguments -/
theorem args_post {l : RE} {f : List D → Sto → R D} {σ : L2.St} {H : Hp} {ρ : Env} {as : Ad} {S : Sto} {Z : D → Hp → Ad → Prop} {T : List V → Hp → Prop} (hρ : EnvR Y H as ρ σ) (w : Wd Y H as S)
    (h : Post Y H as σ W ((den l P ρ S).bind fun ys s => match ys with
      | .lst xs => f xs s
      | _ => .bad) Z) (hk : ∀ ds vs S' H' as', Ext H as H' as' → Wd Y H' as' S' → EnvR Y H' as' ρ σ → RepL Y H' as' ds vs → Post Y H' as' σ W (f ds S') Z → T vs H') : tAs Y W (den l P) σ H T :=
  post_bindA (m := den l P) hρ w h (fun d S' H' as' hn h' => by
    cases d with
    | lst ds => exact hn ds rfl
    | _ => exact h') hk
theorem den_len {l : RE} : ∀ {es : List PySem.Expr}, chk B N l sc (.L es) = true → ∀ {ρ : Env} {S S' : Sto} {ds : List D}, den l P ρ S = .ok (.lst ds) S' → ds.length = es.length := by
  induction l with
  | nil =>
    intro es h ρ S S' ds e
    cases es with
    | nil =>
      cases (show R.ok (D.lst []) S = R.ok (D.lst ds) S' from e)
      rfl
    | cons e1 es => exact absurd (show false = true from h) Bool.false_ne_true
  | cons a r iha ihr =>
    intro es h ρ S S' ds e
    cases es with
    | nil => exact absurd (show false = true from h) Bool.false_ne_true
    | cons e1 es =>
      have h' : (plainE e1 && (chk B N a sc (.E e1) && chk B N r sc (.L es))) = true := h
      rw [Bool.and_eq_true, Bool.and_eq_true] at h'
      unfold den at e
      cases e2 : den a P ρ S with
      | ok d S1 =>
        rw [e2] at e
        have e : (den r P ρ S1).bind (fun ys s => match ys with
          | .lst xs => .ok (.lst (d :: xs)) s
          | _ => .bad) = R.ok (D.lst ds) S' := e
        cases e3 : den r P ρ S1 with
        | ok d2 S2 =>
          rw [e3] at e
          cases d2 with
          | lst xs =>
            have e : R.ok (D.lst (d :: xs)) S2 = R.ok (D.lst ds) S' := e
            cases e
            rw [List.length_cons, List.length_cons, ihr h'.2.2 e3]
          | _ => cases (show R.bad = R.ok (D.lst ds) S' from e)
        | exc c s => rw [e3] at e; cases (show R.exc c s = R.ok (D.lst ds) S' from e)
        | bad => rw [e3] at e; cases (show R.bad = R.ok (D.lst ds) S' from e)
      | exc c s => rw [e2] at e; cases (show R.exc c s = R.ok (D.lst ds) S' from e)
      | bad => rw [e2] at e; cases (show R.bad = R.ok (D.lst ds) S' from e)
  | _ => intro es h; cases es <;> exact absurd (show false = true from h) Bool.false_ne_true
theorem args_len {l : RE} {es : List PySem.Expr} (hc : chk B N l sc (.L es) = true) {f : List D → Sto → R D} {σ : L2.St} {H : Hp} {ρ : Env} {as : Ad} {S : Sto} {Z : D → Hp → Ad → Prop} {T : List V → Hp → Prop} (hρ : EnvR Y H as ρ σ) (w : Wd Y H as S)
    (h : Post Y H as σ W ((den l P ρ S).bind fun ys s => match ys with
      | .lst xs => f xs s
      | _ => .bad) Z) (hk : ∀ ds vs S' H' as', ds.length = es.length → Ext H as H' as' → Wd Y H' as' S' → EnvR Y H' as' ρ σ → RepL Y H' as' ds vs → Post Y H' as' σ W (f ds S') Z → T vs H') : tAs Y W (den l P) σ H T := by
  refine ⟨ρ, as, S, hρ, w, ?_⟩
  cases e : den l P ρ S with
  | ok d S' =>
    rw [e] at h
    cases d with
    | lst ds => exact fun H' as' ex w' vs r => hk ds vs S' H' as' (den_len hc e) ex w' (hρ.ext ex) r (Post.ext h ex)
    | _ => exact fun H' as' ex w' => (Post.ext (show Post Y H as σ W .bad Z from h) ex).elim
  | exc c S' =>
    rw [e] at h
    exact h
  | bad =>
    rw [e] at h
    exact h
theorem e_tup {l : RE} {es : List PySem.Expr} {n : Nat} {p : Pos} (hc : chk B N l sc (.L es) = true) (hn : Nat.ble es.length 100000 = true) (hl : PA X es (tAs Y W (den l P))) : PE X (.Tuple es n p) (tE Y W (den (.tup l) P)) := by
  refine (pe_tup hl).mono fun σ H Q ⟨ρ, as, S, hρ, w, h⟩ => ?_
  unfold den at h
  refine args_len hc (f := fun xs s => .ok (.tup xs) s) hρ w h fun ds vs S1 H1 as1 hlen e1 w1 hρ1 r1 h1 => ?_
  have hz : vs.length ≤ sizeLine := by
    rw [← r1.length, hlen, sizeLine_eq]
    have := Nat.le_of_ble_eq_true hn
    omega
  exact ⟨hz, fun q nq => tup_post w1 r1 hz nq h1⟩
theorem e_lst {l : RE} {mu : Bool} {es : List PySem.Expr} {p : Pos} (hc : chk B N l sc (.L es) = true) (hn : Nat.ble es.length 100000 = true) (hl : PA X es (tAs Y W (den l P))) : PE X (.List es p) (tE Y W (den (.lst mu l) P)) := by
  refine (pe_lst hl).mono fun σ H Q ⟨ρ, as, S, hρ, w, h⟩ => ?_
  unfold den at h
  refine args_len hc (f := fun xs s => allocL mu xs s) hρ w h fun ds vs S1 H1 as1 hlen e1 w1 hρ1 r1 h1 => ?_
  have hz : vs.length ≤ sizeLine := by
    rw [← r1.length, hlen, sizeLine_eq]
    have := Nat.le_of_ble_eq_true hn
    omega
  exact ⟨hz, fun q nq => alloc_post w1 r1 hz nq h1⟩
theorem e_neg {a : RE} {x : PySem.Expr} {p : Pos} (ha : PE X x (tE Y W (den a P))) : PE X (.UnaryOp .USub x p) (tE Y W (den (.neg a) P)) := by
  refine (pe_un un_neg ha).mono fun σ H Q ⟨ρ, as, S, hρ, w, h⟩ => ?_
  unfold den at h
  refine post_bind (m := den a P) hρ w h fun d v S1 H1 as1 e1 w1 hρ1 r1 h1 => ?_
  cases r1 with
  | int i => exact ⟨i, rfl, now w1 h1 (.int _)⟩
  | _ => exact h1.elim

/-! ### calls -/
theorem spC_of {f : List D → Sto → R D} {σ : L2.St} {H : Hp} {as : Ad} {S : Sto} {Q : VK} {ds : List D} {vs : List V} (w : Wd Y H as S) (r : RepL Y H as ds vs) (h : Post Y H as σ W (f ds S) (zE Y Q)) : spC Y f vs H Q (fun cls d H' => W cls d σ H') := by
  refine ⟨ds, as, S, w, r, ?_⟩
  cases e : f ds S with
  | ok d S' =>
    rw [e] at h
    exact fun v H' as' ex w' r' => h H' as' ex w' v r'
  | exc c S' =>
    rw [e] at h
    exact h
  | bad =>
    rw [e] at h
    exact h
theorem passAtE (tk : Takes X W) (σ : L2.St) : ∀ (pins : List (Addr × Obj)) (H : Hp) (s : Shared) (e : Value) (s' : Shared), Inv X pins σ H s → L2.CX X.prog X.w X.stack H s (fun cls d H' => W cls d σ H') e s' → X.xe e s' :=
  fun pins H s e s' I c => tk e s' (XE.of_call I (fun _ _ _ h => h) c)
/-- the def at f is called -/
theorem call_def {f : Addr} {fd : FuncData} {ps : List Str} {sp : Sp} {pins : List (Addr × Obj)} {σ : L2.St} {H : Hp} {s : Shared} {Q : VK} {us : List Value} {vs : List V} (tk : Takes X W) (F : FnOk X.prog X.w X.K X.mg X.base (L2.CX X.prog X.w) k f fd ps sp) (hr : Room k X.A) (hb : Binds X.K fd ps [])
    (I : Inv X pins σ H s) (r : Vals vs us) (h : sp vs H Q (fun cls d H' => W cls d σ H')) : wpAny (model X.prog X.w) X.A (PySem.call (.ref f) us) (EP X pins σ Q) X.xe s := by
  have hl : us.length = ps.length := by rw [← r.length]; exact F.len _ _ _ _ h
  refine wpAny_call (codeAny_mono (F.run X.A X.stack s H ⟨us, []⟩ us vs Q _ hr I.env0 (by
    have z := hb s us I.kIn (by rw [List.append_nil]; exact hl)
    rw [List.append_nil] at z
    exact z) r h) fun r s' hq => ?_)
  cases r with
  | error e => exact passAtE tk σ pins H s e s' I hq
  | ok fl =>
    cases fl with
    | ret u => exact I.after hq
    | next => exact False.elim hq
    | brk => exact False.elim hq
    | cont => exact False.elim hq
theorem e_call (c : Cg X Y B N sc fnb k) (tk : Takes X W) (hC : CallsOk X Y B P k) {n : Nat} {l : RE} {x : Str} {q p : Pos} {e1 : PySem.Expr} {es : List PySem.Expr} (hg : glB sc x = true) (hd : nodbg x = true) (hn : (n, x) ∈ B.fns) (hp : plainL (e1 :: es) = true)
    (hl : PA X (e1 :: es) (tAs Y W (den l P))) : PE X (.Call (.Name x q) (e1 :: es) [] p) (tE Y W (den (.call n l) P)) := by
  obtain ⟨fd, ps, F, hb⟩ := hC.fn n x hn
  obtain ⟨g1, g2, _⟩ := c.tb.fn n x hn
  have hp' := hp
  rw [plainL, Bool.and_eq_true] at hp'
  refine ⟨fun pins s σ H Q I h => ?_⟩
  obtain ⟨ρ, as, S, hρ, w, h⟩ := h
  unfold den at h
  refine wpAny_Call_Name_kw (ld_glob I (c.gl hg) g1 ?_ (nodbg_ok hd).1)
  refine PySem.W.callWith_K (h₀ := X.base) I.ok.mod.kin (by rw [c.K]; exact g2) (thn (hl.run p pins s σ H _ I (args_post (f := fun xs s => P.call n xs s) hρ w h fun ds vs S1 H1 as1 ex w1 hρ1 r1 h1 => spC_of w1 r1 h1)) fun us s1 ⟨vs, H1, I1, r, q⟩ => ⟨I1.kIn, ?_⟩) (star_cons hp'.1 es X.env) (star_none hp'.2)
  exact call_def tk F c.room hb I1 r q
theorem e_callv (c : Cg X Y B N sc fnb k) (tk : Takes X W) (hC : CallsOk X Y B P k) {i : Nat} {l : RE} {x : Str} {q p : Pos} {e1 : PySem.Expr} {es : List PySem.Expr} (hN : N[i]? = some x) (hv : visB sc x = true) (hd : nodbg x = true) (hp : plainL (e1 :: es) = true)
    (hl : PA X (e1 :: es) (tAs Y W (den l P))) : PE X (.Call (.Name x q) (e1 :: es) [] p) (tE Y W (den (.callv i l) P)) := by
  have hp' := hp
  rw [plainL, Bool.and_eq_true] at hp'
  obtain ⟨d1, d2⟩ := nodbg_ok hd
  refine ⟨fun pins s σ H Q I h => ?_⟩
  obtain ⟨ρ, as, S, hρ, w, h⟩ := h
  unfold den at h
  cases e : ρ[i]? with
  | none => rw [e] at h; exact h.elim
  | some o =>
    cases o with
    | none => rw [e] at h; exact h.elim
    | some d =>
      rw [e] at h
      cases d with
      | fn n =>
        replace h : Post Y H as σ W ((den l P ρ S).bind fun ys s => match ys with
          | .lst xs => P.call n xs s
          | _ => .bad) (zE Y Q) := h
        obtain ⟨v, hv1, r⟩ := hρ.2 i _ e
        cases r with
        | fn _ hk =>
        obtain ⟨y, hn⟩ := c.tb.kn n hk
        refine wpAny_Call_Name_kw (thn ((pe_var (pos := q) (i := i) (by rw [c.n]; exact hN) (c.vis hv) d1 d2).run pins s σ H (fun v H1 => v = .ref (Y.fa n) ∧ H1 = H) I ⟨.ref (Y.fa n), hv1, rfl, rfl⟩) fun u s1 ⟨v, H1, I1, r1, q1⟩ => ?_)
        obtain ⟨rfl, rfl⟩ := q1
        cases r1
        obtain ⟨fd, ps, F, hb⟩ := hC.fn n y hn
        obtain ⟨g1, g2, _⟩ := c.tb.fn n y hn
        refine PySem.W.callWith_K (h₀ := X.base) I1.ok.mod.kin (by rw [c.K]; exact g2) (thn (hl.run p pins s1 σ H1 _ I1 (args_post (f := fun xs s => P.call n xs s) hρ w h fun ds vs S1 H1 as1 ex w1 hρ1 r1 h1 => spC_of w1 r1 h1)) fun us s2 ⟨vs, H2, I2, r, q⟩ => ⟨I2.kIn, ?_⟩) (star_cons hp'.1 es X.env) (star_none hp'.2)
        exact call_def tk F c.room hb I2 r q
      | _ => exact h.elim
end
end Px
end

section
set_option Elab.async false
set_option linter.all false
set_option maxRecDepth 100000
set_option maxHeartbeats 1000000
/-! Px: built-ins called, subscripts, slices; what is walked; comprehensions. -/
namespace Px
open PySem PySem.Spec PyProof.Rows L2
section
variable {X : Cx} {Y : Fx} {B : Tb} {N : List Str} {sc : Scope} {fnb : Str → Bool} {k : Nat} {W : WX} {P : PC}
theorem bi_post {b : Bi} {mu : Bool} {l : RE} {σ : L2.St} {H : Hp} {Q : VK} (h : tE Y W (den (.bi b mu l) P) σ H Q) : tCB (rB' Y W (biD b mu)) (tAs Y W (den l P)) σ H Q := by
  obtain ⟨ρ, as, S, hρ, w, h⟩ := h
  unfold den at h
  exact args_post (f := fun xs s => biD b mu xs s) hρ w h fun ds vs S1 H1 as1 ex w1 hρ1 r1 h1 => ⟨σ, ds, as1, S1, w1, r1, h1⟩
theorem e_bi (c : Cg X Y B N sc fnb k) {b : Bi} {mu : Bool} {l : RE} {x : Str} {q p : Pos} {e1 : PySem.Expr} {es : List PySem.Expr}
    (h : (eqS x (biN b).1 && (glB sc x && ((if mathB b = true then (match lookC x B.mfn with | some id => decide (id = (biN b).2.2) | none => false) else memS x B.free) && plainL (e1 :: es)))) = true)
    (hl : PA X (e1 :: es) (tAs Y W (den l P))) : PE X (.Call (.Name x q) (e1 :: es) [] p) (tE Y W (den (.bi b mu l) P)) := by
  rw [Bool.and_eq_true, Bool.and_eq_true, Bool.and_eq_true] at h
  obtain ⟨h1, h2, h3, hp⟩ := h
  have ex : x = (biN b).1 := of_decide_eq_true h1
  have hp' := hp
  rw [plainL, Bool.and_eq_true] at hp'
  have hst := star_cons hp'.1 es X.env
  have hnn := star_none (env := X.env) (pos := p) hp'.2
  have hg := c.gl h2
  have free : mathB b = false → X.mg x = none := fun z => by
    rw [z, if_neg Bool.false_ne_true] at h3
    exact c.tb.free x (memS_ok h3)
  have math : mathB b = true → X.mg x = some (.builtin (biN b).2.2) := fun z => by
    rw [z, if_pos rfl] at h3
    cases e : lookC x B.mfn with
    | none => rw [e] at h3; cases h3
    | some id =>
      rw [e] at h3
      have e2 : id = (biN b).2.2 := of_decide_eq_true h3
      rw [← e2]
      exact c.tb.mfn x id (lookC_ok e)
  subst ex
  have K := c.K
  have cm := c.calm
  have fin : ∀ {t : TE}, PE X (.Call (.Name (biN b).1 q) (e1 :: es) [] p) t → (t = tCB (rB' Y W (biD b mu)) (tAs Y W (den l P))) → PE X (.Call (.Name (biN b).1 q) (e1 :: es) [] p) (tE Y W (den (.bi b mu l) P)) := fun h e => by
    subst e
    exact h.mono fun σ H Q h => bi_post h
  cases b with
  | len => exact fin (pe_callB (CallR.all fun τ => bi_len K mu) hg (free rfl) (by rfl) hl (by decide) (by decide) hst hnn) rfl
  | abs => exact fin (pe_callB (CallR.all fun τ => bi_abs mu) hg (free rfl) (by rfl) hl (by decide) (by decide) hst hnn) rfl
  | int => exact fin (pe_callTy (CallR.all fun τ => bi_int mu) hg (free rfl) (by rfl) hl (by decide) (by decide) hst hnn) rfl
  | list => exact fin (pe_callTy (CallR.all fun τ => bi_list K mu) hg (free rfl) (by rfl) hl (by decide) (by decide) hst hnn) rfl
  | tuple => exact fin (pe_callTy (CallR.all fun τ => bi_tuple K mu) hg (free rfl) (by rfl) hl (by decide) (by decide) hst hnn) rfl
  | max2 => exact fin (pe_callB (CallR.all fun τ => bi_max2 cm mu) hg (free rfl) (by rfl) hl (by decide) (by decide) hst hnn) rfl
  | min2 => exact fin (pe_callB (CallR.all fun τ => bi_min2 cm mu) hg (free rfl) (by rfl) hl (by decide) (by decide) hst hnn) rfl
  | max1 => exact fin (pe_callB (CallR.all fun τ => bi_max1 K cm mu) hg (free rfl) (by rfl) hl (by decide) (by decide) hst hnn) rfl
  | min1 => exact fin (pe_callB (CallR.all fun τ => bi_min1 K cm mu) hg (free rfl) (by rfl) hl (by decide) (by decide) hst hnn) rfl
  | sum => exact fin (pe_callB (CallR.all fun τ => bi_sum K cm mu) hg (free rfl) (by rfl) hl (by decide) (by decide) hst hnn) rfl
  | all => exact fin (pe_callB (CallR.all fun τ => bi_all K cm mu) hg (free rfl) (by rfl) hl (by decide) (by decide) hst hnn) rfl
  | any => exact fin (pe_callB (CallR.all fun τ => bi_any K cm mu) hg (free rfl) (by rfl) hl (by decide) (by decide) hst hnn) rfl
  | gcd => exact fin (pe_callBfun (CallR.all fun τ => bi_gcd mu) hg (math rfl) hl (by decide) hst hnn) rfl
  | isqrt => exact fin (pe_callBfun (CallR.all fun τ => bi_isqrt mu) hg (math rfl) hl (by decide) hst hnn) rfl

/-! ### isinstance -/
theorem e_isi (c : Cg X Y B N sc fnb k) {a : RE} {t : Ty} {x ty : Str} {q q2 p : Pos} {e1 : PySem.Expr} (h : (eqS x "isinstance" && (glB sc x && (memS x B.free && (eqS ty (tyS t) && (glB sc ty && (memS ty B.free && plainE e1)))))) = true)
    (ha : PE X e1 (tE Y W (den a P))) : PE X (.Call (.Name x q) [e1, .Name ty q2] [] p) (tE Y W (den (.isi a t) P)) := by
  rw [Bool.and_eq_true, Bool.and_eq_true, Bool.and_eq_true, Bool.and_eq_true, Bool.and_eq_true, Bool.and_eq_true] at h
  obtain ⟨h1, h2, h3, h4, h5, h6, h7⟩ := h
  have ex : x = "isinstance" := of_decide_eq_true h1
  have ey : ty = tyS t := of_decide_eq_true h4
  subst ex ey
  have mf := c.tb.free _ (memS_ok h3)
  have tf := c.tb.free _ (memS_ok h6)
  have pt : PE X (.Name (tyS t) q2) (tC (.ty (tyN t))) := by
    cases t <;> exact pe_bltn (v := .ty _) (c.gl h5) tf (by rfl) rfl (by decide) (by decide)
  have hst := star_cons h7 [.Name (tyS t) q2] X.env
  refine (pe_callB call_isi (c.gl h2) mf (by rfl) (pa_cons ha (pa_cons pt pa_nil (star_cons rfl _ _)) hst) (by decide) (by decide) hst rfl).mono fun σ H Q ⟨ρ, as, S, hρ, w, h⟩ => ?_
  unfold den at h
  refine post_bind (m := den a P) hρ w h fun d v S1 H1 as1 e1 w1 hρ1 r1 h1 => ?_
  obtain ⟨b, hb, qb⟩ := ob_post w1 h1
  obtain ⟨tv, g1, g2⟩ := isi_kit w1 r1 hb
  exact ⟨v, .ty (tyN t), tv, .type (tyN t), b, rfl, .ty _, by rw [c.K]; exact g1, by rw [c.K]; exact g2, qb⟩

/-! ### subscripts, slices -/
theorem e_sub (c : Cg X Y B N sc fnb k) {a i : RE} {x y : PySem.Expr} {p : Pos} (hp : plainE y = true) (ha : PE X x (tE Y W (den a P))) (hi : PE X y (tE Y W (den i P))) : PE X (.Subscript x y p) (tE Y W (den (.sub a i) P)) := by
  have r : IxR X (rD' Y W subD) := fun value slice pins s σ H x y v u Q I rx ry ⟨τ, q⟩ hs => ix_sub c.K value slice pins s σ H x y v u Q I rx ry q hs
  exact (pe_ix r ha hi (ix_plain hp)).mono fun σ H Q h => two_post h
/-- an end of a slice -/
def tPt (Y : Fx) (W : WX) (m : Env → Sto → R D) : TO := fun σ H Q => ∃ ρ as S, EnvR Y H as ρ σ ∧ Wd Y H as S ∧ Post Y H as σ W (m ρ S) fun d H' as' => match partO d with
  | some o => Q o H'
  | none => False
theorem pt_some {lo : RE} {e : PySem.Expr} (h : PE X e (tE Y W (den lo P))) : PO X (some e) (tPt Y W (den lo P)) := by
  refine ⟨fun pins s σ H Q I hw => ?_⟩
  rw [evalPart_some]
  obtain ⟨ρ, as, S, hρ, w, hw⟩ := hw
  refine thn (h.run pins s σ H (fun x H' => (x = .non ∧ Q none H') ∨ ∃ i, x = .int i ∧ Q (some i) H') I ⟨ρ, as, S, hρ, w, hw.imp fun d H' as' z v r => ?_⟩) fun u s1 ⟨x, H1, I1, r1, q1⟩ => ?_
  · cases r with
    | non => exact .inl ⟨rfl, z⟩
    | int i => exact .inr ⟨i, rfl, z⟩
    | _ => exact (show False from z).elim
  · rcases q1 with ⟨rfl, q⟩ | ⟨i, rfl, q⟩
    · cases r1
      exact ⟨none, H1, I1, .none, q⟩
    · obtain ⟨t, rfl⟩ := r1
      exact ⟨some i, H1, I1, .int i t, q⟩
theorem isNo_ok {r : RE} (h : isNo r = true) : r = .c .non := by
  cases r <;> first | (cases h; done) | skip
  rename_i d
  cases d <;> first | rfl | cases h
theorem isYes_ok {r : RE} (h : isYes r = true) : r = .c (.bl true) := by
  cases r <;> first | (cases h; done) | skip
  rename_i d
  cases d <;> first | (cases h; done) | skip
  rename_i b
  cases b <;> first | rfl | cases h
theorem pt_none {lo : RE} (h : isNo lo = true) : PO X none (tPt Y W (den lo P)) := by
  rw [isNo_ok h]
  refine ⟨fun pins s σ H Q I ⟨ρ, as, S, hρ, w, hw⟩ => ?_⟩
  exact po_none.run pins s σ H Q I (hw H as Ext.refl w)
theorem e_slc (c : Cg X Y B N sc fnb k) {mu : Bool} {a lo hi : RE} {x : PySem.Expr} {l h : Option PySem.Expr} {p2 p : Pos} (ha : PE X x (tE Y W (den a P))) (hl : PO X l (tPt Y W (den lo P))) (hh : PO X h (tPt Y W (den hi P))) :
    PE X (.Subscript x (.Slice l h none p2) p) (tE Y W (den (.slc mu a lo hi) P)) := by
  have r : SlR X (rSl' Y W mu) := fun pins s σ H x v vl vu lo hi sl Q I rx hs pl pu ⟨τ, q⟩ => sl_any c.K mu pins s σ H x v vl vu lo hi sl Q I rx hs pl pu q
  refine (pe_slice r ha hl hh).mono fun σ H Q ⟨ρ, as, S, hρ, w, h⟩ => ?_
  unfold den at h
  refine post_bind (m := den a P) hρ w h fun d v S1 H1 as1 e1 w1 hρ1 r1 h1 => ?_
  have key : ∀ {m : Env → Sto → R D} {S1 : Sto} {H1 : Hp} {as1 : Ad} {kk : D → Sto → R D} {T : Option Int → Hp → Prop}, EnvR Y H1 as1 ρ σ → Wd Y H1 as1 S1 → Post Y H1 as1 σ W ((m ρ S1).bind kk) (zE Y Q) → (∀ d S' H' as', partO d = none → Post Y H' as' σ W (kk d S') (zE Y Q) → False) →
      (∀ d o S2 H2 as2, partO d = some o → Ext H1 as1 H2 as2 → Wd Y H2 as2 S2 → EnvR Y H2 as2 ρ σ → Post Y H2 as2 σ W (kk d S2) (zE Y Q) → T o H2) → tPt Y W m σ H1 T := by
    intro m S1 H1 as1 kk T hρ1 w1 h1 hn hk
    refine ⟨ρ, as1, S1, hρ1, w1, ?_⟩
    cases e : m ρ S1 with
    | ok d S' =>
      rw [e] at h1
      refine fun H' as' ex w' => ?_
      have h' : Post Y H' as' σ W (kk d S') (zE Y Q) := Post.ext h1 ex
      show (match partO d with | some o => T o H' | none => False)
      cases ep : partO d with
      | none => exact hn d S' H' as' ep h'
      | some o => exact hk d o S' H' as' ep ex w' (hρ1.ext ex) h'
    | exc c S' =>
      rw [e] at h1
      exact h1
    | bad =>
      rw [e] at h1
      exact h1
  refine key (m := den lo P) hρ1 w1 h1 (fun d2 S' H' as' en h' => ?_) fun d2 o2 S2 H2 as2 eo e2 w2 hρ2 h2 => ?_
  · rw [en] at h'
    exact h'.elim
  · rw [eo] at h2
    refine key (m := den hi P) hρ2 w2 h2 (fun d3 S' H' as' en h' => ?_) fun d3 o3 S3 H3 as3 eo3 e3 w3 hρ3 h3 => ?_
    · rw [en] at h'
      exact h'.elim
    · rw [eo3] at h3
      exact ⟨σ, d, as3, S3, w3, (r1.ext e2).ext e3, h3⟩
end
end Px
end

section
set_option Elab.async false
set_option linter.all false
set_option maxRecDepth 100000
set_option maxHeartbeats 1000000
/-! Px: what is walked, where it is stored, comprehensions. -/
namespace Px
open PySem PySem.Spec PyProof.Rows L2

/-- what an iterator of ours walks -/
inductive Wk (Y : Fx) (H : Hp) (as : Ad) : It → (Sto → Option (List D)) → Prop
  | tup {a : Addr} {vs : List V} {ds : List D} : SqT Y.K H a vs → RepL Y H as ds vs → Wk Y H as (Itt Y.K a) (fun _ => some ds)
  | lst {a : Addr} {vs : List V} {ds : List D} : FxL Y.K H as a vs → RepL Y H as ds vs → Wk Y H as (Itl Y.K a) (fun _ => some ds)
  | cel {a : Addr} {i : Nat} : as.c[i]? = some a → Wk Y H as (Itl Y.K a) (fun S => S[i]?)
  | rng (lo : Int) (n : Nat) : Wk Y H as (Itr lo n) (fun _ => some (rngL lo n))
  | zip {a b : Addr} {vs ws : List V} {ds es : List D} : FxL Y.K H as a vs → FxL Y.K H as b ws → RepL Y H as ds vs → RepL Y H as es ws → Wk Y H as (Itz Y.K a b) (fun _ => some (zipL ds es))
  | zipT {a b : Addr} {vs ws : List V} {ds es : List D} : SqT Y.K H a vs → SqT Y.K H b ws → RepL Y H as ds vs → RepL Y H as es ws → Wk Y H as (RZ.ItzT Y.K a b) (fun _ => some (zipL ds es))
  | zipC {a b : Addr} {i : Nat} {ws : List V} {es : List D} : as.c[i]? = some a → FxL Y.K H as b ws → RepL Y H as es ws → Wk Y H as (Itz Y.K a b) (fun S => match S[i]? with
    | some xs => some (zipL xs es)
    | none => none)
  | enum {a : Addr} {vs : List V} {ds : List D} : FxL Y.K H as a vs → RepL Y H as ds vs → Wk Y H as (Ite Y.K a) (fun _ => some (enumL 0 ds))
section
variable {Y : Fx} {H H1 H' : Hp} {as as1 as' : Ad} {S : Sto} {J : It} {g : Sto → Option (List D)}
theorem Wk.ext (e : Ext H as H1 as1) (h : Wk Y H as J g) : Wk Y H1 as1 J g := by
  cases h with
  | tup h r => exact .tup (e.tup h) (r.ext e)
  | lst h r => exact .lst (h.ext e) (r.ext e)
  | cel h => exact .cel (e.at h)
  | rng lo n => exact .rng lo n
  | zip h1 h2 r1 r2 => exact .zip (h1.ext e) (h2.ext e) (r1.ext e) (r2.ext e)
  | zipT h1 h2 r1 r2 => exact .zipT (e.tup h1) (e.tup h2) (r1.ext e) (r2.ext e)
  | zipC h h2 r2 => exact .zipC (e.at h) (h2.ext e) (r2.ext e)
  | enum h r => exact .enum (h.ext e) (r.ext e)
theorem Wk.open {p : Addr} {o : HO} (n : H p = none) (h : Wk Y H as J g) : Wk Y (upd H p o) (as.opn p) J g := by
  cases h with
  | tup h r => exact .tup ((Ext.new (as := as) n).tup h) (r.open n)
  | lst h r => exact .lst (h.open n) (r.open n)
  | cel h => exact .cel h
  | rng lo m => exact .rng lo m
  | zip h1 h2 r1 r2 => exact .zip (h1.open n) (h2.open n) (r1.open n) (r2.open n)
  | zipT h1 h2 r1 r2 => exact .zipT ((Ext.new (as := as) n).tup h1) ((Ext.new (as := as) n).tup h2) (r1.open n) (r2.open n)
  | zipC h h2 r2 => exact .zipC h (h2.open n) (r2.open n)
  | enum h r => exact .enum (h.open n) (r.open n)
theorem Wk.grow {p : Addr} {us ws : List V} (n : H p = some (.lst us)) (h : Wk Y H (as.opn p) J g) : Wk Y (upd H p (.lst ws)) (as.opn p) J g := by
  have fx : ∀ {K : PySem.W.Frag} {a : Addr} {vs : List V}, FxL K H (as.opn p) a vs → FxL K (upd H p (.lst ws)) (as.opn p) a vs := fun h => h.grow n
  cases h with
  | tup h r => exact .tup (sqT_grow n h) (r.grow n)
  | lst h r => exact .lst (fx h) (r.grow n)
  | cel h => exact .cel h
  | rng lo m => exact .rng lo m
  | zip h1 h2 r1 r2 => exact .zip (fx h1) (fx h2) (r1.grow n) (r2.grow n)
  | zipT h1 h2 r1 r2 => exact .zipT (sqT_grow n h1) (sqT_grow n h2) (r1.grow n) (r2.grow n)
  | zipC h h2 r2 => exact .zipC h (fx h2) (r2.grow n)
  | enum h r => exact .enum (fx h) (r.grow n)
theorem rngL_get : ∀ {lo : Int} {n i : Nat} {d : D}, (rngL lo n)[i]? = some d → i < n ∧ d = .int (lo + i)
  | lo, 0, i, d, h => by simp [rngL] at h
  | lo, n + 1, 0, d, h => by
    have e : D.int lo = d := by simpa [rngL] using h
    exact ⟨Nat.succ_pos _, by rw [← e]; simp⟩
  | lo, n + 1, i + 1, d, h => by
    obtain ⟨h1, h2⟩ := rngL_get (lo := lo + 1) (n := n) (i := i) (d := d) (by simpa [rngL] using h)
    exact ⟨by omega, by rw [h2]; congr 1; omega⟩
theorem rngL_len : ∀ (lo : Int) (n : Nat), (rngL lo n).length = n
  | _, 0 => rfl
  | lo, n + 1 => congrArg Nat.succ (rngL_len (lo + 1) n)
theorem zipL_get : ∀ {xs ys : List D} {i : Nat} {d : D}, (zipL xs ys)[i]? = some d → ∃ x y, xs[i]? = some x ∧ ys[i]? = some y ∧ d = .tup [x, y]
  | [], _, i, d, h => by simp [zipL] at h
  | _ :: _, [], i, d, h => by simp [zipL] at h
  | x :: xs, y :: ys, 0, d, h => ⟨x, y, rfl, rfl, by simpa [zipL] using h.symm⟩
  | x :: xs, y :: ys, i + 1, d, h => by
    obtain ⟨a, b, h1, h2, h3⟩ := zipL_get (xs := xs) (ys := ys) (i := i) (d := d) (by simpa [zipL] using h)
    exact ⟨a, b, by simpa using h1, by simpa using h2, h3⟩
theorem zipL_len : ∀ (xs ys : List D), (zipL xs ys).length = min xs.length ys.length
  | [], ys => by simp [zipL]
  | _ :: _, [] => by simp [zipL]
  | x :: xs, y :: ys => by simp [zipL, zipL_len xs ys]
theorem enumL_get : ∀ {xs : List D} {k : Int} {i : Nat} {d : D}, (enumL k xs)[i]? = some d → ∃ x, xs[i]? = some x ∧ d = .tup [.int (k + i), x]
  | [], k, i, d, h => by simp [enumL] at h
  | x :: xs, k, 0, d, h => ⟨x, rfl, by simpa [enumL] using h.symm⟩
  | x :: xs, k, i + 1, d, h => by
    obtain ⟨a, h1, h2⟩ := enumL_get (xs := xs) (k := k + 1) (i := i) (d := d) (by simpa [enumL] using h)
    refine ⟨a, by simpa using h1, ?_⟩
    rw [h2]
    congr 3
    omega
theorem enumL_len : ∀ (xs : List D) (k : Int), (enumL k xs).length = xs.length
  | [], _ => rfl
  | _ :: xs, k => congrArg Nat.succ (enumL_len xs (k + 1))
/-- a turn -/
def Step1 (H H' : Hp) : Prop := H' = H ∨ ∃ T ws, H T = none ∧ H' = upd H T (.tup ws)
theorem Step1.ext (h : Step1 H H') : Ext H as H' as := by
  rcases h with e | ⟨T, ws, n, e⟩
  · rw [e]; exact Ext.refl
  · rw [e]; exact Ext.new n
theorem Step1.after (h : Step1 H H') {H0 : Hp} {as0 : Ad} (e : Ext H0 as0 H as) : Ext H0 as0 H' as := e.trans h.ext
theorem Step1.wd (h : Step1 H H') (w : Wd Y H as S) : Wd Y H' as S := by
  rcases h with e | ⟨T, ws, n, e⟩
  · rw [e]; exact w
  · rw [e]; exact w.new n
theorem pair_rep {x y : D} {u v : V} {T : Addr} (n : H T = none) (r1 : Rep Y H as x u) (r2 : Rep Y H as y v) : Rep Y (upd H T (.tup [u, v])) as (.tup [x, y]) (.ref T) :=
  .tup (SqT.of upd_same) (by show 2 ≤ sizeLine; decide) (.cons (r1.ext (Ext.new n)) (.cons (r2.ext (Ext.new n)) .nil))
theorem Wk.step (h : Wk Y H as J g) (w : Wd Y H as S) {xs : List D} {i : Nat} {d : D} (hg : g S = some xs) (hd : xs[i]? = some d) : J.go i H ∧ ∀ v H', J.yld i H v H' → Step1 H H' ∧ Rep Y H' as d v := by
  cases h with
  | @tup a vs ds h r =>
    cases hg
    obtain ⟨v, hv, rv⟩ := r.get hd
    refine ⟨⟨vs, v, h, hv⟩, fun u H' ⟨e, q⟩ => ?_⟩
    subst e
    have := q vs h
    rw [hv] at this
    cases this
    exact ⟨.inl rfl, rv⟩
  | @lst a vs ds h r =>
    cases hg
    obtain ⟨v, hv, rv⟩ := r.get hd
    refine ⟨⟨vs, v, h.sq, hv⟩, fun u H' ⟨e, q⟩ => ?_⟩
    subst e
    have := q vs h.sq
    rw [hv] at this
    cases this
    exact ⟨.inl rfl, rv⟩
  | @cel a j h =>
    obtain ⟨vs, hl, z, r⟩ := w.cell j a xs h hg
    obtain ⟨v, hv, rv⟩ := r.get hd
    refine ⟨⟨vs, v, .inl (.inl hl), hv⟩, fun u H' ⟨e, q⟩ => ?_⟩
    subst e
    have := q vs (.inl (.inl hl))
    rw [hv] at this
    cases this
    exact ⟨.inl rfl, rv⟩
  | rng lo n =>
    cases hg
    obtain ⟨h1, h2⟩ := rngL_get hd
    refine ⟨h1, fun u H' ⟨e, q⟩ => ?_⟩
    subst e q h2
    exact ⟨.inl rfl, .int _⟩
  | @zip a b vs ws ds es h1 h2 r1 r2 =>
    cases hg
    obtain ⟨x, y, g1, g2, g3⟩ := zipL_get hd
    obtain ⟨v, hv, rv⟩ := r1.get g1
    obtain ⟨u, hu, ru⟩ := r2.get g2
    refine ⟨⟨vs, ws, v, u, h1.sq, h2.sq, hv, hu⟩, fun z H' ⟨T, p, q, e1, n, e2, q1, q2⟩ => ?_⟩
    have z1 := q1 vs h1.sq
    have z2 := q2 ws h2.sq
    rw [hv] at z1
    rw [hu] at z2
    cases z1
    cases z2
    subst e1 e2 g3
    exact ⟨.inr ⟨T, _, n, rfl⟩, pair_rep n rv ru⟩
  | @zipT a b vs ws ds es h1 h2 r1 r2 =>
    cases hg
    obtain ⟨x, y, g1, g2, g3⟩ := zipL_get hd
    obtain ⟨v, hv, rv⟩ := r1.get g1
    obtain ⟨u, hu, ru⟩ := r2.get g2
    refine ⟨⟨vs, ws, v, u, h1, h2, hv, hu⟩, fun z H' ⟨T, p, q, e1, n, e2, q1, q2⟩ => ?_⟩
    have z1 := q1 vs h1
    have z2 := q2 ws h2
    rw [hv] at z1
    rw [hu] at z2
    cases z1
    cases z2
    subst e1 e2 g3
    exact ⟨.inr ⟨T, _, n, rfl⟩, pair_rep n rv ru⟩
  | @zipC a b j ws es h h2 r2 =>
    replace hg : (match S[j]? with
      | some xs => some (zipL xs es)
      | none => none) = some xs := hg
    cases hS : S[j]? with
    | none => rw [hS] at hg; cases hg
    | some ds =>
      rw [hS] at hg
      cases hg
      obtain ⟨vs, hl, z, r1⟩ := w.cell j a ds h hS
      obtain ⟨x, y, g1, g2, g3⟩ := zipL_get hd
      obtain ⟨v, hv, rv⟩ := r1.get g1
      obtain ⟨u, hu, ru⟩ := r2.get g2
      refine ⟨⟨vs, ws, v, u, .inl (.inl hl), h2.sq, hv, hu⟩, fun z H' ⟨T, p, q, e1, n, e2, q1, q2⟩ => ?_⟩
      have z1 := q1 vs (.inl (.inl hl))
      have z2 := q2 ws h2.sq
      rw [hv] at z1
      rw [hu] at z2
      cases z1
      cases z2
      subst e1 e2 g3
      exact ⟨.inr ⟨T, _, n, rfl⟩, pair_rep n rv ru⟩
  | @enum a vs ds h r =>
    cases hg
    obtain ⟨x, g1, g2⟩ := enumL_get hd
    obtain ⟨v, hv, rv⟩ := r.get g1
    refine ⟨⟨vs, v, h.sq, hv⟩, fun z H' ⟨T, p, e1, n, e2, q1⟩ => ?_⟩
    have z1 := q1 vs h.sq
    rw [hv] at z1
    cases z1
    subst e1 e2 g2
    refine ⟨.inr ⟨T, _, n, rfl⟩, ?_⟩
    have e : (0 : Int) + (i : Nat) = (i : Nat) := by omega
    rw [e]
    exact pair_rep n (.int _) rv
theorem Wk.stop (h : Wk Y H as J g) (w : Wd Y H as S) {xs : List D} {i : Nat} (hg : g S = some xs) (hi : xs.length ≤ i) : J.stop i H := by
  cases h with
  | @tup a vs ds h r =>
    cases hg
    exact ⟨vs, h, by rw [← r.length]; exact hi⟩
  | @lst a vs ds h r =>
    cases hg
    exact ⟨vs, h.sq, by rw [← r.length]; exact hi⟩
  | @cel a j h =>
    obtain ⟨vs, hl, z, r⟩ := w.cell j a xs h hg
    exact ⟨vs, .inl (.inl hl), by rw [← r.length]; exact hi⟩
  | rng lo n =>
    cases hg
    rw [rngL_len] at hi
    exact hi
  | @zip a b vs ws ds es h1 h2 r1 r2 =>
    cases hg
    rw [zipL_len, r1.length, r2.length] at hi
    exact ⟨vs, ws, h1.sq, h2.sq, by omega⟩
  | @zipT a b vs ws ds es h1 h2 r1 r2 =>
    cases hg
    rw [zipL_len, r1.length, r2.length] at hi
    exact ⟨vs, ws, h1, h2, by omega⟩
  | @zipC a b j ws es h h2 r2 =>
    replace hg : (match S[j]? with
      | some xs => some (zipL xs es)
      | none => none) = some xs := hg
    cases hS : S[j]? with
    | none => rw [hS] at hg; cases hg
    | some ds =>
      rw [hS] at hg
      cases hg
      obtain ⟨vs, hl, z, r1⟩ := w.cell j a ds h hS
      rw [zipL_len, r1.length, r2.length] at hi
      exact ⟨vs, ws, .inl (.inl hl), h2.sq, by omega⟩
  | @enum a vs ds h r =>
    cases hg
    rw [enumL_len, r.length] at hi
    exact ⟨vs, h.sq, hi⟩
end

/-! ### readings -/
def zI (Y : Fx) (R : It → Hp → Prop) : D → Hp → Ad → Prop := fun d H as => ∃ g, gOf d = some g ∧ ∀ J, Wk Y H as J g → R J H
def tI (Y : Fx) (W : WX) (m : Env → Sto → R D) : TI := fun σ H R => ∃ ρ as S, EnvR Y H as ρ σ ∧ Wd Y H as S ∧ Post Y H as σ W (m ρ S) (zI Y R)
section
variable {X : Cx} {Y : Fx} {B : Tb} {N : List Str} {sc : Scope} {fnb : Str → Bool} {k : Nat} {W : WX} {P : PC} {tg : PySem.Expr}
/-- over a list or a tuple -/
def iAny (K : PySem.W.Frag) (tl : TE) : TI := fun σ H R => tl σ H fun x H1 => ∃ a, x = .ref a ∧ (((∃ xs, SqL K H1 a xs) ∧ R (Itl K a) H1) ∨ ((∃ xs, SqT K H1 a xs) ∧ R (Itt K a) H1))
theorem pi_any {l : PySem.Expr} {tl : TE} (hl : PE X l tl) : PI X tg l (iAny X.K tl) := by
  refine ⟨fun pins s σ H R I h => ?_⟩
  refine thn (hl.run pins s σ H _ I h) fun v s1 ⟨x, H1, I1, r1, q1⟩ => ?_
  obtain ⟨a, e, q⟩ := q1
  subst e
  cases r1
  rcases q with ⟨⟨xs, hq⟩, q⟩ | ⟨⟨xs, hq⟩, q⟩
  · obtain ⟨its, rv, p, hz⟩ := I1.list hq
    refine wpAny_pyIter_list p.isList ?_
    refine ⟨s1.heap.objs.size, [s1.heap.objs.size], _, _, H1, rfl, I1.kept (t' := s1.toks) fun b o e => Heap.get?_push_of_some _ e, turn_list a _, ⟨_, Heap.get?_push_size _ rfl, rfl, rfl⟩, fun b hb => ?_, q⟩
    have e : b = s1.heap.objs.size := by simpa using hb
    subst e
    exact I1.fpOk (Nat.le_refl _) (I1.hok.fresh (Nat.le_refl _))
  · obtain ⟨its, rv, p, hz⟩ := I1.tuple hq
    refine wpAny_pyIter_tuple (show s1.heap.IsTuple a its.toArray from p) ?_
    refine ⟨s1.heap.objs.size, [s1.heap.objs.size], _, _, H1, rfl, I1.kept (t' := s1.toks) fun b o e => Heap.get?_push_of_some _ e, turn_tuple a _, ⟨_, Heap.get?_push_size _ rfl, rfl, rfl⟩, fun b hb => ?_, q⟩
    have e : b = s1.heap.objs.size := by simpa using hb
    subst e
    exact I1.fpOk (Nat.le_refl _) (I1.hok.fresh (Nat.le_refl _))
/-- now, at once -/
theorem nowI {H : Hp} {as : Ad} {S : Sto} {σ : L2.St} {R : It → Hp → Prop} {d : D} {J : It} {g : Sto → Option (List D)} (w : Wd Y H as S) (h : Post Y H as σ W (.ok d S) (zI Y R)) (hg : gOf d = some g) (q : Wk Y H as J g) : R J H := by
  obtain ⟨g', e, r⟩ := h H as Ext.refl w
  rw [hg] at e
  cases e
  exact r J q
theorem i_seq (c : Cg X Y B N sc fnb k) {a : RE} {e : PySem.Expr} (ha : PE X e (tE Y W (den a P))) : PI X tg e (tI Y W (den (.seq a) P)) := by
  refine (pi_any ha).mono fun σ H Q ⟨ρ, as, S, hρ, w, h⟩ => ?_
  unfold den at h
  refine post_bind (m := den a P) hρ w h fun d v S1 H1 as1 e1 w1 hρ1 r1 h1 => ?_
  cases r1 with
  | tup h2 z r => exact ⟨_, rfl, .inr ⟨⟨_, by rw [c.K]; exact h2⟩, by rw [c.K]; exact nowI w1 h1 rfl (.tup h2 r)⟩⟩
  | lst h2 n z r => exact ⟨_, rfl, .inl ⟨⟨_, .inl (.inl h2)⟩, by rw [c.K]; exact nowI w1 h1 rfl (.lst (.inr ⟨h2, n⟩) r)⟩⟩
  | rl h2 z r => exact ⟨_, rfl, .inl ⟨⟨_, by rw [c.K]; exact h2.sq⟩, by rw [c.K]; exact nowI w1 h1 rfl (.lst h2 r)⟩⟩
  | @cel i a h2 =>
    obtain ⟨vs, hv⟩ := w1.mem (.inl (List.mem_of_getElem? h2))
    exact ⟨_, rfl, .inl ⟨⟨_, .inl (.inl hv)⟩, by rw [c.K]; exact nowI w1 h1 rfl (.cel h2)⟩⟩
  | _ => exact h1.elim
theorem smallI_ok {i : Int} (h : smallI i = true) : -(2 ^ 62) ≤ i ∧ i < 2 ^ 62 := by
  unfold smallI at h
  rw [Bool.and_eq_true] at h
  have h1 := of_decide_eq_true h.1
  have h2 := of_decide_eq_true h.2
  constructor <;> omega
theorem i_rng (c : Cg X Y B N sc fnb k) {l : RE} {x : Str} {q p : Pos} {es : List PySem.Expr} (h : (eqS x "range" && (glB sc x && (memS x B.free && (plainL es && (match es with
      | [_] => true
      | [_, _] => true
      | _ => false))))) = true) (hc : chk B N l sc (.L es) = true) (hl : PA X es (tAs Y W (den l P))) : PI X tg (.Call (.Name x q) es [] p) (tI Y W (den (.rng l) P)) := by
  rw [Bool.and_eq_true, Bool.and_eq_true, Bool.and_eq_true, Bool.and_eq_true] at h
  obtain ⟨h1, h2, h3, h4, h5⟩ := h
  have ex : x = "range" := of_decide_eq_true h1
  subst ex
  have mf := c.tb.free _ (memS_ok h3)
  have hg := c.gl h2
  split at h5
  · rename_i e
    rw [plainL, Bool.and_eq_true] at h4
    have hs := star_cons h4.1 [] X.env
    refine (pi_range1 hg mf hl hs).mono fun σ H Q ⟨ρ, as, S, hρ, w, h⟩ => ?_
    unfold den at h
    refine args_len hc (f := fun xs s => rngD xs s) hρ w h fun ds vs S1 H1 as1 hlen ex w1 hρ1 r1 h1 => ?_
    unfold rngD at h1
    split at h1
    · rename_i n
      cases r1 with
      | cons r rr =>
        cases rr
        cases r
        split at h1
        · rename_i hs
          obtain ⟨b1, b2⟩ := smallI_ok hs
          exact ⟨n, rfl, b1, b2, nowI w1 h1 rfl (.rng 0 n.toNat)⟩
        · exact h1.elim
    · exact absurd hlen (by simp)
    · exact h1.elim
  · rename_i e e2
    rw [plainL, plainL, Bool.and_eq_true, Bool.and_eq_true] at h4
    have hs2 := star_cons h4.2.1 [] X.env
    have hs := (star_cons h4.1 [e2] X.env).trans (by rw [hs2])
    refine (pi_range2 hg mf hl hs hs2).mono fun σ H Q ⟨ρ, as, S, hρ, w, h⟩ => ?_
    unfold den at h
    refine args_len hc (f := fun xs s => rngD xs s) hρ w h fun ds vs S1 H1 as1 hlen ex w1 hρ1 r1 h1 => ?_
    unfold rngD at h1
    split at h1
    · exact absurd hlen (by simp)
    · rename_i a b
      cases r1 with
      | cons r rr =>
        cases rr with
        | cons r' rr =>
          cases rr
          cases r
          cases r'
          split at h1
          · rename_i hs
            rw [Bool.and_eq_true] at hs
            obtain ⟨b1, b2⟩ := smallI_ok hs.1
            obtain ⟨b3, b4⟩ := smallI_ok hs.2
            exact ⟨a, b, rfl, ⟨b1, b2, b3, b4⟩, nowI w1 h1 rfl (.rng a (b - a).toNat)⟩
          · exact h1.elim
    · exact h1.elim
  · cases h5
theorem lsF_rep {H : Hp} {as : Ad} {d : D} {v : V} {xs : List D} (r : Rep Y H as d v) (h : lsF d = some xs) : ∃ a vs, v = .ref a ∧ FxL Y.K H as a vs ∧ RepL Y H as xs vs := by
  cases r with
  | lst h2 n z r =>
    cases h
    exact ⟨_, _, rfl, .inr ⟨h2, n⟩, r⟩
  | rl h2 z r =>
    cases h
    exact ⟨_, _, rfl, h2, r⟩
  | _ => cases h
theorem isTup_ok {e : PySem.Expr} (h : isTupE e = true) : ∃ es n p, e = .Tuple es n p := by
  cases e <;> first | exact ⟨_, _, _, rfl⟩ | cases h
theorem i_zip (c : Cg X Y B N sc fnb k) {a b : RE} {x : Str} {q p : Pos} {e e2 : PySem.Expr} (h : (isTupE tg && (eqS x "zip" && (glB sc x && (memS x B.free && (plainE e && plainE e2))))) = true)
    (ha : PE X e (tE Y W (den a P))) (hb : PE X e2 (tE Y W (den b P))) : PI X tg (.Call (.Name x q) [e, e2] [] p) (tI Y W (den (.zip a b) P)) := by
  rw [Bool.and_eq_true, Bool.and_eq_true, Bool.and_eq_true, Bool.and_eq_true, Bool.and_eq_true] at h
  obtain ⟨h0, h1, h2, h3, h4, h5⟩ := h
  obtain ⟨elts, kk, tpos, rfl⟩ := isTup_ok h0
  have ex : x = "zip" := of_decide_eq_true h1
  subst ex
  have mf := c.tb.free _ (memS_ok h3)
  have hg := c.gl h2
  have s2 := star_cons h5 [] X.env
  have s1 := star_cons h4 [e2] X.env
  have hpl : (backTo p (starEach [e2] X.env)).any (·.1) = false := star_none (by rw [plainL, plainL, h5]; rfl)
  refine (RZ.pi_zipA hg mf (pa_cons ha (pa_cons hb pa_nil s2) s1) s1 hpl).mono fun σ H Q ⟨ρ, as, S, hρ, w, h⟩ => ?_
  unfold den at h
  refine post_bind (m := den a P) hρ w h fun d v S1 H1 as1 e1 w1 hρ1 r1 h1 => ?_
  refine post_bind (m := den b P) hρ1 w1 h1 fun d2 v2 S2 H2 as2 e2 w2 hρ2 r2 h2 => ?_
  replace r1 := r1.ext e2
  unfold zipD at h2
  split at h2
  · cases r1 with
    | tup t1 z1 q1 =>
      cases r2 with
      | tup t2 z2 q2 =>
        rw [c.K]
        exact ⟨_, _, _, _, rfl, .inr ⟨t1, t2, nowI w2 h2 rfl (.zipT t1 t2 q1 q2)⟩⟩
  · split at h2
    · rename_i g2
      cases r1 with
      | @cel i a1 hc =>
        obtain ⟨a2, vs2, rfl, l2, q2⟩ := lsF_rep r2 g2
        obtain ⟨vs1, hv⟩ := w2.mem (.inl (List.mem_of_getElem? hc))
        rw [c.K]
        exact ⟨_, _, _, _, rfl, .inl ⟨.inl (.inl hv), l2.sq, nowI w2 h2 rfl (.zipC hc l2 q2)⟩⟩
    · exact h2.elim
  · split at h2
    · rename_i g1 g2
      obtain ⟨a1, vs1, rfl, l1, q1⟩ := lsF_rep r1 g1
      obtain ⟨a2, vs2, rfl, l2, q2⟩ := lsF_rep r2 g2
      rw [c.K]
      exact ⟨_, _, _, _, rfl, .inl ⟨l1.sq, l2.sq, nowI w2 h2 rfl (.zip l1 l2 q1 q2)⟩⟩
    · exact h2.elim
theorem i_enum (c : Cg X Y B N sc fnb k) {a : RE} {x : Str} {q p : Pos} {e : PySem.Expr} (h : (isTupE tg && (eqS x "enumerate" && (glB sc x && (memS x B.free && plainE e)))) = true)
    (ha : PE X e (tE Y W (den a P))) : PI X tg (.Call (.Name x q) [e] [] p) (tI Y W (den (.enum a) P)) := by
  rw [Bool.and_eq_true, Bool.and_eq_true, Bool.and_eq_true, Bool.and_eq_true] at h
  obtain ⟨h0, h1, h2, h3, h4⟩ := h
  obtain ⟨elts, kk, tpos, rfl⟩ := isTup_ok h0
  have ex : x = "enumerate" := of_decide_eq_true h1
  subst ex
  have mf := c.tb.free _ (memS_ok h3)
  have hg := c.gl h2
  have s1 := star_cons h4 [] X.env
  refine (pi_enum hg mf (pa_cons ha pa_nil s1) s1).mono fun σ H Q ⟨ρ, as, S, hρ, w, h⟩ => ?_
  unfold den at h
  refine post_bind (m := den a P) hρ w h fun d v S1 H1 as1 e1 w1 hρ1 r1 h1 => ?_
  unfold enumD at h1
  split at h1
  · rename_i g1
    obtain ⟨a1, vs1, rfl, l1, q1⟩ := lsF_rep r1 g1
    rw [c.K]
    exact ⟨_, _, rfl, l1.sq, nowI w1 h1 rfl (.enum l1 q1)⟩
  · exact h1.elim

/-! ### targets -/
/-- what is stored: nothing off the target's names -/
def Off (tg : Tg) (σ σ' : L2.St) : Prop := σ'.length = σ.length ∧ ∀ own, tgIn tg own = true → ∀ j, j ∉ own → σ'[j]? = σ[j]?
def gT (Y : Fx) (tg : Tg) : TG := fun v σ H Q => ∃ ρ as S d, EnvR Y H as ρ σ ∧ Wd Y H as S ∧ Rep Y H as d v ∧ ∃ ρ', setT S tg d ρ = some ρ' ∧ ∀ σ', EnvR Y H as ρ' σ' → Off tg σ σ' → Q σ' H
def gTs (Y : Fx) (tg : Tg) : TGs := fun vs σ H Q => ∃ ρ as S ds, EnvR Y H as ρ σ ∧ Wd Y H as S ∧ RepL Y H as ds vs ∧ ∃ ρ', setT.setTs S tg ds ρ = some ρ' ∧ ∀ σ', EnvR Y H as ρ' σ' → Off tg σ σ' → Q σ' H
theorem each_len : ∀ {es : List PySem.Expr} {env : PySem.Env}, plainL es = true → (assignEach es env).length = es.length ∧ (assignEach es env).findIdx? (·.1) = none ∧ (assignEach es env).map (·.2) = es.map fun e => assign e env
  | [], _, _ => ⟨rfl, rfl, rfl⟩
  | e :: es, env, h => by
    rw [plainL, Bool.and_eq_true] at h
    obtain ⟨h1, h2, h3⟩ := each_len (es := es) (env := env) h.2
    have e1 : assignEach (e :: es) env = (false, assign e env) :: assignEach es env := by
      cases e <;> first | rfl | exact absurd (show false = true from h.1) Bool.false_ne_true
    rw [e1]
    refine ⟨congrArg Nat.succ h1, ?_, congrArg (_ :: ·) h3⟩
    rw [List.findIdx?_cons]
    show (if false = true then _ else _) = none
    rw [if_neg Bool.false_ne_true, h2]
    rfl
/-- a tuple or a list of that length -/
def gSeq (K : PySem.W.Frag) (n : Nat) (t : TGs) : TG := fun v σ H Q => ∃ a xs, v = .ref a ∧ (SqT K H a xs ∨ SqL K H a xs) ∧ xs.length = n ∧ t xs σ H Q
theorem pg_seq {es : List PySem.Expr} {k : Nat} {t : TGs} {n : Nat} {pos : Pos} (hc : X.calm = true) (h : PGs X es t)
    (hn : (assignEach es X.env).length = n) (hst : (assignEach es X.env).findIdx? (·.1) = none) : PG X (.Tuple es k pos) (gSeq X.K n t) := by
  refine ⟨fun pins s σ H v u Q I r ⟨a, xs, e, q, hl, hw⟩ => ?_⟩
  rcases q with q | q
  · exact (pg_tup hc h hn hst).run pins s σ H v u Q I r ⟨a, xs, e, q, hl, hw⟩
  · exact (pg_lst hc h hn hst).run pins s σ H v u Q I r ⟨a, xs, e, q, hl, hw⟩
theorem seqOf_sq {H : Hp} {as : Ad} {S : Sto} {d : D} {v : V} {xs : List D} (w : Wd Y H as S) (r : Rep Y H as d v) (h : seqOf S d = some xs) : ∃ a vs, v = .ref a ∧ (SqT Y.K H a vs ∨ SqL Y.K H a vs) ∧ RepL Y H as xs vs := by
  cases r with
  | tup h2 z r =>
    cases h
    exact ⟨_, _, rfl, .inl h2, r⟩
  | lst h2 n z r =>
    cases h
    exact ⟨_, _, rfl, .inr (.inl (.inl h2)), r⟩
  | rl h2 z r =>
    cases h
    exact ⟨_, _, rfl, .inr h2.sq, r⟩
  | @cel i a h2 =>
    obtain ⟨vs, hl, z, r⟩ := w.cell i a xs h2 h
    exact ⟨_, _, rfl, .inr (.inl (.inl hl)), r⟩
  | _ => cases h
theorem setTs_len {S : Sto} : ∀ {l : Tg} {es : List PySem.Expr} {ds : List D} {ρ ρ' : Env} {fnb : Str → Bool}, chkT N sc fnb l (.L es) = true → setT.setTs S l ds ρ = some ρ' → ds.length = es.length := by
  intro l
  induction l with
  | nil =>
    intro es ds ρ ρ' fnb h e
    cases es with
    | nil =>
      cases ds with
      | nil => rfl
      | cons d ds => cases (show none = some ρ' from e)
    | cons _ _ => cases (show false = true from h)
  | cons a r iha ihr =>
    intro es ds ρ ρ' fnb h e
    cases es with
    | nil => cases (show false = true from h)
    | cons e1 es =>
      have h' : (chkT N sc fnb a (.E e1) && chkT N sc fnb r (.L es)) = true := h
      rw [Bool.and_eq_true] at h'
      cases ds with
      | nil => cases (show none = some ρ' from e)
      | cons d ds =>
        have e' : (match setT S a d ρ with | some ρ' => setT.setTs S r ds ρ' | none => none) = some ρ' := e
        cases q : setT S a d ρ with
        | none => rw [q] at e'; cases e'
        | some ρ1 =>
          rw [q] at e'
          rw [List.length_cons, List.length_cons, ihr h'.2 e']
  | name i => intro es ds ρ ρ' fnb h e; cases es <;> cases (show false = true from h)
  | tup l ih => intro es ds ρ ρ' fnb h e; cases es <;> cases (show false = true from h)
theorem tgs (hN : X.N = N) (nd : N.Nodup) (hsc : X.env.scope = sc) (hf : X.fn = fnb) (hK : X.K = Y.K) (hcalm : X.calm = true) : ∀ (tg : Tg), (∀ e, chkT N sc fnb tg (.E e) = true → PG X e (gT Y tg)) ∧ (∀ es, chkT N sc fnb tg (.L es) = true → plainL es = true → PGs X es (gTs Y tg)) := by
  intro tg
  induction tg with
  | name i =>
    refine ⟨fun e h => ?_, fun es h => by cases es <;> cases (show false = true from h)⟩
    cases e with
    | Name x p =>
      have h' : (decide (N[i]? = some x) && (locB sc x && (fnb x || (match sc.names.lookup x with | some .local => true | _ => false)))) = true := h
      rw [Bool.and_eq_true, Bool.and_eq_true, Bool.or_eq_true] at h'
      obtain ⟨h1, h2, h3⟩ := h'
      have hfn : X.fn x = true ∨ X.env.scope.names.lookup x = some .local := by
        rcases h3 with h3 | h3
        · exact .inl (by rw [hf]; exact h3)
        · refine .inr ?_
          rw [hsc]
          split at h3 <;> first | assumption | cases h3
      have pg := pg_name (X := X) (pos := p) (i := i) (x := x) (by rw [hN]; exact nd) (by rw [hN]; exact of_decide_eq_true h1) (by rw [hsc]; exact locB_ok h2) hfn
      refine ⟨fun pins s σ H v u Q I r ⟨ρ, as, S, d, hρ, w, rd, ρ', e, q⟩ => pg.run pins s σ H v u Q I r ?_⟩
      cases e
      refine q _ (hρ.set rd i) ⟨List.length_set .., fun own ho j hj => ?_⟩
      have hi : i ∈ own := List.contains_iff_mem.mp ho
      exact List.getElem?_set_ne fun (e : i = j) => hj (by rw [← e]; exact hi)
    | _ => exact absurd (show false = true from h) Bool.false_ne_true
  | tup l ih =>
    refine ⟨fun e h => ?_, fun es h => by cases es <;> cases (show false = true from h)⟩
    cases e with
    | Tuple es n p =>
      have h' : (plainL es && chkT N sc fnb l (.L es)) = true := h
      rw [Bool.and_eq_true] at h'
      obtain ⟨l1, l2, l3⟩ := each_len (env := X.env) h'.1
      have pg := pg_seq (pos := p) (k := n) hcalm (ih.2 es h'.2 h'.1) l1 l2
      refine ⟨fun pins s σ H v u Q I r ⟨ρ, as, S, d, hρ, w, rd, ρ', e, q⟩ => pg.run pins s σ H v u Q I r ?_⟩
      unfold setT at e
      cases e1 : seqOf S d with
      | none => rw [e1] at e; cases e
      | some xs =>
        rw [e1] at e
        replace e : setT.setTs S l xs ρ = some ρ' := e
        obtain ⟨a, vs, rfl, hq, rx⟩ := seqOf_sq w rd e1
        exact ⟨a, vs, rfl, by rw [hK]; exact hq, by rw [← rx.length]; exact setTs_len h'.2 e, ρ, as, S, xs, hρ, w, rx, ρ', e, q⟩
    | _ => exact absurd (show false = true from h) Bool.false_ne_true
  | nil =>
    refine ⟨fun e h => by cases e <;> (cases (show false = true from h)), fun es h hp => ?_⟩
    cases es with
    | cons _ _ => cases (show false = true from h)
    | nil =>
      refine ⟨fun pins s σ H vs us Q I r hw => pgs_nil.run pins s σ H vs us Q I r ?_⟩
      obtain ⟨ρ, as, S, ds, hρ, w, rd, ρ', e, q⟩ := hw
      cases rd with
      | nil =>
        cases e
        exact ⟨rfl, q σ hρ ⟨rfl, fun _ _ _ _ => rfl⟩⟩
      | cons _ _ => cases e
  | cons a r iha ihr =>
    refine ⟨fun e h => by cases e <;> (cases (show false = true from h)), fun es h hp => ?_⟩
    cases es with
    | nil => cases (show false = true from h)
    | cons e1 es =>
      have h' : (chkT N sc fnb a (.E e1) && chkT N sc fnb r (.L es)) = true := h
      rw [Bool.and_eq_true] at h'
      have hp' := hp
      rw [plainL, Bool.and_eq_true] at hp'
      have hs : (assignEach (e1 :: es) X.env).map (·.2) = assign e1 X.env :: (assignEach es X.env).map (·.2) := by
        rw [(each_len hp).2.2, (each_len hp'.2).2.2]
        rfl
      refine ⟨fun pins s σ H vs us Q I rr hw => (pgs_cons (iha.1 e1 h'.1) (ihr.2 es h'.2 hp'.2) hs).run pins s σ H vs us Q I rr ?_⟩
      obtain ⟨ρ, as, S, ds, hρ, w, rd, ρ', e, q⟩ := hw
      cases rd with
      | nil => cases e
      | @cons d v ds vs r1 r2 =>
        have e' : (match setT S a d ρ with | some ρ' => setT.setTs S r ds ρ' | none => none) = some ρ' := e
        cases e1 : setT S a d ρ with
        | none => rw [e1] at e'; cases e'
        | some ρ1 =>
          rw [e1] at e'
          refine ⟨v, vs, rfl, ρ, as, S, d, hρ, w, r1, ρ1, e1, fun σ1 hρ1 o1 => ⟨ρ1, as, S, ds, hρ1, w, r2, ρ', e', fun σ2 hρ2 o2 => q σ2 hρ2 ⟨o2.1.trans o1.1, fun own ho j hj => ?_⟩⟩⟩
          have ho' : (tgIn a own && tgIn r own) = true := ho
          rw [Bool.and_eq_true] at ho'
          exact (o2.2 own ho'.2 j hj).trans (o1.2 own ho'.1 j hj)
end
end Px
end

section
set_option Elab.async false
set_option linter.all false
set_option maxRecDepth 100000
set_option maxHeartbeats 1000000
/-! Px: list comprehensions. -/
namespace Px
open PySem PySem.Spec PyProof.Rows L2

theorem wipe_get {σ : L2.St} : ∀ {vs : List Nat} {i : Nat}, i ∈ vs → (L2.wipe σ vs)[i]? = if i < σ.length then some none else none
  | v :: vs, i, h => by
    show ((L2.wipe σ vs).set v none)[i]? = _
    by_cases e : v = i
    · subst e
      by_cases hl : v < σ.length
      · rw [List.getElem?_set_self (by rw [wipe_length]; exact hl), if_pos hl]
      · rw [List.getElem?_eq_none (by rw [List.length_set, wipe_length]; omega), if_neg hl]
    · rw [List.getElem?_set_ne e]
      rcases List.mem_cons.mp h with h | h
      · exact absurd h.symm e
      · exact wipe_get h
theorem wipe_off {σ : L2.St} : ∀ {vs : List Nat} {i : Nat}, i ∉ vs → (L2.wipe σ vs)[i]? = σ[i]?
  | [], i, _ => rfl
  | v :: vs, i, h => by
    show ((L2.wipe σ vs).set v none)[i]? = _
    rw [List.getElem?_set_ne fun (e : v = i) => h (by rw [← e]; exact List.mem_cons_self)]
    exact wipe_off fun m => h (List.mem_cons_of_mem _ m)
theorem wipe_same {σ σ2 : L2.St} {tg : Tg} {own : List Nat} (o : Off tg (L2.wipe σ own) σ2) (h : tgIn tg own = true) : L2.wipe σ2 own = L2.wipe σ own := by
  have hl : σ2.length = σ.length := o.1.trans (wipe_length σ own)
  apply List.ext_getElem?
  intro i
  by_cases m : i ∈ own
  · rw [wipe_get m, wipe_get m, hl]
  · rw [wipe_off m, o.2 own h i m]
section
variable {X : Cx} {Y : Fx} {B : Tb} {N : List Str} {sc : Scope} {fnb : Str → Bool} {k : Nat} {W : WX} {P : PC}

theorem compL_M {f : D → Sto → R (Option D)} {xs : List D} : ∀ (m i : Nat) (acc : List D) (s : Sto), i + m = xs.length → compL f (xs.drop i) acc s = compM f (fun _ => some xs) m i acc s
  | 0, i, acc, s, h => by
    rw [List.drop_eq_nil_of_le (by omega)]
    show R.ok acc s = if xs.length ≤ i then R.ok acc s else .bad
    rw [if_pos (by omega)]
  | m + 1, i, acc, s, h => by
    have hi : i < xs.length := by omega
    rw [List.drop_eq_getElem_cons hi]
    show (f xs[i] s).calm _ = match xs[i]? with
      | some x => (f x s).calm _
      | none => .bad
    rw [List.getElem?_eq_getElem hi]
    show (f xs[i] s).calm _ = (f xs[i] s).calm _
    congr 1
    funext o s'
    cases o with
    | some y => exact compL_M m (i + 1) (acc ++ [y]) s' (by omega)
    | none => exact compL_M m (i + 1) acc s' (by omega)
/-- the walk of a comprehension -/
theorem comp_run {mu : Bool} {elt cond : RE} {own : List Nat} {tg : Tg} {ρ : Env} {σ : L2.St} {H1 : Hp} {as1 : Ad} {S1 : Sto} {J : It} {g : Sto → Option (List D)} {n : Nat} {Q : VK} (hown : tgIn tg own = true) (hρ : EnvR Y H1 as1 ρ σ) (w : Wd Y H1 as1 S1) (wk : Wk Y H1 as1 J g) (hn : fit n = true)
    (h : Post Y H1 as1 σ W ((compM (itemZ (den cond P) (den elt P) own tg ρ) g n 0 [] S1).bind fun ys s => allocL mu ys s) (zE Y Q)) :
    ∀ Da, H1 Da = none → ∃ Wm : Nat → Nat → Hp → Prop, (∃ m, Wm 0 m (upd H1 Da (.lst []))) ∧ ∀ i m H, Wm i m H →
      (J.stop i H ∧ Q (.ref Da) H) ∨ (J.go i H ∧ ∃ Nx : Hp → Prop, (∀ H', Nx H' → ∃ m', m' < m ∧ Wm (i + 1) m' H') ∧ ∀ x H', J.yld i H x H' → gT Y tg x (L2.wipe σ own) H' fun σ2 H2 => L2.wipe σ2 own = L2.wipe σ own ∧ tT Y (fun _ _ _ _ => False) (den cond P) σ2 H2 fun b H3 =>
        if b = true then tE Y (fun _ _ _ _ => False) (den elt P) σ2 H3 fun y H4 => ∃ acc, H4 Da = some (.lst acc) ∧ acc.length < sizeLine ∧ Nx (upd H4 Da (.lst (acc ++ [y]))) else Nx H3) := by
  intro Da nD
  let Wm : Nat → Nat → Hp → Prop := fun i m H => ∃ (as : Ad) (S : Sto) (acc : List D) (vs : List V), i + m = n ∧ EnvR Y H (as.opn Da) ρ σ ∧ Wd Y H (as.opn Da) S ∧ Wk Y H (as.opn Da) J g ∧ Ext H1 as1 H as ∧ H Da = some (.lst vs) ∧ RepL Y H (as.opn Da) acc vs ∧ vs.length ≤ i ∧
    Post Y H1 as1 σ W ((compM (itemZ (den cond P) (den elt P) own tg ρ) g m i acc S).bind fun ys s => allocL mu ys s) (zE Y Q)
  refine ⟨Wm, ⟨n, as1, S1, [], [], by omega, hρ.open nD, w.open nD, wk.open nD, Ext.new nD, upd_same, .nil, Nat.le_refl _, h⟩, ?_⟩
  rintro i m H ⟨as, S, acc, vs, him, hρ2, w2, wk2, e2, hD, ra, hlen, h2⟩
  have hsz : n ≤ sizeLine := fit_le hn
  cases m with
  | zero =>
    have h3 : Post Y H1 as1 σ W ((match g S with
      | some xs => if xs.length ≤ i then R.ok acc S else .bad
      | none => .bad).bind fun ys s => allocL mu ys s) (zE Y Q) := h2
    cases hg : g S with
    | none => rw [hg] at h3; exact h3.elim
    | some xs =>
      rw [hg] at h3
      replace h3 : Post Y H1 as1 σ W ((if xs.length ≤ i then R.ok acc S else .bad).bind fun ys s => allocL mu ys s) (zE Y Q) := h3
      by_cases hx : xs.length ≤ i
      · rw [if_pos hx] at h3
        replace h3 : Post Y H1 as1 σ W (allocL mu acc S) (zE Y Q) := h3
        refine .inl ⟨wk2.stop w2 hg hx, ?_⟩
        have hz : vs.length ≤ sizeLine := by omega
        cases mu with
        | false =>
          have w3 := w2.shut
          have nm : Da ∉ as := fun m => by
            have o1 := w2.op Da List.mem_cons_self
            rcases (show Da ∈ as.c ∨ Da ∈ as.o from m) with m | m
            · exact o1.1 m
            · exact (List.nodup_cons.mp w2.od).1 m
          exact h3 H as e2 w3 _ (.lst hD nm hz ra.close)
        | true =>
          refine h3 H (as.add Da) (e2.addc nD) (w2.shutM hD hz ra) _ (.cel ?_)
          show (as.c ++ [Da])[S.length]? = some Da
          have wl : as.c.length = S.length := w2.len
          rw [← wl]
          simp
      · rw [if_neg hx] at h3
        exact h3.elim
  | succ m =>
    have h3 : Post Y H1 as1 σ W ((match g S with
      | some xs => match xs[i]? with
        | some x => (itemZ (den cond P) (den elt P) own tg ρ x S).calm fun o s' => match o with
          | some y => compM (itemZ (den cond P) (den elt P) own tg ρ) g m (i + 1) (acc ++ [y]) s'
          | none => compM (itemZ (den cond P) (den elt P) own tg ρ) g m (i + 1) acc s'
        | none => .bad
      | none => .bad).bind fun ys s => allocL mu ys s) (zE Y Q) := h2
    cases hg : g S with
    | none => rw [hg] at h3; exact h3.elim
    | some xs =>
      rw [hg] at h3
      replace h3 : Post Y H1 as1 σ W ((match xs[i]? with
        | some x => (itemZ (den cond P) (den elt P) own tg ρ x S).calm fun o s' => match o with
          | some y => compM (itemZ (den cond P) (den elt P) own tg ρ) g m (i + 1) (acc ++ [y]) s'
          | none => compM (itemZ (den cond P) (den elt P) own tg ρ) g m (i + 1) acc s'
        | none => .bad).bind fun ys s => allocL mu ys s) (zE Y Q) := h3
      cases hx : xs[i]? with
      | none => rw [hx] at h3; exact h3.elim
      | some x =>
        rw [hx] at h3
        replace h3 : Post Y H1 as1 σ W (((itemZ (den cond P) (den elt P) own tg ρ x S).calm fun o s' => match o with
          | some y => compM (itemZ (den cond P) (den elt P) own tg ρ) g m (i + 1) (acc ++ [y]) s'
          | none => compM (itemZ (den cond P) (den elt P) own tg ρ) g m (i + 1) acc s').bind fun ys s => allocL mu ys s) (zE Y Q) := h3
        obtain ⟨hgo, hy⟩ := wk2.step w2 hg hx
        refine .inr ⟨hgo, Wm (i + 1) m, fun H' nx => ⟨m, Nat.lt_succ_self _, nx⟩, fun v H' yl => ?_⟩
        obtain ⟨st, rx⟩ := hy v H' yl
        have es : Ext H (as.opn Da) H' (as.opn Da) := st.ext
        unfold itemZ at h3
        cases hs : setT S tg x (wipe ρ own) with
        | none => rw [hs] at h3; exact h3.elim
        | some ρ' =>
          rw [hs] at h3
          replace h3 : Post Y H1 as1 σ W ((((den cond P ρ' S).bind fun t s => match t with
            | .bl true => (den elt P ρ' s).bind fun z s => R.ok (some z) s
            | .bl false => .ok none s
            | _ => .bad).calm fun o s' => match o with
              | some y => compM (itemZ (den cond P) (den elt P) own tg ρ) g m (i + 1) (acc ++ [y]) s'
              | none => compM (itemZ (den cond P) (den elt P) own tg ρ) g m (i + 1) acc s').bind fun ys s => allocL mu ys s) (zE Y Q) := h3
          refine ⟨wipe ρ own, as.opn Da, S, x, (hρ2.ext es).wipe own, st.wd w2, rx, ρ', hs, fun σ2 hσ2 off => ⟨wipe_same off hown, ?_⟩⟩
          -- the test
          refine ⟨ρ', as.opn Da, S, hσ2, st.wd w2, ?_⟩
          cases hc : den cond P ρ' S with
          | bad => rw [hc] at h3; exact h3.elim
          | exc c s => rw [hc] at h3; exact h3.elim
          | ok t S2 =>
            rw [hc] at h3
            refine fun H3 a3 e3 w3 => ?_
            have e13 : Ext H1 as1 H' as := st.after e2
            obtain ⟨as3, rfl, e4⟩ := Ext.thru nD e13 e3
            have hD' : H' Da = some (.lst vs) := es.keep _ _ hD (fun _ z => by cases z) fun m => absurd m (w2.op Da List.mem_cons_self).1
            have hD3 : H3 Da = some (.lst vs) := e3.keep _ _ hD' (fun _ z => by cases z) fun m => absurd m (w2.op Da List.mem_cons_self).1
            cases t with
            | bl b =>
              cases b with
              | false =>
                show Wm (i + 1) m H3
                exact ⟨as3, S2, acc, vs, by omega, (hρ2.ext es).ext e3, w3, (wk2.ext es).ext e3, e4, hD3, (ra.ext es).ext e3, by omega, h3⟩
              | true =>
                replace h3 : Post Y H1 as1 σ W ((((den elt P ρ' S2).bind fun z s => R.ok (some z) s).calm fun o s' => match o with
                  | some y => compM (itemZ (den cond P) (den elt P) own tg ρ) g m (i + 1) (acc ++ [y]) s'
                  | none => compM (itemZ (den cond P) (den elt P) own tg ρ) g m (i + 1) acc s').bind fun ys s => allocL mu ys s) (zE Y Q) := h3
                show tE Y (fun _ _ _ _ => False) (den elt P) σ2 H3 fun y H4 => ∃ acc, H4 Da = some (.lst acc) ∧ acc.length < sizeLine ∧ Wm (i + 1) m (upd H4 Da (.lst (acc ++ [y])))
                refine ⟨ρ', as3.opn Da, S2, hσ2.ext e3, w3, ?_⟩
                cases he : den elt P ρ' S2 with
                | bad => rw [he] at h3; exact h3.elim
                | exc c s => rw [he] at h3; exact h3.elim
                | ok z S4 =>
                  rw [he] at h3
                  refine fun H5 a5 e5 w5 y ry => ?_
                  obtain ⟨as5, rfl, e6⟩ := Ext.thru nD e4 e5
                  have hD5 : H5 Da = some (.lst vs) := e5.keep _ _ hD3 (fun _ z => by cases z) fun m => absurd m (w3.op Da List.mem_cons_self).1
                  refine ⟨vs, hD5, by omega, as5, S4, acc ++ [z], vs ++ [y], by omega, EnvR.grow hD5 (((hρ2.ext es).ext e3).ext e5), w5.grow hD5, Wk.grow hD5 (((wk2.ext es).ext e3).ext e5), e6.upd1 nD, upd_same, ?_, by rw [List.length_append, List.length_singleton]; omega, h3⟩
                  exact RepL.grow hD5 ((((ra.ext es).ext e3).ext e5).append (.cons ry .nil))
            | _ => exact h3.elim
end
end Px
end

section
set_option Elab.async false
set_option linter.all false
set_option maxRecDepth 100000
set_option maxHeartbeats 1000000
/-! Px: methods of lists. -/
namespace Px
open PySem PySem.Spec PyProof.Rows L2
section
variable {X : Cx} {Y : Fx} {B : Tb} {N : List Str} {sc : Scope} {fnb : Str → Bool} {k : Nat} {W : WX} {P : PC}
theorem base_plain {o : PySem.Expr} (h : notCall o = true) (name : Str) : attributeBase o name X.env (eval o X.env) = eval o X.env := by
  cases o <;> first | rfl | cases h
theorem ixN_L {n : Nat} {i : Int} {j : Nat} (h : Px.ixN n i = some j) : L2.ixN n i = some j := by
  unfold Px.ixN at h
  unfold L2.ixN
  exact h
theorem RepL.dropLast {H : Hp} {as : Ad} {ds : List D} {vs : List V} (r : RepL Y H as ds vs) : RepL Y H as ds.dropLast vs.dropLast := by
  rw [List.dropLast_eq_take, List.dropLast_eq_take, r.length]
  exact r.take _
theorem RepL.erase {H : Hp} {as : Ad} : ∀ {ds : List D} {vs : List V} (i : Nat), RepL Y H as ds vs → RepL Y H as (ds.eraseIdx i) (vs.eraseIdx i)
  | _, _, _, .nil => by simp; exact .nil
  | _, _, 0, .cons _ t => t
  | _, _, i + 1, .cons q t => .cons q (RepL.erase i t)
/-- a cell is written -/
theorem cell_put {H : Hp} {as : Ad} {S : Sto} {σ : L2.St} {i : Nat} {a : Addr} {d : D} {v : V} {ds : List D} {vs : List V} {Q : VK} (w : Wd Y H as S) (ha : as.c[i]? = some a) (z : vs.length ≤ sizeLine) (r : RepL Y H as ds vs) (rd : Rep Y H as d v)
    (h : Post Y H as σ W (.ok d (S.set i ds)) (zE Y Q)) : Q v (upd H a (.lst vs)) := by
  have ex : Ext H as (upd H a (.lst vs)) as := Ext.put w (List.mem_of_getElem? ha)
  exact h _ as ex (w.put ha z r) v (rd.ext ex)
theorem meD_cases {H : Hp} {as : Ad} {S : Sto} {σ : L2.St} {m : Me} {i : Nat} {a : Addr} {ds : List D} {Q : VK} (w : Wd Y H as S) (ha : as.c[i]? = some a) (h : Post Y H as σ W (meD m i ds S) (zE Y Q)) :
    ∃ ys ws d zs, H a = some (.lst ws) ∧ ws.length ≤ sizeLine ∧ RepL Y H as ys ws ∧ meL m ys ds = some (d, zs) ∧ ∀ vs v, vs.length ≤ sizeLine → RepL Y H as zs vs → Rep Y H as d v → Q v (upd H a (.lst vs)) := by
  unfold meD at h
  split at h
  · rename_i ys e
    obtain ⟨ws, hl, z, q⟩ := w.cell i a ys ha e
    split at h
    · rename_i d zs e2
      exact ⟨ys, ws, d, zs, hl, z, q, e2, fun vs v z2 r rd => cell_put w ha z2 r rd h⟩
    · exact h.elim
  · exact h.elim
theorem starEach_few {es : List PySem.Expr} {cpos : Pos} (h : plainL es = true) : (backTo cpos (starEach es X.env)).all (fun x => !x.1) = true := by
  induction es with
  | nil => rfl
  | cons e es ih =>
    rw [plainL, Bool.and_eq_true] at h
    rw [star_cons h.1]
    show (!false && (backTo cpos (starEach es X.env)).all (fun x => !x.1)) = true
    rw [ih h.2]
    rfl
theorem e_meth {m : Me} {a l : RE} {o : PySem.Expr} {name : Str} {apos cpos : Pos} {es : List PySem.Expr} (hm : name = meN m) (ho : notCall o = true) (hl : apos.endLine = cpos.line) (hp : plainL es = true) (hC : meC m es = true) (hcl : chk B N l sc (.L es) = true)
    (ha : PE X o (tE Y W (den a P))) (hes : PA X es (tAs Y W (den l P))) : PE X (.Call (.Attribute o name apos) es [] cpos) (tE Y W (den (.meth m a l) P)) := by
  subst hm
  have hline : (apos.endLine == cpos.line) = true := beq_iff_eq.mpr hl
  have hb := base_plain (X := X) ho (meN m)
  have slt := sizeLine_eq
  -- one argument
  have one : ∀ {id : String} {r : V → List V → Hp → VK → Prop} {e : PySem.Expr}, es = [e] → Slot "list" (meN m) id → typeOf (.builtin id) = pure (.type "method_descriptor") → MtR X id r →
      (∀ {H : Hp} {as : Ad} {S : Sto} {σ : L2.St} {Q : VK} {i : Nat} {p : Addr} {vs : List V} {ds : List D}, Wd Y H as S → as.c[i]? = some p → RepL Y H as ds vs → Post Y H as σ W (meD m i ds S) (zE Y Q) → r (.ref p) vs H Q) →
      PE X (.Call (.Attribute o (meN m) apos) es [] cpos) (tE Y W (den (.meth m a l) P)) := by
    intro id r e he hs ht hM hr
    subst he
    have hp' := hp
    rw [plainL, Bool.and_eq_true] at hp'
    refine (pe_bm PySem.F.plainAttrs_list hs ht hM ha hes hb ?_ hline (star_cons hp'.1 [] X.env) (star_none hp'.2)).mono fun σ H Q ⟨ρ, as, S, hρ, w, h⟩ => ?_
    · rw [starEach_few hp]
      rfl
    · unfold den at h
      refine post_bind (m := den a P) hρ w h fun d v S1 H1 as1 e1 w1 hρ1 r1 h1 => ?_
      cases r1 with
      | @cel i p h2 =>
        obtain ⟨ws, hw⟩ := w1.mem (.inl (List.mem_of_getElem? h2))
        refine ⟨.inl ⟨rfl, ws, .inl (.inl hw)⟩, ?_⟩
        exact args_post (f := fun xs s => meD m i xs s) hρ1 w1 h1 fun ds vs S2 H2 as2 e2 w2 hρ2 r2 h2' => hr w2 (e2.at h2) r2 h2'
      | _ => exact h1.elim
  have two : ∀ {id : String} {r : V → List V → Hp → VK → Prop}, es = [] → Slot "list" (meN m) id → typeOf (.builtin id) = pure (.type "method_descriptor") → MtR X id r →
      (∀ {H : Hp} {as : Ad} {S : Sto} {σ : L2.St} {Q : VK} {i : Nat} {p : Addr} {vs : List V} {ds : List D}, Wd Y H as S → as.c[i]? = some p → RepL Y H as ds vs → Post Y H as σ W (meD m i ds S) (zE Y Q) → r (.ref p) vs H Q) → chk B N l sc (.L es) = true →
      PE X (.Call (.Attribute o (meN m) apos) es [] cpos) (tE Y W (den (.meth m a l) P)) := by
    intro id r he hs ht hM hr hc
    subst he
    refine (pe_bm0 PySem.F.plainAttrs_list hs ht hM ha hb hline).mono fun σ H Q ⟨ρ, as, S, hρ, w, h⟩ => ?_
    unfold den at h
    refine post_bind (m := den a P) hρ w h fun d v S1 H1 as1 e1 w1 hρ1 r1 h1 => ?_
    have el : l = .nil := by cases l <;> first | rfl | cases (show false = true from hc)
    subst el
    cases r1 with
    | @cel i p h2 =>
      obtain ⟨ws, hw⟩ := w1.mem (.inl (List.mem_of_getElem? h2))
      exact ⟨.inl ⟨rfl, ws, .inl (.inl hw)⟩, hr w1 h2 .nil h1⟩
    | _ => exact h1.elim
  cases m with
  | append =>
    obtain ⟨e, he⟩ : ∃ e, es = [e] := by
      rcases es with _ | ⟨e, _ | ⟨e2, es⟩⟩ <;> first | exact ⟨_, rfl⟩ | cases hC
    refine one he PySem.F.slot_list_append PySem.F.type_list_append mt_append fun {H as S σ Q i p vs ds} w hi rs h => ?_
    obtain ⟨ys, ws, d, zs, hH, hz, rl, hm, q⟩ := meD_cases w hi h
    unfold meL at hm
    cases rs with
    | nil => cases hm
    | @cons d1 v1 ds vs r1 rs =>
      cases rs with
      | cons _ _ => cases hm
      | nil =>
        replace hm : (if ys.length < 16777216 then some (D.non, ys ++ [d1]) else none) = some (d, zs) := hm
        split at hm
        · rename_i hlt
          cases hm
          rw [rl.length] at hlt
          have hlt' : ws.length < sizeLine := by rw [slt]; exact hlt
          exact ⟨p, ws, v1, rfl, rfl, hH, hlt', q _ _ (by rw [List.length_append, List.length_singleton]; omega) (rl.append (.cons r1 .nil)) .non⟩
        · cases hm
  | pop =>
    have he : es = [] := by
      rcases es with _ | ⟨e, es⟩ <;> first | rfl | cases hC
    refine two he PySem.F.slot_list_pop PySem.F.type_list_pop mt_pop (fun {H as S σ Q i p vs ds} w hi rs h => ?_) hcl
    obtain ⟨ys, ws, d, zs, hH, hz, rl, hm, q⟩ := meD_cases w hi h
    unfold meL at hm
    cases rs with
    | cons _ _ => cases hm
    | nil =>
      replace hm : (match ys[ys.length - 1]? with
        | some y => some (y, ys.dropLast)
        | none => none) = some (d, zs) := hm
      cases e : ys[ys.length - 1]? with
      | none => rw [e] at hm; cases hm
      | some y =>
        rw [e] at hm
        cases hm
        obtain ⟨v, hv, rv⟩ := rl.get e
        rw [rl.length] at hv
        exact ⟨p, ws, v, rfl, rfl, hH, hv, q _ _ (by rw [List.length_dropLast]; omega) rl.dropLast rv⟩
  | popAt =>
    obtain ⟨e, he⟩ : ∃ e, es = [e] := by
      rcases es with _ | ⟨e, _ | ⟨e2, es⟩⟩ <;> first | exact ⟨_, rfl⟩ | cases hC
    refine one he PySem.F.slot_list_pop PySem.F.type_list_pop mt_popAt fun {H as S σ Q i p vs ds} w hi rs h => ?_
    obtain ⟨ys, ws, d, zs, hH, hz, rl, hm, q⟩ := meD_cases w hi h
    unfold meL at hm
    cases rs with
    | nil => cases hm
    | @cons d1 v1 ds vs r1 rs =>
      cases rs with
      | cons _ _ => cases r1 <;> cases hm
      | nil =>
        cases r1 with
        | int k =>
          replace hm : (if smallI k = true then (match ixN ys.length k with
            | some j => match ys[j]? with
              | some y => some (y, ys.eraseIdx j)
              | none => none
            | none => none) else none) = some (d, zs) := hm
          split at hm
          · rename_i hk
            obtain ⟨k1, k2⟩ := smallI_ok hk
            split at hm
            · rename_i j hj
              split at hm
              · rename_i y hy
                cases hm
                obtain ⟨v, hv, rv⟩ := rl.get hy
                rw [rl.length] at hj
                have hlen : (ws.eraseIdx j).length ≤ ws.length := by rw [List.length_eraseIdx]; split <;> omega
                exact ⟨p, ws, k, j, v, rfl, rfl, hH, by omega, by omega, (ixN_seq (ixN_L hj)).1, hv, q _ _ (Nat.le_trans hlen hz) (rl.erase j) rv⟩
              · cases hm
            · cases hm
          · cases hm
        | _ => cases hm
end
end Px
end

section
set_option Elab.async false
set_option linter.all false
set_option maxRecDepth 100000
set_option maxHeartbeats 1000000
/-! Px: x[::-1] of lists and tuples. -/
namespace Px
open PySem PySem.Spec PyProof.Rows L2
section
variable {prog : Program} {w : World} {A : Around} {E : Value → Shared → Prop} {s : Shared}
theorem rev_adjust (n : Nat) : Builtin.Slice.sliceAdjust none none (-1) (n : Int) = ((n : Int) - 1, -1) := by
  unfold Builtin.Slice.sliceAdjust
  have h1 : ((-1 : Int) < 0) := by decide
  simp [h1]
theorem rev_places (n : Nat) : Builtin.Slice.slicePlaces ((n : Int) - 1) (-1) (-1) = n := by
  unfold Builtin.Slice.slicePlaces
  have h1 : ¬ ((-1 : Int) > 0) := by decide
  simp only [h1, if_false, show (- -1 : Int) = 1 by decide, Int.ediv_one]
  split <;> omega
theorem rev_pick (xs : Array Value) : ((List.range xs.size).filterMap fun (m : Nat) => xs[((xs.size : Int) - 1 + (m : Int) * (-1)).toNat]?).toArray = xs.toList.reverse.toArray := by
  congr 1
  apply List.ext_getElem?
  intro i
  have e : ∀ m, m < xs.size → xs[((xs.size : Int) - 1 + (m : Int) * (-1)).toNat]? = some (xs.toList.reverse.getD m .none) := by
    intro m hm
    have h1 : ((xs.size : Int) - 1 + (m : Int) * (-1)).toNat = xs.size - 1 - m := by omega
    have h2 : xs.size - 1 - m < xs.size := by omega
    rw [h1, Array.getElem?_eq_getElem h2]
    congr 1
    rw [List.getD_eq_getElem?_getD, List.getElem?_reverse (by simpa using hm)]
    simp [h2]
  have e2 : ((List.range xs.size).filterMap fun (m : Nat) => xs[((xs.size : Int) - 1 + (m : Int) * (-1)).toNat]?) = (List.range xs.size).map fun m => xs.toList.reverse.getD m .none := by
    rw [← List.filterMap_eq_map]
    have gen : ∀ l : List Nat, (∀ m ∈ l, m < xs.size) → (l.filterMap fun (m : Nat) => xs[((xs.size : Int) - 1 + (m : Int) * (-1)).toNat]?) = l.filterMap (some ∘ fun m => xs.toList.reverse.getD m .none) := by
      intro l
      induction l with
      | nil => intro _; rfl
      | cons a l ih =>
        intro hl
        rw [List.filterMap_cons, List.filterMap_cons, e a (hl a List.mem_cons_self), ih fun m hm => hl m (List.mem_cons_of_mem _ hm)]
        rfl
    exact gen _ fun m hm => List.mem_range.mp hm
  rw [e2, List.getElem?_map]
  by_cases h : i < xs.size
  · rw [List.getElem?_range h]
    show some (xs.toList.reverse.getD i .none) = xs.toList.reverse[i]?
    rw [List.getD_eq_getElem?_getD, List.getElem?_eq_getElem (by simpa using h)]
    rfl
  · rw [List.getElem?_eq_none (by simpa using h), List.getElem?_eq_none (by simpa using h)]
    rfl
theorem rev_get {t sl : Addr} {items : Array Value} {vl vu vs : Value} {Q : Value → Shared → Prop} (ht : IsTup s.heap t items) (hs : s.heap.IsSliceOf sl vl vu vs) (pl : IsPart vl none) (pu : IsPart vu none) (pv : IsPart vs (some (-1)))
    (h : Q (.ref s.heap.objs.size) { s with heap := s.heap.push { cls := .type "tuple", data := .seq items.toList.reverse.toArray } }) (hsz : items.size ≤ sizeLine) : wpAny (model prog w) A (getItem (.ref t) (.ref sl)) Q E s := by
  have fits : sizeOk (.seq items.toList.reverse.toArray) := by
    show items.toList.reverse.toArray.size ≤ sizeLine
    rw [List.size_toArray, List.length_reverse, Array.length_toList]
    exact hsz
  obtain ⟨o2, g1, g2, g3⟩ := id hs
  have isS : s.TypeIs (.ref sl) "slice" := ⟨o2, g1, g2⟩
  unfold getItem
  refine wpAny_holding ?_
  refine wpAny_bind (wpAny_sequenceKey ht.typeIs (by decide) (wpAny_bind (wpAny_callSpecial?_slot (name := Str.ofString "__getitem__") ht.typeIs PyProof.Rows.slot_tuple_getitem
    (wpAny_call_entry PyProof.Rows.slot_tuple_getitem ht.typeIs entry_tuple_getitem ?_ (args_tuple_getitem _ _)))))
  show wpAny _ _ (Builtin.Tuple.tupleItemsOf (.ref t) >>= _) _ _ s
  refine wpAny_bind (tupleItemsOf_ ht (wpAny_bind (wpAny_typeOf isS ?_)))
  rw [if_pos (by decide)]
  have applied : ∀ {A : Around} {E : Value → Shared → Prop} {Q : Int × Int × Nat → Shared → Prop}, Q ((items.size : Int) - 1, -1, items.size) s → wpAny (model prog w) A (Builtin.Slice.sliceApplied (.ref sl) (pure (items.size : Int))) Q E s := by
    intro A E Q hq
    unfold Builtin.Slice.sliceApplied Builtin.Slice.sliceFields
    refine wpAny_bind (wpAny_bind (wpAny_field g1 g3 (x := vl) rfl (wpAny_bind (wpAny_field g1 g3 (x := vu) rfl (wpAny_bind (wpAny_field g1 g3 (x := vs) rfl (wpAny_pure ?_)))))))
    refine wpAny_bind (HT.slicePart_ pv ?_)
    show wpAny _ _ (if ((-1 : Int) == 0) = true then _ else _) _ _ s
    rw [if_neg (by decide)]
    refine wpAny_bind (HT.slicePart_ pl (wpAny_bind (HT.slicePart_ pu (wpAny_bind (wpAny_pure ?_)))))
    show wpAny _ _ (match Builtin.Slice.sliceAdjust none none (-1) (items.size : Int) with | (lo, hi) => pure (lo, (-1 : Int), Builtin.Slice.slicePlaces lo hi (-1))) _ _ s
    rw [rev_adjust]
    show wpAny _ _ (pure ((items.size : Int) - 1, (-1 : Int), Builtin.Slice.slicePlaces ((items.size : Int) - 1) (-1) (-1))) _ _ s
    rw [rev_places]
    exact wpAny_pure hq
  refine wpAny_bind (applied ?_)
  have notAll : ¬ ((((items.size : Int) - 1 == 0) && ((-1 : Int) == 1) && (items.size == items.size)) = true) := by
    intro q
    rw [Bool.and_eq_true, Bool.and_eq_true] at q
    exact absurd q.1.2 (by decide)
  show wpAny _ _ (if (((items.size : Int) - 1 == 0) && ((-1 : Int) == 1) && (items.size == items.size)) = true then _ else _) _ _ s
  rw [if_neg notAll, rev_pick]
  first
    | exact wpAny_bind (m := Builtin.Tuple.tupleExact _) (wpAny_newObj_type (wpAny_pure ⟨_, rfl, wpAny_pure h⟩) fits)
    | exact wpAny_bind (m := Builtin.Tuple.tupleExact _) (wpAny_newObj_type (wpAny_bind (wpAny_pure (wpAny_pure ⟨_, rfl, wpAny_pure h⟩))) fits)
    | exact wpAny_bind (wpAny_bind (m := Builtin.Tuple.tupleExact _) (wpAny_newObj_type (wpAny_pure (wpAny_pure ⟨_, rfl, wpAny_pure h⟩)) fits))
    | exact wpAny_bind (wpAny_bind (m := Builtin.Tuple.tupleExact _) (wpAny_newObj_type (wpAny_pure ⟨_, rfl, wpAny_pure h⟩) fits))
end
section
variable {X : Cx} {Y : Fx} {B : Tb} {N : List Str} {sc : Scope} {fnb : Str → Bool} {k : Nat} {W : WX} {P : PC}
def tRevA (K : PySem.W.Frag) (te : TE) : TE := fun σ H Q => te σ H fun x H1 => ∃ a xs, x = .ref a ∧ ((SqL K H1 a xs ∧ ∀ p, H1 p = none → Q (.ref p) (upd H1 p (.lst xs.reverse))) ∨ (SqT K H1 a xs ∧ xs.length ≤ sizeLine ∧ ∀ p, H1 p = none → Q (.ref p) (upd H1 p (.tup xs.reverse))))
theorem pe_revA {e : PySem.Expr} {te : TE} {j : Nat} {p1 p2 p3 pos : Pos} (he : PE X e te) : PE X (.Subscript e (.Slice none none (some (.UnaryOp .USub (.Constant (.int 1) j p1) p2)) p3) pos) (tRevA X.K te) := by
  refine ⟨fun pins s σ H Q I hw => ?_⟩
  refine Subscript_ (thn (he.run pins s σ H _ I hw) fun v s1 ⟨x, H1, I1, r1, a, xs, ex, q⟩ => ?_)
  subst ex
  cases r1
  have minus : PO X (some (.UnaryOp .USub (.Constant (.int 1) j p1) p2)) (tPart (tUn (rU fun i => .int (-i)) (tC (.int 1)))) := po_some (pe_un un_neg pe_int)
  refine wpAny_Slice (thn (po_none.run pins s1 σ H1 (fun o H2 => o = none ∧ H2 = H1) I1 ⟨rfl, rfl⟩) fun vl s2 ⟨l, H2, I2, pl, el, e2⟩ => thn (po_none.run pins s2 σ H2 (fun o H3 => o = none ∧ H3 = H2) I2 ⟨rfl, rfl⟩) fun vu s3 ⟨u, H3, I3, pu, eu, e3⟩ => ?_)
  subst el e2 eu e3
  refine thn (minus.run pins s3 σ H3 (fun o H4 => o = some (-1) ∧ H4 = H3) I3 ⟨1, rfl, -1, rfl, rfl, rfl⟩) fun vs s4 ⟨o, H4, I4, ps, eo, e4⟩ => ?_
  subst eo e4
  have I5 : Inv X pins σ H4 { s4 with heap := s4.heap.push { cls := .type "slice", data := .fields #[vl, vu, vs] } } := I4.kept (t' := s4.toks) fun _ _ z => Heap.get?_push_of_some _ z
  show wpAny (model X.prog X.w) X.A (subscriptTail e (.Slice none none (some (.UnaryOp .USub (.Constant (.int 1) j p1) p2)) p3) (.ref a) (.ref s4.heap.objs.size)) (EP X pins σ Q) X.xe { s4 with heap := s4.heap.push { cls := .type "slice", data := .fields #[vl, vu, vs] } }
  rcases q with ⟨hx, q⟩ | ⟨hx, hlen, q⟩
  · obtain ⟨its, r, ht, hz⟩ := I5.list hx
    have hl := r.length
    refine tail_any (ops := [.ref a, .ref s4.heap.objs.size]) ht.isList.typeIs (PySem.slot_list_getitem.lookup) ?_ (by with_unfolding_all rfl)
    refine wpAny_getItem_list_slice ht.isList (Heap.IsSliceOf.new _ vl vu vs) pl pu ps (by decide) ?_ (by rw [List.size_toArray]; omega)
    rw [PySem.W.krv_pick]
    exact ⟨.ref _, _, I5.laid (t' := s4.toks) (o := .lst xs.reverse) (fun _ _ z => Heap.get?_push_of_some _ z) (Nat.le_refl _) ⟨by rw [List.length_reverse]; exact hz, _, 0, r.reverse, Heap.get?_push_size _ rfl⟩, rfl, q _ (I5.hok.fresh (Nat.le_refl _))⟩
  · obtain ⟨its, r, ht, hz⟩ := I5.tuple hx
    have hl := r.length
    refine tail_any (ops := [.ref a, .ref s4.heap.objs.size]) ht.typeIs PyProof.Rows.slot_tuple_getitem.lookup ?_ (by with_unfolding_all rfl)
    refine rev_get ht (Heap.IsSliceOf.new _ vl vu vs) pl pu ps ?_ (by rw [List.size_toArray]; omega)
    exact ⟨.ref _, _, I5.laid (t' := s4.toks) (o := .tup xs.reverse) (fun _ _ z => Heap.get?_push_of_some _ z) (Nat.le_refl _) ⟨by rw [List.length_reverse]; exact hlen, its.reverse, r.reverse, ⟨_, Heap.get?_push_size _ rfl, rfl, 0, by simp⟩⟩, rfl, q _ (I5.hok.fresh (Nat.le_refl _))⟩
theorem RepL.rev {H : Hp} {as : Ad} {ds : List D} {vs : List V} (r : RepL Y H as ds vs) : RepL Y H as ds.reverse vs.reverse := by
  have gen : ∀ {ds : List D} {vs : List V} {es : List D} {us : List V}, RepL Y H as ds vs → RepL Y H as es us → RepL Y H as (ds.reverse ++ es) (vs.reverse ++ us) := by
    intro ds
    induction ds with
    | nil =>
      intro vs es us r q
      cases r
      exact q
    | cons d ds ih =>
      intro vs es us r q
      cases r with
      | cons r1 r2 =>
        rw [List.reverse_cons, List.reverse_cons, List.append_assoc, List.append_assoc]
        exact ih r2 (.cons r1 q)
  have z := gen r (RepL.nil (X := Y) (H := H) (as := as))
  rwa [List.append_nil, List.append_nil] at z
theorem e_rev (c : Cg X Y B N sc fnb k) {mu : Bool} {a : RE} {e : PySem.Expr} {j : Nat} {p1 p2 p3 pos : Pos} (ha : PE X e (tE Y W (den a P))) :
    PE X (.Subscript e (.Slice none none (some (.UnaryOp .USub (.Constant (.int 1) j p1) p2)) p3) pos) (tE Y W (den (.rev mu a) P)) := by
  refine (pe_revA ha).mono fun σ H Q ⟨ρ, as, S, hρ, w, h⟩ => ?_
  unfold den at h
  refine post_bind (m := den a P) hρ w h fun d v S1 H1 as1 e1 w1 hρ1 r1 h1 => ?_
  unfold revD at h1
  split at h1
  · cases r1 with
    | tup h2 z r =>
      rw [c.K]
      exact ⟨_, _, rfl, .inr ⟨h2, z, fun p np => tup_post w1 r.rev (by rw [List.length_reverse]; exact z) np h1⟩⟩
  · split at h1
    · rename_i xs e
      obtain ⟨b, vs, rfl, h2, z, r⟩ := lsR_rep w1 r1 e
      rw [c.K]
      exact ⟨_, _, rfl, .inl ⟨h2, fun p np => alloc_post w1 r.rev (by rw [List.length_reverse]; exact z) np h1⟩⟩
    · exact h1.elim
end
end Px
end

section
set_option Elab.async false
set_option linter.all false
set_option maxRecDepth 100000
set_option maxHeartbeats 3200000
/-! Px: set(a tuple of tuples of ints): the machine's side. -/
namespace Px
open PySem PySem.Spec PyProof.Rows L2
/-- a new set -/
abbrev newSet (w : World) : Obj := { cls := .type "set", dict := none, data := .set #[] 0 (.fresh 0 0 (!w.params.followText "set-order")) }
section
variable {P : Program} {w : World} {A : Around} {E : Value → Shared → Prop} {s : Shared}
theorem call_setT {t : Addr} {us : Array Value} (ks : List (Addr × List Int)) {Q : Value → Shared → Prop} (noExc : A.handled = none) (isT : s.heap.IsTuple t us) (refs : us.toList = ks.map fun p => Value.ref p.1)
    (own : ∀ p ∈ ks, IsT P w s.heap p.2 p.1) (few : ks.length < 64) (small : A.units + 3 < cLine)
    (fin : ∀ (h2 : Heap) (tk : Nat) L es ep tb, SetTR P w h2 s.heap.objs.size L es ep tb → Got ks ks.length L → (∀ b o, s.heap.get? b = some o → h2.get? b = some o) → Q (.ref s.heap.objs.size) { s with heap := h2, toks := tk }) :
    wpAny (model P w) A (PySem.call (.type "set") [.ref t]) Q E s := by
  have count : us.size = ks.length := by
    have q := congrArg List.length refs
    simpa using q
  obtain ⟨c0, tl0, mroEq⟩ := F.called_set.mro
  have made := F.called_set.made
  have subs := F.called_set.sub
  refine wpAny_call (codeAny_of_tree ?_)
  show wpAny _ _ (callAny (.type "set") _) _ _ _
  refine wpAny_pure ⟨Code.quiet_builtin _ (by decide +kernel), ?_⟩
  refine codeAny_builtin F.entry_type_call ?_
  rw [Around.under_plain (weight_type_call_type "set" [.ref t] []) rfl]
  have c1 := F.called_set.notType
  have c2 := F.called_set.canCreate
  have c3 := F.typeCall_set_1 (.ref t)
  repeat (any_goals (first | assumption | wp_step))
  refine codeAny_mono (code_set_led1 (.ref t) (E := E) (Q₁ := fun ob s₁ => ob = .ref s.heap.objs.size ∧ s₁ = { s with heap := s.heap.push (newSet w) }) ⟨rfl, rfl⟩) ?_
  intro r s₁ hr
  cases r with
  | error e => exact hr
  | ok fl =>
    cases fl with
    | ret ob =>
      obtain ⟨rfl, rfl⟩ := hr
      have atS : (s.heap.push (newSet w)).get? s.heap.objs.size = some (newSet w) := Heap.get?_push_size _ rfl
      have tyS : Shared.TypeIs { s with heap := s.heap.push (newSet w) } (.ref s.heap.objs.size) "set" := ⟨_, atS, rfl⟩
      have li := F.called_set.init.lookup
      have bi := F.called_set.init.bind (.ref s.heap.objs.size)
      repeat (any_goals (first | assumption | wp_step))
      refine codeAny_mono (codeAny_call_builtin (R := wants (fun r s₂ => r = .none ∧ ∃ h2 tk L es ep tb, s₂ = { s with heap := h2, toks := tk } ∧ SetTR P w h2 s.heap.objs.size L es ep tb ∧ Got ks ks.length L ∧ (∀ b o, s.heap.get? b = some o → h2.get? b = some o)) E)
        F.called_set.init.plain F.entry_set_init (check_set_init_1 tyS ?_)) ?_
      · obtain ⟨ob, hob, cob, nb, dob⟩ := isT
        obtain ⟨ocls, odict, odata, oslots⟩ := ob
        simp only at cob dob
        subst cob dob
        have hob2 : (s.heap.push (newSet w)).get? t = some { cls := .type "tuple", dict := odict, data := .seq us nb, slots := oslots } := Heap.get?_push_of_some _ hob
        have k1 := F.sub_tuple_set
        have k2 := F.sub_tuple_frozenset
        have k3 : (Value.type "tuple" == Value.type "dict") = false := by decide
        have isT1 : (s.heap.push (newSet w)).IsTuple t us := ⟨_, hob2, rfl, nb, rfl⟩
        unfold Builtin.«set.__init__» noKeywords Builtin.Frozenset.updateFrom
        generalize hPI : pyIter = PI
        wp_walk
        subst hPI
        refine wpAny_pyIter_tuple isT1 (wpAny_bind (wpAny_runValue ?_))
        have below : t < s.heap.objs.size := Heap.lt_size hob
        have noExc3 : A.in1.in1.in1.handled = none := by simp [noExc]
        have apart : t ≠ (s.heap.push (newSet w)).objs.size := by
          rw [Heap.size_push]
          exact Nat.ne_of_lt (Nat.lt_succ_of_lt below)
        have out : s.heap.objs.size ∉ [(s.heap.push (newSet w)).objs.size, t] := by
          rw [Heap.size_push]
          simp
          exact fun z => Nat.lt_irrefl _ (Nat.lt_of_lt_of_eq below z)
        have each : ∀ (i : Nat) (v : Value), us[i]? = some v → ∃ p, ks[i]? = some p ∧ v = .ref p.1 := by
          intro i v hv
          rw [← Array.getElem?_toList, refs, List.getElem?_map] at hv
          cases hq : ks[i]? with
          | none => rw [hq] at hv; cases hv
          | some p =>
            rw [hq] at hv
            exact ⟨p, rfl, (Option.some.inj hv).symm⟩
        have new_of : ∀ b, s.heap.objs.size ≤ b → s.heap.get? b = none := fun b hb => by
          cases q : s.heap.get? b with
          | none => rfl
          | some o => exact absurd (Heap.lt_size q) (Nat.not_lt.mpr hb)
        refine set_update_tups ((Walks.tuple noExc3 _ t apart us).toS) s.heap.objs.size out ks count few each s.heap own (new_of _ (Nat.le_refl _)) ?_ small (us.size - 0) 0 _ (by omega) (Nat.zero_le _) ?_ ?_ ?_ ?_
        · intro b hb
          rw [List.mem_singleton.mp hb, Heap.size_push]
          exact new_of _ (Nat.le_succ _)
        · exact ⟨⟨_, Heap.get?_push_size _ rfl, rfl, rfl⟩, isT1.push _⟩
        · exact fun b o e => Heap.get?_push_of_some _ (Heap.get?_push_of_some _ e)
        · exact ⟨[], #[], 0, _, setTR_fresh (Heap.get?_push_of_some _ atS), Got.zero ks⟩
        · intro s2 L es ep tb hm hS hg hk
          obtain ⟨h2, g2, d2, tk, o2⟩ := s2
          obtain rfl : g2 = s.gens := hm.gens
          obtain rfl : d2 = s.drawn := hm.drawn
          obtain rfl : o2 = s.os := hm.os
          show wpAny _ _ _ _ _ _
          refine wpAny_pure ?_
          show wpAny _ _ (ret Value.none) _ _ _
          rw [count] at hg
          exact wpAny_pure ⟨rfl, h2, tk, L, es, ep, tb, rfl, hS, hg, hk⟩
      · intro r₂ s₂ hr₂
        cases r₂ with
        | error e => exact hr₂
        | ok fl₂ =>
          cases fl₂ with
          | ret r =>
            obtain ⟨rfl, h2, tk, L, es, ep, tb, rfl, hS, hg, hk⟩ := hr₂
            repeat (any_goals (first | assumption | wp_step))
            exact fin _ _ _ _ _ _ hS hg hk
          | _ => exact hr₂.elim
    | _ => exact hr.elim
end
end Px
end

section
set_option Elab.async false
set_option linter.all false
set_option maxRecDepth 100000
set_option maxHeartbeats 1000000
/-! Px: len(set(a tuple of tuples of ints)). -/
namespace Px
open PySem PySem.Spec PyProof.Rows L2
/-! ### the number of the unlike -/
theorem countD_len : ∀ (ks : List (List Int)) (us : List (List Int)), us.Nodup → (∀ k ∈ us, k ∈ ks) → (∀ k ∈ ks, k ∈ us) → us.length = countD ks
  | [], us, _, h, _ => by
    cases us with
    | nil => rfl
    | cons u us => exact absurd (h u List.mem_cons_self) (by simp)
  | k :: ks, us, nd, h1, h2 => by
    by_cases m : k ∈ ks
    · rw [countD, if_pos m]
      refine countD_len ks us nd (fun x hx => ?_) fun x hx => h2 x (List.mem_cons_of_mem _ hx)
      rcases List.mem_cons.mp (h1 x hx) with e | e
      · rw [e]; exact m
      · exact e
    · rw [countD, if_neg m]
      have hk : k ∈ us := h2 k List.mem_cons_self
      have e := countD_len ks (us.erase k) (nd.erase k) (fun x hx => ?_) fun x hx => ?_
      · rw [← e, List.length_erase_of_mem hk]
        have := List.length_pos_of_mem hk
        omega
      · rcases List.mem_cons.mp (h1 x (List.mem_of_mem_erase hx)) with e | e
        · subst e
          exact absurd hx (nd.not_mem_erase)
        · exact e
      · refine (nd.mem_erase_iff).mpr ⟨fun e => m (e ▸ hx), h2 x (List.mem_cons_of_mem _ hx)⟩
section
variable {X : Cx}
def rSet (K : PySem.W.Frag) (P : Program) (w : World) : List V → Hp → VK → Prop := fun vs H Q => ∃ (t : Addr) (ks : List (Addr × List Int)), vs = [V.ref t] ∧ SqT K H t (ks.map fun p => V.ref p.1) ∧ (∀ p ∈ ks, SqT K H p.1 (p.2.map V.int)) ∧ ks.length < 64 ∧
  ∀ a L, H a = none → (L.map (·.2)).Nodup → (∀ p ∈ L, p ∈ ks) → (∀ p ∈ ks, p.2 ∈ L.map (·.2)) → Q (.ref a) (upd H a (SetTO P w a L))
theorem call_setR (hc : X.calm = true) (hu : X.A.units + 64 < cLine) : CallR X (.type "set") (rSet X.K X.prog X.w) := by
  intro pins s σ H xs us Q I r h
  obtain ⟨t, ks, rfl, hl, hk, hf, q⟩ := h
  rw [Vals.ref1 r]
  obtain ⟨its, rv, isT, hz⟩ := I.tuple hl
  have fresh : H s.heap.objs.size = none := I.hok.fresh (Nat.le_refl _)
  refine call_setT (P := X.prog) (w := X.w) ks (I.ok.hd hc) isT (by simpa using refs_of_vals rv) (fun p hp => I.isT (hk p hp)) hf (by omega) fun h' tk L es ep tb R g k => ?_
  have sub : ∀ p ∈ L, p ∈ ks := fun p hp => List.mem_of_mem_take (g.sub p hp)
  have all : ∀ p ∈ ks, p.2 ∈ L.map (·.2) := fun p hp => g.all p (by rw [List.take_length]; exact hp)
  exact ⟨.ref s.heap.objs.size, upd H s.heap.objs.size (SetTO X.prog X.w s.heap.objs.size L), I.laid (t' := tk) k (Nat.le_refl _) (setTO_new R.t0), rfl, q _ L fresh R.nd sub all⟩
def rLenS (K : PySem.W.Frag) (P : Program) (w : World) : List V → Hp → VK → Prop := fun vs H Q => ∃ (a : Addr) (L : List (Addr × List Int)), vs = [V.ref a] ∧ H a = some (SetTO P w a L) ∧ (∀ p ∈ L, SqT K H p.1 (p.2.map V.int)) ∧ Q (.int L.length) H
theorem call_lenS : CallR X (.builtin "len") (rLenS X.K X.prog X.w) := by
  intro pins s σ H xs us Q I r h
  obtain ⟨a, L, rfl, ha, hk, q⟩ := h
  rw [Vals.ref1 r]
  have st : SetT0 X.prog X.w s.heap a L := (I.hok a _ ha).1
  obtain ⟨es, ep, tb, R⟩ := st.full fun p hp => I.isT (hk p hp)
  obtain ⟨o, ho, hex, hd⟩ := R.ob
  have sz := R.size
  have few := R.few
  refine call_len_set ho hex hd R.fits (by rw [sz]; omega) ⟨.int L.length, H, I.tok _, ⟨_, by rw [sz]⟩, q⟩
end
section
variable {X : Cx} {Y : Fx} {B : Tb} {N : List Str} {sc : Scope} {fnb : Str → Bool} {k : Nat} {W : WX} {P : PC}
/-- the items of a tuple of tuples of ints -/
theorem rows_rep {H : Hp} {as : Ad} : ∀ {ds : List D} {vs : List V} {ks : List (List Int)}, RepL Y H as ds vs → mapO intsO ds = some ks → ∃ L : List (Addr × List Int), vs = L.map (fun p => V.ref p.1) ∧ L.map (·.2) = ks ∧ ∀ p ∈ L, SqT Y.K H p.1 (p.2.map V.int)
  | _, _, ks, .nil, e => by
    cases e
    exact ⟨[], rfl, rfl, fun p hp => by cases hp⟩
  | _, _, ks, .cons (d := d) (ds := ds) r t, e => by
    rw [mapO] at e
    split at e
    · rename_i y ys e1 e2
      cases e
      obtain ⟨L, h1, h2, h3⟩ := rows_rep t e2
      cases d with
      | tup xs =>
        cases r with
        | @tup a vs' _ hq _ rl =>
          have := ints_rep rl e1
          refine ⟨(a, y) :: L, by rw [h1]; rfl, by rw [List.map_cons, h2], fun p hp => ?_⟩
          rcases List.mem_cons.mp hp with e | hp
          · rw [e, ← this]
            exact hq
          · exact h3 p hp
      | _ => cases e1
    · cases e
theorem e_lset (c : Cg X Y B N sc fnb k) {a : RE} {x y : Str} {q q2 p2 p : Pos} {e1 : PySem.Expr} (h : (eqS x "len" && (glB sc x && (memS x B.free && (eqS y "set" && (glB sc y && (memS y B.free && plainE e1)))))) = true)
    (ha : PE X e1 (tE Y W (den a P))) : PE X (.Call (.Name x q) [.Call (.Name y q2) [e1] [] p2] [] p) (tE Y W (den (.lset a) P)) := by
  rw [Bool.and_eq_true, Bool.and_eq_true, Bool.and_eq_true, Bool.and_eq_true, Bool.and_eq_true, Bool.and_eq_true] at h
  obtain ⟨h1, h2, h3, h4, h5, h6, h7⟩ := h
  have ex : x = "len" := of_decide_eq_true h1
  have ey : y = "set" := of_decide_eq_true h4
  subst ex ey
  have mf := c.tb.free _ (memS_ok h3)
  have sf := c.tb.free _ (memS_ok h6)
  have hu := c.hu
  have hst := star_cons h7 [] X.env
  have inner := pe_callTy (p := q2) (call_setR c.calm (by omega)) (c.gl h5) sf (by rfl) (pa_cons ha pa_nil hst) (pos := p2) (by decide) (by decide) hst rfl
  refine (pe_callB call_lenS (c.gl h2) mf (by rfl) (pa_cons inner pa_nil (star_cons rfl _ _)) (by decide) (by decide) (star_cons rfl _ _) rfl).mono fun σ H Q ⟨ρ, as, S, hρ, w, h⟩ => ?_
  unfold den at h
  refine post_bind (m := den a P) hρ w h fun d v S1 H1 as1 ex w1 hρ1 r1 h1 => ?_
  replace h1 : Post Y H1 as1 σ W (match (generalizing := false) d with
    | .tup xs => match mapO intsO xs with
      | some ks => if Nat.ble ks.length 63 = true then .ok (.int (countD ks : Nat)) S1 else .bad
      | none => .bad
    | _ => .bad) (zE Y Q) := h1
  split at h1
  · split at h1
    · split at h1
      · rename_i xs ks e hl
        cases r1 with
        | @tup a' vs' _ hq _ rl =>
          obtain ⟨L, e1, e2, e3⟩ := rows_rep rl e
          subst e1
          have hl := Nat.le_of_ble_eq_true hl
          have len : L.length = ks.length := by rw [← e2, List.length_map]
          refine ⟨a', L, rfl, by rw [c.K]; exact hq, fun p hp => by rw [c.K]; exact e3 p hp, by omega, fun s L2 fresh nd sub all => ?_⟩
          have ex2 : Ext H1 as1 (upd H1 s (SetTO X.prog X.w s L2)) as1 := Ext.new fresh
          have cnt : L2.length = countD ks := by
            rw [← countD_len ks (L2.map (·.2)) nd (fun x hx => ?_) fun x hx => ?_, List.length_map]
            · obtain ⟨p, hp, rfl⟩ := List.mem_map.mp hx
              rw [← e2]
              exact List.mem_map.mpr ⟨p, sub p hp, rfl⟩
            · rw [← e2] at hx
              obtain ⟨p, hp, rfl⟩ := List.mem_map.mp hx
              exact all p hp
          refine ⟨s, L2, rfl, upd_same, fun p hp => by rw [c.K]; exact ex2.tup (e3 p (sub p hp)), ?_⟩
          rw [cnt]
          exact now (w1.new fresh) (Post.ext h1 ex2) (.int _)
      · exact h1.elim
    · exact h1.elim
  · exact h1.elim
end
end Px
end

section
set_option Elab.async false
set_option linter.all false
set_option maxRecDepth 100000
set_option maxHeartbeats 1000000
/-! Px: a lambda handed to a def that tries it. -/
namespace Px
open PySem PySem.Spec PyProof.Rows L2
section
variable {X : Cx} {Y : Fx} {B : Tb} {N : List Str} {sc : Scope} {fnb : Str → Bool} {k : Nat} {W : WX} {P : PC}
theorem lamc_post {c' : Nat → List D → M D} {n : Nat} {t : Td} {a : RE} {σ : L2.St} {H : Hp} {Q : VK} (hP : P.low = some c') (h : tE Y W (den (.lamc n t a) P) σ H Q) :
    LamX.tLam Y.T (tdTT Y t) (fun E => tE Y (fun cls d _ H => E cls d H) (den a ⟨c', none⟩)) σ H Q := by
  obtain ⟨ρ, as, S, hρ, w, h⟩ := h
  have e0 : den (.lamc n t a) P ρ S = tdR t (den a ⟨c', none⟩ ρ S) := by
    show (match P.low with
      | some c => tdR t (den a ⟨c, none⟩ ρ S)
      | none => .bad) = _
    rw [hP]
  rw [e0] at h
  refine ⟨w.tabs, fun H1 eN tN => ?_⟩
  have ex := Ext.ofN (as := as) eN
  refine ⟨ρ, as, S, hρ.ext ex, w.ofN eN tN, ?_⟩
  cases e : den a ⟨c', none⟩ ρ S with
  | bad => rw [e] at h; exact h
  | ok d S1 =>
    rw [e] at h
    exact fun H2 as2 e2 w2 v r u hu => h H2 as2 (ex.trans e2) w2 u (cvD_rep hu H2 as2)
  | exc c S1 =>
    rw [e] at h
    replace h : Post Y H as σ W (match tdAt t.at_ c with
      | some d => .ok d S1
      | none => .bad) (zE Y Q) := h
    cases q : tdAt t.at_ c with
    | none => rw [q] at h; exact h.elim
    | some d =>
      rw [q] at h
      exact fun H2 as2 e2 w2 => ⟨c, d, rfl, q, fun u hu => h H2 as2 (ex.trans e2) w2 u (cvD_rep hu H2 as2)⟩
theorem noArgs_ok {p : Arguments} (h : noArgs p = true) : p = ⟨[], [], none, [], [], none, []⟩ := by
  obtain ⟨po, ar, va, ko, kd, kw, df⟩ := p
  simp only [noArgs, Bool.and_eq_true, List.isEmpty_iff, Option.isNone_iff_eq_none] at h
  obtain ⟨h1, h2, h3, h4, h5, h6, h7⟩ := h
  rw [h1, h2, h3, h4, h5, h6, h7]
theorem e_lamc (c : Cg X Y B N sc fnb k) (hC : CallsOk X Y B P k) {n : Nat} {t : Td} {a : RE} {x : Str} {ps : Arguments} {e : PySem.Expr} {scope : Scope} {q p2 p : Pos}
    (h : (B.lam && (glB sc x && (nodbg x && (tdB B n x t && (noArgs ps && LamX.lamSB sc scope))))) = true)
    (ih : ∀ {X' : Cx} {fnb' : Str → Bool} {W' : WX} {k' : Nat} {P' : PC}, Cg X' Y B N scope fnb' k' → Takes X' W' → CallsOk X' Y B P' k' → PE X' e (tE Y W' (den a P'))) :
    PE X (.Call (.Name x q) [.Lambda ps e scope p2] [] p) (tE Y W (den (.lamc n t a) P)) := by
  simp only [Bool.and_eq_true] at h
  obtain ⟨h1, h2, h3, h4, h5, h6⟩ := h
  cases hP : P.low with
  | none =>
    refine ⟨fun pins s σ H Q I hq => ?_⟩
    obtain ⟨ρ, as, S, hρ, w, hq⟩ := hq
    have e0 : den (.lamc n t a) P ρ S = .bad := by
      show (match P.low with
        | some c => tdR t (den a ⟨c, none⟩ ρ S)
        | none => .bad) = _
      rw [hP]
    rw [e0] at hq
    exact hq.elim
  | some c' =>
    obtain ⟨j, ej, hfn, hmk⟩ := hC.low c' hP
    obtain ⟨cd, TP, TB, hcode, hmT, hu⟩ := hmk h1
    obtain ⟨g, b, pg, bg, sg, dV, kV, doc, pm, cdv, ct, oc, an, od, osl, Ng, f1, f2, f3, f4, f5, f6, f7, f8, f9, f10⟩ := (c.tb.td n x t (tdB_ok h4)).ex
    obtain ⟨d1, d2⟩ := nodbg_ok h3
    obtain ⟨d3, d4⟩ := nodbg_ok f9
    have L : LamX.LamS X.env.scope scope := by rw [c.sc]; exact LamX.lamS_by h6
    have ea := noArgs_ok h5
    subst ea
    rw [← c.K] at f2 f3 f4 f5
    refine (LamX.pe_lamcall (t := fun E => tE Y (fun cls d _ H => E cls d H) (den a ⟨c', none⟩)) (TT := tdTT Y t) (c.gl h2) f1 f2 f3 f4 f5 f6 f7 f8 (f10 X _ c.K rfl) TB hcode hmT hu (ej ▸ c.room) L rfl (fun _ _ _ _ _ => rfl) (fun A outer s H E f cc hr => ?_) d1 d3 d4).mono fun σ H Q h => lamc_post hP h
    have c2 : Cg (LamX.lamCx X A outer s H E scope f cc) Y B N scope (fun _ => false) j := ⟨rfl, c.n, c.nd, rfl, c.K, rfl, hr, PassesOwn.leaving, c.tb⟩
    exact ih c2 (takes_of rfl rfl rfl rfl) ⟨hfn, fun c z => by cases z⟩
end
end Px
end

section
set_option Elab.async false
set_option linter.all false
set_option maxRecDepth 100000
set_option maxHeartbeats 4000000
/-! Px: every expression that the checker takes, by its meaning. -/
namespace Px
open PySem PySem.Spec PyProof.Rows L2
section
variable {X : Cx} {Y : Fx} {B : Tb} {N : List Str} {sc : Scope} {fnb : Str → Bool} {k : Nat} {W : WX} {P : PC}
theorem Post.toF {H : Hp} {as : Ad} {σ : L2.St} {W W' : WX} {Z : D → Hp → Ad → Prop} {d : D} {S : Sto} (h : Post Y H as σ W (.ok d S) Z) : Post Y H as σ W' (.ok d S) Z := h
/-- a comprehension's wish -/
theorem comp_post {mu : Bool} {elt : RE} {own : List Nat} {tg : Tg} {it cond : RE} {σ : L2.St} {H : Hp} {Q : VK} (hown : tgIn tg own = true) (h : tE Y W (den (.comp mu elt own tg it cond) P) σ H Q) :
    tLc (tI Y W (den it P)) (gT Y tg) (tT Y (fun _ _ _ _ => False) (den cond P)) (tE Y (fun _ _ _ _ => False) (den elt P)) own σ H Q := by
  obtain ⟨ρ, as, S, hρ, w, h⟩ := h
  refine ⟨ρ, as, S, hρ, w, ?_⟩
  replace h : Post Y H as σ W ((den it P ρ S).bind (compZ (itemZ (den cond P) (den elt P) own tg ρ) mu)) (zE Y Q) := h
  cases e : den it P ρ S with
  | bad => rw [e] at h; exact h
  | exc c s => rw [e] at h; exact h
  | ok d S1 =>
    rw [e] at h
    refine fun H1 as1 ex w1 => ?_
    have h1 : Post Y H1 as1 σ W (compZ (itemZ (den cond P) (den elt P) own tg ρ) mu d S1) (zE Y Q) := Post.ext h ex
    cases d with
    | lst xs =>
      refine ⟨_, rfl, fun J wk => ?_⟩
      replace h1 : Post Y H1 as1 σ W (if fit xs.length = true then (compL (itemZ (den cond P) (den elt P) own tg ρ) xs [] S1).bind fun ys s => allocL mu ys s else .bad) (zE Y Q) := h1
      split at h1
      · rename_i hf
        have e2 := compL_M (f := itemZ (den cond P) (den elt P) own tg ρ) (xs := xs) xs.length 0 [] S1 (by omega)
        rw [List.drop_zero] at e2
        rw [e2] at h1
        exact comp_run hown (hρ.ext ex) w1 wk hf h1
      · exact h1.elim
    | cel i =>
      refine ⟨_, rfl, fun J wk => ?_⟩
      replace h1 : Post Y H1 as1 σ W (match (generalizing := false) (fun S : Sto => S[i]?) S1 with
        | some xs => if fit xs.length = true then (compM (itemZ (den cond P) (den elt P) own tg ρ) (fun S : Sto => S[i]?) xs.length 0 [] S1).bind fun ys s => allocL mu ys s else .bad
        | none => .bad) (zE Y Q) := h1
      split at h1
      · split at h1
        · rename_i hf
          exact comp_run hown (hρ.ext ex) w1 wk hf h1
        · exact h1.elim
      · exact h1.elim
    | zc i ys =>
      refine ⟨_, rfl, fun J wk => ?_⟩
      replace h1 : Post Y H1 as1 σ W (match (generalizing := false) (fun S : Sto => match S[i]? with
          | some xs => some (zipL xs ys)
          | none => none) S1 with
        | some xs => if fit xs.length = true then (compM (itemZ (den cond P) (den elt P) own tg ρ) (fun S : Sto => match S[i]? with
          | some xs => some (zipL xs ys)
          | none => none) xs.length 0 [] S1).bind fun ys s => allocL mu ys s else .bad
        | none => .bad) (zE Y Q) := h1
      split at h1
      · split at h1
        · rename_i hf
          exact comp_run hown (hρ.ext ex) w1 wk hf h1
        · exact h1.elim
      · exact h1.elim
    | _ => exact h1.elim
/-- the context of a block -/
theorem Cg.blk (c : Cg X Y B N sc fnb k) {scope : Scope} (s : Shared) (H : Hp) (C : Addr) (cl : List (Str × Addr)) (fp : List Addr) : Cg (X.blk s H scope (compEnvC scope cl C X.env) fp) Y B N (relS scope sc) (blkFn scope) k where
  calm := c.calm
  n := c.n
  nd := c.nd
  sc := by rw [← c.sc]; rfl
  K := c.K
  fnb := rfl
  room := c.room
  pass := PassesOwn.never
  tb := c.tb
theorem CallsOk.blk (h : CallsOk X Y B P k) {scope : Scope} (s : Shared) (H : Hp) (C : Addr) (cl : List (Str × Addr)) (fp : List Addr) : CallsOk (X.blk s H scope (compEnvC scope cl C X.env) fp) Y B P k := ⟨h.fn, h.low⟩

/-- what a tree of ours is good for -/
structure Rules (X : Cx) (Y : Fx) (B : Tb) (N : List Str) (sc : Scope) (W : WX) (P : PC) (r : RE) : Prop where
  E : ∀ e, chk B N r sc (.E e) = true → PE X e (tE Y W (den r P))
  T : ∀ e, tst r = true → chk B N r sc (.E e) = true → PT X e (tT Y W (den r P))
  Wb : ∀ o es p, tst r = true → chk B N r sc (.E (.BoolOp o es p)) = true → PW X (.BoolOp o es p) (tT Y W (den r P))
  L : ∀ es, chk B N r sc (.L es) = true → PA X es (tAs Y W (den r P))
  I : ∀ tg e, chk B N r sc (.I tg e) = true → PI X tg e (tI Y W (den r P))
theorem noF {α : Prop} (h : false = true) : α := absurd h Bool.false_ne_true

/-- a value rule is a rule for tests too -/
theorem Rules.ofE {r : RE} (hE : ∀ e, chk B N r sc (.E e) = true → PE X e (tE Y W (den r P)) ∧ ∀ whole, isTrue e X.env whole = (do let v ← whole; standAt e.pos; holding [v] (truthy v)))
    (hW : ∀ o es p, chk B N r sc (.E (.BoolOp o es p)) = false) (hL : ∀ es, chk B N r sc (.L es) = false) (hI : ∀ tg e, chk B N r sc (.I tg e) = false) : Rules X Y B N sc W P r where
  E := fun e h => (hE e h).1
  T := fun e _ h => t_val (hE e h).1 (hE e h).2
  Wb := fun o es p _ h => noF ((hW o es p).symm.trans h)
  L := fun es h => noF ((hL es).symm.trans h)
  I := fun tg e h => noF ((hI tg e).symm.trans h)
theorem Rules.ofI {r : RE} (hI : ∀ tg e, chk B N r sc (.I tg e) = true → PI X tg e (tI Y W (den r P))) (hE : ∀ e, chk B N r sc (.E e) = false) (hL : ∀ es, chk B N r sc (.L es) = false) : Rules X Y B N sc W P r where
  E := fun e h => noF ((hE e).symm.trans h)
  T := fun e _ h => noF ((hE e).symm.trans h)
  Wb := fun o es p _ h => noF ((hE _).symm.trans h)
  L := fun es h => noF ((hL es).symm.trans h)
  I := hI
theorem Rules.ofL {r : RE} (hL : ∀ es, chk B N r sc (.L es) = true → PA X es (tAs Y W (den r P))) (hE : ∀ e, chk B N r sc (.E e) = false) (hI : ∀ tg e, chk B N r sc (.I tg e) = false) : Rules X Y B N sc W P r where
  E := fun e h => noF ((hE e).symm.trans h)
  T := fun e _ h => noF ((hE e).symm.trans h)
  Wb := fun o es p _ h => noF ((hE _).symm.trans h)
  L := hL
  I := fun tg e h => noF ((hI tg e).symm.trans h)
theorem mk2 {a b : Bool} (h : a = true) (k : b = true) : (a && b) = true := by rw [h, k]; rfl
theorem and2 {a b : Bool} (h : (a && b) = true) : a = true ∧ b = true := by rwa [Bool.and_eq_true] at h

theorem rules (r : RE) : ∀ {X : Cx} {sc : Scope} {fnb : Str → Bool} {W : WX} {k : Nat} {P : PC}, Cg X Y B N sc fnb k → Takes X W → CallsOk X Y B P k → Rules X Y B N sc W P r := by
  induction r with
  | var i =>
    intro X sc fnb W k P c tk hC
    refine .ofE (fun e h => ?_) (fun _ _ _ => rfl) (fun es => by cases es <;> rfl) (fun _ _ => rfl)
    obtain ⟨x, p, rfl, h⟩ := inv_var h
    exact ⟨e_var c h, fun _ => rfl⟩
  | c d =>
    intro X sc fnb W k P c tk hC
    refine .ofE (fun e h => ?_) (fun _ _ _ => rfl) (fun es => by cases es <;> rfl) (fun _ _ => rfl)
    cases e with
    | Constant j n p => exact ⟨e_const h, fun _ => rfl⟩
    | Name x p => exact ⟨e_cst c h, fun _ => rfl⟩
    | _ => exact noF h
  | gl n =>
    intro X sc fnb W k P c tk hC
    refine .ofE (fun e h => ?_) (fun _ _ _ => rfl) (fun es => by cases es <;> rfl) (fun _ _ => rfl)
    obtain ⟨x, p, rfl, h⟩ := inv_gl h
    exact ⟨e_gl c h, fun _ => rfl⟩
  | nil =>
    intro X sc fnb W k P c tk hC
    refine .ofL (fun es h => ?_) (fun e => by cases e <;> rfl) (fun _ _ => rfl)
    cases es with
    | nil => exact a_nil
    | cons _ _ => exact noF h
  | cons a r iha ihr =>
    intro X sc fnb W k P c tk hC
    refine .ofL (fun es h => ?_) (fun e => by cases e <;> rfl) (fun _ _ => rfl)
    cases es with
    | nil => exact noF h
    | cons e es =>
      obtain ⟨h1, h2⟩ := and2 (show (plainE e && (chk B N a sc (.E e) && chk B N r sc (.L es))) = true from h)
      obtain ⟨h2, h3⟩ := and2 h2
      exact a_cons h1 ((iha c tk hC).E e h2) ((ihr c tk hC).L es h3)
  | tup l ih =>
    intro X sc fnb W k P c tk hC
    refine .ofE (fun e h => ?_) (fun _ _ _ => rfl) (fun es => by cases es <;> rfl) (fun _ _ => rfl)
    obtain ⟨es, n, p, rfl, h⟩ := inv_tup h
    obtain ⟨h1, h2⟩ := and2 h
    exact ⟨e_tup h2 h1 ((ih c tk hC).L es h2), fun _ => rfl⟩
  | lst mu l ih =>
    intro X sc fnb W k P c tk hC
    refine .ofE (fun e h => ?_) (fun _ _ _ => rfl) (fun es => by cases es <;> rfl) (fun _ _ => rfl)
    obtain ⟨es, p, rfl, h⟩ := inv_lst h
    obtain ⟨h1, h2⟩ := and2 h
    exact ⟨e_lst h2 h1 ((ih c tk hC).L es h2), fun _ => rfl⟩
  | bin op mu a b iha ihb =>
    intro X sc fnb W k P c tk hC
    refine .ofE (fun e h => ?_) (fun _ _ _ => rfl) (fun es => by cases es <;> rfl) (fun _ _ => rfl)
    obtain ⟨x, o, y, p, rfl, h⟩ := inv_bin h
    obtain ⟨h1, h2⟩ := and2 h
    obtain ⟨h2, h3⟩ := and2 h2
    exact ⟨e_bin c h1 ((iha c tk hC).E x h2) ((ihb c tk hC).E y h3), fun _ => rfl⟩
  | neg a ih =>
    intro X sc fnb W k P c tk hC
    refine .ofE (fun e h => ?_) (fun _ _ _ => rfl) (fun es => by cases es <;> rfl) (fun _ _ => rfl)
    obtain ⟨x, p, rfl, h⟩ := inv_neg h
    exact ⟨e_neg ((ih c tk hC).E x h), fun _ => rfl⟩
  | cmp op a b iha ihb =>
    intro X sc fnb W k P c tk hC
    refine ⟨fun e h => ?_, fun e _ h => ?_, fun _ _ _ _ h => noF h, fun es h => by cases es <;> exact noF h, fun _ _ h => noF h⟩
    · obtain ⟨x, o, y, p, rfl, h⟩ := inv_cmp h
      obtain ⟨h1, h2⟩ := and2 h
      obtain ⟨h2, h3⟩ := and2 h2
      obtain ⟨h3, h4⟩ := and2 h3
      exact e_cmp c h1 h2 ((iha c tk hC).E x h3) ((ihb c tk hC).E y h4)
    · obtain ⟨x, o, y, p, rfl, h⟩ := inv_cmp h
      obtain ⟨h1, h2⟩ := and2 h
      obtain ⟨h2, h3⟩ := and2 h2
      obtain ⟨h3, h4⟩ := and2 h3
      exact t_cmp c h1 h2 ((iha c tk hC).E x h3) ((ihb c tk hC).E y h4)
  | chain o1 o2 a b d iha ihb ihd =>
    intro X sc fnb W k P c tk hC
    refine ⟨fun e h => ?_, fun e _ h => ?_, fun _ _ _ _ h => noF h, fun es h => by cases es <;> exact noF h, fun _ _ h => noF h⟩
    · obtain ⟨x, p1, p2, y, z, p, rfl, h⟩ := inv_chain h
      obtain ⟨h1, h⟩ := and2 h
      obtain ⟨h2, h⟩ := and2 h
      obtain ⟨h3, h⟩ := and2 h
      obtain ⟨h4, h⟩ := and2 h
      obtain ⟨h5, h6⟩ := and2 h
      exact e_chain c h1 h2 h3 ((iha c tk hC).E x h4) ((ihb c tk hC).E y h5) ((ihd c tk hC).E z h6)
    · obtain ⟨x, p1, p2, y, z, p, rfl, h⟩ := inv_chain h
      obtain ⟨h1, h⟩ := and2 h
      obtain ⟨h2, h⟩ := and2 h
      obtain ⟨h3, h⟩ := and2 h
      obtain ⟨h4, h⟩ := and2 h
      obtain ⟨h5, h6⟩ := and2 h
      exact t_chain c h1 h2 h3 ((iha c tk hC).E x h4) ((ihb c tk hC).E y h5) ((ihd c tk hC).E z h6)
  | and a b iha ihb =>
    intro X sc fnb W k P c tk hC
    have hw : ∀ e, tst (.and a b) = true → chk B N (.and a b) sc (.E e) = true → PW X e (tT Y W (den (.and a b) P)) := by
      intro e ht h
      obtain ⟨t1, t2⟩ := and2 (show (tst a && tst b) = true from ht)
      obtain ⟨x, y, rest, p, rfl, h⟩ := inv_and h
      obtain ⟨h1, h2⟩ := and2 h
      refine t_and ((iha c tk hC).T x t1 h1) ?_
      cases rest with
      | nil => exact pw_and1 ((ihb c tk hC).T y t2 h2)
      | cons z t => exact (ihb c tk hC).Wb _ _ _ t2 h2
    refine ⟨fun e h => ?_, fun e ht h => (hw e ht h).pt, fun _ _ _ ht h => hw _ ht h, fun es h => by cases es <;> exact noF h, fun _ _ h => noF h⟩
    obtain ⟨x, y, rest, p, rfl, h⟩ := inv_and h
    obtain ⟨h1, h2⟩ := and2 h
    refine e_and ((iha c tk hC).E x h1) ?_
    cases rest with
    | nil => exact pe_one ((ihb c tk hC).E y h2)
    | cons z t => exact (ihb c tk hC).E _ h2
  | or a b iha ihb =>
    intro X sc fnb W k P c tk hC
    have hw : ∀ e, tst (.or a b) = true → chk B N (.or a b) sc (.E e) = true → PW X e (tT Y W (den (.or a b) P)) := by
      intro e ht h
      obtain ⟨t1, t2⟩ := and2 (show (tst a && tst b) = true from ht)
      obtain ⟨x, y, rest, p, rfl, h⟩ := inv_or h
      obtain ⟨h1, h2⟩ := and2 h
      refine t_or ((iha c tk hC).T x t1 h1) ?_
      cases rest with
      | nil => exact pw_or1 ((ihb c tk hC).T y t2 h2)
      | cons z t => exact (ihb c tk hC).Wb _ _ _ t2 h2
    refine ⟨fun e h => ?_, fun e ht h => (hw e ht h).pt, fun _ _ _ ht h => hw _ ht h, fun es h => by cases es <;> exact noF h, fun _ _ h => noF h⟩
    obtain ⟨x, y, rest, p, rfl, h⟩ := inv_or h
    obtain ⟨h1, h2⟩ := and2 h
    refine e_or ((iha c tk hC).E x h1) ?_
    cases rest with
    | nil => exact pe_one ((ihb c tk hC).E y h2)
    | cons z t => exact (ihb c tk hC).E _ h2
  | not a ih =>
    intro X sc fnb W k P c tk hC
    refine ⟨fun e h => ?_, fun e _ h => ?_, fun _ _ _ _ h => noF h, fun es h => by cases es <;> exact noF h, fun _ _ h => noF h⟩
    · obtain ⟨x, p, rfl, h⟩ := inv_not h
      obtain ⟨h1, h2⟩ := and2 h
      exact e_not ((ih c tk hC).E x h2)
    · obtain ⟨x, p, rfl, h⟩ := inv_not h
      obtain ⟨h1, h2⟩ := and2 h
      exact t_not ((ih c tk hC).T x h1 h2)
  | ite d a b ihd iha ihb =>
    intro X sc fnb W k P c tk hC
    refine ⟨fun e h => ?_, fun e ht h => noF ht, fun _ _ _ _ h => noF h, fun es h => by cases es <;> exact noF h, fun _ _ h => noF h⟩
    obtain ⟨x, y, z, p, rfl, h⟩ := inv_ite h
    obtain ⟨h1, h⟩ := and2 h
    obtain ⟨h2, h⟩ := and2 h
    obtain ⟨h3, h4⟩ := and2 h
    exact e_ite ((ihd c tk hC).T x h1 h2) ((iha c tk hC).E y h3) ((ihb c tk hC).E z h4)
  | call n l ih =>
    intro X sc fnb W k P c tk hC
    refine .ofE (fun e h => ?_) (fun _ _ _ => rfl) (fun es => by cases es <;> rfl) (fun _ _ => rfl)
    obtain ⟨x, q, e1, es, p, rfl, h⟩ := inv_call h
    obtain ⟨h1, h⟩ := and2 h
    obtain ⟨h2, h⟩ := and2 h
    obtain ⟨h3, h⟩ := and2 h
    obtain ⟨h4, h5⟩ := and2 h
    exact ⟨e_call c tk hC h1 h2 (fnB_ok h3) h4 ((ih c tk hC).L _ h5), fun _ => rfl⟩
  | callv i l ih =>
    intro X sc fnb W k P c tk hC
    refine .ofE (fun e h => ?_) (fun _ _ _ => rfl) (fun es => by cases es <;> rfl) (fun _ _ => rfl)
    obtain ⟨x, q, e1, es, p, rfl, h⟩ := inv_callv h
    obtain ⟨h1, h⟩ := and2 h
    obtain ⟨h2, h⟩ := and2 h
    obtain ⟨h3, h⟩ := and2 h
    obtain ⟨h4, h5⟩ := and2 h
    exact ⟨e_callv c tk hC (of_decide_eq_true h1) h2 h3 h4 ((ih c tk hC).L _ h5), fun _ => rfl⟩
  | bi b mu l ih =>
    intro X sc fnb W k P c tk hC
    refine .ofE (fun e h => ?_) (fun _ _ _ => rfl) (fun es => by cases es <;> rfl) (fun _ _ => rfl)
    obtain ⟨x, q, e1, es, p, rfl, h⟩ := inv_bi h
    obtain ⟨h1, h⟩ := and2 h
    obtain ⟨h2, h⟩ := and2 h
    obtain ⟨h3, h⟩ := and2 h
    obtain ⟨h4, h5⟩ := and2 h
    exact ⟨e_bi c (mk2 h1 (mk2 h2 (mk2 h3 h4))) ((ih c tk hC).L _ h5), fun _ => rfl⟩
  | lset a ih =>
    intro X sc fnb W k P c tk hC
    refine .ofE (fun e h => ?_) (fun _ _ _ => rfl) (fun es => by cases es <;> rfl) (fun _ _ => rfl)
    obtain ⟨x, q, y, q2, e1, p2, p, rfl, h⟩ := inv_lset h
    obtain ⟨h1, h⟩ := and2 h
    obtain ⟨h2, h⟩ := and2 h
    obtain ⟨h3, h⟩ := and2 h
    obtain ⟨h4, h⟩ := and2 h
    obtain ⟨h5, h⟩ := and2 h
    obtain ⟨h6, h⟩ := and2 h
    obtain ⟨h7, h8⟩ := and2 h
    exact ⟨e_lset c (by rw [h1, h2, h3, h4, h5, h6, h7]; rfl) ((ih c tk hC).E _ h8), fun _ => rfl⟩
  | lamc n t a ih =>
    intro X sc fnb W k P c tk hC
    refine .ofE (fun e h => ?_) (fun _ _ _ => rfl) (fun es => by cases es <;> rfl) (fun _ _ => rfl)
    obtain ⟨x, q, ps, e1, scope, p2, p, rfl, h⟩ := inv_lamc h
    obtain ⟨h1, h⟩ := and2 h
    obtain ⟨h2, h⟩ := and2 h
    obtain ⟨h3, h⟩ := and2 h
    obtain ⟨h4, h⟩ := and2 h
    obtain ⟨h5, h⟩ := and2 h
    obtain ⟨h6, h7⟩ := and2 h
    exact ⟨e_lamc c hC (by rw [h1, h2, h3, h4, h5, h6]; rfl) fun c' tk' hC' => (ih c' tk' hC').E _ h7, fun _ => rfl⟩
  | isi a t ih =>
    intro X sc fnb W k P c tk hC
    refine .ofE (fun e h => ?_) (fun _ _ _ => rfl) (fun es => by cases es <;> rfl) (fun _ _ => rfl)
    obtain ⟨x, q, e1, ty, q2, p, rfl, h⟩ := inv_isi h
    obtain ⟨h1, h⟩ := and2 h
    obtain ⟨h2, h⟩ := and2 h
    obtain ⟨h3, h⟩ := and2 h
    obtain ⟨h4, h⟩ := and2 h
    obtain ⟨h5, h⟩ := and2 h
    obtain ⟨h6, h⟩ := and2 h
    obtain ⟨h7, h8⟩ := and2 h
    exact ⟨e_isi c (by rw [h1, h2, h3, h4, h5, h6, h7]; rfl) ((ih c tk hC).E _ h8), fun _ => rfl⟩
  | sub a i iha ihi =>
    intro X sc fnb W k P c tk hC
    refine .ofE (fun e h => ?_) (fun _ _ _ => rfl) (fun es => by cases es <;> rfl) (fun _ _ => rfl)
    obtain ⟨x, y, p, rfl, h⟩ := inv_sub h
    obtain ⟨h1, h⟩ := and2 h
    obtain ⟨h2, h3⟩ := and2 h
    exact ⟨e_sub c h1 ((iha c tk hC).E x h2) ((ihi c tk hC).E y h3), fun _ => rfl⟩
  | slc mu a lo hi iha ihl ihh =>
    intro X sc fnb W k P c tk hC
    refine .ofE (fun e h => ?_) (fun _ _ _ => rfl) (fun es => by cases es <;> rfl) (fun _ _ => rfl)
    obtain ⟨x, l, hh, p2, p, rfl, h⟩ := inv_slc h
    obtain ⟨h1, h⟩ := and2 h
    obtain ⟨h2, h3⟩ := and2 h
    refine ⟨e_slc c ((iha c tk hC).E x h1) ?_ ?_, fun _ => rfl⟩
    · cases l with
      | none => exact pt_none h2
      | some l => exact pt_some ((ihl c tk hC).E l h2)
    · cases hh with
      | none => exact pt_none h3
      | some l => exact pt_some ((ihh c tk hC).E l h3)
  | rev mu a ih =>
    intro X sc fnb W k P c tk hC
    refine .ofE (fun e h => ?_) (fun _ _ _ => rfl) (fun es => by cases es <;> rfl) (fun _ _ => rfl)
    obtain ⟨x, i, j, p1, p2, p3, p, rfl, h⟩ := inv_rev h
    obtain ⟨h1, h2⟩ := and2 h
    have e1 : i = 1 := of_decide_eq_true h1
    subst e1
    exact ⟨e_rev c ((ih c tk hC).E x h2), fun _ => rfl⟩
  | meth m a l iha ihl =>
    intro X sc fnb W k P c tk hC
    refine .ofE (fun e h => ?_) (fun _ _ _ => rfl) (fun es => by cases es <;> rfl) (fun _ _ => rfl)
    obtain ⟨o, name, apos, es, p, rfl, h⟩ := inv_meth h
    obtain ⟨h1, h⟩ := and2 h
    obtain ⟨h2, h⟩ := and2 h
    obtain ⟨h3, h⟩ := and2 h
    obtain ⟨h4, h⟩ := and2 h
    obtain ⟨h5, h⟩ := and2 h
    obtain ⟨h6, h7⟩ := and2 h
    exact ⟨e_meth (of_decide_eq_true h1) h2 (of_decide_eq_true h3) h4 h5 h7 ((iha c tk hC).E o h6) ((ihl c tk hC).L es h7), fun _ => rfl⟩
  | comp mu elt own tg it cond ihe ihi ihc =>
    intro X sc fnb W k P c tk hC
    refine .ofE (fun e h => ?_) (fun _ _ _ => rfl) (fun es => by cases es <;> rfl) (fun _ _ => rfl)
    obtain ⟨e1, ⟨gt, gi, gf, ga⟩, scope, p, rfl, h⟩ := inv_comp h
    obtain ⟨h1, h⟩ := and2 h
    obtain ⟨h2, h⟩ := and2 h
    obtain ⟨h3, h⟩ := and2 h
    obtain ⟨h4, h⟩ := and2 h
    obtain ⟨h5, h⟩ := and2 h
    obtain ⟨h6, h⟩ := and2 h
    obtain ⟨h7, h⟩ := and2 h
    obtain ⟨h8, h9⟩ := and2 h
    have ea : ga = 0 := of_decide_eq_true h1
    subst ea
    have eo : (ownB N own).map (·.2) = own := of_decide_eq_true h3
    refine ⟨?_, fun _ => rfl⟩
    have q := pe_lc (X := X) (pos := p) (own := ownB N own) (elt := e1) (tg := gt) (iter := gi) (ifs := gf) (scope := scope) (g := gT Y tg) (tt := tT Y (fun _ _ _ _ => False) (den cond P)) (te := tE Y (fun _ _ _ _ => False) (den elt P)) c.calm (by rw [c.n]; exact c.nd) ((ihi c tk hC).I gt gi h6)
      (by rw [c.n, c.sc]; exact blkOk_by h2) (fun s H C cl fp => ?_) (fun s H C cl fp => ?_) (fun s H C cl fp => (ihe (c.blk s H C cl fp) LamX.takes0 (hC.blk s H C cl fp)).E e1 h9) (fun x => fold_plain h5 _ _)
    · rw [eo] at q
      exact q.mono fun σ H Q h => comp_post h4 h
    · have c' := c.blk (scope := scope) s H C cl fp
      exact (tgs c'.n c'.nd c'.sc c'.fnb c'.K c'.calm tg).1 gt h7
    · have c' := c.blk (scope := scope) s H C cl fp
      cases gf with
      | nil =>
        rw [isYes_ok h8]
        exact ⟨fun pins s σ H Q I ⟨ρ, as, S, hρ, w, h⟩ => pts_nil.run pins s σ H Q I (h H as Ext.refl w)⟩
      | cons c1 cs =>
        cases cs with
        | cons _ _ => exact noF h8
        | nil =>
          obtain ⟨h8, h10⟩ := and2 h8
          exact pts_one ((ihc c' LamX.takes0 (hC.blk s H C cl fp)).T c1 h8 h10)
  | seq a ih =>
    intro X sc fnb W k P c tk hC
    exact .ofI (fun tg e h => i_seq c ((ih c tk hC).E e h)) (fun e => by cases e <;> rfl) (fun es => by cases es <;> rfl)
  | rng l ih =>
    intro X sc fnb W k P c tk hC
    refine .ofI (fun tg e h => ?_) (fun e => by cases e <;> rfl) (fun es => by cases es <;> rfl)
    obtain ⟨x, q, es, p, rfl, h⟩ := inv_rng h
    obtain ⟨h1, h⟩ := and2 h
    obtain ⟨h2, h⟩ := and2 h
    obtain ⟨h3, h⟩ := and2 h
    obtain ⟨h4, h⟩ := and2 h
    obtain ⟨h5, h6⟩ := and2 h
    exact i_rng c (mk2 h1 (mk2 h2 (mk2 h3 (mk2 h4 h5)))) h6 ((ih c tk hC).L _ h6)
  | zip a b iha ihb =>
    intro X sc fnb W k P c tk hC
    refine .ofI (fun tg e h => ?_) (fun e => by cases e <;> rfl) (fun es => by cases es <;> rfl)
    obtain ⟨x, q, e1, e2, p, rfl, h⟩ := inv_zip h
    obtain ⟨h1, h⟩ := and2 h
    obtain ⟨h2, h⟩ := and2 h
    obtain ⟨h3, h⟩ := and2 h
    obtain ⟨h4, h⟩ := and2 h
    obtain ⟨h5, h⟩ := and2 h
    obtain ⟨h6, h⟩ := and2 h
    obtain ⟨h7, h8⟩ := and2 h
    exact i_zip c (by rw [h1, h2, h3, h4, h5, h6]; rfl) ((iha c tk hC).E _ h7) ((ihb c tk hC).E _ h8)
  | enum a ih =>
    intro X sc fnb W k P c tk hC
    refine .ofI (fun tg e h => ?_) (fun e => by cases e <;> rfl) (fun es => by cases es <;> rfl)
    obtain ⟨x, q, e1, p, rfl, h⟩ := inv_enum h
    obtain ⟨h1, h⟩ := and2 h
    obtain ⟨h2, h⟩ := and2 h
    obtain ⟨h3, h⟩ := and2 h
    obtain ⟨h4, h⟩ := and2 h
    obtain ⟨h5, h6⟩ := and2 h
    exact i_enum c (by rw [h1, h2, h3, h4, h5]; rfl) ((ih c tk hC).E _ h6)
end
end Px
end

section
set_option Elab.async false
set_option linter.all false
set_option maxRecDepth 100000
set_option maxHeartbeats 1000000
/-! Px: statements: readings, stores. -/
namespace L2
open PySem PySem.Spec PyProof.Rows
theorem PS.mono {X : Cx} {st : Stmt} {t t' : TS} (h : PS X st t) (k : ∀ D σ H, t' D σ H → t D σ H) : PS X st t' := ⟨fun pins s σ H D I q => h.run pins s σ H D I (k _ _ _ q)⟩
theorem PSs.mono {X : Cx} {st : List Stmt} {t t' : TS} (h : PSs X st t) (k : ∀ D σ H, t' D σ H → t D σ H) : PSs X st t' := ⟨fun pins s σ H D I q => h.run pins s σ H D I (k _ _ _ q)⟩
end L2
namespace Px
open PySem PySem.Spec PyProof.Rows L2

def PostS (Y : Fx) (H : Hp) (as : Ad) (E : Ends) (W : WX) (r : F) : Prop := match r with
  | .nx ρ S => ∀ σ' H' as', Ext H as H' as' → Wd Y H' as' S → EnvR Y H' as' ρ σ' → E.nx σ' H'
  | .bk ρ S => ∀ σ' H' as', Ext H as H' as' → Wd Y H' as' S → EnvR Y H' as' ρ σ' → E.bk σ' H'
  | .ct ρ S => ∀ σ' H' as', Ext H as H' as' → Wd Y H' as' S → EnvR Y H' as' ρ σ' → E.ct σ' H'
  | .rt d S => ∀ v H' as', Ext H as H' as' → Wd Y H' as' S → Rep Y H' as' d v → E.rt v H'
  | .ex c ρ S => ∀ σ' H' as', Ext H as H' as' → Wd Y H' as' S → EnvR Y H' as' ρ σ' → W (.ref (Y.ca c)) none σ' H'
  | .bad => False
def tS (Y : Fx) (W : WX) (m : Env → Sto → F) : TS := fun E σ H => ∃ ρ as S, EnvR Y H as ρ σ ∧ Wd Y H as S ∧ PostS Y H as E W (m ρ S)
section
variable {Y : Fx} {H H' : Hp} {as as' : Ad} {S : Sto} {ρ : Env} {σ : L2.St} {W : WX} {E E' : Ends}
theorem PostS.ext {r : F} (h : PostS Y H as E W r) (e : Ext H as H' as') : PostS Y H' as' E W r := by
  cases r with
  | bad => exact h
  | nx ρ S => exact fun σ' H2 as2 f => h σ' H2 as2 (e.trans f)
  | bk ρ S => exact fun σ' H2 as2 f => h σ' H2 as2 (e.trans f)
  | ct ρ S => exact fun σ' H2 as2 f => h σ' H2 as2 (e.trans f)
  | rt d S => exact fun v H2 as2 f => h v H2 as2 (e.trans f)
  | ex c ρ S => exact fun σ' H2 as2 f => h σ' H2 as2 (e.trans f)
/-- an expression, then the rest -/
theorem post_fl {m : Env → Sto → R D} {kk : D → Sto → F} {T : VK} (hρ : EnvR Y H as ρ σ) (w : Wd Y H as S) (h : PostS Y H as E W ((m ρ S).fl ρ kk))
    (hk : ∀ d v S' H' as', Ext H as H' as' → Wd Y H' as' S' → EnvR Y H' as' ρ σ → Rep Y H' as' d v → PostS Y H' as' E W (kk d S') → T v H') : tE Y W m σ H T := by
  refine ⟨ρ, as, S, hρ, w, ?_⟩
  cases e : m ρ S with
  | ok d S' =>
    rw [e] at h
    exact fun H' as' ex w' v r => hk d v S' H' as' ex w' (hρ.ext ex) r (PostS.ext h ex)
  | exc c S' =>
    rw [e] at h
    exact fun H' as' ex w' => h σ H' as' ex w' (hρ.ext ex)
  | bad =>
    rw [e] at h
    exact h
theorem post_flT {m : Env → Sto → R D} {kk : D → Sto → F} {T : Bool → Hp → Prop} (hρ : EnvR Y H as ρ σ) (w : Wd Y H as S) (h : PostS Y H as E W ((m ρ S).fl ρ kk)) (hn : ∀ d S' H' as', (∀ b, d ≠ .bl b) → PostS Y H' as' E W (kk d S') → False)
    (hk : ∀ b S' H' as', Ext H as H' as' → Wd Y H' as' S' → EnvR Y H' as' ρ σ → PostS Y H' as' E W (kk (.bl b) S') → T b H') : tT Y W m σ H T := by
  refine ⟨ρ, as, S, hρ, w, ?_⟩
  cases e : m ρ S with
  | ok d S' =>
    rw [e] at h
    refine fun H' as' ex w' => ?_
    have h' : PostS Y H' as' E W (kk d S') := PostS.ext h ex
    cases d with
    | bl b => exact hk b S' H' as' ex w' (hρ.ext ex) h'
    | _ => exact hn _ S' H' as' (fun b z => by cases z) h'
  | exc c S' =>
    rw [e] at h
    exact fun H' as' ex w' => h σ H' as' ex w' (hρ.ext ex)
  | bad =>
    rw [e] at h
    exact h
theorem post_flI {m : Env → Sto → R D} {kk : D → Sto → F} {T : It → Hp → Prop} (hρ : EnvR Y H as ρ σ) (w : Wd Y H as S) (h : PostS Y H as E W ((m ρ S).fl ρ kk))
    (hk : ∀ d S' H' as', Ext H as H' as' → Wd Y H' as' S' → EnvR Y H' as' ρ σ → PostS Y H' as' E W (kk d S') → zI Y T d H' as') : tI Y W m σ H T := by
  refine ⟨ρ, as, S, hρ, w, ?_⟩
  cases e : m ρ S with
  | ok d S' =>
    rw [e] at h
    exact fun H' as' ex w' => hk d S' H' as' ex w' (hρ.ext ex) (PostS.ext h ex)
  | exc c S' =>
    rw [e] at h
    exact fun H' as' ex w' => h σ H' as' ex w' (hρ.ext ex)
  | bad =>
    rw [e] at h
    exact h
/-- a statement, then the next -/
theorem post_seq {r : F} {kk : Env → Sto → F} (h : PostS Y H as E W (r.seq kk)) {Nx : L2.St → Hp → Prop} (hk : ∀ ρ' S' σ' H' as', Ext H as H' as' → Wd Y H' as' S' → EnvR Y H' as' ρ' σ' → PostS Y H' as' E W (kk ρ' S') → Nx σ' H') : PostS Y H as { E with nx := Nx } W r := by
  cases r with
  | bad => exact h
  | nx ρ S => exact fun σ' H2 as2 e w hr => hk ρ S σ' H2 as2 e w hr (PostS.ext h e)
  | bk ρ S => exact h
  | ct ρ S => exact h
  | rt d S => exact h
  | ex c ρ S => exact h
/-- a loop's turn, then the next -/
theorem post_turn {r : F} {kk : Env → Sto → F} (h : PostS Y H as E W (r.turn kk)) {Nx : L2.St → Hp → Prop} (hk : ∀ ρ' S' σ' H' as', Ext H as H' as' → Wd Y H' as' S' → EnvR Y H' as' ρ' σ' → PostS Y H' as' E W (kk ρ' S') → Nx σ' H') : PostS Y H as { E with nx := Nx, ct := Nx, bk := E.nx } W r := by
  cases r with
  | bad => exact h
  | nx ρ S => exact fun σ' H2 as2 e w hr => hk ρ S σ' H2 as2 e w hr (PostS.ext h e)
  | bk ρ S => exact h
  | ct ρ S => exact fun σ' H2 as2 e w hr => hk ρ S σ' H2 as2 e w hr (PostS.ext h e)
  | rt d S => exact h
  | ex c ρ S => exact h
theorem nowS (w : Wd Y H as S) (hρ : EnvR Y H as ρ σ) (h : PostS Y H as E W (.nx ρ S)) : E.nx σ H := h σ H as Ext.refl w hρ
end
section
variable {X : Cx} {Y : Fx} {B : Tb} {N : List Str} {sc : Scope} {fnb : Str → Bool} {k : Nat} {W : WX} {P : PC}
/-! ### loops -/
theorem forL_M {f : D → Env → Sto → F} {xs : List D} : ∀ (m i : Nat) (ρ : Env) (s : Sto), i + m = xs.length → forL f (xs.drop i) ρ s = forM f (fun _ => some xs) m i ρ s
  | 0, i, ρ, s, h => by
    rw [List.drop_eq_nil_of_le (by omega)]
    show F.nx ρ s = if xs.length ≤ i then F.nx ρ s else .bad
    rw [if_pos (by omega)]
  | m + 1, i, ρ, s, h => by
    have hi : i < xs.length := by omega
    rw [List.drop_eq_getElem_cons hi]
    show (f xs[i] ρ s).turn _ = match xs[i]? with
      | some x => (f x ρ s).turn _
      | none => .bad
    rw [List.getElem?_eq_getElem hi]
    show (f xs[i] ρ s).turn _ = (f xs[i] ρ s).turn _
    congr 1
    funext ρ' s'
    exact forL_M m (i + 1) ρ' s' (by omega)
def bodyF (f : Env → Sto → F) (tg : Tg) : D → Env → Sto → F := fun y ρ s => match setT s tg y ρ with
  | some ρ' => f ρ' s
  | none => .bad
theorem for_run {f : Env → Sto → F} {tg : Tg} {E : Ends} {σ : L2.St} {H : Hp} {as : Ad} {S : Sto} {ρ : Env} {J : It} {g : Sto → Option (List D)} {n : Nat} (hρ : EnvR Y H as ρ σ) (w : Wd Y H as S) (wk : Wk Y H as J g)
    (h : PostS Y H as E W (forM (bodyF f tg) g n 0 ρ S)) :
    ∃ Wm : Nat → Nat → L2.St → Hp → Prop, (∃ m, Wm 0 m σ H) ∧ ∀ i m σ H, Wm i m σ H →
      (J.stop i H ∧ E.nx σ H) ∨ (J.go i H ∧ ∃ Nx : L2.St → Hp → Prop, (∀ σ' H', Nx σ' H' → ∃ m', m' < m ∧ Wm (i + 1) m' σ' H') ∧ ∀ x H', J.yld i H x H' → gT Y tg x σ H' fun σ2 H2 => tS Y W f { E with nx := Nx, ct := Nx, bk := E.nx } σ2 H2) := by
  let Wm : Nat → Nat → L2.St → Hp → Prop := fun i m σ H => ∃ (as : Ad) (S : Sto) (ρ : Env), EnvR Y H as ρ σ ∧ Wd Y H as S ∧ Wk Y H as J g ∧ PostS Y H as E W (forM (bodyF f tg) g m i ρ S)
  refine ⟨Wm, ⟨n, as, S, ρ, hρ, w, wk, h⟩, ?_⟩
  rintro i m σ H ⟨as, S, ρ, hρ, w, wk, h⟩
  cases m with
  | zero =>
    replace h : PostS Y H as E W (match g S with
      | some xs => if xs.length ≤ i then .nx ρ S else .bad
      | none => .bad) := h
    split at h
    · rename_i xs hg
      split at h
      · rename_i hx
        exact .inl ⟨wk.stop w hg hx, h σ H as Ext.refl w hρ⟩
      · exact h.elim
    · exact h.elim
  | succ m =>
    replace h : PostS Y H as E W (match g S with
      | some xs => match xs[i]? with
        | some x => (bodyF f tg x ρ S).turn (forM (bodyF f tg) g m (i + 1))
        | none => .bad
      | none => .bad) := h
    split at h
    · rename_i xs hg
      split at h
      · rename_i x hx
        obtain ⟨hgo, hy⟩ := wk.step w hg hx
        refine .inr ⟨hgo, Wm (i + 1) m, fun σ' H' nx => ⟨m, Nat.lt_succ_self _, nx⟩, fun v H' yl => ?_⟩
        obtain ⟨st, rx⟩ := hy v H' yl
        have es : Ext H as H' as := st.ext
        unfold bodyF at h
        cases hs : setT S tg x ρ with
        | none => rw [hs] at h; exact h.elim
        | some ρ' =>
          rw [hs] at h
          replace h : PostS Y H as E W ((f ρ' S).turn (forM (bodyF f tg) g m (i + 1))) := h
          refine ⟨ρ, as, S, x, hρ.ext es, st.wd w, rx, ρ', hs, fun σ2 hσ2 off => ⟨ρ', as, S, hσ2, st.wd w, ?_⟩⟩
          refine post_turn (h.ext es) fun ρ3 S3 σ3 H3 as3 e3 w3 hρ3 h3 => ⟨as3, S3, ρ3, hρ3, w3, (wk.ext es).ext e3, h3⟩
      · exact h.elim
    · exact h.elim
theorem s_for (c : Cg X Y B N sc fnb k) {tg : Tg} {it : RE} {body : RS} {t i : PySem.Expr} {bs : List Stmt} {pos : Pos} (hp : plainE i = true) (hi : PI X t i (tI Y W (den it P))) (ht : PG X t (gT Y tg)) (hb : PSs X bs (tS Y W (ex body P))) :
    PS X (.For t i bs [] pos) (tS Y W (ex (.for tg it body) P)) := by
  refine (ps_for (pos := pos) c.pass c.calm hi ht hb (fun x => fold_plain hp _ _)).mono fun E σ H ⟨ρ, as, S, hρ, w, h⟩ => ?_
  unfold ex at h
  refine post_flI (m := den it P) hρ w h fun d S1 H1 as1 e1 w1 hρ1 h1 => ?_
  cases d with
  | lst xs =>
    refine ⟨_, rfl, fun J wk => ?_⟩
    replace h1 : PostS Y H1 as1 E W (forL (bodyF (ex body P) tg) xs ρ S1) := h1
    have e2 := forL_M (f := bodyF (ex body P) tg) (xs := xs) xs.length 0 ρ S1 (by omega)
    rw [List.drop_zero] at e2
    rw [e2] at h1
    exact for_run hρ1 w1 wk h1
  | cel i =>
    refine ⟨_, rfl, fun J wk => ?_⟩
    replace h1 : PostS Y H1 as1 E W (match (generalizing := false) (fun S : Sto => S[i]?) S1 with
      | some xs => forM (bodyF (ex body P) tg) (fun S : Sto => S[i]?) xs.length 0 ρ S1
      | none => .bad) := h1
    split at h1
    · exact for_run hρ1 w1 wk h1
    · exact h1.elim
  | zc i ys =>
    refine ⟨_, rfl, fun J wk => ?_⟩
    replace h1 : PostS Y H1 as1 E W (match (generalizing := false) (fun S : Sto => match S[i]? with
          | some xs => some (zipL xs ys)
          | none => none) S1 with
      | some xs => forM (bodyF (ex body P) tg) (fun S : Sto => match S[i]? with
          | some xs => some (zipL xs ys)
          | none => none) xs.length 0 ρ S1
      | none => .bad) := h1
    split at h1
    · exact for_run hρ1 w1 wk h1
    · exact h1.elim
  | _ => exact h1.elim
theorem s_while (c : Cg X Y B N sc fnb k) {n : Nat} {cd : RE} {body : RS} {x : PySem.Expr} {bs : List Stmt} {pos : Pos} (hc : PT X x (tT Y W (den cd P))) (hb : PSs X bs (tS Y W (ex body P))) :
    PS X (.While x bs [] pos) (tS Y W (ex (.wh n cd body) P)) := by
  refine (ps_while (pos := pos) c.pass hc hb).mono fun E σ H ⟨ρ, as, S, hρ, w, h⟩ => ?_
  unfold ex at h
  refine ⟨fun m σ H => ∃ (as : Ad) (S : Sto) (ρ : Env), EnvR Y H as ρ σ ∧ Wd Y H as S ∧ PostS Y H as E W (whL (den cd P) (ex body P) m ρ S), ⟨n, as, S, ρ, hρ, w, h⟩, ?_⟩
  rintro m σ H ⟨as, S, ρ, hρ, w, h⟩
  cases m with
  | zero => exact (show False from h).elim
  | succ m =>
    refine post_flT (m := den cd P) hρ w (show PostS Y H as E W ((den cd P ρ S).fl ρ fun x s => match x with
      | .bl true => (ex body P ρ s).turn (whL (den cd P) (ex body P) m)
      | .bl false => .nx ρ s
      | _ => .bad) from h) (fun d S' H' as' hn h' => by
        cases d with
        | bl b => exact hn b rfl
        | _ => exact h') fun b S1 H1 as1 e1 w1 hρ1 h1 => ?_
    cases b with
    | true =>
      rw [if_pos rfl]
      exact ⟨_, fun σ' H' nx => ⟨m, Nat.lt_succ_self _, nx⟩, ρ, as1, S1, hρ1, w1, post_turn h1 fun ρ3 S3 σ3 H3 as3 e3 w3 hρ3 h3 => ⟨as3, S3, ρ3, hρ3, w3, h3⟩⟩
    | false =>
      rw [if_neg Bool.false_ne_true]
      exact h1 σ H1 as1 Ext.refl w1 hρ1

/-! ### stores -/
theorem s_asg {tg : Tg} {e : RE} {t v : PySem.Expr} {pos : Pos} (he : PE X v (tE Y W (den e P))) (ht : PG X t (gT Y tg)) (hs : swapsWithSole [t] v pos.line X.env = pure false) (hw : swappedStores [t] v X.env = pure none) (h1 : (assignEach [t] X.env).map (·.2) = [assign t X.env]) :
    PS X (.Assign [t] v pos) (tS Y W (ex (.set tg e) P)) := by
  refine (ps_asg (pos := pos) he ht hs hw h1).mono fun E σ H ⟨ρ, as, S, hρ, w, h⟩ => ?_
  unfold ex at h
  refine post_fl (m := den e P) hρ w h fun d v S1 H1 as1 e1 w1 hρ1 r1 h1 => ?_
  cases hs : setT S1 tg d ρ with
  | none => rw [hs] at h1; exact h1.elim
  | some ρ' =>
    rw [hs] at h1
    exact ⟨ρ, as1, S1, d, hρ1, w1, r1, ρ', hs, fun σ' hσ' _ => h1 σ' H1 as1 Ext.refl w1 hσ'⟩
end
end Px
end

section
set_option Elab.async false
set_option linter.all false
set_option maxRecDepth 100000
set_option maxHeartbeats 1000000
/-! Px: statements: the checker, every statement it takes. -/
namespace Px
open PySem PySem.Spec PyProof.Rows L2

/-! ### two or three names stored from the right -/
def nameOf : PySem.Expr → Option (Str × Pos)
  | .Name id pos => some (id, pos)
  | _ => none
def swLine (ts : List PySem.Expr) : Nat := (ts.head?.map (·.pos.line)).getD 0
def swNames (sc : Scope) (ts : List PySem.Expr) (line : Nat) : List Str := ts.filterMap fun
    | .Name id pos => if sc.names.lookup id == some .local && pos.line == line then some id else none
    | _ => none
/-- none: such stores are unsupported -/
def swapO (sc : Scope) (ts vs : List PySem.Expr) : Option (Option (List Str)) :=
  if (!(ts.length == 2 || ts.length == 3) || vs.length != ts.length) = true then some none else
  if (swNames sc ts (swLine ts)).length != ts.length || (swNames sc ts (swLine ts)).eraseDups.length != (swNames sc ts (swLine ts)).length then some none else
  if vs.all (foldedForSure 8) = true then some none else
  if vs.all (constantsAlone 8) = true then none else some (some (swNames sc ts (swLine ts)))
def stars (vs : List PySem.Expr) : Bool := vs.any fun | .Starred .. => true | _ => false
theorem noStar : ∀ {vs : List PySem.Expr}, plainL vs = true → stars vs = false
  | [], _ => rfl
  | v :: vs, h => by
    rw [plainL, Bool.and_eq_true] at h
    unfold stars
    rw [List.any_cons, show (vs.any fun | .Starred .. => true | _ => false) = false from noStar h.2]
    cases v <;> first | rfl | exact absurd (show false = true from h.1) Bool.false_ne_true
theorem swapO_ok {env : PySem.Env} {sc : Scope} {ts vs : List PySem.Expr} {a1 a2 : Nat} {p1 p2 : Pos} {o : Option (List Str)} (hs : env.scope = sc) (hk : sc.kind = .function) (hp : plainL vs = true) (h : swapO sc ts vs = some o) :
    swappedStores [.Tuple ts a1 p1] (.Tuple vs a2 p2) env = pure o := by
  have hb : (env.blockKind != .function) = false := by
    unfold Env.blockKind
    rw [hs, hk]
    rfl
  have hkd : ∀ x, env.kindOf x = sc.names.lookup x := fun x => by rw [← hs]; rfl
  unfold swapO at h
  unfold swappedStores
  simp only [hb, Bool.or_false, hkd]
  show (if (!(ts.length == 2 || ts.length == 3) || vs.length != ts.length) = true then pure none else if stars vs = true then pure none else
    if ((swNames sc ts (swLine ts)).length != ts.length || (swNames sc ts (swLine ts)).eraseDups.length != (swNames sc ts (swLine ts)).length) = true then pure none else
    if vs.all (foldedForSure 8) = true then pure none else
    if vs.all (constantsAlone 8) = true then (do
      unsupported "assign.tuple-of-constant-expressions:order-of-the-stores"
      pure (some (swNames sc ts (swLine ts)))) else pure (some (swNames sc ts (swLine ts)))) = (pure o : Sem (Option (List Str)))
  rw [if_neg (show ¬ stars vs = true by rw [noStar hp]; exact Bool.false_ne_true)]
  generalize swNames sc ts (swLine ts) = nm at h ⊢
  by_cases c1 : (!(ts.length == 2 || ts.length == 3) || vs.length != ts.length) = true
  · rw [if_pos c1] at h ⊢
    rw [Option.some.inj h]
  · rw [if_neg c1] at h ⊢
    by_cases c2 : (nm.length != ts.length || nm.eraseDups.length != nm.length) = true
    · rw [if_pos c2] at h ⊢
      rw [Option.some.inj h]
    · rw [if_neg c2] at h ⊢
      by_cases c3 : vs.all (foldedForSure 8) = true
      · rw [if_pos c3] at h ⊢
        rw [Option.some.inj h]
      · rw [if_neg c3] at h ⊢
        by_cases c4 : vs.all (constantsAlone 8) = true
        · rw [if_pos c4] at h
          cases h
        · rw [if_neg c4] at h ⊢
          rw [Option.some.inj h]

/-! ### the checker -/
inductive Qs where
  | S (st : Stmt) | B (sts : List Stmt)
def notComp : PySem.Expr → Bool
  | .ListComp .. => false | .SetComp .. => false | .DictComp .. => false
  | _ => true
def okComp : PySem.Expr → Bool
  | .SetComp .. => false | .DictComp .. => false
  | _ => true
def isFun (sc : Scope) : Bool := match sc.kind with
  | .function => true
  | _ => false
def isLoc (sc : Scope) (x : Str) : Bool := match sc.names.lookup x with
  | some .local => true
  | _ => false
/-- name = [..]: whether the store comes within -/
def swB (sc : Scope) (x : Str) (px : Pos) : PySem.Expr → Bool
  | .ListComp _ _ scope p => sc.names.lookup x == some .local && (px.line == p.line) && !(scope.names.any fun (n, k) => n == x && (k == .local || k == .cell))
  | _ => false
def is2 : Tg → Option (Nat × Nat)
  | .tup (.cons (.name i) (.cons (.name j) .nil)) => some (i, j)
  | _ => none
def is3 : Tg → Option (Nat × Nat × Nat)
  | .tup (.cons (.name i) (.cons (.name j) (.cons (.name l) .nil))) => some (i, j, l)
  | _ => none
def argsOf : RE → Option RE
  | .tup l => some l
  | _ => none
def isCmp : RE → Bool
  | .comp _ _ _ _ _ _ => true
  | _ => false
def sw2 (sc : Scope) (nm : List Str) (ts vs : List PySem.Expr) (tg : Tg) (e : RE) : Bool := match nm, ts, vs, tg, e with
  | [x, y], [.Name x' _, .Name y' _], [_, _], .tup (.cons (.name i) (.cons (.name j) .nil)), .tup _ => decide (x = x') && (decide (y = y') && (decide (i ≠ j) && (isLoc sc x && isLoc sc y)))
  | _, _, _, _, _ => false
def sw3 (sc : Scope) (nm : List Str) (ts vs : List PySem.Expr) (tg : Tg) (e : RE) : Bool := match nm, ts, vs, tg, e with
  | [x, y, z], [.Name x' _, .Name y' _, .Name z' _], [_, _, _], .tup (.cons (.name i) (.cons (.name j) (.cons (.name l) .nil))), .tup _ =>
    decide (x = x') && (decide (y = y') && (decide (z = z') && (decide (i ≠ j) && (decide (i ≠ l) && (decide (j ≠ l) && (isLoc sc x && (isLoc sc y && isLoc sc z)))))))
  | _, _, _, _, _ => false
theorem sw2_inv {sc : Scope} {nm : List Str} {ts vs : List PySem.Expr} {tg : Tg} {e : RE} (h : sw2 sc nm ts vs tg e = true) : ∃ x y x' px y' py a b i j l, nm = [x, y] ∧ ts = [.Name x' px, .Name y' py] ∧ vs = [a, b] ∧ tg = .tup (.cons (.name i) (.cons (.name j) .nil)) ∧ e = .tup l ∧
    (decide (x = x') && (decide (y = y') && (decide (i ≠ j) && (isLoc sc x && isLoc sc y)))) = true := by
  unfold sw2 at h
  split at h
  · exact ⟨_, _, _, _, _, _, _, _, _, _, _, rfl, rfl, rfl, rfl, rfl, h⟩
  · cases h
theorem sw3_inv {sc : Scope} {nm : List Str} {ts vs : List PySem.Expr} {tg : Tg} {e : RE} (h : sw3 sc nm ts vs tg e = true) : ∃ x y z x' px y' py z' pz a b d i j l r, nm = [x, y, z] ∧ ts = [.Name x' px, .Name y' py, .Name z' pz] ∧ vs = [a, b, d] ∧ tg = .tup (.cons (.name i) (.cons (.name j) (.cons (.name l) .nil))) ∧ e = .tup r ∧
    (decide (x = x') && (decide (y = y') && (decide (z = z') && (decide (i ≠ j) && (decide (i ≠ l) && (decide (j ≠ l) && (isLoc sc x && (isLoc sc y && isLoc sc z)))))))) = true := by
  unfold sw3 at h
  split at h
  · exact ⟨_, _, _, _, _, _, _, _, _, _, _, _, _, _, _, _, rfl, rfl, rfl, rfl, rfl, h⟩
  · cases h
/-- a store to t of v -/
def chkA (B : Tb) (N : List Str) (sc : Scope) (tg : Tg) (e : RE) (t v : PySem.Expr) (pos : Pos) : Bool := match t with
  | .Name x px => isFun sc && (okComp v && if swB sc x px v = true then isCmp e else true)
  | .Tuple ts _ _ => match v with
    | .Tuple vs _ _ => isFun sc && (plainL vs && (match swapO sc ts vs with
      | some none => true
      | some (some nm) => sw2 sc nm ts vs tg e || sw3 sc nm ts vs tg e
      | none => false))
    | _ => true
  | _ => false
def raiseC (B : Tb) (sc : Scope) (n : Nat) (e : PySem.Expr) : Bool := match e with
  | .Call (.Name x _) [.Constant (.str _) _ _] [] _ => glB sc x && (nodbg x && (match lookN n B.cls with | some y => eqS x y | none => false))
  | _ => false
theorem raiseC_inv {B : Tb} {sc : Scope} {n : Nat} {e : PySem.Expr} (h : raiseC B sc n e = true) : ∃ x p m j p2 p1, e = .Call (.Name x p) [.Constant (.str m) j p2] [] p1 ∧ (glB sc x && (nodbg x && (match lookN n B.cls with | some y => eqS x y | none => false))) = true := by
  unfold raiseC at h
  split at h
  · exact ⟨_, _, _, _, _, _, rfl, h⟩
  · cases h
def chkS (B : Tb) (N : List Str) (sc : Scope) (fnb : Str → Bool) : RS → Qs → Bool
  | .pass, .S st => match st with
    | .Pass _ => true
    | .Expr (.Constant (.str _) _ _) _ => true
    | _ => false
  | .pass, .B sts => sts.isEmpty
  | .seq a b, .B (st :: r) => chkS B N sc fnb a (.S st) && chkS B N sc fnb b (.B r)
  | .set tg e, .S (.Assign [t] v pos) => chkT N sc fnb tg (.E t) && (chk B N e sc (.E v) && chkA B N sc tg e t v pos)
  | .ret e, .S (.Return v _) => match v with
    | some v => chk B N e sc (.E v)
    | none => isNo e
  | .ifs c a b, .S (.If x p q _) => tst c && (chk B N c sc (.E x) && (chkS B N sc fnb a (.B p) && chkS B N sc fnb b (.B q)))
  | .for tg it body, .S (.For t i bs [] _) => plainE i && (chk B N it sc (.I t i) && (chkT N sc fnb tg (.E t) && chkS B N sc fnb body (.B bs)))
  | .wh _ c body, .S (.While x bs [] _) => tst c && (chk B N c sc (.E x) && chkS B N sc fnb body (.B bs))
  | .drop e, .S (.Expr v _) => notComp v && chk B N e sc (.E v)
  | .raise n, .S (.Raise (some e) none _) => raiseC B sc n e
  | .brk, .S (.Break _) => true
  | .cont, .S (.Continue _) => true
  | .put a i e, .S (.Assign [.Subscript o j _] v _) => plainE j && (chk B N e sc (.E v) && (chk B N a sc (.E o) && chk B N i sc (.E j)))
  | _, _ => false
end Px
end

section
set_option Elab.async false
set_option linter.all false
set_option maxRecDepth 100000
set_option maxHeartbeats 1000000
/-! Px: every statement that the checker takes, by its meaning. -/
namespace Px
open PySem PySem.Spec PyProof.Rows L2
section
variable {X : Cx} {Y : Fx} {B : Tb} {N : List Str} {sc : Scope} {fnb : Str → Bool} {k : Nat} {W : WX} {P : PC}
theorem isFun_ok {sc : Scope} (h : isFun sc = true) : sc.kind = .function := by
  unfold isFun at h
  split at h <;> first | assumption | cases h
theorem isLoc_ok {sc : Scope} {x : Str} (h : isLoc sc x = true) : sc.names.lookup x = some .local := by
  unfold isLoc at h
  split at h <;> first | assumption | cases h
theorem bk_fun {env : PySem.Env} (h : env.scope.kind = .function) : env.blockKind = .function := by
  unfold Env.blockKind
  rw [h]
  rfl
theorem comp_parts (c : Cg X Y B N sc fnb k) (tk : Takes X W) (hC : CallsOk X Y B P k) {mu : Bool} {elt : RE} {own : List Nat} {tg : Tg} {it cond : RE} {e : PySem.Expr} (h : chk B N (.comp mu elt own tg it cond) sc (.E e) = true) :
    ∃ e1 gt gi gf scope p, e = .ListComp e1 [⟨gt, gi, gf, 0⟩] scope p ∧ (ownB N own).map (·.2) = own ∧ tgIn tg own = true ∧ PI X gt gi (tI Y W (den it P)) ∧ BlkOk X.N X.env.scope scope (ownB N own) ∧
      (∀ (s : Shared) (H : Hp) (C : Addr) (cl : List (Str × Addr)) (fp : List Addr), PG (X.blk s H scope (compEnvC scope cl C X.env) fp) gt (gT Y tg)) ∧
      (∀ (s : Shared) (H : Hp) (C : Addr) (cl : List (Str × Addr)) (fp : List Addr), PTs (X.blk s H scope (compEnvC scope cl C X.env) fp) gf (tT Y (fun _ _ _ _ => False) (den cond P))) ∧
      (∀ (s : Shared) (H : Hp) (C : Addr) (cl : List (Str × Addr)) (fp : List Addr), PE (X.blk s H scope (compEnvC scope cl C X.env) fp) e1 (tE Y (fun _ _ _ _ => False) (den elt P))) ∧
      ∀ x, foldedSetIterable gi X.env x = pure x := by
  obtain ⟨e1, ⟨gt, gi, gf, ga⟩, scope, p, rfl, h⟩ := inv_comp h
  obtain ⟨h1, h⟩ := and2 h
  obtain ⟨h2, h⟩ := and2 h
  obtain ⟨h3, h⟩ := and2 h
  obtain ⟨h4, h⟩ := and2 h
  obtain ⟨h5, h⟩ := and2 h
  obtain ⟨h6, h⟩ := and2 h
  obtain ⟨h7, h⟩ := and2 h
  obtain ⟨h8, h9⟩ := and2 h
  have ea : ga = 0 := of_decide_eq_true h1
  subst ea
  refine ⟨e1, gt, gi, gf, scope, p, rfl, of_decide_eq_true h3, h4, (rules it c tk hC).I gt gi h6, by rw [c.n, c.sc]; exact blkOk_by h2, fun s H C cl fp => ?_, fun s H C cl fp => ?_, fun s H C cl fp => (rules elt (c.blk s H C cl fp) LamX.takes0 (hC.blk s H C cl fp)).E e1 h9, fun x => fold_plain h5 _ _⟩
  · have c' := c.blk (scope := scope) s H C cl fp
    exact (tgs c'.n c'.nd c'.sc c'.fnb c'.K c'.calm tg).1 gt h7
  · have c' := c.blk (scope := scope) s H C cl fp
    cases gf with
    | nil =>
      rw [isYes_ok h8]
      exact ⟨fun pins s σ H Q I ⟨ρ, as, S, hρ, w, h⟩ => pts_nil.run pins s σ H Q I (h H as Ext.refl w)⟩
    | cons c1 cs =>
      cases cs with
      | cons _ _ => exact noF h8
      | nil =>
        obtain ⟨h8, h10⟩ := and2 h8
        exact pts_one ((rules cond c' LamX.takes0 (hC.blk s H C cl fp)).T c1 h8 h10)
theorem setT_name {S : Sto} {i : Nat} {d : D} {ρ : Env} : setT S (.name i) d ρ = some (ρ.set i (some d)) := rfl
theorem s_set (c : Cg X Y B N sc fnb k) (tk : Takes X W) (hC : CallsOk X Y B P k) {tg : Tg} {e : RE} {t v : PySem.Expr} {pos : Pos} (ht : chkT N sc fnb tg (.E t) = true) (he : chk B N e sc (.E v) = true) (ha : chkA B N sc tg e t v pos = true) :
    PS X (.Assign [t] v pos) (tS Y W (ex (.set tg e) P)) := by
  have pe := (rules e c tk hC).E v he
  have pg := (tgs c.n c.nd c.sc c.fnb c.K c.calm tg).1 t ht
  cases t with
  | Name x px =>
    obtain ⟨f1, ha⟩ := and2 (show (isFun sc && (okComp v && if swB sc x px v = true then isCmp e else true)) = true from ha)
    obtain ⟨f2, ha⟩ := and2 ha
    have hk : X.env.scope.kind = .function := by rw [c.sc]; exact isFun_ok f1
    have hbk := bk_fun hk
    have sole : swapsWithSole [.Name x px] v pos.line X.env = pure (swB sc x px v) := by
      cases v with
      | ListComp e1 gs scope p =>
        show (pure (X.env.blockKind == .function && X.env.kindOf x == some .local && (px.line == p.line) && !(scope.names.any fun (n, k) => n == x && (k == .local || k == .cell))) : Sem Bool) = pure (sc.names.lookup x == some .local && (px.line == p.line) && !(scope.names.any fun (n, k) => n == x && (k == .local || k == .cell)))
        have e1 : X.env.kindOf x = sc.names.lookup x := by rw [← c.sc]; rfl
        have e2 : (X.env.blockKind == ScopeKind.function) = true := by rw [hbk]; rfl
        rw [e1, e2, Bool.true_and]
      | SetComp _ _ _ _ => exact noF f2
      | DictComp _ _ _ _ _ => exact noF f2
      | _ => rfl
    cases hsw : swB sc x px v with
    | false =>
      rw [hsw] at sole
      exact s_asg pe pg sole rfl rfl
    | true =>
      rw [hsw] at sole ha
      rw [if_pos rfl] at ha
      cases e with
      | comp mu elt own tg2 it cond =>
        obtain ⟨e1, gt, gi, gf, scope, p, rfl, eo, hown, hi, ok, hg, htt, hee, hf⟩ := comp_parts c tk hC he
        cases tg with
        | name i =>
          have ht' : (decide (N[i]? = some x) && (locB sc x && (fnb x || (match sc.names.lookup x with | some .local => true | _ => false)))) = true := ht
          obtain ⟨t1, _⟩ := and2 ht'
          have hloc : sc.names.lookup x = some .local := by
            obtain ⟨q, _⟩ := and2 (show (sc.names.lookup x == some .local && (px.line == p.line) && !(scope.names.any fun (n, k) => n == x && (k == .local || k == .cell))) = true from hsw)
            obtain ⟨q, _⟩ := and2 q
            exact eq_of_beq q
          have q := ps_setLc (X := X) (i := i) (y := x) (py := px) (spos := pos) (pos := p) (own := ownB N own) (elt := e1) (tg := gt) (iter := gi) (ifs := gf) (scope := scope) c.calm (by rw [c.n]; exact c.nd) (by rw [c.n]; exact of_decide_eq_true t1) (by rw [c.sc]; exact hloc) sole hi ok hg htt hee hf
          rw [eo] at q
          refine q.mono fun E σ H ⟨ρ, as, S, hρ, w, h⟩ => ?_
          refine comp_post (mu := mu) hown ?_
          replace h : PostS Y H as E W ((den (.comp mu elt own tg2 it cond) P ρ S).fl ρ fun d s => match setT s (.name i) d ρ with
            | some ρ' => .nx ρ' s
            | none => .bad) := h
          exact post_fl (m := den (.comp mu elt own tg2 it cond) P) hρ w h fun d v S1 H1 as1 e1 w1 hρ1 r1 h1 => h1 _ H1 as1 Ext.refl w1 (hρ1.set r1 i)
        | tup l => exact noF ht
        | nil => exact noF ht
        | cons _ _ => exact noF ht
      | _ => exact noF ha
  | Tuple ts n1 p1 =>
    have hs1 : swapsWithSole [.Tuple ts n1 p1] v pos.line X.env = pure false := by
      cases v <;> rfl
    have h1 : (assignEach [.Tuple ts n1 p1] X.env).map (·.2) = [assign (.Tuple ts n1 p1) X.env] := rfl
    cases v with
    | Tuple vs n2 p2 =>
      replace ha : (isFun sc && (plainL vs && (match swapO sc ts vs with
        | some none => true
        | some (some nm) => sw2 sc nm ts vs tg e || sw3 sc nm ts vs tg e
        | none => false))) = true := ha
      obtain ⟨f1, ha⟩ := and2 ha
      obtain ⟨f2, ha⟩ := and2 ha
      cases hsw : swapO sc ts vs with
      | none => rw [hsw] at ha; exact noF ha
      | some o =>
        have sw := swapO_ok (a1 := n1) (a2 := n2) (p1 := p1) (p2 := p2) c.sc (isFun_ok f1) f2 hsw
        cases o with
        | none => exact s_asg pe pg hs1 sw h1
        | some nm =>
          rw [hsw] at ha
          replace ha : (sw2 sc nm ts vs tg e || sw3 sc nm ts vs tg e) = true := ha
          rw [Bool.or_eq_true] at ha
          rcases ha with ha | ha
          · obtain ⟨x, y, x', px, y', py, a, b, i, j, l, rfl, rfl, rfl, rfl, rfl, ha⟩ := sw2_inv ha
            obtain ⟨g1, ha⟩ := and2 ha
            obtain ⟨g2, ha⟩ := and2 ha
            obtain ⟨g3, ha⟩ := and2 ha
            obtain ⟨g4, g5⟩ := and2 ha
            have e1 : x = x' := of_decide_eq_true g1
            have e2 : y = y' := of_decide_eq_true g2
            subst e1 e2
            have ht' : (plainL [.Name x px, .Name y py] && (chkT N sc fnb (.name i) (.E (.Name x px)) && (chkT N sc fnb (.name j) (.E (.Name y py)) && true))) = true := ht
            obtain ⟨_, ht'⟩ := and2 ht'
            obtain ⟨t1, ht'⟩ := and2 ht'
            obtain ⟨t2, _⟩ := and2 ht'
            obtain ⟨t1, _⟩ := and2 (show (decide (N[i]? = some x) && _) = true from t1)
            obtain ⟨t2, _⟩ := and2 (show (decide (N[j]? = some y) && _) = true from t2)
            obtain ⟨c1, c2⟩ := and2 (show (Nat.ble [a, b].length 100000 && chk B N l sc (.L [a, b])) = true from he)
            have pa := (rules l c tk hC).L _ c2
            refine (ps_par (pos := pos) c.calm (by rw [c.n]; exact c.nd) (by rw [c.n]; exact of_decide_eq_true t1) (by rw [c.n]; exact of_decide_eq_true t2) (of_decide_eq_true g3) (by rw [c.sc]; exact isLoc_ok g4) (by rw [c.sc]; exact isLoc_ok g5) pa sw hs1).mono fun E σ H ⟨ρ, as, S, hρ, w, h⟩ => ?_
            refine ⟨ρ, as, S, hρ, w, ?_⟩
            replace h : PostS Y H as E W (((den l P ρ S).bind fun ys s => match ys with
              | .lst xs => .ok (.tup xs) s
              | _ => .bad).fl ρ fun d s => match setT s (.tup (.cons (.name i) (.cons (.name j) .nil))) d ρ with
              | some ρ' => .nx ρ' s
              | none => .bad) := h
            cases ed : den l P ρ S with
            | bad => rw [ed] at h; exact h
            | exc cc s =>
              rw [ed] at h
              exact fun H' as' ex w' => h σ H' as' ex w' (hρ.ext ex)
            | ok d S1 =>
              rw [ed] at h
              cases d with
              | lst ds =>
                refine fun H1 as1 ex w1 vs r => ?_
                replace h : PostS Y H as E W (match setT.setTs S1 (.cons (.name i) (.cons (.name j) .nil)) ds ρ with
                  | some ρ' => .nx ρ' S1
                  | none => .bad) := h
                cases r with
                | nil => exact h.elim
                | @cons d1 v1 ds vs r1 r =>
                  cases r with
                  | nil => exact h.elim
                  | @cons d2 v2 ds vs r2 r =>
                    cases r with
                    | cons _ _ => exact h.elim
                    | nil => exact ⟨v1, v2, rfl, h _ H1 as1 ex w1 (((hρ.ext ex).set r1 i).set r2 j)⟩
              | _ => exact (fun H1 as1 ex w1 => (show False from h).elim)
          · obtain ⟨x, y, z, x', px, y', py, z', pz, a, b, d, i, j, l, l2, rfl, rfl, rfl, rfl, rfl, ha⟩ := sw3_inv ha
            obtain ⟨g1, ha⟩ := and2 ha
            obtain ⟨g2, ha⟩ := and2 ha
            obtain ⟨g3, ha⟩ := and2 ha
            obtain ⟨g4, ha⟩ := and2 ha
            obtain ⟨g5, ha⟩ := and2 ha
            obtain ⟨g6, ha⟩ := and2 ha
            obtain ⟨g7, ha⟩ := and2 ha
            obtain ⟨g8, g9⟩ := and2 ha
            have e1 : x = x' := of_decide_eq_true g1
            have e2 : y = y' := of_decide_eq_true g2
            have e3 : z = z' := of_decide_eq_true g3
            subst e1 e2 e3
            have ht' : (plainL [.Name x px, .Name y py, .Name z pz] && (chkT N sc fnb (.name i) (.E (.Name x px)) && (chkT N sc fnb (.name j) (.E (.Name y py)) && (chkT N sc fnb (.name l) (.E (.Name z pz)) && true)))) = true := ht
            obtain ⟨_, ht'⟩ := and2 ht'
            obtain ⟨t1, ht'⟩ := and2 ht'
            obtain ⟨t2, ht'⟩ := and2 ht'
            obtain ⟨t3, _⟩ := and2 ht'
            obtain ⟨t1, _⟩ := and2 (show (decide (N[i]? = some x) && _) = true from t1)
            obtain ⟨t2, _⟩ := and2 (show (decide (N[j]? = some y) && _) = true from t2)
            obtain ⟨t3, _⟩ := and2 (show (decide (N[l]? = some z) && _) = true from t3)
            obtain ⟨c1, c2⟩ := and2 (show (Nat.ble [a, b, d].length 100000 && chk B N l2 sc (.L [a, b, d])) = true from he)
            have pa := (rules l2 c tk hC).L _ c2
            refine (ps_par3 (pos := pos) c.calm (by rw [c.n]; exact c.nd) (by rw [c.n]; exact of_decide_eq_true t1) (by rw [c.n]; exact of_decide_eq_true t2) (by rw [c.n]; exact of_decide_eq_true t3) (of_decide_eq_true g4) (of_decide_eq_true g5) (of_decide_eq_true g6) (by rw [c.sc]; exact isLoc_ok g7) (by rw [c.sc]; exact isLoc_ok g8) (by rw [c.sc]; exact isLoc_ok g9) pa sw hs1).mono fun E σ H ⟨ρ, as, S, hρ, w, h⟩ => ?_
            refine ⟨ρ, as, S, hρ, w, ?_⟩
            replace h : PostS Y H as E W (((den l2 P ρ S).bind fun ys s => match ys with
              | .lst xs => .ok (.tup xs) s
              | _ => .bad).fl ρ fun d s => match setT s (.tup (.cons (.name i) (.cons (.name j) (.cons (.name l) .nil)))) d ρ with
              | some ρ' => .nx ρ' s
              | none => .bad) := h
            cases ed : den l2 P ρ S with
            | bad => rw [ed] at h; exact h
            | exc cc s =>
              rw [ed] at h
              exact fun H' as' ex w' => h σ H' as' ex w' (hρ.ext ex)
            | ok d S1 =>
              rw [ed] at h
              cases d with
              | lst ds =>
                refine fun H1 as1 ex w1 vs r => ?_
                replace h : PostS Y H as E W (match setT.setTs S1 (.cons (.name i) (.cons (.name j) (.cons (.name l) .nil))) ds ρ with
                  | some ρ' => .nx ρ' S1
                  | none => .bad) := h
                cases r with
                | nil => exact h.elim
                | @cons d1 v1 ds vs r1 r =>
                  cases r with
                  | nil => exact h.elim
                  | @cons d2 v2 ds vs r2 r =>
                    cases r with
                    | nil => exact h.elim
                    | @cons d3 v3 ds vs r3 r =>
                      cases r with
                      | cons _ _ => exact h.elim
                      | nil => exact ⟨v1, v2, v3, rfl, h _ H1 as1 ex w1 ((((hρ.ext ex).set r1 i).set r2 j).set r3 l)⟩
              | _ => exact (fun H1 as1 ex w1 => (show False from h).elim)
    | _ => exact s_asg pe pg hs1 rfl h1
  | _ => exact noF ha
end
end Px
end

section
set_option Elab.async false
set_option linter.all false
set_option maxRecDepth 100000
set_option maxHeartbeats 1000000
/-! Px: all statements. -/
namespace Px
open PySem PySem.Spec PyProof.Rows L2
section
variable {X : Cx} {Y : Fx} {B : Tb} {N : List Str} {sc : Scope} {fnb : Str → Bool} {k : Nat} {W : WX} {P : PC}
theorem sub_store {o i : PySem.Expr} {p : Pos} (h : plainE i = true) (v : Value) : assign (.Subscript o i p) X.env v = (do
      let ov ← holding [v] (eval o X.env)
      let iv ← holding [v, ov] (eval i X.env)
      standAt p
      holding [v, ov, iv] (setItem ov iv v)
      release [v, ov, iv] []) := by
  cases i <;> first | rfl | cases h
theorem swap_plain {v : PySem.Expr} (h : notComp v = true) (t : Option PySem.Expr) (l : Nat) (env : PySem.Env) : swapsWith v t l env = pure false := by
  cases v <;> first | rfl | cases h
theorem s_put {a i e : RE} {o j v : PySem.Expr} {p pos : Pos} (hj : plainE j = true) (he : PE X v (tE Y W (den e P))) (ha : PE X o (tE Y W (den a P))) (hi : PE X j (tE Y W (den i P))) :
    PS X (.Assign [.Subscript o j p] v pos) (tS Y W (ex (.put a i e) P)) := by
  have hs : swapsWithSole [.Subscript o j p] v pos.line X.env = pure false := by cases v <;> rfl
  refine (ps_asg he (pg_sub ha hi set_list (sub_store hj)) hs rfl rfl).mono fun E σ H ⟨ρ, as, S, hρ, w, h⟩ => ?_
  unfold ex at h
  refine post_fl (m := den e P) hρ w h fun d v S1 H1 as1 e1 w1 hρ1 r1 h1 => ?_
  refine post_fl (m := den a P) hρ1 w1 h1 fun d2 v2 S2 H2 as2 e2 w2 hρ2 r2 h2 => ?_
  refine post_fl (m := den i P) hρ2 w2 h2 fun d3 v3 S3 H3 as3 e3 w3 hρ3 r3 h3 => ?_
  replace r2 := r2.ext e3
  replace r1 := (r1.ext e2).ext e3
  unfold setL at h3
  cases r2 with
  | @cel m p hp =>
    cases r3 with
    | int kk =>
      replace h3 : PostS Y H3 as3 E W (match (match S3[m]? with
        | some xs => match ixN xs.length kk with
          | some j => some (S3.set m (xs.set j d))
          | none => none
        | none => none) with
        | some s' => .nx ρ s'
        | none => .bad) := h3
      cases es : S3[m]? with
      | none => rw [es] at h3; exact h3.elim
      | some xs =>
        rw [es] at h3
        replace h3 : PostS Y H3 as3 E W (match (match ixN xs.length kk with
          | some j => some (S3.set m (xs.set j d))
          | none => none) with
          | some s' => .nx ρ s'
          | none => .bad) := h3
        obtain ⟨vs, hH, hz, rl⟩ := w3.cell m p xs hp es
        cases ej : ixN xs.length kk with
        | none => rw [ej] at h3; exact h3.elim
        | some j =>
          rw [ej] at h3
          rw [rl.length] at ej
          have z2 : (vs.set j v).length ≤ sizeLine := by rw [List.length_set]; exact hz
          have ex2 : Ext H3 as3 (upd H3 p (.lst (vs.set j v))) as3 := Ext.put w3 (List.mem_of_getElem? hp)
          refine ⟨p, vs, kk, j, rfl, rfl, hH, ixN_L ej, ?_⟩
          exact h3 σ _ as3 ex2 (w3.put hp z2 (rl.set r1 j)) (hρ3.ext ex2)
    | _ => exact h3.elim
  | _ => exact (show False from h3).elim
theorem s_raise (c : Cg X Y B N sc fnb k) (tk : Takes X W) {n : Nat} {x m : Str} {j : Nat} {p p1 p2 pos : Pos} (hg : glB sc x = true) (hd : nodbg x = true) (hn : (n, x) ∈ B.cls) :
    PS X (.Raise (some (.Call (.Name x p) [.Constant (.str m) j p2] [] p1)) none pos) (tS Y W (ex (.raise n) P)) := by
  obtain ⟨Bn, newId, initId, bm, F, q1, q2, q3, q4, q5⟩ := c.tb.exc n x hn
  refine (ps_raise c.calm tk (pmk_own F (by rw [c.K]; exact q1) q2 (by rw [c.K]; exact q3) (raises_own (by rw [c.K]; exact q4) (by rw [c.K]; exact q5)) (c.gl hg) (nodbg_ok hd).1)).mono fun E σ H ⟨ρ, as, S, hρ, w, h⟩ => ?_
  exact h σ H as Ext.refl w hρ
theorem clsB_ok {n : Nat} {x : Str} (h : (match lookN n B.cls with | some y => eqS x y | none => false) = true) : (n, x) ∈ B.cls := by
  cases e : lookN n B.cls with
  | none => rw [e] at h; cases h
  | some y =>
    rw [e] at h
    have ey : x = y := of_decide_eq_true h
    subst ey
    exact lookN_ok e
theorem rulesS (c : Cg X Y B N sc fnb k) (tk : Takes X W) (hC : CallsOk X Y B P k) (r : RS) : (∀ st, chkS B N sc fnb r (.S st) = true → PS X st (tS Y W (ex r P))) ∧ (∀ sts, chkS B N sc fnb r (.B sts) = true → PSs X sts (tS Y W (ex r P))) := by
  induction r with
  | pass =>
    refine ⟨fun st h => ?_, fun sts h => ?_⟩
    · cases st with
      | Pass p => exact ps_pass.mono fun E σ H ⟨ρ, as, S, hρ, w, h⟩ => nowS w hρ h
      | Expr v p =>
        cases v with
        | Constant j n q =>
          cases j with
          | str x => exact ps_doc.mono fun E σ H ⟨ρ, as, S, hρ, w, h⟩ => nowS w hρ h
          | _ => exact noF h
        | _ => exact noF h
      | _ => exact noF h
    · cases sts with
      | nil => exact pss_nil.mono fun E σ H ⟨ρ, as, S, hρ, w, h⟩ => nowS w hρ h
      | cons _ _ => exact noF h
  | seq a b iha ihb =>
    refine ⟨fun st h => by cases st <;> exact noF h, fun sts h => ?_⟩
    cases sts with
    | nil => exact noF h
    | cons st sts =>
      obtain ⟨h1, h2⟩ := and2 (show (chkS B N sc fnb a (.S st) && chkS B N sc fnb b (.B sts)) = true from h)
      refine (pss_cons (iha.1 st h1) (ihb.2 sts h2)).mono fun E σ H ⟨ρ, as, S, hρ, w, h⟩ => ?_
      unfold ex at h
      exact ⟨ρ, as, S, hρ, w, post_seq h fun ρ' S' σ' H' as' e w' hρ' h' => ⟨ρ', as', S', hρ', w', h'⟩⟩
  | set tg e =>
    refine ⟨fun st h => ?_, fun sts h => by cases sts <;> exact noF h⟩
    cases st with
    | Assign ts v pos =>
      rcases ts with _ | ⟨t, _ | ⟨t2, ts⟩⟩
      · exact noF h
      · obtain ⟨h1, h2⟩ := and2 (show (chkT N sc fnb tg (.E t) && (chk B N e sc (.E v) && chkA B N sc tg e t v pos)) = true from h)
        obtain ⟨h2, h3⟩ := and2 h2
        exact s_set c tk hC h1 h2 h3
      · exact noF h
    | _ => exact noF h
  | ret e =>
    refine ⟨fun st h => ?_, fun sts h => by cases sts <;> exact noF h⟩
    cases st with
    | Return v p =>
      cases v with
      | some v =>
        refine (ps_ret ((rules e c tk hC).E v h)).mono fun E σ H ⟨ρ, as, S, hρ, w, h⟩ => ?_
        unfold ex at h
        exact post_fl (m := den e P) hρ w h fun d v S1 H1 as1 e1 w1 hρ1 r1 h1 => h1 v H1 as1 Ext.refl w1 r1
      | none =>
        rw [isNo_ok (show isNo e = true from h)]
        exact ps_retN.mono fun E σ H ⟨ρ, as, S, hρ, w, h⟩ => h _ H as Ext.refl w .non
    | _ => exact noF h
  | ifs d a b iha ihb =>
    refine ⟨fun st h => ?_, fun sts h => by cases sts <;> exact noF h⟩
    cases st with
    | If x p q pos =>
      obtain ⟨h1, h⟩ := and2 (show (tst d && (chk B N d sc (.E x) && (chkS B N sc fnb a (.B p) && chkS B N sc fnb b (.B q)))) = true from h)
      obtain ⟨h2, h⟩ := and2 h
      obtain ⟨h3, h4⟩ := and2 h
      refine (ps_if ((rules d c tk hC).T x h1 h2) (iha.2 p h3) (ihb.2 q h4)).mono fun E σ H ⟨ρ, as, S, hρ, w, h⟩ => ?_
      unfold ex at h
      refine post_flT (m := den d P) hρ w h (fun d S' H' as' hn h' => by
        cases d with
        | bl b => exact hn b rfl
        | _ => exact h') fun b S1 H1 as1 e1 w1 hρ1 h1 => ?_
      cases b with
      | true =>
        rw [if_pos rfl]
        exact ⟨ρ, as1, S1, hρ1, w1, h1⟩
      | false =>
        rw [if_neg Bool.false_ne_true]
        exact ⟨ρ, as1, S1, hρ1, w1, h1⟩
    | _ => exact noF h
  | «for» tg it body ih =>
    refine ⟨fun st h => ?_, fun sts h => by cases sts <;> exact noF h⟩
    cases st with
    | For t i bs orelse pos =>
      cases orelse with
      | cons _ _ => exact noF h
      | nil =>
        obtain ⟨h1, h⟩ := and2 (show (plainE i && (chk B N it sc (.I t i) && (chkT N sc fnb tg (.E t) && chkS B N sc fnb body (.B bs)))) = true from h)
        obtain ⟨h2, h⟩ := and2 h
        obtain ⟨h3, h4⟩ := and2 h
        exact s_for c h1 ((rules it c tk hC).I t i h2) ((tgs c.n c.nd c.sc c.fnb c.K c.calm tg).1 t h3) (ih.2 bs h4)
    | _ => exact noF h
  | wh n d body ih =>
    refine ⟨fun st h => ?_, fun sts h => by cases sts <;> exact noF h⟩
    cases st with
    | While x bs orelse pos =>
      cases orelse with
      | cons _ _ => exact noF h
      | nil =>
        obtain ⟨h1, h⟩ := and2 (show (tst d && (chk B N d sc (.E x) && chkS B N sc fnb body (.B bs))) = true from h)
        obtain ⟨h2, h3⟩ := and2 h
        exact s_while c ((rules d c tk hC).T x h1 h2) (ih.2 bs h3)
    | _ => exact noF h
  | drop e =>
    refine ⟨fun st h => ?_, fun sts h => by cases sts <;> exact noF h⟩
    cases st with
    | Expr v p =>
      obtain ⟨h1, h2⟩ := and2 (show (notComp v && chk B N e sc (.E v)) = true from h)
      refine (ps_expr ((rules e c tk hC).E v h2) (swap_plain h1 _ _ _)).mono fun E σ H ⟨ρ, as, S, hρ, w, h⟩ => ?_
      unfold ex at h
      exact post_fl (m := den e P) hρ w h fun d v S1 H1 as1 e1 w1 hρ1 r1 h1 => nowS w1 hρ1 h1
    | _ => exact noF h
  | raise n =>
    refine ⟨fun st h => ?_, fun sts h => by cases sts <;> exact noF h⟩
    cases st with
    | Raise e f p =>
      rcases e with _ | e
      · exact noF h
      · rcases f with _ | f
        · obtain ⟨x, p, m, j, p2, p1, rfl, h⟩ := raiseC_inv (show raiseC B sc n e = true from h)
          obtain ⟨h1, h⟩ := and2 h
          obtain ⟨h2, h3⟩ := and2 h
          exact s_raise c tk h1 h2 (clsB_ok h3)
        · exact noF h
    | _ => exact noF h
  | brk =>
    refine ⟨fun st h => ?_, fun sts h => by cases sts <;> exact noF h⟩
    cases st with
    | Break p => exact ps_break.mono fun E σ H ⟨ρ, as, S, hρ, w, h⟩ => h σ H as Ext.refl w hρ
    | _ => exact noF h
  | cont =>
    refine ⟨fun st h => ?_, fun sts h => by cases sts <;> exact noF h⟩
    cases st with
    | Continue p => exact ps_continue.mono fun E σ H ⟨ρ, as, S, hρ, w, h⟩ => h σ H as Ext.refl w hρ
    | _ => exact noF h
  | put a i e =>
    refine ⟨fun st h => ?_, fun sts h => by cases sts <;> exact noF h⟩
    cases st with
    | Assign ts v pos =>
      rcases ts with _ | ⟨t, _ | ⟨t2, ts⟩⟩
      · exact noF h
      · cases t with
        | Subscript o j p =>
          obtain ⟨h1, h⟩ := and2 (show (plainE j && (chk B N e sc (.E v) && (chk B N a sc (.E o) && chk B N i sc (.E j)))) = true from h)
          obtain ⟨h2, h⟩ := and2 h
          obtain ⟨h3, h4⟩ := and2 h
          exact s_put h1 ((rules e c tk hC).E v h2) ((rules a c tk hC).E o h3) ((rules i c tk hC).E j h4)
        | _ => exact noF h
      · cases t <;> exact noF h
    | _ => exact noF h
end
end Px
end

section
set_option Elab.async false
set_option linter.all false
set_option maxRecDepth 100000
set_option maxHeartbeats 1000000
/-! Px: a def that tries a lambda, clauses that return a constant. -/
namespace Px
open PySem PySem.Spec PyProof.Rows L2
def vOf (d : D) : V := (cvD d).getD .non
theorem constB_cv {j : Const} {d : D} (h : constB j d = true) : cvD d = some (vOf d) := by
  cases j <;> cases d <;> first
    | (cases (show false = true from h); done)
    | rfl
theorem pe_constV {X : Cx} {j : Const} {n : Nat} {p : Pos} {d : D} (h : constB j d = true) : PE X (.Constant j n p) (tC (vOf d)) := by
  cases j <;> cases d <;> first
    | (cases (show false = true from h); done)
    | exact pe_non
    | (have e := eq_of_beq (show (_ == _) = true from h); subst e; exact pe_bl)
    | (have e := of_decide_eq_true (show decide (_ = _) = true from h); subst e; exact pe_int)
    | (have e := of_decide_eq_true (show decide (_ = _) = true from h); subst e; exact pe_str)
def suiteB (d : D) : List Stmt → Bool
  | [.Return (some (.Constant j _ _)) _] => constB j d
  | _ => false
def hdB (sc : Scope) (y : Str) (d : D) : ExceptHandler → Bool
  | .ExceptHandler (some (.Name z _)) none suite _ => eqS z y && (glB sc z && (nodbg z && suiteB d suite))
  | _ => false
def hdsB (sc : Scope) : List (Str × D) → List ExceptHandler → Bool
  | [], [] => true
  | (y, d) :: r, h :: hs => hdB sc y d h && hdsB sc r hs
  | _, _ => false
def tryB (sc : Scope) (a : Str) (cl : List (Str × D)) (fin : D) : List Stmt → Bool
  | [.Try [.Expr (.Call (.Name b _) [] [] _) _] (h :: hs) [] [] _, .Return (some (.Constant j _ _)) _] => eqS b a && (hdsB sc cl (h :: hs) && constB j fin)
  | _ => false
/-- which clause takes an error of a class -/
def clsB (K : PySem.W.Frag) (ca : Addr) : List (Str × D) → Option D
  | [] => none
  | (y, d) :: r => match PySem.W.exmOne K (.ref ca) (.ref (He.ga K y)) with
    | some true => some d
    | some false => clsB K ca r
    | none => none
def hdT (K : PySem.W.Frag) (p : Str × D) : Value × (Addr → Value → Option Addr → TS) := (.ref (He.ga K p.1), fun _ _ _ => tRet (tC (vOf p.2)))
theorem hds_ok {X : Cx} {sc : Scope} (hsc : X.env.scope = sc) : ∀ {cl : List (Str × D)} {hs : List ExceptHandler}, (∀ p ∈ cl, X.mg p.1 = some (.ref (He.ga X.K p.1))) → hdsB sc cl hs = true → HdsOk X hs (cl.map (hdT X.K)) ∧ ∀ p ∈ cl, cvD p.2 = some (vOf p.2)
  | [], [], _, _ => ⟨.nil, fun p h => by cases h⟩
  | [], _ :: _, _, h => by cases h
  | _ :: _, [], _, h => by cases h
  | (y, d) :: r, h0 :: hs, hm, h => by
    obtain ⟨h1, h2⟩ := and2 (show (hdB sc y d h0 && hdsB sc r hs) = true from h)
    obtain ⟨ok, cv⟩ := hds_ok hsc (fun p hp => hm p (List.mem_cons_of_mem _ hp)) h2
    unfold hdB at h1
    split at h1
    · rename_i z np suite pos'
      obtain ⟨k1, h1⟩ := and2 h1
      obtain ⟨k2, h1⟩ := and2 h1
      obtain ⟨k3, k4⟩ := and2 h1
      have e1 : z = y := of_decide_eq_true k1
      subst e1
      unfold suiteB at k4
      split at k4
      · rename_i j n p p2
        refine ⟨.cons ⟨?_, (nodbg_ok k3).1, .inl (hm (z, d) List.mem_cons_self)⟩ (fun a oe cls dd pn _ _ => pss_one (ps_ret (pe_constV k4))) ok, fun p hp => ?_⟩
        · show X.env.scope.names.lookup z = some .globalImplicit
          rw [hsc]
          exact glB_ok k2
        · rcases List.mem_cons.mp hp with e | hp
          · rw [e]; exact constB_cv k4
          · exact cv p hp
      · cases k4
    · cases h1
theorem wMany_of {K : PySem.W.Frag} {Wout : WX} {Ds : Ends} {ca : Addr} {dd : Option Addr} {σ : L2.St} {H : Hp} : ∀ {cl : List (Str × D)} {d : D}, clsB K ca cl = some d → (∀ v, cvD d = some v → Ds.rt v H) → (∀ p ∈ cl, cvD p.2 = some (vOf p.2)) → wMany K Wout Ds (cl.map (hdT K)) (.ref ca) dd σ H
  | [], _, h, _, _ => by cases h
  | (y, e) :: r, d, h, hq, hc => by
    unfold clsB at h
    split at h
    · rename_i q
      cases h
      exact ⟨true, q, fun _ a _ => hq _ (hc _ List.mem_cons_self), fun z => by cases z⟩
    · rename_i q
      exact ⟨false, q, fun z => (by cases z), fun _ => wMany_of h hq fun p hp => hc p (List.mem_cons_of_mem _ hp)⟩
    · cases h
theorem PE.wide {X : Cx} {e : PySem.Expr} {t : TE} (h : PE X e t) : PE X e (fun σ H Q => ∃ Qn : VK, (∀ v H', Qn v H' → Q v H') ∧ t σ H Qn) := ⟨fun pins s σ H Q I ⟨Qn, hn, q⟩ =>
  wpAny_mono (h.run pins s σ H Qn I q) (fun u s' ⟨v, H', J, r, z⟩ => ⟨v, H', J, r, hn _ _ z⟩) fun _ _ z => z⟩
theorem try_gives {X : Cx} {Y : Fx} {Ng : List Str} {x a q : Str} {sg : Scope} {g : Addr} {cdg : Value} {bg : List Stmt} {cl : List (Str × D)} {t : Td} (h : tryB sg a cl t.fin bg = true) (hm : ∀ p ∈ cl, X.mg p.1 = some (.ref (He.ga X.K p.1)))
    (ht : ∀ c d, tdAt t.at_ c = some d → clsB X.K (Y.ca c) cl = some d) (h0 : ∀ f : Addr, (L2.start Ng [V.ref f])[0]? = some (some (V.ref f))) : LamX.GivesTo X Ng x sg g cdg bg a q (tdTT Y t) := by
  intro f c' s H Q tl act hc hq
  unfold tryB at h
  split at h
  · rename_i b p1 p2 p3 h1 hs p4 j n p5 p6
    obtain ⟨k1, h⟩ := and2 h
    obtain ⟨k2, k3⟩ := and2 h
    have e1 : b = a := of_decide_eq_true k1
    subst e1
    obtain ⟨ok, cv⟩ := hds_ok (X := (cxOf C8.CX0 X.prog X.w X.K X.mg X.base Ng x sg g cdg X.A X.stack s H C8.E0).nox) (sc := sg) rfl hm k2
    refine ⟨_, pss_cons (ps_try_many (X := (cxOf C8.CX0 X.prog X.w X.K X.mg X.base Ng x sg g cdg X.A X.stack s H C8.E0).nox)
      (tb := fun W Ds σ H => ∃ (Ech : XK) (Qn : VK), (∀ cls d σ' H', Ech cls d H' → W cls d σ' H') ∧ (∀ v H', Qn v H' → Ds.nx σ H') ∧ σ[0]? = some (some (.ref f)) ∧ H c' = some (LamX.CodeO c' q) ∧ tl Ech H Qn)
      rfl rfl LamX.takes0 (fun W pn xe tk _ => ?_) ok) (pss_one (ps_ret (pe_constV k3))), ?_⟩
    · refine ⟨fun pins s' σ H' Ds I h' => ?_⟩
      obtain ⟨Ech, Qn, hW, hn, z1, z2, z3⟩ := h'
      have hp := act W pn xe Ech p1 p2 tk hW
      exact (pss_one (ps_expr (pos := p3) (PE.wide hp))).run pins s' σ H' Ds I ⟨Qn, hn, z1, z2, z3⟩
    · refine ⟨_, _, fun cls d σ' H' hz => ?_, fun v H' hz => ?_, h0 f, hc, hq⟩
      · obtain ⟨c, d', rfl, e2, e3⟩ := hz
        exact wMany_of (ht c d' e2) e3 cv
      · exact hz _ (constB_cv k3)
  · cases h
end Px
end

section
set_option Elab.async false
set_option linter.all false
set_option maxRecDepth 100000
set_option maxHeartbeats 1000000
/-! Px: the defs of a program keep what our meaning says. -/
namespace Px
open PySem PySem.Spec PyProof.Rows L2
section
variable {P : Program} {w : World} {Y : Fx} {B : Tb} {mg : Str → Option Value} {base : Heap} {G : Tab}
theorem env_start {H : Hp} {as : Ad} {N : List Str} {ds : List D} {vs : List V} (r : RepL Y H as ds vs) (m : Nat) (hm : m = N.length - ds.length) : EnvR Y H as (ds.map some ++ List.replicate m none) (L2.start N vs) := by
  subst hm
  refine ⟨by simp [L2.start, r.length], fun i d h => ?_⟩
  by_cases hi : i < ds.length
  · rw [List.getElem?_append_left (by simpa using hi), List.getElem?_map] at h
    obtain ⟨d', h1, h2⟩ := Option.map_eq_some_iff.mp h
    cases h2
    obtain ⟨v, hv, rv⟩ := r.get h1
    refine ⟨v, ?_, rv⟩
    unfold L2.start
    rw [List.getElem?_append_left (by rw [List.length_map, ← r.length]; exact hi), List.getElem?_map, hv]
    rfl
  · rw [List.getElem?_append_right (by simpa using hi)] at h
    by_cases hj : i - (ds.map some).length < N.length - ds.length
    · rw [List.getElem?_replicate, if_pos hj] at h
      cases h
    · rw [List.getElem?_replicate, if_neg hj] at h
      cases h
/-- one def, given -/
structure DefOk (Y : Fx) (B : Tb) (G : Tab) (TF : List He.Defn) (n : Nat) (x : Str) where
  st : Stmt
  Nm : List Str
  ps : List Str
  fd : FuncData
  g : FD
  hG : G n = some g
  F : FunD Y.K x x (defArgs st) (defBody st) (defScope st) [] [] (Y.fa n) fd
  hb : Binds Y.K fd ps []
  S : FnScope Nm ps (defScope st)
  ar : g.arity = ps.length
  sl : g.slots = Nm.length
  lam : Bool
  ck : chkS { B with lam := lam } Nm (defScope st) (fun _ => true) g.body (.B (defBody st)) = true
  fa : Y.fa n = He.fAd Y.K (x, none)
  mem : lam = true → (x, none) ∈ TF
  tab : lam = true → ((He.cT Y.K (x, none)).2, x ++ ".<locals>." ++ "<lambda>") ∈ Y.T ∧ ∀ p ∈ Y.T, p.1 = (He.cT Y.K (x, none)).2 → p.2 = x ++ ".<locals>." ++ "<lambda>"
theorem allOk {TF : List He.Defn} (htb : TbOk B Y mg) (hf : ∀ n x, (n, x) ∈ B.fns → Nonempty (DefOk Y B G TF n x)) (hT : ∀ q ∈ TF, LamX.TabB base mg (He.cT Y.K q).1 (He.cT Y.K q).2) :
    ∀ (m n : Nat) (x : Str), (n, x) ∈ B.fns → ∀ d : DefOk Y B G TF n x, FnOk P w Y.K mg base (L2.CX P w) m (Y.fa n) d.fd d.ps (spC Y (call G m n)) := by
  intro m
  induction m using Nat.strongRecOn with
  | _ m ih =>
  intro n x hn d
  cases m with
  | zero =>
    refine ⟨fun vs H Q E h => ?_, fun A outer s H args us vs Q E _ _ _ _ h => ?_⟩
    · obtain ⟨ds, as, S, w, r, h⟩ := h
      exact h.elim
    · obtain ⟨ds, as, S, w, r, h⟩ := h
      exact h.elim
  | succ m =>
    have key : ∀ {vs : List V} {H : Hp} {Q : VK} {E : XK}, spC Y (call G (m + 1) n) vs H Q E → ∃ (ds : List D) (as : Ad) (S : Sto), Wd Y H as S ∧ RepL Y H as ds vs ∧ ds.length = d.g.arity ∧
        (match endF (ex d.g.body ⟨call G m, low G m⟩ (ds.map some ++ List.replicate (d.g.slots - d.g.arity) none) S) with
        | .ok d S' => ∀ v H' as', Ext H as H' as' → Wd Y H' as' S' → Rep Y H' as' d v → Q v H'
        | .exc c S' => ∀ H' as', Ext H as H' as' → Wd Y H' as' S' → E (.ref (Y.ca c)) none H'
        | .bad => False) := by
      intro vs H Q E h
      obtain ⟨ds, as, S, w, r, h⟩ := h
      have ec : call G (m + 1) n ds S = if ds.length = d.g.arity then endF (ex d.g.body ⟨call G m, low G m⟩ (ds.map some ++ List.replicate (d.g.slots - d.g.arity) none) S) else .bad := by
        rw [call_succ]
        show (match G n with
          | some f => if ds.length = f.arity then endF (ex f.body ⟨call G m, low G m⟩ (ds.map some ++ List.replicate (f.slots - f.arity) none) S) else .bad
          | none => .bad) = _
        rw [d.hG]
      rw [ec] at h
      by_cases hl : ds.length = d.g.arity
      · rw [if_pos hl] at h
        exact ⟨ds, as, S, w, r, hl, h⟩
      · rw [if_neg hl] at h
        exact h.elim
    obtain ⟨oc, od, dV, kV, doc, pm, an, cdv, ct, osl, efd, lk, hcd, _, _⟩ := d.F.ex
    rw [efd] at lk ⊢
    refine fn_of lk hcd d.S (fun vs H Q E h => ?_) (fun A outer s H vs Q E hr h => ?_)
    · obtain ⟨ds, as, S, w, r, hl, h⟩ := key h
      rw [← r.length, hl, d.ar]
    · obtain ⟨ds, as, S, w1, r, hl, h⟩ := key h
      have tk : Takes (cxOf (L2.CX P w) P w Y.K mg base d.Nm x (defScope d.st) (Y.fa n) cdv A outer s H E) (fun cls d _ H => E cls d H) := takes_of rfl rfl rfl rfl
      have htb' : TbOk { B with lam := d.lam } Y mg := ⟨htb.fn, htb.kn, htb.cst, htb.free, htb.mfn, htb.exc, htb.td⟩
      have c : Cg (cxOf (L2.CX P w) P w Y.K mg base d.Nm x (defScope d.st) (Y.fa n) cdv A outer s H E) Y { B with lam := d.lam } d.Nm (defScope d.st) (fun _ => true) m :=
        ⟨rfl, rfl, d.S.nd, rfl, rfl, rfl, hr, PassesOwn.leaving, htb'⟩
      have hC : CallsOk (cxOf (L2.CX P w) P w Y.K mg base d.Nm x (defScope d.st) (Y.fa n) cdv A outer s H E) Y { B with lam := d.lam } ⟨call G m, low G m⟩ m := by
        refine ⟨fun n x hn => (hf n x hn).elim fun d => ⟨d.fd, d.ps, ih m (Nat.lt_succ_self m) n x hn d, d.hb⟩, fun c' hc => ?_⟩
        obtain ⟨j, ej, ec⟩ := low_some G hc
        subst ec
        refine ⟨j, ej, fun n x hn => (hf n x hn).elim fun d => ⟨d.fd, d.ps, ih j (by omega) n x hn d, d.hb⟩, fun hlam => ?_⟩
        have hlam : d.lam = true := hlam
        obtain ⟨t1, t2⟩ := d.tab hlam
        obtain ⟨cc, ecc⟩ := He.codeIn_ref hcd
        have e1 : (He.cT Y.K (x, none)).1 = cc := He.codeOf_eq (by rw [← d.fa]; exact lk) ecc
        refine ⟨cc, (He.cT Y.K (x, none)).2, ?_, ecc, t1, t2⟩
        have z := hT (x, none) (d.mem hlam)
        rw [e1] at z
        exact z
      refine ⟨_, (rulesS c tk hC d.g.body).2 _ d.ck, ds.map some ++ List.replicate (d.g.slots - d.g.arity) none, as, S, env_start r _ (by rw [d.sl, hl]), w1, ?_⟩
      cases e : ex d.g.body ⟨call G m, low G m⟩ (ds.map some ++ List.replicate (d.g.slots - d.g.arity) none) S with
      | nx ρ' S' =>
        rw [e] at h
        exact fun σ' H' as' ex w' _ => h .non H' as' ex w' .non
      | rt dd S' =>
        rw [e] at h
        exact fun v H' as' ex w' r => h v H' as' ex w' r
      | ex c ρ' S' =>
        rw [e] at h
        exact fun σ' H' as' ex w' _ => h H' as' ex w'
      | bk ρ' S' => rw [e] at h; exact h.elim
      | ct ρ' S' => rw [e] at h; exact h.elim
      | bad => rw [e] at h; exact h.elim
end
end Px
end

section
set_option Elab.async false
set_option linter.all false
set_option maxRecDepth 100000
set_option maxHeartbeats 1000000
/-! Px: how arguments are bound; facts about the module's names. -/
namespace Px
open PySem PySem.Spec PyProof.Rows L2
theorem zip_lookup : ∀ {ps : List Str} {us : List Value} {n : Str}, us.length = ps.length → n ∈ ps → ((ps.zip us).lookup n).isSome = true
  | [], _, _, _, h => by cases h
  | p :: ps, [], _, e, _ => by simp at e
  | p :: ps, u :: us, n, e, h => by
    rw [List.zip_cons_cons, List.lookup_cons]
    cases q : n == p with
    | true => rfl
    | false =>
      rcases List.mem_cons.mp h with h | h
      · rw [h] at q
        simp at q
      · exact zip_lookup (by simpa using e) h
theorem zip_all : ∀ {ps : List Str} {us : List Value}, us.length = ps.length → ps.Nodup → (ps.filterMap fun n => ((ps.zip us).lookup n).map fun v => (n, v)) = ps.zip us
  | [], [], _, _ => rfl
  | [], _ :: _, e, _ => by simp at e
  | p :: ps, [], e, _ => by simp at e
  | p :: ps, u :: us, e, h => by
    obtain ⟨h1, h2⟩ := List.nodup_cons.mp h
    have e' : us.length = ps.length := by simpa using e
    rw [List.filterMap_cons, List.zip_cons_cons]
    have e1 : (List.lookup p ((p, u) :: ps.zip us)) = some u := by rw [List.lookup_cons]; simp
    rw [e1]
    show (p, u) :: _ = _
    congr 1
    have key : ∀ (l : List Str), (∀ n ∈ l, n ≠ p) → (l.filterMap fun n => (List.lookup n ((p, u) :: ps.zip us)).map fun v => (n, v)) = l.filterMap fun n => ((ps.zip us).lookup n).map fun v => (n, v) := by
      intro l
      induction l with
      | nil => intro _; rfl
      | cons n l ih =>
        intro hl
        have e2 : List.lookup n ((p, u) :: ps.zip us) = (ps.zip us).lookup n := by
          rw [List.lookup_cons, beq_eq_false_iff_ne.mpr (hl n List.mem_cons_self)]
        rw [List.filterMap_cons, List.filterMap_cons, e2, ih fun m hm => hl m (List.mem_cons_of_mem _ hm)]
    rw [key ps fun n hn z => h1 (by rw [← z]; exact hn), zip_all e' h2]
def simpleP (p : Arguments) (ps : List Str) : Bool := p.posonlyargs.isEmpty && (p.vararg.isNone && (p.kwonlyargs.isEmpty && (p.kwarg.isNone && decide (p.args.map (·.arg) = ps))))
theorem bind_plain {x q : Str} {params : Arguments} {body : List Stmt} {scope : Scope} {ps : List Str} (h : simpleP params ps = true) (nd : ps.Nodup) (kV doc pm : Value) (an : Option Addr) (cdv ct : Value) (us : List Value) (hl : us.length = ps.length) :
    bindArgs (PySem.W.fnOf x q params body scope .none kV doc pm an cdv ct) ⟨us, []⟩ = pure (ps.zip us) := by
  obtain ⟨po, ar, va, ko, kd, kw, df⟩ := params
  unfold simpleP at h
  obtain ⟨h1, h⟩ := and2 h
  obtain ⟨h2, h⟩ := and2 h
  obtain ⟨h3, h⟩ := and2 h
  obtain ⟨h4, h5⟩ := and2 h
  have e1 : po = [] := by simpa using h1
  have e2 : va = none := by simpa using h2
  have e3 : ko = [] := by simpa using h3
  have e4 : kw = none := by simpa using h4
  have e5 : ar.map (·.arg) = ps := of_decide_eq_true h5
  subst e1 e2 e3 e4
  have hs : seqItems? .none = pure none := rfl
  unfold bindArgs PySem.W.fnOf
  simp only [e5, List.map_nil, List.nil_append, List.append_nil, hs, hl]
  clear h1 h2 h3 h4 h5 h
  simp only [List.forIn_nil, pure_bind, Option.getD_none, List.drop_nil, List.zip_nil_right, List.length_nil, Nat.sub_zero, List.take_length, List.isEmpty_nil]
  have hmiss : (ps.filter fun n => ((ps.zip us).lookup n).isNone) = [] := by
    rw [List.filter_eq_nil_iff]
    intro n hn
    have := zip_lookup hl hn
    cases q : (ps.zip us).lookup n with
    | none => rw [q] at this; cases this
    | some v => simp
  rw [if_neg (by simp), hmiss]
  simp [zip_all hl nd]
end Px
end

section
set_option Elab.async false
set_option linter.all false
set_option maxRecDepth 100000
set_option maxHeartbeats 1000000
/-! Px: from the head's facts to the defs' promises. -/
namespace Px
open PySem PySem.Spec PyProof.Rows L2

/-- a written value beside a datum -/
def cstL (f : Value → D → Bool) : List Value → List D → Bool
  | [], [] => true
  | u :: us, d :: ds => f u d && cstL f us ds
  | _, _ => false
def cstB (K : PySem.W.Frag) : Nat → Value → D → Bool
  | 0, _, _ => false
  | n + 1, u, d => match d with
    | .non => (match u with
      | .none => true
      | _ => false)
    | .bl b => (match u with
      | .bool a => a == b
      | _ => false)
    | .int j => (match u with
      | .int i _ => decide (i = j)
      | _ => false)
    | .str y => (match u with
      | .str x _ => decide (x = y)
      | _ => false)
    | .tup ds => (match u with
      | .ref a => (match K.lookup a with
        | some ⟨.type c, _, .seq its _, _⟩ => decide (c = "tuple") && (Nat.ble its.size 1000 && cstL (cstB K n) its.toList ds)
        | _ => false)
      | _ => false)
    | .rl ds => (match u with
      | .ref a => (match K.lookup a with
        | some ⟨.type c, none, .seq its _, _⟩ => decide (c = "list") && (Nat.ble its.size 1000 && cstL (cstB K n) its.toList ds)
        | _ => false)
      | _ => false)
    | _ => false
theorem cstL_ok {Y : Fx} {f : Value → D → Bool} (hf : ∀ u d, f u d = true → ∃ v, RelV v u ∧ ∀ H as, Rep Y H as d v) : ∀ {us : List Value} {ds : List D}, cstL f us ds = true → ∃ vs, Vals vs us ∧ ∀ H as, RepL Y H as ds vs
  | [], [], _ => ⟨[], .nil, fun _ _ => .nil⟩
  | u :: us, d :: ds, h => by
    obtain ⟨h1, h2⟩ := and2 (show (f u d && cstL f us ds) = true from h)
    obtain ⟨v, r, q⟩ := hf u d h1
    obtain ⟨vs, rs, qs⟩ := cstL_ok hf h2
    exact ⟨v :: vs, .cons r rs, fun H as => .cons (q H as) (qs H as)⟩
  | [], _ :: _, h => by cases h
  | _ :: _, [], h => by cases h
theorem cstB_ok {Y : Fx} : ∀ (n : Nat) (u : Value) (d : D), cstB Y.K n u d = true → ∃ v, RelV v u ∧ ∀ H as, Rep Y H as d v := by
  intro n
  induction n with
  | zero => intro u d h; cases h
  | succ n ih =>
    intro u d h
    have hsl := sizeLine_eq
    cases d with
    | non =>
      cases u with
      | none => exact ⟨.non, rfl, fun _ _ => .non⟩
      | _ => cases h
    | bl b =>
      cases u with
      | bool a =>
        have e : a = b := eq_of_beq (show (a == b) = true from h)
        subst e
        exact ⟨.bl a, rfl, fun _ _ => .bl _⟩
      | _ => cases h
    | int j =>
      cases u with
      | int i t =>
        have e : i = j := of_decide_eq_true h
        subst e
        exact ⟨.int i, ⟨t, rfl⟩, fun _ _ => .int _⟩
      | _ => cases h
    | str y =>
      cases u with
      | str x t =>
        have e : x = y := of_decide_eq_true h
        subst e
        exact ⟨.str x, ⟨t, rfl⟩, fun _ _ => .str _⟩
      | _ => cases h
    | tup ds =>
      cases u with
      | ref a =>
        have h' : (match Y.K.lookup a with
          | some ⟨.type c, _, .seq its _, _⟩ => decide (c = "tuple") && (Nat.ble its.size 1000 && cstL (cstB Y.K n) its.toList ds)
          | _ => false) = true := h
        split at h'
        · rename_i c od its k sl e
          obtain ⟨h1, h2⟩ := and2 h'
          obtain ⟨h2, h3⟩ := and2 h2
          obtain ⟨vs, rs, qs⟩ := cstL_ok (Y := Y) (fun u d => ih u d) h3
          have hz : its.size ≤ sizeLine := by
            have := Nat.le_of_ble_eq_true h2
            omega
          have hv : vs.length = its.size := by rw [rs.length]; simp
          exact ⟨.ref a, rfl, fun H as => .tup (.inr ⟨_, its, k, e, congrArg Value.type (of_decide_eq_true h1), rfl, hz, rs⟩) (by omega) (qs H as)⟩
        · cases h'
      | _ => cases h
    | rl ds =>
      cases u with
      | ref a =>
        have h' : (match Y.K.lookup a with
          | some ⟨.type c, none, .seq its _, _⟩ => decide (c = "list") && (Nat.ble its.size 1000 && cstL (cstB Y.K n) its.toList ds)
          | _ => false) = true := h
        split at h'
        · rename_i c its k sl e
          obtain ⟨h1, h2⟩ := and2 h'
          obtain ⟨h2, h3⟩ := and2 h2
          obtain ⟨vs, rs, qs⟩ := cstL_ok (Y := Y) (fun u d => ih u d) h3
          have hz : its.size ≤ sizeLine := by
            have := Nat.le_of_ble_eq_true h2
            omega
          have hv : vs.length = its.size := by rw [rs.length]; simp
          exact ⟨.ref a, rfl, fun H as => .rl (.inl (.inr ⟨_, its, k, e, congrArg Value.type (of_decide_eq_true h1), rfl, rfl, hz, rs⟩)) (by omega) (qs H as)⟩
        · cases h'
      | _ => cases h
    | _ => cases h

/-! ### a def's row -/
structure Row where
  n : Nat
  x : Str
  st : Stmt
  Nm : List Str
  ps : List Str
  g : FD
  lam : Bool
/-- a def that tries a lambda -/
structure TRow where
  n : Nat
  x : Str
  st : Stmt
  Nm : List Str
  a : Str
  t : Td
  cl : List (Str × D)
def scB (N P : List Str) (sc : Scope) : Bool := isFun sc && (!sc.isCoroutine && (!sc.isGenerator && (decide N.Nodup && (decide (N.take P.length = P) && ((P.all fun x => locB sc x) && sc.names.all fun y => decide (y.2 ≠ .free))))))
theorem scB_ok {N P : List Str} {sc : Scope} (h : scB N P sc = true) : FnScope N P sc := by
  unfold scB at h
  obtain ⟨h1, h⟩ := and2 h
  obtain ⟨h2, h⟩ := and2 h
  obtain ⟨h3, h⟩ := and2 h
  obtain ⟨h4, h⟩ := and2 h
  obtain ⟨h5, h⟩ := and2 h
  obtain ⟨h6, h7⟩ := and2 h
  exact ⟨isFun_ok h1, by simpa using h2, by simpa using h3, of_decide_eq_true h4, of_decide_eq_true h5, fun x hx => locB_ok (List.all_eq_true.mp h6 x hx), fun y hy => of_decide_eq_true (List.all_eq_true.mp h7 y hy)⟩
def rowB (B : Tb) (r : Row) : Bool := scB r.Nm r.ps (defScope r.st) && (simpleP (defArgs r.st) r.ps && (decide (r.g.arity = r.ps.length) && (decide (r.g.slots = r.Nm.length) && chkS { B with lam := r.lam } r.Nm (defScope r.st) (fun _ => true) r.g.body (.B (defBody r.st)))))
def tabOf (rs : List Row) : Tab := fun n => match rs.find? fun r => Nat.beq r.n n with
  | some r => some r.g
  | none => none
def trowB (t : TRow) : Bool := scB t.Nm [t.a] (defScope t.st) && (simpleP (defArgs t.st) [t.a] && (nodbg t.a && (locB (defScope t.st) t.a && tryB (defScope t.st) t.a t.cl t.t.fin (defBody t.st))))
/-- the tables of those that try -/
def tshapeB (B : Tb) (ts : List TRow) : Bool := (B.tds.all fun q => ts.any fun t => decide (t.x = q.2.1) && tdEq t.t q.2.2) && ts.all fun t => t.cl.all fun p => B.cls.any fun q => decide (q.2 = p.1)
/-- the tables' own shape: each number once -/
def shapeB (B : Tb) (rs : List Row) : Bool := (rs.all fun r => (match rs.find? fun q => Nat.beq q.n r.n with
    | some q => decide (q.x = r.x)
    | none => false)) && ((B.fns.all fun p => rs.any fun r => decide (r.n = p.1) && decide (r.x = p.2)) && ((B.fns.all fun p => decide (lookN p.1 B.fns = some p.2)) && B.cls.all fun p => decide (lookN p.1 B.cls = some p.2)))
def trowD (t : TRow) : He.DefD := ⟨(t.x, none), t.x, t.x, defArgs t.st, defBody t.st, defScope t.st, [], []⟩
def fnOfR (rs : List Row) (ts : List TRow) (rowD : Row → He.DefD) : List He.DefD := rs.map rowD ++ ts.map trowD
def tfOf (rs : List Row) : List He.Defn := (rs.filter fun r => r.lam).map fun r => (r.x, none)
def tabsOf (rs : List Row) (K : PySem.W.Frag) : List (Addr × Str) := (rs.filter fun r => r.lam).map fun r => ((He.cT K (r.x, none)).2, r.x ++ ".<locals>." ++ "<lambda>")
def rowD (r : Row) : He.DefD := ⟨(r.x, none), r.x, r.x, defArgs r.st, defBody r.st, defScope r.st, [], []⟩
/-- what the Hook is to tell -/
def faOf0 (B : Tb) (rs : List Row) : List He.Fa := (rs.map fun r => He.Fa.glo r.x) ++ (B.free.map He.Fa.free ++ (B.cls.map (fun p => He.Fa.glo p.2) ++ B.cls.map fun p => He.Fa.exc p.2))
def faOf (B : Tb) (rs : List Row) (ts : List TRow) : List He.Fa := faOf0 B rs ++ ts.map fun t => He.Fa.glo t.x
def exB0 (B : Tb) (K : PySem.W.Frag) : Bool := (B.csts.all fun p => match PySem.W.nsIn K mainGlobals p.1 with
    | some (some u) => cstB K 50 u p.2
    | _ => false) && B.mfn.all fun p => He.eqO (PySem.W.nsIn K mainGlobals p.1) (some (some (.builtin p.2)))
def nodupB : List Addr → Bool
  | [] => true
  | a :: r => !(r.any fun b => Nat.beq a b) && nodupB r
def clsOk (B : Tb) (K : PySem.W.Frag) (t : TRow) : Bool := t.t.at_.all fun p => match clsB K (He.ga K ((lookN p.1 B.cls).getD Str.empty)) t.cl, tdAt t.t.at_ p.1 with
  | some a, some b => dbeq 5 a b
  | _, _ => false
def exB (B : Tb) (rs : List Row) (ts : List TRow) (K : PySem.W.Frag) : Bool := exB0 B K && (nodupB ((tabsOf rs K).map (·.1)) && ts.all (clsOk B K))
theorem tdAt_mem {c : Nat} {d : D} : ∀ {l : List (Nat × D)}, tdAt l c = some d → ∃ e, (c, e) ∈ l
  | [], h => by cases h
  | (m, e) :: r, h => by
    unfold tdAt at h
    split at h
    · rename_i q
      rw [← Nat.eq_of_beq_eq_true q]
      exact ⟨e, List.mem_cons_self⟩
    · obtain ⟨e', h'⟩ := tdAt_mem h
      exact ⟨e', List.mem_cons_of_mem _ h'⟩
theorem tab_one {K : PySem.W.Frag} {rs : List Row} (h : nodupB ((tabsOf rs K).map (·.1)) = true) {p q : Addr × Str} (hp : p ∈ tabsOf rs K) (hq : q ∈ tabsOf rs K) (e : p.1 = q.1) : p = q := by
  revert h hp hq
  generalize tabsOf rs K = l
  intro h hp hq
  induction l with
  | nil => cases hp
  | cons a l ih =>
    obtain ⟨h1, h2⟩ := and2 (show ((!((l.map (·.1)).any fun b => Nat.beq a.1 b)) && nodupB (l.map (·.1))) = true from h)
    have no : ∀ b ∈ l, a.1 ≠ b.1 := fun b hb z => by
      rw [Bool.not_eq_true', List.any_eq_false] at h1
      exact h1 b.1 (List.mem_map.mpr ⟨b, hb, rfl⟩) (by rw [z]; exact Nat.beq_refl _)
    rcases List.mem_cons.mp hp with z1 | z1 <;> rcases List.mem_cons.mp hq with z2 | z2
    · rw [z1, z2]
    · rw [z1] at e; exact absurd e (no q z2)
    · rw [z2] at e; exact absurd e.symm (no p z1)
    · exact ih h2 z1 z2
def yOf (B : Tb) (rs : List Row) (K : PySem.W.Frag) : Fx where
  K := K
  T := tabsOf rs K
  fa := fun n => He.ga K ((lookN n B.fns).getD Str.empty)
  ca := fun n => He.ga K ((lookN n B.cls).getD Str.empty)
  kn := fun n => (lookN n B.fns).isSome
section
variable {B : Tb} {rs : List Row} {ts : List TRow} {K : PySem.W.Frag} {h : Heap} {mg : Str → Option Value} {w : World}
theorem tbOk_of (X : K.In h) (G : h.Ns mainGlobals mg) (c : He.SaysX (faOf B rs ts) (fnOfR rs ts rowD) [] (tfOf rs) (exB B rs ts) w h K) (hs : shapeB B rs = true) (hts : tshapeB B ts = true) (htr : ts.all trowB = true) : TbOk B (yOf B rs K) mg := by
  obtain ⟨s1, hs⟩ := and2 hs
  obtain ⟨s2, hs⟩ := and2 hs
  obtain ⟨s3, s4⟩ := and2 hs
  have cd : He.SaysD (faOf B rs ts) (fnOfR rs ts rowD) K := congrArg (fun z : He.AlT => z.1) c.t
  have hex := c.more
  obtain ⟨hex, hex2⟩ := and2 hex
  obtain ⟨x3, x4⟩ := and2 hex2
  obtain ⟨x1, x2⟩ := and2 hex
  have mfa : ∀ f, f ∈ faOf0 B rs → f.ok K = true := fun f hf => cd.facts (List.mem_append_left _ hf)
  have clsG : ∀ n x, (n, x) ∈ B.cls → mg x = some (.ref (He.ga K x)) := fun n x hn => He.glo_ok X G (mfa (.glo x) (List.mem_append_right _ (List.mem_append_right _ (List.mem_append_left _ (List.mem_map.mpr ⟨(n, x), hn, rfl⟩)))))
  refine ⟨fun n x hn => ?_, fun n hn => ?_, fun x d hx => ?_, fun x hx => ?_, fun x id hx => ?_, fun n x hn => ?_, fun n x td hn => ?_⟩
  · have e : lookN n B.fns = some x := of_decide_eq_true (List.all_eq_true.mp s3 (n, x) hn)
    have ea : (yOf B rs K).fa n = He.ga K x := by show He.ga K ((lookN n B.fns).getD Str.empty) = _; rw [e]; rfl
    obtain ⟨r, hr, hq⟩ := List.any_eq_true.mp (List.all_eq_true.mp s2 (n, x) hn)
    obtain ⟨q1, q2⟩ := and2 hq
    have ex : r.x = x := of_decide_eq_true q2
    have g := He.glo_ok X G (mfa (.glo r.x) (List.mem_append_left _ (List.mem_map.mpr ⟨r, hr, rfl⟩)))
    obtain ⟨fd, F⟩ := cd.defs (d := rowD r) (List.mem_append_left _ (List.mem_map.mpr ⟨r, hr, rfl⟩))
    have kp := F.kp
    rw [ea, ← ex]
    refine ⟨g, kp, ?_⟩
    show (lookN n B.fns).isSome = true
    rw [e]
    rfl
  · have hn : (lookN n B.fns).isSome = true := hn
    obtain ⟨x, e⟩ := Option.isSome_iff_exists.mp hn
    exact ⟨x, lookN_ok e⟩
  · have z := List.all_eq_true.mp x1 (x, d) hx
    have z : (match PySem.W.nsIn K mainGlobals x with
      | some (some u) => cstB K 50 u d
      | _ => false) = true := z
    split at z
    · rename_i u e
      obtain ⟨v, r, q⟩ := cstB_ok (Y := yOf B rs K) 50 u d z
      exact ⟨u, v, PySem.W.mg_of X G e, r, q⟩
    · cases z
  · exact He.free_ok X G (mfa (.free x) (List.mem_append_right _ (List.mem_append_left _ (List.mem_map.mpr ⟨x, hx, rfl⟩))))
  · exact PySem.W.mg_of X G (He.eqO_ok (List.all_eq_true.mp x2 (x, id) hx))
  · have e : lookN n B.cls = some x := of_decide_eq_true (List.all_eq_true.mp s4 (n, x) hn)
    have ea : (yOf B rs K).ca n = He.ga K x := by show He.ga K ((lookN n B.cls).getD Str.empty) = _; rw [e]; rfl
    have g := He.glo_ok X G (mfa (.glo x) (List.mem_append_right _ (List.mem_append_right _ (List.mem_append_left _ (List.mem_map.mpr ⟨(n, x), hn, rfl⟩)))))
    obtain ⟨q1, q2, q3, q4⟩ := He.exc_ok (mfa (.exc x) (List.mem_append_right _ (List.mem_append_right _ (List.mem_append_right _ (List.mem_map.mpr ⟨(n, x), hn, rfl⟩)))))
    rw [ea]
    exact ⟨_, _, _, _, PySem.F.excBase_ValueError, q1, g, q2, q3, q4⟩
  · obtain ⟨s5, s6⟩ := and2 hts
    obtain ⟨t, ht, hq⟩ := List.any_eq_true.mp (List.all_eq_true.mp s5 (n, x, td) hn)
    obtain ⟨q1, q2⟩ := and2 hq
    have ex : t.x = x := of_decide_eq_true q1
    have et : t.t = td := tdEq_ok q2
    subst ex et
    have g := He.glo_ok X G (cd.facts (f := .glo t.x) (List.mem_append_right _ (List.mem_map.mpr ⟨t, ht, rfl⟩)))
    obtain ⟨fd, F⟩ := cd.defs (d := trowD t) (List.mem_append_right _ (List.mem_map.mpr ⟨t, ht, rfl⟩))
    have F : FunD K t.x t.x (defArgs t.st) (defBody t.st) (defScope t.st) [] [] (He.ga K t.x) fd := F
    have hrow := List.all_eq_true.mp htr t ht
    obtain ⟨k1, hrow⟩ := and2 hrow
    obtain ⟨k2, hrow⟩ := and2 hrow
    obtain ⟨k3, hrow⟩ := and2 hrow
    obtain ⟨k4, k5⟩ := and2 hrow
    have S := scB_ok k1
    have hb := F.bindsN (ps := [t.a]) fun kV doc pm an cdv ct us hl => bind_plain k2 (by simp) kV doc pm an cdv ct us hl
    have kp := F.kp
    obtain ⟨oc, od, dV, kV, doc, pm, an, cdv, ct, osl, efd, lk, hcd, _, _⟩ := F.ex
    rw [efd] at hb lk
    have hpre : t.Nm.take 1 = [t.a] := S.pre
    have hN : t.Nm[0]? = some t.a := by
      cases q : t.Nm with
      | nil => rw [q] at hpre; cases hpre
      | cons y r => rw [q] at hpre; simpa using hpre
    refine ⟨_, t.a, _, _, _, dV, kV, doc, pm, cdv, ct, oc, an, od, osl, t.Nm, g, kp, lk, hcd, hb, S, hN, visB_ok (by
      unfold locB at k4
      unfold visB
      split at k4 <;> first
        | (rename_i e; rw [e])
        | cases k4), k3, fun X' q eK em => try_gives k5 (fun p hp => ?_) (fun cc d hd => ?_) fun f => ?_⟩
    · obtain ⟨cq, hcq, e⟩ := List.any_eq_true.mp (List.all_eq_true.mp (List.all_eq_true.mp s6 t ht) p hp)
      have e : cq.2 = p.1 := of_decide_eq_true e
      have z := clsG cq.1 cq.2 hcq
      rw [e] at z
      rw [em, eK]
      exact z
    · obtain ⟨e, he⟩ := tdAt_mem hd
      have z := List.all_eq_true.mp (List.all_eq_true.mp x4 t ht) (cc, e) he
      rw [eK]
      replace z : (match clsB K (He.ga K ((lookN cc B.cls).getD Str.empty)) t.cl, tdAt t.t.at_ cc with
        | some a, some b => dbeq 5 a b
        | _, _ => false) = true := z
      rw [hd] at z
      show clsB K (He.ga K ((lookN cc B.cls).getD Str.empty)) t.cl = some d
      cases q : clsB K (He.ga K ((lookN cc B.cls).getD Str.empty)) t.cl with
      | none => rw [q] at z; cases z
      | some a => rw [q] at z; rw [dbeq_eq 5 z]
    · unfold L2.start
      rfl
theorem tabs_nodup (c : He.SaysX (faOf B rs ts) (fnOfR rs ts rowD) [] (tfOf rs) (exB B rs ts) w h K) : nodupB ((tabsOf rs K).map (·.1)) = true := by
  obtain ⟨_, hex⟩ := and2 c.more
  exact (and2 hex).1
theorem defOk_of (c : He.SaysX (faOf B rs ts) (fnOfR rs ts rowD) [] (tfOf rs) (exB B rs ts) w h K) (hs : shapeB B rs = true) (hr : rs.all (rowB B) = true) : ∀ n x, (n, x) ∈ B.fns → Nonempty (DefOk (yOf B rs K) B (tabOf rs) (tfOf rs) n x) := by
  intro n x hn
  have nodT := tabs_nodup c
  obtain ⟨s1, hs⟩ := and2 hs
  obtain ⟨s2, hs⟩ := and2 hs
  obtain ⟨s3, s4⟩ := and2 hs
  have cd : He.SaysD (faOf B rs ts) (fnOfR rs ts rowD) K := congrArg (fun z : He.AlT => z.1) c.t
  have e : lookN n B.fns = some x := of_decide_eq_true (List.all_eq_true.mp s3 (n, x) hn)
  have ea : (yOf B rs K).fa n = He.ga K x := by show He.ga K ((lookN n B.fns).getD Str.empty) = _; rw [e]; rfl
  obtain ⟨r0, hr0, hq⟩ := List.any_eq_true.mp (List.all_eq_true.mp s2 (n, x) hn)
  obtain ⟨q1, q2⟩ := and2 hq
  have en : r0.n = n := of_decide_eq_true q1
  have ex : r0.x = x := of_decide_eq_true q2
  have z := List.all_eq_true.mp s1 r0 hr0
  cases ef : rs.find? fun q => Nat.beq q.n r0.n with
  | none => rw [ef] at z; cases z
  | some r =>
    rw [ef] at z
    have erx : r.x = x := (of_decide_eq_true z).trans ex
    have mr : r ∈ rs := List.mem_of_find?_eq_some ef
    have hrow := List.all_eq_true.mp hr r mr
    obtain ⟨k1, hrow⟩ := and2 hrow
    obtain ⟨k2, hrow⟩ := and2 hrow
    obtain ⟨k3, hrow⟩ := and2 hrow
    obtain ⟨k4, k5⟩ := and2 hrow
    have S := scB_ok k1
    obtain ⟨fd, F⟩ := cd.defs (d := rowD r) (List.mem_append_left _ (List.mem_map.mpr ⟨r, mr, rfl⟩))
    have F : FunD K r.x r.x (defArgs r.st) (defBody r.st) (defScope r.st) [] [] (He.ga K r.x) fd := F
    have nd : r.ps.Nodup := by
      rw [← S.pre]
      exact S.nd.sublist (List.take_sublist _ _)
    have hb := F.bindsN (ps := r.ps) fun kV doc pm an cdv ct us hl => bind_plain k2 nd kV doc pm an cdv ct us hl
    rw [erx] at F
    refine ⟨⟨r.st, r.Nm, r.ps, fd, r.g, ?_, by rw [ea]; exact F, hb, S, of_decide_eq_true k3, of_decide_eq_true k4, r.lam, k5, by rw [ea]; rfl, fun hl => List.mem_map.mpr ⟨r, List.mem_filter.mpr ⟨mr, hl⟩, by rw [erx]⟩, fun hl => ?_⟩⟩
    · show (match rs.find? fun r => Nat.beq r.n n with
        | some r => some r.g
        | none => none) = some r.g
      rw [← en, ef]
    · have mt : ((He.cT K (x, none)).2, x ++ ".<locals>." ++ "<lambda>") ∈ tabsOf rs K := List.mem_map.mpr ⟨r, List.mem_filter.mpr ⟨mr, hl⟩, by rw [erx]⟩
      exact ⟨mt, fun p hp e => congrArg (fun z : Addr × Str => z.2) (tab_one nodT hp mt e)⟩
end
end Px
end

section
set_option Elab.async false
set_option linter.all false
set_option maxRecDepth 100000
set_option maxHeartbeats 1000000
/-! Px: the law's own def, asked at a script. -/
namespace Px
open PySem PySem.Spec PyProof.Rows L2
theorem wd_nil {Y : Fx} {H : Hp} (hT : LamX.Tabs Y.T H) : Wd Y H ⟨[], []⟩ [] where
  len := rfl
  nd := List.nodup_nil
  od := List.nodup_nil
  op := fun a h => by cases h
  cell := fun i a ds h _ => by simp at h
  tabs := hT
theorem ints_repL {Y : Fx} {H : Hp} {as : Ad} : ∀ ns : List Int, RepL Y H as (ns.map .int) (ns.map V.int)
  | [] => .nil
  | _ :: ns => .cons (.int _) (ints_repL ns)
theorem lawAt {l : PySem.W.OpenLaw} {B : Tb} {rs : List Row} {ts : List TRow} {K : PySem.W.Frag} {h : Heap} {mg : Str → Option Value} {w : World} {nL m n : Nat} {xL x : Str} (X : K.In h) (G : h.Ns mainGlobals mg) (c : He.SaysX (faOf B rs ts) (fnOfR rs ts rowD) [] (tfOf rs) (exB B rs ts) w h K)
    (hs : shapeB B rs = true) (hts : tshapeB B ts = true) (htr : ts.all trowB = true) (hr : rs.all (rowB B) = true) (hn : n ≤ sizeLine) {r : Row} (hrow : rs.find? (fun q => Nat.beq q.n nL) = some r) (hx : r.x = xL) (hps : r.ps = [x]) (hL : (nL, xL) ∈ B.fns)
    (pure : ∀ ns : List Int, ns.length ≤ n → (∀ z ∈ ns, Builtin.Int.intBits z ≤ 1048576) → ∃ S, call (tabOf rs) m nL [.rl (ns.map .int)] [] = .ok (.bl true) S) (fa : Addr) (hfa : mg xL = some (.ref fa)) :
    LamX.LawAtS l w K (L2.CX l.prog w) m n x mg fa h := by
  have htb := tbOk_of X G c hs hts htr
  have hf := defOk_of c hs hr
  obtain ⟨g1, _, _⟩ := htb.fn nL xL hL
  have ef : fa = (yOf B rs K).fa nL := by
    rw [hfa] at g1
    injection g1 with g1
    injection g1
  have cd : He.SaysD (faOf B rs ts) (fnOfR rs ts rowD) K := congrArg (fun z : He.AlT => z.1) c.t
  have mr : r ∈ rs := List.mem_of_find?_eq_some hrow
  have hro := List.all_eq_true.mp hr r mr
  obtain ⟨k1, hro⟩ := and2 hro
  obtain ⟨k2, hro⟩ := and2 hro
  obtain ⟨k3, hro⟩ := and2 hro
  obtain ⟨k4, k5⟩ := and2 hro
  have S := scB_ok k1
  obtain ⟨fd, F⟩ := cd.defs (d := rowD r) (List.mem_append_left _ (List.mem_map.mpr ⟨r, mr, rfl⟩))
  have F : FunD K r.x r.x (defArgs r.st) (defBody r.st) (defScope r.st) [] [] (He.ga K r.x) fd := F
  have nd : r.ps.Nodup := by
    rw [← S.pre]
    exact S.nd.sublist (List.take_sublist _ _)
  have hb := F.bindsN (ps := r.ps) fun kV doc pm an cdv ct us hl => bind_plain k2 nd kV doc pm an cdv ct us hl
  have hbA := F.bindsA (ps := r.ps) fun kV doc pm an cdv ct us hl => bind_plain k2 nd kV doc pm an cdv ct us hl
  have e : lookN nL B.fns = some xL := by
    obtain ⟨s1, hs⟩ := and2 hs
    obtain ⟨s2, hs⟩ := and2 hs
    obtain ⟨s3, s4⟩ := and2 hs
    exact of_decide_eq_true (List.all_eq_true.mp s3 (nL, xL) hL)
  have ea : (yOf B rs K).fa nL = He.ga K xL := by show He.ga K ((lookN nL B.fns).getD Str.empty) = _; rw [e]; rfl
  rw [hx] at F
  have nodT := tabs_nodup c
  let d : DefOk (yOf B rs K) B (tabOf rs) (tfOf rs) nL xL := ⟨r.st, r.Nm, r.ps, fd, r.g, by
    show (match rs.find? fun r => Nat.beq r.n nL with
      | some r => some r.g
      | none => none) = some r.g
    rw [hrow], by rw [ea]; exact F, hb, S, of_decide_eq_true k3, of_decide_eq_true k4, r.lam, k5, by rw [ea]; rfl, fun hl => List.mem_map.mpr ⟨r, List.mem_filter.mpr ⟨mr, hl⟩, by rw [hx]⟩, fun hl => by
      have mt : ((He.cT K (xL, none)).2, xL ++ ".<locals>." ++ "<lambda>") ∈ tabsOf rs K := List.mem_map.mpr ⟨r, List.mem_filter.mpr ⟨mr, hl⟩, by rw [hx]⟩
      exact ⟨mt, fun p hp e => congrArg (fun z : Addr × Str => z.2) (tab_one nodT hp mt e)⟩⟩
  refine ⟨fd, (tfOf rs).map (He.cT K), spC (yOf B rs K) (call (tabOf rs) m nL), fun p hp => ?_, fun p hp => ?_, fun p hp => ?_, fun s u => ?_, fun H a ns hlen hbits htab hS => ?_, fun base hK hG hTB => ?_⟩
  · obtain ⟨q, hq, e⟩ := List.mem_map.mp hp
    rw [← e]
    exact c.empty q hq
  · obtain ⟨q, hq, e⟩ := List.mem_map.mp hp
    rw [← e]
    exact c.out q hq
  · obtain ⟨q, hq, e⟩ := List.mem_map.mp hp
    rw [← e]
    exact PySem.W.codeHd_of_K X (c.hd q hq)
  · have z := hbA s [u] (by rw [hps]; rfl)
    rw [hps] at z
    exact z
  · obtain ⟨S1, e1⟩ := pure ns hlen hbits
    refine ⟨[.rl (ns.map .int)], ⟨[], []⟩, [], wd_nil (fun p hp => ?_), .cons (.rl ?_ (by rw [List.length_map]; omega) (ints_repL ns)) .nil, ?_⟩
    · obtain ⟨r', hr', e1⟩ := List.mem_map.mp (show p ∈ tabsOf rs K from hp)
      rw [← e1]
      exact LamX.TabS.nil (htab (He.cT K (r'.x, none)) (List.mem_map.mpr ⟨(r'.x, none), List.mem_map.mpr ⟨r', hr', rfl⟩, rfl⟩))
    · rcases hS with (hS | hS) | hS
      · exact .inr ⟨hS, fun hm => by rcases hm with hm | hm <;> cases hm⟩
      · exact .inl (.inl hS)
      · exact .inl (.inr hS)
    · rw [e1]
      intro v H' as' _ _ rv
      cases rv
      rfl
  · have z := allOk (P := l.prog) (w := w) (base := base) htb hf (fun q hq => hTB _ (List.mem_map.mpr ⟨q, hq, rfl⟩)) m nL xL hL d
    rw [ef]
    rw [← hps]
    exact z
theorem cx_none (P : PySem.Program) (w : World) (H : Hp) (s : Shared) (e : Value) (s' : Shared) : L2.CX P w [] H s (fun _ _ _ => False) e s' → False := by
  rintro ⟨a, B, H', cls, d, _, _, _, _, _, _, _, z⟩
  exact z
end Px
end

section
set_option Elab.async false
set_option linter.all false
set_option maxRecDepth 100000
set_option maxHeartbeats 1000000
/-! Px: reasoning about our meaning, no machine in sight. -/
namespace Px
open PySem (Str PyData)

/-- how long a while may turn -/
def whN : Nat := 2 ^ 100000

/-! ### what comes out -/
def Wp {α : Type} (r : R α) (Q : α → Sto → Prop) : Prop := match r with
  | .ok a s => Q a s
  | _ => False
@[simp] theorem wp_ok {α : Type} (a : α) (s : Sto) (Q : α → Sto → Prop) : Wp (.ok a s) Q ↔ Q a s := Iff.rfl
@[simp] theorem wp_bad {α : Type} (Q : α → Sto → Prop) : Wp (.bad : R α) Q ↔ False := Iff.rfl
@[simp] theorem wp_bind {α β : Type} (r : R α) (f : α → Sto → R β) (Q : β → Sto → Prop) : Wp (r.bind f) Q ↔ Wp r fun a s => Wp (f a s) Q := by
  cases r <;> exact Iff.rfl
@[simp] theorem wp_calm {α β : Type} (r : R α) (f : α → Sto → R β) (Q : β → Sto → Prop) : Wp (r.calm f) Q ↔ Wp r fun a s => Wp (f a s) Q := by
  cases r <;> exact Iff.rfl
@[simp] theorem wp_ite {α : Type} (c : Prop) [Decidable c] (a b : R α) (Q : α → Sto → Prop) : Wp (if c then a else b) Q ↔ (if c then Wp a Q else Wp b Q) := by
  split <;> exact Iff.rfl
theorem Wp.mono {α : Type} {r : R α} {Q Q' : α → Sto → Prop} (h : Wp r Q) (k : ∀ a s, Q a s → Q' a s) : Wp r Q' := by
  cases r with
  | ok a s => exact k a s h
  | exc c s => exact h
  | bad => exact h
theorem wp_eq {α : Type} {r : R α} {a : α} {s : Sto} (h : r = .ok a s) (Q : α → Sto → Prop) : Wp r Q ↔ Q a s := by rw [h]; exact Iff.rfl
/-- statements: N what follows, T what is returned -/
def Wf (r : F) (N : Env → Sto → Prop) (T : D → Sto → Prop) : Prop := match r with
  | .nx ρ s => N ρ s
  | .rt d s => T d s
  | _ => False
@[simp] theorem wf_nx (ρ : Env) (s : Sto) (N : Env → Sto → Prop) (T : D → Sto → Prop) : Wf (.nx ρ s) N T ↔ N ρ s := Iff.rfl
@[simp] theorem wf_rt (d : D) (s : Sto) (N : Env → Sto → Prop) (T : D → Sto → Prop) : Wf (.rt d s) N T ↔ T d s := Iff.rfl
@[simp] theorem wf_bad (N : Env → Sto → Prop) (T : D → Sto → Prop) : Wf .bad N T ↔ False := Iff.rfl
@[simp] theorem wf_ex (c : Nat) (ρ : Env) (s : Sto) (N : Env → Sto → Prop) (T : D → Sto → Prop) : Wf (.ex c ρ s) N T ↔ False := Iff.rfl
@[simp] theorem wf_seq (r : F) (f : Env → Sto → F) (N : Env → Sto → Prop) (T : D → Sto → Prop) : Wf (r.seq f) N T ↔ Wf r (fun ρ s => Wf (f ρ s) N T) T := by
  cases r <;> exact Iff.rfl
@[simp] theorem wf_fl (r : R D) (ρ : Env) (f : D → Sto → F) (N : Env → Sto → Prop) (T : D → Sto → Prop) : Wf (r.fl ρ f) N T ↔ Wp r fun d s => Wf (f d s) N T := by
  cases r <;> exact Iff.rfl
@[simp] theorem wf_ite (c : Prop) [Decidable c] (a b : F) (N : Env → Sto → Prop) (T : D → Sto → Prop) : Wf (if c then a else b) N T ↔ (if c then Wf a N T else Wf b N T) := by
  split <;> exact Iff.rfl
theorem Wf.mono {r : F} {N N' : Env → Sto → Prop} {T T' : D → Sto → Prop} (h : Wf r N T) (kn : ∀ ρ s, N ρ s → N' ρ s) (kt : ∀ d s, T d s → T' d s) : Wf r N' T' := by
  cases r with
  | nx ρ s => exact kn ρ s h
  | rt d s => exact kt d s h
  | _ => exact h
@[simp] theorem wp_endF (r : F) (T : D → Sto → Prop) : Wp (endF r) T ↔ Wf r (fun _ s => T .non s) T := by
  cases r <;> exact Iff.rfl
/-- a def is called -/
theorem call_eq {G : Tab} {n : Nat} {g : FD} (hg : G n = some g) (k : Nat) (as : List D) (s : Sto) : call G (k + 1) n as s = if as.length = g.arity then endF (ex g.body ⟨call G k, low G k⟩ (as.map some ++ List.replicate (g.slots - g.arity) none) s) else .bad := by
  show (match G n with
    | some f => if as.length = f.arity then endF (ex f.body ⟨call G k, low G k⟩ (as.map some ++ List.replicate (f.slots - f.arity) none) s) else .bad
    | none => .bad) = _
  rw [hg]
/-- a loop by an invariant over what is left -/
theorem wf_forL {f : D → Env → Sto → F} {N : Env → Sto → Prop} {T : D → Sto → Prop} (I : List D → Env → Sto → Prop) : ∀ {xs : List D} {ρ : Env} {s : Sto}, I xs ρ s → (∀ ρ s, I [] ρ s → N ρ s) →
    (∀ x xs ρ s, I (x :: xs) ρ s → Wf (f x ρ s) (I xs) T) → Wf (forL f xs ρ s) N T
  | [], ρ, s, h, hd, _ => hd ρ s h
  | x :: xs, ρ, s, h, hd, hs => by
    show Wf ((f x ρ s).turn (forL f xs)) N T
    have q := hs x xs ρ s h
    cases e : f x ρ s with
    | nx ρ' s' =>
      rw [e] at q
      exact wf_forL I q hd hs
    | rt d s' =>
      rw [e] at q
      exact q
    | bk ρ' s' => rw [e] at q; exact q.elim
    | ct ρ' s' => rw [e] at q; exact q.elim
    | ex c ρ' s' => rw [e] at q; exact q.elim
    | bad => rw [e] at q; exact q.elim
/-- a comprehension that leaves the store, each item by a function -/
theorem wp_compL {f : D → Sto → R (Option D)} {g : D → Option D} {s : Sto} : ∀ {xs acc : List D}, (∀ x ∈ xs, f x s = .ok (g x) s) → compL f xs acc s = .ok (acc ++ xs.filterMap g) s
  | [], acc, _ => by simp [compL]
  | x :: xs, acc, h => by
    show (f x s).calm _ = _
    rw [h x List.mem_cons_self]
    show (match g x with
      | some y => compL f xs (acc ++ [y]) s
      | none => compL f xs acc s) = _
    have ih := fun acc => wp_compL (f := f) (g := g) (s := s) (xs := xs) (acc := acc) fun y hy => h y (List.mem_cons_of_mem _ hy)
    cases e : g x with
    | none =>
      rw [List.filterMap_cons, e]
      exact ih acc
    | some y =>
      rw [List.filterMap_cons, e]
      show compL f xs (acc ++ [y]) s = _
      rw [ih, List.append_assoc]
      rfl

/-! ### our meaning, row by row -/
/-- by a truth -/
def onB {α : Type} (x : D) (t f e : α) : α := match x with
  | .bl true => t
  | .bl false => f
  | _ => e
@[simp] theorem onB_bl {α : Type} (b : Bool) (t f e : α) : onB (.bl b) t f e = if b = true then t else f := by cases b <;> rfl
section
variable {P : PC} {ρ : Env} {s : Sto}
@[simp] theorem den_var (i : Nat) : den (.var i) P ρ s = match ρ[i]? with
    | some (some d) => .ok d s
    | _ => .bad := rfl
@[simp] theorem den_c (d : D) : den (.c d) P ρ s = .ok d s := rfl
@[simp] theorem den_gl (n : Nat) : den (.gl n) P ρ s = .ok (.fn n) s := rfl
@[simp] theorem den_nil : den .nil P ρ s = .ok (.lst []) s := rfl
/-- arguments -/
def consD (x : D) (ys : D) (s : Sto) : R D := match ys with
  | .lst xs => .ok (.lst (x :: xs)) s
  | _ => .bad
@[simp] theorem consD_lst (x : D) (xs : List D) : consD x (.lst xs) s = .ok (.lst (x :: xs)) s := rfl
/-- what takes a list of arguments -/
def onL {α : Type} (ys : D) (f : List D → R α) : R α := match ys with
  | .lst xs => f xs
  | _ => .bad
@[simp] theorem onL_lst {α : Type} (xs : List D) (f : List D → R α) : onL (.lst xs) f = f xs := rfl
@[simp] theorem den_cons (a r : RE) : den (.cons a r) P ρ s = (den a P ρ s).bind fun x s => (den r P ρ s).bind fun ys s => consD x ys s := rfl
@[simp] theorem den_tup (l : RE) : den (.tup l) P ρ s = (den l P ρ s).bind fun ys s => onL ys fun xs => .ok (.tup xs) s := rfl
@[simp] theorem den_lst (mu : Bool) (l : RE) : den (.lst mu l) P ρ s = (den l P ρ s).bind fun ys s => onL ys fun xs => allocL mu xs s := rfl
@[simp] theorem den_bin (op : Bo) (mu : Bool) (a b : RE) : den (.bin op mu a b) P ρ s = (den a P ρ s).bind fun x s => (den b P ρ s).bind fun y s => binD op mu x y s := rfl
def negD (x : D) (s : Sto) : R D := match x with
  | .int i => .ok (.int (-i)) s
  | _ => .bad
@[simp] theorem negD_int (i : Int) : negD (.int i) s = .ok (.int (-i)) s := rfl
@[simp] theorem den_neg (a : RE) : den (.neg a) P ρ s = (den a P ρ s).bind fun x s => negD x s := rfl
@[simp] theorem den_cmp (op : Co) (a b : RE) : den (.cmp op a b) P ρ s = (den a P ρ s).bind fun x s => (den b P ρ s).bind fun y s => cmpD op x y s := rfl
@[simp] theorem den_chain (o1 o2 : Co) (a b c : RE) : den (.chain o1 o2 a b c) P ρ s = (den a P ρ s).bind fun x s => (den b P ρ s).bind fun y s => (cmpD o1 x y s).bind fun t s => onB t ((den c P ρ s).bind fun z s => cmpD o2 y z s) (.ok (.bl false) s) .bad := rfl
@[simp] theorem den_and (a b : RE) : den (.and a b) P ρ s = (den a P ρ s).bind fun x s => onB x (den b P ρ s) (.ok (.bl false) s) .bad := rfl
@[simp] theorem den_or (a b : RE) : den (.or a b) P ρ s = (den a P ρ s).bind fun x s => onB x (.ok (.bl true) s) (den b P ρ s) .bad := rfl
def notD' (x : D) (s : Sto) : R D := match x with
  | .bl b => .ok (.bl (!b)) s
  | _ => .bad
@[simp] theorem notD'_bl (b : Bool) : notD' (.bl b) s = .ok (.bl (!b)) s := rfl
@[simp] theorem den_not (a : RE) : den (.not a) P ρ s = (den a P ρ s).bind fun x s => notD' x s := rfl
@[simp] theorem den_ite (c a b : RE) : den (.ite c a b) P ρ s = (den c P ρ s).bind fun x s => onB x (den a P ρ s) (den b P ρ s) .bad := rfl
@[simp] theorem den_call (n : Nat) (l : RE) : den (.call n l) P ρ s = (den l P ρ s).bind fun ys s => onL ys fun xs => P.call n xs s := rfl
@[simp] theorem den_bi (b : Bi) (mu : Bool) (l : RE) : den (.bi b mu l) P ρ s = (den l P ρ s).bind fun ys s => onL ys fun xs => biD b mu xs s := rfl
@[simp] theorem den_isi (a : RE) (t : Ty) : den (.isi a t) P ρ s = (den a P ρ s).bind fun x s => ob (isiD x t) s := rfl
@[simp] theorem den_sub (a i : RE) : den (.sub a i) P ρ s = (den a P ρ s).bind fun x s => (den i P ρ s).bind fun y s => subD x y s := rfl
def partR {α : Type} (o : Option (Option Int)) (f : Option Int → R α) : R α := match o with
  | some l => f l
  | none => .bad
@[simp] theorem partR_some {α : Type} (o : Option Int) (f : Option Int → R α) : partR (some o) f = f o := rfl
@[simp] theorem den_slc (mu : Bool) (a lo hi : RE) : den (.slc mu a lo hi) P ρ s = (den a P ρ s).bind fun x s => (den lo P ρ s).bind fun l s => partR (partO l) fun l => (den hi P ρ s).bind fun h s => partR (partO h) fun h => slcD mu x l h s := rfl
@[simp] theorem den_rev (mu : Bool) (a : RE) : den (.rev mu a) P ρ s = (den a P ρ s).bind fun x s => revD mu x s := rfl
def onC {α : Type} (x : D) (f : Nat → R α) : R α := match x with
  | .cel i => f i
  | _ => .bad
@[simp] theorem onC_cel {α : Type} (i : Nat) (f : Nat → R α) : onC (.cel i) f = f i := rfl
@[simp] theorem den_meth (m : Me) (a l : RE) : den (.meth m a l) P ρ s = (den a P ρ s).bind fun x s => onC x fun i => (den l P ρ s).bind fun ys s => onL ys fun xs => meD m i xs s := rfl
@[simp] theorem den_comp (mu : Bool) (elt : RE) (own : List Nat) (tg : Tg) (it cond : RE) : den (.comp mu elt own tg it cond) P ρ s = (den it P ρ s).bind (compZ (itemZ (den cond P) (den elt P) own tg ρ) mu) := rfl
def seqI (x : D) (s : Sto) : R D := match x with
  | .tup xs => .ok (.lst xs) s
  | .lst xs => .ok (.lst xs) s
  | .rl xs => .ok (.lst xs) s
  | .cel i => .ok (.cel i) s
  | _ => .bad
@[simp] theorem seqI_tup (xs : List D) : seqI (.tup xs) s = .ok (.lst xs) s := rfl
@[simp] theorem seqI_lst (xs : List D) : seqI (.lst xs) s = .ok (.lst xs) s := rfl
@[simp] theorem seqI_rl (xs : List D) : seqI (.rl xs) s = .ok (.lst xs) s := rfl
@[simp] theorem seqI_cel (i : Nat) : seqI (.cel i) s = .ok (.cel i) s := rfl
@[simp] theorem den_seq (a : RE) : den (.seq a) P ρ s = (den a P ρ s).bind fun x s => seqI x s := rfl
@[simp] theorem den_rng (l : RE) : den (.rng l) P ρ s = (den l P ρ s).bind fun ys s => onL ys fun xs => rngD xs s := rfl
@[simp] theorem den_zip (a b : RE) : den (.zip a b) P ρ s = (den a P ρ s).bind fun x s => (den b P ρ s).bind fun y s => zipD x y s := rfl
@[simp] theorem den_enum (a : RE) : den (.enum a) P ρ s = (den a P ρ s).bind fun x s => enumD x s := rfl
@[simp] theorem den_lset (a : RE) : den (.lset a) P ρ s = (den a P ρ s).bind fun x s => lsetD x s := rfl
/-- a turn of a comprehension -/
def envR {α : Type} (o : Option Env) (f : Env → R α) : R α := match o with
  | some ρ => f ρ
  | none => .bad
@[simp] theorem envR_some {α : Type} (ρ : Env) (f : Env → R α) : envR (some ρ) f = f ρ := rfl
theorem itemZ_eq (c e : Env → Sto → R D) (own : List Nat) (tg : Tg) (y : D) : itemZ c e own tg ρ y s = envR (setT s tg y (wipe ρ own)) fun ρ' => (c ρ' s).bind fun t s => onB t ((e ρ' s).bind fun z s => .ok (some z) s) (.ok none s) .bad := rfl
@[simp] theorem compZ_lst (f : D → Sto → R (Option D)) (mu : Bool) (xs : List D) : compZ f mu (.lst xs) s = if fit xs.length = true then (compL f xs [] s).bind fun ys s => allocL mu ys s else .bad := rfl
@[simp] theorem setT_nameD (i : Nat) (d : D) : setT s (.name i) d ρ = some (ρ.set i (some d)) := rfl
def envO (o : Option (List D)) (f : List D → Option Env) : Option Env := match o with
  | some xs => f xs
  | none => none
@[simp] theorem envO_some (xs : List D) (f : List D → Option Env) : envO (some xs) f = f xs := rfl
@[simp] theorem setT_tup (l : Tg) (d : D) : setT s (.tup l) d ρ = envO (seqOf s d) fun xs => setT.setTs s l xs ρ := rfl
@[simp] theorem setTs_nil : setT.setTs s .nil [] ρ = some ρ := rfl
def envE (o : Option Env) (f : Env → Option Env) : Option Env := match o with
  | some ρ => f ρ
  | none => none
@[simp] theorem envE_some (f : Env → Option Env) : envE (some ρ) f = f ρ := rfl
@[simp] theorem setTs_cons (a r : Tg) (x : D) (xs : List D) : setT.setTs s (.cons a r) (x :: xs) ρ = envE (setT s a x ρ) fun ρ' => setT.setTs s r xs ρ' := rfl
@[simp] theorem allocL_no (xs : List D) : allocL false xs s = .ok (.lst xs) s := rfl
@[simp] theorem allocL_yes (xs : List D) : allocL true xs s = .ok (.cel s.length) (s ++ [xs]) := rfl
@[simp] theorem ob_some (b : Bool) : ob (some b) s = .ok (.bl b) s := rfl
/-! statements -/
@[simp] theorem ex_pass : ex .pass P ρ s = .nx ρ s := rfl
@[simp] theorem ex_seq (a b : RS) : ex (.seq a b) P ρ s = (ex a P ρ s).seq (ex b P) := rfl
def envF (o : Option Env) (f : Env → F) : F := match o with
  | some ρ => f ρ
  | none => .bad
@[simp] theorem envF_some (f : Env → F) : envF (some ρ) f = f ρ := rfl
@[simp] theorem ex_set (tg : Tg) (e : RE) : ex (.set tg e) P ρ s = (den e P ρ s).fl ρ fun d s => envF (setT s tg d ρ) fun ρ' => .nx ρ' s := rfl
@[simp] theorem ex_ret (e : RE) : ex (.ret e) P ρ s = (den e P ρ s).fl ρ fun d s => .rt d s := rfl
@[simp] theorem ex_ifs (c : RE) (a b : RS) : ex (.ifs c a b) P ρ s = (den c P ρ s).fl ρ fun x s => onB x (ex a P ρ s) (ex b P ρ s) .bad := rfl
@[simp] theorem ex_drop (e : RE) : ex (.drop e) P ρ s = (den e P ρ s).fl ρ fun _ s => .nx ρ s := rfl
@[simp] theorem ex_raise (n : Nat) : ex (.raise n) P ρ s = .ex n ρ s := rfl
/-- a loop's turn -/
def turnF (f : Env → Sto → F) (tg : Tg) : D → Env → Sto → F := fun y ρ s => envF (setT s tg y ρ) fun ρ' => f ρ' s
def walkF (f : D → Env → Sto → F) (x : D) (ρ : Env) (s : Sto) : F := match x with
  | .lst xs => forL f xs ρ s
  | x => match gOf x with
    | some g => match g s with
      | some xs => forM f g xs.length 0 ρ s
      | none => .bad
    | none => .bad
@[simp] theorem walkF_lst (f : D → Env → Sto → F) (xs : List D) : walkF f (.lst xs) ρ s = forL f xs ρ s := rfl
@[simp] theorem ex_for (tg : Tg) (it : RE) (body : RS) : ex (.for tg it body) P ρ s = (den it P ρ s).fl ρ fun x s => walkF (turnF (ex body P) tg) x ρ s := rfl
@[simp] theorem ex_wh (n : Nat) (c : RE) (body : RS) : ex (.wh n c body) P ρ s = whL (den c P) (ex body P) n ρ s := rfl
theorem whL_succ (c : Env → Sto → R D) (b : Env → Sto → F) (n : Nat) : whL c b (n + 1) ρ s = (c ρ s).fl ρ fun x s => onB x ((b ρ s).turn (whL c b n)) (.nx ρ s) .bad := rfl
def stoF (o : Option Sto) (f : Sto → F) : F := match o with
  | some s => f s
  | none => .bad
@[simp] theorem stoF_some (f : Sto → F) : stoF (some s) f = f s := rfl
@[simp] theorem ex_put (a i e : RE) : ex (.put a i e) P ρ s = (den e P ρ s).fl ρ fun d s => (den a P ρ s).fl ρ fun x s => (den i P ρ s).fl ρ fun k s => stoF (setL s x k d) fun s' => .nx ρ s' := rfl
@[simp] theorem bind_ite {α β : Type} (c : Prop) [Decidable c] (a b : R α) (f : α → Sto → R β) : (if c then a else b).bind f = if c then a.bind f else b.bind f := by split <;> rfl
@[simp] theorem fl_ite (c : Prop) [Decidable c] (a b : R D) (f : D → Sto → F) : (if c then a else b).fl ρ f = if c then a.fl ρ f else b.fl ρ f := by split <;> rfl
end
@[simp] theorem binD_add (mu : Bool) (i j : Int) (s : Sto) : binD .add mu (.int i) (.int j) s = .ok (.int (i + j)) s := rfl
@[simp] theorem binD_sub (mu : Bool) (i j : Int) (s : Sto) : binD .sub mu (.int i) (.int j) s = .ok (.int (i - j)) s := rfl
@[simp] theorem binD_mul (mu : Bool) (i j : Int) (s : Sto) : binD .mul mu (.int i) (.int j) s = if mulOk i j = true then .ok (.int (i * j)) s else .bad := rfl
@[simp] theorem binD_fdiv (mu : Bool) (i j : Int) (s : Sto) : binD .fdiv mu (.int i) (.int j) s = if 0 < j then (if divOk j = true then .ok (.int (i / j)) s else .bad) else if j < 0 then (if divOk j = true then .ok (.int (i.fdiv j)) s else .bad) else .bad := rfl
@[simp] theorem binD_mod (mu : Bool) (i j : Int) (s : Sto) : binD .mod mu (.int i) (.int j) s = if 0 < j then .ok (.int (i % j)) s else if j < 0 then .ok (.int (i.fmod j)) s else .bad := rfl
@[simp] theorem binD_pow (mu : Bool) (i j : Int) (s : Sto) : binD .pow mu (.int i) (.int j) s = if powOk i j = true then .ok (.int (i ^ j.toNat)) s else .bad := rfl
@[simp] theorem cmpD_eq_int (i j : Int) (s : Sto) : cmpD .eq (.int i) (.int j) s = .ok (.bl (decide (i = j))) s := rfl
@[simp] theorem cmpD_ne_int (i j : Int) (s : Sto) : cmpD .ne (.int i) (.int j) s = .ok (.bl (!decide (i = j))) s := rfl
@[simp] theorem cmpD_lt_int (i j : Int) (s : Sto) : cmpD .lt (.int i) (.int j) s = .ok (.bl (decide (i < j))) s := rfl
@[simp] theorem cmpD_le_int (i j : Int) (s : Sto) : cmpD .le (.int i) (.int j) s = .ok (.bl (decide (i ≤ j))) s := rfl
@[simp] theorem cmpD_gt_int (i j : Int) (s : Sto) : cmpD .gt (.int i) (.int j) s = .ok (.bl (decide (j < i))) s := rfl
@[simp] theorem cmpD_ge_int (i j : Int) (s : Sto) : cmpD .ge (.int i) (.int j) s = .ok (.bl (decide (j ≤ i))) s := rfl
@[simp] theorem cmpD_isN (x : D) (s : Sto) : cmpD .isN x .non s = .ok (.bl (isNon x)) s := rfl
@[simp] theorem cmpD_isNot (x : D) (s : Sto) : cmpD .isNot x .non s = .ok (.bl (!isNon x)) s := rfl
@[simp] theorem cmpD_isB (a b : Bool) (s : Sto) : cmpD .isN (.bl a) (.bl b) s = .ok (.bl (decide (a = b))) s := rfl
@[simp] theorem cmpD_isNotB (a b : Bool) (s : Sto) : cmpD .isNot (.bl a) (.bl b) s = .ok (.bl (!decide (a = b))) s := rfl
@[simp] theorem cmpD_in (x y : D) (s : Sto) : cmpD .isin x y s = ob (inD s x y) s := rfl
@[simp] theorem cmpD_notin (x y : D) (s : Sto) : cmpD .notin x y s = ob ((inD s x y).map (!·)) s := rfl
@[simp] theorem cmpD_eq_tup (x y : List D) (s : Sto) : cmpD .eq (.tup x) (.tup y) s = ob (eqD s (.tup x) (.tup y)) s := rfl
@[simp] theorem cmpD_ne_tup (x y : List D) (s : Sto) : cmpD .ne (.tup x) (.tup y) s = ob ((eqD s (.tup x) (.tup y)).map (!·)) s := rfl
@[simp] theorem cmpD_eq_lst (x y : List D) (s : Sto) : cmpD .eq (.lst x) (.lst y) s = ob (eqD s (.lst x) (.lst y)) s := rfl
@[simp] theorem cmpD_ne_lst (x y : List D) (s : Sto) : cmpD .ne (.lst x) (.lst y) s = ob ((eqD s (.lst x) (.lst y)).map (!·)) s := rfl

/-! ### bounds -/
class Bd (n : outParam Nat) (x : Int) : Prop where
  lt : x.natAbs < 2 ^ n
theorem Bd.up {m n : Nat} {x : Int} (h : Bd m x) (k : m ≤ n) : Bd n x := ⟨Nat.lt_of_lt_of_le h.lt (Nat.pow_le_pow_right (by decide) k)⟩
instance {m n : Nat} {a b : Int} [ha : Bd m a] [hb : Bd n b] : Bd (m + n) (a * b) := ⟨by
  rw [Int.natAbs_mul, Nat.pow_add]
  exact Nat.mul_lt_mul'' ha.lt hb.lt⟩
theorem pow_two_le (m n : Nat) : 2 ^ m + 2 ^ n ≤ 2 ^ (m + n + 1) := by
  have h1 : 2 ^ m ≤ 2 ^ (m + n) := Nat.pow_le_pow_right (by decide) (by omega)
  have h2 : 2 ^ n ≤ 2 ^ (m + n) := Nat.pow_le_pow_right (by decide) (by omega)
  rw [Nat.pow_succ]
  omega
instance {m n : Nat} {a b : Int} [ha : Bd m a] [hb : Bd n b] : Bd (m + n + 1) (a + b) := ⟨by
  have h := pow_two_le m n
  have := ha.lt
  have := hb.lt
  omega⟩
instance {m n : Nat} {a b : Int} [ha : Bd m a] [hb : Bd n b] : Bd (m + n + 1) (a - b) := ⟨by
  have h := pow_two_le m n
  have := ha.lt
  have := hb.lt
  omega⟩
instance {n : Nat} {a : Int} [ha : Bd n a] : Bd n (-a) := ⟨by rw [Int.natAbs_neg]; exact ha.lt⟩
theorem log_lt {n : Nat} {x : Int} (h : Bd n x) : x.natAbs.log2 ≤ n := by
  by_cases z : x.natAbs = 0
  · rw [z]; simp
  · have := (Nat.log2_lt z).mpr h.lt
    omega
theorem mul_ok {m n : Nat} {a b : Int} [ha : Bd m a] [hb : Bd n b] (h : m + n < 134217000) : mulOk a b = true := by
  have := log_lt ha
  have := log_lt hb
  exact decide_eq_true (by omega)
theorem div_ok {n : Nat} {b : Int} [hb : Bd n b] (h : n < 9000) : divOk b = true := by
  have := log_lt hb
  exact decide_eq_true (by omega)
end Px
end

section
set_option Elab.async false
set_option linter.all false
set_option maxRecDepth 100000
set_option maxHeartbeats 1000000
/-! Px: the laws' own helpers: the cup of draws, a draw, one of many, the sort of a value, likeness. -/
namespace Px
open PySem (Str PyData)
def b_cup : RS := (.seq (.set (.name 1) (.bi .abs false (.cons (.sub (.bin .add false (.bi .list false (.cons (.var 0) .nil)) (.lst false (.cons (.c (.int 0)) .nil))) (.c (.int 0))) .nil))) (.seq (.ret (.lst true (.cons (.ite (.cmp .ge (.var 1) (.bin .pow false (.c (.int 10)) (.c (.int 18)))) (.bin .fdiv false (.var 1) (.c (.int 181))) (.c (.int 0))) (.cons (.bin .add false (.bin .mod false (.bi .int false (.cons (.bin .add false (.bin .mul false (.var 1) (.c (.int 439))) (.c (.int 6529))) .nil)) (.c (.int 99991))) (.c (.int 283))) .nil)))) .pass))
def g_cup : FD := ⟨1, 2, b_cup⟩
def b_roll : RS := (.seq (.ifs (.cmp .gt (.sub (.var 0) (.c (.int 0))) (.c (.int 0))) (.seq (.set (.name 2) (.bin .mod false (.bi .int false (.cons (.sub (.var 0) (.c (.int 0))) .nil)) (.var 1))) (.seq (.put (.var 0) (.c (.int 0)) (.bin .fdiv false (.sub (.var 0) (.c (.int 0))) (.var 1))) (.seq (.ret (.var 2)) .pass))) .pass) (.seq (.put (.var 0) (.c (.int 1)) (.bin .mod false (.bi .int false (.cons (.bin .add false (.bin .mul false (.sub (.var 0) (.c (.int 1))) (.c (.int 73))) (.c (.int 1237))) .nil)) (.c (.int 99991)))) (.seq (.ret (.bin .mod false (.bi .int false (.cons (.bin .fdiv false (.sub (.var 0) (.c (.int 1))) (.c (.int 11))) .nil)) (.var 1))) .pass)))
def g_roll : FD := ⟨2, 3, b_roll⟩
def g_some (roll : Nat) : FD := ⟨2, 2, (.seq (.ret (.sub (.var 1) (.call roll (.cons (.var 0) (.cons (.bi .len false (.cons (.var 1) .nil)) .nil))))) .pass)⟩
def b_sort : RS := (.seq (.ifs (.or (.cmp .isN (.var 0) (.c .non)) (.isi (.var 0) .bool)) (.seq (.ret (.ite (.cmp .isN (.var 0) (.c .non)) (.c (.int 0)) (.c (.int 1)))) .pass) .pass) (.seq (.ifs (.or (.isi (.var 0) .int) (.isi (.var 0) .str)) (.seq (.ret (.ite (.isi (.var 0) .int) (.c (.int 2)) (.c (.int 3)))) .pass) .pass) (.seq (.ret (.ite (.isi (.var 0) .tuple) (.c (.int 4)) (.ite (.isi (.var 0) .list) (.c (.int 5)) (.c (.int 6))))) .pass)))
def g_sort : FD := ⟨1, 1, b_sort⟩
def g_like (sort like : Nat) : FD := ⟨2, 5, (.seq (.set (.name 2) (.call sort (.cons (.var 1) .nil))) (.seq (.ifs (.or (.cmp .ne (.call sort (.cons (.var 0) .nil)) (.var 2)) (.cmp .eq (.var 2) (.c (.int 6)))) (.seq (.ret (.c (.bl false))) .pass) .pass) (.seq (.ifs (.cmp .isin (.var 2) (.tup (.cons (.c (.int 4)) (.cons (.c (.int 5)) .nil)))) (.seq (.ret (.and (.cmp .eq (.bi .len false (.cons (.var 0) .nil)) (.bi .len false (.cons (.var 1) .nil))) (.cmp .eq (.comp false (.c (.int 1)) [3, 4] (.tup (.cons (.name 3) (.cons (.name 4) .nil))) (.zip (.var 0) (.var 1)) (.not (.call like (.cons (.var 3) (.cons (.var 4) .nil))))) (.lst false .nil)))) .pass) .pass) (.seq (.ret (.cmp .eq (.var 0) (.var 1))) .pass))))⟩
def b_gcd : RS := (.seq (.set (.tup (.cons (.name 0) (.cons (.name 1) .nil))) (.tup (.cons (.bi .abs false (.cons (.var 0) .nil)) (.cons (.bi .abs false (.cons (.var 1) .nil)) .nil)))) (.seq (.wh whN (.cmp .ne (.var 1) (.c (.int 0))) (.seq (.set (.tup (.cons (.name 0) (.cons (.name 1) .nil))) (.tup (.cons (.var 1) (.cons (.bin .mod false (.bi .int false (.cons (.var 0) .nil)) (.var 1)) .nil)))) .pass)) (.seq (.ret (.var 0)) .pass)))
def g_gcd : FD := ⟨2, 2, b_gcd⟩
/-- the cup: what is drawn from -/
structure CupOk (b c : Int) : Prop where
  b0 : 0 ≤ b
  c0 : 0 ≤ c
  c1 : c < 1000000
def Cup (s rest : Sto) : Prop := ∃ b c, s = [.int b, .int c] :: rest ∧ CupOk b c
theorem bd_of {n : Nat} {x : Int} (h : x.natAbs < 2 ^ n) : Bd n x := ⟨h⟩
theorem small_lt {x : Int} (h0 : 0 ≤ x) (h : x < 1152921504606846976) : Bd 60 x := ⟨by
  show x.natAbs < 1152921504606846976
  omega⟩
def RollAt (G : Tab) (r : Nat) : Prop := ∀ (k : Nat) (m : Int) (s rest : Sto), Cup s rest → 0 < m → m < 1152921504606846976 → Wp (call G (k + 1) r [.cel 0, .int m] s) fun d s' => ∃ v, d = .int v ∧ 0 ≤ v ∧ v < m ∧ Cup s' rest
theorem roll_at {G : Tab} {r : Nat} (h : G r = some g_roll) : RollAt G r := by
  rintro k m s rest ⟨b, c, rfl, hb, hc, hc1⟩ h0 h1
  have hm : divOk m = true := div_ok (hb := small_lt (by omega) h1) (by decide)
  have h73 : mulOk c 73 = true := mul_ok (ha := small_lt hc (by omega)) (hb := small_lt (x := 73) (by decide) (by decide)) (by decide)
  have h11 : divOk 11 = true := by decide
  rw [call_eq h]
  by_cases hp : 0 < b
  · have e1 : b / m ≥ 0 := Int.ediv_nonneg hb (by omega)
    simp [g_roll, b_roll, subD, seqOf, atI, ixN, biD, setL, hp, h0, hm]
    exact ⟨Int.emod_nonneg _ (by omega), Int.emod_lt_of_pos _ h0, b / m, c, rfl, e1, hc, hc1⟩
  · simp [g_roll, b_roll, subD, seqOf, atI, ixN, biD, setL, hp, h0, hm, h73, h11]
    have c2 := Int.emod_nonneg (c * 73 + 1237) (b := 99991) (by decide)
    have c3 := Int.emod_lt_of_pos (c * 73 + 1237) (b := 99991) (by decide)
    exact ⟨Int.emod_nonneg _ (by omega), Int.emod_lt_of_pos _ h0, b, _, rfl, hb, c2, by omega⟩
theorem fit_of {n : Nat} (h : n ≤ 16777216) : fit n = true := Nat.ble_eq_true_of_le h
@[simp] theorem binD_add_lst (mu : Bool) (xs ys : List D) (s : Sto) : binD .add mu (.lst xs) (.lst ys) s = if fit (xs.length + ys.length) = true then allocL mu (xs ++ ys) s else .bad := rfl
@[simp] theorem binD_add_tup (mu : Bool) (xs ys : List D) (s : Sto) : binD .add mu (.tup xs) (.tup ys) s = if fit (xs.length + ys.length) = true then .ok (.tup (xs ++ ys)) s else .bad := rfl
theorem bits_log {z : Int} (h : PySem.Builtin.Int.intBits z ≤ 1048576) : z.natAbs.log2 ≤ 1048576 := by
  unfold PySem.Builtin.Int.intBits at h
  split at h
  · rename_i e
    have : z = 0 := by simpa using e
    subst this
    simp
  · omega
def CupAt (G : Tab) (c : Nat) : Prop := ∀ (k : Nat) (ns : List Int), ns.length ≤ 63 → (∀ z ∈ ns, PySem.Builtin.Int.intBits z ≤ 1048576) → Wp (call G (k + 1) c [.rl (ns.map .int)] []) fun d s => d = .cel 0 ∧ Cup s []
theorem cup_at {G : Tab} {c : Nat} (h : G c = some g_cup) : CupAt G c := by
  intro k ns hl hb
  obtain ⟨z, zs, e, hz⟩ : ∃ z zs, ns.map D.int ++ [.int 0] = .int z :: zs ∧ z.natAbs.log2 ≤ 1048576 := by
    cases ns with
    | nil => exact ⟨0, [], rfl, by decide⟩
    | cons z zs => exact ⟨z, zs.map .int ++ [.int 0], rfl, bits_log (hb z List.mem_cons_self)⟩
  have hlen : fit (ns.length + 1) = true := fit_of (by omega)
  have e2 : atI (D.int z :: zs) 0 = some (.int z) := by
    unfold atI ixN
    rw [if_pos (by decide), if_pos (by simp [List.length_cons])]
    rfl
  have m1 : ∀ x : Int, x.natAbs = z.natAbs → mulOk x 439 = true := fun x hx => decide_eq_true (by
    rw [hx]
    have : (439 : Int).natAbs.log2 = 8 := by decide
    omega)
  have h181 : divOk 181 = true := by decide
  have hpow : powOk 10 18 = true := by decide
  have hpv : (10 : Int) ^ (18 : Int).toNat = 1000000000000000000 := by decide
  rw [call_eq h]
  have c2 := fun x : Int => Int.emod_nonneg (x * 439 + 6529) (b := 99991) (by decide)
  have c3 := fun x : Int => Int.emod_lt_of_pos (x * 439 + 6529) (b := 99991) (by decide)
  by_cases hn : z < 0
  · by_cases hg : (1000000000000000000 : Int) ≤ -z
    · simp [g_cup, b_cup, subD, seqOf, biD, hlen, e, e2, hn, hg, h181, hpow, hpv, m1]
      exact ⟨_, _, rfl, Int.ediv_nonneg (by omega) (by decide), by have := c2 (-z); omega, by have := c3 (-z); omega⟩
    · simp [g_cup, b_cup, subD, seqOf, biD, hlen, e, e2, hn, hg, h181, hpow, hpv, m1]
      exact ⟨_, _, rfl, Int.le_refl 0, by have := c2 (-z); omega, by have := c3 (-z); omega⟩
  · by_cases hg : (1000000000000000000 : Int) ≤ z
    · simp [g_cup, b_cup, subD, seqOf, biD, hlen, e, e2, hn, hg, h181, hpow, hpv, m1]
      exact ⟨_, _, rfl, Int.ediv_nonneg (by omega) (by decide), by have := c2 z; omega, by have := c3 z; omega⟩
    · simp [g_cup, b_cup, subD, seqOf, biD, hlen, e, e2, hn, hg, h181, hpow, hpv, m1]
      exact ⟨_, _, rfl, Int.le_refl 0, by have := c2 z; omega, by have := c3 z; omega⟩
/-- one of a list -/
def SomeAt (G : Tab) (n : Nat) : Prop := ∀ (k : Nat) (xs : List D) (s rest : Sto), Cup s rest → xs ≠ [] → xs.length ≤ 16777216 → Wp (call G (k + 2) n [.cel 0, .lst xs] s) fun d s' => d ∈ xs ∧ Cup s' rest
theorem atI_mem {α : Type} {xs : List α} {i : Int} (h0 : 0 ≤ i) (h1 : i < xs.length) : ∃ x, atI xs i = some x ∧ x ∈ xs := by
  unfold atI ixN
  rw [if_pos h0, if_pos h1]
  have hl : i.toNat < xs.length := by omega
  exact ⟨xs[i.toNat], List.getElem?_eq_getElem hl, List.getElem_mem hl⟩
theorem some_at {G : Tab} {n roll : Nat} (h : G n = some (g_some roll)) (hr : RollAt G roll) : SomeAt G n := by
  intro k xs s rest hc hne hl
  have hpos : 0 < xs.length := List.length_pos_iff.mpr hne
  rw [call_eq h]
  simp [g_some, biD, seqOf]
  refine (hr k xs.length s rest hc (by omega) (by omega)).mono ?_
  rintro d s' ⟨v, rfl, h0, h1, hc'⟩
  obtain ⟨x, e, hx⟩ := atI_mem h0 h1
  simp [subD, seqOf, e]
  exact ⟨hx, hc'⟩
/-- the sort of a value -/
def sortV : D → Int
  | .non => 0 | .bl _ => 1 | .int _ => 2 | .str _ => 3 | .tup _ => 4 | .lst _ => 5 | .cel _ => 5
  | _ => 6
def plainD : D → Bool
  | .rl _ => false
  | .fn _ => false
  | .zc _ _ => false
  | _ => true
def SortAt (G : Tab) (n : Nat) : Prop := ∀ (k : Nat) (d : D) (s : Sto), plainD d = true → call G (k + 1) n [d] s = .ok (.int (sortV d)) s
theorem sort_at {G : Tab} {n : Nat} (h : G n = some g_sort) : SortAt G n := by
  intro k d s hd
  rw [call_eq h]
  cases d <;> first
    | (cases hd; done)
    | simp [g_sort, b_sort, isNon, isiD, sortV, endF]
/-- data whose parts are data, n levels deep -/
def pureD : Nat → D → Bool
  | 0, _ => false
  | n + 1, d => match d with
    | .non => true | .bl _ => true | .int _ => true | .str x => PyData.strOk x
    | .tup xs => fit xs.length && xs.all (pureD n)
    | .lst xs => fit xs.length && xs.all (pureD n)
    | _ => false
theorem pureD_plain {n : Nat} {d : D} (h : pureD n d = true) : plainD d = true := by
  cases n with
  | zero => cases h
  | succ n => cases d <;> first | rfl | cases h
theorem eq_self {d : D} {s : Sto} (h : pureD 1 d = true) (hs : sortV d < 4) : cmpD .eq d d s = .ok (.bl true) s := by
  cases d with
  | non => simp [cmpD, eqD, toPy, deep, PySem.SeqAt.shaped, PyData.canLay0, PyData.depth, PyData.eqv]
  | bl b => simp [cmpD, eqD, toPy, deep, PySem.SeqAt.shaped, PyData.canLay0, PyData.depth, PyData.eqv]
  | int i => simp
  | str x =>
    have h : PyData.strOk x = true := h
    simp [cmpD, eqD, toPy, deep, PySem.SeqAt.shaped, PyData.canLay0, PyData.depth, PyData.eqv, h]
  | _ => simp [sortV] at hs
theorem zip_self : ∀ xs : List D, zipL xs xs = xs.map fun x => .tup [x, x]
  | [] => rfl
  | x :: xs => by rw [zipL, zip_self xs]; rfl
theorem in45 (i : Int) (s : Sto) : inD s (.int i) (.tup [.int 4, .int 5]) = some (decide (i = 4) || decide (i = 5)) := by
  simp [inD, toPy, deep, mapO, itemsP, PySem.SeqAt.shaped, PyData.canLay0, PyData.canLayAll0, PyData.depth, PyData.depthAll, PyData.eqv]
  have e : ∀ a : Int, (a == i) = decide (i = a) := fun a => by
    by_cases z : i = a
    · simp [z]
    · have : ¬ a = i := fun q => z q.symm
      simp [z, this]
  rw [e, e]
def LikeAt (G : Tab) (n : Nat) : Prop := ∀ (m k : Nat) (d : D) (s : Sto), pureD m d = true → m + 1 ≤ k → call G k n [d, d] s = .ok (.bl true) s
theorem like_at {G : Tab} {n so : Nat} (h : G n = some (g_like so n)) (hs : SortAt G so) : LikeAt G n := by
  intro m
  induction m with
  | zero => intro k d s hd; cases hd
  | succ m ih =>
    intro k d s hd hk
    obtain ⟨k, rfl⟩ : ∃ j, k = j + 2 := ⟨k - 2, by omega⟩
    have hp := pureD_plain hd
    rw [call_eq h]
    have nil_eq : ∀ s : Sto, eqD s (.lst []) (.lst []) = some true := fun s => by
      simp [eqD, toPy, deep, mapO, PySem.SeqAt.shaped, PyData.canLay0, PyData.canLayAll0, PyData.depth, PyData.depthAll, PyData.eqv, PyData.eqvAll]
    have each : ∀ xs : List D, xs.all (pureD m) = true → compL (itemZ (den (.not (.call n (.cons (.var 3) (.cons (.var 4) .nil)))) ⟨call G (k + 1), low G (k + 1)⟩) (den (.c (.int 1)) ⟨call G (k + 1), low G (k + 1)⟩) [3, 4] (.tup (.cons (.name 3) (.cons (.name 4) .nil))) [some d, some d, some (.int (sortV d)), none, none]) (zipL xs xs) [] s = .ok [] s := by
      intro xs hx
      rw [zip_self, wp_compL (g := fun _ => none)]
      · simp
      · intro y hy
        obtain ⟨x, hx2, rfl⟩ := List.mem_map.mp hy
        have := ih (k + 1) x s (List.all_eq_true.mp hx x hx2) (by omega)
        simp [itemZ_eq, wipe, seqOf, this]
    cases d with
    | tup xs =>
      obtain ⟨h1, h2⟩ := Bool.and_eq_true_iff.mp (show (fit xs.length && xs.all (pureD m)) = true from hd)
      have hz : fit (zipL xs xs).length = true := by rw [zip_self, List.length_map]; exact h1
      have := each xs h2
      simp only [sortV] at this
      simp [g_like, hs k _ _ hp, sortV, in45, biD, seqOf, zipD, hz, this, nil_eq, endF]
    | lst xs =>
      obtain ⟨h1, h2⟩ := Bool.and_eq_true_iff.mp (show (fit xs.length && xs.all (pureD m)) = true from hd)
      have hz : fit (zipL xs xs).length = true := by rw [zip_self, List.length_map]; exact h1
      have := each xs h2
      simp only [sortV] at this
      simp [g_like, hs k _ _ hp, sortV, in45, biD, seqOf, zipD, lsF, hz, this, nil_eq, endF]
    | non =>
      have e := eq_self (d := .non) (s := s) rfl (by decide)
      simp [g_like, hs k _ _ hp, sortV, in45, e, endF]
    | bl b =>
      have e := eq_self (d := .bl b) (s := s) rfl (by simp [sortV])
      simp [g_like, hs k _ _ hp, sortV, in45, e, endF]
    | int i => simp [g_like, hs k _ _ hp, sortV, in45, endF]
    | str x =>
      have e := eq_self (d := .str x) (s := s) (show PyData.strOk x = true from hd) (by simp [sortV])
      simp [g_like, hs k _ _ hp, sortV, in45, e, endF]
    | _ => cases hd
/-- nothing is kept -/
theorem compM_none {f : D → Sto → R (Option D)} {g : Sto → Option (List D)} {xs : List D} {s : Sto} (hg : g s = some xs) (hf : ∀ x ∈ xs, f x s = .ok none s) : ∀ (m i : Nat) (acc : List D), i + m = xs.length → compM f g m i acc s = .ok acc s
  | 0, i, acc, h => by
    show (match g s with
      | some xs => if xs.length ≤ i then R.ok acc s else .bad
      | none => .bad) = _
    rw [hg]
    exact if_pos (by omega)
  | m + 1, i, acc, h => by
    have hi : i < xs.length := by omega
    have e : compM f g (m + 1) i acc s = (f xs[i] s).calm fun o s' => match o with
      | some y => compM f g m (i + 1) (acc ++ [y]) s'
      | none => compM f g m (i + 1) acc s' := by
      show (match g s with
        | some xs => match xs[i]? with
          | some x => (f x s).calm fun o s' => match o with
            | some y => compM f g m (i + 1) (acc ++ [y]) s'
            | none => compM f g m (i + 1) acc s'
          | none => .bad
        | none => .bad) = _
      rw [hg]
      show (match xs[i]? with
        | some x => (f x s).calm fun o s' => match o with
          | some y => compM f g m (i + 1) (acc ++ [y]) s'
          | none => compM f g m (i + 1) acc s'
        | none => .bad) = _
      rw [List.getElem?_eq_getElem hi]
    rw [e, hf _ (List.getElem_mem hi)]
    exact compM_none hg hf m (i + 1) acc (by omega)
/-- a changed list beside the same items -/
theorem like_cel {G : Tab} {n so : Nat} (h : G n = some (g_like so n)) (hs : SortAt G so) {m k i : Nat} {xs : List D} {s : Sto} (hi : s[i]? = some xs) (hx : xs.all (pureD m) = true) (hf : fit xs.length = true) (hk : m + 2 ≤ k) : call G k n [.cel i, .lst xs] s = .ok (.bl true) s := by
  have hL := like_at h hs
  obtain ⟨k, rfl⟩ : ∃ j, k = j + 2 := ⟨k - 2, by omega⟩
  have nil_eq : ∀ s : Sto, eqD s (.lst []) (.lst []) = some true := fun s => by
    simp [eqD, toPy, deep, mapO, PySem.SeqAt.shaped, PyData.canLay0, PyData.canLayAll0, PyData.depth, PyData.depthAll, PyData.eqv, PyData.eqvAll]
  have hz : (zipL xs xs).length = xs.length := by rw [zip_self, List.length_map]
  have each := compM_none (f := itemZ (den (.not (.call n (.cons (.var 3) (.cons (.var 4) .nil)))) ⟨call G (k + 1), low G (k + 1)⟩) (den (.c (.int 1)) ⟨call G (k + 1), low G (k + 1)⟩) [3, 4] (.tup (.cons (.name 3) (.cons (.name 4) .nil))) [some (.cel i), some (.lst xs), some (.int 5), none, none])
    (g := fun S : Sto => match S[i]? with
      | some zs => some (zipL zs xs)
      | none => none) (xs := zipL xs xs) (s := s) (by simp [hi]) (by
      intro y hy
      rw [zip_self] at hy
      obtain ⟨x, hx2, rfl⟩ := List.mem_map.mp hy
      have := hL m (k + 1) x s (List.all_eq_true.mp hx x hx2) (by omega)
      simp [itemZ_eq, wipe, seqOf, this]) xs.length 0 [] (by omega)
  have e1 := hs k (.cel i) s rfl
  have e2 := hs k (.lst xs) s rfl
  have cz : compZ (itemZ (den (.not (.call n (.cons (.var 3) (.cons (.var 4) .nil)))) ⟨call G (k + 1), low G (k + 1)⟩) (den (.c (.int 1)) ⟨call G (k + 1), low G (k + 1)⟩) [3, 4] (.tup (.cons (.name 3) (.cons (.name 4) .nil))) [some (.cel i), some (.lst xs), some (.int 5), none, none]) false (.zc i xs) s = .ok (.lst []) s := by
    show (match (match s[i]? with
      | some zs => some (zipL zs xs)
      | none => none) with
      | some zs => if fit zs.length = true then (compM _ _ zs.length 0 [] s).bind fun ys s => allocL false ys s else .bad
      | none => .bad) = _
    rw [hi]
    show (if fit (zipL xs xs).length = true then (compM _ _ (zipL xs xs).length 0 [] s).bind fun ys s => allocL false ys s else .bad) = _
    rw [hz, if_pos hf]
    exact (congrArg (fun r => R.bind r fun ys s => allocL false ys s) each).trans rfl
  rw [call_eq h]
  simp [g_like, e1, e2, sortV, in45, biD, seqOf, hi, zipD, lsF, cz, nil_eq, endF]
end Px
end

section
set_option Elab.async false
set_option linter.all false
set_option maxRecDepth 100000
set_option maxHeartbeats 1000000
/-! Px: greatest shared divisors; parts made short; fractions made low. -/
namespace Px
open PySem (Str PyData)
def b_short : RS := (.seq (.set (.name 1) (.c (.int 0))) (.seq (.for (.name 2) (.seq (.var 0)) (.seq (.set (.name 1) (.bi .gcd false (.cons (.var 1) (.cons (.var 2) .nil)))) .pass)) (.seq (.set (.name 3) (.sub (.comp false (.var 2) [2] (.name 2) (.seq (.var 0)) (.cmp .ne (.var 2) (.c (.int 0)))) (.c (.int 0)))) (.seq (.ret (.bi .tuple false (.cons (.comp false (.ite (.cmp .gt (.var 3) (.c (.int 0))) (.bin .fdiv false (.var 2) (.var 1)) (.bin .fdiv false (.neg (.var 2)) (.var 1))) [2] (.name 2) (.seq (.var 0)) (.c (.bl true))) .nil))) .pass))))
def g_short : FD := ⟨1, 4, b_short⟩
def g_shortC (gcd : Nat) : FD := ⟨1, 4, (.seq (.set (.name 1) (.c (.int 0))) (.seq (.for (.name 2) (.seq (.var 0)) (.seq (.set (.name 1) (.call gcd (.cons (.var 1) (.cons (.var 2) .nil)))) .pass)) (.seq (.set (.name 3) (.sub (.comp false (.var 2) [2] (.name 2) (.seq (.var 0)) (.cmp .ne (.var 2) (.c (.int 0)))) (.c (.int 0)))) (.seq (.ret (.bi .tuple false (.cons (.comp false (.ite (.cmp .gt (.var 3) (.c (.int 0))) (.bin .fdiv false (.var 2) (.var 1)) (.bin .fdiv false (.neg (.var 2)) (.var 1))) [2] (.name 2) (.seq (.var 0)) (.c (.bl true))) .nil))) .pass))))⟩
def g_low (gcd : Nat) : FD := ⟨2, 3, (.seq (.set (.name 2) (.ite (.cmp .gt (.var 1) (.c (.int 0))) (.call gcd (.cons (.var 0) (.cons (.var 1) .nil))) (.neg (.call gcd (.cons (.var 0) (.cons (.var 1) .nil)))))) (.seq (.ret (.tup (.cons (.bin .fdiv false (.var 0) (.var 2)) (.cons (.bin .fdiv false (.var 1) (.var 2)) .nil)))) .pass))⟩

theorem gcd_loop {P : PC} {s : Sto} : ∀ (y x f : Nat), y < f → whL (den (.cmp .ne (.var 1) (.c (.int 0))) P) (ex (.seq (.set (.tup (.cons (.name 0) (.cons (.name 1) .nil))) (.tup (.cons (.var 1) (.cons (.bin .mod false (.bi .int false (.cons (.var 0) .nil)) (.var 1)) .nil)))) .pass) P) f [some (.int x), some (.int y)] s =
    .nx [some (.int (Nat.gcd x y : Nat)), some (.int 0)] s := by
  intro y
  induction y using Nat.strongRecOn with
  | ind y ih =>
    intro x f hf
    obtain ⟨f, rfl⟩ : ∃ g, f = g + 1 := ⟨f - 1, by omega⟩
    rw [whL_succ]
    by_cases hy : y = 0
    · subst hy
      simp
    · have h1 : ¬ ((y : Int) = 0) := by omega
      have h2 : 0 < y := by omega
      have hm : x % y < y := Nat.mod_lt _ (by omega)
      have e := ih (x % y) hm y f (by omega)
      rw [Int.natCast_emod] at e
      have hg : Nat.gcd y (x % y) = Nat.gcd x y := by rw [Nat.gcd_comm x y, Nat.gcd_rec y x, Nat.gcd_comm]
      rw [hg] at e
      simp [h1, h2, hy, biD, seqOf]
      exact e
def GcdAt (G : Tab) (n : Nat) : Prop := ∀ (k : Nat) (a b : Int) (s : Sto), b.natAbs < 2 ^ 8000 → call G (k + 1) n [.int a, .int b] s = .ok (.int (Nat.gcd a.natAbs b.natAbs : Nat)) s
theorem abs_int (a : Int) : (if a < 0 then -a else a) = (a.natAbs : Nat) := by split <;> omega
theorem gcd_at {G : Tab} {n : Nat} (h : G n = some g_gcd) : GcdAt G n := by
  intro k a b s hb
  have hf : b.natAbs < whN := Nat.lt_of_lt_of_le hb (Nat.pow_le_pow_right (by decide) (by decide))
  have e := gcd_loop (P := ⟨call G k, low G k⟩) (s := s) b.natAbs a.natAbs whN hf
  rw [call_eq h]
  simp [g_gcd, b_gcd, biD, seqOf, abs_int]
  rw [e]
  simp [endF]

/-! ### parts made short -/
def iL (xs : List Int) : List D := xs.map .int
def gcdL (g : Nat) : List Int → Nat
  | [] => g
  | x :: xs => gcdL (Nat.gcd g x.natAbs) xs
def firstL (xs : List Int) : Int := (xs.filter (fun x => decide (x ≠ 0))).headD 0
def shortL (xs : List Int) : List Int := if 0 < firstL xs then xs.map (fun x => x / (gcdL 0 xs : Nat)) else xs.map (fun x => -x / (gcdL 0 xs : Nat))
theorem gcdL_lt {n : Nat} : ∀ {xs : List Int} {g : Nat}, g < 2 ^ n → (∀ x ∈ xs, x.natAbs < 2 ^ n) → gcdL g xs < 2 ^ n
  | [], g, hg, _ => hg
  | x :: xs, g, hg, hx => by
    refine gcdL_lt (xs := xs) ?_ fun y hy => hx y (List.mem_cons_of_mem _ hy)
    by_cases z : g = 0
    · rw [z, Nat.gcd_zero_left]
      exact hx x List.mem_cons_self
    · exact Nat.lt_of_le_of_lt (Nat.gcd_le_left _ (by omega)) hg
theorem gcdL_dvd : ∀ {xs : List Int} {g : Nat}, gcdL g xs ∣ g ∧ ∀ x ∈ xs, gcdL g xs ∣ x.natAbs
  | [], g => ⟨Nat.dvd_refl _, fun _ h => by cases h⟩
  | x :: xs, g => by
    obtain ⟨h1, h2⟩ := gcdL_dvd (xs := xs) (g := Nat.gcd g x.natAbs)
    refine ⟨Nat.dvd_trans h1 (Nat.gcd_dvd_left _ _), fun y hy => ?_⟩
    rcases List.mem_cons.mp hy with e | hy
    · rw [e]
      exact Nat.dvd_trans h1 (Nat.gcd_dvd_right _ _)
    · exact h2 y hy
theorem gcdL_pos {xs : List Int} (h : ∃ x ∈ xs, x ≠ 0) (g : Nat) : 0 < gcdL g xs := by
  obtain ⟨x, hx, h0⟩ := h
  have d := (gcdL_dvd (xs := xs) (g := g)).2 x hx
  rcases Nat.eq_zero_or_pos (gcdL g xs) with e | e
  · rw [e] at d
    have := Nat.eq_zero_of_zero_dvd d
    omega
  · exact e
theorem first_cons {xs : List Int} (h : ∃ x ∈ xs, x ≠ 0) : ∃ ys, xs.filter (fun x => decide (x ≠ 0)) = firstL xs :: ys := by
  obtain ⟨x, hx, h0⟩ := h
  have m : x ∈ xs.filter (fun x => decide (x ≠ 0)) := List.mem_filter.mpr ⟨hx, decide_eq_true h0⟩
  unfold firstL
  cases e : xs.filter (fun x => decide (x ≠ 0)) with
  | nil => rw [e] at m; cases m
  | cons y ys => exact ⟨ys, rfl⟩
/-- the loop of the greatest divisor, whatever says it -/
theorem gcd_for {body : RE} {P : PC} {s : Sto} {p q0 : Option D} (hb : ∀ (g : Nat) (x : Int) (q : Option D), g < 2 ^ 8000 → x.natAbs < 2 ^ 8000 → den body P [p, some (.int g), some (.int x), q] s = .ok (.int (Nat.gcd g x.natAbs : Nat)) s) :
    ∀ (xs : List Int) (g : Nat) (v : Option D), g < 2 ^ 8000 → (∀ x ∈ xs, x.natAbs < 2 ^ 8000) → ∃ v', forL (turnF (ex (.seq (.set (.name 1) body) .pass) P) (.name 2)) (iL xs) [p, some (.int g), v, q0] s = .nx [p, some (.int (gcdL g xs : Nat)), v', q0] s
  | [], g, v, _, _ => ⟨v, rfl⟩
  | x :: xs, g, v, hg, hx => by
    have h1 := hx x List.mem_cons_self
    have hg2 : Nat.gcd g x.natAbs < 2 ^ 8000 := by
      by_cases z : g = 0
      · rw [z, Nat.gcd_zero_left]
        exact h1
      · exact Nat.lt_of_le_of_lt (Nat.gcd_le_left _ (by omega)) hg
    obtain ⟨v', e⟩ := gcd_for hb xs (Nat.gcd g x.natAbs) (some (.int x)) hg2 fun y hy => hx y (List.mem_cons_of_mem _ hy)
    refine ⟨v', ?_⟩
    show (turnF _ _ (.int x) _ s).turn _ = _
    have e1 : turnF (ex (.seq (.set (.name 1) body) .pass) P) (.name 2) (.int x) [p, some (.int g), v, q0] s = .nx [p, some (.int (Nat.gcd g x.natAbs : Nat)), some (.int x), q0] s := by
      simp [turnF, hb g x q0 hg h1]
    rw [e1]
    exact e
def ShortAt (G : Tab) (n : Nat) : Prop := ∀ (k : Nat) (xs : List Int) (s : Sto), xs.length ≤ 1000 → (∃ x ∈ xs, x ≠ 0) → (∀ x ∈ xs, x.natAbs < 2 ^ 8000) → call G (k + 2) n [.tup (iL xs)] s = .ok (.tup (iL (shortL xs))) s
/-- the wanted of a filter -/
def nzD : D → Option D
  | .int x => if x ≠ 0 then some (.int x) else none
  | _ => none
theorem nz_filter : ∀ xs : List Int, (iL xs).filterMap nzD = iL (xs.filter fun x => decide (x ≠ 0))
  | [] => rfl
  | x :: xs => by
    have ih := nz_filter xs
    show (D.int x :: iL xs).filterMap nzD = _
    rw [List.filterMap_cons, List.filter_cons]
    by_cases z : x = 0
    · subst z
      exact ih
    · have e : nzD (.int x) = some (.int x) := if_pos z
      rw [e, if_pos (decide_eq_true z)]
      exact congrArg (D.int x :: ·) ih
def divD (f : Int) (g : Nat) : D → Option D
  | .int x => some (.int (if 0 < f then x / g else -x / g))
  | _ => none
theorem div_all (xs : List Int) : (iL xs).filterMap (divD (firstL xs) (gcdL 0 xs)) = iL (shortL xs) := by
  have gen : ∀ (f : Int) (g : Nat) (ys : List Int), (iL ys).filterMap (divD f g) = iL (ys.map fun x => if 0 < f then x / g else -x / g) := by
    intro f g ys
    induction ys with
    | nil => rfl
    | cons y ys ih =>
      show (D.int y :: iL ys).filterMap (divD f g) = _
      rw [List.filterMap_cons]
      exact congrArg (_ :: ·) ih
  rw [gen]
  unfold shortL
  by_cases z : 0 < firstL xs
  · simp [z]
  · simp [z]
theorem short_body {body : RE} {P : PC} {xs : List Int} {s : Sto} (hl : xs.length ≤ 1000) (hn : ∃ x ∈ xs, x ≠ 0) (hx : ∀ x ∈ xs, x.natAbs < 2 ^ 8000)
    (hb : ∀ (g : Nat) (x : Int) (q : Option D), g < 2 ^ 8000 → x.natAbs < 2 ^ 8000 → den body P [some (.tup (iL xs)), some (.int g), some (.int x), q] s = .ok (.int (Nat.gcd g x.natAbs : Nat)) s) :
    endF (ex (.seq (.set (.name 1) (.c (.int 0))) (.seq (.for (.name 2) (.seq (.var 0)) (.seq (.set (.name 1) body) .pass)) (.seq (.set (.name 3) (.sub (.comp false (.var 2) [2] (.name 2) (.seq (.var 0)) (.cmp .ne (.var 2) (.c (.int 0)))) (.c (.int 0)))) (.seq (.ret (.bi .tuple false (.cons (.comp false (.ite (.cmp .gt (.var 3) (.c (.int 0))) (.bin .fdiv false (.var 2) (.var 1)) (.bin .fdiv false (.neg (.var 2)) (.var 1))) [2] (.name 2) (.seq (.var 0)) (.c (.bl true))) .nil))) .pass)))) P
      [some (.tup (iL xs)), none, none, none] s) = .ok (.tup (iL (shortL xs))) s := by
  obtain ⟨v', e⟩ := gcd_for (q0 := none) hb xs 0 none (Nat.pow_pos (by decide)) hx
  have hg : (0 : Nat) < gcdL 0 xs := gcdL_pos hn 0
  have hfit : fit (iL xs).length = true := fit_of (by simp [iL]; omega)
  obtain ⟨ys, hf⟩ := first_cons hn
  have hd : divOk (gcdL 0 xs : Nat) = true := div_ok (hb := ⟨by rw [Int.natAbs_natCast]; exact gcdL_lt (n := 8000) (Nat.pow_pos (by decide)) hx⟩) (by decide)
  have c1 : compL (itemZ (den (.cmp .ne (.var 2) (.c (.int 0))) P) (den (.var 2) P) [2] (.name 2) [some (.tup (iL xs)), some (.int (gcdL 0 xs : Nat)), v', none]) (iL xs) [] s = .ok (iL (xs.filter (fun x => decide (x ≠ 0)))) s := by
    rw [wp_compL (g := nzD)]
    · rw [List.nil_append, nz_filter]
    · intro d hd
      obtain ⟨x, _, rfl⟩ := List.mem_map.mp hd
      by_cases z : x = 0 <;> simp [itemZ_eq, wipe, z, nzD]
  simp [seqOf] at e
  have c2 : compL (itemZ (den (.c (.bl true)) P) (den (.ite (.cmp .gt (.var 3) (.c (.int 0))) (.bin .fdiv false (.var 2) (.var 1)) (.bin .fdiv false (.neg (.var 2)) (.var 1))) P) [2] (.name 2) [some (.tup (iL xs)), some (.int (gcdL 0 xs : Nat)), v', some (.int (firstL xs))]) (iL xs) [] s = .ok (iL (shortL xs)) s := by
    rw [wp_compL (g := divD (firstL xs) (gcdL 0 xs))]
    · rw [List.nil_append, div_all]
    · intro d hdm
      obtain ⟨x, _, rfl⟩ := List.mem_map.mp hdm
      by_cases z : 0 < firstL xs <;> simp [itemZ_eq, wipe, z, divD, hd, hg]
  have a1 : atI (D.int (firstL xs) :: iL ys) 0 = some (.int (firstL xs)) := by
    unfold atI ixN
    rw [if_pos (by decide), if_pos (by simp [List.length_cons])]
    rfl
  have e3 : iL (xs.filter fun x => decide (x ≠ 0)) = D.int (firstL xs) :: iL ys := by rw [hf]; rfl
  rw [e3] at c1
  simp [hfit, e, c1, a1, subD, seqOf, biD, lsR]
  rw [c2]
  rfl
theorem short_at {G : Tab} {n : Nat} (h : G n = some g_short) : ShortAt G n := by
  intro k xs s hl hn hx
  rw [call_eq h]
  exact short_body hl hn hx fun g x q _ _ => by simp [biD]
theorem shortC_at {G : Tab} {n gcd : Nat} (h : G n = some (g_shortC gcd)) (hg : GcdAt G gcd) : ShortAt G n := by
  intro k xs s hl hn hx
  rw [call_eq h]
  exact short_body hl hn hx fun g x q _ h2 => by
    have e := hg k g x s h2
    rw [Int.natAbs_natCast] at e
    simp [e]
/-- a fraction made low: its bottom above 0 -/
def LowAt (G : Tab) (n : Nat) : Prop := ∀ (k : Nat) (a b : Int) (s : Sto), b ≠ 0 → b.natAbs < 2 ^ 8000 → call G (k + 2) n [.int a, .int b] s =
  .ok (.tup [.int (if 0 < b then a / (Nat.gcd a.natAbs b.natAbs : Nat) else -a / (Nat.gcd a.natAbs b.natAbs : Nat)), .int (if 0 < b then b / (Nat.gcd a.natAbs b.natAbs : Nat) else -b / (Nat.gcd a.natAbs b.natAbs : Nat))]) s
theorem low_at {G : Tab} {n gcd : Nat} (h : G n = some (g_low gcd)) (hg : GcdAt G gcd) : LowAt G n := by
  intro k a b s h0 hb
  have e := hg k a b s hb
  have gp : 0 < Nat.gcd a.natAbs b.natAbs := Nat.gcd_pos_of_pos_right _ (by omega)
  have gl : Nat.gcd a.natAbs b.natAbs ≤ b.natAbs := Nat.gcd_le_right _ (by omega)
  have hd : divOk (Nat.gcd a.natAbs b.natAbs : Nat) = true := div_ok (n := 8000) (hb := ⟨by rw [Int.natAbs_natCast]; omega⟩) (by decide)
  have hd2 : divOk (-(Nat.gcd a.natAbs b.natAbs : Nat)) = true := div_ok (n := 8000) (hb := ⟨by rw [Int.natAbs_neg, Int.natAbs_natCast]; omega⟩) (by decide)
  have gi : (0 : Int) < (Nat.gcd a.natAbs b.natAbs : Nat) := by omega
  have f1 : ∀ x : Int, x.fdiv (-(Nat.gcd a.natAbs b.natAbs : Nat)) = -x / (Nat.gcd a.natAbs b.natAbs : Nat) := fun x => by
    rw [← Int.neg_fdiv_neg, Int.neg_neg, Int.fdiv_eq_ediv_of_nonneg _ (by omega)]
  rw [call_eq h]
  by_cases hp : 0 < b
  · simp [g_low, e, hp, gp, hd, endF]
  · have n1 : ¬ (0 : Int) < -(Nat.gcd a.natAbs b.natAbs : Nat) := by omega
    have n2 : -(Nat.gcd a.natAbs b.natAbs : Nat) < (0 : Int) := by omega
    have n3 : ¬ ((Nat.gcd a.natAbs b.natAbs : Nat) : Int) < 0 := by omega
    simp [g_low, e, hp, n1, n2, n3, h0, hd2, f1, endF]
end Px
end

section
set_option Elab.async false
set_option linter.all false
set_option maxRecDepth 100000
set_option maxHeartbeats 1000000
/-! Px: plain facts of short parts and low fractions. -/
namespace Px

theorem gcdL_scale (c : Int) : ∀ (xs : List Int) (g : Nat), gcdL (c.natAbs * g) (xs.map (c * ·)) = c.natAbs * gcdL g xs
  | [], g => rfl
  | x :: xs, g => by
    show gcdL (Nat.gcd (c.natAbs * g) (c * x).natAbs) (xs.map (c * ·)) = _
    rw [Int.natAbs_mul, Nat.gcd_mul_left]
    exact gcdL_scale c xs (Nat.gcd g x.natAbs)
theorem firstL_scale {c : Int} (h : c ≠ 0) : ∀ xs : List Int, firstL (xs.map (c * ·)) = c * firstL xs
  | [] => by simp [firstL]
  | x :: xs => by
    have ih := firstL_scale h xs
    unfold firstL at ih ⊢
    rw [List.map_cons, List.filter_cons, List.filter_cons]
    by_cases z : x = 0
    · subst z
      simpa using ih
    · have z2 : c * x ≠ 0 := Int.mul_ne_zero h z
      rw [if_pos (decide_eq_true z2), if_pos (decide_eq_true z)]
      rfl
theorem firstL_ne {xs : List Int} (h : ∃ x ∈ xs, x ≠ 0) : firstL xs ≠ 0 := by
  obtain ⟨ys, e⟩ := first_cons h
  have m : firstL xs ∈ xs.filter (fun x => decide (x ≠ 0)) := by rw [e]; exact List.mem_cons_self
  exact of_decide_eq_true (List.mem_filter.mp m).2
theorem short_scale {c : Int} (h : c ≠ 0) {xs : List Int} (hx : ∃ x ∈ xs, x ≠ 0) : shortL (xs.map (c * ·)) = shortL xs := by
  have eg := gcdL_scale c xs 0
  rw [Nat.mul_zero] at eg
  have ef := firstL_scale h xs
  have fn := firstL_ne hx
  have gp := gcdL_pos hx 0
  unfold shortL
  rw [eg, ef]
  have cast : ((c.natAbs * gcdL 0 xs : Nat) : Int) = (c.natAbs : Int) * (gcdL 0 xs : Int) := Int.natCast_mul _ _
  rw [cast]
  have cn : (0 : Int) < c.natAbs := by omega
  have div : ∀ y : Int, (c.natAbs : Int) * y / ((c.natAbs : Int) * (gcdL 0 xs : Int)) = y / (gcdL 0 xs : Int) := fun y => Int.mul_ediv_mul_of_pos _ _ cn
  rcases Int.lt_or_gt_of_ne h with hc | hc
  · have ec : c = -(c.natAbs : Int) := by omega
    have e1 : ∀ x : Int, c * x = (c.natAbs : Int) * (-x) := fun x => by
      rw [Int.mul_neg, ← Int.neg_mul, ← ec]
    by_cases hf : 0 < firstL xs
    · have : ¬ 0 < c * firstL xs := by
        have := Int.mul_neg_of_neg_of_pos hc hf
        omega
      rw [if_neg this, if_pos hf, List.map_map]
      refine List.map_congr_left fun x _ => ?_
      show -(c * x) / _ = _
      rw [e1, ← Int.mul_neg, Int.neg_neg, div]
    · have : 0 < c * firstL xs := Int.mul_pos_of_neg_of_neg hc (by omega)
      rw [if_pos this, if_neg hf, List.map_map]
      refine List.map_congr_left fun x _ => ?_
      show c * x / _ = _
      rw [e1, div]
  · have ec : c = (c.natAbs : Int) := by omega
    have e1 : ∀ x : Int, c * x = (c.natAbs : Int) * x := fun x => by rw [← ec]
    by_cases hf : 0 < firstL xs
    · rw [if_pos (Int.mul_pos hc hf), if_pos hf, List.map_map]
      refine List.map_congr_left fun x _ => ?_
      show c * x / _ = _
      rw [e1, div]
    · have : ¬ 0 < c * firstL xs := by
        have := Int.mul_neg_of_pos_of_neg hc (show firstL xs < 0 by omega)
        omega
      rw [if_neg this, if_neg hf, List.map_map]
      refine List.map_congr_left fun x _ => ?_
      show -(c * x) / _ = _
      rw [e1, ← Int.mul_neg, div]
/-- what was divided away -/
theorem short_mul {xs : List Int} (hx : ∃ x ∈ xs, x ≠ 0) : ∃ c : Int, c ≠ 0 ∧ xs = (shortL xs).map (c * ·) := by
  have gp := gcdL_pos hx 0
  have gd := (gcdL_dvd (xs := xs) (g := 0)).2
  have dv : ∀ x ∈ xs, ((gcdL 0 xs : Nat) : Int) ∣ x := fun x m => Int.ofNat_dvd_left.mpr (gd x m)
  unfold shortL
  by_cases hf : 0 < firstL xs
  · refine ⟨(gcdL 0 xs : Nat), by omega, ?_⟩
    rw [if_pos hf, List.map_map]
    refine (List.map_id xs).symm.trans (List.map_congr_left fun x m => ?_)
    show x = (gcdL 0 xs : Nat) * (x / (gcdL 0 xs : Nat))
    exact (Int.mul_ediv_cancel' (dv x m)).symm
  · refine ⟨-(gcdL 0 xs : Nat), by omega, ?_⟩
    rw [if_neg hf, List.map_map]
    refine (List.map_id xs).symm.trans (List.map_congr_left fun x m => ?_)
    show x = -((gcdL 0 xs : Nat) : Int) * (-x / (gcdL 0 xs : Nat))
    rw [Int.neg_mul, Int.mul_ediv_cancel' (Int.dvd_neg.mpr (dv x m)), Int.neg_neg]
theorem short_mul' {xs : List Int} (hx : ∃ x ∈ xs, x ≠ 0) : ∃ c : Int, c ≠ 0 ∧ c.natAbs = gcdL 0 xs ∧ (0 < c ↔ 0 < firstL xs) ∧ xs = (shortL xs).map (c * ·) := by
  have gp := gcdL_pos hx 0
  have gd := (gcdL_dvd (xs := xs) (g := 0)).2
  have dv : ∀ x ∈ xs, ((gcdL 0 xs : Nat) : Int) ∣ x := fun x m => Int.ofNat_dvd_left.mpr (gd x m)
  unfold shortL
  by_cases hf : 0 < firstL xs
  · refine ⟨(gcdL 0 xs : Nat), by omega, by omega, ⟨fun _ => hf, fun _ => by omega⟩, ?_⟩
    rw [if_pos hf, List.map_map]
    refine (List.map_id xs).symm.trans (List.map_congr_left fun x m => ?_)
    exact (Int.mul_ediv_cancel' (dv x m)).symm
  · refine ⟨-(gcdL 0 xs : Nat), by omega, by omega, ⟨fun _ => by omega, fun z => absurd z hf⟩, ?_⟩
    rw [if_neg hf, List.map_map]
    refine (List.map_id xs).symm.trans (List.map_congr_left fun x m => ?_)
    show x = -((gcdL 0 xs : Nat) : Int) * (-x / (gcdL 0 xs : Nat))
    rw [Int.neg_mul, Int.mul_ediv_cancel' (Int.dvd_neg.mpr (dv x m)), Int.neg_neg]
theorem short_ne {xs : List Int} (hx : ∃ x ∈ xs, x ≠ 0) : ∃ x ∈ shortL xs, x ≠ 0 := by
  obtain ⟨c, hc, e⟩ := short_mul hx
  obtain ⟨x, m, h0⟩ := hx
  rw [e] at m
  obtain ⟨y, my, ey⟩ := List.mem_map.mp m
  exact ⟨y, my, fun z => h0 (by rw [← ey, z]; simp)⟩
theorem short_idem {xs : List Int} (hx : ∃ x ∈ xs, x ≠ 0) : shortL (shortL xs) = shortL xs := by
  obtain ⟨c, hc, e⟩ := short_mul hx
  have q := short_scale hc (short_ne hx)
  rw [← e] at q
  exact q.symm
theorem short_gcd {xs : List Int} (hx : ∃ x ∈ xs, x ≠ 0) : gcdL 0 (shortL xs) = 1 := by
  obtain ⟨c, hc, hg, _, e⟩ := short_mul' hx
  have q := gcdL_scale c (shortL xs) 0
  rw [Nat.mul_zero, ← e, ← hg] at q
  have cp : 0 < c.natAbs := by omega
  have : c.natAbs * 1 = c.natAbs * gcdL 0 (shortL xs) := by omega
  exact (Nat.eq_of_mul_eq_mul_left cp this).symm
theorem short_first {xs : List Int} (hx : ∃ x ∈ xs, x ≠ 0) : 0 < firstL (shortL xs) := by
  obtain ⟨c, hc, _, hp, e⟩ := short_mul' hx
  have q := firstL_scale hc (shortL xs)
  rw [← e] at q
  have fn := firstL_ne (short_ne hx)
  rw [q] at hp
  rcases Int.lt_or_gt_of_ne fn with z | z
  · rcases Int.lt_or_gt_of_ne hc with y | y
    · have := Int.mul_pos_of_neg_of_neg y z
      omega
    · have := Int.mul_neg_of_pos_of_neg y z
      omega
  · exact z
/-- parts of one direction -/
theorem short_par {xs ys : List Int} (hx : ∃ x ∈ xs, x ≠ 0) (hy : ∃ y ∈ ys, y ≠ 0) {a b : Int} (ha : a ≠ 0) (hb : b ≠ 0) (h : xs.map (a * ·) = ys.map (b * ·)) : shortL xs = shortL ys := by
  rw [← short_scale ha hx, h, short_scale hb hy]
theorem short_len (xs : List Int) : (shortL xs).length = xs.length := by
  unfold shortL
  split <;> simp
theorem short_lt {n : Nat} {xs : List Int} (hx : ∃ x ∈ xs, x ≠ 0) (h : ∀ x ∈ xs, x.natAbs < 2 ^ n) : ∀ x ∈ shortL xs, x.natAbs < 2 ^ n := by
  obtain ⟨c, hc, e⟩ := short_mul hx
  intro y my
  have m : c * y ∈ xs := by rw [e]; exact List.mem_map.mpr ⟨y, my, rfl⟩
  have := h _ m
  rw [Int.natAbs_mul] at this
  have c1 : 1 ≤ c.natAbs := by omega
  have : y.natAbs ≤ c.natAbs * y.natAbs := Nat.le_mul_of_pos_left _ c1
  omega

/-! ### places -/
/-- low, its bottom above 0, or (1, 0) -/
def Nrm (p q : Int) : Prop := Nat.gcd p.natAbs q.natAbs = 1 ∧ (0 < q ∨ (q = 0 ∧ p = 1))
theorem nrm_uniq {p q r s : Int} (h1 : Nrm p q) (h2 : Nrm r s) (h : p * s = q * r) : p = r ∧ q = s := by
  obtain ⟨g1, k1⟩ := h1
  obtain ⟨g2, k2⟩ := h2
  have en : p.natAbs * s.natAbs = q.natAbs * r.natAbs := by rw [← Int.natAbs_mul, ← Int.natAbs_mul, h]
  have d1 : q.natAbs ∣ s.natAbs := by
    have d : q.natAbs ∣ p.natAbs * s.natAbs := by rw [en]; exact Nat.dvd_mul_right _ _
    exact Nat.Coprime.dvd_of_dvd_mul_left (Nat.coprime_comm.mp g1) d
  have d2 : s.natAbs ∣ q.natAbs := by
    have d : s.natAbs ∣ q.natAbs * r.natAbs := by rw [← en]; exact Nat.dvd_mul_left _ _
    exact Nat.Coprime.dvd_of_dvd_mul_right (Nat.coprime_comm.mp g2) d
  have e := Nat.dvd_antisymm d1 d2
  have eq : q = s := by omega
  subst eq
  rcases k1 with k1 | ⟨k1, k1'⟩
  · refine ⟨?_, rfl⟩
    rw [Int.mul_comm p q] at h
    exact Int.eq_of_mul_eq_mul_left (by omega) h
  · rcases k2 with k2 | ⟨k2, k2'⟩
    · omega
    · exact ⟨by omega, rfl⟩
/-- where (t, b) lies, low -/
def nrm (t b : Int) : Int × Int := if b = 0 then (1, 0) else if 0 < b then (t / (Nat.gcd t.natAbs b.natAbs : Nat), b / (Nat.gcd t.natAbs b.natAbs : Nat)) else (-t / (Nat.gcd t.natAbs b.natAbs : Nat), -b / (Nat.gcd t.natAbs b.natAbs : Nat))
theorem gcd_div {t b : Int} (h : 0 < Nat.gcd t.natAbs b.natAbs) : Nat.gcd (t / (Nat.gcd t.natAbs b.natAbs : Nat)).natAbs (b / (Nat.gcd t.natAbs b.natAbs : Nat)).natAbs = 1 := by
  have d1 : ((Nat.gcd t.natAbs b.natAbs : Nat) : Int) ∣ t := Int.ofNat_dvd_left.mpr (Nat.gcd_dvd_left _ _)
  have d2 : ((Nat.gcd t.natAbs b.natAbs : Nat) : Int) ∣ b := Int.ofNat_dvd_left.mpr (Nat.gcd_dvd_right _ _)
  rw [Int.natAbs_ediv_of_dvd d1, Int.natAbs_ediv_of_dvd d2, Int.natAbs_natCast]
  exact (Nat.gcd_div (Nat.gcd_dvd_left _ _) (Nat.gcd_dvd_right _ _)).trans (Nat.div_self h)
theorem nrm_spec {t b : Int} (h : t ≠ 0 ∨ b ≠ 0) : Nrm (nrm t b).1 (nrm t b).2 ∧ t * (nrm t b).2 = b * (nrm t b).1 := by
  unfold nrm
  by_cases hb : b = 0
  · rw [if_pos hb]
    exact ⟨⟨by decide, .inr ⟨rfl, rfl⟩⟩, by simp [hb]⟩
  · rw [if_neg hb]
    have gp : 0 < Nat.gcd t.natAbs b.natAbs := Nat.gcd_pos_of_pos_right _ (by omega)
    have d1 : ((Nat.gcd t.natAbs b.natAbs : Nat) : Int) ∣ t := Int.ofNat_dvd_left.mpr (Nat.gcd_dvd_left _ _)
    have d2 : ((Nat.gcd t.natAbs b.natAbs : Nat) : Int) ∣ b := Int.ofNat_dvd_left.mpr (Nat.gcd_dvd_right _ _)
    have gd := gcd_div gp
    obtain ⟨u, hu⟩ := d1
    obtain ⟨v, hv⟩ := d2
    have gi : ((Nat.gcd t.natAbs b.natAbs : Nat) : Int) ≠ 0 := by omega
    have eu : t / (Nat.gcd t.natAbs b.natAbs : Nat) = u := by rw [Int.ediv_eq_of_eq_mul_right gi hu]
    have ev : b / (Nat.gcd t.natAbs b.natAbs : Nat) = v := by rw [Int.ediv_eq_of_eq_mul_right gi hv]
    have eu2 : -t / (Nat.gcd t.natAbs b.natAbs : Nat) = -u := Int.ediv_eq_of_eq_mul_right gi (by rw [Int.mul_neg, ← hu])
    have ev2 : -b / (Nat.gcd t.natAbs b.natAbs : Nat) = -v := Int.ediv_eq_of_eq_mul_right gi (by rw [Int.mul_neg, ← hv])
    rw [eu, ev] at gd
    by_cases hp : 0 < b
    · rw [if_pos hp, eu, ev]
      have vp : 0 < v := by
        rcases Int.lt_trichotomy v 0 with z | z | z
        · have := Int.mul_neg_of_pos_of_neg (a := ((Nat.gcd t.natAbs b.natAbs : Nat) : Int)) (by omega) z
          omega
        · rw [z] at hv
          simp at hv
          omega
        · exact z
      refine ⟨⟨gd, .inl vp⟩, ?_⟩
      show t * v = b * u
      generalize ((Nat.gcd t.natAbs b.natAbs : Nat) : Int) = g at hu hv
      subst hu
      rw [hv]
      grind
    · rw [if_neg hp, eu2, ev2]
      have vp : 0 < -v := by
        rcases Int.lt_trichotomy v 0 with z | z | z
        · omega
        · rw [z] at hv
          simp at hv
          omega
        · have := Int.mul_pos (a := ((Nat.gcd t.natAbs b.natAbs : Nat) : Int)) (by omega) z
          omega
      refine ⟨⟨by rw [Int.natAbs_neg, Int.natAbs_neg]; exact gd, .inl vp⟩, ?_⟩
      show t * (-v) = b * (-u)
      generalize ((Nat.gcd t.natAbs b.natAbs : Nat) : Int) = g at hu hv
      subst hu
      rw [hv]
      grind
/-- any low place of that direction -/
theorem nrm_eq {t b x y : Int} (h : t ≠ 0 ∨ b ≠ 0) (hn : Nrm x y) (hp : t * y = b * x) : nrm t b = (x, y) := by
  obtain ⟨n1, n2⟩ := nrm_spec h
  have key : (nrm t b).1 * y = (nrm t b).2 * x := by
    generalize (nrm t b).1 = u at n2
    generalize (nrm t b).2 = v at n2
    rcases h with h | h
    · refine Int.eq_of_mul_eq_mul_left h ?_
      grind
    · refine Int.eq_of_mul_eq_mul_left h ?_
      grind
  obtain ⟨e1, e2⟩ := nrm_uniq n1 hn key
  exact Prod.ext e1 e2
/-- two parts made short, the sign by the second -/
theorem short_two {t b : Int} (h : t ≠ 0 ∨ b ≠ 0) : ∃ x y, shortL [t, b] = [x, y] ∧ nrm t b = if y < 0 then (-x, -y) else (x, y) := by
  have hx : ∃ x ∈ [t, b], x ≠ 0 := by
    rcases h with h | h
    · exact ⟨t, by simp, h⟩
    · exact ⟨b, by simp, h⟩
  have hl := short_len [t, b]
  obtain ⟨c, hc, hg, _, e⟩ := short_mul' hx
  have g1 := short_gcd hx
  have f1 := short_first hx
  obtain ⟨x, y, exy⟩ : ∃ x y, shortL [t, b] = [x, y] := by
    rcases q : shortL [t, b] with _ | ⟨x, _ | ⟨y, _ | ⟨z, zs⟩⟩⟩ <;> rw [q] at hl <;> simp at hl
    exact ⟨x, y, rfl⟩
  rw [exy] at e g1 f1
  refine ⟨x, y, exy, ?_⟩
  have et : t = c * x ∧ b = c * y := by
    rw [List.map_cons, List.map_cons, List.map_nil] at e
    injection e with e1 e2
    injection e2 with e2 _
    exact ⟨e1, e2⟩
  have g2 : Nat.gcd x.natAbs y.natAbs = 1 := by
    have : gcdL 0 [x, y] = Nat.gcd x.natAbs y.natAbs := by simp [gcdL]
    omega
  have par : t * y = b * x := by
    rw [et.1, et.2]
    grind
  by_cases hy : y < 0
  · rw [if_pos hy]
    refine nrm_eq h ⟨by rw [Int.natAbs_neg, Int.natAbs_neg]; exact g2, .inl (by omega)⟩ ?_
    rw [Int.mul_neg, Int.mul_neg, par]
  · rw [if_neg hy]
    refine nrm_eq h ⟨g2, ?_⟩ par
    by_cases z : y = 0
    · refine .inr ⟨z, ?_⟩
      subst z
      have x1 : x.natAbs = 1 := by simpa using g2
      have xp : 0 < x := by
        by_cases zx : x = 0
        · subst zx
          simp [firstL] at f1
        · simpa [firstL, zx] using f1
      omega
    · exact .inl (by omega)

/-! ### == of tuples of ints -/
theorem toPy_ints (n : Nat) (s : Sto) : ∀ xs : List Int, mapO (toPy (n + 1) s) (iL xs) = some (xs.map .int)
  | [] => rfl
  | x :: xs => by
    have ih := toPy_ints n s xs
    have e1 : toPy (n + 1) s (.int x) = some (.int x) := by rw [toPy]
    unfold iL at ih ⊢
    rw [List.map_cons, mapO, e1, ih]
    rfl
theorem lay_ints : ∀ xs : List Int, PySem.PyData.canLayAll0 (xs.map .int) = true
  | [] => rfl
  | x :: xs => by
    have ih := lay_ints xs
    simpa [PySem.PyData.canLayAll0, PySem.PyData.canLay0] using ih
theorem depth_ints : ∀ xs : List Int, PySem.PyData.depthAll (xs.map .int) ≤ 1
  | [] => by simp [PySem.PyData.depthAll]
  | x :: xs => by
    have ih := depth_ints xs
    simp [PySem.PyData.depthAll, PySem.PyData.depth]
    omega
theorem eqv_ints : ∀ xs ys : List Int, PySem.PyData.eqvAll (xs.map .int) (ys.map .int) = decide (xs = ys)
  | [], [] => by simp [PySem.PyData.eqvAll]
  | [], _ :: _ => by simp [PySem.PyData.eqvAll]
  | _ :: _, [] => by simp [PySem.PyData.eqvAll]
  | x :: xs, y :: ys => by
    have ih := eqv_ints xs ys
    rw [List.map_cons, List.map_cons, PySem.PyData.eqvAll, ih, PySem.PyData.eqv]
    by_cases h : x = y <;> simp [h]
theorem shaped_ints (xs : List Int) : PySem.SeqAt.shaped (.tuple (xs.map .int)) = true := by
  have h1 := lay_ints xs
  have h2 := depth_ints xs
  unfold PySem.SeqAt.shaped
  rw [PySem.PyData.canLay0, PySem.PyData.depth, h1]
  exact decide_eq_true (by omega)
theorem eq_ints (s : Sto) (xs ys : List Int) : eqD s (.tup (iL xs)) (.tup (iL ys)) = some (decide (xs = ys)) := by
  have e : ∀ zs : List Int, toPy deep s (.tup (iL zs)) = some (.tuple (zs.map .int)) := fun zs => by
    show (match mapO (toPy 29 s) (iL zs) with
      | some ys => some (PySem.PyData.tuple ys)
      | none => none) = _
    rw [toPy_ints 28 s zs]
  unfold eqD
  rw [e, e]
  show (if PySem.SeqAt.shaped (.tuple (xs.map .int)) = true then (if PySem.SeqAt.shaped (.tuple (ys.map .int)) = true then some (PySem.PyData.eqv (.tuple (xs.map .int)) (.tuple (ys.map .int))) else none) else none) = _
  rw [if_pos (shaped_ints xs), if_pos (shaped_ints ys), PySem.PyData.eqv, eqv_ints]
theorem eq2 (s : Sto) (a b c d : Int) : eqD s (.tup [.int a, .int b]) (.tup [.int c, .int d]) = some (decide (a = c ∧ b = d)) := by
  have e := eq_ints s [a, b] [c, d]
  simpa [iL] using e
theorem eq4 (s : Sto) (a b c d e f g h : Int) : eqD s (.tup [.int a, .int b, .int c, .int d]) (.tup [.int e, .int f, .int g, .int h]) = some (decide (a = e ∧ b = f ∧ c = g ∧ d = h)) := by
  have q := eq_ints s [a, b, c, d] [e, f, g, h]
  simpa [iL] using q
end Px
end

section
set_option maxRecDepth 100000
set_option maxHeartbeats 0
namespace Lw
open PySem Px
def top (i : Nat) : PySem.Stmt := PySem.Challenge.pw_linesruled_k36_whole_agreeing_swings.main.body.getD i (.Pass ⟨0, 0, 0, 0⟩)
def c_SIZE : D := (.int 10000)
def c_SMALL : D := (.int 1000)
def c_NONE : D := (.tup [(.int 1), (.int 0), (.int 0), (.int 1)])
def t__law_is_found : Td := ⟨(.bl true), [(0, (.bl true)), (1, (.bl true)), (2, (.bl true)), (3, (.bl false))]⟩
def b_is_whole : RS := (.seq (.ret (.and (.isi (.var 0) .int) (.and (.not (.isi (.var 0) .bool)) (.chain .le .le (.var 1) (.var 0) (.var 2))))) .pass)
def g_is_whole : FD := ⟨3, 3, b_is_whole⟩
def b_need_whole : RS := (.seq (.ifs (.not (.call 0 (.cons (.var 0) (.cons (.var 1) (.cons (.var 2) .nil))))) (.seq (.raise 1) .pass) .pass) .pass)
def g_need_whole : FD := ⟨3, 3, b_need_whole⟩
def b_is_tuple_of : RS := (.seq (.ret (.and (.isi (.var 0) .tuple) (.chain .le .le (.var 1) (.bi .len false (.cons (.var 0) .nil)) (.var 2)))) .pass)
def g_is_tuple_of : FD := ⟨3, 3, b_is_tuple_of⟩
def b_measure : RS := (.seq (.ret (.bin .sub false (.bin .mul false (.sub (.var 0) (.c (.int 0))) (.sub (.var 0) (.c (.int 3)))) (.bin .mul false (.sub (.var 0) (.c (.int 1))) (.sub (.var 0) (.c (.int 2)))))) .pass)
def g_measure : FD := ⟨1, 1, b_measure⟩
def b_trace : RS := (.seq (.ret (.bin .add false (.sub (.var 0) (.c (.int 0))) (.sub (.var 0) (.c (.int 3))))) .pass)
def g_trace : FD := ⟨1, 1, b_trace⟩
def b_shortened : RS := (.seq (.set (.name 1) (.c (.int 0))) (.seq (.for (.name 2) (.seq (.var 0)) (.seq (.set (.name 1) (.bi .gcd false (.cons (.var 1) (.cons (.var 2) .nil)))) .pass)) (.seq (.set (.name 3) (.sub (.comp false (.var 2) [2] (.name 2) (.seq (.var 0)) (.cmp .ne (.var 2) (.c (.int 0)))) (.c (.int 0)))) (.seq (.ret (.bi .tuple false (.cons (.comp false (.ite (.cmp .gt (.var 3) (.c (.int 0))) (.bin .fdiv false (.var 2) (.var 1)) (.bin .fdiv false (.neg (.var 2)) (.var 1))) [2] (.name 2) (.seq (.var 0)) (.c (.bl true))) .nil))) .pass))))
def g_shortened : FD := ⟨1, 4, b_shortened⟩
def b_fits_swing : RS := (.seq (.ifs (.or (.not (.call 2 (.cons (.var 0) (.cons (.c (.int 4)) (.cons (.c (.int 4)) .nil))))) (.not (.bi .all false (.cons (.comp false (.call 0 (.cons (.var 2) (.cons (.neg (.var 1)) (.cons (.var 1) .nil)))) [2] (.name 2) (.seq (.var 0)) (.c (.bl true))) .nil)))) (.seq (.ret (.c (.bl false))) .pass) .pass) (.seq (.ret (.and (.cmp .ne (.call 3 (.cons (.var 0) .nil)) (.c (.int 0))) (.cmp .eq (.call 5 (.cons (.var 0) .nil)) (.var 0)))) .pass))
def g_fits_swing : FD := ⟨2, 3, b_fits_swing⟩
def b_need_swing : RS := (.seq (.ifs (.not (.call 6 (.cons (.var 0) (.cons (.c c_SIZE) .nil)))) (.seq (.raise 2) .pass) .pass) .pass)
def g_need_swing : FD := ⟨1, 1, b_need_swing⟩
def b_need_two : RS := (.seq (.drop (.call 7 (.cons (.var 0) .nil))) (.seq (.drop (.call 7 (.cons (.var 1) .nil))) .pass))
def g_need_two : FD := ⟨2, 2, b_need_two⟩
def b_raw_product : RS := (.seq (.set (.tup (.cons (.name 2) (.cons (.name 3) (.cons (.name 4) (.cons (.name 5) .nil))))) (.var 1)) (.seq (.set (.tup (.cons (.name 6) (.cons (.name 7) (.cons (.name 8) (.cons (.name 9) .nil))))) (.var 0)) (.seq (.ret (.tup (.cons (.bin .add false (.bin .mul false (.var 2) (.var 6)) (.bin .mul false (.var 3) (.var 8))) (.cons (.bin .add false (.bin .mul false (.var 2) (.var 7)) (.bin .mul false (.var 3) (.var 9))) (.cons (.bin .add false (.bin .mul false (.var 4) (.var 6)) (.bin .mul false (.var 5) (.var 8))) (.cons (.bin .add false (.bin .mul false (.var 4) (.var 7)) (.bin .mul false (.var 5) (.var 9))) .nil)))))) .pass)))
def g_raw_product : FD := ⟨2, 10, b_raw_product⟩
def b_product : RS := (.seq (.ret (.call 5 (.cons (.call 9 (.cons (.var 0) (.cons (.var 1) .nil))) .nil))) .pass)
def g_product : FD := ⟨2, 2, b_product⟩
def b_half_of : RS := (.seq (.set (.tup (.cons (.name 1) (.cons (.name 2) (.cons (.name 3) (.cons (.name 4) .nil))))) (.var 0)) (.seq (.ifs (.cmp .eq (.var 1) (.var 4)) (.seq (.set (.name 5) (.lst true (.cons (.tup (.cons (.c (.int 1)) (.cons (.c (.int 0)) (.cons (.c (.int 0)) (.cons (.neg (.c (.int 1))) .nil))))) (.cons (.tup (.cons (.c (.int 0)) (.cons (.var 2) (.cons (.neg (.var 3)) (.cons (.c (.int 0)) .nil))))) .nil)))) .pass) (.seq (.set (.name 5) (.lst true (.cons (.tup (.cons (.var 3) (.cons (.bin .sub false (.var 4) (.var 1)) (.cons (.c (.int 0)) (.cons (.neg (.var 3)) .nil))))) (.cons (.tup (.cons (.var 2) (.cons (.c (.int 0)) (.cons (.bin .sub false (.var 4) (.var 1)) (.cons (.neg (.var 2)) .nil))))) .nil)))) .pass)) (.seq (.drop (.meth .append (.var 5) (.cons (.bi .tuple false (.cons (.comp false (.bin .add false (.var 6) (.var 7)) [6, 7] (.tup (.cons (.name 6) (.cons (.name 7) .nil))) (.zip (.sub (.var 5) (.c (.int 0))) (.sub (.var 5) (.c (.int 1)))) (.c (.bl true))) .nil)) .nil))) (.seq (.ret (.call 5 (.cons (.sub (.comp false (.var 8) [8] (.name 8) (.seq (.var 5)) (.cmp .ne (.call 3 (.cons (.var 8) .nil)) (.c (.int 0)))) (.c (.int 0))) .nil))) .pass))))
def g_half_of : FD := ⟨1, 9, b_half_of⟩
def b_do_agree : RS := (.seq (.ret (.cmp .eq (.call 10 (.cons (.var 0) (.cons (.var 1) .nil))) (.call 10 (.cons (.var 1) (.cons (.var 0) .nil))))) .pass)
def g_do_agree : FD := ⟨2, 2, b_do_agree⟩
def b_made_in : RS := (.seq (.set (.tup (.cons (.name 3) (.cons (.name 4) (.cons (.name 5) (.cons (.name 6) .nil))))) (.var 0)) (.seq (.ret (.tup (.cons (.bin .add false (.bin .mul false (.var 1) (.var 3)) (.var 2)) (.cons (.bin .mul false (.var 1) (.var 4)) (.cons (.bin .mul false (.var 1) (.var 5)) (.cons (.bin .add false (.bin .mul false (.var 1) (.var 6)) (.var 2)) .nil)))))) .pass))
def g_made_in : FD := ⟨3, 7, b_made_in⟩
def b_numbers_in : RS := (.seq (.for (.name 2) (.seq (.tup (.cons (.c (.int 1)) (.cons (.c (.int 2)) .nil)))) (.seq (.ifs (.cmp .ne (.sub (.var 0) (.var 2)) (.c (.int 0))) (.seq (.set (.tup (.cons (.name 3) (.cons (.name 4) .nil))) (.tup (.cons (.sub (.var 1) (.var 2)) (.cons (.sub (.var 0) (.var 2)) .nil)))) (.seq (.set (.name 5) (.bin .sub false (.bin .mul false (.sub (.var 1) (.c (.int 0))) (.var 4)) (.bin .mul false (.var 3) (.sub (.var 0) (.c (.int 0)))))) (.seq (.ret (.call 15 (.cons (.var 0) (.cons (.var 1) (.cons (.var 3) (.cons (.var 5) .nil)))))) .pass))) .pass) .pass)) (.seq (.ifs (.or (.cmp .ne (.sub (.var 1) (.c (.int 1))) (.c (.int 0))) (.cmp .ne (.sub (.var 1) (.c (.int 2))) (.c (.int 0)))) (.seq (.ret (.c .non)) .pass) .pass) (.seq (.set (.tup (.cons (.name 6) (.cons (.name 7) .nil))) (.tup (.cons (.sub (.var 0) (.c (.int 0))) (.cons (.sub (.var 0) (.c (.int 3))) .nil)))) (.seq (.ret (.call 15 (.cons (.var 0) (.cons (.var 1) (.cons (.bin .sub false (.sub (.var 1) (.c (.int 0))) (.sub (.var 1) (.c (.int 3)))) (.cons (.bin .sub false (.bin .mul false (.sub (.var 1) (.c (.int 3))) (.var 6)) (.bin .mul false (.sub (.var 1) (.c (.int 0))) (.var 7))) .nil)))))) .pass))))
def g_numbers_in : FD := ⟨2, 8, b_numbers_in⟩
def b_checked : RS := (.seq (.ifs (.or (.cmp .eq (.tup (.cons (.var 2) (.cons (.var 3) .nil))) (.tup (.cons (.c (.int 0)) (.cons (.c (.int 0)) .nil)))) (.cmp .eq (.call 3 (.cons (.call 13 (.cons (.var 0) (.cons (.var 2) (.cons (.var 3) .nil)))) .nil)) (.c (.int 0)))) (.seq (.ret (.c .non)) .pass) .pass) (.seq (.ret (.ite (.cmp .eq (.call 5 (.cons (.call 13 (.cons (.var 0) (.cons (.var 2) (.cons (.var 3) .nil)))) .nil)) (.var 1)) (.call 5 (.cons (.tup (.cons (.var 2) (.cons (.var 3) .nil))) .nil)) (.c .non))) .pass))
def g_checked : FD := ⟨4, 4, b_checked⟩
def b_do_swings_agree : RS := (.seq (.drop (.call 8 (.cons (.var 0) (.cons (.var 1) .nil)))) (.seq (.ret (.call 12 (.cons (.var 0) (.cons (.var 1) .nil)))) .pass))
def g_do_swings_agree : FD := ⟨2, 2, b_do_swings_agree⟩
def b_are_crossed : RS := (.seq (.drop (.call 8 (.cons (.var 0) (.cons (.var 1) .nil)))) (.seq (.ret (.and (.cmp .eq (.call 4 (.cons (.var 0) .nil)) (.c (.int 0))) (.and (.cmp .eq (.call 4 (.cons (.var 1) .nil)) (.c (.int 0))) (.and (.cmp .ne (.var 0) (.var 1)) (.call 12 (.cons (.var 0) (.cons (.var 1) .nil))))))) .pass))
def g_are_crossed : FD := ⟨2, 2, b_are_crossed⟩
def b_made_swing : RS := (.seq (.drop (.call 7 (.cons (.var 0) .nil))) (.seq (.drop (.call 1 (.cons (.var 1) (.cons (.neg (.c c_SMALL)) (.cons (.c c_SMALL) .nil))))) (.seq (.drop (.call 1 (.cons (.var 2) (.cons (.neg (.c c_SMALL)) (.cons (.c c_SMALL) .nil))))) (.seq (.set (.name 3) (.call 13 (.cons (.var 0) (.cons (.var 1) (.cons (.var 2) .nil))))) (.seq (.ifs (.cmp .eq (.call 3 (.cons (.var 3) .nil)) (.c (.int 0))) (.seq (.raise 3) .pass) .pass) (.seq (.ret (.call 5 (.cons (.var 3) .nil))) .pass))))))
def g_made_swing : FD := ⟨3, 4, b_made_swing⟩
def b_making_numbers : RS := (.seq (.drop (.call 8 (.cons (.var 0) (.cons (.var 1) .nil)))) (.seq (.ifs (.cmp .eq (.var 0) (.c c_NONE)) (.seq (.ret (.ite (.cmp .eq (.var 1) (.c c_NONE)) (.tup (.cons (.c (.int 0)) (.cons (.c (.int 1)) .nil))) (.c .non))) .pass) .pass) (.seq (.ret (.call 14 (.cons (.var 0) (.cons (.var 1) .nil)))) .pass)))
def g_making_numbers : FD := ⟨2, 2, b_making_numbers⟩
def b_crossed_with : RS := (.seq (.drop (.call 7 (.cons (.var 0) .nil))) (.seq (.ifs (.cmp .ne (.call 4 (.cons (.var 0) .nil)) (.c (.int 0))) (.seq (.raise 2) .pass) .pass) (.seq (.ret (.call 11 (.cons (.var 0) .nil))) .pass)))
def g_crossed_with : FD := ⟨1, 1, b_crossed_with⟩
def b__law_cup : RS := (.seq (.set (.name 1) (.bi .abs false (.cons (.sub (.bin .add false (.bi .list false (.cons (.var 0) .nil)) (.lst false (.cons (.c (.int 0)) .nil))) (.c (.int 0))) .nil))) (.seq (.ret (.lst true (.cons (.ite (.cmp .ge (.var 1) (.bin .pow false (.c (.int 10)) (.c (.int 18)))) (.bin .fdiv false (.var 1) (.c (.int 181))) (.c (.int 0))) (.cons (.bin .add false (.bin .mod false (.bi .int false (.cons (.bin .add false (.bin .mul false (.var 1) (.c (.int 439))) (.c (.int 6529))) .nil)) (.c (.int 99991))) (.c (.int 283))) .nil)))) .pass))
def g__law_cup : FD := ⟨1, 2, b__law_cup⟩
def b__law_roll : RS := (.seq (.ifs (.cmp .gt (.sub (.var 0) (.c (.int 0))) (.c (.int 0))) (.seq (.set (.name 2) (.bin .mod false (.bi .int false (.cons (.sub (.var 0) (.c (.int 0))) .nil)) (.var 1))) (.seq (.put (.var 0) (.c (.int 0)) (.bin .fdiv false (.sub (.var 0) (.c (.int 0))) (.var 1))) (.seq (.ret (.var 2)) .pass))) .pass) (.seq (.put (.var 0) (.c (.int 1)) (.bin .mod false (.bi .int false (.cons (.bin .add false (.bin .mul false (.sub (.var 0) (.c (.int 1))) (.c (.int 73))) (.c (.int 1237))) .nil)) (.c (.int 99991)))) (.seq (.ret (.bin .mod false (.bi .int false (.cons (.bin .fdiv false (.sub (.var 0) (.c (.int 1))) (.c (.int 11))) .nil)) (.var 1))) .pass)))
def g__law_roll : FD := ⟨2, 3, b__law_roll⟩
def b__law_some : RS := (.seq (.ret (.sub (.var 1) (.call 22 (.cons (.var 0) (.cons (.bi .len false (.cons (.var 1) .nil)) .nil))))) .pass)
def g__law_some : FD := ⟨2, 2, b__law_some⟩
def b__law_sort : RS := (.seq (.ifs (.or (.cmp .isN (.var 0) (.c .non)) (.isi (.var 0) .bool)) (.seq (.ret (.ite (.cmp .isN (.var 0) (.c .non)) (.c (.int 0)) (.c (.int 1)))) .pass) .pass) (.seq (.ifs (.or (.isi (.var 0) .int) (.isi (.var 0) .str)) (.seq (.ret (.ite (.isi (.var 0) .int) (.c (.int 2)) (.c (.int 3)))) .pass) .pass) (.seq (.ret (.ite (.isi (.var 0) .tuple) (.c (.int 4)) (.ite (.isi (.var 0) .list) (.c (.int 5)) (.c (.int 6))))) .pass)))
def g__law_sort : FD := ⟨1, 1, b__law_sort⟩
def b__law_like : RS := (.seq (.set (.name 2) (.call 24 (.cons (.var 1) .nil))) (.seq (.ifs (.or (.cmp .ne (.call 24 (.cons (.var 0) .nil)) (.var 2)) (.cmp .eq (.var 2) (.c (.int 6)))) (.seq (.ret (.c (.bl false))) .pass) .pass) (.seq (.ifs (.cmp .isin (.var 2) (.tup (.cons (.c (.int 4)) (.cons (.c (.int 5)) .nil)))) (.seq (.ret (.and (.cmp .eq (.bi .len false (.cons (.var 0) .nil)) (.bi .len false (.cons (.var 1) .nil))) (.cmp .eq (.comp false (.c (.int 1)) [3, 4] (.tup (.cons (.name 3) (.cons (.name 4) .nil))) (.zip (.var 0) (.var 1)) (.not (.call 25 (.cons (.var 3) (.cons (.var 4) .nil))))) (.lst false .nil)))) .pass) .pass) (.seq (.ret (.cmp .eq (.var 0) (.var 1))) .pass))))
def g__law_like : FD := ⟨2, 5, b__law_like⟩
def b__law_is_number : RS := (.seq (.ret (.and (.cmp .eq (.call 24 (.cons (.var 0) .nil)) (.c (.int 2))) (.chain .le .le (.var 1) (.var 0) (.var 2)))) .pass)
def g__law_is_number : FD := ⟨3, 3, b__law_is_number⟩
def b__law_gcd : RS := (.seq (.set (.tup (.cons (.name 0) (.cons (.name 1) .nil))) (.tup (.cons (.bi .abs false (.cons (.var 0) .nil)) (.cons (.bi .abs false (.cons (.var 1) .nil)) .nil)))) (.seq (.wh whN (.cmp .ne (.var 1) (.c (.int 0))) (.seq (.set (.tup (.cons (.name 0) (.cons (.name 1) .nil))) (.tup (.cons (.var 1) (.cons (.bin .mod false (.bi .int false (.cons (.var 0) .nil)) (.var 1)) .nil)))) .pass)) (.seq (.ret (.var 0)) .pass)))
def g__law_gcd : FD := ⟨2, 2, b__law_gcd⟩
def b__law_short : RS := (.seq (.set (.name 1) (.c (.int 0))) (.seq (.for (.name 2) (.seq (.var 0)) (.seq (.set (.name 1) (.call 27 (.cons (.var 1) (.cons (.var 2) .nil)))) .pass)) (.seq (.set (.name 3) (.sub (.comp false (.var 2) [2] (.name 2) (.seq (.var 0)) (.cmp .ne (.var 2) (.c (.int 0)))) (.c (.int 0)))) (.seq (.ret (.bi .tuple false (.cons (.comp false (.ite (.cmp .gt (.var 3) (.c (.int 0))) (.bin .fdiv false (.var 2) (.var 1)) (.bin .fdiv false (.neg (.var 2)) (.var 1))) [2] (.name 2) (.seq (.var 0)) (.c (.bl true))) .nil))) .pass))))
def g__law_short : FD := ⟨1, 4, b__law_short⟩
def b__law_raw : RS := (.seq (.ret (.tup (.cons (.bin .add false (.bin .mul false (.sub (.var 1) (.c (.int 0))) (.sub (.var 0) (.c (.int 0)))) (.bin .mul false (.sub (.var 1) (.c (.int 1))) (.sub (.var 0) (.c (.int 2))))) (.cons (.bin .add false (.bin .mul false (.sub (.var 1) (.c (.int 0))) (.sub (.var 0) (.c (.int 1)))) (.bin .mul false (.sub (.var 1) (.c (.int 1))) (.sub (.var 0) (.c (.int 3))))) (.cons (.bin .add false (.bin .mul false (.sub (.var 1) (.c (.int 2))) (.sub (.var 0) (.c (.int 0)))) (.bin .mul false (.sub (.var 1) (.c (.int 3))) (.sub (.var 0) (.c (.int 2))))) (.cons (.bin .add false (.bin .mul false (.sub (.var 1) (.c (.int 2))) (.sub (.var 0) (.c (.int 1)))) (.bin .mul false (.sub (.var 1) (.c (.int 3))) (.sub (.var 0) (.c (.int 3))))) .nil)))))) .pass)
def g__law_raw : FD := ⟨2, 2, b__law_raw⟩
def b__law_product : RS := (.seq (.ret (.call 28 (.cons (.call 29 (.cons (.var 0) (.cons (.var 1) .nil))) .nil))) .pass)
def g__law_product : FD := ⟨2, 2, b__law_product⟩
def b__law_undone : RS := (.seq (.ret (.call 28 (.cons (.tup (.cons (.sub (.var 0) (.c (.int 3))) (.cons (.neg (.sub (.var 0) (.c (.int 1)))) (.cons (.neg (.sub (.var 0) (.c (.int 2)))) (.cons (.sub (.var 0) (.c (.int 0))) .nil))))) .nil))) .pass)
def g__law_undone : FD := ⟨1, 1, b__law_undone⟩
def b__law_measure : RS := (.seq (.ret (.bin .sub false (.bin .mul false (.sub (.var 0) (.c (.int 0))) (.sub (.var 0) (.c (.int 3)))) (.bin .mul false (.sub (.var 0) (.c (.int 1))) (.sub (.var 0) (.c (.int 2)))))) .pass)
def g__law_measure : FD := ⟨1, 1, b__law_measure⟩
def b__law_is_swing : RS := (.seq (.ifs (.or (.not (.isi (.var 0) .tuple)) (.or (.cmp .ne (.bi .len false (.cons (.var 0) .nil)) (.c (.int 4))) (.cmp .ne (.comp false (.var 2) [2] (.name 2) (.seq (.var 0)) (.not (.call 26 (.cons (.var 2) (.cons (.neg (.var 1)) (.cons (.var 1) .nil)))))) (.lst false .nil)))) (.seq (.ret (.c (.bl false))) .pass) .pass) (.seq (.ret (.and (.cmp .ne (.call 32 (.cons (.var 0) .nil)) (.c (.int 0))) (.cmp .eq (.call 28 (.cons (.var 0) .nil)) (.var 0)))) .pass))
def g__law_is_swing : FD := ⟨2, 3, b__law_is_swing⟩
def b__law_swing : RS := (.seq (.set (.name 2) (.comp false (.bin .sub false (.call 22 (.cons (.var 0) (.cons (.bin .add false (.bin .mul false (.c (.int 2)) (.var 1)) (.c (.int 1))) .nil))) (.var 1)) [3] (.name 3) (.rng (.cons (.c (.int 4)) .nil)) (.c (.bl true)))) (.seq (.ifs (.cmp .eq (.bin .mul false (.sub (.var 2) (.c (.int 0))) (.sub (.var 2) (.c (.int 3)))) (.bin .mul false (.sub (.var 2) (.c (.int 1))) (.sub (.var 2) (.c (.int 2))))) (.seq (.set (.name 2) (.lst false (.cons (.c (.int 1)) (.cons (.call 22 (.cons (.var 0) (.cons (.bin .add false (.var 1) (.c (.int 1))) .nil))) (.cons (.c (.int 0)) (.cons (.call 23 (.cons (.var 0) (.cons (.lst false (.cons (.c (.int 1)) (.cons (.c (.int 1)) (.cons (.neg (.c (.int 1))) (.cons (.var 1) .nil))))) .nil))) .nil)))))) .pass) .pass) (.seq (.ret (.call 28 (.cons (.bi .tuple false (.cons (.var 2) .nil)) .nil))) .pass)))
def g__law_swing : FD := ⟨2, 4, b__law_swing⟩
def b__law_moved : RS := (.seq (.set (.name 2) (.call 34 (.cons (.var 0) (.cons (.c (.int 2)) .nil)))) (.seq (.ret (.call 30 (.cons (.call 30 (.cons (.call 31 (.cons (.var 2) .nil)) (.cons (.var 1) .nil))) (.cons (.var 2) .nil)))) .pass))
def g__law_moved : FD := ⟨2, 3, b__law_moved⟩
def b__law_home : RS := (.seq (.ret (.call 35 (.cons (.var 0) (.cons (.call 23 (.cons (.var 0) (.cons (.lst false (.cons (.tup (.cons (.c (.int 1)) (.cons (.c (.int 0)) (.cons (.c (.int 0)) (.cons (.c (.int 1)) .nil))))) (.cons (.tup (.cons (.c (.int 0)) (.cons (.c (.int 1)) (.cons (.c (.int 1)) (.cons (.c (.int 0)) .nil))))) (.cons (.tup (.cons (.c (.int 0)) (.cons (.c (.int 1)) (.cons (.neg (.c (.int 1))) (.cons (.c (.int 0)) .nil))))) (.cons (.tup (.cons (.c (.int 0)) (.cons (.c (.int 1)) (.cons (.neg (.c (.int 1))) (.cons (.c (.int 1)) .nil))))) (.cons (.tup (.cons (.c (.int 1)) (.cons (.c (.int 1)) (.cons (.neg (.c (.int 1))) (.cons (.c (.int 1)) .nil))))) (.cons (.tup (.cons (.c (.int 1)) (.cons (.c (.int 1)) (.cons (.neg (.c (.int 1))) (.cons (.c (.int 2)) .nil))))) (.cons (.tup (.cons (.c (.int 1)) (.cons (.c (.int 0)) (.cons (.c (.int 0)) (.cons (.neg (.c (.int 1))) .nil))))) (.cons (.tup (.cons (.c (.int 0)) (.cons (.c (.int 3)) (.cons (.c (.int 1)) (.cons (.c (.int 0)) .nil))))) .nil))))))))) .nil))) .nil)))) .pass)
def g__law_home : FD := ⟨1, 1, b__law_home⟩
def b__law_any : RS := (.seq (.set (.name 1) (.call 22 (.cons (.var 0) (.cons (.c (.int 6)) .nil)))) (.seq (.ifs (.cmp .eq (.var 1) (.c (.int 0))) (.seq (.ret (.call 36 (.cons (.var 0) .nil))) .pass) .pass) (.seq (.ifs (.cmp .eq (.var 1) (.c (.int 1))) (.seq (.ret (.call 35 (.cons (.var 0) (.cons (.tup (.cons (.c (.int 1)) (.cons (.bin .add false (.c (.int 1)) (.call 22 (.cons (.var 0) (.cons (.c (.int 5)) .nil)))) (.cons (.c (.int 0)) (.cons (.c (.int 1)) .nil))))) .nil)))) .pass) .pass) (.seq (.ifs (.cmp .eq (.var 1) (.c (.int 2))) (.seq (.ret (.call 35 (.cons (.var 0) (.cons (.call 28 (.cons (.tup (.cons (.bin .add false (.c (.int 1)) (.call 22 (.cons (.var 0) (.cons (.c (.int 6)) .nil)))) (.cons (.c (.int 0)) (.cons (.c (.int 0)) (.cons (.call 23 (.cons (.var 0) (.cons (.lst false (.cons (.c (.int 1)) (.cons (.neg (.c (.int 1))) (.cons (.c (.int 2)) (.cons (.c (.int 3)) .nil))))) .nil))) .nil))))) .nil)) .nil)))) .pass) .pass) (.seq (.ret (.call 34 (.cons (.var 0) (.cons (.call 23 (.cons (.var 0) (.cons (.lst false (.cons (.c (.int 1)) (.cons (.c (.int 3)) (.cons (.c (.int 10)) (.cons (.bin .pow false (.c (.int 10)) (.c (.int 4))) .nil))))) .nil))) .nil)))) .pass)))))
def g__law_any : FD := ⟨1, 2, b__law_any⟩
def b__law_made : RS := (.seq (.set (.tup (.cons (.name 3) (.cons (.name 4) (.cons (.name 5) (.cons (.name 6) .nil))))) (.var 0)) (.seq (.ret (.tup (.cons (.bin .add false (.bin .mul false (.var 1) (.var 3)) (.var 2)) (.cons (.bin .mul false (.var 1) (.var 4)) (.cons (.bin .mul false (.var 1) (.var 5)) (.cons (.bin .add false (.bin .mul false (.var 1) (.var 6)) (.var 2)) .nil)))))) .pass))
def g__law_made : FD := ⟨3, 7, b__law_made⟩
def b__law_agree : RS := (.seq (.ret (.cmp .eq (.call 30 (.cons (.var 0) (.cons (.var 1) .nil))) (.call 30 (.cons (.var 1) (.cons (.var 0) .nil))))) .pass)
def g__law_agree : FD := ⟨2, 2, b__law_agree⟩
def b__law_numbers_fit : RS := (.seq (.ifs (.or (.not (.isi (.var 2) .tuple)) (.or (.cmp .ne (.bi .len false (.cons (.var 2) .nil)) (.c (.int 2))) (.or (.cmp .ne (.comp false (.var 4) [4] (.name 4) (.seq (.var 2)) (.cmp .ne (.call 24 (.cons (.var 4) .nil)) (.c (.int 2)))) (.lst false .nil)) (.cmp .eq (.var 2) (.tup (.cons (.c (.int 0)) (.cons (.c (.int 0)) .nil))))))) (.seq (.ret (.c (.bl false))) .pass) .pass) (.seq (.set (.name 3) (.call 38 (.cons (.var 0) (.cons (.sub (.var 2) (.c (.int 0))) (.cons (.sub (.var 2) (.c (.int 1))) .nil))))) (.seq (.ret (.and (.cmp .eq (.call 28 (.cons (.var 2) .nil)) (.var 2)) (.and (.cmp .ne (.call 32 (.cons (.var 3) .nil)) (.c (.int 0))) (.cmp .eq (.call 28 (.cons (.var 3) .nil)) (.var 1))))) .pass)))
def g__law_numbers_fit : FD := ⟨3, 5, b__law_numbers_fit⟩
def b__law_right : RS := (.seq (.set (.name 3) (.call 39 (.cons (.var 1) (.cons (.var 2) .nil)))) (.seq (.set (.name 4) (.and (.cmp .eq (.bin .add false (.sub (.var 1) (.c (.int 0))) (.sub (.var 1) (.c (.int 3)))) (.c (.int 0))) (.cmp .eq (.bin .add false (.sub (.var 2) (.c (.int 0))) (.sub (.var 2) (.c (.int 3)))) (.c (.int 0))))) (.seq (.set (.name 5) (.and (.var 4) (.and (.cmp .ne (.var 1) (.var 2)) (.var 3)))) (.seq (.ifs (.not (.call 25 (.cons (.lst false (.cons (.call 16 (.cons (.var 1) (.cons (.var 2) .nil))) (.cons (.call 16 (.cons (.var 2) (.cons (.var 1) .nil))) (.cons (.call 17 (.cons (.var 1) (.cons (.var 2) .nil))) .nil)))) (.cons (.lst false (.cons (.var 3) (.cons (.var 3) (.cons (.var 5) .nil)))) .nil)))) (.seq (.ret (.c (.bl false))) .pass) .pass) (.seq (.set (.name 6) (.call 19 (.cons (.var 1) (.cons (.var 2) .nil)))) (.seq (.ifs (.cmp .eq (.var 1) (.tup (.cons (.c (.int 1)) (.cons (.c (.int 0)) (.cons (.c (.int 0)) (.cons (.c (.int 1)) .nil)))))) (.seq (.ret (.call 25 (.cons (.var 6) (.cons (.ite (.cmp .eq (.var 2) (.var 1)) (.tup (.cons (.c (.int 0)) (.cons (.c (.int 1)) .nil))) (.c .non)) .nil)))) .pass) .pass) (.seq (.ifs (.and (.cmp .isNot (.var 6) (.c .non)) (.not (.call 41 (.cons (.var 1) (.cons (.var 2) (.cons (.var 6) .nil)))))) (.seq (.ret (.c (.bl false))) .pass) .pass) (.seq (.ifs (.cmp .ne (.cmp .isNot (.var 6) (.c .non)) (.and (.var 3) (.not (.var 5)))) (.seq (.ret (.c (.bl false))) .pass) .pass) (.seq (.set (.tup (.cons (.name 7) (.cons (.name 8) .nil))) (.tup (.cons (.bin .sub false (.call 22 (.cons (.var 0) (.cons (.c (.int 2001)) .nil))) (.c (.int 1000))) (.cons (.bin .sub false (.call 22 (.cons (.var 0) (.cons (.c (.int 11)) .nil))) (.c (.int 5))) .nil)))) (.seq (.set (.name 9) (.call 38 (.cons (.var 1) (.cons (.var 7) (.cons (.var 8) .nil))))) (.seq (.ifs (.cmp .eq (.call 32 (.cons (.var 9) .nil)) (.c (.int 0))) (.seq (.ret (.not (.lamc 40 t__law_is_found (.call 18 (.cons (.var 1) (.cons (.var 7) (.cons (.var 8) .nil))))))) .pass) .pass) (.seq (.set (.name 10) (.call 18 (.cons (.var 1) (.cons (.var 7) (.cons (.var 8) .nil))))) (.seq (.ifs (.not (.call 25 (.cons (.var 10) (.cons (.call 28 (.cons (.var 9) .nil)) .nil)))) (.seq (.ret (.c (.bl false))) .pass) .pass) (.seq (.ifs (.cmp .gt (.bi .max1 false (.cons (.comp false (.bi .abs false (.cons (.var 12) .nil)) [12] (.name 12) (.seq (.var 10)) (.c (.bl true))) .nil)) (.bin .pow false (.c (.int 10)) (.c (.int 4)))) (.seq (.ret (.c (.bl true))) .pass) .pass) (.seq (.set (.name 11) (.call 28 (.cons (.tup (.cons (.var 7) (.cons (.var 8) .nil))) .nil))) (.seq (.ret (.call 25 (.cons (.lst false (.cons (.call 16 (.cons (.var 1) (.cons (.var 10) .nil))) (.cons (.call 19 (.cons (.var 1) (.cons (.var 10) .nil))) .nil))) (.cons (.lst false (.cons (.c (.bl true)) (.cons (.var 11) .nil))) .nil)))) .pass))))))))))))))))
def g__law_right : FD := ⟨3, 13, b__law_right⟩
def b__law_crossed_right : RS := (.seq (.set (.tup (.cons (.name 1) (.cons (.name 2) (.cons (.name 3) .nil)))) (.comp false (.bin .sub false (.call 22 (.cons (.var 0) (.cons (.c (.int 9)) .nil))) (.c (.int 4))) [8] (.name 8) (.rng (.cons (.c (.int 3)) .nil)) (.c (.bl true)))) (.seq (.set (.name 4) (.ite (.cmp .ne (.bin .add false (.bin .mul false (.var 1) (.var 1)) (.bin .mul false (.var 2) (.var 3))) (.c (.int 0))) (.call 28 (.cons (.tup (.cons (.var 1) (.cons (.var 2) (.cons (.var 3) (.cons (.neg (.var 1)) .nil))))) .nil)) (.tup (.cons (.c (.int 0)) (.cons (.c (.int 1)) (.cons (.c (.int 1)) (.cons (.c (.int 0)) .nil))))))) (.seq (.set (.name 5) (.call 20 (.cons (.var 4) .nil))) (.seq (.ifs (.or (.not (.call 33 (.cons (.var 5) (.cons (.bin .pow false (.c (.int 10)) (.c (.int 60))) .nil)))) (.or (.cmp .ne (.bin .add false (.sub (.var 5) (.c (.int 0))) (.sub (.var 5) (.c (.int 3)))) (.c (.int 0))) (.or (.cmp .eq (.var 5) (.var 4)) (.not (.call 39 (.cons (.var 4) (.cons (.var 5) .nil))))))) (.seq (.ret (.c (.bl false))) .pass) .pass) (.seq (.ifs (.cmp .gt (.bi .max1 false (.cons (.comp false (.bi .abs false (.cons (.var 9) .nil)) [9] (.name 9) (.seq (.var 5)) (.c (.bl true))) .nil)) (.bin .pow false (.c (.int 10)) (.c (.int 4)))) (.seq (.ret (.c (.bl true))) .pass) .pass) (.seq (.set (.name 6) (.call 30 (.cons (.var 4) (.cons (.var 5) .nil)))) (.seq (.set (.name 7) (.lst false (.cons (.call 17 (.cons (.var 4) (.cons (.var 5) .nil))) (.cons (.call 17 (.cons (.var 4) (.cons (.var 4) .nil))) (.cons (.call 19 (.cons (.var 4) (.cons (.var 5) .nil))) (.cons (.bin .add false (.sub (.var 6) (.c (.int 0))) (.sub (.var 6) (.c (.int 3)))) .nil)))))) (.seq (.ret (.and (.call 25 (.cons (.var 7) (.cons (.lst false (.cons (.c (.bl true)) (.cons (.c (.bl false)) (.cons (.c .non) (.cons (.c (.int 0)) .nil))))) .nil))) (.call 42 (.cons (.var 0) (.cons (.var 4) (.cons (.var 5) .nil)))))) .pass))))))))
def g__law_crossed_right : FD := ⟨1, 10, b__law_crossed_right⟩
def b__law_great_right : RS := (.seq (.set (.tup (.cons (.name 1) (.cons (.name 2) .nil))) (.tup (.cons (.bin .add false (.c (.int 1)) (.call 22 (.cons (.var 0) (.cons (.bin .pow false (.c (.int 10)) (.c (.int 4))) .nil)))) (.cons (.bin .add false (.c (.int 1)) (.call 22 (.cons (.var 0) (.cons (.bin .pow false (.c (.int 10)) (.c (.int 4))) .nil)))) .nil)))) (.seq (.set (.tup (.cons (.name 3) (.cons (.name 4) .nil))) (.tup (.cons (.tup (.cons (.c (.int 1)) (.cons (.var 1) (.cons (.c (.int 0)) (.cons (.c (.int 1)) .nil))))) (.cons (.tup (.cons (.c (.int 1)) (.cons (.var 2) (.cons (.c (.int 0)) (.cons (.c (.int 1)) .nil))))) .nil)))) (.seq (.set (.name 5) (.call 27 (.cons (.var 1) (.cons (.var 2) .nil)))) (.seq (.set (.name 6) (.lst false (.cons (.call 16 (.cons (.var 3) (.cons (.var 4) .nil))) (.cons (.call 19 (.cons (.var 3) (.cons (.var 4) .nil))) (.cons (.call 16 (.cons (.tup (.cons (.var 1) (.cons (.c (.int 0)) (.cons (.c (.int 0)) (.cons (.c (.int 1)) .nil))))) (.cons (.tup (.cons (.c (.int 1)) (.cons (.c (.int 0)) (.cons (.c (.int 0)) (.cons (.var 2) .nil))))) .nil))) (.cons (.call 18 (.cons (.tup (.cons (.c (.int 1)) (.cons (.bin .pow false (.c (.int 10)) (.c (.int 4))) (.cons (.c (.int 0)) (.cons (.c (.int 1)) .nil))))) (.cons (.c (.int 1000)) (.cons (.neg (.c (.int 999))) .nil)))) .nil)))))) (.seq (.set (.name 7) (.lst false (.cons (.c (.bl true)) (.cons (.call 28 (.cons (.tup (.cons (.bin .fdiv false (.var 2) (.var 5)) (.cons (.bin .sub false (.bin .fdiv false (.var 1) (.var 5)) (.bin .fdiv false (.var 2) (.var 5))) .nil))) .nil)) (.cons (.c (.bl true)) (.cons (.tup (.cons (.c (.int 1)) (.cons (.bin .pow false (.c (.int 10)) (.c (.int 7))) (.cons (.c (.int 0)) (.cons (.c (.int 1)) .nil))))) .nil)))))) (.seq (.ret (.and (.call 25 (.cons (.var 6) (.cons (.var 7) .nil))) (.call 42 (.cons (.var 0) (.cons (.tup (.cons (.bin .pow false (.c (.int 10)) (.c (.int 4))) (.cons (.var 1) (.cons (.c (.int 9999)) (.cons (.neg (.var 2)) .nil))))) (.cons (.tup (.cons (.c (.int 9999)) (.cons (.var 1) (.cons (.c (.int 1)) (.cons (.neg (.var 2)) .nil))))) .nil)))))) .pass))))))
def g__law_great_right : FD := ⟨1, 8, b__law_great_right⟩
def b__law_written_right : RS := (.seq (.set (.tup (.cons (.name 1) (.cons (.name 2) (.cons (.name 3) (.cons (.name 4) (.cons (.name 5) (.cons (.name 6) .nil))))))) (.tup (.cons (.tup (.cons (.c (.int 1)) (.cons (.c (.int 0)) (.cons (.c (.int 0)) (.cons (.c (.int 1)) .nil))))) (.cons (.tup (.cons (.c (.int 1)) (.cons (.c (.int 1)) (.cons (.c (.int 0)) (.cons (.c (.int 1)) .nil))))) (.cons (.tup (.cons (.c (.int 2)) (.cons (.c (.int 0)) (.cons (.c (.int 0)) (.cons (.c (.int 1)) .nil))))) (.cons (.tup (.cons (.c (.int 0)) (.cons (.c (.int 1)) (.cons (.c (.int 1)) (.cons (.c (.int 0)) .nil))))) (.cons (.tup (.cons (.c (.int 0)) (.cons (.c (.int 1)) (.cons (.neg (.c (.int 1))) (.cons (.c (.int 0)) .nil))))) (.cons (.tup (.cons (.c (.int 1)) (.cons (.c (.int 0)) (.cons (.c (.int 0)) (.cons (.neg (.c (.int 1))) .nil))))) .nil)))))))) (.seq (.set (.name 7) (.lst true (.cons (.call 16 (.cons (.var 2) (.cons (.var 3) .nil))) (.cons (.call 16 (.cons (.var 2) (.cons (.tup (.cons (.c (.int 1)) (.cons (.c (.int 5)) (.cons (.c (.int 0)) (.cons (.c (.int 1)) .nil))))) .nil))) (.cons (.call 16 (.cons (.var 4) (.cons (.var 6) .nil))) (.cons (.call 17 (.cons (.var 4) (.cons (.var 6) .nil))) (.cons (.call 17 (.cons (.var 4) (.cons (.var 4) .nil))) (.cons (.call 17 (.cons (.var 4) (.cons (.var 5) .nil))) (.cons (.call 18 (.cons (.var 2) (.cons (.c (.int 1)) (.cons (.c (.int 1)) .nil)))) (.cons (.call 19 (.cons (.var 2) (.cons (.tup (.cons (.c (.int 1)) (.cons (.c (.int 5)) (.cons (.c (.int 0)) (.cons (.c (.int 1)) .nil))))) .nil))) (.cons (.call 19 (.cons (.var 4) (.cons (.var 6) .nil))) (.cons (.call 19 (.cons (.var 2) (.cons (.var 1) .nil))) (.cons (.call 19 (.cons (.var 1) (.cons (.var 1) .nil))) (.cons (.call 17 (.cons (.var 5) (.cons (.call 20 (.cons (.var 5) .nil)) .nil))) .nil)))))))))))))) (.seq (.drop (.meth .append (.var 7) (.cons (.call 19 (.cons (.tup (.cons (.c (.int 1)) (.cons (.c (.int 2)) (.cons (.c (.int 0)) (.cons (.c (.int 1)) .nil))))) (.cons (.tup (.cons (.c (.int 1)) (.cons (.c (.int 4)) (.cons (.c (.int 0)) (.cons (.c (.int 1)) .nil))))) .nil))) .nil))) (.seq (.set (.name 8) (.lst false (.cons (.c (.bl false)) (.cons (.c (.bl true)) (.cons (.c (.bl true)) (.cons (.c (.bl true)) (.cons (.c (.bl false)) (.cons (.c (.bl true)) (.cons (.tup (.cons (.c (.int 2)) (.cons (.c (.int 1)) (.cons (.c (.int 0)) (.cons (.c (.int 2)) .nil))))) (.cons (.tup (.cons (.c (.int 5)) (.cons (.neg (.c (.int 4))) .nil))) (.cons (.c .non) (.cons (.tup (.cons (.c (.int 0)) (.cons (.c (.int 1)) .nil))) (.cons (.tup (.cons (.c (.int 0)) (.cons (.c (.int 1)) .nil))) (.cons (.c (.bl true)) (.cons (.tup (.cons (.c (.int 2)) (.cons (.neg (.c (.int 1))) .nil))) .nil))))))))))))))) (.seq (.ifs (.not (.call 25 (.cons (.var 7) (.cons (.var 8) .nil)))) (.seq (.ret (.c (.bl false))) .pass) .pass) (.seq (.set (.name 9) (.lst false (.cons (.var 1) (.cons (.var 2) (.cons (.var 3) (.cons (.var 4) (.cons (.var 5) (.cons (.var 6) (.cons (.tup (.cons (.c (.int 0)) (.cons (.c (.int 1)) (.cons (.neg (.c (.int 1))) (.cons (.c (.int 1)) .nil))))) (.cons (.tup (.cons (.c (.int 1)) (.cons (.c (.int 1)) (.cons (.neg (.c (.int 1))) (.cons (.c (.int 1)) .nil))))) .nil)))))))))) (.seq (.ret (.cmp .eq (.comp false (.var 10) [10] (.name 10) (.seq (.var 9)) (.cmp .ne (.comp false (.var 11) [11] (.name 11) (.seq (.var 9)) (.not (.call 42 (.cons (.var 0) (.cons (.var 10) (.cons (.var 11) .nil)))))) (.lst false .nil))) (.lst false .nil))) .pass)))))))
def g__law_written_right : FD := ⟨1, 12, b__law_written_right⟩
def b_law : RS := (.seq (.set (.name 1) (.call 21 (.cons (.var 0) .nil))) (.seq (.for (.name 2) (.rng (.cons (.c (.int 6)) .nil)) (.seq (.set (.name 3) (.call 37 (.cons (.var 1) .nil))) (.seq (.set (.name 4) (.ite (.cmp .eq (.call 22 (.cons (.var 1) (.cons (.c (.int 2)) .nil))) (.c (.int 0))) (.call 38 (.cons (.var 3) (.cons (.bin .add false (.c (.int 1)) (.call 22 (.cons (.var 1) (.cons (.c (.int 3)) .nil)))) (.cons (.bin .sub false (.call 22 (.cons (.var 1) (.cons (.c (.int 7)) .nil))) (.c (.int 3))) .nil)))) (.call 37 (.cons (.var 1) .nil)))) (.seq (.set (.name 5) (.ite (.cmp .ne (.call 32 (.cons (.var 4) .nil)) (.c (.int 0))) (.call 28 (.cons (.var 4) .nil)) (.tup (.cons (.c (.int 1)) (.cons (.c (.int 0)) (.cons (.c (.int 0)) (.cons (.c (.int 1)) .nil))))))) (.seq (.ifs (.not (.call 33 (.cons (.var 5) (.cons (.bin .pow false (.c (.int 10)) (.c (.int 4))) .nil)))) (.seq (.set (.name 5) (.tup (.cons (.c (.int 1)) (.cons (.c (.int 0)) (.cons (.c (.int 0)) (.cons (.c (.int 1)) .nil)))))) .pass) .pass) (.seq (.ifs (.or (.not (.call 42 (.cons (.var 1) (.cons (.var 3) (.cons (.var 5) .nil))))) (.not (.call 43 (.cons (.var 1) .nil)))) (.seq (.ret (.c (.bl false))) .pass) .pass) .pass)))))) (.seq (.ret (.and (.call 44 (.cons (.var 1) .nil)) (.call 45 (.cons (.var 1) .nil)))) .pass)))
def g_law : FD := ⟨1, 6, b_law⟩
def rs : List Row := (([⟨0, "is_whole", top 7, ["value", "low", "high"], ["value", "low", "high"], g_is_whole, false⟩, ⟨1, "need_whole", top 8, ["value", "low", "high"], ["value", "low", "high"], g_need_whole, false⟩, ⟨2, "is_tuple_of", top 9, ["value", "low", "high"], ["value", "low", "high"], g_is_tuple_of, false⟩, ⟨3, "measure", top 14, ["swing"], ["swing"], g_measure, false⟩, ⟨4, "trace", top 15, ["swing"], ["swing"], g_trace, false⟩, ⟨5, "shortened", top 16, ["parts", "shared", "part", "first"], ["parts"], g_shortened, false⟩, ⟨6, "fits_swing", top 17, ["value", "most", "part"], ["value", "most"], g_fits_swing, false⟩, ⟨7, "need_swing", top 18, ["value"], ["value"], g_need_swing, false⟩, ⟨8, "need_two", top 19, ["one", "other"], ["one", "other"], g_need_two, false⟩, ⟨9, "raw_product", top 20, ["one", "other", "a", "b", "c", "d", "p", "q", "r", "s"], ["one", "other"], g_raw_product, false⟩] : List (Row)) ++ ([⟨10, "product", top 21, ["one", "other"], ["one", "other"], g_product, false⟩, ⟨11, "half_of", top 23, ["swing", "a", "b", "c", "d", "some", "one", "other", "own"], ["swing"], g_half_of, false⟩, ⟨12, "do_agree", top 25, ["one", "other"], ["one", "other"], g_do_agree, false⟩, ⟨13, "made_in", top 26, ["swing", "u", "v", "a", "b", "c", "d"], ["swing", "u", "v"], g_made_in, false⟩, ⟨14, "numbers_in", top 27, ["swing", "other", "at", "u", "scale", "v", "a", "d"], ["swing", "other"], g_numbers_in, false⟩, ⟨15, "checked", top 28, ["swing", "other", "u", "v"], ["swing", "other", "u", "v"], g_checked, false⟩, ⟨16, "do_swings_agree", top 29, ["one", "other"], ["one", "other"], g_do_swings_agree, false⟩, ⟨17, "are_crossed", top 30, ["one", "other"], ["one", "other"], g_are_crossed, false⟩, ⟨18, "made_swing", top 31, ["swing", "u", "v", "found"], ["swing", "u", "v"], g_made_swing, false⟩, ⟨19, "making_numbers", top 32, ["swing", "other"], ["swing", "other"], g_making_numbers, false⟩] : List (Row)) ++ ([⟨20, "crossed_with", top 33, ["swing"], ["swing"], g_crossed_with, false⟩, ⟨21, "_law_cup", top 35, ["script", "cell"], ["script"], g__law_cup, false⟩, ⟨22, "_law_roll", top 36, ["cup", "many", "found"], ["cup", "many"], g__law_roll, false⟩, ⟨23, "_law_some", top 37, ["cup", "things"], ["cup", "things"], g__law_some, false⟩, ⟨24, "_law_sort", top 38, ["value"], ["value"], g__law_sort, false⟩, ⟨25, "_law_like", top 39, ["one", "other", "sort", "first", "second"], ["one", "other"], g__law_like, false⟩, ⟨26, "_law_is_number", top 40, ["value", "low", "high"], ["value", "low", "high"], g__law_is_number, false⟩, ⟨27, "_law_gcd", top 41, ["one", "other"], ["one", "other"], g__law_gcd, false⟩, ⟨28, "_law_short", top 42, ["parts", "shared", "part", "first"], ["parts"], g__law_short, false⟩, ⟨29, "_law_raw", top 43, ["one", "other"], ["one", "other"], g__law_raw, false⟩] : List (Row)) ++ ([⟨30, "_law_product", top 44, ["one", "other"], ["one", "other"], g__law_product, false⟩, ⟨31, "_law_undone", top 45, ["swing"], ["swing"], g__law_undone, false⟩, ⟨32, "_law_measure", top 46, ["swing"], ["swing"], g__law_measure, false⟩, ⟨33, "_law_is_swing", top 47, ["value", "most", "part"], ["value", "most"], g__law_is_swing, false⟩, ⟨34, "_law_swing", top 48, ["cup", "great", "parts", "at"], ["cup", "great"], g__law_swing, false⟩, ⟨35, "_law_moved", top 49, ["cup", "swing", "by"], ["cup", "swing"], g__law_moved, false⟩, ⟨36, "_law_home", top 50, ["cup"], ["cup"], g__law_home, false⟩, ⟨37, "_law_any", top 51, ["cup", "way"], ["cup"], g__law_any, false⟩, ⟨38, "_law_made", top 52, ["swing", "u", "v", "a", "b", "c", "d"], ["swing", "u", "v"], g__law_made, false⟩, ⟨39, "_law_agree", top 53, ["one", "other"], ["one", "other"], g__law_agree, false⟩] : List (Row)) ++ ([⟨41, "_law_numbers_fit", top 55, ["swing", "other", "told", "own", "part"], ["swing", "other", "told"], g__law_numbers_fit, false⟩, ⟨42, "_law_right", top 56, ["cup", "one", "other", "agree", "both", "crossed", "told", "u", "v", "own", "swing", "due", "part"], ["cup", "one", "other"], g__law_right, true⟩, ⟨43, "_law_crossed_right", top 57, ["cup", "a", "b", "c", "one", "other", "third", "told", "at", "part"], ["cup"], g__law_crossed_right, false⟩, ⟨44, "_law_great_right", top 58, ["cup", "one", "other", "first", "second", "shared", "told", "due"], ["cup"], g__law_great_right, false⟩, ⟨45, "_law_written_right", top 59, ["cup", "n", "t", "d", "x", "s", "turn", "told", "due", "some", "one", "other"], ["cup"], g__law_written_right, false⟩, ⟨46, "law", top 60, ["script", "cup", "turn", "one", "drawn", "other"], ["script"], g_law, false⟩] : List (Row)))
def ts : List TRow := [⟨40, "_law_is_found", top 54, ["call"], "call", t__law_is_found, [("NotFound", (.bl false)), ("RulerError", (.bl true))]⟩]
def B : Tb where
  fns := (([(0, "is_whole"), (1, "need_whole"), (2, "is_tuple_of"), (3, "measure"), (4, "trace"), (5, "shortened"), (6, "fits_swing"), (7, "need_swing"), (8, "need_two"), (9, "raw_product"), (10, "product"), (11, "half_of"), (12, "do_agree"), (13, "made_in"), (14, "numbers_in"), (15, "checked"), (16, "do_swings_agree"), (17, "are_crossed"), (18, "made_swing"), (19, "making_numbers"), (20, "crossed_with"), (21, "_law_cup"), (22, "_law_roll"), (23, "_law_some"), (24, "_law_sort"), (25, "_law_like"), (26, "_law_is_number"), (27, "_law_gcd"), (28, "_law_short"), (29, "_law_raw")] : List (Nat × PySem.Str)) ++ ([(30, "_law_product"), (31, "_law_undone"), (32, "_law_measure"), (33, "_law_is_swing"), (34, "_law_swing"), (35, "_law_moved"), (36, "_law_home"), (37, "_law_any"), (38, "_law_made"), (39, "_law_agree"), (41, "_law_numbers_fit"), (42, "_law_right"), (43, "_law_crossed_right"), (44, "_law_great_right"), (45, "_law_written_right"), (46, "law")] : List (Nat × PySem.Str)))
  csts := [("SIZE", c_SIZE), ("SMALL", c_SMALL), ("NONE", c_NONE)]
  free := ["abs", "all", "bool", "int", "isinstance", "len", "list", "max", "range", "str", "tuple", "zip"]
  mfn := [("gcd", "math.gcd")]
  cls := [(0, "RulerError"), (1, "InvalidNumber"), (2, "InvalidMove"), (3, "NotFound")]
  tds := [(40, "_law_is_found", t__law_is_found)]
  lam := false
def loose : List PySem.Str := ((["gcd", "__name__", "RulerError", "InvalidNumber", "InvalidMove", "NotFound", "is_whole", "need_whole", "is_tuple_of", "SMALL", "SIZE", "NONE", "measure", "trace", "shortened", "fits_swing", "need_swing", "need_two", "raw_product", "product", "half_of", "do_agree", "made_in", "numbers_in", "checked", "do_swings_agree", "are_crossed", "made_swing", "making_numbers", "crossed_with"] : List (PySem.Str)) ++ (["_law_cup", "_law_roll", "_law_some", "_law_sort", "_law_like", "_law_is_number", "_law_gcd", "_law_short", "_law_raw", "_law_product", "_law_undone", "_law_measure", "_law_is_swing", "_law_swing", "_law_moved", "_law_home", "_law_any", "_law_made", "_law_agree", "_law_is_found", "_law_numbers_fit", "_law_right", "_law_crossed_right", "_law_great_right", "_law_written_right"] : List (PySem.Str)))
def iLaw : Nat := 60
def nLaw : Nat := 46

end Lw
end

section
set_option Elab.async false
set_option linter.all false
set_option maxRecDepth 100000
set_option maxHeartbeats 1000000
set_option exponentiation.threshold 10000
/-! Px: any data of a bounded depth and width; places of tuples. -/
namespace Px
open PySem (Str PyData)
/-- data less than n deep, at most L wide -/
def okD : Nat → Nat → D → Bool
  | 0, _, _ => false
  | n + 1, L, d => match d with
    | .non => true | .bl _ => true | .int _ => true | .str x => PyData.strOk x
    | .tup xs => decide (xs.length ≤ L) && xs.all (okD n L)
    | .lst xs => decide (xs.length ≤ L) && xs.all (okD n L)
    | _ => false
theorem okD_tup {n L : Nat} {xs : List D} : okD (n + 1) L (.tup xs) = true ↔ xs.length ≤ L ∧ ∀ x ∈ xs, okD n L x = true := by
  show (decide (xs.length ≤ L) && xs.all (okD n L)) = true ↔ _
  rw [Bool.and_eq_true, decide_eq_true_eq, List.all_eq_true]
theorem okD_lst {n L : Nat} {xs : List D} : okD (n + 1) L (.lst xs) = true ↔ xs.length ≤ L ∧ ∀ x ∈ xs, okD n L x = true := by
  show (decide (xs.length ≤ L) && xs.all (okD n L)) = true ↔ _
  rw [Bool.and_eq_true, decide_eq_true_eq, List.all_eq_true]
theorem okD_mono {L M : Nat} (hL : L ≤ M) : ∀ {n m : Nat} {d : D}, okD n L d = true → n ≤ m → okD m M d = true
  | 0, _, _, h, _ => by cases h
  | n + 1, m, d, h, hm => by
    obtain ⟨m, rfl⟩ : ∃ j, m = j + 1 := ⟨m - 1, by omega⟩
    have all : ∀ xs : List D, xs.length ≤ L ∧ (∀ x ∈ xs, okD n L x = true) → xs.length ≤ M ∧ ∀ x ∈ xs, okD m M x = true := fun xs q => ⟨by omega, fun x hx => okD_mono hL (q.2 x hx) (by omega)⟩
    cases d with
    | tup xs => exact okD_tup.mpr (all xs (okD_tup.mp h))
    | lst xs => exact okD_lst.mpr (all xs (okD_lst.mp h))
    | str x => exact h
    | non => rfl
    | bl b => rfl
    | int i => rfl
    | _ => cases h
theorem okD_pure {L : Nat} (hL : L ≤ 16777216) : ∀ {n : Nat} {d : D}, okD n L d = true → pureD n d = true
  | 0, _, h => by cases h
  | n + 1, d, h => by
    have all : ∀ xs : List D, xs.length ≤ L ∧ (∀ x ∈ xs, okD n L x = true) → (fit xs.length && xs.all (pureD n)) = true := fun xs q => by
      rw [Bool.and_eq_true, List.all_eq_true]
      exact ⟨fit_of (by omega), fun x hx => okD_pure hL (q.2 x hx)⟩
    cases d with
    | tup xs => exact all xs (okD_tup.mp h)
    | lst xs => exact all xs (okD_lst.mp h)
    | str x => exact h
    | non => rfl
    | bl b => rfl
    | int i => rfl
    | _ => cases h
theorem okD_plain {n L : Nat} {d : D} (h : okD n L d = true) : plainD d = true := by
  cases n with
  | zero => cases h
  | succ n => cases d <;> first | rfl | cases h
theorem okD_int {n L : Nat} (i : Int) : okD (n + 1) L (.int i) = true := rfl
mutual
theorem toPy_ok {L : Nat} (s : Sto) : ∀ {n m : Nat} {d : D}, okD n L d = true → n ≤ m → ∃ p, toPy m s d = some p ∧ p.canLay0 = true ∧ p.depth ≤ n
  | 0, _, _, h, _ => by cases h
  | n + 1, m, d, h, hm => by
    obtain ⟨m, rfl⟩ : ∃ j, m = j + 1 := ⟨m - 1, by omega⟩
    cases d with
    | tup xs =>
      obtain ⟨ps, e, c, d, _⟩ := toPys_ok s (okD_tup.mp h).2 (show n ≤ m by omega)
      refine ⟨.tuple ps, ?_, by simpa [PyData.canLay0] using c, by simp [PyData.depth]; omega⟩
      rw [toPy]
      simp [e]
    | lst xs =>
      obtain ⟨ps, e, c, d, _⟩ := toPys_ok s (okD_lst.mp h).2 (show n ≤ m by omega)
      refine ⟨.list ps, ?_, by simpa [PyData.canLay0] using c, by simp [PyData.depth]; omega⟩
      rw [toPy]
      simp [e]
    | str x => exact ⟨.str x, by rw [toPy], by rw [PyData.canLay0]; exact h, by simp [PyData.depth]⟩
    | non => exact ⟨.none, by rw [toPy], by simp [PyData.canLay0], by simp [PyData.depth]⟩
    | bl b => exact ⟨.bool b, by rw [toPy], by simp [PyData.canLay0], by simp [PyData.depth]⟩
    | int i => exact ⟨.int i, by rw [toPy], by simp [PyData.canLay0], by simp [PyData.depth]⟩
    | _ => cases h
theorem toPys_ok {L : Nat} (s : Sto) : ∀ {n m : Nat} {xs : List D}, (∀ x ∈ xs, okD n L x = true) → n ≤ m → ∃ ps, mapO (toPy m s) xs = some ps ∧ PyData.canLayAll0 ps = true ∧ PyData.depthAll ps ≤ n ∧ ps.length = xs.length
  | n, m, [], _, _ => ⟨[], rfl, by simp [PyData.canLayAll0], by simp [PyData.depthAll], rfl⟩
  | n, m, x :: xs, h, hm => by
    obtain ⟨p, e1, c1, d1⟩ := toPy_ok s (h x List.mem_cons_self) hm
    obtain ⟨ps, e2, c2, d2, l2⟩ := toPys_ok s (fun y hy => h y (List.mem_cons_of_mem _ hy)) hm
    exact ⟨p :: ps, by rw [mapO, e1, e2], by simp [PyData.canLayAll0, c1, c2], by simp [PyData.depthAll]; omega, by simp [l2]⟩
end
theorem shaped_of {p : PyData} (h : p.canLay0 = true) (hd : p.depth ≤ 64) : PySem.SeqAt.shaped p = true := by
  unfold PySem.SeqAt.shaped
  rw [h]
  exact decide_eq_true hd
theorem eq_nil_of {L : Nat} (s : Sto) {xs : List D} (h : ∀ x ∈ xs, okD 20 L x = true) : eqD s (.lst xs) (.lst []) = some xs.isEmpty ∧ eqD s (.tup xs) (.tup []) = some xs.isEmpty := by
  obtain ⟨ps, e, c, d, l⟩ := toPys_ok s h (show 20 ≤ 29 by omega)
  have t1 : toPy deep s (.lst xs) = some (.list ps) := by
    show toPy (29 + 1) s (.lst xs) = _
    rw [toPy]
    simp [e]
  have t2 : toPy deep s (.tup xs) = some (.tuple ps) := by
    show toPy (29 + 1) s (.tup xs) = _
    rw [toPy]
    simp [e]
  have t3 : toPy deep s (.lst []) = some (.list []) := rfl
  have t4 : toPy deep s (.tup []) = some (.tuple []) := rfl
  have s1 : PySem.SeqAt.shaped (.list ps) = true := shaped_of (by simpa [PyData.canLay0] using c) (by simp [PyData.depth]; omega)
  have s2 : PySem.SeqAt.shaped (.tuple ps) = true := shaped_of (by simpa [PyData.canLay0] using c) (by simp [PyData.depth]; omega)
  have s3 : PySem.SeqAt.shaped (.list []) = true := shaped_of (by simp [PyData.canLay0, PyData.canLayAll0]) (by simp [PyData.depth, PyData.depthAll])
  have s4 : PySem.SeqAt.shaped (.tuple []) = true := shaped_of (by simp [PyData.canLay0, PyData.canLayAll0]) (by simp [PyData.depth, PyData.depthAll])
  have ev : PyData.eqvAll ps [] = xs.isEmpty := by
    cases xs <;> cases ps <;> simp [PyData.eqvAll] at l ⊢
  constructor
  · simp [eqD, t1, t3, s1, s3, PyData.eqv, ev]
  · simp [eqD, t2, t4, s2, s4, PyData.eqv, ev]
theorem eq_nil_lst {L : Nat} (s : Sto) {xs : List D} (h : ∀ x ∈ xs, okD 20 L x = true) : eqD s (.lst xs) (.lst []) = some xs.isEmpty := (eq_nil_of s h).1
theorem eq_nil_tup {L : Nat} (s : Sto) {xs : List D} (h : ∀ x ∈ xs, okD 20 L x = true) : eqD s (.tup xs) (.tup []) = some xs.isEmpty := (eq_nil_of s h).2
@[simp] theorem eq_nil_nil (s : Sto) : eqD s (.lst []) (.lst []) = some true := eq_nil_lst (L := 0) s (by simp)
theorem cut_mem {α : Type} {xs : List α} {l h : Option Int} {x : α} (hx : x ∈ cut xs l h) : x ∈ xs := List.mem_of_mem_drop (List.mem_of_mem_take hx)
theorem cut_len {α : Type} (xs : List α) (l h : Option Int) : (cut xs l h).length ≤ xs.length := by
  unfold cut
  rw [List.length_take, List.length_drop]
  omega
@[simp] theorem sub0 (a : D) (xs : List D) (s : Sto) : subD (.tup (a :: xs)) (.int 0) s = .ok a s := by
  have e : atI (a :: xs) 0 = some a := by
    unfold atI ixN
    rw [if_pos (by decide), if_pos (by simp [List.length_cons])]
    rfl
  simp [subD, seqOf, e]
@[simp] theorem sub1 (a b : D) (xs : List D) (s : Sto) : subD (.tup (a :: b :: xs)) (.int 1) s = .ok b s := by
  have e : atI (a :: b :: xs) 1 = some b := by
    unfold atI ixN
    rw [if_pos (by decide), if_pos (by simp [List.length_cons] <;> omega)]
    rfl
  simp [subD, seqOf, e]
@[simp] theorem sub2 (a b c : D) (xs : List D) (s : Sto) : subD (.tup (a :: b :: c :: xs)) (.int 2) s = .ok c s := by
  have e : atI (a :: b :: c :: xs) 2 = some c := by
    unfold atI ixN
    rw [if_pos (by decide), if_pos (by simp [List.length_cons] <;> omega)]
    rfl
  simp [subD, seqOf, e]
@[simp] theorem sub3 (a b c d : D) (xs : List D) (s : Sto) : subD (.tup (a :: b :: c :: d :: xs)) (.int 3) s = .ok d s := by
  have e : atI (a :: b :: c :: d :: xs) 3 = some d := by
    unfold atI ixN
    rw [if_pos (by decide), if_pos (by simp [List.length_cons] <;> omega)]
    rfl
  simp [subD, seqOf, e]
@[simp] theorem subl0 (a : D) (xs : List D) (s : Sto) : subD (.lst (a :: xs)) (.int 0) s = .ok a s := sub0 a xs s
@[simp] theorem subl1 (a b : D) (xs : List D) (s : Sto) : subD (.lst (a :: b :: xs)) (.int 1) s = .ok b s := sub1 a b xs s
@[simp] theorem subl2 (a b c : D) (xs : List D) (s : Sto) : subD (.lst (a :: b :: c :: xs)) (.int 2) s = .ok c s := sub2 a b c xs s
@[simp] theorem subl3 (a b c d : D) (xs : List D) (s : Sto) : subD (.lst (a :: b :: c :: d :: xs)) (.int 3) s = .ok d s := sub3 a b c d xs s
/-- a comprehension whose items change the store: an invariant over what is left -/
theorem wp_compI {f : D → Sto → R (Option D)} {Q : List D → Sto → Prop} (I : List D → List D → Sto → Prop) : ∀ {xs acc : List D} {s : Sto}, I xs acc s → (∀ acc s, I [] acc s → Q acc s) →
    (∀ x xs acc s, I (x :: xs) acc s → Wp (f x s) fun o s' => match o with
      | some y => I xs (acc ++ [y]) s'
      | none => I xs acc s') → Wp (compL f xs acc s) Q
  | [], acc, s, h, hd, _ => hd acc s h
  | x :: xs, acc, s, h, hd, hs => by
    have q := hs x xs acc s h
    show Wp ((f x s).calm _) Q
    rw [wp_calm]
    refine q.mono ?_
    intro o s' ho
    cases o with
    | none => exact wp_compI I ho hd hs
    | some y => exact wp_compI I ho hd hs
theorem bd_le {n m : Nat} {x : Int} (h : x.natAbs ≤ m) (hm : m < 2 ^ n) : Bd n x := ⟨Nat.lt_of_le_of_lt h hm⟩
theorem big_of {n : Nat} {x : Int} (h : Bd n x) (hn : n ≤ 8000) : x.natAbs < 2 ^ 8000 := Nat.lt_of_lt_of_le h.lt (Nat.pow_le_pow_right (by decide) hn)
end Px
end

section
set_option Elab.async false
set_option linter.all false
set_option maxRecDepth 100000
set_option maxHeartbeats 1000000
set_option exponentiation.threshold 10000
/-! Px: swings: tables of four integers. -/
namespace Px
open PySem (Str PyData)
def q_is_whole : FD := ⟨3, 3, (.seq (.ret (.and (.isi (.var 0) .int) (.and (.not (.isi (.var 0) .bool)) (.chain .le .le (.var 1) (.var 0) (.var 2))))) .pass)⟩
def q_is_tuple_of : FD := ⟨3, 3, (.seq (.ret (.and (.isi (.var 0) .tuple) (.chain .le .le (.var 1) (.bi .len false (.cons (.var 0) .nil)) (.var 2)))) .pass)⟩
def q_measure : FD := ⟨1, 1, (.seq (.ret (.bin .sub false (.bin .mul false (.sub (.var 0) (.c (.int 0))) (.sub (.var 0) (.c (.int 3)))) (.bin .mul false (.sub (.var 0) (.c (.int 1))) (.sub (.var 0) (.c (.int 2)))))) .pass)⟩
def q_trace : FD := ⟨1, 1, (.seq (.ret (.bin .add false (.sub (.var 0) (.c (.int 0))) (.sub (.var 0) (.c (.int 3))))) .pass)⟩
def q_fits_swing (n_is_tuple_of n_is_whole n_measure n_shortened : Nat) : FD := ⟨2, 3, (.seq (.ifs (.or (.not (.call n_is_tuple_of (.cons (.var 0) (.cons (.c (.int 4)) (.cons (.c (.int 4)) .nil))))) (.not (.bi .all false (.cons (.comp false (.call n_is_whole (.cons (.var 2) (.cons (.neg (.var 1)) (.cons (.var 1) .nil)))) [2] (.name 2) (.seq (.var 0)) (.c (.bl true))) .nil)))) (.seq (.ret (.c (.bl false))) .pass) .pass) (.seq (.ret (.and (.cmp .ne (.call n_measure (.cons (.var 0) .nil)) (.c (.int 0))) (.cmp .eq (.call n_shortened (.cons (.var 0) .nil)) (.var 0)))) .pass))⟩
def q_need_swing (n_fits_swing xc : Nat) : FD := ⟨1, 1, (.seq (.ifs (.not (.call n_fits_swing (.cons (.var 0) (.cons (.c (.int 10000)) .nil)))) (.seq (.raise xc) .pass) .pass) .pass)⟩
def q_raw_product : FD := ⟨2, 10, (.seq (.set (.tup (.cons (.name 2) (.cons (.name 3) (.cons (.name 4) (.cons (.name 5) .nil))))) (.var 1)) (.seq (.set (.tup (.cons (.name 6) (.cons (.name 7) (.cons (.name 8) (.cons (.name 9) .nil))))) (.var 0)) (.seq (.ret (.tup (.cons (.bin .add false (.bin .mul false (.var 2) (.var 6)) (.bin .mul false (.var 3) (.var 8))) (.cons (.bin .add false (.bin .mul false (.var 2) (.var 7)) (.bin .mul false (.var 3) (.var 9))) (.cons (.bin .add false (.bin .mul false (.var 4) (.var 6)) (.bin .mul false (.var 5) (.var 8))) (.cons (.bin .add false (.bin .mul false (.var 4) (.var 7)) (.bin .mul false (.var 5) (.var 9))) .nil)))))) .pass)))⟩
def q_product (n_shortened n_raw_product : Nat) : FD := ⟨2, 2, (.seq (.ret (.call n_shortened (.cons (.call n_raw_product (.cons (.var 0) (.cons (.var 1) .nil))) .nil))) .pass)⟩
def q_undone (n_shortened : Nat) : FD := ⟨1, 5, (.seq (.set (.tup (.cons (.name 1) (.cons (.name 2) (.cons (.name 3) (.cons (.name 4) .nil))))) (.var 0)) (.seq (.ret (.call n_shortened (.cons (.tup (.cons (.var 4) (.cons (.neg (.var 2)) (.cons (.neg (.var 3)) (.cons (.var 1) .nil))))) .nil))) .pass))⟩
def q_l_is_number (n_l_sort : Nat) : FD := ⟨3, 3, (.seq (.ret (.and (.cmp .eq (.call n_l_sort (.cons (.var 0) .nil)) (.c (.int 2))) (.chain .le .le (.var 1) (.var 0) (.var 2)))) .pass)⟩
def q_l_raw : FD := ⟨2, 2, (.seq (.ret (.tup (.cons (.bin .add false (.bin .mul false (.sub (.var 1) (.c (.int 0))) (.sub (.var 0) (.c (.int 0)))) (.bin .mul false (.sub (.var 1) (.c (.int 1))) (.sub (.var 0) (.c (.int 2))))) (.cons (.bin .add false (.bin .mul false (.sub (.var 1) (.c (.int 0))) (.sub (.var 0) (.c (.int 1)))) (.bin .mul false (.sub (.var 1) (.c (.int 1))) (.sub (.var 0) (.c (.int 3))))) (.cons (.bin .add false (.bin .mul false (.sub (.var 1) (.c (.int 2))) (.sub (.var 0) (.c (.int 0)))) (.bin .mul false (.sub (.var 1) (.c (.int 3))) (.sub (.var 0) (.c (.int 2))))) (.cons (.bin .add false (.bin .mul false (.sub (.var 1) (.c (.int 2))) (.sub (.var 0) (.c (.int 1)))) (.bin .mul false (.sub (.var 1) (.c (.int 3))) (.sub (.var 0) (.c (.int 3))))) .nil)))))) .pass)⟩
def q_l_product (n_l_short n_l_raw : Nat) : FD := ⟨2, 2, (.seq (.ret (.call n_l_short (.cons (.call n_l_raw (.cons (.var 0) (.cons (.var 1) .nil))) .nil))) .pass)⟩
def q_l_undone (n_l_short : Nat) : FD := ⟨1, 1, (.seq (.ret (.call n_l_short (.cons (.tup (.cons (.sub (.var 0) (.c (.int 3))) (.cons (.neg (.sub (.var 0) (.c (.int 1)))) (.cons (.neg (.sub (.var 0) (.c (.int 2)))) (.cons (.sub (.var 0) (.c (.int 0))) .nil))))) .nil))) .pass)⟩
def q_l_measure : FD := ⟨1, 1, (.seq (.ret (.bin .sub false (.bin .mul false (.sub (.var 0) (.c (.int 0))) (.sub (.var 0) (.c (.int 3)))) (.bin .mul false (.sub (.var 0) (.c (.int 1))) (.sub (.var 0) (.c (.int 2)))))) .pass)⟩
def q_l_is_swing (n_l_is_number n_l_measure n_l_short : Nat) : FD := ⟨2, 3, (.seq (.ifs (.or (.not (.isi (.var 0) .tuple)) (.or (.cmp .ne (.bi .len false (.cons (.var 0) .nil)) (.c (.int 4))) (.cmp .ne (.comp false (.var 2) [2] (.name 2) (.seq (.var 0)) (.not (.call n_l_is_number (.cons (.var 2) (.cons (.neg (.var 1)) (.cons (.var 1) .nil)))))) (.lst false .nil)))) (.seq (.ret (.c (.bl false))) .pass) .pass) (.seq (.ret (.and (.cmp .ne (.call n_l_measure (.cons (.var 0) .nil)) (.c (.int 0))) (.cmp .eq (.call n_l_short (.cons (.var 0) .nil)) (.var 0)))) .pass))⟩
def q_l_swing (n_l_roll n_l_some n_l_short : Nat) : FD := ⟨2, 4, (.seq (.set (.name 2) (.comp false (.bin .sub false (.call n_l_roll (.cons (.var 0) (.cons (.bin .add false (.bin .mul false (.c (.int 2)) (.var 1)) (.c (.int 1))) .nil))) (.var 1)) [3] (.name 3) (.rng (.cons (.c (.int 4)) .nil)) (.c (.bl true)))) (.seq (.ifs (.cmp .eq (.bin .mul false (.sub (.var 2) (.c (.int 0))) (.sub (.var 2) (.c (.int 3)))) (.bin .mul false (.sub (.var 2) (.c (.int 1))) (.sub (.var 2) (.c (.int 2))))) (.seq (.set (.name 2) (.lst false (.cons (.c (.int 1)) (.cons (.call n_l_roll (.cons (.var 0) (.cons (.bin .add false (.var 1) (.c (.int 1))) .nil))) (.cons (.c (.int 0)) (.cons (.call n_l_some (.cons (.var 0) (.cons (.lst false (.cons (.c (.int 1)) (.cons (.c (.int 1)) (.cons (.neg (.c (.int 1))) (.cons (.var 1) .nil))))) .nil))) .nil)))))) .pass) .pass) (.seq (.ret (.call n_l_short (.cons (.bi .tuple false (.cons (.var 2) .nil)) .nil))) .pass)))⟩
def q_l_moved (n_l_swing n_l_product n_l_undone : Nat) : FD := ⟨2, 3, (.seq (.set (.name 2) (.call n_l_swing (.cons (.var 0) (.cons (.c (.int 2)) .nil)))) (.seq (.ret (.call n_l_product (.cons (.call n_l_product (.cons (.call n_l_undone (.cons (.var 2) .nil)) (.cons (.var 1) .nil))) (.cons (.var 2) .nil)))) .pass))⟩
def q_l_home (n_l_moved n_l_some : Nat) : FD := ⟨1, 1, (.seq (.ret (.call n_l_moved (.cons (.var 0) (.cons (.call n_l_some (.cons (.var 0) (.cons (.lst false (.cons (.tup (.cons (.c (.int 1)) (.cons (.c (.int 0)) (.cons (.c (.int 0)) (.cons (.c (.int 1)) .nil))))) (.cons (.tup (.cons (.c (.int 0)) (.cons (.c (.int 1)) (.cons (.c (.int 1)) (.cons (.c (.int 0)) .nil))))) (.cons (.tup (.cons (.c (.int 0)) (.cons (.c (.int 1)) (.cons (.neg (.c (.int 1))) (.cons (.c (.int 0)) .nil))))) (.cons (.tup (.cons (.c (.int 0)) (.cons (.c (.int 1)) (.cons (.neg (.c (.int 1))) (.cons (.c (.int 1)) .nil))))) (.cons (.tup (.cons (.c (.int 1)) (.cons (.c (.int 1)) (.cons (.neg (.c (.int 1))) (.cons (.c (.int 1)) .nil))))) (.cons (.tup (.cons (.c (.int 1)) (.cons (.c (.int 1)) (.cons (.neg (.c (.int 1))) (.cons (.c (.int 2)) .nil))))) (.cons (.tup (.cons (.c (.int 1)) (.cons (.c (.int 0)) (.cons (.c (.int 0)) (.cons (.neg (.c (.int 1))) .nil))))) (.cons (.tup (.cons (.c (.int 0)) (.cons (.c (.int 3)) (.cons (.c (.int 1)) (.cons (.c (.int 0)) .nil))))) .nil))))))))) .nil))) .nil)))) .pass)⟩
def q_l_any (n_l_roll n_l_home n_l_moved n_l_short n_l_some n_l_swing : Nat) : FD := ⟨1, 2, (.seq (.set (.name 1) (.call n_l_roll (.cons (.var 0) (.cons (.c (.int 6)) .nil)))) (.seq (.ifs (.cmp .eq (.var 1) (.c (.int 0))) (.seq (.ret (.call n_l_home (.cons (.var 0) .nil))) .pass) .pass) (.seq (.ifs (.cmp .eq (.var 1) (.c (.int 1))) (.seq (.ret (.call n_l_moved (.cons (.var 0) (.cons (.tup (.cons (.c (.int 1)) (.cons (.bin .add false (.c (.int 1)) (.call n_l_roll (.cons (.var 0) (.cons (.c (.int 5)) .nil)))) (.cons (.c (.int 0)) (.cons (.c (.int 1)) .nil))))) .nil)))) .pass) .pass) (.seq (.ifs (.cmp .eq (.var 1) (.c (.int 2))) (.seq (.ret (.call n_l_moved (.cons (.var 0) (.cons (.call n_l_short (.cons (.tup (.cons (.bin .add false (.c (.int 1)) (.call n_l_roll (.cons (.var 0) (.cons (.c (.int 6)) .nil)))) (.cons (.c (.int 0)) (.cons (.c (.int 0)) (.cons (.call n_l_some (.cons (.var 0) (.cons (.lst false (.cons (.c (.int 1)) (.cons (.neg (.c (.int 1))) (.cons (.c (.int 2)) (.cons (.c (.int 3)) .nil))))) .nil))) .nil))))) .nil)) .nil)))) .pass) .pass) (.seq (.ret (.call n_l_swing (.cons (.var 0) (.cons (.call n_l_some (.cons (.var 0) (.cons (.lst false (.cons (.c (.int 1)) (.cons (.c (.int 3)) (.cons (.c (.int 10)) (.cons (.bin .pow false (.c (.int 10)) (.c (.int 4))) .nil))))) .nil))) .nil)))) .pass)))))⟩
def q_l_bent (n_l_roll n_l_some n_l_sort n_l_bent : Nat) : FD := ⟨2, 5, (.seq (.ifs (.or (.not (.isi (.var 1) .tuple)) (.or (.cmp .eq (.var 1) (.tup .nil)) (.cmp .eq (.call n_l_roll (.cons (.var 0) (.cons (.c (.int 7)) .nil))) (.c (.int 0))))) (.seq (.set (.name 2) (.lst false (.cons (.c .non) (.cons (.c (.bl true)) (.cons (.c (.bl false)) (.cons (.c (.int 0)) (.cons (.c (.int 1)) (.cons (.c (.int 2)) (.cons (.neg (.c (.int 1))) (.cons (.c (.str "")) (.cons (.tup .nil) (.cons (.lst false .nil) (.cons (.tup (.cons (.c (.int 0)) .nil)) (.cons (.tup (.cons (.c (.int 1)) (.cons (.c (.int 0)) .nil))) (.cons (.tup (.cons (.c (.int 0)) (.cons (.c (.int 1)) .nil))) (.cons (.tup (.cons (.c (.int 2)) (.cons (.c (.int 4)) .nil))) (.cons (.tup (.cons (.c (.int 1)) (.cons (.c (.int 0)) (.cons (.c (.int 0)) (.cons (.c (.int 1)) .nil))))) (.cons (.tup (.cons (.c (.int 1)) (.cons (.c (.int 1)) .nil))) .nil)))))))))))))))))) (.seq (.ret (.call n_l_some (.cons (.var 0) (.cons (.bin .add false (.var 2) (.ite (.cmp .eq (.call n_l_sort (.cons (.var 1) .nil)) (.c (.int 2))) (.bin .mul false (.lst false (.cons (.bin .add false (.var 1) (.c (.int 1))) (.cons (.bin .sub false (.var 1) (.c (.int 1))) (.cons (.neg (.var 1)) .nil)))) (.c (.int 4))) (.lst false .nil))) .nil)))) .pass)) .pass) (.seq (.set (.tup (.cons (.name 3) (.cons (.name 4) .nil))) (.tup (.cons (.call n_l_roll (.cons (.var 0) (.cons (.bi .len false (.cons (.var 1) .nil)) .nil))) (.cons (.call n_l_roll (.cons (.var 0) (.cons (.c (.int 12)) .nil))) .nil)))) (.seq (.ifs (.cmp .eq (.var 4) (.c (.int 0))) (.seq (.ret (.bin .add false (.slc false (.var 1) (.c .non) (.var 3)) (.slc false (.var 1) (.bin .add false (.var 3) (.c (.int 1))) (.c .non)))) .pass) .pass) (.seq (.ifs (.cmp .eq (.var 4) (.c (.int 1))) (.seq (.ret (.bin .add false (.slc false (.var 1) (.c .non) (.bin .add false (.var 3) (.c (.int 1)))) (.slc false (.var 1) (.var 3) (.c .non)))) .pass) .pass) (.seq (.ifs (.cmp .eq (.var 4) (.c (.int 2))) (.seq (.ret (.bi .list false (.cons (.var 1) .nil))) .pass) .pass) (.seq (.ifs (.cmp .eq (.var 4) (.c (.int 3))) (.seq (.ret (.rev false (.var 1))) .pass) .pass) (.seq (.ret (.bin .add false (.bin .add false (.slc false (.var 1) (.c .non) (.var 3)) (.tup (.cons (.call n_l_bent (.cons (.var 0) (.cons (.sub (.var 1) (.var 3)) .nil))) .nil))) (.slc false (.var 1) (.bin .add false (.var 3) (.c (.int 1))) (.c .non)))) .pass)))))))⟩
def q_l_near (n_l_roll n_l_bent : Nat) : FD := ⟨2, 6, (.seq (.set (.name 2) (.call n_l_roll (.cons (.var 0) (.cons (.c (.int 4)) .nil)))) (.seq (.set (.name 3) (.lst false (.cons (.var 1) (.cons (.bi .list false (.cons (.var 1) .nil)) (.cons (.rev false (.var 1)) (.cons (.slc false (.var 1) (.c .non) (.c (.int 3))) (.cons (.bin .add false (.var 1) (.tup (.cons (.c (.int 0)) .nil))) (.cons (.bi .tuple false (.cons (.comp false (.neg (.var 4)) [4] (.name 4) (.seq (.var 1)) (.c (.bl true))) .nil)) (.cons (.bi .tuple false (.cons (.comp false (.bin .mul false (.c (.int 2)) (.var 4)) [4] (.name 4) (.seq (.var 1)) (.c (.bl true))) .nil)) (.cons (.tup (.cons (.c (.int 0)) (.cons (.c (.int 0)) (.cons (.c (.int 0)) (.cons (.c (.int 0)) .nil))))) (.cons (.tup (.cons (.c (.int 1)) (.cons (.c (.int 1)) (.cons (.c (.int 1)) (.cons (.c (.int 1)) .nil))))) (.cons (.tup .nil) (.cons (.c .non) .nil))))))))))))) (.seq (.ret (.bin .add false (.bin .add false (.var 3) (.comp false (.bin .add false (.bin .add false (.slc false (.var 1) (.c .non) (.var 2)) (.tup (.cons (.var 5) .nil))) (.slc false (.var 1) (.bin .add false (.var 2) (.c (.int 1))) (.c .non))) [5] (.name 5) (.seq (.tup (.cons (.c (.int 0)) (.cons (.c (.int 1)) (.cons (.neg (.c (.int 1))) (.cons (.c (.bl true)) (.cons (.c .non) (.cons (.c (.str "1")) (.cons (.bin .add false (.sub (.var 1) (.var 2)) (.c (.int 1))) (.cons (.bin .pow false (.c (.int 10)) (.c (.int 61))) .nil)))))))))) (.c (.bl true)))) (.lst false (.cons (.call n_l_bent (.cons (.var 0) (.cons (.var 1) .nil))) .nil)))) .pass)))⟩
abbrev sw (a b c d : Int) : D := .tup [.int a, .int b, .int c, .int d]
/-- a swing: not folded, short, of integers of at most a size -/
structure SwOk (m : Nat) (a b c d : Int) : Prop where
  ne : a * d - b * c ≠ 0
  id : shortL [a, b, c, d] = [a, b, c, d]
  a : a.natAbs ≤ m
  b : b.natAbs ≤ m
  c : c.natAbs ≤ m
  d : d.natAbs ≤ m
theorem SwOk.up {m n : Nat} {a b c d : Int} (h : SwOk m a b c d) (hn : m ≤ n) : SwOk n a b c d := ⟨h.ne, h.id, Nat.le_trans h.a hn, Nat.le_trans h.b hn, Nat.le_trans h.c hn, Nat.le_trans h.d hn⟩
theorem nz4 {a b c d : Int} (h : a * d - b * c ≠ 0) : ∃ z ∈ [a, b, c, d], z ≠ 0 := by
  apply Classical.byContradiction
  intro hn
  have z : ∀ z ∈ [a, b, c, d], z = 0 := fun z hz => Classical.byContradiction fun q => hn ⟨z, hz, q⟩
  have z1 := z a (by simp)
  have z2 := z b (by simp)
  rw [z1, z2] at h
  simp at h
theorem abs_mul_le {k x : Int} (h : k ≠ 0) : x.natAbs ≤ (k * x).natAbs := by
  rw [Int.natAbs_mul]
  exact Nat.le_mul_of_pos_left _ (by omega)
/-- what a swing's four integers are made short to -/
theorem sw_short {m : Nat} {a b c d : Int} (h : a * d - b * c ≠ 0) (ha : a.natAbs ≤ m) (hb : b.natAbs ≤ m) (hc : c.natAbs ≤ m) (hd : d.natAbs ≤ m) :
    ∃ a' b' c' d' k, shortL [a, b, c, d] = [a', b', c', d'] ∧ SwOk m a' b' c' d' ∧ k ≠ 0 ∧ a = k * a' ∧ b = k * b' ∧ c = k * c' ∧ d = k * d' := by
  have hne := nz4 h
  obtain ⟨k, hk, e1⟩ := short_mul hne
  have hl := short_len [a, b, c, d]
  have hid := short_idem hne
  obtain ⟨A, B, C, E, eS⟩ : ∃ A B C E, shortL [a, b, c, d] = [A, B, C, E] := by
    rcases q : shortL [a, b, c, d] with _ | ⟨x, _ | ⟨y, _ | ⟨z, _ | ⟨u, _ | ⟨v, vs⟩⟩⟩⟩⟩ <;> rw [q] at hl <;> simp at hl
    exact ⟨x, y, z, u, rfl⟩
  rw [eS] at e1 hid
  simp only [List.map_cons, List.map_nil, List.cons.injEq, and_true] at e1
  obtain ⟨k1, k2, k3, k4⟩ := e1
  refine ⟨A, B, C, E, k, eS, ⟨fun z => h ?_, hid, ?_, ?_, ?_, ?_⟩, hk, k1, k2, k3, k4⟩
  · have : a * d - b * c = k * k * (A * E - B * C) := by rw [k1, k2, k3, k4]; grind
    rw [this, z, Int.mul_zero]
  · exact Nat.le_trans (abs_mul_le hk) (k1 ▸ ha)
  · exact Nat.le_trans (abs_mul_le hk) (k2 ▸ hb)
  · exact Nat.le_trans (abs_mul_le hk) (k3 ▸ hc)
  · exact Nat.le_trans (abs_mul_le hk) (k4 ▸ hd)
/-- two tables of four that are the same but for a factor -/
theorem sw_par {a b c d p q r t u v : Int} (hu : u ≠ 0) (hv : v ≠ 0) (h1 : a * d - b * c ≠ 0) (h2 : p * t - q * r ≠ 0) (e1 : u * a = v * p) (e2 : u * b = v * q) (e3 : u * c = v * r) (e4 : u * d = v * t) : shortL [a, b, c, d] = shortL [p, q, r, t] := by
  refine short_par (nz4 h1) (nz4 h2) hu hv ?_
  simp only [List.map_cons, List.map_nil, List.cons.injEq, and_true]
  exact ⟨e1, e2, e3, e4⟩
/-- two tables, the first one first -/
def rawL (p q r t a b c d : Int) : List Int := [a * p + b * r, a * q + b * t, c * p + d * r, c * q + d * t]
def prodL (p q r t a b c d : Int) : List Int := shortL (rawL p q r t a b c d)
def backL (a b c d : Int) : List Int := shortL [d, -b, -c, a]
theorem raw_ne {p q r t a b c d : Int} (h1 : p * t - q * r ≠ 0) (h2 : a * d - b * c ≠ 0) : (a * p + b * r) * (c * q + d * t) - (a * q + b * t) * (c * p + d * r) ≠ 0 := by
  have : (a * p + b * r) * (c * q + d * t) - (a * q + b * t) * (c * p + d * r) = (p * t - q * r) * (a * d - b * c) := by grind
  rw [this]
  exact Int.mul_ne_zero h1 h2
theorem sum_le {m n : Nat} {a b p r : Int} (ha : a.natAbs ≤ n) (hb : b.natAbs ≤ n) (hp : p.natAbs ≤ m) (hr : r.natAbs ≤ m) : (a * p + b * r).natAbs ≤ 2 * (m * n) := by
  have h1 : (a * p).natAbs ≤ n * m := by rw [Int.natAbs_mul]; exact Nat.mul_le_mul ha hp
  have h2 : (b * r).natAbs ≤ n * m := by rw [Int.natAbs_mul]; exact Nat.mul_le_mul hb hr
  rw [Nat.mul_comm] at h1 h2
  omega
theorem prod_ok {m n : Nat} {p q r t a b c d : Int} (x : SwOk m p q r t) (y : SwOk n a b c d) : ∃ a' b' c' d' k, prodL p q r t a b c d = [a', b', c', d'] ∧ SwOk (2 * (m * n)) a' b' c' d' ∧ k ≠ 0 ∧ a * p + b * r = k * a' ∧ a * q + b * t = k * b' ∧ c * p + d * r = k * c' ∧ c * q + d * t = k * d' :=
  sw_short (raw_ne x.ne y.ne) (sum_le y.a y.b x.a x.c) (sum_le y.a y.b x.b x.d) (sum_le y.c y.d x.a x.c) (sum_le y.c y.d x.b x.d)
theorem back_ne {a b c d : Int} (h : a * d - b * c ≠ 0) : d * a - -b * -c ≠ 0 := by
  intro z
  apply h
  grind
theorem back_ok {m : Nat} {a b c d : Int} (x : SwOk m a b c d) : ∃ a' b' c' d' k, backL a b c d = [a', b', c', d'] ∧ SwOk m a' b' c' d' ∧ k ≠ 0 ∧ d = k * a' ∧ -b = k * b' ∧ -c = k * c' ∧ a = k * d' :=
  sw_short (back_ne x.ne) x.d (by rw [Int.natAbs_neg]; exact x.b) (by rw [Int.natAbs_neg]; exact x.c) x.a
/-- how great a size may be that we reckon with -/
def great : Nat := 2 ^ 250
theorem great_sm {x : Int} (h : x.natAbs ≤ great) : Bd 251 x := ⟨Nat.lt_of_le_of_lt h (by unfold great; exact Nat.pow_lt_pow_right (by decide) (by decide))⟩
theorem big4 {n : Nat} {a b c d : Int} (hn : n ≤ 8000) (ha : Bd n a) (hb : Bd n b) (hc : Bd n c) (hd : Bd n d) : ∀ z ∈ [a, b, c, d], z.natAbs < 2 ^ 8000 := by
  intro z hz
  simp only [List.mem_cons, List.not_mem_nil, or_false] at hz
  rcases hz with e | e | e | e <;> rw [e]
  · exact big_of ha hn
  · exact big_of hb hn
  · exact big_of hc hn
  · exact big_of hd hn
end Px
end

section
set_option Elab.async false
set_option linter.all false
set_option maxRecDepth 100000
set_option maxHeartbeats 2000000
set_option exponentiation.threshold 10000
/-! Px: the defs about swings: what each gives. -/
namespace Px
open PySem (Str PyData)
theorem SwOk.bds {m : Nat} {a b c d : Int} (h : SwOk m a b c d) (hm : m ≤ great) : Bd 251 a ∧ Bd 251 b ∧ Bd 251 c ∧ Bd 251 d :=
  ⟨great_sm (Nat.le_trans h.a hm), great_sm (Nat.le_trans h.b hm), great_sm (Nat.le_trans h.c hm), great_sm (Nat.le_trans h.d hm)⟩
def MeasAt (G : Tab) (n : Nat) : Prop := ∀ (k : Nat) (s : Sto) (a b c d : Int), Bd 900 a → Bd 900 b → Bd 900 c → Bd 900 d → call G (k + 1) n [sw a b c d] s = .ok (.int (a * d - b * c)) s
theorem meas_at {G : Tab} {n : Nat} (h : G n = some q_measure) : MeasAt G n := by
  intro k s a b c d _ _ _ _
  rw [call_eq h]
  simp [q_measure, sw, mul_ok, endF]
def TraceAt (G : Tab) (n : Nat) : Prop := ∀ (k : Nat) (s : Sto) (a b c d : Int), call G (k + 1) n [sw a b c d] s = .ok (.int (a + d)) s
theorem trace_at {G : Tab} {n : Nat} (h : G n = some q_trace) : TraceAt G n := by
  intro k s a b c d
  rw [call_eq h]
  simp [q_trace, sw, endF]
def RawAt (G : Tab) (n : Nat) : Prop := ∀ (k : Nat) (s : Sto) (p q r t a b c d : Int), Bd 900 p → Bd 900 q → Bd 900 r → Bd 900 t → Bd 900 a → Bd 900 b → Bd 900 c → Bd 900 d → call G (k + 1) n [sw p q r t, sw a b c d] s = .ok (sw (a * p + b * r) (a * q + b * t) (c * p + d * r) (c * q + d * t)) s
theorem raw_at {G : Tab} {n : Nat} (h : G n = some q_raw_product) : RawAt G n := by
  intro k s p q r t a b c d _ _ _ _ _ _ _ _
  rw [call_eq h]
  simp [q_raw_product, sw, seqOf, mul_ok, endF]
theorem lraw_at {G : Tab} {n : Nat} (h : G n = some q_l_raw) : RawAt G n := by
  intro k s p q r t a b c d _ _ _ _ _ _ _ _
  rw [call_eq h]
  simp [q_l_raw, sw, mul_ok, endF]
theorem short4 {G : Tab} {n : Nat} (h : ShortAt G n) (k : Nat) (s : Sto) {m : Nat} (hm : m ≤ 8000) {a b c d : Int} (hn : a * d - b * c ≠ 0) (ha : Bd m a) (hb : Bd m b) (hc : Bd m c) (hd : Bd m d) : call G (k + 2) n [sw a b c d] s = .ok (.tup (iL (shortL [a, b, c, d]))) s :=
  h k [a, b, c, d] s (by simp) (nz4 hn) (big4 hm ha hb hc hd)
def ProdAt (G : Tab) (n : Nat) : Prop := ∀ (k : Nat) (s : Sto) (m l : Nat) (p q r t a b c d : Int), SwOk m p q r t → SwOk l a b c d → m ≤ great → l ≤ great → call G (k + 4) n [sw p q r t, sw a b c d] s = .ok (.tup (iL (prodL p q r t a b c d))) s
theorem prod_at {G : Tab} {n sh ra : Nat} (h : G n = some (q_product sh ra)) (hs : ShortAt G sh) (hr : RawAt G ra) : ProdAt G n := by
  intro k s m l p q r t a b c d x y hm hl
  obtain ⟨x1, x2, x3, x4⟩ := x.bds hm
  obtain ⟨y1, y2, y3, y4⟩ := y.bds hl
  have e1 := hr (k + 2) s p q r t a b c d (x1.up (by decide)) (x2.up (by decide)) (x3.up (by decide)) (x4.up (by decide)) (y1.up (by decide)) (y2.up (by decide)) (y3.up (by decide)) (y4.up (by decide))
  have e2 := short4 hs (k + 1) s (m := 1005) (by decide) (raw_ne x.ne y.ne) ((inferInstance : Bd _ (a * p + b * r)).up (by decide)) ((inferInstance : Bd _ (a * q + b * t)).up (by decide)) ((inferInstance : Bd _ (c * p + d * r)).up (by decide)) ((inferInstance : Bd _ (c * q + d * t)).up (by decide))
  rw [call_eq h]
  simp only [sw] at e1 e2
  simp [q_product, sw, e1, e2, endF, prodL, rawL]
def BackAt (G : Tab) (n : Nat) : Prop := ∀ (k : Nat) (s : Sto) (m : Nat) (a b c d : Int), SwOk m a b c d → m ≤ great → call G (k + 4) n [sw a b c d] s = .ok (.tup (iL (backL a b c d))) s
theorem back_at {G : Tab} {n sh : Nat} (h : G n = some (q_undone sh)) (hs : ShortAt G sh) : BackAt G n := by
  intro k s m a b c d x hm
  obtain ⟨x1, x2, x3, x4⟩ := x.bds hm
  have e2 := short4 hs (k + 1) s (m := 251) (by decide) (back_ne x.ne) x4 inferInstance inferInstance x1
  rw [call_eq h]
  simp only [sw] at e2
  simp [q_undone, sw, seqOf, e2, endF, backL]
theorem lback_at {G : Tab} {n sh : Nat} (h : G n = some (q_l_undone sh)) (hs : ShortAt G sh) : BackAt G n := by
  intro k s m a b c d x hm
  obtain ⟨x1, x2, x3, x4⟩ := x.bds hm
  have e2 := short4 hs (k + 1) s (m := 251) (by decide) (back_ne x.ne) x4 inferInstance inferInstance x1
  rw [call_eq h]
  simp only [sw] at e2
  simp [q_l_undone, sw, e2, endF, backL]
/-- an integer within bounds -/
def isWh (lo hi : Int) : D → Bool
  | .int i => decide (lo ≤ i) && decide (i ≤ hi)
  | _ => false
theorem isWh_int {lo hi : Int} {d : D} (h : isWh lo hi d = true) : ∃ i, d = .int i ∧ lo ≤ i ∧ i ≤ hi := by
  cases d with
  | int i =>
    obtain ⟨h1, h2⟩ := Bool.and_eq_true_iff.mp (show (decide (lo ≤ i) && decide (i ≤ hi)) = true from h)
    exact ⟨i, rfl, of_decide_eq_true h1, of_decide_eq_true h2⟩
  | _ => cases h
def isTo (lo hi : Int) : D → Bool
  | .tup xs => decide (lo ≤ xs.length) && decide ((xs.length : Int) ≤ hi)
  | _ => false
def WholeAt (G : Tab) (n : Nat) : Prop := ∀ (k : Nat) (d : D) (lo hi : Int) (s : Sto), plainD d = true → call G (k + 1) n [d, .int lo, .int hi] s = .ok (.bl (isWh lo hi d)) s
theorem whole_at {G : Tab} {n : Nat} (h : G n = some q_is_whole) : WholeAt G n := by
  intro k d lo hi s hd
  rw [call_eq h]
  cases d with
  | int v => by_cases q : lo ≤ v <;> simp [q_is_whole, isiD, isWh, q, endF]
  | _ => first
    | (cases hd; done)
    | simp [q_is_whole, isiD, isWh, endF]
def TupofAt (G : Tab) (n : Nat) : Prop := ∀ (k : Nat) (d : D) (lo hi : Int) (s : Sto), plainD d = true → call G (k + 1) n [d, .int lo, .int hi] s = .ok (.bl (isTo lo hi d)) s
theorem tupof_at {G : Tab} {n : Nat} (h : G n = some q_is_tuple_of) : TupofAt G n := by
  intro k d lo hi s hd
  rw [call_eq h]
  cases d with
  | tup xs => by_cases q : lo ≤ (xs.length : Int) <;> simp [q_is_tuple_of, isiD, isTo, biD, seqOf, q, endF]
  | _ => first
    | (cases hd; done)
    | simp [q_is_tuple_of, isiD, isTo, endF]
def NumAt (G : Tab) (n : Nat) : Prop := ∀ (k : Nat) (d : D) (lo hi : Int) (s : Sto), plainD d = true → call G (k + 2) n [d, .int lo, .int hi] s = .ok (.bl (isWh lo hi d)) s
theorem num_at {G : Tab} {n so : Nat} (h : G n = some (q_l_is_number so)) (hs : SortAt G so) : NumAt G n := by
  intro k d lo hi s hd
  have e := hs k d s hd
  rw [call_eq h]
  cases d with
  | int v => by_cases q : lo ≤ v <;> simp [q_l_is_number, e, sortV, isWh, q, endF]
  | _ => first
    | (cases hd; done)
    | simp [q_l_is_number, e, sortV, isWh, endF]
def intOf : D → Int
  | .int i => i
  | _ => 0
/-- whether a value is a swing of integers of at most a size -/
def isSw (m : Nat) : D → Bool
  | .tup [w, x, y, z] => (isWh (-m) m w && (isWh (-m) m x && (isWh (-m) m y && isWh (-m) m z))) && (decide (¬ (intOf w * intOf z - intOf x * intOf y = 0)) && decide (shortL [intOf w, intOf x, intOf y, intOf z] = [intOf w, intOf x, intOf y, intOf z]))
  | _ => false
theorem isSw_iff {m : Nat} {v : D} : isSw m v = true ↔ ∃ a b c d, v = sw a b c d ∧ SwOk m a b c d := by
  constructor
  · intro h
    unfold isSw at h
    split at h
    · rename_i w x y z
      simp only [Bool.and_eq_true] at h
      obtain ⟨⟨h1, h2, h3, h4⟩, h5, h6⟩ := h
      obtain ⟨a, rfl, a1, a2⟩ := isWh_int h1
      obtain ⟨b, rfl, b1, b2⟩ := isWh_int h2
      obtain ⟨c, rfl, c1, c2⟩ := isWh_int h3
      obtain ⟨d, rfl, d1, d2⟩ := isWh_int h4
      exact ⟨a, b, c, d, rfl, of_decide_eq_true h5, of_decide_eq_true h6, by omega, by omega, by omega, by omega⟩
    · cases h
  · rintro ⟨a, b, c, d, rfl, h⟩
    have := h.a; have := h.b; have := h.c; have := h.d
    have w : ∀ x : Int, x.natAbs ≤ m → isWh (-m) m (.int x) = true := fun x hx => by
      show (decide _ && decide _) = true
      rw [Bool.and_eq_true, decide_eq_true_eq, decide_eq_true_eq]
      omega
    show ((isWh (-m) m (.int a) && (isWh (-m) m (.int b) && (isWh (-m) m (.int c) && isWh (-m) m (.int d)))) && (decide (¬ (a * d - b * c = 0)) && decide (shortL [a, b, c, d] = [a, b, c, d]))) = true
    rw [w a h.a, w b h.b, w c h.c, w d h.d, decide_eq_true h.ne, decide_eq_true h.id]
    rfl
theorem four_of {xs : List D} (h : xs.length = 4) : ∃ w x y z, xs = [w, x, y, z] := by
  rcases xs with _ | ⟨w, _ | ⟨x, _ | ⟨y, _ | ⟨z, _ | ⟨u, us⟩⟩⟩⟩⟩ <;> simp at h
  exact ⟨w, x, y, z, rfl⟩
theorem isSw_not {m : Nat} {v : D} (h : ¬ ∃ w x y z, v = .tup [w, x, y, z]) : isSw m v = false := by
  unfold isSw
  split
  · rename_i w x y z
    exact absurd ⟨w, x, y, z, rfl⟩ h
  · rfl
def FitsAt (G : Tab) (n : Nat) : Prop := ∀ (k m N L : Nat) (v : D) (s : Sto), okD N L v = true → N ≤ 20 → m ≤ great → call G (k + 4) n [v, .int m] s = .ok (.bl (isSw m v)) s
theorem sw_tail {m : Nat} {w x y z : D} (h : (isWh (-m) m w && (isWh (-m) m x && (isWh (-m) m y && isWh (-m) m z))) = true) : ∃ a b c d, w = .int a ∧ x = .int b ∧ y = .int c ∧ z = .int d ∧ a.natAbs ≤ m ∧ b.natAbs ≤ m ∧ c.natAbs ≤ m ∧ d.natAbs ≤ m := by
  simp only [Bool.and_eq_true] at h
  obtain ⟨h1, h2, h3, h4⟩ := h
  obtain ⟨a, rfl, a1, a2⟩ := isWh_int h1
  obtain ⟨b, rfl, b1, b2⟩ := isWh_int h2
  obtain ⟨c, rfl, c1, c2⟩ := isWh_int h3
  obtain ⟨d, rfl, d1, d2⟩ := isWh_int h4
  exact ⟨a, b, c, d, rfl, rfl, rfl, rfl, by omega, by omega, by omega, by omega⟩
theorem parts_of {N L : Nat} {w x y z : D} (h : okD N L (.tup [w, x, y, z]) = true) : ∃ M, N = M + 1 ∧ okD M L w = true ∧ okD M L x = true ∧ okD M L y = true ∧ okD M L z = true := by
  cases N with
  | zero => cases h
  | succ M =>
    obtain ⟨_, q⟩ := okD_tup.mp h
    exact ⟨M, rfl, q w (by simp), q x (by simp), q y (by simp), q z (by simp)⟩
theorem fits_at {G : Tab} {n tu wh me sh : Nat} (h : G n = some (q_fits_swing tu wh me sh)) (ht : TupofAt G tu) (hw : WholeAt G wh) (hm : MeasAt G me) (hs : ShortAt G sh) : FitsAt G n := by
  intro k m N L v s hv hN hg
  have hp := okD_plain hv
  have f4 : fit 4 = true := by decide
  have e0 := ht (k + 2) v 4 4 s hp
  rw [call_eq h]
  by_cases hq : ∃ w x y z, v = .tup [w, x, y, z]
  · obtain ⟨w, x, y, z, rfl⟩ := hq
    obtain ⟨M, rfl, pw, px, py, pz⟩ := parts_of hv
    have e1 := hw (k + 2) w (-m) m s (okD_plain pw)
    have e2 := hw (k + 2) x (-m) m s (okD_plain px)
    have e3 := hw (k + 2) y (-m) m s (okD_plain py)
    have e4 := hw (k + 2) z (-m) m s (okD_plain pz)
    have e5 : isTo 4 4 (.tup [w, x, y, z]) = true := rfl
    rw [e5] at e0
    by_cases hb : (isWh (-m) m w && (isWh (-m) m x && (isWh (-m) m y && isWh (-m) m z))) = true
    · obtain ⟨a, b, c, d, rfl, rfl, rfl, rfl, ha, hb', hc, hd⟩ := sw_tail hb
      have i1 : Bd 251 a := great_sm (Nat.le_trans ha hg)
      have i2 : Bd 251 b := great_sm (Nat.le_trans hb' hg)
      have i3 : Bd 251 c := great_sm (Nat.le_trans hc hg)
      have i4 : Bd 251 d := great_sm (Nat.le_trans hd hg)
      have m1 := hm (k + 2) s a b c d (i1.up (by decide)) (i2.up (by decide)) (i3.up (by decide)) (i4.up (by decide))
      have eis : isSw m (.tup [.int a, .int b, .int c, .int d]) = (decide (¬ (a * d - b * c = 0)) && decide (shortL [a, b, c, d] = [a, b, c, d])) := by
        show ((isWh (-m) m (.int a) && (isWh (-m) m (.int b) && (isWh (-m) m (.int c) && isWh (-m) m (.int d)))) && _) = _
        rw [hb]
        rfl
      simp only [Bool.and_eq_true] at hb
      obtain ⟨b1, b2, b3, b4⟩ := hb
      rw [b1] at e1
      rw [b2] at e2
      rw [b3] at e3
      rw [b4] at e4
      rw [eis]
      simp only [sw] at m1
      by_cases hz : a * d - b * c = 0
      · simp [q_fits_swing, e0, f4, compL, itemZ_eq, wipe, e1, e2, e3, e4, biD, lsR, mapO, blO, m1, hz, endF]
      · have q := short4 hs (k + 1) s (m := 251) (by decide) hz i1 i2 i3 i4
        have qq := eq_ints s (shortL [a, b, c, d]) [a, b, c, d]
        simp only [sw] at q
        simp only [iL, List.map_cons, List.map_nil] at q qq
        simp [q_fits_swing, e0, f4, compL, itemZ_eq, wipe, e1, e2, e3, e4, biD, lsR, mapO, blO, m1, hz, q, qq, endF]
    · have eis : isSw m (.tup [w, x, y, z]) = false := by
        have : (isWh (-m) m w && (isWh (-m) m x && (isWh (-m) m y && isWh (-m) m z))) = false := by simpa using hb
        show (((isWh (-m) m w && (isWh (-m) m x && (isWh (-m) m y && isWh (-m) m z)))) && _) = _
        rw [this]
        rfl
      rw [eis]
      generalize isWh (-m) m w = b1 at *
      generalize isWh (-m) m x = b2 at *
      generalize isWh (-m) m y = b3 at *
      generalize isWh (-m) m z = b4 at *
      cases b1 <;> cases b2 <;> cases b3 <;> cases b4 <;> first
        | exact absurd rfl hb
        | simp [q_fits_swing, e0, f4, compL, itemZ_eq, wipe, e1, e2, e3, e4, biD, lsR, mapO, blO, endF]
  · rw [isSw_not hq]
    have e5 : isTo 4 4 v = false := by
      cases v with
      | tup xs =>
        have : ¬ xs.length = 4 := fun zz => by
          obtain ⟨w, x, y, z, rfl⟩ := four_of zz
          exact hq ⟨w, x, y, z, rfl⟩
        show (decide _ && decide _) = false
        by_cases h4 : (4 : Int) ≤ xs.length
        · rw [decide_eq_true h4, decide_eq_false (by omega)]; rfl
        · rw [decide_eq_false h4]; rfl
      | _ => rfl
    rw [e5] at e0
    simp [q_fits_swing, e0, endF]
theorem isw_at {G : Tab} {n nu me sh : Nat} (h : G n = some (q_l_is_swing nu me sh)) (hn : NumAt G nu) (hm : MeasAt G me) (hs : ShortAt G sh) : FitsAt G n := by
  intro k m N L v s hv hN hg
  have hp := okD_plain hv
  have f4 : fit 4 = true := by decide
  rw [call_eq h]
  by_cases hq : ∃ w x y z, v = .tup [w, x, y, z]
  · obtain ⟨w, x, y, z, rfl⟩ := hq
    obtain ⟨M, rfl, pw, px, py, pz⟩ := parts_of hv
    have e1 := hn (k + 1) w (-m) m s (okD_plain pw)
    have e2 := hn (k + 1) x (-m) m s (okD_plain px)
    have e3 := hn (k + 1) y (-m) m s (okD_plain py)
    have e4 := hn (k + 1) z (-m) m s (okD_plain pz)
    have up : ∀ {d : D}, okD M L d = true → okD 20 L d = true := fun q => okD_mono (Nat.le_refl _) q (by omega)
    by_cases hb : (isWh (-m) m w && (isWh (-m) m x && (isWh (-m) m y && isWh (-m) m z))) = true
    · obtain ⟨a, b, c, d, rfl, rfl, rfl, rfl, ha, hb', hc, hd⟩ := sw_tail hb
      have i1 : Bd 251 a := great_sm (Nat.le_trans ha hg)
      have i2 : Bd 251 b := great_sm (Nat.le_trans hb' hg)
      have i3 : Bd 251 c := great_sm (Nat.le_trans hc hg)
      have i4 : Bd 251 d := great_sm (Nat.le_trans hd hg)
      have m1 := hm (k + 2) s a b c d (i1.up (by decide)) (i2.up (by decide)) (i3.up (by decide)) (i4.up (by decide))
      have eis : isSw m (.tup [.int a, .int b, .int c, .int d]) = (decide (¬ (a * d - b * c = 0)) && decide (shortL [a, b, c, d] = [a, b, c, d])) := by
        show ((isWh (-m) m (.int a) && (isWh (-m) m (.int b) && (isWh (-m) m (.int c) && isWh (-m) m (.int d)))) && _) = _
        rw [hb]
        rfl
      simp only [Bool.and_eq_true] at hb
      obtain ⟨b1, b2, b3, b4⟩ := hb
      rw [b1] at e1
      rw [b2] at e2
      rw [b3] at e3
      rw [b4] at e4
      rw [eis]
      simp only [sw] at m1
      by_cases hz : a * d - b * c = 0
      · simp [q_l_is_swing, isiD, biD, seqOf, f4, compL, itemZ_eq, wipe, e1, e2, e3, e4, m1, hz, endF]
      · have q := short4 hs (k + 1) s (m := 251) (by decide) hz i1 i2 i3 i4
        have qq := eq_ints s (shortL [a, b, c, d]) [a, b, c, d]
        simp only [sw] at q
        simp only [iL, List.map_cons, List.map_nil] at q qq
        simp [q_l_is_swing, isiD, biD, seqOf, f4, compL, itemZ_eq, wipe, e1, e2, e3, e4, m1, hz, q, qq, endF]
    · have eis : isSw m (.tup [w, x, y, z]) = false := by
        have : (isWh (-m) m w && (isWh (-m) m x && (isWh (-m) m y && isWh (-m) m z))) = false := by simpa using hb
        show (((isWh (-m) m w && (isWh (-m) m x && (isWh (-m) m y && isWh (-m) m z)))) && _) = _
        rw [this]
        rfl
      rw [eis]
      generalize isWh (-m) m w = b1 at *
      generalize isWh (-m) m x = b2 at *
      generalize isWh (-m) m y = b3 at *
      generalize isWh (-m) m z = b4 at *
      have nl := fun (xs : List D) (hx : ∀ x ∈ xs, okD 20 L x = true) => eq_nil_lst s hx
      cases b1 <;> cases b2 <;> cases b3 <;> cases b4 <;> first
        | exact absurd rfl hb
        | (simp [q_l_is_swing, isiD, biD, seqOf, f4, compL, itemZ_eq, wipe, e1, e2, e3, e4, endF]
           rw [eq_nil_lst (L := L) s (by simp [up pw, up px, up py, up pz])]
           simp)
  · rw [isSw_not hq]
    cases v with
    | tup xs =>
      have : ¬ (xs.length : Int) = 4 := fun zz => by
        obtain ⟨w, x, y, z, rfl⟩ := four_of (xs := xs) (by omega)
        exact hq ⟨w, x, y, z, rfl⟩
      simp [q_l_is_swing, isiD, biD, seqOf, this, endF]
    | _ => first
      | (cases hp; done)
      | simp [q_l_is_swing, isiD, endF]
def NeedAt (G : Tab) (n : Nat) : Prop := ∀ (k : Nat) (a b c d : Int) (s : Sto), SwOk 10000 a b c d → call G (k + 5) n [sw a b c d] s = .ok .non s
theorem ok_sw {m : Nat} {a b c d : Int} (h : SwOk m a b c d) : okD 2 4 (sw a b c d) = true := rfl
theorem need_at {G : Tab} {n fi xc : Nat} (h : G n = some (q_need_swing fi xc)) (hf : FitsAt G fi) : NeedAt G n := by
  intro k a b c d s x
  have e := hf k 10000 2 4 (sw a b c d) s rfl (by decide) (by unfold great; exact Nat.le_trans (show 10000 ≤ 2 ^ 20 by decide) (Nat.pow_le_pow_right (by decide) (by decide)))
  rw [isSw_iff.mpr ⟨a, b, c, d, rfl, x⟩] at e
  rw [call_eq h]
  simp only [sw] at e
  simp at e
  simp [q_need_swing, sw, e, endF]
end Px
end

section
set_option Elab.async false
set_option linter.all false
set_option maxRecDepth 100000
set_option maxHeartbeats 2000000
set_option exponentiation.threshold 10000
/-! Px: swings drawn at random. -/
namespace Px
open PySem (Str PyData)
theorem le_great {m : Nat} (h : m ≤ 10000) : m ≤ great := by
  unfold great
  exact Nat.le_trans h (Nat.le_trans (show 10000 ≤ 2 ^ 20 by decide) (Nat.pow_le_pow_right (by decide) (by decide)))
def SwingAt (G : Tab) (n : Nat) : Prop := ∀ (k g : Nat) (s rest : Sto), Cup s rest → 1 ≤ g → g ≤ 10000 → Wp (call G (k + 4) n [.cel 0, .int g] s) fun d s' => ∃ a b c e, d = sw a b c e ∧ SwOk g a b c e ∧ Cup s' rest
theorem swing_at {G : Tab} {n ro so sh : Nat} (h : G n = some (q_l_swing ro so sh)) (hr : RollAt G ro) (hs : SomeAt G so) (hsh : ShortAt G sh) : SwingAt G n := by
  intro k g s rest hc g1 g2
  have f4 : fit 4 = true := by decide
  have ig : Bd 14 (g : Int) := bd_le (m := 10000) (by omega) (by decide)
  have i2 : Bd 2 2 := ⟨by decide⟩
  have mg : mulOk 2 g = true := mul_ok (by decide)
  have fin : ∀ (a b c e : Int) (s : Sto), Cup s rest → a * e - b * c ≠ 0 → a.natAbs ≤ g → b.natAbs ≤ g → c.natAbs ≤ g → e.natAbs ≤ g → ∃ a' b' c' e', call G (k + 3) sh [.tup [.int a, .int b, .int c, .int e]] s = .ok (sw a' b' c' e') s ∧ SwOk g a' b' c' e' := by
    intro a b c e s hc hn ha hb hc' he
    have q := short4 hsh (k + 1) s (m := 14) (by decide) hn (bd_le (Nat.le_trans ha g2) (by decide)) (bd_le (Nat.le_trans hb g2) (by decide)) (bd_le (Nat.le_trans hc' g2) (by decide)) (bd_le (Nat.le_trans he g2) (by decide))
    obtain ⟨a', b', c', e', _, eS, ok, _⟩ := sw_short hn ha hb hc' he
    rw [eS] at q
    exact ⟨a', b', c', e', q, ok⟩
  rw [call_eq h]
  simp [q_l_swing, rngD, smallI, rngL, f4, compL, itemZ_eq, wipe, mg]
  refine (hr (k + 2) (2 * g + 1) s rest hc (by omega) (by omega)).mono ?_
  rintro d s1 ⟨x, rfl, x0, x1, hc1⟩
  simp
  refine (hr (k + 2) (2 * g + 1) s1 rest hc1 (by omega) (by omega)).mono ?_
  rintro d s2 ⟨y, rfl, y0, y1, hc2⟩
  simp
  refine (hr (k + 2) (2 * g + 1) s2 rest hc2 (by omega) (by omega)).mono ?_
  rintro d s3 ⟨z, rfl, z0, z1, hc3⟩
  simp
  refine (hr (k + 2) (2 * g + 1) s3 rest hc3 (by omega) (by omega)).mono ?_
  rintro d s4 ⟨u, rfl, u0, u1, hc4⟩
  obtain ⟨a, ea⟩ : ∃ a, x - g = a := ⟨_, rfl⟩
  obtain ⟨b, eb⟩ : ∃ b, y - g = b := ⟨_, rfl⟩
  obtain ⟨c, ec⟩ : ∃ c, z - g = c := ⟨_, rfl⟩
  obtain ⟨e, ee⟩ : ∃ e, u - g = e := ⟨_, rfl⟩
  have ha : a.natAbs ≤ g := by omega
  have hb : b.natAbs ≤ g := by omega
  have hc' : c.natAbs ≤ g := by omega
  have he : e.natAbs ≤ g := by omega
  have i1 : Bd 14 a := bd_le (Nat.le_trans ha g2) (by decide)
  have i2 : Bd 14 b := bd_le (Nat.le_trans hb g2) (by decide)
  have i3 : Bd 14 c := bd_le (Nat.le_trans hc' g2) (by decide)
  have i4 : Bd 14 e := bd_le (Nat.le_trans he g2) (by decide)
  by_cases hn : a * e = b * c
  · simp [ea, eb, ec, ee, mul_ok, hn]
    refine (hr (k + 2) (g + 1) s4 rest hc4 (by omega) (by omega)).mono ?_
    rintro d s5 ⟨v, rfl, v0, v1, hc5⟩
    try simp
    refine (hs (k + 1) [.int 1, .int 1, .int (-1), .int g] s5 rest hc5 (by simp) (by simp)).mono ?_
    rintro d s6 ⟨hd, hc6⟩
    obtain ⟨w, rfl, w0, w1⟩ : ∃ w, d = .int w ∧ w ≠ 0 ∧ w.natAbs ≤ g := by
      simp only [List.mem_cons, List.not_mem_nil, or_false] at hd
      rcases hd with rfl | rfl | rfl | rfl
      · exact ⟨1, rfl, by decide, by omega⟩
      · exact ⟨1, rfl, by decide, by omega⟩
      · exact ⟨-1, rfl, by decide, by omega⟩
      · exact ⟨g, rfl, by omega, by omega⟩
    obtain ⟨a', b', c', e', q, ok⟩ := fin 1 v 0 w s6 hc6 (by omega) (by omega) (by omega) (by omega) w1
    simp [biD, lsR, q]
    exact ⟨a', b', c', e', ⟨rfl, rfl, rfl, rfl⟩, ok, hc6⟩
  · obtain ⟨a', b', c', e', q, ok⟩ := fin a b c e s4 hc4 (by omega) ha hb hc' he
    simp [ea, eb, ec, ee, mul_ok, hn, biD, lsR, q]
    exact ⟨a', b', c', e', ⟨rfl, rfl, rfl, rfl⟩, ok, hc4⟩
def MovedAt (G : Tab) (n : Nat) : Prop := ∀ (k m : Nat) (s rest : Sto) (a b c d : Int), Cup s rest → SwOk m a b c d → m ≤ 600 → Wp (call G (k + 5) n [.cel 0, sw a b c d] s) fun x s' => ∃ a b c d, x = sw a b c d ∧ SwOk 10000 a b c d ∧ Cup s' rest
theorem moved_at {G : Tab} {n sg pr un : Nat} (h : G n = some (q_l_moved sg pr un)) (hs : SwingAt G sg) (hp : ProdAt G pr) (hu : BackAt G un) : MovedAt G n := by
  intro k m s rest a b c d hc x hm
  rw [call_eq h]
  simp [q_l_moved]
  refine (hs k 2 s rest hc (by decide) (by decide)).mono ?_
  rintro _ s1 ⟨p, q, r, t, rfl, y, hc1⟩
  have e1 := hu k s1 2 p q r t y (le_great (by decide))
  obtain ⟨p', q', r', t', _, eb, z, _⟩ := back_ok y
  rw [eb] at e1
  have e2 := hp k s1 2 m p' q' r' t' a b c d z x (le_great (by decide)) (le_great (by omega))
  obtain ⟨a2, b2, c2, d2, _, ep, z2, _⟩ := prod_ok z x
  rw [ep] at e2
  have e3 := hp k s1 (2 * (2 * m)) 2 a2 b2 c2 d2 p q r t z2 y (le_great (by omega)) (le_great (by decide))
  obtain ⟨a3, b3, c3, d3, _, ep2, z3, _⟩ := prod_ok z2 y
  rw [ep2] at e3
  simp only [iL, List.map_cons, List.map_nil, sw] at e1 e2 e3
  simp [sw, e1, e2, e3]
  exact ⟨a3, b3, c3, d3, ⟨rfl, rfl, rfl, rfl⟩, z3.up (by omega), hc1⟩
def DrawAt (G : Tab) (n : Nat) : Prop := ∀ (k : Nat) (s rest : Sto), Cup s rest → Wp (call G (k + 8) n [.cel 0] s) fun x s' => ∃ a b c d, x = sw a b c d ∧ SwOk 10000 a b c d ∧ Cup s' rest
theorem home_at {G : Tab} {n mo so : Nat} (h : G n = some (q_l_home mo so)) (hm : MovedAt G mo) (hs : SomeAt G so) : DrawAt G n := by
  intro k s rest hc
  rw [call_eq h]
  simp [q_l_home]
  refine (hs (k + 5) [sw 1 0 0 1, sw 0 1 1 0, sw 0 1 (-1) 0, sw 0 1 (-1) 1, sw 1 1 (-1) 1, sw 1 1 (-1) 2, sw 1 0 0 (-1), sw 0 3 1 0] s rest hc (by simp) (by simp)).mono ?_
  rintro d s1 ⟨hd, hc1⟩
  obtain ⟨a, b, c, e, rfl, x⟩ : ∃ a b c e, d = sw a b c e ∧ SwOk 3 a b c e := by
    simp only [List.mem_cons, List.not_mem_nil, or_false] at hd
    rcases hd with rfl | rfl | rfl | rfl | rfl | rfl | rfl | rfl <;> exact ⟨_, _, _, _, rfl, by decide, by decide, by decide, by decide, by decide, by decide⟩
  try simp
  exact hm (k + 2) 3 s1 rest a b c e hc1 x (by decide)
def AnyAt (G : Tab) (n : Nat) : Prop := ∀ (k : Nat) (s rest : Sto), Cup s rest → Wp (call G (k + 9) n [.cel 0] s) fun x s' => ∃ a b c d, x = sw a b c d ∧ SwOk 10000 a b c d ∧ Cup s' rest
theorem any_at {G : Tab} {n ro ho mo sh so sg : Nat} (h : G n = some (q_l_any ro ho mo sh so sg)) (hr : RollAt G ro) (hh : DrawAt G ho) (hm : MovedAt G mo) (hsh : ShortAt G sh) (hs : SomeAt G so) (hsg : SwingAt G sg) : AnyAt G n := by
  intro k s rest hc
  have p4 : powOk 10 4 = true := by decide
  rw [call_eq h]
  simp [q_l_any]
  refine (hr (k + 7) 6 s rest hc (by decide) (by decide)).mono ?_
  rintro d s1 ⟨v, rfl, v0, v1, hc1⟩
  by_cases h0 : v = 0
  · simp [h0]
    exact (hh k s1 rest hc1)
  · by_cases h1 : v = 1
    · simp [h1]
      refine (hr (k + 7) 5 s1 rest hc1 (by decide) (by decide)).mono ?_
      rintro d s2 ⟨w, rfl, w0, w1, hc2⟩
      have x : SwOk 5 1 (1 + w) 0 1 := by
        obtain ⟨j, rfl, hj⟩ : ∃ j : Nat, w = j ∧ j < 5 := ⟨w.toNat, by omega, by omega⟩
        rcases j with _ | _ | _ | _ | _ | j
        · exact ⟨by decide, by decide, by decide, by decide, by decide, by decide⟩
        · exact ⟨by decide, by decide, by decide, by decide, by decide, by decide⟩
        · exact ⟨by decide, by decide, by decide, by decide, by decide, by decide⟩
        · exact ⟨by decide, by decide, by decide, by decide, by decide, by decide⟩
        · exact ⟨by decide, by decide, by decide, by decide, by decide, by decide⟩
        · omega
      simp
      exact hm (k + 3) 5 s2 rest 1 (1 + w) 0 1 hc2 x (by decide)
    · by_cases h2 : v = 2
      · simp [h2]
        refine (hr (k + 7) 6 s1 rest hc1 (by decide) (by decide)).mono ?_
        rintro d s2 ⟨w, rfl, w0, w1, hc2⟩
        simp
        refine (hs (k + 6) [.int 1, .int (-1), .int 2, .int 3] s2 rest hc2 (by simp) (by simp)).mono ?_
        rintro d s3 ⟨hd, hc3⟩
        obtain ⟨u, rfl, u0, u1⟩ : ∃ u, d = .int u ∧ u ≠ 0 ∧ u.natAbs ≤ 6 := by
          simp only [List.mem_cons, List.not_mem_nil, or_false] at hd
          rcases hd with rfl | rfl | rfl | rfl
          · exact ⟨1, rfl, by decide, by decide⟩
          · exact ⟨-1, rfl, by decide, by decide⟩
          · exact ⟨2, rfl, by decide, by decide⟩
          · exact ⟨3, rfl, by decide, by decide⟩
        have hn : (1 + w) * u - 0 * 0 ≠ 0 := by
          have := Int.mul_ne_zero (a := 1 + w) (b := u) (by omega) u0
          omega
        have a1 : (1 + w).natAbs ≤ 6 := by omega
        have q := short4 hsh (k + 6) s3 (m := 14) (by decide) hn (bd_le a1 (by decide)) (bd_le (m := 6) (by decide) (by decide)) (bd_le (m := 6) (by decide) (by decide)) (bd_le u1 (by decide))
        obtain ⟨a', b', c', e', _, eS, ok, _⟩ := sw_short hn a1 (show (0 : Int).natAbs ≤ 6 by decide) (show (0 : Int).natAbs ≤ 6 by decide) u1
        rw [eS] at q
        simp only [iL, List.map_cons, List.map_nil, sw] at q
        simp [q]
        exact hm (k + 3) 6 s3 rest a' b' c' e' hc3 ok (by decide)
      · simp [h0, h1, h2, p4]
        refine (hs (k + 6) [.int 1, .int 3, .int 10, .int 10000] s1 rest hc1 (by simp) (by simp)).mono ?_
        rintro d s2 ⟨hd, hc2⟩
        obtain ⟨g, rfl, g1, g2⟩ : ∃ g : Nat, d = .int g ∧ 1 ≤ g ∧ g ≤ 10000 := by
          simp only [List.mem_cons, List.not_mem_nil, or_false] at hd
          rcases hd with rfl | rfl | rfl | rfl
          · exact ⟨1, rfl, by decide, by decide⟩
          · exact ⟨3, rfl, by decide, by decide⟩
          · exact ⟨10, rfl, by decide, by decide⟩
          · exact ⟨10000, rfl, by decide, by decide⟩
        try simp
        refine (hsg (k + 4) g s2 rest hc2 g1 g2).mono ?_
        rintro x s3 ⟨a, b, c, e, rfl, ok, hc3⟩
        exact ⟨a, b, c, e, rfl, ok.up g2, hc3⟩
end Px
end

section
set_option Elab.async false
set_option linter.all false
set_option maxRecDepth 100000
set_option maxHeartbeats 2000000
set_option exponentiation.threshold 10000
/-! Px: values bent, values near a swing. -/
namespace Px
open PySem (Str PyData)
theorem ok_int {n L : Nat} (i : Int) (hn : 1 ≤ n) : okD n L (.int i) = true := by
  obtain ⟨j, rfl⟩ : ∃ j, n = j + 1 := ⟨n - 1, by omega⟩
  rfl
def bentL : List D := [.non, .bl true, .bl false, .int 0, .int 1, .int 2, .int (-1), .str "", .tup [], .lst [], .tup [.int 0], .tup [.int 1, .int 0], .tup [.int 0, .int 1], .tup [.int 2, .int 4], sw 1 0 0 1, .tup [.int 1, .int 1]]
theorem bentL_ok : ∀ x ∈ bentL, okD 2 4 x = true := by
  intro x hx
  have : (bentL.all (okD 2 4)) = true := by decide +kernel
  exact List.all_eq_true.mp this x hx
/-- a value bent: some value again, hardly deeper, hardly wider -/
def BentAt (G : Tab) (n : Nat) : Prop := ∀ (N k L : Nat) (v : D) (s rest : Sto), Cup s rest → okD N L v = true → N ≤ 19 → 4 ≤ L → L ≤ 1000 → N + 3 ≤ k → Wp (call G k n [.cel 0, v] s) fun x s' => okD (N + 2) (2 * L + 1) x = true ∧ Cup s' rest
theorem bent_at {G : Tab} {n ro so sr : Nat} (h : G n = some (q_l_bent ro so sr n)) (hr : RollAt G ro) (hs : SomeAt G so) (hsr : SortAt G sr) : BentAt G n := by
  intro N
  induction N with
  | zero => intro k L v s rest _ hv; cases hv
  | succ N ih =>
    intro k L v s rest hc hv hN hL hL2 hk
    obtain ⟨k, rfl⟩ : ∃ j, k = j + 3 := ⟨k - 3, by omega⟩
    have hp := okD_plain hv
    have f16 : fit 16 = true := by decide
    have f28 : fit 28 = true := by decide
    have es := fun s => hsr (k + 1) v s hp
    have fin : ∀ (xs : List D) (s : Sto), Cup s rest → xs.length ≤ 100 → xs ≠ [] → (∀ x ∈ xs, okD 2 4 x = true) → Wp (call G (k + 2) so [.cel 0, .lst xs] s) fun x s' => okD (N + 1 + 2) (2 * L + 1) x = true ∧ Cup s' rest := by
      intro xs s hc hl hne hx
      refine (hs k xs s rest hc hne (by omega)).mono ?_
      rintro d s' ⟨hd, hc'⟩
      exact ⟨okD_mono (by omega) (hx d hd) (by omega), hc'⟩
    have fin1 : ∀ (s : Sto), Cup s rest → Wp (call G (k + 2) so [.cel 0, .lst bentL] s) fun x s' => okD (N + 1 + 2) (2 * L + 1) x = true ∧ Cup s' rest := fun s hc => fin bentL s hc (by decide) (by decide) bentL_ok
    by_cases ht : ∃ xs, v = .tup xs
    · obtain ⟨xs, rfl⟩ := ht
      obtain ⟨hl, hx⟩ := okD_tup.mp hv
      have hx20 : ∀ x ∈ xs, okD 20 L x = true := fun x q => okD_mono (Nat.le_refl _) (hx x q) (by omega)
      have en := fun s => eq_nil_tup s hx20
      have up : ∀ x ∈ xs, okD (N + 1 + 1) (2 * L + 1) x = true := fun x q => okD_mono (by omega) (hx x q) (by omega)
      by_cases hne : xs = []
      · subst hne
        rw [call_eq h]
        have := fin1 s hc
        simp only [bentL] at this
        simp [q_l_bent, isiD, en, es, sortV, f16]
        simpa using this
      · have hem : xs.isEmpty = false := by cases xs <;> simp at hne ⊢
        have hpos : 0 < xs.length := List.length_pos_iff.mpr hne
        rw [call_eq h]
        simp [q_l_bent, isiD, en, hem]
        refine (hr (k + 1) 7 s rest hc (by decide) (by decide)).mono ?_
        rintro d s1 ⟨v, rfl, v0, v1, hc1⟩
        by_cases h0 : v = 0
        · have := fin1 s1 hc1
          simp only [bentL] at this
          simp [h0, es, sortV, f16]
          simpa using this
        · simp [h0, biD, seqOf]
          refine (hr (k + 1) xs.length s1 rest hc1 (by omega) (by omega)).mono ?_
          rintro d s2 ⟨at', rfl, a0, a1, hc2⟩
          simp
          refine (hr (k + 1) 12 s2 rest hc2 (by decide) (by decide)).mono ?_
          rintro d s3 ⟨w, rfl, w0, w1, hc3⟩
          have cl := fun l h => cut_len xs l h
          have cm : ∀ l h, ∀ x ∈ cut xs l h, okD (N + 1 + 1) (2 * L + 1) x = true := fun l h x q => up x (cut_mem q)
          have two : ∀ l h l' h', okD (N + 1 + 2) (2 * L + 1) (.tup (cut xs l h ++ cut xs l' h')) = true := fun l h l' h' => by
            refine okD_tup.mpr ⟨?_, ?_⟩
            · rw [List.length_append]
              have := cl l h
              have := cl l' h'
              omega
            · intro x q
              rcases List.mem_append.mp q with q | q
              · exact cm _ _ x q
              · exact cm _ _ x q
          have f2 : ∀ l h l' h', fit ((cut xs l h).length + (cut xs l' h').length) = true := fun l h l' h' => fit_of (by
            have := cl l h
            have := cl l' h'
            omega)
          have f3 : ∀ l h, fit ((cut xs l h).length + 1) = true := fun l h => fit_of (by
            have := cl l h
            omega)
          have f4 : ∀ l h l' h', fit ((cut xs l h).length + 1 + (cut xs l' h').length) = true := fun l h l' h' => fit_of (by
            have := cl l h
            have := cl l' h'
            omega)
          by_cases w0' : w = 0
          · simp [w0', partO, slcD, f2]
            exact ⟨two _ _ _ _, hc3⟩
          by_cases w1' : w = 1
          · simp [w1', partO, slcD, f2]
            exact ⟨two _ _ _ _, hc3⟩
          by_cases w2' : w = 2
          · simp [w2']
            exact ⟨okD_lst.mpr ⟨by omega, up⟩, hc3⟩
          by_cases w3' : w = 3
          · simp [w3', revD]
            exact ⟨okD_tup.mpr ⟨by rw [List.length_reverse]; omega, fun x q => up x (List.mem_reverse.mp q)⟩, hc3⟩
          · obtain ⟨x, ex, hxm⟩ := atI_mem (xs := xs) a0 a1
            simp [w0', w1', w2', w3', partO, slcD, subD, seqOf, ex]
            refine (ih (k + 2) L x s3 rest hc3 (hx x hxm) (by omega) hL hL2 (by omega)).mono ?_
            rintro d s4 ⟨hd, hc4⟩
            simp [f3, f4]
            refine ⟨okD_tup.mpr ⟨?_, ?_⟩, hc4⟩
            · have := cl none (some at')
              have := cl (some (at' + 1)) none
              simp
              omega
            · intro y q
              simp only [List.mem_append, List.mem_cons] at q
              rcases q with q | q | q
              · exact cm _ _ y q
              · rw [q]
                exact okD_mono (Nat.le_refl _) hd (by omega)
              · exact cm _ _ y q
    · have hi : isiD v .tuple = some false := by
        cases v with
        | tup xs => exact absurd ⟨xs, rfl⟩ ht
        | _ => first
          | rfl
          | (cases hp; done)
      rw [call_eq h]
      by_cases hz : ∃ i, v = .int i
      · obtain ⟨i, rfl⟩ := hz
        have r12 : repOk 3 4 = true := by decide
        have := fin (bentL ++ (List.replicate 4 [D.int (i + 1), .int (i - 1), .int (-i)]).flatten) s hc (by simp [bentL]) (by simp [bentL]) (by
          intro x q
          rcases List.mem_append.mp q with q | q
          · exact bentL_ok x q
          · simp [List.replicate] at q
            rcases q with q | q | q | q | q | q | q | q | q | q | q | q <;> (rw [q]; rfl))
        simp only [bentL] at this
        simp [q_l_bent, isiD, es, sortV, binD, catD, isL, r12, f28]
        simpa using this
      · have hz2 : ¬ sortV v = 2 := by
          cases v with
          | int i => exact absurd ⟨i, rfl⟩ hz
          | _ => simp [sortV]
        have := fin1 s hc
        simp only [bentL] at this
        simp [q_l_bent, hi, es, hz2, f16]
        simpa using this
end Px
end

section
set_option Elab.async false
set_option linter.all false
set_option maxRecDepth 100000
set_option maxHeartbeats 4000000
set_option exponentiation.threshold 10000
namespace Px
open PySem (Str PyData)
/-- a list of data, none deep, none wide -/
def LsOk (N L : Nat) (d : D) : Prop := ∃ xs, d = .lst xs ∧ xs.length ≤ 1000 ∧ ∀ x ∈ xs, okD N L x = true
def NearAt (G : Tab) (n : Nat) : Prop := ∀ (k m : Nat) (a b c d : Int) (s rest : Sto), Cup s rest → SwOk m a b c d → m ≤ great → Wp (call G (k + 8) n [.cel 0, sw a b c d] s) fun x s' => LsOk 4 9 x ∧ Cup s' rest
theorem okS_int (n L : Nat) (i : Int) : okD (n + 1) L (.int i) = true := rfl
theorem okS_non (n L : Nat) : okD (n + 1) L .non = true := rfl
theorem okS_bl (n L : Nat) (b : Bool) : okD (n + 1) L (.bl b) = true := rfl
theorem okS_str (n L : Nat) (x : Str) : okD (n + 1) L (.str x) = PyData.strOk x := rfl
theorem okS_tup (n L : Nat) (xs : List D) : okD (n + 1) L (.tup xs) = (decide (xs.length ≤ L) && xs.all (okD n L)) := rfl
theorem okS_lst (n L : Nat) (xs : List D) : okD (n + 1) L (.lst xs) = (decide (xs.length ≤ L) && xs.all (okD n L)) := rfl
theorem str1 : PyData.strOk "1" = true := by decide +kernel
theorem compL_map {f : D → Sto → R (Option D)} (g : D → D) {s : Sto} {xs : List D} (h : ∀ x ∈ xs, f x s = .ok (some (g x)) s) : compL f xs [] s = .ok (xs.map g) s := by
  rw [wp_compL (g := fun x => some (g x)) h]
  simp
def negI : D → D
  | .int i => .int (-i)
  | d => d
def dblI : D → D
  | .int i => .int (2 * i)
  | d => d
/-- a part put at a place of four -/
def putI (a b c d : Int) : Nat → D → D
  | 0, o => .tup [o, .int b, .int c, .int d]
  | 1, o => .tup [.int a, o, .int c, .int d]
  | 2, o => .tup [.int a, .int b, o, .int d]
  | _, o => .tup [.int a, .int b, .int c, o]
theorem near_at {G : Tab} {n ro be : Nat} (h : G n = some (q_l_near ro be)) (hr : RollAt G ro) (hb : BentAt G be) : NearAt G n := by
  intro k m a b c d s rest hc x hm
  obtain ⟨i1, i2, i3, i4⟩ := x.bds hm
  have i0 : Bd 2 2 := ⟨by decide⟩
  have f4 : fit 4 = true := by decide
  have f5 : fit 5 = true := by decide
  have f8 : fit 8 = true := by decide
  have f19 : fit 19 = true := by decide
  have f20 : fit 20 = true := by decide
  have f1 : fit 1 = true := by decide
  have f2 : fit 2 = true := by decide
  have f3 : fit 3 = true := by decide
  have p61 : powOk 10 61 = true := by decide
  rw [call_eq h]
  simp [q_l_near]
  refine (hr (k + 6) 4 s rest hc (by decide) (by decide)).mono ?_
  rintro _ s1 ⟨v, rfl, v0, v1, hc1⟩
  have hbt := hb 2 (k + 7) 4 (sw a b c d) s1 rest hc1 rfl (by decide) (by decide) (by decide) (by omega)
  obtain ⟨j, rfl, hj⟩ : ∃ j : Nat, v = j ∧ j < 4 := ⟨v.toNat, by omega, by omega⟩
  simp only [sw] at hbt
  have st := str1
  simp [biD, seqOf, revD, slcD, partO, cut, sIx, f5, f4, f8, p61]
  rw [compL_map negI (by
    intro x hx
    simp only [List.mem_cons, List.not_mem_nil, or_false] at hx
    rcases hx with rfl | rfl | rfl | rfl <;> simp [itemZ_eq, wipe, negI])]
  simp [lsR]
  rw [compL_map dblI (by
    intro x hx
    simp only [List.mem_cons, List.not_mem_nil, or_false] at hx
    rcases hx with rfl | rfl | rfl | rfl <;> simp [itemZ_eq, wipe, dblI, mul_ok])]
  simp [negI, dblI]
  have pick : ∃ e, atI [D.int a, .int b, .int c, .int d] (j : Int) = some (.int e) := by
    rcases j with _ | _ | _ | _ | j
    · exact ⟨a, rfl⟩
    · exact ⟨b, rfl⟩
    · exact ⟨c, rfl⟩
    · exact ⟨d, rfl⟩
    · omega
  obtain ⟨e, he⟩ := pick
  simp [subD, seqOf, he]
  rw [compL_map (putI a b c d j) (by
    intro x hx
    rcases j with _ | _ | _ | _ | j
    · simp [itemZ_eq, wipe, putI, slcD, partO, cut, sIx, f1, f2, f3, f4]
    · simp [itemZ_eq, wipe, putI, slcD, partO, cut, sIx, f1, f2, f3, f4]
    · simp [itemZ_eq, wipe, putI, slcD, partO, cut, sIx, f1, f2, f3, f4]
    · simp [itemZ_eq, wipe, putI, slcD, partO, cut, sIx, f1, f2, f3, f4]
    · omega)]
  have pk : ∀ o : D, okD 3 9 o = true → okD 4 9 (putI a b c d j o) = true := by
    intro o ho
    rcases j with _ | _ | _ | _ | j
    · simp [putI, okS_int, okS_tup, ho]
    · simp [putI, okS_int, okS_tup, ho]
    · simp [putI, okS_int, okS_tup, ho]
    · simp [putI, okS_int, okS_tup, ho]
    · omega
  simp [f19]
  refine hbt.mono ?_
  rintro y s2 ⟨hy, hc2⟩
  simp [f20]
  refine ⟨⟨_, rfl, by simp, List.all_eq_true.mp ?_⟩, hc2⟩
  simp [okS_int, okS_non, okS_bl, okS_str, okS_tup, okS_lst, st, hy, pk]
  exact ⟨pk _ rfl, pk _ rfl, pk _ rfl, pk _ rfl, pk _ rfl, pk _ rfl, pk _ rfl⟩
end Px
end

section
set_option Elab.async false
set_option linter.all false
set_option maxRecDepth 100000
set_option maxHeartbeats 2000000
set_option exponentiation.threshold 10000
/-! k36: the defs that are known; swings that agree, in plain integers. -/
namespace Lw
open PySem Px
abbrev G : Tab := tabOf rs
theorem hWhole : WholeAt G 0 := whole_at rfl
theorem hTup : TupofAt G 2 := tupof_at rfl
theorem hMeas : MeasAt G 3 := meas_at rfl
theorem hTrace : TraceAt G 4 := trace_at rfl
theorem hShort : ShortAt G 5 := short_at rfl
theorem hFits : FitsAt G 6 := fits_at (tu := 2) (wh := 0) (me := 3) (sh := 5) rfl hTup hWhole hMeas hShort
theorem hNeed : NeedAt G 7 := need_at (fi := 6) (xc := 2) rfl hFits
theorem hRaw : RawAt G 9 := raw_at rfl
theorem hProd : ProdAt G 10 := prod_at (sh := 5) (ra := 9) rfl hShort hRaw
theorem hCup : CupAt G 21 := cup_at rfl
theorem hRoll : RollAt G 22 := roll_at rfl
theorem hSome : SomeAt G 23 := some_at (roll := 22) rfl hRoll
theorem hSort : SortAt G 24 := sort_at rfl
theorem hLike : LikeAt G 25 := like_at (so := 24) rfl hSort
theorem hNum : NumAt G 26 := num_at (so := 24) rfl hSort
theorem hGcd : GcdAt G 27 := gcd_at rfl
theorem hShortL : ShortAt G 28 := shortC_at (gcd := 27) rfl hGcd
theorem hRawL : RawAt G 29 := lraw_at rfl
theorem hProdL : ProdAt G 30 := prod_at (sh := 28) (ra := 29) rfl hShortL hRawL
theorem hBackL : BackAt G 31 := lback_at (sh := 28) rfl hShortL
theorem hMeasL : MeasAt G 32 := meas_at rfl
theorem hIsw : FitsAt G 33 := isw_at (nu := 26) (me := 32) (sh := 28) rfl hNum hMeasL hShortL
theorem hSwing : SwingAt G 34 := swing_at (ro := 22) (so := 23) (sh := 28) rfl hRoll hSome hShortL
theorem hMoved : MovedAt G 35 := moved_at (sg := 34) (pr := 30) (un := 31) rfl hSwing hProdL hBackL
theorem hHome : DrawAt G 36 := home_at (mo := 35) (so := 23) rfl hMoved hSome
theorem hAny : AnyAt G 37 := any_at (ro := 22) (ho := 36) (mo := 35) (sh := 28) (so := 23) (sg := 34) rfl hRoll hHome hMoved hShortL hSome hSwing

/-! ### agreeing -/
def agB (a b c d p q r t : Int) : Bool := decide (prodL a b c d p q r t = prodL p q r t a b c d)
theorem agB_comm (a b c d p q r t : Int) : agB p q r t a b c d = agB a b c d p q r t := by
  unfold agB
  exact decide_eq_decide.mpr ⟨Eq.symm, Eq.symm⟩
/-- not folded over, a factor: the integers of one times it are those of the other -/
theorem same_of {a b c d p q r t j : Int} {m : Nat} (x : SwOk m a b c d) (hj : j ≠ 0) (hn : p * t - q * r ≠ 0) (e1 : j * a = p) (e2 : j * b = q) (e3 : j * c = r) (e4 : j * d = t) : shortL [p, q, r, t] = [a, b, c, d] := by
  rw [← x.id]
  exact sw_par (u := 1) (v := j) (by decide) hj hn x.ne (by rw [e1, Int.one_mul]) (by rw [e2, Int.one_mul]) (by rw [e3, Int.one_mul]) (by rw [e4, Int.one_mul])
theorem ag_of {a b c d p q r t u v : Int} {m l : Nat} (x : SwOk m a b c d) (y : SwOk l p q r t) (hu : u ≠ 0) (hv : v ≠ 0) (e1 : u * (p * a + q * c) = v * (a * p + b * r)) (e2 : u * (p * b + q * d) = v * (a * q + b * t)) (e3 : u * (r * a + t * c) = v * (c * p + d * r)) (e4 : u * (r * b + t * d) = v * (c * q + d * t)) :
    agB a b c d p q r t = true := by
  unfold agB
  rw [decide_eq_true_eq]
  exact sw_par hu hv (raw_ne x.ne y.ne) (raw_ne y.ne x.ne) e1 e2 e3 e4
theorem sq_diff (k j D : Int) : (k - j) * (k + j) * D = k * k * D - j * j * D := by grind
/-- two that agree: put together both ways they are the same, or opposite -/
theorem ag_two {a b c d p q r t : Int} {m l : Nat} (x : SwOk m a b c d) (y : SwOk l p q r t) (h : agB a b c d p q r t = true) :
    (p * a + q * c = a * p + b * r ∧ p * b + q * d = a * q + b * t ∧ r * a + t * c = c * p + d * r ∧ r * b + t * d = c * q + d * t) ∨
    (p * a + q * c = -(a * p + b * r) ∧ p * b + q * d = -(a * q + b * t) ∧ r * a + t * c = -(c * p + d * r) ∧ r * b + t * d = -(c * q + d * t)) := by
  unfold agB at h
  rw [decide_eq_true_eq] at h
  obtain ⟨A, B, C, E, k, e, o, k0, k1, k2, k3, k4⟩ := prod_ok x y
  obtain ⟨A', B', C', E', j, e', o', j0, j1, j2, j3, j4⟩ := prod_ok y x
  rw [e, e'] at h
  simp only [List.cons.injEq, and_true] at h
  obtain ⟨rfl, rfl, rfl, rfl⟩ := h
  have dk : k * k * (A * E - B * C) = (a * d - b * c) * (p * t - q * r) := by
    have : (p * a + q * c) * (r * b + t * d) - (p * b + q * d) * (r * a + t * c) = (a * d - b * c) * (p * t - q * r) := by grind
    rw [← this, k1, k2, k3, k4]
    grind
  have dj : j * j * (A * E - B * C) = (a * d - b * c) * (p * t - q * r) := by
    have : (a * p + b * r) * (c * q + d * t) - (a * q + b * t) * (c * p + d * r) = (a * d - b * c) * (p * t - q * r) := by grind
    rw [← this, j1, j2, j3, j4]
    grind
  have q0 : (k - j) * (k + j) = 0 := by
    have : ((k - j) * (k + j)) * (A * E - B * C) = 0 := by rw [sq_diff, dk, dj, Int.sub_self]
    rcases Int.mul_eq_zero.mp this with z | z
    · exact z
    · exact absurd z o.ne
  rw [k1, k2, k3, k4, j1, j2, j3, j4]
  rcases Int.mul_eq_zero.mp q0 with z | z
  · have : k = j := by omega
    subst this
    exact .inl ⟨rfl, rfl, rfl, rfl⟩
  · have : k = -j := by omega
    subst this
    exact .inr ⟨Int.neg_mul _ _, Int.neg_mul _ _, Int.neg_mul _ _, Int.neg_mul _ _⟩
/-- opposite ones: both are involutions -/
theorem opp_trace {a b c d p q r t : Int} (hn : a * d - b * c ≠ 0) (e1 : p * a + q * c = -(a * p + b * r)) (e2 : p * b + q * d = -(a * q + b * t)) (e3 : r * a + t * c = -(c * p + d * r)) (e4 : r * b + t * d = -(c * q + d * t)) : p + t = 0 := by
  have : (a * d - b * c) * (2 * (p + t)) = d * (p * a + q * c + (a * p + b * r)) - c * (p * b + q * d + (a * q + b * t)) - b * (r * a + t * c + (c * p + d * r)) + a * (r * b + t * d + (c * q + d * t)) := by grind
  rw [e1, e2, e3, e4] at this
  have z : (a * d - b * c) * (2 * (p + t)) = 0 := by
    rw [this]
    grind
  rcases Int.mul_eq_zero.mp z with z | z
  · exact absurd z hn
  · omega
end Lw
end

section
set_option Elab.async false
set_option linter.all false
set_option maxRecDepth 100000
set_option maxHeartbeats 4000000
set_option exponentiation.threshold 10000
/-! k36: the half of a swing. -/
namespace Px
theorem compM_filter {f : D → Sto → R (Option D)} {h : D → Option D} {g : Sto → Option (List D)} {xs : List D} {s : Sto} (hg : g s = some xs) (hf : ∀ x ∈ xs, f x s = .ok (h x) s) : ∀ (m i : Nat) (acc : List D), i + m = xs.length → compM f g m i acc s = .ok (acc ++ (xs.drop i).filterMap h) s
  | 0, i, acc, e => by
    show (match g s with
      | some xs => if xs.length ≤ i then R.ok acc s else .bad
      | none => .bad) = _
    rw [hg]
    have : xs.drop i = [] := List.drop_eq_nil_of_le (by omega)
    rw [this]
    simp
    omega
  | m + 1, i, acc, e => by
    have hi : i < xs.length := by omega
    have e1 : compM f g (m + 1) i acc s = (f xs[i] s).calm fun o s' => match o with
      | some y => compM f g m (i + 1) (acc ++ [y]) s'
      | none => compM f g m (i + 1) acc s' := by
      show (match g s with
        | some xs => match xs[i]? with
          | some x => (f x s).calm fun o s' => match o with
            | some y => compM f g m (i + 1) (acc ++ [y]) s'
            | none => compM f g m (i + 1) acc s'
          | none => .bad
        | none => .bad) = _
      rw [hg]
      show (match xs[i]? with
        | some x => (f x s).calm fun o s' => match o with
          | some y => compM f g m (i + 1) (acc ++ [y]) s'
          | none => compM f g m (i + 1) acc s'
        | none => .bad) = _
      rw [List.getElem?_eq_getElem hi]
    rw [e1, hf _ (List.getElem_mem hi), List.drop_eq_getElem_cons hi]
    show (match h xs[i] with
      | some y => compM f g m (i + 1) (acc ++ [y]) s
      | none => compM f g m (i + 1) acc s) = _
    cases e2 : h xs[i] with
    | none =>
      rw [List.filterMap_cons, e2]
      exact compM_filter hg hf m (i + 1) acc (by omega)
    | some y =>
      rw [List.filterMap_cons, e2]
      show compM f g m (i + 1) (acc ++ [y]) s = _
      rw [compM_filter hg hf m (i + 1) (acc ++ [y]) (by omega), List.append_assoc]
      rfl
/-- a comprehension over a list of the store that leaves the store -/
theorem compZ_cel {f : D → Sto → R (Option D)} {h : D → Option D} {i : Nat} {xs : List D} {s : Sto} (hi : s[i]? = some xs) (hl : fit xs.length = true) (hf : ∀ x ∈ xs, f x s = .ok (h x) s) : compZ f false (.cel i) s = .ok (.lst (xs.filterMap h)) s := by
  have e := compM_filter (g := fun S : Sto => S[i]?) hi hf xs.length 0 [] (by omega)
  show (match s[i]? with
    | some xs => if fit xs.length = true then (compM f (fun S : Sto => S[i]?) xs.length 0 [] s).bind fun ys s => allocL false ys s else .bad
    | none => .bad) = _
  rw [hi]
  show (if fit xs.length = true then (compM f (fun S : Sto => S[i]?) xs.length 0 [] s).bind fun ys s => allocL false ys s else .bad) = _
  rw [if_pos hl, e]
  simp
theorem last_cel (s : Sto) (xs : List D) : (s ++ [xs])[s.length]? = some xs := by simp
theorem wp_out {r : R D} {a : D} {s : Sto} (h : Wp r fun d s' => d = a ∧ ∃ w, s' = s ++ w) : ∃ w, r = .ok a (s ++ w) := by
  cases r with
  | ok d s' =>
    obtain ⟨rfl, w, rfl⟩ := h
    exact ⟨w, rfl⟩
  | exc c s' => exact h.elim
  | bad => exact h.elim
theorem sub_cel0 (s : Sto) (a : D) (xs : List D) : subD (.cel s.length) (.int 0) (s ++ [a :: xs]) = .ok a (s ++ [a :: xs]) := by
  have e : atI (a :: xs) 0 = some a := by
    unfold atI ixN
    rw [if_pos (by decide), if_pos (by simp [List.length_cons])]
    rfl
  simp [subD, seqOf, e]
theorem sub_cel1 (s : Sto) (a b : D) (xs : List D) : subD (.cel s.length) (.int 1) (s ++ [a :: b :: xs]) = .ok b (s ++ [a :: b :: xs]) := by
  have e : atI (a :: b :: xs) 1 = some b := by
    unfold atI ixN
    rw [if_pos (by decide), if_pos (by simp [List.length_cons] <;> omega)]
    rfl
  simp [subD, seqOf, e]
theorem set_last (s : Sto) (xs ys : List D) : (s ++ [xs]).set s.length ys = s ++ [ys] := by simp
end Px
namespace Lw
open PySem Px
/-- a kept one: its measure is not 0 -/
def keepI : D → Option D
  | .tup [.int a, .int b, .int c, .int d] => if a * d - b * c = 0 then none else some (sw a b c d)
  | _ => none
/-- the two first candidates -/
def cand (A B C E : Int) : (Int × Int × Int × Int) × (Int × Int × Int × Int) := if A = E then ((1, 0, 0, -1), (0, B, -C, 0)) else ((C, E - A, 0, -C), (B, 0, E - A, -B))
section
variable {A B C E : Int}
/-- the kept ones, the first of them -/
theorem half_pick {m : Nat} (hs : SwOk m A B C E) (hm : 1 ≤ m) : ∃ x y z, -x * x - y * z ≠ 0 ∧ x * (A - E) + y * C + z * B = 0 ∧ x.natAbs ≤ 2 * m ∧ y.natAbs ≤ 2 * m ∧ z.natAbs ≤ 2 * m ∧
    ∃ l, ([sw (cand A B C E).1.1 (cand A B C E).1.2.1 (cand A B C E).1.2.2.1 (cand A B C E).1.2.2.2, sw (cand A B C E).2.1 (cand A B C E).2.2.1 (cand A B C E).2.2.2.1 (cand A B C E).2.2.2.2,
      sw ((cand A B C E).1.1 + (cand A B C E).2.1) ((cand A B C E).1.2.1 + (cand A B C E).2.2.1) ((cand A B C E).1.2.2.1 + (cand A B C E).2.2.2.1) ((cand A B C E).1.2.2.2 + (cand A B C E).2.2.2.2)]).filterMap keepI = sw x y z (-x) :: l := by
  have ba := hs.a; have bb := hs.b; have bc := hs.c; have bd := hs.d
  unfold cand
  by_cases h : A = E
  · rw [if_pos h]
    refine ⟨1, 0, 0, by decide, by omega, by omega, by omega, by omega, ?_⟩
    simp [keepI]
  · rw [if_neg h]
    by_cases hc : C = 0
    · by_cases hb : B = 0
      · have ne : ¬ (E - A) * (E - A) = 0 := by
          have : E - A ≠ 0 := by omega
          exact Int.mul_ne_zero this this
        refine ⟨0, E - A, E - A, by omega, by simp [hb, hc], by omega, by omega, by omega, ?_⟩
        subst hc hb
        simp [keepI]
        have e : keepI (sw 0 (E - A) (E - A) 0) = some (sw 0 (E - A) (E - A) 0) := if_neg (by
          intro q
          apply ne
          omega)
        exact ⟨[], by rw [List.filterMap_cons_some e]; rfl⟩
      · have ne : ¬ B * -B = 0 := Int.mul_ne_zero hb (by omega)
        refine ⟨B, 0, E - A, ?_, ?_, by omega, by omega, by omega, ?_⟩
        · have := Int.mul_ne_zero hb hb
          grind
        · grind
        · subst hc
          simp [keepI, ne]
    · have ne : ¬ C * -C = 0 := Int.mul_ne_zero hc (by omega)
      refine ⟨C, E - A, 0, ?_, ?_, by omega, by omega, by omega, ?_⟩
      · have := Int.mul_ne_zero hc hc
        grind
      · grind
      · simp [keepI, ne]
theorem half_of_spec {m : Nat} (h0 : SwOk m A B C E) (hm1 : 1 ≤ m) (hm : m ≤ 10000) : ∃ x y z, SwOk (2 * m) x y z (-x) ∧ x * (A - E) + y * C + z * B = 0 ∧ ∀ (k : Nat) (s : Sto), ∃ w, call G (k + 3) 11 [sw A B C E] s = .ok (sw x y z (-x)) (s ++ w) := by
  obtain ⟨x, y, z, hn, hr, bx, by', bz, l, el⟩ := half_pick h0 hm1
  have hs := h0.up hm
  have hn' : x * -x - y * z ≠ 0 := by
    intro q
    apply hn
    grind
  obtain ⟨x', y', z', d', j, eS, ok, j0, j1, j2, j3, j4⟩ := sw_short hn' bx by' bz (show (-x).natAbs ≤ 2 * m by rw [Int.natAbs_neg]; exact bx)
  have ed : d' = -x' := by
    have : j * (d' + x') = 0 := by rw [Int.mul_add, ← j4, ← j1, Int.add_left_neg]
    rcases Int.mul_eq_zero.mp this with q | q
    · exact absurd q j0
    · omega
  subst ed
  refine ⟨x', y', z', ok, ?_, ?_⟩
  · have : j * (x' * (A - E) + y' * C + z' * B) = 0 := by
      rw [j1, j2, j3] at hr
      grind
    rcases Int.mul_eq_zero.mp this with q | q
    · exact absurd q j0
    · exact q
  · intro k s
    obtain ⟨i1, i2, i3, i4⟩ := hs.bds (le_great (by decide))
    have m0 : Bd 1 0 := ⟨by decide⟩
    have m1 : Bd 1 1 := ⟨by decide⟩
    have mm : Bd 1 (-1) := ⟨by decide⟩
    have f3 : fit 3 = true := by decide
    have f4 : fit 4 = true := by decide
    obtain ⟨p, q, r, t, p', q', r', t', ec⟩ : ∃ p q r t p' q' r' t', cand A B C E = ((p, q, r, t), (p', q', r', t')) := ⟨_, _, _, _, _, _, _, _, rfl⟩
    rw [ec] at el
    simp only at el
    have l1 : p.natAbs ≤ 40000 ∧ q.natAbs ≤ 40000 ∧ r.natAbs ≤ 40000 ∧ t.natAbs ≤ 40000 ∧ p'.natAbs ≤ 40000 ∧ q'.natAbs ≤ 40000 ∧ r'.natAbs ≤ 40000 ∧ t'.natAbs ≤ 40000 := by
      have ha := hs.a; have hb := hs.b; have hc := hs.c; have hd := hs.d
      have dif : ∀ {x y : Int}, x.natAbs ≤ 10000 → y.natAbs ≤ 10000 → (x - y).natAbs ≤ 40000 := fun _ _ => by omega
      have ng : ∀ {x : Int}, x.natAbs ≤ 10000 → (-x).natAbs ≤ 40000 := fun _ => by omega
      have up : ∀ {x : Int}, x.natAbs ≤ 10000 → x.natAbs ≤ 40000 := fun _ => by omega
      unfold cand at ec
      by_cases h : A = E
      · rw [if_pos h] at ec
        simp only [Prod.mk.injEq] at ec
        obtain ⟨⟨rfl, rfl, rfl, rfl⟩, rfl, rfl, rfl, rfl⟩ := ec
        exact ⟨by decide, by decide, by decide, by decide, by decide, up hb, ng hc, by decide⟩
      · rw [if_neg h] at ec
        simp only [Prod.mk.injEq] at ec
        obtain ⟨⟨rfl, rfl, rfl, rfl⟩, rfl, rfl, rfl, rfl⟩ := ec
        exact ⟨up hc, dif hd ha, by decide, ng hc, up hb, by decide, dif hd ha, ng hb⟩
    have bds : Bd 600 p ∧ Bd 600 q ∧ Bd 600 r ∧ Bd 600 t ∧ Bd 600 p' ∧ Bd 600 q' ∧ Bd 600 r' ∧ Bd 600 t' := by
      have up : ∀ {x : Int}, x.natAbs ≤ 40000 → Bd 600 x := fun h => (bd_le (n := 20) h (by decide)).up (by decide)
      exact ⟨up l1.1, up l1.2.1, up l1.2.2.1, up l1.2.2.2.1, up l1.2.2.2.2.1, up l1.2.2.2.2.2.1, up l1.2.2.2.2.2.2.1, up l1.2.2.2.2.2.2.2⟩
    have hm := fun (a b c d : Int) (S : Sto) (ha : Bd 900 a) (hb : Bd 900 b) (hc : Bd 900 c) (hd : Bd 900 d) => hMeas (k + 1) S a b c d ha hb hc hd
    obtain ⟨b1, b2, b3, b4, b5, b6, b7, b8⟩ := bds
    have s900 : ∀ {x y : Int}, x.natAbs ≤ 40000 → y.natAbs ≤ 40000 → Bd 900 (x + y) := fun hx hy => (bd_le (n := 20) (m := 80000) (by omega) (by decide)).up (by decide)
    have b15 : Bd 900 (p + p') := s900 l1.1 l1.2.2.2.2.1
    have b26 : Bd 900 (q + q') := s900 l1.2.1 l1.2.2.2.2.2.1
    have b37 : Bd 900 (r + r') := s900 l1.2.2.1 l1.2.2.2.2.2.2.1
    have b48 : Bd 900 (t + t') := s900 l1.2.2.2.1 l1.2.2.2.2.2.2.2
    have cz := compZ_cel (f := itemZ (den (.cmp .ne (.call 3 (.cons (.var 8) .nil)) (.c (.int 0))) ⟨call G (k + 2), low G (k + 2)⟩) (den (.var 8) ⟨call G (k + 2), low G (k + 2)⟩) [8] (.name 8) [some (sw A B C E), some (.int A), some (.int B), some (.int C), some (.int E), some (.cel s.length), none, none, none])
      (h := keepI) (last_cel s [sw p q r t, sw p' q' r' t', sw (p + p') (q + q') (r + r') (t + t')]) rfl (by
        intro u hu
        have one : ∀ a b c d : Int, Bd 900 a → Bd 900 b → Bd 900 c → Bd 900 d → itemZ (den (.cmp .ne (.call 3 (.cons (.var 8) .nil)) (.c (.int 0))) ⟨call G (k + 2), low G (k + 2)⟩) (den (.var 8) ⟨call G (k + 2), low G (k + 2)⟩) [8] (.name 8) [some (sw A B C E), some (.int A), some (.int B), some (.int C), some (.int E), some (.cel s.length), none, none, none] (sw a b c d) (s ++ [[sw p q r t, sw p' q' r' t', sw (p + p') (q + q') (r + r') (t + t')]]) = .ok (keepI (sw a b c d)) (s ++ [[sw p q r t, sw p' q' r' t', sw (p + p') (q + q') (r + r') (t + t')]]) := by
          intro a b c d ha hb hc hd
          have e := hm a b c d (s ++ [[sw p q r t, sw p' q' r' t', sw (p + p') (q + q') (r + r') (t + t')]]) ha hb hc hd
          simp only [sw] at e
          by_cases z : a * d - b * c = 0 <;> simp [itemZ_eq, wipe, e, keepI, z]
        simp only [List.mem_cons, List.not_mem_nil, or_false] at hu
        rcases hu with rfl | rfl | rfl
        · exact one _ _ _ _ (b1.up (by decide)) (b2.up (by decide)) (b3.up (by decide)) (b4.up (by decide))
        · exact one _ _ _ _ (b5.up (by decide)) (b6.up (by decide)) (b7.up (by decide)) (b8.up (by decide))
        · exact one _ _ _ _ (b15 ) (b26) (b37) (b48))
    rw [el] at cz
    have bx : x.natAbs ≤ 20000 := by omega
    have by' : y.natAbs ≤ 20000 := by omega
    have bz : z.natAbs ≤ 20000 := by omega
    have q := fun S => short4 hShort k S (m := 251) (by decide) hn' (bd_le bx (by decide)) (bd_le by' (by decide)) (bd_le bz (by decide)) (bd_le (show (-x).natAbs ≤ 20000 by rw [Int.natAbs_neg]; exact bx) (by decide))
    rw [eS] at q
    simp only [iL, List.map_cons, List.map_nil, sw] at q cz
    refine wp_out ?_
    rw [call_eq (g := g_half_of) rfl]
    unfold cand at ec
    by_cases h : A = E
    · rw [if_pos h] at ec
      simp only [Prod.mk.injEq] at ec
      obtain ⟨⟨rfl, rfl, rfl, rfl⟩, rfl, rfl, rfl, rfl⟩ := ec
      subst h
      simp at cz
      simp [g_half_of, b_half_of, seqOf, sub_cel0, sub_cel1, zipD, zipL, f4, compL, itemZ_eq, wipe, biD, lsR, meD, meL, cz, q, endF]
    · rw [if_neg h] at ec
      simp only [Prod.mk.injEq] at ec
      obtain ⟨⟨rfl, rfl, rfl, rfl⟩, rfl, rfl, rfl, rfl⟩ := ec
      simp at cz
      simp [g_half_of, b_half_of, h, seqOf, sub_cel0, sub_cel1, zipD, zipL, f4, compL, itemZ_eq, wipe, biD, lsR, meD, meL, cz, q, endF]
end
end Lw
end

section
set_option Elab.async false
set_option linter.all false
set_option maxRecDepth 100000
set_option maxHeartbeats 2000000
set_option exponentiation.threshold 10000
/-! k36: the numbers that make one swing of another, in plain integers. -/
namespace Lw
open PySem Px
/-- the two integers that are tried, none where the swing leaves both places and the other one does not -/
def numU (a b c d p q r t : Int) : Option (Int × Int) :=
  if b = 0 then (if c = 0 then (if q = 0 then (if r = 0 then some (p - t, t * a - p * d) else none) else none) else some (r, p * c - r * a)) else some (q, p * b - q * a)
def checkO (a b c d p q r t u v : Int) : Option (List Int) :=
  if u = 0 ∧ v = 0 then none else if (u * a + v) * (u * d + v) - u * b * (u * c) = 0 then none else
    if shortL [u * a + v, u * b, u * c, u * d + v] = [p, q, r, t] then some (shortL [u, v]) else none
def numO (a b c d p q r t : Int) : Option (List Int) := match numU a b c d p q r t with
  | some uv => checkO a b c d p q r t uv.1 uv.2
  | none => none
/-- not none's -/
def NotOne (a b c d : Int) : Prop := ¬ (a = 1 ∧ b = 0 ∧ c = 0 ∧ d = 1)
theorem scalar_one {m : Nat} {a d : Int} (x : SwOk m a 0 0 d) (h : a = d) : a = 1 ∧ d = 1 := by
  subst h
  have hn : a ≠ 0 := fun z => x.ne (by rw [z]; decide)
  have e : shortL [a, 0, 0, a] = [1, 0, 0, 1] := by
    rw [show [a, 0, 0, a] = ([1, 0, 0, 1] : List Int).map (a * ·) by simp]
    rw [short_scale hn ⟨1, by simp, by decide⟩]
    decide
  have i := x.id
  rw [e] at i
  simp only [List.cons.injEq, and_true] at i
  exact ⟨i.1.symm, i.1.symm⟩
/-- two that can be put together either way: a multiple of the other one is made of the swing -/
theorem com_num {m : Nat} {a b c d p q r t : Int} (x : SwOk m a b c d) (hx : NotOne a b c d) (e1 : q * c = b * r) (e2 : p * b + q * d = a * q + b * t) (e3 : r * a + t * c = c * p + d * r) :
    ∃ u v j, numU a b c d p q r t = some (u, v) ∧ j ≠ 0 ∧ u * a + v = j * p ∧ u * b = j * q ∧ u * c = j * r ∧ u * d + v = j * t := by
  by_cases hb : b = 0
  · subst hb
    by_cases hc : c = 0
    · subst hc
      have had : a - d ≠ 0 := fun z => hx (by
        obtain ⟨h1, h2⟩ := scalar_one x (by omega)
        exact ⟨h1, rfl, rfl, h2⟩)
      have q0 : q = 0 := by
        have : (a - d) * q = 0 := by rw [Int.mul_zero, Int.zero_mul] at e2; rw [Int.sub_mul]; have := Int.mul_comm q d; omega
        exact (Int.mul_eq_zero.mp this).resolve_left had
      have r0 : r = 0 := by
        have : (a - d) * r = 0 := by rw [Int.mul_zero, Int.zero_mul] at e3; rw [Int.sub_mul]; have := Int.mul_comm r a; omega
        exact (Int.mul_eq_zero.mp this).resolve_left had
      subst q0 r0
      exact ⟨_, _, a - d, rfl, had, by grind, by simp, by simp, by grind⟩
    · have q0 : q = 0 := by
        have : q * c = 0 := by rw [e1, Int.zero_mul]
        exact (Int.mul_eq_zero.mp this).resolve_right hc
      subst q0
      exact ⟨r, p * c - r * a, c, by simp [numU, hc], hc, by grind, by simp, by grind, by grind⟩
  · exact ⟨q, p * b - q * a, b, by simp [numU, hb], hb, by grind, by grind, by grind, by grind⟩
theorem nz2 {u v : Int} (h : ¬ (u = 0 ∧ v = 0)) : ∃ z ∈ [u, v], z ≠ 0 := by
  by_cases hu : u = 0
  · exact ⟨v, by simp, fun z => h ⟨hu, z⟩⟩
  · exact ⟨u, by simp, hu⟩
/-- made of a swing: not folded, both not 0 -/
theorem num_found {m l : Nat} {a b c d p q r t u v j : Int} (y : SwOk l p q r t) (hj : j ≠ 0) (hu : numU a b c d p q r t = some (u, v)) (e1 : u * a + v = j * p) (e2 : u * b = j * q) (e3 : u * c = j * r) (e4 : u * d + v = j * t) :
    numO a b c d p q r t = some (shortL [u, v]) ∧ ¬ (u = 0 ∧ v = 0) := by
  have hn : (u * a + v) * (u * d + v) - u * b * (u * c) ≠ 0 := by
    rw [e1, e2, e3, e4, show j * p * (j * t) - j * q * (j * r) = j * j * (p * t - q * r) by grind]
    exact Int.mul_ne_zero (Int.mul_ne_zero hj hj) y.ne
  have h0 : ¬ (u = 0 ∧ v = 0) := fun z => hn (by rw [z.1, z.2]; simp)
  have hs : shortL [u * a + v, u * b, u * c, u * d + v] = [p, q, r, t] := same_of y hj hn e1.symm e2.symm e3.symm e4.symm
  refine ⟨?_, h0⟩
  unfold numO
  rw [hu]
  show checkO a b c d p q r t u v = _
  unfold checkO
  rw [if_neg h0, if_neg hn, if_pos hs]
/-- what is found makes the other one -/
theorem num_fit {a b c d p q r t : Int} {L : List Int} (h : numO a b c d p q r t = some L) : ∃ u v : Int, ¬ (u = 0 ∧ v = 0) ∧ L = shortL [u, v] ∧ (u * a + v) * (u * d + v) - u * b * (u * c) ≠ 0 ∧ shortL [u * a + v, u * b, u * c, u * d + v] = [p, q, r, t] := by
  unfold numO at h
  cases e : numU a b c d p q r t with
  | none => rw [e] at h; cases h
  | some uv =>
    rw [e] at h
    obtain ⟨u, v⟩ := uv
    have h : checkO a b c d p q r t u v = some L := h
    unfold checkO at h
    split at h
    · cases h
    · rename_i h0
      split at h
      · cases h
      · rename_i h1
        split at h
        · rename_i h2
          exact ⟨u, v, h0, (Option.some.inj h).symm, h1, h2⟩
        · cases h
/-- made of a swing: they agree, and are not crossed -/
theorem made_ag {m l : Nat} {a b c d p q r t u v j : Int} (x : SwOk m a b c d) (y : SwOk l p q r t) (hj : j ≠ 0) (e1 : u * a + v = j * p) (e2 : u * b = j * q) (e3 : u * c = j * r) (e4 : u * d + v = j * t) :
    agB a b c d p q r t = true ∧ (a + d = 0 → p + t = 0 → [a, b, c, d] = [p, q, r, t]) := by
  have f1 : j * (p * a + q * c) = j * (a * p + b * r) := by grind
  have f2 : j * (p * b + q * d) = j * (a * q + b * t) := by grind
  have f3 : j * (r * a + t * c) = j * (c * p + d * r) := by grind
  have f4 : j * (r * b + t * d) = j * (c * q + d * t) := by grind
  refine ⟨ag_of x y hj hj f1 f2 f3 f4, fun h1 h2 => ?_⟩
  have v0 : v = 0 := by
    have : 2 * v = j * (p + t) - u * (a + d) := by grind
    rw [h1, h2] at this
    omega
  subst v0
  have hu : u ≠ 0 := fun z => by
    subst z
    have q1 : p = 0 := (Int.mul_eq_zero.mp (show j * p = 0 by omega)).resolve_left hj
    have q2 : q = 0 := (Int.mul_eq_zero.mp (show j * q = 0 by omega)).resolve_left hj
    exact y.ne (by rw [q1, q2]; simp)
  rw [← x.id, ← y.id]
  exact sw_par (u := u) (v := j) hu hj x.ne y.ne (by omega) e2 e3 (by omega)
/-- what agrees and is not crossed is made -/
theorem ag_num {m l : Nat} {a b c d p q r t : Int} (x : SwOk m a b c d) (y : SwOk l p q r t) (hx : NotOne a b c d) (h : agB a b c d p q r t = true) (hc : ¬ (a + d = 0 ∧ p + t = 0 ∧ ¬ [a, b, c, d] = [p, q, r, t])) :
    ∃ u v, numO a b c d p q r t = some (shortL [u, v]) ∧ ¬ (u = 0 ∧ v = 0) := by
  rcases ag_two x y h with ⟨f1, f2, f3, f4⟩ | ⟨f1, f2, f3, f4⟩
  · obtain ⟨u, v, j, e0, hj, e1, e2, e3, e4⟩ := com_num x hx (by have := Int.mul_comm p a; omega) f2 f3
    obtain ⟨g1, g2⟩ := num_found (m := m) y hj e0 e1 e2 e3 e4
    exact ⟨u, v, g1, g2⟩
  · exfalso
    have t2 := opp_trace x.ne f1 f2 f3 f4
    have t1 : a + d = 0 := opp_trace (a := p) (b := q) (c := r) (d := t) (p := a) (q := b) (r := c) (t := d) y.ne (by omega) (by omega) (by omega) (by omega)
    refine hc ⟨t1, t2, fun z => ?_⟩
    simp only [List.cons.injEq, and_true] at z
    obtain ⟨rfl, rfl, rfl, rfl⟩ := z
    have z1 : a * a + b * c = 0 := by omega
    have z2 : d = -a := by omega
    subst z2
    apply x.ne
    grind
/-- found just if they agree and are not crossed -/
theorem num_iff {m l : Nat} {a b c d p q r t : Int} (x : SwOk m a b c d) (y : SwOk l p q r t) (hx : NotOne a b c d) : (numO a b c d p q r t).isSome = (agB a b c d p q r t && !(decide (a + d = 0) && (decide (p + t = 0) && (!decide ([a, b, c, d] = [p, q, r, t]) && agB a b c d p q r t)))) := by
  by_cases h : agB a b c d p q r t = true ∧ ¬ (a + d = 0 ∧ p + t = 0 ∧ ¬ [a, b, c, d] = [p, q, r, t])
  · obtain ⟨u, v, e, _⟩ := ag_num x y hx h.1 h.2
    rw [e, h.1]
    symm
    simp only [Option.isSome_some, Bool.true_and, Bool.not_eq_true', Bool.and_true]
    simpa using h.2
  · cases e : numO a b c d p q r t with
    | none =>
      symm
      by_cases g : agB a b c d p q r t = true
      · rw [g]
        have : a + d = 0 ∧ p + t = 0 ∧ ¬ [a, b, c, d] = [p, q, r, t] := Classical.byContradiction fun z => h ⟨g, z⟩
        obtain ⟨z1, z2, z3⟩ := this
        rw [decide_eq_true z1, decide_eq_true z2, decide_eq_false z3]
        rfl
      · have g : agB a b c d p q r t = false := by simpa using g
        rw [g]
        rfl
    | some L =>
      exfalso
      obtain ⟨u, v, h0, _, hn, hs⟩ := num_fit e
      obtain ⟨A, B, C, E, j, eS, o, hj, e1, e2, e3, e4⟩ := sw_short (m := ((u * a + v).natAbs + (u * b).natAbs + (u * c).natAbs + (u * d + v).natAbs)) hn (by omega) (by omega) (by omega) (by omega)
      rw [eS] at hs
      simp only [List.cons.injEq, and_true] at hs
      obtain ⟨rfl, rfl, rfl, rfl⟩ := hs
      obtain ⟨g1, g2⟩ := made_ag x y hj e1 e2 e3 e4
      exact h ⟨g1, fun z => z.2.2 (g2 z.1 z.2.1)⟩
/-- of a made one the very numbers are found -/
theorem num_made {m l : Nat} {a b c d p q r t u v j : Int} (x : SwOk m a b c d) (y : SwOk l p q r t) (hx : NotOne a b c d) (hj : j ≠ 0) (h0 : ¬ (u = 0 ∧ v = 0)) (e1 : u * a + v = j * p) (e2 : u * b = j * q) (e3 : u * c = j * r) (e4 : u * d + v = j * t) :
    agB a b c d p q r t = true ∧ numO a b c d p q r t = some (shortL [u, v]) := by
  have ag := (made_ag x y hj e1 e2 e3 e4).1
  refine ⟨ag, ?_⟩
  have f1 : j * (q * c) = j * (b * r) := by grind
  have f2 : j * (p * b + q * d) = j * (a * q + b * t) := by grind
  have f3 : j * (r * a + t * c) = j * (c * p + d * r) := by grind
  have c1 := Int.eq_of_mul_eq_mul_left hj f1
  have c2 := Int.eq_of_mul_eq_mul_left hj f2
  have c3 := Int.eq_of_mul_eq_mul_left hj f3
  obtain ⟨u', v', i, n0, hi, g1, g2, g3, g4⟩ := com_num x hx c1 c2 c3
  obtain ⟨n1, n2⟩ := num_found (m := m) y hi n0 g1 g2 g3 g4
  rw [n1]
  refine congrArg some (short_par (nz2 n2) (nz2 h0) hj hi ?_)
  have w1 : (j * u' - i * u) * a + (j * v' - i * v) = 0 := by grind
  have w2 : (j * u' - i * u) * b = 0 := by grind
  have w3 : (j * u' - i * u) * c = 0 := by grind
  have w4 : (j * u' - i * u) * d + (j * v' - i * v) = 0 := by grind
  have hu : j * u' - i * u = 0 := by
    apply Classical.byContradiction
    intro z
    have b0 := (Int.mul_eq_zero.mp w2).resolve_left z
    have c0 := (Int.mul_eq_zero.mp w3).resolve_left z
    have ad : (j * u' - i * u) * (a - d) = 0 := by grind
    have ad := (Int.mul_eq_zero.mp ad).resolve_left z
    subst b0 c0
    obtain ⟨h1, h2⟩ := scalar_one x (by omega)
    exact hx ⟨h1, rfl, rfl, h2⟩
  rw [hu] at w1
  simp only [List.map_cons, List.map_nil, List.cons.injEq, and_true]
  constructor
  · omega
  · omega
end Lw
end

section
set_option Elab.async false
set_option linter.all false
set_option maxRecDepth 100000
set_option maxHeartbeats 4000000
set_option exponentiation.threshold 10000
/-! k36: the defs about swings that agree: what each gives. -/
namespace Lw
open PySem Px
def optD : Option (List Int) → D
  | none => .non
  | some L => .tup (iL L)
theorem sw14 {a b c d : Int} (x : SwOk 10000 a b c d) : Bd 14 a ∧ Bd 14 b ∧ Bd 14 c ∧ Bd 14 d :=
  ⟨bd_le x.a (by decide), bd_le x.b (by decide), bd_le x.c (by decide), bd_le x.d (by decide)⟩
def MadeAt (n : Nat) : Prop := ∀ (k : Nat) (s : Sto) (a b c d u v : Int), Bd 14 a → Bd 14 b → Bd 14 c → Bd 14 d → Bd 60 u → Bd 60 v → call G (k + 1) n [sw a b c d, .int u, .int v] s = .ok (sw (u * a + v) (u * b) (u * c) (u * d + v)) s
theorem hMade : MadeAt 13 := by
  intro k s a b c d u v _ _ _ _ _ _
  rw [call_eq (g := g_made_in) rfl]
  simp [g_made_in, b_made_in, sw, seqOf, mul_ok, endF]
theorem hMadeL : MadeAt 38 := by
  intro k s a b c d u v _ _ _ _ _ _
  rw [call_eq (g := g__law_made) rfl]
  simp [g__law_made, b__law_made, sw, seqOf, mul_ok, endF]
theorem made_bd {a b c d u v : Int} (h1 : Bd 14 a) (h2 : Bd 14 b) (h3 : Bd 14 c) (h4 : Bd 14 d) (h5 : Bd 60 u) (h6 : Bd 60 v) : Bd 140 (u * a + v) ∧ Bd 140 (u * b) ∧ Bd 140 (u * c) ∧ Bd 140 (u * d + v) :=
  ⟨(inferInstance : Bd _ (u * a + v)).up (by decide), (inferInstance : Bd _ (u * b)).up (by decide), (inferInstance : Bd _ (u * c)).up (by decide), (inferInstance : Bd _ (u * d + v)).up (by decide)⟩
theorem checked_spec (k : Nat) (s : Sto) {a b c d p q r t u v : Int} (x : SwOk 10000 a b c d) (hu : Bd 60 u) (hv : Bd 60 v) : call G (k + 3) 15 [sw a b c d, sw p q r t, .int u, .int v] s = .ok (optD (checkO a b c d p q r t u v)) s := by
  obtain ⟨i1, i2, i3, i4⟩ := sw14 x
  obtain ⟨j1, j2, j3, j4⟩ := made_bd i1 i2 i3 i4 hu hv
  have e1 := hMade (k + 1) s a b c d u v i1 i2 i3 i4 hu hv
  have e2 := hMeas (k + 1) s (u * a + v) (u * b) (u * c) (u * d + v) (j1.up (by decide)) (j2.up (by decide)) (j3.up (by decide)) (j4.up (by decide))
  have e0 := eq_ints s [u, v] [0, 0]
  simp only [iL, List.map_cons, List.map_nil, sw, List.cons.injEq, and_true] at e0 e1 e2
  rw [call_eq (g := g_checked) rfl]
  unfold checkO
  by_cases h0 : u = 0 ∧ v = 0
  · rw [if_pos h0]
    rw [decide_eq_true h0] at e0
    simp [g_checked, b_checked, sw, e0, optD, endF]
  · rw [if_neg h0]
    rw [decide_eq_false h0] at e0
    by_cases h1 : (u * a + v) * (u * d + v) - u * b * (u * c) = 0
    · rw [if_pos h1]
      rw [h1] at e2
      simp [g_checked, b_checked, sw, e0, e1, e2, optD, endF]
    · rw [if_neg h1]
      have e3 := short4 hShort k s (m := 140) (by decide) h1 j1 j2 j3 j4
      have e4 := eq_ints s (shortL [u * a + v, u * b, u * c, u * d + v]) [p, q, r, t]
      have e5 := hShort k [u, v] s (by simp) (nz2 h0) (by
        intro z hz
        simp only [List.mem_cons, List.not_mem_nil, or_false] at hz
        rcases hz with rfl | rfl
        · exact big_of hu (by decide)
        · exact big_of hv (by decide))
      simp only [iL, List.map_cons, List.map_nil, sw] at e3 e4 e5
      by_cases h2 : shortL [u * a + v, u * b, u * c, u * d + v] = [p, q, r, t]
      · rw [if_pos h2]
        rw [decide_eq_true h2] at e4
        simp [g_checked, b_checked, sw, e0, e1, e2, h1, e3, e4, e5, optD, iL, endF]
      · rw [if_neg h2]
        rw [decide_eq_false h2] at e4
        simp [g_checked, b_checked, sw, e0, e1, e2, h1, e3, e4, optD, endF]
theorem num_in_spec (k : Nat) (s : Sto) {a b c d p q r t : Int} (x : SwOk 10000 a b c d) (y : SwOk 10000 p q r t) : call G (k + 4) 14 [sw a b c d, sw p q r t] s = .ok (optD (numO a b c d p q r t)) s := by
  obtain ⟨i1, i2, i3, i4⟩ := sw14 x
  obtain ⟨j1, j2, j3, j4⟩ := sw14 y
  rw [call_eq (g := g_numbers_in) rfl]
  by_cases hb : b = 0
  · subst hb
    by_cases hc : c = 0
    · subst hc
      by_cases hq : q = 0
      · subst hq
        by_cases hr : r = 0
        · subst hr
          have e := checked_spec k s (p := p) (q := 0) (r := 0) (t := t) (u := p - t) (v := t * a - p * d) x ((inferInstance : Bd _ (p - t)).up (by decide)) ((inferInstance : Bd _ (t * a - p * d)).up (by decide))
          have en : numO a 0 0 d p 0 0 t = checkO a 0 0 d p 0 0 t (p - t) (t * a - p * d) := by simp [numO, numU]
          simp only [sw] at e
          rw [en]
          simp [g_numbers_in, b_numbers_in, sw, forL, turnF, mul_ok, seqOf, e, endF]
        · have en : numO a 0 0 d p 0 r t = none := by simp [numO, numU, hr]
          rw [en]
          simp [g_numbers_in, b_numbers_in, sw, forL, turnF, hr, endF, optD]
      · have en : numO a 0 0 d p q r t = none := by simp [numO, numU, hq]
        rw [en]
        simp [g_numbers_in, b_numbers_in, sw, forL, turnF, hq, endF, optD]
    · have e := checked_spec k s (p := p) (q := q) (r := r) (t := t) (u := r) (v := p * c - r * a) x (j3.up (by decide)) ((inferInstance : Bd _ (p * c - r * a)).up (by decide))
      have en : numO a 0 c d p q r t = checkO a 0 c d p q r t r (p * c - r * a) := by simp [numO, numU, hc]
      simp only [sw] at e
      rw [en]
      simp [g_numbers_in, b_numbers_in, sw, forL, turnF, hc, mul_ok, seqOf, e, endF]
  · have e := checked_spec k s (p := p) (q := q) (r := r) (t := t) (u := q) (v := p * b - q * a) x (j2.up (by decide)) ((inferInstance : Bd _ (p * b - q * a)).up (by decide))
    have en : numO a b c d p q r t = checkO a b c d p q r t q (p * b - q * a) := by simp [numO, numU, hb]
    simp only [sw] at e
    rw [en]
    simp [g_numbers_in, b_numbers_in, sw, forL, turnF, hb, mul_ok, seqOf, e, endF]
def oneB (a b c d : Int) : Bool := decide ([a, b, c, d] = [1, 0, 0, 1])
def makeD (a b c d p q r t : Int) : D := if [a, b, c, d] = [1, 0, 0, 1] then (if [p, q, r, t] = [1, 0, 0, 1] then .tup [.int 0, .int 1] else .non) else optD (numO a b c d p q r t)
theorem need_two_spec (k : Nat) (s : Sto) {a b c d p q r t : Int} (x : SwOk 10000 a b c d) (y : SwOk 10000 p q r t) : call G (k + 6) 8 [sw a b c d, sw p q r t] s = .ok .non s := by
  have e1 := hNeed k a b c d s x
  have e2 := hNeed k p q r t s y
  simp only [sw] at e1 e2
  rw [call_eq (g := g_need_two) rfl]
  simp [g_need_two, b_need_two, sw, e1, e2, endF]
theorem making_spec (k : Nat) (s : Sto) {a b c d p q r t : Int} (x : SwOk 10000 a b c d) (y : SwOk 10000 p q r t) : call G (k + 7) 19 [sw a b c d, sw p q r t] s = .ok (makeD a b c d p q r t) s := by
  have e1 := need_two_spec k s x y
  have e2 := num_in_spec (k + 2) s x y
  have e3 := eq_ints s [a, b, c, d] [1, 0, 0, 1]
  have e4 := eq_ints s [p, q, r, t] [1, 0, 0, 1]
  simp only [iL, List.map_cons, List.map_nil, sw] at e1 e2 e3 e4
  rw [call_eq (g := g_making_numbers) rfl]
  unfold makeD
  by_cases h1 : [a, b, c, d] = [1, 0, 0, 1]
  · by_cases h2 : [p, q, r, t] = [1, 0, 0, 1]
    · rw [if_pos h1, if_pos h2]
      rw [decide_eq_true h1] at e3
      rw [decide_eq_true h2] at e4
      simp [g_making_numbers, b_making_numbers, c_NONE, sw, e1, e3, e4, endF]
    · rw [if_pos h1, if_neg h2]
      rw [decide_eq_true h1] at e3
      rw [decide_eq_false h2] at e4
      simp [g_making_numbers, b_making_numbers, c_NONE, sw, e1, e3, e4, endF]
  · rw [if_neg h1]
    rw [decide_eq_false h1] at e3
    simp [g_making_numbers, b_making_numbers, c_NONE, sw, e1, e3, e2, endF]
theorem do_agree_spec (k : Nat) (s : Sto) {a b c d p q r t : Int} {m l : Nat} (hm : m ≤ great) (hl : l ≤ great) (x : SwOk m a b c d) (y : SwOk l p q r t) : call G (k + 5) 12 [sw a b c d, sw p q r t] s = .ok (.bl (agB a b c d p q r t)) s := by
  have e1 := hProd k s m l a b c d p q r t x y hm hl
  have e2 := hProd k s l m p q r t a b c d y x hl hm
  have e3 := eq_ints s (prodL a b c d p q r t) (prodL p q r t a b c d)
  simp only [sw] at e1 e2
  rw [call_eq (g := g_do_agree) rfl]
  simp [g_do_agree, b_do_agree, sw, e1, e2, e3, endF, agB]
theorem agree_spec (k : Nat) (s : Sto) {a b c d p q r t : Int} (x : SwOk 10000 a b c d) (y : SwOk 10000 p q r t) : call G (k + 7) 16 [sw a b c d, sw p q r t] s = .ok (.bl (agB a b c d p q r t)) s := by
  have e1 := need_two_spec k s x y
  have e2 := do_agree_spec (k + 1) s (le_great (by decide)) (le_great (by decide)) x y
  simp only [sw] at e1 e2
  rw [call_eq (g := g_do_swings_agree) rfl]
  simp [g_do_swings_agree, b_do_swings_agree, sw, e1, e2, endF]
theorem lagree_spec (k : Nat) (s : Sto) {a b c d p q r t : Int} {m l : Nat} (hm : m ≤ great) (hl : l ≤ great) (x : SwOk m a b c d) (y : SwOk l p q r t) : call G (k + 5) 39 [sw a b c d, sw p q r t] s = .ok (.bl (agB a b c d p q r t)) s := by
  have e1 := hProdL k s m l a b c d p q r t x y hm hl
  have e2 := hProdL k s l m p q r t a b c d y x hl hm
  have e3 := eq_ints s (prodL a b c d p q r t) (prodL p q r t a b c d)
  simp only [sw] at e1 e2
  rw [call_eq (g := g__law_agree) rfl]
  simp [g__law_agree, b__law_agree, sw, e1, e2, e3, endF, agB]
def crB (a b c d p q r t : Int) : Bool := decide (a + d = 0) && (decide (p + t = 0) && (!decide ([a, b, c, d] = [p, q, r, t]) && agB a b c d p q r t))
theorem crossed_spec (k : Nat) (s : Sto) {a b c d p q r t : Int} (x : SwOk 10000 a b c d) (y : SwOk 10000 p q r t) : call G (k + 7) 17 [sw a b c d, sw p q r t] s = .ok (.bl (crB a b c d p q r t)) s := by
  have e1 := need_two_spec k s x y
  have e2 := do_agree_spec (k + 1) s (le_great (by decide)) (le_great (by decide)) x y
  have e3 := eq_ints s [a, b, c, d] [p, q, r, t]
  have t1 := hTrace (k + 5) s a b c d
  have t2 := hTrace (k + 5) s p q r t
  simp only [iL, List.map_cons, List.map_nil, sw] at e1 e2 e3 t1 t2
  rw [call_eq (g := g_are_crossed) rfl]
  unfold crB
  by_cases h1 : a + d = 0
  · by_cases h2 : p + t = 0
    · by_cases h3 : [a, b, c, d] = [p, q, r, t]
      · rw [decide_eq_true h3] at e3 ⊢
        simp [g_are_crossed, b_are_crossed, sw, e1, e2, e3, t1, t2, h1, h2, endF]
      · rw [decide_eq_false h3] at e3 ⊢
        simp [g_are_crossed, b_are_crossed, sw, e1, e2, e3, t1, t2, h1, h2, endF]
    · simp [g_are_crossed, b_are_crossed, sw, e1, t1, t2, h1, h2, endF]
  · simp [g_are_crossed, b_are_crossed, sw, e1, t1, h1, endF]
theorem need_whole_spec (k : Nat) (s : Sto) {u : Int} (h1 : -1000 ≤ u) (h2 : u ≤ 1000) : call G (k + 2) 1 [.int u, .int (-1000), .int 1000] s = .ok .non s := by
  have e := hWhole k (.int u) (-1000) 1000 s rfl
  have e2 : isWh (-1000) 1000 (.int u) = true := by
    show (decide (-1000 ≤ u) && decide (u ≤ 1000)) = true
    rw [decide_eq_true h1, decide_eq_true h2]
    rfl
  rw [e2] at e
  rw [call_eq (g := g_need_whole) rfl]
  simp [g_need_whole, b_need_whole, e, endF]
theorem made_swing_spec (k : Nat) (s : Sto) {a b c d u v : Int} (x : SwOk 10000 a b c d) (hu1 : -1000 ≤ u) (hu2 : u ≤ 1000) (hv1 : -1000 ≤ v) (hv2 : v ≤ 1000) :
    call G (k + 6) 18 [sw a b c d, .int u, .int v] s = if (u * a + v) * (u * d + v) - u * b * (u * c) = 0 then .exc 3 s else .ok (.tup (iL (shortL [u * a + v, u * b, u * c, u * d + v]))) s := by
  obtain ⟨i1, i2, i3, i4⟩ := sw14 x
  have bu : Bd 60 u := (bd_le (n := 14) (m := 1000) (by omega) (by decide)).up (by decide)
  have bv : Bd 60 v := (bd_le (n := 14) (m := 1000) (by omega) (by decide)).up (by decide)
  obtain ⟨j1, j2, j3, j4⟩ := made_bd i1 i2 i3 i4 bu bv
  have e0 := hNeed k a b c d s x
  have w1 := need_whole_spec (k + 3) s hu1 hu2
  have w2 := need_whole_spec (k + 3) s hv1 hv2
  have e1 := hMade (k + 4) s a b c d u v i1 i2 i3 i4 bu bv
  have e2 := hMeas (k + 4) s (u * a + v) (u * b) (u * c) (u * d + v) (j1.up (by decide)) (j2.up (by decide)) (j3.up (by decide)) (j4.up (by decide))
  simp only [sw] at e0 e1 e2
  rw [call_eq (g := g_made_swing) rfl]
  by_cases h1 : (u * a + v) * (u * d + v) - u * b * (u * c) = 0
  · rw [if_pos h1]
    simp [g_made_swing, b_made_swing, c_SMALL, sw, e0, w1, w2, e1, e2, h1, endF]
  · rw [if_neg h1]
    have e3 := short4 hShort (k + 3) s (m := 140) (by decide) h1 j1 j2 j3 j4
    simp only [sw] at e3
    simp [g_made_swing, b_made_swing, c_SMALL, sw, e0, w1, w2, e1, e2, h1, e3, endF]
end Lw
end

section
set_option Elab.async false
set_option linter.all false
set_option maxRecDepth 100000
set_option maxHeartbeats 4000000
set_option exponentiation.threshold 10000
/-! k36: two swings asked. -/
namespace Px
theorem ite_le {x y : Int} {a b : Prop} (ha : a) (hb : y ≤ x → b) : if x < y then a else b := by
  split
  · exact ha
  · exact hb (by omega)
theorem maxI_le : ∀ (xs : List Int) (m n : Int), maxI m xs ≤ n ↔ m ≤ n ∧ ∀ x ∈ xs, x ≤ n
  | [], m, n => by simp [maxI]
  | x :: xs, m, n => by
    rw [maxI, maxI_le xs]
    constructor
    · rintro ⟨h1, h2⟩
      refine ⟨?_, fun y hy => ?_⟩
      · split at h1 <;> omega
      · rcases List.mem_cons.mp hy with e | hy
        · rw [e]
          split at h1 <;> omega
        · exact h2 y hy
    · rintro ⟨h1, h2⟩
      refine ⟨?_, fun y hy => h2 y (List.mem_cons_of_mem _ hy)⟩
      have := h2 x List.mem_cons_self
      split <;> omega
theorem max4_le {a b c d : Int} (h : maxI (a.natAbs : Int) [(b.natAbs : Int), (c.natAbs : Int), (d.natAbs : Int)] ≤ 10000) : a.natAbs ≤ 10000 ∧ b.natAbs ≤ 10000 ∧ c.natAbs ≤ 10000 ∧ d.natAbs ≤ 10000 := by
  obtain ⟨m0, mm⟩ := (maxI_le _ _ _).mp h
  have h2 := mm _ List.mem_cons_self
  have h3 := mm _ (List.mem_cons_of_mem _ List.mem_cons_self)
  have h4 := mm _ (List.mem_cons_of_mem _ (List.mem_cons_of_mem _ List.mem_cons_self))
  clear mm h
  exact ⟨by omega, by omega, by omega, by omega⟩
/-- a lambda that is tried, two frames deeper -/
theorem den_lamc2 {G : Tab} (k n : Nat) (t : Td) (e : RE) (ρ : Env) (s : Sto) : den (.lamc n t e) ⟨call G (k + 2), low G (k + 2)⟩ ρ s = tdR t (den e ⟨call G k, none⟩ ρ s) := rfl
end Px
namespace Lw
open PySem Px
def CupE (s : Sto) : Prop := ∃ rest, Cup s rest
theorem CupE.app {s : Sto} (h : CupE s) (w : Sto) : CupE (s ++ w) := by
  obtain ⟨rest, b, c, rfl, o⟩ := h
  exact ⟨rest ++ w, b, c, rfl, o⟩
theorem numU_bd {a b c d p q r t u v : Int} (x : SwOk 10000 a b c d) (y : SwOk 10000 p q r t) (h : numU a b c d p q r t = some (u, v)) : Bd 60 u ∧ Bd 60 v := by
  obtain ⟨i1, i2, i3, i4⟩ := sw14 x
  obtain ⟨j1, j2, j3, j4⟩ := sw14 y
  unfold numU at h
  split at h
  · split at h
    · split at h
      · split at h
        · cases h
          exact ⟨(inferInstance : Bd _ (p - t)).up (by decide), (inferInstance : Bd _ (t * a - p * d)).up (by decide)⟩
        · cases h
      · cases h
    · cases h
      exact ⟨j3.up (by decide), (inferInstance : Bd _ (p * c - r * a)).up (by decide)⟩
  · cases h
    exact ⟨j2.up (by decide), (inferInstance : Bd _ (p * b - q * a)).up (by decide)⟩
theorem num_fit2 {a b c d p q r t : Int} {L : List Int} (x : SwOk 10000 a b c d) (y : SwOk 10000 p q r t) (h : numO a b c d p q r t = some L) :
    ∃ u v : Int, Bd 60 u ∧ Bd 60 v ∧ ¬ (u = 0 ∧ v = 0) ∧ L = [u, v] ∧ shortL [u, v] = [u, v] ∧ (u * a + v) * (u * d + v) - u * b * (u * c) ≠ 0 ∧ shortL [u * a + v, u * b, u * c, u * d + v] = [p, q, r, t] := by
  unfold numO at h
  cases e : numU a b c d p q r t with
  | none => rw [e] at h; cases h
  | some uv =>
    rw [e] at h
    obtain ⟨u, v⟩ := uv
    obtain ⟨bu, bv⟩ := numU_bd x y e
    have h : checkO a b c d p q r t u v = some L := h
    unfold checkO at h
    split at h
    · cases h
    · rename_i h0
      split at h
      · cases h
      · rename_i h1
        split at h
        · rename_i h2
          have hL := (Option.some.inj h).symm
          have hne := nz2 h0
          obtain ⟨j, hj, ej⟩ := short_mul hne
          have hl := short_len [u, v]
          have hid := short_idem hne
          obtain ⟨U, V, eS⟩ : ∃ U V, shortL [u, v] = [U, V] := by
            rcases q : shortL [u, v] with _ | ⟨x, _ | ⟨y, _ | ⟨z, zs⟩⟩⟩ <;> rw [q] at hl <;> simp at hl
            exact ⟨x, y, rfl⟩
          rw [eS] at ej hid hL
          simp only [List.map_cons, List.map_nil, List.cons.injEq, and_true] at ej
          obtain ⟨eu, ev⟩ := ej
          have m1 : j * (U * a + V) = u * a + v := by rw [eu, ev]; grind
          have m2 : j * (U * b) = u * b := by rw [eu]; grind
          have m3 : j * (U * c) = u * c := by rw [eu]; grind
          have m4 : j * (U * d + V) = u * d + v := by rw [eu, ev]; grind
          have hn : (U * a + V) * (U * d + V) - U * b * (U * c) ≠ 0 := fun z => h1 (by
            rw [← m1, ← m2, ← m3, ← m4, show j * (U * a + V) * (j * (U * d + V)) - j * (U * b) * (j * (U * c)) = j * j * ((U * a + V) * (U * d + V) - U * b * (U * c)) by grind, z, Int.mul_zero])
          refine ⟨U, V, ⟨Nat.lt_of_le_of_lt (abs_mul_le hj) (eu ▸ bu.lt)⟩, ⟨Nat.lt_of_le_of_lt (abs_mul_le hj) (ev ▸ bv.lt)⟩, fun z => h0 (by rw [eu, ev, z.1, z.2]; simp), hL, hid, hn, ?_⟩
          rw [← h2]
          exact sw_par (u := j) (v := 1) hj (by decide) hn h1 (by rw [m1, Int.one_mul]) (by rw [m2, Int.one_mul]) (by rw [m3, Int.one_mul]) (by rw [m4, Int.one_mul])
        · cases h
theorem fit_spec (k : Nat) (s : Sto) {a b c d p q r t : Int} {L : List Int} (x : SwOk 10000 a b c d) (y : SwOk 10000 p q r t) (h : numO a b c d p q r t = some L) : call G (k + 3) 41 [sw a b c d, sw p q r t, .tup (iL L)] s = .ok (.bl true) s := by
  obtain ⟨u, v, bu, bv, h0, rfl, hid, hn, hs⟩ := num_fit2 x y h
  obtain ⟨i1, i2, i3, i4⟩ := sw14 x
  obtain ⟨j1, j2, j3, j4⟩ := made_bd i1 i2 i3 i4 bu bv
  have e1 := hMadeL (k + 1) s a b c d u v i1 i2 i3 i4 bu bv
  have e2 := hMeasL (k + 1) s (u * a + v) (u * b) (u * c) (u * d + v) (j1.up (by decide)) (j2.up (by decide)) (j3.up (by decide)) (j4.up (by decide))
  have e3 := short4 hShortL k s (m := 140) (by decide) hn j1 j2 j3 j4
  have e4 := hShortL k [u, v] s (by simp) (nz2 h0) (by
    intro z hz
    simp only [List.mem_cons, List.not_mem_nil, or_false] at hz
    rcases hz with rfl | rfl
    · exact big_of bu (by decide)
    · exact big_of bv (by decide))
  have e5 := eq_ints s [u, v] [0, 0]
  have e6 := eq_ints s [u, v] [u, v]
  have e7 := eq_ints s [p, q, r, t] [p, q, r, t]
  have so := fun z => hSort (k + 1) (.int z) s rfl
  rw [hs] at e3
  rw [hid] at e4
  rw [decide_eq_false (by simpa using h0)] at e5
  rw [decide_eq_true rfl] at e6 e7
  simp only [iL, List.map_cons, List.map_nil, sw] at e1 e2 e3 e4 e5 e6 e7
  have f2 : fit 2 = true := by decide
  rw [call_eq (g := g__law_numbers_fit) rfl]
  simp [g__law_numbers_fit, b__law_numbers_fit, sw, iL, isiD, biD, seqOf, f2, compL, itemZ_eq, wipe, so, sortV, e5, e1, e4, e6, e2, hn, e3, e7, endF]
end Lw
end

section
set_option Elab.async false
set_option linter.all false
set_option maxRecDepth 100000
set_option maxHeartbeats 4000000
set_option exponentiation.threshold 10000
/-! k36: two swings asked: the judge. -/
namespace Lw
open PySem Px
def right_rest : RS := (.seq (.set (.tup (.cons (.name 7) (.cons (.name 8) .nil))) (.tup (.cons (.bin .sub false (.call 22 (.cons (.var 0) (.cons (.c (.int 2001)) .nil))) (.c (.int 1000))) (.cons (.bin .sub false (.call 22 (.cons (.var 0) (.cons (.c (.int 11)) .nil))) (.c (.int 5))) .nil)))) (.seq (.set (.name 9) (.call 38 (.cons (.var 1) (.cons (.var 7) (.cons (.var 8) .nil))))) (.seq (.ifs (.cmp .eq (.call 32 (.cons (.var 9) .nil)) (.c (.int 0))) (.seq (.ret (.not (.lamc 40 t__law_is_found (.call 18 (.cons (.var 1) (.cons (.var 7) (.cons (.var 8) .nil))))))) .pass) .pass) (.seq (.set (.name 10) (.call 18 (.cons (.var 1) (.cons (.var 7) (.cons (.var 8) .nil))))) (.seq (.ifs (.not (.call 25 (.cons (.var 10) (.cons (.call 28 (.cons (.var 9) .nil)) .nil)))) (.seq (.ret (.c (.bl false))) .pass) .pass) (.seq (.ifs (.cmp .gt (.bi .max1 false (.cons (.comp false (.bi .abs false (.cons (.var 12) .nil)) [12] (.name 12) (.seq (.var 10)) (.c (.bl true))) .nil)) (.bin .pow false (.c (.int 10)) (.c (.int 4)))) (.seq (.ret (.c (.bl true))) .pass) .pass) (.seq (.set (.name 11) (.call 28 (.cons (.tup (.cons (.var 7) (.cons (.var 8) .nil))) .nil))) (.seq (.ret (.call 25 (.cons (.lst false (.cons (.call 16 (.cons (.var 1) (.cons (.var 10) .nil))) (.cons (.call 19 (.cons (.var 1) (.cons (.var 10) .nil))) .nil))) (.cons (.lst false (.cons (.c (.bl true)) (.cons (.var 11) .nil))) .nil)))) .pass))))))))
def right_Bof (right_rest : RS) : RS := (.seq (.ifs (.not (.call 25 (.cons (.lst false (.cons (.call 16 (.cons (.var 1) (.cons (.var 2) .nil))) (.cons (.call 16 (.cons (.var 2) (.cons (.var 1) .nil))) (.cons (.call 17 (.cons (.var 1) (.cons (.var 2) .nil))) .nil)))) (.cons (.lst false (.cons (.var 3) (.cons (.var 3) (.cons (.var 5) .nil)))) .nil)))) (.seq (.ret (.c (.bl false))) .pass) .pass) (.seq (.set (.name 6) (.call 19 (.cons (.var 1) (.cons (.var 2) .nil)))) (.seq (.ifs (.cmp .eq (.var 1) (.tup (.cons (.c (.int 1)) (.cons (.c (.int 0)) (.cons (.c (.int 0)) (.cons (.c (.int 1)) .nil)))))) (.seq (.ret (.call 25 (.cons (.var 6) (.cons (.ite (.cmp .eq (.var 2) (.var 1)) (.tup (.cons (.c (.int 0)) (.cons (.c (.int 1)) .nil))) (.c .non)) .nil)))) .pass) .pass) (.seq (.ifs (.and (.cmp .isNot (.var 6) (.c .non)) (.not (.call 41 (.cons (.var 1) (.cons (.var 2) (.cons (.var 6) .nil)))))) (.seq (.ret (.c (.bl false))) .pass) .pass) (.seq (.ifs (.cmp .ne (.cmp .isNot (.var 6) (.c .non)) (.and (.var 3) (.not (.var 5)))) (.seq (.ret (.c (.bl false))) .pass) .pass) right_rest)))))
def right_Aof (right_B : RS) : RS := (.seq (.set (.name 3) (.call 39 (.cons (.var 1) (.cons (.var 2) .nil)))) (.seq (.set (.name 4) (.and (.cmp .eq (.bin .add false (.sub (.var 1) (.c (.int 0))) (.sub (.var 1) (.c (.int 3)))) (.c (.int 0))) (.cmp .eq (.bin .add false (.sub (.var 2) (.c (.int 0))) (.sub (.var 2) (.c (.int 3)))) (.c (.int 0))))) (.seq (.set (.name 5) (.and (.var 4) (.and (.cmp .ne (.var 1) (.var 2)) (.var 3)))) right_B)))
theorem right_cut : b__law_right = right_Aof (right_Bof right_rest) := rfl
theorem nat4 (x y z w : Nat) : x ≤ x + y + z + w ∧ y ≤ x + y + z + w ∧ z ≤ x + y + z + w ∧ w ≤ x + y + z + w := by omega
/-- what is asked of two numbers drawn -/
theorem rest_spec (k : Nat) (s : Sto) (hc : CupE s) {a b c d : Int} (x : SwOk 10000 a b c d) (hx : NotOne a b c d) (o2 o3 o4 o5 o6 : Option D) {N : Px.Env → Sto → Prop} :
    Wf (ex right_rest ⟨call G (k + 11), low G (k + 11)⟩ [some (.cel 0), some (sw a b c d), o2, o3, o4, o5, o6, none, none, none, none, none, none] s) N fun d s' => d = .bl true ∧ CupE s' := by
  obtain ⟨rest, hc⟩ := hc
  obtain ⟨i1, i2, i3, i4⟩ := sw14 x
  have p4 : powOk 10 4 = true := by decide
  have f4 : fit 4 = true := by decide
  simp [right_rest, sw]
  refine (hRoll (k + 10) 2001 s rest hc (by decide) (by decide)).mono ?_
  rintro _ s1 ⟨u0, rfl, u1, u2, hc1⟩
  simp
  refine (hRoll (k + 10) 11 s1 rest hc1 (by decide) (by decide)).mono ?_
  rintro _ s2 ⟨v0, rfl, v1, v2, hc2⟩
  obtain ⟨u, eu⟩ : ∃ u, u0 - 1000 = u := ⟨_, rfl⟩
  obtain ⟨v, ev⟩ : ∃ v, v0 - 5 = v := ⟨_, rfl⟩
  have hu1 : -1000 ≤ u := by omega
  have hu2 : u ≤ 1000 := by omega
  have hv1 : -1000 ≤ v := by omega
  have hv2 : v ≤ 1000 := by omega
  clear u1 u2 v1 v2
  have bu : Bd 60 u := (bd_le (n := 14) (m := 1000) (by omega) (by decide)).up (by decide)
  have bv : Bd 60 v := (bd_le (n := 14) (m := 1000) (by omega) (by decide)).up (by decide)
  obtain ⟨j1, j2, j3, j4⟩ := made_bd i1 i2 i3 i4 bu bv
  have e1 := hMadeL (k + 10) s2 a b c d u v i1 i2 i3 i4 bu bv
  have e2 := hMeasL (k + 10) s2 (u * a + v) (u * b) (u * c) (u * d + v) (j1.up (by decide)) (j2.up (by decide)) (j3.up (by decide)) (j4.up (by decide))
  have e3 := made_swing_spec (k + 5) s2 x hu1 hu2 hv1 hv2
  have e4 := made_swing_spec (k + 3) s2 x hu1 hu2 hv1 hv2
  have el := fun (e : RE) (ρ : Px.Env) (s : Sto) => den_lamc2 (G := G) (k + 9) 40 t__law_is_found e ρ s
  simp only [sw] at e1 e2 e3 e4
  by_cases hn : (u * a + v) * (u * d + v) - u * b * (u * c) = 0
  · rw [if_pos hn] at e4
    rw [hn] at e2
    have td : tdR t__law_is_found (.exc 3 s2) = .ok (.bl false) s2 := rfl
    simp [seqOf, eu, ev, e1, e2, el, e4, td]
    exact ⟨rest, hc2⟩
  · rw [if_neg hn] at e3
    obtain ⟨q1, q2, q3, q4⟩ := nat4 (u * a + v).natAbs (u * b).natAbs (u * c).natAbs (u * d + v).natAbs
    obtain ⟨A, B, C, E, j, eS, o, hj, k1, k2, k3, k4⟩ := sw_short hn q1 q2 q3 q4
    clear q1 q2 q3 q4
    have e5 := short4 hShortL (k + 9) s2 (m := 140) (by decide) hn j1 j2 j3 j4
    have lk := hLike 2 (k + 11) (sw A B C E) s2 rfl (by omega)
    rw [eS] at e3 e5
    simp only [iL, List.map_cons, List.map_nil, sw] at e3 e5 lk
    simp [seqOf, eu, ev, e1, e2, hn, e3, e5, lk, f4, compL, itemZ_eq, wipe, p4, biD, abs_int, lsR, mapO, intO]
    refine ite_le ⟨rest, hc2⟩ fun hM => ?_
    have hq := max4_le hM
    have o' : SwOk 10000 A B C E := ⟨o.ne, o.id, hq.1, hq.2.1, hq.2.2.1, hq.2.2.2⟩
    have h0 : ¬ (u = 0 ∧ v = 0) := fun z => hn (by rw [z.1, z.2]; simp)
    have an := num_made (m := 10000) x o' hx hj h0 k1 k2 k3 k4
    have ag := an.1
    have nm := an.2
    have e6 := agree_spec (k + 4) s2 x o'
    have e7 := making_spec (k + 4) s2 x o'
    have mk : makeD a b c d A B C E = .tup (iL (shortL [u, v])) := by
      unfold makeD
      rw [if_neg (fun z => hx (by simpa using z)), nm]
      rfl
    have e8 := hShortL (k + 9) [u, v] s2 (by simp) (nz2 h0) (by
      intro z hz
      simp only [List.mem_cons, List.not_mem_nil, or_false] at hz
      rcases hz with rfl | rfl
      · exact big_of bu (by decide)
      · exact big_of bv (by decide))
    have hpure : pureD 3 (.lst [.bl true, .tup (iL (shortL [u, v]))]) = true := by
      have hl := short_len [u, v]
      rcases q : shortL [u, v] with _ | ⟨x, _ | ⟨y, _ | ⟨z, zs⟩⟩⟩ <;> rw [q] at hl <;> simp at hl
      rfl
    have lk2 := hLike 3 (k + 11) (.lst [.bl true, .tup (iL (shortL [u, v]))]) s2 hpure (by omega)
    rw [ag] at e6
    rw [mk] at e7
    generalize D.tup (iL (shortL [u, v])) = due at *
    simp only [iL, List.map_cons, List.map_nil, sw] at e6 e7 e8
    simp [e6, e7, e8, lk2]
    exact ⟨rest, hc2⟩
end Lw
end

section
set_option Elab.async false
set_option linter.all false
set_option maxRecDepth 100000
set_option maxHeartbeats 1000000
set_option exponentiation.threshold 10000
/-! k36: two swings asked: the judge. -/
namespace Px
@[simp] theorem cmpD_ne_bl (a b : Bool) (s : Sto) : cmpD .ne (.bl a) (.bl b) s = .ok (.bl (!decide (a = b))) s := by
  cases a <;> cases b <;> rfl
end Px
namespace Lw
open PySem Px
theorem eq_bl (s : Sto) (a b : Bool) : eqD s (.bl a) (.bl b) = some (decide (a = b)) := by
  cases a <;> cases b <;> rfl
/-- from what was told on, with any calls -/
theorem partB_one (c : Nat → List D → Sto → R D) (l : Option (Nat → List D → Sto → R D)) (s : Sto) (X Y M W o0 o4 : D) (ag cr q : Bool) (rr : RS) {N : Px.Env → Sto → Prop} {T : D → Sto → Prop}
    (e1 : c 16 [X, Y] s = .ok (.bl ag) s) (e2 : c 16 [Y, X] s = .ok (.bl ag) s) (e3 : c 17 [X, Y] s = .ok (.bl cr) s) (lk : c 25 [.lst [.bl ag, .bl ag, .bl cr], .lst [.bl ag, .bl ag, .bl cr]] s = .ok (.bl true) s)
    (e4 : c 19 [X, Y] s = .ok M s) (e5 : cmpD .eq X (.tup [.int 1, .int 0, .int 0, .int 1]) s = .ok (.bl true) s) (e6 : cmpD .eq Y X s = .ok (.bl q) s) (hM : M = if q = true then .tup [.int 0, .int 1] else .non) (lk2 : c 25 [M, M] s = .ok (.bl true) s) (hT : T (.bl true) s) :
    Wf (ex (right_Bof rr) ⟨c, l⟩ [some o0, some X, some Y, some (.bl ag), some o4, some (.bl cr), none, none, none, none, none, none, none] s) N T := by
  subst hM
  cases q <;> simp at lk2 <;> simp [right_Bof, e1, e2, e3, lk, e4, e5, e6, lk2] <;> exact hT
theorem partB_non (c : Nat → List D → Sto → R D) (l : Option (Nat → List D → Sto → R D)) (s : Sto) (X Y o0 o4 : D) (ag cr : Bool) (rr : RS) {N : Px.Env → Sto → Prop} {T : D → Sto → Prop}
    (e1 : c 16 [X, Y] s = .ok (.bl ag) s) (e2 : c 16 [Y, X] s = .ok (.bl ag) s) (e3 : c 17 [X, Y] s = .ok (.bl cr) s) (lk : c 25 [.lst [.bl ag, .bl ag, .bl cr], .lst [.bl ag, .bl ag, .bl cr]] s = .ok (.bl true) s)
    (e4 : c 19 [X, Y] s = .ok .non s) (e5 : cmpD .eq X (.tup [.int 1, .int 0, .int 0, .int 1]) s = .ok (.bl false) s) (ni : false = (ag && !cr))
    (fin : Wf (ex rr ⟨c, l⟩ [some o0, some X, some Y, some (.bl ag), some o4, some (.bl cr), some .non, none, none, none, none, none, none] s) N T) :
    Wf (ex (right_Bof rr) ⟨c, l⟩ [some o0, some X, some Y, some (.bl ag), some o4, some (.bl cr), none, none, none, none, none, none, none] s) N T := by
  cases ag <;> cases cr <;> simp at ni <;> simp [right_Bof, e1, e2, e3, lk, e4, e5, isNon] <;> exact fin
theorem partB_som (c : Nat → List D → Sto → R D) (l : Option (Nat → List D → Sto → R D)) (s : Sto) (X Y o0 o4 : D) (ds : List D) (ag cr : Bool) (rr : RS) {N : Px.Env → Sto → Prop} {T : D → Sto → Prop}
    (e1 : c 16 [X, Y] s = .ok (.bl ag) s) (e2 : c 16 [Y, X] s = .ok (.bl ag) s) (e3 : c 17 [X, Y] s = .ok (.bl cr) s) (lk : c 25 [.lst [.bl ag, .bl ag, .bl cr], .lst [.bl ag, .bl ag, .bl cr]] s = .ok (.bl true) s)
    (e4 : c 19 [X, Y] s = .ok (.tup ds) s) (e5 : cmpD .eq X (.tup [.int 1, .int 0, .int 0, .int 1]) s = .ok (.bl false) s) (e7 : c 41 [X, Y, .tup ds] s = .ok (.bl true) s) (ni : true = (ag && !cr))
    (fin : Wf (ex rr ⟨c, l⟩ [some o0, some X, some Y, some (.bl ag), some o4, some (.bl cr), some (.tup ds), none, none, none, none, none, none] s) N T) :
    Wf (ex (right_Bof rr) ⟨c, l⟩ [some o0, some X, some Y, some (.bl ag), some o4, some (.bl cr), none, none, none, none, none, none, none] s) N T := by
  cases ag <;> cases cr <;> simp at ni <;> simp [right_Bof, e1, e2, e3, lk, e4, e5, e7, isNon] <;> exact fin
/-- from what was told on -/
theorem partB (k : Nat) (s : Sto) (hc : CupE s) {a b c d p q r t : Int} (x : SwOk 10000 a b c d) (y : SwOk 10000 p q r t) (o4 : D) {N : Px.Env → Sto → Prop} :
    Wf (ex (right_Bof right_rest) ⟨call G (k + 11), low G (k + 11)⟩ [some (.cel 0), some (sw a b c d), some (sw p q r t), some (.bl (agB a b c d p q r t)), some o4, some (.bl (crB a b c d p q r t)), none, none, none, none, none, none, none] s) N fun d s' => d = .bl true ∧ CupE s' := by
  have e1 := agree_spec (k + 4) s x y
  have e2 := agree_spec (k + 4) s y x
  have e3 := crossed_spec (k + 4) s x y
  have e4 := making_spec (k + 4) s x y
  have e5 := congrArg (fun o => ob o s) (eq_ints s [a, b, c, d] [1, 0, 0, 1])
  have e6 := congrArg (fun o => ob o s) (eq_ints s [p, q, r, t] [a, b, c, d])
  rw [agB_comm] at e2
  have lk := hLike 2 (k + 11) (.lst [.bl (agB a b c d p q r t), .bl (agB a b c d p q r t), .bl (crB a b c d p q r t)]) s rfl (by omega)
  by_cases h0 : [a, b, c, d] = [1, 0, 0, 1]
  · rw [decide_eq_true h0] at e5
    have em : makeD a b c d p q r t = if decide ([p, q, r, t] = [a, b, c, d]) = true then .tup [.int 0, .int 1] else .non := by
      unfold makeD
      rw [if_pos h0, ← h0]
      by_cases h1 : [p, q, r, t] = [a, b, c, d]
      · rw [if_pos h1, decide_eq_true h1]
        rfl
      · rw [if_neg h1, decide_eq_false h1]
        rfl
    have lk2 := hLike 2 (k + 11) (makeD a b c d p q r t) s (by rw [em]; split <;> rfl) (by omega)
    exact partB_one (call G (k + 11)) (low G (k + 11)) s (sw a b c d) (sw p q r t) (makeD a b c d p q r t) .non (.cel 0) o4 _ _ _ right_rest e1 e2 e3 lk e4 e5 e6 em lk2 ⟨rfl, hc⟩
  · rw [decide_eq_false h0] at e5
    have hx : NotOne a b c d := fun z => h0 (by rw [z.1, z.2.1, z.2.2.1, z.2.2.2])
    have ni : (numO a b c d p q r t).isSome = (agB a b c d p q r t && !crB a b c d p q r t) := num_iff x y hx
    have em : makeD a b c d p q r t = optD (numO a b c d p q r t) := by rw [makeD, if_neg h0]
    rw [em] at e4
    have fin := fun o6 => rest_spec (N := N) k s hc x hx (some (sw p q r t)) (some (.bl (agB a b c d p q r t))) (some o4) (some (.bl (crB a b c d p q r t))) o6
    cases hN : numO a b c d p q r t with
    | none =>
      rw [hN] at ni e4
      exact partB_non (call G (k + 11)) (low G (k + 11)) s (sw a b c d) (sw p q r t) (.cel 0) o4 _ _ right_rest e1 e2 e3 lk e4 e5 ni (fin _)
    | some L =>
      have e7 := fit_spec (k + 8) s x y hN
      rw [hN] at ni e4
      exact partB_som (call G (k + 11)) (low G (k + 11)) s (sw a b c d) (sw p q r t) (.cel 0) o4 (iL L) _ _ right_rest e1 e2 e3 lk e4 e5 e7 ni (fin _)
theorem right_abs (c : Nat → List D → Sto → R D) (l : Option (Nat → List D → Sto → R D)) (s : Sto) (a b e d p q r t : Int) (ag : Bool) (rb : RS) {N : Px.Env → Sto → Prop} {T : D → Sto → Prop}
    (e1 : c 39 [sw a b e d, sw p q r t] s = .ok (.bl ag) s) (e2 : eqD s (sw a b e d) (sw p q r t) = some (decide ([a, b, e, d] = [p, q, r, t])))
    (fin : ∀ o4 : D, Wf (ex rb ⟨c, l⟩ [some (.cel 0), some (sw a b e d), some (sw p q r t), some (.bl ag), some o4, some (.bl (decide (a + d = 0) && (decide (p + t = 0) && (!decide ([a, b, e, d] = [p, q, r, t]) && ag)))), none, none, none, none, none, none, none] s) N T) :
    Wf (ex (right_Aof rb) ⟨c, l⟩ [some (.cel 0), some (sw a b e d), some (sw p q r t), none, none, none, none, none, none, none, none, none, none] s) N T := by
  cases h1 : decide (a + d = 0) <;> cases h2 : decide (p + t = 0) <;> cases h3 : decide ([a, b, e, d] = [p, q, r, t]) <;> cases ag <;> rw [h1, h2, h3] at fin <;> rw [h3] at e2 <;> simp only [sw, Bool.true_and, Bool.false_and, Bool.not_true, Bool.not_false, Bool.and_true, Bool.and_false] at e1 e2 fin <;> simp [right_Aof, sw, seqOf, e1, e2, h1, h2] <;> exact fin _
theorem right_spec (k : Nat) (s : Sto) (hc : CupE s) {a b c d p q r t : Int} (x : SwOk 10000 a b c d) (y : SwOk 10000 p q r t) : Wp (call G (k + 12) 42 [.cel 0, sw a b c d, sw p q r t] s) fun d s' => d = .bl true ∧ CupE s' := by
  have e1 := lagree_spec (k + 6) s (le_great (by decide)) (le_great (by decide)) x y
  have e2 := eq_ints s [a, b, c, d] [p, q, r, t]
  have fin := right_abs (N := fun _ s => D.non = .bl true ∧ CupE s) (T := fun d s' => d = .bl true ∧ CupE s') (call G (k + 11)) (low G (k + 11)) s a b c d p q r t _ (right_Bof right_rest) e1 e2 (fun o4 => partB k s hc x y o4)
  rw [call_eq (g := g__law_right) rfl]
  rw [if_pos (by rfl), wp_endF]
  exact fin
end Lw
end

section
set_option Elab.async false
set_option linter.all false
set_option maxRecDepth 100000
set_option maxHeartbeats 1000000
set_option exponentiation.threshold 10000
/-! k36: involutions and those crossed with them. -/
namespace Lw
open PySem Px
def h60 : Nat := 10 ^ 60
theorem h60_le : h60 ≤ great := by
  unfold h60 great
  decide +kernel
theorem le_h60 {m : Nat} (h : m ≤ 20000) : m ≤ h60 := Nat.le_trans h (by unfold h60; decide +kernel)
theorem crossed_with_spec {m : Nat} {p q r : Int} (o : SwOk m p q r (-p)) (hm1 : 1 ≤ m) (hm : m ≤ 10000) : ∃ x y z, SwOk (2 * m) x y z (-x) ∧ x * (p - -p) + y * r + z * q = 0 ∧ ∀ (k : Nat) (s : Sto), ∃ w, call G (k + 6) 20 [sw p q r (-p)] s = .ok (sw x y z (-x)) (s ++ w) := by
  obtain ⟨x, y, z, o', h, e⟩ := half_of_spec o hm1 hm
  refine ⟨x, y, z, o', h, fun k s => ?_⟩
  obtain ⟨w, e⟩ := e (k + 2) s
  have e0 := hNeed k p q r (-p) s (o.up hm)
  have e1 := hTrace (k + 4) s p q r (-p)
  have z0 : p + -p = 0 := by omega
  rw [z0] at e1
  simp only [sw] at e e0 e1
  refine wp_out ?_
  rw [call_eq (g := g_crossed_with) rfl]
  simp [g_crossed_with, b_crossed_with, sw, e0, e1, e, endF]
theorem cross_pure {p q r x y z : Int} {m l : Nat} (o : SwOk m p q r (-p)) (o' : SwOk l x y z (-x)) (h : x * (p - -p) + y * r + z * q = 0) :
    agB p q r (-p) x y z (-x) = true ∧ ¬ [x, y, z, -x] = [p, q, r, -p] ∧ ∃ A B C, prodL p q r (-p) x y z (-x) = [A, B, C, -A] := by
  refine ⟨?_, ?_, ?_⟩
  · exact ag_of (u := 1) (v := -1) o o' (by decide) (by decide) (by grind) (by grind) (by grind) (by grind)
  · intro e
    simp only [List.cons.injEq, and_true] at e
    obtain ⟨rfl, rfl, rfl, _⟩ := e
    have := o.ne
    apply this
    grind
  · obtain ⟨A, B, C, E, k, e, _, k0, k1, _, _, k4⟩ := prod_ok o o'
    refine ⟨A, B, C, ?_⟩
    have z0 : k * (A + E) = 0 := by
      rw [Int.mul_add, ← k1, ← k4]
      grind
    have z1 := (Int.mul_eq_zero.mp z0).resolve_left k0
    rw [e, show E = -A by omega]
def crossed_rest : RS := (.seq (.set (.name 5) (.call 20 (.cons (.var 4) .nil))) (.seq (.ifs (.or (.not (.call 33 (.cons (.var 5) (.cons (.bin .pow false (.c (.int 10)) (.c (.int 60))) .nil)))) (.or (.cmp .ne (.bin .add false (.sub (.var 5) (.c (.int 0))) (.sub (.var 5) (.c (.int 3)))) (.c (.int 0))) (.or (.cmp .eq (.var 5) (.var 4)) (.not (.call 39 (.cons (.var 4) (.cons (.var 5) .nil))))))) (.seq (.ret (.c (.bl false))) .pass) .pass) (.seq (.ifs (.cmp .gt (.bi .max1 false (.cons (.comp false (.bi .abs false (.cons (.var 9) .nil)) [9] (.name 9) (.seq (.var 5)) (.c (.bl true))) .nil)) (.bin .pow false (.c (.int 10)) (.c (.int 4)))) (.seq (.ret (.c (.bl true))) .pass) .pass) (.seq (.set (.name 6) (.call 30 (.cons (.var 4) (.cons (.var 5) .nil)))) (.seq (.set (.name 7) (.lst false (.cons (.call 17 (.cons (.var 4) (.cons (.var 5) .nil))) (.cons (.call 17 (.cons (.var 4) (.cons (.var 4) .nil))) (.cons (.call 19 (.cons (.var 4) (.cons (.var 5) .nil))) (.cons (.bin .add false (.sub (.var 6) (.c (.int 0))) (.sub (.var 6) (.c (.int 3)))) .nil)))))) (.seq (.ret (.and (.call 25 (.cons (.var 7) (.cons (.lst false (.cons (.c (.bl true)) (.cons (.c (.bl false)) (.cons (.c .non) (.cons (.c (.int 0)) .nil))))) .nil))) (.call 42 (.cons (.var 0) (.cons (.var 4) (.cons (.var 5) .nil)))))) .pass))))))
theorem crossed_cut : b__law_crossed_right = (.seq (.set (.tup (.cons (.name 1) (.cons (.name 2) (.cons (.name 3) .nil)))) (.comp false (.bin .sub false (.call 22 (.cons (.var 0) (.cons (.c (.int 9)) .nil))) (.c (.int 4))) [8] (.name 8) (.rng (.cons (.c (.int 3)) .nil)) (.c (.bl true)))) (.seq (.set (.name 4) (.ite (.cmp .ne (.bin .add false (.bin .mul false (.var 1) (.var 1)) (.bin .mul false (.var 2) (.var 3))) (.c (.int 0))) (.call 28 (.cons (.tup (.cons (.var 1) (.cons (.var 2) (.cons (.var 3) (.cons (.neg (.var 1)) .nil))))) .nil)) (.tup (.cons (.c (.int 0)) (.cons (.c (.int 1)) (.cons (.c (.int 1)) (.cons (.c (.int 0)) .nil))))))) crossed_rest)) := rfl
theorem cr_true {p q r x y z : Int} (h1 : agB p q r (-p) x y z (-x) = true) (h2 : ¬ [x, y, z, -x] = [p, q, r, -p]) : crB p q r (-p) x y z (-x) = true := by
  unfold crB
  have z1 : p + -p = 0 := by omega
  have z2 : x + -x = 0 := by omega
  rw [h1, decide_eq_true z1, decide_eq_true z2, decide_eq_false (fun e => h2 e.symm)]
  rfl
theorem cr_self (a b c d : Int) : crB a b c d a b c d = false := by
  unfold crB
  rw [decide_eq_true (p := [a, b, c, d] = [a, b, c, d]) rfl]
  cases decide (a + d = 0) <;> rfl
theorem make_none {p q r x y z : Int} (o : SwOk 10000 p q r (-p)) (o' : SwOk 10000 x y z (-x)) (h1 : agB p q r (-p) x y z (-x) = true) (h2 : ¬ [x, y, z, -x] = [p, q, r, -p]) : makeD p q r (-p) x y z (-x) = .non := by
  have n1 : ¬ [p, q, r, -p] = [1, 0, 0, 1] := by
    intro e
    simp only [List.cons.injEq, and_true] at e
    omega
  unfold makeD
  rw [if_neg n1]
  have hx : NotOne p q r (-p) := fun e => n1 (by rw [e.1, e.2.1, e.2.2.1]; omega)
  have ni := num_iff o o' hx
  have c : crB p q r (-p) x y z (-x) = true := cr_true h1 h2
  unfold crB at c
  rw [c, h1] at ni
  cases e : numO p q r (-p) x y z (-x) with
  | none => rfl
  | some L => rw [e] at ni; simp at ni
theorem crossed_tail (k : Nat) (s : Sto) (hc : CupE s) {p q r : Int} (o : SwOk 10000 p q r (-p)) (o1 o2 o3 : Option D) {N : Px.Env → Sto → Prop} :
    Wf (ex crossed_rest ⟨call G (k + 12), low G (k + 12)⟩ [some (.cel 0), o1, o2, o3, some (sw p q r (-p)), none, none, none, none, none] s) N fun d s' => d = .bl true ∧ CupE s' := by
  obtain ⟨x, y, z, o', h, hw⟩ := crossed_with_spec o (by decide) (by decide)
  obtain ⟨w, e1⟩ := hw (k + 6) s
  have hc1 : CupE (s ++ w) := hc.app w
  generalize s ++ w = s1 at e1 hc1
  clear hc hw
  obtain ⟨hag, hne, A, B, C, hp⟩ := cross_pure o o' h
  have e2 := hIsw (k + 8) h60 2 4 (sw x y z (-x)) s1 rfl (by decide) h60_le
  rw [show isSw h60 (sw x y z (-x)) = true from isSw_iff.mpr ⟨_, _, _, _, rfl, o'.up (le_h60 (by decide))⟩] at e2
  have e10 : ((h60 : Nat) : Int) = 1000000000000000000000000000000000000000000000000000000000000 := by decide +kernel
  rw [e10] at e2
  have e3 := eq_ints s1 [x, y, z, -x] [p, q, r, -p]
  rw [decide_eq_false hne] at e3
  have e4 := lagree_spec (k + 7) s1 (le_great (by decide)) (Nat.le_trans (le_h60 (by decide)) h60_le) o o'
  rw [hag] at e4
  have f4 : fit 4 = true := by decide
  have p4 : powOk 10 4 = true := by decide
  have p60 : powOk 10 60 = true := by decide
  have z0 : x + -x = 0 := by omega
  have z1 : A + -A = 0 := by omega
  simp only [iL, List.map_cons, List.map_nil, sw] at e1 e2 e3 e4
  simp [crossed_rest, sw, e1, p60, e2, z0, e3, e4, f4, compL, itemZ_eq, wipe, p4, biD, abs_int, lsR, mapO, intO]
  refine ite_le hc1 fun hM => ?_
  have hq := max4_le (a := x) (b := y) (c := z) (d := -x) (by rw [Int.natAbs_neg]; exact hM)
  have oo : SwOk 10000 x y z (-x) := ⟨o'.ne, o'.id, hq.1, hq.2.1, hq.2.2.1, hq.2.2.2⟩
  have e5 := hProdL (k + 8) s1 10000 10000 p q r (-p) x y z (-x) o oo (le_great (by decide)) (le_great (by decide))
  rw [hp] at e5
  have e6 := crossed_spec (k + 5) s1 o oo
  have e7 := crossed_spec (k + 5) s1 o o
  have e8 := making_spec (k + 5) s1 o oo
  rw [cr_true hag hne] at e6
  rw [cr_self] at e7
  rw [make_none o oo hag hne] at e8
  have lk := hLike 2 (k + 12) (.lst [.bl true, .bl false, .non, .int 0]) s1 rfl (by omega)
  have rt := right_spec k s1 hc1 o oo
  simp only [iL, List.map_cons, List.map_nil, sw] at e5 e6 e7 e8 rt
  simp [seqOf, e5, e6, e7, e8, z1, lk]
  exact rt
theorem crossed_right_spec (k : Nat) (s : Sto) (hc : CupE s) : Wp (call G (k + 13) 43 [.cel 0] s) fun d s' => d = .bl true ∧ CupE s' := by
  obtain ⟨rest, hc⟩ := hc
  have f3 : fit 3 = true := by decide
  have fin := fun s hc p q r o o1 o2 o3 => crossed_tail (N := fun _ _ => False) k s hc (p := p) (q := q) (r := r) o o1 o2 o3
  rw [call_eq (g := g__law_crossed_right) rfl]
  show Wp (if _ then endF (ex b__law_crossed_right _ _ _) else _) _
  rw [crossed_cut]
  generalize crossed_rest = rr at fin ⊢
  simp [g__law_crossed_right, rngD, smallI, rngL, f3, compL, itemZ_eq, wipe]
  refine (hRoll (k + 11) 9 s rest hc (by decide) (by decide)).mono ?_
  rintro d s1 ⟨x, rfl, x0, x1, hc1⟩
  simp
  refine (hRoll (k + 11) 9 s1 rest hc1 (by decide) (by decide)).mono ?_
  rintro d s2 ⟨y, rfl, y0, y1, hc2⟩
  simp
  refine (hRoll (k + 11) 9 s2 rest hc2 (by decide) (by decide)).mono ?_
  rintro d s3 ⟨z, rfl, z0, z1, hc3⟩
  obtain ⟨a, ea⟩ : ∃ a, x - 4 = a := ⟨_, rfl⟩
  obtain ⟨b, eb⟩ : ∃ b, y - 4 = b := ⟨_, rfl⟩
  obtain ⟨c, ec⟩ : ∃ c, z - 4 = c := ⟨_, rfl⟩
  have ha : a.natAbs ≤ 10000 := by omega
  have hb : b.natAbs ≤ 10000 := by omega
  have hc' : c.natAbs ≤ 10000 := by omega
  clear x0 x1 y0 y1 z0 z1
  have i1 : Bd 14 a := bd_le ha (by decide)
  have i2 : Bd 14 b := bd_le hb (by decide)
  have i3 : Bd 14 c := bd_le hc' (by decide)
  by_cases hn : a * a + b * c = 0
  · have o : SwOk 10000 0 1 1 (-0) := ⟨by decide, by decide, by decide, by decide, by decide, by decide⟩
    have fin := fin s3 ⟨rest, hc3⟩ 0 1 1 o (some (.int a)) (some (.int b)) (some (.int c))
    simp only [sw, Int.neg_zero] at fin
    simp [seqOf, ea, eb, ec, mul_ok, hn]
    exact fin
  · have hn' : a * -a - b * c ≠ 0 := by
      intro q
      apply hn
      grind
    have ha' : (-a).natAbs ≤ 10000 := by rw [Int.natAbs_neg]; exact ha
    have q := short4 hShortL (k + 10) s3 (m := 14) (by decide) hn' i1 i2 i3 (inferInstance : Bd _ (-a))
    obtain ⟨a', b', c', d', j, eS, ok, j0, j1, j2, j3, j4⟩ := sw_short hn' ha hb hc' ha'
    have ed : d' = -a' := by
      have : j * (d' + a') = 0 := by rw [Int.mul_add, ← j4, ← j1, Int.add_left_neg]
      rcases Int.mul_eq_zero.mp this with q | q
      · exact absurd q j0
      · omega
    subst ed
    rw [eS] at q
    have fin := fin s3 ⟨rest, hc3⟩ a' b' c' ok (some (.int a)) (some (.int b)) (some (.int c))
    simp only [iL, List.map_cons, List.map_nil, sw] at q fin
    simp [seqOf, ea, eb, ec, mul_ok, hn, q]
    exact fin
end Lw
end

section
set_option Elab.async false
set_option linter.all false
set_option maxRecDepth 100000
set_option maxHeartbeats 1000000
set_option exponentiation.threshold 10000
/-! k36: great steps. -/
namespace Lw
open PySem Px
theorem step_ok {g : Int} (h : g.natAbs ≤ 10000) : SwOk 10000 1 g 0 1 := by
  refine ⟨by omega, ?_, by decide, h, by decide, by decide⟩
  have e : firstL [1, g, 0, 1] = 1 := by simp [firstL]
  have d : gcdL 0 [1, g, 0, 1] = 1 := by simp [gcdL]
  unfold shortL
  rw [e, d]
  simp
theorem dbl_ok {g : Int} (h : g.natAbs ≤ 10000) (h0 : 0 < g) : SwOk 10000 g 0 0 1 := by
  refine ⟨by omega, ?_, h, by decide, by decide, by decide⟩
  have e : firstL [g, 0, 0, 1] = g := by
    have : ¬ g = 0 := by omega
    simp [firstL, this]
  have d : gcdL 0 [g, 0, 0, 1] = 1 := by simp [gcdL]
  unfold shortL
  rw [e, d]
  simp [h0]
theorem hlf_ok {g : Int} (h : g.natAbs ≤ 10000) (h0 : 0 < g) : SwOk 10000 1 0 0 g := by
  refine ⟨by omega, ?_, by decide, by decide, by decide, h⟩
  have e : firstL [1, 0, 0, g] = 1 := by simp [firstL]
  have d : gcdL 0 [1, 0, 0, g] = 1 := by simp [gcdL]
  unfold shortL
  rw [e, d]
  simp
theorem great_ok {g t : Int} (hg : g.natAbs ≤ 10000) (g0 : 0 < g) (ht : t.natAbs ≤ 10000) (t0 : 0 < t) : SwOk 10000 10000 g 9999 (-t) := by
  refine ⟨by omega, ?_, by decide, hg, by decide, by rw [Int.natAbs_neg]; exact ht⟩
  have e : firstL [10000, g, 9999, -t] = 10000 := by simp [firstL]
  have d : gcdL 0 [10000, g, 9999, -t] = 1 := by
    obtain ⟨_, q⟩ := gcdL_dvd (xs := [10000, g, 9999, -t]) (g := 0)
    have q1 := q 10000 (by simp)
    have q2 := q 9999 (by simp)
    have : gcdL 0 [10000, g, 9999, -t] ∣ (10000 - 9999) := Nat.dvd_sub q1 q2
    exact Nat.dvd_one.mp this
  unfold shortL
  rw [e, d]
  simp
theorem great_ok2 {g t : Int} (hg : g.natAbs ≤ 10000) (g0 : 0 < g) (ht : t.natAbs ≤ 10000) (t0 : 0 < t) : SwOk 10000 9999 g 1 (-t) := by
  refine ⟨by omega, ?_, by decide, hg, by decide, by rw [Int.natAbs_neg]; exact ht⟩
  have e : firstL [9999, g, 1, -t] = 9999 := by simp [firstL]
  have d : gcdL 0 [9999, g, 1, -t] = 1 := by
    obtain ⟨_, q⟩ := gcdL_dvd (xs := [9999, g, 1, -t]) (g := 0)
    have q2 := q 1 (by simp)
    exact Nat.dvd_one.mp q2
  unfold shortL
  rw [e, d]
  simp
theorem made_great (k : Nat) (s : Sto) : call G (k + 12) 18 [sw 1 10000 0 1, .int 1000, .int (-999)] s = .ok (sw 1 10000000 0 1) s := by
  have e := made_swing_spec (k + 6) s (u := 1000) (v := -999) (step_ok (g := 10000) (by decide)) (by decide) (by decide) (by decide) (by decide)
  rw [if_neg (by decide)] at e
  rw [e]
  rfl
theorem great_nums {g t h : Int} (hg : g.natAbs ≤ 10000) (g0 : 0 < g) (ht : t.natAbs ≤ 10000) (t0 : 0 < t) (h0 : 0 < h) (d1 : h ∣ g) (d2 : h ∣ t) :
    agB 1 g 0 1 1 t 0 1 = true ∧ makeD 1 g 0 1 1 t 0 1 = .tup (iL (shortL [t / h, g / h - t / h])) ∧ (g / h).natAbs ≤ 10000 ∧ (t / h).natAbs ≤ 10000 ∧ ¬ (t / h = 0 ∧ g / h - t / h = 0) := by
  obtain ⟨G', rfl⟩ := d1
  obtain ⟨T', rfl⟩ := d2
  have hn : h ≠ 0 := by omega
  rw [Int.mul_ediv_cancel_left _ hn, Int.mul_ediv_cancel_left _ hn]
  have gp : 0 < G' := Int.pos_of_mul_pos_right g0 h0
  have tp : 0 < T' := Int.pos_of_mul_pos_right t0 h0
  have n0 : ¬ (T' = 0 ∧ G' - T' = 0) := by omega
  have hx : NotOne 1 (h * G') 0 1 := fun e => by
    have := e.2.1
    omega
  obtain ⟨m1, m2⟩ := num_made (u := T') (v := G' - T') (j := G') (step_ok hg) (step_ok ht) hx (by omega) n0 (by omega) (by grind) (by omega) (by omega)
  refine ⟨m1, ?_, Nat.le_trans (abs_mul_le hn) hg, Nat.le_trans (abs_mul_le hn) ht, n0⟩
  unfold makeD
  have n1 : ¬ [1, h * G', 0, 1] = [1, 0, 0, (1 : Int)] := by
    intro e
    simp only [List.cons.injEq, and_true] at e
    omega
  rw [if_neg n1, m2]
  rfl
def great_rest : RS := (.seq (.set (.tup (.cons (.name 3) (.cons (.name 4) .nil))) (.tup (.cons (.tup (.cons (.c (.int 1)) (.cons (.var 1) (.cons (.c (.int 0)) (.cons (.c (.int 1)) .nil))))) (.cons (.tup (.cons (.c (.int 1)) (.cons (.var 2) (.cons (.c (.int 0)) (.cons (.c (.int 1)) .nil))))) .nil)))) (.seq (.set (.name 5) (.call 27 (.cons (.var 1) (.cons (.var 2) .nil)))) (.seq (.set (.name 6) (.lst false (.cons (.call 16 (.cons (.var 3) (.cons (.var 4) .nil))) (.cons (.call 19 (.cons (.var 3) (.cons (.var 4) .nil))) (.cons (.call 16 (.cons (.tup (.cons (.var 1) (.cons (.c (.int 0)) (.cons (.c (.int 0)) (.cons (.c (.int 1)) .nil))))) (.cons (.tup (.cons (.c (.int 1)) (.cons (.c (.int 0)) (.cons (.c (.int 0)) (.cons (.var 2) .nil))))) .nil))) (.cons (.call 18 (.cons (.tup (.cons (.c (.int 1)) (.cons (.bin .pow false (.c (.int 10)) (.c (.int 4))) (.cons (.c (.int 0)) (.cons (.c (.int 1)) .nil))))) (.cons (.c (.int 1000)) (.cons (.neg (.c (.int 999))) .nil)))) .nil)))))) (.seq (.set (.name 7) (.lst false (.cons (.c (.bl true)) (.cons (.call 28 (.cons (.tup (.cons (.bin .fdiv false (.var 2) (.var 5)) (.cons (.bin .sub false (.bin .fdiv false (.var 1) (.var 5)) (.bin .fdiv false (.var 2) (.var 5))) .nil))) .nil)) (.cons (.c (.bl true)) (.cons (.tup (.cons (.c (.int 1)) (.cons (.bin .pow false (.c (.int 10)) (.c (.int 7))) (.cons (.c (.int 0)) (.cons (.c (.int 1)) .nil))))) .nil)))))) (.seq (.ret (.and (.call 25 (.cons (.var 6) (.cons (.var 7) .nil))) (.call 42 (.cons (.var 0) (.cons (.tup (.cons (.bin .pow false (.c (.int 10)) (.c (.int 4))) (.cons (.var 1) (.cons (.c (.int 9999)) (.cons (.neg (.var 2)) .nil))))) (.cons (.tup (.cons (.c (.int 9999)) (.cons (.var 1) (.cons (.c (.int 1)) (.cons (.neg (.var 2)) .nil))))) .nil)))))) .pass)))))
theorem great_cut : b__law_great_right = (.seq (.set (.tup (.cons (.name 1) (.cons (.name 2) .nil))) (.tup (.cons (.bin .add false (.c (.int 1)) (.call 22 (.cons (.var 0) (.cons (.bin .pow false (.c (.int 10)) (.c (.int 4))) .nil)))) (.cons (.bin .add false (.c (.int 1)) (.call 22 (.cons (.var 0) (.cons (.bin .pow false (.c (.int 10)) (.c (.int 4))) .nil)))) .nil)))) great_rest) := rfl
theorem great_abs (c : Nat → List D → Sto → R D) (l : Option (Nat → List D → Sto → R D)) (s : Sto) (g t h : Int) (due : D) {N : Px.Env → Sto → Prop} {T : D → Sto → Prop}
    (h0 : 0 < h) (hd : divOk h = true)
    (e0 : c 27 [.int g, .int t] s = .ok (.int h) s) (e1 : c 16 [sw 1 g 0 1, sw 1 t 0 1] s = .ok (.bl true) s) (e2 : c 19 [sw 1 g 0 1, sw 1 t 0 1] s = .ok due s) (e3 : c 16 [sw g 0 0 1, sw 1 0 0 t] s = .ok (.bl true) s)
    (e4 : c 18 [sw 1 10000 0 1, .int 1000, .int (-999)] s = .ok (sw 1 10000000 0 1) s) (e5 : c 28 [.tup (iL [t / h, g / h - t / h])] s = .ok due s)
    (lk : c 25 [.lst [.bl true, due, .bl true, .tup [.int 1, .int 10000000, .int 0, .int 1]], .lst [.bl true, due, .bl true, .tup [.int 1, .int 10000000, .int 0, .int 1]]] s = .ok (.bl true) s)
    (rt : Wp (c 42 [.cel 0, sw 10000 g 9999 (-t), sw 9999 g 1 (-t)] s) T) :
    Wf (ex great_rest ⟨c, l⟩ [some (.cel 0), some (.int g), some (.int t), none, none, none, none, none] s) N T := by
  have p4 : powOk 10 4 = true := by decide
  have p7 : powOk 10 7 = true := by decide
  simp only [iL, List.map_cons, List.map_nil, sw] at e1 e2 e3 e4 e5 rt
  simp [great_rest, seqOf, e0, p4, p7, h0, hd, e1, e2, e3, e4, e5, lk]
  exact rt
theorem great_tail (k : Nat) (s2 : Sto) (hc2 : CupE s2) {g t : Int} (g0 : 0 < g) (g1 : g.natAbs ≤ 10000) (t0 : 0 < t) (t1 : t.natAbs ≤ 10000) (N : Px.Env → Sto → Prop) (c : Nat → List D → Sto → R D) (l : Option (Nat → List D → Sto → R D)) (hcc : Px.call G (k + 12) = c) :
    Wf (ex great_rest ⟨c, l⟩ [some (.cel 0), some (.int g), some (.int t), none, none, none, none, none] s2) N fun d s' => d = .bl true ∧ CupE s' := by
  obtain ⟨h, eh⟩ : ∃ h : Int, ((Nat.gcd g.natAbs t.natAbs : Nat) : Int) = h := ⟨_, rfl⟩
  have e0 := hGcd (k + 11) g t s2 (big_of (bd_le (n := 14) t1 (by decide)) (by decide))
  have h0 : 0 < h := by
    rw [← eh]
    exact Int.natCast_pos.mpr (Nat.gcd_pos_of_pos_left _ (by omega))
  have d1 : h ∣ g := by
    rw [← eh]
    exact Int.ofNat_dvd_left.mpr (Nat.gcd_dvd_left _ _)
  have d2 : h ∣ t := by
    rw [← eh]
    exact Int.ofNat_dvd_left.mpr (Nat.gcd_dvd_right _ _)
  have h1 : h.natAbs ≤ 10000 := by
    have := Int.le_of_dvd t0 d2
    omega
  rw [eh] at e0
  obtain ⟨a1, a2, a3, a4, a5⟩ := great_nums g1 g0 t1 t0 h0 d1 d2
  have hd : divOk h = true := div_ok (hb := bd_le (n := 14) h1 (by decide)) (by decide)
  have sg := step_ok g1
  have st := step_ok t1
  have e1 := agree_spec (k + 5) s2 sg st
  have e2 := making_spec (k + 5) s2 sg st
  rw [a1] at e1
  rw [a2] at e2
  have e3 := agree_spec (k + 5) s2 (dbl_ok g1 g0) (hlf_ok t1 t0)
  have a6 : agB g 0 0 1 1 0 0 t = true := ag_of (u := 1) (v := 1) (dbl_ok g1 g0) (hlf_ok t1 t0) (by decide) (by decide) (by grind) (by grind) (by grind) (by grind)
  rw [a6] at e3
  have e4 := made_great k s2
  have e5 := hShortL (k + 10) [t / h, g / h - t / h] s2 (by simp) (nz2 a5) (by
    intro z hz
    simp only [List.mem_cons, List.not_mem_nil, or_false] at hz
    rcases hz with rfl | rfl
    · exact big_of (bd_le (n := 14) a4 (by decide)) (by decide)
    · exact big_of (bd_le (n := 20) (m := 20000) (by omega) (by decide)) (by decide))
  have rt := right_spec k s2 hc2 (great_ok g1 g0 t1 t0) (great_ok2 g1 g0 t1 t0)
  have hpure : pureD 4 (.lst [.bl true, .tup (iL (shortL [t / h, g / h - t / h])), .bl true, .tup [.int 1, .int 10000000, .int 0, .int 1]]) = true := by
    have hl := short_len [t / h, g / h - t / h]
    rcases q : shortL [t / h, g / h - t / h] with _ | ⟨x, _ | ⟨y, _ | ⟨z, zs⟩⟩⟩ <;> rw [q] at hl <;> simp at hl
    rfl
  have lk := hLike 4
  have lk := lk (k + 12)
  have lk := lk (.lst [.bl true, .tup (iL (shortL [t / h, g / h - t / h])), .bl true, .tup [.int 1, .int 10000000, .int 0, .int 1]])
  have lk := lk s2
  have lk := lk hpure
  have lk := lk (show 4 + 1 ≤ k + 12 by omega)
  simp only [Nat.add_assoc, Nat.reduceAdd] at e0 e1 e2 e3 e5
  rw [hcc] at e0 e1 e2 e3 e4 e5 lk rt
  exact great_abs c l s2 g t h (.tup (iL (shortL [t / h, g / h - t / h]))) h0 hd e0 e1 e2 e3 e4 e5 lk rt
theorem great_spec (k : Nat) (s : Sto) (hc : CupE s) : Wp (call G (k + 13) 44 [.cel 0] s) fun d s' => d = .bl true ∧ CupE s' := by
  have p4 : powOk 10 4 = true := by decide
  have rl := fun s rest hc => hRoll (k + 11) 10000 s rest hc (by decide) (by decide)
  rw [call_eq (g := g__law_great_right) rfl, if_pos (by rfl), wp_endF]
  simp only [Nat.add_assoc, Nat.reduceAdd] at rl
  generalize hcc : Px.call G (k + 12) = c at rl ⊢
  generalize low G (k + 12) = l
  have fin := fun s2 hc2 g t g0 g1 t0 t1 => @great_tail k s2 hc2 g t g0 g1 t0 t1 (fun _ s => D.non = .bl true ∧ CupE s) c l hcc
  obtain ⟨rest, hc⟩ := hc
  show Wf (ex b__law_great_right ⟨c, l⟩ [some (.cel 0), none, none, none, none, none, none, none] s) _ _
  rw [great_cut]
  generalize great_rest = rr at fin ⊢
  simp [p4]
  refine (rl s rest hc).mono ?_
  rintro _ s1 ⟨v, rfl, v0, v1, hc1⟩
  simp
  refine (rl s1 rest hc1).mono ?_
  rintro _ s2 ⟨w, rfl, w0, w1, hc2⟩
  obtain ⟨g, eg⟩ : ∃ g, 1 + v = g := ⟨_, rfl⟩
  obtain ⟨t, et⟩ : ∃ t, 1 + w = t := ⟨_, rfl⟩
  have fin := fin s2 ⟨rest, hc2⟩ g t (by omega) (by omega) (by omega) (by omega)
  simp [seqOf, eg, et]
  simpa using fin
end Lw
end

section
set_option Elab.async false
set_option linter.all false
set_option maxRecDepth 100000
set_option maxHeartbeats 1000000
set_option exponentiation.threshold 10000
/-! k36: written swings, the law. -/
namespace Lw
open PySem Px
theorem cW1 (k : Nat) (s : Sto) : call G (k + 12) 16 [sw 1 1 0 1, sw 2 0 0 1] s = .ok (.bl false) s := by kernel_rfl
theorem cW2 (k : Nat) (s : Sto) : call G (k + 12) 16 [sw 1 1 0 1, sw 1 5 0 1] s = .ok (.bl true) s := by kernel_rfl
theorem cW3 (k : Nat) (s : Sto) : call G (k + 12) 16 [sw 0 1 1 0, sw 1 0 0 (-1)] s = .ok (.bl true) s := by kernel_rfl
theorem cW4 (k : Nat) (s : Sto) : call G (k + 12) 17 [sw 0 1 1 0, sw 1 0 0 (-1)] s = .ok (.bl true) s := by kernel_rfl
theorem cW5 (k : Nat) (s : Sto) : call G (k + 12) 17 [sw 0 1 1 0, sw 0 1 1 0] s = .ok (.bl false) s := by kernel_rfl
theorem cW6 (k : Nat) (s : Sto) : call G (k + 12) 17 [sw 0 1 1 0, sw 0 1 (-1) 0] s = .ok (.bl true) s := by kernel_rfl
theorem cW7 (k : Nat) (s : Sto) : call G (k + 12) 18 [sw 1 1 0 1, .int 1, .int 1] s = .ok (sw 2 1 0 2) s := by kernel_rfl
theorem cW8 (k : Nat) (s : Sto) : call G (k + 12) 19 [sw 1 1 0 1, sw 1 5 0 1] s = .ok (.tup [.int 5, .int (-4)]) s := by kernel_rfl
theorem cW9 (k : Nat) (s : Sto) : call G (k + 12) 19 [sw 0 1 1 0, sw 1 0 0 (-1)] s = .ok .non s := by kernel_rfl
theorem cW10 (k : Nat) (s : Sto) : call G (k + 12) 19 [sw 1 1 0 1, sw 1 0 0 1] s = .ok (.tup [.int 0, .int 1]) s := by kernel_rfl
theorem cW11 (k : Nat) (s : Sto) : call G (k + 12) 19 [sw 1 0 0 1, sw 1 0 0 1] s = .ok (.tup [.int 0, .int 1]) s := by kernel_rfl
theorem cW13 (k : Nat) (s : Sto) : call G (k + 12) 19 [sw 1 2 0 1, sw 1 4 0 1] s = .ok (.tup [.int 2, .int (-1)]) s := by kernel_rfl
/-- a written involution and what is crossed with it -/
theorem cW12 (k : Nat) (s : Sto) : ∃ x y z w, call G (k + 12) 20 [sw 0 1 (-1) 0] s = .ok (sw x y z (-x)) (s ++ w) ∧ ∀ s, call G (k + 12) 17 [sw 0 1 (-1) 0, sw x y z (-x)] s = .ok (.bl true) s := by
  have o : SwOk 1 0 1 (-1) (-0) := ⟨by decide, by decide, by decide, by decide, by decide, by decide⟩
  obtain ⟨x, y, z, o', h, hw⟩ := crossed_with_spec o (by decide) (by decide)
  obtain ⟨w, e⟩ := hw (k + 6) s
  obtain ⟨h1, h2, _⟩ := cross_pure o o' h
  have c := cr_true h1 h2
  have e2 := fun s => crossed_spec (k + 5) s (o.up (by decide)) (o'.up (by decide))
  refine ⟨x, y, z, w, e, fun s => ?_⟩
  have e2 := e2 s
  rw [c] at e2
  exact e2
theorem ok_by {a b c d : Int} (h : (a * d - b * c ≠ 0 ∧ shortL [a, b, c, d] = [a, b, c, d]) ∧ a.natAbs ≤ 10000 ∧ b.natAbs ≤ 10000 ∧ c.natAbs ≤ 10000 ∧ d.natAbs ≤ 10000) : SwOk 10000 a b c d := ⟨h.1.1, h.1.2, h.2.1, h.2.2.1, h.2.2.2.1, h.2.2.2.2⟩
def eight : List D := [sw 1 0 0 1, sw 1 1 0 1, sw 2 0 0 1, sw 0 1 1 0, sw 0 1 (-1) 0, sw 1 0 0 (-1), sw 0 1 (-1) 1, sw 1 1 (-1) 1]
def IsOk (d : D) : Prop := ∃ a b c e, d = sw a b c e ∧ SwOk 10000 a b c e
theorem eight_ok : ∀ d ∈ eight, IsOk d := by
  intro d hd
  simp only [eight, List.mem_cons, List.not_mem_nil, or_false] at hd
  rcases hd with rfl | rfl | rfl | rfl | rfl | rfl | rfl | rfl <;> exact ⟨_, _, _, _, rfl, ok_by (by decide)⟩
def RightC (c : Nat → List D → Sto → R D) : Prop := ∀ (s : Sto), CupE s → ∀ (a b e d p q r t : Int), SwOk 10000 a b e d → SwOk 10000 p q r t → Wp (c 42 [.cel 0, sw a b e d, sw p q r t] s) fun d s' => d = .bl true ∧ CupE s'
theorem right_c {c : Nat → List D → Sto → R D} (k : Nat) (hcc : Px.call G (k + 12) = c) : RightC c := by
  intro s hc a b e d p q r t x y
  have rt := right_spec k s hc x y
  rw [hcc] at rt
  exact rt
section
variable (c : Nat → List D → Sto → R D) (l : Option (Nat → List D → Sto → R D)) (hR : RightC c)
include hR
abbrev innF (c : Nat → List D → Sto → R D) (l : Option (Nat → List D → Sto → R D)) (ρ : Px.Env) : D → Sto → R (Option D) := itemZ (den (.not (.call 42 (.cons (.var 0) (.cons (.var 10) (.cons (.var 11) .nil))))) ⟨c, l⟩) (den (.var 11) ⟨c, l⟩) [11] (.name 11) ρ
theorem inn_loop (s : Sto) (hc : CupE s) {o1 o2 o3 o4 o5 o6 o7 o8 o9 o11 : Option D} {a b e d : Int} (x : SwOk 10000 a b e d) : Wp (compL (innF c l [some (.cel 0), o1, o2, o3, o4, o5, o6, o7, o8, o9, some (sw a b e d), o11]) eight [] s) fun xs s' => xs = [] ∧ CupE s' := by
  refine wp_compI (fun xs acc s => acc = [] ∧ CupE s ∧ ∀ d ∈ xs, IsOk d) ⟨rfl, hc, eight_ok⟩ (fun acc s h => ⟨h.1, h.2.1⟩) ?_
  rintro y xs acc s ⟨rfl, hc, hx⟩
  obtain ⟨p, q, r, t, rfl, o⟩ := hx y List.mem_cons_self
  have rt := hR s hc _ _ _ _ _ _ _ _ x o
  simp only [sw] at rt
  simp [itemZ_eq, wipe, sw]
  refine rt.mono ?_
  rintro _ s' ⟨rfl, hc'⟩
  simp
  exact ⟨hc', fun y hy => hx y (List.mem_cons_of_mem _ hy)⟩
abbrev outF (c : Nat → List D → Sto → R D) (l : Option (Nat → List D → Sto → R D)) (ρ : Px.Env) : D → Sto → R (Option D) := itemZ (den (.cmp .ne (.comp false (.var 11) [11] (.name 11) (.seq (.var 9)) (.not (.call 42 (.cons (.var 0) (.cons (.var 10) (.cons (.var 11) .nil)))))) (.lst false .nil)) ⟨c, l⟩) (den (.var 10) ⟨c, l⟩) [10] (.name 10) ρ
theorem eq_nil (s : Sto) : eqD s (.lst []) (.lst []) = some true := rfl
theorem out_loop (s : Sto) (hc : CupE s) {o1 o2 o3 o4 o5 o6 o7 o8 o10 o11 : Option D} : Wp (compL (outF c l [some (.cel 0), o1, o2, o3, o4, o5, o6, o7, o8, some (.lst eight), o10, o11]) eight [] s) fun xs s' => xs = [] ∧ CupE s' := by
  have f8 : fit eight.length = true := by decide
  refine wp_compI (fun xs acc s => acc = [] ∧ CupE s ∧ ∀ d ∈ xs, IsOk d) ⟨rfl, hc, eight_ok⟩ (fun acc s h => ⟨h.1, h.2.1⟩) ?_
  rintro y xs acc s ⟨rfl, hc, hx⟩
  obtain ⟨p, q, r, t, rfl, o⟩ := hx y List.mem_cons_self
  have rt := inn_loop c l hR s hc (o1 := o1) (o2 := o2) (o3 := o3) (o4 := o4) (o5 := o5) (o6 := o6) (o7 := o7) (o8 := o8) (o9 := some (.lst eight)) (o11 := none) o
  generalize eight = l8 at f8 rt ⊢
  simp only [sw] at rt
  unfold outF
  simp [itemZ_eq, wipe, sw, f8]
  simp only [innF, itemZ_eq, wipe] at rt
  refine rt.mono ?_
  rintro _ s' ⟨rfl, hc'⟩
  simp [eq_nil]
  exact ⟨hc', fun y hy => hx y (List.mem_cons_of_mem _ hy)⟩
end
def told_re : RE := (.lst true (.cons (.call 16 (.cons (.var 2) (.cons (.var 3) .nil))) (.cons (.call 16 (.cons (.var 2) (.cons (.tup (.cons (.c (.int 1)) (.cons (.c (.int 5)) (.cons (.c (.int 0)) (.cons (.c (.int 1)) .nil))))) .nil))) (.cons (.call 16 (.cons (.var 4) (.cons (.var 6) .nil))) (.cons (.call 17 (.cons (.var 4) (.cons (.var 6) .nil))) (.cons (.call 17 (.cons (.var 4) (.cons (.var 4) .nil))) (.cons (.call 17 (.cons (.var 4) (.cons (.var 5) .nil))) (.cons (.call 18 (.cons (.var 2) (.cons (.c (.int 1)) (.cons (.c (.int 1)) .nil)))) (.cons (.call 19 (.cons (.var 2) (.cons (.tup (.cons (.c (.int 1)) (.cons (.c (.int 5)) (.cons (.c (.int 0)) (.cons (.c (.int 1)) .nil))))) .nil))) (.cons (.call 19 (.cons (.var 4) (.cons (.var 6) .nil))) (.cons (.call 19 (.cons (.var 2) (.cons (.var 1) .nil))) (.cons (.call 19 (.cons (.var 1) (.cons (.var 1) .nil))) (.cons (.call 17 (.cons (.var 5) (.cons (.call 20 (.cons (.var 5) .nil)) .nil))) .nil)))))))))))))
theorem written_cut : b__law_written_right = (.seq (.set (.tup (.cons (.name 1) (.cons (.name 2) (.cons (.name 3) (.cons (.name 4) (.cons (.name 5) (.cons (.name 6) .nil))))))) (.tup (.cons (.tup (.cons (.c (.int 1)) (.cons (.c (.int 0)) (.cons (.c (.int 0)) (.cons (.c (.int 1)) .nil))))) (.cons (.tup (.cons (.c (.int 1)) (.cons (.c (.int 1)) (.cons (.c (.int 0)) (.cons (.c (.int 1)) .nil))))) (.cons (.tup (.cons (.c (.int 2)) (.cons (.c (.int 0)) (.cons (.c (.int 0)) (.cons (.c (.int 1)) .nil))))) (.cons (.tup (.cons (.c (.int 0)) (.cons (.c (.int 1)) (.cons (.c (.int 1)) (.cons (.c (.int 0)) .nil))))) (.cons (.tup (.cons (.c (.int 0)) (.cons (.c (.int 1)) (.cons (.neg (.c (.int 1))) (.cons (.c (.int 0)) .nil))))) (.cons (.tup (.cons (.c (.int 1)) (.cons (.c (.int 0)) (.cons (.c (.int 0)) (.cons (.neg (.c (.int 1))) .nil))))) .nil)))))))) (.seq (.set (.name 7) told_re) (.seq (.drop (.meth .append (.var 7) (.cons (.call 19 (.cons (.tup (.cons (.c (.int 1)) (.cons (.c (.int 2)) (.cons (.c (.int 0)) (.cons (.c (.int 1)) .nil))))) (.cons (.tup (.cons (.c (.int 1)) (.cons (.c (.int 4)) (.cons (.c (.int 0)) (.cons (.c (.int 1)) .nil))))) .nil))) .nil))) (.seq (.set (.name 8) (.lst false (.cons (.c (.bl false)) (.cons (.c (.bl true)) (.cons (.c (.bl true)) (.cons (.c (.bl true)) (.cons (.c (.bl false)) (.cons (.c (.bl true)) (.cons (.tup (.cons (.c (.int 2)) (.cons (.c (.int 1)) (.cons (.c (.int 0)) (.cons (.c (.int 2)) .nil))))) (.cons (.tup (.cons (.c (.int 5)) (.cons (.neg (.c (.int 4))) .nil))) (.cons (.c .non) (.cons (.tup (.cons (.c (.int 0)) (.cons (.c (.int 1)) .nil))) (.cons (.tup (.cons (.c (.int 0)) (.cons (.c (.int 1)) .nil))) (.cons (.c (.bl true)) (.cons (.tup (.cons (.c (.int 2)) (.cons (.neg (.c (.int 1))) .nil))) .nil))))))))))))))) (.seq (.ifs (.not (.call 25 (.cons (.var 7) (.cons (.var 8) .nil)))) (.seq (.ret (.c (.bl false))) .pass) .pass) (.seq (.set (.name 9) (.lst false (.cons (.var 1) (.cons (.var 2) (.cons (.var 3) (.cons (.var 4) (.cons (.var 5) (.cons (.var 6) (.cons (.tup (.cons (.c (.int 0)) (.cons (.c (.int 1)) (.cons (.neg (.c (.int 1))) (.cons (.c (.int 1)) .nil))))) (.cons (.tup (.cons (.c (.int 1)) (.cons (.c (.int 1)) (.cons (.neg (.c (.int 1))) (.cons (.c (.int 1)) .nil))))) .nil)))))))))) (.seq (.ret (.cmp .eq (.comp false (.var 10) [10] (.name 10) (.seq (.var 9)) (.cmp .ne (.comp false (.var 11) [11] (.name 11) (.seq (.var 9)) (.not (.call 42 (.cons (.var 0) (.cons (.var 10) (.cons (.var 11) .nil)))))) (.lst false .nil))) (.lst false .nil))) .pass))))))) := rfl
theorem told_den (c : Nat → List D → Sto → R D) (l : Option (Nat → List D → Sto → R D)) (s s1 : Sto) (cr : D)
    (l1 : ∀ s, c 16 [sw 1 1 0 1, sw 2 0 0 1] s = .ok (.bl false) s) (l2 : ∀ s, c 16 [sw 1 1 0 1, sw 1 5 0 1] s = .ok (.bl true) s) (l3 : ∀ s, c 16 [sw 0 1 1 0, sw 1 0 0 (-1)] s = .ok (.bl true) s) (l4 : ∀ s, c 17 [sw 0 1 1 0, sw 1 0 0 (-1)] s = .ok (.bl true) s)
    (l5 : ∀ s, c 17 [sw 0 1 1 0, sw 0 1 1 0] s = .ok (.bl false) s) (l6 : ∀ s, c 17 [sw 0 1 1 0, sw 0 1 (-1) 0] s = .ok (.bl true) s) (l7 : ∀ s, c 18 [sw 1 1 0 1, .int 1, .int 1] s = .ok (sw 2 1 0 2) s) (l8 : ∀ s, c 19 [sw 1 1 0 1, sw 1 5 0 1] s = .ok (.tup [.int 5, .int (-4)]) s)
    (l9 : ∀ s, c 19 [sw 0 1 1 0, sw 1 0 0 (-1)] s = .ok .non s) (l10 : ∀ s, c 19 [sw 1 1 0 1, sw 1 0 0 1] s = .ok (.tup [.int 0, .int 1]) s) (l11 : ∀ s, c 19 [sw 1 0 0 1, sw 1 0 0 1] s = .ok (.tup [.int 0, .int 1]) s) (l13 : ∀ s, c 19 [sw 1 2 0 1, sw 1 4 0 1] s = .ok (.tup [.int 2, .int (-1)]) s)
    (e1 : c 20 [sw 0 1 (-1) 0] s = .ok cr s1) (e2 : c 17 [sw 0 1 (-1) 0, cr] s1 = .ok (.bl true) s1)
    (n : Unit) : den told_re ⟨c, l⟩ [some (.cel 0), some (sw 1 0 0 1), some (sw 1 1 0 1), some (sw 2 0 0 1), some (sw 0 1 1 0), some (sw 0 1 (-1) 0), some (sw 1 0 0 (-1)), none, none, none, none, none] s = .ok (.cel s1.length) (s1 ++ [[.bl false, .bl true, .bl true, .bl true, .bl false, .bl true, .tup [.int 2, .int 1, .int 0, .int 2], .tup [.int 5, .int (-4)], .non, .tup [.int 0, .int 1], .tup [.int 0, .int 1], .bl true]]) := by
  simp only [sw] at l1 l2 l3 l4 l5 l6 l7 l8 l9 l10 l11 l13 e1 e2
  simp [told_re, sw, l1, l2, l3, l4, l5, l6, l7, l8, l9, l10, l11, l13, e1, e2]
theorem written_abs (c : Nat → List D → Sto → R D) (l : Option (Nat → List D → Sto → R D)) (hR : RightC c) (s s1 : Sto) (hc2 : CupE s1) (cr : D) {N : Px.Env → Sto → Prop}
    (l1 : ∀ s, c 16 [sw 1 1 0 1, sw 2 0 0 1] s = .ok (.bl false) s) (l2 : ∀ s, c 16 [sw 1 1 0 1, sw 1 5 0 1] s = .ok (.bl true) s) (l3 : ∀ s, c 16 [sw 0 1 1 0, sw 1 0 0 (-1)] s = .ok (.bl true) s) (l4 : ∀ s, c 17 [sw 0 1 1 0, sw 1 0 0 (-1)] s = .ok (.bl true) s)
    (l5 : ∀ s, c 17 [sw 0 1 1 0, sw 0 1 1 0] s = .ok (.bl false) s) (l6 : ∀ s, c 17 [sw 0 1 1 0, sw 0 1 (-1) 0] s = .ok (.bl true) s) (l7 : ∀ s, c 18 [sw 1 1 0 1, .int 1, .int 1] s = .ok (sw 2 1 0 2) s) (l8 : ∀ s, c 19 [sw 1 1 0 1, sw 1 5 0 1] s = .ok (.tup [.int 5, .int (-4)]) s)
    (l9 : ∀ s, c 19 [sw 0 1 1 0, sw 1 0 0 (-1)] s = .ok .non s) (l10 : ∀ s, c 19 [sw 1 1 0 1, sw 1 0 0 1] s = .ok (.tup [.int 0, .int 1]) s) (l11 : ∀ s, c 19 [sw 1 0 0 1, sw 1 0 0 1] s = .ok (.tup [.int 0, .int 1]) s) (l13 : ∀ s, c 19 [sw 1 2 0 1, sw 1 4 0 1] s = .ok (.tup [.int 2, .int (-1)]) s)
    (e1 : c 20 [sw 0 1 (-1) 0] s = .ok cr s1) (e2 : c 17 [sw 0 1 (-1) 0, cr] s1 = .ok (.bl true) s1)
    (lc : c 25 [.cel s1.length, .lst [.bl false, .bl true, .bl true, .bl true, .bl false, .bl true, .tup [.int 2, .int 1, .int 0, .int 2], .tup [.int 5, .int (-4)], .non, .tup [.int 0, .int 1], .tup [.int 0, .int 1], .bl true, .tup [.int 2, .int (-1)]]] (s1 ++ [[.bl false, .bl true, .bl true, .bl true, .bl false, .bl true, .tup [.int 2, .int 1, .int 0, .int 2], .tup [.int 5, .int (-4)], .non, .tup [.int 0, .int 1], .tup [.int 0, .int 1], .bl true, .tup [.int 2, .int (-1)]]]) = .ok (.bl true) (s1 ++ [[.bl false, .bl true, .bl true, .bl true, .bl false, .bl true, .tup [.int 2, .int 1, .int 0, .int 2], .tup [.int 5, .int (-4)], .non, .tup [.int 0, .int 1], .tup [.int 0, .int 1], .bl true, .tup [.int 2, .int (-1)]]])) :
    Wf (ex b__law_written_right ⟨c, l⟩ [some (.cel 0), none, none, none, none, none, none, none, none, none, none, none] s) N fun d _ => d = .bl true := by
  have f8 : fit 8 = true := by decide
  have hc3 : ∀ L, CupE (s1 ++ [L]) := fun L => hc2.app [L]
  have fin := fun L o1 o2 o3 o4 o5 o6 o7 o8 o10 o11 => out_loop c l hR (s1 ++ [L]) (hc3 L) (o1 := o1) (o2 := o2) (o3 := o3) (o4 := o4) (o5 := o5) (o6 := o6) (o7 := o7) (o8 := o8) (o10 := o10) (o11 := o11)
  clear hc3 hc2
  have td := told_den c l s s1 cr l1 l2 l3 l4 l5 l6 l7 l8 l9 l10 l11 l13 e1 e2 ()
  clear l1 l2 l3 l4 l5 l6 l7 l8 l9 l10 l11 e1 e2
  rw [written_cut]
  generalize told_re = tr at td ⊢
  simp only [sw, eight, outF] at td l13 fin
  simp [seqOf, td, l13, meD, meL, set_last, lc, f8]
  refine (fin _ _ _ _ _ _ _ _ _ _ _).mono ?_
  rintro a s' ⟨rfl, _⟩
  simp [eq_nil]
theorem written_spec (k : Nat) (s : Sto) (hc : CupE s) : Wp (call G (k + 13) 45 [.cel 0] s) fun d s' => d = .bl true := by
  have h12 := cW12 k s
  have l1 := cW1 k; have l2 := cW2 k; have l3 := cW3 k; have l4 := cW4 k; have l5 := cW5 k; have l6 := cW6 k; have l7 := cW7 k; have l8 := cW8 k; have l9 := cW9 k; have l10 := cW10 k; have l11 := cW11 k; have l13 := cW13 k
  have lc := fun s1 : Sto => like_cel (G := G) (n := 25) (so := 24) rfl hSort (m := 2) (k := k + 12) (last_cel s1 [.bl false, .bl true, .bl true, .bl true, .bl false, .bl true, .tup [.int 2, .int 1, .int 0, .int 2], .tup [.int 5, .int (-4)], .non, .tup [.int 0, .int 1], .tup [.int 0, .int 1], .bl true, .tup [.int 2, .int (-1)]]) rfl rfl (by omega)
  rw [call_eq (g := g__law_written_right) rfl, if_pos (by rfl), wp_endF]
  generalize hcc : Px.call G (k + 12) = c at l1 l2 l3 l4 l5 l6 l7 l8 l9 l10 l11 l13 h12 lc ⊢
  generalize low G (k + 12) = l
  obtain ⟨x, y, z, w, e1, e2⟩ := h12
  exact written_abs c l (right_c k hcc) s (s ++ w) (hc.app w) _ l1 l2 l3 l4 l5 l6 l7 l8 l9 l10 l11 l13 e1 (e2 _) (lc _)
/-- what a turn of the law asks -/
def law_rest : RS := (.seq (.set (.name 5) (.ite (.cmp .ne (.call 32 (.cons (.var 4) .nil)) (.c (.int 0))) (.call 28 (.cons (.var 4) .nil)) (.tup (.cons (.c (.int 1)) (.cons (.c (.int 0)) (.cons (.c (.int 0)) (.cons (.c (.int 1)) .nil))))))) (.seq (.ifs (.not (.call 33 (.cons (.var 5) (.cons (.bin .pow false (.c (.int 10)) (.c (.int 4))) .nil)))) (.seq (.set (.name 5) (.tup (.cons (.c (.int 1)) (.cons (.c (.int 0)) (.cons (.c (.int 0)) (.cons (.c (.int 1)) .nil)))))) .pass) .pass) (.seq (.ifs (.or (.not (.call 42 (.cons (.var 1) (.cons (.var 3) (.cons (.var 5) .nil))))) (.not (.call 43 (.cons (.var 1) .nil)))) (.seq (.ret (.c (.bl false))) .pass) .pass) .pass)))
theorem ok_one : SwOk 10000 1 0 0 1 := ⟨by decide, by decide, by decide, by decide, by decide, by decide⟩
theorem rest_abs (c : Nat → List D → Sto → R D) (l : Option (Nat → List D → Sto → R D)) (hR : RightC c) (hX : ∀ s, CupE s → Wp (c 43 [.cel 0] s) fun d s' => d = .bl true ∧ CupE s') (s : Sto) (hc : CupE s) {a b e d P Q S T A B C E : Int} (x : SwOk 10000 a b e d) (m : Int) (bo : Bool) (o0 o2 : D) (o5 : Option D) {N : Px.Env → Sto → Prop} {T' : D → Sto → Prop}
    (e1 : c 32 [sw P Q S T] s = .ok (.int m) s) (one : c 33 [sw 1 0 0 1, .int 10000] s = .ok (.bl true) s) (e2 : m ≠ 0 → c 28 [sw P Q S T] s = .ok (sw A B C E) s) (e3 : c 33 [sw A B C E, .int 10000] s = .ok (.bl bo) s) (hb : bo = true → SwOk 10000 A B C E)
    (hN : ∀ d5 s', CupE s' → N [some o0, some (.cel 0), some o2, some (sw a b e d), some (sw P Q S T), some d5] s') :
    Wf (ex law_rest ⟨c, l⟩ [some o0, some (.cel 0), some o2, some (sw a b e d), some (sw P Q S T), o5] s) N T' := by
  have p4 : powOk 10 4 = true := by decide
  have fin : ∀ p q r t, SwOk 10000 p q r t → Wp (c 42 [.cel 0, sw a b e d, sw p q r t] s) fun d s' => d = .bl true ∧ CupE s' := fun p q r t y => hR s hc _ _ _ _ _ _ _ _ x y
  have fone := fin 1 0 0 1 ok_one
  simp only [sw] at hN fin fone e1 one e2 e3
  by_cases hm : m = 0
  · simp [law_rest, sw, e1, hm, p4, one]
    refine fone.mono ?_
    rintro _ s1 ⟨rfl, hc1⟩
    simp
    refine (hX s1 hc1).mono ?_
    rintro _ s2 ⟨rfl, hc2⟩
    simp
    exact hN _ _ hc2
  · have e2 := e2 hm
    cases bo with
    | true =>
      have fin := fin _ _ _ _ (hb rfl)
      simp [law_rest, sw, e1, hm, p4, e2, e3]
      refine fin.mono ?_
      rintro _ s1 ⟨rfl, hc1⟩
      simp
      refine (hX s1 hc1).mono ?_
      rintro _ s2 ⟨rfl, hc2⟩
      simp
      exact hN _ _ hc2
    | false =>
      simp [law_rest, sw, e1, hm, p4, e2, e3]
      refine fone.mono ?_
      rintro _ s1 ⟨rfl, hc1⟩
      simp
      refine (hX s1 hc1).mono ?_
      rintro _ s2 ⟨rfl, hc2⟩
      simp
      exact hN _ _ hc2
theorem isw1 (k : Nat) (s : Sto) (A B C E : Int) : call G (k + 13) 33 [sw A B C E, .int 10000] s = .ok (.bl (isSw 10000 (sw A B C E))) s := hIsw (k + 9) 10000 2 4 (sw A B C E) s rfl (by decide) (le_great (by decide))
theorem rest_law (k : Nat) (s : Sto) (hc : CupE s) {a b e d P Q S T : Int} (x : SwOk 10000 a b e d) (hP : P.natAbs ≤ 40000) (hQ : Q.natAbs ≤ 40000) (hS : S.natAbs ≤ 40000) (hT : T.natAbs ≤ 40000) (o0 o2 : D) (o5 : Option D) (N : Px.Env → Sto → Prop) (T' : D → Sto → Prop)
    (hN : ∀ d5 s', CupE s' → N [some o0, some (.cel 0), some o2, some (sw a b e d), some (sw P Q S T), some d5] s') (c : Nat → List D → Sto → R D) (l : Option (Nat → List D → Sto → R D)) (hcc : Px.call G (k + 14) = c) :
    Wf (ex law_rest ⟨c, l⟩ [some o0, some (.cel 0), some o2, some (sw a b e d), some (sw P Q S T), o5] s) N T' := by
  have e1 := hMeasL (k + 13) s P Q S T ((bd_le (n := 20) hP (by decide)).up (by decide)) ((bd_le (n := 20) hQ (by decide)).up (by decide)) ((bd_le (n := 20) hS (by decide)).up (by decide)) ((bd_le (n := 20) hT (by decide)).up (by decide))
  have hR : RightC c := right_c (k + 2) hcc
  have hX := fun s' hc' => crossed_right_spec (k + 1) s' hc'
  have one := isw1 (k + 1) s 1 0 0 1
  rw [show isSw 10000 (sw 1 0 0 1) = true from isSw_iff.mpr ⟨_, _, _, _, rfl, ok_one⟩] at one
  obtain ⟨A, B, C, E, e2, hA⟩ : ∃ A B C E, (P * T - Q * S ≠ 0 → call G (k + 14) 28 [sw P Q S T] s = .ok (sw A B C E) s) ∧ (isSw 10000 (sw A B C E) = true → SwOk 10000 A B C E) := by
    by_cases hn : P * T - Q * S = 0
    · exact ⟨1, 0, 0, 1, fun z => absurd hn z, fun _ => ok_one⟩
    · have e2 := short4 hShortL (k + 12) s (m := 20) (by decide) hn (bd_le hP (by decide)) (bd_le hQ (by decide)) (bd_le hS (by decide)) (bd_le hT (by decide))
      obtain ⟨A, B, C, E, j, eS, o, _⟩ := sw_short hn hP hQ hS hT
      rw [eS] at e2
      refine ⟨A, B, C, E, fun _ => e2, fun hi => ?_⟩
      obtain ⟨p, q, r, t, e, y⟩ := isSw_iff.mp hi
      simp only [sw, D.tup.injEq, List.cons.injEq, D.int.injEq, and_true] at e
      obtain ⟨rfl, rfl, rfl, rfl⟩ := e
      exact y
  have e3 := isw1 (k + 1) s A B C E
  simp only [Nat.add_assoc, Nat.reduceAdd] at e1 hX one e3
  rw [hcc] at e1 e2 one e3
  simp only [hcc] at hX
  exact rest_abs c l hR hX s hc x _ _ o0 o2 o5 e1 one e2 e3 hA hN
theorem law_cut : b_law = (.seq (.set (.name 1) (.call 21 (.cons (.var 0) .nil))) (.seq (.for (.name 2) (.rng (.cons (.c (.int 6)) .nil)) (.seq (.set (.name 3) (.call 37 (.cons (.var 1) .nil))) (.seq (.set (.name 4) (.ite (.cmp .eq (.call 22 (.cons (.var 1) (.cons (.c (.int 2)) .nil))) (.c (.int 0))) (.call 38 (.cons (.var 3) (.cons (.bin .add false (.c (.int 1)) (.call 22 (.cons (.var 1) (.cons (.c (.int 3)) .nil)))) (.cons (.bin .sub false (.call 22 (.cons (.var 1) (.cons (.c (.int 7)) .nil))) (.c (.int 3))) .nil)))) (.call 37 (.cons (.var 1) .nil)))) law_rest))) (.seq (.ret (.and (.call 44 (.cons (.var 1) .nil)) (.call 45 (.cons (.var 1) .nil)))) .pass))) := rfl
theorem law_spec (ns : List Int) (h1 : ns.length ≤ 63) (h2 : ∀ z ∈ ns, Builtin.Int.intBits z ≤ 1048576) : ∃ S, call (tabOf rs) 40 nLaw [.rl (ns.map .int)] [] = .ok (.bl true) S := by
  have key : Wp (call G 40 46 [.rl (ns.map .int)] []) fun d _ => d = .bl true := by
    have cup := hCup 38 ns h1 h2
    have any := fun s rest hc => hAny 30 s rest hc
    have rl := fun m s rest hc h0 h1 => hRoll 38 m s rest hc h0 h1
    have made := fun s a b e d u v i1 i2 i3 i4 i5 i6 => hMadeL 38 s a b e d u v i1 i2 i3 i4 i5 i6
    have gr := fun s hc => great_spec 26 s hc
    have wr := fun s hc => written_spec 26 s hc
    simp only [Nat.reduceAdd] at cup any rl made gr wr
    rw [call_eq (g := g_law) rfl, if_pos (by rfl), wp_endF]
    show Wf (ex b_law _ [some (.rl (ns.map .int)), none, none, none, none, none] []) _ _
    generalize hcc : Px.call G 39 = c at cup any rl made gr wr ⊢
    generalize low G 39 = l
    have rest := fun s hc a b e d P Q S T x hP hQ hS hT o0 o2 o5 N T' hN => rest_law 25 s hc (a := a) (b := b) (e := e) (d := d) (P := P) (Q := Q) (S := S) (T := T) x hP hQ hS hT o0 o2 o5 N T' hN c l hcc
    clear hcc
    rw [law_cut]
    generalize law_rest = rr at rest ⊢
    simp
    refine cup.mono ?_
    rintro d s1 ⟨rfl, hc1⟩
    simp [rngD, smallI]
    refine wf_forL (fun _ ρ s => ∃ x2 x3 x4 x5, ρ = [some (.rl (ns.map .int)), some (.cel 0), x2, x3, x4, x5] ∧ CupE s) ⟨none, none, none, none, rfl, [], hc1⟩ ?_ ?_
    · rintro ρ s2 ⟨x2, x3, x4, x5, rfl, hc2⟩
      simp
      refine (gr s2 hc2).mono ?_
      rintro d s3 ⟨rfl, hc3⟩
      simp
      exact wr s3 hc3
    · rintro x xs ρ s2 ⟨x2, x3, x4, x5, rfl, rs2, hc2⟩
      simp [turnF]
      refine (any s2 rs2 hc2).mono ?_
      rintro _ s3 ⟨a, b, e, d, rfl, o, hc3⟩
      simp [sw]
      refine (rl 2 s3 rs2 hc3 (by decide) (by decide)).mono ?_
      rintro _ s4 ⟨v, rfl, v0, v1, hc4⟩
      have st : ∀ y d5 s', CupE s' → ∃ x2 x3 x4 x5, [some (D.rl (ns.map .int)), some (.cel 0), some x, some (sw a b e d), some y, some d5] = [some (.rl (ns.map .int)), some (.cel 0), x2, x3, x4, x5] ∧ CupE s' := fun y d5 s' hc' => ⟨_, _, _, _, rfl, hc'⟩
      by_cases hv : v = 0
      · simp [hv]
        refine (rl 3 s4 rs2 hc4 (by decide) (by decide)).mono ?_
        rintro _ s5 ⟨u, rfl, u0, u1, hc5⟩
        simp
        refine (rl 7 s5 rs2 hc5 (by decide) (by decide)).mono ?_
        rintro _ s6 ⟨w, rfl, w0, w1, hc6⟩
        obtain ⟨U, eU⟩ : ∃ U, 1 + u = U := ⟨_, rfl⟩
        obtain ⟨V, eV⟩ : ∃ V, w - 3 = V := ⟨_, rfl⟩
        have hU : U.natAbs ≤ 3 := by omega
        have hV : V.natAbs ≤ 3 := by omega
        clear u0 u1 w0 w1 v0 v1
        obtain ⟨i1, i2, i3, i4⟩ := sw14 o
        have q := made s6 a b e d U V i1 i2 i3 i4 ((bd_le (n := 14) (m := 3) hU (by decide)).up (by decide)) ((bd_le (n := 14) (m := 3) hV (by decide)).up (by decide))
        have le : ∀ {x y : Int}, x.natAbs ≤ 10000 → y.natAbs ≤ 3 → (U * x + y).natAbs ≤ 40000 := fun {x y} hx hy => by
          have h1 := Int.natAbs_add_le (U * x) y
          rw [Int.natAbs_mul] at h1
          have h2 := Nat.mul_le_mul hU hx
          omega
        have r1 := le o.a hV
        have r2 := le (y := 0) o.b (by decide)
        have r3 := le (y := 0) o.c (by decide)
        have r4 := le o.d hV
        rw [Int.add_zero] at r2 r3
        have fin := rest s6 ⟨rs2, hc6⟩ a b e d (U * a + V) (U * b) (U * e) (U * d + V) o r1 r2 r3 r4 (.rl (ns.map .int)) x x5 (fun ρ s => ∃ x2 x3 x4 x5, ρ = [some (.rl (ns.map .int)), some (.cel 0), x2, x3, x4, x5] ∧ CupE s) (fun d _ => d = .bl true) (st _)
        simp only [sw] at q fin
        simp [eU, eV, q]
        exact Wf.mono fin (fun ρ s h => ⟨h.imp fun _ h => h.imp fun _ h => h.imp fun _ h => h.imp fun _ h => h.1, h.elim fun _ h => h.elim fun _ h => h.elim fun _ h => h.elim fun _ h => h.2⟩) (fun _ _ h => h)
      · simp [hv]
        refine (any s4 rs2 hc4).mono ?_
        rintro _ s5 ⟨p, q, r, t, rfl, y, hc5⟩
        have up : ∀ {z : Int}, z.natAbs ≤ 10000 → z.natAbs ≤ 40000 := fun h => Nat.le_trans h (by decide)
        have fin := rest s5 ⟨rs2, hc5⟩ a b e d p q r t o (up y.a) (up y.b) (up y.c) (up y.d) (.rl (ns.map .int)) x x5 (fun ρ s => ∃ x2 x3 x4 x5, ρ = [some (.rl (ns.map .int)), some (.cel 0), x2, x3, x4, x5] ∧ CupE s) (fun d _ => d = .bl true) (st _)
        simp only [sw] at fin
        simp [sw]
        exact Wf.mono fin (fun ρ s h => ⟨h.imp fun _ h => h.imp fun _ h => h.imp fun _ h => h.imp fun _ h => h.1, h.elim fun _ h => h.elim fun _ h => h.elim fun _ h => h.elim fun _ h => h.2⟩) (fun _ _ h => h)
  have key : Wp (call (tabOf rs) 40 nLaw [.rl (ns.map .int)] []) fun d _ => d = .bl true := key
  cases e : call (tabOf rs) 40 nLaw [.rl (ns.map .int)] [] with
  | ok d S =>
    rw [e] at key
    have : d = .bl true := key
    rw [this]
    exact ⟨S, rfl⟩
  | exc c s => rw [e] at key; exact key.elim
  | bad => rw [e] at key; exact key.elim
end Lw
end

section
set_option Elab.async false
set_option linter.all false
set_option maxRecDepth 100000
set_option maxHeartbeats 0
namespace Lw
open PySem Px
theorem shape_ok : shapeB B rs = true := by kernel_rfl
theorem rows_ok : rs.all (rowB B) = true := by kernel_rfl
theorem tshape_ok : tshapeB B ts = true := by kernel_rfl
theorem trows_ok : ts.all trowB = true := by kernel_rfl
abbrev R : PySem.W.OpenRow := PySem.W.OpenLaw.row PySem.Challenge.rw_linesruled_k36_whole_agreeing_swings
abbrev hk : PySem.W.Hook := He.hookX 6 (faOf B rs ts) (fnOfR rs ts rowD) [] (tfOf rs) (exB B rs ts)
def ob (s : PySem.W.SharedT) : He.AlX := He.obsX 6 (faOf B rs ts) (fnOfR rs ts rowD) [] (tfOf rs) (exB B rs ts) (HandSHeadRun.getT s)
theorem ob_eq (s : PySem.W.SharedT) : ob s = hk.obs s.abs := He.obsX_eq (HandSHeadRun.getT_eq s)
theorem run (w : World) : HandSHeadRun.RunEqI R (PySem.W.view R.prog [iLaw]) hk ob 30000 loose w := by
  unfold HandSHeadRun.RunEqI
  kernel_rfl
end Lw
open PySem PySem.W PySem.Calls PyProof.Rows
theorem PySem.Challenge.cw_linesruled_k36_whole_agreeing_swings_holds : PySem.Challenge.rw_linesruled_k36_whole_agreeing_swings.Holds := by
  w_on; o_law
  refine HandSHeadRun.head_imp (r := OpenLaw.row PySem.Challenge.rw_linesruled_k36_whole_agreeing_swings) (q := view (OpenLaw.row PySem.Challenge.rw_linesruled_k36_whole_agreeing_swings).prog [Lw.iLaw]) (H := Lw.hk) (ob := Lw.ob) (M := 30000) (loose := Lw.loose) (d := HandSHeadRun.topDef (OpenLaw.row PySem.Challenge.rw_linesruled_k36_whole_agreeing_swings).prog Lw.iLaw) (kwd := []) Lw.ob_eq
    Lw.run (by kernel_rfl) (by kernel_rfl) (by kernel_rfl) (by rfl) (by first | assumption | decide +kernel) (by decide +kernel) ⟨rfl, rfl, rfl, rfl, rfl, by decide +kernel⟩ ?hw ?hc
  case hw => w_witness2
  case hc =>
    refine LamX.walk_ofTsE (l := PySem.Challenge.rw_linesruled_k36_whole_agreeing_swings) (n := 63) (k := 40) (x := "script") (CX := fun w => L2.CX (PySem.Challenge.rw_linesruled_k36_whole_agreeing_swings).prog w) rfl (by decide) (by kernel_rfl) ⟨rfl, by decide, by decide⟩ ?F (fun w => Px.cx_none _ w)
    intro w mg fa h Y G hmg0
    obtain ⟨K, KX, c⟩ := Y
    have hmg : mg ("law" : PySem.Str) = some (.ref fa) := by
      have e : (HandSHeadRun.topDef (OpenLaw.row PySem.Challenge.rw_linesruled_k36_whole_agreeing_swings).prog Lw.iLaw).name = ("law" : PySem.Str) := by kernel_rfl
      rw [← e]
      exact hmg0
    exact ⟨K, KX, Px.lawAt KX G c Lw.shape_ok Lw.tshape_ok Lw.trows_ok Lw.rows_ok (by decide) (r := (⟨Lw.nLaw, "law", Lw.top Lw.iLaw, ["script", "cup", "turn", "one", "drawn", "other"], ["script"], Lw.g_law, false⟩ : Px.Row)) (by kernel_rfl) rfl rfl (by decide +kernel) Lw.law_spec fa hmg⟩
end
