import PyProof.Rows.All
import Wide.All
import OpenK.AllK
import Wide.FinOn
import HandS.ForExc
import HandS.Comp
import HandS.Iter
import HandS.Zip
import HandS.TupAny
import HandS.Gcd
import HandS.IsInst
import HandS.Wide
import HandS.Flow
import HandS.CallLocal
import HandS.Lambda
import HandS.EndTab
import HandS.HeadWalk
import HandS.HeadHook4
import HandS.Head3
import HandS.ExcIs
import HandS.HotCalls
import HandS.Text
import HandS.Deep
import HandS.Style
import HandS.SetFor
import HandS.WideBits
import HandS.TupMul
import HandS.ExcCtx
import HandS.TupSets
import HandS.TryMany
import PySem.Challenge.RW_linesruled_k01_whole_triples

section
set_option Elab.async false
set_option linter.all false
set_option maxRecDepth 100000
/-! Px: a small pure interpreter for the part of Python that the given program and its laws use. -/
namespace Px
open PySem (Str PyData)

/-! ### data -/
inductive D where
  | non | bl (b : Bool) | int (i : Int) | str (x : Str)
  | tup (xs : List D) | lst (xs : List D)
  /-- a list that is only read (the script) -/
  | rl (xs : List D)
  /-- a list that is changed: the i-th cell of the store -/
  | cel (i : Nat)
  /-- a def of the module -/
  | fn (n : Nat)
  /-- no value: the pairs of a changed list's items and of these, walked -/
  | zc (i : Nat) (ys : List D)
  deriving Inhabited

abbrev Sto := List (List D)
abbrev Env := List (Option D)

inductive R (α : Type) where
  | ok (a : α) (s : Sto) | exc (c : Nat) (s : Sto) | bad

abbrev M (α : Type) := Sto → R α

@[inline] def R.bind {α β : Type} (r : R α) (f : α → Sto → R β) : R β := match r with
  | .ok a s => f a s
  | .exc c s => .exc c s
  | .bad => .bad

@[simp] theorem R.bind_ok {α β : Type} (a : α) (s : Sto) (f : α → Sto → R β) : (R.ok a s).bind f = f a s := rfl
@[simp] theorem R.bind_exc {α β : Type} (c : Nat) (s : Sto) (f : α → Sto → R β) : (R.exc c s).bind f = .exc c s := rfl
@[simp] theorem R.bind_bad {α β : Type} (f : α → Sto → R β) : (R.bad : R α).bind f = .bad := rfl

/-- what a call of a def does; what it does two frames deeper (within a lambda that was handed on) -/
structure PC where
  call : Nat → List D → M D
  low : Option (Nat → List D → M D)
/-- nothing can be called -/
def noC : Nat → List D → M D := fun _ _ _ => .bad
/-- what a def that tries a lambda gives: if it ran through, if it raised an error of a class -/
structure Td where
  fin : D
  at_ : List (Nat × D)
def tdAt : List (Nat × D) → Nat → Option D
  | [], _ => none
  | (m, d) :: r, n => if Nat.beq m n = true then some d else tdAt r n
def tdR (t : Td) (r : R D) : R D := match r with
  | .ok _ s => .ok t.fin s
  | .exc c s => match tdAt t.at_ c with
    | some d => .ok d s
    | none => .bad
  | .bad => .bad

/-! ### syntax -/
inductive Bo where | add | sub | mul | fdiv | mod | pow
  deriving DecidableEq
inductive Co where | eq | ne | lt | le | gt | ge | isN | isNot | isin | notin
  deriving DecidableEq
inductive Bi where | len | abs | int | list | tuple | max2 | min2 | max1 | min1 | sum | all | any | gcd | isqrt
  deriving DecidableEq
inductive Ty where | int | bool | str | tuple | list
  deriving DecidableEq
inductive Me where | append | pop | popAt
  deriving DecidableEq
inductive Tg where | name (i : Nat) | tup (l : Tg) | nil | cons (a r : Tg)

inductive RE where
  | var (i : Nat)
  | c (d : D)
  | gl (n : Nat)
  | nil | cons (a r : RE)
  | tup (l : RE) | lst (mu : Bool) (l : RE)
  | bin (op : Bo) (mu : Bool) (a b : RE)
  | neg (a : RE)
  | cmp (op : Co) (a b : RE)
  | chain (o1 o2 : Co) (a b c : RE)
  | and (a b : RE) | or (a b : RE) | not (a : RE)
  | ite (c a b : RE)
  | call (n : Nat) (l : RE)
  | callv (i : Nat) (l : RE)
  | bi (b : Bi) (mu : Bool) (l : RE)
  | isi (a : RE) (t : Ty)
  | sub (a i : RE)
  | slc (mu : Bool) (a lo hi : RE)
  | rev (mu : Bool) (a : RE)
  | meth (m : Me) (a l : RE)
  | comp (mu : Bool) (elt : RE) (own : List Nat) (tg : Tg) (it : RE) (cond : RE)
  -- what is walked
  | seq (a : RE) | rng (l : RE) | zip (a b : RE) | enum (a : RE)
  -- how many unlike ones a tuple of tuples of ints holds
  | lset (a : RE)
  -- n(lambda: e)
  | lamc (n : Nat) (t : Td) (e : RE)
  -- a def without parameters is called
  | call0 (n : Nat)

inductive RS where
  | pass
  | seq (a b : RS)
  | set (tg : Tg) (e : RE)
  | ret (e : RE)
  | ifs (c : RE) (a b : RS)
  | for (tg : Tg) (it : RE) (body : RS)
  | wh (fuel : Nat) (c : RE) (body : RS)
  | drop (e : RE)
  | raise (n : Nat)
  | brk | cont
  | put (a i e : RE)

/-! ### values -/
def seqOf (s : Sto) : D → Option (List D)
  | .tup xs => some xs
  | .lst xs => some xs
  | .rl xs => some xs
  | .cel i => s[i]?
  | _ => none

def mapO {α β : Type} (f : α → Option β) : List α → Option (List β)
  | [] => some []
  | x :: xs => match f x, mapO f xs with
    | some y, some ys => some (y :: ys)
    | _, _ => none

/-- the data that a value stands for (the lists of the store looked up, less than n levels deep) -/
def toPy : Nat → Sto → D → Option PyData
  | 0, _, _ => none
  | n + 1, s, d => match d with
    | .non => some .none
    | .bl b => some (.bool b)
    | .int i => some (.int i)
    | .str x => some (.str x)
    | .tup xs => match mapO (toPy n s) xs with
      | some ys => some (.tuple ys)
      | none => none
    | .lst xs => match mapO (toPy n s) xs with
      | some ys => some (.list ys)
      | none => none
    | .rl xs => match mapO (toPy n s) xs with
      | some ys => some (.list ys)
      | none => none
    | .cel i => match s[i]? with
      | some xs => match mapO (toPy n s) xs with
        | some ys => some (.list ys)
        | none => none
      | none => none
    | _ => none

/-- the nesting that == is asked at -/
def deep : Nat := 30

def fit (n : Nat) : Bool := Nat.ble n 16777216

def allocL (mu : Bool) (xs : List D) (s : Sto) : R D := match mu with
  | true => .ok (.cel s.length) (s ++ [xs])
  | false => .ok (.lst xs) s

def isL (s : Sto) : D → Option (List D)
  | .lst xs => some xs
  | .cel i => s[i]?
  | _ => none

/-- list + list, tuple + tuple, text + text -/
def catD (mu : Bool) (x y : D) (s : Sto) : R D := match x, y with
  | .tup xs, .tup ys => if fit (xs.length + ys.length) = true then .ok (.tup (xs ++ ys)) s else .bad
  | .str a, .str b => if fit (a.length + b.length) = true then .ok (.str (a ++ b)) s else .bad
  | x, y => match isL s x, isL s y with
    | some xs, some ys => if fit (xs.length + ys.length) = true then allocL mu (xs ++ ys) s else .bad
    | _, _ => .bad

def mulOk (i j : Int) : Bool := decide (i.natAbs.log2 + j.natAbs.log2 < 134217000)
def divOk (j : Int) : Bool := decide (j.natAbs.log2 < 9000)
def powOk (i j : Int) : Bool := decide (0 ≤ j) && (decide (j ≤ 1000000) && decide (i.natAbs < 18446744073709551616))
def repOk (n : Nat) (k : Int) : Bool := decide (-9223372036854775808 ≤ k) && (decide (k < 9223372036854775808) && fit (n * k.toNat))

def repTOk (n : Nat) (k : Int) : Bool := Nat.ble 1 n && (Nat.ble n 1000 && (decide (2 ≤ k) && decide (k ≤ 1000)))
def binD (op : Bo) (mu : Bool) (x y : D) (s : Sto) : R D := match op with
  | .add => match x, y with
    | .int i, .int j => .ok (.int (i + j)) s
    | x, y => catD mu x y s
  | .sub => match x, y with
    | .int i, .int j => .ok (.int (i - j)) s
    | _, _ => .bad
  | .mul => match x, y with
    | .int i, .int j => if mulOk i j = true then .ok (.int (i * j)) s else .bad
    | .tup xs, .int k => if repTOk xs.length k = true then .ok (.tup (List.replicate k.toNat xs).flatten) s else .bad
    | x, .int k => match isL s x with
      | some xs => if repOk xs.length k = true then allocL mu (List.replicate k.toNat xs).flatten s else .bad
      | none => .bad
    | _, _ => .bad
  | .fdiv => match x, y with
    | .int i, .int j => if 0 < j then (if divOk j = true then .ok (.int (i / j)) s else .bad) else if j < 0 then (if divOk j = true then .ok (.int (i.fdiv j)) s else .bad) else .bad
    | _, _ => .bad
  | .mod => match x, y with
    | .int i, .int j => if 0 < j then .ok (.int (i % j)) s else if j < 0 then .ok (.int (i.fmod j)) s else .bad
    | _, _ => .bad
  | .pow => match x, y with
    | .int i, .int j => if powOk i j = true then .ok (.int (i ^ j.toNat)) s else .bad
    | _, _ => .bad

def eqD (s : Sto) (x y : D) : Option Bool := match toPy deep s x, toPy deep s y with
  | some a, some b => if PySem.SeqAt.shaped a = true then (if PySem.SeqAt.shaped b = true then some (PyData.eqv a b) else none) else none
  | _, _ => none

/-- the items of data -/
def itemsP : PyData → Option (List PyData)
  | .list bs => some bs
  | .tuple bs => some bs
  | _ => none
/-- x in y -/
def inD (s : Sto) (x y : D) : Option Bool := match toPy deep s x, toPy deep s y with
  | some a, some b => match itemsP b with
    | some bs => if PySem.SeqAt.shaped a = true then (if PySem.SeqAt.shaped b = true then some (bs.any fun b => PyData.eqv b a) else none) else none
    | none => none
  | _, _ => none

def ob (o : Option Bool) (s : Sto) : R D := match o with
  | some b => .ok (.bl b) s
  | none => .bad
def isNon : D → Bool
  | .non => true
  | _ => false

def cmpD (op : Co) (x y : D) (s : Sto) : R D := match op with
  | .eq => match x, y with
    | .int i, .int j => .ok (.bl (decide (i = j))) s
    | x, y => ob (eqD s x y) s
  | .ne => match x, y with
    | .int i, .int j => .ok (.bl (!decide (i = j))) s
    | x, y => ob ((eqD s x y).map (!·)) s
  | .lt => match x, y with
    | .int i, .int j => .ok (.bl (decide (i < j))) s
    | _, _ => .bad
  | .le => match x, y with
    | .int i, .int j => .ok (.bl (decide (i ≤ j))) s
    | _, _ => .bad
  | .gt => match x, y with
    | .int i, .int j => .ok (.bl (decide (j < i))) s
    | _, _ => .bad
  | .ge => match x, y with
    | .int i, .int j => .ok (.bl (decide (j ≤ i))) s
    | _, _ => .bad
  | .isN => match y with
    | .non => .ok (.bl (isNon x)) s
    | .bl b => match x with
      | .bl a => .ok (.bl (decide (a = b))) s
      | _ => .bad
    | _ => .bad
  | .isNot => match y with
    | .non => .ok (.bl (!isNon x)) s
    | .bl b => match x with
      | .bl a => .ok (.bl (!decide (a = b))) s
      | _ => .bad
    | _ => .bad
  | .isin => ob (inD s x y) s
  | .notin => ob ((inD s x y).map (!·)) s

def tyOf (s : Sto) : D → Option Ty
  | .bl _ => some .bool
  | .int _ => some .int
  | .str _ => some .str
  | .tup _ => some .tuple
  | .lst _ => some .list
  | .cel _ => some .list
  | _ => none
/-- isinstance: no class of ours is asked here -/
def isiD (x : D) (t : Ty) : Option Bool := match x, t with
  | .non, _ => some false
  | .bl _, .bool => some true
  | .bl _, .int => some true
  | .bl _, _ => some false
  | .int _, .int => some true
  | .int _, _ => some false
  | .str _, .str => some true
  | .str _, _ => some false
  | .tup _, .tuple => some true
  | .tup _, _ => some false
  | .lst _, .list => some true
  | .lst _, _ => some false
  | .cel _, .list => some true
  | .cel _, _ => some false
  | _, _ => none

def intO : D → Option Int
  | .int i => some i
  | _ => none
def blO : D → Option Bool
  | .bl b => some b
  | _ => none

def maxI : Int → List Int → Int
  | m, [] => m
  | m, x :: xs => maxI (if m < x then x else m) xs
def minI : Int → List Int → Int
  | m, [] => m
  | m, x :: xs => minI (if x < m then x else m) xs

def lsR (s : Sto) : D → Option (List D)
  | .lst xs => some xs
  | .rl xs => some xs
  | .cel i => s[i]?
  | _ => none

def isqrtOk (i : Int) : Bool := decide (0 ≤ i) && decide (i.toNat.log2 < 13000)

def biD (b : Bi) (mu : Bool) (as : List D) (s : Sto) : R D := match b with
  | .len => match as with
    | [.str x] => if fit x.length = true then .ok (.int x.length) s else .bad
    | [x] => match seqOf s x with
      | some xs => .ok (.int xs.length) s
      | none => .bad
    | _ => .bad
  | .abs => match as with
    | [.int i] => .ok (.int (if i < 0 then -i else i)) s
    | _ => .bad
  | .int => match as with
    | [.int i] => .ok (.int i) s
    | [.bl b] => .ok (.int (if b then 1 else 0)) s
    | _ => .bad
  | .list => match as with
    | [x] => match seqOf s x with
      | some xs => allocL mu xs s
      | none => .bad
    | _ => .bad
  | .tuple => match as with
    | [.tup xs] => .ok (.tup xs) s
    | [x] => match lsR s x with
      | some xs => .ok (.tup xs) s
      | none => .bad
    | _ => .bad
  | .max2 => match as with
    | [.int i, .int j] => .ok (.int (if j > i then j else i)) s
    | _ => .bad
  | .min2 => match as with
    | [.int i, .int j] => .ok (.int (if j < i then j else i)) s
    | _ => .bad
  | .max1 => match as with
    | [x] => match lsR s x with
      | some xs => match mapO intO xs with
        | some (n :: ns) => .ok (.int (maxI n ns)) s
        | _ => .bad
      | none => .bad
    | _ => .bad
  | .min1 => match as with
    | [x] => match lsR s x with
      | some xs => match mapO intO xs with
        | some (n :: ns) => .ok (.int (minI n ns)) s
        | _ => .bad
      | none => .bad
    | _ => .bad
  | .sum => match as with
    | [x] => match lsR s x with
      | some xs => match mapO intO xs with
        | some ns => .ok (.int ns.sum) s
        | none => .bad
      | none => .bad
    | _ => .bad
  | .all => match as with
    | [x] => match lsR s x with
      | some xs => match mapO blO xs with
        | some bs => .ok (.bl (bs.all id)) s
        | none => .bad
      | none => .bad
    | _ => .bad
  | .any => match as with
    | [x] => match lsR s x with
      | some xs => match mapO blO xs with
        | some bs => .ok (.bl (bs.any id)) s
        | none => .bad
      | none => .bad
    | _ => .bad
  | .gcd => match as with
    | [.int a, .int b] => .ok (.int ((Nat.gcd a.natAbs b.natAbs : Nat) : Int)) s
    | _ => .bad
  | .isqrt => match as with
    | [.int i] => if isqrtOk i = true then .ok (.int ((PySem.Float64.isqrt i.toNat : Nat) : Int)) s else .bad
    | _ => .bad

def intsO : D → Option (List Int)
  | .tup ds => mapO intO ds
  | _ => none
/-- how many unlike ones -/
def countD : List (List Int) → Nat
  | [] => 0
  | k :: ks => if k ∈ ks then countD ks else countD ks + 1
def lsetD (x : D) (s : Sto) : R D := match x with
  | .tup xs => match mapO intsO xs with
    | some ks => if Nat.ble ks.length 63 = true then .ok (.int (countD ks : Nat)) s else .bad
    | none => .bad
  | _ => .bad

/-! ### places -/
def smallI (i : Int) : Bool := decide (-4611686018427387904 ≤ i) && decide (i < 4611686018427387904)
def ixN (n : Nat) (i : Int) : Option Nat := if 0 ≤ i then (if i < n then some i.toNat else none) else if -(n : Int) ≤ i then some (i + n).toNat else none
def atI {α : Type} (xs : List α) (i : Int) : Option α := match ixN xs.length i with
  | some j => xs[j]?
  | none => none
def subD (x i : D) (s : Sto) : R D := match i with
  | .int k => match x with
    | .str _ => .bad
    | x => match seqOf s x with
      | some xs => match atI xs k with
        | some d => .ok d s
        | none => .bad
      | none => .bad
  | _ => .bad
/-- a slice's end: n places, d where none is written -/
def sIx (n d : Nat) : Option Int → Nat
  | none => d
  | some i => if i < 0 then (i + n).toNat else min i.toNat n
def cut {α : Type} (xs : List α) (lo hi : Option Int) : List α := (xs.drop (sIx xs.length 0 lo)).take (sIx xs.length xs.length hi - sIx xs.length 0 lo)
def partO : D → Option (Option Int)
  | .non => some none
  | .int i => some (some i)
  | _ => none
def slcD (mu : Bool) (x : D) (l h : Option Int) (s : Sto) : R D := match x with
  | .tup xs => .ok (.tup (cut xs l h)) s
  | x => match lsR s x with
    | some xs => allocL mu (cut xs l h) s
    | none => .bad

def revD (mu : Bool) (x : D) (s : Sto) : R D := match x with
  | .tup xs => .ok (.tup xs.reverse) s
  | x => match lsR s x with
    | some xs => allocL mu xs.reverse s
    | none => .bad
/-- a list's methods that change it: the answer, the list behind it -/
def meL (m : Me) (ys as : List D) : Option (D × List D) := match m with
  | .append => match as with
    | [d] => if ys.length < 16777216 then some (.non, ys ++ [d]) else none
    | _ => none
  | .pop => match as with
    | [] => match ys[ys.length - 1]? with
      | some y => some (y, ys.dropLast)
      | none => none
    | _ => none
  | .popAt => match as with
    | [.int k] => if smallI k = true then (match ixN ys.length k with
      | some j => match ys[j]? with
        | some y => some (y, ys.eraseIdx j)
        | none => none
      | none => none) else none
    | _ => none
def meD (m : Me) (i : Nat) (as : List D) (s : Sto) : R D := match s[i]? with
  | some ys => match meL m ys as with
    | some (d, zs) => .ok d (s.set i zs)
    | none => .bad
  | none => .bad

/-! ### targets, loops -/
def setT (s : Sto) : Tg → D → Env → Option Env
  | .name i, d, ρ => some (ρ.set i (some d))
  | .tup l, d, ρ => match seqOf s d with
    | some xs => setTs l xs ρ
    | none => none
  | .nil, _, _ => none
  | .cons _ _, _, _ => none
where setTs : Tg → List D → Env → Option Env
  | .nil, [], ρ => some ρ
  | .cons a r, x :: xs, ρ => match setT s a x ρ with
    | some ρ' => setTs r xs ρ'
    | none => none
  | _, _, _ => none

def wipe (ρ : Env) : List Nat → Env
  | [] => ρ
  | v :: vs => (wipe ρ vs).set v none

/-- what is walked: written items, or a list of the store as it stands at each turn -/
@[inline] def R.calm {α β : Type} (r : R α) (f : α → Sto → R β) : R β := match r with
  | .ok a s => f a s
  | _ => .bad
@[simp] theorem R.calm_ok {α β : Type} (a : α) (s : Sto) (f : α → Sto → R β) : (R.ok a s).calm f = f a s := rfl
@[simp] theorem R.calm_exc {α β : Type} (c : Nat) (s : Sto) (f : α → Sto → R β) : (R.exc c s : R α).calm f = .bad := rfl
@[simp] theorem R.calm_bad {α β : Type} (f : α → Sto → R β) : (R.bad : R α).calm f = .bad := rfl
def compL (f : D → Sto → R (Option D)) : List D → List D → Sto → R (List D)
  | [], acc, s => .ok acc s
  | x :: xs, acc, s => (f x s).calm fun o s' => match o with
    | some y => compL f xs (acc ++ [y]) s'
    | none => compL f xs acc s'
def compM (f : D → Sto → R (Option D)) (g : Sto → Option (List D)) : Nat → Nat → List D → Sto → R (List D)
  | 0, i, acc, s => match g s with
    | some xs => if xs.length ≤ i then .ok acc s else .bad
    | none => .bad
  | n + 1, i, acc, s => match g s with
    | some xs => match xs[i]? with
      | some x => (f x s).calm fun o s' => match o with
        | some y => compM f g n (i + 1) (acc ++ [y]) s'
        | none => compM f g n (i + 1) acc s'
      | none => .bad
    | none => .bad

def rngL (lo : Int) : Nat → List D
  | 0 => []
  | n + 1 => .int lo :: rngL (lo + 1) n
def rngD (as : List D) (s : Sto) : R D := match as with
  | [.int n] => if smallI n = true then .ok (.lst (rngL 0 n.toNat)) s else .bad
  | [.int a, .int b] => if (smallI a && smallI b) = true then .ok (.lst (rngL a (b - a).toNat)) s else .bad
  | _ => .bad
def zipL : List D → List D → List D
  | x :: xs, y :: ys => .tup [x, y] :: zipL xs ys
  | _, _ => []
def lsF : D → Option (List D)
  | .lst xs => some xs
  | .rl xs => some xs
  | _ => none
def zipD (x y : D) (s : Sto) : R D := match x, y with
  | .tup xs, .tup ys => .ok (.lst (zipL xs ys)) s
  | .cel i, y => match lsF y with
    | some ys => .ok (.zc i ys) s
    | none => .bad
  | x, y => match lsF x, lsF y with
    | some xs, some ys => .ok (.lst (zipL xs ys)) s
    | _, _ => .bad
def enumL (k : Int) : List D → List D
  | [] => []
  | x :: xs => .tup [.int k, x] :: enumL (k + 1) xs
def enumD (x : D) (s : Sto) : R D := match x with
  | .tup xs => .ok (.lst (enumL 0 xs)) s
  | x => match lsF x with
    | some xs => .ok (.lst (enumL 0 xs)) s
    | none => .bad

/-- a turn of a comprehension -/
def itemZ (c e : Env → Sto → R D) (own : List Nat) (tg : Tg) (ρ : Env) : D → Sto → R (Option D) := fun y s => match setT s tg y (wipe ρ own) with
  | some ρ' => (c ρ' s).bind fun t s => match t with
    | .bl true => (e ρ' s).bind fun z s => .ok (some z) s
    | .bl false => .ok none s
    | _ => .bad
  | none => .bad
/-- how a walk's datum is looked up -/
def gOf : D → Option (Sto → Option (List D))
  | .lst xs => some fun _ => some xs
  | .cel i => some fun S => S[i]?
  | .zc i ys => some fun S => match S[i]? with
    | some xs => some (zipL xs ys)
    | none => none
  | _ => none
def compZ (f : D → Sto → R (Option D)) (mu : Bool) : D → Sto → R D := fun x s => match x with
  | .lst xs => if fit xs.length = true then (compL f xs [] s).bind fun ys s => allocL mu ys s else .bad
  | x => match gOf x with
    | some g => match g s with
      | some xs => if fit xs.length = true then (compM f g xs.length 0 [] s).bind fun ys s => allocL mu ys s else .bad
      | none => .bad
    | none => .bad

/-! ### what expressions mean -/
def den : RE → PC → Env → Sto → R D
  | .var i, _, ρ, s => match ρ[i]? with
    | some (some d) => .ok d s
    | _ => .bad
  | .c d, _, _, s => .ok d s
  | .gl n, _, _, s => .ok (.fn n) s
  | .nil, _, _, s => .ok (.lst []) s
  | .cons a r, P, ρ, s => (den a P ρ s).bind fun x s => (den r P ρ s).bind fun ys s => match ys with
    | .lst xs => .ok (.lst (x :: xs)) s
    | _ => .bad
  | .tup l, P, ρ, s => (den l P ρ s).bind fun ys s => match ys with
    | .lst xs => .ok (.tup xs) s
    | _ => .bad
  | .lst mu l, P, ρ, s => (den l P ρ s).bind fun ys s => match ys with
    | .lst xs => allocL mu xs s
    | _ => .bad
  | .bin op mu a b, P, ρ, s => (den a P ρ s).bind fun x s => (den b P ρ s).bind fun y s => binD op mu x y s
  | .neg a, P, ρ, s => (den a P ρ s).bind fun x s => match x with
    | .int i => .ok (.int (-i)) s
    | _ => .bad
  | .cmp op a b, P, ρ, s => (den a P ρ s).bind fun x s => (den b P ρ s).bind fun y s => cmpD op x y s
  | .chain o1 o2 a b c, P, ρ, s => (den a P ρ s).bind fun x s => (den b P ρ s).bind fun y s => (cmpD o1 x y s).bind fun t s => match t with
    | .bl true => (den c P ρ s).bind fun z s => cmpD o2 y z s
    | .bl false => .ok (.bl false) s
    | _ => .bad
  | .and a b, P, ρ, s => (den a P ρ s).bind fun x s => match x with
    | .bl true => den b P ρ s
    | .bl false => .ok (.bl false) s
    | _ => .bad
  | .or a b, P, ρ, s => (den a P ρ s).bind fun x s => match x with
    | .bl true => .ok (.bl true) s
    | .bl false => den b P ρ s
    | _ => .bad
  | .not a, P, ρ, s => (den a P ρ s).bind fun x s => match x with
    | .bl b => .ok (.bl (!b)) s
    | _ => .bad
  | .ite c a b, P, ρ, s => (den c P ρ s).bind fun x s => match x with
    | .bl true => den a P ρ s
    | .bl false => den b P ρ s
    | _ => .bad
  | .call n l, P, ρ, s => (den l P ρ s).bind fun ys s => match ys with
    | .lst xs => P.call n xs s
    | _ => .bad
  | .callv i l, P, ρ, s => match ρ[i]? with
    | some (some (.fn n)) => (den l P ρ s).bind fun ys s => match ys with
      | .lst xs => P.call n xs s
      | _ => .bad
    | _ => .bad
  | .bi b mu l, P, ρ, s => (den l P ρ s).bind fun ys s => match ys with
    | .lst xs => biD b mu xs s
    | _ => .bad
  | .isi a t, P, ρ, s => (den a P ρ s).bind fun x s => ob (isiD x t) s
  | .sub a i, P, ρ, s => (den a P ρ s).bind fun x s => (den i P ρ s).bind fun y s => subD x y s
  | .slc mu a lo hi, P, ρ, s => (den a P ρ s).bind fun x s => (den lo P ρ s).bind fun l s => match partO l with
    | some l => (den hi P ρ s).bind fun h s => match partO h with
      | some h => slcD mu x l h s
      | none => .bad
    | none => .bad
  | .rev mu a, P, ρ, s => (den a P ρ s).bind fun x s => revD mu x s
  | .meth m a l, P, ρ, s => (den a P ρ s).bind fun x s => match x with
    | .cel i => (den l P ρ s).bind fun ys s => match ys with
      | .lst xs => meD m i xs s
      | _ => .bad
    | _ => .bad
  | .comp mu elt own tg it cond, P, ρ, s => (den it P ρ s).bind (compZ (itemZ (den cond P) (den elt P) own tg ρ) mu)
  | .seq a, P, ρ, s => (den a P ρ s).bind fun x s => match x with
    | .tup xs => .ok (.lst xs) s
    | .lst xs => .ok (.lst xs) s
    | .rl xs => .ok (.lst xs) s
    | .cel i => .ok (.cel i) s
    | _ => .bad
  | .rng l, P, ρ, s => (den l P ρ s).bind fun ys s => match ys with
    | .lst xs => rngD xs s
    | _ => .bad
  | .zip a b, P, ρ, s => (den a P ρ s).bind fun x s => (den b P ρ s).bind fun y s => zipD x y s
  | .enum a, P, ρ, s => (den a P ρ s).bind fun x s => enumD x s
  | .call0 n, P, _, s => P.call n [] s
  | .lset a, P, ρ, s => (den a P ρ s).bind fun x s => lsetD x s
  | .lamc _ t e, P, ρ, s => match P.low with
    | some c => tdR t (den e ⟨c, none⟩ ρ s)
    | none => .bad

/-! ### what statements do -/
inductive F where
  | nx (ρ : Env) (s : Sto) | rt (d : D) (s : Sto) | bk (ρ : Env) (s : Sto) | ct (ρ : Env) (s : Sto) | ex (c : Nat) (ρ : Env) (s : Sto) | bad
@[inline] def R.fl (r : R D) (ρ : Env) (f : D → Sto → F) : F := match r with
  | .ok a s => f a s
  | .exc c s => .ex c ρ s
  | .bad => .bad
@[inline] def F.seq (r : F) (f : Env → Sto → F) : F := match r with
  | .nx ρ s => f ρ s
  | r => r
@[simp] theorem R.fl_ok (a : D) (s : Sto) (ρ : Env) (f : D → Sto → F) : (R.ok a s).fl ρ f = f a s := rfl
@[simp] theorem R.fl_exc (c : Nat) (s : Sto) (ρ : Env) (f : D → Sto → F) : (R.exc c s).fl ρ f = .ex c ρ s := rfl
@[simp] theorem R.fl_bad (ρ : Env) (f : D → Sto → F) : (R.bad : R D).fl ρ f = .bad := rfl
@[simp] theorem F.seq_nx (ρ : Env) (s : Sto) (f : Env → Sto → F) : (F.nx ρ s).seq f = f ρ s := rfl
@[simp] theorem F.seq_rt (d : D) (s : Sto) (f : Env → Sto → F) : (F.rt d s).seq f = .rt d s := rfl
@[simp] theorem F.seq_bk (ρ : Env) (s : Sto) (f : Env → Sto → F) : (F.bk ρ s).seq f = .bk ρ s := rfl
@[simp] theorem F.seq_ct (ρ : Env) (s : Sto) (f : Env → Sto → F) : (F.ct ρ s).seq f = .ct ρ s := rfl
@[simp] theorem F.seq_ex (c : Nat) (ρ : Env) (s : Sto) (f : Env → Sto → F) : (F.ex c ρ s).seq f = .ex c ρ s := rfl
@[simp] theorem F.seq_bad (f : Env → Sto → F) : F.bad.seq f = .bad := rfl
/-- the end of a loop's turn: k is the next turn -/
@[inline] def F.turn (r : F) (k : Env → Sto → F) : F := match r with
  | .nx ρ s => k ρ s
  | .ct ρ s => k ρ s
  | .bk ρ s => .nx ρ s
  | r => r
@[simp] theorem F.turn_nx (ρ : Env) (s : Sto) (f : Env → Sto → F) : (F.nx ρ s).turn f = f ρ s := rfl
@[simp] theorem F.turn_rt (d : D) (s : Sto) (f : Env → Sto → F) : (F.rt d s).turn f = .rt d s := rfl
@[simp] theorem F.turn_bk (ρ : Env) (s : Sto) (f : Env → Sto → F) : (F.bk ρ s).turn f = .nx ρ s := rfl
@[simp] theorem F.turn_ct (ρ : Env) (s : Sto) (f : Env → Sto → F) : (F.ct ρ s).turn f = f ρ s := rfl
@[simp] theorem F.turn_ex (c : Nat) (ρ : Env) (s : Sto) (f : Env → Sto → F) : (F.ex c ρ s).turn f = .ex c ρ s := rfl
@[simp] theorem F.turn_bad (f : Env → Sto → F) : F.bad.turn f = .bad := rfl

def forL (f : D → Env → Sto → F) : List D → Env → Sto → F
  | [], ρ, s => .nx ρ s
  | x :: xs, ρ, s => (f x ρ s).turn (forL f xs)
def forM (f : D → Env → Sto → F) (g : Sto → Option (List D)) : Nat → Nat → Env → Sto → F
  | 0, i, ρ, s => match g s with
    | some xs => if xs.length ≤ i then .nx ρ s else .bad
    | none => .bad
  | n + 1, i, ρ, s => match g s with
    | some xs => match xs[i]? with
      | some x => (f x ρ s).turn (forM f g n (i + 1))
      | none => .bad
    | none => .bad
def whL (c : Env → Sto → R D) (b : Env → Sto → F) : Nat → Env → Sto → F
  | 0, _, _ => .bad
  | n + 1, ρ, s => (c ρ s).fl ρ fun x s => match x with
    | .bl true => (b ρ s).turn (whL c b n)
    | .bl false => .nx ρ s
    | _ => .bad

def setL (s : Sto) (x i d : D) : Option Sto := match x, i with
  | .cel m, .int k => match s[m]? with
    | some xs => match ixN xs.length k with
      | some j => some (s.set m (xs.set j d))
      | none => none
    | none => none
  | _, _ => none

def ex : RS → PC → Env → Sto → F
  | .pass, _, ρ, s => .nx ρ s
  | .seq a b, P, ρ, s => (ex a P ρ s).seq (ex b P)
  | .set tg e, P, ρ, s => (den e P ρ s).fl ρ fun d s => match setT s tg d ρ with
    | some ρ' => .nx ρ' s
    | none => .bad
  | .ret e, P, ρ, s => (den e P ρ s).fl ρ fun d s => .rt d s
  | .ifs c a b, P, ρ, s => (den c P ρ s).fl ρ fun x s => match x with
    | .bl true => ex a P ρ s
    | .bl false => ex b P ρ s
    | _ => .bad
  | .for tg it body, P, ρ, s => (den it P ρ s).fl ρ fun x s =>
      let f := fun y ρ s => match setT s tg y ρ with
        | some ρ' => ex body P ρ' s
        | none => .bad
      match x with
        | .lst xs => forL f xs ρ s
        | x => match gOf x with
          | some g => match g s with
            | some xs => forM f g xs.length 0 ρ s
            | none => .bad
          | none => .bad
  | .wh n c body, P, ρ, s => whL (den c P) (ex body P) n ρ s
  | .drop e, P, ρ, s => (den e P ρ s).fl ρ fun _ s => .nx ρ s
  | .raise n, _, ρ, s => .ex n ρ s
  | .brk, _, ρ, s => .bk ρ s
  | .cont, _, ρ, s => .ct ρ s
  | .put a i e, P, ρ, s => (den e P ρ s).fl ρ fun d s => (den a P ρ s).fl ρ fun x s => (den i P ρ s).fl ρ fun k s => match setL s x k d with
    | some s' => .nx ρ s'
    | none => .bad

/-! ### a program -/
structure FD where
  arity : Nat
  slots : Nat
  body : RS
abbrev Tab := Nat → Option FD

def endF : F → R D
  | .nx _ s => .ok .non s
  | .rt d s => .ok d s
  | .ex c _ s => .exc c s
  | .bk _ _ => .bad
  | .ct _ _ => .bad
  | .bad => .bad

/-- a def run -/
def runC (G : Tab) (P : PC) : Nat → List D → M D := fun n as s => match G n with
  | some f => if as.length = f.arity then endF (ex f.body P (as.map some ++ List.replicate (f.slots - f.arity) none) s) else .bad
  | none => .bad
/-- the last three -/
def tri (G : Tab) : Nat → (Nat → List D → M D) × Option (Nat → List D → M D) × Option (Nat → List D → M D)
  | 0 => (noC, none, none)
  | k + 1 => (runC G ⟨(tri G k).1, (tri G k).2.2⟩, some (tri G k).1, (tri G k).2.1)
def call (G : Tab) (k : Nat) : Nat → List D → M D := (tri G k).1
def low (G : Tab) (k : Nat) : Option (Nat → List D → M D) := (tri G k).2.2
theorem low_some (G : Tab) {k : Nat} {c : Nat → List D → M D} (h : low G k = some c) : ∃ j, k = j + 2 ∧ c = call G j := by
  match k, h with
  | 0, h => cases h
  | 1, h => cases h
  | j + 2, h => exact ⟨j, rfl, (Option.some.inj h).symm⟩
theorem low_eq (G : Tab) (k : Nat) : low G (k + 2) = some (call G k) := rfl
theorem call_zero (G : Tab) : call G 0 = noC := rfl
theorem call_succ (G : Tab) (k : Nat) : call G (k + 1) = runC G ⟨call G k, low G k⟩ := rfl
end Px
end

section
set_option Elab.async false
set_option linter.all false
set_option maxRecDepth 100000
set_option maxHeartbeats 1000000
/-! Px: a lambda handed to a def, with errors whose context is known to be None (the kit's rules for lambdas turned to that family). -/
namespace PxN
open PySem PySem.Spec PyProof.Rows L2
open LamX (lamEnv LamS CodeO TabB Tabs ExtN)
/-- the lambda's context: what leaves it bears no context -/
abbrev lamC (X : Cx) (A : Around) (outer : List Env) (s : Shared) (H : Hp) (E : XK) (scope : Scope) (f c' : Addr) : Cx :=
  { LamX.lamCx X A outer s H E scope f c' with
    xe := fun e s' => wpAny (model X.prog X.w) (A.deeper (lamEnv X scope s.heap.objs.size f c')) (leaving (lamEnv X scope s.heap.objs.size f c') e) (fun _ s'' => L2N.CX X.prog X.w outer H s E e s'') (fun e' s'' => L2N.CX X.prog X.w outer H s E e' s'') s' }
section
variable {X : Cx} {pins : List (Addr × Obj)} {σ : L2.St} {H HZ : Hp} {s s1 : Shared}
theorem lamC_start {A : Around} {outer : List Env} {E : XK} {scope : Scope} {f c' : Addr} {h₁ : Heap} {tk : Nat} (I : Inv X pins σ H s) (L : LamS X.env.scope scope) (e0 : Env0 X.prog X.w X.K X.mg X.base A outer s1 HZ) (hd : A.handled = none)
    (un : Un (frs X.stack) [] H HZ s.heap s1.heap) (hns : h₁.Ns s1.heap.objs.size fun y => ([] : List (Str × Value)).reverse.lookup y) (kp : ∀ b o, s1.heap.get? b = some o → h₁.get? b = some o) :
    Inv (lamC X A outer s1 HZ E scope f c') [] σ HZ { s1 with heap := h₁, toks := tk } := by
  have J := LamX.lam_start2 (E := E) (f := f) (c' := c') (tk := tk) I L e0 hd un hns kp
  obtain ⟨k1, k2, k3, k4, k5, k6, k7, k8, k9, k10, k11, k12, k13, k14, k15, k16, k17, k18⟩ := J.ok
  exact ⟨⟨k1, k2, k3, k4, k5, k6, k7, k8, k9, k10, k11, k12, k13, k14, k15, k16, k17, k18⟩, J.os, J.bare, J.base, J.loc, J.cell, J.free, J.freeC, J.pin, J.hok, J.len⟩
theorem actN {CXg : CXT} {Eg : XK} {Ng : List Str} {qg : Str} {sg : Scope} {g f c' : Addr} {cdg pm ctv : Value} {params : Arguments} {body : Expr} {scope : Scope} {k i : Nat} {a : Str} {pn : List (Addr × Obj)} {xe : Value → Shared → Prop} {W : WX} {E : XK} {tb : TE} {p1 p2 : Pos}
    (I : Inv X pins σ H s) (L : LamS X.env.scope scope) (hf : s.heap.get? f = some (PySem.W.kla_obj "<lambda>" (X.env.qual ++ "<lambda>") params body scope (cloFrom X.env.cells scope.names []) pm c' ctv)) (hfn : H f = none) (hfr : f ∉ frs X.stack)
    (hbind : bindArgs (PySem.W.kla_fn "<lambda>" (X.env.qual ++ "<lambda>") params body scope (cloFrom X.env.cells scope.names []) pm (.ref c') ctv) ⟨[], []⟩ = pure [])
    (tk : L2N.Takes ((cxOf CXg X.prog X.w X.K X.mg X.base Ng qg sg g cdg X.A X.stack s H Eg).tr pn xe) W) (hW : ∀ cls d σ' H', E cls d H' → W cls d σ' H') (hr : Room (k + 1) (X.A.deeper (envOfC qg sg s.heap.objs.size g cdg)))
    (hbody : ∀ (A : Around) (outer : List Env) (s : Shared) (H : Hp), Room k (A.deeper (lamEnv X scope s.heap.objs.size f c')) → PE (lamC X A outer s H E scope f c') body tb)
    (hN : Ng[i]? = some a) (hv : Vis sg a) (hd : (a == ("__debug__" : Str)) = false := by decide) (hcd : (a == ("__classdict__" : Str)) = false := by decide) :
    PE ((cxOf CXg X.prog X.w X.K X.mg X.base Ng qg sg g cdg X.A X.stack s H Eg).tr pn xe) (.Call (.Name a p1) [] [] p2)
      (fun σZ HZ Q => σZ[i]? = some (some (.ref f)) ∧ HZ c' = some (CodeO c' (X.env.qual ++ "<lambda>")) ∧ tb σ HZ Q) := by
  refine ⟨fun pinsZ sZ σZ HZ Q IZ ⟨hs, hc, ht⟩ => ?_⟩
  refine wpAny_Call_Name_kw (thn ((pe_var (pos := p1) (i := i) hN hv hd hcd).run pinsZ sZ σZ HZ (fun v H1 => v = .ref f ∧ H1 = HZ) IZ ⟨.ref f, hs, rfl, rfl⟩) fun u s1 ⟨v, H1, I1, r1, ev, eH⟩ => ?_)
  subst ev
  rw [eH] at I1
  obtain rfl : u = Value.ref f := r1
  have of1 := I1.base.keep f _ hf hfn hfr (fun z => nomatch (show f ∈ ([] : List Addr) from z))
  refine PySem.W.callWith_F0 ⟨_, _, _, _, of1⟩ ?_
  obtain ⟨⟨oc, vs, t, hoc, hdc, hvc⟩, _, _⟩ := I1.hok c' _ hc
  have rc : codeAny (model X.prog X.w) (X.A.deeper (envOfC qg sg s.heap.objs.size g cdg)) (.call (.ref f) ⟨[], []⟩) (CR (L2N.CX X.prog X.w) (envOfC qg sg s.heap.objs.size g cdg :: X.stack) X.prog X.w HZ s1 Q E) s1 := by
    refine PySem.W.kla_callFunE hr.depth of1 rfl L.co L.gen rfl ⟨c', oc, vs, t, rfl, hoc, hdc, hvc⟩ ?_
    rw [hbind]
    refine wpAny_pure (wpAny_newFunctionEnv (fun y hy => (L.own y hy).2) (fun y hy => absurd hy (by simp)) (fun h₁ hns hsb => ⟨I1.nolimit.fresh _ hsb, ?_⟩) L.kind)
    show codeAny _ _ (.expr body (lamEnv X scope s1.heap.objs.size f c')) _ _
    have J := lamC_start (A := X.A.deeper (envOfC qg sg s.heap.objs.size g cdg)) (E := E) (f := f) (c' := c') (tk := s1.toks + ([] : List (Str × Value)).length) I L I1.env0 hr.hd I1.base hns fun b o e => hsb.extBut b o (Nat.ne_of_lt (Heap.lt_size e)) (Heap.get?_push_of_some _ e)
    refine PySem.W.kla_codeExpr (wpAny_mono ((hbody _ _ s1 HZ (hr.deeper _)).run [] _ _ HZ Q J ht) (fun v s' hq => ?_) fun e s' hq => hq)
    obtain ⟨w', H', J', rv, q⟩ := hq
    exact ⟨w', H', J'.os, J'.bare, J'.base, J'.hok, rv, q⟩
  have hx := L2N.passes_call (E := E) tk hW
  refine wpAny_call (codeAny_mono rc fun r s' hq => ?_)
  cases r with
  | error e => exact hx pinsZ σZ HZ s1 e s' I1 hq
  | ok fl =>
    cases fl with
    | ret u => exact I1.after hq
    | _ => exact False.elim hq
end
/-- the def that calls what it got -/
def GivesTo (X : Cx) (Ng : List Str) (x : Str) (sg : Scope) (g : Addr) (cdg : Value) (bg : List Stmt) (a : Str) (q : Str) (TT : (XK → Hp → VK → Prop) → Hp → VK → Prop) : Prop :=
  ∀ (f c' : Addr) (s : Shared) (H : Hp) (Q : VK) (tl : XK → Hp → VK → Prop),
    (∀ (W : WX) (pn : List (Addr × Obj)) (xe : Value → Shared → Prop) (E : XK) (p1 p2 : Pos), L2N.Takes ((cxOf C8.CX0 X.prog X.w X.K X.mg X.base Ng x sg g cdg X.A X.stack s H C8.E0).tr pn xe) W → (∀ cls d σ' H', E cls d H' → W cls d σ' H') →
      PE ((cxOf C8.CX0 X.prog X.w X.K X.mg X.base Ng x sg g cdg X.A X.stack s H C8.E0).tr pn xe) (.Call (.Name a p1) [] [] p2) (fun σZ HZ Q => σZ[0]? = some (some (.ref f)) ∧ HZ c' = some (CodeO c' q) ∧ tl E HZ Q)) →
    H c' = some (CodeO c' q) → TT tl H Q →
    ∃ t, PSs (cxOf C8.CX0 X.prog X.w X.K X.mg X.base Ng x sg g cdg X.A X.stack s H C8.E0).nox bg t ∧ t { nx := fun _ H' => Q .non H', rt := Q } (L2.start Ng [.ref f]) H
section
variable {X : Cx}
theorem lamcallN {T : List (Addr × Str)} {TT : (XK → Hp → VK → Prop) → Hp → VK → Prop} {x a : Str} {g c P : Addr} {k : Nat} {pg : Arguments} {bg : List Stmt} {sg : Scope} {dV kV doc pm cdv ct oc : Value} {an od : Option Addr} {osl : Array (Option Value)} {Ng : List Str}
    {params : Arguments} {body : Expr} {scope : Scope} {t : XK → TE} {p lpos pos : Pos} (hg : Gl X x) (hm : X.mg x = some (.ref g)) (hk : PySem.W.keepIn X.K (.ref g) = true)
    (lk : X.K.lookup g = some ⟨oc, od, .func (PySem.W.fnOf x x pg bg sg dV kV doc pm an cdv ct), osl⟩) (hcg : PySem.W.codeIn X.K cdv x = true) (hb : L2.Binds X.K (PySem.W.fnOf x x pg bg sg dV kV doc pm an cdv ct) [a] []) (Sg : FnScope Ng [a] sg) (hNg : Ng[0]? = some a) (hva : Vis sg a)
    (hG : GivesTo X Ng x sg g cdv bg a (X.env.qual ++ "<lambda>") TT)
    (TB : TabB X.base X.mg c P) (hcode : X.env.code = .ref c) (hmT : (P, X.env.qual ++ "<lambda>") ∈ T) (hu : ∀ p ∈ T, p.1 = P → p.2 = X.env.qual ++ "<lambda>") (hr : Room (k + 2) X.A) (L : LamS X.env.scope scope) (hdef : defaultsOf params X.env = ([], []))
    (hbind : ∀ (q : Str) (cl : List (Str × Addr)) (pm cv ctv : Value), bindArgs (PySem.W.kla_fn "<lambda>" q params body scope cl pm cv ctv) ⟨[], []⟩ = pure [])
    (hbody : ∀ (A : Around) (outer : List Env) (s : Shared) (H : Hp) (E : XK) (f c' : Addr), Room k (A.deeper (lamEnv X scope s.heap.objs.size f c')) → PE (lamC X A outer s H E scope f c') body (t E))
    (hdb : (x == ("__debug__" : Str)) = false := by decide) (hd : (a == ("__debug__" : Str)) = false := by decide) (hcd : (a == ("__classdict__" : Str)) = false := by decide) :
    PE X (.Call (.Name x p) [.Lambda params body scope lpos] [] pos) (LamX.tLam T TT t) := by
  refine ⟨fun pins s σ H Q I ⟨hT, h⟩ => ?_⟩
  refine wpAny_Call_Name_kw (ld_glob I hg hm ?_ hdb)
  refine PySem.W.callWith_K (h₀ := X.base) I.ok.mod.kin hk ?_ (by rfl) (by rfl)
  show wpAny _ _ (spliced ((false, eval (.Lambda params body scope lpos) X.env) :: backTo pos (starEach [] X.env))) _ _ s
  refine Calls.spliced_cons (LamX.lam_make2 I TB hcode hmT hu hT hdef (L.has I.ok) fun f c' pm' ctv H1 s' I1 eN T1 hf hfn hfr hco => ?_)
  refine Calls.spliced_nil ⟨I1.kIn, ?_⟩
  have rc : codeAny (model X.prog X.w) X.A (.call (.ref g) ⟨[.ref f], []⟩) (CR C8.CX0 X.stack X.prog X.w H1 s' Q C8.E0) s' := by
    refine LamX.run_ofS (N := Ng) (ps := [a]) (us := [.ref f]) (vs := [.ref f]) lk hcg Sg hr I1.env0 (hb s' [.ref f] I1.kIn rfl) (.cons rfl .nil) rfl fun hr' => ?_
    obtain ⟨t', ht', hq'⟩ := hG f c' s' H1 Q (fun E H' Q' => t E σ H' Q') (fun W pn xe E p1 p2 tk hW => actN (i := 0) I1 L hf hfn hfr (hbind _ _ _ _ _) tk hW hr' (fun A outer s H hr2 => hbody A outer s H E f c' hr2) hNg hva hd hcd) hco (h H1 eN T1)
    exact ⟨t', ht'.nox, hq'⟩
  refine wpAny_call (codeAny_mono rc fun r s2 hq => ?_)
  cases r with
  | error e => exact (show False from hq).elim
  | ok fl =>
    cases fl with
    | ret u => exact I1.after hq
    | _ => exact False.elim hq
theorem takes0 {X : Cx} : L2N.Takes X (fun _ _ _ _ => False) := fun _ _ x => by
  obtain ⟨_, _, _, _, _, _, _, _, _, _, _, _, _, _, _, _, z⟩ := x
  exact z.elim
end
end PxN
end

section
set_option Elab.async false
set_option linter.all false
set_option maxRecDepth 100000
set_option maxHeartbeats 1000000
/-! Px: how data lie in the abstract heap; the store; what is kept. -/
namespace Px
open PySem PySem.Spec PyProof.Rows L2

/-- what is fixed of a program: its written part, the code tables, where its defs and classes stand -/
structure Fx where
  K : PySem.W.Frag
  T : List (Addr × Str)
  fa : Nat → Addr
  ca : Nat → Addr
  kn : Nat → Bool

/-- the addresses of the store's lists; the lists that are being made -/
structure Ad where
  c : List Addr
  o : List Addr
instance : Membership Addr Ad := ⟨fun A a => a ∈ A.c ∨ a ∈ A.o⟩
def Ad.add (A : Ad) (p : Addr) : Ad := ⟨A.c ++ [p], A.o⟩
def Ad.opn (A : Ad) (p : Addr) : Ad := ⟨A.c, p :: A.o⟩

section
variable (X : Fx)
/-- a list that nobody changes -/
def RdL (K : PySem.W.Frag) (H : Hp) (a : Addr) (xs : List V) : Prop :=
  (∃ o, H a = some (.frz o (.lst xs))) ∨
    ∃ (o : Obj) (its : Array Value) (n : Nat), K.lookup a = some o ∧ o.cls = .type "list" ∧ o.dict = none ∧ o.data = .seq its n ∧ its.size ≤ sizeLine ∧ Vals xs its.toList
/-- a list that stays as it is -/
def FxL (K : PySem.W.Frag) (H : Hp) (as : Ad) (a : Addr) (vs : List V) : Prop := RdL K H a vs ∨ (H a = some (.lst vs) ∧ a ∉ as)
mutual
inductive Rep (H : Hp) (as : Ad) : D → V → Prop
  | non : Rep H as .non .non
  | bl (b : Bool) : Rep H as (.bl b) (.bl b)
  | int (i : Int) : Rep H as (.int i) (.int i)
  | str (x : Str) : Rep H as (.str x) (.str x)
  | tup {a : Addr} {vs : List V} {ds : List D} : SqT X.K H a vs → vs.length ≤ sizeLine → RepL H as ds vs → Rep H as (.tup ds) (.ref a)
  | lst {a : Addr} {vs : List V} {ds : List D} : H a = some (.lst vs) → a ∉ as → vs.length ≤ sizeLine → RepL H as ds vs → Rep H as (.lst ds) (.ref a)
  | rl {a : Addr} {vs : List V} {ds : List D} : FxL X.K H as a vs → vs.length ≤ sizeLine → RepL H as ds vs → Rep H as (.rl ds) (.ref a)
  | cel {i : Nat} {a : Addr} : as.c[i]? = some a → Rep H as (.cel i) (.ref a)
  | fn (n : Nat) : X.kn n = true → Rep H as (.fn n) (.ref (X.fa n))
inductive RepL (H : Hp) (as : Ad) : List D → List V → Prop
  | nil : RepL H as [] []
  | cons {d : D} {v : V} {ds : List D} {vs : List V} : Rep H as d v → RepL H as ds vs → RepL H as (d :: ds) (v :: vs)
end

/-- what is kept on the way from H to H' -/
structure Ext (H : Hp) (as : Ad) (H' : Hp) (as' : Ad) : Prop where
  keep : ∀ b o, H b = some o → (∀ ps, o ≠ .tbl ps) → (b ∈ as.c → ∀ vs, o ≠ .lst vs) → H' b = some o
  there : ∀ b vs, H b = some (.lst vs) → ∃ us, H' b = some (.lst us)
  more : ∃ t, as'.c = as.c ++ t ∧ ∀ a ∈ t, ∀ vs, H a ≠ some (.lst vs)
  opn : as'.o = as.o
/-- the store lies in the heap -/
structure Wd (H : Hp) (as : Ad) (S : Sto) : Prop where
  len : as.c.length = S.length
  nd : as.c.Nodup
  od : as.o.Nodup
  op : ∀ a ∈ as.o, a ∉ as.c ∧ ∃ vs, H a = some (.lst vs)
  cell : ∀ (i : Nat) (a : Addr) (ds : List D), as.c[i]? = some a → S[i]? = some ds → ∃ vs, H a = some (.lst vs) ∧ vs.length ≤ sizeLine ∧ RepL X H as ds vs
  tabs : LamX.Tabs X.T H
end

section
variable {X : Fx} {H H1 H2 H' : Hp} {as as1 as2 as' : Ad} {S S' : Sto}
theorem RepL.length : ∀ {ds : List D} {vs : List V}, RepL X H as ds vs → ds.length = vs.length
  | _, _, .nil => rfl
  | _, _, .cons _ r => congrArg Nat.succ (RepL.length r)
theorem RepL.append : ∀ {ds es : List D} {vs ws : List V}, RepL X H as ds vs → RepL X H as es ws → RepL X H as (ds ++ es) (vs ++ ws)
  | _, _, _, _, .nil, s => s
  | _, _, _, _, .cons r t, s => .cons r (RepL.append t s)
theorem RepL.take : ∀ {ds : List D} {vs : List V} (n : Nat), RepL X H as ds vs → RepL X H as (ds.take n) (vs.take n)
  | _, _, 0, _ => by rw [List.take_zero, List.take_zero]; exact .nil
  | _, _, _ + 1, .nil => .nil
  | _, _, n + 1, .cons r t => .cons r (RepL.take n t)
theorem RepL.drop : ∀ {ds : List D} {vs : List V} (n : Nat), RepL X H as ds vs → RepL X H as (ds.drop n) (vs.drop n)
  | _, _, 0, r => r
  | _, _, _ + 1, .nil => .nil
  | _, _, n + 1, .cons _ t => RepL.drop n t
theorem RepL.get : ∀ {ds : List D} {vs : List V} {i : Nat} {d : D}, RepL X H as ds vs → ds[i]? = some d → ∃ v, vs[i]? = some v ∧ Rep X H as d v
  | _, _, _, _, .nil, e => by simp at e
  | _, _, 0, _, .cons r _, e => by simp at e; subst e; exact ⟨_, rfl, r⟩
  | _, _, i + 1, _, .cons _ t, e => RepL.get (i := i) t (by simpa using e)
theorem RepL.get' : ∀ {ds : List D} {vs : List V} {i : Nat} {v : V}, RepL X H as ds vs → vs[i]? = some v → ∃ d, ds[i]? = some d ∧ Rep X H as d v
  | _, _, _, _, .nil, e => by simp at e
  | _, _, 0, _, .cons r _, e => by simp at e; subst e; exact ⟨_, rfl, r⟩
  | _, _, i + 1, _, .cons _ t, e => RepL.get' (i := i) t (by simpa using e)
theorem RepL.set {d : D} {v : V} (r : Rep X H as d v) : ∀ {ds : List D} {vs : List V} (i : Nat), RepL X H as ds vs → RepL X H as (ds.set i d) (vs.set i v)
  | _, _, _, .nil => .nil
  | _, _, 0, .cons _ t => .cons r t
  | _, _, i + 1, .cons q t => .cons q (RepL.set r i t)
theorem RepL.replicate {ds : List D} {vs : List V} (r : RepL X H as ds vs) : ∀ n : Nat, RepL X H as (List.replicate n ds).flatten (List.replicate n vs).flatten
  | 0 => .nil
  | n + 1 => by
    rw [List.replicate_succ, List.replicate_succ, List.flatten_cons, List.flatten_cons]
    exact r.append (RepL.replicate r n)

theorem Ext.refl : Ext H as H as := ⟨fun _ _ e _ _ => e, fun _ o e => ⟨o, e⟩, ⟨[], by simp, fun _ h => by cases h⟩, rfl⟩
theorem Ext.free (e : Ext H as H1 as1) {b : Addr} (h : ∀ vs, H1 b ≠ some (.lst vs)) : ∀ vs, H b ≠ some (.lst vs) := fun vs q => by
  obtain ⟨us, z⟩ := e.there b vs q
  exact h us z
theorem Ext.mem (e : Ext H as H1 as1) {b : Addr} {vs : List V} (q : H b = some (.lst vs)) (m : b ∈ as1) : b ∈ as := by
  obtain ⟨t, ht, nt⟩ := e.more
  have m : b ∈ as1.c ∨ b ∈ as1.o := m
  show b ∈ as.c ∨ b ∈ as.o
  rw [ht, e.opn] at m
  rcases m with m | m
  · rcases List.mem_append.mp m with m | m
    · exact .inl m
    · exact absurd q (nt b m vs)
  · exact .inr m
theorem Ext.memc (e : Ext H as H1 as1) {b : Addr} {vs : List V} (q : H b = some (.lst vs)) (m : b ∈ as1.c) : b ∈ as.c := by
  obtain ⟨t, ht, nt⟩ := e.more
  rw [ht] at m
  rcases List.mem_append.mp m with m | m
  · exact m
  · exact absurd q (nt b m vs)
theorem Ext.trans (e : Ext H as H1 as1) (f : Ext H1 as1 H2 as2) : Ext H as H2 as2 := by
  obtain ⟨t, ht, nt⟩ := e.more
  obtain ⟨u, hu, nu⟩ := f.more
  refine ⟨fun b o q n1 n2 => f.keep b o (e.keep b o q n1 n2) n1 fun m vs z => ?_, fun b o q => ?_, ⟨t ++ u, by rw [hu, ht, List.append_assoc], fun a m => ?_⟩, by rw [f.opn, e.opn]⟩
  · rw [z] at q
    exact n2 (e.memc q m) vs z
  · obtain ⟨o', q'⟩ := e.there b o q
    exact f.there b o' q'
  · rcases List.mem_append.mp m with m | m
    · exact nt a m
    · exact e.free (nu a m)
theorem Ext.at {i : Nat} {a : Addr} (e : Ext H as H1 as1) (h : as.c[i]? = some a) : as1.c[i]? = some a := by
  obtain ⟨t, ht, _⟩ := e.more
  rw [ht, List.getElem?_append_left (List.getElem?_eq_some_iff.mp h).1]
  exact h
theorem Ext.tup {K : PySem.W.Frag} {a : Addr} {vs : List V} (e : Ext H as H1 as1) (h : SqT K H a vs) : SqT K H1 a vs := by
  rcases h with (h | ⟨o, h⟩) | h
  · exact .inl (.inl (e.keep _ _ h (fun _ z => by cases z) fun _ _ z => by cases z))
  · exact .inl (.inr ⟨o, e.keep _ _ h (fun _ z => by cases z) fun _ _ z => by cases z⟩)
  · exact .inr h
theorem Ext.rdl {K : PySem.W.Frag} {a : Addr} {vs : List V} (e : Ext H as H1 as1) (h : RdL K H a vs) : RdL K H1 a vs := by
  rcases h with ⟨o, h⟩ | h
  · exact .inl ⟨o, e.keep _ _ h (fun _ z => by cases z) fun _ _ z => by cases z⟩
  · exact .inr h
theorem Ext.out {a : Addr} {vs : List V} (e : Ext H as H1 as1) (h : H a = some (.lst vs)) (n : a ∉ as) : a ∉ as1 := fun m => n (e.mem h m)
theorem RdL.sq {K : PySem.W.Frag} {a : Addr} {vs : List V} (h : RdL K H a vs) : SqL K H a vs := by
  rcases h with ⟨o, h⟩ | h
  · exact .inl (.inr ⟨o, h⟩)
  · exact .inr h
theorem FxL.sq {K : PySem.W.Frag} {a : Addr} {vs : List V} (h : FxL K H as a vs) : SqL K H a vs := by
  rcases h with h | ⟨h, _⟩
  · exact h.sq
  · exact .inl (.inl h)
theorem FxL.ext {K : PySem.W.Frag} {a : Addr} {vs : List V} (e : Ext H as H1 as1) (h : FxL K H as a vs) : FxL K H1 as1 a vs := by
  rcases h with h | ⟨h, n⟩
  · exact .inl (e.rdl h)
  · exact .inr ⟨e.keep _ _ h (fun _ z => by cases z) fun m => absurd (.inl m) n, e.out h n⟩
mutual
theorem Rep.ext (e : Ext H as H1 as1) : ∀ {d : D} {v : V}, Rep X H as d v → Rep X H1 as1 d v
  | _, _, .non => .non
  | _, _, .bl b => .bl b
  | _, _, .int i => .int i
  | _, _, .str x => .str x
  | _, _, .tup h z r => .tup (e.tup h) z (RepL.ext e r)
  | _, _, .lst h n z r => .lst (e.keep _ _ h (fun _ z => by cases z) fun m => absurd (.inl m) n) (e.out h n) z (RepL.ext e r)
  | _, _, .rl h z r => .rl (h.ext e) z (RepL.ext e r)
  | _, _, .cel h => .cel (e.at h)
  | _, _, .fn n h => .fn n h
theorem RepL.ext (e : Ext H as H1 as1) : ∀ {ds : List D} {vs : List V}, RepL X H as ds vs → RepL X H1 as1 ds vs
  | _, _, .nil => .nil
  | _, _, .cons r t => .cons (Rep.ext e r) (RepL.ext e t)
end

/-- the slots of a frame -/
def EnvR (X : Fx) (H : Hp) (as : Ad) (ρ : Env) (σ : L2.St) : Prop := ρ.length = σ.length ∧ ∀ (i : Nat) (d : D), ρ[i]? = some (some d) → ∃ v, σ[i]? = some (some v) ∧ Rep X H as d v
theorem EnvR.ext {ρ : Env} {σ : L2.St} (e : Ext H as H1 as1) (h : EnvR X H as ρ σ) : EnvR X H1 as1 ρ σ := ⟨h.1, fun i d q => by
  obtain ⟨v, h1, h2⟩ := h.2 i d q
  exact ⟨v, h1, h2.ext e⟩⟩
theorem EnvR.set {ρ : Env} {σ : L2.St} {d : D} {v : V} (h : EnvR X H as ρ σ) (r : Rep X H as d v) (i : Nat) : EnvR X H as (ρ.set i (some d)) (σ.set i (some v)) := by
  refine ⟨by rw [List.length_set, List.length_set]; exact h.1, fun j d' q => ?_⟩
  by_cases e : i = j
  · subst e
    by_cases hl : i < ρ.length
    · rw [List.getElem?_set_self hl] at q
      rw [List.getElem?_set_self (by rw [← h.1]; exact hl)]
      cases q
      exact ⟨v, rfl, r⟩
    · rw [List.getElem?_eq_none (by rw [List.length_set]; omega)] at q
      cases q
  · rw [List.getElem?_set_ne e] at q ⊢
    exact h.2 j d' q
theorem EnvR.wipe {ρ : Env} {σ : L2.St} (h : EnvR X H as ρ σ) : ∀ vs : List Nat, EnvR X H as (Px.wipe ρ vs) (L2.wipe σ vs)
  | [] => h
  | v :: vs => by
    have ih := EnvR.wipe h vs
    refine ⟨by show ((Px.wipe ρ vs).set v none).length = ((L2.wipe σ vs).set v none).length; rw [List.length_set, List.length_set]; exact ih.1, fun j d q => ?_⟩
    have q : ((Px.wipe ρ vs).set v none)[j]? = some (some d) := q
    show ∃ x, ((L2.wipe σ vs).set v none)[j]? = some (some x) ∧ _
    by_cases e : v = j
    · subst e
      by_cases hl : v < (Px.wipe ρ vs).length
      · rw [List.getElem?_set_self hl] at q
        cases q
      · rw [List.getElem?_eq_none (by rw [List.length_set]; omega)] at q
        cases q
    · rw [List.getElem?_set_ne e] at q ⊢
      exact ih.2 j d q

/-! ### the ways on -/
theorem tabs_new {T : List (Addr × Str)} {p : Addr} {o : HO} (t : LamX.Tabs T H) (n : H p = none) : LamX.Tabs T (upd H p o) := t.ext fun b o' e => by
  rw [upd_ne (ne_of_none e n)]
  exact e
/-- a new object, not of the store -/
theorem Ext.new {p : Addr} {o : HO} (n : H p = none) : Ext H as (upd H p o) as :=
  ⟨fun b o' e _ _ => by rw [upd_ne (ne_of_none e n)]; exact e, fun b o' e => ⟨o', by rw [upd_ne (ne_of_none e n)]; exact e⟩, ⟨[], by simp, fun _ h => by cases h⟩, rfl⟩
theorem Wd.mem (w : Wd X H as S) {a : Addr} (h : a ∈ as) : ∃ vs, H a = some (.lst vs) := by
  have h : a ∈ as.c ∨ a ∈ as.o := h
  rcases h with h | h
  · obtain ⟨i, hi, e⟩ := List.mem_iff_getElem.mp h
    have hs : i < S.length := by rw [← w.len]; exact hi
    obtain ⟨vs, h1, _⟩ := w.cell i a S[i] (by rw [List.getElem?_eq_getElem hi, e]) (List.getElem?_eq_getElem hs)
    exact ⟨vs, h1⟩
  · exact (w.op a h).2
theorem Wd.notMem (w : Wd X H as S) {a : Addr} (n : H a = none) : a ∉ as := fun h => by
  obtain ⟨vs, z⟩ := w.mem h
  rw [n] at z
  cases z
theorem Wd.new {p : Addr} {o : HO} (w : Wd X H as S) (n : H p = none) : Wd X (upd H p o) as S := by
  refine ⟨w.len, w.nd, w.od, fun a h => ?_, fun i a ds h1 h2 => ?_, tabs_new w.tabs n⟩
  · obtain ⟨h1, vs, h2⟩ := w.op a h
    exact ⟨h1, vs, by rw [upd_ne (ne_of_none h2 n)]; exact h2⟩
  · obtain ⟨vs, e, z, r⟩ := w.cell i a ds h1 h2
    exact ⟨vs, by rw [upd_ne (ne_of_none e n)]; exact e, z, r.ext (Ext.new n)⟩
/-- a lambda is made: all but the tables stay -/
theorem Ext.ofN (e : LamX.ExtN H H') : Ext H as H' as :=
  ⟨fun b o q n _ => e b o q n, fun b vs q => ⟨vs, e b _ q fun ps z => by cases z⟩, ⟨[], by simp, fun _ h => by cases h⟩, rfl⟩
theorem Wd.ofN (w : Wd X H as S) (e : LamX.ExtN H H') (t : LamX.Tabs X.T H') : Wd X H' as S := by
  refine ⟨w.len, w.nd, w.od, fun a h => ?_, fun i a ds h1 h2 => ?_, t⟩
  · obtain ⟨h1, vs, h2⟩ := w.op a h
    exact ⟨h1, vs, e _ _ h2 (fun ps z => by cases z)⟩
  · obtain ⟨vs, q, z, r⟩ := w.cell i a ds h1 h2
    exact ⟨vs, e _ _ q (fun ps z => by cases z), z, r.ext (Ext.ofN e)⟩
/-- a new list of the store -/
theorem Ext.newM {p : Addr} {o : HO} (n : H p = none) : Ext H as (upd H p o) (as.add p) :=
  ⟨fun b o' e _ _ => by rw [upd_ne (ne_of_none e n)]; exact e, fun b o' e => ⟨o', by rw [upd_ne (ne_of_none e n)]; exact e⟩, ⟨[p], rfl, fun a h => by rw [List.mem_singleton.mp h]; exact fun vs z => by rw [n] at z; cases z⟩, rfl⟩
theorem Wd.newM {p : Addr} {vs : List V} {ds : List D} (w : Wd X H as S) (n : H p = none) (z : vs.length ≤ sizeLine) (r : RepL X H as ds vs) : Wd X (upd H p (.lst vs)) (as.add p) (S ++ [ds]) := by
  have ex : Ext H as (upd H p (.lst vs)) (as.add p) := Ext.newM n
  have nc : p ∉ as.c := fun h => w.notMem n (.inl h)
  refine ⟨by simp [Ad.add, w.len], ?_, w.od, fun a h => ?_, fun i a es h1 h2 => ?_, tabs_new w.tabs n⟩
  · show (as.c ++ [p]).Nodup
    rw [List.nodup_append]
    exact ⟨w.nd, by simp, fun a ha b hb => by rw [List.mem_singleton.mp hb]; exact fun z => nc (z ▸ ha)⟩
  · obtain ⟨h1, vs', h2⟩ := w.op a h
    refine ⟨fun m => ?_, vs', by rw [upd_ne (ne_of_none h2 n)]; exact h2⟩
    rcases List.mem_append.mp (show a ∈ as.c ++ [p] from m) with m | m
    · exact h1 m
    · rw [List.mem_singleton.mp m, n] at h2
      cases h2
  · have h1 : (as.c ++ [p])[i]? = some a := h1
    by_cases hi : i < as.c.length
    · rw [List.getElem?_append_left hi] at h1
      rw [List.getElem?_append_left (by rw [← w.len]; exact hi)] at h2
      obtain ⟨us, e, z', r'⟩ := w.cell i a es h1 h2
      exact ⟨us, by rw [upd_ne (ne_of_none e n)]; exact e, z', r'.ext ex⟩
    · have hj : i = as.c.length := by
        have := (List.getElem?_eq_some_iff.mp h1).1
        simp at this
        omega
      subst hj
      have e1 : p = a := by simpa using h1
      have e2 : ds = es := by
        rw [w.len] at h2
        simpa using h2
      subst e1 e2
      exact ⟨vs, upd_same, z, r.ext ex⟩
/-- a list of the store is written -/
theorem Ext.put {p : Addr} {vs : List V} (w : Wd X H as S) (m : p ∈ as.c) : Ext H as (upd H p (.lst vs)) as := by
  refine ⟨fun b o' e _ n => ?_, fun b o' e => ?_, ⟨[], by simp, fun _ h => by cases h⟩, rfl⟩
  · by_cases q : b = p
    · subst q
      obtain ⟨us, z⟩ := w.mem (.inl m)
      rw [z] at e
      cases e
      exact absurd rfl (n m us)
    · rw [upd_ne q]
      exact e
  · by_cases q : b = p
    · subst q
      exact ⟨_, upd_same⟩
    · exact ⟨o', by rw [upd_ne q]; exact e⟩
theorem Wd.tabs_put {p : Addr} {vs : List V} (w : Wd X H as S) (m : p ∈ as) : LamX.Tabs X.T (upd H p (.lst vs)) := fun q hq => by
  obtain ⟨ps, h1, h2, h3⟩ := w.tabs q hq
  obtain ⟨us, hp⟩ := w.mem m
  refine ⟨ps, by rw [upd_ne (ne_of h1 hp (by intro z; cases z))]; exact h1, h2, fun pos cv hc => ?_⟩
  obtain ⟨c, e1, e2⟩ := h3 pos cv hc
  refine ⟨c, e1, ?_⟩
  rw [upd_ne (ne_of e2 hp (by intro z; unfold LamX.CodeO at z; cases z))]
  exact e2
theorem Wd.put {i : Nat} {p : Addr} {vs : List V} {ds : List D} (w : Wd X H as S) (h : as.c[i]? = some p) (z : vs.length ≤ sizeLine) (r : RepL X H as ds vs) : Wd X (upd H p (.lst vs)) as (S.set i ds) := by
  have mc : p ∈ as.c := List.mem_of_getElem? h
  have m : p ∈ as := .inl mc
  have ex : Ext H as (upd H p (.lst vs)) as := Ext.put w mc
  have hi : i < as.c.length := (List.getElem?_eq_some_iff.mp h).1
  refine ⟨by rw [List.length_set]; exact w.len, w.nd, w.od, fun a ha => ?_, fun j a es h1 h2 => ?_, w.tabs_put m⟩
  · obtain ⟨g1, vs', g2⟩ := w.op a ha
    have ne : a ≠ p := fun e => g1 (e ▸ mc)
    exact ⟨g1, vs', by rw [upd_ne ne]; exact g2⟩
  · by_cases e : i = j
    · subst e
      rw [List.getElem?_set_self (by rw [← w.len]; exact hi)] at h2
      rw [h] at h1
      cases h1
      cases h2
      exact ⟨vs, upd_same, z, r.ext ex⟩
    · rw [List.getElem?_set_ne e] at h2
      obtain ⟨us, e', z', r'⟩ := w.cell j a es h1 h2
      have ne : a ≠ p := fun q => by
        subst q
        exact e ((List.getElem_inj w.nd).mp ((List.getElem?_eq_some_iff.mp h).2.trans (List.getElem?_eq_some_iff.mp h1).2.symm))
      exact ⟨us, by rw [upd_ne ne]; exact e', z', r'.ext ex⟩

/-! ### a list that is being made -/
theorem opn_mem {p b : Addr} : b ∈ as.opn p ↔ b = p ∨ b ∈ as := by
  show (b ∈ as.c ∨ b ∈ p :: as.o) ↔ b = p ∨ (b ∈ as.c ∨ b ∈ as.o)
  rw [List.mem_cons]
  constructor
  · rintro (h | h | h)
    · exact .inr (.inl h)
    · exact .inl h
    · exact .inr (.inr h)
  · rintro (h | h | h)
    · exact .inr (.inl h)
    · exact .inl h
    · exact .inr (.inr h)
theorem FxL.close {K : PySem.W.Frag} {a p : Addr} {vs : List V} (h : FxL K H (as.opn p) a vs) : FxL K H as a vs := by
  rcases h with h | ⟨h, n⟩
  · exact .inl h
  · exact .inr ⟨h, fun m => n (opn_mem.mpr (.inr m))⟩
theorem FxL.open {K : PySem.W.Frag} {a p : Addr} {o : HO} {vs : List V} (n : H p = none) (h : FxL K H as a vs) : FxL K (upd H p o) (as.opn p) a vs := by
  rcases h with h | ⟨h, m⟩
  · exact .inl ((Ext.new (as := as) n).rdl h)
  · exact .inr ⟨by rw [upd_ne (ne_of_none h n)]; exact h, fun q => (opn_mem.mp q).elim (fun e => by rw [e, n] at h; cases h) m⟩
mutual
/-- it is no longer being made -/
theorem Rep.close {p : Addr} : ∀ {d : D} {v : V}, Rep X H (as.opn p) d v → Rep X H as d v
  | _, _, .non => .non
  | _, _, .bl b => .bl b
  | _, _, .int i => .int i
  | _, _, .str x => .str x
  | _, _, .tup h z r => .tup h z (RepL.close r)
  | _, _, .lst h n z r => .lst h (fun m => n (opn_mem.mpr (.inr m))) z (RepL.close r)
  | _, _, .rl h z r => .rl h.close z (RepL.close r)
  | _, _, .cel h => .cel h
  | _, _, .fn n h => .fn n h
theorem RepL.close {p : Addr} : ∀ {ds : List D} {vs : List V}, RepL X H (as.opn p) ds vs → RepL X H as ds vs
  | _, _, .nil => .nil
  | _, _, .cons r t => .cons (Rep.close r) (RepL.close t)
end
mutual
/-- a new list begins to be made -/
theorem Rep.open {p : Addr} {o : HO} (n : H p = none) : ∀ {d : D} {v : V}, Rep X H as d v → Rep X (upd H p o) (as.opn p) d v
  | _, _, .non => .non
  | _, _, .bl b => .bl b
  | _, _, .int i => .int i
  | _, _, .str x => .str x
  | _, _, .tup h z r => .tup ((Ext.new (as := as) n).tup h) z (RepL.open n r)
  | _, _, .lst h m z r => .lst (by rw [upd_ne (ne_of_none h n)]; exact h) (fun q => (opn_mem.mp q).elim (fun e => by rw [e, n] at h; cases h) m) z (RepL.open n r)
  | _, _, .rl h z r => .rl (h.open n) z (RepL.open n r)
  | _, _, .cel h => .cel h
  | _, _, .fn n h => .fn n h
theorem RepL.open {p : Addr} {o : HO} (n : H p = none) : ∀ {ds : List D} {vs : List V}, RepL X H as ds vs → RepL X (upd H p o) (as.opn p) ds vs
  | _, _, .nil => .nil
  | _, _, .cons r t => .cons (Rep.open n r) (RepL.open n t)
end
theorem EnvR.open {ρ : Env} {σ : L2.St} {p : Addr} {o : HO} (n : H p = none) (h : EnvR X H as ρ σ) : EnvR X (upd H p o) (as.opn p) ρ σ := ⟨h.1, fun i d q => by
  obtain ⟨v, h1, h2⟩ := h.2 i d q
  exact ⟨v, h1, h2.open n⟩⟩
theorem Wd.open {p : Addr} {vs : List V} (w : Wd X H as S) (n : H p = none) : Wd X (upd H p (.lst vs)) (as.opn p) S := by
  have w' : Wd X (upd H p (.lst vs)) as S := w.new n
  refine ⟨w.len, w.nd, List.nodup_cons.mpr ⟨fun m => w.notMem n (.inr m), w.od⟩, fun a h => ?_, fun i a ds h1 h2 => ?_, w'.tabs⟩
  · rcases List.mem_cons.mp (show a ∈ p :: as.o from h) with e | h
    · rw [e]
      exact ⟨fun m => w.notMem n (.inl m), vs, upd_same⟩
    · exact w'.op a h
  · obtain ⟨us, e, z, r⟩ := w.cell i a ds h1 h2
    exact ⟨us, by rw [upd_ne (ne_of_none e n)]; exact e, z, r.open n⟩
theorem sqT_grow {K : PySem.W.Frag} {p a : Addr} {us ws vs : List V} (n : H p = some (.lst us)) (h : SqT K H a vs) : SqT K (upd H p (.lst ws)) a vs := by
  rcases h with (h | ⟨o, h⟩) | h
  · exact .inl (.inl (by rw [upd_ne (ne_of h n (by intro z; cases z))]; exact h))
  · exact .inl (.inr ⟨o, by rw [upd_ne (ne_of h n (by intro z; cases z))]; exact h⟩)
  · exact .inr h
theorem rdl_grow {K : PySem.W.Frag} {p a : Addr} {us ws vs : List V} (n : H p = some (.lst us)) (h : RdL K H a vs) : RdL K (upd H p (.lst ws)) a vs := by
  rcases h with ⟨o, h⟩ | h
  · exact .inl ⟨o, by rw [upd_ne (ne_of h n (by intro z; cases z))]; exact h⟩
  · exact .inr h
theorem FxL.grow {K : PySem.W.Frag} {p a : Addr} {us ws vs : List V} (n : H p = some (.lst us)) (h : FxL K H (as.opn p) a vs) : FxL K (upd H p (.lst ws)) (as.opn p) a vs := by
  rcases h with h | ⟨h, m⟩
  · exact .inl (rdl_grow n h)
  · exact .inr ⟨by rw [upd_ne (fun e => m (opn_mem.mpr (.inl e)))]; exact h, m⟩
mutual
theorem Rep.grow {p : Addr} {us ws : List V} (n : H p = some (.lst us)) : ∀ {d : D} {v : V}, Rep X H (as.opn p) d v → Rep X (upd H p (.lst ws)) (as.opn p) d v
  | _, _, .non => .non
  | _, _, .bl b => .bl b
  | _, _, .int i => .int i
  | _, _, .str x => .str x
  | _, _, .tup h z r => .tup (sqT_grow n h) z (RepL.grow n r)
  | _, _, .lst h m z r => .lst (by rw [upd_ne (fun e => m (opn_mem.mpr (.inl e)))]; exact h) m z (RepL.grow n r)
  | _, _, .rl h z r => .rl (h.grow n) z (RepL.grow n r)
  | _, _, .cel h => .cel h
  | _, _, .fn n h => .fn n h
theorem RepL.grow {p : Addr} {us ws : List V} (n : H p = some (.lst us)) : ∀ {ds : List D} {vs : List V}, RepL X H (as.opn p) ds vs → RepL X (upd H p (.lst ws)) (as.opn p) ds vs
  | _, _, .nil => .nil
  | _, _, .cons r t => .cons (Rep.grow n r) (RepL.grow n t)
end
theorem EnvR.grow {ρ : Env} {σ : L2.St} {p : Addr} {us ws : List V} (n : H p = some (.lst us)) (h : EnvR X H (as.opn p) ρ σ) : EnvR X (upd H p (.lst ws)) (as.opn p) ρ σ := ⟨h.1, fun i d q => by
  obtain ⟨v, h1, h2⟩ := h.2 i d q
  exact ⟨v, h1, h2.grow n⟩⟩
/-- the list that is being made grows -/
theorem Wd.grow {p : Addr} {us vs : List V} (w : Wd X H (as.opn p) S) (n : H p = some (.lst us)) : Wd X (upd H p (.lst vs)) (as.opn p) S := by
  have m : p ∈ as.opn p := opn_mem.mpr (.inl rfl)
  obtain ⟨np, _⟩ := w.op p (List.mem_cons_self)
  refine ⟨w.len, w.nd, w.od, fun a h => ?_, fun i a ds h1 h2 => ?_, w.tabs_put m⟩
  · obtain ⟨g1, us, g2⟩ := w.op a h
    by_cases e : a = p
    · exact ⟨g1, vs, by rw [e, upd_same]⟩
    · exact ⟨g1, us, by rw [upd_ne e]; exact g2⟩
  · obtain ⟨us, e, z, r⟩ := w.cell i a ds h1 h2
    have ne : a ≠ p := fun q => np (by
      have := List.mem_of_getElem? h1
      rw [q] at this
      exact this)
    exact ⟨us, by rw [upd_ne ne]; exact e, z, r.grow n⟩
/-- from a heap where it was not -/
theorem Ext.upd1 {p : Addr} {o : HO} (n : H p = none) (e : Ext H as H1 as1) : Ext H as (upd H1 p o) as1 := by
  refine ⟨fun b o' q n1 n2 => ?_, fun b o' q => ?_, e.more, e.opn⟩
  · rw [upd_ne (ne_of_none q n)]
    exact e.keep b o' q n1 n2
  · obtain ⟨o2, z⟩ := e.there b o' q
    exact ⟨o2, by rw [upd_ne (ne_of_none q n)]; exact z⟩
theorem Ext.thru {p : Addr} {a2 : Ad} (n : H p = none) (e : Ext H as H1 as1) (f : Ext H1 (as1.opn p) H2 a2) : ∃ as2, a2 = as2.opn p ∧ Ext H as H2 as2 := by
  obtain ⟨t, ht, nt⟩ := e.more
  obtain ⟨u, hu, nu⟩ := f.more
  have hu : a2.c = as1.c ++ u := hu
  have ho : a2.o = p :: as1.o := f.opn
  refine ⟨⟨a2.c, as1.o⟩, ?_, fun b o' q n1 n2 => ?_, fun b o' q => ?_, ⟨t ++ u, by show a2.c = _; rw [hu, ht, List.append_assoc], fun a m => ?_⟩, e.opn⟩
  · obtain ⟨c1, o1⟩ := a2
    have ho : o1 = p :: as1.o := ho
    rw [ho]
    rfl
  · exact f.keep b o' (e.keep b o' q n1 n2) n1 fun m vs z => by
      rw [z] at q
      exact n2 (e.memc q m) vs z
  · obtain ⟨o2, z⟩ := e.there b o' q
    exact f.there b o2 z
  · rcases List.mem_append.mp m with m | m
    · exact nt a m
    · exact e.free (nu a m)
theorem Ext.addc {p : Addr} (n : H p = none) (e : Ext H as H1 as1) : Ext H as H1 (as1.add p) := by
  obtain ⟨t, ht, nt⟩ := e.more
  refine ⟨e.keep, e.there, ⟨t ++ [p], by show as1.c ++ [p] = _; rw [ht, List.append_assoc], fun a m => ?_⟩, e.opn⟩
  rcases List.mem_append.mp m with m | m
  · exact nt a m
  · rw [List.mem_singleton.mp m]
    exact fun vs z => by rw [n] at z; cases z
/-- made at last: a list of its own -/
theorem Wd.shut {p : Addr} (w : Wd X H (as.opn p) S) : Wd X H as S := by
  refine ⟨w.len, w.nd, (List.nodup_cons.mp w.od).2, fun a h => w.op a (List.mem_cons_of_mem _ h), fun i a ds h1 h2 => ?_, w.tabs⟩
  obtain ⟨us, e, z, r⟩ := w.cell i a ds h1 h2
  exact ⟨us, e, z, r.close⟩
theorem add_mem {p b : Addr} : b ∈ as.add p ↔ b = p ∨ b ∈ as := by
  show (b ∈ as.c ++ [p] ∨ b ∈ as.o) ↔ b = p ∨ (b ∈ as.c ∨ b ∈ as.o)
  rw [List.mem_append, List.mem_singleton]
  constructor
  · rintro ((h | h) | h)
    · exact .inr (.inl h)
    · exact .inl h
    · exact .inr (.inr h)
  · rintro (h | h | h)
    · exact .inl (.inr h)
    · exact .inl (.inl h)
    · exact .inr h
theorem cAt {p a : Addr} {i : Nat} (h : as.c[i]? = some a) : (as.add p).c[i]? = some a := by
  show (as.c ++ [p])[i]? = some a
  rw [List.getElem?_append_left (List.getElem?_eq_some_iff.mp h).1]
  exact h
theorem FxL.toAdd {K : PySem.W.Frag} {a p : Addr} {vs : List V} (h : FxL K H (as.opn p) a vs) : FxL K H (as.add p) a vs := by
  rcases h with h | ⟨h, n⟩
  · exact .inl h
  · exact .inr ⟨h, fun m => n (opn_mem.mpr (add_mem.mp m))⟩
mutual
theorem Rep.toAdd {p : Addr} : ∀ {d : D} {v : V}, Rep X H (as.opn p) d v → Rep X H (as.add p) d v
  | _, _, .non => .non
  | _, _, .bl b => .bl b
  | _, _, .int i => .int i
  | _, _, .str x => .str x
  | _, _, .tup h z r => .tup h z (RepL.toAdd r)
  | _, _, .lst h n z r => .lst h (fun m => n (opn_mem.mpr (add_mem.mp m))) z (RepL.toAdd r)
  | _, _, .rl h z r => .rl h.toAdd z (RepL.toAdd r)
  | _, _, .cel h => .cel (cAt h)
  | _, _, .fn n h => .fn n h
theorem RepL.toAdd {p : Addr} : ∀ {ds : List D} {vs : List V}, RepL X H (as.opn p) ds vs → RepL X H (as.add p) ds vs
  | _, _, .nil => .nil
  | _, _, .cons r t => .cons (Rep.toAdd r) (RepL.toAdd t)
end
/-- .. a list of the store -/
theorem Wd.shutM {p : Addr} {vs : List V} {ds : List D} (w : Wd X H (as.opn p) S) (h : H p = some (.lst vs)) (z : vs.length ≤ sizeLine) (r : RepL X H (as.opn p) ds vs) : Wd X H (as.add p) (S ++ [ds]) := by
  obtain ⟨np, _⟩ := w.op p (List.mem_cons_self)
  have np : p ∉ as.c := np
  have wl : as.c.length = S.length := w.len
  have wn : as.c.Nodup := w.nd
  refine ⟨by simp [Ad.add, wl], ?_, (List.nodup_cons.mp w.od).2, fun a ha => ?_, fun i a es h1 h2 => ?_, w.tabs⟩
  · show (as.c ++ [p]).Nodup
    rw [List.nodup_append]
    exact ⟨wn, by simp, fun a ha b hb => by rw [List.mem_singleton.mp hb]; exact fun z => np (z ▸ ha)⟩
  · obtain ⟨g1, g2⟩ := w.op a (List.mem_cons_of_mem _ ha)
    refine ⟨fun m => ?_, g2⟩
    rcases List.mem_append.mp (show a ∈ as.c ++ [p] from m) with m | m
    · exact g1 m
    · rw [List.mem_singleton.mp m] at ha
      exact (List.nodup_cons.mp w.od).1 ha
  · have h1 : (as.c ++ [p])[i]? = some a := h1
    by_cases hi : i < as.c.length
    · rw [List.getElem?_append_left hi] at h1
      rw [List.getElem?_append_left (by rw [← wl]; exact hi)] at h2
      obtain ⟨us, e, z', r'⟩ := w.cell i a es h1 h2
      exact ⟨us, e, z', r'.toAdd⟩
    · have hj : i = as.c.length := by
        have := (List.getElem?_eq_some_iff.mp h1).1
        simp at this
        omega
      subst hj
      have e1 : p = a := by simpa using h1
      have e2 : ds = es := by
        rw [wl] at h2
        simpa using h2
      subst e1 e2
      exact ⟨vs, h, z, r.toAdd⟩
end
end Px
end

section
set_option Elab.async false
set_option linter.all false
set_option maxRecDepth 100000
set_option maxHeartbeats 1000000
/-! Px: operators and built-ins, each by its rule. -/
namespace Px
open PySem PySem.Spec PyProof.Rows L2

/-! ### readings -/
def Post (Y : Fx) (H : Hp) (as : Ad) (σ : L2.St) (W : WX) (r : R D) (Z : D → Hp → Ad → Prop) : Prop := match r with
  | .ok d S => ∀ H' as', Ext H as H' as' → Wd Y H' as' S → Z d H' as'
  | .exc c S => ∀ H' as', Ext H as H' as' → Wd Y H' as' S → W (.ref (Y.ca c)) none σ H'
  | .bad => False
theorem Post.ext {Y : Fx} {H H' : Hp} {as as' : Ad} {σ : L2.St} {W : WX} {r : R D} {Z : D → Hp → Ad → Prop} (h : Post Y H as σ W r Z) (e : Ext H as H' as') : Post Y H' as' σ W r Z := by
  cases r with
  | ok d S => exact fun H2 as2 f w => h H2 as2 (e.trans f) w
  | exc c S => exact fun H2 as2 f w => h H2 as2 (e.trans f) w
  | bad => exact h
theorem Post.imp {Y : Fx} {H : Hp} {as : Ad} {σ : L2.St} {W : WX} {r : R D} {Z Z' : D → Hp → Ad → Prop} (h : Post Y H as σ W r Z) (k : ∀ d H' as', Z d H' as' → Z' d H' as') : Post Y H as σ W r Z' := by
  cases r with
  | ok d S => exact fun H2 as2 f w => k _ _ _ (h H2 as2 f w)
  | exc c S => exact h
  | bad => exact h
/-- what is wanted of a value, of a test's answer, of values -/
def zE (Y : Fx) (Q : VK) : D → Hp → Ad → Prop := fun d H as => ∀ v, Rep Y H as d v → Q v H
def zT (Q : Bool → Hp → Prop) : D → Hp → Ad → Prop := fun d H _ => match d with
  | .bl b => Q b H
  | _ => False
def zA (Y : Fx) (Q : List V → Hp → Prop) : D → Hp → Ad → Prop := fun d H as => match d with
  | .lst ds => ∀ vs, RepL Y H as ds vs → Q vs H
  | _ => False
def tE (Y : Fx) (W : WX) (m : Env → Sto → R D) : TE := fun σ H Q => ∃ ρ as S, EnvR Y H as ρ σ ∧ Wd Y H as S ∧ Post Y H as σ W (m ρ S) (zE Y Q)
def tT (Y : Fx) (W : WX) (m : Env → Sto → R D) : TT := fun σ H Q => ∃ ρ as S, EnvR Y H as ρ σ ∧ Wd Y H as S ∧ Post Y H as σ W (m ρ S) (zT Q)
def tAs (Y : Fx) (W : WX) (m : Env → Sto → R D) : TA := fun σ H Q => ∃ ρ as S, EnvR Y H as ρ σ ∧ Wd Y H as S ∧ Post Y H as σ W (m ρ S) (zA Y Q)

section
variable {Y : Fx} {H H1 H' : Hp} {as as1 as' : Ad} {S S' : Sto} {ρ : Env} {σ : L2.St} {W : WX} {Z : D → Hp → Ad → Prop}
/-- one step, then the rest -/
theorem post_bind {m : Env → Sto → R D} {k : D → Sto → R D} {T : VK} (hρ : EnvR Y H as ρ σ) (w : Wd Y H as S) (h : Post Y H as σ W ((m ρ S).bind k) Z)
    (hk : ∀ d v S' H' as', Ext H as H' as' → Wd Y H' as' S' → EnvR Y H' as' ρ σ → Rep Y H' as' d v → Post Y H' as' σ W (k d S') Z → T v H') : tE Y W m σ H T := by
  refine ⟨ρ, as, S, hρ, w, ?_⟩
  cases e : m ρ S with
  | ok d S' =>
    rw [e] at h
    exact fun H' as' ex w' v r => hk d v S' H' as' ex w' (hρ.ext ex) r (h.ext ex)
  | exc c S' =>
    rw [e] at h
    exact h
  | bad =>
    rw [e] at h
    exact h
theorem post_bindT {m : Env → Sto → R D} {k : D → Sto → R D} {T : Bool → Hp → Prop} (hρ : EnvR Y H as ρ σ) (w : Wd Y H as S) (h : Post Y H as σ W ((m ρ S).bind k) Z) (hn : ∀ d S' H' as', (∀ b, d ≠ .bl b) → Post Y H' as' σ W (k d S') Z → False)
    (hk : ∀ b S' H' as', Ext H as H' as' → Wd Y H' as' S' → EnvR Y H' as' ρ σ → Post Y H' as' σ W (k (.bl b) S') Z → T b H') : tT Y W m σ H T := by
  refine ⟨ρ, as, S, hρ, w, ?_⟩
  cases e : m ρ S with
  | ok d S' =>
    rw [e] at h
    refine fun H' as' ex w' => ?_
    have h' : Post Y H' as' σ W (k d S') Z := h.ext ex
    cases d with
    | bl b => exact hk b S' H' as' ex w' (hρ.ext ex) h'
    | _ => exact hn _ S' H' as' (fun b z => by cases z) h'
  | exc c S' =>
    rw [e] at h
    exact h
  | bad =>
    rw [e] at h
    exact h
theorem post_bindA {m : Env → Sto → R D} {k : D → Sto → R D} {T : List V → Hp → Prop} (hρ : EnvR Y H as ρ σ) (w : Wd Y H as S) (h : Post Y H as σ W ((m ρ S).bind k) Z) (hn : ∀ d S' H' as', (∀ ds, d ≠ .lst ds) → Post Y H' as' σ W (k d S') Z → False)
    (hk : ∀ ds vs S' H' as', Ext H as H' as' → Wd Y H' as' S' → EnvR Y H' as' ρ σ → RepL Y H' as' ds vs → Post Y H' as' σ W (k (.lst ds) S') Z → T vs H') : tAs Y W m σ H T := by
  refine ⟨ρ, as, S, hρ, w, ?_⟩
  cases e : m ρ S with
  | ok d S' =>
    rw [e] at h
    refine fun H' as' ex w' => ?_
    have h' : Post Y H' as' σ W (k d S') Z := h.ext ex
    cases d with
    | lst ds => exact fun vs r => hk ds vs S' H' as' ex w' (hρ.ext ex) r h'
    | _ => exact hn _ S' H' as' (fun b z => by cases z) h'
  | exc c S' =>
    rw [e] at h
    exact h
  | bad =>
    rw [e] at h
    exact h

/-! ### lists and tuples that are read -/
theorem isL_rep (w : Wd Y H as S) {d : D} {v : V} {ds : List D} (r : Rep Y H as d v) (h : isL S d = some ds) : ∃ a vs, v = .ref a ∧ H a = some (.lst vs) ∧ vs.length ≤ sizeLine ∧ RepL Y H as ds vs := by
  cases r with
  | lst h1 n z q =>
    have e := Option.some.inj (show some _ = some ds from h)
    subst e
    exact ⟨_, _, rfl, h1, z, q⟩
  | @cel i a h1 =>
    obtain ⟨vs, h2, z, q⟩ := w.cell i a ds h1 h
    exact ⟨_, _, rfl, h2, z, q⟩
  | _ => cases h
theorem lsR_rep (w : Wd Y H as S) {d : D} {v : V} {ds : List D} (r : Rep Y H as d v) (h : lsR S d = some ds) : ∃ a vs, v = .ref a ∧ SqL Y.K H a vs ∧ vs.length ≤ sizeLine ∧ RepL Y H as ds vs := by
  cases r with
  | lst h1 n z q =>
    have e := Option.some.inj (show some _ = some ds from h)
    subst e
    exact ⟨_, _, rfl, SqL.of h1, z, q⟩
  | rl h1 z q =>
    have e := Option.some.inj (show some _ = some ds from h)
    subst e
    exact ⟨_, _, rfl, h1.sq, z, q⟩
  | @cel i a h1 =>
    obtain ⟨vs, h2, z, q⟩ := w.cell i a ds h1 h
    exact ⟨_, _, rfl, SqL.of h2, z, q⟩
  | _ => cases h
theorem seqOf_rep (w : Wd Y H as S) {d : D} {v : V} {ds : List D} (r : Rep Y H as d v) (h : seqOf S d = some ds) : ∃ a vs, v = .ref a ∧ (SqL Y.K H a vs ∨ SqT Y.K H a vs) ∧ vs.length ≤ sizeLine ∧ RepL Y H as ds vs := by
  cases r with
  | tup h1 z q =>
    have e := Option.some.inj (show some _ = some ds from h)
    subst e
    exact ⟨_, _, rfl, .inr h1, z, q⟩
  | lst h1 n z q =>
    have e := Option.some.inj (show some _ = some ds from h)
    subst e
    exact ⟨_, _, rfl, .inl (SqL.of h1), z, q⟩
  | rl h1 z q =>
    have e := Option.some.inj (show some _ = some ds from h)
    subst e
    exact ⟨_, _, rfl, .inl h1.sq, z, q⟩
  | @cel i a h1 =>
    obtain ⟨vs, h2, z, q⟩ := w.cell i a ds h1 h
    exact ⟨_, _, rfl, .inl (SqL.of h2), z, q⟩
  | _ => cases h
/-- a new list -/
theorem alloc_post {Q : VK} {mu : Bool} {ds : List D} {vs : List V} {p : Addr} (w : Wd Y H as S) (r : RepL Y H as ds vs) (z : vs.length ≤ sizeLine) (n : H p = none) (h : Post Y H as σ W (allocL mu ds S) (zE Y Q)) : Q (.ref p) (upd H p (.lst vs)) := by
  cases mu with
  | false => exact h _ as (Ext.new n) (w.new n) _ (.lst upd_same (w.notMem n) z (r.ext (Ext.new n)))
  | true =>
    refine h _ (as.add p) (Ext.newM n) (w.newM n z r) _ (.cel ?_)
    show (as.c ++ [p])[S.length]? = some p
    rw [← w.len]
    simp
/-- a new tuple -/
theorem tup_post {Q : VK} {ds : List D} {vs : List V} {p : Addr} (w : Wd Y H as S) (r : RepL Y H as ds vs) (z : vs.length ≤ sizeLine) (n : H p = none) (h : Post Y H as σ W (.ok (.tup ds) S) (zE Y Q)) : Q (.ref p) (upd H p (.tup vs)) :=
  h _ as (Ext.new n) (w.new n) _ (.tup (SqT.of upd_same) z (r.ext (Ext.new n)))
theorem fit_le {n : Nat} (h : fit n = true) : n ≤ sizeLine := by
  rw [sizeLine_eq]
  exact Nat.le_of_ble_eq_true h
theorem now {Q : VK} {d : D} {v : V} (w : Wd Y H as S) (h : Post Y H as σ W (.ok d S) (zE Y Q)) (r : Rep Y H as d v) : Q v H := h H as Ext.refl w v r

/-! ### == -/
theorem dp_of (w : Wd Y H as S) : ∀ (n : Nat) {d : D} {v : V} {y : PyData}, toPy n S d = some y → Rep Y H as d v → Dp Y.K H v y := by
  intro n
  induction n with
  | zero => intro d v y h _; cases h
  | succ n ih =>
    have all : ∀ {ds : List D} {vs : List V} {ys : List PyData}, mapO (toPy n S) ds = some ys → RepL Y H as ds vs → DpAll Y.K H vs ys := by
      intro ds
      induction ds with
      | nil =>
        intro vs ys h r
        cases r
        have e := Option.some.inj (show some [] = some ys from h)
        subst e
        exact .nil
      | cons d ds ihd =>
        intro vs ys h r
        cases r with
        | cons r1 r2 =>
          cases e1 : toPy n S d with
          | none => rw [mapO, e1] at h; cases h
          | some y1 =>
            cases e2 : mapO (toPy n S) ds with
            | none => rw [mapO, e1, e2] at h; cases h
            | some ys2 =>
              rw [mapO, e1, e2] at h
              have e := Option.some.inj h
              subst e
              exact .cons (ih e1 r1) (ihd e2 r2)
    intro d v y h r
    cases r with
    | non => have e := Option.some.inj (show some PyData.none = some y from h); subst e; exact .non
    | bl b => have e := Option.some.inj (show some (PyData.bool b) = some y from h); subst e; exact .bl b
    | int i => have e := Option.some.inj (show some (PyData.int i) = some y from h); subst e; exact .int i
    | str x => have e := Option.some.inj (show some (PyData.str x) = some y from h); subst e; exact .str x
    | @tup a vs ds h1 z q =>
      have h' : (match mapO (toPy n S) ds with
        | some ys => some (PyData.tuple ys)
        | none => none) = some y := h
      cases e1 : mapO (toPy n S) ds with
      | none => rw [e1] at h'; cases h'
      | some ys =>
        rw [e1] at h'
        have e := Option.some.inj h'
        subst e
        exact .tup h1 (all e1 q)
    | @lst a vs ds h1 hn z q =>
      have h' : (match mapO (toPy n S) ds with
        | some ys => some (PyData.list ys)
        | none => none) = some y := h
      cases e1 : mapO (toPy n S) ds with
      | none => rw [e1] at h'; cases h'
      | some ys =>
        rw [e1] at h'
        have e := Option.some.inj h'
        subst e
        exact .lst (SqL.of h1) (all e1 q)
    | @rl a vs ds h1 z q =>
      have h' : (match mapO (toPy n S) ds with
        | some ys => some (PyData.list ys)
        | none => none) = some y := h
      cases e1 : mapO (toPy n S) ds with
      | none => rw [e1] at h'; cases h'
      | some ys =>
        rw [e1] at h'
        have e := Option.some.inj h'
        subst e
        exact .lst h1.sq (all e1 q)
    | @cel i a h1 =>
      cases e0 : S[i]? with
      | none =>
        have h' : (match S[i]? with
          | some xs => match mapO (toPy n S) xs with
            | some ys => some (PyData.list ys)
            | none => none
          | none => none) = some y := h
        rw [e0] at h'
        cases h'
      | some ds =>
        obtain ⟨vs, h2, z, q⟩ := w.cell i a ds h1 e0
        have h' : (match S[i]? with
          | some xs => match mapO (toPy n S) xs with
            | some ys => some (PyData.list ys)
            | none => none
          | none => none) = some y := h
        rw [e0] at h'
        have h'' : (match mapO (toPy n S) ds with
          | some ys => some (PyData.list ys)
          | none => none) = some y := h'
        cases e1 : mapO (toPy n S) ds with
        | none => rw [e1] at h''; cases h''
        | some ys =>
          rw [e1] at h''
          have e := Option.some.inj h''
          subst e
          exact .lst (SqL.of h2) (all e1 q)
    | fn m _ => cases h
theorem eqD_dp (w : Wd Y H as S) {x y : D} {v u : V} {b : Bool} (h : eqD S x y = some b) (rx : Rep Y H as x v) (ry : Rep Y H as y u) : ∃ d e, Dp Y.K H v d ∧ Dp Y.K H u e ∧ SeqAt.shaped d = true ∧ SeqAt.shaped e = true ∧ PyData.eqv d e = b := by
  unfold eqD at h
  cases e1 : toPy deep S x with
  | none => rw [e1] at h; cases h
  | some d =>
    cases e2 : toPy deep S y with
    | none => rw [e1, e2] at h; cases h
    | some e =>
      rw [e1, e2] at h
      have h : (if SeqAt.shaped d = true then (if SeqAt.shaped e = true then some (PyData.eqv d e) else none) else none) = some b := h
      by_cases s1 : SeqAt.shaped d = true
      · rw [if_pos s1] at h
        by_cases s2 : SeqAt.shaped e = true
        · rw [if_pos s2] at h
          exact ⟨d, e, dp_of w _ e1 rx, dp_of w _ e2 ry, s1, s2, Option.some.inj h⟩
        · rw [if_neg s2] at h; cases h
      · rw [if_neg s1] at h; cases h
end

/-! ### operators -/
/-- a two-place operation of data as a reading -/
def rD (Y : Fx) (σ : L2.St) (W : WX) (f : D → D → Sto → R D) : R2 := fun x y H Q => ∃ d e as S, Wd Y H as S ∧ Rep Y H as d x ∧ Rep Y H as e y ∧ Post Y H as σ W (f d e S) (zE Y Q)
section
variable {X : Cx} {Y : Fx} {τ : L2.St} {W : WX}
theorem catD_ok (hK : X.K = Y.K) (mu : Bool) : OpR X (binaryOp .Add) (rD Y τ W (catD mu)) := by
  intro pins s σ H x y v u Q I rx ry ⟨d, e, as, S, w, rd, re, h⟩
  unfold catD at h
  split at h
  · rename_i xs ys
    split at h
    · rename_i hf
      cases rd with
      | @tup a vs _ h1 z1 q1 =>
        cases re with
        | @tup b us _ h2 z2 q2 =>
          have hz : vs.length + us.length ≤ sizeLine := by
            rw [← q1.length, ← q2.length]
            exact fit_le hf
          refine op_catA pins s σ H _ _ v u Q I rx ry ⟨a, b, vs, us, rfl, rfl, by rw [hK]; exact h1, by rw [hK]; exact h2, hz, fun e0 => ?_, fun _ e0 => ?_, fun _ _ p np => ?_⟩
          · subst e0
            cases q1
            exact now w h (.tup h2 z2 q2)
          · subst e0
            cases q2
            rw [List.append_nil] at h
            exact now w h (.tup h1 z1 q1)
          · exact tup_post w (q1.append q2) (by rw [List.length_append]; exact hz) np h
    · exact h.elim
  · rename_i a b
    split at h
    · rename_i hf
      cases rd
      cases re
      exact op_add_str pins s σ H _ _ v u Q I rx ry ⟨a, b, rfl, rfl, fit_le hf, now w h (.str _)⟩
    · exact h.elim
  · split at h
    · rename_i xs ys e1 e2
      split at h
      · rename_i hf
        obtain ⟨a, vs, rfl, h1, z1, q1⟩ := isL_rep w rd e1
        obtain ⟨b, us, rfl, h2, z2, q2⟩ := isL_rep w re e2
        have hz : vs.length + us.length ≤ sizeLine := by
          rw [← q1.length, ← q2.length]
          exact fit_le hf
        exact op_cat pins s σ H _ _ v u Q I rx ry ⟨a, b, vs, us, rfl, rfl, h1, h2, hz, fun p np => alloc_post w (q1.append q2) (by rw [List.length_append]; exact hz) np h⟩
      · exact h.elim
    · exact h.elim
theorem op_fdivP {i j : Int} {t u : Tok} {A : Around} {E : Value → Shared → Prop} {s : Shared} {P : Program} {w : World} {Q : Value → Shared → Prop} (hj : j ≠ 0) (hz : divOk j = true) (h : Q (.int (i.fdiv j) s.toks) { s with toks := s.toks + 1 }) :
    wpAny (model P w) A (binaryOp .FloorDiv (.int i t) (.int j u)) Q E s := floordiv_int hj h (.inl (PyProof.noPylong_of_log2 (of_decide_eq_true hz)))
theorem bin_add (hK : X.K = Y.K) (mu : Bool) : OpR X (binaryOp .Add) (rD Y τ W (binD .add mu)) := by
  intro pins s σ H x y v u Q I rx ry ⟨d, e, as, S, w, rd, re, h⟩
  replace h : Post Y H as τ W (match (generalizing := false) d, e with
    | .int i, .int j => .ok (.int (i + j)) S
    | x, y => catD mu x y S) (zE Y Q) := h
  split at h
  · rename_i i j
    cases rd
    cases re
    exact op_add pins s σ H _ _ v u Q I rx ry ⟨i, j, rfl, rfl, now w h (.int _)⟩
  · exact catD_ok hK mu pins s σ H x y v u Q I rx ry ⟨d, e, as, S, w, rd, re, h⟩
theorem bin_sub (mu : Bool) : OpR X (binaryOp .Sub) (rD Y τ W (binD .sub mu)) := by
  intro pins s σ H x y v u Q I rx ry ⟨d, e, as, S, w, rd, re, h⟩
  replace h : Post Y H as τ W (match (generalizing := false) d, e with
    | .int i, .int j => .ok (.int (i - j)) S
    | _, _ => .bad) (zE Y Q) := h
  split at h
  · rename_i i j
    cases rd
    cases re
    exact op_sub pins s σ H _ _ v u Q I rx ry ⟨i, j, rfl, rfl, now w h (.int _)⟩
  · exact h.elim
theorem mulOk_bits {i j : Int} (h : mulOk i j = true) : CMulX i j := by
  have b : ∀ x : Int, Builtin.Int.intBits x ≤ x.natAbs.log2 + 1 := fun x => by
    unfold Builtin.Int.intBits
    split <;> omega
  have q : i.natAbs.log2 + j.natAbs.log2 < 134217000 := of_decide_eq_true h
  have b1 := b i
  have b2 := b j
  unfold CMulX
  omega
theorem bin_mul (hK : X.K = Y.K) (mu : Bool) : OpR X (binaryOp .Mult) (rD Y τ W (binD .mul mu)) := by
  intro pins s σ H x y v u Q I rx ry ⟨d, e, as, S, w, rd, re, h⟩
  replace h : Post Y H as τ W (match (generalizing := false) d, e with
    | .int i, .int j => if mulOk i j = true then .ok (.int (i * j)) S else .bad
    | .tup xs, .int k => if repTOk xs.length k = true then .ok (.tup (List.replicate k.toNat xs).flatten) S else .bad
    | x, .int k => match isL S x with
      | some xs => if repOk xs.length k = true then allocL mu (List.replicate k.toNat xs).flatten S else .bad
      | none => .bad
    | _, _ => .bad) (zE Y Q) := h
  split at h
  · rename_i i j
    split at h
    · rename_i hm
      cases rd
      cases re
      exact op_mulX pins s σ H _ _ v u Q I rx ry ⟨i, j, rfl, rfl, mulOk_bits hm, now w h (.int _)⟩
    · exact h.elim
  · rename_i xs k
    split at h
    · rename_i hm
      cases rd with
      | @tup a vs _ h1 z1 q1 =>
        cases re
        unfold repTOk at hm
        rw [Bool.and_eq_true, Bool.and_eq_true, Bool.and_eq_true] at hm
        obtain ⟨m1, m2, m3, m4⟩ := hm
        have m1 : 1 ≤ xs.length := Nat.le_of_ble_eq_true m1
        have m2 : xs.length ≤ 1000 := Nat.le_of_ble_eq_true m2
        have m3 := of_decide_eq_true m3
        have m4 := of_decide_eq_true m4
        rw [q1.length] at m1 m2
        refine op_repT pins s σ H _ _ v u Q I rx ry ⟨a, k, vs, rfl, rfl, by rw [hK]; exact h1, (fun e => by rw [e] at m1; cases m1), m3, m4, m2, fun p np => tup_post w (q1.replicate _) ?_ np h⟩
        rw [List.length_flatten, List.map_replicate, List.sum_replicate_nat, sizeLine_eq]
        have a1 : k.toNat * vs.length ≤ 1000 * 1000 := Nat.mul_le_mul (by omega) m2
        omega
    · exact h.elim
  · rename_i k _ _
    cases e1 : isL S d with
    | none => rw [e1] at h; exact h.elim
    | some xs =>
      rw [e1] at h
      replace h : Post Y H as τ W (if repOk xs.length k = true then allocL mu (List.replicate k.toNat xs).flatten S else .bad) (zE Y Q) := h
      split at h
      · rename_i hm
        obtain ⟨a, vs, rfl, h1, z1, q1⟩ := isL_rep w rd e1
        cases re
        unfold repOk at hm
        rw [Bool.and_eq_true, Bool.and_eq_true] at hm
        obtain ⟨m1, m2, m3⟩ := hm
        have hz : vs.length * k.toNat ≤ sizeLine := by
          rw [← q1.length]
          exact fit_le m3
        refine op_rep pins s σ H _ _ v u Q I rx ry ⟨a, k, vs, rfl, rfl, h1, of_decide_eq_true m1, of_decide_eq_true m2, hz, fun p np => alloc_post w (q1.replicate _) ?_ np h⟩
        rw [List.length_flatten, List.map_replicate, List.sum_replicate_nat, Nat.mul_comm]
        exact hz
      · exact h.elim
  · exact h.elim
theorem bin_fdiv (mu : Bool) : OpR X (binaryOp .FloorDiv) (rD Y τ W (binD .fdiv mu)) := by
  intro pins s σ H x y v u Q I rx ry ⟨d, e, as, S, w, rd, re, h⟩
  replace h : Post Y H as τ W (match (generalizing := false) d, e with
    | .int i, .int j => if 0 < j then (if divOk j = true then .ok (.int (i / j)) S else .bad) else if j < 0 then (if divOk j = true then .ok (.int (i.fdiv j)) S else .bad) else .bad
    | _, _ => .bad) (zE Y Q) := h
  split at h
  · rename_i i j
    cases rd
    cases re
    obtain ⟨t, rfl⟩ := rx
    obtain ⟨t', rfl⟩ := ry
    split at h
    · rename_i hj
      split at h
      · rename_i hz
        refine op_fdivP (by omega) hz ?_
        rw [Int.fdiv_eq_ediv_of_nonneg i (by omega)]
        exact ⟨.int (i / j), H, I.tok _, ⟨_, rfl⟩, now w h (.int _)⟩
      · exact h.elim
    · split at h
      · rename_i hj
        split at h
        · rename_i hz
          exact op_fdivP (by omega) hz ⟨.int (i.fdiv j), H, I.tok _, ⟨_, rfl⟩, now w h (.int _)⟩
        · exact h.elim
      · exact h.elim
  · exact h.elim
theorem bin_mod (mu : Bool) : OpR X (binaryOp .Mod) (rD Y τ W (binD .mod mu)) := by
  intro pins s σ H x y v u Q I rx ry ⟨d, e, as, S, w, rd, re, h⟩
  replace h : Post Y H as τ W (match (generalizing := false) d, e with
    | .int i, .int j => if 0 < j then .ok (.int (i % j)) S else if j < 0 then .ok (.int (i.fmod j)) S else .bad
    | _, _ => .bad) (zE Y Q) := h
  split at h
  · rename_i i j
    cases rd
    cases re
    split at h
    · rename_i hj
      exact op_mod pins s σ H _ _ v u Q I rx ry ⟨i, j, rfl, rfl, hj, now w h (.int _)⟩
    · split at h
      · rename_i hj
        exact op_modN pins s σ H _ _ v u Q I rx ry ⟨i, j, rfl, rfl, by omega, now w h (.int _)⟩
      · exact h.elim
  · exact h.elim
theorem bin_pow (mu : Bool) : OpR X (binaryOp .Pow) (rD Y τ W (binD .pow mu)) := by
  intro pins s σ H x y v u Q I rx ry ⟨d, e, as, S, w, rd, re, h⟩
  replace h : Post Y H as τ W (match (generalizing := false) d, e with
    | .int i, .int j => if powOk i j = true then .ok (.int (i ^ j.toNat)) S else .bad
    | _, _ => .bad) (zE Y Q) := h
  split at h
  · rename_i i j
    cases rd
    cases re
    split at h
    · rename_i hj
      unfold powOk at hj
      rw [Bool.and_eq_true, Bool.and_eq_true] at hj
      obtain ⟨m1, m2, m3⟩ := hj
      exact op_pow pins s σ H _ _ v u Q I rx ry ⟨i, j, rfl, rfl, ⟨of_decide_eq_true m1, of_decide_eq_true m2, of_decide_eq_true m3⟩, now w h (.int _)⟩
    · exact h.elim
  · exact h.elim

/-! ### comparisons -/
theorem ob_post {H : Hp} {as : Ad} {S : Sto} {o : Option Bool} {Q : VK} (w : Wd Y H as S) (h : Post Y H as τ W (ob o S) (zE Y Q)) : ∃ b, o = some b ∧ Q (.bl b) H := by
  cases o with
  | none => exact h.elim
  | some b => exact ⟨b, rfl, now w h (.bl b)⟩
theorem cmp_eq (hK : X.K = Y.K) (hu : X.A.units + 64 < cLine) : OpR X (compareOp .Eq) (rD Y τ W (cmpD .eq)) := by
  intro pins s σ H x y v u Q I rx ry ⟨d, e, as, S, w, rd, re, h⟩
  replace h : Post Y H as τ W (match (generalizing := false) d, e with
    | .int i, .int j => .ok (.bl (decide (i = j))) S
    | x, y => ob (eqD S x y) S) (zE Y Q) := h
  split at h
  · rename_i i j
    cases rd
    cases re
    refine op_eq pins s σ H _ _ v u Q I rx ry ⟨rfl, ?_⟩
    rw [show decide (V.int i = V.int j) = decide (i = j) by rw [dec_int, Bool.beq_eq_decide_eq]]
    exact now w h (.bl _)
  · obtain ⟨b, hb, q⟩ := ob_post w h
    obtain ⟨d', e', h1, h2, h3, h4, h5⟩ := eqD_dp w hb rd re
    exact op_eqD hu pins s σ H _ _ v u Q I rx ry ⟨d', e', by rw [hK]; exact h1, by rw [hK]; exact h2, h3, h4, by rw [h5]; exact q⟩
theorem cmp_ne (hK : X.K = Y.K) (hu : X.A.units + 64 < cLine) : OpR X (compareOp .NotEq) (rD Y τ W (cmpD .ne)) := by
  intro pins s σ H x y v u Q I rx ry ⟨d, e, as, S, w, rd, re, h⟩
  replace h : Post Y H as τ W (match (generalizing := false) d, e with
    | .int i, .int j => .ok (.bl (!decide (i = j))) S
    | x, y => ob ((eqD S x y).map (!·)) S) (zE Y Q) := h
  split at h
  · rename_i i j
    cases rd
    cases re
    refine op_ne pins s σ H _ _ v u Q I rx ry ⟨rfl, ?_⟩
    rw [show decide (V.int i = V.int j) = decide (i = j) by rw [dec_int, Bool.beq_eq_decide_eq]]
    exact now w h (.bl _)
  · obtain ⟨b, hb, q⟩ := ob_post w h
    obtain ⟨b', hb', rfl⟩ := Option.map_eq_some_iff.mp hb
    obtain ⟨d', e', h1, h2, h3, h4, h5⟩ := eqD_dp w hb' rd re
    exact op_neD hu pins s σ H _ _ v u Q I rx ry ⟨d', e', by rw [hK]; exact h1, by rw [hK]; exact h2, h3, h4, by rw [h5]; exact q⟩
theorem cmp_int {op : CmpOp} {co : Co} {p : Int → Int → Bool} (rule : OpR X (compareOp op) (rI0 fun i j => .bl (p i j))) (hf : ∀ d e S, cmpD co d e S = match d, e with
    | .int i, .int j => .ok (.bl (p i j)) S
    | _, _ => .bad) : OpR X (compareOp op) (rD Y τ W (cmpD co)) := by
  intro pins s σ H x y v u Q I rx ry ⟨d, e, as, S, w, rd, re, h⟩
  rw [hf] at h
  split at h
  · rename_i i j
    cases rd
    cases re
    exact rule pins s σ H _ _ v u Q I rx ry ⟨i, j, rfl, rfl, now w h (.bl _)⟩
  · exact h.elim
theorem cmp_lt : OpR X (compareOp .Lt) (rD Y τ W (cmpD .lt)) := cmp_int op_lt fun d e S => by cases d <;> first | rfl | (cases e <;> rfl)
theorem cmp_le : OpR X (compareOp .LtE) (rD Y τ W (cmpD .le)) := cmp_int op_le fun d e S => by cases d <;> first | rfl | (cases e <;> rfl)
theorem cmp_gt : OpR X (compareOp .Gt) (rD Y τ W (cmpD .gt)) := cmp_int op_gt fun d e S => by cases d <;> first | rfl | (cases e <;> rfl)
theorem cmp_ge : OpR X (compareOp .GtE) (rD Y τ W (cmpD .ge)) := cmp_int op_ge fun d e S => by cases d <;> first | rfl | (cases e <;> rfl)
theorem isNon_rep {H : Hp} {as : Ad} {d : D} {v : V} (r : Rep Y H as d v) : isNon d = decide (v = .non) := by
  cases r <;> rfl
theorem cmp_isN : OpR X (compareOp .Is) (rD Y τ W (cmpD .isN)) := by
  intro pins s σ H x y v u Q I rx ry ⟨d, e, as, S, w, rd, re, h⟩
  replace h : Post Y H as τ W (match (generalizing := false) e with
    | .non => .ok (.bl (isNon d)) S
    | .bl b => match (generalizing := false) d with
      | .bl a => .ok (.bl (decide (a = b))) S
      | _ => .bad
    | _ => .bad) (zE Y Q) := h
  split at h
  · cases re
    refine op_isN pins s σ H _ _ v u Q I rx ry ⟨rfl, ?_⟩
    rw [← isNon_rep rd]
    exact now w h (.bl _)
  · split at h
    · cases re
      cases rd
      exact op_isBl pins s σ H _ _ v u Q I rx ry ⟨_, _, rfl, rfl, now w h (.bl _)⟩
    · exact h.elim
  · exact h.elim
theorem cmp_isNot : OpR X (compareOp .IsNot) (rD Y τ W (cmpD .isNot)) := by
  intro pins s σ H x y v u Q I rx ry ⟨d, e, as, S, w, rd, re, h⟩
  replace h : Post Y H as τ W (match (generalizing := false) e with
    | .non => .ok (.bl (!isNon d)) S
    | .bl b => match (generalizing := false) d with
      | .bl a => .ok (.bl (!decide (a = b))) S
      | _ => .bad
    | _ => .bad) (zE Y Q) := h
  split at h
  · cases re
    refine op_notN pins s σ H _ _ v u Q I rx ry ⟨rfl, ?_⟩
    rw [← isNon_rep rd]
    exact now w h (.bl _)
  · split at h
    · cases re
      cases rd
      exact op_notBl pins s σ H _ _ v u Q I rx ry ⟨_, _, rfl, rfl, now w h (.bl _)⟩
    · exact h.elim
  · exact h.elim
theorem inD_cases {H : Hp} {as : Ad} {S : Sto} {x y : D} {v u : V} {b : Bool} (w : Wd Y H as S) (h : inD S x y = some b) (rx : Rep Y H as x v) (ry : Rep Y H as y u) :
    ∃ d e ds, Dp Y.K H v d ∧ Dp Y.K H u e ∧ itemsP e = some ds ∧ SeqAt.shaped d = true ∧ SeqAt.shaped e = true ∧ (ds.any fun z => PyData.eqv z d) = b := by
  unfold inD at h
  split at h
  · rename_i d e e1 e2
    split at h
    · rename_i ds e3
      split at h
      · rename_i s1
        split at h
        · rename_i s2
          exact ⟨d, e, ds, dp_of w _ e1 rx, dp_of w _ e2 ry, e3, s1, s2, Option.some.inj h⟩
        · cases h
      · cases h
    · cases h
  · cases h
theorem cmp_in (hK : X.K = Y.K) (hu : X.A.units + 65 < cLine) : OpR X (compareOp .In) (rD Y τ W (cmpD .isin)) := by
  intro pins s σ H x y v u Q I rx ry ⟨d, e, as, S, w, rd, re, h⟩
  obtain ⟨b, hb, q⟩ := ob_post w (show Post Y H as τ W (ob (inD S d e) S) (zE Y Q) from h)
  obtain ⟨d', e', ds, h1, h2, h3, h4, h5, rfl⟩ := inD_cases w hb rd re
  rw [← hK] at h1 h2
  obtain ⟨ps, r1⟩ := Dp.reads I d' x v h1 rx
  obtain ⟨qs, r2⟩ := Dp.reads I e' y u h2 ry
  cases e' <;> first | (cases h3; done) | skip
  · cases h3
    exact SeqAt.in_list_reads r2 r1 (SeqAt.canLay_of_shaped h5) (SeqAt.canLay_of_shaped h4) (room_in_shaped h4 hu) ⟨.bl _, H, I, rfl, q⟩
  · cases h3
    exact SeqAt.in_tuple_reads r2 r1 (SeqAt.canLay_of_shaped h5) (SeqAt.canLay_of_shaped h4) (room_in_shaped h4 hu) ⟨.bl _, H, I, rfl, q⟩
theorem cmp_notin (hK : X.K = Y.K) (hu : X.A.units + 65 < cLine) : OpR X (compareOp .NotIn) (rD Y τ W (cmpD .notin)) := by
  intro pins s σ H x y v u Q I rx ry ⟨d, e, as, S, w, rd, re, h⟩
  obtain ⟨b, hb, q⟩ := ob_post w (show Post Y H as τ W (ob ((inD S d e).map (!·)) S) (zE Y Q) from h)
  obtain ⟨b', hb', rfl⟩ := Option.map_eq_some_iff.mp hb
  obtain ⟨d', e', ds, h1, h2, h3, h4, h5, rfl⟩ := inD_cases w hb' rd re
  rw [← hK] at h1 h2
  obtain ⟨ps, r1⟩ := Dp.reads I d' x v h1 rx
  obtain ⟨qs, r2⟩ := Dp.reads I e' y u h2 ry
  cases e' <;> first | (cases h3; done) | skip
  · cases h3
    exact SeqAt.notIn_list_reads r2 r1 (SeqAt.canLay_of_shaped h5) (SeqAt.canLay_of_shaped h4) (room_in_shaped h4 hu) ⟨.bl _, H, I, rfl, q⟩
  · cases h3
    exact SeqAt.notIn_tuple_reads r2 r1 (SeqAt.canLay_of_shaped h5) (SeqAt.canLay_of_shaped h4) (room_in_shaped h4 hu) ⟨.bl _, H, I, rfl, q⟩
end
end Px
end

section
set_option Elab.async false
set_option linter.all false
set_option maxRecDepth 100000
set_option maxHeartbeats 1000000
/-! Px: built-ins called by name, subscripts, slices, isinstance. -/
namespace Px
open PySem PySem.Spec PyProof.Rows L2

/-- a built-in of data as a reading -/
def rB (Y : Fx) (σ : L2.St) (W : WX) (f : List D → Sto → R D) : List V → Hp → VK → Prop := fun vs H Q => ∃ ds as S, Wd Y H as S ∧ RepL Y H as ds vs ∧ Post Y H as σ W (f ds S) (zE Y Q)
section
variable {X : Cx} {Y : Fx} {τ : L2.St} {W : WX}
theorem RepL.one {H : Hp} {as : Ad} {d : D} {vs : List V} (r : RepL Y H as [d] vs) : ∃ v, vs = [v] ∧ Rep Y H as d v := by
  cases r with
  | cons r1 r2 =>
    cases r2
    exact ⟨_, rfl, r1⟩
theorem RepL.two {H : Hp} {as : Ad} {d e : D} {vs : List V} (r : RepL Y H as [d, e] vs) : ∃ v u, vs = [v, u] ∧ Rep Y H as d v ∧ Rep Y H as e u := by
  cases r with
  | cons r1 r2 =>
    obtain ⟨u, rfl, r3⟩ := r2.one
    exact ⟨_, _, rfl, r1, r3⟩
theorem ints_rep {H : Hp} {as : Ad} : ∀ {ds : List D} {vs : List V} {ns : List Int}, RepL Y H as ds vs → mapO intO ds = some ns → vs = ns.map V.int
  | _, _, ns, .nil, h => by
    have e := Option.some.inj (show some [] = some ns from h)
    subst e
    rfl
  | d :: ds, _, ns, .cons r t, h => by
    cases e1 : intO d with
    | none => rw [mapO, e1] at h; cases h
    | some i =>
      cases e2 : mapO intO ds with
      | none => rw [mapO, e1, e2] at h; cases h
      | some ms =>
        rw [mapO, e1, e2] at h
        have e := Option.some.inj h
        subst e
        have ih := ints_rep t e2
        subst ih
        cases r with
        | int j =>
          have e := Option.some.inj (show some j = some i from e1)
          subst e
          rfl
        | _ => cases e1
theorem bls_rep {H : Hp} {as : Ad} : ∀ {ds : List D} {vs : List V} {ns : List Bool}, RepL Y H as ds vs → mapO blO ds = some ns → vs = ns.map V.bl
  | _, _, ns, .nil, h => by
    have e := Option.some.inj (show some [] = some ns from h)
    subst e
    rfl
  | d :: ds, _, ns, .cons r t, h => by
    cases e1 : blO d with
    | none => rw [mapO, e1] at h; cases h
    | some i =>
      cases e2 : mapO blO ds with
      | none => rw [mapO, e1, e2] at h; cases h
      | some ms =>
        rw [mapO, e1, e2] at h
        have e := Option.some.inj h
        subst e
        have ih := bls_rep t e2
        subst ih
        cases r with
        | bl j =>
          have e := Option.some.inj (show some j = some i from e1)
          subst e
          rfl
        | _ => cases e1
theorem SqL.ofK {K K' : PySem.W.Frag} (h : K = K') {H : Hp} {a : Addr} {xs : List V} (s : SqL K' H a xs) : SqL K H a xs := by
  rw [h]
  exact s
theorem bi_len (hK : X.K = Y.K) (mu : Bool) : CallR X (.builtin "len") (rB Y τ W (biD .len mu)) := by
  intro pins s σ H xs us Q I r ⟨ds, as, S, w, rs, h⟩
  replace h : Post Y H as τ W (match (generalizing := false) ds with
    | [.str x] => if fit x.length = true then .ok (.int x.length) S else .bad
    | [x] => match seqOf S x with
      | some xs => .ok (.int xs.length) S
      | none => .bad
    | _ => .bad) (zE Y Q) := h
  split at h
  · rename_i x
    obtain ⟨v, rfl, rv⟩ := rs.one
    cases rv
    split at h
    · rename_i hf
      exact call_len_str pins s σ H _ us Q I r ⟨x, rfl, fit_le hf, now w h (.int _)⟩
    · exact h.elim
  · obtain ⟨v, rfl, rv⟩ := rs.one
    split at h
    · rename_i xs e
      obtain ⟨a, vs, rfl, h1, z1, q1⟩ := seqOf_rep w rv e
      refine call_len_seq pins s σ H _ us Q I r ⟨a, vs, rfl, by rw [hK]; exact h1, ?_⟩
      rw [← q1.length]
      exact now w h (.int _)
    · exact h.elim
  · exact h.elim
theorem bi_abs (mu : Bool) : CallR X (.builtin "abs") (rB Y τ W (biD .abs mu)) := by
  intro pins s σ H xs us Q I r ⟨ds, as, S, w, rs, h⟩
  replace h : Post Y H as τ W (match (generalizing := false) ds with
    | [.int i] => .ok (.int (if i < 0 then -i else i)) S
    | _ => .bad) (zE Y Q) := h
  split at h
  · rename_i i
    obtain ⟨v, rfl, rv⟩ := rs.one
    cases rv
    exact call_abs pins s σ H _ us Q I r ⟨i, rfl, now w h (.int _)⟩
  · exact h.elim
theorem bi_int (mu : Bool) : CallR X (.type "int") (rB Y τ W (biD .int mu)) := by
  intro pins s σ H xs us Q I r ⟨ds, as, S, w, rs, h⟩
  replace h : Post Y H as τ W (match (generalizing := false) ds with
    | [.int i] => .ok (.int i) S
    | [.bl b] => .ok (.int (if b then 1 else 0)) S
    | _ => .bad) (zE Y Q) := h
  split at h
  · rename_i i
    obtain ⟨v, rfl, rv⟩ := rs.one
    cases rv
    exact call_int1 pins s σ H _ us Q I r (.inl ⟨i, rfl, now w h (.int _)⟩)
  · rename_i b
    obtain ⟨v, rfl, rv⟩ := rs.one
    cases rv
    exact call_int1 pins s σ H _ us Q I r (.inr ⟨b, rfl, now w h (.int _)⟩)
  · exact h.elim
theorem bi_list (hK : X.K = Y.K) (mu : Bool) : CallR X (.type "list") (rB Y τ W (biD .list mu)) := by
  intro pins s σ H xs us Q I r ⟨ds, as, S, w, rs, h⟩
  replace h : Post Y H as τ W (match (generalizing := false) ds with
    | [x] => match seqOf S x with
      | some xs => allocL mu xs S
      | none => .bad
    | _ => .bad) (zE Y Q) := h
  split at h
  · obtain ⟨v, rfl, rv⟩ := rs.one
    split at h
    · rename_i xs e
      obtain ⟨a, vs, rfl, h1, z1, q1⟩ := seqOf_rep w rv e
      exact call_list_of pins s σ H _ us Q I r ⟨a, vs, rfl, by rw [hK]; exact h1, fun p np => alloc_post w q1 z1 np h⟩
    · exact h.elim
  · exact h.elim
theorem bi_tuple (hK : X.K = Y.K) (mu : Bool) : CallR X (.type "tuple") (rB Y τ W (biD .tuple mu)) := by
  intro pins s σ H xs us Q I r ⟨ds, as, S, w, rs, h⟩
  replace h : Post Y H as τ W (match (generalizing := false) ds with
    | [.tup xs] => .ok (.tup xs) S
    | [x] => match lsR S x with
      | some xs => .ok (.tup xs) S
      | none => .bad
    | _ => .bad) (zE Y Q) := h
  split at h
  · obtain ⟨v, rfl, rv⟩ := rs.one
    cases rv with
    | @tup a vs _ h1 z1 q1 => exact call_tuple_of pins s σ H _ us Q I r ⟨a, vs, rfl, .inr ⟨by rw [hK]; exact h1, now w h (.tup h1 z1 q1)⟩⟩
  · obtain ⟨v, rfl, rv⟩ := rs.one
    split at h
    · rename_i xs e
      obtain ⟨a, vs, rfl, h1, z1, q1⟩ := lsR_rep w rv e
      exact call_tuple_of pins s σ H _ us Q I r ⟨a, vs, rfl, .inl ⟨by rw [hK]; exact h1, fun p np => tup_post w q1 z1 np h⟩⟩
    · exact h.elim
  · exact h.elim
theorem bi_max2 (hc : X.calm = true) (mu : Bool) : CallR X (.builtin "max") (rB Y τ W (biD .max2 mu)) := by
  intro pins s σ H xs us Q I r ⟨ds, as, S, w, rs, h⟩
  replace h : Post Y H as τ W (match (generalizing := false) ds with
    | [.int i, .int j] => .ok (.int (if j > i then j else i)) S
    | _ => .bad) (zE Y Q) := h
  split at h
  · rename_i i j
    obtain ⟨v, u, rfl, rv, ru⟩ := rs.two
    cases rv
    cases ru
    exact call_max2 hc pins s σ H _ us Q I r ⟨i, j, rfl, now w h (.int _)⟩
  · exact h.elim
theorem bi_min2 (hc : X.calm = true) (mu : Bool) : CallR X (.builtin "min") (rB Y τ W (biD .min2 mu)) := by
  intro pins s σ H xs us Q I r ⟨ds, as, S, w, rs, h⟩
  replace h : Post Y H as τ W (match (generalizing := false) ds with
    | [.int i, .int j] => .ok (.int (if j < i then j else i)) S
    | _ => .bad) (zE Y Q) := h
  split at h
  · rename_i i j
    obtain ⟨v, u, rfl, rv, ru⟩ := rs.two
    cases rv
    cases ru
    exact call_min2 hc pins s σ H _ us Q I r ⟨i, j, rfl, now w h (.int _)⟩
  · exact h.elim
theorem maxI_spec : ∀ (ns : List Int) (n : Int), maxI n ns ∈ n :: ns ∧ ∀ y ∈ n :: ns, y ≤ maxI n ns
  | [], n => ⟨List.mem_cons_self, fun y h => by rw [List.mem_singleton.mp h]; exact Int.le_refl _⟩
  | x :: xs, n => by
    obtain ⟨h1, h2⟩ := maxI_spec xs (if n < x then x else n)
    refine ⟨?_, fun y hy => ?_⟩
    · show maxI (if n < x then x else n) xs ∈ _
      rcases List.mem_cons.mp h1 with e | e
      · rw [e]
        split <;> simp
      · simp [e]
    · show y ≤ maxI (if n < x then x else n) xs
      have h0 := h2 _ List.mem_cons_self
      have h3 : ∀ y ∈ xs, _ := fun y e => h2 y (List.mem_cons_of_mem _ e)
      generalize maxI (if n < x then x else n) xs = m at h0 h3 ⊢
      rcases List.mem_cons.mp hy with e | e
      · subst e
        split at h0 <;> omega
      · rcases List.mem_cons.mp e with e | e
        · subst e
          split at h0 <;> omega
        · exact h3 y e
theorem minI_spec : ∀ (ns : List Int) (n : Int), minI n ns ∈ n :: ns ∧ ∀ y ∈ n :: ns, minI n ns ≤ y
  | [], n => ⟨List.mem_cons_self, fun y h => by rw [List.mem_singleton.mp h]; exact Int.le_refl _⟩
  | x :: xs, n => by
    obtain ⟨h1, h2⟩ := minI_spec xs (if x < n then x else n)
    refine ⟨?_, fun y hy => ?_⟩
    · show minI (if x < n then x else n) xs ∈ _
      rcases List.mem_cons.mp h1 with e | e
      · rw [e]
        split <;> simp
      · simp [e]
    · show minI (if x < n then x else n) xs ≤ y
      have h0 := h2 _ List.mem_cons_self
      have h3 : ∀ y ∈ xs, _ := fun y e => h2 y (List.mem_cons_of_mem _ e)
      generalize minI (if x < n then x else n) xs = m at h0 h3 ⊢
      rcases List.mem_cons.mp hy with e | e
      · subst e
        split at h0 <;> omega
      · rcases List.mem_cons.mp e with e | e
        · subst e
          split at h0 <;> omega
        · exact h3 y e
theorem bi_max1 (hK : X.K = Y.K) (hc : X.calm = true) (mu : Bool) : CallR X (.builtin "max") (rB Y τ W (biD .max1 mu)) := by
  intro pins s σ H xs us Q I r ⟨ds, as, S, w, rs, h⟩
  replace h : Post Y H as τ W (match (generalizing := false) ds with
    | [x] => match lsR S x with
      | some xs => match mapO intO xs with
        | some (n :: ns) => .ok (.int (maxI n ns)) S
        | _ => .bad
      | none => .bad
    | _ => .bad) (zE Y Q) := h
  split at h
  · obtain ⟨v, rfl, rv⟩ := rs.one
    split at h
    · rename_i xs e
      obtain ⟨a, vs, rfl, h1, z1, q1⟩ := lsR_rep w rv e
      split at h
      · rename_i n ns e2
        have ev := ints_rep q1 e2
        subst ev
        refine cr_max hc pins s σ H _ us Q I r ⟨a, n :: ns, rfl, by rw [hK]; exact h1, Nat.succ_pos _, fun m hm hle => ?_⟩
        obtain ⟨g1, g2⟩ := maxI_spec ns n
        have em : m = maxI n ns := Int.le_antisymm (g2 m hm) (hle _ g1)
        subst em
        exact now w h (.int _)
      · exact h.elim
    · exact h.elim
  · exact h.elim
theorem bi_min1 (hK : X.K = Y.K) (hc : X.calm = true) (mu : Bool) : CallR X (.builtin "min") (rB Y τ W (biD .min1 mu)) := by
  intro pins s σ H xs us Q I r ⟨ds, as, S, w, rs, h⟩
  replace h : Post Y H as τ W (match (generalizing := false) ds with
    | [x] => match lsR S x with
      | some xs => match mapO intO xs with
        | some (n :: ns) => .ok (.int (minI n ns)) S
        | _ => .bad
      | none => .bad
    | _ => .bad) (zE Y Q) := h
  split at h
  · obtain ⟨v, rfl, rv⟩ := rs.one
    split at h
    · rename_i xs e
      obtain ⟨a, vs, rfl, h1, z1, q1⟩ := lsR_rep w rv e
      split at h
      · rename_i n ns e2
        have ev := ints_rep q1 e2
        subst ev
        refine cr_min hc pins s σ H _ us Q I r ⟨a, n :: ns, rfl, by rw [hK]; exact h1, Nat.succ_pos _, fun m hm hle => ?_⟩
        obtain ⟨g1, g2⟩ := minI_spec ns n
        have em : m = minI n ns := Int.le_antisymm (hle _ g1) (g2 m hm)
        subst em
        exact now w h (.int _)
      · exact h.elim
    · exact h.elim
  · exact h.elim
theorem bi_sum (hK : X.K = Y.K) (hc : X.calm = true) (mu : Bool) : CallR X (.builtin "sum") (rB Y τ W (biD .sum mu)) := by
  intro pins s σ H xs us Q I r ⟨ds, as, S, w, rs, h⟩
  replace h : Post Y H as τ W (match (generalizing := false) ds with
    | [x] => match lsR S x with
      | some xs => match mapO intO xs with
        | some ns => .ok (.int ns.sum) S
        | none => .bad
      | none => .bad
    | _ => .bad) (zE Y Q) := h
  split at h
  · obtain ⟨v, rfl, rv⟩ := rs.one
    split at h
    · rename_i xs e
      obtain ⟨a, vs, rfl, h1, z1, q1⟩ := lsR_rep w rv e
      split at h
      · rename_i ns e2
        have ev := ints_rep q1 e2
        subst ev
        exact cr_sum hc pins s σ H _ us Q I r ⟨a, ns, rfl, by rw [hK]; exact h1, now w h (.int _)⟩
      · exact h.elim
    · exact h.elim
  · exact h.elim
theorem bi_all (hK : X.K = Y.K) (hc : X.calm = true) (mu : Bool) : CallR X (.builtin "all") (rB Y τ W (biD .all mu)) := by
  intro pins s σ H xs us Q I r ⟨ds, as, S, w, rs, h⟩
  replace h : Post Y H as τ W (match (generalizing := false) ds with
    | [x] => match lsR S x with
      | some xs => match mapO blO xs with
        | some bs => .ok (.bl (bs.all id)) S
        | none => .bad
      | none => .bad
    | _ => .bad) (zE Y Q) := h
  split at h
  · obtain ⟨v, rfl, rv⟩ := rs.one
    split at h
    · rename_i xs e
      obtain ⟨a, vs, rfl, h1, z1, q1⟩ := lsR_rep w rv e
      split at h
      · rename_i ns e2
        have ev := bls_rep q1 e2
        subst ev
        exact cr_all hc pins s σ H _ us Q I r ⟨a, ns, rfl, by rw [hK]; exact h1, now w h (.bl _)⟩
      · exact h.elim
    · exact h.elim
  · exact h.elim
theorem bi_any (hK : X.K = Y.K) (hc : X.calm = true) (mu : Bool) : CallR X (.builtin "any") (rB Y τ W (biD .any mu)) := by
  intro pins s σ H xs us Q I r ⟨ds, as, S, w, rs, h⟩
  replace h : Post Y H as τ W (match (generalizing := false) ds with
    | [x] => match lsR S x with
      | some xs => match mapO blO xs with
        | some bs => .ok (.bl (bs.any id)) S
        | none => .bad
      | none => .bad
    | _ => .bad) (zE Y Q) := h
  split at h
  · obtain ⟨v, rfl, rv⟩ := rs.one
    split at h
    · rename_i xs e
      obtain ⟨a, vs, rfl, h1, z1, q1⟩ := lsR_rep w rv e
      split at h
      · rename_i ns e2
        have ev := bls_rep q1 e2
        subst ev
        exact cr_any hc pins s σ H _ us Q I r ⟨a, ns, rfl, by rw [hK]; exact h1, now w h (.bl _)⟩
      · exact h.elim
    · exact h.elim
  · exact h.elim
theorem bi_gcd (mu : Bool) : CallR X (.builtin "math.gcd") (rB Y τ W (biD .gcd mu)) := by
  intro pins s σ H xs us Q I r ⟨ds, as, S, w, rs, h⟩
  replace h : Post Y H as τ W (match (generalizing := false) ds with
    | [.int a, .int b] => .ok (.int ((Nat.gcd a.natAbs b.natAbs : Nat) : Int)) S
    | _ => .bad) (zE Y Q) := h
  split at h
  · rename_i i j
    obtain ⟨v, u, rfl, rv, ru⟩ := rs.two
    cases rv
    cases ru
    exact cr_gcd pins s σ H _ us Q I r ⟨i, j, rfl, now w h (.int _)⟩
  · exact h.elim
theorem bi_isqrt (mu : Bool) : CallR X (.builtin "math.isqrt") (rB Y τ W (biD .isqrt mu)) := by
  intro pins s σ H xs us Q I r ⟨ds, as, S, w, rs, h⟩
  replace h : Post Y H as τ W (match (generalizing := false) ds with
    | [.int i] => if isqrtOk i = true then .ok (.int ((PySem.Float64.isqrt i.toNat : Nat) : Int)) S else .bad
    | _ => .bad) (zE Y Q) := h
  split at h
  · rename_i i
    obtain ⟨v, rfl, rv⟩ := rs.one
    cases rv
    split at h
    · rename_i hi
      unfold isqrtOk at hi
      rw [Bool.and_eq_true] at hi
      have h0 : 0 ≤ i := of_decide_eq_true hi.1
      have h1 : i.toNat.log2 < 13000 := of_decide_eq_true hi.2
      obtain ⟨u, rfl, t, rfl⟩ := vals1 r
      exact call_function_meets PySem.W.MGF.kind_isqrt PySem.W.MGF.plain_isqrt PySem.W.MGF.entry_isqrt (PySem.W.MGF.args_isqrt _) (PySem.W.mg_run_isqrt i t (by omega) (by omega) (by omega)).meets ⟨.int _, H, I.tok _, ⟨_, rfl⟩, now w h (.int _)⟩
    · exact h.elim
  · exact h.elim

/-! ### subscripts, slices -/
theorem atI_eq {α : Type} (xs : List α) (i : Int) : Px.atI xs i = L2.atI xs i := by
  unfold Px.atI L2.atI
  show _ = (Px.ixN xs.length i).bind _
  cases Px.ixN xs.length i <;> rfl
theorem RepL.atI {H : Hp} {as : Ad} {ds : List D} {vs : List V} {i : Int} {d : D} (r : RepL Y H as ds vs) (h : Px.atI ds i = some d) : ∃ v, L2.atI vs i = some v ∧ Rep Y H as d v := by
  rw [atI_eq] at h
  unfold L2.atI at h ⊢
  rw [r.length] at h
  cases e : L2.ixN vs.length i with
  | none => rw [e] at h; cases h
  | some j =>
    rw [e] at h
    exact r.get (show ds[j]? = some d from h)
theorem ix_sub (hK : X.K = Y.K) : IxR X (rD Y τ W subD) := by
  intro value slice pins s σ H x y v u Q I rx ry ⟨d, e, as, S, w, rd, re, h⟩ hs
  replace h : Post Y H as τ W (match (generalizing := false) e with
    | .int k => match (generalizing := false) d with
      | .str _ => .bad
      | x => match seqOf S x with
        | some xs => match Px.atI xs k with
          | some d => .ok d S
          | none => .bad
        | none => .bad
    | _ => .bad) (zE Y Q) := h
  split at h
  · rename_i k
    cases re
    split at h
    · exact h.elim
    · split at h
      · rename_i xs e1
        split at h
        · rename_i d' e2
          obtain ⟨a, vs, rfl, h1, z1, q1⟩ := seqOf_rep w rd e1
          obtain ⟨v', h3, r3⟩ := q1.atI e2
          rcases h1 with h1 | h1
          · exact ix_list value slice pins s σ H _ _ v u Q I rx ry ⟨a, vs, k, v', rfl, rfl, by rw [hK]; exact h1, h3, now w h r3⟩ hs
          · exact ix_tup value slice pins s σ H _ _ v u Q I rx ry ⟨a, vs, k, v', rfl, rfl, by rw [hK]; exact h1, h3, now w h r3⟩ hs
        · exact h.elim
      · exact h.elim
  · exact h.elim
theorem sIx_eq (n d : Nat) (i : Option Int) : HT.sIx n d i = Px.sIx n d i := by
  cases i <;> rfl
theorem RepL.cut {H : Hp} {as : Ad} {ds : List D} {vs : List V} {lo hi : Option Int} (r : RepL Y H as ds vs) : RepL Y H as (Px.cut ds lo hi) (cutV vs lo hi) := by
  unfold Px.cut cutV
  rw [sIx_eq, sIx_eq, r.length]
  exact (r.drop _).take _
/-- a slice by values -/
def rSl (Y : Fx) (σ : L2.St) (W : WX) (mu : Bool) : V → Option Int → Option Int → Hp → VK → Prop := fun x lo hi H Q => ∃ d as S, Wd Y H as S ∧ Rep Y H as d x ∧ Post Y H as σ W (slcD mu d lo hi S) (zE Y Q)
theorem cut_all {vs : List V} {lo hi : Option Int} (h : HT.sIx vs.length 0 lo = 0 ∧ HT.sIx vs.length vs.length hi = vs.length) : cutV vs lo hi = vs := by
  unfold cutV
  rw [h.1, h.2]
  simp
theorem cutD_all {n : Nat} {ds : List D} {lo hi : Option Int} (e : ds.length = n) (h : HT.sIx n 0 lo = 0 ∧ HT.sIx n n hi = n) : Px.cut ds lo hi = ds := by
  subst e
  unfold Px.cut
  rw [← sIx_eq, ← sIx_eq, h.1, h.2]
  simp
theorem sl_any (hK : X.K = Y.K) (mu : Bool) : SlR X (rSl Y τ W mu) := by
  intro pins s σ H x v vl vu lo hi sl Q I rx hs pl pu ⟨d, as, S, w, rd, h⟩
  unfold slcD at h
  split at h
  · rename_i xs
    cases rd with
    | @tup a vs _ h1 z1 q1 =>
      refine sl_tupA pins s σ H _ v vl vu lo hi sl Q I rx hs pl pu ⟨a, vs, rfl, by rw [hK]; exact h1, fun ha => ?_, fun _ p np => ?_⟩
      · rw [cutD_all q1.length ha] at h
        exact now w h (.tup h1 z1 q1)
      · exact tup_post w q1.cut (Nat.le_trans (cutV_length _ _ _) z1) np h
  · split at h
    · rename_i xs e
      obtain ⟨a, vs, rfl, h1, z1, q1⟩ := lsR_rep w rd e
      exact sl_list pins s σ H _ v vl vu lo hi sl Q I rx hs pl pu ⟨a, vs, rfl, by rw [hK]; exact h1, fun p np => alloc_post w q1.cut (Nat.le_trans (cutV_length _ _ _) z1) np h⟩
    · exact h.elim

/-! ### isinstance of data -/
def tyN : Ty → String
  | .int => "int" | .bool => "bool" | .str => "str" | .tuple => "tuple" | .list => "list"
theorem kit_all {K : PySem.W.Frag} : ∀ (t : Ty), PySem.W.kitOne K (.type "NoneType") (.type (tyN t)) = some false ∧
    PySem.W.kitOne K (.type "bool") (.type (tyN t)) = some (decide (t = .bool) || decide (t = .int)) ∧ PySem.W.kitOne K (.type "int") (.type (tyN t)) = some (decide (t = .int)) ∧
    PySem.W.kitOne K (.type "str") (.type (tyN t)) = some (decide (t = .str)) ∧ PySem.W.kitOne K (.type "tuple") (.type (tyN t)) = some (decide (t = .tuple)) ∧ PySem.W.kitOne K (.type "list") (.type (tyN t)) = some (decide (t = .list))
  | .int => ⟨kit_ty (by decide +kernel), kit_ty (by decide +kernel), kit_ty (by decide +kernel), kit_ty (by decide +kernel), kit_ty (by decide +kernel), kit_ty (by decide +kernel)⟩
  | .bool => ⟨kit_ty (by decide +kernel), kit_ty (by decide +kernel), kit_ty (by decide +kernel), kit_ty (by decide +kernel), kit_ty (by decide +kernel), kit_ty (by decide +kernel)⟩
  | .str => ⟨kit_ty (by decide +kernel), kit_ty (by decide +kernel), kit_ty (by decide +kernel), kit_ty (by decide +kernel), kit_ty (by decide +kernel), kit_ty (by decide +kernel)⟩
  | .tuple => ⟨kit_ty (by decide +kernel), kit_ty (by decide +kernel), kit_ty (by decide +kernel), kit_ty (by decide +kernel), kit_ty (by decide +kernel), kit_ty (by decide +kernel)⟩
  | .list => ⟨kit_ty (by decide +kernel), kit_ty (by decide +kernel), kit_ty (by decide +kernel), kit_ty (by decide +kernel), kit_ty (by decide +kernel), kit_ty (by decide +kernel)⟩
theorem tyX_tup {K : PySem.W.Frag} {H : Hp} {a : Addr} {xs : List V} (h : SqT K H a xs) : TyX K H (.ref a) (.type "tuple") := by
  rcases h with (h | ⟨o, h⟩) | ⟨o, its, n, h1, h2, _⟩
  · exact .base (.tup h)
  · exact .fTuple h
  · exact .kTuple h1 h2
theorem isi_kit {H : Hp} {as : Ad} {S : Sto} {d : D} {v : V} {t : Ty} {b : Bool} (w : Wd Y H as S) (r : Rep Y H as d v) (h : isiD d t = some b) : ∃ tv, TyX Y.K H v tv ∧ PySem.W.kitOne Y.K tv (.type (tyN t)) = some b := by
  obtain ⟨k1, k2, k3, k4, k5, k6⟩ := kit_all (K := Y.K) t
  have fin : ∀ {c : Bool} {tv : Value}, TyX Y.K H v tv → PySem.W.kitOne Y.K tv (.type (tyN t)) = some c → c = b → ∃ tv, TyX Y.K H v tv ∧ PySem.W.kitOne Y.K tv (.type (tyN t)) = some b := fun a k e => ⟨_, a, by rw [k, e]⟩
  cases r with
  | non => exact fin (.base .non) k1 (by cases t <;> exact Option.some.inj h)
  | bl x => exact fin (.base (.bl x)) k2 (by cases t <;> exact Option.some.inj h)
  | int x => exact fin (.base (.int x)) k3 (by cases t <;> exact Option.some.inj h)
  | str x => exact fin (.base (.str x)) k4 (by cases t <;> exact Option.some.inj h)
  | tup h1 z q => exact fin (tyX_tup h1) k5 (by cases t <;> exact Option.some.inj h)
  | lst h1 n z q => exact fin (.base (.lst h1)) k6 (by cases t <;> exact Option.some.inj h)
  | @cel i a h1 =>
    obtain ⟨vs, hv⟩ := w.mem (.inl (List.mem_of_getElem? h1))
    exact fin (.base (.lst hv)) k6 (by cases t <;> exact Option.some.inj h)
  | rl h1 z q => cases h
  | fn n _ => cases h
end
end Px
end

section
set_option Elab.async false
set_option linter.all false
set_option maxRecDepth 100000
set_option maxHeartbeats 1000000
/-! Px: the checker: the given tree beside ours. -/
namespace Px
open PySem PySem.Spec PyProof.Rows L2

/-- what stands behind the module's names -/
structure Tb where
  fns : List (Nat × Str)
  csts : List (Str × D)
  free : List Str
  mfn : List (Str × String)
  cls : List (Nat × Str)
  /-- the defs that try a lambda -/
  tds : List (Nat × Str × Td)
  /-- whether a lambda may be made here -/
  lam : Bool

def dbeqL (f : D → D → Bool) : List D → List D → Bool
  | [], [] => true
  | x :: xs, y :: ys => f x y && dbeqL f xs ys
  | _, _ => false
def dbeq : Nat → D → D → Bool
  | 0, _, _ => false
  | n + 1, a, b => match a, b with
    | .non, .non => true
    | .bl a, .bl b => a == b
    | .int a, .int b => decide (a = b)
    | .str a, .str b => decide (a = b)
    | .tup a, .tup b => dbeqL (dbeq n) a b
    | .lst a, .lst b => dbeqL (dbeq n) a b
    | .rl a, .rl b => dbeqL (dbeq n) a b
    | .cel a, .cel b => decide (a = b)
    | .fn a, .fn b => decide (a = b)
    | _, _ => false
theorem dbeqL_eq {f : D → D → Bool} (hf : ∀ a b, f a b = true → a = b) : ∀ {xs ys : List D}, dbeqL f xs ys = true → xs = ys
  | [], [], _ => rfl
  | [], _ :: _, h => by cases h
  | _ :: _, [], h => by cases h
  | x :: xs, y :: ys, h => by
    rw [dbeqL, Bool.and_eq_true] at h
    rw [hf _ _ h.1, dbeqL_eq hf h.2]
theorem dbeq_eq : ∀ (n : Nat) {a b : D}, dbeq n a b = true → a = b := by
  intro n
  induction n with
  | zero => intro a b h; cases h
  | succ n ih =>
    intro a b h
    cases a <;> cases b <;> first
      | rfl
      | (cases (show false = true from h); done)
      | (exact congrArg D.bl (eq_of_beq (show (_ == _) = true from h)))
      | (exact congrArg D.int (of_decide_eq_true (show decide (_ = _) = true from h)))
      | (exact congrArg D.str (of_decide_eq_true (show decide (_ = _) = true from h)))
      | (exact congrArg D.cel (of_decide_eq_true (show decide (_ = _) = true from h)))
      | (exact congrArg D.fn (of_decide_eq_true (show decide (_ = _) = true from h)))
      | (exact congrArg D.tup (dbeqL_eq (fun a b h => ih h) (show dbeqL (dbeq n) _ _ = true from h)))
      | (exact congrArg D.lst (dbeqL_eq (fun a b h => ih h) (show dbeqL (dbeq n) _ _ = true from h)))
      | (exact congrArg D.rl (dbeqL_eq (fun a b h => ih h) (show dbeqL (dbeq n) _ _ = true from h)))

/-! ### names -/
def nodbg (x : Str) : Bool := !(x == ("__debug__" : Str)) && !(x == ("__classdict__" : Str))
def visB (sc : Scope) (x : Str) : Bool := match sc.names.lookup x with
  | some .local => true | some .cell => true | some .free => true
  | _ => false
def locB (sc : Scope) (x : Str) : Bool := match sc.names.lookup x with
  | some .local => true | some .cell => true
  | _ => false
def glB (sc : Scope) (x : Str) : Bool := match sc.names.lookup x with
  | some .globalImplicit => true
  | _ => false
def eqS (x y : Str) : Bool := decide (x = y)
def memS (x : Str) : List Str → Bool
  | [] => false
  | y :: ys => if decide (x = y) = true then true else memS x ys
def lookN (n : Nat) : List (Nat × Str) → Option Str
  | [] => none
  | (m, x) :: r => if Nat.beq n m = true then some x else lookN n r
def lookC {α : Type} (x : Str) : List (Str × α) → Option α
  | [] => none
  | (y, d) :: r => if decide (x = y) = true then some d else lookC x r
theorem visB_ok {sc : Scope} {x : Str} (h : visB sc x = true) : Vis sc x := by
  unfold visB at h
  split at h <;> first
    | exact .inl (by assumption)
    | exact .inr (.inl (by assumption))
    | exact .inr (.inr (by assumption))
    | cases h
theorem locB_ok {sc : Scope} {x : Str} (h : locB sc x = true) : Loc sc x := by
  unfold locB at h
  split at h <;> first
    | exact .inl (by assumption)
    | exact .inr (by assumption)
    | cases h
theorem glB_ok {sc : Scope} {x : Str} (h : glB sc x = true) : sc.names.lookup x = some .globalImplicit := by
  unfold glB at h
  split at h <;> first | assumption | cases h
theorem nodbg_ok {x : Str} (h : nodbg x = true) : (x == ("__debug__" : Str)) = false ∧ (x == ("__classdict__" : Str)) = false := by
  unfold nodbg at h
  rw [Bool.and_eq_true, Bool.not_eq_true', Bool.not_eq_true'] at h
  exact h
theorem memS_ok {x : Str} : ∀ {l : List Str}, memS x l = true → x ∈ l
  | [], h => by cases h
  | y :: ys, h => by
    unfold memS at h
    split at h
    · rename_i e
      rw [of_decide_eq_true e]
      exact List.mem_cons_self
    · exact List.mem_cons_of_mem _ (memS_ok h)
theorem lookN_ok {n : Nat} {x : Str} : ∀ {l : List (Nat × Str)}, lookN n l = some x → (n, x) ∈ l
  | [], h => by cases h
  | (m, y) :: r, h => by
    unfold lookN at h
    split at h
    · rename_i e
      have e1 : n = m := Nat.eq_of_beq_eq_true e
      have e2 := Option.some.inj h
      rw [e1, ← e2]
      exact List.mem_cons_self
    · exact List.mem_cons_of_mem _ (lookN_ok h)
theorem lookC_ok {α : Type} {x : Str} {d : α} : ∀ {l : List (Str × α)}, lookC x l = some d → (x, d) ∈ l
  | [], h => by cases h
  | (y, e) :: r, h => by
    unfold lookC at h
    split at h
    · rename_i q
      have e1 := of_decide_eq_true q
      have e2 := Option.some.inj h
      rw [e1, ← e2]
      exact List.mem_cons_self
    · exact List.mem_cons_of_mem _ (lookC_ok h)

/-! ### a lambda that is tried -/
def lookT (n : Nat) : List (Nat × Str × Td) → Option (Str × Td)
  | [] => none
  | (m, x) :: r => if Nat.beq n m = true then some x else lookT n r
theorem lookT_ok {n : Nat} {x : Str} {t : Td} : ∀ {l : List (Nat × Str × Td)}, lookT n l = some (x, t) → (n, x, t) ∈ l
  | [], h => by cases h
  | (m, y) :: r, h => by
    unfold lookT at h
    split at h
    · rename_i e
      have e1 : n = m := Nat.eq_of_beq_eq_true e
      have e2 := Option.some.inj h
      rw [e1, ← e2]
      exact List.mem_cons_self
    · exact List.mem_cons_of_mem _ (lookT_ok h)
def atEq : List (Nat × D) → List (Nat × D) → Bool
  | [], [] => true
  | (m, x) :: r, (n, y) :: q => Nat.beq m n && (dbeq 5 x y && atEq r q)
  | _, _ => false
theorem atEq_ok : ∀ {a b : List (Nat × D)}, atEq a b = true → a = b
  | [], [], _ => rfl
  | (m, x) :: r, (n, y) :: q, h => by
    rw [atEq, Bool.and_eq_true, Bool.and_eq_true] at h
    rw [Nat.eq_of_beq_eq_true h.1, dbeq_eq 5 h.2.1, atEq_ok h.2.2]
  | [], _ :: _, h => by cases h
  | _ :: _, [], h => by cases h
def tdEq (a b : Td) : Bool := dbeq 5 a.fin b.fin && atEq a.at_ b.at_
theorem tdEq_ok {a b : Td} (h : tdEq a b = true) : a = b := by
  obtain ⟨f, l⟩ := a
  obtain ⟨g, m⟩ := b
  rw [tdEq, Bool.and_eq_true] at h
  have e1 : f = g := dbeq_eq 5 h.1
  have e2 : l = m := atEq_ok h.2
  rw [e1, e2]
def tdB (B : Tb) (n : Nat) (x : Str) (t : Td) : Bool := match lookT n B.tds with
  | some q => eqS q.1 x && tdEq q.2 t
  | none => false
theorem tdB_ok {B : Tb} {n : Nat} {x : Str} {t : Td} (h : tdB B n x t = true) : (n, x, t) ∈ B.tds := by
  unfold tdB at h
  split at h
  · rename_i q e
    obtain ⟨y, u⟩ := q
    rw [Bool.and_eq_true] at h
    have e1 : y = x := of_decide_eq_true h.1
    have e2 : u = t := tdEq_ok h.2
    rw [e1, e2] at e
    exact lookT_ok e
  · cases h
def noArgs (p : Arguments) : Bool := p.posonlyargs.isEmpty && (p.args.isEmpty && (p.vararg.isNone && (p.kwonlyargs.isEmpty && (p.kw_defaults.isEmpty && (p.kwarg.isNone && p.defaults.isEmpty)))))

/-! ### plain trees -/
def plainE : PySem.Expr → Bool
  | .Starred .. => false
  | .Set .. => false
  | .Slice .. => false
  | _ => true
theorem star_cons {e : PySem.Expr} (h : plainE e = true) (es : List PySem.Expr) (env : PySem.Env) : starEach (e :: es) env = (false, eval e env) :: starEach es env := by
  cases e <;> first | rfl | cases h
theorem mark_plain {e : PySem.Expr} (h : plainE e = true) (op : CmpOp) : behindInMarks op e = false := by
  cases e <;> first | rfl | cases h
theorem ix_plain {e : PySem.Expr} (h : plainE e = true) : PlainIx e := by
  cases e <;> first | exact fun _ _ => rfl | cases h
theorem fold_plain {e : PySem.Expr} (h : plainE e = true) (env : PySem.Env) (x : Value) : foldedSetIterable e env x = pure x := by
  cases e <;> first | rfl | cases h
theorem last_plain {o1 o2 : CmpOp} {b c : PySem.Expr} (h : plainE c = true) : lastMarks [o1, o2] [b, c] = false := mark_plain h o2
def plainL : List PySem.Expr → Bool
  | [] => true
  | e :: es => plainE e && plainL es
theorem star_none : ∀ {es : List PySem.Expr} {env : PySem.Env} {pos : Pos}, plainL es = true → (backTo pos (starEach es env)).any (·.1) = false
  | [], _, _, _ => rfl
  | e :: es, env, pos, h => by
    rw [plainL, Bool.and_eq_true] at h
    rw [star_cons h.1]
    exact star_none h.2

/-! ### operators -/
def opB : Bo → Operator → Bool
  | .add, .Add => true | .sub, .Sub => true | .mul, .Mult => true | .fdiv, .FloorDiv => true | .mod, .Mod => true | .pow, .Pow => true
  | _, _ => false
def coB : Co → CmpOp → Bool
  | .eq, .Eq => true | .ne, .NotEq => true | .lt, .Lt => true | .le, .LtE => true | .gt, .Gt => true | .ge, .GtE => true
  | .isN, .Is => true | .isNot, .IsNot => true | .isin, .In => true | .notin, .NotIn => true
  | _, _ => false
/-- the built-in's name, whether it is a type, its id -/
def biN : Bi → Str × Bool × String
  | .len => ("len", false, "len") | .abs => ("abs", false, "abs") | .int => ("int", true, "int") | .list => ("list", true, "list") | .tuple => ("tuple", true, "tuple")
  | .max2 => ("max", false, "max") | .min2 => ("min", false, "min") | .max1 => ("max", false, "max") | .min1 => ("min", false, "min")
  | .sum => ("sum", false, "sum") | .all => ("all", false, "all") | .any => ("any", false, "any") | .gcd => ("gcd", false, "math.gcd") | .isqrt => ("isqrt", false, "math.isqrt")
def mathB : Bi → Bool
  | .gcd => true | .isqrt => true
  | _ => false
def tyS : Ty → Str
  | .int => "int" | .bool => "bool" | .str => "str" | .tuple => "tuple" | .list => "list"
def constB : Const → D → Bool
  | .none, .non => true
  | .bool a, .bl b => a == b
  | .int i, .int j => decide (i = j)
  | .str x, .str y => decide (x = y)
  | _, _ => false
/-- whether a tree's test is its value's truth by a rule of ours -/
def tst : RE → Bool
  | .ite _ _ _ => false
  | .and a b => tst a && tst b
  | .or a b => tst a && tst b
  | .not a => tst a
  | .nil => false
  | .cons _ _ => false
  | _ => true

inductive Qx where
  | E (e : PySem.Expr) | L (es : List PySem.Expr) | I (tg e : PySem.Expr)
inductive Qt where
  | E (e : PySem.Expr) | L (es : List PySem.Expr)
def isYes : RE → Bool
  | .c (.bl true) => true
  | _ => false
def isNo : RE → Bool
  | .c .non => true
  | _ => false
def isTupE : PySem.Expr → Bool
  | .Tuple .. => true
  | _ => false

def chkT (N : List Str) (sc : Scope) (fnb : Str → Bool) : Tg → Qt → Bool
  | .name i, .E (.Name x _) => decide (N[i]? = some x) && (locB sc x && (fnb x || (match sc.names.lookup x with | some .local => true | _ => false)))
  | .tup l, .E (.Tuple es _ _) => plainL es && chkT N sc fnb l (.L es)
  | .nil, .L [] => true
  | .cons a r, .L (e :: es) => chkT N sc fnb a (.E e) && chkT N sc fnb r (.L es)
  | _, _ => false

/-- every name of a target is among these -/
def tgIn : Tg → List Nat → Bool
  | .name i, own => own.contains i
  | .tup l, own => tgIn l own
  | .nil, _ => true
  | .cons a r, own => tgIn a own && tgIn r own
def blkFn (scope : Scope) : Str → Bool := fun x => scope.names.lookup x == some .cell
def ownB (N : List Str) (own : List Nat) : List (Str × Nat) := own.filterMap fun i => match N[i]? with
  | some x => some (x, i)
  | none => none

def meN : Me → Str
  | .append => "append" | .pop => "pop" | .popAt => "pop"
def meC : Me → List PySem.Expr → Bool
  | .append, [_] => true
  | .pop, [] => true
  | .popAt, [_] => true
  | _, _ => false
def notCall : PySem.Expr → Bool
  | .Call .. => false
  | _ => true
def revC (e : PySem.Expr) (f : Int → PySem.Expr → Bool) : Bool := match e with
  | .Subscript x (.Slice none none (some (.UnaryOp .USub (.Constant (.int i) _ _) _)) _) _ => f i x
  | _ => false
def chk (B : Tb) (N : List Str) : RE → Scope → Qx → Bool
  | .var i, sc, .E (.Name x _) => decide (N[i]? = some x) && (visB sc x && nodbg x)
  | .c d, sc, .E e => match e with
    | .Constant k _ _ => constB k d
    | .Name x _ => glB sc x && (nodbg x && (match lookC x B.csts with | some d' => dbeq 100 d' d | none => false))
    | _ => false
  | .gl n, sc, .E (.Name x _) => glB sc x && (nodbg x && (match lookN n B.fns with | some y => eqS x y | none => false))
  | .tup l, sc, .E (.Tuple es _ _) => Nat.ble es.length 100000 && chk B N l sc (.L es)
  | .lst _ l, sc, .E (.List es _) => Nat.ble es.length 100000 && chk B N l sc (.L es)
  | .bin op _ a b, sc, .E (.BinOp x o y _) => opB op o && (chk B N a sc (.E x) && chk B N b sc (.E y))
  | .neg a, sc, .E (.UnaryOp .USub x _) => chk B N a sc (.E x)
  | .cmp op a b, sc, .E (.Compare x [o] [y] _) => coB op o && (plainE y && (chk B N a sc (.E x) && chk B N b sc (.E y)))
  | .chain o1 o2 a b c, sc, .E (.Compare x [p1, p2] [y, z] _) => coB o1 p1 && (coB o2 p2 && (plainE z && (chk B N a sc (.E x) && (chk B N b sc (.E y) && chk B N c sc (.E z)))))
  | .and a b, sc, .E (.BoolOp .And (x :: y :: rest) pos) => chk B N a sc (.E x) && (match rest with
    | [] => chk B N b sc (.E y)
    | z :: t => chk B N b sc (.E (.BoolOp .And (y :: z :: t) pos)))
  | .or a b, sc, .E (.BoolOp .Or (x :: y :: rest) pos) => chk B N a sc (.E x) && (match rest with
    | [] => chk B N b sc (.E y)
    | z :: t => chk B N b sc (.E (.BoolOp .Or (y :: z :: t) pos)))
  | .not a, sc, .E (.UnaryOp .Not x _) => tst a && chk B N a sc (.E x)
  | .ite c a b, sc, .E (.IfExp x y z _) => tst c && (chk B N c sc (.E x) && (chk B N a sc (.E y) && chk B N b sc (.E z)))
  | .call n l, sc, .E (.Call (.Name x _) (e :: es) [] _) => glB sc x && (nodbg x && ((match lookN n B.fns with | some y => eqS x y | none => false) && (plainL (e :: es) && chk B N l sc (.L (e :: es)))))
  | .callv i l, sc, .E (.Call (.Name x _) (e :: es) [] _) => decide (N[i]? = some x) && (visB sc x && (nodbg x && (plainL (e :: es) && chk B N l sc (.L (e :: es)))))
  | .call0 n, sc, .E (.Call (.Name x _) [] [] _) => glB sc x && (nodbg x && (match lookN n B.fns with | some y => eqS x y | none => false))
  | .lset a, sc, .E (.Call (.Name x _) [.Call (.Name y _) [e] [] _] [] _) => eqS x "len" && (glB sc x && (memS x B.free && (eqS y "set" && (glB sc y && (memS y B.free && (plainE e && chk B N a sc (.E e)))))))
  | .bi b _ l, sc, .E (.Call (.Name x _) (e :: es) [] _) => eqS x (biN b).1 && (glB sc x && ((if mathB b = true then (match lookC x B.mfn with | some id => decide (id = (biN b).2.2) | none => false) else memS x B.free) && (plainL (e :: es) && chk B N l sc (.L (e :: es)))))
  | .isi a t, sc, .E (.Call (.Name x _) [e, .Name ty _] [] _) => eqS x "isinstance" && (glB sc x && (memS x B.free && (eqS ty (tyS t) && (glB sc ty && (memS ty B.free && (plainE e && chk B N a sc (.E e)))))))
  | .sub a i, sc, .E (.Subscript x y _) => plainE y && (chk B N a sc (.E x) && chk B N i sc (.E y))
  | .slc _ a lo hi, sc, .E (.Subscript x (.Slice l h none _) _) => chk B N a sc (.E x) && ((match l with
      | some l => chk B N lo sc (.E l)
      | none => isNo lo) && (match h with
      | some h => chk B N hi sc (.E h)
      | none => isNo hi))
  | .rev _ a, sc, .E e => revC e fun i x => decide (i = 1) && chk B N a sc (.E x)
  | .comp _ elt own tg it cond, sc, .E (.ListComp e [g] scope _) => decide (g.is_async = 0) &&
    (blkC N sc scope (ownB N own) && (decide ((ownB N own).map (·.2) = own) && (tgIn tg own && (plainE g.iter && (chk B N it sc (.I g.target g.iter) && (chkT N (relS scope sc) (blkFn scope) tg (.E g.target) &&
      ((match g.ifs with
        | [] => isYes cond
        | [c] => tst cond && chk B N cond (relS scope sc) (.E c)
        | _ => false) && chk B N elt (relS scope sc) (.E e))))))))
  | .meth m a l, sc, .E (.Call (.Attribute o name apos) es [] cpos) => eqS name (meN m) && (notCall o && (decide (apos.endLine = cpos.line) && (plainL es && (meC m es && (chk B N a sc (.E o) && chk B N l sc (.L es))))))
  | .lamc n t a, sc, .E (.Call (.Name x _) [.Lambda ps e scope _] [] _) => B.lam && (glB sc x && (nodbg x && (tdB B n x t && (noArgs ps && (LamX.lamSB sc scope && chk B N a scope (.E e))))))
  | .nil, _, .L [] => true
  | .cons a r, sc, .L (e :: es) => plainE e && (chk B N a sc (.E e) && chk B N r sc (.L es))
  | .seq a, sc, .I _ e => chk B N a sc (.E e)
  | .rng l, sc, .I _ (.Call (.Name x _) es [] _) => eqS x "range" && (glB sc x && (memS x B.free && (plainL es && ((match es with
      | [_] => true
      | [_, _] => true
      | _ => false) && chk B N l sc (.L es)))))
  | .zip a b, sc, .I tg (.Call (.Name x _) [e, e2] [] _) => isTupE tg && (eqS x "zip" && (glB sc x && (memS x B.free && (plainE e && (plainE e2 && (chk B N a sc (.E e) && chk B N b sc (.E e2)))))))
  | .enum a, sc, .I tg (.Call (.Name x _) [e] [] _) => isTupE tg && (eqS x "enumerate" && (glB sc x && (memS x B.free && (plainE e && chk B N a sc (.E e)))))
  | _, _, _ => false
end Px
end

section
set_option Elab.async false
set_option linter.all false
set_option maxRecDepth 100000
set_option maxHeartbeats 1000000
/-! Px: what the checker's yes says of the tree (printed by geninv.py). -/
namespace Px
open PySem PySem.Spec PyProof.Rows L2
theorem inv_var {B : Tb} {N : List Str} {sc : Scope} {i : Nat} {e : PySem.Expr} (h : chk B N (.var i) sc (.E e) = true) : ∃ x p, e = .Name x p ∧ (decide (N[i]? = some x) && (visB sc x && nodbg x)) = true := by
  cases e with
  | Name x p => exact ⟨_, _, rfl, h⟩
  | _ => exact absurd (show false = true from h) Bool.false_ne_true

theorem inv_gl {B : Tb} {N : List Str} {sc : Scope} {n : Nat} {e : PySem.Expr} (h : chk B N (.gl n) sc (.E e) = true) : ∃ x p, e = .Name x p ∧ (glB sc x && (nodbg x && (match lookN n B.fns with | some y => eqS x y | none => false))) = true := by
  cases e with
  | Name x p => exact ⟨_, _, rfl, h⟩
  | _ => exact absurd (show false = true from h) Bool.false_ne_true

theorem inv_tup {B : Tb} {N : List Str} {sc : Scope} {l : RE} {e : PySem.Expr} (h : chk B N (.tup l) sc (.E e) = true) : ∃ es k p, e = .Tuple es k p ∧ (Nat.ble es.length 100000 && chk B N l sc (.L es)) = true := by
  cases e with
  | Tuple es k p => exact ⟨_, _, _, rfl, h⟩
  | _ => exact absurd (show false = true from h) Bool.false_ne_true

theorem inv_lst {B : Tb} {N : List Str} {sc : Scope} {mu : Bool} {l : RE} {e : PySem.Expr} (h : chk B N (.lst mu l) sc (.E e) = true) : ∃ es p, e = .List es p ∧ (Nat.ble es.length 100000 && chk B N l sc (.L es)) = true := by
  cases e with
  | List es p => exact ⟨_, _, rfl, h⟩
  | _ => exact absurd (show false = true from h) Bool.false_ne_true

theorem inv_bin {B : Tb} {N : List Str} {sc : Scope} {op : Bo} {mu : Bool} {a b : RE} {e : PySem.Expr} (h : chk B N (.bin op mu a b) sc (.E e) = true) : ∃ x o y p, e = .BinOp x o y p ∧ (opB op o && (chk B N a sc (.E x) && chk B N b sc (.E y))) = true := by
  cases e with
  | BinOp x o y p => exact ⟨_, _, _, _, rfl, h⟩
  | _ => exact absurd (show false = true from h) Bool.false_ne_true

theorem inv_ite {B : Tb} {N : List Str} {sc : Scope} {c a b : RE} {e : PySem.Expr} (h : chk B N (.ite c a b) sc (.E e) = true) : ∃ x y z p, e = .IfExp x y z p ∧ (tst c && (chk B N c sc (.E x) && (chk B N a sc (.E y) && chk B N b sc (.E z)))) = true := by
  cases e with
  | IfExp x y z p => exact ⟨_, _, _, _, rfl, h⟩
  | _ => exact absurd (show false = true from h) Bool.false_ne_true

theorem inv_neg {B : Tb} {N : List Str} {sc : Scope} {a : RE} {e : PySem.Expr} (h : chk B N (.neg a) sc (.E e) = true) : ∃ x p, e = .UnaryOp .USub x p ∧ (chk B N a sc (.E x)) = true := by
  cases e with
  | UnaryOp o x p =>
    cases o with
    | USub => exact ⟨_, _, rfl, h⟩
    | _ => exact absurd (show false = true from h) Bool.false_ne_true
  | _ => exact absurd (show false = true from h) Bool.false_ne_true

theorem inv_not {B : Tb} {N : List Str} {sc : Scope} {a : RE} {e : PySem.Expr} (h : chk B N (.not a) sc (.E e) = true) : ∃ x p, e = .UnaryOp .Not x p ∧ (tst a && chk B N a sc (.E x)) = true := by
  cases e with
  | UnaryOp o x p =>
    cases o with
    | Not => exact ⟨_, _, rfl, h⟩
    | _ => exact absurd (show false = true from h) Bool.false_ne_true
  | _ => exact absurd (show false = true from h) Bool.false_ne_true

theorem inv_cmp {B : Tb} {N : List Str} {sc : Scope} {op : Co} {a b : RE} {e : PySem.Expr} (h : chk B N (.cmp op a b) sc (.E e) = true) : ∃ x o y p, e = .Compare x [o] [y] p ∧ (coB op o && (plainE y && (chk B N a sc (.E x) && chk B N b sc (.E y)))) = true := by
  cases e with
  | Compare x os ys p =>
    cases os with
    | nil => exact absurd (show false = true from h) Bool.false_ne_true
    | cons o os =>
      cases os with
      | cons _ _ => cases ys with
        | nil => exact absurd (show false = true from h) Bool.false_ne_true
        | cons y ys => cases ys with
          | nil => exact absurd (show false = true from h) Bool.false_ne_true
          | cons _ _ => exact absurd (show false = true from h) Bool.false_ne_true
      | nil => cases ys with
        | nil => exact absurd (show false = true from h) Bool.false_ne_true
        | cons y ys => cases ys with
          | nil => exact ⟨_, _, _, _, rfl, h⟩
          | cons _ _ => exact absurd (show false = true from h) Bool.false_ne_true
  | _ => exact absurd (show false = true from h) Bool.false_ne_true

theorem inv_chain {B : Tb} {N : List Str} {sc : Scope} {o1 o2 : Co} {a b c : RE} {e : PySem.Expr} (h : chk B N (.chain o1 o2 a b c) sc (.E e) = true) : ∃ x p1 p2 y z p, e = .Compare x [p1, p2] [y, z] p ∧ (coB o1 p1 && (coB o2 p2 && (plainE z && (chk B N a sc (.E x) && (chk B N b sc (.E y) && chk B N c sc (.E z)))))) = true := by
  cases e with
  | Compare x os ys p =>
    rcases os with _ | ⟨p1, _ | ⟨p2, _ | ⟨p3, os⟩⟩⟩ <;> rcases ys with _ | ⟨y, _ | ⟨z, _ | ⟨z2, ys⟩⟩⟩ <;> first
      | exact ⟨_, _, _, _, _, _, rfl, h⟩
      | exact absurd (show false = true from h) Bool.false_ne_true
  | _ => exact absurd (show false = true from h) Bool.false_ne_true

theorem inv_and {B : Tb} {N : List Str} {sc : Scope} {a b : RE} {e : PySem.Expr} (h : chk B N (.and a b) sc (.E e) = true) : ∃ x y rest p, e = .BoolOp .And (x :: y :: rest) p ∧ (chk B N a sc (.E x) && (match rest with | [] => chk B N b sc (.E y) | z :: t => chk B N b sc (.E (.BoolOp .And (y :: z :: t) p)))) = true := by
  cases e with
  | BoolOp o xs p =>
    cases o with
    | And =>
      rcases xs with _ | ⟨x, _ | ⟨y, xs⟩⟩
      · exact absurd (show false = true from h) Bool.false_ne_true
      · exact absurd (show false = true from h) Bool.false_ne_true
      · exact ⟨_, _, _, _, rfl, h⟩
    | _ => exact absurd (show false = true from h) Bool.false_ne_true
  | _ => exact absurd (show false = true from h) Bool.false_ne_true

theorem inv_or {B : Tb} {N : List Str} {sc : Scope} {a b : RE} {e : PySem.Expr} (h : chk B N (.or a b) sc (.E e) = true) : ∃ x y rest p, e = .BoolOp .Or (x :: y :: rest) p ∧ (chk B N a sc (.E x) && (match rest with | [] => chk B N b sc (.E y) | z :: t => chk B N b sc (.E (.BoolOp .Or (y :: z :: t) p)))) = true := by
  cases e with
  | BoolOp o xs p =>
    cases o with
    | Or =>
      rcases xs with _ | ⟨x, _ | ⟨y, xs⟩⟩
      · exact absurd (show false = true from h) Bool.false_ne_true
      · exact absurd (show false = true from h) Bool.false_ne_true
      · exact ⟨_, _, _, _, rfl, h⟩
    | _ => exact absurd (show false = true from h) Bool.false_ne_true
  | _ => exact absurd (show false = true from h) Bool.false_ne_true

theorem inv_call {B : Tb} {N : List Str} {sc : Scope} {n : Nat} {l : RE} {e : PySem.Expr} (h : chk B N (.call n l) sc (.E e) = true) : ∃ x q e1 es p, e = .Call (.Name x q) (e1 :: es) [] p ∧ (glB sc x && (nodbg x && ((match lookN n B.fns with | some y => eqS x y | none => false) && (plainL (e1 :: es) && chk B N l sc (.L (e1 :: es)))))) = true := by
  cases e with
  | Call f xs ks p =>
    cases f with
    | Name x q =>
      rcases xs with _ | ⟨e1, es⟩ <;> rcases ks with _ | ⟨k, ks⟩ <;> first
        | exact ⟨_, _, _, _, _, rfl, h⟩
        | exact absurd (show false = true from h) Bool.false_ne_true
    | _ => exact absurd (show false = true from h) Bool.false_ne_true
  | _ => exact absurd (show false = true from h) Bool.false_ne_true

theorem inv_callv {B : Tb} {N : List Str} {sc : Scope} {i : Nat} {l : RE} {e : PySem.Expr} (h : chk B N (.callv i l) sc (.E e) = true) : ∃ x q e1 es p, e = .Call (.Name x q) (e1 :: es) [] p ∧ (decide (N[i]? = some x) && (visB sc x && (nodbg x && (plainL (e1 :: es) && chk B N l sc (.L (e1 :: es)))))) = true := by
  cases e with
  | Call f xs ks p =>
    cases f with
    | Name x q =>
      rcases xs with _ | ⟨e1, es⟩ <;> rcases ks with _ | ⟨k, ks⟩ <;> first
        | exact ⟨_, _, _, _, _, rfl, h⟩
        | exact absurd (show false = true from h) Bool.false_ne_true
    | _ => exact absurd (show false = true from h) Bool.false_ne_true
  | _ => exact absurd (show false = true from h) Bool.false_ne_true

theorem inv_bi {B : Tb} {N : List Str} {sc : Scope} {b : Bi} {mu : Bool} {l : RE} {e : PySem.Expr} (h : chk B N (.bi b mu l) sc (.E e) = true) : ∃ x q e1 es p, e = .Call (.Name x q) (e1 :: es) [] p ∧ (eqS x (biN b).1 && (glB sc x && ((if mathB b = true then (match lookC x B.mfn with | some id => decide (id = (biN b).2.2) | none => false) else memS x B.free) && (plainL (e1 :: es) && chk B N l sc (.L (e1 :: es)))))) = true := by
  cases e with
  | Call f xs ks p =>
    cases f with
    | Name x q =>
      rcases xs with _ | ⟨e1, es⟩ <;> rcases ks with _ | ⟨k, ks⟩ <;> first
        | exact ⟨_, _, _, _, _, rfl, h⟩
        | exact absurd (show false = true from h) Bool.false_ne_true
    | _ => exact absurd (show false = true from h) Bool.false_ne_true
  | _ => exact absurd (show false = true from h) Bool.false_ne_true

theorem inv_call0 {B : Tb} {N : List Str} {sc : Scope} {n : Nat} {e : PySem.Expr} (h : chk B N (.call0 n) sc (.E e) = true) : ∃ x q p, e = .Call (.Name x q) [] [] p ∧ (glB sc x && (nodbg x && (match lookN n B.fns with | some y => eqS x y | none => false))) = true := by
  cases e with
  | Call f xs ks p =>
    cases f with
    | Name x q =>
      rcases xs with _ | ⟨e1, es⟩ <;> rcases ks with _ | ⟨k, ks⟩ <;> first
        | exact ⟨_, _, _, rfl, h⟩
        | exact absurd (show false = true from h) Bool.false_ne_true
    | _ => exact absurd (show false = true from h) Bool.false_ne_true
  | _ => exact absurd (show false = true from h) Bool.false_ne_true

theorem inv_lset {B : Tb} {N : List Str} {sc : Scope} {a : RE} {e : PySem.Expr} (h : chk B N (.lset a) sc (.E e) = true) : ∃ x q y q2 e1 p2 p, e = .Call (.Name x q) [.Call (.Name y q2) [e1] [] p2] [] p ∧ (eqS x "len" && (glB sc x && (memS x B.free && (eqS y "set" && (glB sc y && (memS y B.free && (plainE e1 && chk B N a sc (.E e1)))))))) = true := by
  cases e with
  | Call f xs ks p =>
    cases f with
    | Name x q =>
      rcases xs with _ | ⟨e1, _ | ⟨e2, es⟩⟩ <;> rcases ks with _ | ⟨k, ks⟩ <;> first
        | exact absurd (show false = true from h) Bool.false_ne_true
        | (cases e1 with
           | Call f ys ls p2 =>
             cases f with
             | Name y q2 =>
               rcases ys with _ | ⟨e1, _ | ⟨e2, es⟩⟩ <;> rcases ls with _ | ⟨k, ks⟩ <;> first
                 | exact ⟨_, _, _, _, _, _, _, rfl, h⟩
                 | exact absurd (show false = true from h) Bool.false_ne_true
             | _ => exact absurd (show false = true from h) Bool.false_ne_true
           | _ => exact absurd (show false = true from h) Bool.false_ne_true)
    | _ => exact absurd (show false = true from h) Bool.false_ne_true
  | _ => exact absurd (show false = true from h) Bool.false_ne_true

theorem inv_isi {B : Tb} {N : List Str} {sc : Scope} {a : RE} {t : Ty} {e : PySem.Expr} (h : chk B N (.isi a t) sc (.E e) = true) : ∃ x q e1 ty q2 p, e = .Call (.Name x q) [e1, .Name ty q2] [] p ∧ (eqS x "isinstance" && (glB sc x && (memS x B.free && (eqS ty (tyS t) && (glB sc ty && (memS ty B.free && (plainE e1 && chk B N a sc (.E e1)))))))) = true := by
  cases e with
  | Call f xs ks p =>
    cases f with
    | Name x q =>
      rcases xs with _ | ⟨e1, _ | ⟨e2, _ | ⟨e3, es⟩⟩⟩ <;> rcases ks with _ | ⟨k, ks⟩ <;> first
        | exact absurd (show false = true from h) Bool.false_ne_true
        | (cases e2 <;> first
          | exact absurd (show false = true from h) Bool.false_ne_true
          | exact ⟨_, _, _, _, _, _, rfl, h⟩)
    | _ => exact absurd (show false = true from h) Bool.false_ne_true
  | _ => exact absurd (show false = true from h) Bool.false_ne_true

theorem inv_lamc {B : Tb} {N : List Str} {sc : Scope} {n : Nat} {t : Td} {a : RE} {e : PySem.Expr} (h : chk B N (.lamc n t a) sc (.E e) = true) : ∃ x q ps e1 scope p2 p, e = .Call (.Name x q) [.Lambda ps e1 scope p2] [] p ∧ (B.lam && (glB sc x && (nodbg x && (tdB B n x t && (noArgs ps && (LamX.lamSB sc scope && chk B N a scope (.E e1))))))) = true := by
  cases e with
  | Call f xs ks p =>
    cases f with
    | Name x q =>
      rcases xs with _ | ⟨e1, _ | ⟨e2, es⟩⟩ <;> rcases ks with _ | ⟨k, ks⟩ <;> first
        | exact absurd (show false = true from h) Bool.false_ne_true
        | (cases e1 <;> first
          | exact absurd (show false = true from h) Bool.false_ne_true
          | exact ⟨_, _, _, _, _, _, _, rfl, h⟩)
    | _ => exact absurd (show false = true from h) Bool.false_ne_true
  | _ => exact absurd (show false = true from h) Bool.false_ne_true

theorem inv_sub {B : Tb} {N : List Str} {sc : Scope} {a i : RE} {e : PySem.Expr} (h : chk B N (.sub a i) sc (.E e) = true) : ∃ x y p, e = .Subscript x y p ∧ (plainE y && (chk B N a sc (.E x) && chk B N i sc (.E y))) = true := by
  cases e with
  | Subscript x y p => exact ⟨_, _, _, rfl, h⟩
  | _ => exact absurd (show false = true from h) Bool.false_ne_true

theorem inv_slc {B : Tb} {N : List Str} {sc : Scope} {mu : Bool} {a lo hi : RE} {e : PySem.Expr} (h : chk B N (.slc mu a lo hi) sc (.E e) = true) : ∃ x l hh p2 p, e = .Subscript x (.Slice l hh none p2) p ∧ (chk B N a sc (.E x) && ((match l with | some l => chk B N lo sc (.E l) | none => isNo lo) && (match hh with | some hh => chk B N hi sc (.E hh) | none => isNo hi))) = true := by
  cases e with
  | Subscript x y p =>
    cases y with
    | Slice l hh st p2 =>
      cases st with
      | none => exact ⟨_, _, _, _, _, rfl, h⟩
      | some st => exact absurd (show false = true from h) Bool.false_ne_true
    | _ => exact absurd (show false = true from h) Bool.false_ne_true
  | _ => exact absurd (show false = true from h) Bool.false_ne_true

theorem inv_rev {B : Tb} {N : List Str} {sc : Scope} {mu : Bool} {a : RE} {e : PySem.Expr} (h : chk B N (.rev mu a) sc (.E e) = true) : ∃ x i j p1 p2 p3 p, e = .Subscript x (.Slice none none (some (.UnaryOp .USub (.Constant (.int i) j p1) p2)) p3) p ∧ (decide (i = 1) && chk B N a sc (.E x)) = true := by
  replace h : revC e (fun i x => decide (i = 1) && chk B N a sc (.E x)) = true := h
  unfold revC at h
  split at h
  · exact ⟨_, _, _, _, _, _, _, rfl, h⟩
  · cases h

theorem inv_meth {B : Tb} {N : List Str} {sc : Scope} {m : Me} {a l : RE} {e : PySem.Expr} (h : chk B N (.meth m a l) sc (.E e) = true) : ∃ o name apos es cpos, e = .Call (.Attribute o name apos) es [] cpos ∧ (eqS name (meN m) && (notCall o && (decide (apos.endLine = cpos.line) && (plainL es && (meC m es && (chk B N a sc (.E o) && chk B N l sc (.L es))))))) = true := by
  cases e with
  | Call f xs ks p =>
    cases f with
    | Attribute o name apos =>
      rcases ks with _ | ⟨k, ks⟩ <;> first
        | exact ⟨_, _, _, _, _, rfl, h⟩
        | exact absurd (show false = true from h) Bool.false_ne_true
    | _ => exact absurd (show false = true from h) Bool.false_ne_true
  | _ => exact absurd (show false = true from h) Bool.false_ne_true

theorem inv_comp {B : Tb} {N : List Str} {sc : Scope} {mu : Bool} {elt : RE} {own : List Nat} {tg : Tg} {it cond : RE} {e : PySem.Expr} (h : chk B N (.comp mu elt own tg it cond) sc (.E e) = true) : ∃ e1 g scope p, e = .ListComp e1 [g] scope p ∧ (decide (g.is_async = 0) && (blkC N sc scope (ownB N own) && (decide ((ownB N own).map (·.2) = own) && (tgIn tg own && (plainE g.iter && (chk B N it sc (.I g.target g.iter) && (chkT N (relS scope sc) (blkFn scope) tg (.E g.target) &&
      ((match g.ifs with | [] => isYes cond | [c] => tst cond && chk B N cond (relS scope sc) (.E c) | _ => false) && chk B N elt (relS scope sc) (.E e1))))))))) = true := by
  cases e with
  | ListComp e1 gs scope p =>
    rcases gs with _ | ⟨g, _ | ⟨g2, gs⟩⟩
    · exact absurd (show false = true from h) Bool.false_ne_true
    · exact ⟨_, _, _, _, rfl, h⟩
    · exact absurd (show false = true from h) Bool.false_ne_true
  | _ => exact absurd (show false = true from h) Bool.false_ne_true

theorem inv_rng {B : Tb} {N : List Str} {sc : Scope} {l : RE} {tg e : PySem.Expr} (h : chk B N (.rng l) sc (.I tg e) = true) : ∃ x q es p, e = .Call (.Name x q) es [] p ∧ (eqS x "range" && (glB sc x && (memS x B.free && (plainL es && ((match es with | [_] => true | [_, _] => true | _ => false) && chk B N l sc (.L es)))))) = true := by
  cases e with
  | Call f xs ks p =>
    cases f with
    | Name x q =>
      rcases ks with _ | ⟨k, ks⟩
      · exact ⟨_, _, _, _, rfl, h⟩
      · exact absurd (show false = true from h) Bool.false_ne_true
    | _ => exact absurd (show false = true from h) Bool.false_ne_true
  | _ => exact absurd (show false = true from h) Bool.false_ne_true

theorem inv_zip {B : Tb} {N : List Str} {sc : Scope} {a b : RE} {tg e : PySem.Expr} (h : chk B N (.zip a b) sc (.I tg e) = true) : ∃ x q e1 e2 p, e = .Call (.Name x q) [e1, e2] [] p ∧ (isTupE tg && (eqS x "zip" && (glB sc x && (memS x B.free && (plainE e1 && (plainE e2 && (chk B N a sc (.E e1) && chk B N b sc (.E e2)))))))) = true := by
  cases e with
  | Call f xs ks p =>
    cases f with
    | Name x q =>
      rcases xs with _ | ⟨e1, _ | ⟨e2, _ | ⟨e3, es⟩⟩⟩ <;> rcases ks with _ | ⟨k, ks⟩ <;> first
        | exact ⟨_, _, _, _, _, rfl, h⟩
        | exact absurd (show false = true from h) Bool.false_ne_true
    | _ => exact absurd (show false = true from h) Bool.false_ne_true
  | _ => exact absurd (show false = true from h) Bool.false_ne_true

theorem inv_enum {B : Tb} {N : List Str} {sc : Scope} {a : RE} {tg e : PySem.Expr} (h : chk B N (.enum a) sc (.I tg e) = true) : ∃ x q e1 p, e = .Call (.Name x q) [e1] [] p ∧ (isTupE tg && (eqS x "enumerate" && (glB sc x && (memS x B.free && (plainE e1 && chk B N a sc (.E e1)))))) = true := by
  cases e with
  | Call f xs ks p =>
    cases f with
    | Name x q =>
      rcases xs with _ | ⟨e1, _ | ⟨e2, es⟩⟩ <;> rcases ks with _ | ⟨k, ks⟩ <;> first
        | exact ⟨_, _, _, _, rfl, h⟩
        | exact absurd (show false = true from h) Bool.false_ne_true
    | _ => exact absurd (show false = true from h) Bool.false_ne_true
  | _ => exact absurd (show false = true from h) Bool.false_ne_true

end Px
end

section
set_option Elab.async false
set_option linter.all false
set_option maxRecDepth 100000
set_option maxHeartbeats 1000000
/-! Px: expressions: each rule beside our meaning. -/
namespace L2
open PySem PySem.Spec PyProof.Rows
theorem PE.mono {X : Cx} {e : PySem.Expr} {t t' : TE} (h : PE X e t) (k : ∀ σ H Q, t' σ H Q → t σ H Q) : PE X e t' := ⟨fun pins s σ H Q I q => h.run pins s σ H Q I (k _ _ _ q)⟩
theorem PT.mono {X : Cx} {e : PySem.Expr} {t t' : TT} (h : PT X e t) (k : ∀ σ H Q, t' σ H Q → t σ H Q) : PT X e t' := ⟨fun pins s σ H Q I q => h.run pins s σ H Q I (k _ _ _ q)⟩
theorem PW.mono {X : Cx} {e : PySem.Expr} {t t' : TT} (h : PW X e t) (k : ∀ σ H Q, t' σ H Q → t σ H Q) : PW X e t' := ⟨fun wh pins s σ H Q I q => h.run wh pins s σ H Q I (k _ _ _ q)⟩
theorem PA.mono {X : Cx} {es : List PySem.Expr} {t t' : TA} (h : PA X es t) (k : ∀ σ H Q, t' σ H Q → t σ H Q) : PA X es t' := ⟨fun pos pins s σ H Q I q => h.run pos pins s σ H Q I (k _ _ _ q)⟩
theorem PI.mono {X : Cx} {tg e : PySem.Expr} {t t' : TI} (h : PI X tg e t) (k : ∀ σ H Q, t' σ H Q → t σ H Q) : PI X tg e t' := ⟨fun pins s σ H Q I q => h.run pins s σ H Q I (k _ _ _ q)⟩

end L2
namespace Px
open PySem PySem.Spec PyProof.Rows L2

/-! ### a def that tries a lambda -/
def cvD : D → Option V
  | .non => some .non
  | .bl b => some (.bl b)
  | .int i => some (.int i)
  | .str x => some (.str x)
  | _ => none
theorem cvD_rep {Y : Fx} {d : D} {v : V} (h : cvD d = some v) (H : Hp) (as : Ad) : Rep Y H as d v := by
  cases d with
  | non => cases h; exact .non
  | bl b => cases h; exact .bl b
  | int i => cases h; exact .int i
  | str x => cases h; exact .str x
  | _ => cases h
/-- what such a def makes of the lambda's reading -/
def tdTT (Y : Fx) (t : Td) : (XK → Hp → VK → Prop) → Hp → VK → Prop := fun tl H Q =>
  tl (fun cls dd H' => dd = none ∧ ∃ c d, cls = .ref (Y.ca c) ∧ tdAt t.at_ c = some d ∧ LamX.Tabs Y.T H' ∧ ∀ H3, LamX.ExtN H' H3 → LamX.Tabs Y.T H3 → ∀ v, cvD d = some v → Q v H3) H (fun _ H' => ∀ v, cvD t.fin = some v → Q v H')
structure TdOk (Y : Fx) (mg : Str → Option Value) (x : Str) (t : Td) : Prop where
  ex : ∃ (g : Addr) (a : Str) (pg : Arguments) (bg : List Stmt) (sg : Scope) (dV kV doc pm cdv ct oc : Value) (an od : Option Addr) (osl : Array (Option Value)) (Ng : List Str),
    mg x = some (.ref g) ∧ PySem.W.keepIn Y.K (.ref g) = true ∧ Y.K.lookup g = some ⟨oc, od, .func (PySem.W.fnOf x x pg bg sg dV kV doc pm an cdv ct), osl⟩ ∧ PySem.W.codeIn Y.K cdv x = true ∧
    L2.Binds Y.K (PySem.W.fnOf x x pg bg sg dV kV doc pm an cdv ct) [a] [] ∧ FnScope Ng [a] sg ∧ Ng[0]? = some a ∧ Vis sg a ∧ nodbg a = true ∧
    ∀ (X : Cx) (q : Str), X.K = Y.K → X.mg = mg → PxN.GivesTo X Ng x sg g cdv bg a q (tdTT Y t)

/-! ### what a place in the program knows -/
structure TbOk (B : Tb) (Y : Fx) (mg : Str → Option Value) : Prop where
  fn : ∀ n x, (n, x) ∈ B.fns → mg x = some (.ref (Y.fa n)) ∧ PySem.W.keepIn Y.K (.ref (Y.fa n)) = true ∧ Y.kn n = true
  kn : ∀ n, Y.kn n = true → ∃ x, (n, x) ∈ B.fns
  cst : ∀ x d, (x, d) ∈ B.csts → ∃ u v, mg x = some u ∧ RelV v u ∧ ∀ H as, Rep Y H as d v
  free : ∀ x, x ∈ B.free → mg x = none
  mfn : ∀ x id, (x, id) ∈ B.mfn → mg x = some (.builtin id)
  exc : ∀ n x, (n, x) ∈ B.cls → ∃ (Bn newId initId : String) (bm : List Value), ExcBaseFacts Bn newId initId bm ∧ PySem.W.excIn Y.K (Y.ca n) bm newId = true ∧ mg x = some (.ref (Y.ca n)) ∧ PySem.W.keepIn Y.K (.ref (Y.ca n)) = true ∧
    PySem.W.subIn Y.K (.ref (Y.ca n)) (.type "BaseException") = some true ∧ PySem.W.typeIn Y.K (.ref (Y.ca n)) = some (.type "type")
  td : ∀ n x t, (n, x, t) ∈ B.tds → TdOk Y mg x t
/-- what a def promises that does f -/
def spC (Y : Fx) (f : List D → Sto → R D) : Sp := fun vs H Q E => ∃ ds as S, Wd Y H as S ∧ RepL Y H as ds vs ∧ (match f ds S with
  | .ok d S' => ∀ v H' as', Ext H as H' as' → Wd Y H' as' S' → Rep Y H' as' d v → Q v H'
  | .exc c S' => ∀ H' as', Ext H as H' as' → Wd Y H' as' S' → E (.ref (Y.ca c)) none H'
  | .bad => False)
/-- a def that makes lambdas: its code object and the table -/
def MkOk (X : Cx) (Y : Fx) : Prop := ∃ c P, LamX.TabB X.base X.mg c P ∧ X.env.code = .ref c ∧ (P, X.env.qual ++ "<lambda>") ∈ Y.T ∧ ∀ p ∈ Y.T, p.1 = P → p.2 = X.env.qual ++ "<lambda>"
structure CallsOk (X : Cx) (Y : Fx) (B : Tb) (P : PC) (k : Nat) : Prop where
  fn : ∀ n x, (n, x) ∈ B.fns → ∃ fd ps, FnOk X.prog X.w X.K X.mg X.base (L2N.CX X.prog X.w) k (Y.fa n) fd ps (spC Y (P.call n)) ∧ Binds X.K fd ps []
  low : ∀ c, P.low = some c → ∃ j, k = j + 2 ∧ (∀ n x, (n, x) ∈ B.fns → ∃ fd ps, FnOk X.prog X.w X.K X.mg X.base (L2N.CX X.prog X.w) j (Y.fa n) fd ps (spC Y (c n)) ∧ Binds X.K fd ps []) ∧ (B.lam = true → MkOk X Y)
structure Cg (X : Cx) (Y : Fx) (B : Tb) (N : List Str) (sc : Scope) (fnb : Str → Bool) (k : Nat) : Prop where
  calm : X.calm = true
  n : X.N = N
  nd : N.Nodup
  sc : X.env.scope = sc
  K : X.K = Y.K
  fnb : X.fn = fnb
  room : Room k X.A
  pass : PassesOwn (model X.prog X.w) X.A X.env X.xe
  tb : TbOk B Y X.mg
/-! ### rules, whatever the slots -/
def rD' (Y : Fx) (W : WX) (f : D → D → Sto → R D) : R2 := fun x y H Q => ∃ τ, rD Y τ W f x y H Q
def rB' (Y : Fx) (W : WX) (f : List D → Sto → R D) : List V → Hp → VK → Prop := fun vs H Q => ∃ τ, rB Y τ W f vs H Q
def rSl' (Y : Fx) (W : WX) (mu : Bool) : V → Option Int → Option Int → Hp → VK → Prop := fun x lo hi H Q => ∃ τ, rSl Y τ W mu x lo hi H Q
section
variable {X : Cx} {Y : Fx} {B : Tb} {N : List Str} {sc : Scope} {fnb : Str → Bool} {k : Nat} {W : WX} {P : PC}
theorem OpR.all {f : Value → Value → Sem Value} {g : D → D → Sto → R D} (h : ∀ τ, OpR X f (rD Y τ W g)) : OpR X f (rD' Y W g) := fun pins s σ H x y v u Q I rx ry ⟨τ, q⟩ => h τ pins s σ H x y v u Q I rx ry q
theorem CallR.all {f : Value} {g : List D → Sto → R D} (h : ∀ τ, CallR X f (rB Y τ W g)) : CallR X f (rB' Y W g) := fun pins s σ H xs us Q I r ⟨τ, q⟩ => h τ pins s σ H xs us Q I r q
theorem Cg.hu (c : Cg X Y B N sc fnb k) : X.A.units + 65 < cLine := by
  have := c.room.un
  omega
theorem Cg.gl (c : Cg X Y B N sc fnb k) {x : Str} (h : glB sc x = true) : Gl X x := by
  show X.env.scope.names.lookup x = some .globalImplicit
  rw [c.sc]
  exact glB_ok h
theorem Cg.vis (c : Cg X Y B N sc fnb k) {x : Str} (h : visB sc x = true) : Vis X.env.scope x := by
  rw [c.sc]
  exact visB_ok h

/-- two parts, then a rule -/
theorem two_post {ma mb : Env → Sto → R D} {g : D → D → Sto → R D} {σ : L2.St} {H : Hp} {Q : VK} (h : tE Y W (fun ρ s => (ma ρ s).bind fun x s => (mb ρ s).bind fun y s => g x y s) σ H Q) :
    tOp (rD' Y W g) (tE Y W ma) (tE Y W mb) σ H Q := by
  obtain ⟨ρ, as, S, hρ, w, h⟩ := h
  refine post_bind hρ w h fun d v S1 H1 as1 e1 w1 hρ1 r1 h1 => ?_
  refine post_bind (m := mb) hρ1 w1 h1 fun d2 v2 S2 H2 as2 e2 w2 hρ2 r2 h2 => ?_
  exact ⟨σ, d, d2, as2, S2, w2, r1.ext e2, r2, h2⟩
theorem e_bin (c : Cg X Y B N sc fnb k) {op : Bo} {o : Operator} {mu : Bool} {x y : PySem.Expr} {p : Pos} {ma mb : Env → Sto → R D} (ho : opB op o = true) (ha : PE X x (tE Y W ma)) (hb : PE X y (tE Y W mb)) :
    PE X (.BinOp x o y p) (tE Y W fun ρ s => (ma ρ s).bind fun x s => (mb ρ s).bind fun y s => binD op mu x y s) := by
  have r : OpR X (binaryOp o) (rD' Y W (binD op mu)) := by
    match op, o, ho with
    | .add, .Add, _ => exact OpR.all fun τ => bin_add c.K mu
    | .sub, .Sub, _ => exact OpR.all fun τ => bin_sub mu
    | .mul, .Mult, _ => exact OpR.all fun τ => bin_mul c.K mu
    | .fdiv, .FloorDiv, _ => exact OpR.all fun τ => bin_fdiv mu
    | .mod, .Mod, _ => exact OpR.all fun τ => bin_mod mu
    | .pow, .Pow, _ => exact OpR.all fun τ => bin_pow mu
  exact (pe_op r ha hb).mono fun σ H Q h => two_post h
theorem cmp_rule (c : Cg X Y B N sc fnb k) {op : Co} {o : CmpOp} (ho : coB op o = true) : OpR X (compareOp o) (rD' Y W (cmpD op)) := by
  have hu := c.hu
  match op, o, ho with
  | .eq, .Eq, _ => exact OpR.all fun τ => cmp_eq c.K (by omega)
  | .ne, .NotEq, _ => exact OpR.all fun τ => cmp_ne c.K (by omega)
  | .lt, .Lt, _ => exact OpR.all fun τ => cmp_lt
  | .le, .LtE, _ => exact OpR.all fun τ => cmp_le
  | .gt, .Gt, _ => exact OpR.all fun τ => cmp_gt
  | .ge, .GtE, _ => exact OpR.all fun τ => cmp_ge
  | .isN, .Is, _ => exact OpR.all fun τ => cmp_isN
  | .isNot, .IsNot, _ => exact OpR.all fun τ => cmp_isNot
  | .isin, .In, _ => exact OpR.all fun τ => cmp_in c.K hu
  | .notin, .NotIn, _ => exact OpR.all fun τ => cmp_notin c.K hu
theorem e_cmp (c : Cg X Y B N sc fnb k) {op : Co} {o : CmpOp} {x y : PySem.Expr} {p : Pos} {ma mb : Env → Sto → R D} (ho : coB op o = true) (hp : plainE y = true) (ha : PE X x (tE Y W ma)) (hb : PE X y (tE Y W mb)) :
    PE X (.Compare x [o] [y] p) (tE Y W fun ρ s => (ma ρ s).bind fun x s => (mb ρ s).bind fun y s => cmpD op x y s) :=
  (pe_cmpR (cmp_rule c ho) ha hb (mark_plain hp o)).mono fun σ H Q h => two_post h
/-- a test, from the wish for a value that is a truth -/
theorem tT_tE {m : Env → Sto → R D} {σ : L2.St} {H : Hp} {Q : Bool → Hp → Prop} (h : tT Y W m σ H Q) : tE Y W m σ H fun x H' => ∃ k, x = .bl k ∧ Q k H' := by
  obtain ⟨ρ, as, S, hρ, w, h⟩ := h
  refine ⟨ρ, as, S, hρ, w, h.imp fun d H' as' z v r => ?_⟩
  cases d with
  | bl b =>
    cases r
    exact ⟨b, rfl, z⟩
  | _ => exact (show False from z).elim
theorem t_cmp (c : Cg X Y B N sc fnb k) {op : Co} {o : CmpOp} {x y : PySem.Expr} {p : Pos} {ma mb : Env → Sto → R D} (ho : coB op o = true) (hp : plainE y = true) (ha : PE X x (tE Y W ma)) (hb : PE X y (tE Y W mb)) :
    PT X (.Compare x [o] [y] p) (tT Y W fun ρ s => (ma ρ s).bind fun x s => (mb ρ s).bind fun y s => cmpD op x y s) :=
  (pt_cmpR (cmp_rule c ho) ha hb (mark_plain hp o)).mono fun σ H Q h => two_post (tT_tE h)
theorem t_val {e : PySem.Expr} {m : Env → Sto → R D} (h : PE X e (tE Y W m)) (he : ∀ whole, isTrue e X.env whole = (do let v ← whole; standAt e.pos; holding [v] (truthy v))) : PT X e (tT Y W m) :=
  (pt_val h he).mono fun σ H Q q => tT_tE q

/-! ### chains -/
def chD (o1 o2 : Co) (ma mb mc : Env → Sto → R D) : Env → Sto → R D := fun ρ s => (ma ρ s).bind fun x s => (mb ρ s).bind fun y s => (cmpD o1 x y s).bind fun t s => match t with
    | .bl true => (mc ρ s).bind fun z s => cmpD o2 y z s
    | .bl false => .ok (.bl false) s
    | _ => .bad
theorem cmpD_ob {op : Co} {d e : D} {S : Sto} : (∃ b, cmpD op d e S = .ok (.bl b) S) ∨ cmpD op d e S = .bad := by
  have hob : ∀ o : Option Bool, (∃ b, ob o S = .ok (.bl b) S) ∨ ob o S = .bad := fun o => by
    cases o with
    | none => exact .inr rfl
    | some b => exact .inl ⟨b, rfl⟩
  cases op <;> simp only [cmpD] <;> first
    | exact hob _
    | (split <;> first
      | exact .inl ⟨_, rfl⟩
      | exact .inr rfl
      | exact hob _
      | (split <;> first
        | exact .inl ⟨_, rfl⟩
        | exact .inr rfl))
theorem chain_post (c : Cg X Y B N sc fnb k) {o1 o2 : Co} {ma mb mc : Env → Sto → R D} {σ : L2.St} {H : Hp} {Q : VK} (h : tE Y W (chD o1 o2 ma mb mc) σ H Q) :
    tChain (rD' Y W (cmpD o1)) (rD' Y W (cmpD o2)) (tE Y W ma) (tE Y W mb) (tE Y W mc) σ H Q := by
  obtain ⟨ρ, as, S, hρ, w, h⟩ := h
  refine post_bind hρ w h fun d v S1 H1 as1 e1 w1 hρ1 r1 h1 => ?_
  refine post_bind (m := mb) hρ1 w1 h1 fun d2 v2 S2 H2 as2 e2 w2 hρ2 r2 h2 => ?_
  refine ⟨σ, d, d2, as2, S2, w2, r1.ext e2, r2, ?_⟩
  rcases cmpD_ob (op := o1) (d := d) (e := d2) (S := S2) with ⟨b, e⟩ | e
  · rw [e]
    refine fun H3 as3 e3 w3 v3 r3 => ?_
    cases r3
    refine ⟨b, rfl, ?_⟩
    rw [e] at h2
    cases b with
    | false =>
      rw [if_neg Bool.false_ne_true]
      exact h2 H3 as3 e3 w3 _ (.bl false)
    | true =>
      rw [if_pos rfl]
      have h3 : Post Y H3 as3 σ W ((mc ρ S2).bind fun z s => cmpD o2 d2 z s) (zE Y Q) := Post.ext (show Post Y H2 as2 σ W ((mc ρ S2).bind fun z s => cmpD o2 d2 z s) (zE Y Q) from h2) e3
      refine post_bind (m := mc) (hρ2.ext e3) w3 h3 fun d4 v4 S4 H4 as4 e4 w4 hρ4 r4 h4 => ?_
      exact ⟨σ, d2, d4, as4, S4, w4, (r2.ext e3).ext e4, r4, h4⟩
  · rw [e] at h2
    exact h2.elim
theorem e_chain (c : Cg X Y B N sc fnb k) {o1 o2 : Co} {p1 p2 : CmpOp} {x y z : PySem.Expr} {p : Pos} {ma mb mc : Env → Sto → R D} (h1 : coB o1 p1 = true) (h2 : coB o2 p2 = true) (hp : plainE z = true) (ha : PE X x (tE Y W ma)) (hb : PE X y (tE Y W mb)) (hz : PE X z (tE Y W mc)) :
    PE X (.Compare x [p1, p2] [y, z] p) (tE Y W (chD o1 o2 ma mb mc)) :=
  (pe_chain (cmp_rule c h1) (cmp_rule c h2) ha hb hz (last_plain hp)).mono fun σ H Q h => chain_post c h
theorem t_chain (c : Cg X Y B N sc fnb k) {o1 o2 : Co} {p1 p2 : CmpOp} {x y z : PySem.Expr} {p : Pos} {ma mb mc : Env → Sto → R D} (h1 : coB o1 p1 = true) (h2 : coB o2 p2 = true) (hp : plainE z = true) (ha : PE X x (tE Y W ma)) (hb : PE X y (tE Y W mb)) (hz : PE X z (tE Y W mc)) :
    PT X (.Compare x [p1, p2] [y, z] p) (tT Y W (chD o1 o2 ma mb mc)) :=
  (pt_chain (cmp_rule c h1) (cmp_rule c h2) ha hb hz (last_plain hp)).mono fun σ H Q h => chain_post c (tT_tE h)

/-! ### and, or, not, if -/
def andD (ma mb : Env → Sto → R D) : Env → Sto → R D := fun ρ s => (ma ρ s).bind fun x s => match x with
    | .bl true => mb ρ s
    | .bl false => .ok (.bl false) s
    | _ => .bad
def orD (ma mb : Env → Sto → R D) : Env → Sto → R D := fun ρ s => (ma ρ s).bind fun x s => match x with
    | .bl true => .ok (.bl true) s
    | .bl false => mb ρ s
    | _ => .bad
def notD (ma : Env → Sto → R D) : Env → Sto → R D := fun ρ s => (ma ρ s).bind fun x s => match x with
    | .bl b => .ok (.bl (!b)) s
    | _ => .bad
def iteD (mc ma mb : Env → Sto → R D) : Env → Sto → R D := fun ρ s => (mc ρ s).bind fun x s => match x with
    | .bl true => ma ρ s
    | .bl false => mb ρ s
    | _ => .bad
theorem e_and {x y : PySem.Expr} {rest : List PySem.Expr} {p : Pos} {ma mb : Env → Sto → R D} (ha : PE X x (tE Y W ma)) (hb : PE X (.BoolOp .And (y :: rest) p) (tE Y W mb)) : PE X (.BoolOp .And (x :: y :: rest) p) (tE Y W (andD ma mb)) := by
  refine (pe_and ha hb).mono fun σ H Q h => ?_
  obtain ⟨ρ, as, S, hρ, w, h⟩ := h
  refine post_bind hρ w h fun d v S1 H1 as1 e1 w1 hρ1 r1 h1 => ?_
  cases r1 with
  | bl b =>
    refine ⟨b, rfl, ?_⟩
    cases b with
    | true =>
      rw [if_pos rfl]
      exact ⟨ρ, as1, S1, hρ1, w1, h1⟩
    | false =>
      rw [if_neg Bool.false_ne_true]
      exact now w1 h1 (.bl false)
  | _ => exact h1.elim
theorem e_or {x y : PySem.Expr} {rest : List PySem.Expr} {p : Pos} {ma mb : Env → Sto → R D} (ha : PE X x (tE Y W ma)) (hb : PE X (.BoolOp .Or (y :: rest) p) (tE Y W mb)) : PE X (.BoolOp .Or (x :: y :: rest) p) (tE Y W (orD ma mb)) := by
  refine (pe_or ha hb).mono fun σ H Q h => ?_
  obtain ⟨ρ, as, S, hρ, w, h⟩ := h
  refine post_bind hρ w h fun d v S1 H1 as1 e1 w1 hρ1 r1 h1 => ?_
  cases r1 with
  | bl b =>
    refine ⟨b, rfl, ?_⟩
    cases b with
    | true =>
      rw [if_pos rfl]
      exact now w1 h1 (.bl true)
    | false =>
      rw [if_neg Bool.false_ne_true]
      exact ⟨ρ, as1, S1, hρ1, w1, h1⟩
  | _ => exact h1.elim
theorem t_and {x : PySem.Expr} {ma mb : Env → Sto → R D} {y : PySem.Expr} {rest : List PySem.Expr} {p : Pos} (ha : PT X x (tT Y W ma)) (hb : PW X (.BoolOp .And (y :: rest) p) (tT Y W mb)) : PW X (.BoolOp .And (x :: y :: rest) p) (tT Y W (andD ma mb)) := by
  refine (pw_and ha hb).mono fun σ H Q h => ?_
  obtain ⟨ρ, as, S, hρ, w, h⟩ := h
  refine post_bindT hρ w h (fun d S' H' as' hn h' => by
      cases d with
      | bl b => exact hn b rfl
      | _ => exact h') fun b S1 H1 as1 e1 w1 hρ1 h1 => ?_
  cases b with
  | true =>
    rw [if_pos rfl]
    exact ⟨ρ, as1, S1, hρ1, w1, h1⟩
  | false =>
    rw [if_neg Bool.false_ne_true]
    exact h1 H1 as1 Ext.refl w1
theorem t_or {x : PySem.Expr} {ma mb : Env → Sto → R D} {y : PySem.Expr} {rest : List PySem.Expr} {p : Pos} (ha : PT X x (tT Y W ma)) (hb : PW X (.BoolOp .Or (y :: rest) p) (tT Y W mb)) : PW X (.BoolOp .Or (x :: y :: rest) p) (tT Y W (orD ma mb)) := by
  refine (pw_or ha hb).mono fun σ H Q h => ?_
  obtain ⟨ρ, as, S, hρ, w, h⟩ := h
  refine post_bindT hρ w h (fun d S' H' as' hn h' => by
      cases d with
      | bl b => exact hn b rfl
      | _ => exact h') fun b S1 H1 as1 e1 w1 hρ1 h1 => ?_
  cases b with
  | true =>
    rw [if_pos rfl]
    exact h1 H1 as1 Ext.refl w1
  | false =>
    rw [if_neg Bool.false_ne_true]
    exact ⟨ρ, as1, S1, hρ1, w1, h1⟩
theorem not_post {ma : Env → Sto → R D} {σ : L2.St} {H : Hp} {Q : Bool → Hp → Prop} (h : tT Y W (notD ma) σ H Q) : tT Y W ma σ H fun b H' => Q (!b) H' := by
  obtain ⟨ρ, as, S, hρ, w, h⟩ := h
  refine post_bindT hρ w h (fun d S' H' as' hn h' => ?_) fun b S1 H1 as1 e1 w1 hρ1 h1 => h1 H1 as1 Ext.refl w1
  cases d with
  | bl b => exact hn b rfl
  | _ => exact h'
theorem e_not {x : PySem.Expr} {p : Pos} {ma : Env → Sto → R D} (ha : PE X x (tE Y W ma)) : PE X (.UnaryOp .Not x p) (tE Y W (notD ma)) := by
  refine (pe_not ha).mono fun σ H Q h => ?_
  obtain ⟨ρ, as, S, hρ, w, h⟩ := h
  refine post_bind hρ w h fun d v S1 H1 as1 e1 w1 hρ1 r1 h1 => ?_
  cases r1 with
  | bl b => exact ⟨b, rfl, now w1 h1 (.bl _)⟩
  | _ => exact h1.elim
theorem t_not {x : PySem.Expr} {p : Pos} {ma : Env → Sto → R D} (ha : PT X x (tT Y W ma)) : PT X (.UnaryOp .Not x p) (tT Y W (notD ma)) :=
  (pt_not ha).mono fun σ H Q h => not_post h
theorem e_ite {x y z : PySem.Expr} {p : Pos} {mc ma mb : Env → Sto → R D} (hc : PT X x (tT Y W mc)) (ha : PE X y (tE Y W ma)) (hb : PE X z (tE Y W mb)) : PE X (.IfExp x y z p) (tE Y W (iteD mc ma mb)) := by
  refine (pe_ifExp hc ha hb).mono fun σ H Q h => ?_
  obtain ⟨ρ, as, S, hρ, w, h⟩ := h
  refine post_bindT hρ w h (fun d S' H' as' hn h' => by
      cases d with
      | bl b => exact hn b rfl
      | _ => exact h') fun b S1 H1 as1 e1 w1 hρ1 h1 => ?_
  cases b with
  | true =>
    rw [if_pos rfl]
    exact ⟨ρ, as1, S1, hρ1, w1, h1⟩
  | false =>
    rw [if_neg Bool.false_ne_true]
    exact ⟨ρ, as1, S1, hρ1, w1, h1⟩
end
end Px
end

section
set_option Elab.async false
set_option linter.all false
set_option maxRecDepth 100000
set_option maxHeartbeats 1000000
/-! Px: names, displays, calls, subscripts. -/
namespace Px
open PySem PySem.Spec PyProof.Rows L2
section
variable {X : Cx} {Y : Fx} {B : Tb} {N : List Str} {sc : Scope} {fnb : Str → Bool} {k : Nat} {W : WX} {P : PC}

theorem e_var (c : Cg X Y B N sc fnb k) {i : Nat} {x : Str} {p : Pos} (h : (decide (N[i]? = some x) && (visB sc x && nodbg x)) = true) : PE X (.Name x p) (tE Y W (den (.var i) P)) := by
  rw [Bool.and_eq_true, Bool.and_eq_true] at h
  obtain ⟨h1, h2, h3⟩ := h
  obtain ⟨d1, d2⟩ := nodbg_ok h3
  refine (pe_var (i := i) (by rw [c.n]; exact of_decide_eq_true h1) (c.vis h2) d1 d2).mono fun σ H Q h => ?_
  obtain ⟨ρ, as, S, hρ, w, h⟩ := h
  unfold den at h
  cases e : ρ[i]? with
  | none => rw [e] at h; exact h.elim
  | some o =>
    cases o with
    | none => rw [e] at h; exact h.elim
    | some d =>
      rw [e] at h
      obtain ⟨v, hv, r⟩ := hρ.2 i d e
      exact ⟨v, hv, now w h r⟩
theorem e_const {j : Const} {n : Nat} {p : Pos} {d : D} (h : constB j d = true) : PE X (.Constant j n p) (tE Y W (den (.c d) P)) := by
  have fin : ∀ {v : V}, (∀ H as, Rep Y H as d v) → PE X (.Constant j n p) (tC v) → PE X (.Constant j n p) (tE Y W (den (.c d) P)) := fun r q => q.mono fun σ H Q ⟨ρ, as, S, hρ, w, h⟩ => now w h (r H as)
  cases j <;> cases d <;> first
    | (cases (show false = true from h); done)
    | exact fin (fun _ _ => .non) pe_non
    | (have e := eq_of_beq (show (_ == _) = true from h); subst e; exact fin (fun _ _ => .bl _) pe_bl)
    | (have e := of_decide_eq_true (show decide (_ = _) = true from h); subst e; exact fin (fun _ _ => .int _) pe_int)
    | (have e := of_decide_eq_true (show decide (_ = _) = true from h); subst e; exact fin (fun _ _ => .str _) pe_str)
theorem e_cst (c : Cg X Y B N sc fnb k) {x : Str} {p : Pos} {d : D} (h : (glB sc x && (nodbg x && (match lookC x B.csts with | some d' => dbeq 100 d' d | none => false))) = true) : PE X (.Name x p) (tE Y W (den (.c d) P)) := by
  rw [Bool.and_eq_true, Bool.and_eq_true] at h
  obtain ⟨h1, h2, h3⟩ := h
  cases e : lookC x B.csts with
  | none => rw [e] at h3; cases h3
  | some d' =>
    rw [e] at h3
    have ed : d' = d := dbeq_eq _ h3
    subst ed
    obtain ⟨u, v, g1, g2, g3⟩ := c.tb.cst x d' (lookC_ok e)
    exact (pe_glob (c.gl h1) g1 g2 (nodbg_ok h2).1).mono fun σ H Q ⟨ρ, as, S, hρ, w, h⟩ => now w h (g3 H as)
theorem fnB_ok {n : Nat} {x : Str} (h : (match lookN n B.fns with | some y => eqS x y | none => false) = true) : (n, x) ∈ B.fns := by
  cases e : lookN n B.fns with
  | none => rw [e] at h; cases h
  | some y =>
    rw [e] at h
    have ey : x = y := of_decide_eq_true h
    subst ey
    exact lookN_ok e
theorem e_gl (c : Cg X Y B N sc fnb k) {n : Nat} {x : Str} {p : Pos} (h : (glB sc x && (nodbg x && (match lookN n B.fns with | some y => eqS x y | none => false))) = true) : PE X (.Name x p) (tE Y W (den (.gl n) P)) := by
  rw [Bool.and_eq_true, Bool.and_eq_true] at h
  obtain ⟨h1, h2, h3⟩ := h
  obtain ⟨g1, g2, g3⟩ := c.tb.fn n x (fnB_ok h3)
  exact (pe_glob (v := .ref (Y.fa n)) (c.gl h1) g1 rfl (nodbg_ok h2).1).mono fun σ H Q ⟨ρ, as, S, hρ, w, h⟩ => now w h (.fn n g3)
theorem a_nil : PA X [] (tAs Y W (den .nil P)) := pa_nil.mono fun σ H Q ⟨ρ, as, S, hρ, w, h⟩ => h H as Ext.refl w [] .nil
theorem a_cons {a r : RE} {e : PySem.Expr} {es : List PySem.Expr} (hp : plainE e = true) (ha : PE X e (tE Y W (den a P))) (hr : PA X es (tAs Y W (den r P))) : PA X (e :: es) (tAs Y W (den (.cons a r) P)) := by
  refine (pa_cons ha hr (star_cons hp es X.env)).mono fun σ H Q ⟨ρ, as, S, hρ, w, h⟩ => ?_
  unfold den at h
  refine post_bind (m := den a P) hρ w h fun d v S1 H1 as1 e1 w1 hρ1 r1 h1 => ?_
  refine post_bindA (m := den r P) hρ1 w1 h1 (fun d S' H' as' hn h' => by
    cases d with
    | lst ds => exact hn ds rfl
    | _ => exact h') fun ds vs S2 H2 as2 e2 w2 hρ2 r2 h2 => ?_
  exact h2 H2 as2 Ext.refl w2 _ (.cons (r1.ext e2) r2)
/-- from the wish behind a list of arguments -/
theorem args_post {l : RE} {f : List D → Sto → R D} {σ : L2.St} {H : Hp} {ρ : Env} {as : Ad} {S : Sto} {Z : D → Hp → Ad → Prop} {T : List V → Hp → Prop} (hρ : EnvR Y H as ρ σ) (w : Wd Y H as S)
    (h : Post Y H as σ W ((den l P ρ S).bind fun ys s => match ys with
      | .lst xs => f xs s
      | _ => .bad) Z) (hk : ∀ ds vs S' H' as', Ext H as H' as' → Wd Y H' as' S' → EnvR Y H' as' ρ σ → RepL Y H' as' ds vs → Post Y H' as' σ W (f ds S') Z → T vs H') : tAs Y W (den l P) σ H T :=
  post_bindA (m := den l P) hρ w h (fun d S' H' as' hn h' => by
    cases d with
    | lst ds => exact hn ds rfl
    | _ => exact h') hk
theorem den_len {l : RE} : ∀ {es : List PySem.Expr}, chk B N l sc (.L es) = true → ∀ {ρ : Env} {S S' : Sto} {ds : List D}, den l P ρ S = .ok (.lst ds) S' → ds.length = es.length := by
  induction l with
  | nil =>
    intro es h ρ S S' ds e
    cases es with
    | nil =>
      cases (show R.ok (D.lst []) S = R.ok (D.lst ds) S' from e)
      rfl
    | cons e1 es => exact absurd (show false = true from h) Bool.false_ne_true
  | cons a r iha ihr =>
    intro es h ρ S S' ds e
    cases es with
    | nil => exact absurd (show false = true from h) Bool.false_ne_true
    | cons e1 es =>
      have h' : (plainE e1 && (chk B N a sc (.E e1) && chk B N r sc (.L es))) = true := h
      rw [Bool.and_eq_true, Bool.and_eq_true] at h'
      unfold den at e
      cases e2 : den a P ρ S with
      | ok d S1 =>
        rw [e2] at e
        have e : (den r P ρ S1).bind (fun ys s => match ys with
          | .lst xs => .ok (.lst (d :: xs)) s
          | _ => .bad) = R.ok (D.lst ds) S' := e
        cases e3 : den r P ρ S1 with
        | ok d2 S2 =>
          rw [e3] at e
          cases d2 with
          | lst xs =>
            have e : R.ok (D.lst (d :: xs)) S2 = R.ok (D.lst ds) S' := e
            cases e
            rw [List.length_cons, List.length_cons, ihr h'.2.2 e3]
          | _ => cases (show R.bad = R.ok (D.lst ds) S' from e)
        | exc c s => rw [e3] at e; cases (show R.exc c s = R.ok (D.lst ds) S' from e)
        | bad => rw [e3] at e; cases (show R.bad = R.ok (D.lst ds) S' from e)
      | exc c s => rw [e2] at e; cases (show R.exc c s = R.ok (D.lst ds) S' from e)
      | bad => rw [e2] at e; cases (show R.bad = R.ok (D.lst ds) S' from e)
  | _ => intro es h; cases es <;> exact absurd (show false = true from h) Bool.false_ne_true
theorem args_len {l : RE} {es : List PySem.Expr} (hc : chk B N l sc (.L es) = true) {f : List D → Sto → R D} {σ : L2.St} {H : Hp} {ρ : Env} {as : Ad} {S : Sto} {Z : D → Hp → Ad → Prop} {T : List V → Hp → Prop} (hρ : EnvR Y H as ρ σ) (w : Wd Y H as S)
    (h : Post Y H as σ W ((den l P ρ S).bind fun ys s => match ys with
      | .lst xs => f xs s
      | _ => .bad) Z) (hk : ∀ ds vs S' H' as', ds.length = es.length → Ext H as H' as' → Wd Y H' as' S' → EnvR Y H' as' ρ σ → RepL Y H' as' ds vs → Post Y H' as' σ W (f ds S') Z → T vs H') : tAs Y W (den l P) σ H T := by
  refine ⟨ρ, as, S, hρ, w, ?_⟩
  cases e : den l P ρ S with
  | ok d S' =>
    rw [e] at h
    cases d with
    | lst ds => exact fun H' as' ex w' vs r => hk ds vs S' H' as' (den_len hc e) ex w' (hρ.ext ex) r (Post.ext h ex)
    | _ => exact fun H' as' ex w' => (Post.ext (show Post Y H as σ W .bad Z from h) ex).elim
  | exc c S' =>
    rw [e] at h
    exact h
  | bad =>
    rw [e] at h
    exact h
theorem e_tup {l : RE} {es : List PySem.Expr} {n : Nat} {p : Pos} (hc : chk B N l sc (.L es) = true) (hn : Nat.ble es.length 100000 = true) (hl : PA X es (tAs Y W (den l P))) : PE X (.Tuple es n p) (tE Y W (den (.tup l) P)) := by
  refine (pe_tup hl).mono fun σ H Q ⟨ρ, as, S, hρ, w, h⟩ => ?_
  unfold den at h
  refine args_len hc (f := fun xs s => .ok (.tup xs) s) hρ w h fun ds vs S1 H1 as1 hlen e1 w1 hρ1 r1 h1 => ?_
  have hz : vs.length ≤ sizeLine := by
    rw [← r1.length, hlen, sizeLine_eq]
    have := Nat.le_of_ble_eq_true hn
    omega
  exact ⟨hz, fun q nq => tup_post w1 r1 hz nq h1⟩
theorem e_lst {l : RE} {mu : Bool} {es : List PySem.Expr} {p : Pos} (hc : chk B N l sc (.L es) = true) (hn : Nat.ble es.length 100000 = true) (hl : PA X es (tAs Y W (den l P))) : PE X (.List es p) (tE Y W (den (.lst mu l) P)) := by
  refine (pe_lst hl).mono fun σ H Q ⟨ρ, as, S, hρ, w, h⟩ => ?_
  unfold den at h
  refine args_len hc (f := fun xs s => allocL mu xs s) hρ w h fun ds vs S1 H1 as1 hlen e1 w1 hρ1 r1 h1 => ?_
  have hz : vs.length ≤ sizeLine := by
    rw [← r1.length, hlen, sizeLine_eq]
    have := Nat.le_of_ble_eq_true hn
    omega
  exact ⟨hz, fun q nq => alloc_post w1 r1 hz nq h1⟩
theorem e_neg {a : RE} {x : PySem.Expr} {p : Pos} (ha : PE X x (tE Y W (den a P))) : PE X (.UnaryOp .USub x p) (tE Y W (den (.neg a) P)) := by
  refine (pe_un un_neg ha).mono fun σ H Q ⟨ρ, as, S, hρ, w, h⟩ => ?_
  unfold den at h
  refine post_bind (m := den a P) hρ w h fun d v S1 H1 as1 e1 w1 hρ1 r1 h1 => ?_
  cases r1 with
  | int i => exact ⟨i, rfl, now w1 h1 (.int _)⟩
  | _ => exact h1.elim

/-! ### calls -/
theorem spC_of {f : List D → Sto → R D} {σ : L2.St} {H : Hp} {as : Ad} {S : Sto} {Q : VK} {ds : List D} {vs : List V} (w : Wd Y H as S) (r : RepL Y H as ds vs) (h : Post Y H as σ W (f ds S) (zE Y Q)) : spC Y f vs H Q (fun cls d H' => W cls d σ H') := by
  refine ⟨ds, as, S, w, r, ?_⟩
  cases e : f ds S with
  | ok d S' =>
    rw [e] at h
    exact fun v H' as' ex w' r' => h H' as' ex w' v r'
  | exc c S' =>
    rw [e] at h
    exact h
  | bad =>
    rw [e] at h
    exact h
theorem passAtE (tk : L2N.Takes X W) (σ : L2.St) : ∀ (pins : List (Addr × Obj)) (H : Hp) (s : Shared) (e : Value) (s' : Shared), Inv X pins σ H s → L2N.CX X.prog X.w X.stack H s (fun cls d H' => W cls d σ H') e s' → X.xe e s' :=
  fun pins H s e s' I c => tk e s' (L2N.XE.of_call I (fun _ _ _ h => h) c)
/-- the def at f is called -/
theorem call_def {f : Addr} {fd : FuncData} {ps : List Str} {sp : Sp} {pins : List (Addr × Obj)} {σ : L2.St} {H : Hp} {s : Shared} {Q : VK} {us : List Value} {vs : List V} (tk : L2N.Takes X W) (F : FnOk X.prog X.w X.K X.mg X.base (L2N.CX X.prog X.w) k f fd ps sp) (hr : Room k X.A) (hb : Binds X.K fd ps [])
    (I : Inv X pins σ H s) (r : Vals vs us) (h : sp vs H Q (fun cls d H' => W cls d σ H')) : wpAny (model X.prog X.w) X.A (PySem.call (.ref f) us) (EP X pins σ Q) X.xe s := by
  have hl : us.length = ps.length := by rw [← r.length]; exact F.len _ _ _ _ h
  refine wpAny_call (codeAny_mono (F.run X.A X.stack s H ⟨us, []⟩ us vs Q _ hr I.env0 (by
    have z := hb s us I.kIn (by rw [List.append_nil]; exact hl)
    rw [List.append_nil] at z
    exact z) r h) fun r s' hq => ?_)
  cases r with
  | error e => exact passAtE tk σ pins H s e s' I hq
  | ok fl =>
    cases fl with
    | ret u => exact I.after hq
    | next => exact False.elim hq
    | brk => exact False.elim hq
    | cont => exact False.elim hq
theorem e_call (c : Cg X Y B N sc fnb k) (tk : L2N.Takes X W) (hC : CallsOk X Y B P k) {n : Nat} {l : RE} {x : Str} {q p : Pos} {e1 : PySem.Expr} {es : List PySem.Expr} (hg : glB sc x = true) (hd : nodbg x = true) (hn : (n, x) ∈ B.fns) (hp : plainL (e1 :: es) = true)
    (hl : PA X (e1 :: es) (tAs Y W (den l P))) : PE X (.Call (.Name x q) (e1 :: es) [] p) (tE Y W (den (.call n l) P)) := by
  obtain ⟨fd, ps, F, hb⟩ := hC.fn n x hn
  obtain ⟨g1, g2, _⟩ := c.tb.fn n x hn
  have hp' := hp
  rw [plainL, Bool.and_eq_true] at hp'
  refine ⟨fun pins s σ H Q I h => ?_⟩
  obtain ⟨ρ, as, S, hρ, w, h⟩ := h
  unfold den at h
  refine wpAny_Call_Name_kw (ld_glob I (c.gl hg) g1 ?_ (nodbg_ok hd).1)
  refine PySem.W.callWith_K (h₀ := X.base) I.ok.mod.kin (by rw [c.K]; exact g2) (thn (hl.run p pins s σ H _ I (args_post (f := fun xs s => P.call n xs s) hρ w h fun ds vs S1 H1 as1 ex w1 hρ1 r1 h1 => spC_of w1 r1 h1)) fun us s1 ⟨vs, H1, I1, r, q⟩ => ⟨I1.kIn, ?_⟩) (star_cons hp'.1 es X.env) (star_none hp'.2)
  exact call_def tk F c.room hb I1 r q
theorem e_call0 (c : Cg X Y B N sc fnb k) (tk : L2N.Takes X W) (hC : CallsOk X Y B P k) {n : Nat} {x : Str} {q p : Pos} (hg : glB sc x = true) (hd : nodbg x = true) (hn : (n, x) ∈ B.fns) : PE X (.Call (.Name x q) [] [] p) (tE Y W (den (.call0 n) P)) := by
  obtain ⟨fd, ps, F, hb⟩ := hC.fn n x hn
  obtain ⟨g1, g2, _⟩ := c.tb.fn n x hn
  refine ⟨fun pins s σ H Q I h => ?_⟩
  obtain ⟨ρ, as, S, hρ, w, h⟩ := h
  unfold den at h
  refine wpAny_Call_Name_kw (ld_glob I (c.gl hg) g1 ?_ (nodbg_ok hd).1)
  refine PySem.W.callWith_K0 I.kIn (by rw [c.K]; exact g2) ?_
  exact call_def tk F c.room hb I .nil (spC_of w .nil h)
theorem e_callv (c : Cg X Y B N sc fnb k) (tk : L2N.Takes X W) (hC : CallsOk X Y B P k) {i : Nat} {l : RE} {x : Str} {q p : Pos} {e1 : PySem.Expr} {es : List PySem.Expr} (hN : N[i]? = some x) (hv : visB sc x = true) (hd : nodbg x = true) (hp : plainL (e1 :: es) = true)
    (hl : PA X (e1 :: es) (tAs Y W (den l P))) : PE X (.Call (.Name x q) (e1 :: es) [] p) (tE Y W (den (.callv i l) P)) := by
  have hp' := hp
  rw [plainL, Bool.and_eq_true] at hp'
  obtain ⟨d1, d2⟩ := nodbg_ok hd
  refine ⟨fun pins s σ H Q I h => ?_⟩
  obtain ⟨ρ, as, S, hρ, w, h⟩ := h
  unfold den at h
  cases e : ρ[i]? with
  | none => rw [e] at h; exact h.elim
  | some o =>
    cases o with
    | none => rw [e] at h; exact h.elim
    | some d =>
      rw [e] at h
      cases d with
      | fn n =>
        replace h : Post Y H as σ W ((den l P ρ S).bind fun ys s => match ys with
          | .lst xs => P.call n xs s
          | _ => .bad) (zE Y Q) := h
        obtain ⟨v, hv1, r⟩ := hρ.2 i _ e
        cases r with
        | fn _ hk =>
        obtain ⟨y, hn⟩ := c.tb.kn n hk
        refine wpAny_Call_Name_kw (thn ((pe_var (pos := q) (i := i) (by rw [c.n]; exact hN) (c.vis hv) d1 d2).run pins s σ H (fun v H1 => v = .ref (Y.fa n) ∧ H1 = H) I ⟨.ref (Y.fa n), hv1, rfl, rfl⟩) fun u s1 ⟨v, H1, I1, r1, q1⟩ => ?_)
        obtain ⟨rfl, rfl⟩ := q1
        cases r1
        obtain ⟨fd, ps, F, hb⟩ := hC.fn n y hn
        obtain ⟨g1, g2, _⟩ := c.tb.fn n y hn
        refine PySem.W.callWith_K (h₀ := X.base) I1.ok.mod.kin (by rw [c.K]; exact g2) (thn (hl.run p pins s1 σ H1 _ I1 (args_post (f := fun xs s => P.call n xs s) hρ w h fun ds vs S1 H1 as1 ex w1 hρ1 r1 h1 => spC_of w1 r1 h1)) fun us s2 ⟨vs, H2, I2, r, q⟩ => ⟨I2.kIn, ?_⟩) (star_cons hp'.1 es X.env) (star_none hp'.2)
        exact call_def tk F c.room hb I2 r q
      | _ => exact h.elim
end
end Px
end

section
set_option Elab.async false
set_option linter.all false
set_option maxRecDepth 100000
set_option maxHeartbeats 1000000
/-! Px: built-ins called, subscripts, slices; what is walked; comprehensions. -/
namespace Px
open PySem PySem.Spec PyProof.Rows L2
section
variable {X : Cx} {Y : Fx} {B : Tb} {N : List Str} {sc : Scope} {fnb : Str → Bool} {k : Nat} {W : WX} {P : PC}
theorem bi_post {b : Bi} {mu : Bool} {l : RE} {σ : L2.St} {H : Hp} {Q : VK} (h : tE Y W (den (.bi b mu l) P) σ H Q) : tCB (rB' Y W (biD b mu)) (tAs Y W (den l P)) σ H Q := by
  obtain ⟨ρ, as, S, hρ, w, h⟩ := h
  unfold den at h
  exact args_post (f := fun xs s => biD b mu xs s) hρ w h fun ds vs S1 H1 as1 ex w1 hρ1 r1 h1 => ⟨σ, ds, as1, S1, w1, r1, h1⟩
theorem e_bi (c : Cg X Y B N sc fnb k) {b : Bi} {mu : Bool} {l : RE} {x : Str} {q p : Pos} {e1 : PySem.Expr} {es : List PySem.Expr}
    (h : (eqS x (biN b).1 && (glB sc x && ((if mathB b = true then (match lookC x B.mfn with | some id => decide (id = (biN b).2.2) | none => false) else memS x B.free) && plainL (e1 :: es)))) = true)
    (hl : PA X (e1 :: es) (tAs Y W (den l P))) : PE X (.Call (.Name x q) (e1 :: es) [] p) (tE Y W (den (.bi b mu l) P)) := by
  rw [Bool.and_eq_true, Bool.and_eq_true, Bool.and_eq_true] at h
  obtain ⟨h1, h2, h3, hp⟩ := h
  have ex : x = (biN b).1 := of_decide_eq_true h1
  have hp' := hp
  rw [plainL, Bool.and_eq_true] at hp'
  have hst := star_cons hp'.1 es X.env
  have hnn := star_none (env := X.env) (pos := p) hp'.2
  have hg := c.gl h2
  have free : mathB b = false → X.mg x = none := fun z => by
    rw [z, if_neg Bool.false_ne_true] at h3
    exact c.tb.free x (memS_ok h3)
  have math : mathB b = true → X.mg x = some (.builtin (biN b).2.2) := fun z => by
    rw [z, if_pos rfl] at h3
    cases e : lookC x B.mfn with
    | none => rw [e] at h3; cases h3
    | some id =>
      rw [e] at h3
      have e2 : id = (biN b).2.2 := of_decide_eq_true h3
      rw [← e2]
      exact c.tb.mfn x id (lookC_ok e)
  subst ex
  have K := c.K
  have cm := c.calm
  have fin : ∀ {t : TE}, PE X (.Call (.Name (biN b).1 q) (e1 :: es) [] p) t → (t = tCB (rB' Y W (biD b mu)) (tAs Y W (den l P))) → PE X (.Call (.Name (biN b).1 q) (e1 :: es) [] p) (tE Y W (den (.bi b mu l) P)) := fun h e => by
    subst e
    exact h.mono fun σ H Q h => bi_post h
  cases b with
  | len => exact fin (pe_callB (CallR.all fun τ => bi_len K mu) hg (free rfl) (by rfl) hl (by decide) (by decide) hst hnn) rfl
  | abs => exact fin (pe_callB (CallR.all fun τ => bi_abs mu) hg (free rfl) (by rfl) hl (by decide) (by decide) hst hnn) rfl
  | int => exact fin (pe_callTy (CallR.all fun τ => bi_int mu) hg (free rfl) (by rfl) hl (by decide) (by decide) hst hnn) rfl
  | list => exact fin (pe_callTy (CallR.all fun τ => bi_list K mu) hg (free rfl) (by rfl) hl (by decide) (by decide) hst hnn) rfl
  | tuple => exact fin (pe_callTy (CallR.all fun τ => bi_tuple K mu) hg (free rfl) (by rfl) hl (by decide) (by decide) hst hnn) rfl
  | max2 => exact fin (pe_callB (CallR.all fun τ => bi_max2 cm mu) hg (free rfl) (by rfl) hl (by decide) (by decide) hst hnn) rfl
  | min2 => exact fin (pe_callB (CallR.all fun τ => bi_min2 cm mu) hg (free rfl) (by rfl) hl (by decide) (by decide) hst hnn) rfl
  | max1 => exact fin (pe_callB (CallR.all fun τ => bi_max1 K cm mu) hg (free rfl) (by rfl) hl (by decide) (by decide) hst hnn) rfl
  | min1 => exact fin (pe_callB (CallR.all fun τ => bi_min1 K cm mu) hg (free rfl) (by rfl) hl (by decide) (by decide) hst hnn) rfl
  | sum => exact fin (pe_callB (CallR.all fun τ => bi_sum K cm mu) hg (free rfl) (by rfl) hl (by decide) (by decide) hst hnn) rfl
  | all => exact fin (pe_callB (CallR.all fun τ => bi_all K cm mu) hg (free rfl) (by rfl) hl (by decide) (by decide) hst hnn) rfl
  | any => exact fin (pe_callB (CallR.all fun τ => bi_any K cm mu) hg (free rfl) (by rfl) hl (by decide) (by decide) hst hnn) rfl
  | gcd => exact fin (pe_callBfun (CallR.all fun τ => bi_gcd mu) hg (math rfl) hl (by decide) hst hnn) rfl
  | isqrt => exact fin (pe_callBfun (CallR.all fun τ => bi_isqrt mu) hg (math rfl) hl (by decide) hst hnn) rfl

/-! ### isinstance -/
theorem e_isi (c : Cg X Y B N sc fnb k) {a : RE} {t : Ty} {x ty : Str} {q q2 p : Pos} {e1 : PySem.Expr} (h : (eqS x "isinstance" && (glB sc x && (memS x B.free && (eqS ty (tyS t) && (glB sc ty && (memS ty B.free && plainE e1)))))) = true)
    (ha : PE X e1 (tE Y W (den a P))) : PE X (.Call (.Name x q) [e1, .Name ty q2] [] p) (tE Y W (den (.isi a t) P)) := by
  rw [Bool.and_eq_true, Bool.and_eq_true, Bool.and_eq_true, Bool.and_eq_true, Bool.and_eq_true, Bool.and_eq_true] at h
  obtain ⟨h1, h2, h3, h4, h5, h6, h7⟩ := h
  have ex : x = "isinstance" := of_decide_eq_true h1
  have ey : ty = tyS t := of_decide_eq_true h4
  subst ex ey
  have mf := c.tb.free _ (memS_ok h3)
  have tf := c.tb.free _ (memS_ok h6)
  have pt : PE X (.Name (tyS t) q2) (tC (.ty (tyN t))) := by
    cases t <;> exact pe_bltn (v := .ty _) (c.gl h5) tf (by rfl) rfl (by decide) (by decide)
  have hst := star_cons h7 [.Name (tyS t) q2] X.env
  refine (pe_callB call_isi (c.gl h2) mf (by rfl) (pa_cons ha (pa_cons pt pa_nil (star_cons rfl _ _)) hst) (by decide) (by decide) hst rfl).mono fun σ H Q ⟨ρ, as, S, hρ, w, h⟩ => ?_
  unfold den at h
  refine post_bind (m := den a P) hρ w h fun d v S1 H1 as1 e1 w1 hρ1 r1 h1 => ?_
  obtain ⟨b, hb, qb⟩ := ob_post w1 h1
  obtain ⟨tv, g1, g2⟩ := isi_kit w1 r1 hb
  exact ⟨v, .ty (tyN t), tv, .type (tyN t), b, rfl, .ty _, by rw [c.K]; exact g1, by rw [c.K]; exact g2, qb⟩

/-! ### subscripts, slices -/
theorem e_sub (c : Cg X Y B N sc fnb k) {a i : RE} {x y : PySem.Expr} {p : Pos} (hp : plainE y = true) (ha : PE X x (tE Y W (den a P))) (hi : PE X y (tE Y W (den i P))) : PE X (.Subscript x y p) (tE Y W (den (.sub a i) P)) := by
  have r : IxR X (rD' Y W subD) := fun value slice pins s σ H x y v u Q I rx ry ⟨τ, q⟩ hs => ix_sub c.K value slice pins s σ H x y v u Q I rx ry q hs
  exact (pe_ix r ha hi (ix_plain hp)).mono fun σ H Q h => two_post h
/-- an end of a slice -/
def tPt (Y : Fx) (W : WX) (m : Env → Sto → R D) : TO := fun σ H Q => ∃ ρ as S, EnvR Y H as ρ σ ∧ Wd Y H as S ∧ Post Y H as σ W (m ρ S) fun d H' as' => match partO d with
  | some o => Q o H'
  | none => False
theorem pt_some {lo : RE} {e : PySem.Expr} (h : PE X e (tE Y W (den lo P))) : PO X (some e) (tPt Y W (den lo P)) := by
  refine ⟨fun pins s σ H Q I hw => ?_⟩
  rw [evalPart_some]
  obtain ⟨ρ, as, S, hρ, w, hw⟩ := hw
  refine thn (h.run pins s σ H (fun x H' => (x = .non ∧ Q none H') ∨ ∃ i, x = .int i ∧ Q (some i) H') I ⟨ρ, as, S, hρ, w, hw.imp fun d H' as' z v r => ?_⟩) fun u s1 ⟨x, H1, I1, r1, q1⟩ => ?_
  · cases r with
    | non => exact .inl ⟨rfl, z⟩
    | int i => exact .inr ⟨i, rfl, z⟩
    | _ => exact (show False from z).elim
  · rcases q1 with ⟨rfl, q⟩ | ⟨i, rfl, q⟩
    · cases r1
      exact ⟨none, H1, I1, .none, q⟩
    · obtain ⟨t, rfl⟩ := r1
      exact ⟨some i, H1, I1, .int i t, q⟩
theorem isNo_ok {r : RE} (h : isNo r = true) : r = .c .non := by
  cases r <;> first | (cases h; done) | skip
  rename_i d
  cases d <;> first | rfl | cases h
theorem isYes_ok {r : RE} (h : isYes r = true) : r = .c (.bl true) := by
  cases r <;> first | (cases h; done) | skip
  rename_i d
  cases d <;> first | (cases h; done) | skip
  rename_i b
  cases b <;> first | rfl | cases h
theorem pt_none {lo : RE} (h : isNo lo = true) : PO X none (tPt Y W (den lo P)) := by
  rw [isNo_ok h]
  refine ⟨fun pins s σ H Q I ⟨ρ, as, S, hρ, w, hw⟩ => ?_⟩
  exact po_none.run pins s σ H Q I (hw H as Ext.refl w)
theorem e_slc (c : Cg X Y B N sc fnb k) {mu : Bool} {a lo hi : RE} {x : PySem.Expr} {l h : Option PySem.Expr} {p2 p : Pos} (ha : PE X x (tE Y W (den a P))) (hl : PO X l (tPt Y W (den lo P))) (hh : PO X h (tPt Y W (den hi P))) :
    PE X (.Subscript x (.Slice l h none p2) p) (tE Y W (den (.slc mu a lo hi) P)) := by
  have r : SlR X (rSl' Y W mu) := fun pins s σ H x v vl vu lo hi sl Q I rx hs pl pu ⟨τ, q⟩ => sl_any c.K mu pins s σ H x v vl vu lo hi sl Q I rx hs pl pu q
  refine (pe_slice r ha hl hh).mono fun σ H Q ⟨ρ, as, S, hρ, w, h⟩ => ?_
  unfold den at h
  refine post_bind (m := den a P) hρ w h fun d v S1 H1 as1 e1 w1 hρ1 r1 h1 => ?_
  have key : ∀ {m : Env → Sto → R D} {S1 : Sto} {H1 : Hp} {as1 : Ad} {kk : D → Sto → R D} {T : Option Int → Hp → Prop}, EnvR Y H1 as1 ρ σ → Wd Y H1 as1 S1 → Post Y H1 as1 σ W ((m ρ S1).bind kk) (zE Y Q) → (∀ d S' H' as', partO d = none → Post Y H' as' σ W (kk d S') (zE Y Q) → False) →
      (∀ d o S2 H2 as2, partO d = some o → Ext H1 as1 H2 as2 → Wd Y H2 as2 S2 → EnvR Y H2 as2 ρ σ → Post Y H2 as2 σ W (kk d S2) (zE Y Q) → T o H2) → tPt Y W m σ H1 T := by
    intro m S1 H1 as1 kk T hρ1 w1 h1 hn hk
    refine ⟨ρ, as1, S1, hρ1, w1, ?_⟩
    cases e : m ρ S1 with
    | ok d S' =>
      rw [e] at h1
      refine fun H' as' ex w' => ?_
      have h' : Post Y H' as' σ W (kk d S') (zE Y Q) := Post.ext h1 ex
      show (match partO d with | some o => T o H' | none => False)
      cases ep : partO d with
      | none => exact hn d S' H' as' ep h'
      | some o => exact hk d o S' H' as' ep ex w' (hρ1.ext ex) h'
    | exc c S' =>
      rw [e] at h1
      exact h1
    | bad =>
      rw [e] at h1
      exact h1
  refine key (m := den lo P) hρ1 w1 h1 (fun d2 S' H' as' en h' => ?_) fun d2 o2 S2 H2 as2 eo e2 w2 hρ2 h2 => ?_
  · rw [en] at h'
    exact h'.elim
  · rw [eo] at h2
    refine key (m := den hi P) hρ2 w2 h2 (fun d3 S' H' as' en h' => ?_) fun d3 o3 S3 H3 as3 eo3 e3 w3 hρ3 h3 => ?_
    · rw [en] at h'
      exact h'.elim
    · rw [eo3] at h3
      exact ⟨σ, d, as3, S3, w3, (r1.ext e2).ext e3, h3⟩
end
end Px
end

section
set_option Elab.async false
set_option linter.all false
set_option maxRecDepth 100000
set_option maxHeartbeats 1000000
/-! Px: enumerate of a tuple: the machine's side. -/
namespace Px
open PySem PySem.Spec PyProof.Rows L2
open PySem.Sem (wp)
section
variable {prog : Program} {w : World} {A : Around} {E : Value → Shared → Prop} {s : Shared}
theorem draws_tuple (hh : A.handled = none) (it t : Addr) (hne : t ≠ it) (items : Array Value) :
    Draws prog w A it [it, t] items.size (fun i v => items[i]? = some v) (fun i h => h.IsTupleIter it t i ∧ h.IsTuple t items) where
  live := fun _ _ st => let ⟨o, ho, _⟩ := st.1; ⟨o, ho⟩
  frame := fun _ _ _ st hk => ⟨st.1.at fun o e => hk it (by simp) o e, st.2.at fun o e => hk t (by simp) o e⟩
  item := fun i s Q E hi st hQ => by
    refine RZ.nextOf_tuple_item st.1 st.2 (x := items[i]) (by simp [hi]) fun h' hit' hs' => ?_
    exact hQ _ h' s.toks (by simp [hi]) ⟨hit', st.2.extBut hs'.extBut hne⟩ hs'
  done := fun s Q E st hE => RZ.nextOf_tuple_end hh st.1 st.2 (by simp) hE
theorem enumT_end {e it l : Addr} {i : Nat} {items : Array Value} {old : Value} {Q : Option Value → Shared → Prop} (hh : A.handled = none)
    (he : IsEnum s.heap e it i old) (hit : s.heap.IsTupleIter it l i) (hl : s.heap.IsTuple l items) (hx : items[i]? = none)
    (hQ : ∀ h', Heap.ExtBut it s.heap h' → Q none { s with heap := h' }) : wpAny (model prog w) A (pyNext (.ref e)) Q E s := by
  have hT : s.TypeIs (.ref e) "enumerate" := ⟨_, he, rfl⟩
  unfold pyNext
  refine wpAny_bind (wpAny_attempt (wpAny_callSpecial?_slot (name := Str.ofString "__next__") hT F.slot_enumerate_next
    (wpAny_call_entry F.slot_enumerate_next hT F.entry_enumerate_next ?_ (F.args_enumerate_next_1 _))))
  show wpAny _ _ (field (.ref e) 2 >>= _) _ _ _
  refine wpAny_bind (wpAny_field he rfl (x := .ref it) rfl ?_)
  refine wpAny_bind (RZ.nextOf_tuple_end hh hit hl hx fun h' x he' hx' => ?_)
  obtain ⟨o, ho, hc⟩ := hx'
  refine wpAny_bind (wpAny_isInstance (T := "StopIteration") (b := true) ⟨o, ho, hc⟩ isSubtype_stop ?_)
  exact wpAny_pure (hQ _ he')
end
set_option maxHeartbeats 4000000 in
theorem meets_enum_tup (t : Addr) (items : Array Value) :
    Meets (Builtin.«enumerate.__new__» ⟨[.type "enumerate", .ref t], []⟩) (fun _ R s => s.heap.IsTuple t items ∧
      R (.ok (.ret (.ref (s.heap.push { cls := .type "tuple_iterator", data := .fields #[.ref t, .int 0 0] }).objs.size)))
        { s with heap := (s.heap.push { cls := .type "tuple_iterator", data := .fields #[.ref t, .int 0 0] }).push { cls := .type "enumerate", data := .fields #[.none, .bool false, .ref s.heap.objs.size, rawInt 0, .none, .none] } }) :=
  .of_wp fun prog w A R s h => by
    obtain ⟨hp, g, d, tk, os⟩ := s; obtain ⟨hl, h⟩ := h
    have hsub := sub_enumerate
    have q1 : ∀ {A' : Around} {E : Value → Shared → Prop} {Q : Value → Shared → Prop}, Q (.ref hp.objs.size) ⟨hp.push { cls := .type "tuple_iterator", data := .fields #[.ref t, .int 0 0] }, g, d, tk, os⟩ → wpAny (model prog w) A' (pyIter (.ref t)) Q E ⟨hp, g, d, tk, os⟩ :=
      fun q => wpAny_pyIter_tuple hl q
    wp_walk using q1
    refine wpAny_stack_any fun st => wpAny_pure ?_
    split
    · rename_i c _ _ _ _ _
      cases (c == Value.type "enumerate")
      · wp_walk using q1
        exact ⟨_, rfl, h⟩
      · wp_walk using q1
        exact ⟨_, rfl, h⟩
    · wp_walk using q1
      exact ⟨_, rfl, h⟩
section
variable {prog : Program} {w : World} {A : Around} {E : Value → Shared → Prop} {s : Shared}
theorem call_enum_tup {l : Addr} {items : Array Value} {Q : Value → Shared → Prop} (hL : s.heap.IsTuple l items)
    (h : ∀ h', IsEnum h' (s.heap.objs.size + 1) s.heap.objs.size 0 .none → h'.IsTupleIter s.heap.objs.size l 0 → h'.objs.size = s.heap.objs.size + 2 →
      (∀ b o, s.heap.get? b = some o → h'.get? b = some o) → Q (.ref (s.heap.objs.size + 1)) { s with heap := h' }) :
    wpAny (model prog w) A (PySem.call (.type "enumerate") [.ref l]) Q E s := by
  refine callType_new F.called_enumerate (by decide) (F.typeCall_enumerate_1 _) (F.newCall_enumerate_1 _) (fun obj => F.args_object_init_2 obj _) F.entry_enumerate_new
    (meets_enum_tup l items) ⟨hL, ?_⟩
  have hz : (s.heap.push { cls := .type "tuple_iterator", data := .fields #[.ref l, .int 0 0] }).objs.size = s.heap.objs.size + 1 := Heap.size_push ..
  show _ ∧ _
  rw [hz]
  have he : IsEnum ((s.heap.push { cls := .type "tuple_iterator", data := .fields #[.ref l, .int 0 0] }).push
      { cls := .type "enumerate", data := .fields #[.none, .bool false, .ref s.heap.objs.size, rawInt 0, .none, .none] }) (s.heap.objs.size + 1) s.heap.objs.size 0 .none := by
    have := Heap.get?_push_size (s.heap.push { cls := .type "tuple_iterator", data := .fields #[.ref l, .int 0 0] })
      (o := { cls := .type "enumerate", data := .fields #[.none, .bool false, .ref s.heap.objs.size, rawInt 0, .none, .none] }) rfl
    rw [hz] at this; exact this
  refine ⟨⟨_, he, rfl⟩, h _ he ⟨_, Heap.get?_push_of_some _ (Heap.get?_push_size _ rfl), rfl, rfl⟩ (by rw [Heap.size_push, hz]) fun b o x => Heap.get?_push_of_some _ (Heap.get?_push_of_some _ x)⟩
end
/-- the tuple at a, each item in a new pair -/
def IteT (K : PySem.W.Frag) (a : Addr) : It :=
  ⟨fun i H => ∃ (xs : List V) (x : V), SqT K H a xs ∧ xs[i]? = some x, fun i H v H' => ∃ T x, v = .ref T ∧ H T = none ∧ H' = upd H T (.tup [.int (i : Nat), x]) ∧ ∀ xs, SqT K H a xs → xs[i]? = some x, fun i H => ∃ xs : List V, SqT K H a xs ∧ xs.length ≤ i⟩
theorem turn_enumT {P : Program} {w : World} {K : PySem.W.Frag} {elts : List PySem.Expr} {kk : Nat} {tpos : Pos} (a e it : Addr) :
    Turn P w K (.Tuple elts kk tpos) (IteT K a) [e, it] e (fun i h => (∃ old, IsEnum h e it ((i : Nat) : Int) old) ∧ h.IsTupleIter it a i ∧ e ≠ it ∧ e ≠ a ∧ a ≠ it) where
  mem := by simp
  obj := fun i h st b hb => by
    obtain ⟨⟨old, he⟩, ⟨o, ho, hc, hd⟩, _⟩ := st
    have e' : b = e ∨ b = it := by simpa using hb
    rcases e' with z | z
    · rw [z]; exact ⟨_, he, fun v q => nomatch q⟩
    · rw [z]; exact ⟨o, ho, fun v q => by rw [hd] at q; cases q⟩
  keep := fun i h h' st k => let ⟨⟨old, he⟩, hi, hne⟩ := st; ⟨⟨old, k e (by simp) _ he⟩, hi.at fun o q => k it (by simp) o q, hne⟩
  item := by
    intro X hP hw hK hc i pins s σ H E I hf st hg
    subst hP hw hK
    obtain ⟨⟨old, he⟩, hit, hne, hea, hai⟩ := st
    obtain ⟨xs, x, hq, hx⟩ := hg
    obtain ⟨its, rv, p, _⟩ := I.tuple hq
    obtain ⟨u, hu, ru⟩ := rv.get hx
    have hel : e < s.heap.objs.size := Heap.lt_size he
    have hil : it < s.heap.objs.size := by obtain ⟨_, q, _⟩ := hit; exact Heap.lt_size q
    have D := draws_tuple (prog := X.prog) (w := X.w) (A := X.A.in1) (I.ok.hd hc) it a hai its.toArray
    have hlt : i < its.toArray.size := by
      have := List.getElem?_eq_some_iff.mp hu
      obtain ⟨q, _⟩ := this
      simpa using q
    refine wpAny_pyNext_enum_itemD D he ⟨hit, p⟩ hlt hne (by simp [hne, hea]) fun x' h' tk hP ho hst hT hsz hk => ?_
    have ex : x' = u := by
      have q : its.toArray[i]? = some u := by simpa using hu
      exact Option.some.inj (hP.symm.trans q)
    subst ex
    refine ⟨_, rfl, wpAny_letOwnedTupleGo_enum (s := { s with heap := h', toks := tk + 1 }) ho fun h'' he' sb => ?_⟩
    have hT2 : h''.get? s.heap.objs.size = some { cls := .type "tuple", data := .seq #[.int i tk, x'] } := (sb.2 _ (Nat.ne_of_gt hel)).trans hT
    have new : ObjOk X.prog X.w (upd H s.heap.objs.size (.tup [.int (i : Nat), x])) h'' s.heap.objs.size (.tup [.int (i : Nat), x]) :=
      ⟨by show 2 ≤ sizeLine; decide, [.int i tk, x'], .cons ⟨_, rfl⟩ (.cons ru .nil), ⟨_, hT2, rfl, _, rfl⟩⟩
    have I1 : Inv X pins σ (upd H s.heap.objs.size (.tup [.int (i : Nat), x])) { s with heap := h'', toks := tk + 1 } :=
      I.turnedNew (ch := [e, it]) (fun b ob hb q => (sb.2 b (fun z => hb (by simp [z]))).trans (hk b ob (fun z => hb (by simp [z])) (fun z => hb (by simp [z])) q)) hf (Nat.le_refl _) new
    refine ⟨.ref s.heap.objs.size, _, I1, rfl, ⟨_, x, rfl, I.hok.fresh (Nat.le_refl _), rfl, fun ys hy => by rw [I.tuple_inj hy hq]; exact hx⟩, ⟨⟨x', ?_⟩, hst.1.at fun o q => (sb.2 it (Ne.symm hne)).trans q, hne, hea, hai⟩, fun b hb => ?_⟩
    · have e1 : ((i + 1 : Nat) : Int) = (i : Int) + 1 := by omega
      rw [e1]; exact he'
    · have hb' : b < s.heap.objs.size := by
        have e' : b = e ∨ b = it := by simpa using hb
        rcases e' with z | z
        · rw [z]; exact hel
        · rw [z]; exact hil
      rw [upd_ne (Nat.ne_of_lt hb')]
      exact (hf b hb).1
  done := by
    intro X hP hw hK hc i pins s σ H E I hf st hg
    subst hP hw hK
    obtain ⟨⟨old, he⟩, hit, hne, _⟩ := st
    obtain ⟨xs, hq, hx⟩ := hg
    obtain ⟨its, rv, p, hz⟩ := I.tuple hq
    obtain ⟨f0, f1, f2, f3, f4, f5⟩ := hf it (by simp)
    have hl := rv.length
    exact enumT_end (I.ok.hd hc) he hit p (by simp; omega) fun h' eb => ⟨rfl, I.turned (t' := s.toks) (fun b o hb q => eb b o hb q) f0 f1 f3 f4 f5⟩
  self := fun A i s Q E st h => let ⟨⟨_, he⟩, _⟩ := st; wpAny_pyIter_enum he h
def iEnumA (K : PySem.W.Frag) (ta : TA) : TI := fun σ H R => ta σ H fun vs H1 => ∃ a xs, vs = [.ref a] ∧ ((SqL K H1 a xs ∧ R (Ite K a) H1) ∨ (SqT K H1 a xs ∧ R (IteT K a) H1))
theorem pi_enumA {X : Cx} {e : PySem.Expr} {ta : TA} {p pos tpos : Pos} {elts : List PySem.Expr} {kk : Nat} (hg : Gl X "enumerate") (hm : X.mg "enumerate" = none) (ha : PA X [e] ta) (hs : starEach [e] X.env = [(false, eval e X.env)] := by rfl) :
    PI X (.Tuple elts kk tpos) (.Call (.Name "enumerate" p) [e] [] pos) (iEnumA X.K ta) := by
  refine ⟨fun pins s σ H R I h => ?_⟩
  refine Call_ (ld_blt I hg hm boot_enumerate (PyProof.Rows.callWith_type1 (thn (ha.run pos pins s σ H _ I h) fun us s1 ⟨vs, H1, I1, r1, q1⟩ => ?_) hs rfl))
  obtain ⟨a, xs, ex, q⟩ := q1
  subst ex
  cases r1 with
  | cons r rr =>
    cases rr
    cases r
    have fr : ∀ b ∈ [s1.heap.objs.size + 1, s1.heap.objs.size], FpOk X pins H1 b := fun b hb => by
      have e' : b = s1.heap.objs.size + 1 ∨ b = s1.heap.objs.size := by simpa using hb
      have hle : s1.heap.objs.size ≤ b := by
        rcases e' with z | z
        · rw [z]; exact Nat.le_add_right _ _
        · rw [z]; exact Nat.le_refl _
      exact I1.fpOk hle (I1.hok.fresh hle)
    rcases q with ⟨hq, q⟩ | ⟨hq, q⟩
    · obtain ⟨its, rv, p', hz⟩ := I1.list hq
      refine call_enumerate_list p'.isList fun h' he hit hsz hk => wpAny_pyIter_enum he ?_
      have I2 : Inv X pins σ H1 { s1 with heap := h' } := I1.kept (t' := s1.toks) hk
      exact ⟨s1.heap.objs.size + 1, [s1.heap.objs.size + 1, s1.heap.objs.size], _, _, H1, rfl, I2, turn_enum a (s1.heap.objs.size + 1) s1.heap.objs.size, ⟨⟨.none, he⟩, hit, Nat.succ_ne_self _⟩, fr, q⟩
    · obtain ⟨its, rv, p', hz⟩ := I1.tuple hq
      obtain ⟨o1, ho1, _⟩ := id p'
      have hlt := Heap.lt_size ho1
      refine call_enum_tup (show s1.heap.IsTuple a its.toArray from p') fun h' he hit hsz hk => wpAny_pyIter_enum he ?_
      have I2 : Inv X pins σ H1 { s1 with heap := h' } := I1.kept (t' := s1.toks) hk
      exact ⟨s1.heap.objs.size + 1, [s1.heap.objs.size + 1, s1.heap.objs.size], _, _, H1, rfl, I2, turn_enumT a (s1.heap.objs.size + 1) s1.heap.objs.size, ⟨⟨.none, he⟩, hit, Nat.succ_ne_self _, Nat.ne_of_gt (Nat.lt_succ_of_lt hlt), Nat.ne_of_lt hlt⟩, fr, q⟩
end Px
end

section
set_option Elab.async false
set_option linter.all false
set_option maxRecDepth 100000
set_option maxHeartbeats 1000000
/-! Px: what is walked, where it is stored, comprehensions. -/
namespace Px
open PySem PySem.Spec PyProof.Rows L2

/-- what an iterator of ours walks -/
inductive Wk (Y : Fx) (H : Hp) (as : Ad) : It → (Sto → Option (List D)) → Prop
  | tup {a : Addr} {vs : List V} {ds : List D} : SqT Y.K H a vs → RepL Y H as ds vs → Wk Y H as (Itt Y.K a) (fun _ => some ds)
  | lst {a : Addr} {vs : List V} {ds : List D} : FxL Y.K H as a vs → RepL Y H as ds vs → Wk Y H as (Itl Y.K a) (fun _ => some ds)
  | cel {a : Addr} {i : Nat} : as.c[i]? = some a → Wk Y H as (Itl Y.K a) (fun S => S[i]?)
  | rng (lo : Int) (n : Nat) : Wk Y H as (Itr lo n) (fun _ => some (rngL lo n))
  | zip {a b : Addr} {vs ws : List V} {ds es : List D} : FxL Y.K H as a vs → FxL Y.K H as b ws → RepL Y H as ds vs → RepL Y H as es ws → Wk Y H as (Itz Y.K a b) (fun _ => some (zipL ds es))
  | zipT {a b : Addr} {vs ws : List V} {ds es : List D} : SqT Y.K H a vs → SqT Y.K H b ws → RepL Y H as ds vs → RepL Y H as es ws → Wk Y H as (RZ.ItzT Y.K a b) (fun _ => some (zipL ds es))
  | zipC {a b : Addr} {i : Nat} {ws : List V} {es : List D} : as.c[i]? = some a → FxL Y.K H as b ws → RepL Y H as es ws → Wk Y H as (Itz Y.K a b) (fun S => match S[i]? with
    | some xs => some (zipL xs es)
    | none => none)
  | enum {a : Addr} {vs : List V} {ds : List D} : FxL Y.K H as a vs → RepL Y H as ds vs → Wk Y H as (Ite Y.K a) (fun _ => some (enumL 0 ds))
  | enumT {a : Addr} {vs : List V} {ds : List D} : SqT Y.K H a vs → RepL Y H as ds vs → Wk Y H as (IteT Y.K a) (fun _ => some (enumL 0 ds))
section
variable {Y : Fx} {H H1 H' : Hp} {as as1 as' : Ad} {S : Sto} {J : It} {g : Sto → Option (List D)}
theorem Wk.ext (e : Ext H as H1 as1) (h : Wk Y H as J g) : Wk Y H1 as1 J g := by
  cases h with
  | tup h r => exact .tup (e.tup h) (r.ext e)
  | lst h r => exact .lst (h.ext e) (r.ext e)
  | cel h => exact .cel (e.at h)
  | rng lo n => exact .rng lo n
  | zip h1 h2 r1 r2 => exact .zip (h1.ext e) (h2.ext e) (r1.ext e) (r2.ext e)
  | zipT h1 h2 r1 r2 => exact .zipT (e.tup h1) (e.tup h2) (r1.ext e) (r2.ext e)
  | zipC h h2 r2 => exact .zipC (e.at h) (h2.ext e) (r2.ext e)
  | enum h r => exact .enum (h.ext e) (r.ext e)
  | enumT h r => exact .enumT (e.tup h) (r.ext e)
theorem Wk.open {p : Addr} {o : HO} (n : H p = none) (h : Wk Y H as J g) : Wk Y (upd H p o) (as.opn p) J g := by
  cases h with
  | tup h r => exact .tup ((Ext.new (as := as) n).tup h) (r.open n)
  | lst h r => exact .lst (h.open n) (r.open n)
  | cel h => exact .cel h
  | rng lo m => exact .rng lo m
  | zip h1 h2 r1 r2 => exact .zip (h1.open n) (h2.open n) (r1.open n) (r2.open n)
  | zipT h1 h2 r1 r2 => exact .zipT ((Ext.new (as := as) n).tup h1) ((Ext.new (as := as) n).tup h2) (r1.open n) (r2.open n)
  | zipC h h2 r2 => exact .zipC h (h2.open n) (r2.open n)
  | enum h r => exact .enum (h.open n) (r.open n)
  | enumT h r => exact .enumT ((Ext.new (as := as) n).tup h) (r.open n)
theorem Wk.grow {p : Addr} {us ws : List V} (n : H p = some (.lst us)) (h : Wk Y H (as.opn p) J g) : Wk Y (upd H p (.lst ws)) (as.opn p) J g := by
  have fx : ∀ {K : PySem.W.Frag} {a : Addr} {vs : List V}, FxL K H (as.opn p) a vs → FxL K (upd H p (.lst ws)) (as.opn p) a vs := fun h => h.grow n
  cases h with
  | tup h r => exact .tup (sqT_grow n h) (r.grow n)
  | lst h r => exact .lst (fx h) (r.grow n)
  | cel h => exact .cel h
  | rng lo m => exact .rng lo m
  | zip h1 h2 r1 r2 => exact .zip (fx h1) (fx h2) (r1.grow n) (r2.grow n)
  | zipT h1 h2 r1 r2 => exact .zipT (sqT_grow n h1) (sqT_grow n h2) (r1.grow n) (r2.grow n)
  | zipC h h2 r2 => exact .zipC h (fx h2) (r2.grow n)
  | enum h r => exact .enum (fx h) (r.grow n)
  | enumT h r => exact .enumT (sqT_grow n h) (r.grow n)
theorem rngL_get : ∀ {lo : Int} {n i : Nat} {d : D}, (rngL lo n)[i]? = some d → i < n ∧ d = .int (lo + i)
  | lo, 0, i, d, h => by simp [rngL] at h
  | lo, n + 1, 0, d, h => by
    have e : D.int lo = d := by simpa [rngL] using h
    exact ⟨Nat.succ_pos _, by rw [← e]; simp⟩
  | lo, n + 1, i + 1, d, h => by
    obtain ⟨h1, h2⟩ := rngL_get (lo := lo + 1) (n := n) (i := i) (d := d) (by simpa [rngL] using h)
    exact ⟨by omega, by rw [h2]; congr 1; omega⟩
theorem rngL_len : ∀ (lo : Int) (n : Nat), (rngL lo n).length = n
  | _, 0 => rfl
  | lo, n + 1 => congrArg Nat.succ (rngL_len (lo + 1) n)
theorem zipL_get : ∀ {xs ys : List D} {i : Nat} {d : D}, (zipL xs ys)[i]? = some d → ∃ x y, xs[i]? = some x ∧ ys[i]? = some y ∧ d = .tup [x, y]
  | [], _, i, d, h => by simp [zipL] at h
  | _ :: _, [], i, d, h => by simp [zipL] at h
  | x :: xs, y :: ys, 0, d, h => ⟨x, y, rfl, rfl, by simpa [zipL] using h.symm⟩
  | x :: xs, y :: ys, i + 1, d, h => by
    obtain ⟨a, b, h1, h2, h3⟩ := zipL_get (xs := xs) (ys := ys) (i := i) (d := d) (by simpa [zipL] using h)
    exact ⟨a, b, by simpa using h1, by simpa using h2, h3⟩
theorem zipL_len : ∀ (xs ys : List D), (zipL xs ys).length = min xs.length ys.length
  | [], ys => by simp [zipL]
  | _ :: _, [] => by simp [zipL]
  | x :: xs, y :: ys => by simp [zipL, zipL_len xs ys]
theorem enumL_get : ∀ {xs : List D} {k : Int} {i : Nat} {d : D}, (enumL k xs)[i]? = some d → ∃ x, xs[i]? = some x ∧ d = .tup [.int (k + i), x]
  | [], k, i, d, h => by simp [enumL] at h
  | x :: xs, k, 0, d, h => ⟨x, rfl, by simpa [enumL] using h.symm⟩
  | x :: xs, k, i + 1, d, h => by
    obtain ⟨a, h1, h2⟩ := enumL_get (xs := xs) (k := k + 1) (i := i) (d := d) (by simpa [enumL] using h)
    refine ⟨a, by simpa using h1, ?_⟩
    rw [h2]
    congr 3
    omega
theorem enumL_len : ∀ (xs : List D) (k : Int), (enumL k xs).length = xs.length
  | [], _ => rfl
  | _ :: xs, k => congrArg Nat.succ (enumL_len xs (k + 1))
/-- a turn -/
def Step1 (H H' : Hp) : Prop := H' = H ∨ ∃ T ws, H T = none ∧ H' = upd H T (.tup ws)
theorem Step1.ext (h : Step1 H H') : Ext H as H' as := by
  rcases h with e | ⟨T, ws, n, e⟩
  · rw [e]; exact Ext.refl
  · rw [e]; exact Ext.new n
theorem Step1.after (h : Step1 H H') {H0 : Hp} {as0 : Ad} (e : Ext H0 as0 H as) : Ext H0 as0 H' as := e.trans h.ext
theorem Step1.wd (h : Step1 H H') (w : Wd Y H as S) : Wd Y H' as S := by
  rcases h with e | ⟨T, ws, n, e⟩
  · rw [e]; exact w
  · rw [e]; exact w.new n
theorem pair_rep {x y : D} {u v : V} {T : Addr} (n : H T = none) (r1 : Rep Y H as x u) (r2 : Rep Y H as y v) : Rep Y (upd H T (.tup [u, v])) as (.tup [x, y]) (.ref T) :=
  .tup (SqT.of upd_same) (by show 2 ≤ sizeLine; decide) (.cons (r1.ext (Ext.new n)) (.cons (r2.ext (Ext.new n)) .nil))
theorem Wk.step (h : Wk Y H as J g) (w : Wd Y H as S) {xs : List D} {i : Nat} {d : D} (hg : g S = some xs) (hd : xs[i]? = some d) : J.go i H ∧ ∀ v H', J.yld i H v H' → Step1 H H' ∧ Rep Y H' as d v := by
  cases h with
  | @tup a vs ds h r =>
    cases hg
    obtain ⟨v, hv, rv⟩ := r.get hd
    refine ⟨⟨vs, v, h, hv⟩, fun u H' ⟨e, q⟩ => ?_⟩
    subst e
    have := q vs h
    rw [hv] at this
    cases this
    exact ⟨.inl rfl, rv⟩
  | @lst a vs ds h r =>
    cases hg
    obtain ⟨v, hv, rv⟩ := r.get hd
    refine ⟨⟨vs, v, h.sq, hv⟩, fun u H' ⟨e, q⟩ => ?_⟩
    subst e
    have := q vs h.sq
    rw [hv] at this
    cases this
    exact ⟨.inl rfl, rv⟩
  | @cel a j h =>
    obtain ⟨vs, hl, z, r⟩ := w.cell j a xs h hg
    obtain ⟨v, hv, rv⟩ := r.get hd
    refine ⟨⟨vs, v, .inl (.inl hl), hv⟩, fun u H' ⟨e, q⟩ => ?_⟩
    subst e
    have := q vs (.inl (.inl hl))
    rw [hv] at this
    cases this
    exact ⟨.inl rfl, rv⟩
  | rng lo n =>
    cases hg
    obtain ⟨h1, h2⟩ := rngL_get hd
    refine ⟨h1, fun u H' ⟨e, q⟩ => ?_⟩
    subst e q h2
    exact ⟨.inl rfl, .int _⟩
  | @zip a b vs ws ds es h1 h2 r1 r2 =>
    cases hg
    obtain ⟨x, y, g1, g2, g3⟩ := zipL_get hd
    obtain ⟨v, hv, rv⟩ := r1.get g1
    obtain ⟨u, hu, ru⟩ := r2.get g2
    refine ⟨⟨vs, ws, v, u, h1.sq, h2.sq, hv, hu⟩, fun z H' ⟨T, p, q, e1, n, e2, q1, q2⟩ => ?_⟩
    have z1 := q1 vs h1.sq
    have z2 := q2 ws h2.sq
    rw [hv] at z1
    rw [hu] at z2
    cases z1
    cases z2
    subst e1 e2 g3
    exact ⟨.inr ⟨T, _, n, rfl⟩, pair_rep n rv ru⟩
  | @zipT a b vs ws ds es h1 h2 r1 r2 =>
    cases hg
    obtain ⟨x, y, g1, g2, g3⟩ := zipL_get hd
    obtain ⟨v, hv, rv⟩ := r1.get g1
    obtain ⟨u, hu, ru⟩ := r2.get g2
    refine ⟨⟨vs, ws, v, u, h1, h2, hv, hu⟩, fun z H' ⟨T, p, q, e1, n, e2, q1, q2⟩ => ?_⟩
    have z1 := q1 vs h1
    have z2 := q2 ws h2
    rw [hv] at z1
    rw [hu] at z2
    cases z1
    cases z2
    subst e1 e2 g3
    exact ⟨.inr ⟨T, _, n, rfl⟩, pair_rep n rv ru⟩
  | @zipC a b j ws es h h2 r2 =>
    replace hg : (match S[j]? with
      | some xs => some (zipL xs es)
      | none => none) = some xs := hg
    cases hS : S[j]? with
    | none => rw [hS] at hg; cases hg
    | some ds =>
      rw [hS] at hg
      cases hg
      obtain ⟨vs, hl, z, r1⟩ := w.cell j a ds h hS
      obtain ⟨x, y, g1, g2, g3⟩ := zipL_get hd
      obtain ⟨v, hv, rv⟩ := r1.get g1
      obtain ⟨u, hu, ru⟩ := r2.get g2
      refine ⟨⟨vs, ws, v, u, .inl (.inl hl), h2.sq, hv, hu⟩, fun z H' ⟨T, p, q, e1, n, e2, q1, q2⟩ => ?_⟩
      have z1 := q1 vs (.inl (.inl hl))
      have z2 := q2 ws h2.sq
      rw [hv] at z1
      rw [hu] at z2
      cases z1
      cases z2
      subst e1 e2 g3
      exact ⟨.inr ⟨T, _, n, rfl⟩, pair_rep n rv ru⟩
  | @enum a vs ds h r =>
    cases hg
    obtain ⟨x, g1, g2⟩ := enumL_get hd
    obtain ⟨v, hv, rv⟩ := r.get g1
    refine ⟨⟨vs, v, h.sq, hv⟩, fun z H' ⟨T, p, e1, n, e2, q1⟩ => ?_⟩
    have z1 := q1 vs h.sq
    rw [hv] at z1
    cases z1
    subst e1 e2 g2
    refine ⟨.inr ⟨T, _, n, rfl⟩, ?_⟩
    have e : (0 : Int) + (i : Nat) = (i : Nat) := by omega
    rw [e]
    exact pair_rep n (.int _) rv
  | @enumT a vs ds h r =>
    cases hg
    obtain ⟨x, g1, g2⟩ := enumL_get hd
    obtain ⟨v, hv, rv⟩ := r.get g1
    refine ⟨⟨vs, v, h, hv⟩, fun z H' ⟨T, p, e1, n, e2, q1⟩ => ?_⟩
    have z1 := q1 vs h
    rw [hv] at z1
    cases z1
    subst e1 e2 g2
    refine ⟨.inr ⟨T, _, n, rfl⟩, ?_⟩
    have e : (0 : Int) + (i : Nat) = (i : Nat) := by omega
    rw [e]
    exact pair_rep n (.int _) rv
theorem Wk.stop (h : Wk Y H as J g) (w : Wd Y H as S) {xs : List D} {i : Nat} (hg : g S = some xs) (hi : xs.length ≤ i) : J.stop i H := by
  cases h with
  | @tup a vs ds h r =>
    cases hg
    exact ⟨vs, h, by rw [← r.length]; exact hi⟩
  | @lst a vs ds h r =>
    cases hg
    exact ⟨vs, h.sq, by rw [← r.length]; exact hi⟩
  | @cel a j h =>
    obtain ⟨vs, hl, z, r⟩ := w.cell j a xs h hg
    exact ⟨vs, .inl (.inl hl), by rw [← r.length]; exact hi⟩
  | rng lo n =>
    cases hg
    rw [rngL_len] at hi
    exact hi
  | @zip a b vs ws ds es h1 h2 r1 r2 =>
    cases hg
    rw [zipL_len, r1.length, r2.length] at hi
    exact ⟨vs, ws, h1.sq, h2.sq, by omega⟩
  | @zipT a b vs ws ds es h1 h2 r1 r2 =>
    cases hg
    rw [zipL_len, r1.length, r2.length] at hi
    exact ⟨vs, ws, h1, h2, by omega⟩
  | @zipC a b j ws es h h2 r2 =>
    replace hg : (match S[j]? with
      | some xs => some (zipL xs es)
      | none => none) = some xs := hg
    cases hS : S[j]? with
    | none => rw [hS] at hg; cases hg
    | some ds =>
      rw [hS] at hg
      cases hg
      obtain ⟨vs, hl, z, r1⟩ := w.cell j a ds h hS
      rw [zipL_len, r1.length, r2.length] at hi
      exact ⟨vs, ws, .inl (.inl hl), h2.sq, by omega⟩
  | @enum a vs ds h r =>
    cases hg
    rw [enumL_len, r.length] at hi
    exact ⟨vs, h.sq, hi⟩
  | @enumT a vs ds h r =>
    cases hg
    rw [enumL_len, r.length] at hi
    exact ⟨vs, h, hi⟩
end

/-! ### readings -/
def zI (Y : Fx) (R : It → Hp → Prop) : D → Hp → Ad → Prop := fun d H as => ∃ g, gOf d = some g ∧ ∀ J, Wk Y H as J g → R J H
def tI (Y : Fx) (W : WX) (m : Env → Sto → R D) : TI := fun σ H R => ∃ ρ as S, EnvR Y H as ρ σ ∧ Wd Y H as S ∧ Post Y H as σ W (m ρ S) (zI Y R)
section
variable {X : Cx} {Y : Fx} {B : Tb} {N : List Str} {sc : Scope} {fnb : Str → Bool} {k : Nat} {W : WX} {P : PC} {tg : PySem.Expr}
/-- over a list or a tuple -/
def iAny (K : PySem.W.Frag) (tl : TE) : TI := fun σ H R => tl σ H fun x H1 => ∃ a, x = .ref a ∧ (((∃ xs, SqL K H1 a xs) ∧ R (Itl K a) H1) ∨ ((∃ xs, SqT K H1 a xs) ∧ R (Itt K a) H1))
theorem pi_any {l : PySem.Expr} {tl : TE} (hl : PE X l tl) : PI X tg l (iAny X.K tl) := by
  refine ⟨fun pins s σ H R I h => ?_⟩
  refine thn (hl.run pins s σ H _ I h) fun v s1 ⟨x, H1, I1, r1, q1⟩ => ?_
  obtain ⟨a, e, q⟩ := q1
  subst e
  cases r1
  rcases q with ⟨⟨xs, hq⟩, q⟩ | ⟨⟨xs, hq⟩, q⟩
  · obtain ⟨its, rv, p, hz⟩ := I1.list hq
    refine wpAny_pyIter_list p.isList ?_
    refine ⟨s1.heap.objs.size, [s1.heap.objs.size], _, _, H1, rfl, I1.kept (t' := s1.toks) fun b o e => Heap.get?_push_of_some _ e, turn_list a _, ⟨_, Heap.get?_push_size _ rfl, rfl, rfl⟩, fun b hb => ?_, q⟩
    have e : b = s1.heap.objs.size := by simpa using hb
    subst e
    exact I1.fpOk (Nat.le_refl _) (I1.hok.fresh (Nat.le_refl _))
  · obtain ⟨its, rv, p, hz⟩ := I1.tuple hq
    refine wpAny_pyIter_tuple (show s1.heap.IsTuple a its.toArray from p) ?_
    refine ⟨s1.heap.objs.size, [s1.heap.objs.size], _, _, H1, rfl, I1.kept (t' := s1.toks) fun b o e => Heap.get?_push_of_some _ e, turn_tuple a _, ⟨_, Heap.get?_push_size _ rfl, rfl, rfl⟩, fun b hb => ?_, q⟩
    have e : b = s1.heap.objs.size := by simpa using hb
    subst e
    exact I1.fpOk (Nat.le_refl _) (I1.hok.fresh (Nat.le_refl _))
/-- now, at once -/
theorem nowI {H : Hp} {as : Ad} {S : Sto} {σ : L2.St} {R : It → Hp → Prop} {d : D} {J : It} {g : Sto → Option (List D)} (w : Wd Y H as S) (h : Post Y H as σ W (.ok d S) (zI Y R)) (hg : gOf d = some g) (q : Wk Y H as J g) : R J H := by
  obtain ⟨g', e, r⟩ := h H as Ext.refl w
  rw [hg] at e
  cases e
  exact r J q
theorem i_seq (c : Cg X Y B N sc fnb k) {a : RE} {e : PySem.Expr} (ha : PE X e (tE Y W (den a P))) : PI X tg e (tI Y W (den (.seq a) P)) := by
  refine (pi_any ha).mono fun σ H Q ⟨ρ, as, S, hρ, w, h⟩ => ?_
  unfold den at h
  refine post_bind (m := den a P) hρ w h fun d v S1 H1 as1 e1 w1 hρ1 r1 h1 => ?_
  cases r1 with
  | tup h2 z r => exact ⟨_, rfl, .inr ⟨⟨_, by rw [c.K]; exact h2⟩, by rw [c.K]; exact nowI w1 h1 rfl (.tup h2 r)⟩⟩
  | lst h2 n z r => exact ⟨_, rfl, .inl ⟨⟨_, .inl (.inl h2)⟩, by rw [c.K]; exact nowI w1 h1 rfl (.lst (.inr ⟨h2, n⟩) r)⟩⟩
  | rl h2 z r => exact ⟨_, rfl, .inl ⟨⟨_, by rw [c.K]; exact h2.sq⟩, by rw [c.K]; exact nowI w1 h1 rfl (.lst h2 r)⟩⟩
  | @cel i a h2 =>
    obtain ⟨vs, hv⟩ := w1.mem (.inl (List.mem_of_getElem? h2))
    exact ⟨_, rfl, .inl ⟨⟨_, .inl (.inl hv)⟩, by rw [c.K]; exact nowI w1 h1 rfl (.cel h2)⟩⟩
  | _ => exact h1.elim
theorem smallI_ok {i : Int} (h : smallI i = true) : -(2 ^ 62) ≤ i ∧ i < 2 ^ 62 := by
  unfold smallI at h
  rw [Bool.and_eq_true] at h
  have h1 := of_decide_eq_true h.1
  have h2 := of_decide_eq_true h.2
  constructor <;> omega
theorem i_rng (c : Cg X Y B N sc fnb k) {l : RE} {x : Str} {q p : Pos} {es : List PySem.Expr} (h : (eqS x "range" && (glB sc x && (memS x B.free && (plainL es && (match es with
      | [_] => true
      | [_, _] => true
      | _ => false))))) = true) (hc : chk B N l sc (.L es) = true) (hl : PA X es (tAs Y W (den l P))) : PI X tg (.Call (.Name x q) es [] p) (tI Y W (den (.rng l) P)) := by
  rw [Bool.and_eq_true, Bool.and_eq_true, Bool.and_eq_true, Bool.and_eq_true] at h
  obtain ⟨h1, h2, h3, h4, h5⟩ := h
  have ex : x = "range" := of_decide_eq_true h1
  subst ex
  have mf := c.tb.free _ (memS_ok h3)
  have hg := c.gl h2
  split at h5
  · rename_i e
    rw [plainL, Bool.and_eq_true] at h4
    have hs := star_cons h4.1 [] X.env
    refine (pi_range1 hg mf hl hs).mono fun σ H Q ⟨ρ, as, S, hρ, w, h⟩ => ?_
    unfold den at h
    refine args_len hc (f := fun xs s => rngD xs s) hρ w h fun ds vs S1 H1 as1 hlen ex w1 hρ1 r1 h1 => ?_
    unfold rngD at h1
    split at h1
    · rename_i n
      cases r1 with
      | cons r rr =>
        cases rr
        cases r
        split at h1
        · rename_i hs
          obtain ⟨b1, b2⟩ := smallI_ok hs
          exact ⟨n, rfl, b1, b2, nowI w1 h1 rfl (.rng 0 n.toNat)⟩
        · exact h1.elim
    · exact absurd hlen (by simp)
    · exact h1.elim
  · rename_i e e2
    rw [plainL, plainL, Bool.and_eq_true, Bool.and_eq_true] at h4
    have hs2 := star_cons h4.2.1 [] X.env
    have hs := (star_cons h4.1 [e2] X.env).trans (by rw [hs2])
    refine (pi_range2 hg mf hl hs hs2).mono fun σ H Q ⟨ρ, as, S, hρ, w, h⟩ => ?_
    unfold den at h
    refine args_len hc (f := fun xs s => rngD xs s) hρ w h fun ds vs S1 H1 as1 hlen ex w1 hρ1 r1 h1 => ?_
    unfold rngD at h1
    split at h1
    · exact absurd hlen (by simp)
    · rename_i a b
      cases r1 with
      | cons r rr =>
        cases rr with
        | cons r' rr =>
          cases rr
          cases r
          cases r'
          split at h1
          · rename_i hs
            rw [Bool.and_eq_true] at hs
            obtain ⟨b1, b2⟩ := smallI_ok hs.1
            obtain ⟨b3, b4⟩ := smallI_ok hs.2
            exact ⟨a, b, rfl, ⟨b1, b2, b3, b4⟩, nowI w1 h1 rfl (.rng a (b - a).toNat)⟩
          · exact h1.elim
    · exact h1.elim
  · cases h5
theorem lsF_rep {H : Hp} {as : Ad} {d : D} {v : V} {xs : List D} (r : Rep Y H as d v) (h : lsF d = some xs) : ∃ a vs, v = .ref a ∧ FxL Y.K H as a vs ∧ RepL Y H as xs vs := by
  cases r with
  | lst h2 n z r =>
    cases h
    exact ⟨_, _, rfl, .inr ⟨h2, n⟩, r⟩
  | rl h2 z r =>
    cases h
    exact ⟨_, _, rfl, h2, r⟩
  | _ => cases h
theorem isTup_ok {e : PySem.Expr} (h : isTupE e = true) : ∃ es n p, e = .Tuple es n p := by
  cases e <;> first | exact ⟨_, _, _, rfl⟩ | cases h
theorem i_zip (c : Cg X Y B N sc fnb k) {a b : RE} {x : Str} {q p : Pos} {e e2 : PySem.Expr} (h : (isTupE tg && (eqS x "zip" && (glB sc x && (memS x B.free && (plainE e && plainE e2))))) = true)
    (ha : PE X e (tE Y W (den a P))) (hb : PE X e2 (tE Y W (den b P))) : PI X tg (.Call (.Name x q) [e, e2] [] p) (tI Y W (den (.zip a b) P)) := by
  rw [Bool.and_eq_true, Bool.and_eq_true, Bool.and_eq_true, Bool.and_eq_true, Bool.and_eq_true] at h
  obtain ⟨h0, h1, h2, h3, h4, h5⟩ := h
  obtain ⟨elts, kk, tpos, rfl⟩ := isTup_ok h0
  have ex : x = "zip" := of_decide_eq_true h1
  subst ex
  have mf := c.tb.free _ (memS_ok h3)
  have hg := c.gl h2
  have s2 := star_cons h5 [] X.env
  have s1 := star_cons h4 [e2] X.env
  have hpl : (backTo p (starEach [e2] X.env)).any (·.1) = false := star_none (by rw [plainL, plainL, h5]; rfl)
  refine (RZ.pi_zipA hg mf (pa_cons ha (pa_cons hb pa_nil s2) s1) s1 hpl).mono fun σ H Q ⟨ρ, as, S, hρ, w, h⟩ => ?_
  unfold den at h
  refine post_bind (m := den a P) hρ w h fun d v S1 H1 as1 e1 w1 hρ1 r1 h1 => ?_
  refine post_bind (m := den b P) hρ1 w1 h1 fun d2 v2 S2 H2 as2 e2 w2 hρ2 r2 h2 => ?_
  replace r1 := r1.ext e2
  unfold zipD at h2
  split at h2
  · cases r1 with
    | tup t1 z1 q1 =>
      cases r2 with
      | tup t2 z2 q2 =>
        rw [c.K]
        exact ⟨_, _, _, _, rfl, .inr ⟨t1, t2, nowI w2 h2 rfl (.zipT t1 t2 q1 q2)⟩⟩
  · split at h2
    · rename_i g2
      cases r1 with
      | @cel i a1 hc =>
        obtain ⟨a2, vs2, rfl, l2, q2⟩ := lsF_rep r2 g2
        obtain ⟨vs1, hv⟩ := w2.mem (.inl (List.mem_of_getElem? hc))
        rw [c.K]
        exact ⟨_, _, _, _, rfl, .inl ⟨.inl (.inl hv), l2.sq, nowI w2 h2 rfl (.zipC hc l2 q2)⟩⟩
    · exact h2.elim
  · split at h2
    · rename_i g1 g2
      obtain ⟨a1, vs1, rfl, l1, q1⟩ := lsF_rep r1 g1
      obtain ⟨a2, vs2, rfl, l2, q2⟩ := lsF_rep r2 g2
      rw [c.K]
      exact ⟨_, _, _, _, rfl, .inl ⟨l1.sq, l2.sq, nowI w2 h2 rfl (.zip l1 l2 q1 q2)⟩⟩
    · exact h2.elim
theorem i_enum (c : Cg X Y B N sc fnb k) {a : RE} {x : Str} {q p : Pos} {e : PySem.Expr} (h : (isTupE tg && (eqS x "enumerate" && (glB sc x && (memS x B.free && plainE e)))) = true)
    (ha : PE X e (tE Y W (den a P))) : PI X tg (.Call (.Name x q) [e] [] p) (tI Y W (den (.enum a) P)) := by
  rw [Bool.and_eq_true, Bool.and_eq_true, Bool.and_eq_true, Bool.and_eq_true] at h
  obtain ⟨h0, h1, h2, h3, h4⟩ := h
  obtain ⟨elts, kk, tpos, rfl⟩ := isTup_ok h0
  have ex : x = "enumerate" := of_decide_eq_true h1
  subst ex
  have mf := c.tb.free _ (memS_ok h3)
  have hg := c.gl h2
  have s1 := star_cons h4 [] X.env
  refine (pi_enumA hg mf (pa_cons ha pa_nil s1) s1).mono fun σ H Q ⟨ρ, as, S, hρ, w, h⟩ => ?_
  unfold den at h
  refine post_bind (m := den a P) hρ w h fun d v S1 H1 as1 e1 w1 hρ1 r1 h1 => ?_
  unfold enumD at h1
  split at h1
  · cases r1 with
    | tup t1 z1 q1 =>
      rw [c.K]
      exact ⟨_, _, rfl, .inr ⟨t1, nowI w1 h1 rfl (.enumT t1 q1)⟩⟩
  · split at h1
    · rename_i g1
      obtain ⟨a1, vs1, rfl, l1, q1⟩ := lsF_rep r1 g1
      rw [c.K]
      exact ⟨_, _, rfl, .inl ⟨l1.sq, nowI w1 h1 rfl (.enum l1 q1)⟩⟩
    · exact h1.elim

/-! ### targets -/
/-- what is stored: nothing off the target's names -/
def Off (tg : Tg) (σ σ' : L2.St) : Prop := σ'.length = σ.length ∧ ∀ own, tgIn tg own = true → ∀ j, j ∉ own → σ'[j]? = σ[j]?
def gT (Y : Fx) (tg : Tg) : TG := fun v σ H Q => ∃ ρ as S d, EnvR Y H as ρ σ ∧ Wd Y H as S ∧ Rep Y H as d v ∧ ∃ ρ', setT S tg d ρ = some ρ' ∧ ∀ σ', EnvR Y H as ρ' σ' → Off tg σ σ' → Q σ' H
def gTs (Y : Fx) (tg : Tg) : TGs := fun vs σ H Q => ∃ ρ as S ds, EnvR Y H as ρ σ ∧ Wd Y H as S ∧ RepL Y H as ds vs ∧ ∃ ρ', setT.setTs S tg ds ρ = some ρ' ∧ ∀ σ', EnvR Y H as ρ' σ' → Off tg σ σ' → Q σ' H
theorem each_len : ∀ {es : List PySem.Expr} {env : PySem.Env}, plainL es = true → (assignEach es env).length = es.length ∧ (assignEach es env).findIdx? (·.1) = none ∧ (assignEach es env).map (·.2) = es.map fun e => assign e env
  | [], _, _ => ⟨rfl, rfl, rfl⟩
  | e :: es, env, h => by
    rw [plainL, Bool.and_eq_true] at h
    obtain ⟨h1, h2, h3⟩ := each_len (es := es) (env := env) h.2
    have e1 : assignEach (e :: es) env = (false, assign e env) :: assignEach es env := by
      cases e <;> first | rfl | exact absurd (show false = true from h.1) Bool.false_ne_true
    rw [e1]
    refine ⟨congrArg Nat.succ h1, ?_, congrArg (_ :: ·) h3⟩
    rw [List.findIdx?_cons]
    show (if false = true then _ else _) = none
    rw [if_neg Bool.false_ne_true, h2]
    rfl
/-- a tuple or a list of that length -/
def gSeq (K : PySem.W.Frag) (n : Nat) (t : TGs) : TG := fun v σ H Q => ∃ a xs, v = .ref a ∧ (SqT K H a xs ∨ SqL K H a xs) ∧ xs.length = n ∧ t xs σ H Q
theorem pg_seq {es : List PySem.Expr} {k : Nat} {t : TGs} {n : Nat} {pos : Pos} (hc : X.calm = true) (h : PGs X es t)
    (hn : (assignEach es X.env).length = n) (hst : (assignEach es X.env).findIdx? (·.1) = none) : PG X (.Tuple es k pos) (gSeq X.K n t) := by
  refine ⟨fun pins s σ H v u Q I r ⟨a, xs, e, q, hl, hw⟩ => ?_⟩
  rcases q with q | q
  · exact (pg_tup hc h hn hst).run pins s σ H v u Q I r ⟨a, xs, e, q, hl, hw⟩
  · exact (pg_lst hc h hn hst).run pins s σ H v u Q I r ⟨a, xs, e, q, hl, hw⟩
theorem seqOf_sq {H : Hp} {as : Ad} {S : Sto} {d : D} {v : V} {xs : List D} (w : Wd Y H as S) (r : Rep Y H as d v) (h : seqOf S d = some xs) : ∃ a vs, v = .ref a ∧ (SqT Y.K H a vs ∨ SqL Y.K H a vs) ∧ RepL Y H as xs vs := by
  cases r with
  | tup h2 z r =>
    cases h
    exact ⟨_, _, rfl, .inl h2, r⟩
  | lst h2 n z r =>
    cases h
    exact ⟨_, _, rfl, .inr (.inl (.inl h2)), r⟩
  | rl h2 z r =>
    cases h
    exact ⟨_, _, rfl, .inr h2.sq, r⟩
  | @cel i a h2 =>
    obtain ⟨vs, hl, z, r⟩ := w.cell i a xs h2 h
    exact ⟨_, _, rfl, .inr (.inl (.inl hl)), r⟩
  | _ => cases h
theorem setTs_len {S : Sto} : ∀ {l : Tg} {es : List PySem.Expr} {ds : List D} {ρ ρ' : Env} {fnb : Str → Bool}, chkT N sc fnb l (.L es) = true → setT.setTs S l ds ρ = some ρ' → ds.length = es.length := by
  intro l
  induction l with
  | nil =>
    intro es ds ρ ρ' fnb h e
    cases es with
    | nil =>
      cases ds with
      | nil => rfl
      | cons d ds => cases (show none = some ρ' from e)
    | cons _ _ => cases (show false = true from h)
  | cons a r iha ihr =>
    intro es ds ρ ρ' fnb h e
    cases es with
    | nil => cases (show false = true from h)
    | cons e1 es =>
      have h' : (chkT N sc fnb a (.E e1) && chkT N sc fnb r (.L es)) = true := h
      rw [Bool.and_eq_true] at h'
      cases ds with
      | nil => cases (show none = some ρ' from e)
      | cons d ds =>
        have e' : (match setT S a d ρ with | some ρ' => setT.setTs S r ds ρ' | none => none) = some ρ' := e
        cases q : setT S a d ρ with
        | none => rw [q] at e'; cases e'
        | some ρ1 =>
          rw [q] at e'
          rw [List.length_cons, List.length_cons, ihr h'.2 e']
  | name i => intro es ds ρ ρ' fnb h e; cases es <;> cases (show false = true from h)
  | tup l ih => intro es ds ρ ρ' fnb h e; cases es <;> cases (show false = true from h)
theorem tgs (hN : X.N = N) (nd : N.Nodup) (hsc : X.env.scope = sc) (hf : X.fn = fnb) (hK : X.K = Y.K) (hcalm : X.calm = true) : ∀ (tg : Tg), (∀ e, chkT N sc fnb tg (.E e) = true → PG X e (gT Y tg)) ∧ (∀ es, chkT N sc fnb tg (.L es) = true → plainL es = true → PGs X es (gTs Y tg)) := by
  intro tg
  induction tg with
  | name i =>
    refine ⟨fun e h => ?_, fun es h => by cases es <;> cases (show false = true from h)⟩
    cases e with
    | Name x p =>
      have h' : (decide (N[i]? = some x) && (locB sc x && (fnb x || (match sc.names.lookup x with | some .local => true | _ => false)))) = true := h
      rw [Bool.and_eq_true, Bool.and_eq_true, Bool.or_eq_true] at h'
      obtain ⟨h1, h2, h3⟩ := h'
      have hfn : X.fn x = true ∨ X.env.scope.names.lookup x = some .local := by
        rcases h3 with h3 | h3
        · exact .inl (by rw [hf]; exact h3)
        · refine .inr ?_
          rw [hsc]
          split at h3 <;> first | assumption | cases h3
      have pg := pg_name (X := X) (pos := p) (i := i) (x := x) (by rw [hN]; exact nd) (by rw [hN]; exact of_decide_eq_true h1) (by rw [hsc]; exact locB_ok h2) hfn
      refine ⟨fun pins s σ H v u Q I r ⟨ρ, as, S, d, hρ, w, rd, ρ', e, q⟩ => pg.run pins s σ H v u Q I r ?_⟩
      cases e
      refine q _ (hρ.set rd i) ⟨List.length_set .., fun own ho j hj => ?_⟩
      have hi : i ∈ own := List.contains_iff_mem.mp ho
      exact List.getElem?_set_ne fun (e : i = j) => hj (by rw [← e]; exact hi)
    | _ => exact absurd (show false = true from h) Bool.false_ne_true
  | tup l ih =>
    refine ⟨fun e h => ?_, fun es h => by cases es <;> cases (show false = true from h)⟩
    cases e with
    | Tuple es n p =>
      have h' : (plainL es && chkT N sc fnb l (.L es)) = true := h
      rw [Bool.and_eq_true] at h'
      obtain ⟨l1, l2, l3⟩ := each_len (env := X.env) h'.1
      have pg := pg_seq (pos := p) (k := n) hcalm (ih.2 es h'.2 h'.1) l1 l2
      refine ⟨fun pins s σ H v u Q I r ⟨ρ, as, S, d, hρ, w, rd, ρ', e, q⟩ => pg.run pins s σ H v u Q I r ?_⟩
      unfold setT at e
      cases e1 : seqOf S d with
      | none => rw [e1] at e; cases e
      | some xs =>
        rw [e1] at e
        replace e : setT.setTs S l xs ρ = some ρ' := e
        obtain ⟨a, vs, rfl, hq, rx⟩ := seqOf_sq w rd e1
        exact ⟨a, vs, rfl, by rw [hK]; exact hq, by rw [← rx.length]; exact setTs_len h'.2 e, ρ, as, S, xs, hρ, w, rx, ρ', e, q⟩
    | _ => exact absurd (show false = true from h) Bool.false_ne_true
  | nil =>
    refine ⟨fun e h => by cases e <;> (cases (show false = true from h)), fun es h hp => ?_⟩
    cases es with
    | cons _ _ => cases (show false = true from h)
    | nil =>
      refine ⟨fun pins s σ H vs us Q I r hw => pgs_nil.run pins s σ H vs us Q I r ?_⟩
      obtain ⟨ρ, as, S, ds, hρ, w, rd, ρ', e, q⟩ := hw
      cases rd with
      | nil =>
        cases e
        exact ⟨rfl, q σ hρ ⟨rfl, fun _ _ _ _ => rfl⟩⟩
      | cons _ _ => cases e
  | cons a r iha ihr =>
    refine ⟨fun e h => by cases e <;> (cases (show false = true from h)), fun es h hp => ?_⟩
    cases es with
    | nil => cases (show false = true from h)
    | cons e1 es =>
      have h' : (chkT N sc fnb a (.E e1) && chkT N sc fnb r (.L es)) = true := h
      rw [Bool.and_eq_true] at h'
      have hp' := hp
      rw [plainL, Bool.and_eq_true] at hp'
      have hs : (assignEach (e1 :: es) X.env).map (·.2) = assign e1 X.env :: (assignEach es X.env).map (·.2) := by
        rw [(each_len hp).2.2, (each_len hp'.2).2.2]
        rfl
      refine ⟨fun pins s σ H vs us Q I rr hw => (pgs_cons (iha.1 e1 h'.1) (ihr.2 es h'.2 hp'.2) hs).run pins s σ H vs us Q I rr ?_⟩
      obtain ⟨ρ, as, S, ds, hρ, w, rd, ρ', e, q⟩ := hw
      cases rd with
      | nil => cases e
      | @cons d v ds vs r1 r2 =>
        have e' : (match setT S a d ρ with | some ρ' => setT.setTs S r ds ρ' | none => none) = some ρ' := e
        cases e1 : setT S a d ρ with
        | none => rw [e1] at e'; cases e'
        | some ρ1 =>
          rw [e1] at e'
          refine ⟨v, vs, rfl, ρ, as, S, d, hρ, w, r1, ρ1, e1, fun σ1 hρ1 o1 => ⟨ρ1, as, S, ds, hρ1, w, r2, ρ', e', fun σ2 hρ2 o2 => q σ2 hρ2 ⟨o2.1.trans o1.1, fun own ho j hj => ?_⟩⟩⟩
          have ho' : (tgIn a own && tgIn r own) = true := ho
          rw [Bool.and_eq_true] at ho'
          exact (o2.2 own ho'.2 j hj).trans (o1.2 own ho'.1 j hj)
end
end Px
end

section
set_option Elab.async false
set_option linter.all false
set_option maxRecDepth 100000
set_option maxHeartbeats 1000000
/-! Px: list comprehensions. -/
namespace Px
open PySem PySem.Spec PyProof.Rows L2

theorem wipe_get {σ : L2.St} : ∀ {vs : List Nat} {i : Nat}, i ∈ vs → (L2.wipe σ vs)[i]? = if i < σ.length then some none else none
  | v :: vs, i, h => by
    show ((L2.wipe σ vs).set v none)[i]? = _
    by_cases e : v = i
    · subst e
      by_cases hl : v < σ.length
      · rw [List.getElem?_set_self (by rw [wipe_length]; exact hl), if_pos hl]
      · rw [List.getElem?_eq_none (by rw [List.length_set, wipe_length]; omega), if_neg hl]
    · rw [List.getElem?_set_ne e]
      rcases List.mem_cons.mp h with h | h
      · exact absurd h.symm e
      · exact wipe_get h
theorem wipe_off {σ : L2.St} : ∀ {vs : List Nat} {i : Nat}, i ∉ vs → (L2.wipe σ vs)[i]? = σ[i]?
  | [], i, _ => rfl
  | v :: vs, i, h => by
    show ((L2.wipe σ vs).set v none)[i]? = _
    rw [List.getElem?_set_ne fun (e : v = i) => h (by rw [← e]; exact List.mem_cons_self)]
    exact wipe_off fun m => h (List.mem_cons_of_mem _ m)
theorem wipe_same {σ σ2 : L2.St} {tg : Tg} {own : List Nat} (o : Off tg (L2.wipe σ own) σ2) (h : tgIn tg own = true) : L2.wipe σ2 own = L2.wipe σ own := by
  have hl : σ2.length = σ.length := o.1.trans (wipe_length σ own)
  apply List.ext_getElem?
  intro i
  by_cases m : i ∈ own
  · rw [wipe_get m, wipe_get m, hl]
  · rw [wipe_off m, o.2 own h i m]
section
variable {X : Cx} {Y : Fx} {B : Tb} {N : List Str} {sc : Scope} {fnb : Str → Bool} {k : Nat} {W : WX} {P : PC}

theorem compL_M {f : D → Sto → R (Option D)} {xs : List D} : ∀ (m i : Nat) (acc : List D) (s : Sto), i + m = xs.length → compL f (xs.drop i) acc s = compM f (fun _ => some xs) m i acc s
  | 0, i, acc, s, h => by
    rw [List.drop_eq_nil_of_le (by omega)]
    show R.ok acc s = if xs.length ≤ i then R.ok acc s else .bad
    rw [if_pos (by omega)]
  | m + 1, i, acc, s, h => by
    have hi : i < xs.length := by omega
    rw [List.drop_eq_getElem_cons hi]
    show (f xs[i] s).calm _ = match xs[i]? with
      | some x => (f x s).calm _
      | none => .bad
    rw [List.getElem?_eq_getElem hi]
    show (f xs[i] s).calm _ = (f xs[i] s).calm _
    congr 1
    funext o s'
    cases o with
    | some y => exact compL_M m (i + 1) (acc ++ [y]) s' (by omega)
    | none => exact compL_M m (i + 1) acc s' (by omega)
/-- the walk of a comprehension -/
theorem comp_run {mu : Bool} {elt cond : RE} {own : List Nat} {tg : Tg} {ρ : Env} {σ : L2.St} {H1 : Hp} {as1 : Ad} {S1 : Sto} {J : It} {g : Sto → Option (List D)} {n : Nat} {Q : VK} (hown : tgIn tg own = true) (hρ : EnvR Y H1 as1 ρ σ) (w : Wd Y H1 as1 S1) (wk : Wk Y H1 as1 J g) (hn : fit n = true)
    (h : Post Y H1 as1 σ W ((compM (itemZ (den cond P) (den elt P) own tg ρ) g n 0 [] S1).bind fun ys s => allocL mu ys s) (zE Y Q)) :
    ∀ Da, H1 Da = none → ∃ Wm : Nat → Nat → Hp → Prop, (∃ m, Wm 0 m (upd H1 Da (.lst []))) ∧ ∀ i m H, Wm i m H →
      (J.stop i H ∧ Q (.ref Da) H) ∨ (J.go i H ∧ ∃ Nx : Hp → Prop, (∀ H', Nx H' → ∃ m', m' < m ∧ Wm (i + 1) m' H') ∧ ∀ x H', J.yld i H x H' → gT Y tg x (L2.wipe σ own) H' fun σ2 H2 => L2.wipe σ2 own = L2.wipe σ own ∧ tT Y (fun _ _ _ _ => False) (den cond P) σ2 H2 fun b H3 =>
        if b = true then tE Y (fun _ _ _ _ => False) (den elt P) σ2 H3 fun y H4 => ∃ acc, H4 Da = some (.lst acc) ∧ acc.length < sizeLine ∧ Nx (upd H4 Da (.lst (acc ++ [y]))) else Nx H3) := by
  intro Da nD
  let Wm : Nat → Nat → Hp → Prop := fun i m H => ∃ (as : Ad) (S : Sto) (acc : List D) (vs : List V), i + m = n ∧ EnvR Y H (as.opn Da) ρ σ ∧ Wd Y H (as.opn Da) S ∧ Wk Y H (as.opn Da) J g ∧ Ext H1 as1 H as ∧ H Da = some (.lst vs) ∧ RepL Y H (as.opn Da) acc vs ∧ vs.length ≤ i ∧
    Post Y H1 as1 σ W ((compM (itemZ (den cond P) (den elt P) own tg ρ) g m i acc S).bind fun ys s => allocL mu ys s) (zE Y Q)
  refine ⟨Wm, ⟨n, as1, S1, [], [], by omega, hρ.open nD, w.open nD, wk.open nD, Ext.new nD, upd_same, .nil, Nat.le_refl _, h⟩, ?_⟩
  rintro i m H ⟨as, S, acc, vs, him, hρ2, w2, wk2, e2, hD, ra, hlen, h2⟩
  have hsz : n ≤ sizeLine := fit_le hn
  cases m with
  | zero =>
    have h3 : Post Y H1 as1 σ W ((match g S with
      | some xs => if xs.length ≤ i then R.ok acc S else .bad
      | none => .bad).bind fun ys s => allocL mu ys s) (zE Y Q) := h2
    cases hg : g S with
    | none => rw [hg] at h3; exact h3.elim
    | some xs =>
      rw [hg] at h3
      replace h3 : Post Y H1 as1 σ W ((if xs.length ≤ i then R.ok acc S else .bad).bind fun ys s => allocL mu ys s) (zE Y Q) := h3
      by_cases hx : xs.length ≤ i
      · rw [if_pos hx] at h3
        replace h3 : Post Y H1 as1 σ W (allocL mu acc S) (zE Y Q) := h3
        refine .inl ⟨wk2.stop w2 hg hx, ?_⟩
        have hz : vs.length ≤ sizeLine := by omega
        cases mu with
        | false =>
          have w3 := w2.shut
          have nm : Da ∉ as := fun m => by
            have o1 := w2.op Da List.mem_cons_self
            rcases (show Da ∈ as.c ∨ Da ∈ as.o from m) with m | m
            · exact o1.1 m
            · exact (List.nodup_cons.mp w2.od).1 m
          exact h3 H as e2 w3 _ (.lst hD nm hz ra.close)
        | true =>
          refine h3 H (as.add Da) (e2.addc nD) (w2.shutM hD hz ra) _ (.cel ?_)
          show (as.c ++ [Da])[S.length]? = some Da
          have wl : as.c.length = S.length := w2.len
          rw [← wl]
          simp
      · rw [if_neg hx] at h3
        exact h3.elim
  | succ m =>
    have h3 : Post Y H1 as1 σ W ((match g S with
      | some xs => match xs[i]? with
        | some x => (itemZ (den cond P) (den elt P) own tg ρ x S).calm fun o s' => match o with
          | some y => compM (itemZ (den cond P) (den elt P) own tg ρ) g m (i + 1) (acc ++ [y]) s'
          | none => compM (itemZ (den cond P) (den elt P) own tg ρ) g m (i + 1) acc s'
        | none => .bad
      | none => .bad).bind fun ys s => allocL mu ys s) (zE Y Q) := h2
    cases hg : g S with
    | none => rw [hg] at h3; exact h3.elim
    | some xs =>
      rw [hg] at h3
      replace h3 : Post Y H1 as1 σ W ((match xs[i]? with
        | some x => (itemZ (den cond P) (den elt P) own tg ρ x S).calm fun o s' => match o with
          | some y => compM (itemZ (den cond P) (den elt P) own tg ρ) g m (i + 1) (acc ++ [y]) s'
          | none => compM (itemZ (den cond P) (den elt P) own tg ρ) g m (i + 1) acc s'
        | none => .bad).bind fun ys s => allocL mu ys s) (zE Y Q) := h3
      cases hx : xs[i]? with
      | none => rw [hx] at h3; exact h3.elim
      | some x =>
        rw [hx] at h3
        replace h3 : Post Y H1 as1 σ W (((itemZ (den cond P) (den elt P) own tg ρ x S).calm fun o s' => match o with
          | some y => compM (itemZ (den cond P) (den elt P) own tg ρ) g m (i + 1) (acc ++ [y]) s'
          | none => compM (itemZ (den cond P) (den elt P) own tg ρ) g m (i + 1) acc s').bind fun ys s => allocL mu ys s) (zE Y Q) := h3
        obtain ⟨hgo, hy⟩ := wk2.step w2 hg hx
        refine .inr ⟨hgo, Wm (i + 1) m, fun H' nx => ⟨m, Nat.lt_succ_self _, nx⟩, fun v H' yl => ?_⟩
        obtain ⟨st, rx⟩ := hy v H' yl
        have es : Ext H (as.opn Da) H' (as.opn Da) := st.ext
        unfold itemZ at h3
        cases hs : setT S tg x (wipe ρ own) with
        | none => rw [hs] at h3; exact h3.elim
        | some ρ' =>
          rw [hs] at h3
          replace h3 : Post Y H1 as1 σ W ((((den cond P ρ' S).bind fun t s => match t with
            | .bl true => (den elt P ρ' s).bind fun z s => R.ok (some z) s
            | .bl false => .ok none s
            | _ => .bad).calm fun o s' => match o with
              | some y => compM (itemZ (den cond P) (den elt P) own tg ρ) g m (i + 1) (acc ++ [y]) s'
              | none => compM (itemZ (den cond P) (den elt P) own tg ρ) g m (i + 1) acc s').bind fun ys s => allocL mu ys s) (zE Y Q) := h3
          refine ⟨wipe ρ own, as.opn Da, S, x, (hρ2.ext es).wipe own, st.wd w2, rx, ρ', hs, fun σ2 hσ2 off => ⟨wipe_same off hown, ?_⟩⟩
          -- the test
          refine ⟨ρ', as.opn Da, S, hσ2, st.wd w2, ?_⟩
          cases hc : den cond P ρ' S with
          | bad => rw [hc] at h3; exact h3.elim
          | exc c s => rw [hc] at h3; exact h3.elim
          | ok t S2 =>
            rw [hc] at h3
            refine fun H3 a3 e3 w3 => ?_
            have e13 : Ext H1 as1 H' as := st.after e2
            obtain ⟨as3, rfl, e4⟩ := Ext.thru nD e13 e3
            have hD' : H' Da = some (.lst vs) := es.keep _ _ hD (fun _ z => by cases z) fun m => absurd m (w2.op Da List.mem_cons_self).1
            have hD3 : H3 Da = some (.lst vs) := e3.keep _ _ hD' (fun _ z => by cases z) fun m => absurd m (w2.op Da List.mem_cons_self).1
            cases t with
            | bl b =>
              cases b with
              | false =>
                show Wm (i + 1) m H3
                exact ⟨as3, S2, acc, vs, by omega, (hρ2.ext es).ext e3, w3, (wk2.ext es).ext e3, e4, hD3, (ra.ext es).ext e3, by omega, h3⟩
              | true =>
                replace h3 : Post Y H1 as1 σ W ((((den elt P ρ' S2).bind fun z s => R.ok (some z) s).calm fun o s' => match o with
                  | some y => compM (itemZ (den cond P) (den elt P) own tg ρ) g m (i + 1) (acc ++ [y]) s'
                  | none => compM (itemZ (den cond P) (den elt P) own tg ρ) g m (i + 1) acc s').bind fun ys s => allocL mu ys s) (zE Y Q) := h3
                show tE Y (fun _ _ _ _ => False) (den elt P) σ2 H3 fun y H4 => ∃ acc, H4 Da = some (.lst acc) ∧ acc.length < sizeLine ∧ Wm (i + 1) m (upd H4 Da (.lst (acc ++ [y])))
                refine ⟨ρ', as3.opn Da, S2, hσ2.ext e3, w3, ?_⟩
                cases he : den elt P ρ' S2 with
                | bad => rw [he] at h3; exact h3.elim
                | exc c s => rw [he] at h3; exact h3.elim
                | ok z S4 =>
                  rw [he] at h3
                  refine fun H5 a5 e5 w5 y ry => ?_
                  obtain ⟨as5, rfl, e6⟩ := Ext.thru nD e4 e5
                  have hD5 : H5 Da = some (.lst vs) := e5.keep _ _ hD3 (fun _ z => by cases z) fun m => absurd m (w3.op Da List.mem_cons_self).1
                  refine ⟨vs, hD5, by omega, as5, S4, acc ++ [z], vs ++ [y], by omega, EnvR.grow hD5 (((hρ2.ext es).ext e3).ext e5), w5.grow hD5, Wk.grow hD5 (((wk2.ext es).ext e3).ext e5), e6.upd1 nD, upd_same, ?_, by rw [List.length_append, List.length_singleton]; omega, h3⟩
                  exact RepL.grow hD5 ((((ra.ext es).ext e3).ext e5).append (.cons ry .nil))
            | _ => exact h3.elim
end
end Px
end

section
set_option Elab.async false
set_option linter.all false
set_option maxRecDepth 100000
set_option maxHeartbeats 1000000
/-! Px: methods of lists. -/
namespace Px
open PySem PySem.Spec PyProof.Rows L2
section
variable {X : Cx} {Y : Fx} {B : Tb} {N : List Str} {sc : Scope} {fnb : Str → Bool} {k : Nat} {W : WX} {P : PC}
theorem base_plain {o : PySem.Expr} (h : notCall o = true) (name : Str) : attributeBase o name X.env (eval o X.env) = eval o X.env := by
  cases o <;> first | rfl | cases h
theorem ixN_L {n : Nat} {i : Int} {j : Nat} (h : Px.ixN n i = some j) : L2.ixN n i = some j := by
  unfold Px.ixN at h
  unfold L2.ixN
  exact h
theorem RepL.dropLast {H : Hp} {as : Ad} {ds : List D} {vs : List V} (r : RepL Y H as ds vs) : RepL Y H as ds.dropLast vs.dropLast := by
  rw [List.dropLast_eq_take, List.dropLast_eq_take, r.length]
  exact r.take _
theorem RepL.erase {H : Hp} {as : Ad} : ∀ {ds : List D} {vs : List V} (i : Nat), RepL Y H as ds vs → RepL Y H as (ds.eraseIdx i) (vs.eraseIdx i)
  | _, _, _, .nil => by simp; exact .nil
  | _, _, 0, .cons _ t => t
  | _, _, i + 1, .cons q t => .cons q (RepL.erase i t)
/-- a cell is written -/
theorem cell_put {H : Hp} {as : Ad} {S : Sto} {σ : L2.St} {i : Nat} {a : Addr} {d : D} {v : V} {ds : List D} {vs : List V} {Q : VK} (w : Wd Y H as S) (ha : as.c[i]? = some a) (z : vs.length ≤ sizeLine) (r : RepL Y H as ds vs) (rd : Rep Y H as d v)
    (h : Post Y H as σ W (.ok d (S.set i ds)) (zE Y Q)) : Q v (upd H a (.lst vs)) := by
  have ex : Ext H as (upd H a (.lst vs)) as := Ext.put w (List.mem_of_getElem? ha)
  exact h _ as ex (w.put ha z r) v (rd.ext ex)
theorem meD_cases {H : Hp} {as : Ad} {S : Sto} {σ : L2.St} {m : Me} {i : Nat} {a : Addr} {ds : List D} {Q : VK} (w : Wd Y H as S) (ha : as.c[i]? = some a) (h : Post Y H as σ W (meD m i ds S) (zE Y Q)) :
    ∃ ys ws d zs, H a = some (.lst ws) ∧ ws.length ≤ sizeLine ∧ RepL Y H as ys ws ∧ meL m ys ds = some (d, zs) ∧ ∀ vs v, vs.length ≤ sizeLine → RepL Y H as zs vs → Rep Y H as d v → Q v (upd H a (.lst vs)) := by
  unfold meD at h
  split at h
  · rename_i ys e
    obtain ⟨ws, hl, z, q⟩ := w.cell i a ys ha e
    split at h
    · rename_i d zs e2
      exact ⟨ys, ws, d, zs, hl, z, q, e2, fun vs v z2 r rd => cell_put w ha z2 r rd h⟩
    · exact h.elim
  · exact h.elim
theorem starEach_few {es : List PySem.Expr} {cpos : Pos} (h : plainL es = true) : (backTo cpos (starEach es X.env)).all (fun x => !x.1) = true := by
  induction es with
  | nil => rfl
  | cons e es ih =>
    rw [plainL, Bool.and_eq_true] at h
    rw [star_cons h.1]
    show (!false && (backTo cpos (starEach es X.env)).all (fun x => !x.1)) = true
    rw [ih h.2]
    rfl
theorem e_meth {m : Me} {a l : RE} {o : PySem.Expr} {name : Str} {apos cpos : Pos} {es : List PySem.Expr} (hm : name = meN m) (ho : notCall o = true) (hl : apos.endLine = cpos.line) (hp : plainL es = true) (hC : meC m es = true) (hcl : chk B N l sc (.L es) = true)
    (ha : PE X o (tE Y W (den a P))) (hes : PA X es (tAs Y W (den l P))) : PE X (.Call (.Attribute o name apos) es [] cpos) (tE Y W (den (.meth m a l) P)) := by
  subst hm
  have hline : (apos.endLine == cpos.line) = true := beq_iff_eq.mpr hl
  have hb := base_plain (X := X) ho (meN m)
  have slt := sizeLine_eq
  -- one argument
  have one : ∀ {id : String} {r : V → List V → Hp → VK → Prop} {e : PySem.Expr}, es = [e] → Slot "list" (meN m) id → typeOf (.builtin id) = pure (.type "method_descriptor") → MtR X id r →
      (∀ {H : Hp} {as : Ad} {S : Sto} {σ : L2.St} {Q : VK} {i : Nat} {p : Addr} {vs : List V} {ds : List D}, Wd Y H as S → as.c[i]? = some p → RepL Y H as ds vs → Post Y H as σ W (meD m i ds S) (zE Y Q) → r (.ref p) vs H Q) →
      PE X (.Call (.Attribute o (meN m) apos) es [] cpos) (tE Y W (den (.meth m a l) P)) := by
    intro id r e he hs ht hM hr
    subst he
    have hp' := hp
    rw [plainL, Bool.and_eq_true] at hp'
    refine (pe_bm PySem.F.plainAttrs_list hs ht hM ha hes hb ?_ hline (star_cons hp'.1 [] X.env) (star_none hp'.2)).mono fun σ H Q ⟨ρ, as, S, hρ, w, h⟩ => ?_
    · rw [starEach_few hp]
      rfl
    · unfold den at h
      refine post_bind (m := den a P) hρ w h fun d v S1 H1 as1 e1 w1 hρ1 r1 h1 => ?_
      cases r1 with
      | @cel i p h2 =>
        obtain ⟨ws, hw⟩ := w1.mem (.inl (List.mem_of_getElem? h2))
        refine ⟨.inl ⟨rfl, ws, .inl (.inl hw)⟩, ?_⟩
        exact args_post (f := fun xs s => meD m i xs s) hρ1 w1 h1 fun ds vs S2 H2 as2 e2 w2 hρ2 r2 h2' => hr w2 (e2.at h2) r2 h2'
      | _ => exact h1.elim
  have two : ∀ {id : String} {r : V → List V → Hp → VK → Prop}, es = [] → Slot "list" (meN m) id → typeOf (.builtin id) = pure (.type "method_descriptor") → MtR X id r →
      (∀ {H : Hp} {as : Ad} {S : Sto} {σ : L2.St} {Q : VK} {i : Nat} {p : Addr} {vs : List V} {ds : List D}, Wd Y H as S → as.c[i]? = some p → RepL Y H as ds vs → Post Y H as σ W (meD m i ds S) (zE Y Q) → r (.ref p) vs H Q) → chk B N l sc (.L es) = true →
      PE X (.Call (.Attribute o (meN m) apos) es [] cpos) (tE Y W (den (.meth m a l) P)) := by
    intro id r he hs ht hM hr hc
    subst he
    refine (pe_bm0 PySem.F.plainAttrs_list hs ht hM ha hb hline).mono fun σ H Q ⟨ρ, as, S, hρ, w, h⟩ => ?_
    unfold den at h
    refine post_bind (m := den a P) hρ w h fun d v S1 H1 as1 e1 w1 hρ1 r1 h1 => ?_
    have el : l = .nil := by cases l <;> first | rfl | cases (show false = true from hc)
    subst el
    cases r1 with
    | @cel i p h2 =>
      obtain ⟨ws, hw⟩ := w1.mem (.inl (List.mem_of_getElem? h2))
      exact ⟨.inl ⟨rfl, ws, .inl (.inl hw)⟩, hr w1 h2 .nil h1⟩
    | _ => exact h1.elim
  cases m with
  | append =>
    obtain ⟨e, he⟩ : ∃ e, es = [e] := by
      rcases es with _ | ⟨e, _ | ⟨e2, es⟩⟩ <;> first | exact ⟨_, rfl⟩ | cases hC
    refine one he PySem.F.slot_list_append PySem.F.type_list_append mt_append fun {H as S σ Q i p vs ds} w hi rs h => ?_
    obtain ⟨ys, ws, d, zs, hH, hz, rl, hm, q⟩ := meD_cases w hi h
    unfold meL at hm
    cases rs with
    | nil => cases hm
    | @cons d1 v1 ds vs r1 rs =>
      cases rs with
      | cons _ _ => cases hm
      | nil =>
        replace hm : (if ys.length < 16777216 then some (D.non, ys ++ [d1]) else none) = some (d, zs) := hm
        split at hm
        · rename_i hlt
          cases hm
          rw [rl.length] at hlt
          have hlt' : ws.length < sizeLine := by rw [slt]; exact hlt
          exact ⟨p, ws, v1, rfl, rfl, hH, hlt', q _ _ (by rw [List.length_append, List.length_singleton]; omega) (rl.append (.cons r1 .nil)) .non⟩
        · cases hm
  | pop =>
    have he : es = [] := by
      rcases es with _ | ⟨e, es⟩ <;> first | rfl | cases hC
    refine two he PySem.F.slot_list_pop PySem.F.type_list_pop mt_pop (fun {H as S σ Q i p vs ds} w hi rs h => ?_) hcl
    obtain ⟨ys, ws, d, zs, hH, hz, rl, hm, q⟩ := meD_cases w hi h
    unfold meL at hm
    cases rs with
    | cons _ _ => cases hm
    | nil =>
      replace hm : (match ys[ys.length - 1]? with
        | some y => some (y, ys.dropLast)
        | none => none) = some (d, zs) := hm
      cases e : ys[ys.length - 1]? with
      | none => rw [e] at hm; cases hm
      | some y =>
        rw [e] at hm
        cases hm
        obtain ⟨v, hv, rv⟩ := rl.get e
        rw [rl.length] at hv
        exact ⟨p, ws, v, rfl, rfl, hH, hv, q _ _ (by rw [List.length_dropLast]; omega) rl.dropLast rv⟩
  | popAt =>
    obtain ⟨e, he⟩ : ∃ e, es = [e] := by
      rcases es with _ | ⟨e, _ | ⟨e2, es⟩⟩ <;> first | exact ⟨_, rfl⟩ | cases hC
    refine one he PySem.F.slot_list_pop PySem.F.type_list_pop mt_popAt fun {H as S σ Q i p vs ds} w hi rs h => ?_
    obtain ⟨ys, ws, d, zs, hH, hz, rl, hm, q⟩ := meD_cases w hi h
    unfold meL at hm
    cases rs with
    | nil => cases hm
    | @cons d1 v1 ds vs r1 rs =>
      cases rs with
      | cons _ _ => cases r1 <;> cases hm
      | nil =>
        cases r1 with
        | int k =>
          replace hm : (if smallI k = true then (match ixN ys.length k with
            | some j => match ys[j]? with
              | some y => some (y, ys.eraseIdx j)
              | none => none
            | none => none) else none) = some (d, zs) := hm
          split at hm
          · rename_i hk
            obtain ⟨k1, k2⟩ := smallI_ok hk
            split at hm
            · rename_i j hj
              split at hm
              · rename_i y hy
                cases hm
                obtain ⟨v, hv, rv⟩ := rl.get hy
                rw [rl.length] at hj
                have hlen : (ws.eraseIdx j).length ≤ ws.length := by rw [List.length_eraseIdx]; split <;> omega
                exact ⟨p, ws, k, j, v, rfl, rfl, hH, by omega, by omega, (ixN_seq (ixN_L hj)).1, hv, q _ _ (Nat.le_trans hlen hz) (rl.erase j) rv⟩
              · cases hm
            · cases hm
          · cases hm
        | _ => cases hm
end
end Px
end

section
set_option Elab.async false
set_option linter.all false
set_option maxRecDepth 100000
set_option maxHeartbeats 1000000
/-! Px: x[::-1] of lists and tuples. -/
namespace Px
open PySem PySem.Spec PyProof.Rows L2
section
variable {prog : Program} {w : World} {A : Around} {E : Value → Shared → Prop} {s : Shared}
theorem rev_adjust (n : Nat) : Builtin.Slice.sliceAdjust none none (-1) (n : Int) = ((n : Int) - 1, -1) := by
  unfold Builtin.Slice.sliceAdjust
  have h1 : ((-1 : Int) < 0) := by decide
  simp [h1]
theorem rev_places (n : Nat) : Builtin.Slice.slicePlaces ((n : Int) - 1) (-1) (-1) = n := by
  unfold Builtin.Slice.slicePlaces
  have h1 : ¬ ((-1 : Int) > 0) := by decide
  simp only [h1, if_false, show (- -1 : Int) = 1 by decide, Int.ediv_one]
  split <;> omega
theorem rev_pick (xs : Array Value) : ((List.range xs.size).filterMap fun (m : Nat) => xs[((xs.size : Int) - 1 + (m : Int) * (-1)).toNat]?).toArray = xs.toList.reverse.toArray := by
  congr 1
  apply List.ext_getElem?
  intro i
  have e : ∀ m, m < xs.size → xs[((xs.size : Int) - 1 + (m : Int) * (-1)).toNat]? = some (xs.toList.reverse.getD m .none) := by
    intro m hm
    have h1 : ((xs.size : Int) - 1 + (m : Int) * (-1)).toNat = xs.size - 1 - m := by omega
    have h2 : xs.size - 1 - m < xs.size := by omega
    rw [h1, Array.getElem?_eq_getElem h2]
    congr 1
    rw [List.getD_eq_getElem?_getD, List.getElem?_reverse (by simpa using hm)]
    simp [h2]
  have e2 : ((List.range xs.size).filterMap fun (m : Nat) => xs[((xs.size : Int) - 1 + (m : Int) * (-1)).toNat]?) = (List.range xs.size).map fun m => xs.toList.reverse.getD m .none := by
    rw [← List.filterMap_eq_map]
    have gen : ∀ l : List Nat, (∀ m ∈ l, m < xs.size) → (l.filterMap fun (m : Nat) => xs[((xs.size : Int) - 1 + (m : Int) * (-1)).toNat]?) = l.filterMap (some ∘ fun m => xs.toList.reverse.getD m .none) := by
      intro l
      induction l with
      | nil => intro _; rfl
      | cons a l ih =>
        intro hl
        rw [List.filterMap_cons, List.filterMap_cons, e a (hl a List.mem_cons_self), ih fun m hm => hl m (List.mem_cons_of_mem _ hm)]
        rfl
    exact gen _ fun m hm => List.mem_range.mp hm
  rw [e2, List.getElem?_map]
  by_cases h : i < xs.size
  · rw [List.getElem?_range h]
    show some (xs.toList.reverse.getD i .none) = xs.toList.reverse[i]?
    rw [List.getD_eq_getElem?_getD, List.getElem?_eq_getElem (by simpa using h)]
    rfl
  · rw [List.getElem?_eq_none (by simpa using h), List.getElem?_eq_none (by simpa using h)]
    rfl
theorem rev_get {t sl : Addr} {items : Array Value} {vl vu vs : Value} {Q : Value → Shared → Prop} (ht : IsTup s.heap t items) (hs : s.heap.IsSliceOf sl vl vu vs) (pl : IsPart vl none) (pu : IsPart vu none) (pv : IsPart vs (some (-1)))
    (h : Q (.ref s.heap.objs.size) { s with heap := s.heap.push { cls := .type "tuple", data := .seq items.toList.reverse.toArray } }) (hsz : items.size ≤ sizeLine) : wpAny (model prog w) A (getItem (.ref t) (.ref sl)) Q E s := by
  have fits : sizeOk (.seq items.toList.reverse.toArray) := by
    show items.toList.reverse.toArray.size ≤ sizeLine
    rw [List.size_toArray, List.length_reverse, Array.length_toList]
    exact hsz
  obtain ⟨o2, g1, g2, g3⟩ := id hs
  have isS : s.TypeIs (.ref sl) "slice" := ⟨o2, g1, g2⟩
  unfold getItem
  refine wpAny_holding ?_
  refine wpAny_bind (wpAny_sequenceKey ht.typeIs (by decide) (wpAny_bind (wpAny_callSpecial?_slot (name := Str.ofString "__getitem__") ht.typeIs PyProof.Rows.slot_tuple_getitem
    (wpAny_call_entry PyProof.Rows.slot_tuple_getitem ht.typeIs entry_tuple_getitem ?_ (args_tuple_getitem _ _)))))
  show wpAny _ _ (Builtin.Tuple.tupleItemsOf (.ref t) >>= _) _ _ s
  refine wpAny_bind (tupleItemsOf_ ht (wpAny_bind (wpAny_typeOf isS ?_)))
  rw [if_pos (by decide)]
  have applied : ∀ {A : Around} {E : Value → Shared → Prop} {Q : Int × Int × Nat → Shared → Prop}, Q ((items.size : Int) - 1, -1, items.size) s → wpAny (model prog w) A (Builtin.Slice.sliceApplied (.ref sl) (pure (items.size : Int))) Q E s := by
    intro A E Q hq
    unfold Builtin.Slice.sliceApplied Builtin.Slice.sliceFields
    refine wpAny_bind (wpAny_bind (wpAny_field g1 g3 (x := vl) rfl (wpAny_bind (wpAny_field g1 g3 (x := vu) rfl (wpAny_bind (wpAny_field g1 g3 (x := vs) rfl (wpAny_pure ?_)))))))
    refine wpAny_bind (HT.slicePart_ pv ?_)
    show wpAny _ _ (if ((-1 : Int) == 0) = true then _ else _) _ _ s
    rw [if_neg (by decide)]
    refine wpAny_bind (HT.slicePart_ pl (wpAny_bind (HT.slicePart_ pu (wpAny_bind (wpAny_pure ?_)))))
    show wpAny _ _ (match Builtin.Slice.sliceAdjust none none (-1) (items.size : Int) with | (lo, hi) => pure (lo, (-1 : Int), Builtin.Slice.slicePlaces lo hi (-1))) _ _ s
    rw [rev_adjust]
    show wpAny _ _ (pure ((items.size : Int) - 1, (-1 : Int), Builtin.Slice.slicePlaces ((items.size : Int) - 1) (-1) (-1))) _ _ s
    rw [rev_places]
    exact wpAny_pure hq
  refine wpAny_bind (applied ?_)
  have notAll : ¬ ((((items.size : Int) - 1 == 0) && ((-1 : Int) == 1) && (items.size == items.size)) = true) := by
    intro q
    rw [Bool.and_eq_true, Bool.and_eq_true] at q
    exact absurd q.1.2 (by decide)
  show wpAny _ _ (if (((items.size : Int) - 1 == 0) && ((-1 : Int) == 1) && (items.size == items.size)) = true then _ else _) _ _ s
  rw [if_neg notAll, rev_pick]
  first
    | exact wpAny_bind (m := Builtin.Tuple.tupleExact _) (wpAny_newObj_type (wpAny_pure ⟨_, rfl, wpAny_pure h⟩) fits)
    | exact wpAny_bind (m := Builtin.Tuple.tupleExact _) (wpAny_newObj_type (wpAny_bind (wpAny_pure (wpAny_pure ⟨_, rfl, wpAny_pure h⟩))) fits)
    | exact wpAny_bind (wpAny_bind (m := Builtin.Tuple.tupleExact _) (wpAny_newObj_type (wpAny_pure (wpAny_pure ⟨_, rfl, wpAny_pure h⟩)) fits))
    | exact wpAny_bind (wpAny_bind (m := Builtin.Tuple.tupleExact _) (wpAny_newObj_type (wpAny_pure ⟨_, rfl, wpAny_pure h⟩) fits))
end
section
variable {X : Cx} {Y : Fx} {B : Tb} {N : List Str} {sc : Scope} {fnb : Str → Bool} {k : Nat} {W : WX} {P : PC}
def tRevA (K : PySem.W.Frag) (te : TE) : TE := fun σ H Q => te σ H fun x H1 => ∃ a xs, x = .ref a ∧ ((SqL K H1 a xs ∧ ∀ p, H1 p = none → Q (.ref p) (upd H1 p (.lst xs.reverse))) ∨ (SqT K H1 a xs ∧ xs.length ≤ sizeLine ∧ ∀ p, H1 p = none → Q (.ref p) (upd H1 p (.tup xs.reverse))))
theorem pe_revA {e : PySem.Expr} {te : TE} {j : Nat} {p1 p2 p3 pos : Pos} (he : PE X e te) : PE X (.Subscript e (.Slice none none (some (.UnaryOp .USub (.Constant (.int 1) j p1) p2)) p3) pos) (tRevA X.K te) := by
  refine ⟨fun pins s σ H Q I hw => ?_⟩
  refine Subscript_ (thn (he.run pins s σ H _ I hw) fun v s1 ⟨x, H1, I1, r1, a, xs, ex, q⟩ => ?_)
  subst ex
  cases r1
  have minus : PO X (some (.UnaryOp .USub (.Constant (.int 1) j p1) p2)) (tPart (tUn (rU fun i => .int (-i)) (tC (.int 1)))) := po_some (pe_un un_neg pe_int)
  refine wpAny_Slice (thn (po_none.run pins s1 σ H1 (fun o H2 => o = none ∧ H2 = H1) I1 ⟨rfl, rfl⟩) fun vl s2 ⟨l, H2, I2, pl, el, e2⟩ => thn (po_none.run pins s2 σ H2 (fun o H3 => o = none ∧ H3 = H2) I2 ⟨rfl, rfl⟩) fun vu s3 ⟨u, H3, I3, pu, eu, e3⟩ => ?_)
  subst el e2 eu e3
  refine thn (minus.run pins s3 σ H3 (fun o H4 => o = some (-1) ∧ H4 = H3) I3 ⟨1, rfl, -1, rfl, rfl, rfl⟩) fun vs s4 ⟨o, H4, I4, ps, eo, e4⟩ => ?_
  subst eo e4
  have I5 : Inv X pins σ H4 { s4 with heap := s4.heap.push { cls := .type "slice", data := .fields #[vl, vu, vs] } } := I4.kept (t' := s4.toks) fun _ _ z => Heap.get?_push_of_some _ z
  show wpAny (model X.prog X.w) X.A (subscriptTail e (.Slice none none (some (.UnaryOp .USub (.Constant (.int 1) j p1) p2)) p3) (.ref a) (.ref s4.heap.objs.size)) (EP X pins σ Q) X.xe { s4 with heap := s4.heap.push { cls := .type "slice", data := .fields #[vl, vu, vs] } }
  rcases q with ⟨hx, q⟩ | ⟨hx, hlen, q⟩
  · obtain ⟨its, r, ht, hz⟩ := I5.list hx
    have hl := r.length
    refine tail_any (ops := [.ref a, .ref s4.heap.objs.size]) ht.isList.typeIs (PySem.slot_list_getitem.lookup) ?_ (by with_unfolding_all rfl)
    refine wpAny_getItem_list_slice ht.isList (Heap.IsSliceOf.new _ vl vu vs) pl pu ps (by decide) ?_ (by rw [List.size_toArray]; omega)
    rw [PySem.W.krv_pick]
    exact ⟨.ref _, _, I5.laid (t' := s4.toks) (o := .lst xs.reverse) (fun _ _ z => Heap.get?_push_of_some _ z) (Nat.le_refl _) ⟨by rw [List.length_reverse]; exact hz, _, 0, r.reverse, Heap.get?_push_size _ rfl⟩, rfl, q _ (I5.hok.fresh (Nat.le_refl _))⟩
  · obtain ⟨its, r, ht, hz⟩ := I5.tuple hx
    have hl := r.length
    refine tail_any (ops := [.ref a, .ref s4.heap.objs.size]) ht.typeIs PyProof.Rows.slot_tuple_getitem.lookup ?_ (by with_unfolding_all rfl)
    refine rev_get ht (Heap.IsSliceOf.new _ vl vu vs) pl pu ps ?_ (by rw [List.size_toArray]; omega)
    exact ⟨.ref _, _, I5.laid (t' := s4.toks) (o := .tup xs.reverse) (fun _ _ z => Heap.get?_push_of_some _ z) (Nat.le_refl _) ⟨by rw [List.length_reverse]; exact hlen, its.reverse, r.reverse, ⟨_, Heap.get?_push_size _ rfl, rfl, 0, by simp⟩⟩, rfl, q _ (I5.hok.fresh (Nat.le_refl _))⟩
theorem RepL.rev {H : Hp} {as : Ad} {ds : List D} {vs : List V} (r : RepL Y H as ds vs) : RepL Y H as ds.reverse vs.reverse := by
  have gen : ∀ {ds : List D} {vs : List V} {es : List D} {us : List V}, RepL Y H as ds vs → RepL Y H as es us → RepL Y H as (ds.reverse ++ es) (vs.reverse ++ us) := by
    intro ds
    induction ds with
    | nil =>
      intro vs es us r q
      cases r
      exact q
    | cons d ds ih =>
      intro vs es us r q
      cases r with
      | cons r1 r2 =>
        rw [List.reverse_cons, List.reverse_cons, List.append_assoc, List.append_assoc]
        exact ih r2 (.cons r1 q)
  have z := gen r (RepL.nil (X := Y) (H := H) (as := as))
  rwa [List.append_nil, List.append_nil] at z
theorem e_rev (c : Cg X Y B N sc fnb k) {mu : Bool} {a : RE} {e : PySem.Expr} {j : Nat} {p1 p2 p3 pos : Pos} (ha : PE X e (tE Y W (den a P))) :
    PE X (.Subscript e (.Slice none none (some (.UnaryOp .USub (.Constant (.int 1) j p1) p2)) p3) pos) (tE Y W (den (.rev mu a) P)) := by
  refine (pe_revA ha).mono fun σ H Q ⟨ρ, as, S, hρ, w, h⟩ => ?_
  unfold den at h
  refine post_bind (m := den a P) hρ w h fun d v S1 H1 as1 e1 w1 hρ1 r1 h1 => ?_
  unfold revD at h1
  split at h1
  · cases r1 with
    | tup h2 z r =>
      rw [c.K]
      exact ⟨_, _, rfl, .inr ⟨h2, z, fun p np => tup_post w1 r.rev (by rw [List.length_reverse]; exact z) np h1⟩⟩
  · split at h1
    · rename_i xs e
      obtain ⟨b, vs, rfl, h2, z, r⟩ := lsR_rep w1 r1 e
      rw [c.K]
      exact ⟨_, _, rfl, .inl ⟨h2, fun p np => alloc_post w1 r.rev (by rw [List.length_reverse]; exact z) np h1⟩⟩
    · exact h1.elim
end
end Px
end

section
set_option Elab.async false
set_option linter.all false
set_option maxRecDepth 100000
set_option maxHeartbeats 3200000
/-! Px: set(a tuple of tuples of ints): the machine's side. -/
namespace Px
open PySem PySem.Spec PyProof.Rows L2
/-- a new set -/
abbrev newSet (w : World) : Obj := { cls := .type "set", dict := none, data := .set #[] 0 (.fresh 0 0 (!w.params.followText "set-order")) }
section
variable {P : Program} {w : World} {A : Around} {E : Value → Shared → Prop} {s : Shared}
theorem call_setT {t : Addr} {us : Array Value} (ks : List (Addr × List Int)) {Q : Value → Shared → Prop} (noExc : A.handled = none) (isT : s.heap.IsTuple t us) (refs : us.toList = ks.map fun p => Value.ref p.1)
    (own : ∀ p ∈ ks, IsT P w s.heap p.2 p.1) (few : ks.length < 64) (small : A.units + 3 < cLine)
    (fin : ∀ (h2 : Heap) (tk : Nat) L es ep tb, SetTR P w h2 s.heap.objs.size L es ep tb → Got ks ks.length L → (∀ b o, s.heap.get? b = some o → h2.get? b = some o) → Q (.ref s.heap.objs.size) { s with heap := h2, toks := tk }) :
    wpAny (model P w) A (PySem.call (.type "set") [.ref t]) Q E s := by
  have count : us.size = ks.length := by
    have q := congrArg List.length refs
    simpa using q
  obtain ⟨c0, tl0, mroEq⟩ := F.called_set.mro
  have made := F.called_set.made
  have subs := F.called_set.sub
  refine wpAny_call (codeAny_of_tree ?_)
  show wpAny _ _ (callAny (.type "set") _) _ _ _
  refine wpAny_pure ⟨Code.quiet_builtin _ (by decide +kernel), ?_⟩
  refine codeAny_builtin F.entry_type_call ?_
  rw [Around.under_plain (weight_type_call_type "set" [.ref t] []) rfl]
  have c1 := F.called_set.notType
  have c2 := F.called_set.canCreate
  have c3 := F.typeCall_set_1 (.ref t)
  repeat (any_goals (first | assumption | wp_step))
  refine codeAny_mono (code_set_led1 (.ref t) (E := E) (Q₁ := fun ob s₁ => ob = .ref s.heap.objs.size ∧ s₁ = { s with heap := s.heap.push (newSet w) }) ⟨rfl, rfl⟩) ?_
  intro r s₁ hr
  cases r with
  | error e => exact hr
  | ok fl =>
    cases fl with
    | ret ob =>
      obtain ⟨rfl, rfl⟩ := hr
      have atS : (s.heap.push (newSet w)).get? s.heap.objs.size = some (newSet w) := Heap.get?_push_size _ rfl
      have tyS : Shared.TypeIs { s with heap := s.heap.push (newSet w) } (.ref s.heap.objs.size) "set" := ⟨_, atS, rfl⟩
      have li := F.called_set.init.lookup
      have bi := F.called_set.init.bind (.ref s.heap.objs.size)
      repeat (any_goals (first | assumption | wp_step))
      refine codeAny_mono (codeAny_call_builtin (R := wants (fun r s₂ => r = .none ∧ ∃ h2 tk L es ep tb, s₂ = { s with heap := h2, toks := tk } ∧ SetTR P w h2 s.heap.objs.size L es ep tb ∧ Got ks ks.length L ∧ (∀ b o, s.heap.get? b = some o → h2.get? b = some o)) E)
        F.called_set.init.plain F.entry_set_init (check_set_init_1 tyS ?_)) ?_
      · obtain ⟨ob, hob, cob, nb, dob⟩ := isT
        obtain ⟨ocls, odict, odata, oslots⟩ := ob
        simp only at cob dob
        subst cob dob
        have hob2 : (s.heap.push (newSet w)).get? t = some { cls := .type "tuple", dict := odict, data := .seq us nb, slots := oslots } := Heap.get?_push_of_some _ hob
        have k1 := F.sub_tuple_set
        have k2 := F.sub_tuple_frozenset
        have k3 : (Value.type "tuple" == Value.type "dict") = false := by decide
        have isT1 : (s.heap.push (newSet w)).IsTuple t us := ⟨_, hob2, rfl, nb, rfl⟩
        unfold Builtin.«set.__init__» noKeywords Builtin.Frozenset.updateFrom
        generalize hPI : pyIter = PI
        wp_walk
        subst hPI
        refine wpAny_pyIter_tuple isT1 (wpAny_bind (wpAny_runValue ?_))
        have below : t < s.heap.objs.size := Heap.lt_size hob
        have noExc3 : A.in1.in1.in1.handled = none := by simp [noExc]
        have apart : t ≠ (s.heap.push (newSet w)).objs.size := by
          rw [Heap.size_push]
          exact Nat.ne_of_lt (Nat.lt_succ_of_lt below)
        have out : s.heap.objs.size ∉ [(s.heap.push (newSet w)).objs.size, t] := by
          rw [Heap.size_push]
          simp
          exact fun z => Nat.lt_irrefl _ (Nat.lt_of_lt_of_eq below z)
        have each : ∀ (i : Nat) (v : Value), us[i]? = some v → ∃ p, ks[i]? = some p ∧ v = .ref p.1 := by
          intro i v hv
          rw [← Array.getElem?_toList, refs, List.getElem?_map] at hv
          cases hq : ks[i]? with
          | none => rw [hq] at hv; cases hv
          | some p =>
            rw [hq] at hv
            exact ⟨p, rfl, (Option.some.inj hv).symm⟩
        have new_of : ∀ b, s.heap.objs.size ≤ b → s.heap.get? b = none := fun b hb => by
          cases q : s.heap.get? b with
          | none => rfl
          | some o => exact absurd (Heap.lt_size q) (Nat.not_lt.mpr hb)
        refine set_update_tups ((Walks.tuple noExc3 _ t apart us).toS) s.heap.objs.size out ks count few each s.heap own (new_of _ (Nat.le_refl _)) ?_ small (us.size - 0) 0 _ (by omega) (Nat.zero_le _) ?_ ?_ ?_ ?_
        · intro b hb
          rw [List.mem_singleton.mp hb, Heap.size_push]
          exact new_of _ (Nat.le_succ _)
        · exact ⟨⟨_, Heap.get?_push_size _ rfl, rfl, rfl⟩, isT1.push _⟩
        · exact fun b o e => Heap.get?_push_of_some _ (Heap.get?_push_of_some _ e)
        · exact ⟨[], #[], 0, _, setTR_fresh (Heap.get?_push_of_some _ atS), Got.zero ks⟩
        · intro s2 L es ep tb hm hS hg hk
          obtain ⟨h2, g2, d2, tk, o2⟩ := s2
          obtain rfl : g2 = s.gens := hm.gens
          obtain rfl : d2 = s.drawn := hm.drawn
          obtain rfl : o2 = s.os := hm.os
          show wpAny _ _ _ _ _ _
          refine wpAny_pure ?_
          show wpAny _ _ (ret Value.none) _ _ _
          rw [count] at hg
          exact wpAny_pure ⟨rfl, h2, tk, L, es, ep, tb, rfl, hS, hg, hk⟩
      · intro r₂ s₂ hr₂
        cases r₂ with
        | error e => exact hr₂
        | ok fl₂ =>
          cases fl₂ with
          | ret r =>
            obtain ⟨rfl, h2, tk, L, es, ep, tb, rfl, hS, hg, hk⟩ := hr₂
            repeat (any_goals (first | assumption | wp_step))
            exact fin _ _ _ _ _ _ hS hg hk
          | _ => exact hr₂.elim
    | _ => exact hr.elim
end
end Px
end

section
set_option Elab.async false
set_option linter.all false
set_option maxRecDepth 100000
set_option maxHeartbeats 1000000
/-! Px: len(set(a tuple of tuples of ints)). -/
namespace Px
open PySem PySem.Spec PyProof.Rows L2
/-! ### the number of the unlike -/
theorem countD_len : ∀ (ks : List (List Int)) (us : List (List Int)), us.Nodup → (∀ k ∈ us, k ∈ ks) → (∀ k ∈ ks, k ∈ us) → us.length = countD ks
  | [], us, _, h, _ => by
    cases us with
    | nil => rfl
    | cons u us => exact absurd (h u List.mem_cons_self) (by simp)
  | k :: ks, us, nd, h1, h2 => by
    by_cases m : k ∈ ks
    · rw [countD, if_pos m]
      refine countD_len ks us nd (fun x hx => ?_) fun x hx => h2 x (List.mem_cons_of_mem _ hx)
      rcases List.mem_cons.mp (h1 x hx) with e | e
      · rw [e]; exact m
      · exact e
    · rw [countD, if_neg m]
      have hk : k ∈ us := h2 k List.mem_cons_self
      have e := countD_len ks (us.erase k) (nd.erase k) (fun x hx => ?_) fun x hx => ?_
      · rw [← e, List.length_erase_of_mem hk]
        have := List.length_pos_of_mem hk
        omega
      · rcases List.mem_cons.mp (h1 x (List.mem_of_mem_erase hx)) with e | e
        · subst e
          exact absurd hx (nd.not_mem_erase)
        · exact e
      · refine (nd.mem_erase_iff).mpr ⟨fun e => m (e ▸ hx), h2 x (List.mem_cons_of_mem _ hx)⟩
section
variable {X : Cx}
def rSet (K : PySem.W.Frag) (P : Program) (w : World) : List V → Hp → VK → Prop := fun vs H Q => ∃ (t : Addr) (ks : List (Addr × List Int)), vs = [V.ref t] ∧ SqT K H t (ks.map fun p => V.ref p.1) ∧ (∀ p ∈ ks, SqT K H p.1 (p.2.map V.int)) ∧ ks.length < 64 ∧
  ∀ a L, H a = none → (L.map (·.2)).Nodup → (∀ p ∈ L, p ∈ ks) → (∀ p ∈ ks, p.2 ∈ L.map (·.2)) → Q (.ref a) (upd H a (SetTO P w a L))
theorem call_setR (hc : X.calm = true) (hu : X.A.units + 64 < cLine) : CallR X (.type "set") (rSet X.K X.prog X.w) := by
  intro pins s σ H xs us Q I r h
  obtain ⟨t, ks, rfl, hl, hk, hf, q⟩ := h
  rw [Vals.ref1 r]
  obtain ⟨its, rv, isT, hz⟩ := I.tuple hl
  have fresh : H s.heap.objs.size = none := I.hok.fresh (Nat.le_refl _)
  refine call_setT (P := X.prog) (w := X.w) ks (I.ok.hd hc) isT (by simpa using refs_of_vals rv) (fun p hp => I.isT (hk p hp)) hf (by omega) fun h' tk L es ep tb R g k => ?_
  have sub : ∀ p ∈ L, p ∈ ks := fun p hp => List.mem_of_mem_take (g.sub p hp)
  have all : ∀ p ∈ ks, p.2 ∈ L.map (·.2) := fun p hp => g.all p (by rw [List.take_length]; exact hp)
  exact ⟨.ref s.heap.objs.size, upd H s.heap.objs.size (SetTO X.prog X.w s.heap.objs.size L), I.laid (t' := tk) k (Nat.le_refl _) (setTO_new R.t0), rfl, q _ L fresh R.nd sub all⟩
def rLenS (K : PySem.W.Frag) (P : Program) (w : World) : List V → Hp → VK → Prop := fun vs H Q => ∃ (a : Addr) (L : List (Addr × List Int)), vs = [V.ref a] ∧ H a = some (SetTO P w a L) ∧ (∀ p ∈ L, SqT K H p.1 (p.2.map V.int)) ∧ Q (.int L.length) H
theorem call_lenS : CallR X (.builtin "len") (rLenS X.K X.prog X.w) := by
  intro pins s σ H xs us Q I r h
  obtain ⟨a, L, rfl, ha, hk, q⟩ := h
  rw [Vals.ref1 r]
  have st : SetT0 X.prog X.w s.heap a L := (I.hok a _ ha).1
  obtain ⟨es, ep, tb, R⟩ := st.full fun p hp => I.isT (hk p hp)
  obtain ⟨o, ho, hex, hd⟩ := R.ob
  have sz := R.size
  have few := R.few
  refine call_len_set ho hex hd R.fits (by rw [sz]; omega) ⟨.int L.length, H, I.tok _, ⟨_, by rw [sz]⟩, q⟩
end
section
variable {X : Cx} {Y : Fx} {B : Tb} {N : List Str} {sc : Scope} {fnb : Str → Bool} {k : Nat} {W : WX} {P : PC}
/-- the items of a tuple of tuples of ints -/
theorem rows_rep {H : Hp} {as : Ad} : ∀ {ds : List D} {vs : List V} {ks : List (List Int)}, RepL Y H as ds vs → mapO intsO ds = some ks → ∃ L : List (Addr × List Int), vs = L.map (fun p => V.ref p.1) ∧ L.map (·.2) = ks ∧ ∀ p ∈ L, SqT Y.K H p.1 (p.2.map V.int)
  | _, _, ks, .nil, e => by
    cases e
    exact ⟨[], rfl, rfl, fun p hp => by cases hp⟩
  | _, _, ks, .cons (d := d) (ds := ds) r t, e => by
    rw [mapO] at e
    split at e
    · rename_i y ys e1 e2
      cases e
      obtain ⟨L, h1, h2, h3⟩ := rows_rep t e2
      cases d with
      | tup xs =>
        cases r with
        | @tup a vs' _ hq _ rl =>
          have := ints_rep rl e1
          refine ⟨(a, y) :: L, by rw [h1]; rfl, by rw [List.map_cons, h2], fun p hp => ?_⟩
          rcases List.mem_cons.mp hp with e | hp
          · rw [e, ← this]
            exact hq
          · exact h3 p hp
      | _ => cases e1
    · cases e
theorem e_lset (c : Cg X Y B N sc fnb k) {a : RE} {x y : Str} {q q2 p2 p : Pos} {e1 : PySem.Expr} (h : (eqS x "len" && (glB sc x && (memS x B.free && (eqS y "set" && (glB sc y && (memS y B.free && plainE e1)))))) = true)
    (ha : PE X e1 (tE Y W (den a P))) : PE X (.Call (.Name x q) [.Call (.Name y q2) [e1] [] p2] [] p) (tE Y W (den (.lset a) P)) := by
  rw [Bool.and_eq_true, Bool.and_eq_true, Bool.and_eq_true, Bool.and_eq_true, Bool.and_eq_true, Bool.and_eq_true] at h
  obtain ⟨h1, h2, h3, h4, h5, h6, h7⟩ := h
  have ex : x = "len" := of_decide_eq_true h1
  have ey : y = "set" := of_decide_eq_true h4
  subst ex ey
  have mf := c.tb.free _ (memS_ok h3)
  have sf := c.tb.free _ (memS_ok h6)
  have hu := c.hu
  have hst := star_cons h7 [] X.env
  have inner := pe_callTy (p := q2) (call_setR c.calm (by omega)) (c.gl h5) sf (by rfl) (pa_cons ha pa_nil hst) (pos := p2) (by decide) (by decide) hst rfl
  refine (pe_callB call_lenS (c.gl h2) mf (by rfl) (pa_cons inner pa_nil (star_cons rfl _ _)) (by decide) (by decide) (star_cons rfl _ _) rfl).mono fun σ H Q ⟨ρ, as, S, hρ, w, h⟩ => ?_
  unfold den at h
  refine post_bind (m := den a P) hρ w h fun d v S1 H1 as1 ex w1 hρ1 r1 h1 => ?_
  replace h1 : Post Y H1 as1 σ W (match (generalizing := false) d with
    | .tup xs => match mapO intsO xs with
      | some ks => if Nat.ble ks.length 63 = true then .ok (.int (countD ks : Nat)) S1 else .bad
      | none => .bad
    | _ => .bad) (zE Y Q) := h1
  split at h1
  · split at h1
    · split at h1
      · rename_i xs ks e hl
        cases r1 with
        | @tup a' vs' _ hq _ rl =>
          obtain ⟨L, e1, e2, e3⟩ := rows_rep rl e
          subst e1
          have hl := Nat.le_of_ble_eq_true hl
          have len : L.length = ks.length := by rw [← e2, List.length_map]
          refine ⟨a', L, rfl, by rw [c.K]; exact hq, fun p hp => by rw [c.K]; exact e3 p hp, by omega, fun s L2 fresh nd sub all => ?_⟩
          have ex2 : Ext H1 as1 (upd H1 s (SetTO X.prog X.w s L2)) as1 := Ext.new fresh
          have cnt : L2.length = countD ks := by
            rw [← countD_len ks (L2.map (·.2)) nd (fun x hx => ?_) fun x hx => ?_, List.length_map]
            · obtain ⟨p, hp, rfl⟩ := List.mem_map.mp hx
              rw [← e2]
              exact List.mem_map.mpr ⟨p, sub p hp, rfl⟩
            · rw [← e2] at hx
              obtain ⟨p, hp, rfl⟩ := List.mem_map.mp hx
              exact all p hp
          refine ⟨s, L2, rfl, upd_same, fun p hp => by rw [c.K]; exact ex2.tup (e3 p (sub p hp)), ?_⟩
          rw [cnt]
          exact now (w1.new fresh) (Post.ext h1 ex2) (.int _)
      · exact h1.elim
    · exact h1.elim
  · exact h1.elim
end
end Px
end

section
set_option Elab.async false
set_option linter.all false
set_option maxRecDepth 100000
set_option maxHeartbeats 1000000
/-! Px: a lambda handed to a def that tries it. -/
namespace Px
open PySem PySem.Spec PyProof.Rows L2
section
variable {X : Cx} {Y : Fx} {B : Tb} {N : List Str} {sc : Scope} {fnb : Str → Bool} {k : Nat} {W : WX} {P : PC}
theorem lamc_post {c' : Nat → List D → M D} {n : Nat} {t : Td} {a : RE} {σ : L2.St} {H : Hp} {Q : VK} (hP : P.low = some c') (h : tE Y W (den (.lamc n t a) P) σ H Q) :
    LamX.tLam Y.T (tdTT Y t) (fun E => tE Y (fun cls d _ H => E cls d H) (den a ⟨c', none⟩)) σ H Q := by
  obtain ⟨ρ, as, S, hρ, w, h⟩ := h
  have e0 : den (.lamc n t a) P ρ S = tdR t (den a ⟨c', none⟩ ρ S) := by
    show (match P.low with
      | some c => tdR t (den a ⟨c, none⟩ ρ S)
      | none => .bad) = _
    rw [hP]
  rw [e0] at h
  refine ⟨w.tabs, fun H1 eN tN => ?_⟩
  have ex := Ext.ofN (as := as) eN
  refine ⟨ρ, as, S, hρ.ext ex, w.ofN eN tN, ?_⟩
  cases e : den a ⟨c', none⟩ ρ S with
  | bad => rw [e] at h; exact h
  | ok d S1 =>
    rw [e] at h
    exact fun H2 as2 e2 w2 v r u hu => h H2 as2 (ex.trans e2) w2 u (cvD_rep hu H2 as2)
  | exc c S1 =>
    rw [e] at h
    replace h : Post Y H as σ W (match tdAt t.at_ c with
      | some d => .ok d S1
      | none => .bad) (zE Y Q) := h
    cases q : tdAt t.at_ c with
    | none => rw [q] at h; exact h.elim
    | some d =>
      rw [q] at h
      exact fun H2 as2 e2 w2 => ⟨rfl, c, d, rfl, q, w2.tabs, fun H3 eN3 tN3 u hu => h H3 as2 ((ex.trans e2).trans (Ext.ofN (as := as2) eN3)) (w2.ofN eN3 tN3) u (cvD_rep hu H3 as2)⟩
theorem noArgs_ok {p : Arguments} (h : noArgs p = true) : p = ⟨[], [], none, [], [], none, []⟩ := by
  obtain ⟨po, ar, va, ko, kd, kw, df⟩ := p
  simp only [noArgs, Bool.and_eq_true, List.isEmpty_iff, Option.isNone_iff_eq_none] at h
  obtain ⟨h1, h2, h3, h4, h5, h6, h7⟩ := h
  rw [h1, h2, h3, h4, h5, h6, h7]
theorem e_lamc (c : Cg X Y B N sc fnb k) (hC : CallsOk X Y B P k) {n : Nat} {t : Td} {a : RE} {x : Str} {ps : Arguments} {e : PySem.Expr} {scope : Scope} {q p2 p : Pos}
    (h : (B.lam && (glB sc x && (nodbg x && (tdB B n x t && (noArgs ps && LamX.lamSB sc scope))))) = true)
    (ih : ∀ {X' : Cx} {fnb' : Str → Bool} {W' : WX} {k' : Nat} {P' : PC}, Cg X' Y B N scope fnb' k' → L2N.Takes X' W' → CallsOk X' Y B P' k' → PE X' e (tE Y W' (den a P'))) :
    PE X (.Call (.Name x q) [.Lambda ps e scope p2] [] p) (tE Y W (den (.lamc n t a) P)) := by
  simp only [Bool.and_eq_true] at h
  obtain ⟨h1, h2, h3, h4, h5, h6⟩ := h
  cases hP : P.low with
  | none =>
    refine ⟨fun pins s σ H Q I hq => ?_⟩
    obtain ⟨ρ, as, S, hρ, w, hq⟩ := hq
    have e0 : den (.lamc n t a) P ρ S = .bad := by
      show (match P.low with
        | some c => tdR t (den a ⟨c, none⟩ ρ S)
        | none => .bad) = _
      rw [hP]
    rw [e0] at hq
    exact hq.elim
  | some c' =>
    obtain ⟨j, ej, hfn, hmk⟩ := hC.low c' hP
    obtain ⟨cd, TP, TB, hcode, hmT, hu⟩ := hmk h1
    obtain ⟨g, b, pg, bg, sg, dV, kV, doc, pm, cdv, ct, oc, an, od, osl, Ng, f1, f2, f3, f4, f5, f6, f7, f8, f9, f10⟩ := (c.tb.td n x t (tdB_ok h4)).ex
    obtain ⟨d1, d2⟩ := nodbg_ok h3
    obtain ⟨d3, d4⟩ := nodbg_ok f9
    have L : LamX.LamS X.env.scope scope := by rw [c.sc]; exact LamX.lamS_by h6
    have ea := noArgs_ok h5
    subst ea
    rw [← c.K] at f2 f3 f4 f5
    refine (PxN.lamcallN (t := fun E => tE Y (fun cls d _ H => E cls d H) (den a ⟨c', none⟩)) (TT := tdTT Y t) (c.gl h2) f1 f2 f3 f4 f5 f6 f7 f8 (f10 X _ c.K rfl) TB hcode hmT hu (ej ▸ c.room) L rfl (fun _ _ _ _ _ => rfl) (fun A outer s H E f cc hr => ?_) d1 d3 d4).mono fun σ H Q h => lamc_post hP h
    have c2 : Cg (PxN.lamC X A outer s H E scope f cc) Y B N scope (fun _ => false) j := ⟨rfl, c.n, c.nd, rfl, c.K, rfl, hr, PassesOwn.leaving, c.tb⟩
    exact ih c2 (L2N.takes_of rfl rfl rfl rfl) ⟨hfn, fun c z => by cases z⟩
end
end Px
end

section
set_option Elab.async false
set_option linter.all false
set_option maxRecDepth 100000
set_option maxHeartbeats 4000000
/-! Px: every expression that the checker takes, by its meaning. -/
namespace Px
open PySem PySem.Spec PyProof.Rows L2
section
variable {X : Cx} {Y : Fx} {B : Tb} {N : List Str} {sc : Scope} {fnb : Str → Bool} {k : Nat} {W : WX} {P : PC}
theorem Post.toF {H : Hp} {as : Ad} {σ : L2.St} {W W' : WX} {Z : D → Hp → Ad → Prop} {d : D} {S : Sto} (h : Post Y H as σ W (.ok d S) Z) : Post Y H as σ W' (.ok d S) Z := h
/-- a comprehension's wish -/
theorem comp_post {mu : Bool} {elt : RE} {own : List Nat} {tg : Tg} {it cond : RE} {σ : L2.St} {H : Hp} {Q : VK} (hown : tgIn tg own = true) (h : tE Y W (den (.comp mu elt own tg it cond) P) σ H Q) :
    tLc (tI Y W (den it P)) (gT Y tg) (tT Y (fun _ _ _ _ => False) (den cond P)) (tE Y (fun _ _ _ _ => False) (den elt P)) own σ H Q := by
  obtain ⟨ρ, as, S, hρ, w, h⟩ := h
  refine ⟨ρ, as, S, hρ, w, ?_⟩
  replace h : Post Y H as σ W ((den it P ρ S).bind (compZ (itemZ (den cond P) (den elt P) own tg ρ) mu)) (zE Y Q) := h
  cases e : den it P ρ S with
  | bad => rw [e] at h; exact h
  | exc c s => rw [e] at h; exact h
  | ok d S1 =>
    rw [e] at h
    refine fun H1 as1 ex w1 => ?_
    have h1 : Post Y H1 as1 σ W (compZ (itemZ (den cond P) (den elt P) own tg ρ) mu d S1) (zE Y Q) := Post.ext h ex
    cases d with
    | lst xs =>
      refine ⟨_, rfl, fun J wk => ?_⟩
      replace h1 : Post Y H1 as1 σ W (if fit xs.length = true then (compL (itemZ (den cond P) (den elt P) own tg ρ) xs [] S1).bind fun ys s => allocL mu ys s else .bad) (zE Y Q) := h1
      split at h1
      · rename_i hf
        have e2 := compL_M (f := itemZ (den cond P) (den elt P) own tg ρ) (xs := xs) xs.length 0 [] S1 (by omega)
        rw [List.drop_zero] at e2
        rw [e2] at h1
        exact comp_run hown (hρ.ext ex) w1 wk hf h1
      · exact h1.elim
    | cel i =>
      refine ⟨_, rfl, fun J wk => ?_⟩
      replace h1 : Post Y H1 as1 σ W (match (generalizing := false) (fun S : Sto => S[i]?) S1 with
        | some xs => if fit xs.length = true then (compM (itemZ (den cond P) (den elt P) own tg ρ) (fun S : Sto => S[i]?) xs.length 0 [] S1).bind fun ys s => allocL mu ys s else .bad
        | none => .bad) (zE Y Q) := h1
      split at h1
      · split at h1
        · rename_i hf
          exact comp_run hown (hρ.ext ex) w1 wk hf h1
        · exact h1.elim
      · exact h1.elim
    | zc i ys =>
      refine ⟨_, rfl, fun J wk => ?_⟩
      replace h1 : Post Y H1 as1 σ W (match (generalizing := false) (fun S : Sto => match S[i]? with
          | some xs => some (zipL xs ys)
          | none => none) S1 with
        | some xs => if fit xs.length = true then (compM (itemZ (den cond P) (den elt P) own tg ρ) (fun S : Sto => match S[i]? with
          | some xs => some (zipL xs ys)
          | none => none) xs.length 0 [] S1).bind fun ys s => allocL mu ys s else .bad
        | none => .bad) (zE Y Q) := h1
      split at h1
      · split at h1
        · rename_i hf
          exact comp_run hown (hρ.ext ex) w1 wk hf h1
        · exact h1.elim
      · exact h1.elim
    | _ => exact h1.elim
/-- the context of a block -/
theorem Cg.blk (c : Cg X Y B N sc fnb k) {scope : Scope} (s : Shared) (H : Hp) (C : Addr) (cl : List (Str × Addr)) (fp : List Addr) : Cg (X.blk s H scope (compEnvC scope cl C X.env) fp) Y B N (relS scope sc) (blkFn scope) k where
  calm := c.calm
  n := c.n
  nd := c.nd
  sc := by rw [← c.sc]; rfl
  K := c.K
  fnb := rfl
  room := c.room
  pass := PassesOwn.never
  tb := c.tb
theorem CallsOk.blk (h : CallsOk X Y B P k) {scope : Scope} (s : Shared) (H : Hp) (C : Addr) (cl : List (Str × Addr)) (fp : List Addr) : CallsOk (X.blk s H scope (compEnvC scope cl C X.env) fp) Y B P k := ⟨h.fn, h.low⟩

/-- what a tree of ours is good for -/
structure Rules (X : Cx) (Y : Fx) (B : Tb) (N : List Str) (sc : Scope) (W : WX) (P : PC) (r : RE) : Prop where
  E : ∀ e, chk B N r sc (.E e) = true → PE X e (tE Y W (den r P))
  T : ∀ e, tst r = true → chk B N r sc (.E e) = true → PT X e (tT Y W (den r P))
  Wb : ∀ o es p, tst r = true → chk B N r sc (.E (.BoolOp o es p)) = true → PW X (.BoolOp o es p) (tT Y W (den r P))
  L : ∀ es, chk B N r sc (.L es) = true → PA X es (tAs Y W (den r P))
  I : ∀ tg e, chk B N r sc (.I tg e) = true → PI X tg e (tI Y W (den r P))
theorem noF {α : Prop} (h : false = true) : α := absurd h Bool.false_ne_true

/-- a value rule is a rule for tests too -/
theorem Rules.ofE {r : RE} (hE : ∀ e, chk B N r sc (.E e) = true → PE X e (tE Y W (den r P)) ∧ ∀ whole, isTrue e X.env whole = (do let v ← whole; standAt e.pos; holding [v] (truthy v)))
    (hW : ∀ o es p, chk B N r sc (.E (.BoolOp o es p)) = false) (hL : ∀ es, chk B N r sc (.L es) = false) (hI : ∀ tg e, chk B N r sc (.I tg e) = false) : Rules X Y B N sc W P r where
  E := fun e h => (hE e h).1
  T := fun e _ h => t_val (hE e h).1 (hE e h).2
  Wb := fun o es p _ h => noF ((hW o es p).symm.trans h)
  L := fun es h => noF ((hL es).symm.trans h)
  I := fun tg e h => noF ((hI tg e).symm.trans h)
theorem Rules.ofI {r : RE} (hI : ∀ tg e, chk B N r sc (.I tg e) = true → PI X tg e (tI Y W (den r P))) (hE : ∀ e, chk B N r sc (.E e) = false) (hL : ∀ es, chk B N r sc (.L es) = false) : Rules X Y B N sc W P r where
  E := fun e h => noF ((hE e).symm.trans h)
  T := fun e _ h => noF ((hE e).symm.trans h)
  Wb := fun o es p _ h => noF ((hE _).symm.trans h)
  L := fun es h => noF ((hL es).symm.trans h)
  I := hI
theorem Rules.ofL {r : RE} (hL : ∀ es, chk B N r sc (.L es) = true → PA X es (tAs Y W (den r P))) (hE : ∀ e, chk B N r sc (.E e) = false) (hI : ∀ tg e, chk B N r sc (.I tg e) = false) : Rules X Y B N sc W P r where
  E := fun e h => noF ((hE e).symm.trans h)
  T := fun e _ h => noF ((hE e).symm.trans h)
  Wb := fun o es p _ h => noF ((hE _).symm.trans h)
  L := hL
  I := fun tg e h => noF ((hI tg e).symm.trans h)
theorem mk2 {a b : Bool} (h : a = true) (k : b = true) : (a && b) = true := by rw [h, k]; rfl
theorem and2 {a b : Bool} (h : (a && b) = true) : a = true ∧ b = true := by rwa [Bool.and_eq_true] at h

theorem rules (r : RE) : ∀ {X : Cx} {sc : Scope} {fnb : Str → Bool} {W : WX} {k : Nat} {P : PC}, Cg X Y B N sc fnb k → L2N.Takes X W → CallsOk X Y B P k → Rules X Y B N sc W P r := by
  induction r with
  | var i =>
    intro X sc fnb W k P c tk hC
    refine .ofE (fun e h => ?_) (fun _ _ _ => rfl) (fun es => by cases es <;> rfl) (fun _ _ => rfl)
    obtain ⟨x, p, rfl, h⟩ := inv_var h
    exact ⟨e_var c h, fun _ => rfl⟩
  | c d =>
    intro X sc fnb W k P c tk hC
    refine .ofE (fun e h => ?_) (fun _ _ _ => rfl) (fun es => by cases es <;> rfl) (fun _ _ => rfl)
    cases e with
    | Constant j n p => exact ⟨e_const h, fun _ => rfl⟩
    | Name x p => exact ⟨e_cst c h, fun _ => rfl⟩
    | _ => exact noF h
  | gl n =>
    intro X sc fnb W k P c tk hC
    refine .ofE (fun e h => ?_) (fun _ _ _ => rfl) (fun es => by cases es <;> rfl) (fun _ _ => rfl)
    obtain ⟨x, p, rfl, h⟩ := inv_gl h
    exact ⟨e_gl c h, fun _ => rfl⟩
  | nil =>
    intro X sc fnb W k P c tk hC
    refine .ofL (fun es h => ?_) (fun e => by cases e <;> rfl) (fun _ _ => rfl)
    cases es with
    | nil => exact a_nil
    | cons _ _ => exact noF h
  | cons a r iha ihr =>
    intro X sc fnb W k P c tk hC
    refine .ofL (fun es h => ?_) (fun e => by cases e <;> rfl) (fun _ _ => rfl)
    cases es with
    | nil => exact noF h
    | cons e es =>
      obtain ⟨h1, h2⟩ := and2 (show (plainE e && (chk B N a sc (.E e) && chk B N r sc (.L es))) = true from h)
      obtain ⟨h2, h3⟩ := and2 h2
      exact a_cons h1 ((iha c tk hC).E e h2) ((ihr c tk hC).L es h3)
  | tup l ih =>
    intro X sc fnb W k P c tk hC
    refine .ofE (fun e h => ?_) (fun _ _ _ => rfl) (fun es => by cases es <;> rfl) (fun _ _ => rfl)
    obtain ⟨es, n, p, rfl, h⟩ := inv_tup h
    obtain ⟨h1, h2⟩ := and2 h
    exact ⟨e_tup h2 h1 ((ih c tk hC).L es h2), fun _ => rfl⟩
  | lst mu l ih =>
    intro X sc fnb W k P c tk hC
    refine .ofE (fun e h => ?_) (fun _ _ _ => rfl) (fun es => by cases es <;> rfl) (fun _ _ => rfl)
    obtain ⟨es, p, rfl, h⟩ := inv_lst h
    obtain ⟨h1, h2⟩ := and2 h
    exact ⟨e_lst h2 h1 ((ih c tk hC).L es h2), fun _ => rfl⟩
  | bin op mu a b iha ihb =>
    intro X sc fnb W k P c tk hC
    refine .ofE (fun e h => ?_) (fun _ _ _ => rfl) (fun es => by cases es <;> rfl) (fun _ _ => rfl)
    obtain ⟨x, o, y, p, rfl, h⟩ := inv_bin h
    obtain ⟨h1, h2⟩ := and2 h
    obtain ⟨h2, h3⟩ := and2 h2
    exact ⟨e_bin c h1 ((iha c tk hC).E x h2) ((ihb c tk hC).E y h3), fun _ => rfl⟩
  | neg a ih =>
    intro X sc fnb W k P c tk hC
    refine .ofE (fun e h => ?_) (fun _ _ _ => rfl) (fun es => by cases es <;> rfl) (fun _ _ => rfl)
    obtain ⟨x, p, rfl, h⟩ := inv_neg h
    exact ⟨e_neg ((ih c tk hC).E x h), fun _ => rfl⟩
  | cmp op a b iha ihb =>
    intro X sc fnb W k P c tk hC
    refine ⟨fun e h => ?_, fun e _ h => ?_, fun _ _ _ _ h => noF h, fun es h => by cases es <;> exact noF h, fun _ _ h => noF h⟩
    · obtain ⟨x, o, y, p, rfl, h⟩ := inv_cmp h
      obtain ⟨h1, h2⟩ := and2 h
      obtain ⟨h2, h3⟩ := and2 h2
      obtain ⟨h3, h4⟩ := and2 h3
      exact e_cmp c h1 h2 ((iha c tk hC).E x h3) ((ihb c tk hC).E y h4)
    · obtain ⟨x, o, y, p, rfl, h⟩ := inv_cmp h
      obtain ⟨h1, h2⟩ := and2 h
      obtain ⟨h2, h3⟩ := and2 h2
      obtain ⟨h3, h4⟩ := and2 h3
      exact t_cmp c h1 h2 ((iha c tk hC).E x h3) ((ihb c tk hC).E y h4)
  | chain o1 o2 a b d iha ihb ihd =>
    intro X sc fnb W k P c tk hC
    refine ⟨fun e h => ?_, fun e _ h => ?_, fun _ _ _ _ h => noF h, fun es h => by cases es <;> exact noF h, fun _ _ h => noF h⟩
    · obtain ⟨x, p1, p2, y, z, p, rfl, h⟩ := inv_chain h
      obtain ⟨h1, h⟩ := and2 h
      obtain ⟨h2, h⟩ := and2 h
      obtain ⟨h3, h⟩ := and2 h
      obtain ⟨h4, h⟩ := and2 h
      obtain ⟨h5, h6⟩ := and2 h
      exact e_chain c h1 h2 h3 ((iha c tk hC).E x h4) ((ihb c tk hC).E y h5) ((ihd c tk hC).E z h6)
    · obtain ⟨x, p1, p2, y, z, p, rfl, h⟩ := inv_chain h
      obtain ⟨h1, h⟩ := and2 h
      obtain ⟨h2, h⟩ := and2 h
      obtain ⟨h3, h⟩ := and2 h
      obtain ⟨h4, h⟩ := and2 h
      obtain ⟨h5, h6⟩ := and2 h
      exact t_chain c h1 h2 h3 ((iha c tk hC).E x h4) ((ihb c tk hC).E y h5) ((ihd c tk hC).E z h6)
  | and a b iha ihb =>
    intro X sc fnb W k P c tk hC
    have hw : ∀ e, tst (.and a b) = true → chk B N (.and a b) sc (.E e) = true → PW X e (tT Y W (den (.and a b) P)) := by
      intro e ht h
      obtain ⟨t1, t2⟩ := and2 (show (tst a && tst b) = true from ht)
      obtain ⟨x, y, rest, p, rfl, h⟩ := inv_and h
      obtain ⟨h1, h2⟩ := and2 h
      refine t_and ((iha c tk hC).T x t1 h1) ?_
      cases rest with
      | nil => exact pw_and1 ((ihb c tk hC).T y t2 h2)
      | cons z t => exact (ihb c tk hC).Wb _ _ _ t2 h2
    refine ⟨fun e h => ?_, fun e ht h => (hw e ht h).pt, fun _ _ _ ht h => hw _ ht h, fun es h => by cases es <;> exact noF h, fun _ _ h => noF h⟩
    obtain ⟨x, y, rest, p, rfl, h⟩ := inv_and h
    obtain ⟨h1, h2⟩ := and2 h
    refine e_and ((iha c tk hC).E x h1) ?_
    cases rest with
    | nil => exact pe_one ((ihb c tk hC).E y h2)
    | cons z t => exact (ihb c tk hC).E _ h2
  | or a b iha ihb =>
    intro X sc fnb W k P c tk hC
    have hw : ∀ e, tst (.or a b) = true → chk B N (.or a b) sc (.E e) = true → PW X e (tT Y W (den (.or a b) P)) := by
      intro e ht h
      obtain ⟨t1, t2⟩ := and2 (show (tst a && tst b) = true from ht)
      obtain ⟨x, y, rest, p, rfl, h⟩ := inv_or h
      obtain ⟨h1, h2⟩ := and2 h
      refine t_or ((iha c tk hC).T x t1 h1) ?_
      cases rest with
      | nil => exact pw_or1 ((ihb c tk hC).T y t2 h2)
      | cons z t => exact (ihb c tk hC).Wb _ _ _ t2 h2
    refine ⟨fun e h => ?_, fun e ht h => (hw e ht h).pt, fun _ _ _ ht h => hw _ ht h, fun es h => by cases es <;> exact noF h, fun _ _ h => noF h⟩
    obtain ⟨x, y, rest, p, rfl, h⟩ := inv_or h
    obtain ⟨h1, h2⟩ := and2 h
    refine e_or ((iha c tk hC).E x h1) ?_
    cases rest with
    | nil => exact pe_one ((ihb c tk hC).E y h2)
    | cons z t => exact (ihb c tk hC).E _ h2
  | not a ih =>
    intro X sc fnb W k P c tk hC
    refine ⟨fun e h => ?_, fun e _ h => ?_, fun _ _ _ _ h => noF h, fun es h => by cases es <;> exact noF h, fun _ _ h => noF h⟩
    · obtain ⟨x, p, rfl, h⟩ := inv_not h
      obtain ⟨h1, h2⟩ := and2 h
      exact e_not ((ih c tk hC).E x h2)
    · obtain ⟨x, p, rfl, h⟩ := inv_not h
      obtain ⟨h1, h2⟩ := and2 h
      exact t_not ((ih c tk hC).T x h1 h2)
  | ite d a b ihd iha ihb =>
    intro X sc fnb W k P c tk hC
    refine ⟨fun e h => ?_, fun e ht h => noF ht, fun _ _ _ _ h => noF h, fun es h => by cases es <;> exact noF h, fun _ _ h => noF h⟩
    obtain ⟨x, y, z, p, rfl, h⟩ := inv_ite h
    obtain ⟨h1, h⟩ := and2 h
    obtain ⟨h2, h⟩ := and2 h
    obtain ⟨h3, h4⟩ := and2 h
    exact e_ite ((ihd c tk hC).T x h1 h2) ((iha c tk hC).E y h3) ((ihb c tk hC).E z h4)
  | call n l ih =>
    intro X sc fnb W k P c tk hC
    refine .ofE (fun e h => ?_) (fun _ _ _ => rfl) (fun es => by cases es <;> rfl) (fun _ _ => rfl)
    obtain ⟨x, q, e1, es, p, rfl, h⟩ := inv_call h
    obtain ⟨h1, h⟩ := and2 h
    obtain ⟨h2, h⟩ := and2 h
    obtain ⟨h3, h⟩ := and2 h
    obtain ⟨h4, h5⟩ := and2 h
    exact ⟨e_call c tk hC h1 h2 (fnB_ok h3) h4 ((ih c tk hC).L _ h5), fun _ => rfl⟩
  | callv i l ih =>
    intro X sc fnb W k P c tk hC
    refine .ofE (fun e h => ?_) (fun _ _ _ => rfl) (fun es => by cases es <;> rfl) (fun _ _ => rfl)
    obtain ⟨x, q, e1, es, p, rfl, h⟩ := inv_callv h
    obtain ⟨h1, h⟩ := and2 h
    obtain ⟨h2, h⟩ := and2 h
    obtain ⟨h3, h⟩ := and2 h
    obtain ⟨h4, h5⟩ := and2 h
    exact ⟨e_callv c tk hC (of_decide_eq_true h1) h2 h3 h4 ((ih c tk hC).L _ h5), fun _ => rfl⟩
  | bi b mu l ih =>
    intro X sc fnb W k P c tk hC
    refine .ofE (fun e h => ?_) (fun _ _ _ => rfl) (fun es => by cases es <;> rfl) (fun _ _ => rfl)
    obtain ⟨x, q, e1, es, p, rfl, h⟩ := inv_bi h
    obtain ⟨h1, h⟩ := and2 h
    obtain ⟨h2, h⟩ := and2 h
    obtain ⟨h3, h⟩ := and2 h
    obtain ⟨h4, h5⟩ := and2 h
    exact ⟨e_bi c (mk2 h1 (mk2 h2 (mk2 h3 h4))) ((ih c tk hC).L _ h5), fun _ => rfl⟩
  | call0 n =>
    intro X sc fnb W k P c tk hC
    refine .ofE (fun e h => ?_) (fun _ _ _ => rfl) (fun es => by cases es <;> rfl) (fun _ _ => rfl)
    obtain ⟨x, q, p, rfl, h⟩ := inv_call0 h
    obtain ⟨h1, h⟩ := and2 h
    obtain ⟨h2, h3⟩ := and2 h
    exact ⟨e_call0 c tk hC h1 h2 (fnB_ok h3), fun _ => rfl⟩
  | lset a ih =>
    intro X sc fnb W k P c tk hC
    refine .ofE (fun e h => ?_) (fun _ _ _ => rfl) (fun es => by cases es <;> rfl) (fun _ _ => rfl)
    obtain ⟨x, q, y, q2, e1, p2, p, rfl, h⟩ := inv_lset h
    obtain ⟨h1, h⟩ := and2 h
    obtain ⟨h2, h⟩ := and2 h
    obtain ⟨h3, h⟩ := and2 h
    obtain ⟨h4, h⟩ := and2 h
    obtain ⟨h5, h⟩ := and2 h
    obtain ⟨h6, h⟩ := and2 h
    obtain ⟨h7, h8⟩ := and2 h
    exact ⟨e_lset c (by rw [h1, h2, h3, h4, h5, h6, h7]; rfl) ((ih c tk hC).E _ h8), fun _ => rfl⟩
  | lamc n t a ih =>
    intro X sc fnb W k P c tk hC
    refine .ofE (fun e h => ?_) (fun _ _ _ => rfl) (fun es => by cases es <;> rfl) (fun _ _ => rfl)
    obtain ⟨x, q, ps, e1, scope, p2, p, rfl, h⟩ := inv_lamc h
    obtain ⟨h1, h⟩ := and2 h
    obtain ⟨h2, h⟩ := and2 h
    obtain ⟨h3, h⟩ := and2 h
    obtain ⟨h4, h⟩ := and2 h
    obtain ⟨h5, h⟩ := and2 h
    obtain ⟨h6, h7⟩ := and2 h
    exact ⟨e_lamc c hC (by rw [h1, h2, h3, h4, h5, h6]; rfl) fun c' tk' hC' => (ih c' tk' hC').E _ h7, fun _ => rfl⟩
  | isi a t ih =>
    intro X sc fnb W k P c tk hC
    refine .ofE (fun e h => ?_) (fun _ _ _ => rfl) (fun es => by cases es <;> rfl) (fun _ _ => rfl)
    obtain ⟨x, q, e1, ty, q2, p, rfl, h⟩ := inv_isi h
    obtain ⟨h1, h⟩ := and2 h
    obtain ⟨h2, h⟩ := and2 h
    obtain ⟨h3, h⟩ := and2 h
    obtain ⟨h4, h⟩ := and2 h
    obtain ⟨h5, h⟩ := and2 h
    obtain ⟨h6, h⟩ := and2 h
    obtain ⟨h7, h8⟩ := and2 h
    exact ⟨e_isi c (by rw [h1, h2, h3, h4, h5, h6, h7]; rfl) ((ih c tk hC).E _ h8), fun _ => rfl⟩
  | sub a i iha ihi =>
    intro X sc fnb W k P c tk hC
    refine .ofE (fun e h => ?_) (fun _ _ _ => rfl) (fun es => by cases es <;> rfl) (fun _ _ => rfl)
    obtain ⟨x, y, p, rfl, h⟩ := inv_sub h
    obtain ⟨h1, h⟩ := and2 h
    obtain ⟨h2, h3⟩ := and2 h
    exact ⟨e_sub c h1 ((iha c tk hC).E x h2) ((ihi c tk hC).E y h3), fun _ => rfl⟩
  | slc mu a lo hi iha ihl ihh =>
    intro X sc fnb W k P c tk hC
    refine .ofE (fun e h => ?_) (fun _ _ _ => rfl) (fun es => by cases es <;> rfl) (fun _ _ => rfl)
    obtain ⟨x, l, hh, p2, p, rfl, h⟩ := inv_slc h
    obtain ⟨h1, h⟩ := and2 h
    obtain ⟨h2, h3⟩ := and2 h
    refine ⟨e_slc c ((iha c tk hC).E x h1) ?_ ?_, fun _ => rfl⟩
    · cases l with
      | none => exact pt_none h2
      | some l => exact pt_some ((ihl c tk hC).E l h2)
    · cases hh with
      | none => exact pt_none h3
      | some l => exact pt_some ((ihh c tk hC).E l h3)
  | rev mu a ih =>
    intro X sc fnb W k P c tk hC
    refine .ofE (fun e h => ?_) (fun _ _ _ => rfl) (fun es => by cases es <;> rfl) (fun _ _ => rfl)
    obtain ⟨x, i, j, p1, p2, p3, p, rfl, h⟩ := inv_rev h
    obtain ⟨h1, h2⟩ := and2 h
    have e1 : i = 1 := of_decide_eq_true h1
    subst e1
    exact ⟨e_rev c ((ih c tk hC).E x h2), fun _ => rfl⟩
  | meth m a l iha ihl =>
    intro X sc fnb W k P c tk hC
    refine .ofE (fun e h => ?_) (fun _ _ _ => rfl) (fun es => by cases es <;> rfl) (fun _ _ => rfl)
    obtain ⟨o, name, apos, es, p, rfl, h⟩ := inv_meth h
    obtain ⟨h1, h⟩ := and2 h
    obtain ⟨h2, h⟩ := and2 h
    obtain ⟨h3, h⟩ := and2 h
    obtain ⟨h4, h⟩ := and2 h
    obtain ⟨h5, h⟩ := and2 h
    obtain ⟨h6, h7⟩ := and2 h
    exact ⟨e_meth (of_decide_eq_true h1) h2 (of_decide_eq_true h3) h4 h5 h7 ((iha c tk hC).E o h6) ((ihl c tk hC).L es h7), fun _ => rfl⟩
  | comp mu elt own tg it cond ihe ihi ihc =>
    intro X sc fnb W k P c tk hC
    refine .ofE (fun e h => ?_) (fun _ _ _ => rfl) (fun es => by cases es <;> rfl) (fun _ _ => rfl)
    obtain ⟨e1, ⟨gt, gi, gf, ga⟩, scope, p, rfl, h⟩ := inv_comp h
    obtain ⟨h1, h⟩ := and2 h
    obtain ⟨h2, h⟩ := and2 h
    obtain ⟨h3, h⟩ := and2 h
    obtain ⟨h4, h⟩ := and2 h
    obtain ⟨h5, h⟩ := and2 h
    obtain ⟨h6, h⟩ := and2 h
    obtain ⟨h7, h⟩ := and2 h
    obtain ⟨h8, h9⟩ := and2 h
    have ea : ga = 0 := of_decide_eq_true h1
    subst ea
    have eo : (ownB N own).map (·.2) = own := of_decide_eq_true h3
    refine ⟨?_, fun _ => rfl⟩
    have q := pe_lc (X := X) (pos := p) (own := ownB N own) (elt := e1) (tg := gt) (iter := gi) (ifs := gf) (scope := scope) (g := gT Y tg) (tt := tT Y (fun _ _ _ _ => False) (den cond P)) (te := tE Y (fun _ _ _ _ => False) (den elt P)) c.calm (by rw [c.n]; exact c.nd) ((ihi c tk hC).I gt gi h6)
      (by rw [c.n, c.sc]; exact blkOk_by h2) (fun s H C cl fp => ?_) (fun s H C cl fp => ?_) (fun s H C cl fp => (ihe (c.blk s H C cl fp) PxN.takes0 (hC.blk s H C cl fp)).E e1 h9) (fun x => fold_plain h5 _ _)
    · rw [eo] at q
      exact q.mono fun σ H Q h => comp_post h4 h
    · have c' := c.blk (scope := scope) s H C cl fp
      exact (tgs c'.n c'.nd c'.sc c'.fnb c'.K c'.calm tg).1 gt h7
    · have c' := c.blk (scope := scope) s H C cl fp
      cases gf with
      | nil =>
        rw [isYes_ok h8]
        exact ⟨fun pins s σ H Q I ⟨ρ, as, S, hρ, w, h⟩ => pts_nil.run pins s σ H Q I (h H as Ext.refl w)⟩
      | cons c1 cs =>
        cases cs with
        | cons _ _ => exact noF h8
        | nil =>
          obtain ⟨h8, h10⟩ := and2 h8
          exact pts_one ((ihc c' PxN.takes0 (hC.blk s H C cl fp)).T c1 h8 h10)
  | seq a ih =>
    intro X sc fnb W k P c tk hC
    exact .ofI (fun tg e h => i_seq c ((ih c tk hC).E e h)) (fun e => by cases e <;> rfl) (fun es => by cases es <;> rfl)
  | rng l ih =>
    intro X sc fnb W k P c tk hC
    refine .ofI (fun tg e h => ?_) (fun e => by cases e <;> rfl) (fun es => by cases es <;> rfl)
    obtain ⟨x, q, es, p, rfl, h⟩ := inv_rng h
    obtain ⟨h1, h⟩ := and2 h
    obtain ⟨h2, h⟩ := and2 h
    obtain ⟨h3, h⟩ := and2 h
    obtain ⟨h4, h⟩ := and2 h
    obtain ⟨h5, h6⟩ := and2 h
    exact i_rng c (mk2 h1 (mk2 h2 (mk2 h3 (mk2 h4 h5)))) h6 ((ih c tk hC).L _ h6)
  | zip a b iha ihb =>
    intro X sc fnb W k P c tk hC
    refine .ofI (fun tg e h => ?_) (fun e => by cases e <;> rfl) (fun es => by cases es <;> rfl)
    obtain ⟨x, q, e1, e2, p, rfl, h⟩ := inv_zip h
    obtain ⟨h1, h⟩ := and2 h
    obtain ⟨h2, h⟩ := and2 h
    obtain ⟨h3, h⟩ := and2 h
    obtain ⟨h4, h⟩ := and2 h
    obtain ⟨h5, h⟩ := and2 h
    obtain ⟨h6, h⟩ := and2 h
    obtain ⟨h7, h8⟩ := and2 h
    exact i_zip c (by rw [h1, h2, h3, h4, h5, h6]; rfl) ((iha c tk hC).E _ h7) ((ihb c tk hC).E _ h8)
  | enum a ih =>
    intro X sc fnb W k P c tk hC
    refine .ofI (fun tg e h => ?_) (fun e => by cases e <;> rfl) (fun es => by cases es <;> rfl)
    obtain ⟨x, q, e1, p, rfl, h⟩ := inv_enum h
    obtain ⟨h1, h⟩ := and2 h
    obtain ⟨h2, h⟩ := and2 h
    obtain ⟨h3, h⟩ := and2 h
    obtain ⟨h4, h⟩ := and2 h
    obtain ⟨h5, h6⟩ := and2 h
    exact i_enum c (by rw [h1, h2, h3, h4, h5]; rfl) ((ih c tk hC).E _ h6)
end
end Px
end

section
set_option Elab.async false
set_option linter.all false
set_option maxRecDepth 100000
set_option maxHeartbeats 1000000
/-! Px: statements: readings, stores. -/
namespace L2
open PySem PySem.Spec PyProof.Rows
theorem PS.mono {X : Cx} {st : Stmt} {t t' : TS} (h : PS X st t) (k : ∀ D σ H, t' D σ H → t D σ H) : PS X st t' := ⟨fun pins s σ H D I q => h.run pins s σ H D I (k _ _ _ q)⟩
theorem PSs.mono {X : Cx} {st : List Stmt} {t t' : TS} (h : PSs X st t) (k : ∀ D σ H, t' D σ H → t D σ H) : PSs X st t' := ⟨fun pins s σ H D I q => h.run pins s σ H D I (k _ _ _ q)⟩
end L2
namespace Px
open PySem PySem.Spec PyProof.Rows L2

def PostS (Y : Fx) (H : Hp) (as : Ad) (E : Ends) (W : WX) (r : F) : Prop := match r with
  | .nx ρ S => ∀ σ' H' as', Ext H as H' as' → Wd Y H' as' S → EnvR Y H' as' ρ σ' → E.nx σ' H'
  | .bk ρ S => ∀ σ' H' as', Ext H as H' as' → Wd Y H' as' S → EnvR Y H' as' ρ σ' → E.bk σ' H'
  | .ct ρ S => ∀ σ' H' as', Ext H as H' as' → Wd Y H' as' S → EnvR Y H' as' ρ σ' → E.ct σ' H'
  | .rt d S => ∀ v H' as', Ext H as H' as' → Wd Y H' as' S → Rep Y H' as' d v → E.rt v H'
  | .ex c ρ S => ∀ σ' H' as', Ext H as H' as' → Wd Y H' as' S → EnvR Y H' as' ρ σ' → W (.ref (Y.ca c)) none σ' H'
  | .bad => False
def tS (Y : Fx) (W : WX) (m : Env → Sto → F) : TS := fun E σ H => ∃ ρ as S, EnvR Y H as ρ σ ∧ Wd Y H as S ∧ PostS Y H as E W (m ρ S)
section
variable {Y : Fx} {H H' : Hp} {as as' : Ad} {S : Sto} {ρ : Env} {σ : L2.St} {W : WX} {E E' : Ends}
theorem PostS.ext {r : F} (h : PostS Y H as E W r) (e : Ext H as H' as') : PostS Y H' as' E W r := by
  cases r with
  | bad => exact h
  | nx ρ S => exact fun σ' H2 as2 f => h σ' H2 as2 (e.trans f)
  | bk ρ S => exact fun σ' H2 as2 f => h σ' H2 as2 (e.trans f)
  | ct ρ S => exact fun σ' H2 as2 f => h σ' H2 as2 (e.trans f)
  | rt d S => exact fun v H2 as2 f => h v H2 as2 (e.trans f)
  | ex c ρ S => exact fun σ' H2 as2 f => h σ' H2 as2 (e.trans f)
/-- an expression, then the rest -/
theorem post_fl {m : Env → Sto → R D} {kk : D → Sto → F} {T : VK} (hρ : EnvR Y H as ρ σ) (w : Wd Y H as S) (h : PostS Y H as E W ((m ρ S).fl ρ kk))
    (hk : ∀ d v S' H' as', Ext H as H' as' → Wd Y H' as' S' → EnvR Y H' as' ρ σ → Rep Y H' as' d v → PostS Y H' as' E W (kk d S') → T v H') : tE Y W m σ H T := by
  refine ⟨ρ, as, S, hρ, w, ?_⟩
  cases e : m ρ S with
  | ok d S' =>
    rw [e] at h
    exact fun H' as' ex w' v r => hk d v S' H' as' ex w' (hρ.ext ex) r (PostS.ext h ex)
  | exc c S' =>
    rw [e] at h
    exact fun H' as' ex w' => h σ H' as' ex w' (hρ.ext ex)
  | bad =>
    rw [e] at h
    exact h
theorem post_flT {m : Env → Sto → R D} {kk : D → Sto → F} {T : Bool → Hp → Prop} (hρ : EnvR Y H as ρ σ) (w : Wd Y H as S) (h : PostS Y H as E W ((m ρ S).fl ρ kk)) (hn : ∀ d S' H' as', (∀ b, d ≠ .bl b) → PostS Y H' as' E W (kk d S') → False)
    (hk : ∀ b S' H' as', Ext H as H' as' → Wd Y H' as' S' → EnvR Y H' as' ρ σ → PostS Y H' as' E W (kk (.bl b) S') → T b H') : tT Y W m σ H T := by
  refine ⟨ρ, as, S, hρ, w, ?_⟩
  cases e : m ρ S with
  | ok d S' =>
    rw [e] at h
    refine fun H' as' ex w' => ?_
    have h' : PostS Y H' as' E W (kk d S') := PostS.ext h ex
    cases d with
    | bl b => exact hk b S' H' as' ex w' (hρ.ext ex) h'
    | _ => exact hn _ S' H' as' (fun b z => by cases z) h'
  | exc c S' =>
    rw [e] at h
    exact fun H' as' ex w' => h σ H' as' ex w' (hρ.ext ex)
  | bad =>
    rw [e] at h
    exact h
theorem post_flI {m : Env → Sto → R D} {kk : D → Sto → F} {T : It → Hp → Prop} (hρ : EnvR Y H as ρ σ) (w : Wd Y H as S) (h : PostS Y H as E W ((m ρ S).fl ρ kk))
    (hk : ∀ d S' H' as', Ext H as H' as' → Wd Y H' as' S' → EnvR Y H' as' ρ σ → PostS Y H' as' E W (kk d S') → zI Y T d H' as') : tI Y W m σ H T := by
  refine ⟨ρ, as, S, hρ, w, ?_⟩
  cases e : m ρ S with
  | ok d S' =>
    rw [e] at h
    exact fun H' as' ex w' => hk d S' H' as' ex w' (hρ.ext ex) (PostS.ext h ex)
  | exc c S' =>
    rw [e] at h
    exact fun H' as' ex w' => h σ H' as' ex w' (hρ.ext ex)
  | bad =>
    rw [e] at h
    exact h
/-- a statement, then the next -/
theorem post_seq {r : F} {kk : Env → Sto → F} (h : PostS Y H as E W (r.seq kk)) {Nx : L2.St → Hp → Prop} (hk : ∀ ρ' S' σ' H' as', Ext H as H' as' → Wd Y H' as' S' → EnvR Y H' as' ρ' σ' → PostS Y H' as' E W (kk ρ' S') → Nx σ' H') : PostS Y H as { E with nx := Nx } W r := by
  cases r with
  | bad => exact h
  | nx ρ S => exact fun σ' H2 as2 e w hr => hk ρ S σ' H2 as2 e w hr (PostS.ext h e)
  | bk ρ S => exact h
  | ct ρ S => exact h
  | rt d S => exact h
  | ex c ρ S => exact h
/-- a loop's turn, then the next -/
theorem post_turn {r : F} {kk : Env → Sto → F} (h : PostS Y H as E W (r.turn kk)) {Nx : L2.St → Hp → Prop} (hk : ∀ ρ' S' σ' H' as', Ext H as H' as' → Wd Y H' as' S' → EnvR Y H' as' ρ' σ' → PostS Y H' as' E W (kk ρ' S') → Nx σ' H') : PostS Y H as { E with nx := Nx, ct := Nx, bk := E.nx } W r := by
  cases r with
  | bad => exact h
  | nx ρ S => exact fun σ' H2 as2 e w hr => hk ρ S σ' H2 as2 e w hr (PostS.ext h e)
  | bk ρ S => exact h
  | ct ρ S => exact fun σ' H2 as2 e w hr => hk ρ S σ' H2 as2 e w hr (PostS.ext h e)
  | rt d S => exact h
  | ex c ρ S => exact h
theorem nowS (w : Wd Y H as S) (hρ : EnvR Y H as ρ σ) (h : PostS Y H as E W (.nx ρ S)) : E.nx σ H := h σ H as Ext.refl w hρ
end
section
variable {X : Cx} {Y : Fx} {B : Tb} {N : List Str} {sc : Scope} {fnb : Str → Bool} {k : Nat} {W : WX} {P : PC}
/-! ### loops -/
theorem forL_M {f : D → Env → Sto → F} {xs : List D} : ∀ (m i : Nat) (ρ : Env) (s : Sto), i + m = xs.length → forL f (xs.drop i) ρ s = forM f (fun _ => some xs) m i ρ s
  | 0, i, ρ, s, h => by
    rw [List.drop_eq_nil_of_le (by omega)]
    show F.nx ρ s = if xs.length ≤ i then F.nx ρ s else .bad
    rw [if_pos (by omega)]
  | m + 1, i, ρ, s, h => by
    have hi : i < xs.length := by omega
    rw [List.drop_eq_getElem_cons hi]
    show (f xs[i] ρ s).turn _ = match xs[i]? with
      | some x => (f x ρ s).turn _
      | none => .bad
    rw [List.getElem?_eq_getElem hi]
    show (f xs[i] ρ s).turn _ = (f xs[i] ρ s).turn _
    congr 1
    funext ρ' s'
    exact forL_M m (i + 1) ρ' s' (by omega)
def bodyF (f : Env → Sto → F) (tg : Tg) : D → Env → Sto → F := fun y ρ s => match setT s tg y ρ with
  | some ρ' => f ρ' s
  | none => .bad
theorem for_run {f : Env → Sto → F} {tg : Tg} {E : Ends} {σ : L2.St} {H : Hp} {as : Ad} {S : Sto} {ρ : Env} {J : It} {g : Sto → Option (List D)} {n : Nat} (hρ : EnvR Y H as ρ σ) (w : Wd Y H as S) (wk : Wk Y H as J g)
    (h : PostS Y H as E W (forM (bodyF f tg) g n 0 ρ S)) :
    ∃ Wm : Nat → Nat → L2.St → Hp → Prop, (∃ m, Wm 0 m σ H) ∧ ∀ i m σ H, Wm i m σ H →
      (J.stop i H ∧ E.nx σ H) ∨ (J.go i H ∧ ∃ Nx : L2.St → Hp → Prop, (∀ σ' H', Nx σ' H' → ∃ m', m' < m ∧ Wm (i + 1) m' σ' H') ∧ ∀ x H', J.yld i H x H' → gT Y tg x σ H' fun σ2 H2 => tS Y W f { E with nx := Nx, ct := Nx, bk := E.nx } σ2 H2) := by
  let Wm : Nat → Nat → L2.St → Hp → Prop := fun i m σ H => ∃ (as : Ad) (S : Sto) (ρ : Env), EnvR Y H as ρ σ ∧ Wd Y H as S ∧ Wk Y H as J g ∧ PostS Y H as E W (forM (bodyF f tg) g m i ρ S)
  refine ⟨Wm, ⟨n, as, S, ρ, hρ, w, wk, h⟩, ?_⟩
  rintro i m σ H ⟨as, S, ρ, hρ, w, wk, h⟩
  cases m with
  | zero =>
    replace h : PostS Y H as E W (match g S with
      | some xs => if xs.length ≤ i then .nx ρ S else .bad
      | none => .bad) := h
    split at h
    · rename_i xs hg
      split at h
      · rename_i hx
        exact .inl ⟨wk.stop w hg hx, h σ H as Ext.refl w hρ⟩
      · exact h.elim
    · exact h.elim
  | succ m =>
    replace h : PostS Y H as E W (match g S with
      | some xs => match xs[i]? with
        | some x => (bodyF f tg x ρ S).turn (forM (bodyF f tg) g m (i + 1))
        | none => .bad
      | none => .bad) := h
    split at h
    · rename_i xs hg
      split at h
      · rename_i x hx
        obtain ⟨hgo, hy⟩ := wk.step w hg hx
        refine .inr ⟨hgo, Wm (i + 1) m, fun σ' H' nx => ⟨m, Nat.lt_succ_self _, nx⟩, fun v H' yl => ?_⟩
        obtain ⟨st, rx⟩ := hy v H' yl
        have es : Ext H as H' as := st.ext
        unfold bodyF at h
        cases hs : setT S tg x ρ with
        | none => rw [hs] at h; exact h.elim
        | some ρ' =>
          rw [hs] at h
          replace h : PostS Y H as E W ((f ρ' S).turn (forM (bodyF f tg) g m (i + 1))) := h
          refine ⟨ρ, as, S, x, hρ.ext es, st.wd w, rx, ρ', hs, fun σ2 hσ2 off => ⟨ρ', as, S, hσ2, st.wd w, ?_⟩⟩
          refine post_turn (h.ext es) fun ρ3 S3 σ3 H3 as3 e3 w3 hρ3 h3 => ⟨as3, S3, ρ3, hρ3, w3, (wk.ext es).ext e3, h3⟩
      · exact h.elim
    · exact h.elim
theorem s_for (c : Cg X Y B N sc fnb k) {tg : Tg} {it : RE} {body : RS} {t i : PySem.Expr} {bs : List Stmt} {pos : Pos} (hp : plainE i = true) (hi : PI X t i (tI Y W (den it P))) (ht : PG X t (gT Y tg)) (hb : PSs X bs (tS Y W (ex body P))) :
    PS X (.For t i bs [] pos) (tS Y W (ex (.for tg it body) P)) := by
  refine (ps_for (pos := pos) c.pass c.calm hi ht hb (fun x => fold_plain hp _ _)).mono fun E σ H ⟨ρ, as, S, hρ, w, h⟩ => ?_
  unfold ex at h
  refine post_flI (m := den it P) hρ w h fun d S1 H1 as1 e1 w1 hρ1 h1 => ?_
  cases d with
  | lst xs =>
    refine ⟨_, rfl, fun J wk => ?_⟩
    replace h1 : PostS Y H1 as1 E W (forL (bodyF (ex body P) tg) xs ρ S1) := h1
    have e2 := forL_M (f := bodyF (ex body P) tg) (xs := xs) xs.length 0 ρ S1 (by omega)
    rw [List.drop_zero] at e2
    rw [e2] at h1
    exact for_run hρ1 w1 wk h1
  | cel i =>
    refine ⟨_, rfl, fun J wk => ?_⟩
    replace h1 : PostS Y H1 as1 E W (match (generalizing := false) (fun S : Sto => S[i]?) S1 with
      | some xs => forM (bodyF (ex body P) tg) (fun S : Sto => S[i]?) xs.length 0 ρ S1
      | none => .bad) := h1
    split at h1
    · exact for_run hρ1 w1 wk h1
    · exact h1.elim
  | zc i ys =>
    refine ⟨_, rfl, fun J wk => ?_⟩
    replace h1 : PostS Y H1 as1 E W (match (generalizing := false) (fun S : Sto => match S[i]? with
          | some xs => some (zipL xs ys)
          | none => none) S1 with
      | some xs => forM (bodyF (ex body P) tg) (fun S : Sto => match S[i]? with
          | some xs => some (zipL xs ys)
          | none => none) xs.length 0 ρ S1
      | none => .bad) := h1
    split at h1
    · exact for_run hρ1 w1 wk h1
    · exact h1.elim
  | _ => exact h1.elim
theorem s_while (c : Cg X Y B N sc fnb k) {n : Nat} {cd : RE} {body : RS} {x : PySem.Expr} {bs : List Stmt} {pos : Pos} (hc : PT X x (tT Y W (den cd P))) (hb : PSs X bs (tS Y W (ex body P))) :
    PS X (.While x bs [] pos) (tS Y W (ex (.wh n cd body) P)) := by
  refine (ps_while (pos := pos) c.pass hc hb).mono fun E σ H ⟨ρ, as, S, hρ, w, h⟩ => ?_
  unfold ex at h
  refine ⟨fun m σ H => ∃ (as : Ad) (S : Sto) (ρ : Env), EnvR Y H as ρ σ ∧ Wd Y H as S ∧ PostS Y H as E W (whL (den cd P) (ex body P) m ρ S), ⟨n, as, S, ρ, hρ, w, h⟩, ?_⟩
  rintro m σ H ⟨as, S, ρ, hρ, w, h⟩
  cases m with
  | zero => exact (show False from h).elim
  | succ m =>
    refine post_flT (m := den cd P) hρ w (show PostS Y H as E W ((den cd P ρ S).fl ρ fun x s => match x with
      | .bl true => (ex body P ρ s).turn (whL (den cd P) (ex body P) m)
      | .bl false => .nx ρ s
      | _ => .bad) from h) (fun d S' H' as' hn h' => by
        cases d with
        | bl b => exact hn b rfl
        | _ => exact h') fun b S1 H1 as1 e1 w1 hρ1 h1 => ?_
    cases b with
    | true =>
      rw [if_pos rfl]
      exact ⟨_, fun σ' H' nx => ⟨m, Nat.lt_succ_self _, nx⟩, ρ, as1, S1, hρ1, w1, post_turn h1 fun ρ3 S3 σ3 H3 as3 e3 w3 hρ3 h3 => ⟨as3, S3, ρ3, hρ3, w3, h3⟩⟩
    | false =>
      rw [if_neg Bool.false_ne_true]
      exact h1 σ H1 as1 Ext.refl w1 hρ1

/-! ### stores -/
theorem s_asg {tg : Tg} {e : RE} {t v : PySem.Expr} {pos : Pos} (he : PE X v (tE Y W (den e P))) (ht : PG X t (gT Y tg)) (hs : swapsWithSole [t] v pos.line X.env = pure false) (hw : swappedStores [t] v X.env = pure none) (h1 : (assignEach [t] X.env).map (·.2) = [assign t X.env]) :
    PS X (.Assign [t] v pos) (tS Y W (ex (.set tg e) P)) := by
  refine (ps_asg (pos := pos) he ht hs hw h1).mono fun E σ H ⟨ρ, as, S, hρ, w, h⟩ => ?_
  unfold ex at h
  refine post_fl (m := den e P) hρ w h fun d v S1 H1 as1 e1 w1 hρ1 r1 h1 => ?_
  cases hs : setT S1 tg d ρ with
  | none => rw [hs] at h1; exact h1.elim
  | some ρ' =>
    rw [hs] at h1
    exact ⟨ρ, as1, S1, d, hρ1, w1, r1, ρ', hs, fun σ' hσ' _ => h1 σ' H1 as1 Ext.refl w1 hσ'⟩
end
end Px
end

section
set_option Elab.async false
set_option linter.all false
set_option maxRecDepth 100000
set_option maxHeartbeats 1000000
/-! Px: statements: the checker, every statement it takes. -/
namespace Px
open PySem PySem.Spec PyProof.Rows L2

/-! ### two or three names stored from the right -/
def nameOf : PySem.Expr → Option (Str × Pos)
  | .Name id pos => some (id, pos)
  | _ => none
def swLine (ts : List PySem.Expr) : Nat := (ts.head?.map (·.pos.line)).getD 0
def swNames (sc : Scope) (ts : List PySem.Expr) (line : Nat) : List Str := ts.filterMap fun
    | .Name id pos => if sc.names.lookup id == some .local && pos.line == line then some id else none
    | _ => none
/-- none: such stores are unsupported -/
def swapO (sc : Scope) (ts vs : List PySem.Expr) : Option (Option (List Str)) :=
  if (!(ts.length == 2 || ts.length == 3) || vs.length != ts.length) = true then some none else
  if (swNames sc ts (swLine ts)).length != ts.length || (swNames sc ts (swLine ts)).eraseDups.length != (swNames sc ts (swLine ts)).length then some none else
  if vs.all (foldedForSure 8) = true then some none else
  if vs.all (constantsAlone 8) = true then none else some (some (swNames sc ts (swLine ts)))
def stars (vs : List PySem.Expr) : Bool := vs.any fun | .Starred .. => true | _ => false
theorem noStar : ∀ {vs : List PySem.Expr}, plainL vs = true → stars vs = false
  | [], _ => rfl
  | v :: vs, h => by
    rw [plainL, Bool.and_eq_true] at h
    unfold stars
    rw [List.any_cons, show (vs.any fun | .Starred .. => true | _ => false) = false from noStar h.2]
    cases v <;> first | rfl | exact absurd (show false = true from h.1) Bool.false_ne_true
theorem swapO_ok {env : PySem.Env} {sc : Scope} {ts vs : List PySem.Expr} {a1 a2 : Nat} {p1 p2 : Pos} {o : Option (List Str)} (hs : env.scope = sc) (hk : sc.kind = .function) (hp : plainL vs = true) (h : swapO sc ts vs = some o) :
    swappedStores [.Tuple ts a1 p1] (.Tuple vs a2 p2) env = pure o := by
  have hb : (env.blockKind != .function) = false := by
    unfold Env.blockKind
    rw [hs, hk]
    rfl
  have hkd : ∀ x, env.kindOf x = sc.names.lookup x := fun x => by rw [← hs]; rfl
  unfold swapO at h
  unfold swappedStores
  simp only [hb, Bool.or_false, hkd]
  show (if (!(ts.length == 2 || ts.length == 3) || vs.length != ts.length) = true then pure none else if stars vs = true then pure none else
    if ((swNames sc ts (swLine ts)).length != ts.length || (swNames sc ts (swLine ts)).eraseDups.length != (swNames sc ts (swLine ts)).length) = true then pure none else
    if vs.all (foldedForSure 8) = true then pure none else
    if vs.all (constantsAlone 8) = true then (do
      unsupported "assign.tuple-of-constant-expressions:order-of-the-stores"
      pure (some (swNames sc ts (swLine ts)))) else pure (some (swNames sc ts (swLine ts)))) = (pure o : Sem (Option (List Str)))
  rw [if_neg (show ¬ stars vs = true by rw [noStar hp]; exact Bool.false_ne_true)]
  generalize swNames sc ts (swLine ts) = nm at h ⊢
  by_cases c1 : (!(ts.length == 2 || ts.length == 3) || vs.length != ts.length) = true
  · rw [if_pos c1] at h ⊢
    rw [Option.some.inj h]
  · rw [if_neg c1] at h ⊢
    by_cases c2 : (nm.length != ts.length || nm.eraseDups.length != nm.length) = true
    · rw [if_pos c2] at h ⊢
      rw [Option.some.inj h]
    · rw [if_neg c2] at h ⊢
      by_cases c3 : vs.all (foldedForSure 8) = true
      · rw [if_pos c3] at h ⊢
        rw [Option.some.inj h]
      · rw [if_neg c3] at h ⊢
        by_cases c4 : vs.all (constantsAlone 8) = true
        · rw [if_pos c4] at h
          cases h
        · rw [if_neg c4] at h ⊢
          rw [Option.some.inj h]

/-! ### the checker -/
inductive Qs where
  | S (st : Stmt) | B (sts : List Stmt)
def notComp : PySem.Expr → Bool
  | .ListComp .. => false | .SetComp .. => false | .DictComp .. => false
  | _ => true
def okComp : PySem.Expr → Bool
  | .SetComp .. => false | .DictComp .. => false
  | _ => true
def isFun (sc : Scope) : Bool := match sc.kind with
  | .function => true
  | _ => false
def isLoc (sc : Scope) (x : Str) : Bool := match sc.names.lookup x with
  | some .local => true
  | _ => false
/-- name = [..]: whether the store comes within -/
def swB (sc : Scope) (x : Str) (px : Pos) : PySem.Expr → Bool
  | .ListComp _ _ scope p => sc.names.lookup x == some .local && (px.line == p.line) && !(scope.names.any fun (n, k) => n == x && (k == .local || k == .cell))
  | _ => false
def is2 : Tg → Option (Nat × Nat)
  | .tup (.cons (.name i) (.cons (.name j) .nil)) => some (i, j)
  | _ => none
def is3 : Tg → Option (Nat × Nat × Nat)
  | .tup (.cons (.name i) (.cons (.name j) (.cons (.name l) .nil))) => some (i, j, l)
  | _ => none
def argsOf : RE → Option RE
  | .tup l => some l
  | _ => none
def isCmp : RE → Bool
  | .comp _ _ _ _ _ _ => true
  | _ => false
def sw2 (sc : Scope) (nm : List Str) (ts vs : List PySem.Expr) (tg : Tg) (e : RE) : Bool := match nm, ts, vs, tg, e with
  | [x, y], [.Name x' _, .Name y' _], [_, _], .tup (.cons (.name i) (.cons (.name j) .nil)), .tup _ => decide (x = x') && (decide (y = y') && (decide (i ≠ j) && (isLoc sc x && isLoc sc y)))
  | _, _, _, _, _ => false
def sw3 (sc : Scope) (nm : List Str) (ts vs : List PySem.Expr) (tg : Tg) (e : RE) : Bool := match nm, ts, vs, tg, e with
  | [x, y, z], [.Name x' _, .Name y' _, .Name z' _], [_, _, _], .tup (.cons (.name i) (.cons (.name j) (.cons (.name l) .nil))), .tup _ =>
    decide (x = x') && (decide (y = y') && (decide (z = z') && (decide (i ≠ j) && (decide (i ≠ l) && (decide (j ≠ l) && (isLoc sc x && (isLoc sc y && isLoc sc z)))))))
  | _, _, _, _, _ => false
theorem sw2_inv {sc : Scope} {nm : List Str} {ts vs : List PySem.Expr} {tg : Tg} {e : RE} (h : sw2 sc nm ts vs tg e = true) : ∃ x y x' px y' py a b i j l, nm = [x, y] ∧ ts = [.Name x' px, .Name y' py] ∧ vs = [a, b] ∧ tg = .tup (.cons (.name i) (.cons (.name j) .nil)) ∧ e = .tup l ∧
    (decide (x = x') && (decide (y = y') && (decide (i ≠ j) && (isLoc sc x && isLoc sc y)))) = true := by
  unfold sw2 at h
  split at h
  · exact ⟨_, _, _, _, _, _, _, _, _, _, _, rfl, rfl, rfl, rfl, rfl, h⟩
  · cases h
theorem sw3_inv {sc : Scope} {nm : List Str} {ts vs : List PySem.Expr} {tg : Tg} {e : RE} (h : sw3 sc nm ts vs tg e = true) : ∃ x y z x' px y' py z' pz a b d i j l r, nm = [x, y, z] ∧ ts = [.Name x' px, .Name y' py, .Name z' pz] ∧ vs = [a, b, d] ∧ tg = .tup (.cons (.name i) (.cons (.name j) (.cons (.name l) .nil))) ∧ e = .tup r ∧
    (decide (x = x') && (decide (y = y') && (decide (z = z') && (decide (i ≠ j) && (decide (i ≠ l) && (decide (j ≠ l) && (isLoc sc x && (isLoc sc y && isLoc sc z)))))))) = true := by
  unfold sw3 at h
  split at h
  · exact ⟨_, _, _, _, _, _, _, _, _, _, _, _, _, _, _, _, rfl, rfl, rfl, rfl, rfl, h⟩
  · cases h
/-- a store to t of v -/
def chkA (B : Tb) (N : List Str) (sc : Scope) (tg : Tg) (e : RE) (t v : PySem.Expr) (pos : Pos) : Bool := match t with
  | .Name x px => isFun sc && (okComp v && if swB sc x px v = true then isCmp e else true)
  | .Tuple ts _ _ => match v with
    | .Tuple vs _ _ => isFun sc && (plainL vs && (match swapO sc ts vs with
      | some none => true
      | some (some nm) => sw2 sc nm ts vs tg e || sw3 sc nm ts vs tg e
      | none => false))
    | _ => true
  | _ => false
def raiseC (B : Tb) (sc : Scope) (n : Nat) (e : PySem.Expr) : Bool := match e with
  | .Call (.Name x _) [.Constant (.str _) _ _] [] _ => glB sc x && (nodbg x && (match lookN n B.cls with | some y => eqS x y | none => false))
  | _ => false
theorem raiseC_inv {B : Tb} {sc : Scope} {n : Nat} {e : PySem.Expr} (h : raiseC B sc n e = true) : ∃ x p m j p2 p1, e = .Call (.Name x p) [.Constant (.str m) j p2] [] p1 ∧ (glB sc x && (nodbg x && (match lookN n B.cls with | some y => eqS x y | none => false))) = true := by
  unfold raiseC at h
  split at h
  · exact ⟨_, _, _, _, _, _, rfl, h⟩
  · cases h
def chkS (B : Tb) (N : List Str) (sc : Scope) (fnb : Str → Bool) : RS → Qs → Bool
  | .pass, .S st => match st with
    | .Pass _ => true
    | .Expr (.Constant (.str _) _ _) _ => true
    | _ => false
  | .pass, .B sts => sts.isEmpty
  | .seq a b, .B (st :: r) => chkS B N sc fnb a (.S st) && chkS B N sc fnb b (.B r)
  | .set tg e, .S (.Assign [t] v pos) => chkT N sc fnb tg (.E t) && (chk B N e sc (.E v) && chkA B N sc tg e t v pos)
  | .ret e, .S (.Return v _) => match v with
    | some v => chk B N e sc (.E v)
    | none => isNo e
  | .ifs c a b, .S (.If x p q _) => tst c && (chk B N c sc (.E x) && (chkS B N sc fnb a (.B p) && chkS B N sc fnb b (.B q)))
  | .for tg it body, .S (.For t i bs [] _) => plainE i && (chk B N it sc (.I t i) && (chkT N sc fnb tg (.E t) && chkS B N sc fnb body (.B bs)))
  | .wh _ c body, .S (.While x bs [] _) => tst c && (chk B N c sc (.E x) && chkS B N sc fnb body (.B bs))
  | .drop e, .S (.Expr v _) => notComp v && chk B N e sc (.E v)
  | .raise n, .S (.Raise (some e) none _) => raiseC B sc n e
  | .brk, .S (.Break _) => true
  | .cont, .S (.Continue _) => true
  | .put a i e, .S (.Assign [.Subscript o j _] v _) => plainE j && (chk B N e sc (.E v) && (chk B N a sc (.E o) && chk B N i sc (.E j)))
  | _, _ => false
end Px
end

section
set_option Elab.async false
set_option linter.all false
set_option maxRecDepth 100000
set_option maxHeartbeats 1000000
/-! Px: every statement that the checker takes, by its meaning. -/
namespace Px
open PySem PySem.Spec PyProof.Rows L2
section
variable {X : Cx} {Y : Fx} {B : Tb} {N : List Str} {sc : Scope} {fnb : Str → Bool} {k : Nat} {W : WX} {P : PC}
theorem isFun_ok {sc : Scope} (h : isFun sc = true) : sc.kind = .function := by
  unfold isFun at h
  split at h <;> first | assumption | cases h
theorem isLoc_ok {sc : Scope} {x : Str} (h : isLoc sc x = true) : sc.names.lookup x = some .local := by
  unfold isLoc at h
  split at h <;> first | assumption | cases h
theorem bk_fun {env : PySem.Env} (h : env.scope.kind = .function) : env.blockKind = .function := by
  unfold Env.blockKind
  rw [h]
  rfl
theorem comp_parts (c : Cg X Y B N sc fnb k) (tk : L2N.Takes X W) (hC : CallsOk X Y B P k) {mu : Bool} {elt : RE} {own : List Nat} {tg : Tg} {it cond : RE} {e : PySem.Expr} (h : chk B N (.comp mu elt own tg it cond) sc (.E e) = true) :
    ∃ e1 gt gi gf scope p, e = .ListComp e1 [⟨gt, gi, gf, 0⟩] scope p ∧ (ownB N own).map (·.2) = own ∧ tgIn tg own = true ∧ PI X gt gi (tI Y W (den it P)) ∧ BlkOk X.N X.env.scope scope (ownB N own) ∧
      (∀ (s : Shared) (H : Hp) (C : Addr) (cl : List (Str × Addr)) (fp : List Addr), PG (X.blk s H scope (compEnvC scope cl C X.env) fp) gt (gT Y tg)) ∧
      (∀ (s : Shared) (H : Hp) (C : Addr) (cl : List (Str × Addr)) (fp : List Addr), PTs (X.blk s H scope (compEnvC scope cl C X.env) fp) gf (tT Y (fun _ _ _ _ => False) (den cond P))) ∧
      (∀ (s : Shared) (H : Hp) (C : Addr) (cl : List (Str × Addr)) (fp : List Addr), PE (X.blk s H scope (compEnvC scope cl C X.env) fp) e1 (tE Y (fun _ _ _ _ => False) (den elt P))) ∧
      ∀ x, foldedSetIterable gi X.env x = pure x := by
  obtain ⟨e1, ⟨gt, gi, gf, ga⟩, scope, p, rfl, h⟩ := inv_comp h
  obtain ⟨h1, h⟩ := and2 h
  obtain ⟨h2, h⟩ := and2 h
  obtain ⟨h3, h⟩ := and2 h
  obtain ⟨h4, h⟩ := and2 h
  obtain ⟨h5, h⟩ := and2 h
  obtain ⟨h6, h⟩ := and2 h
  obtain ⟨h7, h⟩ := and2 h
  obtain ⟨h8, h9⟩ := and2 h
  have ea : ga = 0 := of_decide_eq_true h1
  subst ea
  refine ⟨e1, gt, gi, gf, scope, p, rfl, of_decide_eq_true h3, h4, (rules it c tk hC).I gt gi h6, by rw [c.n, c.sc]; exact blkOk_by h2, fun s H C cl fp => ?_, fun s H C cl fp => ?_, fun s H C cl fp => (rules elt (c.blk s H C cl fp) PxN.takes0 (hC.blk s H C cl fp)).E e1 h9, fun x => fold_plain h5 _ _⟩
  · have c' := c.blk (scope := scope) s H C cl fp
    exact (tgs c'.n c'.nd c'.sc c'.fnb c'.K c'.calm tg).1 gt h7
  · have c' := c.blk (scope := scope) s H C cl fp
    cases gf with
    | nil =>
      rw [isYes_ok h8]
      exact ⟨fun pins s σ H Q I ⟨ρ, as, S, hρ, w, h⟩ => pts_nil.run pins s σ H Q I (h H as Ext.refl w)⟩
    | cons c1 cs =>
      cases cs with
      | cons _ _ => exact noF h8
      | nil =>
        obtain ⟨h8, h10⟩ := and2 h8
        exact pts_one ((rules cond c' PxN.takes0 (hC.blk s H C cl fp)).T c1 h8 h10)
theorem setT_name {S : Sto} {i : Nat} {d : D} {ρ : Env} : setT S (.name i) d ρ = some (ρ.set i (some d)) := rfl
theorem s_set (c : Cg X Y B N sc fnb k) (tk : L2N.Takes X W) (hC : CallsOk X Y B P k) {tg : Tg} {e : RE} {t v : PySem.Expr} {pos : Pos} (ht : chkT N sc fnb tg (.E t) = true) (he : chk B N e sc (.E v) = true) (ha : chkA B N sc tg e t v pos = true) :
    PS X (.Assign [t] v pos) (tS Y W (ex (.set tg e) P)) := by
  have pe := (rules e c tk hC).E v he
  have pg := (tgs c.n c.nd c.sc c.fnb c.K c.calm tg).1 t ht
  cases t with
  | Name x px =>
    obtain ⟨f1, ha⟩ := and2 (show (isFun sc && (okComp v && if swB sc x px v = true then isCmp e else true)) = true from ha)
    obtain ⟨f2, ha⟩ := and2 ha
    have hk : X.env.scope.kind = .function := by rw [c.sc]; exact isFun_ok f1
    have hbk := bk_fun hk
    have sole : swapsWithSole [.Name x px] v pos.line X.env = pure (swB sc x px v) := by
      cases v with
      | ListComp e1 gs scope p =>
        show (pure (X.env.blockKind == .function && X.env.kindOf x == some .local && (px.line == p.line) && !(scope.names.any fun (n, k) => n == x && (k == .local || k == .cell))) : Sem Bool) = pure (sc.names.lookup x == some .local && (px.line == p.line) && !(scope.names.any fun (n, k) => n == x && (k == .local || k == .cell)))
        have e1 : X.env.kindOf x = sc.names.lookup x := by rw [← c.sc]; rfl
        have e2 : (X.env.blockKind == ScopeKind.function) = true := by rw [hbk]; rfl
        rw [e1, e2, Bool.true_and]
      | SetComp _ _ _ _ => exact noF f2
      | DictComp _ _ _ _ _ => exact noF f2
      | _ => rfl
    cases hsw : swB sc x px v with
    | false =>
      rw [hsw] at sole
      exact s_asg pe pg sole rfl rfl
    | true =>
      rw [hsw] at sole ha
      rw [if_pos rfl] at ha
      cases e with
      | comp mu elt own tg2 it cond =>
        obtain ⟨e1, gt, gi, gf, scope, p, rfl, eo, hown, hi, ok, hg, htt, hee, hf⟩ := comp_parts c tk hC he
        cases tg with
        | name i =>
          have ht' : (decide (N[i]? = some x) && (locB sc x && (fnb x || (match sc.names.lookup x with | some .local => true | _ => false)))) = true := ht
          obtain ⟨t1, _⟩ := and2 ht'
          have hloc : sc.names.lookup x = some .local := by
            obtain ⟨q, _⟩ := and2 (show (sc.names.lookup x == some .local && (px.line == p.line) && !(scope.names.any fun (n, k) => n == x && (k == .local || k == .cell))) = true from hsw)
            obtain ⟨q, _⟩ := and2 q
            exact eq_of_beq q
          have q := ps_setLc (X := X) (i := i) (y := x) (py := px) (spos := pos) (pos := p) (own := ownB N own) (elt := e1) (tg := gt) (iter := gi) (ifs := gf) (scope := scope) c.calm (by rw [c.n]; exact c.nd) (by rw [c.n]; exact of_decide_eq_true t1) (by rw [c.sc]; exact hloc) sole hi ok hg htt hee hf
          rw [eo] at q
          refine q.mono fun E σ H ⟨ρ, as, S, hρ, w, h⟩ => ?_
          refine comp_post (mu := mu) hown ?_
          replace h : PostS Y H as E W ((den (.comp mu elt own tg2 it cond) P ρ S).fl ρ fun d s => match setT s (.name i) d ρ with
            | some ρ' => .nx ρ' s
            | none => .bad) := h
          exact post_fl (m := den (.comp mu elt own tg2 it cond) P) hρ w h fun d v S1 H1 as1 e1 w1 hρ1 r1 h1 => h1 _ H1 as1 Ext.refl w1 (hρ1.set r1 i)
        | tup l => exact noF ht
        | nil => exact noF ht
        | cons _ _ => exact noF ht
      | _ => exact noF ha
  | Tuple ts n1 p1 =>
    have hs1 : swapsWithSole [.Tuple ts n1 p1] v pos.line X.env = pure false := by
      cases v <;> rfl
    have h1 : (assignEach [.Tuple ts n1 p1] X.env).map (·.2) = [assign (.Tuple ts n1 p1) X.env] := rfl
    cases v with
    | Tuple vs n2 p2 =>
      replace ha : (isFun sc && (plainL vs && (match swapO sc ts vs with
        | some none => true
        | some (some nm) => sw2 sc nm ts vs tg e || sw3 sc nm ts vs tg e
        | none => false))) = true := ha
      obtain ⟨f1, ha⟩ := and2 ha
      obtain ⟨f2, ha⟩ := and2 ha
      cases hsw : swapO sc ts vs with
      | none => rw [hsw] at ha; exact noF ha
      | some o =>
        have sw := swapO_ok (a1 := n1) (a2 := n2) (p1 := p1) (p2 := p2) c.sc (isFun_ok f1) f2 hsw
        cases o with
        | none => exact s_asg pe pg hs1 sw h1
        | some nm =>
          rw [hsw] at ha
          replace ha : (sw2 sc nm ts vs tg e || sw3 sc nm ts vs tg e) = true := ha
          rw [Bool.or_eq_true] at ha
          rcases ha with ha | ha
          · obtain ⟨x, y, x', px, y', py, a, b, i, j, l, rfl, rfl, rfl, rfl, rfl, ha⟩ := sw2_inv ha
            obtain ⟨g1, ha⟩ := and2 ha
            obtain ⟨g2, ha⟩ := and2 ha
            obtain ⟨g3, ha⟩ := and2 ha
            obtain ⟨g4, g5⟩ := and2 ha
            have e1 : x = x' := of_decide_eq_true g1
            have e2 : y = y' := of_decide_eq_true g2
            subst e1 e2
            have ht' : (plainL [.Name x px, .Name y py] && (chkT N sc fnb (.name i) (.E (.Name x px)) && (chkT N sc fnb (.name j) (.E (.Name y py)) && true))) = true := ht
            obtain ⟨_, ht'⟩ := and2 ht'
            obtain ⟨t1, ht'⟩ := and2 ht'
            obtain ⟨t2, _⟩ := and2 ht'
            obtain ⟨t1, _⟩ := and2 (show (decide (N[i]? = some x) && _) = true from t1)
            obtain ⟨t2, _⟩ := and2 (show (decide (N[j]? = some y) && _) = true from t2)
            obtain ⟨c1, c2⟩ := and2 (show (Nat.ble [a, b].length 100000 && chk B N l sc (.L [a, b])) = true from he)
            have pa := (rules l c tk hC).L _ c2
            refine (ps_par (pos := pos) c.calm (by rw [c.n]; exact c.nd) (by rw [c.n]; exact of_decide_eq_true t1) (by rw [c.n]; exact of_decide_eq_true t2) (of_decide_eq_true g3) (by rw [c.sc]; exact isLoc_ok g4) (by rw [c.sc]; exact isLoc_ok g5) pa sw hs1).mono fun E σ H ⟨ρ, as, S, hρ, w, h⟩ => ?_
            refine ⟨ρ, as, S, hρ, w, ?_⟩
            replace h : PostS Y H as E W (((den l P ρ S).bind fun ys s => match ys with
              | .lst xs => .ok (.tup xs) s
              | _ => .bad).fl ρ fun d s => match setT s (.tup (.cons (.name i) (.cons (.name j) .nil))) d ρ with
              | some ρ' => .nx ρ' s
              | none => .bad) := h
            cases ed : den l P ρ S with
            | bad => rw [ed] at h; exact h
            | exc cc s =>
              rw [ed] at h
              exact fun H' as' ex w' => h σ H' as' ex w' (hρ.ext ex)
            | ok d S1 =>
              rw [ed] at h
              cases d with
              | lst ds =>
                refine fun H1 as1 ex w1 vs r => ?_
                replace h : PostS Y H as E W (match setT.setTs S1 (.cons (.name i) (.cons (.name j) .nil)) ds ρ with
                  | some ρ' => .nx ρ' S1
                  | none => .bad) := h
                cases r with
                | nil => exact h.elim
                | @cons d1 v1 ds vs r1 r =>
                  cases r with
                  | nil => exact h.elim
                  | @cons d2 v2 ds vs r2 r =>
                    cases r with
                    | cons _ _ => exact h.elim
                    | nil => exact ⟨v1, v2, rfl, h _ H1 as1 ex w1 (((hρ.ext ex).set r1 i).set r2 j)⟩
              | _ => exact (fun H1 as1 ex w1 => (show False from h).elim)
          · obtain ⟨x, y, z, x', px, y', py, z', pz, a, b, d, i, j, l, l2, rfl, rfl, rfl, rfl, rfl, ha⟩ := sw3_inv ha
            obtain ⟨g1, ha⟩ := and2 ha
            obtain ⟨g2, ha⟩ := and2 ha
            obtain ⟨g3, ha⟩ := and2 ha
            obtain ⟨g4, ha⟩ := and2 ha
            obtain ⟨g5, ha⟩ := and2 ha
            obtain ⟨g6, ha⟩ := and2 ha
            obtain ⟨g7, ha⟩ := and2 ha
            obtain ⟨g8, g9⟩ := and2 ha
            have e1 : x = x' := of_decide_eq_true g1
            have e2 : y = y' := of_decide_eq_true g2
            have e3 : z = z' := of_decide_eq_true g3
            subst e1 e2 e3
            have ht' : (plainL [.Name x px, .Name y py, .Name z pz] && (chkT N sc fnb (.name i) (.E (.Name x px)) && (chkT N sc fnb (.name j) (.E (.Name y py)) && (chkT N sc fnb (.name l) (.E (.Name z pz)) && true)))) = true := ht
            obtain ⟨_, ht'⟩ := and2 ht'
            obtain ⟨t1, ht'⟩ := and2 ht'
            obtain ⟨t2, ht'⟩ := and2 ht'
            obtain ⟨t3, _⟩ := and2 ht'
            obtain ⟨t1, _⟩ := and2 (show (decide (N[i]? = some x) && _) = true from t1)
            obtain ⟨t2, _⟩ := and2 (show (decide (N[j]? = some y) && _) = true from t2)
            obtain ⟨t3, _⟩ := and2 (show (decide (N[l]? = some z) && _) = true from t3)
            obtain ⟨c1, c2⟩ := and2 (show (Nat.ble [a, b, d].length 100000 && chk B N l2 sc (.L [a, b, d])) = true from he)
            have pa := (rules l2 c tk hC).L _ c2
            refine (ps_par3 (pos := pos) c.calm (by rw [c.n]; exact c.nd) (by rw [c.n]; exact of_decide_eq_true t1) (by rw [c.n]; exact of_decide_eq_true t2) (by rw [c.n]; exact of_decide_eq_true t3) (of_decide_eq_true g4) (of_decide_eq_true g5) (of_decide_eq_true g6) (by rw [c.sc]; exact isLoc_ok g7) (by rw [c.sc]; exact isLoc_ok g8) (by rw [c.sc]; exact isLoc_ok g9) pa sw hs1).mono fun E σ H ⟨ρ, as, S, hρ, w, h⟩ => ?_
            refine ⟨ρ, as, S, hρ, w, ?_⟩
            replace h : PostS Y H as E W (((den l2 P ρ S).bind fun ys s => match ys with
              | .lst xs => .ok (.tup xs) s
              | _ => .bad).fl ρ fun d s => match setT s (.tup (.cons (.name i) (.cons (.name j) (.cons (.name l) .nil)))) d ρ with
              | some ρ' => .nx ρ' s
              | none => .bad) := h
            cases ed : den l2 P ρ S with
            | bad => rw [ed] at h; exact h
            | exc cc s =>
              rw [ed] at h
              exact fun H' as' ex w' => h σ H' as' ex w' (hρ.ext ex)
            | ok d S1 =>
              rw [ed] at h
              cases d with
              | lst ds =>
                refine fun H1 as1 ex w1 vs r => ?_
                replace h : PostS Y H as E W (match setT.setTs S1 (.cons (.name i) (.cons (.name j) (.cons (.name l) .nil))) ds ρ with
                  | some ρ' => .nx ρ' S1
                  | none => .bad) := h
                cases r with
                | nil => exact h.elim
                | @cons d1 v1 ds vs r1 r =>
                  cases r with
                  | nil => exact h.elim
                  | @cons d2 v2 ds vs r2 r =>
                    cases r with
                    | nil => exact h.elim
                    | @cons d3 v3 ds vs r3 r =>
                      cases r with
                      | cons _ _ => exact h.elim
                      | nil => exact ⟨v1, v2, v3, rfl, h _ H1 as1 ex w1 ((((hρ.ext ex).set r1 i).set r2 j).set r3 l)⟩
              | _ => exact (fun H1 as1 ex w1 => (show False from h).elim)
    | _ => exact s_asg pe pg hs1 rfl h1
  | _ => exact noF ha
end
end Px
end

section
set_option Elab.async false
set_option linter.all false
set_option maxRecDepth 100000
set_option maxHeartbeats 1000000
/-! Px: all statements. -/
namespace Px
open PySem PySem.Spec PyProof.Rows L2
section
variable {X : Cx} {Y : Fx} {B : Tb} {N : List Str} {sc : Scope} {fnb : Str → Bool} {k : Nat} {W : WX} {P : PC}
theorem sub_store {o i : PySem.Expr} {p : Pos} (h : plainE i = true) (v : Value) : assign (.Subscript o i p) X.env v = (do
      let ov ← holding [v] (eval o X.env)
      let iv ← holding [v, ov] (eval i X.env)
      standAt p
      holding [v, ov, iv] (setItem ov iv v)
      release [v, ov, iv] []) := by
  cases i <;> first | rfl | cases h
theorem swap_plain {v : PySem.Expr} (h : notComp v = true) (t : Option PySem.Expr) (l : Nat) (env : PySem.Env) : swapsWith v t l env = pure false := by
  cases v <;> first | rfl | cases h
theorem s_put {a i e : RE} {o j v : PySem.Expr} {p pos : Pos} (hj : plainE j = true) (he : PE X v (tE Y W (den e P))) (ha : PE X o (tE Y W (den a P))) (hi : PE X j (tE Y W (den i P))) :
    PS X (.Assign [.Subscript o j p] v pos) (tS Y W (ex (.put a i e) P)) := by
  have hs : swapsWithSole [.Subscript o j p] v pos.line X.env = pure false := by cases v <;> rfl
  refine (ps_asg he (pg_sub ha hi set_list (sub_store hj)) hs rfl rfl).mono fun E σ H ⟨ρ, as, S, hρ, w, h⟩ => ?_
  unfold ex at h
  refine post_fl (m := den e P) hρ w h fun d v S1 H1 as1 e1 w1 hρ1 r1 h1 => ?_
  refine post_fl (m := den a P) hρ1 w1 h1 fun d2 v2 S2 H2 as2 e2 w2 hρ2 r2 h2 => ?_
  refine post_fl (m := den i P) hρ2 w2 h2 fun d3 v3 S3 H3 as3 e3 w3 hρ3 r3 h3 => ?_
  replace r2 := r2.ext e3
  replace r1 := (r1.ext e2).ext e3
  unfold setL at h3
  cases r2 with
  | @cel m p hp =>
    cases r3 with
    | int kk =>
      replace h3 : PostS Y H3 as3 E W (match (match S3[m]? with
        | some xs => match ixN xs.length kk with
          | some j => some (S3.set m (xs.set j d))
          | none => none
        | none => none) with
        | some s' => .nx ρ s'
        | none => .bad) := h3
      cases es : S3[m]? with
      | none => rw [es] at h3; exact h3.elim
      | some xs =>
        rw [es] at h3
        replace h3 : PostS Y H3 as3 E W (match (match ixN xs.length kk with
          | some j => some (S3.set m (xs.set j d))
          | none => none) with
          | some s' => .nx ρ s'
          | none => .bad) := h3
        obtain ⟨vs, hH, hz, rl⟩ := w3.cell m p xs hp es
        cases ej : ixN xs.length kk with
        | none => rw [ej] at h3; exact h3.elim
        | some j =>
          rw [ej] at h3
          rw [rl.length] at ej
          have z2 : (vs.set j v).length ≤ sizeLine := by rw [List.length_set]; exact hz
          have ex2 : Ext H3 as3 (upd H3 p (.lst (vs.set j v))) as3 := Ext.put w3 (List.mem_of_getElem? hp)
          refine ⟨p, vs, kk, j, rfl, rfl, hH, ixN_L ej, ?_⟩
          exact h3 σ _ as3 ex2 (w3.put hp z2 (rl.set r1 j)) (hρ3.ext ex2)
    | _ => exact h3.elim
  | _ => exact (show False from h3).elim
theorem s_raise (c : Cg X Y B N sc fnb k) (tk : L2N.Takes X W) {n : Nat} {x m : Str} {j : Nat} {p p1 p2 pos : Pos} (hg : glB sc x = true) (hd : nodbg x = true) (hn : (n, x) ∈ B.cls) :
    PS X (.Raise (some (.Call (.Name x p) [.Constant (.str m) j p2] [] p1)) none pos) (tS Y W (ex (.raise n) P)) := by
  obtain ⟨Bn, newId, initId, bm, F, q1, q2, q3, q4, q5⟩ := c.tb.exc n x hn
  refine (L2N.ps_raise c.calm tk (L2N.pmk_own F (by rw [c.K]; exact q1) q2 (by rw [c.K]; exact q3) (raises_own (by rw [c.K]; exact q4) (by rw [c.K]; exact q5)) (c.gl hg) (nodbg_ok hd).1)).mono fun E σ H ⟨ρ, as, S, hρ, w, h⟩ => ?_
  exact h σ H as Ext.refl w hρ
theorem clsB_ok {n : Nat} {x : Str} (h : (match lookN n B.cls with | some y => eqS x y | none => false) = true) : (n, x) ∈ B.cls := by
  cases e : lookN n B.cls with
  | none => rw [e] at h; cases h
  | some y =>
    rw [e] at h
    have ey : x = y := of_decide_eq_true h
    subst ey
    exact lookN_ok e
theorem rulesS (c : Cg X Y B N sc fnb k) (tk : L2N.Takes X W) (hC : CallsOk X Y B P k) (r : RS) : (∀ st, chkS B N sc fnb r (.S st) = true → PS X st (tS Y W (ex r P))) ∧ (∀ sts, chkS B N sc fnb r (.B sts) = true → PSs X sts (tS Y W (ex r P))) := by
  induction r with
  | pass =>
    refine ⟨fun st h => ?_, fun sts h => ?_⟩
    · cases st with
      | Pass p => exact ps_pass.mono fun E σ H ⟨ρ, as, S, hρ, w, h⟩ => nowS w hρ h
      | Expr v p =>
        cases v with
        | Constant j n q =>
          cases j with
          | str x => exact ps_doc.mono fun E σ H ⟨ρ, as, S, hρ, w, h⟩ => nowS w hρ h
          | _ => exact noF h
        | _ => exact noF h
      | _ => exact noF h
    · cases sts with
      | nil => exact pss_nil.mono fun E σ H ⟨ρ, as, S, hρ, w, h⟩ => nowS w hρ h
      | cons _ _ => exact noF h
  | seq a b iha ihb =>
    refine ⟨fun st h => by cases st <;> exact noF h, fun sts h => ?_⟩
    cases sts with
    | nil => exact noF h
    | cons st sts =>
      obtain ⟨h1, h2⟩ := and2 (show (chkS B N sc fnb a (.S st) && chkS B N sc fnb b (.B sts)) = true from h)
      refine (pss_cons (iha.1 st h1) (ihb.2 sts h2)).mono fun E σ H ⟨ρ, as, S, hρ, w, h⟩ => ?_
      unfold ex at h
      exact ⟨ρ, as, S, hρ, w, post_seq h fun ρ' S' σ' H' as' e w' hρ' h' => ⟨ρ', as', S', hρ', w', h'⟩⟩
  | set tg e =>
    refine ⟨fun st h => ?_, fun sts h => by cases sts <;> exact noF h⟩
    cases st with
    | Assign ts v pos =>
      rcases ts with _ | ⟨t, _ | ⟨t2, ts⟩⟩
      · exact noF h
      · obtain ⟨h1, h2⟩ := and2 (show (chkT N sc fnb tg (.E t) && (chk B N e sc (.E v) && chkA B N sc tg e t v pos)) = true from h)
        obtain ⟨h2, h3⟩ := and2 h2
        exact s_set c tk hC h1 h2 h3
      · exact noF h
    | _ => exact noF h
  | ret e =>
    refine ⟨fun st h => ?_, fun sts h => by cases sts <;> exact noF h⟩
    cases st with
    | Return v p =>
      cases v with
      | some v =>
        refine (ps_ret ((rules e c tk hC).E v h)).mono fun E σ H ⟨ρ, as, S, hρ, w, h⟩ => ?_
        unfold ex at h
        exact post_fl (m := den e P) hρ w h fun d v S1 H1 as1 e1 w1 hρ1 r1 h1 => h1 v H1 as1 Ext.refl w1 r1
      | none =>
        rw [isNo_ok (show isNo e = true from h)]
        exact ps_retN.mono fun E σ H ⟨ρ, as, S, hρ, w, h⟩ => h _ H as Ext.refl w .non
    | _ => exact noF h
  | ifs d a b iha ihb =>
    refine ⟨fun st h => ?_, fun sts h => by cases sts <;> exact noF h⟩
    cases st with
    | If x p q pos =>
      obtain ⟨h1, h⟩ := and2 (show (tst d && (chk B N d sc (.E x) && (chkS B N sc fnb a (.B p) && chkS B N sc fnb b (.B q)))) = true from h)
      obtain ⟨h2, h⟩ := and2 h
      obtain ⟨h3, h4⟩ := and2 h
      refine (ps_if ((rules d c tk hC).T x h1 h2) (iha.2 p h3) (ihb.2 q h4)).mono fun E σ H ⟨ρ, as, S, hρ, w, h⟩ => ?_
      unfold ex at h
      refine post_flT (m := den d P) hρ w h (fun d S' H' as' hn h' => by
        cases d with
        | bl b => exact hn b rfl
        | _ => exact h') fun b S1 H1 as1 e1 w1 hρ1 h1 => ?_
      cases b with
      | true =>
        rw [if_pos rfl]
        exact ⟨ρ, as1, S1, hρ1, w1, h1⟩
      | false =>
        rw [if_neg Bool.false_ne_true]
        exact ⟨ρ, as1, S1, hρ1, w1, h1⟩
    | _ => exact noF h
  | «for» tg it body ih =>
    refine ⟨fun st h => ?_, fun sts h => by cases sts <;> exact noF h⟩
    cases st with
    | For t i bs orelse pos =>
      cases orelse with
      | cons _ _ => exact noF h
      | nil =>
        obtain ⟨h1, h⟩ := and2 (show (plainE i && (chk B N it sc (.I t i) && (chkT N sc fnb tg (.E t) && chkS B N sc fnb body (.B bs)))) = true from h)
        obtain ⟨h2, h⟩ := and2 h
        obtain ⟨h3, h4⟩ := and2 h
        exact s_for c h1 ((rules it c tk hC).I t i h2) ((tgs c.n c.nd c.sc c.fnb c.K c.calm tg).1 t h3) (ih.2 bs h4)
    | _ => exact noF h
  | wh n d body ih =>
    refine ⟨fun st h => ?_, fun sts h => by cases sts <;> exact noF h⟩
    cases st with
    | While x bs orelse pos =>
      cases orelse with
      | cons _ _ => exact noF h
      | nil =>
        obtain ⟨h1, h⟩ := and2 (show (tst d && (chk B N d sc (.E x) && chkS B N sc fnb body (.B bs))) = true from h)
        obtain ⟨h2, h3⟩ := and2 h
        exact s_while c ((rules d c tk hC).T x h1 h2) (ih.2 bs h3)
    | _ => exact noF h
  | drop e =>
    refine ⟨fun st h => ?_, fun sts h => by cases sts <;> exact noF h⟩
    cases st with
    | Expr v p =>
      obtain ⟨h1, h2⟩ := and2 (show (notComp v && chk B N e sc (.E v)) = true from h)
      refine (ps_expr ((rules e c tk hC).E v h2) (swap_plain h1 _ _ _)).mono fun E σ H ⟨ρ, as, S, hρ, w, h⟩ => ?_
      unfold ex at h
      exact post_fl (m := den e P) hρ w h fun d v S1 H1 as1 e1 w1 hρ1 r1 h1 => nowS w1 hρ1 h1
    | _ => exact noF h
  | raise n =>
    refine ⟨fun st h => ?_, fun sts h => by cases sts <;> exact noF h⟩
    cases st with
    | Raise e f p =>
      rcases e with _ | e
      · exact noF h
      · rcases f with _ | f
        · obtain ⟨x, p, m, j, p2, p1, rfl, h⟩ := raiseC_inv (show raiseC B sc n e = true from h)
          obtain ⟨h1, h⟩ := and2 h
          obtain ⟨h2, h3⟩ := and2 h
          exact s_raise c tk h1 h2 (clsB_ok h3)
        · exact noF h
    | _ => exact noF h
  | brk =>
    refine ⟨fun st h => ?_, fun sts h => by cases sts <;> exact noF h⟩
    cases st with
    | Break p => exact ps_break.mono fun E σ H ⟨ρ, as, S, hρ, w, h⟩ => h σ H as Ext.refl w hρ
    | _ => exact noF h
  | cont =>
    refine ⟨fun st h => ?_, fun sts h => by cases sts <;> exact noF h⟩
    cases st with
    | Continue p => exact ps_continue.mono fun E σ H ⟨ρ, as, S, hρ, w, h⟩ => h σ H as Ext.refl w hρ
    | _ => exact noF h
  | put a i e =>
    refine ⟨fun st h => ?_, fun sts h => by cases sts <;> exact noF h⟩
    cases st with
    | Assign ts v pos =>
      rcases ts with _ | ⟨t, _ | ⟨t2, ts⟩⟩
      · exact noF h
      · cases t with
        | Subscript o j p =>
          obtain ⟨h1, h⟩ := and2 (show (plainE j && (chk B N e sc (.E v) && (chk B N a sc (.E o) && chk B N i sc (.E j)))) = true from h)
          obtain ⟨h2, h⟩ := and2 h
          obtain ⟨h3, h4⟩ := and2 h
          exact s_put h1 ((rules e c tk hC).E v h2) ((rules a c tk hC).E o h3) ((rules i c tk hC).E j h4)
        | _ => exact noF h
      · cases t <;> exact noF h
    | _ => exact noF h
end
end Px
end

section
set_option Elab.async false
set_option linter.all false
set_option maxRecDepth 100000
set_option maxHeartbeats 1000000
/-! Px: a def that tries a lambda, clauses that return a constant. -/
namespace Px
open PySem PySem.Spec PyProof.Rows L2
def vOf (d : D) : V := (cvD d).getD .non
theorem constB_cv {j : Const} {d : D} (h : constB j d = true) : cvD d = some (vOf d) := by
  cases j <;> cases d <;> first
    | (cases (show false = true from h); done)
    | rfl
theorem pe_constV {X : Cx} {j : Const} {n : Nat} {p : Pos} {d : D} (h : constB j d = true) : PE X (.Constant j n p) (tC (vOf d)) := by
  cases j <;> cases d <;> first
    | (cases (show false = true from h); done)
    | exact pe_non
    | (have e := eq_of_beq (show (_ == _) = true from h); subst e; exact pe_bl)
    | (have e := of_decide_eq_true (show decide (_ = _) = true from h); subst e; exact pe_int)
    | (have e := of_decide_eq_true (show decide (_ = _) = true from h); subst e; exact pe_str)
def suiteB (d : D) : List Stmt → Bool
  | [.Return (some (.Constant j _ _)) _] => constB j d
  | _ => false
def hdB (sc : Scope) (y : Str) (d : D) : ExceptHandler → Bool
  | .ExceptHandler (some (.Name z _)) none suite _ => eqS z y && (glB sc z && (nodbg z && suiteB d suite))
  | _ => false
def hdsB (sc : Scope) : List (Str × D) → List ExceptHandler → Bool
  | [], [] => true
  | (y, d) :: r, h :: hs => hdB sc y d h && hdsB sc r hs
  | _, _ => false
def tryB (sc : Scope) (a : Str) (cl : List (Str × D)) (fin : D) : List Stmt → Bool
  | [.Try [.Expr (.Call (.Name b _) [] [] _) _] (h :: hs) [] [] _, .Return (some (.Constant j _ _)) _] => eqS b a && (hdsB sc cl (h :: hs) && constB j fin)
  | _ => false
/-- which clause takes an error of a class -/
def clsB (K : PySem.W.Frag) (ca : Addr) : List (Str × D) → Option D
  | [] => none
  | (y, d) :: r => match PySem.W.exmOne K (.ref ca) (.ref (He.ga K y)) with
    | some true => some d
    | some false => clsB K ca r
    | none => none
def hdT (K : PySem.W.Frag) (p : Str × D) : Value × (Addr → Value → Option Addr → TS) := (.ref (He.ga K p.1), fun _ _ _ => tRet (tC (vOf p.2)))
theorem hds_ok {X : Cx} {sc : Scope} (hsc : X.env.scope = sc) : ∀ {cl : List (Str × D)} {hs : List ExceptHandler}, (∀ p ∈ cl, X.mg p.1 = some (.ref (He.ga X.K p.1))) → hdsB sc cl hs = true → L2N.HdsOk X hs (cl.map (hdT X.K)) ∧ ∀ p ∈ cl, cvD p.2 = some (vOf p.2)
  | [], [], _, _ => ⟨.nil, fun p h => by cases h⟩
  | [], _ :: _, _, h => by cases h
  | _ :: _, [], _, h => by cases h
  | (y, d) :: r, h0 :: hs, hm, h => by
    obtain ⟨h1, h2⟩ := and2 (show (hdB sc y d h0 && hdsB sc r hs) = true from h)
    obtain ⟨ok, cv⟩ := hds_ok hsc (fun p hp => hm p (List.mem_cons_of_mem _ hp)) h2
    unfold hdB at h1
    split at h1
    · rename_i z np suite pos'
      obtain ⟨k1, h1⟩ := and2 h1
      obtain ⟨k2, h1⟩ := and2 h1
      obtain ⟨k3, k4⟩ := and2 h1
      have e1 : z = y := of_decide_eq_true k1
      subst e1
      unfold suiteB at k4
      split at k4
      · rename_i j n p p2
        refine ⟨.cons ⟨?_, (nodbg_ok k3).1, .inl (hm (z, d) List.mem_cons_self)⟩ (fun a oe cls dd pn _ _ => pss_one (ps_ret (pe_constV k4))) ok, fun p hp => ?_⟩
        · show X.env.scope.names.lookup z = some .globalImplicit
          rw [hsc]
          exact glB_ok k2
        · rcases List.mem_cons.mp hp with e | hp
          · rw [e]; exact constB_cv k4
          · exact cv p hp
      · cases k4
    · cases h1
theorem wMany_of {K : PySem.W.Frag} {Wout : WX} {Ds : Ends} {ca : Addr} {dd : Option Addr} {σ : L2.St} {H : Hp} : ∀ {cl : List (Str × D)} {d : D}, clsB K ca cl = some d → (∀ v, cvD d = some v → Ds.rt v H) → (∀ p ∈ cl, cvD p.2 = some (vOf p.2)) → wMany K Wout Ds (cl.map (hdT K)) (.ref ca) dd σ H
  | [], _, h, _, _ => by cases h
  | (y, e) :: r, d, h, hq, hc => by
    unfold clsB at h
    split at h
    · rename_i q
      cases h
      exact ⟨true, q, fun _ a _ => hq _ (hc _ List.mem_cons_self), fun z => by cases z⟩
    · rename_i q
      exact ⟨false, q, fun z => (by cases z), fun _ => wMany_of h hq fun p hp => hc p (List.mem_cons_of_mem _ hp)⟩
    · cases h
theorem PE.wide {X : Cx} {e : PySem.Expr} {t : TE} (h : PE X e t) : PE X e (fun σ H Q => ∃ Qn : VK, (∀ v H', Qn v H' → Q v H') ∧ t σ H Qn) := ⟨fun pins s σ H Q I ⟨Qn, hn, q⟩ =>
  wpAny_mono (h.run pins s σ H Qn I q) (fun u s' ⟨v, H', J, r, z⟩ => ⟨v, H', J, r, hn _ _ z⟩) fun _ _ z => z⟩
theorem try_gives {X : Cx} {Y : Fx} {Ng : List Str} {x a q : Str} {sg : Scope} {g : Addr} {cdg : Value} {bg : List Stmt} {cl : List (Str × D)} {t : Td} (h : tryB sg a cl t.fin bg = true) (hm : ∀ p ∈ cl, X.mg p.1 = some (.ref (He.ga X.K p.1)))
    (ht : ∀ c d, tdAt t.at_ c = some d → clsB X.K (Y.ca c) cl = some d) (h0 : ∀ f : Addr, (L2.start Ng [V.ref f])[0]? = some (some (V.ref f))) : PxN.GivesTo X Ng x sg g cdg bg a q (tdTT Y t) := by
  intro f c' s H Q tl act hc hq
  unfold tryB at h
  split at h
  · rename_i b p1 p2 p3 h1 hs p4 j n p5 p6
    obtain ⟨k1, h⟩ := and2 h
    obtain ⟨k2, k3⟩ := and2 h
    have e1 : b = a := of_decide_eq_true k1
    subst e1
    obtain ⟨ok, cv⟩ := hds_ok (X := (cxOf C8.CX0 X.prog X.w X.K X.mg X.base Ng x sg g cdg X.A X.stack s H C8.E0).nox) (sc := sg) rfl hm k2
    refine ⟨_, pss_cons (L2N.ps_try_many (X := (cxOf C8.CX0 X.prog X.w X.K X.mg X.base Ng x sg g cdg X.A X.stack s H C8.E0).nox)
      (tb := fun W Ds σ H => ∃ (Ech : XK) (Qn : VK), (∀ cls d σ' H', Ech cls d H' → W cls d σ' H') ∧ (∀ v H', Qn v H' → Ds.nx σ H') ∧ σ[0]? = some (some (.ref f)) ∧ H c' = some (LamX.CodeO c' q) ∧ tl Ech H Qn)
      rfl rfl PxN.takes0 (fun W pn xe tk _ => ?_) ok) (pss_one (ps_ret (pe_constV k3))), ?_⟩
    · refine ⟨fun pins s' σ H' Ds I h' => ?_⟩
      obtain ⟨Ech, Qn, hW, hn, z1, z2, z3⟩ := h'
      have hp := act W pn xe Ech p1 p2 tk hW
      exact (pss_one (ps_expr (pos := p3) (PE.wide hp))).run pins s' σ H' Ds I ⟨Qn, hn, z1, z2, z3⟩
    · refine ⟨_, _, fun cls d σ' H' hz => ?_, fun v H' hz => ?_, h0 f, hc, hq⟩
      · obtain ⟨_, c, d', rfl, e2, e4, e5⟩ := hz
        have e3 := e5 _ (fun _ _ e _ => e) e4
        exact wMany_of (ht c d' e2) e3 cv
      · exact hz _ (constB_cv k3)
  · cases h
end Px
end

section
set_option Elab.async false
set_option linter.all false
set_option maxRecDepth 100000
set_option maxHeartbeats 2000000
/-! Px: within an except suite: lists walked, tuples unpacked, comprehensions. -/
namespace Px
open PySem PySem.Spec PyProof.Rows L2 HotX L2H
section
variable {prog : Program} {w : World} {A : Around} {E : Value → Shared → Prop} {s : Shared}
theorem list_end_hot {it l x1 : Addr} {i : Nat} {items} {Q : Option Value → Shared → Prop} (hot : HotAt A x1 s.heap) (hne : x1 ≠ it)
    (hit : s.heap.IsListIter it l i) (hl : s.heap.IsList l items) (hx : items[i]? = none)
    (hQ : ∀ h', Heap.ExtBut it s.heap h' → Q none { s with heap := h' }) : wpAny (model prog w) A (pyNext (.ref it)) Q E s := by
  obtain ⟨o, ho, hc, hd⟩ := id hit
  obtain ⟨ol, hol, _, nl, hdl⟩ := hl
  obtain ⟨hh, o1, vs1, h1, d1, c1⟩ := hot
  unfold pyNext
  refine wpAny_bind (wpAny_attempt (wpAny_callSpecial?_slot (name := Str.ofString "__next__") hit.typeIs slot_listiter_next
    (wpAny_call_entry slot_listiter_next hit.typeIs entry_listiter_next ?_ (args_listiter_next _))))
  show wpAny _ _ (field (.ref it) 0 >>= _) _ _ s
  refine wpAny_bind (wpAny_field ho hd (x := .ref l) rfl ?_)
  show wpAny _ _ (if (Value.ref l == Value.none) = true then _ else _) _ _ s
  rw [if_neg (show ¬ ((Value.ref l == Value.none) = true) from Bool.false_ne_true)]
  show wpAny _ _ (field (.ref it) 1 >>= _) _ _ s
  refine wpAny_bind (wpAny_field ho hd (x := .int i 0) rfl ?_)
  show wpAny _ _ (seqItems? (.ref l) >>= _) _ _ s
  refine wpAny_bind (wpAny_seqItems hol hdl ?_)
  simp only [Int.toNat_natCast, hx]
  refine wpAny_bind (wpAny_rule (wpAny_bind (wpAny_setField ho hd (by simp) ?_)))
  show wpAny _ _ (newExc (.type "StopIteration") [] >>= _) _ _ _
  refine wpAny_bind ?_
  simp only [newExc, newTuple]
  refine wpAny_bind (wpAny_newObj_type ?_ (by size_fits))
  refine wpAny_bind (m := firstArgMember _ _) (wpAny_of_eq (a := Value.none) (by first | rfl | (simp only [firstArgMember]; rfl)) ?_)
  refine wpAny_newObj_type ?_ (by size_fits)
  refine raiseNew_hot ⟨hh, o1, vs1, Heap.get?_push_of_some _ (Heap.get?_push_of_some _ (((Heap.SameBut.update ..).2 _ hne).trans h1)), d1, c1⟩ (Nat.ne_of_lt (Heap.lt_size (Heap.get?_push_of_some _ (((Heap.SameBut.update ..).2 _ hne).trans h1)))) (Heap.get?_push_size _ rfl) rfl (by first | (simp; done) | (simp; omega) | (simp only [Array.size_append]; simp; omega)) ?_
  refine wpAny_bind (wpAny_isInstance (T := "StopIteration") (b := true) ⟨_, Heap.get?_update_self _ (Heap.get?_push_size _ rfl) rfl, rfl⟩ isSubtype_stop ?_)
  refine wpAny_pure (hQ _ fun b o hb e => ?_)
  exact (Heap.get?_update_other _ _ (Nat.ne_of_gt (Heap.lt_size (((Heap.SameBut.update ..).extBut.push _) b o hb e)))).trans ((((Heap.SameBut.update ..).extBut.push _).push _) b o hb e)
theorem tuple_end_hot {it l x1 : Addr} {i : Nat} {items} {Q : Option Value → Shared → Prop} (hot : HotAt A x1 s.heap) (hne : x1 ≠ it)
    (hit : IsTupIter s.heap it l i) (hl : IsTup s.heap l items) (hx : items[i]? = none)
    (hQ : ∀ h', Heap.ExtBut it s.heap h' → Q none { s with heap := h' }) : wpAny (model prog w) A (pyNext (.ref it)) Q E s := by
  obtain ⟨o, ho, hc, hd⟩ := id hit
  obtain ⟨ol, hol, _, nl, hdl⟩ := hl
  obtain ⟨hh, o1, vs1, h1, d1, c1⟩ := hot
  unfold pyNext
  refine wpAny_bind (wpAny_attempt (wpAny_callSpecial?_slot (name := Str.ofString "__next__") hit.typeIs slot_tupleiter_next
    (wpAny_call_entry slot_tupleiter_next hit.typeIs entry_tupleiter_next ?_ (args_tupleiter_next _))))
  show wpAny _ _ (field (.ref it) 0 >>= _) _ _ s
  refine wpAny_bind (wpAny_field ho hd (x := .ref l) rfl ?_)
  show wpAny _ _ (if (Value.ref l == Value.none) = true then _ else _) _ _ s
  rw [if_neg (show ¬ ((Value.ref l == Value.none) = true) from Bool.false_ne_true)]
  show wpAny _ _ (field (.ref it) 1 >>= _) _ _ s
  refine wpAny_bind (wpAny_field ho hd (x := .int i 0) rfl ?_)
  show wpAny _ _ (seqItems? (.ref l) >>= _) _ _ s
  refine wpAny_bind (wpAny_seqItems hol hdl ?_)
  simp only [Int.toNat_natCast, hx]
  refine wpAny_bind (wpAny_rule (wpAny_bind (wpAny_setField ho hd (by simp) ?_)))
  show wpAny _ _ (newExc (.type "StopIteration") [] >>= _) _ _ _
  refine wpAny_bind ?_
  simp only [newExc, newTuple]
  refine wpAny_bind (wpAny_newObj_type ?_ (by size_fits))
  refine wpAny_bind (m := firstArgMember _ _) (wpAny_of_eq (a := Value.none) (by first | rfl | (simp only [firstArgMember]; rfl)) ?_)
  refine wpAny_newObj_type ?_ (by size_fits)
  refine raiseNew_hot ⟨hh, o1, vs1, Heap.get?_push_of_some _ (Heap.get?_push_of_some _ (((Heap.SameBut.update ..).2 _ hne).trans h1)), d1, c1⟩ (Nat.ne_of_lt (Heap.lt_size (Heap.get?_push_of_some _ (((Heap.SameBut.update ..).2 _ hne).trans h1)))) (Heap.get?_push_size _ rfl) rfl (by first | (simp; done) | (simp; omega) | (simp only [Array.size_append]; simp; omega)) ?_
  refine wpAny_bind (wpAny_isInstance (T := "StopIteration") (b := true) ⟨_, Heap.get?_update_self _ (Heap.get?_push_size _ rfl) rfl, rfl⟩ isSubtype_stop ?_)
  refine wpAny_pure (hQ _ fun b o hb e => ?_)
  exact (Heap.get?_update_other _ _ (Nat.ne_of_gt (Heap.lt_size (((Heap.SameBut.update ..).extBut.push _) b o hb e)))).trans ((((Heap.SameBut.update ..).extBut.push _).push _) b o hb e)
theorem unpackItems_hot {t x1 : Addr} {items : Array Value} {Q : List Value → Shared → Prop} (hot : HotAt A x1 s.heap) (ht : IsTup s.heap t items)
    (hQ : ∀ h', Heap.ExtBut s.heap.objs.size s.heap h' → Q items.toList { s with heap := h' }) : wpAny (model prog w) A (unpackItems (.ref t) items.size none) Q E s := by
  have hlt : t ≠ s.heap.objs.size := by obtain ⟨o, ho, _⟩ := ht; exact Nat.ne_of_lt (Heap.lt_size ho)
  obtain ⟨hh, o1, vs1, h1, d1, c1⟩ := hot
  have hx1 : x1 ≠ s.heap.objs.size := Nat.ne_of_lt (Heap.lt_size h1)
  unfold unpackItems
  refine wpAny_bind ?_
  · unfold notIterableAtAll
    refine wpAny_bind (wpAny_specialOf ht.typeIs slot_tuple_iter.lookup ?_)
    refine wpAny_pure ?_
    simp only [Bool.false_eq_true, if_false]
    refine wpAny_bind (wpAny_holding (iter_tuple ht ?_))
    refine wpAny_bind (wpAny_holding (draw_tuple hlt items.size 0 _ _ ⟨_, Heap.get?_push_size _ rfl, rfl, rfl⟩ (ht.push _) (by omega) fun h₁ hit₁ hs₁ => ?_))
    have hall : List.take items.size (List.drop 0 items.toList) = items.toList := by
      rw [List.drop_zero]; exact List.take_of_length_le (by simp)
    rw [hall]
    rw [if_neg (by simp)]
    have ht₁ : IsTup h₁ t items := (ht.push _).extBut hs₁.extBut hlt
    refine wpAny_bind (wpAny_holding (tuple_end_hot ⟨hh, o1, vs1, (hs₁.2 _ hx1).trans (Heap.get?_push_of_some _ h1), d1, c1⟩ hx1 hit₁ ht₁ (by simp) fun h₂ he₂ => ?_))
    simp only [Option.isSome_none, Bool.false_eq_true, if_false]
    refine wpAny_pure (hQ h₂ fun b o hb e => he₂ b o hb (hs₁.extBut b o hb (Heap.get?_push_of_some _ e)))
theorem unpack_hot {t x1 : Addr} {items : Array Value} {targets : List (Bool × (Value → Sem Unit))} {Q : Unit → Shared → Prop} (hot : HotAt A x1 s.heap) (ht : IsTup s.heap t items)
    (hn : targets.length = items.size) (hstar : targets.findIdx? (·.1) = none)
    (h : ∀ h', Heap.ExtBut s.heap.objs.size s.heap h' → wpAny (model prog w) A (assignInOrder (targets.map (·.2)) items.toList) Q E { s with heap := h' }) :
    wpAny (model prog w) A (unpack (.ref t) targets) Q E s := by
  unfold unpack
  rw [hn, hstar]
  exact wpAny_bind (wpAny_holding (unpackItems_hot hot ht h))
theorem assign_tup_hot {env : PySem.Env} {elts : List PySem.Expr} {x0} {pos : Pos} {t x1 : Addr} {items : Array Value} {Q : Unit → Shared → Prop} (hot : HotAt A x1 s.heap) (ht : IsTup s.heap t items)
    (hn : (assignEach elts env).length = items.size) (hstar : (assignEach elts env).findIdx? (·.1) = none)
    (h : ∀ h', Heap.ExtBut s.heap.objs.size s.heap h' → wpAny (model prog w) A (assignInOrder ((assignEach elts env).map (·.2)) items.toList) Q E { s with heap := h' }) :
    wpAny (model prog w) A (assign (.Tuple elts x0 pos) env (.ref t)) Q E s := by
  rw [assign_Tuple]
  exact wpAny_bind (wpAny_standAt (unpack_hot hot ht hn hstar h))
end
section
variable {X : Cx}
theorem pg_tupH {es : List PySem.Expr} {k : Nat} {t : TGs} {n : Nat} {pos : Pos} (hc : HotC X) (h : PGs X es t)
    (hn : (assignEach es X.env).length = n := by rfl) (hst : (assignEach es X.env).findIdx? (·.1) = none := by rfl) : PG X (.Tuple es k pos) (gTup X.K n t) := by
  refine ⟨fun pins s σ H v u Q I r hw => ?_⟩
  obtain ⟨a, xs, e1, hq, hl, hw⟩ := hw
  subst e1
  cases r
  obtain ⟨its, rv, ht, hz⟩ := I.tuple hq
  obtain ⟨x1, hot⟩ := hc.at I
  refine assign_tup_hot hot ht (by simp [hn, ← hl, rv.length]) hst fun h' hx => ?_
  have I1 : Inv X pins σ H { s with heap := h' } := I.kept (t' := s.toks) fun b o e => hx b o (Nat.ne_of_lt (Heap.lt_size e)) e
  exact h.run pins _ σ H xs _ Q I1 (by simpa using rv) hw
end
theorem turn_listH {P : Program} {w : World} {K : PySem.W.Frag} {tg : PySem.Expr} (a it : Addr) : TurnH P w K tg (Itl K a) [it] it (fun i h => h.IsListIter it a i) where
  mem := by simp
  obj := fun i h st b hb => by
    have e : b = it := by simpa using hb
    subst e
    obtain ⟨o, e, c, d⟩ := st
    exact ⟨o, e, fun v z => by rw [d] at z; cases z⟩
  keep := fun i h h' st k => st.at fun o e => k it (by simp) o e
  item := by
    intro X hP hw hK hc i pins s σ H E I hf st hg
    subst hP hw hK
    obtain ⟨xs, x, hq, hx⟩ := hg
    obtain ⟨its, rv, p, hz⟩ := I.list hq
    obtain ⟨u, hu, ru⟩ := rv.get hx
    obtain ⟨f0, f1, f2, f3, f4, f5⟩ := hf it (by simp)
    refine wpAny_pyNext_list_item st p.isList (x := u) (by simpa using hu) fun h' st' sb => ?_
    have I1 : Inv X pins σ H { s with heap := h' } := I.turned (t' := s.toks) (fun b o hb e => (sb.2 b hb).trans e) f0 f1 f3 f4 f5
    obtain ⟨o, e, c, d⟩ := id st'
    exact ⟨u, rfl, go_of (s := { s with heap := h' }) e c d (by decide) ⟨x, H, I1, ru, ⟨rfl, fun ys hy => by rw [I.list_inj hy hq]; exact hx⟩, st', fun b hb => (hf b hb).1⟩⟩
  done := by
    intro X hP hw hK hc i pins s σ H E I hf st hg
    subst hP hw hK
    obtain ⟨xs, hq, hx⟩ := hg
    obtain ⟨its, rv, p, hz⟩ := I.list hq
    obtain ⟨f0, f1, f2, f3, f4, f5⟩ := hf it (by simp)
    have hl := rv.length
    obtain ⟨p1, ⟨hh, v1, d1, c1⟩, hp1⟩ := hc
    have hpin := List.mem_append_left pins hp1
    exact list_end_hot ⟨hh, p1.2, v1, (I.pin p1 hpin).1, d1, c1⟩ (f5 p1 hpin) st p.isList (by simp; omega) fun h' eb => ⟨rfl, I.turned (t' := s.toks) (fun b o hb e => eb b o hb e) f0 f1 f3 f4 f5⟩
  self := fun _ _ _ _ _ st h => wpAny_pyIter_listiter st h
end Px
end

section
set_option Elab.async false
set_option linter.all false
set_option maxRecDepth 100000
set_option maxHeartbeats 2000000
/-! Px: a list comprehension within an except suite (the rule for calm contexts turned to it: what is handled stays pinned within the block). -/
namespace PxH
open PySem PySem.Spec PyProof.Rows L2 HotX L2H
/-- the block's context: what the context pins stays pinned -/
abbrev blkH (X : Cx) (s : Shared) (H : Hp) (scope : Scope) (cenv : Env) (fp : List Addr) : Cx := { X.blk s H scope cenv fp with pn := X.pn }
section
variable {X : Cx}
theorem hotB {s : Shared} {H : Hp} {scope : Scope} {cenv : Env} {fp : List Addr} (hc : HotC X) : HotC (blkH X s H scope cenv fp) := hc
theorem block_startH {pins : List (Addr × Obj)} {σ : L2.St} {H : Hp} {s : Shared} {scope : Scope} {own : List (Str × Nat)} {fp : List Addr} (I : Inv X pins σ H s) (ok : BlkOk X.N X.env.scope scope own) (hN : X.N.Nodup) (hfp : ∀ b ∈ fp, FpOk X pins H b ∧ b < s.heap.objs.size) :
    Inv (blkH X s H scope (compEnvC scope (cellsFrom (s.heap.objs.size + 1) scope.names (cloFrom X.env.cells scope.names [])) s.heap.objs.size X.env) fp) [] (wipe σ (own.map (·.2))) H { s with heap := pushCells (s.heap.push { cls := .type "dict", data := .dict #[] }) scope.names } := by
  have J := block_start I ok hN hfp
  obtain ⟨k1, k2, k3, k4, k5, k6, k7, k8, k9, k10, k11, k12, k13, k14, k15, k16, k17, k18⟩ := J.ok
  refine ⟨⟨k1, k2, k3, k4, k5, k6, k7, k8, k9, k10, k11, k12, k13, k14, k15, k16, k17, k18⟩, J.os, J.bare, J.base, J.loc, J.cell, J.free, J.freeC, fun p hp => ?_, J.hok, J.len⟩
  have hp : p ∈ X.pn := by simpa using hp
  obtain ⟨g1, g2, g3, g4, g5⟩ := I.pin p (List.mem_append_left _ hp)
  refine ⟨pushCells_keeps _ _ _ _ (Heap.get?_push_of_some _ g1), g2, Nat.ne_of_lt (Heap.lt_size g1), fun hm => ?_, g5⟩
  have hm : p.1 ∈ frs X.stack := hm
  rcases I.ok.stk with e | ⟨e, f⟩
  · rw [e] at hm
    exact g4 hm
  · rw [e] at hm
    obtain ⟨v, hv, q⟩ := List.mem_filterMap.mp hm
    rcases List.mem_cons.mp hv with z | z
    · subst z
      rw [f] at q
      exact g3 (Option.some.inj q).symm
    · exact g4 (List.mem_filterMap.mpr ⟨v, z, q⟩)
theorem lc_coreH {pins : List (Addr × Obj)} {s : Shared} {σ : L2.St} {H : Hp} {Q : VK} {elt tg iter : Expr} {ifs : List Expr} {scope : Scope} {own : List (Str × Nat)} {pos pos' : Pos} {wi : TI} {g : TG} {tt : TT} {te : TE} {use : Option (Value → Sem Unit)} {Qf : Value → Shared → Prop}
    (hc : HotC X) (hN : X.N.Nodup) (I : Inv X pins σ H s) (hi : PIH X tg iter wi) (ok : BlkOk X.N X.env.scope scope own)
    (hg : ∀ (s : Shared) (H : Hp) (C : Addr) (cl : List (Str × Addr)) (fp : List Addr), PG (blkH X s H scope (compEnvC scope cl C X.env) fp) tg g) (ht : ∀ (s : Shared) (H : Hp) (C : Addr) (cl : List (Str × Addr)) (fp : List Addr), PTs (blkH X s H scope (compEnvC scope cl C X.env) fp) ifs tt)
    (he : ∀ (s : Shared) (H : Hp) (C : Addr) (cl : List (Str × Addr)) (fp : List Addr), PE (blkH X s H scope (compEnvC scope cl C X.env) fp) elt te) (hs : ∀ x, foldedSetIterable iter X.env x = pure x)
    (h : tLc wi g tt te (own.map (·.2)) σ H Q)
    (hRR : ∀ D C s' m H', Inv X pins σ H' s' → Q (.ref D) H' → s'.heap.Ns C m → FpOk X pins H' C → compPost (model X.prog X.w) X.A X.xe use Qf (.ref D) C (.ok .next) s') :
    wpAny (model X.prog X.w) X.A (comprehension (.ListComp elt [⟨tg, iter, ifs, 0⟩] scope pos) scope X.env pos' (newList []) false (eval iter X.env) use) Qf X.xe s := by
  have hfree : ∀ y ∈ scope.names, y.2 = .free → ∃ c, X.env.cells.lookup y.1 = some c := fun y hy e => by
    rcases ok.free y hy e with k | k
    · exact I.ok.has _ (.inl k)
    · exact I.ok.has _ (.inr k)
  refine wpAny_comprehension_free (use := use) rfl hs (closure_ok hfree) ok.kind (fun y hy e => by rw [ok.uniq y hy, e])
    (thn (hi.run pins s σ H _ I h) fun xv s1 hx => thn hx fun itv s2 h2 => ?_)
  obtain ⟨it, fp, tn, J, H2, e, I2, T, st2, f2, q⟩ := h2
  subst e
  refine wpAny_newObj_type (newEnv_comp ?_) (by show 0 ≤ sizeLine; decide)
  generalize hD : s2.heap.objs.size = D
  have hDn : H2 D = none := I2.hok.fresh (Nat.le_of_eq hD)
  obtain ⟨W, ⟨m0, w0⟩, turn⟩ := q D hDn
  -- the new list
  generalize hs3 : ({ s2 with heap := s2.heap.push { cls := .type "list", data := .seq ([] : List Value).toArray } } : Shared) = s3
  have I3 : Inv X pins σ (upd H2 D (.lst [])) s3 := by
    rw [← hs3]
    refine I2.laid (t' := s2.toks) (fun b o e => Heap.get?_push_of_some _ e) (Nat.le_of_eq hD) ⟨Nat.zero_le _, [], 0, .nil, ?_⟩
    rw [← hD]
    exact Heap.get?_push_size _ rfl
  have h3 : s3.heap = s2.heap.push { cls := .type "list", data := .seq ([] : List Value).toArray } := by rw [← hs3]
  have sz : ∀ b ∈ fp, b < s2.heap.objs.size := fun b hb => by
    obtain ⟨o, e, _⟩ := T.obj _ _ st2 b hb
    exact Heap.lt_size e
  have f3 : ∀ b ∈ fp, FpOk X pins (upd H2 D (.lst [])) b ∧ b < s3.heap.objs.size := fun b hb => by
    have hlt := sz b hb
    refine ⟨⟨?_, (f2 b hb).2⟩, by rw [h3, Heap.size_push]; exact Nat.lt_succ_of_lt hlt⟩
    rw [upd_ne (by rw [← hD]; exact Nat.ne_of_lt hlt)]
    exact (f2 b hb).1
  have st3 : tn 0 s3.heap := T.keep _ _ _ st2 fun b _ o e => by rw [h3]; exact Heap.get?_push_of_some _ e
  have I4 := block_startH I3 ok hN f3
  have pg := hg s3 (upd H2 D (.lst [])) s3.heap.objs.size (cellsFrom (s3.heap.objs.size + 1) scope.names (cloFrom X.env.cells scope.names [])) fp
  have pt := ht s3 (upd H2 D (.lst [])) s3.heap.objs.size (cellsFrom (s3.heap.objs.size + 1) scope.names (cloFrom X.env.cells scope.names [])) fp
  have pe := he s3 (upd H2 D (.lst [])) s3.heap.objs.size (cellsFrom (s3.heap.objs.size + 1) scope.names (cloFrom X.env.cells scope.names [])) fp
  show codeAny _ _ (.compStart (.ListComp elt [⟨tg, iter, ifs, 0⟩] scope pos) 0 (.ref it) (.ref D) (compEnvC scope (cellsFrom (s3.heap.objs.size + 1) scope.names (cloFrom X.env.cells scope.names [])) s3.heap.objs.size X.env)) (compPost (model X.prog X.w) X.A X.xe use Qf (.ref D) s3.heap.objs.size) { s3 with heap := pushCells (s3.heap.push { cls := .type "dict", data := .dict #[] }) scope.names }
  have nfp : ∀ b ∈ fp, (upd H2 D (.lst [])) b = none := fun b hb => (f3 b hb).1.1
  generalize hce : compEnvC scope (cellsFrom (s3.heap.objs.size + 1) scope.names (cloFrom X.env.cells scope.names [])) s3.heap.objs.size X.env = ce at I4 pg pt pe ⊢
  have cL : ce.locals = s3.heap.objs.size := by subst hce; rfl
  generalize hH3 : upd H2 D (.lst []) = H3 at I3 I4 pg pt pe w0 nfp f3
  generalize hs4 : ({ s3 with heap := pushCells (s3.heap.push { cls := .type "dict", data := .dict #[] }) scope.names } : Shared) = s4 at I4 ⊢
  have st4 : tn 0 s4.heap := T.keep _ _ _ st3 fun b _ o e => by rw [← hs4]; exact pushCells_keeps _ _ _ _ (Heap.get?_push_of_some _ e)
  have stat : ∀ {σ' : L2.St} {H' : Hp} {s' : Shared}, Inv (blkH X s3 H3 scope ce fp) [] σ' H' s' → (∀ b ∈ fp, H' b = none) → ∀ b ∈ fp, FpOk (blkH X s3 H3 scope ce fp) [] H' b := fun {σ' H' s'} I' hn b hb =>
    ⟨hn b hb, (I'.ok.exf b hb).1, I'.ok.exfs b hb, .inl hb, fun x c e => (I'.ok.exf b hb).2 x c e, fun p hp => (f3 b hb).1.2.2.2.2.2 p (List.mem_append_left _ (show p ∈ X.pn by simpa using hp))⟩
  have loop : codeAny (model X.prog X.w) X.A (.compLoop (.ListComp elt [⟨tg, iter, ifs, 0⟩] scope pos) 0 (.ref it) (.ref D) ce) (compPost (model X.prog X.w) X.A X.xe use Qf (.ref D) s3.heap.objs.size) s4 := by
    refine compLoop_any (fun n s' => ∃ i H', Inv (blkH X s3 H3 scope ce fp) [] (wipe σ (own.map (·.2))) H' s' ∧ tn i s'.heap ∧ (∀ b ∈ fp, H' b = none) ∧ W i n H') ?_ m0 ⟨0, H3, I4, st4, nfp, w0⟩
    rintro n s5 ⟨i, H5, I5, st5, n5, w5⟩
    rcases turn i n H5 w5 with ⟨stop, qq⟩ | ⟨go, Nx, hNx, step⟩
    · have td := T.done (blkH X s3 H3 scope ce fp) rfl rfl rfl (hotB hc) i [] s5 _ H5 (fun _ _ => False) I5 (stat I5 n5) st5 stop
      refine thnF td fun r s6 ⟨hr, I6⟩ => ?_
      subst hr
      -- back in the def's context
      have I7 : Inv X pins σ H5 s6 := I3.call' (ch := fp) I6.os I6.base I6.hok I6.bare fun b hb => ⟨(f3 b hb).1.2.2.2.1, (f3 b hb).1.2.1, (f3 b hb).1.2.2.2.2.1, (f3 b hb).1.2.2.2.2.2⟩
      have nC : H5 s3.heap.objs.size = none := by
        have z : H5 ce.locals = none := I6.free
        rw [cL] at z
        exact z
      obtain ⟨m, hn, _⟩ := I6.loc
      have hn : s6.heap.Ns ce.locals m := hn
      rw [cL] at hn
      exact hRR D s3.heap.objs.size s6 m H5 I7 qq hn (I3.fpOk (Nat.le_refl _) nC)
    · have ti := T.item (blkH X s3 H3 scope ce fp) rfl rfl rfl (hotB hc) i [] s5 _ H5 (fun _ _ => False) I5 (stat I5 n5) st5 go
      refine thnF ti fun r s6 ⟨u, hr, h6⟩ => ?_
      subst hr
      refine thnF h6 fun _ s7 ⟨x, H7, I7, r7, y7, st7, n7⟩ => ?_
      have I7' := I7.pinned (stat I7 n7) (T.obj _ _ st7)
      refine thnF (pg.run _ s7 _ H7 x u _ I7' r7 (step x H7 y7)) fun _ s8 ⟨σ8, H8, I8, hw8, q8⟩ => ?_
      refine thnF (pt.run _ s8 σ8 H8 _ I8 q8) fun b s9 ⟨H9, I9, q9⟩ => ?_
      -- the turn's end
      have fin : ∀ {s' : Shared} {H' : Hp}, Inv (blkH X s3 H3 scope ce fp) ([] ++ pinsAt fp s7.heap) σ8 H' s' → Nx H' → ∃ m, m < n ∧ ∃ i H', Inv (blkH X s3 H3 scope ce fp) [] (wipe σ (own.map (·.2))) H' s' ∧ tn i s'.heap ∧ (∀ b ∈ fp, H' b = none) ∧ W i m H' := fun {s' H'} I' nx => by
        obtain ⟨m', hm, w'⟩ := hNx H' nx
        have pin' : ∀ b ∈ fp, ∀ o, s7.heap.get? b = some o → s'.heap.get? b = some o ∧ H' b = none := fun b hb o e =>
          let z := I'.pin (b, o) (List.mem_append_right _ (List.mem_append_right _ (mem_pinsAt hb e)))
          ⟨z.1, z.2.1⟩
        have hl : (wipe σ (own.map (·.2))).length = σ8.length := by rw [← hw8, wipe_length]
        refine ⟨m', hm, i + 1, H', (I'.unpinned (pins := [])).weak hl (fun j v e => ?_), T.keep _ _ _ st7 fun b hb o e => (pin' b hb o e).1, fun b hb => ?_, w'⟩
        · rw [← hw8] at e
          exact (wipe_some e).1
        · obtain ⟨o, e, _⟩ := T.obj _ _ st7 b hb
          exact (pin' b hb o e).2
      cases b with
      | false =>
        simp only [Bool.false_eq_true, if_false] at q9 ⊢
        exact fin I9 q9
      | true =>
        simp only [if_true] at q9 ⊢
        refine thnF (pe.run _ s9 σ8 H9 _ I9 q9) fun z s10 ⟨yv, H10, I10, r10, acc, hD10, hz10, nx⟩ => ?_
        exact app_ok (X := blkH X s3 H3 scope ce fp) I10 hD10 hz10 r10 fun s11 I11 => fin I11 nx
  exact codeAny_compStart_list loop (T.self X.A 0 _ _ _ st4 loop)
/-- as a value -/
theorem pe_lcH {elt tg iter : Expr} {ifs : List Expr} {scope : Scope} {own : List (Str × Nat)} {pos : Pos} {wi : TI} {g : TG} {tt : TT} {te : TE} (hc : HotC X) (hN : X.N.Nodup) (hi : PIH X tg iter wi) (ok : BlkOk X.N X.env.scope scope own)
    (hg : ∀ (s : Shared) (H : Hp) (C : Addr) (cl : List (Str × Addr)) (fp : List Addr), PG (blkH X s H scope (compEnvC scope cl C X.env) fp) tg g) (ht : ∀ (s : Shared) (H : Hp) (C : Addr) (cl : List (Str × Addr)) (fp : List Addr), PTs (blkH X s H scope (compEnvC scope cl C X.env) fp) ifs tt)
    (he : ∀ (s : Shared) (H : Hp) (C : Addr) (cl : List (Str × Addr)) (fp : List Addr), PE (blkH X s H scope (compEnvC scope cl C X.env) fp) elt te) (hs : ∀ x, foldedSetIterable iter X.env x = pure x := by intro _; rfl) :
    PE X (.ListComp elt [⟨tg, iter, ifs, 0⟩] scope pos) (tLc wi g tt te (own.map (·.2))) := by
  refine ⟨fun pins s σ H Q I h => ?_⟩
  rw [eval_ListComp]
  refine lc_coreH hc hN I hi ok hg ht he hs h fun D C s' m H' I' q hn f => ⟨m, hn, fun h'' sb => ?_⟩
  obtain ⟨f0, f1, f2, f3, f4, f5⟩ := f
  exact ⟨.ref D, H', I'.turned (t' := s'.toks) (fun b o hb e => (sb.2 b hb).trans e) f0 f1 f3 f4 f5, rfl, q⟩
end
end PxH
end

section
set_option Elab.async false
set_option linter.all false
set_option maxRecDepth 100000
set_option maxHeartbeats 2000000
/-! Px: the suite of a def that names the class of an error: lists of pairs of a word and whether the error is of a class. -/
namespace PxH
open PySem PySem.Spec PyProof.Rows L2 HotX L2H
open Px (eqS glB visB nodbg plainL and2 nodbg_ok glB_ok visB_ok star_cons)
inductive HV where
  | txt (x : Str) | prs (l : List (Str × Bool)) | txs (l : List Str)
def RepP (H : Hp) : List V → List (Str × Bool) → Prop
  | [], [] => True
  | v :: vs, (w, b) :: l => (∃ t, v = .ref t ∧ H t = some (.tup [.str w, .bl b])) ∧ RepP H vs l
  | _, _ => False
def RepV (H : Hp) : HV → V → Prop
  | .txt x, v => v = .str x
  | .prs l, v => ∃ p vs, v = .ref p ∧ H p = some (.lst vs) ∧ RepP H vs l
  | .txs l, v => ∃ p, v = .ref p ∧ H p = some (.lst (l.map V.str))
def Sub (H H' : Hp) : Prop := ∀ b o, H b = some o → H' b = some o
theorem Sub.refl {H : Hp} : Sub H H := fun _ _ e => e
theorem Sub.trans {H H1 H2 : Hp} (a : Sub H H1) (b : Sub H1 H2) : Sub H H2 := fun c o e => b c o (a c o e)
theorem Sub.new {H : Hp} {p : Addr} {o : HO} (n : H p = none) : Sub H (upd H p o) := fun b o' e => by
  rw [upd_ne (ne_of_none e n)]
  exact e
theorem RepP.sub {H H' : Hp} (s : Sub H H') : ∀ {vs : List V} {l : List (Str × Bool)}, RepP H vs l → RepP H' vs l
  | [], [], _ => trivial
  | v :: vs, (w, b) :: l, h => by
    obtain ⟨⟨t, e, q⟩, r⟩ := h
    exact ⟨⟨t, e, s _ _ q⟩, RepP.sub s r⟩
  | [], _ :: _, h => h.elim
  | _ :: _, [], h => h.elim
theorem RepV.sub {H H' : Hp} (s : Sub H H') {x : HV} {v : V} (h : RepV H x v) : RepV H' x v := by
  cases x with
  | txt x => exact h
  | prs l =>
    obtain ⟨p, vs, e, q, r⟩ := h
    exact ⟨p, vs, e, s _ _ q, r.sub s⟩
  | txs l =>
    obtain ⟨p, e, q⟩ := h
    exact ⟨p, e, s _ _ q⟩
theorem RepP.len {H : Hp} : ∀ {vs : List V} {l : List (Str × Bool)}, RepP H vs l → vs.length = l.length
  | [], [], _ => rfl
  | v :: vs, (w, b) :: l, h => congrArg Nat.succ (RepP.len h.2)
  | [], _ :: _, h => h.elim
  | _ :: _, [], h => h.elim
theorem RepP.app {H : Hp} : ∀ {vs us : List V} {l m : List (Str × Bool)}, RepP H vs l → RepP H us m → RepP H (vs ++ us) (l ++ m)
  | [], us, [], m, _, h => h
  | v :: vs, us, (w, b) :: l, m, h, h2 => ⟨h.1, RepP.app h.2 h2⟩
  | [], _, _ :: _, _, h, _ => h.elim
  | _ :: _, _, [], _, h, _ => h.elim
theorem RepP.at {H : Hp} : ∀ {vs : List V} {l : List (Str × Bool)} {i : Nat} {v : V}, RepP H vs l → vs[i]? = some v → ∃ w b t, l[i]? = some (w, b) ∧ v = .ref t ∧ H t = some (.tup [.str w, .bl b])
  | [], _, i, v, _, h => by simp at h
  | u :: vs, (w, b) :: l, 0, v, h, e => by
    obtain ⟨⟨t, q1, q2⟩, _⟩ := h
    have e : u = v := by simpa using e
    exact ⟨w, b, t, rfl, e ▸ q1, q2⟩
  | u :: vs, (w, b) :: l, i + 1, v, h, e => RepP.at (i := i) h.2 (by simpa using e)
  | _ :: _, [], _, _, h, _ => h.elim
/-- what the slots hold -/
abbrev HE := List (Option HV)
def EnvV (H : Hp) (ρ : HE) (σ : L2.St) : Prop := ∀ (i : Nat) (x : HV), ρ[i]? = some (some x) → ∃ v, σ[i]? = some (some v) ∧ RepV H x v
theorem EnvV.sub {H H' : Hp} {ρ : HE} {σ : L2.St} (s : Sub H H') (h : EnvV H ρ σ) : EnvV H' ρ σ := fun i x e => by
  obtain ⟨v, q, r⟩ := h i x e
  exact ⟨v, q, r.sub s⟩
/-- expressions -/
inductive Ex where
  | var (i : Nat) | txt (x : Str) | prs (l : List (Str × Str)) | add (a b : Ex) | comp (i j : Nat) (s : Ex) | join (sep : Str) (x : Ex) | cat (x y : Ex)
def prsO (isx : Str → Option Bool) : List (Str × Str) → Option (List (Str × Bool))
  | [] => some []
  | (w, c) :: l => match isx c, prsO isx l with
    | some b, some r => some ((w, b) :: r)
    | _, _ => none
def hden (isx : Str → Option Bool) : Ex → HE → Option HV
  | .var i, ρ => match ρ[i]? with
    | some o => o
    | none => none
  | .txt x, _ => some (.txt x)
  | .prs l, _ => match prsO isx l with
    | some r => if Nat.ble r.length 1000 = true then some (.prs r) else none
    | none => none
  | .add a b, ρ => match hden isx a ρ, hden isx b ρ with
    | some (.prs l), some (.prs m) => if Nat.ble (l.length + m.length) 1000 = true then some (.prs (l ++ m)) else none
    | _, _ => none
  | .comp _ _ s, ρ => match hden isx s ρ with
    | some (.prs l) => if Nat.ble l.length 1000 = true then some (.txs ((l.filter fun p => p.2).map fun p => p.1)) else none
    | _ => none
  | .join sep x, ρ => match hden isx x ρ with
    | some (.txs l) => if Nat.ble ((l.map (·.length)).sum + l.length * sep.length) 10000 = true then some (.txt (Txt.join sep l)) else none
    | _ => none
  | .cat x y, ρ => match hden isx x ρ, hden isx y ρ with
    | some (.txt a), some (.txt b) => if Nat.ble (a.length + b.length) 10000 = true then some (.txt (a ++ b)) else none
    | _, _ => none
def tH (G : L2.St → Prop) (m : HE → Option HV) : TE := fun σ H Q => ∃ ρ x, G σ ∧ EnvV H ρ σ ∧ m ρ = some x ∧ ∀ v H', Sub H H' → RepV H' x v → Q v H'
section
variable {X : Cx} {isx : Str → Option Bool} {G : L2.St → Prop}
theorem r_var {i : Nat} {x : Str} {p : Pos} (hN : X.N[i]? = some x) (hv : Vis X.env.scope x) (hd : (x == ("__debug__" : Str)) = false) (hcd : (x == ("__classdict__" : Str)) = false) : PE X (.Name x p) (tH G (hden isx (.var i))) := by
  refine (pe_var hN hv hd hcd).mono fun σ H Q ⟨ρ, x, hG, hρ, e, h⟩ => ?_
  have e : ρ[i]? = some (some x) := by
    cases q : ρ[i]? with
    | none => rw [hden, q] at e; cases e
    | some o => rw [hden, q] at e; rw [show o = some x from e]
  obtain ⟨v, q, r⟩ := hρ i x e
  exact ⟨v, q, h v H Sub.refl r⟩
theorem r_txt {x : Str} {n : Nat} {p : Pos} : PE X (.Constant (.str x) n p) (tH G (hden isx (.txt x))) :=
  pe_str.mono fun σ H Q ⟨ρ, y, hG, hρ, e, h⟩ => by
    cases e
    exact h _ H Sub.refl rfl
theorem r_add {a b : Ex} {x y : Expr} {p : Pos} (ha : PE X x (tH G (hden isx a))) (hb : PE X y (tH G (hden isx b))) : PE X (.BinOp x .Add y p) (tH G (hden isx (.add a b))) := by
  refine (pe_op op_cat ha hb).mono fun σ H Q ⟨ρ, z, hG, hρ, e, h⟩ => ?_
  rw [hden] at e
  split at e
  · rename_i l m e1 e2
    split at e
    · rename_i hz
      cases e
      refine ⟨ρ, .prs l, hG, hρ, e1, fun v H1 s1 r1 => ⟨ρ, .prs m, hG, hρ.sub s1, e2, fun u H2 s2 r2 => ?_⟩⟩
      obtain ⟨q, vs, rfl, k1, k2⟩ := r1.sub s2
      obtain ⟨q', us, rfl, k3, k4⟩ := r2
      have hz := Nat.le_of_ble_eq_true hz
      refine ⟨q, q', vs, us, rfl, rfl, k1, k3, ?_, fun t n => h _ _ (s1.trans (s2.trans (Sub.new n))) ⟨t, vs ++ us, rfl, upd_same, (k2.app k4).sub (Sub.new n)⟩⟩
      rw [k2.len, k4.len, sizeLine_eq]
      omega
    · cases e
  · cases e
theorem r_cat {a b : Ex} {x y : Expr} {p : Pos} (ha : PE X x (tH G (hden isx a))) (hb : PE X y (tH G (hden isx b))) : PE X (.BinOp x .Add y p) (tH G (hden isx (.cat a b))) := by
  refine (pe_op op_add_str ha hb).mono fun σ H Q ⟨ρ, z, hG, hρ, e, h⟩ => ?_
  rw [hden] at e
  split at e
  · rename_i l m e1 e2
    split at e
    · rename_i hz
      cases e
      have hz := Nat.le_of_ble_eq_true hz
      refine ⟨ρ, .txt l, hG, hρ, e1, fun v H1 s1 r1 => ⟨ρ, .txt m, hG, hρ.sub s1, e2, fun u H2 s2 r2 => ⟨l, m, r1, r2, ?_, h _ _ (s1.trans s2) rfl⟩⟩⟩
      rw [sizeLine_eq]
      omega
    · cases e
  · cases e
theorem r_join {sep : Str} {a : Ex} {x : Expr} {n : Nat} {ap p p2 : Pos} (ha : PE X x (tH G (hden isx a))) (hl : (ap.endLine == p2.line) = true) (hs : starEach [x] X.env = (false, eval x X.env) :: starEach [] X.env)
    (hfew : ((backTo p2 (starEach [x] X.env)).all (fun x => !x.1) && (backToKw p2 (keywordEach [] X.env)).all (fun x => x.1.isSome) && decide (([x] : List Expr).length + ([] : List Keyword).length + (if ([] : List Keyword).isEmpty then 0 else 1) < 30)) = true) :
    PE X (.Call (.Attribute (.Constant (.str sep) n p) "join" ap) [x] [] p2) (tH G (hden isx (.join sep a))) := by
  refine (pe_bm PySem.F.plainAttrs_str PySem.F.slot_str_join PySem.F.type_str_join mt_join pe_str (pa_cons ha pa_nil hs) rfl hfew hl hs rfl).mono fun σ H Q ⟨ρ, z, hG, hρ, e, h⟩ => ?_
  rw [hden] at e
  split at e
  · rename_i l e1
    split at e
    · rename_i hz
      cases e
      have hz := Nat.le_of_ble_eq_true hz
      refine ⟨rfl, ρ, .txs l, hG, hρ, e1, fun v H1 s1 r1 => ?_⟩
      obtain ⟨q, rfl, k⟩ := r1
      exact ⟨sep, q, l, rfl, rfl, .inl (.inl (.inl k)), by omega, h _ _ s1 rfl⟩
    · cases e
  · cases e
/-! ### a list of pairs, each a word and whether the error is of a class -/
def pairB (sc : Scope) (en : Str) (w c : Str) : Expr → Bool
  | .Tuple [.Constant (.str w') _ _, .Call (.Name f _) [.Name e _, .Name c' _] [] _] _ _ => eqS w' w && (eqS f "isinstance" && (eqS e en && (eqS c' c && (glB sc f && (glB sc c' && nodbg c')))))
  | _ => false
def pairsB (sc : Scope) (en : Str) : List (Str × Str) → List Expr → Bool
  | [], [] => true
  | (w, c) :: l, e :: es => pairB sc en w c e && pairsB sc en l es
  | _, _ => false
theorem pairs_plain {sc : Scope} {en : Str} : ∀ {l : List (Str × Str)} {es : List Expr}, pairsB sc en l es = true → plainL es = true
  | [], [], _ => rfl
  | (w, c) :: l, e :: es, h => by
    obtain ⟨h1, h2⟩ := and2 (show (pairB sc en w c e && pairsB sc en l es) = true from h)
    rw [plainL, pairs_plain h2, Bool.and_true]
    unfold pairB at h1
    split at h1
    · rfl
    · cases h1
  | [], _ :: _, h => by cases h
  | _ :: _, [], h => by cases h
end
section
variable {X : Cx} {a D : Addr} {oe : Obj} {pn : List (Addr × Obj)} {j : Nat} {en : Str} {sc : Scope} {isx : Str → Option Bool}
/-- the suite's slot of the error -/
def At (j : Nat) (a : Addr) (σ : L2.St) : Prop := σ[j]? = some (some (V.ref a))
theorem r_pairs (C : ExcC X.K D) (hz : Zc (.ref D) none oe) (hf : ∃ vs, oe.data = .fields vs) (hsc : X.env.scope = sc) (hN : X.N[j]? = some en) (hv : visB sc en = true) (hd : nodbg en = true) (hm : X.mg "isinstance" = none)
    (hga : ∀ c b, isx c = some b → X.mg c = some (.ref (He.ga X.K c)) ∧ PySem.W.kitOne X.K (.ref D) (.ref (He.ga X.K c)) = some b) :
    ∀ {l : List (Str × Str)} {es : List Expr}, pairsB sc en l es = true →
      PA (X.suite a ((a, oe) :: pn)) es (fun σ H T => ∃ r, At j a σ ∧ prsO isx l = some r ∧ ∀ vs H', Sub H H' → RepP H' vs r → T vs H')
  | [], [], _ => ⟨fun p pins s σ H T I ⟨r, _, e, h⟩ => by
      cases e
      exact pa_nil.run p pins s σ H T I (h [] H Sub.refl trivial)⟩
  | (w, c) :: l, e :: es, hb => by
    obtain ⟨h1, h2⟩ := and2 (show (pairB sc en w c e && pairsB sc en l es) = true from hb)
    have ih := r_pairs C hz hf hsc hN hv hd hm hga h2
    have pl := pairs_plain hb
    rw [plainL, Bool.and_eq_true] at pl
    unfold pairB at h1
    split at h1
    · rename_i w' n1 p1 f p2 e' p3 c' p4 p5 n2 p6
      obtain ⟨k1, h1⟩ := and2 h1
      obtain ⟨k2, h1⟩ := and2 h1
      obtain ⟨k3, h1⟩ := and2 h1
      obtain ⟨k4, h1⟩ := and2 h1
      obtain ⟨k5, h1⟩ := and2 h1
      obtain ⟨k6, k7⟩ := and2 h1
      have k1 : w' = w := of_decide_eq_true k1
      have k2 : f = "isinstance" := of_decide_eq_true k2
      have k3 : e' = en := of_decide_eq_true k3
      have k4 : c' = c := of_decide_eq_true k4
      subst k1 k2 k3 k4
      obtain ⟨d1, d2⟩ := nodbg_ok hd
      have pv : PE (X.suite a ((a, oe) :: pn)) (.Name e' p3) (tVar j) := pe_var hN (by show Vis X.env.scope e'; rw [hsc]; exact visB_ok hv) d1 d2
      refine ⟨fun p pins s σ H T I ⟨r, hA, er, h⟩ => ?_⟩
      rw [prsO] at er
      split at er
      · rename_i b r' eb er'
        cases er
        obtain ⟨hmc, eb2⟩ := hga c' b eb
        have pc : PE (X.suite a ((a, oe) :: pn)) (.Name c' p4) (tC (.ref (He.ga X.K c'))) := pe_glob (by show X.env.scope.names.lookup c' = _; rw [hsc]; exact glB_ok k6) hmc rfl (nodbg_ok k7).1
        have pi := pe_callB (pos := p5) (p := p2) (call_isE (pn := pn) (a := a) C hz hf) (by show X.env.scope.names.lookup _ = _; rw [hsc]; exact glB_ok k5) hm (by rfl) (pa_cons pv (pa_cons pc pa_nil (by rfl)) (by rfl)) (by decide) (by decide) (by rfl) (by rfl)
        have ps : PE (X.suite a ((a, oe) :: pn)) (.Constant (.str w') n1 p1) (tC (.str w')) := pe_str
        have pt := pe_tup (x1 := n2) (pos := p6) (pa_cons ps (pa_cons pi pa_nil (by rfl)) (by rfl))
        refine (pa_cons pt ih (star_cons pl.1 _ _)).run p pins s σ H T I ?_
        refine ⟨.ref a, hA, .ref (He.ga X.K c'), .ref (He.ga X.K c'), b, rfl, fun u hu => hu, eb2, ?_⟩
        refine ⟨by show 2 ≤ sizeLine; decide, fun t nt => ⟨r', hA, er', fun vs H2 s2 r2 => ?_⟩⟩
        exact h (.ref t :: vs) H2 ((Sub.new nt).trans s2) ⟨⟨t, rfl, s2 _ _ upd_same⟩, r2⟩
      · cases er
    · cases h1
  | [], _ :: _, h => by cases h
  | _ :: _, [], h => by cases h
theorem r_prs (C : ExcC X.K D) (hz : Zc (.ref D) none oe) (hf : ∃ vs, oe.data = .fields vs) (hsc : X.env.scope = sc) (hN : X.N[j]? = some en) (hv : visB sc en = true) (hd : nodbg en = true) (hm : X.mg "isinstance" = none)
    (hga : ∀ c b, isx c = some b → X.mg c = some (.ref (He.ga X.K c)) ∧ PySem.W.kitOne X.K (.ref D) (.ref (He.ga X.K c)) = some b) {l : List (Str × Str)} {es : List Expr} {p : Pos} (hb : pairsB sc en l es = true) :
    PE (X.suite a ((a, oe) :: pn)) (.List es p) (tH (At j a) (hden isx (.prs l))) := by
  refine (pe_lst (r_pairs (a := a) (pn := pn) C hz hf hsc hN hv hd hm hga hb)).mono fun σ H Q ⟨ρ, z, hG, hρ, e, h⟩ => ?_
  rw [hden] at e
  split at e
  · rename_i r er
    split at e
    · rename_i hz
      cases e
      have hz := Nat.le_of_ble_eq_true hz
      refine ⟨r, hG, er, fun vs H1 s1 r1 => ⟨?_, fun t nt => h _ _ (s1.trans (Sub.new nt)) ⟨t, vs, rfl, upd_same, r1.sub (Sub.new nt)⟩⟩⟩
      rw [r1.len, sizeLine_eq]
      omega
    · cases e
  · cases e
end
end PxH
end

section
set_option Elab.async false
set_option linter.all false
set_option maxRecDepth 100000
set_option maxHeartbeats 2000000
/-! Px: the suite that names the class of an error: the words of the pairs that hold. -/
namespace PxH
open PySem PySem.Spec PyProof.Rows L2 HotX L2H
open Px (eqS glB visB nodbg plainL and2 nodbg_ok glB_ok visB_ok star_cons)
def iLs (K : PySem.W.Frag) (tl : TE) : TI := fun σ H R => tl σ H fun x H1 => ∃ a xs, x = .ref a ∧ SqL K H1 a xs ∧ R (Itl K a) H1
theorem pi_listH {X : Cx} {tg l : Expr} {tl : TE} (hl : PE X l tl) : PIH X tg l (iLs X.K tl) := by
  refine ⟨fun pins s σ H R I h => ?_⟩
  refine thn (hl.run pins s σ H _ I h) fun v s1 ⟨x, H1, I1, r1, a, xs, e, hq, q⟩ => ?_
  subst e
  cases r1
  obtain ⟨its, rv, p, hz⟩ := I1.list hq
  refine wpAny_pyIter_list p.isList ?_
  refine ⟨s1.heap.objs.size, [s1.heap.objs.size], _, _, H1, rfl, I1.kept (t' := s1.toks) fun b o e => Heap.get?_push_of_some _ e, Px.turn_listH a _, ⟨_, Heap.get?_push_size _ rfl, rfl, rfl⟩, fun b hb => ?_, q⟩
  have e : b = s1.heap.objs.size := by simpa using hb
  subst e
  exact I1.fpOk (Nat.le_refl _) (I1.hok.fresh (Nat.le_refl _))
theorem wipe2 {σ : L2.St} {i j : Nat} (hij : i ≠ j) (v w : Option V) : L2.wipe (((L2.wipe σ [i, j]).set i v).set j w) [i, j] = L2.wipe σ [i, j] := by
  show (((((σ.set j none).set i none).set i v).set j w).set j none).set i none = (σ.set j none).set i none
  rw [List.set_set, List.set_set, List.set_comm _ _ hij, List.set_set, List.set_set]
theorem get2 {σ : L2.St} {i j : Nat} (hij : i ≠ j) (hi : i < σ.length) (hj : j < σ.length) (v w : V) : (((L2.wipe σ [i, j]).set i (some v)).set j (some w))[i]? = some (some v) ∧ (((L2.wipe σ [i, j]).set i (some v)).set j (some w))[j]? = some (some w) := by
  have l : (L2.wipe σ [i, j]).length = σ.length := L2.wipe_length σ [i, j]
  constructor
  · rw [List.getElem?_set_ne (fun e => hij e.symm), List.getElem?_set_self (by rw [l]; exact hi)]
  · rw [List.getElem?_set_self (by rw [List.length_set, l]; exact hj)]
section
variable {X : Cx} {isx : Str → Option Bool} {G : L2.St → Prop}
theorem r_comp {s : Ex} {i j : Nat} {w b : Str} {p1 p2 p3 p4 p5 pos : Pos} {k : Nat} {iter : Expr} {scope : Scope} {own : List (Str × Nat)} (hot : HotC X) (hN : X.N.Nodup) (hG : ∀ σ, G σ → σ.length = X.N.length) (hi : X.N[i]? = some w) (hj : X.N[j]? = some b) (hij : i ≠ j)
    (hs : PE X iter (tH G (hden isx s))) (ok : BlkOk X.N X.env.scope scope own) (ho : own.map (·.2) = [i, j]) (hw : (relS scope X.env.scope).names.lookup w = some .local) (hb : (relS scope X.env.scope).names.lookup b = some .local) (dw : nodbg w = true) (db : nodbg b = true)
    (hfold : ∀ x, foldedSetIterable iter X.env x = pure x) :
    PE X (.ListComp (.Name w p1) [⟨.Tuple [.Name w p2, .Name b p3] k p4, iter, [.Name b p5], 0⟩] scope pos) (tH G (hden isx (.comp i j s))) := by
  have q := pe_lcH (X := X) (pos := pos) (own := own) (elt := .Name w p1) (tg := .Tuple [.Name w p2, .Name b p3] k p4) (iter := iter) (ifs := [.Name b p5]) (scope := scope)
    (g := gTup X.K 2 (gCons (gName i) (gCons (gName j) gNil))) (tt := tB (tVar j)) (te := tVar i) hot hN (pi_listH hs) ok
    (fun s H C cl fp => Px.pg_tupH (hotB hot) (pgs_cons (pg_name (X := blkH X s H scope (compEnvC scope cl C X.env) fp) hN hi (.inl hw) (.inr hw)) (pgs_cons (pg_name (X := blkH X s H scope (compEnvC scope cl C X.env) fp) hN hj (.inl hb) (.inr hb)) pgs_nil (by rfl)) (by rfl)) (by rfl) (by rfl))
    (fun s H C cl fp => pts_one (pt_val (pe_var (X := blkH X s H scope (compEnvC scope cl C X.env) fp) hj (.inl hb) (nodbg_ok db).1 (nodbg_ok db).2) (fun _ => rfl)))
    (fun s H C cl fp => pe_var (X := blkH X s H scope (compEnvC scope cl C X.env) fp) hi (.inl hw) (nodbg_ok dw).1 (nodbg_ok dw).2) hfold
  refine q.mono fun σ H Q ⟨ρ, z, g0, hρ, e, h⟩ => ?_
  have hlen := hG σ g0
  have hil : i < σ.length := by rw [hlen]; exact (List.getElem?_eq_some_iff.mp hi).1
  have hjl : j < σ.length := by rw [hlen]; exact (List.getElem?_eq_some_iff.mp hj).1
  rw [hden] at e
  split at e
  · rename_i l e1
    split at e
    · rename_i hz
      cases e
      have hz := Nat.le_of_ble_eq_true hz
      refine ⟨ρ, .prs l, g0, hρ, e1, fun v H1 s1 r1 => ?_⟩
      obtain ⟨p, xs, rfl, k1, k2⟩ := r1
      refine ⟨p, xs, rfl, .inl (.inl k1), fun D hD => ?_⟩
      rw [ho]
      refine lc_list (xs := xs) (fun n H' => Sub H1 H' ∧ H' D = some (.lst (((l.take n).filter fun p => p.2).map fun p => V.str p.1))) ⟨Sub.new hD, upd_same⟩ (fun n H' _ hp => .inl (.inl (hp.1 _ _ k1))) (fun n x H' hx hp => ?_) (fun H' hp => ?_)
      · obtain ⟨sb, hacc⟩ := hp
        obtain ⟨wd, bb, t, hl, rfl, ht⟩ := k2.at hx
        refine ⟨t, [.str wd, .bl bb], rfl, .inl (.inl (sb _ _ ht)), rfl, .str wd, [.bl bb], rfl, .bl bb, [], rfl, rfl, ?_⟩
        obtain ⟨g1, g2⟩ := get2 hij hil hjl (.str wd) (.bl bb)
        refine ⟨wipe2 hij _ _, .bl bb, g2, bb, rfl, ?_⟩
        have tk : l.take (n + 1) = l.take n ++ [(wd, bb)] := by
          rw [List.take_add_one, hl]
          rfl
        have nD : H1 D = none := hD
        cases bb with
        | false =>
          show Sub H1 H' ∧ _
          rw [tk, List.filter_append]
          exact ⟨sb, by simpa using hacc⟩
        | true =>
          refine ⟨.str wd, g1, _, hacc, ?_, ?_, ?_⟩
          · have a1 : ((l.take n).filter fun p => p.2).length ≤ l.length := Nat.le_trans (List.length_filter_le _ _) (by rw [List.length_take]; omega)
            rw [List.length_map, sizeLine_eq]
            omega
          · intro c o ec
            have : c ≠ D := fun q => by rw [q, nD] at ec; cases ec
            rw [upd_ne this]
            exact sb c o ec
          · rw [upd_same, tk, List.filter_append, List.map_append]
            rfl
      · obtain ⟨sb, hacc⟩ := hp
        have lx := k2.len
        rw [lx, List.take_length] at hacc
        exact h _ _ (s1.trans sb) ⟨D, rfl, by rw [hacc, List.map_map]; rfl⟩
    · cases e
  · cases e
end
end PxH
end

section
set_option Elab.async false
set_option linter.all false
set_option maxRecDepth 100000
set_option maxHeartbeats 2000000
/-! Px: the suite that names the class of an error: checked, run. -/
namespace PxH
open PySem PySem.Spec PyProof.Rows L2 HotX L2H
open Px (eqS glB visB nodbg plainL plainE and2 nodbg_ok glB_ok visB_ok star_cons star_none fold_plain)
def locL (sc : Scope) (x : Str) : Bool := decide (sc.names.lookup x = some .local)
def exC (N : List Str) (sc : Scope) (en : Str) : Ex → Expr → Bool
  | .var i, .Name x _ => decide (N[i]? = some x) && (visB sc x && nodbg x)
  | .txt s, .Constant (.str s') _ _ => eqS s' s
  | .prs l, .List es _ => pairsB sc en l es
  | .add a b, .BinOp x .Add y _ => exC N sc en a x && exC N sc en b y
  | .cat a b, .BinOp x .Add y _ => exC N sc en a x && exC N sc en b y
  | .comp i j s, .ListComp (.Name w _) [⟨.Tuple [.Name w2 _, .Name b _] _ _, iter, [.Name b2 _], 0⟩] scope _ =>
    eqS w2 w && (eqS b2 b && (decide (N[i]? = some w) && (decide (N[j]? = some b) && (decide (i ≠ j) && (exC N sc en s iter && (blkC N sc scope [(w, i), (b, j)] && (locL (relS scope sc) w && (locL (relS scope sc) b && (nodbg w && (nodbg b && plainE iter))))))))))
  | .join sep x, .Call (.Attribute (.Constant (.str s) _ _) m ap) [e] [] p2 => eqS s sep && (eqS m "join" && ((ap.endLine == p2.line) && (plainE e && exC N sc en x e)))
  | _, _ => false
section
variable {X : Cx} {a D : Addr} {oe : Obj} {pn : List (Addr × Obj)} {j : Nat} {en : Str} {sc : Scope} {N : List Str} {isx : Str → Option Bool}
structure SC (X : Cx) (a D : Addr) (oe : Obj) (j : Nat) (en : Str) (sc : Scope) (N : List Str) (isx : Str → Option Bool) : Prop where
  C : ExcC X.K D
  hz : L2N.Zn (.ref D) none oe
  hf : ∃ vs, oe.data = .fields vs
  hsc : X.env.scope = sc
  hN : X.N = N
  nd : N.Nodup
  hj : N[j]? = some en
  hv : sc.names.lookup en = some .local
  hd : nodbg en = true
  hm : X.mg "isinstance" = none
  hga : ∀ c b, isx c = some b → X.mg c = some (.ref (He.ga X.K c)) ∧ PySem.W.kitOne X.K (.ref D) (.ref (He.ga X.K c)) = some b
theorem SC.hot (S : SC X a D oe j en sc N isx) (pn : List (Addr × Obj)) : HotC (X.suite a ((a, oe) :: pn)) := by
  obtain ⟨vs, hvs⟩ := S.hf
  exact ⟨(a, oe), ⟨rfl, vs, hvs, S.hz.2.2 vs hvs⟩, List.mem_cons_self⟩
def Gs (j : Nat) (a : Addr) (n : Nat) (σ : L2.St) : Prop := At j a σ ∧ σ.length = n
theorem ex_ok (S : SC X a D oe j en sc N isx) : ∀ {x : Ex} {e : Expr}, exC N sc en x e = true → PE (X.suite a ((a, oe) :: pn)) e (tH (Gs j a N.length) (hden isx x)) := by
  intro x
  induction x with
  | var i =>
    intro e h
    unfold exC at h
    split at h <;> first | (cases h; done) | (rename_i q; cases q)
    obtain ⟨h1, h⟩ := and2 h
    obtain ⟨h2, h3⟩ := and2 h
    exact r_var (by show X.N[i]? = _; rw [S.hN]; exact of_decide_eq_true h1) (by show Vis X.env.scope _; rw [S.hsc]; exact visB_ok h2) (nodbg_ok h3).1 (nodbg_ok h3).2
  | txt s =>
    intro e h
    unfold exC at h
    split at h <;> first | (cases h; done) | (rename_i q; cases q)
    have e1 : _ = s := of_decide_eq_true h
    subst e1
    exact r_txt
  | prs l =>
    intro e h
    unfold exC at h
    split at h <;> first | (cases h; done) | (rename_i q; cases q)
    refine (r_prs (a := a) (pn := pn) S.C S.hz.zc S.hf S.hsc (by rw [S.hN]; exact S.hj) (by unfold visB; rw [S.hv]) S.hd S.hm S.hga h).mono fun σ H Q ⟨ρ, z, g, r⟩ => ⟨ρ, z, g.1, r⟩
  | add x y ihx ihy =>
    intro e h
    unfold exC at h
    split at h <;> first | (cases h; done) | (rename_i q; cases q)
    obtain ⟨h1, h2⟩ := and2 h
    exact r_add (ihx h1) (ihy h2)
  | cat x y ihx ihy =>
    intro e h
    unfold exC at h
    split at h <;> first | (cases h; done) | (rename_i q; cases q)
    obtain ⟨h1, h2⟩ := and2 h
    exact r_cat (ihx h1) (ihy h2)
  | comp i k s ih =>
    intro e h
    unfold exC at h
    split at h <;> first | (cases h; done) | (rename_i q; cases q)
    rename_i w p1 w2 p2 b p3 n p4 iter b2 p5 scope pos
    obtain ⟨h1, h⟩ := and2 h
    obtain ⟨h2, h⟩ := and2 h
    obtain ⟨h3, h⟩ := and2 h
    obtain ⟨h4, h⟩ := and2 h
    obtain ⟨h5, h⟩ := and2 h
    obtain ⟨h6, h⟩ := and2 h
    obtain ⟨h7, h⟩ := and2 h
    obtain ⟨h8, h⟩ := and2 h
    obtain ⟨h9, h⟩ := and2 h
    obtain ⟨h10, h⟩ := and2 h
    obtain ⟨h11, h12⟩ := and2 h
    have e1 : w2 = w := of_decide_eq_true h1
    have e2 : b2 = b := of_decide_eq_true h2
    subst e1 e2
    exact r_comp (X := X.suite a ((a, oe) :: pn)) (own := [(w2, i), (b2, k)]) (S.hot pn) (by show X.N.Nodup; rw [S.hN]; exact S.nd) (fun σ g => by show _ = X.N.length; rw [S.hN]; exact g.2) (by show X.N[i]? = _; rw [S.hN]; exact of_decide_eq_true h3) (by show X.N[k]? = _; rw [S.hN]; exact of_decide_eq_true h4) (of_decide_eq_true h5)
      (ih h6) (by show BlkOk X.N X.env.scope scope _; rw [S.hN, S.hsc]; exact blkOk_by h7) rfl (by show (relS scope X.env.scope).names.lookup _ = _; rw [S.hsc]; exact of_decide_eq_true h8) (by show (relS scope X.env.scope).names.lookup _ = _; rw [S.hsc]; exact of_decide_eq_true h9) h10 h11 (fun x => fold_plain h12 _ _)
  | join sep x ih =>
    intro e h
    unfold exC at h
    split at h <;> first | (cases h; done) | (rename_i q; cases q)
    rename_i s n p m ap e p2
    obtain ⟨h1, h⟩ := and2 h
    obtain ⟨h2, h⟩ := and2 h
    obtain ⟨h3, h⟩ := and2 h
    obtain ⟨h4, h5⟩ := and2 h
    have e1 : s = sep := of_decide_eq_true h1
    have e2 : m = "join" := of_decide_eq_true h2
    subst e1 e2
    exact r_join (ih h5) h3 (star_cons h4 [] _) (by rw [star_cons h4 [] _]; rfl)
/-- the statements: lists set, the text returned -/
def suC (N : List Str) (sc : Scope) (j : Nat) (en : Str) : List (Nat × Ex) → Ex → List Stmt → Bool
  | [], r, [.Return (some e) _] => exC N sc en r e
  | (i, .prs x) :: l, r, .Assign [.Name y _] (.List es p) _ :: ss => decide (N[i]? = some y) && (locL sc y && (decide (i ≠ j) && (exC N sc en (.prs x) (.List es p) && suC N sc j en l r ss)))
  | (i, .add x1 x2) :: l, r, .Assign [.Name y _] (.BinOp e1 o e2 p) _ :: ss => decide (N[i]? = some y) && (locL sc y && (decide (i ≠ j) && (exC N sc en (.add x1 x2) (.BinOp e1 o e2 p) && suC N sc j en l r ss)))
  | _, _, _ => false
def runS (isx : Str → Option Bool) : List (Nat × Ex) → Ex → HE → Option Str
  | [], r, ρ => match hden isx r ρ with
    | some (.txt y) => some y
    | _ => none
  | (i, x) :: l, r, ρ => match hden isx x ρ with
    | some v => runS isx l r (ρ.set i (some v))
    | none => none
def tS (j : Nat) (a : Addr) (n : Nat) (isx : Str → Option Bool) (l : List (Nat × Ex)) (r : Ex) : TS := fun D σ H => ∃ ρ y, Gs j a n σ ∧ ρ.length = n ∧ EnvV H ρ σ ∧ runS isx l r ρ = some y ∧ ∀ H', Sub H H' → D.rt (.str y) H'
theorem set_env {H : Hp} {ρ : HE} {σ : L2.St} {i : Nat} {x : HV} {v : V} (hl : ρ.length = σ.length) (h : EnvV H ρ σ) (r : RepV H x v) : EnvV H (ρ.set i (some x)) (σ.set i (some v)) := fun k z e => by
  by_cases q : i = k
  · subst q
    by_cases hi : i < ρ.length
    · rw [List.getElem?_set_self hi] at e
      cases e
      exact ⟨v, List.getElem?_set_self (by rw [← hl]; exact hi), r⟩
    · rw [List.getElem?_eq_none (by rw [List.length_set]; omega)] at e
      cases e
  · rw [List.getElem?_set_ne q] at e
    obtain ⟨u, q1, q2⟩ := h k z e
    exact ⟨u, by rw [List.getElem?_set_ne q]; exact q1, q2⟩
theorem su_set (S : SC X a D oe j en sc N isx) {i : Nat} {x : Ex} {y : Str} {e : Expr} {py p : Pos} {l : List (Nat × Ex)} {r : Ex} {ss : List Stmt} (h1 : N[i]? = some y) (h2 : sc.names.lookup y = some .local) (h3 : i ≠ j) (he : PE (X.suite a ((a, oe) :: pn)) e (tH (Gs j a N.length) (hden isx x)))
    (hsw : swapsWith e (some (.Name y py)) p.line X.env = pure false) (ih : PSs (X.suite a ((a, oe) :: pn)) ss (tS j a N.length isx l r)) : PSs (X.suite a ((a, oe) :: pn)) (.Assign [.Name y py] e p :: ss) (tS j a N.length isx ((i, x) :: l) r) := by
  refine (pss_cons (ps_set (X := X.suite a ((a, oe) :: pn)) (by show X.N.Nodup; rw [S.hN]; exact S.nd) (by show X.N[i]? = _; rw [S.hN]; exact h1) (.inl (by show X.env.scope.names.lookup y = _; rw [S.hsc]; exact h2)) he hsw (.inr (by show X.env.scope.names.lookup y = _; rw [S.hsc]; exact h2))) ih).mono fun D' σ H ⟨ρ, t, g, hl, hρ, e, h⟩ => ?_
  rw [runS] at e
  split at e
  · rename_i v ev
    refine ⟨ρ, v, g, hρ, ev, fun u H1 s1 r1 => ⟨ρ.set i (some v), t, ⟨?_, by rw [List.length_set]; exact g.2⟩, by rw [List.length_set]; exact hl, set_env (by rw [hl, g.2]) (hρ.sub s1) r1, e, fun H2 s2 => h H2 (s1.trans s2)⟩⟩
    show (σ.set i (some u))[j]? = _
    rw [List.getElem?_set_ne h3]
    exact g.1
  · cases e
theorem su_ok (S : SC X a D oe j en sc N isx) : ∀ {l : List (Nat × Ex)} {r : Ex} {ss : List Stmt}, suC N sc j en l r ss = true → PSs (X.suite a ((a, oe) :: pn)) ss (tS j a N.length isx l r)
  | [], r, ss, h => by
    unfold suC at h
    split at h <;> first | (cases h; done) | (rename_i q; cases q)
    · refine (pss_one (ps_ret (ex_ok (pn := pn) S h))).mono fun D' σ H ⟨ρ, t, g, hl, hρ, e, h⟩ => ?_
      rw [runS] at e
      split at e
      · rename_i y ey
        cases e
        exact ⟨ρ, .txt t, g, hρ, ey, fun v H1 s1 r1 => by rw [show v = V.str t from r1]; exact h H1 s1⟩
      · cases e
  | (i, x) :: l, r, ss, h => by
    unfold suC at h
    split at h <;> first | (cases h; done) | (rename_i q; cases q)
    · rename_i y py es p p2 ss'
      obtain ⟨h1, h⟩ := and2 h
      obtain ⟨h2, h⟩ := and2 h
      obtain ⟨h3, h⟩ := and2 h
      obtain ⟨h4, h5⟩ := and2 h
      exact su_set S (of_decide_eq_true h1) (of_decide_eq_true h2) (of_decide_eq_true h3) (ex_ok S h4) rfl (su_ok S h5)
    · rename_i y py e1 o e2 p p2 ss'
      obtain ⟨h1, h⟩ := and2 h
      obtain ⟨h2, h⟩ := and2 h
      obtain ⟨h3, h⟩ := and2 h
      obtain ⟨h4, h5⟩ := and2 h
      exact su_set S (of_decide_eq_true h1) (of_decide_eq_true h2) (of_decide_eq_true h3) (ex_ok S h4) rfl (su_ok S h5)
end
end PxH
end

section
set_option Elab.async false
set_option linter.all false
set_option maxRecDepth 100000
set_option maxHeartbeats 2000000
/-! Px: a def that tries a lambda and names the class of the error. -/
namespace PxH
open PySem PySem.Spec PyProof.Rows L2 HotX L2H
open Px (eqS glB visB nodbg plainL plainE and2 nodbg_ok glB_ok visB_ok star_cons star_none fold_plain constB Td tdAt tdTT cvD vOf pe_constV constB_cv D Fx)
/-- how the suite is -/
structure HotR where
  z : Str
  en : Str
  j : Nat
  l : List (Nat × Ex)
  r : Ex
  cs : List Str
def isxK (K : PySem.W.Frag) (D : Addr) (cs : List Str) : Str → Option Bool := fun c => if cs.contains c = true then PySem.W.kitOne K (.ref D) (.ref (He.ga K c)) else none
def tryHB (sg : Scope) (Ng : List Str) (a : Str) (q : HotR) (fin : D) : List Stmt → Bool
  | [.Try [.Expr (.Call (.Name b _) [] [] _) _] [.ExceptHandler (some (.Name z _)) (some en) (b0 :: suite) _] [] [] _, .Return (some (.Constant jc _ _)) _] =>
    eqS b a && (eqS z q.z && (eqS en q.en && (glB sg z && (nodbg z && (suC Ng sg q.j en q.l q.r (b0 :: suite) && (constB jc fin && (decide (Ng[q.j]? = some en) && (locL sg en && (nodbg en && decide Ng.Nodup)))))))))
  | _ => false
theorem PE.wide {X : Cx} {e : Expr} {t : TE} (h : PE X e t) : PE X e (fun σ H Q => ∃ Qn : VK, (∀ v H', Qn v H' → Q v H') ∧ t σ H Qn) := ⟨fun pins s σ H Q I ⟨Qn, hn, q⟩ =>
  wpAny_mono (h.run pins s σ H Qn I q) (fun u s' ⟨v, H', J, r, z⟩ => ⟨v, H', J, r, hn _ _ z⟩) fun _ _ z => z⟩
theorem try_givesH {X : Cx} {Y : Fx} {Ng : List Str} {x a q : Str} {sg : Scope} {g : Addr} {cdg : Value} {bg : List Stmt} {hr : HotR} {t : Td} (h : tryHB sg Ng a hr t.fin bg = true) (hm : X.mg hr.z = some (.ref (He.ga X.K hr.z))) (hmi : X.mg "isinstance" = none)
    (hmc : ∀ c ∈ hr.cs, X.mg c = some (.ref (He.ga X.K c)))
    (ht : ∀ c d, tdAt t.at_ c = some d → PySem.W.exmOne X.K (.ref (Y.ca c)) (.ref (He.ga X.K hr.z)) = some true ∧ ExcC X.K (Y.ca c) ∧ ∃ y, d = .str y ∧ runS (isxK X.K (Y.ca c) hr.cs) hr.l hr.r (List.replicate Ng.length none) = some y)
    (h0 : ∀ f : Addr, (L2.start Ng [V.ref f])[0]? = some (some (V.ref f))) : PxN.GivesTo X Ng x sg g cdg bg a q (tdTT Y t) := by
  intro f c' s H Q tl act hc hq
  unfold tryHB at h
  split at h
  · rename_i b p1 p2 p3 z p4 en b0 suite p5 p6 jc n p7 p8
    obtain ⟨k1, h⟩ := and2 h
    obtain ⟨k2, h⟩ := and2 h
    obtain ⟨k3, h⟩ := and2 h
    obtain ⟨k4, h⟩ := and2 h
    obtain ⟨k5, h⟩ := and2 h
    obtain ⟨k6, h⟩ := and2 h
    obtain ⟨k7, h⟩ := and2 h
    obtain ⟨k8, h⟩ := and2 h
    obtain ⟨k9, h⟩ := and2 h
    obtain ⟨k10, k11⟩ := and2 h
    have e1 : b = a := of_decide_eq_true k1
    have e2 : z = hr.z := of_decide_eq_true k2
    have e3 : en = hr.en := of_decide_eq_true k3
    subst e1
    have k8 := of_decide_eq_true k8
    have k9 : sg.names.lookup en = some .local := of_decide_eq_true k9
    have k11 := of_decide_eq_true k11
    have lenS : (L2.start Ng [V.ref f]).length = Ng.length ∨ True := .inr trivial
    refine ⟨_, pss_cons (L2N.ps_try_as (X := (cxOf C8.CX0 X.prog X.w X.K X.mg X.base Ng x sg g cdg X.A X.stack s H C8.E0).nox) (c := .ref (He.ga X.K hr.z))
      (tb := fun W Ds σ H => ∃ (Ech : XK) (Qn : VK), (∀ cls d σ' H', Ech cls d H' → W cls d σ' H') ∧ (∀ v H', Qn v H' → Ds.nx σ H') ∧ σ[0]? = some (some (.ref f)) ∧ H c' = some (LamX.CodeO c' q) ∧ tl Ech H Qn)
      (ts := fun a cls d D σ H => ∃ c y, cls = .ref (Y.ca c) ∧ d = none ∧ tdAt t.at_ c = some (.str y) ∧ (σ[hr.j]? = some (some (.ref a)) ∨ σ.length ≤ hr.j) ∧ ∀ H', Sub H H' → D.rt (.str y) H')
      rfl rfl k11 k8 k9 ⟨by show sg.names.lookup z = some .globalImplicit; exact glB_ok k4, (nodbg_ok k5).1, .inl (by rw [e2]; exact hm)⟩ PxN.takes0 (fun W pn xe tk _ => ?_) (fun a oe cls d pn hz hf => ?_)) (pss_one (ps_ret (pe_constV k7))), ?_⟩
    · refine ⟨fun pins s' σ H' Ds I h' => ?_⟩
      obtain ⟨Ech, Qn, hW, hn, z1, z2, z3⟩ := h'
      have hp := act W pn xe Ech p1 p2 tk hW
      exact (pss_one (ps_expr (pos := p3) (PE.wide hp))).run pins s' σ H' Ds I ⟨Qn, hn, z1, z2, z3⟩
    · refine ⟨fun pins s' σ H' Ds I h' => ?_⟩
      obtain ⟨c, y, rfl, rfl, hdd, hat, hq'⟩ := h'
      obtain ⟨_, hC, y', ey, hrun⟩ := ht c _ hdd
      cases ey
      have S : SC (cxOf C8.CX0 X.prog X.w X.K X.mg X.base Ng x sg g cdg X.A X.stack s H C8.E0).nox a (Y.ca c) oe hr.j en sg Ng (isxK X.K (Y.ca c) hr.cs) :=
        ⟨hC, hz, hf, rfl, rfl, k11, k8, k9, k10, hmi, fun cc bb e => by
          unfold isxK at e
          split at e
          · rename_i hcc
            exact ⟨hmc cc (List.contains_iff_mem.mp hcc), e⟩
          · cases e⟩
      have hlen : σ.length = Ng.length := I.len
      have hjl : hr.j < Ng.length := (List.getElem?_eq_some_iff.mp k8).1
      refine (su_ok (pn := pn) S k6).run pins s' σ H' Ds I ⟨List.replicate Ng.length none, y, ⟨?_, hlen⟩, List.length_replicate .., fun i v e => ?_, hrun, hq'⟩
      · rcases hat with h | h
        · exact h
        · omega
      · by_cases hi : i < Ng.length
        · rw [List.getElem?_replicate_of_lt hi] at e
          cases e
        · rw [List.getElem?_eq_none (by simpa using hi)] at e
          cases e
    · refine ⟨_, _, fun cls d σ' H' hz => ?_, fun v H' hz => ?_, h0 f, hc, hq⟩
      · obtain ⟨rfl, c, d', rfl, e2, e4, e5⟩ := hz
        obtain ⟨m1, _, y, ey, _⟩ := ht c d' e2
        subst ey
        refine ⟨true, m1, fun _ aa _ => ⟨c, y, rfl, rfl, e2, ?_, fun H3 s3 => e5 H3 (LamX.ExtN.of s3) (e4.ext s3) _ rfl⟩, fun z => by cases z⟩
        by_cases hj : hr.j < σ'.length
        · exact .inl (List.getElem?_set_self hj)
        · exact .inr (by rw [List.length_set]; omega)
      · exact hz _ (constB_cv k7)
  · cases h
end PxH
end

section
set_option Elab.async false
set_option linter.all false
set_option maxRecDepth 100000
set_option maxHeartbeats 1000000
/-! Px: the defs of a program keep what our meaning says. -/
namespace Px
open PySem PySem.Spec PyProof.Rows L2
section
variable {P : Program} {w : World} {Y : Fx} {B : Tb} {mg : Str → Option Value} {base : Heap} {G : Tab}
theorem env_start {H : Hp} {as : Ad} {N : List Str} {ds : List D} {vs : List V} (r : RepL Y H as ds vs) (m : Nat) (hm : m = N.length - ds.length) : EnvR Y H as (ds.map some ++ List.replicate m none) (L2.start N vs) := by
  subst hm
  refine ⟨by simp [L2.start, r.length], fun i d h => ?_⟩
  by_cases hi : i < ds.length
  · rw [List.getElem?_append_left (by simpa using hi), List.getElem?_map] at h
    obtain ⟨d', h1, h2⟩ := Option.map_eq_some_iff.mp h
    cases h2
    obtain ⟨v, hv, rv⟩ := r.get h1
    refine ⟨v, ?_, rv⟩
    unfold L2.start
    rw [List.getElem?_append_left (by rw [List.length_map, ← r.length]; exact hi), List.getElem?_map, hv]
    rfl
  · rw [List.getElem?_append_right (by simpa using hi)] at h
    by_cases hj : i - (ds.map some).length < N.length - ds.length
    · rw [List.getElem?_replicate, if_pos hj] at h
      cases h
    · rw [List.getElem?_replicate, if_neg hj] at h
      cases h
/-- one def, given -/
structure DefOk (Y : Fx) (B : Tb) (G : Tab) (TF : List He.Defn) (n : Nat) (x : Str) where
  st : Stmt
  Nm : List Str
  ps : List Str
  fd : FuncData
  g : FD
  hG : G n = some g
  F : FunD Y.K x x (defArgs st) (defBody st) (defScope st) [] [] (Y.fa n) fd
  hb : Binds Y.K fd ps []
  S : FnScope Nm ps (defScope st)
  ar : g.arity = ps.length
  sl : g.slots = Nm.length
  lam : Bool
  ck : chkS { B with lam := lam } Nm (defScope st) (fun _ => true) g.body (.B (defBody st)) = true
  fa : Y.fa n = He.fAd Y.K (x, none)
  mem : lam = true → (x, none) ∈ TF
  tab : lam = true → ((He.cT Y.K (x, none)).2, x ++ ".<locals>." ++ "<lambda>") ∈ Y.T ∧ ∀ p ∈ Y.T, p.1 = (He.cT Y.K (x, none)).2 → p.2 = x ++ ".<locals>." ++ "<lambda>"
theorem allOk {TF : List He.Defn} (htb : TbOk B Y mg) (hf : ∀ n x, (n, x) ∈ B.fns → Nonempty (DefOk Y B G TF n x)) (hT : ∀ q ∈ TF, LamX.TabB base mg (He.cT Y.K q).1 (He.cT Y.K q).2) :
    ∀ (m n : Nat) (x : Str), (n, x) ∈ B.fns → ∀ d : DefOk Y B G TF n x, FnOk P w Y.K mg base (L2N.CX P w) m (Y.fa n) d.fd d.ps (spC Y (call G m n)) := by
  intro m
  induction m using Nat.strongRecOn with
  | _ m ih =>
  intro n x hn d
  cases m with
  | zero =>
    refine ⟨fun vs H Q E h => ?_, fun A outer s H args us vs Q E _ _ _ _ h => ?_⟩
    · obtain ⟨ds, as, S, w, r, h⟩ := h
      exact h.elim
    · obtain ⟨ds, as, S, w, r, h⟩ := h
      exact h.elim
  | succ m =>
    have key : ∀ {vs : List V} {H : Hp} {Q : VK} {E : XK}, spC Y (call G (m + 1) n) vs H Q E → ∃ (ds : List D) (as : Ad) (S : Sto), Wd Y H as S ∧ RepL Y H as ds vs ∧ ds.length = d.g.arity ∧
        (match endF (ex d.g.body ⟨call G m, low G m⟩ (ds.map some ++ List.replicate (d.g.slots - d.g.arity) none) S) with
        | .ok d S' => ∀ v H' as', Ext H as H' as' → Wd Y H' as' S' → Rep Y H' as' d v → Q v H'
        | .exc c S' => ∀ H' as', Ext H as H' as' → Wd Y H' as' S' → E (.ref (Y.ca c)) none H'
        | .bad => False) := by
      intro vs H Q E h
      obtain ⟨ds, as, S, w, r, h⟩ := h
      have ec : call G (m + 1) n ds S = if ds.length = d.g.arity then endF (ex d.g.body ⟨call G m, low G m⟩ (ds.map some ++ List.replicate (d.g.slots - d.g.arity) none) S) else .bad := by
        rw [call_succ]
        show (match G n with
          | some f => if ds.length = f.arity then endF (ex f.body ⟨call G m, low G m⟩ (ds.map some ++ List.replicate (f.slots - f.arity) none) S) else .bad
          | none => .bad) = _
        rw [d.hG]
      rw [ec] at h
      by_cases hl : ds.length = d.g.arity
      · rw [if_pos hl] at h
        exact ⟨ds, as, S, w, r, hl, h⟩
      · rw [if_neg hl] at h
        exact h.elim
    obtain ⟨oc, od, dV, kV, doc, pm, an, cdv, ct, osl, efd, lk, hcd, _, _⟩ := d.F.ex
    rw [efd] at lk ⊢
    refine fn_of lk hcd d.S (fun vs H Q E h => ?_) (fun A outer s H vs Q E hr h => ?_)
    · obtain ⟨ds, as, S, w, r, hl, h⟩ := key h
      rw [← r.length, hl, d.ar]
    · obtain ⟨ds, as, S, w1, r, hl, h⟩ := key h
      have tk : L2N.Takes (cxOf (L2N.CX P w) P w Y.K mg base d.Nm x (defScope d.st) (Y.fa n) cdv A outer s H E) (fun cls d _ H => E cls d H) := L2N.takes_of rfl rfl rfl rfl
      have htb' : TbOk { B with lam := d.lam } Y mg := ⟨htb.fn, htb.kn, htb.cst, htb.free, htb.mfn, htb.exc, htb.td⟩
      have c : Cg (cxOf (L2N.CX P w) P w Y.K mg base d.Nm x (defScope d.st) (Y.fa n) cdv A outer s H E) Y { B with lam := d.lam } d.Nm (defScope d.st) (fun _ => true) m :=
        ⟨rfl, rfl, d.S.nd, rfl, rfl, rfl, hr, PassesOwn.leaving, htb'⟩
      have hC : CallsOk (cxOf (L2N.CX P w) P w Y.K mg base d.Nm x (defScope d.st) (Y.fa n) cdv A outer s H E) Y { B with lam := d.lam } ⟨call G m, low G m⟩ m := by
        refine ⟨fun n x hn => (hf n x hn).elim fun d => ⟨d.fd, d.ps, ih m (Nat.lt_succ_self m) n x hn d, d.hb⟩, fun c' hc => ?_⟩
        obtain ⟨j, ej, ec⟩ := low_some G hc
        subst ec
        refine ⟨j, ej, fun n x hn => (hf n x hn).elim fun d => ⟨d.fd, d.ps, ih j (by omega) n x hn d, d.hb⟩, fun hlam => ?_⟩
        have hlam : d.lam = true := hlam
        obtain ⟨t1, t2⟩ := d.tab hlam
        obtain ⟨cc, ecc⟩ := He.codeIn_ref hcd
        have e1 : (He.cT Y.K (x, none)).1 = cc := He.codeOf_eq (by rw [← d.fa]; exact lk) ecc
        refine ⟨cc, (He.cT Y.K (x, none)).2, ?_, ecc, t1, t2⟩
        have z := hT (x, none) (d.mem hlam)
        rw [e1] at z
        exact z
      refine ⟨_, (rulesS c tk hC d.g.body).2 _ d.ck, ds.map some ++ List.replicate (d.g.slots - d.g.arity) none, as, S, env_start r _ (by rw [d.sl, hl]), w1, ?_⟩
      cases e : ex d.g.body ⟨call G m, low G m⟩ (ds.map some ++ List.replicate (d.g.slots - d.g.arity) none) S with
      | nx ρ' S' =>
        rw [e] at h
        exact fun σ' H' as' ex w' _ => h .non H' as' ex w' .non
      | rt dd S' =>
        rw [e] at h
        exact fun v H' as' ex w' r => h v H' as' ex w' r
      | ex c ρ' S' =>
        rw [e] at h
        exact fun σ' H' as' ex w' _ => h H' as' ex w'
      | bk ρ' S' => rw [e] at h; exact h.elim
      | ct ρ' S' => rw [e] at h; exact h.elim
      | bad => rw [e] at h; exact h.elim
end
end Px
end

section
set_option Elab.async false
set_option linter.all false
set_option maxRecDepth 100000
set_option maxHeartbeats 1000000
/-! Px: how arguments are bound; facts about the module's names. -/
namespace Px
open PySem PySem.Spec PyProof.Rows L2
theorem zip_lookup : ∀ {ps : List Str} {us : List Value} {n : Str}, us.length = ps.length → n ∈ ps → ((ps.zip us).lookup n).isSome = true
  | [], _, _, _, h => by cases h
  | p :: ps, [], _, e, _ => by simp at e
  | p :: ps, u :: us, n, e, h => by
    rw [List.zip_cons_cons, List.lookup_cons]
    cases q : n == p with
    | true => rfl
    | false =>
      rcases List.mem_cons.mp h with h | h
      · rw [h] at q
        simp at q
      · exact zip_lookup (by simpa using e) h
theorem zip_all : ∀ {ps : List Str} {us : List Value}, us.length = ps.length → ps.Nodup → (ps.filterMap fun n => ((ps.zip us).lookup n).map fun v => (n, v)) = ps.zip us
  | [], [], _, _ => rfl
  | [], _ :: _, e, _ => by simp at e
  | p :: ps, [], e, _ => by simp at e
  | p :: ps, u :: us, e, h => by
    obtain ⟨h1, h2⟩ := List.nodup_cons.mp h
    have e' : us.length = ps.length := by simpa using e
    rw [List.filterMap_cons, List.zip_cons_cons]
    have e1 : (List.lookup p ((p, u) :: ps.zip us)) = some u := by rw [List.lookup_cons]; simp
    rw [e1]
    show (p, u) :: _ = _
    congr 1
    have key : ∀ (l : List Str), (∀ n ∈ l, n ≠ p) → (l.filterMap fun n => (List.lookup n ((p, u) :: ps.zip us)).map fun v => (n, v)) = l.filterMap fun n => ((ps.zip us).lookup n).map fun v => (n, v) := by
      intro l
      induction l with
      | nil => intro _; rfl
      | cons n l ih =>
        intro hl
        have e2 : List.lookup n ((p, u) :: ps.zip us) = (ps.zip us).lookup n := by
          rw [List.lookup_cons, beq_eq_false_iff_ne.mpr (hl n List.mem_cons_self)]
        rw [List.filterMap_cons, List.filterMap_cons, e2, ih fun m hm => hl m (List.mem_cons_of_mem _ hm)]
    rw [key ps fun n hn z => h1 (by rw [← z]; exact hn), zip_all e' h2]
def simpleP (p : Arguments) (ps : List Str) : Bool := p.posonlyargs.isEmpty && (p.vararg.isNone && (p.kwonlyargs.isEmpty && (p.kwarg.isNone && decide (p.args.map (·.arg) = ps))))
theorem bind_plain {x q : Str} {params : Arguments} {body : List Stmt} {scope : Scope} {ps : List Str} (h : simpleP params ps = true) (nd : ps.Nodup) (kV doc pm : Value) (an : Option Addr) (cdv ct : Value) (us : List Value) (hl : us.length = ps.length) :
    bindArgs (PySem.W.fnOf x q params body scope .none kV doc pm an cdv ct) ⟨us, []⟩ = pure (ps.zip us) := by
  obtain ⟨po, ar, va, ko, kd, kw, df⟩ := params
  unfold simpleP at h
  obtain ⟨h1, h⟩ := and2 h
  obtain ⟨h2, h⟩ := and2 h
  obtain ⟨h3, h⟩ := and2 h
  obtain ⟨h4, h5⟩ := and2 h
  have e1 : po = [] := by simpa using h1
  have e2 : va = none := by simpa using h2
  have e3 : ko = [] := by simpa using h3
  have e4 : kw = none := by simpa using h4
  have e5 : ar.map (·.arg) = ps := of_decide_eq_true h5
  subst e1 e2 e3 e4
  have hs : seqItems? .none = pure none := rfl
  unfold bindArgs PySem.W.fnOf
  simp only [e5, List.map_nil, List.nil_append, List.append_nil, hs, hl]
  clear h1 h2 h3 h4 h5 h
  simp only [List.forIn_nil, pure_bind, Option.getD_none, List.drop_nil, List.zip_nil_right, List.length_nil, Nat.sub_zero, List.take_length, List.isEmpty_nil]
  have hmiss : (ps.filter fun n => ((ps.zip us).lookup n).isNone) = [] := by
    rw [List.filter_eq_nil_iff]
    intro n hn
    have := zip_lookup hl hn
    cases q : (ps.zip us).lookup n with
    | none => rw [q] at this; cases this
    | some v => simp
  rw [if_neg (by simp), hmiss]
  simp [zip_all hl nd]
end Px
end

section
set_option Elab.async false
set_option linter.all false
set_option maxRecDepth 100000
set_option maxHeartbeats 1000000
/-! Px: from the head's facts to the defs' promises. -/
namespace Px
open PySem PySem.Spec PyProof.Rows L2

/-- a written value beside a datum -/
def cstL (f : Value → D → Bool) : List Value → List D → Bool
  | [], [] => true
  | u :: us, d :: ds => f u d && cstL f us ds
  | _, _ => false
def cstB (K : PySem.W.Frag) : Nat → Value → D → Bool
  | 0, _, _ => false
  | n + 1, u, d => match d with
    | .non => (match u with
      | .none => true
      | _ => false)
    | .bl b => (match u with
      | .bool a => a == b
      | _ => false)
    | .int j => (match u with
      | .int i _ => decide (i = j)
      | _ => false)
    | .str y => (match u with
      | .str x _ => decide (x = y)
      | _ => false)
    | .tup ds => (match u with
      | .ref a => (match K.lookup a with
        | some ⟨.type c, _, .seq its _, _⟩ => decide (c = "tuple") && (Nat.ble its.size 1000 && cstL (cstB K n) its.toList ds)
        | _ => false)
      | _ => false)
    | .rl ds => (match u with
      | .ref a => (match K.lookup a with
        | some ⟨.type c, none, .seq its _, _⟩ => decide (c = "list") && (Nat.ble its.size 1000 && cstL (cstB K n) its.toList ds)
        | _ => false)
      | _ => false)
    | _ => false
theorem cstL_ok {Y : Fx} {f : Value → D → Bool} (hf : ∀ u d, f u d = true → ∃ v, RelV v u ∧ ∀ H as, Rep Y H as d v) : ∀ {us : List Value} {ds : List D}, cstL f us ds = true → ∃ vs, Vals vs us ∧ ∀ H as, RepL Y H as ds vs
  | [], [], _ => ⟨[], .nil, fun _ _ => .nil⟩
  | u :: us, d :: ds, h => by
    obtain ⟨h1, h2⟩ := and2 (show (f u d && cstL f us ds) = true from h)
    obtain ⟨v, r, q⟩ := hf u d h1
    obtain ⟨vs, rs, qs⟩ := cstL_ok hf h2
    exact ⟨v :: vs, .cons r rs, fun H as => .cons (q H as) (qs H as)⟩
  | [], _ :: _, h => by cases h
  | _ :: _, [], h => by cases h
theorem cstB_ok {Y : Fx} : ∀ (n : Nat) (u : Value) (d : D), cstB Y.K n u d = true → ∃ v, RelV v u ∧ ∀ H as, Rep Y H as d v := by
  intro n
  induction n with
  | zero => intro u d h; cases h
  | succ n ih =>
    intro u d h
    have hsl := sizeLine_eq
    cases d with
    | non =>
      cases u with
      | none => exact ⟨.non, rfl, fun _ _ => .non⟩
      | _ => cases h
    | bl b =>
      cases u with
      | bool a =>
        have e : a = b := eq_of_beq (show (a == b) = true from h)
        subst e
        exact ⟨.bl a, rfl, fun _ _ => .bl _⟩
      | _ => cases h
    | int j =>
      cases u with
      | int i t =>
        have e : i = j := of_decide_eq_true h
        subst e
        exact ⟨.int i, ⟨t, rfl⟩, fun _ _ => .int _⟩
      | _ => cases h
    | str y =>
      cases u with
      | str x t =>
        have e : x = y := of_decide_eq_true h
        subst e
        exact ⟨.str x, ⟨t, rfl⟩, fun _ _ => .str _⟩
      | _ => cases h
    | tup ds =>
      cases u with
      | ref a =>
        have h' : (match Y.K.lookup a with
          | some ⟨.type c, _, .seq its _, _⟩ => decide (c = "tuple") && (Nat.ble its.size 1000 && cstL (cstB Y.K n) its.toList ds)
          | _ => false) = true := h
        split at h'
        · rename_i c od its k sl e
          obtain ⟨h1, h2⟩ := and2 h'
          obtain ⟨h2, h3⟩ := and2 h2
          obtain ⟨vs, rs, qs⟩ := cstL_ok (Y := Y) (fun u d => ih u d) h3
          have hz : its.size ≤ sizeLine := by
            have := Nat.le_of_ble_eq_true h2
            omega
          have hv : vs.length = its.size := by rw [rs.length]; simp
          exact ⟨.ref a, rfl, fun H as => .tup (.inr ⟨_, its, k, e, congrArg Value.type (of_decide_eq_true h1), rfl, hz, rs⟩) (by omega) (qs H as)⟩
        · cases h'
      | _ => cases h
    | rl ds =>
      cases u with
      | ref a =>
        have h' : (match Y.K.lookup a with
          | some ⟨.type c, none, .seq its _, _⟩ => decide (c = "list") && (Nat.ble its.size 1000 && cstL (cstB Y.K n) its.toList ds)
          | _ => false) = true := h
        split at h'
        · rename_i c its k sl e
          obtain ⟨h1, h2⟩ := and2 h'
          obtain ⟨h2, h3⟩ := and2 h2
          obtain ⟨vs, rs, qs⟩ := cstL_ok (Y := Y) (fun u d => ih u d) h3
          have hz : its.size ≤ sizeLine := by
            have := Nat.le_of_ble_eq_true h2
            omega
          have hv : vs.length = its.size := by rw [rs.length]; simp
          exact ⟨.ref a, rfl, fun H as => .rl (.inl (.inr ⟨_, its, k, e, congrArg Value.type (of_decide_eq_true h1), rfl, rfl, hz, rs⟩)) (by omega) (qs H as)⟩
        · cases h'
      | _ => cases h
    | _ => cases h

/-! ### a def's row -/
structure Row where
  n : Nat
  x : Str
  st : Stmt
  Nm : List Str
  ps : List Str
  g : FD
  lam : Bool
/-- a def that tries a lambda -/
structure TRow where
  n : Nat
  x : Str
  st : Stmt
  Nm : List Str
  a : Str
  t : Td
  cl : List (Str × D)
  hot : Option PxH.HotR
def scB (N P : List Str) (sc : Scope) : Bool := isFun sc && (!sc.isCoroutine && (!sc.isGenerator && (decide N.Nodup && (decide (N.take P.length = P) && ((P.all fun x => locB sc x) && sc.names.all fun y => decide (y.2 ≠ .free))))))
theorem scB_ok {N P : List Str} {sc : Scope} (h : scB N P sc = true) : FnScope N P sc := by
  unfold scB at h
  obtain ⟨h1, h⟩ := and2 h
  obtain ⟨h2, h⟩ := and2 h
  obtain ⟨h3, h⟩ := and2 h
  obtain ⟨h4, h⟩ := and2 h
  obtain ⟨h5, h⟩ := and2 h
  obtain ⟨h6, h7⟩ := and2 h
  exact ⟨isFun_ok h1, by simpa using h2, by simpa using h3, of_decide_eq_true h4, of_decide_eq_true h5, fun x hx => locB_ok (List.all_eq_true.mp h6 x hx), fun y hy => of_decide_eq_true (List.all_eq_true.mp h7 y hy)⟩
def rowB (B : Tb) (r : Row) : Bool := scB r.Nm r.ps (defScope r.st) && (simpleP (defArgs r.st) r.ps && (decide (r.g.arity = r.ps.length) && (decide (r.g.slots = r.Nm.length) && chkS { B with lam := r.lam } r.Nm (defScope r.st) (fun _ => true) r.g.body (.B (defBody r.st)))))
def tabOf (rs : List Row) : Tab := fun n => match rs.find? fun r => Nat.beq r.n n with
  | some r => some r.g
  | none => none
def trowB (t : TRow) : Bool := scB t.Nm [t.a] (defScope t.st) && (simpleP (defArgs t.st) [t.a] && (nodbg t.a && (locB (defScope t.st) t.a && (match t.hot with
  | none => tryB (defScope t.st) t.a t.cl t.t.fin (defBody t.st)
  | some q => PxH.tryHB (defScope t.st) t.Nm t.a q t.t.fin (defBody t.st)))))
/-- the tables of those that try -/
def tshapeB (B : Tb) (ts : List TRow) : Bool := (B.tds.all fun q => ts.any fun t => decide (t.x = q.2.1) && tdEq t.t q.2.2) && ts.all fun t => (t.cl.all fun p => B.cls.any fun q => decide (q.2 = p.1)) && (match t.hot with
  | none => true
  | some q => ((q.z :: q.cs).all fun c => B.cls.any fun p => decide (p.2 = c)) && memS "isinstance" B.free)
/-- the tables' own shape: each number once -/
def shapeB (B : Tb) (rs : List Row) : Bool := (rs.all fun r => (match rs.find? fun q => Nat.beq q.n r.n with
    | some q => decide (q.x = r.x)
    | none => false)) && ((B.fns.all fun p => rs.any fun r => decide (r.n = p.1) && decide (r.x = p.2)) && ((B.fns.all fun p => decide (lookN p.1 B.fns = some p.2)) && B.cls.all fun p => decide (lookN p.1 B.cls = some p.2)))
def trowD (t : TRow) : He.DefD := ⟨(t.x, none), t.x, t.x, defArgs t.st, defBody t.st, defScope t.st, [], []⟩
def fnOfR (rs : List Row) (ts : List TRow) (rowD : Row → He.DefD) : List He.DefD := rs.map rowD ++ ts.map trowD
def tfOf (rs : List Row) : List He.Defn := (rs.filter fun r => r.lam).map fun r => (r.x, none)
def tabsOf (rs : List Row) (K : PySem.W.Frag) : List (Addr × Str) := (rs.filter fun r => r.lam).map fun r => ((He.cT K (r.x, none)).2, r.x ++ ".<locals>." ++ "<lambda>")
def rowD (r : Row) : He.DefD := ⟨(r.x, none), r.x, r.x, defArgs r.st, defBody r.st, defScope r.st, [], []⟩
/-- what the Hook is to tell -/
def faOf0 (B : Tb) (rs : List Row) : List He.Fa := (rs.map fun r => He.Fa.glo r.x) ++ (B.free.map He.Fa.free ++ (B.cls.map (fun p => He.Fa.glo p.2) ++ B.cls.map fun p => He.Fa.exc p.2))
def faOf (B : Tb) (rs : List Row) (ts : List TRow) : List He.Fa := faOf0 B rs ++ ts.map fun t => He.Fa.glo t.x
def exB0 (B : Tb) (K : PySem.W.Frag) : Bool := (B.csts.all fun p => match PySem.W.nsIn K mainGlobals p.1 with
    | some (some u) => cstB K 50 u p.2
    | _ => false) && B.mfn.all fun p => He.eqO (PySem.W.nsIn K mainGlobals p.1) (some (some (.builtin p.2)))
def nodupB : List Addr → Bool
  | [] => true
  | a :: r => !(r.any fun b => Nat.beq a b) && nodupB r
def excCB (K : PySem.W.Frag) (D : Addr) : Bool :=
  He.eqO (PySem.W.findIn K (.ref D) "__getattribute__") (some (some (.builtin "BaseException.__getattribute__"))) && (He.eqO (PySem.W.findIn K (.ref D) "__getattr__") (some none) &&
  (decide (PySem.W.subIn K (.ref D) (.type "BaseException") = some true) && (PySem.W.hasDictIn K D && (He.eqO (PySem.W.findIn K (.ref D) "__class__") (some (some (.builtin "object.__class__"))) &&
  (He.eqO (PySem.W.specialIn K (.builtin "object.__class__") "__get__") (some (some (.builtin "getset_descriptor.__get__"))) && (decide (PySem.W.takesIn K (.builtin "object.__class__") = some true) && decide (PySem.W.mroIn K D (.type "object") = some true)))))))
theorem excCB_ok {K : PySem.W.Frag} {D : Addr} (h : excCB K D = true) : L2.ExcC K D := by
  unfold excCB at h
  obtain ⟨h1, h⟩ := and2 h
  obtain ⟨h2, h⟩ := and2 h
  obtain ⟨h3, h⟩ := and2 h
  obtain ⟨h4, h⟩ := and2 h
  obtain ⟨h5, h⟩ := and2 h
  obtain ⟨h6, h⟩ := and2 h
  obtain ⟨h7, h8⟩ := and2 h
  exact ⟨He.eqO_ok h1, He.eqO_ok h2, of_decide_eq_true h3, h4, He.eqO_ok h5, He.eqO_ok h6, of_decide_eq_true h7, of_decide_eq_true h8⟩
def hotOk (K : PySem.W.Frag) (D : Addr) (n : Nat) (q : PxH.HotR) : Option Px.D → Bool
  | some (.str y) => decide (PySem.W.exmOne K (.ref D) (.ref (He.ga K q.z)) = some true) && (excCB K D && decide (PxH.runS (PxH.isxK K D q.cs) q.l q.r (List.replicate n none) = some y))
  | _ => false
def clsOk (B : Tb) (K : PySem.W.Frag) (t : TRow) : Bool := match t.hot with
  | some q => t.t.at_.all fun p => hotOk K (He.ga K ((lookN p.1 B.cls).getD Str.empty)) t.Nm.length q (tdAt t.t.at_ p.1)
  | none => t.t.at_.all fun p => match clsB K (He.ga K ((lookN p.1 B.cls).getD Str.empty)) t.cl, tdAt t.t.at_ p.1 with
  | some a, some b => dbeq 5 a b
  | _, _ => false
def exB (B : Tb) (rs : List Row) (ts : List TRow) (K : PySem.W.Frag) : Bool := exB0 B K && (nodupB ((tabsOf rs K).map (·.1)) && ts.all (clsOk B K))
theorem tdAt_mem {c : Nat} {d : D} : ∀ {l : List (Nat × D)}, tdAt l c = some d → ∃ e, (c, e) ∈ l
  | [], h => by cases h
  | (m, e) :: r, h => by
    unfold tdAt at h
    split at h
    · rename_i q
      rw [← Nat.eq_of_beq_eq_true q]
      exact ⟨e, List.mem_cons_self⟩
    · obtain ⟨e', h'⟩ := tdAt_mem h
      exact ⟨e', List.mem_cons_of_mem _ h'⟩
theorem tab_one {K : PySem.W.Frag} {rs : List Row} (h : nodupB ((tabsOf rs K).map (·.1)) = true) {p q : Addr × Str} (hp : p ∈ tabsOf rs K) (hq : q ∈ tabsOf rs K) (e : p.1 = q.1) : p = q := by
  revert h hp hq
  generalize tabsOf rs K = l
  intro h hp hq
  induction l with
  | nil => cases hp
  | cons a l ih =>
    obtain ⟨h1, h2⟩ := and2 (show ((!((l.map (·.1)).any fun b => Nat.beq a.1 b)) && nodupB (l.map (·.1))) = true from h)
    have no : ∀ b ∈ l, a.1 ≠ b.1 := fun b hb z => by
      rw [Bool.not_eq_true', List.any_eq_false] at h1
      exact h1 b.1 (List.mem_map.mpr ⟨b, hb, rfl⟩) (by rw [z]; exact Nat.beq_refl _)
    rcases List.mem_cons.mp hp with z1 | z1 <;> rcases List.mem_cons.mp hq with z2 | z2
    · rw [z1, z2]
    · rw [z1] at e; exact absurd e (no q z2)
    · rw [z2] at e; exact absurd e.symm (no p z1)
    · exact ih h2 z1 z2
def yOf (B : Tb) (rs : List Row) (K : PySem.W.Frag) : Fx where
  K := K
  T := tabsOf rs K
  fa := fun n => He.ga K ((lookN n B.fns).getD Str.empty)
  ca := fun n => He.ga K ((lookN n B.cls).getD Str.empty)
  kn := fun n => (lookN n B.fns).isSome
section
variable {B : Tb} {rs : List Row} {ts : List TRow} {K : PySem.W.Frag} {h : Heap} {mg : Str → Option Value} {w : World}
theorem tbOk_of (X : K.In h) (G : h.Ns mainGlobals mg) (c : He.SaysX (faOf B rs ts) (fnOfR rs ts rowD) [] (tfOf rs) (exB B rs ts) w h K) (hs : shapeB B rs = true) (hts : tshapeB B ts = true) (htr : ts.all trowB = true) : TbOk B (yOf B rs K) mg := by
  obtain ⟨s1, hs⟩ := and2 hs
  obtain ⟨s2, hs⟩ := and2 hs
  obtain ⟨s3, s4⟩ := and2 hs
  have cd : He.SaysD (faOf B rs ts) (fnOfR rs ts rowD) K := congrArg (fun z : He.AlT => z.1) c.t
  have hex := c.more
  obtain ⟨hex, hex2⟩ := and2 hex
  obtain ⟨x3, x4⟩ := and2 hex2
  obtain ⟨x1, x2⟩ := and2 hex
  have mfa : ∀ f, f ∈ faOf0 B rs → f.ok K = true := fun f hf => cd.facts (List.mem_append_left _ hf)
  have clsG : ∀ n x, (n, x) ∈ B.cls → mg x = some (.ref (He.ga K x)) := fun n x hn => He.glo_ok X G (mfa (.glo x) (List.mem_append_right _ (List.mem_append_right _ (List.mem_append_left _ (List.mem_map.mpr ⟨(n, x), hn, rfl⟩)))))
  refine ⟨fun n x hn => ?_, fun n hn => ?_, fun x d hx => ?_, fun x hx => ?_, fun x id hx => ?_, fun n x hn => ?_, fun n x td hn => ?_⟩
  · have e : lookN n B.fns = some x := of_decide_eq_true (List.all_eq_true.mp s3 (n, x) hn)
    have ea : (yOf B rs K).fa n = He.ga K x := by show He.ga K ((lookN n B.fns).getD Str.empty) = _; rw [e]; rfl
    obtain ⟨r, hr, hq⟩ := List.any_eq_true.mp (List.all_eq_true.mp s2 (n, x) hn)
    obtain ⟨q1, q2⟩ := and2 hq
    have ex : r.x = x := of_decide_eq_true q2
    have g := He.glo_ok X G (mfa (.glo r.x) (List.mem_append_left _ (List.mem_map.mpr ⟨r, hr, rfl⟩)))
    obtain ⟨fd, F⟩ := cd.defs (d := rowD r) (List.mem_append_left _ (List.mem_map.mpr ⟨r, hr, rfl⟩))
    have kp := F.kp
    rw [ea, ← ex]
    refine ⟨g, kp, ?_⟩
    show (lookN n B.fns).isSome = true
    rw [e]
    rfl
  · have hn : (lookN n B.fns).isSome = true := hn
    obtain ⟨x, e⟩ := Option.isSome_iff_exists.mp hn
    exact ⟨x, lookN_ok e⟩
  · have z := List.all_eq_true.mp x1 (x, d) hx
    have z : (match PySem.W.nsIn K mainGlobals x with
      | some (some u) => cstB K 50 u d
      | _ => false) = true := z
    split at z
    · rename_i u e
      obtain ⟨v, r, q⟩ := cstB_ok (Y := yOf B rs K) 50 u d z
      exact ⟨u, v, PySem.W.mg_of X G e, r, q⟩
    · cases z
  · exact He.free_ok X G (mfa (.free x) (List.mem_append_right _ (List.mem_append_left _ (List.mem_map.mpr ⟨x, hx, rfl⟩))))
  · exact PySem.W.mg_of X G (He.eqO_ok (List.all_eq_true.mp x2 (x, id) hx))
  · have e : lookN n B.cls = some x := of_decide_eq_true (List.all_eq_true.mp s4 (n, x) hn)
    have ea : (yOf B rs K).ca n = He.ga K x := by show He.ga K ((lookN n B.cls).getD Str.empty) = _; rw [e]; rfl
    have g := He.glo_ok X G (mfa (.glo x) (List.mem_append_right _ (List.mem_append_right _ (List.mem_append_left _ (List.mem_map.mpr ⟨(n, x), hn, rfl⟩)))))
    obtain ⟨q1, q2, q3, q4⟩ := He.exc_ok (mfa (.exc x) (List.mem_append_right _ (List.mem_append_right _ (List.mem_append_right _ (List.mem_map.mpr ⟨(n, x), hn, rfl⟩)))))
    rw [ea]
    exact ⟨_, _, _, _, PySem.F.excBase_ValueError, q1, g, q2, q3, q4⟩
  · obtain ⟨s5, s6⟩ := and2 hts
    obtain ⟨t, ht, hq⟩ := List.any_eq_true.mp (List.all_eq_true.mp s5 (n, x, td) hn)
    obtain ⟨q1, q2⟩ := and2 hq
    have ex : t.x = x := of_decide_eq_true q1
    have et : t.t = td := tdEq_ok q2
    subst ex et
    have g := He.glo_ok X G (cd.facts (f := .glo t.x) (List.mem_append_right _ (List.mem_map.mpr ⟨t, ht, rfl⟩)))
    obtain ⟨fd, F⟩ := cd.defs (d := trowD t) (List.mem_append_right _ (List.mem_map.mpr ⟨t, ht, rfl⟩))
    have F : FunD K t.x t.x (defArgs t.st) (defBody t.st) (defScope t.st) [] [] (He.ga K t.x) fd := F
    have hrow := List.all_eq_true.mp htr t ht
    obtain ⟨k1, hrow⟩ := and2 hrow
    obtain ⟨k2, hrow⟩ := and2 hrow
    obtain ⟨k3, hrow⟩ := and2 hrow
    obtain ⟨k4, k5⟩ := and2 hrow
    have S := scB_ok k1
    have hb := F.bindsN (ps := [t.a]) fun kV doc pm an cdv ct us hl => bind_plain k2 (by simp) kV doc pm an cdv ct us hl
    have kp := F.kp
    obtain ⟨oc, od, dV, kV, doc, pm, an, cdv, ct, osl, efd, lk, hcd, _, _⟩ := F.ex
    rw [efd] at hb lk
    have hpre : t.Nm.take 1 = [t.a] := S.pre
    have hN : t.Nm[0]? = some t.a := by
      cases q : t.Nm with
      | nil => rw [q] at hpre; cases hpre
      | cons y r => rw [q] at hpre; simpa using hpre
    refine ⟨_, t.a, _, _, _, dV, kV, doc, pm, cdv, ct, oc, an, od, osl, t.Nm, g, kp, lk, hcd, hb, S, hN, visB_ok (by
      unfold locB at k4
      unfold visB
      split at k4 <;> first
        | (rename_i e; rw [e])
        | cases k4), k3, fun X' q eK em => ?_⟩
    have s6t := and2 (List.all_eq_true.mp s6 t ht)
    have x4t := List.all_eq_true.mp x4 t ht
    unfold clsOk at x4t
    cases hh : t.hot with
    | none =>
      rw [hh] at k5 x4t
      refine try_gives k5 (fun p hp => ?_) (fun cc d hd => ?_) fun f => ?_
      · obtain ⟨cq, hcq, e⟩ := List.any_eq_true.mp (List.all_eq_true.mp s6t.1 p hp)
        have e : cq.2 = p.1 := of_decide_eq_true e
        have z := clsG cq.1 cq.2 hcq
        rw [e] at z
        rw [em, eK]
        exact z
      · obtain ⟨e, he⟩ := tdAt_mem hd
        have z := List.all_eq_true.mp x4t (cc, e) he
        rw [eK]
        replace z : (match clsB K (He.ga K ((lookN cc B.cls).getD Str.empty)) t.cl, tdAt t.t.at_ cc with
          | some a, some b => dbeq 5 a b
          | _, _ => false) = true := z
        rw [hd] at z
        show clsB K (He.ga K ((lookN cc B.cls).getD Str.empty)) t.cl = some d
        cases q : clsB K (He.ga K ((lookN cc B.cls).getD Str.empty)) t.cl with
        | none => rw [q] at z; cases z
        | some a => rw [q] at z; rw [dbeq_eq 5 z]
      · unfold L2.start
        rfl
    | some hq =>
      have s6h := s6t.2
      rw [hh] at k5 x4t s6h
      obtain ⟨s7, s8⟩ := and2 s6h
      have glob : ∀ c, c ∈ hq.z :: hq.cs → X'.mg c = some (.ref (He.ga X'.K c)) := fun c hc => by
        obtain ⟨cq, hcq, e⟩ := List.any_eq_true.mp (List.all_eq_true.mp s7 c hc)
        have e : cq.2 = c := of_decide_eq_true e
        have z := clsG cq.1 cq.2 hcq
        rw [e] at z
        rw [em, eK]
        exact z
      refine PxH.try_givesH k5 (glob _ List.mem_cons_self) ?_ (fun c hc => glob c (List.mem_cons_of_mem _ hc)) (fun cc d hd => ?_) fun f => ?_
      · rw [em]
        exact He.free_ok X G (mfa (.free "isinstance") (List.mem_append_right _ (List.mem_append_left _ (List.mem_map.mpr ⟨_, memS_ok s8, rfl⟩))))
      · obtain ⟨e, he⟩ := tdAt_mem hd
        have z := List.all_eq_true.mp x4t (cc, e) he
        replace z : hotOk K (He.ga K ((lookN cc B.cls).getD Str.empty)) t.Nm.length hq (tdAt t.t.at_ cc) = true := z
        rw [hd] at z
        rw [eK]
        show PySem.W.exmOne K (.ref (He.ga K ((lookN cc B.cls).getD Str.empty))) _ = _ ∧ _
        cases d with
        | str y =>
          obtain ⟨z1, z⟩ := and2 z
          obtain ⟨z2, z3⟩ := and2 z
          exact ⟨of_decide_eq_true z1, excCB_ok z2, y, rfl, of_decide_eq_true z3⟩
        | _ => cases z
      · unfold L2.start
        rfl
theorem tabs_nodup (c : He.SaysX (faOf B rs ts) (fnOfR rs ts rowD) [] (tfOf rs) (exB B rs ts) w h K) : nodupB ((tabsOf rs K).map (·.1)) = true := by
  obtain ⟨_, hex⟩ := and2 c.more
  exact (and2 hex).1
theorem defOk_of (c : He.SaysX (faOf B rs ts) (fnOfR rs ts rowD) [] (tfOf rs) (exB B rs ts) w h K) (hs : shapeB B rs = true) (hr : rs.all (rowB B) = true) : ∀ n x, (n, x) ∈ B.fns → Nonempty (DefOk (yOf B rs K) B (tabOf rs) (tfOf rs) n x) := by
  intro n x hn
  have nodT := tabs_nodup c
  obtain ⟨s1, hs⟩ := and2 hs
  obtain ⟨s2, hs⟩ := and2 hs
  obtain ⟨s3, s4⟩ := and2 hs
  have cd : He.SaysD (faOf B rs ts) (fnOfR rs ts rowD) K := congrArg (fun z : He.AlT => z.1) c.t
  have e : lookN n B.fns = some x := of_decide_eq_true (List.all_eq_true.mp s3 (n, x) hn)
  have ea : (yOf B rs K).fa n = He.ga K x := by show He.ga K ((lookN n B.fns).getD Str.empty) = _; rw [e]; rfl
  obtain ⟨r0, hr0, hq⟩ := List.any_eq_true.mp (List.all_eq_true.mp s2 (n, x) hn)
  obtain ⟨q1, q2⟩ := and2 hq
  have en : r0.n = n := of_decide_eq_true q1
  have ex : r0.x = x := of_decide_eq_true q2
  have z := List.all_eq_true.mp s1 r0 hr0
  cases ef : rs.find? fun q => Nat.beq q.n r0.n with
  | none => rw [ef] at z; cases z
  | some r =>
    rw [ef] at z
    have erx : r.x = x := (of_decide_eq_true z).trans ex
    have mr : r ∈ rs := List.mem_of_find?_eq_some ef
    have hrow := List.all_eq_true.mp hr r mr
    obtain ⟨k1, hrow⟩ := and2 hrow
    obtain ⟨k2, hrow⟩ := and2 hrow
    obtain ⟨k3, hrow⟩ := and2 hrow
    obtain ⟨k4, k5⟩ := and2 hrow
    have S := scB_ok k1
    obtain ⟨fd, F⟩ := cd.defs (d := rowD r) (List.mem_append_left _ (List.mem_map.mpr ⟨r, mr, rfl⟩))
    have F : FunD K r.x r.x (defArgs r.st) (defBody r.st) (defScope r.st) [] [] (He.ga K r.x) fd := F
    have nd : r.ps.Nodup := by
      rw [← S.pre]
      exact S.nd.sublist (List.take_sublist _ _)
    have hb := F.bindsN (ps := r.ps) fun kV doc pm an cdv ct us hl => bind_plain k2 nd kV doc pm an cdv ct us hl
    rw [erx] at F
    refine ⟨⟨r.st, r.Nm, r.ps, fd, r.g, ?_, by rw [ea]; exact F, hb, S, of_decide_eq_true k3, of_decide_eq_true k4, r.lam, k5, by rw [ea]; rfl, fun hl => List.mem_map.mpr ⟨r, List.mem_filter.mpr ⟨mr, hl⟩, by rw [erx]⟩, fun hl => ?_⟩⟩
    · show (match rs.find? fun r => Nat.beq r.n n with
        | some r => some r.g
        | none => none) = some r.g
      rw [← en, ef]
    · have mt : ((He.cT K (x, none)).2, x ++ ".<locals>." ++ "<lambda>") ∈ tabsOf rs K := List.mem_map.mpr ⟨r, List.mem_filter.mpr ⟨mr, hl⟩, by rw [erx]⟩
      exact ⟨mt, fun p hp e => congrArg (fun z : Addr × Str => z.2) (tab_one nodT hp mt e)⟩
end
end Px
end

section
set_option Elab.async false
set_option linter.all false
set_option maxRecDepth 100000
set_option maxHeartbeats 1000000
/-! Px: the law's own def, asked at a script. -/
namespace Px
open PySem PySem.Spec PyProof.Rows L2
theorem wd_nil {Y : Fx} {H : Hp} (hT : LamX.Tabs Y.T H) : Wd Y H ⟨[], []⟩ [] where
  len := rfl
  nd := List.nodup_nil
  od := List.nodup_nil
  op := fun a h => by cases h
  cell := fun i a ds h _ => by simp at h
  tabs := hT
theorem ints_repL {Y : Fx} {H : Hp} {as : Ad} : ∀ ns : List Int, RepL Y H as (ns.map .int) (ns.map V.int)
  | [] => .nil
  | _ :: ns => .cons (.int _) (ints_repL ns)
theorem lawAt {l : PySem.W.OpenLaw} {B : Tb} {rs : List Row} {ts : List TRow} {K : PySem.W.Frag} {h : Heap} {mg : Str → Option Value} {w : World} {nL m n : Nat} {xL x : Str} (X : K.In h) (G : h.Ns mainGlobals mg) (c : He.SaysX (faOf B rs ts) (fnOfR rs ts rowD) [] (tfOf rs) (exB B rs ts) w h K)
    (hs : shapeB B rs = true) (hts : tshapeB B ts = true) (htr : ts.all trowB = true) (hr : rs.all (rowB B) = true) (hn : n ≤ sizeLine) {r : Row} (hrow : rs.find? (fun q => Nat.beq q.n nL) = some r) (hx : r.x = xL) (hps : r.ps = [x]) (hL : (nL, xL) ∈ B.fns)
    (pure : ∀ ns : List Int, ns.length ≤ n → (∀ z ∈ ns, Builtin.Int.intBits z ≤ 1048576) → ∃ S, call (tabOf rs) m nL [.rl (ns.map .int)] [] = .ok (.bl true) S) (fa : Addr) (hfa : mg xL = some (.ref fa)) :
    LamX.LawAtS l w K (L2N.CX l.prog w) m n x mg fa h := by
  have htb := tbOk_of X G c hs hts htr
  have hf := defOk_of c hs hr
  obtain ⟨g1, _, _⟩ := htb.fn nL xL hL
  have ef : fa = (yOf B rs K).fa nL := by
    rw [hfa] at g1
    injection g1 with g1
    injection g1
  have cd : He.SaysD (faOf B rs ts) (fnOfR rs ts rowD) K := congrArg (fun z : He.AlT => z.1) c.t
  have mr : r ∈ rs := List.mem_of_find?_eq_some hrow
  have hro := List.all_eq_true.mp hr r mr
  obtain ⟨k1, hro⟩ := and2 hro
  obtain ⟨k2, hro⟩ := and2 hro
  obtain ⟨k3, hro⟩ := and2 hro
  obtain ⟨k4, k5⟩ := and2 hro
  have S := scB_ok k1
  obtain ⟨fd, F⟩ := cd.defs (d := rowD r) (List.mem_append_left _ (List.mem_map.mpr ⟨r, mr, rfl⟩))
  have F : FunD K r.x r.x (defArgs r.st) (defBody r.st) (defScope r.st) [] [] (He.ga K r.x) fd := F
  have nd : r.ps.Nodup := by
    rw [← S.pre]
    exact S.nd.sublist (List.take_sublist _ _)
  have hb := F.bindsN (ps := r.ps) fun kV doc pm an cdv ct us hl => bind_plain k2 nd kV doc pm an cdv ct us hl
  have hbA := F.bindsA (ps := r.ps) fun kV doc pm an cdv ct us hl => bind_plain k2 nd kV doc pm an cdv ct us hl
  have e : lookN nL B.fns = some xL := by
    obtain ⟨s1, hs⟩ := and2 hs
    obtain ⟨s2, hs⟩ := and2 hs
    obtain ⟨s3, s4⟩ := and2 hs
    exact of_decide_eq_true (List.all_eq_true.mp s3 (nL, xL) hL)
  have ea : (yOf B rs K).fa nL = He.ga K xL := by show He.ga K ((lookN nL B.fns).getD Str.empty) = _; rw [e]; rfl
  rw [hx] at F
  have nodT := tabs_nodup c
  let d : DefOk (yOf B rs K) B (tabOf rs) (tfOf rs) nL xL := ⟨r.st, r.Nm, r.ps, fd, r.g, by
    show (match rs.find? fun r => Nat.beq r.n nL with
      | some r => some r.g
      | none => none) = some r.g
    rw [hrow], by rw [ea]; exact F, hb, S, of_decide_eq_true k3, of_decide_eq_true k4, r.lam, k5, by rw [ea]; rfl, fun hl => List.mem_map.mpr ⟨r, List.mem_filter.mpr ⟨mr, hl⟩, by rw [hx]⟩, fun hl => by
      have mt : ((He.cT K (xL, none)).2, xL ++ ".<locals>." ++ "<lambda>") ∈ tabsOf rs K := List.mem_map.mpr ⟨r, List.mem_filter.mpr ⟨mr, hl⟩, by rw [hx]⟩
      exact ⟨mt, fun p hp e => congrArg (fun z : Addr × Str => z.2) (tab_one nodT hp mt e)⟩⟩
  refine ⟨fd, (tfOf rs).map (He.cT K), spC (yOf B rs K) (call (tabOf rs) m nL), fun p hp => ?_, fun p hp => ?_, fun p hp => ?_, fun s u => ?_, fun H a ns hlen hbits htab hS => ?_, fun base hK hG hTB => ?_⟩
  · obtain ⟨q, hq, e⟩ := List.mem_map.mp hp
    rw [← e]
    exact c.empty q hq
  · obtain ⟨q, hq, e⟩ := List.mem_map.mp hp
    rw [← e]
    exact c.out q hq
  · obtain ⟨q, hq, e⟩ := List.mem_map.mp hp
    rw [← e]
    exact PySem.W.codeHd_of_K X (c.hd q hq)
  · have z := hbA s [u] (by rw [hps]; rfl)
    rw [hps] at z
    exact z
  · obtain ⟨S1, e1⟩ := pure ns hlen hbits
    refine ⟨[.rl (ns.map .int)], ⟨[], []⟩, [], wd_nil (fun p hp => ?_), .cons (.rl ?_ (by rw [List.length_map]; omega) (ints_repL ns)) .nil, ?_⟩
    · obtain ⟨r', hr', e1⟩ := List.mem_map.mp (show p ∈ tabsOf rs K from hp)
      rw [← e1]
      exact LamX.TabS.nil (htab (He.cT K (r'.x, none)) (List.mem_map.mpr ⟨(r'.x, none), List.mem_map.mpr ⟨r', hr', rfl⟩, rfl⟩))
    · rcases hS with (hS | hS) | hS
      · exact .inr ⟨hS, fun hm => by rcases hm with hm | hm <;> cases hm⟩
      · exact .inl (.inl hS)
      · exact .inl (.inr hS)
    · rw [e1]
      intro v H' as' _ _ rv
      cases rv
      rfl
  · have z := allOk (P := l.prog) (w := w) (base := base) htb hf (fun q hq => hTB _ (List.mem_map.mpr ⟨q, hq, rfl⟩)) m nL xL hL d
    rw [ef]
    rw [← hps]
    exact z
theorem cx_none (P : PySem.Program) (w : World) (H : Hp) (s : Shared) (e : Value) (s' : Shared) : L2N.CX P w [] H s (fun _ _ _ => False) e s' → False := by
  rintro ⟨a, B, H', cls, d, _, _, _, _, _, _, _, z⟩
  exact z
end Px
end

section
set_option Elab.async false
set_option linter.all false
set_option maxRecDepth 100000
set_option maxHeartbeats 1000000
/-! Px: reasoning about our meaning, no machine in sight. -/
namespace Px
open PySem (Str PyData)

/-- how long a while may turn -/
def whN : Nat := 2 ^ 100000

/-! ### what comes out -/
def Wp {α : Type} (r : R α) (Q : α → Sto → Prop) : Prop := match r with
  | .ok a s => Q a s
  | _ => False
@[simp] theorem wp_ok {α : Type} (a : α) (s : Sto) (Q : α → Sto → Prop) : Wp (.ok a s) Q ↔ Q a s := Iff.rfl
@[simp] theorem wp_bad {α : Type} (Q : α → Sto → Prop) : Wp (.bad : R α) Q ↔ False := Iff.rfl
@[simp] theorem wp_bind {α β : Type} (r : R α) (f : α → Sto → R β) (Q : β → Sto → Prop) : Wp (r.bind f) Q ↔ Wp r fun a s => Wp (f a s) Q := by
  cases r <;> exact Iff.rfl
@[simp] theorem wp_calm {α β : Type} (r : R α) (f : α → Sto → R β) (Q : β → Sto → Prop) : Wp (r.calm f) Q ↔ Wp r fun a s => Wp (f a s) Q := by
  cases r <;> exact Iff.rfl
@[simp] theorem wp_ite {α : Type} (c : Prop) [Decidable c] (a b : R α) (Q : α → Sto → Prop) : Wp (if c then a else b) Q ↔ (if c then Wp a Q else Wp b Q) := by
  split <;> exact Iff.rfl
theorem Wp.mono {α : Type} {r : R α} {Q Q' : α → Sto → Prop} (h : Wp r Q) (k : ∀ a s, Q a s → Q' a s) : Wp r Q' := by
  cases r with
  | ok a s => exact k a s h
  | exc c s => exact h
  | bad => exact h
theorem wp_eq {α : Type} {r : R α} {a : α} {s : Sto} (h : r = .ok a s) (Q : α → Sto → Prop) : Wp r Q ↔ Q a s := by rw [h]; exact Iff.rfl
/-- statements: N what follows, T what is returned -/
def Wf (r : F) (N : Env → Sto → Prop) (T : D → Sto → Prop) : Prop := match r with
  | .nx ρ s => N ρ s
  | .rt d s => T d s
  | _ => False
@[simp] theorem wf_nx (ρ : Env) (s : Sto) (N : Env → Sto → Prop) (T : D → Sto → Prop) : Wf (.nx ρ s) N T ↔ N ρ s := Iff.rfl
@[simp] theorem wf_rt (d : D) (s : Sto) (N : Env → Sto → Prop) (T : D → Sto → Prop) : Wf (.rt d s) N T ↔ T d s := Iff.rfl
@[simp] theorem wf_bad (N : Env → Sto → Prop) (T : D → Sto → Prop) : Wf .bad N T ↔ False := Iff.rfl
@[simp] theorem wf_ex (c : Nat) (ρ : Env) (s : Sto) (N : Env → Sto → Prop) (T : D → Sto → Prop) : Wf (.ex c ρ s) N T ↔ False := Iff.rfl
@[simp] theorem wf_seq (r : F) (f : Env → Sto → F) (N : Env → Sto → Prop) (T : D → Sto → Prop) : Wf (r.seq f) N T ↔ Wf r (fun ρ s => Wf (f ρ s) N T) T := by
  cases r <;> exact Iff.rfl
@[simp] theorem wf_fl (r : R D) (ρ : Env) (f : D → Sto → F) (N : Env → Sto → Prop) (T : D → Sto → Prop) : Wf (r.fl ρ f) N T ↔ Wp r fun d s => Wf (f d s) N T := by
  cases r <;> exact Iff.rfl
@[simp] theorem wf_ite (c : Prop) [Decidable c] (a b : F) (N : Env → Sto → Prop) (T : D → Sto → Prop) : Wf (if c then a else b) N T ↔ (if c then Wf a N T else Wf b N T) := by
  split <;> exact Iff.rfl
theorem Wf.mono {r : F} {N N' : Env → Sto → Prop} {T T' : D → Sto → Prop} (h : Wf r N T) (kn : ∀ ρ s, N ρ s → N' ρ s) (kt : ∀ d s, T d s → T' d s) : Wf r N' T' := by
  cases r with
  | nx ρ s => exact kn ρ s h
  | rt d s => exact kt d s h
  | _ => exact h
@[simp] theorem wp_endF (r : F) (T : D → Sto → Prop) : Wp (endF r) T ↔ Wf r (fun _ s => T .non s) T := by
  cases r <;> exact Iff.rfl
/-- a def is called -/
theorem call_eq {G : Tab} {n : Nat} {g : FD} (hg : G n = some g) (k : Nat) (as : List D) (s : Sto) : call G (k + 1) n as s = if as.length = g.arity then endF (ex g.body ⟨call G k, low G k⟩ (as.map some ++ List.replicate (g.slots - g.arity) none) s) else .bad := by
  show (match G n with
    | some f => if as.length = f.arity then endF (ex f.body ⟨call G k, low G k⟩ (as.map some ++ List.replicate (f.slots - f.arity) none) s) else .bad
    | none => .bad) = _
  rw [hg]
/-- a loop by an invariant over what is left -/
theorem wf_forL {f : D → Env → Sto → F} {N : Env → Sto → Prop} {T : D → Sto → Prop} (I : List D → Env → Sto → Prop) : ∀ {xs : List D} {ρ : Env} {s : Sto}, I xs ρ s → (∀ ρ s, I [] ρ s → N ρ s) →
    (∀ x xs ρ s, I (x :: xs) ρ s → Wf (f x ρ s) (I xs) T) → Wf (forL f xs ρ s) N T
  | [], ρ, s, h, hd, _ => hd ρ s h
  | x :: xs, ρ, s, h, hd, hs => by
    show Wf ((f x ρ s).turn (forL f xs)) N T
    have q := hs x xs ρ s h
    cases e : f x ρ s with
    | nx ρ' s' =>
      rw [e] at q
      exact wf_forL I q hd hs
    | rt d s' =>
      rw [e] at q
      exact q
    | bk ρ' s' => rw [e] at q; exact q.elim
    | ct ρ' s' => rw [e] at q; exact q.elim
    | ex c ρ' s' => rw [e] at q; exact q.elim
    | bad => rw [e] at q; exact q.elim
/-- a comprehension that leaves the store, each item by a function -/
theorem wp_compL {f : D → Sto → R (Option D)} {g : D → Option D} {s : Sto} : ∀ {xs acc : List D}, (∀ x ∈ xs, f x s = .ok (g x) s) → compL f xs acc s = .ok (acc ++ xs.filterMap g) s
  | [], acc, _ => by simp [compL]
  | x :: xs, acc, h => by
    show (f x s).calm _ = _
    rw [h x List.mem_cons_self]
    show (match g x with
      | some y => compL f xs (acc ++ [y]) s
      | none => compL f xs acc s) = _
    have ih := fun acc => wp_compL (f := f) (g := g) (s := s) (xs := xs) (acc := acc) fun y hy => h y (List.mem_cons_of_mem _ hy)
    cases e : g x with
    | none =>
      rw [List.filterMap_cons, e]
      exact ih acc
    | some y =>
      rw [List.filterMap_cons, e]
      show compL f xs (acc ++ [y]) s = _
      rw [ih, List.append_assoc]
      rfl

/-! ### our meaning, row by row -/
/-- by a truth -/
def onB {α : Type} (x : D) (t f e : α) : α := match x with
  | .bl true => t
  | .bl false => f
  | _ => e
@[simp] theorem onB_bl {α : Type} (b : Bool) (t f e : α) : onB (.bl b) t f e = if b = true then t else f := by cases b <;> rfl
section
variable {P : PC} {ρ : Env} {s : Sto}
@[simp] theorem den_var (i : Nat) : den (.var i) P ρ s = match ρ[i]? with
    | some (some d) => .ok d s
    | _ => .bad := rfl
@[simp] theorem den_c (d : D) : den (.c d) P ρ s = .ok d s := rfl
@[simp] theorem den_gl (n : Nat) : den (.gl n) P ρ s = .ok (.fn n) s := rfl
@[simp] theorem den_nil : den .nil P ρ s = .ok (.lst []) s := rfl
/-- arguments -/
def consD (x : D) (ys : D) (s : Sto) : R D := match ys with
  | .lst xs => .ok (.lst (x :: xs)) s
  | _ => .bad
@[simp] theorem consD_lst (x : D) (xs : List D) : consD x (.lst xs) s = .ok (.lst (x :: xs)) s := rfl
/-- what takes a list of arguments -/
def onL {α : Type} (ys : D) (f : List D → R α) : R α := match ys with
  | .lst xs => f xs
  | _ => .bad
@[simp] theorem onL_lst {α : Type} (xs : List D) (f : List D → R α) : onL (.lst xs) f = f xs := rfl
@[simp] theorem den_cons (a r : RE) : den (.cons a r) P ρ s = (den a P ρ s).bind fun x s => (den r P ρ s).bind fun ys s => consD x ys s := rfl
@[simp] theorem den_tup (l : RE) : den (.tup l) P ρ s = (den l P ρ s).bind fun ys s => onL ys fun xs => .ok (.tup xs) s := rfl
@[simp] theorem den_lst (mu : Bool) (l : RE) : den (.lst mu l) P ρ s = (den l P ρ s).bind fun ys s => onL ys fun xs => allocL mu xs s := rfl
@[simp] theorem den_bin (op : Bo) (mu : Bool) (a b : RE) : den (.bin op mu a b) P ρ s = (den a P ρ s).bind fun x s => (den b P ρ s).bind fun y s => binD op mu x y s := rfl
def negD (x : D) (s : Sto) : R D := match x with
  | .int i => .ok (.int (-i)) s
  | _ => .bad
@[simp] theorem negD_int (i : Int) : negD (.int i) s = .ok (.int (-i)) s := rfl
@[simp] theorem den_neg (a : RE) : den (.neg a) P ρ s = (den a P ρ s).bind fun x s => negD x s := rfl
@[simp] theorem den_cmp (op : Co) (a b : RE) : den (.cmp op a b) P ρ s = (den a P ρ s).bind fun x s => (den b P ρ s).bind fun y s => cmpD op x y s := rfl
@[simp] theorem den_chain (o1 o2 : Co) (a b c : RE) : den (.chain o1 o2 a b c) P ρ s = (den a P ρ s).bind fun x s => (den b P ρ s).bind fun y s => (cmpD o1 x y s).bind fun t s => onB t ((den c P ρ s).bind fun z s => cmpD o2 y z s) (.ok (.bl false) s) .bad := rfl
@[simp] theorem den_and (a b : RE) : den (.and a b) P ρ s = (den a P ρ s).bind fun x s => onB x (den b P ρ s) (.ok (.bl false) s) .bad := rfl
@[simp] theorem den_or (a b : RE) : den (.or a b) P ρ s = (den a P ρ s).bind fun x s => onB x (.ok (.bl true) s) (den b P ρ s) .bad := rfl
def notD' (x : D) (s : Sto) : R D := match x with
  | .bl b => .ok (.bl (!b)) s
  | _ => .bad
@[simp] theorem notD'_bl (b : Bool) : notD' (.bl b) s = .ok (.bl (!b)) s := rfl
@[simp] theorem den_not (a : RE) : den (.not a) P ρ s = (den a P ρ s).bind fun x s => notD' x s := rfl
@[simp] theorem den_ite (c a b : RE) : den (.ite c a b) P ρ s = (den c P ρ s).bind fun x s => onB x (den a P ρ s) (den b P ρ s) .bad := rfl
@[simp] theorem den_call (n : Nat) (l : RE) : den (.call n l) P ρ s = (den l P ρ s).bind fun ys s => onL ys fun xs => P.call n xs s := rfl
@[simp] theorem den_bi (b : Bi) (mu : Bool) (l : RE) : den (.bi b mu l) P ρ s = (den l P ρ s).bind fun ys s => onL ys fun xs => biD b mu xs s := rfl
@[simp] theorem den_isi (a : RE) (t : Ty) : den (.isi a t) P ρ s = (den a P ρ s).bind fun x s => ob (isiD x t) s := rfl
@[simp] theorem den_sub (a i : RE) : den (.sub a i) P ρ s = (den a P ρ s).bind fun x s => (den i P ρ s).bind fun y s => subD x y s := rfl
def partR {α : Type} (o : Option (Option Int)) (f : Option Int → R α) : R α := match o with
  | some l => f l
  | none => .bad
@[simp] theorem partR_some {α : Type} (o : Option Int) (f : Option Int → R α) : partR (some o) f = f o := rfl
@[simp] theorem den_slc (mu : Bool) (a lo hi : RE) : den (.slc mu a lo hi) P ρ s = (den a P ρ s).bind fun x s => (den lo P ρ s).bind fun l s => partR (partO l) fun l => (den hi P ρ s).bind fun h s => partR (partO h) fun h => slcD mu x l h s := rfl
@[simp] theorem den_rev (mu : Bool) (a : RE) : den (.rev mu a) P ρ s = (den a P ρ s).bind fun x s => revD mu x s := rfl
def onC {α : Type} (x : D) (f : Nat → R α) : R α := match x with
  | .cel i => f i
  | _ => .bad
@[simp] theorem onC_cel {α : Type} (i : Nat) (f : Nat → R α) : onC (.cel i) f = f i := rfl
@[simp] theorem den_meth (m : Me) (a l : RE) : den (.meth m a l) P ρ s = (den a P ρ s).bind fun x s => onC x fun i => (den l P ρ s).bind fun ys s => onL ys fun xs => meD m i xs s := rfl
@[simp] theorem den_comp (mu : Bool) (elt : RE) (own : List Nat) (tg : Tg) (it cond : RE) : den (.comp mu elt own tg it cond) P ρ s = (den it P ρ s).bind (compZ (itemZ (den cond P) (den elt P) own tg ρ) mu) := rfl
def seqI (x : D) (s : Sto) : R D := match x with
  | .tup xs => .ok (.lst xs) s
  | .lst xs => .ok (.lst xs) s
  | .rl xs => .ok (.lst xs) s
  | .cel i => .ok (.cel i) s
  | _ => .bad
@[simp] theorem seqI_tup (xs : List D) : seqI (.tup xs) s = .ok (.lst xs) s := rfl
@[simp] theorem seqI_lst (xs : List D) : seqI (.lst xs) s = .ok (.lst xs) s := rfl
@[simp] theorem seqI_rl (xs : List D) : seqI (.rl xs) s = .ok (.lst xs) s := rfl
@[simp] theorem seqI_cel (i : Nat) : seqI (.cel i) s = .ok (.cel i) s := rfl
@[simp] theorem den_seq (a : RE) : den (.seq a) P ρ s = (den a P ρ s).bind fun x s => seqI x s := rfl
@[simp] theorem den_rng (l : RE) : den (.rng l) P ρ s = (den l P ρ s).bind fun ys s => onL ys fun xs => rngD xs s := rfl
@[simp] theorem den_zip (a b : RE) : den (.zip a b) P ρ s = (den a P ρ s).bind fun x s => (den b P ρ s).bind fun y s => zipD x y s := rfl
@[simp] theorem den_enum (a : RE) : den (.enum a) P ρ s = (den a P ρ s).bind fun x s => enumD x s := rfl
@[simp] theorem den_call0 (n : Nat) : den (.call0 n) P ρ s = P.call n [] s := rfl
@[simp] theorem den_lset (a : RE) : den (.lset a) P ρ s = (den a P ρ s).bind fun x s => lsetD x s := rfl
/-- a turn of a comprehension -/
def envR {α : Type} (o : Option Env) (f : Env → R α) : R α := match o with
  | some ρ => f ρ
  | none => .bad
@[simp] theorem envR_some {α : Type} (ρ : Env) (f : Env → R α) : envR (some ρ) f = f ρ := rfl
theorem itemZ_eq (c e : Env → Sto → R D) (own : List Nat) (tg : Tg) (y : D) : itemZ c e own tg ρ y s = envR (setT s tg y (wipe ρ own)) fun ρ' => (c ρ' s).bind fun t s => onB t ((e ρ' s).bind fun z s => .ok (some z) s) (.ok none s) .bad := rfl
@[simp] theorem compZ_lst (f : D → Sto → R (Option D)) (mu : Bool) (xs : List D) : compZ f mu (.lst xs) s = if fit xs.length = true then (compL f xs [] s).bind fun ys s => allocL mu ys s else .bad := rfl
@[simp] theorem setT_nameD (i : Nat) (d : D) : setT s (.name i) d ρ = some (ρ.set i (some d)) := rfl
def envO (o : Option (List D)) (f : List D → Option Env) : Option Env := match o with
  | some xs => f xs
  | none => none
@[simp] theorem envO_some (xs : List D) (f : List D → Option Env) : envO (some xs) f = f xs := rfl
@[simp] theorem setT_tup (l : Tg) (d : D) : setT s (.tup l) d ρ = envO (seqOf s d) fun xs => setT.setTs s l xs ρ := rfl
@[simp] theorem setTs_nil : setT.setTs s .nil [] ρ = some ρ := rfl
def envE (o : Option Env) (f : Env → Option Env) : Option Env := match o with
  | some ρ => f ρ
  | none => none
@[simp] theorem envE_some (f : Env → Option Env) : envE (some ρ) f = f ρ := rfl
@[simp] theorem setTs_cons (a r : Tg) (x : D) (xs : List D) : setT.setTs s (.cons a r) (x :: xs) ρ = envE (setT s a x ρ) fun ρ' => setT.setTs s r xs ρ' := rfl
@[simp] theorem allocL_no (xs : List D) : allocL false xs s = .ok (.lst xs) s := rfl
@[simp] theorem allocL_yes (xs : List D) : allocL true xs s = .ok (.cel s.length) (s ++ [xs]) := rfl
@[simp] theorem ob_some (b : Bool) : ob (some b) s = .ok (.bl b) s := rfl
/-! statements -/
@[simp] theorem ex_pass : ex .pass P ρ s = .nx ρ s := rfl
@[simp] theorem ex_seq (a b : RS) : ex (.seq a b) P ρ s = (ex a P ρ s).seq (ex b P) := rfl
def envF (o : Option Env) (f : Env → F) : F := match o with
  | some ρ => f ρ
  | none => .bad
@[simp] theorem envF_some (f : Env → F) : envF (some ρ) f = f ρ := rfl
@[simp] theorem ex_set (tg : Tg) (e : RE) : ex (.set tg e) P ρ s = (den e P ρ s).fl ρ fun d s => envF (setT s tg d ρ) fun ρ' => .nx ρ' s := rfl
@[simp] theorem ex_ret (e : RE) : ex (.ret e) P ρ s = (den e P ρ s).fl ρ fun d s => .rt d s := rfl
@[simp] theorem ex_ifs (c : RE) (a b : RS) : ex (.ifs c a b) P ρ s = (den c P ρ s).fl ρ fun x s => onB x (ex a P ρ s) (ex b P ρ s) .bad := rfl
@[simp] theorem ex_drop (e : RE) : ex (.drop e) P ρ s = (den e P ρ s).fl ρ fun _ s => .nx ρ s := rfl
@[simp] theorem ex_raise (n : Nat) : ex (.raise n) P ρ s = .ex n ρ s := rfl
/-- a loop's turn -/
def turnF (f : Env → Sto → F) (tg : Tg) : D → Env → Sto → F := fun y ρ s => envF (setT s tg y ρ) fun ρ' => f ρ' s
def walkF (f : D → Env → Sto → F) (x : D) (ρ : Env) (s : Sto) : F := match x with
  | .lst xs => forL f xs ρ s
  | x => match gOf x with
    | some g => match g s with
      | some xs => forM f g xs.length 0 ρ s
      | none => .bad
    | none => .bad
@[simp] theorem walkF_lst (f : D → Env → Sto → F) (xs : List D) : walkF f (.lst xs) ρ s = forL f xs ρ s := rfl
@[simp] theorem ex_for (tg : Tg) (it : RE) (body : RS) : ex (.for tg it body) P ρ s = (den it P ρ s).fl ρ fun x s => walkF (turnF (ex body P) tg) x ρ s := rfl
@[simp] theorem ex_wh (n : Nat) (c : RE) (body : RS) : ex (.wh n c body) P ρ s = whL (den c P) (ex body P) n ρ s := rfl
theorem whL_succ (c : Env → Sto → R D) (b : Env → Sto → F) (n : Nat) : whL c b (n + 1) ρ s = (c ρ s).fl ρ fun x s => onB x ((b ρ s).turn (whL c b n)) (.nx ρ s) .bad := rfl
def stoF (o : Option Sto) (f : Sto → F) : F := match o with
  | some s => f s
  | none => .bad
@[simp] theorem stoF_some (f : Sto → F) : stoF (some s) f = f s := rfl
@[simp] theorem ex_put (a i e : RE) : ex (.put a i e) P ρ s = (den e P ρ s).fl ρ fun d s => (den a P ρ s).fl ρ fun x s => (den i P ρ s).fl ρ fun k s => stoF (setL s x k d) fun s' => .nx ρ s' := rfl
@[simp] theorem bind_ite {α β : Type} (c : Prop) [Decidable c] (a b : R α) (f : α → Sto → R β) : (if c then a else b).bind f = if c then a.bind f else b.bind f := by split <;> rfl
@[simp] theorem fl_ite (c : Prop) [Decidable c] (a b : R D) (f : D → Sto → F) : (if c then a else b).fl ρ f = if c then a.fl ρ f else b.fl ρ f := by split <;> rfl
end
@[simp] theorem binD_add (mu : Bool) (i j : Int) (s : Sto) : binD .add mu (.int i) (.int j) s = .ok (.int (i + j)) s := rfl
@[simp] theorem binD_sub (mu : Bool) (i j : Int) (s : Sto) : binD .sub mu (.int i) (.int j) s = .ok (.int (i - j)) s := rfl
@[simp] theorem binD_mul (mu : Bool) (i j : Int) (s : Sto) : binD .mul mu (.int i) (.int j) s = if mulOk i j = true then .ok (.int (i * j)) s else .bad := rfl
@[simp] theorem binD_fdiv (mu : Bool) (i j : Int) (s : Sto) : binD .fdiv mu (.int i) (.int j) s = if 0 < j then (if divOk j = true then .ok (.int (i / j)) s else .bad) else if j < 0 then (if divOk j = true then .ok (.int (i.fdiv j)) s else .bad) else .bad := rfl
@[simp] theorem binD_mod (mu : Bool) (i j : Int) (s : Sto) : binD .mod mu (.int i) (.int j) s = if 0 < j then .ok (.int (i % j)) s else if j < 0 then .ok (.int (i.fmod j)) s else .bad := rfl
@[simp] theorem binD_pow (mu : Bool) (i j : Int) (s : Sto) : binD .pow mu (.int i) (.int j) s = if powOk i j = true then .ok (.int (i ^ j.toNat)) s else .bad := rfl
@[simp] theorem cmpD_eq_int (i j : Int) (s : Sto) : cmpD .eq (.int i) (.int j) s = .ok (.bl (decide (i = j))) s := rfl
@[simp] theorem cmpD_ne_int (i j : Int) (s : Sto) : cmpD .ne (.int i) (.int j) s = .ok (.bl (!decide (i = j))) s := rfl
@[simp] theorem cmpD_lt_int (i j : Int) (s : Sto) : cmpD .lt (.int i) (.int j) s = .ok (.bl (decide (i < j))) s := rfl
@[simp] theorem cmpD_le_int (i j : Int) (s : Sto) : cmpD .le (.int i) (.int j) s = .ok (.bl (decide (i ≤ j))) s := rfl
@[simp] theorem cmpD_gt_int (i j : Int) (s : Sto) : cmpD .gt (.int i) (.int j) s = .ok (.bl (decide (j < i))) s := rfl
@[simp] theorem cmpD_ge_int (i j : Int) (s : Sto) : cmpD .ge (.int i) (.int j) s = .ok (.bl (decide (j ≤ i))) s := rfl
@[simp] theorem cmpD_isN (x : D) (s : Sto) : cmpD .isN x .non s = .ok (.bl (isNon x)) s := rfl
@[simp] theorem cmpD_isNot (x : D) (s : Sto) : cmpD .isNot x .non s = .ok (.bl (!isNon x)) s := rfl
@[simp] theorem cmpD_isB (a b : Bool) (s : Sto) : cmpD .isN (.bl a) (.bl b) s = .ok (.bl (decide (a = b))) s := rfl
@[simp] theorem cmpD_isNotB (a b : Bool) (s : Sto) : cmpD .isNot (.bl a) (.bl b) s = .ok (.bl (!decide (a = b))) s := rfl
@[simp] theorem cmpD_in (x y : D) (s : Sto) : cmpD .isin x y s = ob (inD s x y) s := rfl
@[simp] theorem cmpD_notin (x y : D) (s : Sto) : cmpD .notin x y s = ob ((inD s x y).map (!·)) s := rfl
@[simp] theorem cmpD_eq_tup (x y : List D) (s : Sto) : cmpD .eq (.tup x) (.tup y) s = ob (eqD s (.tup x) (.tup y)) s := rfl
@[simp] theorem cmpD_ne_tup (x y : List D) (s : Sto) : cmpD .ne (.tup x) (.tup y) s = ob ((eqD s (.tup x) (.tup y)).map (!·)) s := rfl
@[simp] theorem cmpD_eq_lst (x y : List D) (s : Sto) : cmpD .eq (.lst x) (.lst y) s = ob (eqD s (.lst x) (.lst y)) s := rfl
@[simp] theorem cmpD_ne_lst (x y : List D) (s : Sto) : cmpD .ne (.lst x) (.lst y) s = ob ((eqD s (.lst x) (.lst y)).map (!·)) s := rfl

/-! ### bounds -/
class Bd (n : outParam Nat) (x : Int) : Prop where
  lt : x.natAbs < 2 ^ n
theorem Bd.up {m n : Nat} {x : Int} (h : Bd m x) (k : m ≤ n) : Bd n x := ⟨Nat.lt_of_lt_of_le h.lt (Nat.pow_le_pow_right (by decide) k)⟩
instance {m n : Nat} {a b : Int} [ha : Bd m a] [hb : Bd n b] : Bd (m + n) (a * b) := ⟨by
  rw [Int.natAbs_mul, Nat.pow_add]
  exact Nat.mul_lt_mul'' ha.lt hb.lt⟩
theorem pow_two_le (m n : Nat) : 2 ^ m + 2 ^ n ≤ 2 ^ (m + n + 1) := by
  have h1 : 2 ^ m ≤ 2 ^ (m + n) := Nat.pow_le_pow_right (by decide) (by omega)
  have h2 : 2 ^ n ≤ 2 ^ (m + n) := Nat.pow_le_pow_right (by decide) (by omega)
  rw [Nat.pow_succ]
  omega
instance {m n : Nat} {a b : Int} [ha : Bd m a] [hb : Bd n b] : Bd (m + n + 1) (a + b) := ⟨by
  have h := pow_two_le m n
  have := ha.lt
  have := hb.lt
  omega⟩
instance {m n : Nat} {a b : Int} [ha : Bd m a] [hb : Bd n b] : Bd (m + n + 1) (a - b) := ⟨by
  have h := pow_two_le m n
  have := ha.lt
  have := hb.lt
  omega⟩
instance {n : Nat} {a : Int} [ha : Bd n a] : Bd n (-a) := ⟨by rw [Int.natAbs_neg]; exact ha.lt⟩
theorem log_lt {n : Nat} {x : Int} (h : Bd n x) : x.natAbs.log2 ≤ n := by
  by_cases z : x.natAbs = 0
  · rw [z]; simp
  · have := (Nat.log2_lt z).mpr h.lt
    omega
theorem mul_ok {m n : Nat} {a b : Int} [ha : Bd m a] [hb : Bd n b] (h : m + n < 134217000) : mulOk a b = true := by
  have := log_lt ha
  have := log_lt hb
  exact decide_eq_true (by omega)
theorem div_ok {n : Nat} {b : Int} [hb : Bd n b] (h : n < 9000) : divOk b = true := by
  have := log_lt hb
  exact decide_eq_true (by omega)
end Px
end

section
set_option Elab.async false
set_option linter.all false
set_option maxRecDepth 100000
set_option maxHeartbeats 1000000
/-! Px: the laws' own helpers: the cup of draws, a draw, one of many, the sort of a value, likeness. -/
namespace Px
open PySem (Str PyData)
def b_cup : RS := (.seq (.set (.name 1) (.bi .abs false (.cons (.sub (.bin .add false (.bi .list false (.cons (.var 0) .nil)) (.lst false (.cons (.c (.int 0)) .nil))) (.c (.int 0))) .nil))) (.seq (.ret (.lst true (.cons (.ite (.cmp .ge (.var 1) (.bin .pow false (.c (.int 10)) (.c (.int 18)))) (.bin .fdiv false (.var 1) (.c (.int 181))) (.c (.int 0))) (.cons (.bin .add false (.bin .mod false (.bi .int false (.cons (.bin .add false (.bin .mul false (.var 1) (.c (.int 439))) (.c (.int 6529))) .nil)) (.c (.int 99991))) (.c (.int 283))) .nil)))) .pass))
def g_cup : FD := ⟨1, 2, b_cup⟩
def b_roll : RS := (.seq (.ifs (.cmp .gt (.sub (.var 0) (.c (.int 0))) (.c (.int 0))) (.seq (.set (.name 2) (.bin .mod false (.bi .int false (.cons (.sub (.var 0) (.c (.int 0))) .nil)) (.var 1))) (.seq (.put (.var 0) (.c (.int 0)) (.bin .fdiv false (.sub (.var 0) (.c (.int 0))) (.var 1))) (.seq (.ret (.var 2)) .pass))) .pass) (.seq (.put (.var 0) (.c (.int 1)) (.bin .mod false (.bi .int false (.cons (.bin .add false (.bin .mul false (.sub (.var 0) (.c (.int 1))) (.c (.int 73))) (.c (.int 1237))) .nil)) (.c (.int 99991)))) (.seq (.ret (.bin .mod false (.bi .int false (.cons (.bin .fdiv false (.sub (.var 0) (.c (.int 1))) (.c (.int 11))) .nil)) (.var 1))) .pass)))
def g_roll : FD := ⟨2, 3, b_roll⟩
def g_some (roll : Nat) : FD := ⟨2, 2, (.seq (.ret (.sub (.var 1) (.call roll (.cons (.var 0) (.cons (.bi .len false (.cons (.var 1) .nil)) .nil))))) .pass)⟩
def b_sort : RS := (.seq (.ifs (.or (.cmp .isN (.var 0) (.c .non)) (.isi (.var 0) .bool)) (.seq (.ret (.ite (.cmp .isN (.var 0) (.c .non)) (.c (.int 0)) (.c (.int 1)))) .pass) .pass) (.seq (.ifs (.or (.isi (.var 0) .int) (.isi (.var 0) .str)) (.seq (.ret (.ite (.isi (.var 0) .int) (.c (.int 2)) (.c (.int 3)))) .pass) .pass) (.seq (.ret (.ite (.isi (.var 0) .tuple) (.c (.int 4)) (.ite (.isi (.var 0) .list) (.c (.int 5)) (.c (.int 6))))) .pass)))
def g_sort : FD := ⟨1, 1, b_sort⟩
def g_like (sort like : Nat) : FD := ⟨2, 5, (.seq (.set (.name 2) (.call sort (.cons (.var 1) .nil))) (.seq (.ifs (.or (.cmp .ne (.call sort (.cons (.var 0) .nil)) (.var 2)) (.cmp .eq (.var 2) (.c (.int 6)))) (.seq (.ret (.c (.bl false))) .pass) .pass) (.seq (.ifs (.cmp .isin (.var 2) (.tup (.cons (.c (.int 4)) (.cons (.c (.int 5)) .nil)))) (.seq (.ret (.and (.cmp .eq (.bi .len false (.cons (.var 0) .nil)) (.bi .len false (.cons (.var 1) .nil))) (.cmp .eq (.comp false (.c (.int 1)) [3, 4] (.tup (.cons (.name 3) (.cons (.name 4) .nil))) (.zip (.var 0) (.var 1)) (.not (.call like (.cons (.var 3) (.cons (.var 4) .nil))))) (.lst false .nil)))) .pass) .pass) (.seq (.ret (.cmp .eq (.var 0) (.var 1))) .pass))))⟩
def b_gcd : RS := (.seq (.set (.tup (.cons (.name 0) (.cons (.name 1) .nil))) (.tup (.cons (.bi .abs false (.cons (.var 0) .nil)) (.cons (.bi .abs false (.cons (.var 1) .nil)) .nil)))) (.seq (.wh whN (.cmp .ne (.var 1) (.c (.int 0))) (.seq (.set (.tup (.cons (.name 0) (.cons (.name 1) .nil))) (.tup (.cons (.var 1) (.cons (.bin .mod false (.bi .int false (.cons (.var 0) .nil)) (.var 1)) .nil)))) .pass)) (.seq (.ret (.var 0)) .pass)))
def g_gcd : FD := ⟨2, 2, b_gcd⟩
/-- the cup: what is drawn from -/
structure CupOk (b c : Int) : Prop where
  b0 : 0 ≤ b
  c0 : 0 ≤ c
  c1 : c < 1000000
def Cup (s rest : Sto) : Prop := ∃ b c, s = [.int b, .int c] :: rest ∧ CupOk b c
theorem bd_of {n : Nat} {x : Int} (h : x.natAbs < 2 ^ n) : Bd n x := ⟨h⟩
theorem small_lt {x : Int} (h0 : 0 ≤ x) (h : x < 1152921504606846976) : Bd 60 x := ⟨by
  show x.natAbs < 1152921504606846976
  omega⟩
def RollAt (G : Tab) (r : Nat) : Prop := ∀ (k : Nat) (m : Int) (s rest : Sto), Cup s rest → 0 < m → m < 1152921504606846976 → Wp (call G (k + 1) r [.cel 0, .int m] s) fun d s' => ∃ v, d = .int v ∧ 0 ≤ v ∧ v < m ∧ Cup s' rest
theorem roll_at {G : Tab} {r : Nat} (h : G r = some g_roll) : RollAt G r := by
  rintro k m s rest ⟨b, c, rfl, hb, hc, hc1⟩ h0 h1
  have hm : divOk m = true := div_ok (hb := small_lt (by omega) h1) (by decide)
  have h73 : mulOk c 73 = true := mul_ok (ha := small_lt hc (by omega)) (hb := small_lt (x := 73) (by decide) (by decide)) (by decide)
  have h11 : divOk 11 = true := by decide
  rw [call_eq h]
  by_cases hp : 0 < b
  · have e1 : b / m ≥ 0 := Int.ediv_nonneg hb (by omega)
    simp [g_roll, b_roll, subD, seqOf, atI, ixN, biD, setL, hp, h0, hm]
    exact ⟨Int.emod_nonneg _ (by omega), Int.emod_lt_of_pos _ h0, b / m, c, rfl, e1, hc, hc1⟩
  · simp [g_roll, b_roll, subD, seqOf, atI, ixN, biD, setL, hp, h0, hm, h73, h11]
    have c2 := Int.emod_nonneg (c * 73 + 1237) (b := 99991) (by decide)
    have c3 := Int.emod_lt_of_pos (c * 73 + 1237) (b := 99991) (by decide)
    exact ⟨Int.emod_nonneg _ (by omega), Int.emod_lt_of_pos _ h0, b, _, rfl, hb, c2, by omega⟩
theorem fit_of {n : Nat} (h : n ≤ 16777216) : fit n = true := Nat.ble_eq_true_of_le h
@[simp] theorem binD_add_lst (mu : Bool) (xs ys : List D) (s : Sto) : binD .add mu (.lst xs) (.lst ys) s = if fit (xs.length + ys.length) = true then allocL mu (xs ++ ys) s else .bad := rfl
@[simp] theorem binD_add_tup (mu : Bool) (xs ys : List D) (s : Sto) : binD .add mu (.tup xs) (.tup ys) s = if fit (xs.length + ys.length) = true then .ok (.tup (xs ++ ys)) s else .bad := rfl
theorem bits_log {z : Int} (h : PySem.Builtin.Int.intBits z ≤ 1048576) : z.natAbs.log2 ≤ 1048576 := by
  unfold PySem.Builtin.Int.intBits at h
  split at h
  · rename_i e
    have : z = 0 := by simpa using e
    subst this
    simp
  · omega
def CupAt (G : Tab) (c : Nat) : Prop := ∀ (k : Nat) (ns : List Int), ns.length ≤ 63 → (∀ z ∈ ns, PySem.Builtin.Int.intBits z ≤ 1048576) → Wp (call G (k + 1) c [.rl (ns.map .int)] []) fun d s => d = .cel 0 ∧ Cup s []
theorem cup_at {G : Tab} {c : Nat} (h : G c = some g_cup) : CupAt G c := by
  intro k ns hl hb
  obtain ⟨z, zs, e, hz⟩ : ∃ z zs, ns.map D.int ++ [.int 0] = .int z :: zs ∧ z.natAbs.log2 ≤ 1048576 := by
    cases ns with
    | nil => exact ⟨0, [], rfl, by decide⟩
    | cons z zs => exact ⟨z, zs.map .int ++ [.int 0], rfl, bits_log (hb z List.mem_cons_self)⟩
  have hlen : fit (ns.length + 1) = true := fit_of (by omega)
  have e2 : atI (D.int z :: zs) 0 = some (.int z) := by
    unfold atI ixN
    rw [if_pos (by decide), if_pos (by simp [List.length_cons])]
    rfl
  have m1 : ∀ x : Int, x.natAbs = z.natAbs → mulOk x 439 = true := fun x hx => decide_eq_true (by
    rw [hx]
    have : (439 : Int).natAbs.log2 = 8 := by decide
    omega)
  have h181 : divOk 181 = true := by decide
  have hpow : powOk 10 18 = true := by decide
  have hpv : (10 : Int) ^ (18 : Int).toNat = 1000000000000000000 := by decide
  rw [call_eq h]
  have c2 := fun x : Int => Int.emod_nonneg (x * 439 + 6529) (b := 99991) (by decide)
  have c3 := fun x : Int => Int.emod_lt_of_pos (x * 439 + 6529) (b := 99991) (by decide)
  by_cases hn : z < 0
  · by_cases hg : (1000000000000000000 : Int) ≤ -z
    · simp [g_cup, b_cup, subD, seqOf, biD, hlen, e, e2, hn, hg, h181, hpow, hpv, m1]
      exact ⟨_, _, rfl, Int.ediv_nonneg (by omega) (by decide), by have := c2 (-z); omega, by have := c3 (-z); omega⟩
    · simp [g_cup, b_cup, subD, seqOf, biD, hlen, e, e2, hn, hg, h181, hpow, hpv, m1]
      exact ⟨_, _, rfl, Int.le_refl 0, by have := c2 (-z); omega, by have := c3 (-z); omega⟩
  · by_cases hg : (1000000000000000000 : Int) ≤ z
    · simp [g_cup, b_cup, subD, seqOf, biD, hlen, e, e2, hn, hg, h181, hpow, hpv, m1]
      exact ⟨_, _, rfl, Int.ediv_nonneg (by omega) (by decide), by have := c2 z; omega, by have := c3 z; omega⟩
    · simp [g_cup, b_cup, subD, seqOf, biD, hlen, e, e2, hn, hg, h181, hpow, hpv, m1]
      exact ⟨_, _, rfl, Int.le_refl 0, by have := c2 z; omega, by have := c3 z; omega⟩
/-- one of a list -/
def SomeAt (G : Tab) (n : Nat) : Prop := ∀ (k : Nat) (xs : List D) (s rest : Sto), Cup s rest → xs ≠ [] → xs.length ≤ 16777216 → Wp (call G (k + 2) n [.cel 0, .lst xs] s) fun d s' => d ∈ xs ∧ Cup s' rest
theorem atI_mem {α : Type} {xs : List α} {i : Int} (h0 : 0 ≤ i) (h1 : i < xs.length) : ∃ x, atI xs i = some x ∧ x ∈ xs := by
  unfold atI ixN
  rw [if_pos h0, if_pos h1]
  have hl : i.toNat < xs.length := by omega
  exact ⟨xs[i.toNat], List.getElem?_eq_getElem hl, List.getElem_mem hl⟩
theorem some_at {G : Tab} {n roll : Nat} (h : G n = some (g_some roll)) (hr : RollAt G roll) : SomeAt G n := by
  intro k xs s rest hc hne hl
  have hpos : 0 < xs.length := List.length_pos_iff.mpr hne
  rw [call_eq h]
  simp [g_some, biD, seqOf]
  refine (hr k xs.length s rest hc (by omega) (by omega)).mono ?_
  rintro d s' ⟨v, rfl, h0, h1, hc'⟩
  obtain ⟨x, e, hx⟩ := atI_mem h0 h1
  simp [subD, seqOf, e]
  exact ⟨hx, hc'⟩
/-- the sort of a value -/
def sortV : D → Int
  | .non => 0 | .bl _ => 1 | .int _ => 2 | .str _ => 3 | .tup _ => 4 | .lst _ => 5 | .cel _ => 5
  | _ => 6
def plainD : D → Bool
  | .rl _ => false
  | .fn _ => false
  | .zc _ _ => false
  | _ => true
def SortAt (G : Tab) (n : Nat) : Prop := ∀ (k : Nat) (d : D) (s : Sto), plainD d = true → call G (k + 1) n [d] s = .ok (.int (sortV d)) s
theorem sort_at {G : Tab} {n : Nat} (h : G n = some g_sort) : SortAt G n := by
  intro k d s hd
  rw [call_eq h]
  cases d <;> first
    | (cases hd; done)
    | simp [g_sort, b_sort, isNon, isiD, sortV, endF]
/-- data whose parts are data, n levels deep -/
def pureD : Nat → D → Bool
  | 0, _ => false
  | n + 1, d => match d with
    | .non => true | .bl _ => true | .int _ => true | .str x => PyData.strOk x
    | .tup xs => fit xs.length && xs.all (pureD n)
    | .lst xs => fit xs.length && xs.all (pureD n)
    | _ => false
theorem pureD_plain {n : Nat} {d : D} (h : pureD n d = true) : plainD d = true := by
  cases n with
  | zero => cases h
  | succ n => cases d <;> first | rfl | cases h
theorem eq_self {d : D} {s : Sto} (h : pureD 1 d = true) (hs : sortV d < 4) : cmpD .eq d d s = .ok (.bl true) s := by
  cases d with
  | non => simp [cmpD, eqD, toPy, deep, PySem.SeqAt.shaped, PyData.canLay0, PyData.depth, PyData.eqv]
  | bl b => simp [cmpD, eqD, toPy, deep, PySem.SeqAt.shaped, PyData.canLay0, PyData.depth, PyData.eqv]
  | int i => simp
  | str x =>
    have h : PyData.strOk x = true := h
    simp [cmpD, eqD, toPy, deep, PySem.SeqAt.shaped, PyData.canLay0, PyData.depth, PyData.eqv, h]
  | _ => simp [sortV] at hs
theorem zip_self : ∀ xs : List D, zipL xs xs = xs.map fun x => .tup [x, x]
  | [] => rfl
  | x :: xs => by rw [zipL, zip_self xs]; rfl
theorem in45 (i : Int) (s : Sto) : inD s (.int i) (.tup [.int 4, .int 5]) = some (decide (i = 4) || decide (i = 5)) := by
  simp [inD, toPy, deep, mapO, itemsP, PySem.SeqAt.shaped, PyData.canLay0, PyData.canLayAll0, PyData.depth, PyData.depthAll, PyData.eqv]
  have e : ∀ a : Int, (a == i) = decide (i = a) := fun a => by
    by_cases z : i = a
    · simp [z]
    · have : ¬ a = i := fun q => z q.symm
      simp [z, this]
  rw [e, e]
def LikeAt (G : Tab) (n : Nat) : Prop := ∀ (m k : Nat) (d : D) (s : Sto), pureD m d = true → m + 1 ≤ k → call G k n [d, d] s = .ok (.bl true) s
theorem like_at {G : Tab} {n so : Nat} (h : G n = some (g_like so n)) (hs : SortAt G so) : LikeAt G n := by
  intro m
  induction m with
  | zero => intro k d s hd; cases hd
  | succ m ih =>
    intro k d s hd hk
    obtain ⟨k, rfl⟩ : ∃ j, k = j + 2 := ⟨k - 2, by omega⟩
    have hp := pureD_plain hd
    rw [call_eq h]
    have nil_eq : ∀ s : Sto, eqD s (.lst []) (.lst []) = some true := fun s => by
      simp [eqD, toPy, deep, mapO, PySem.SeqAt.shaped, PyData.canLay0, PyData.canLayAll0, PyData.depth, PyData.depthAll, PyData.eqv, PyData.eqvAll]
    have each : ∀ xs : List D, xs.all (pureD m) = true → compL (itemZ (den (.not (.call n (.cons (.var 3) (.cons (.var 4) .nil)))) ⟨call G (k + 1), low G (k + 1)⟩) (den (.c (.int 1)) ⟨call G (k + 1), low G (k + 1)⟩) [3, 4] (.tup (.cons (.name 3) (.cons (.name 4) .nil))) [some d, some d, some (.int (sortV d)), none, none]) (zipL xs xs) [] s = .ok [] s := by
      intro xs hx
      rw [zip_self, wp_compL (g := fun _ => none)]
      · simp
      · intro y hy
        obtain ⟨x, hx2, rfl⟩ := List.mem_map.mp hy
        have := ih (k + 1) x s (List.all_eq_true.mp hx x hx2) (by omega)
        simp [itemZ_eq, wipe, seqOf, this]
    cases d with
    | tup xs =>
      obtain ⟨h1, h2⟩ := Bool.and_eq_true_iff.mp (show (fit xs.length && xs.all (pureD m)) = true from hd)
      have hz : fit (zipL xs xs).length = true := by rw [zip_self, List.length_map]; exact h1
      have := each xs h2
      simp only [sortV] at this
      simp [g_like, hs k _ _ hp, sortV, in45, biD, seqOf, zipD, hz, this, nil_eq, endF]
    | lst xs =>
      obtain ⟨h1, h2⟩ := Bool.and_eq_true_iff.mp (show (fit xs.length && xs.all (pureD m)) = true from hd)
      have hz : fit (zipL xs xs).length = true := by rw [zip_self, List.length_map]; exact h1
      have := each xs h2
      simp only [sortV] at this
      simp [g_like, hs k _ _ hp, sortV, in45, biD, seqOf, zipD, lsF, hz, this, nil_eq, endF]
    | non =>
      have e := eq_self (d := .non) (s := s) rfl (by decide)
      simp [g_like, hs k _ _ hp, sortV, in45, e, endF]
    | bl b =>
      have e := eq_self (d := .bl b) (s := s) rfl (by simp [sortV])
      simp [g_like, hs k _ _ hp, sortV, in45, e, endF]
    | int i => simp [g_like, hs k _ _ hp, sortV, in45, endF]
    | str x =>
      have e := eq_self (d := .str x) (s := s) (show PyData.strOk x = true from hd) (by simp [sortV])
      simp [g_like, hs k _ _ hp, sortV, in45, e, endF]
    | _ => cases hd
/-- nothing is kept -/
theorem compM_none {f : D → Sto → R (Option D)} {g : Sto → Option (List D)} {xs : List D} {s : Sto} (hg : g s = some xs) (hf : ∀ x ∈ xs, f x s = .ok none s) : ∀ (m i : Nat) (acc : List D), i + m = xs.length → compM f g m i acc s = .ok acc s
  | 0, i, acc, h => by
    show (match g s with
      | some xs => if xs.length ≤ i then R.ok acc s else .bad
      | none => .bad) = _
    rw [hg]
    exact if_pos (by omega)
  | m + 1, i, acc, h => by
    have hi : i < xs.length := by omega
    have e : compM f g (m + 1) i acc s = (f xs[i] s).calm fun o s' => match o with
      | some y => compM f g m (i + 1) (acc ++ [y]) s'
      | none => compM f g m (i + 1) acc s' := by
      show (match g s with
        | some xs => match xs[i]? with
          | some x => (f x s).calm fun o s' => match o with
            | some y => compM f g m (i + 1) (acc ++ [y]) s'
            | none => compM f g m (i + 1) acc s'
          | none => .bad
        | none => .bad) = _
      rw [hg]
      show (match xs[i]? with
        | some x => (f x s).calm fun o s' => match o with
          | some y => compM f g m (i + 1) (acc ++ [y]) s'
          | none => compM f g m (i + 1) acc s'
        | none => .bad) = _
      rw [List.getElem?_eq_getElem hi]
    rw [e, hf _ (List.getElem_mem hi)]
    exact compM_none hg hf m (i + 1) acc (by omega)
/-- a changed list beside the same items -/
theorem like_cel {G : Tab} {n so : Nat} (h : G n = some (g_like so n)) (hs : SortAt G so) {m k i : Nat} {xs : List D} {s : Sto} (hi : s[i]? = some xs) (hx : xs.all (pureD m) = true) (hf : fit xs.length = true) (hk : m + 2 ≤ k) : call G k n [.cel i, .lst xs] s = .ok (.bl true) s := by
  have hL := like_at h hs
  obtain ⟨k, rfl⟩ : ∃ j, k = j + 2 := ⟨k - 2, by omega⟩
  have nil_eq : ∀ s : Sto, eqD s (.lst []) (.lst []) = some true := fun s => by
    simp [eqD, toPy, deep, mapO, PySem.SeqAt.shaped, PyData.canLay0, PyData.canLayAll0, PyData.depth, PyData.depthAll, PyData.eqv, PyData.eqvAll]
  have hz : (zipL xs xs).length = xs.length := by rw [zip_self, List.length_map]
  have each := compM_none (f := itemZ (den (.not (.call n (.cons (.var 3) (.cons (.var 4) .nil)))) ⟨call G (k + 1), low G (k + 1)⟩) (den (.c (.int 1)) ⟨call G (k + 1), low G (k + 1)⟩) [3, 4] (.tup (.cons (.name 3) (.cons (.name 4) .nil))) [some (.cel i), some (.lst xs), some (.int 5), none, none])
    (g := fun S : Sto => match S[i]? with
      | some zs => some (zipL zs xs)
      | none => none) (xs := zipL xs xs) (s := s) (by simp [hi]) (by
      intro y hy
      rw [zip_self] at hy
      obtain ⟨x, hx2, rfl⟩ := List.mem_map.mp hy
      have := hL m (k + 1) x s (List.all_eq_true.mp hx x hx2) (by omega)
      simp [itemZ_eq, wipe, seqOf, this]) xs.length 0 [] (by omega)
  have e1 := hs k (.cel i) s rfl
  have e2 := hs k (.lst xs) s rfl
  have cz : compZ (itemZ (den (.not (.call n (.cons (.var 3) (.cons (.var 4) .nil)))) ⟨call G (k + 1), low G (k + 1)⟩) (den (.c (.int 1)) ⟨call G (k + 1), low G (k + 1)⟩) [3, 4] (.tup (.cons (.name 3) (.cons (.name 4) .nil))) [some (.cel i), some (.lst xs), some (.int 5), none, none]) false (.zc i xs) s = .ok (.lst []) s := by
    show (match (match s[i]? with
      | some zs => some (zipL zs xs)
      | none => none) with
      | some zs => if fit zs.length = true then (compM _ _ zs.length 0 [] s).bind fun ys s => allocL false ys s else .bad
      | none => .bad) = _
    rw [hi]
    show (if fit (zipL xs xs).length = true then (compM _ _ (zipL xs xs).length 0 [] s).bind fun ys s => allocL false ys s else .bad) = _
    rw [hz, if_pos hf]
    exact (congrArg (fun r => R.bind r fun ys s => allocL false ys s) each).trans rfl
  rw [call_eq h]
  simp [g_like, e1, e2, sortV, in45, biD, seqOf, hi, zipD, lsF, cz, nil_eq, endF]
end Px
end

section
set_option Elab.async false
set_option linter.all false
set_option maxRecDepth 100000
set_option maxHeartbeats 1000000
/-! Px: greatest shared divisors; parts made short; fractions made low. -/
namespace Px
open PySem (Str PyData)
def b_short : RS := (.seq (.set (.name 1) (.c (.int 0))) (.seq (.for (.name 2) (.seq (.var 0)) (.seq (.set (.name 1) (.bi .gcd false (.cons (.var 1) (.cons (.var 2) .nil)))) .pass)) (.seq (.set (.name 3) (.sub (.comp false (.var 2) [2] (.name 2) (.seq (.var 0)) (.cmp .ne (.var 2) (.c (.int 0)))) (.c (.int 0)))) (.seq (.ret (.bi .tuple false (.cons (.comp false (.ite (.cmp .gt (.var 3) (.c (.int 0))) (.bin .fdiv false (.var 2) (.var 1)) (.bin .fdiv false (.neg (.var 2)) (.var 1))) [2] (.name 2) (.seq (.var 0)) (.c (.bl true))) .nil))) .pass))))
def g_short : FD := ⟨1, 4, b_short⟩
def g_shortC (gcd : Nat) : FD := ⟨1, 4, (.seq (.set (.name 1) (.c (.int 0))) (.seq (.for (.name 2) (.seq (.var 0)) (.seq (.set (.name 1) (.call gcd (.cons (.var 1) (.cons (.var 2) .nil)))) .pass)) (.seq (.set (.name 3) (.sub (.comp false (.var 2) [2] (.name 2) (.seq (.var 0)) (.cmp .ne (.var 2) (.c (.int 0)))) (.c (.int 0)))) (.seq (.ret (.bi .tuple false (.cons (.comp false (.ite (.cmp .gt (.var 3) (.c (.int 0))) (.bin .fdiv false (.var 2) (.var 1)) (.bin .fdiv false (.neg (.var 2)) (.var 1))) [2] (.name 2) (.seq (.var 0)) (.c (.bl true))) .nil))) .pass))))⟩
def g_low (gcd : Nat) : FD := ⟨2, 3, (.seq (.set (.name 2) (.ite (.cmp .gt (.var 1) (.c (.int 0))) (.call gcd (.cons (.var 0) (.cons (.var 1) .nil))) (.neg (.call gcd (.cons (.var 0) (.cons (.var 1) .nil)))))) (.seq (.ret (.tup (.cons (.bin .fdiv false (.var 0) (.var 2)) (.cons (.bin .fdiv false (.var 1) (.var 2)) .nil)))) .pass))⟩

theorem gcd_loop {P : PC} {s : Sto} : ∀ (y x f : Nat), y < f → whL (den (.cmp .ne (.var 1) (.c (.int 0))) P) (ex (.seq (.set (.tup (.cons (.name 0) (.cons (.name 1) .nil))) (.tup (.cons (.var 1) (.cons (.bin .mod false (.bi .int false (.cons (.var 0) .nil)) (.var 1)) .nil)))) .pass) P) f [some (.int x), some (.int y)] s =
    .nx [some (.int (Nat.gcd x y : Nat)), some (.int 0)] s := by
  intro y
  induction y using Nat.strongRecOn with
  | ind y ih =>
    intro x f hf
    obtain ⟨f, rfl⟩ : ∃ g, f = g + 1 := ⟨f - 1, by omega⟩
    rw [whL_succ]
    by_cases hy : y = 0
    · subst hy
      simp
    · have h1 : ¬ ((y : Int) = 0) := by omega
      have h2 : 0 < y := by omega
      have hm : x % y < y := Nat.mod_lt _ (by omega)
      have e := ih (x % y) hm y f (by omega)
      rw [Int.natCast_emod] at e
      have hg : Nat.gcd y (x % y) = Nat.gcd x y := by rw [Nat.gcd_comm x y, Nat.gcd_rec y x, Nat.gcd_comm]
      rw [hg] at e
      simp [h1, h2, hy, biD, seqOf]
      exact e
def GcdAt (G : Tab) (n : Nat) : Prop := ∀ (k : Nat) (a b : Int) (s : Sto), b.natAbs < 2 ^ 8000 → call G (k + 1) n [.int a, .int b] s = .ok (.int (Nat.gcd a.natAbs b.natAbs : Nat)) s
theorem abs_int (a : Int) : (if a < 0 then -a else a) = (a.natAbs : Nat) := by split <;> omega
theorem gcd_at {G : Tab} {n : Nat} (h : G n = some g_gcd) : GcdAt G n := by
  intro k a b s hb
  have hf : b.natAbs < whN := Nat.lt_of_lt_of_le hb (Nat.pow_le_pow_right (by decide) (by decide))
  have e := gcd_loop (P := ⟨call G k, low G k⟩) (s := s) b.natAbs a.natAbs whN hf
  rw [call_eq h]
  simp [g_gcd, b_gcd, biD, seqOf, abs_int]
  rw [e]
  simp [endF]

/-! ### parts made short -/
def iL (xs : List Int) : List D := xs.map .int
def gcdL (g : Nat) : List Int → Nat
  | [] => g
  | x :: xs => gcdL (Nat.gcd g x.natAbs) xs
def firstL (xs : List Int) : Int := (xs.filter (fun x => decide (x ≠ 0))).headD 0
def shortL (xs : List Int) : List Int := if 0 < firstL xs then xs.map (fun x => x / (gcdL 0 xs : Nat)) else xs.map (fun x => -x / (gcdL 0 xs : Nat))
theorem gcdL_lt {n : Nat} : ∀ {xs : List Int} {g : Nat}, g < 2 ^ n → (∀ x ∈ xs, x.natAbs < 2 ^ n) → gcdL g xs < 2 ^ n
  | [], g, hg, _ => hg
  | x :: xs, g, hg, hx => by
    refine gcdL_lt (xs := xs) ?_ fun y hy => hx y (List.mem_cons_of_mem _ hy)
    by_cases z : g = 0
    · rw [z, Nat.gcd_zero_left]
      exact hx x List.mem_cons_self
    · exact Nat.lt_of_le_of_lt (Nat.gcd_le_left _ (by omega)) hg
theorem gcdL_dvd : ∀ {xs : List Int} {g : Nat}, gcdL g xs ∣ g ∧ ∀ x ∈ xs, gcdL g xs ∣ x.natAbs
  | [], g => ⟨Nat.dvd_refl _, fun _ h => by cases h⟩
  | x :: xs, g => by
    obtain ⟨h1, h2⟩ := gcdL_dvd (xs := xs) (g := Nat.gcd g x.natAbs)
    refine ⟨Nat.dvd_trans h1 (Nat.gcd_dvd_left _ _), fun y hy => ?_⟩
    rcases List.mem_cons.mp hy with e | hy
    · rw [e]
      exact Nat.dvd_trans h1 (Nat.gcd_dvd_right _ _)
    · exact h2 y hy
theorem gcdL_pos {xs : List Int} (h : ∃ x ∈ xs, x ≠ 0) (g : Nat) : 0 < gcdL g xs := by
  obtain ⟨x, hx, h0⟩ := h
  have d := (gcdL_dvd (xs := xs) (g := g)).2 x hx
  rcases Nat.eq_zero_or_pos (gcdL g xs) with e | e
  · rw [e] at d
    have := Nat.eq_zero_of_zero_dvd d
    omega
  · exact e
theorem first_cons {xs : List Int} (h : ∃ x ∈ xs, x ≠ 0) : ∃ ys, xs.filter (fun x => decide (x ≠ 0)) = firstL xs :: ys := by
  obtain ⟨x, hx, h0⟩ := h
  have m : x ∈ xs.filter (fun x => decide (x ≠ 0)) := List.mem_filter.mpr ⟨hx, decide_eq_true h0⟩
  unfold firstL
  cases e : xs.filter (fun x => decide (x ≠ 0)) with
  | nil => rw [e] at m; cases m
  | cons y ys => exact ⟨ys, rfl⟩
/-- the loop of the greatest divisor, whatever says it -/
theorem gcd_for {body : RE} {P : PC} {s : Sto} {p q0 : Option D} (hb : ∀ (g : Nat) (x : Int) (q : Option D), g < 2 ^ 8000 → x.natAbs < 2 ^ 8000 → den body P [p, some (.int g), some (.int x), q] s = .ok (.int (Nat.gcd g x.natAbs : Nat)) s) :
    ∀ (xs : List Int) (g : Nat) (v : Option D), g < 2 ^ 8000 → (∀ x ∈ xs, x.natAbs < 2 ^ 8000) → ∃ v', forL (turnF (ex (.seq (.set (.name 1) body) .pass) P) (.name 2)) (iL xs) [p, some (.int g), v, q0] s = .nx [p, some (.int (gcdL g xs : Nat)), v', q0] s
  | [], g, v, _, _ => ⟨v, rfl⟩
  | x :: xs, g, v, hg, hx => by
    have h1 := hx x List.mem_cons_self
    have hg2 : Nat.gcd g x.natAbs < 2 ^ 8000 := by
      by_cases z : g = 0
      · rw [z, Nat.gcd_zero_left]
        exact h1
      · exact Nat.lt_of_le_of_lt (Nat.gcd_le_left _ (by omega)) hg
    obtain ⟨v', e⟩ := gcd_for hb xs (Nat.gcd g x.natAbs) (some (.int x)) hg2 fun y hy => hx y (List.mem_cons_of_mem _ hy)
    refine ⟨v', ?_⟩
    show (turnF _ _ (.int x) _ s).turn _ = _
    have e1 : turnF (ex (.seq (.set (.name 1) body) .pass) P) (.name 2) (.int x) [p, some (.int g), v, q0] s = .nx [p, some (.int (Nat.gcd g x.natAbs : Nat)), some (.int x), q0] s := by
      simp [turnF, hb g x q0 hg h1]
    rw [e1]
    exact e
def ShortAt (G : Tab) (n : Nat) : Prop := ∀ (k : Nat) (xs : List Int) (s : Sto), xs.length ≤ 1000 → (∃ x ∈ xs, x ≠ 0) → (∀ x ∈ xs, x.natAbs < 2 ^ 8000) → call G (k + 2) n [.tup (iL xs)] s = .ok (.tup (iL (shortL xs))) s
/-- the wanted of a filter -/
def nzD : D → Option D
  | .int x => if x ≠ 0 then some (.int x) else none
  | _ => none
theorem nz_filter : ∀ xs : List Int, (iL xs).filterMap nzD = iL (xs.filter fun x => decide (x ≠ 0))
  | [] => rfl
  | x :: xs => by
    have ih := nz_filter xs
    show (D.int x :: iL xs).filterMap nzD = _
    rw [List.filterMap_cons, List.filter_cons]
    by_cases z : x = 0
    · subst z
      exact ih
    · have e : nzD (.int x) = some (.int x) := if_pos z
      rw [e, if_pos (decide_eq_true z)]
      exact congrArg (D.int x :: ·) ih
def divD (f : Int) (g : Nat) : D → Option D
  | .int x => some (.int (if 0 < f then x / g else -x / g))
  | _ => none
theorem div_all (xs : List Int) : (iL xs).filterMap (divD (firstL xs) (gcdL 0 xs)) = iL (shortL xs) := by
  have gen : ∀ (f : Int) (g : Nat) (ys : List Int), (iL ys).filterMap (divD f g) = iL (ys.map fun x => if 0 < f then x / g else -x / g) := by
    intro f g ys
    induction ys with
    | nil => rfl
    | cons y ys ih =>
      show (D.int y :: iL ys).filterMap (divD f g) = _
      rw [List.filterMap_cons]
      exact congrArg (_ :: ·) ih
  rw [gen]
  unfold shortL
  by_cases z : 0 < firstL xs
  · simp [z]
  · simp [z]
theorem short_body {body : RE} {P : PC} {xs : List Int} {s : Sto} (hl : xs.length ≤ 1000) (hn : ∃ x ∈ xs, x ≠ 0) (hx : ∀ x ∈ xs, x.natAbs < 2 ^ 8000)
    (hb : ∀ (g : Nat) (x : Int) (q : Option D), g < 2 ^ 8000 → x.natAbs < 2 ^ 8000 → den body P [some (.tup (iL xs)), some (.int g), some (.int x), q] s = .ok (.int (Nat.gcd g x.natAbs : Nat)) s) :
    endF (ex (.seq (.set (.name 1) (.c (.int 0))) (.seq (.for (.name 2) (.seq (.var 0)) (.seq (.set (.name 1) body) .pass)) (.seq (.set (.name 3) (.sub (.comp false (.var 2) [2] (.name 2) (.seq (.var 0)) (.cmp .ne (.var 2) (.c (.int 0)))) (.c (.int 0)))) (.seq (.ret (.bi .tuple false (.cons (.comp false (.ite (.cmp .gt (.var 3) (.c (.int 0))) (.bin .fdiv false (.var 2) (.var 1)) (.bin .fdiv false (.neg (.var 2)) (.var 1))) [2] (.name 2) (.seq (.var 0)) (.c (.bl true))) .nil))) .pass)))) P
      [some (.tup (iL xs)), none, none, none] s) = .ok (.tup (iL (shortL xs))) s := by
  obtain ⟨v', e⟩ := gcd_for (q0 := none) hb xs 0 none (Nat.pow_pos (by decide)) hx
  have hg : (0 : Nat) < gcdL 0 xs := gcdL_pos hn 0
  have hfit : fit (iL xs).length = true := fit_of (by simp [iL]; omega)
  obtain ⟨ys, hf⟩ := first_cons hn
  have hd : divOk (gcdL 0 xs : Nat) = true := div_ok (hb := ⟨by rw [Int.natAbs_natCast]; exact gcdL_lt (n := 8000) (Nat.pow_pos (by decide)) hx⟩) (by decide)
  have c1 : compL (itemZ (den (.cmp .ne (.var 2) (.c (.int 0))) P) (den (.var 2) P) [2] (.name 2) [some (.tup (iL xs)), some (.int (gcdL 0 xs : Nat)), v', none]) (iL xs) [] s = .ok (iL (xs.filter (fun x => decide (x ≠ 0)))) s := by
    rw [wp_compL (g := nzD)]
    · rw [List.nil_append, nz_filter]
    · intro d hd
      obtain ⟨x, _, rfl⟩ := List.mem_map.mp hd
      by_cases z : x = 0 <;> simp [itemZ_eq, wipe, z, nzD]
  simp [seqOf] at e
  have c2 : compL (itemZ (den (.c (.bl true)) P) (den (.ite (.cmp .gt (.var 3) (.c (.int 0))) (.bin .fdiv false (.var 2) (.var 1)) (.bin .fdiv false (.neg (.var 2)) (.var 1))) P) [2] (.name 2) [some (.tup (iL xs)), some (.int (gcdL 0 xs : Nat)), v', some (.int (firstL xs))]) (iL xs) [] s = .ok (iL (shortL xs)) s := by
    rw [wp_compL (g := divD (firstL xs) (gcdL 0 xs))]
    · rw [List.nil_append, div_all]
    · intro d hdm
      obtain ⟨x, _, rfl⟩ := List.mem_map.mp hdm
      by_cases z : 0 < firstL xs <;> simp [itemZ_eq, wipe, z, divD, hd, hg]
  have a1 : atI (D.int (firstL xs) :: iL ys) 0 = some (.int (firstL xs)) := by
    unfold atI ixN
    rw [if_pos (by decide), if_pos (by simp [List.length_cons])]
    rfl
  have e3 : iL (xs.filter fun x => decide (x ≠ 0)) = D.int (firstL xs) :: iL ys := by rw [hf]; rfl
  rw [e3] at c1
  simp [hfit, e, c1, a1, subD, seqOf, biD, lsR]
  rw [c2]
  rfl
theorem short_at {G : Tab} {n : Nat} (h : G n = some g_short) : ShortAt G n := by
  intro k xs s hl hn hx
  rw [call_eq h]
  exact short_body hl hn hx fun g x q _ _ => by simp [biD]
theorem shortC_at {G : Tab} {n gcd : Nat} (h : G n = some (g_shortC gcd)) (hg : GcdAt G gcd) : ShortAt G n := by
  intro k xs s hl hn hx
  rw [call_eq h]
  exact short_body hl hn hx fun g x q _ h2 => by
    have e := hg k g x s h2
    rw [Int.natAbs_natCast] at e
    simp [e]
/-- a fraction made low: its bottom above 0 -/
def LowAt (G : Tab) (n : Nat) : Prop := ∀ (k : Nat) (a b : Int) (s : Sto), b ≠ 0 → b.natAbs < 2 ^ 8000 → call G (k + 2) n [.int a, .int b] s =
  .ok (.tup [.int (if 0 < b then a / (Nat.gcd a.natAbs b.natAbs : Nat) else -a / (Nat.gcd a.natAbs b.natAbs : Nat)), .int (if 0 < b then b / (Nat.gcd a.natAbs b.natAbs : Nat) else -b / (Nat.gcd a.natAbs b.natAbs : Nat))]) s
theorem low_at {G : Tab} {n gcd : Nat} (h : G n = some (g_low gcd)) (hg : GcdAt G gcd) : LowAt G n := by
  intro k a b s h0 hb
  have e := hg k a b s hb
  have gp : 0 < Nat.gcd a.natAbs b.natAbs := Nat.gcd_pos_of_pos_right _ (by omega)
  have gl : Nat.gcd a.natAbs b.natAbs ≤ b.natAbs := Nat.gcd_le_right _ (by omega)
  have hd : divOk (Nat.gcd a.natAbs b.natAbs : Nat) = true := div_ok (n := 8000) (hb := ⟨by rw [Int.natAbs_natCast]; omega⟩) (by decide)
  have hd2 : divOk (-(Nat.gcd a.natAbs b.natAbs : Nat)) = true := div_ok (n := 8000) (hb := ⟨by rw [Int.natAbs_neg, Int.natAbs_natCast]; omega⟩) (by decide)
  have gi : (0 : Int) < (Nat.gcd a.natAbs b.natAbs : Nat) := by omega
  have f1 : ∀ x : Int, x.fdiv (-(Nat.gcd a.natAbs b.natAbs : Nat)) = -x / (Nat.gcd a.natAbs b.natAbs : Nat) := fun x => by
    rw [← Int.neg_fdiv_neg, Int.neg_neg, Int.fdiv_eq_ediv_of_nonneg _ (by omega)]
  rw [call_eq h]
  by_cases hp : 0 < b
  · simp [g_low, e, hp, gp, hd, endF]
  · have n1 : ¬ (0 : Int) < -(Nat.gcd a.natAbs b.natAbs : Nat) := by omega
    have n2 : -(Nat.gcd a.natAbs b.natAbs : Nat) < (0 : Int) := by omega
    have n3 : ¬ ((Nat.gcd a.natAbs b.natAbs : Nat) : Int) < 0 := by omega
    simp [g_low, e, hp, n1, n2, n3, h0, hd2, f1, endF]
end Px
end

section
set_option Elab.async false
set_option linter.all false
set_option maxRecDepth 100000
set_option maxHeartbeats 1000000
/-! Px: plain facts of short parts and low fractions. -/
namespace Px

theorem gcdL_scale (c : Int) : ∀ (xs : List Int) (g : Nat), gcdL (c.natAbs * g) (xs.map (c * ·)) = c.natAbs * gcdL g xs
  | [], g => rfl
  | x :: xs, g => by
    show gcdL (Nat.gcd (c.natAbs * g) (c * x).natAbs) (xs.map (c * ·)) = _
    rw [Int.natAbs_mul, Nat.gcd_mul_left]
    exact gcdL_scale c xs (Nat.gcd g x.natAbs)
theorem firstL_scale {c : Int} (h : c ≠ 0) : ∀ xs : List Int, firstL (xs.map (c * ·)) = c * firstL xs
  | [] => by simp [firstL]
  | x :: xs => by
    have ih := firstL_scale h xs
    unfold firstL at ih ⊢
    rw [List.map_cons, List.filter_cons, List.filter_cons]
    by_cases z : x = 0
    · subst z
      simpa using ih
    · have z2 : c * x ≠ 0 := Int.mul_ne_zero h z
      rw [if_pos (decide_eq_true z2), if_pos (decide_eq_true z)]
      rfl
theorem firstL_ne {xs : List Int} (h : ∃ x ∈ xs, x ≠ 0) : firstL xs ≠ 0 := by
  obtain ⟨ys, e⟩ := first_cons h
  have m : firstL xs ∈ xs.filter (fun x => decide (x ≠ 0)) := by rw [e]; exact List.mem_cons_self
  exact of_decide_eq_true (List.mem_filter.mp m).2
theorem short_scale {c : Int} (h : c ≠ 0) {xs : List Int} (hx : ∃ x ∈ xs, x ≠ 0) : shortL (xs.map (c * ·)) = shortL xs := by
  have eg := gcdL_scale c xs 0
  rw [Nat.mul_zero] at eg
  have ef := firstL_scale h xs
  have fn := firstL_ne hx
  have gp := gcdL_pos hx 0
  unfold shortL
  rw [eg, ef]
  have cast : ((c.natAbs * gcdL 0 xs : Nat) : Int) = (c.natAbs : Int) * (gcdL 0 xs : Int) := Int.natCast_mul _ _
  rw [cast]
  have cn : (0 : Int) < c.natAbs := by omega
  have div : ∀ y : Int, (c.natAbs : Int) * y / ((c.natAbs : Int) * (gcdL 0 xs : Int)) = y / (gcdL 0 xs : Int) := fun y => Int.mul_ediv_mul_of_pos _ _ cn
  rcases Int.lt_or_gt_of_ne h with hc | hc
  · have ec : c = -(c.natAbs : Int) := by omega
    have e1 : ∀ x : Int, c * x = (c.natAbs : Int) * (-x) := fun x => by
      rw [Int.mul_neg, ← Int.neg_mul, ← ec]
    by_cases hf : 0 < firstL xs
    · have : ¬ 0 < c * firstL xs := by
        have := Int.mul_neg_of_neg_of_pos hc hf
        omega
      rw [if_neg this, if_pos hf, List.map_map]
      refine List.map_congr_left fun x _ => ?_
      show -(c * x) / _ = _
      rw [e1, ← Int.mul_neg, Int.neg_neg, div]
    · have : 0 < c * firstL xs := Int.mul_pos_of_neg_of_neg hc (by omega)
      rw [if_pos this, if_neg hf, List.map_map]
      refine List.map_congr_left fun x _ => ?_
      show c * x / _ = _
      rw [e1, div]
  · have ec : c = (c.natAbs : Int) := by omega
    have e1 : ∀ x : Int, c * x = (c.natAbs : Int) * x := fun x => by rw [← ec]
    by_cases hf : 0 < firstL xs
    · rw [if_pos (Int.mul_pos hc hf), if_pos hf, List.map_map]
      refine List.map_congr_left fun x _ => ?_
      show c * x / _ = _
      rw [e1, div]
    · have : ¬ 0 < c * firstL xs := by
        have := Int.mul_neg_of_pos_of_neg hc (show firstL xs < 0 by omega)
        omega
      rw [if_neg this, if_neg hf, List.map_map]
      refine List.map_congr_left fun x _ => ?_
      show -(c * x) / _ = _
      rw [e1, ← Int.mul_neg, div]
/-- what was divided away -/
theorem short_mul {xs : List Int} (hx : ∃ x ∈ xs, x ≠ 0) : ∃ c : Int, c ≠ 0 ∧ xs = (shortL xs).map (c * ·) := by
  have gp := gcdL_pos hx 0
  have gd := (gcdL_dvd (xs := xs) (g := 0)).2
  have dv : ∀ x ∈ xs, ((gcdL 0 xs : Nat) : Int) ∣ x := fun x m => Int.ofNat_dvd_left.mpr (gd x m)
  unfold shortL
  by_cases hf : 0 < firstL xs
  · refine ⟨(gcdL 0 xs : Nat), by omega, ?_⟩
    rw [if_pos hf, List.map_map]
    refine (List.map_id xs).symm.trans (List.map_congr_left fun x m => ?_)
    show x = (gcdL 0 xs : Nat) * (x / (gcdL 0 xs : Nat))
    exact (Int.mul_ediv_cancel' (dv x m)).symm
  · refine ⟨-(gcdL 0 xs : Nat), by omega, ?_⟩
    rw [if_neg hf, List.map_map]
    refine (List.map_id xs).symm.trans (List.map_congr_left fun x m => ?_)
    show x = -((gcdL 0 xs : Nat) : Int) * (-x / (gcdL 0 xs : Nat))
    rw [Int.neg_mul, Int.mul_ediv_cancel' (Int.dvd_neg.mpr (dv x m)), Int.neg_neg]
theorem short_mul' {xs : List Int} (hx : ∃ x ∈ xs, x ≠ 0) : ∃ c : Int, c ≠ 0 ∧ c.natAbs = gcdL 0 xs ∧ (0 < c ↔ 0 < firstL xs) ∧ xs = (shortL xs).map (c * ·) := by
  have gp := gcdL_pos hx 0
  have gd := (gcdL_dvd (xs := xs) (g := 0)).2
  have dv : ∀ x ∈ xs, ((gcdL 0 xs : Nat) : Int) ∣ x := fun x m => Int.ofNat_dvd_left.mpr (gd x m)
  unfold shortL
  by_cases hf : 0 < firstL xs
  · refine ⟨(gcdL 0 xs : Nat), by omega, by omega, ⟨fun _ => hf, fun _ => by omega⟩, ?_⟩
    rw [if_pos hf, List.map_map]
    refine (List.map_id xs).symm.trans (List.map_congr_left fun x m => ?_)
    exact (Int.mul_ediv_cancel' (dv x m)).symm
  · refine ⟨-(gcdL 0 xs : Nat), by omega, by omega, ⟨fun _ => by omega, fun z => absurd z hf⟩, ?_⟩
    rw [if_neg hf, List.map_map]
    refine (List.map_id xs).symm.trans (List.map_congr_left fun x m => ?_)
    show x = -((gcdL 0 xs : Nat) : Int) * (-x / (gcdL 0 xs : Nat))
    rw [Int.neg_mul, Int.mul_ediv_cancel' (Int.dvd_neg.mpr (dv x m)), Int.neg_neg]
theorem short_ne {xs : List Int} (hx : ∃ x ∈ xs, x ≠ 0) : ∃ x ∈ shortL xs, x ≠ 0 := by
  obtain ⟨c, hc, e⟩ := short_mul hx
  obtain ⟨x, m, h0⟩ := hx
  rw [e] at m
  obtain ⟨y, my, ey⟩ := List.mem_map.mp m
  exact ⟨y, my, fun z => h0 (by rw [← ey, z]; simp)⟩
theorem short_idem {xs : List Int} (hx : ∃ x ∈ xs, x ≠ 0) : shortL (shortL xs) = shortL xs := by
  obtain ⟨c, hc, e⟩ := short_mul hx
  have q := short_scale hc (short_ne hx)
  rw [← e] at q
  exact q.symm
theorem short_gcd {xs : List Int} (hx : ∃ x ∈ xs, x ≠ 0) : gcdL 0 (shortL xs) = 1 := by
  obtain ⟨c, hc, hg, _, e⟩ := short_mul' hx
  have q := gcdL_scale c (shortL xs) 0
  rw [Nat.mul_zero, ← e, ← hg] at q
  have cp : 0 < c.natAbs := by omega
  have : c.natAbs * 1 = c.natAbs * gcdL 0 (shortL xs) := by omega
  exact (Nat.eq_of_mul_eq_mul_left cp this).symm
theorem short_first {xs : List Int} (hx : ∃ x ∈ xs, x ≠ 0) : 0 < firstL (shortL xs) := by
  obtain ⟨c, hc, _, hp, e⟩ := short_mul' hx
  have q := firstL_scale hc (shortL xs)
  rw [← e] at q
  have fn := firstL_ne (short_ne hx)
  rw [q] at hp
  rcases Int.lt_or_gt_of_ne fn with z | z
  · rcases Int.lt_or_gt_of_ne hc with y | y
    · have := Int.mul_pos_of_neg_of_neg y z
      omega
    · have := Int.mul_neg_of_pos_of_neg y z
      omega
  · exact z
/-- parts of one direction -/
theorem short_par {xs ys : List Int} (hx : ∃ x ∈ xs, x ≠ 0) (hy : ∃ y ∈ ys, y ≠ 0) {a b : Int} (ha : a ≠ 0) (hb : b ≠ 0) (h : xs.map (a * ·) = ys.map (b * ·)) : shortL xs = shortL ys := by
  rw [← short_scale ha hx, h, short_scale hb hy]
theorem short_len (xs : List Int) : (shortL xs).length = xs.length := by
  unfold shortL
  split <;> simp
theorem short_lt {n : Nat} {xs : List Int} (hx : ∃ x ∈ xs, x ≠ 0) (h : ∀ x ∈ xs, x.natAbs < 2 ^ n) : ∀ x ∈ shortL xs, x.natAbs < 2 ^ n := by
  obtain ⟨c, hc, e⟩ := short_mul hx
  intro y my
  have m : c * y ∈ xs := by rw [e]; exact List.mem_map.mpr ⟨y, my, rfl⟩
  have := h _ m
  rw [Int.natAbs_mul] at this
  have c1 : 1 ≤ c.natAbs := by omega
  have : y.natAbs ≤ c.natAbs * y.natAbs := Nat.le_mul_of_pos_left _ c1
  omega

/-! ### places -/
/-- low, its bottom above 0, or (1, 0) -/
def Nrm (p q : Int) : Prop := Nat.gcd p.natAbs q.natAbs = 1 ∧ (0 < q ∨ (q = 0 ∧ p = 1))
theorem nrm_uniq {p q r s : Int} (h1 : Nrm p q) (h2 : Nrm r s) (h : p * s = q * r) : p = r ∧ q = s := by
  obtain ⟨g1, k1⟩ := h1
  obtain ⟨g2, k2⟩ := h2
  have en : p.natAbs * s.natAbs = q.natAbs * r.natAbs := by rw [← Int.natAbs_mul, ← Int.natAbs_mul, h]
  have d1 : q.natAbs ∣ s.natAbs := by
    have d : q.natAbs ∣ p.natAbs * s.natAbs := by rw [en]; exact Nat.dvd_mul_right _ _
    exact Nat.Coprime.dvd_of_dvd_mul_left (Nat.coprime_comm.mp g1) d
  have d2 : s.natAbs ∣ q.natAbs := by
    have d : s.natAbs ∣ q.natAbs * r.natAbs := by rw [← en]; exact Nat.dvd_mul_left _ _
    exact Nat.Coprime.dvd_of_dvd_mul_right (Nat.coprime_comm.mp g2) d
  have e := Nat.dvd_antisymm d1 d2
  have eq : q = s := by omega
  subst eq
  rcases k1 with k1 | ⟨k1, k1'⟩
  · refine ⟨?_, rfl⟩
    rw [Int.mul_comm p q] at h
    exact Int.eq_of_mul_eq_mul_left (by omega) h
  · rcases k2 with k2 | ⟨k2, k2'⟩
    · omega
    · exact ⟨by omega, rfl⟩
/-- where (t, b) lies, low -/
def nrm (t b : Int) : Int × Int := if b = 0 then (1, 0) else if 0 < b then (t / (Nat.gcd t.natAbs b.natAbs : Nat), b / (Nat.gcd t.natAbs b.natAbs : Nat)) else (-t / (Nat.gcd t.natAbs b.natAbs : Nat), -b / (Nat.gcd t.natAbs b.natAbs : Nat))
theorem gcd_div {t b : Int} (h : 0 < Nat.gcd t.natAbs b.natAbs) : Nat.gcd (t / (Nat.gcd t.natAbs b.natAbs : Nat)).natAbs (b / (Nat.gcd t.natAbs b.natAbs : Nat)).natAbs = 1 := by
  have d1 : ((Nat.gcd t.natAbs b.natAbs : Nat) : Int) ∣ t := Int.ofNat_dvd_left.mpr (Nat.gcd_dvd_left _ _)
  have d2 : ((Nat.gcd t.natAbs b.natAbs : Nat) : Int) ∣ b := Int.ofNat_dvd_left.mpr (Nat.gcd_dvd_right _ _)
  rw [Int.natAbs_ediv_of_dvd d1, Int.natAbs_ediv_of_dvd d2, Int.natAbs_natCast]
  exact (Nat.gcd_div (Nat.gcd_dvd_left _ _) (Nat.gcd_dvd_right _ _)).trans (Nat.div_self h)
theorem nrm_spec {t b : Int} (h : t ≠ 0 ∨ b ≠ 0) : Nrm (nrm t b).1 (nrm t b).2 ∧ t * (nrm t b).2 = b * (nrm t b).1 := by
  unfold nrm
  by_cases hb : b = 0
  · rw [if_pos hb]
    exact ⟨⟨by decide, .inr ⟨rfl, rfl⟩⟩, by simp [hb]⟩
  · rw [if_neg hb]
    have gp : 0 < Nat.gcd t.natAbs b.natAbs := Nat.gcd_pos_of_pos_right _ (by omega)
    have d1 : ((Nat.gcd t.natAbs b.natAbs : Nat) : Int) ∣ t := Int.ofNat_dvd_left.mpr (Nat.gcd_dvd_left _ _)
    have d2 : ((Nat.gcd t.natAbs b.natAbs : Nat) : Int) ∣ b := Int.ofNat_dvd_left.mpr (Nat.gcd_dvd_right _ _)
    have gd := gcd_div gp
    obtain ⟨u, hu⟩ := d1
    obtain ⟨v, hv⟩ := d2
    have gi : ((Nat.gcd t.natAbs b.natAbs : Nat) : Int) ≠ 0 := by omega
    have eu : t / (Nat.gcd t.natAbs b.natAbs : Nat) = u := by rw [Int.ediv_eq_of_eq_mul_right gi hu]
    have ev : b / (Nat.gcd t.natAbs b.natAbs : Nat) = v := by rw [Int.ediv_eq_of_eq_mul_right gi hv]
    have eu2 : -t / (Nat.gcd t.natAbs b.natAbs : Nat) = -u := Int.ediv_eq_of_eq_mul_right gi (by rw [Int.mul_neg, ← hu])
    have ev2 : -b / (Nat.gcd t.natAbs b.natAbs : Nat) = -v := Int.ediv_eq_of_eq_mul_right gi (by rw [Int.mul_neg, ← hv])
    rw [eu, ev] at gd
    by_cases hp : 0 < b
    · rw [if_pos hp, eu, ev]
      have vp : 0 < v := by
        rcases Int.lt_trichotomy v 0 with z | z | z
        · have := Int.mul_neg_of_pos_of_neg (a := ((Nat.gcd t.natAbs b.natAbs : Nat) : Int)) (by omega) z
          omega
        · rw [z] at hv
          simp at hv
          omega
        · exact z
      refine ⟨⟨gd, .inl vp⟩, ?_⟩
      show t * v = b * u
      generalize ((Nat.gcd t.natAbs b.natAbs : Nat) : Int) = g at hu hv
      subst hu
      rw [hv]
      grind
    · rw [if_neg hp, eu2, ev2]
      have vp : 0 < -v := by
        rcases Int.lt_trichotomy v 0 with z | z | z
        · omega
        · rw [z] at hv
          simp at hv
          omega
        · have := Int.mul_pos (a := ((Nat.gcd t.natAbs b.natAbs : Nat) : Int)) (by omega) z
          omega
      refine ⟨⟨by rw [Int.natAbs_neg, Int.natAbs_neg]; exact gd, .inl vp⟩, ?_⟩
      show t * (-v) = b * (-u)
      generalize ((Nat.gcd t.natAbs b.natAbs : Nat) : Int) = g at hu hv
      subst hu
      rw [hv]
      grind
/-- any low place of that direction -/
theorem nrm_eq {t b x y : Int} (h : t ≠ 0 ∨ b ≠ 0) (hn : Nrm x y) (hp : t * y = b * x) : nrm t b = (x, y) := by
  obtain ⟨n1, n2⟩ := nrm_spec h
  have key : (nrm t b).1 * y = (nrm t b).2 * x := by
    generalize (nrm t b).1 = u at n2
    generalize (nrm t b).2 = v at n2
    rcases h with h | h
    · refine Int.eq_of_mul_eq_mul_left h ?_
      grind
    · refine Int.eq_of_mul_eq_mul_left h ?_
      grind
  obtain ⟨e1, e2⟩ := nrm_uniq n1 hn key
  exact Prod.ext e1 e2
/-- two parts made short, the sign by the second -/
theorem short_two {t b : Int} (h : t ≠ 0 ∨ b ≠ 0) : ∃ x y, shortL [t, b] = [x, y] ∧ nrm t b = if y < 0 then (-x, -y) else (x, y) := by
  have hx : ∃ x ∈ [t, b], x ≠ 0 := by
    rcases h with h | h
    · exact ⟨t, by simp, h⟩
    · exact ⟨b, by simp, h⟩
  have hl := short_len [t, b]
  obtain ⟨c, hc, hg, _, e⟩ := short_mul' hx
  have g1 := short_gcd hx
  have f1 := short_first hx
  obtain ⟨x, y, exy⟩ : ∃ x y, shortL [t, b] = [x, y] := by
    rcases q : shortL [t, b] with _ | ⟨x, _ | ⟨y, _ | ⟨z, zs⟩⟩⟩ <;> rw [q] at hl <;> simp at hl
    exact ⟨x, y, rfl⟩
  rw [exy] at e g1 f1
  refine ⟨x, y, exy, ?_⟩
  have et : t = c * x ∧ b = c * y := by
    rw [List.map_cons, List.map_cons, List.map_nil] at e
    injection e with e1 e2
    injection e2 with e2 _
    exact ⟨e1, e2⟩
  have g2 : Nat.gcd x.natAbs y.natAbs = 1 := by
    have : gcdL 0 [x, y] = Nat.gcd x.natAbs y.natAbs := by simp [gcdL]
    omega
  have par : t * y = b * x := by
    rw [et.1, et.2]
    grind
  by_cases hy : y < 0
  · rw [if_pos hy]
    refine nrm_eq h ⟨by rw [Int.natAbs_neg, Int.natAbs_neg]; exact g2, .inl (by omega)⟩ ?_
    rw [Int.mul_neg, Int.mul_neg, par]
  · rw [if_neg hy]
    refine nrm_eq h ⟨g2, ?_⟩ par
    by_cases z : y = 0
    · refine .inr ⟨z, ?_⟩
      subst z
      have x1 : x.natAbs = 1 := by simpa using g2
      have xp : 0 < x := by
        by_cases zx : x = 0
        · subst zx
          simp [firstL] at f1
        · simpa [firstL, zx] using f1
      omega
    · exact .inl (by omega)

/-! ### == of tuples of ints -/
theorem toPy_ints (n : Nat) (s : Sto) : ∀ xs : List Int, mapO (toPy (n + 1) s) (iL xs) = some (xs.map .int)
  | [] => rfl
  | x :: xs => by
    have ih := toPy_ints n s xs
    have e1 : toPy (n + 1) s (.int x) = some (.int x) := by rw [toPy]
    unfold iL at ih ⊢
    rw [List.map_cons, mapO, e1, ih]
    rfl
theorem lay_ints : ∀ xs : List Int, PySem.PyData.canLayAll0 (xs.map .int) = true
  | [] => rfl
  | x :: xs => by
    have ih := lay_ints xs
    simpa [PySem.PyData.canLayAll0, PySem.PyData.canLay0] using ih
theorem depth_ints : ∀ xs : List Int, PySem.PyData.depthAll (xs.map .int) ≤ 1
  | [] => by simp [PySem.PyData.depthAll]
  | x :: xs => by
    have ih := depth_ints xs
    simp [PySem.PyData.depthAll, PySem.PyData.depth]
    omega
theorem eqv_ints : ∀ xs ys : List Int, PySem.PyData.eqvAll (xs.map .int) (ys.map .int) = decide (xs = ys)
  | [], [] => by simp [PySem.PyData.eqvAll]
  | [], _ :: _ => by simp [PySem.PyData.eqvAll]
  | _ :: _, [] => by simp [PySem.PyData.eqvAll]
  | x :: xs, y :: ys => by
    have ih := eqv_ints xs ys
    rw [List.map_cons, List.map_cons, PySem.PyData.eqvAll, ih, PySem.PyData.eqv]
    by_cases h : x = y <;> simp [h]
theorem shaped_ints (xs : List Int) : PySem.SeqAt.shaped (.tuple (xs.map .int)) = true := by
  have h1 := lay_ints xs
  have h2 := depth_ints xs
  unfold PySem.SeqAt.shaped
  rw [PySem.PyData.canLay0, PySem.PyData.depth, h1]
  exact decide_eq_true (by omega)
theorem eq_ints (s : Sto) (xs ys : List Int) : eqD s (.tup (iL xs)) (.tup (iL ys)) = some (decide (xs = ys)) := by
  have e : ∀ zs : List Int, toPy deep s (.tup (iL zs)) = some (.tuple (zs.map .int)) := fun zs => by
    show (match mapO (toPy 29 s) (iL zs) with
      | some ys => some (PySem.PyData.tuple ys)
      | none => none) = _
    rw [toPy_ints 28 s zs]
  unfold eqD
  rw [e, e]
  show (if PySem.SeqAt.shaped (.tuple (xs.map .int)) = true then (if PySem.SeqAt.shaped (.tuple (ys.map .int)) = true then some (PySem.PyData.eqv (.tuple (xs.map .int)) (.tuple (ys.map .int))) else none) else none) = _
  rw [if_pos (shaped_ints xs), if_pos (shaped_ints ys), PySem.PyData.eqv, eqv_ints]
theorem eq2 (s : Sto) (a b c d : Int) : eqD s (.tup [.int a, .int b]) (.tup [.int c, .int d]) = some (decide (a = c ∧ b = d)) := by
  have e := eq_ints s [a, b] [c, d]
  simpa [iL] using e
theorem eq4 (s : Sto) (a b c d e f g h : Int) : eqD s (.tup [.int a, .int b, .int c, .int d]) (.tup [.int e, .int f, .int g, .int h]) = some (decide (a = e ∧ b = f ∧ c = g ∧ d = h)) := by
  have q := eq_ints s [a, b, c, d] [e, f, g, h]
  simpa [iL] using q
end Px
end

section
set_option maxRecDepth 100000
set_option maxHeartbeats 0
namespace Lw
open PySem Px
def top (i : Nat) : PySem.Stmt := PySem.Challenge.pw_linesruled_k01_whole_triples.main.body.getD i (.Pass ⟨0, 0, 0, 0⟩)
def c_GREAT : D := (.int 1000000000000000000000000000000000000000000000000000000000000)
def c_PART : D := (.int 1000000000)
def c_MANY : D := (.int 60)
def t__law_error : Td := ⟨(.str "none"), [(0, (.str "")), (1, (.str "number")), (2, (.str "triple")), (3, (.str "table")), (4, (.str "points")), (5, (.str "no"))]⟩
def b_is_whole : RS := (.seq (.ret (.and (.isi (.var 0) .int) (.and (.not (.isi (.var 0) .bool)) (.chain .le .le (.var 1) (.var 0) (.var 2))))) .pass)
def g_is_whole : FD := ⟨3, 3, b_is_whole⟩
def b_is_tuple_of : RS := (.seq (.ret (.and (.isi (.var 0) .tuple) (.chain .le .le (.var 1) (.bi .len false (.cons (.var 0) .nil)) (.var 2)))) .pass)
def g_is_tuple_of : FD := ⟨3, 3, b_is_tuple_of⟩
def b_is_portion : RS := (.seq (.ifs (.or (.not (.call 1 (.cons (.var 0) (.cons (.c (.int 2)) (.cons (.c (.int 2)) .nil))))) (.or (.not (.call 0 (.cons (.sub (.var 0) (.c (.int 0))) (.cons (.neg (.c c_GREAT)) (.cons (.c c_GREAT) .nil))))) (.not (.call 0 (.cons (.sub (.var 0) (.c (.int 1))) (.cons (.c (.int 1)) (.cons (.c c_GREAT) .nil))))))) (.seq (.ret (.c (.bl false))) .pass) .pass) (.seq (.ret (.cmp .eq (.bi .gcd false (.cons (.sub (.var 0) (.c (.int 0))) (.cons (.sub (.var 0) (.c (.int 1))) .nil))) (.c (.int 1)))) .pass))
def g_is_portion : FD := ⟨1, 1, b_is_portion⟩
def b_lowest : RS := (.seq (.set (.name 2) (.bi .gcd false (.cons (.var 0) (.cons (.var 1) .nil)))) (.seq (.set (.name 2) (.ite (.cmp .gt (.var 1) (.c (.int 0))) (.var 2) (.neg (.var 2)))) (.seq (.ret (.tup (.cons (.bin .fdiv false (.var 0) (.var 2)) (.cons (.bin .fdiv false (.var 1) (.var 2)) .nil)))) .pass)))
def g_lowest : FD := ⟨2, 3, b_lowest⟩
def b_is_three : RS := (.seq (.ret (.and (.call 1 (.cons (.var 0) (.cons (.c (.int 3)) (.cons (.c (.int 3)) .nil)))) (.bi .all false (.cons (.comp false (.call 0 (.cons (.var 1) (.cons (.neg (.c c_PART)) (.cons (.c c_PART) .nil)))) [1] (.name 1) (.seq (.var 0)) (.c (.bl true))) .nil)))) .pass)
def g_is_three : FD := ⟨1, 2, b_is_three⟩
def b_is_triple : RS := (.seq (.ret (.and (.call 4 (.cons (.var 0) .nil)) (.and (.cmp .ne (.var 0) (.tup (.cons (.c (.int 0)) (.cons (.c (.int 0)) (.cons (.c (.int 0)) .nil))))) (.cmp .eq (.call 6 (.cons (.var 0) .nil)) (.var 0))))) .pass)
def g_is_triple : FD := ⟨1, 1, b_is_triple⟩
def b_plainly : RS := (.seq (.set (.name 1) (.bi .gcd false (.cons (.bi .gcd false (.cons (.sub (.var 0) (.c (.int 0))) (.cons (.sub (.var 0) (.c (.int 1))) .nil))) (.cons (.sub (.var 0) (.c (.int 2))) .nil)))) (.seq (.set (.name 2) (.sub (.comp false (.var 3) [3] (.name 3) (.seq (.var 0)) (.cmp .ne (.var 3) (.c (.int 0)))) (.c (.int 0)))) (.seq (.set (.name 1) (.ite (.cmp .gt (.var 2) (.c (.int 0))) (.var 1) (.neg (.var 1)))) (.seq (.ret (.bi .tuple false (.cons (.comp false (.bin .fdiv false (.var 3) (.var 1)) [3] (.name 3) (.seq (.var 0)) (.c (.bl true))) .nil))) .pass))))
def g_plainly : FD := ⟨1, 4, b_plainly⟩
def b_need_triple : RS := (.seq (.ifs (.not (.call 5 (.cons (.var 0) .nil))) (.seq (.raise 2) .pass) .pass) .pass)
def g_need_triple : FD := ⟨1, 1, b_need_triple⟩
def b_dot : RS := (.seq (.ret (.bin .add false (.bin .add false (.bin .mul false (.sub (.var 0) (.c (.int 0))) (.sub (.var 1) (.c (.int 0)))) (.bin .mul false (.sub (.var 0) (.c (.int 1))) (.sub (.var 1) (.c (.int 1))))) (.bin .mul false (.sub (.var 0) (.c (.int 2))) (.sub (.var 1) (.c (.int 2)))))) .pass)
def g_dot : FD := ⟨2, 2, b_dot⟩
def b_cross : RS := (.seq (.set (.name 2) (.bin .sub false (.bin .mul false (.sub (.var 0) (.c (.int 1))) (.sub (.var 1) (.c (.int 2)))) (.bin .mul false (.sub (.var 0) (.c (.int 2))) (.sub (.var 1) (.c (.int 1)))))) (.seq (.ret (.tup (.cons (.var 2) (.cons (.bin .sub false (.bin .mul false (.sub (.var 0) (.c (.int 2))) (.sub (.var 1) (.c (.int 0)))) (.bin .mul false (.sub (.var 0) (.c (.int 0))) (.sub (.var 1) (.c (.int 2))))) (.cons (.bin .sub false (.bin .mul false (.sub (.var 0) (.c (.int 0))) (.sub (.var 1) (.c (.int 1)))) (.bin .mul false (.sub (.var 0) (.c (.int 1))) (.sub (.var 1) (.c (.int 0))))) .nil))))) .pass))
def g_cross : FD := ⟨2, 3, b_cross⟩
def b_volume : RS := (.seq (.ret (.call 8 (.cons (.call 9 (.cons (.var 0) (.cons (.var 1) .nil))) (.cons (.var 2) .nil)))) .pass)
def g_volume : FD := ⟨3, 3, b_volume⟩
def b_triple : RS := (.seq (.ifs (.not (.call 4 (.cons (.tup (.cons (.var 0) (.cons (.var 1) (.cons (.var 2) .nil)))) .nil))) (.seq (.raise 1) .pass) .pass) (.seq (.ifs (.and (.cmp .eq (.var 0) (.c (.int 0))) (.and (.cmp .eq (.var 1) (.c (.int 0))) (.cmp .eq (.var 2) (.c (.int 0))))) (.seq (.raise 5) .pass) .pass) (.seq (.ret (.call 6 (.cons (.tup (.cons (.var 0) (.cons (.var 1) (.cons (.var 2) .nil)))) .nil))) .pass)))
def g_triple : FD := ⟨3, 3, b_triple⟩
def b_is_on : RS := (.seq (.drop (.call 7 (.cons (.var 0) .nil))) (.seq (.drop (.call 7 (.cons (.var 1) .nil))) (.seq (.ret (.cmp .eq (.call 8 (.cons (.var 0) (.cons (.var 1) .nil))) (.c (.int 0)))) .pass)))
def g_is_on : FD := ⟨2, 2, b_is_on⟩
def b_join_of : RS := (.seq (.drop (.call 7 (.cons (.var 0) .nil))) (.seq (.drop (.call 7 (.cons (.var 1) .nil))) (.seq (.ifs (.cmp .eq (.var 0) (.var 1)) (.seq (.raise 5) .pass) .pass) (.seq (.ret (.call 6 (.cons (.call 9 (.cons (.var 0) (.cons (.var 1) .nil))) .nil))) .pass))))
def g_join_of : FD := ⟨2, 2, b_join_of⟩
def b_are_on_one : RS := (.seq (.ifs (.or (.not (.call 1 (.cons (.var 0) (.cons (.c (.int 0)) (.cons (.c c_MANY) .nil))))) (.not (.bi .all false (.cons (.comp false (.call 5 (.cons (.var 3) .nil)) [3] (.name 3) (.seq (.var 0)) (.c (.bl true))) .nil)))) (.seq (.raise 4) .pass) .pass) (.seq (.set (.name 1) (.comp false (.var 3) [3] (.name 3) (.seq (.var 0)) (.cmp .ne (.var 3) (.sub (.var 0) (.c (.int 0)))))) (.seq (.ifs (.cmp .eq (.var 1) (.lst false .nil)) (.seq (.ret (.c (.bl true))) .pass) .pass) (.seq (.set (.name 2) (.call 9 (.cons (.sub (.var 0) (.c (.int 0))) (.cons (.sub (.var 1) (.c (.int 0))) .nil)))) (.seq (.ret (.bi .all false (.cons (.comp false (.cmp .eq (.call 8 (.cons (.var 2) (.cons (.var 3) .nil))) (.c (.int 0))) [3] (.name 3) (.seq (.var 1)) (.c (.bl true))) .nil))) .pass)))))
def g_are_on_one : FD := ⟨1, 4, b_are_on_one⟩
def b_side_of : RS := (.seq (.drop (.call 7 (.cons (.var 0) .nil))) (.seq (.drop (.call 7 (.cons (.var 1) .nil))) (.seq (.drop (.call 7 (.cons (.var 2) .nil))) (.seq (.set (.name 3) (.call 10 (.cons (.var 0) (.cons (.var 1) (.cons (.var 2) .nil))))) (.seq (.ret (.ite (.cmp .gt (.var 3) (.c (.int 0))) (.c (.int 1)) (.ite (.cmp .lt (.var 3) (.c (.int 0))) (.neg (.c (.int 1))) (.c (.int 0))))) .pass)))))
def g_side_of : FD := ⟨3, 4, b_side_of⟩
def b_place_of : RS := (.seq (.drop (.call 7 (.cons (.var 0) .nil))) (.seq (.ifs (.cmp .eq (.sub (.var 0) (.c (.int 2))) (.c (.int 0))) (.seq (.ret (.c .non)) .pass) .pass) (.seq (.ret (.tup (.cons (.call 3 (.cons (.sub (.var 0) (.c (.int 0))) (.cons (.sub (.var 0) (.c (.int 2))) .nil))) (.cons (.call 3 (.cons (.sub (.var 0) (.c (.int 1))) (.cons (.sub (.var 0) (.c (.int 2))) .nil))) .nil)))) .pass)))
def g_place_of : FD := ⟨1, 1, b_place_of⟩
def b_point_at : RS := (.seq (.for (.name 2) (.seq (.tup (.cons (.var 0) (.cons (.var 1) .nil)))) (.seq (.ifs (.or (.not (.call 2 (.cons (.var 2) .nil))) (.or (.cmp .gt (.sub (.var 2) (.c (.int 1))) (.bin .pow false (.c (.int 10)) (.c (.int 4)))) (.cmp .gt (.bi .abs false (.cons (.sub (.var 2) (.c (.int 0))) .nil)) (.bin .pow false (.c (.int 10)) (.c (.int 4)))))) (.seq (.raise 1) .pass) .pass) .pass)) (.seq (.ret (.call 6 (.cons (.tup (.cons (.bin .mul false (.sub (.var 0) (.c (.int 0))) (.sub (.var 1) (.c (.int 1)))) (.cons (.bin .mul false (.sub (.var 1) (.c (.int 0))) (.sub (.var 0) (.c (.int 1)))) (.cons (.bin .mul false (.sub (.var 0) (.c (.int 1))) (.sub (.var 1) (.c (.int 1)))) .nil)))) .nil))) .pass))
def g_point_at : FD := ⟨2, 3, b_point_at⟩
def b_is_table : RS := (.seq (.ret (.and (.call 1 (.cons (.var 0) (.cons (.c (.int 3)) (.cons (.c (.int 3)) .nil)))) (.bi .all false (.cons (.comp false (.call 4 (.cons (.var 1) .nil)) [1] (.name 1) (.seq (.var 0)) (.c (.bl true))) .nil)))) .pass)
def g_is_table : FD := ⟨1, 2, b_is_table⟩
def b_determinant_of : RS := (.seq (.ifs (.not (.call 18 (.cons (.var 0) .nil))) (.seq (.raise 3) .pass) .pass) (.seq (.ret (.call 10 (.cons (.sub (.var 0) (.c (.int 0))) (.cons (.sub (.var 0) (.c (.int 1))) (.cons (.sub (.var 0) (.c (.int 2))) .nil))))) .pass))
def g_determinant_of : FD := ⟨1, 1, b_determinant_of⟩
def b__law_cup : RS := (.seq (.set (.name 1) (.bi .abs false (.cons (.sub (.bin .add false (.bi .list false (.cons (.var 0) .nil)) (.lst false (.cons (.c (.int 0)) .nil))) (.c (.int 0))) .nil))) (.seq (.ret (.lst true (.cons (.ite (.cmp .ge (.var 1) (.bin .pow false (.c (.int 10)) (.c (.int 18)))) (.bin .fdiv false (.var 1) (.c (.int 181))) (.c (.int 0))) (.cons (.bin .add false (.bin .mod false (.bi .int false (.cons (.bin .add false (.bin .mul false (.var 1) (.c (.int 439))) (.c (.int 6529))) .nil)) (.c (.int 99991))) (.c (.int 283))) .nil)))) .pass))
def g__law_cup : FD := ⟨1, 2, b__law_cup⟩
def b__law_roll : RS := (.seq (.ifs (.cmp .gt (.sub (.var 0) (.c (.int 0))) (.c (.int 0))) (.seq (.set (.name 2) (.bin .mod false (.bi .int false (.cons (.sub (.var 0) (.c (.int 0))) .nil)) (.var 1))) (.seq (.put (.var 0) (.c (.int 0)) (.bin .fdiv false (.sub (.var 0) (.c (.int 0))) (.var 1))) (.seq (.ret (.var 2)) .pass))) .pass) (.seq (.put (.var 0) (.c (.int 1)) (.bin .mod false (.bi .int false (.cons (.bin .add false (.bin .mul false (.sub (.var 0) (.c (.int 1))) (.c (.int 73))) (.c (.int 1237))) .nil)) (.c (.int 99991)))) (.seq (.ret (.bin .mod false (.bi .int false (.cons (.bin .fdiv false (.sub (.var 0) (.c (.int 1))) (.c (.int 11))) .nil)) (.var 1))) .pass)))
def g__law_roll : FD := ⟨2, 3, b__law_roll⟩
def b__law_some : RS := (.seq (.ret (.sub (.var 1) (.call 21 (.cons (.var 0) (.cons (.bi .len false (.cons (.var 1) .nil)) .nil))))) .pass)
def g__law_some : FD := ⟨2, 2, b__law_some⟩
def b__law_sort : RS := (.seq (.ifs (.or (.cmp .isN (.var 0) (.c .non)) (.isi (.var 0) .bool)) (.seq (.ret (.ite (.cmp .isN (.var 0) (.c .non)) (.c (.int 0)) (.c (.int 1)))) .pass) .pass) (.seq (.ifs (.or (.isi (.var 0) .int) (.isi (.var 0) .str)) (.seq (.ret (.ite (.isi (.var 0) .int) (.c (.int 2)) (.c (.int 3)))) .pass) .pass) (.seq (.ret (.ite (.isi (.var 0) .tuple) (.c (.int 4)) (.ite (.isi (.var 0) .list) (.c (.int 5)) (.c (.int 6))))) .pass)))
def g__law_sort : FD := ⟨1, 1, b__law_sort⟩
def b__law_like : RS := (.seq (.set (.name 2) (.call 23 (.cons (.var 1) .nil))) (.seq (.ifs (.or (.cmp .ne (.call 23 (.cons (.var 0) .nil)) (.var 2)) (.cmp .eq (.var 2) (.c (.int 6)))) (.seq (.ret (.c (.bl false))) .pass) .pass) (.seq (.ifs (.cmp .isin (.var 2) (.tup (.cons (.c (.int 4)) (.cons (.c (.int 5)) .nil)))) (.seq (.ret (.and (.cmp .eq (.bi .len false (.cons (.var 0) .nil)) (.bi .len false (.cons (.var 1) .nil))) (.cmp .eq (.comp false (.c (.int 1)) [3, 4] (.tup (.cons (.name 3) (.cons (.name 4) .nil))) (.zip (.var 0) (.var 1)) (.not (.call 24 (.cons (.var 3) (.cons (.var 4) .nil))))) (.lst false .nil)))) .pass) .pass) (.seq (.ret (.cmp .eq (.var 0) (.var 1))) .pass))))
def g__law_like : FD := ⟨2, 5, b__law_like⟩
def b__law_divisor : RS := (.seq (.for (.name 2) (.rng (.cons (.c (.int 1200)) .nil)) (.seq (.ifs (.cmp .eq (.var 1) (.c (.int 0))) (.seq (.ret (.var 0)) .pass) .pass) (.seq (.set (.tup (.cons (.name 0) (.cons (.name 1) .nil))) (.tup (.cons (.var 1) (.cons (.bin .mod false (.var 0) (.var 1)) .nil)))) .pass))) (.seq (.ret (.var 0)) .pass))
def g__law_divisor : FD := ⟨2, 3, b__law_divisor⟩
def b__law_plain : RS := (.seq (.set (.name 1) (.call 25 (.cons (.bi .abs false (.cons (.sub (.var 0) (.c (.int 0))) .nil)) (.cons (.call 25 (.cons (.bi .abs false (.cons (.sub (.var 0) (.c (.int 1))) .nil)) (.cons (.bi .abs false (.cons (.sub (.var 0) (.c (.int 2))) .nil)) .nil))) .nil)))) (.seq (.set (.name 2) (.comp false (.var 3) [3] (.name 3) (.seq (.var 0)) (.cmp .ne (.var 3) (.c (.int 0))))) (.seq (.set (.name 1) (.ite (.cmp .gt (.sub (.var 2) (.c (.int 0))) (.c (.int 0))) (.var 1) (.neg (.var 1)))) (.seq (.ret (.bi .tuple false (.cons (.comp false (.bin .fdiv false (.var 3) (.var 1)) [3] (.name 3) (.seq (.var 0)) (.c (.bl true))) .nil))) .pass))))
def g__law_plain : FD := ⟨1, 4, b__law_plain⟩
def b__law_three : RS := (.seq (.set (.name 1) (.call 22 (.cons (.var 0) (.cons (.lst false (.cons (.c (.int 1)) (.cons (.c (.int 3)) (.cons (.c (.int 9)) (.cons (.bin .pow false (.c (.int 10)) (.c (.int 9))) .nil))))) .nil)))) (.seq (.set (.name 2) (.comp false (.bin .sub false (.call 21 (.cons (.var 0) (.cons (.bin .add false (.bin .mul false (.c (.int 2)) (.var 1)) (.c (.int 1))) .nil))) (.var 1)) [3] (.name 3) (.rng (.cons (.c (.int 3)) .nil)) (.c (.bl true)))) (.seq (.ret (.ite (.cmp .ne (.var 2) (.lst false (.cons (.c (.int 0)) (.cons (.c (.int 0)) (.cons (.c (.int 0)) .nil))))) (.bi .tuple false (.cons (.var 2) .nil)) (.tup (.cons (.c (.int 0)) (.cons (.var 1) (.cons (.neg (.var 1)) .nil)))))) .pass)))
def g__law_three : FD := ⟨1, 4, b__law_three⟩
def b__law_volume : RS := (.seq (.set (.name 3) (.bin .mul false (.sub (.var 0) (.c (.int 0))) (.bin .sub false (.bin .mul false (.sub (.var 1) (.c (.int 1))) (.sub (.var 2) (.c (.int 2)))) (.bin .mul false (.sub (.var 1) (.c (.int 2))) (.sub (.var 2) (.c (.int 1))))))) (.seq (.set (.name 4) (.bin .mul false (.sub (.var 0) (.c (.int 1))) (.bin .sub false (.bin .mul false (.sub (.var 1) (.c (.int 0))) (.sub (.var 2) (.c (.int 2)))) (.bin .mul false (.sub (.var 1) (.c (.int 2))) (.sub (.var 2) (.c (.int 0))))))) (.seq (.ret (.bin .add false (.bin .sub false (.var 3) (.var 4)) (.bin .mul false (.sub (.var 0) (.c (.int 2))) (.bin .sub false (.bin .mul false (.sub (.var 1) (.c (.int 0))) (.sub (.var 2) (.c (.int 1)))) (.bin .mul false (.sub (.var 1) (.c (.int 1))) (.sub (.var 2) (.c (.int 0)))))))) .pass)))
def g__law_volume : FD := ⟨3, 5, b__law_volume⟩
def b__law_dot : RS := (.seq (.ret (.bi .sum false (.cons (.comp false (.bin .mul false (.var 2) (.var 3)) [2, 3] (.tup (.cons (.name 2) (.cons (.name 3) .nil))) (.zip (.var 0) (.var 1)) (.c (.bl true))) .nil))) .pass)
def g__law_dot : FD := ⟨2, 4, b__law_dot⟩
def b__law_triples_right : RS := (.seq (.set (.name 1) (.comp false (.call 27 (.cons (.var 0) .nil)) [13] (.name 13) (.rng (.cons (.c (.int 3)) .nil)) (.c (.bl true)))) (.seq (.set (.tup (.cons (.name 2) (.cons (.name 3) (.cons (.name 4) .nil)))) (.tup (.cons (.call 26 (.cons (.sub (.var 1) (.c (.int 0))) .nil)) (.cons (.call 26 (.cons (.sub (.var 1) (.c (.int 1))) .nil)) (.cons (.call 26 (.cons (.sub (.var 1) (.c (.int 2))) .nil)) .nil))))) (.seq (.set (.name 5) (.lst false (.cons (.call 11 (.cons (.sub (.sub (.var 1) (.c (.int 0))) (.c (.int 0))) (.cons (.sub (.sub (.var 1) (.c (.int 0))) (.c (.int 1))) (.cons (.sub (.sub (.var 1) (.c (.int 0))) (.c (.int 2))) .nil)))) (.cons (.call 5 (.cons (.var 2) .nil)) (.cons (.call 5 (.cons (.sub (.var 1) (.c (.int 1))) .nil)) (.cons (.call 12 (.cons (.var 2) (.cons (.var 3) .nil))) .nil)))))) (.seq (.ifs (.not (.call 24 (.cons (.var 5) (.cons (.lst false (.cons (.var 2) (.cons (.c (.bl true)) (.cons (.cmp .eq (.sub (.var 1) (.c (.int 1))) (.var 3)) (.cons (.cmp .eq (.call 29 (.cons (.var 2) (.cons (.var 3) .nil))) (.c (.int 0))) .nil))))) .nil)))) (.seq (.ret (.c (.bl false))) .pass) .pass) (.seq (.set (.name 6) (.call 28 (.cons (.var 2) (.cons (.var 3) (.cons (.var 4) .nil))))) (.seq (.set (.name 5) (.lst false (.cons (.call 15 (.cons (.var 2) (.cons (.var 3) (.cons (.var 4) .nil)))) (.cons (.call 15 (.cons (.var 3) (.cons (.var 2) (.cons (.var 4) .nil)))) (.cons (.call 15 (.cons (.var 3) (.cons (.var 4) (.cons (.var 2) .nil)))) (.cons (.call 18 (.cons (.tup (.cons (.var 2) (.cons (.var 3) (.cons (.var 4) .nil)))) .nil)) .nil)))))) (.seq (.set (.name 7) (.ite (.cmp .gt (.var 6) (.c (.int 0))) (.c (.int 1)) (.ite (.cmp .lt (.var 6) (.c (.int 0))) (.neg (.c (.int 1))) (.c (.int 0))))) (.seq (.ifs (.not (.call 24 (.cons (.bin .add false (.var 5) (.lst false (.cons (.call 19 (.cons (.tup (.cons (.var 2) (.cons (.var 3) (.cons (.var 4) .nil)))) .nil)) .nil))) (.cons (.lst false (.cons (.var 7) (.cons (.neg (.var 7)) (.cons (.var 7) (.cons (.c (.bl true)) (.cons (.var 6) .nil)))))) .nil)))) (.seq (.ret (.c (.bl false))) .pass) .pass) (.seq (.ifs (.not (.call 24 (.cons (.lst false (.cons (.call 14 (.cons (.tup (.cons (.var 2) (.cons (.var 3) (.cons (.var 4) .nil)))) .nil)) (.cons (.call 14 (.cons (.tup (.cons (.var 2) (.cons (.var 3) (.cons (.var 2) .nil)))) .nil)) (.cons (.call 14 (.cons (.tup (.cons (.var 4) .nil)) .nil)) .nil)))) (.cons (.lst false (.cons (.cmp .eq (.var 6) (.c (.int 0))) (.cons (.c (.bl true)) (.cons (.c (.bl true)) .nil)))) .nil)))) (.seq (.ret (.c (.bl false))) .pass) .pass) (.seq (.ifs (.cmp .eq (.var 2) (.var 3)) (.seq (.ret (.cmp .eq (.lamc 30 t__law_error (.call 13 (.cons (.var 2) (.cons (.var 3) .nil)))) (.c (.str "no")))) .pass) .pass) (.seq (.set (.name 8) (.call 13 (.cons (.var 2) (.cons (.var 3) .nil)))) (.seq (.set (.name 9) (.c (.int 0))) (.seq (.for (.name 10) (.seq (.var 8)) (.seq (.set (.name 9) (.call 25 (.cons (.bi .abs false (.cons (.var 10) .nil)) (.cons (.var 9) .nil)))) .pass)) (.seq (.set (.name 5) (.lst false (.cons (.call 29 (.cons (.var 8) (.cons (.var 2) .nil))) (.cons (.call 29 (.cons (.var 8) (.cons (.var 3) .nil))) (.cons (.var 9) (.cons (.cmp .gt (.sub (.comp false (.var 10) [10] (.name 10) (.seq (.var 8)) (.cmp .ne (.var 10) (.c (.int 0)))) (.c (.int 0))) (.c (.int 0))) (.cons (.cmp .eq (.call 13 (.cons (.var 3) (.cons (.var 2) .nil))) (.var 8)) .nil))))))) (.seq (.ifs (.or (.not (.call 24 (.cons (.var 5) (.cons (.lst false (.cons (.c (.int 0)) (.cons (.c (.int 0)) (.cons (.c (.int 1)) (.cons (.c (.bl true)) (.cons (.c (.bl true)) .nil)))))) .nil)))) (.cmp .ne (.cmp .eq (.call 29 (.cons (.var 8) (.cons (.var 4) .nil))) (.c (.int 0))) (.cmp .eq (.var 6) (.c (.int 0))))) (.seq (.ret (.c (.bl false))) .pass) .pass) (.seq (.set (.tup (.cons (.name 11) (.cons (.name 12) .nil))) (.tup (.cons (.lst true .nil) (.cons (.bin .add false (.c (.int 2)) (.call 21 (.cons (.var 0) (.cons (.c (.int 7)) .nil)))) .nil)))) (.seq (.for (.name 13) (.rng (.cons (.var 12) .nil)) (.seq (.set (.name 14) (.lst false (.cons (.bin .sub false (.call 21 (.cons (.var 0) (.cons (.c (.int 7)) .nil))) (.c (.int 3))) (.cons (.bin .add false (.c (.int 1)) (.call 21 (.cons (.var 0) (.cons (.c (.int 3)) .nil)))) .nil)))) (.seq (.set (.name 15) (.comp false (.bin .add false (.bin .mul false (.sub (.var 14) (.c (.int 0))) (.var 10)) (.bin .mul false (.sub (.var 14) (.c (.int 1))) (.var 16))) [10, 16] (.tup (.cons (.name 10) (.cons (.name 16) .nil))) (.zip (.var 2) (.var 3)) (.c (.bl true)))) (.seq (.ifs (.and (.cmp .ne (.var 15) (.lst false (.cons (.c (.int 0)) (.cons (.c (.int 0)) (.cons (.c (.int 0)) .nil))))) (.cmp .le (.bi .max1 false (.cons (.comp false (.bi .abs false (.cons (.var 10) .nil)) [10] (.name 10) (.seq (.var 15)) (.c (.bl true))) .nil)) (.bin .pow false (.c (.int 10)) (.c (.int 9))))) (.seq (.drop (.meth .append (.var 11) (.cons (.call 26 (.cons (.var 15) .nil)) .nil))) .pass) .pass) .pass)))) (.seq (.ifs (.not (.call 24 (.cons (.call 14 (.cons (.bi .tuple false (.cons (.bin .add false (.var 11) (.lst false (.cons (.var 2) (.cons (.var 3) .nil)))) .nil)) .nil)) (.cons (.c (.bl true)) .nil)))) (.seq (.ret (.c (.bl false))) .pass) .pass) (.seq (.ret (.call 24 (.cons (.call 14 (.cons (.bi .tuple false (.cons (.bin .add false (.var 11) (.lst false (.cons (.var 2) (.cons (.var 4) (.cons (.var 3) .nil))))) .nil)) .nil)) (.cons (.cmp .eq (.call 29 (.cons (.var 8) (.cons (.var 4) .nil))) (.c (.int 0))) .nil)))) .pass)))))))))))))))))))
def g__law_triples_right : FD := ⟨1, 17, b__law_triples_right⟩
def b__law_places_right : RS := (.seq (.set (.tup (.cons (.name 1) (.cons (.name 2) .nil))) (.tup (.cons (.lst false (.cons (.bin .sub false (.call 21 (.cons (.var 0) (.cons (.c (.int 41)) .nil))) (.c (.int 20))) (.cons (.bin .add false (.c (.int 1)) (.call 21 (.cons (.var 0) (.cons (.c (.int 20)) .nil)))) .nil))) (.cons (.lst false (.cons (.bin .sub false (.call 21 (.cons (.var 0) (.cons (.c (.int 20001)) .nil))) (.bin .pow false (.c (.int 10)) (.c (.int 4)))) (.cons (.bin .add false (.c (.int 1)) (.call 21 (.cons (.var 0) (.cons (.bin .pow false (.c (.int 10)) (.c (.int 4))) .nil)))) .nil))) .nil)))) (.seq (.set (.name 3) (.lst true .nil)) (.seq (.for (.tup (.cons (.name 4) (.cons (.name 5) .nil))) (.seq (.tup (.cons (.var 1) (.cons (.var 2) .nil)))) (.seq (.set (.name 6) (.call 25 (.cons (.bi .abs false (.cons (.var 4) .nil)) (.cons (.var 5) .nil)))) (.seq (.drop (.meth .append (.var 3) (.cons (.tup (.cons (.bin .fdiv false (.var 4) (.var 6)) (.cons (.bin .fdiv false (.var 5) (.var 6)) .nil))) .nil))) .pass))) (.seq (.set (.name 7) (.call 17 (.cons (.sub (.var 3) (.c (.int 0))) (.cons (.sub (.var 3) (.c (.int 1))) .nil)))) (.seq (.set (.name 8) (.call 26 (.cons (.tup (.cons (.bin .mul false (.sub (.sub (.var 3) (.c (.int 0))) (.c (.int 0))) (.sub (.sub (.var 3) (.c (.int 1))) (.c (.int 1)))) (.cons (.bin .mul false (.sub (.sub (.var 3) (.c (.int 1))) (.c (.int 0))) (.sub (.sub (.var 3) (.c (.int 0))) (.c (.int 1)))) (.cons (.bin .mul false (.sub (.sub (.var 3) (.c (.int 0))) (.c (.int 1))) (.sub (.sub (.var 3) (.c (.int 1))) (.c (.int 1)))) .nil)))) .nil))) (.seq (.ifs (.not (.call 24 (.cons (.lst false (.cons (.var 7) (.cons (.call 16 (.cons (.var 7) .nil)) (.cons (.call 5 (.cons (.var 7) .nil)) .nil)))) (.cons (.lst false (.cons (.var 8) (.cons (.tup (.cons (.sub (.var 3) (.c (.int 0))) (.cons (.sub (.var 3) (.c (.int 1))) .nil))) (.cons (.cmp .le (.bi .max1 false (.cons (.comp false (.bi .abs false (.cons (.var 10) .nil)) [10] (.name 10) (.seq (.var 8)) (.c (.bl true))) .nil)) (.bin .pow false (.c (.int 10)) (.c (.int 9)))) .nil)))) .nil)))) (.seq (.ret (.c (.bl false))) .pass) .pass) (.seq (.set (.name 9) (.call 26 (.cons (.tup (.cons (.bin .sub false (.call 21 (.cons (.var 0) (.cons (.c (.int 9)) .nil))) (.c (.int 4))) (.cons (.bin .add false (.c (.int 1)) (.call 21 (.cons (.var 0) (.cons (.c (.int 4)) .nil)))) (.cons (.c (.int 0)) .nil)))) .nil))) (.seq (.ret (.call 24 (.cons (.lst false (.cons (.call 16 (.cons (.var 9) .nil)) (.cons (.call 12 (.cons (.var 9) (.cons (.tup (.cons (.c (.int 0)) (.cons (.c (.int 0)) (.cons (.c (.int 1)) .nil)))) .nil))) (.cons (.call 12 (.cons (.var 7) (.cons (.tup (.cons (.c (.int 0)) (.cons (.c (.int 0)) (.cons (.c (.int 1)) .nil)))) .nil))) .nil)))) (.cons (.lst false (.cons (.c .non) (.cons (.c (.bl true)) (.cons (.c (.bl false)) .nil)))) .nil)))) .pass))))))))
def g__law_places_right : FD := ⟨1, 11, b__law_places_right⟩
def b__law_limits_right : RS := (.seq (.set (.name 1) (.bin .pow false (.c (.int 10)) (.c (.int 9)))) (.seq (.set (.name 2) (.lst false (.cons (.c .non) (.cons (.tup .nil) (.cons (.tup (.cons (.c (.int 0)) (.cons (.c (.int 0)) (.cons (.c (.int 0)) .nil)))) (.cons (.tup (.cons (.c (.int 1)) (.cons (.c (.int 2)) .nil))) (.cons (.tup (.cons (.c (.int 1)) (.cons (.c (.int 2)) (.cons (.c (.int 3)) (.cons (.c (.int 4)) .nil))))) (.cons (.lst false (.cons (.c (.int 1)) (.cons (.c (.int 2)) (.cons (.c (.int 3)) .nil)))) (.cons (.tup (.cons (.c (.int 2)) (.cons (.c (.int 4)) (.cons (.c (.int 6)) .nil)))) (.cons (.tup (.cons (.neg (.c (.int 1))) (.cons (.c (.int 0)) (.cons (.c (.int 0)) .nil)))) (.cons (.tup (.cons (.c (.int 0)) (.cons (.neg (.c (.int 1))) (.cons (.c (.int 1)) .nil)))) (.cons (.tup (.cons (.c (.int 0)) (.cons (.c (.int 0)) (.cons (.c (.int 2)) .nil)))) (.cons (.tup (.cons (.bin .add false (.var 1) (.c (.int 1))) (.cons (.c (.int 1)) (.cons (.c (.int 1)) .nil)))) (.cons (.tup (.cons (.c (.bl true)) (.cons (.c (.int 0)) (.cons (.c (.int 0)) .nil)))) (.cons (.tup (.cons (.c (.int 1)) (.cons (.c (.int 0)) (.cons (.c .non) .nil)))) (.cons (.c (.int 0)) .nil)))))))))))))))) (.seq (.set (.name 2) (.bin .add false (.var 2) (.lst false (.cons (.tup (.cons (.c (.int 0)) (.cons (.c (.int 2)) (.cons (.c (.int 0)) .nil)))) (.cons (.tup (.cons (.c (.int 1)) (.cons (.c (.bl true)) (.cons (.c (.int 0)) .nil)))) (.cons (.tup (.cons (.c (.int 1)) (.cons (.c (.int 1)) (.cons (.bin .sub false (.neg (.var 1)) (.c (.int 1))) .nil)))) .nil)))))) (.seq (.ifs (.not (.call 24 (.cons (.comp false (.call 5 (.cons (.var 15) .nil)) [15] (.name 15) (.seq (.bin .add false (.var 2) (.lst false (.cons (.tup (.cons (.c (.int 1)) (.cons (.c (.int 0)) (.cons (.c (.int 0)) .nil)))) (.cons (.tup (.cons (.c (.int 0)) (.cons (.c (.int 1)) (.cons (.neg (.c (.int 5))) .nil)))) (.cons (.tup (.cons (.var 1) (.cons (.c (.int 1)) (.cons (.neg (.var 1)) .nil)))) .nil)))))) (.c (.bl true))) (.cons (.bin .add false (.bin .mul false (.lst false (.cons (.c (.bl false)) .nil)) (.c (.int 17))) (.bin .mul false (.lst false (.cons (.c (.bl true)) .nil)) (.c (.int 3)))) .nil)))) (.seq (.ret (.c (.bl false))) .pass) .pass) (.seq (.set (.tup (.cons (.name 3) (.cons (.name 4) (.cons (.name 5) (.cons (.name 6) .nil))))) (.tup (.cons (.lst false .nil) (.cons (.call 22 (.cons (.var 0) (.cons (.var 2) .nil))) (.cons (.tup (.cons (.c (.int 1)) (.cons (.c (.int 2)) (.cons (.c (.int 3)) .nil)))) (.cons (.tup (.cons (.c (.int 0)) (.cons (.c (.int 1)) (.cons (.c (.int 1)) .nil)))) .nil)))))) (.seq (.for (.name 7) (.seq (.tup (.cons (.gl 12) (.cons (.gl 13) .nil)))) (.seq (.set (.name 3) (.bin .add false (.var 3) (.lst false (.cons (.lamc 30 t__law_error (.callv 7 (.cons (.var 4) (.cons (.c .non) .nil)))) .nil)))) (.seq (.set (.name 3) (.bin .add false (.var 3) (.lst false (.cons (.lamc 30 t__law_error (.callv 7 (.cons (.var 5) (.cons (.var 4) .nil)))) .nil)))) .pass))) (.seq (.set (.name 3) (.bin .add false (.var 3) (.lst false (.cons (.lamc 30 t__law_error (.call 15 (.cons (.var 4) (.cons (.c .non) (.cons (.c .non) .nil))))) .nil)))) (.seq (.set (.name 3) (.bin .add false (.var 3) (.lst false (.cons (.lamc 30 t__law_error (.call 15 (.cons (.var 5) (.cons (.var 4) (.cons (.c .non) .nil))))) .nil)))) (.seq (.set (.name 3) (.bin .add false (.var 3) (.lst false (.cons (.lamc 30 t__law_error (.call 15 (.cons (.var 5) (.cons (.var 6) (.cons (.var 4) .nil))))) .nil)))) (.seq (.set (.name 3) (.bin .add false (.var 3) (.lst false (.cons (.lamc 30 t__law_error (.call 16 (.cons (.var 4) .nil))) .nil)))) (.seq (.for (.name 8) (.seq (.tup (.cons (.c .non) (.cons (.lst false (.cons (.var 5) .nil)) (.cons (.tup (.cons (.var 4) .nil)) (.cons (.tup (.cons (.var 5) (.cons (.var 4) .nil))) (.cons (.bin .mul false (.tup (.cons (.var 5) .nil)) (.c (.int 61))) (.cons (.c (.int 0)) .nil)))))))) (.seq (.set (.name 3) (.bin .add false (.var 3) (.lst false (.cons (.lamc 30 t__law_error (.call 14 (.cons (.var 8) .nil))) .nil)))) .pass)) (.seq (.for (.name 9) (.seq (.tup (.cons (.c .non) (.cons (.bin .add false (.var 1) (.c (.int 1))) (.cons (.bin .sub false (.neg (.var 1)) (.c (.int 1))) (.cons (.c (.bl true)) .nil)))))) (.seq (.set (.name 3) (.bin .add false (.var 3) (.lst false (.cons (.lamc 30 t__law_error (.call 11 (.cons (.var 9) (.cons (.c .non) (.cons (.c .non) .nil))))) .nil)))) (.seq (.set (.name 3) (.bin .add false (.var 3) (.lst false (.cons (.lamc 30 t__law_error (.call 11 (.cons (.c (.int 1)) (.cons (.var 9) (.cons (.c .non) .nil))))) .nil)))) (.seq (.set (.name 3) (.bin .add false (.var 3) (.lst false (.cons (.lamc 30 t__law_error (.call 11 (.cons (.c (.int 0)) (.cons (.c (.int 0)) (.cons (.var 9) .nil))))) .nil)))) .pass)))) (.seq (.for (.name 10) (.seq (.tup (.cons (.c .non) (.cons (.tup (.cons (.c (.int 2)) (.cons (.c (.int 4)) .nil))) (.cons (.tup (.cons (.c (.int 1)) (.cons (.c (.int 0)) .nil))) (.cons (.tup (.cons (.bin .add false (.bin .pow false (.c (.int 10)) (.c (.int 4))) (.c (.int 1))) (.cons (.c (.int 1)) .nil))) (.cons (.tup (.cons (.c (.int 1)) (.cons (.bin .add false (.bin .pow false (.c (.int 10)) (.c (.int 4))) (.c (.int 1))) .nil))) (.cons (.lst false (.cons (.c (.int 1)) (.cons (.c (.int 2)) .nil))) (.cons (.c (.int 1)) .nil))))))))) (.seq (.set (.name 3) (.bin .add false (.var 3) (.lst false (.cons (.lamc 30 t__law_error (.call 17 (.cons (.var 10) (.cons (.c .non) .nil)))) .nil)))) (.seq (.set (.name 3) (.bin .add false (.var 3) (.lst false (.cons (.lamc 30 t__law_error (.call 17 (.cons (.tup (.cons (.c (.int 0)) (.cons (.c (.int 1)) .nil))) (.cons (.var 10) .nil)))) .nil)))) .pass))) (.seq (.set (.name 11) (.lst false (.cons (.c .non) (.cons (.tup .nil) (.cons (.tup (.cons (.var 5) (.cons (.var 5) .nil))) (.cons (.tup (.cons (.var 5) (.cons (.var 5) (.cons (.lst false (.cons (.c (.int 1)) (.cons (.c (.int 2)) (.cons (.c (.int 3)) .nil)))) .nil)))) (.cons (.tup (.cons (.tup (.cons (.c (.int 1)) (.cons (.c (.int 2)) .nil))) (.cons (.tup (.cons (.c (.int 1)) (.cons (.c (.int 2)) .nil))) (.cons (.tup (.cons (.c (.int 1)) (.cons (.c (.int 2)) .nil))) .nil)))) (.cons (.tup (.cons (.var 5) (.cons (.var 5) (.cons (.tup (.cons (.c (.int 1)) (.cons (.c (.int 2)) (.cons (.bin .add false (.var 1) (.c (.int 1))) .nil)))) .nil)))) (.cons (.lst false (.cons (.var 5) (.cons (.var 5) (.cons (.var 5) .nil)))) (.cons (.tup (.cons (.var 5) (.cons (.var 5) (.cons (.tup (.cons (.c (.bl true)) (.cons (.c (.int 0)) (.cons (.c (.int 0)) .nil)))) .nil)))) .nil)))))))))) (.seq (.for (.name 12) (.seq (.var 11)) (.seq (.set (.name 3) (.bin .add false (.var 3) (.lst false (.cons (.lamc 30 t__law_error (.call 19 (.cons (.var 12) .nil))) .nil)))) .pass)) (.seq (.ifs (.not (.call 24 (.cons (.comp false (.call 18 (.cons (.var 12) .nil)) [12] (.name 12) (.seq (.bin .add false (.var 11) (.lst false (.cons (.bin .mul false (.tup (.cons (.tup (.cons (.c (.int 0)) (.cons (.c (.int 0)) (.cons (.c (.int 0)) .nil)))) .nil)) (.c (.int 3))) (.cons (.tup (.cons (.var 5) (.cons (.tup (.cons (.var 1) (.cons (.neg (.var 1)) (.cons (.c (.int 0)) .nil)))) (.cons (.var 5) .nil)))) .nil))))) (.c (.bl true))) (.cons (.bin .add false (.bin .mul false (.lst false (.cons (.c (.bl false)) .nil)) (.c (.int 8))) (.bin .mul false (.lst false (.cons (.c (.bl true)) .nil)) (.c (.int 2)))) .nil)))) (.seq (.ret (.c (.bl false))) .pass) .pass) (.seq (.set (.name 3) (.bin .add false (.var 3) (.lst false (.cons (.lamc 30 t__law_error (.call 11 (.cons (.c (.int 0)) (.cons (.c (.int 0)) (.cons (.c (.int 0)) .nil))))) .nil)))) (.seq (.set (.name 3) (.bin .add false (.var 3) (.lst false (.cons (.lamc 30 t__law_error (.call 13 (.cons (.var 5) (.cons (.var 5) .nil)))) .nil)))) (.seq (.set (.name 13) (.lst false (.cons (.call 11 (.cons (.c (.int 0)) (.cons (.neg (.c (.int 4))) (.cons (.c (.int 6)) .nil)))) (.cons (.call 12 (.cons (.tup (.cons (.c (.int 1)) (.cons (.c (.int 2)) (.cons (.c (.int 1)) .nil)))) (.cons (.tup (.cons (.c (.int 1)) (.cons (.neg (.c (.int 1))) (.cons (.c (.int 1)) .nil)))) .nil))) (.cons (.call 13 (.cons (.tup (.cons (.c (.int 0)) (.cons (.c (.int 0)) (.cons (.c (.int 1)) .nil)))) (.cons (.tup (.cons (.c (.int 1)) (.cons (.c (.int 1)) (.cons (.c (.int 1)) .nil)))) .nil))) (.cons (.call 13 (.cons (.tup (.cons (.c (.int 1)) (.cons (.c (.int 0)) (.cons (.c (.int 0)) .nil)))) (.cons (.tup (.cons (.c (.int 1)) (.cons (.c (.int 0)) (.cons (.neg (.c (.int 1))) .nil)))) .nil))) (.cons (.call 15 (.cons (.tup (.cons (.c (.int 0)) (.cons (.c (.int 0)) (.cons (.c (.int 1)) .nil)))) (.cons (.tup (.cons (.c (.int 1)) (.cons (.c (.int 0)) (.cons (.c (.int 1)) .nil)))) (.cons (.tup (.cons (.c (.int 0)) (.cons (.c (.int 1)) (.cons (.c (.int 1)) .nil)))) .nil)))) .nil))))))) (.seq (.set (.name 14) (.lst false (.cons (.tup (.cons (.c (.int 0)) (.cons (.c (.int 2)) (.cons (.neg (.c (.int 3))) .nil)))) (.cons (.c (.bl true)) (.cons (.tup (.cons (.c (.int 1)) (.cons (.neg (.c (.int 1))) (.cons (.c (.int 0)) .nil)))) (.cons (.tup (.cons (.c (.int 0)) (.cons (.c (.int 1)) (.cons (.c (.int 0)) .nil)))) (.cons (.c (.int 1)) .nil))))))) (.seq (.set (.name 13) (.bin .add false (.var 13) (.lst false (.cons (.call 16 (.cons (.tup (.cons (.c (.int 2)) (.cons (.c (.int 3)) (.cons (.c (.int 4)) .nil)))) .nil)) (.cons (.call 16 (.cons (.tup (.cons (.c (.int 1)) (.cons (.c (.int 2)) (.cons (.c (.int 0)) .nil)))) .nil)) (.cons (.call 16 (.cons (.tup (.cons (.c (.int 1)) (.cons (.c (.int 2)) (.cons (.neg (.c (.int 4))) .nil)))) .nil)) (.cons (.call 17 (.cons (.tup (.cons (.c (.int 1)) (.cons (.c (.int 2)) .nil))) (.cons (.tup (.cons (.neg (.c (.int 1))) (.cons (.c (.int 3)) .nil))) .nil))) (.cons (.call 19 (.cons (.tup (.cons (.tup (.cons (.c (.int 2)) (.cons (.c (.int 0)) (.cons (.c (.int 0)) .nil)))) (.cons (.tup (.cons (.c (.int 0)) (.cons (.c (.int 3)) (.cons (.c (.int 0)) .nil)))) (.cons (.tup (.cons (.c (.int 1)) (.cons (.c (.int 1)) (.cons (.c (.int 1)) .nil)))) .nil)))) .nil)) .nil)))))))) (.seq (.set (.name 14) (.bin .add false (.var 14) (.lst false (.cons (.tup (.cons (.tup (.cons (.c (.int 1)) (.cons (.c (.int 2)) .nil))) (.cons (.tup (.cons (.c (.int 3)) (.cons (.c (.int 4)) .nil))) .nil))) (.cons (.c .non) (.cons (.tup (.cons (.tup (.cons (.neg (.c (.int 1))) (.cons (.c (.int 4)) .nil))) (.cons (.tup (.cons (.neg (.c (.int 1))) (.cons (.c (.int 2)) .nil))) .nil))) (.cons (.tup (.cons (.c (.int 3)) (.cons (.neg (.c (.int 2))) (.cons (.c (.int 6)) .nil)))) (.cons (.c (.int 6)) .nil)))))))) (.seq (.set (.name 13) (.bin .add false (.var 13) (.lst false (.cons (.call 14 (.cons (.tup .nil) .nil)) (.cons (.call 14 (.cons (.tup (.cons (.tup (.cons (.c (.int 0)) (.cons (.c (.int 0)) (.cons (.c (.int 1)) .nil)))) (.cons (.tup (.cons (.c (.int 1)) (.cons (.c (.int 1)) (.cons (.c (.int 1)) .nil)))) (.cons (.tup (.cons (.c (.int 2)) (.cons (.c (.int 2)) (.cons (.c (.int 1)) .nil)))) .nil)))) .nil)) (.cons (.call 14 (.cons (.tup (.cons (.tup (.cons (.c (.int 1)) (.cons (.c (.int 0)) (.cons (.c (.int 0)) .nil)))) (.cons (.tup (.cons (.c (.int 0)) (.cons (.c (.int 1)) (.cons (.c (.int 0)) .nil)))) (.cons (.tup (.cons (.c (.int 0)) (.cons (.c (.int 0)) (.cons (.c (.int 1)) .nil)))) .nil)))) .nil)) .nil)))))) (.seq (.set (.name 14) (.bin .add false (.var 14) (.lst false (.cons (.c (.bl true)) (.cons (.c (.bl true)) (.cons (.c (.bl false)) .nil)))))) (.seq (.ret (.and (.cmp .eq (.var 3) (.bin .add false (.bin .add false (.bin .add false (.bin .add false (.bin .mul false (.lst false (.cons (.c (.str "triple")) .nil)) (.c (.int 8))) (.bin .mul false (.lst false (.cons (.c (.str "points")) .nil)) (.c (.int 6)))) (.bin .mul false (.lst false (.cons (.c (.str "number")) .nil)) (.c (.int 26)))) (.bin .mul false (.lst false (.cons (.c (.str "table")) .nil)) (.c (.int 8)))) (.bin .mul false (.lst false (.cons (.c (.str "no")) .nil)) (.c (.int 2))))) (.call 24 (.cons (.var 13) (.cons (.var 14) .nil))))) .pass)))))))))))))))))))))))))
def g__law_limits_right : FD := ⟨1, 16, b__law_limits_right⟩
def b_law : RS := (.seq (.set (.name 1) (.call 20 (.cons (.var 0) .nil))) (.seq (.for (.name 2) (.rng (.cons (.c (.int 8)) .nil)) (.seq (.ifs (.or (.not (.call 31 (.cons (.var 1) .nil))) (.not (.call 32 (.cons (.var 1) .nil)))) (.seq (.ret (.c (.bl false))) .pass) .pass) .pass)) (.seq (.ret (.call 33 (.cons (.var 1) .nil))) .pass)))
def g_law : FD := ⟨1, 3, b_law⟩
def rs : List Row := (([⟨0, "is_whole", top 9, ["value", "low", "high"], ["value", "low", "high"], g_is_whole, false⟩, ⟨1, "is_tuple_of", top 10, ["value", "low", "high"], ["value", "low", "high"], g_is_tuple_of, false⟩, ⟨2, "is_portion", top 13, ["value"], ["value"], g_is_portion, false⟩, ⟨3, "lowest", top 14, ["top", "bottom", "shared"], ["top", "bottom"], g_lowest, false⟩, ⟨4, "is_three", top 18, ["value", "part"], ["value"], g_is_three, false⟩, ⟨5, "is_triple", top 19, ["value"], ["value"], g_is_triple, false⟩, ⟨6, "plainly", top 20, ["value", "shared", "first", "part"], ["value"], g_plainly, false⟩, ⟨7, "need_triple", top 21, ["value"], ["value"], g_need_triple, false⟩, ⟨8, "dot", top 22, ["one", "other"], ["one", "other"], g_dot, false⟩, ⟨9, "cross", top 23, ["one", "other", "first"], ["one", "other"], g_cross, false⟩] : List (Row)) ++ ([⟨10, "volume", top 24, ["one", "other", "third"], ["one", "other", "third"], g_volume, false⟩, ⟨11, "triple", top 25, ["one", "other", "third"], ["one", "other", "third"], g_triple, false⟩, ⟨12, "is_on", top 26, ["point", "line"], ["point", "line"], g_is_on, false⟩, ⟨13, "join_of", top 27, ["one", "other"], ["one", "other"], g_join_of, false⟩, ⟨14, "are_on_one", top 28, ["triples", "unlike", "line", "value"], ["triples"], g_are_on_one, false⟩, ⟨15, "side_of", top 29, ["one", "other", "third", "found"], ["one", "other", "third"], g_side_of, false⟩, ⟨16, "place_of", top 30, ["point"], ["point"], g_place_of, false⟩, ⟨17, "point_at", top 31, ["across", "up", "value"], ["across", "up"], g_point_at, false⟩, ⟨18, "is_table", top 32, ["value", "row"], ["value"], g_is_table, false⟩, ⟨19, "determinant_of", top 33, ["table"], ["table"], g_determinant_of, false⟩] : List (Row)) ++ ([⟨20, "_law_cup", top 35, ["script", "cell"], ["script"], g__law_cup, false⟩, ⟨21, "_law_roll", top 36, ["cup", "many", "found"], ["cup", "many"], g__law_roll, false⟩, ⟨22, "_law_some", top 37, ["cup", "things"], ["cup", "things"], g__law_some, false⟩, ⟨23, "_law_sort", top 38, ["value"], ["value"], g__law_sort, false⟩, ⟨24, "_law_like", top 39, ["one", "other", "sort", "first", "second"], ["one", "other"], g__law_like, false⟩, ⟨25, "_law_divisor", top 40, ["one", "other", "turn"], ["one", "other"], g__law_divisor, false⟩, ⟨26, "_law_plain", top 41, ["value", "shared", "heads", "part"], ["value"], g__law_plain, false⟩, ⟨27, "_law_three", top 42, ["cup", "size", "found", "place"], ["cup"], g__law_three, false⟩, ⟨28, "_law_volume", top 43, ["one", "other", "third", "first", "second"], ["one", "other", "third"], g__law_volume, false⟩, ⟨29, "_law_dot", top 44, ["one", "other", "part", "further"], ["one", "other"], g__law_dot, false⟩] : List (Row)) ++ ([⟨31, "_law_triples_right", top 46, ["cup", "raw", "one", "other", "third", "told", "volume_v", "due", "line", "shared", "part", "made", "few", "turn", "many", "sums", "further"], ["cup"], g__law_triples_right, true⟩, ⟨32, "_law_places_right", top 47, ["cup", "across", "up", "pairs", "top", "bottom", "shared", "point", "due", "beyond", "part"], ["cup"], g__law_places_right, false⟩, ⟨33, "_law_limits_right", top 48, ["cup", "far", "odds", "words", "bad", "good", "other", "name", "row", "number", "place", "tables", "table", "told", "due", "odd"], ["cup"], g__law_limits_right, true⟩, ⟨34, "law", top 49, ["script", "cup", "turn"], ["script"], g_law, false⟩] : List (Row)))
def ts : List TRow := [⟨30, "_law_error", top 45, ["call", "e", "pairs", "word", "is_so"], "call", t__law_error, [], some ⟨"RulerError", "e", 1, [(2, (.prs [("number", "InvalidNumber"), ("triple", "InvalidTriple"), ("points", "InvalidPoints")])), (2, (.add (.var 2) (.prs [("table", "InvalidTable"), ("no", "NotFound")])))], (.join "" (.comp 3 4 (.var 2))), ["InvalidNumber", "InvalidTriple", "InvalidPoints", "InvalidTable", "NotFound"]⟩⟩]
def B : Tb where
  fns := (([(0, "is_whole"), (1, "is_tuple_of"), (2, "is_portion"), (3, "lowest"), (4, "is_three"), (5, "is_triple"), (6, "plainly"), (7, "need_triple"), (8, "dot"), (9, "cross"), (10, "volume"), (11, "triple"), (12, "is_on"), (13, "join_of"), (14, "are_on_one"), (15, "side_of"), (16, "place_of"), (17, "point_at"), (18, "is_table"), (19, "determinant_of"), (20, "_law_cup"), (21, "_law_roll"), (22, "_law_some"), (23, "_law_sort"), (24, "_law_like"), (25, "_law_divisor"), (26, "_law_plain"), (27, "_law_three"), (28, "_law_volume"), (29, "_law_dot")] : List (Nat × PySem.Str)) ++ ([(31, "_law_triples_right"), (32, "_law_places_right"), (33, "_law_limits_right"), (34, "law")] : List (Nat × PySem.Str)))
  csts := [("GREAT", c_GREAT), ("PART", c_PART), ("MANY", c_MANY)]
  free := ["abs", "all", "bool", "int", "isinstance", "len", "list", "max", "range", "str", "sum", "tuple", "zip"]
  mfn := [("gcd", "math.gcd")]
  cls := [(0, "RulerError"), (1, "InvalidNumber"), (2, "InvalidTriple"), (3, "InvalidTable"), (4, "InvalidPoints"), (5, "NotFound")]
  tds := [(30, "_law_error", t__law_error)]
  lam := false
def loose : List PySem.Str := ((["gcd", "__name__", "RulerError", "InvalidNumber", "InvalidTriple", "InvalidTable", "InvalidPoints", "NotFound", "is_whole", "is_tuple_of", "GREAT", "is_portion", "lowest", "PART", "MANY", "is_three", "is_triple", "plainly", "need_triple", "dot", "cross", "volume", "triple", "is_on", "join_of", "are_on_one", "side_of", "place_of", "point_at", "is_table"] : List (PySem.Str)) ++ (["determinant_of", "_law_cup", "_law_roll", "_law_some", "_law_sort", "_law_like", "_law_divisor", "_law_plain", "_law_three", "_law_volume", "_law_dot", "_law_error", "_law_triples_right", "_law_places_right", "_law_limits_right"] : List (PySem.Str)))
def iLaw : Nat := 49
def nLaw : Nat := 34

end Lw
end

section
set_option Elab.async false
set_option linter.all false
set_option maxRecDepth 100000
set_option maxHeartbeats 1000000
set_option exponentiation.threshold 10000
/-! Px: any data of a bounded depth and width; places of tuples. -/
namespace Px
open PySem (Str PyData)
/-- data less than n deep, at most L wide -/
def okD : Nat → Nat → D → Bool
  | 0, _, _ => false
  | n + 1, L, d => match d with
    | .non => true | .bl _ => true | .int _ => true | .str x => PyData.strOk x
    | .tup xs => decide (xs.length ≤ L) && xs.all (okD n L)
    | .lst xs => decide (xs.length ≤ L) && xs.all (okD n L)
    | _ => false
theorem okD_tup {n L : Nat} {xs : List D} : okD (n + 1) L (.tup xs) = true ↔ xs.length ≤ L ∧ ∀ x ∈ xs, okD n L x = true := by
  show (decide (xs.length ≤ L) && xs.all (okD n L)) = true ↔ _
  rw [Bool.and_eq_true, decide_eq_true_eq, List.all_eq_true]
theorem okD_lst {n L : Nat} {xs : List D} : okD (n + 1) L (.lst xs) = true ↔ xs.length ≤ L ∧ ∀ x ∈ xs, okD n L x = true := by
  show (decide (xs.length ≤ L) && xs.all (okD n L)) = true ↔ _
  rw [Bool.and_eq_true, decide_eq_true_eq, List.all_eq_true]
theorem okD_mono {L M : Nat} (hL : L ≤ M) : ∀ {n m : Nat} {d : D}, okD n L d = true → n ≤ m → okD m M d = true
  | 0, _, _, h, _ => by cases h
  | n + 1, m, d, h, hm => by
    obtain ⟨m, rfl⟩ : ∃ j, m = j + 1 := ⟨m - 1, by omega⟩
    have all : ∀ xs : List D, xs.length ≤ L ∧ (∀ x ∈ xs, okD n L x = true) → xs.length ≤ M ∧ ∀ x ∈ xs, okD m M x = true := fun xs q => ⟨by omega, fun x hx => okD_mono hL (q.2 x hx) (by omega)⟩
    cases d with
    | tup xs => exact okD_tup.mpr (all xs (okD_tup.mp h))
    | lst xs => exact okD_lst.mpr (all xs (okD_lst.mp h))
    | str x => exact h
    | non => rfl
    | bl b => rfl
    | int i => rfl
    | _ => cases h
theorem okD_pure {L : Nat} (hL : L ≤ 16777216) : ∀ {n : Nat} {d : D}, okD n L d = true → pureD n d = true
  | 0, _, h => by cases h
  | n + 1, d, h => by
    have all : ∀ xs : List D, xs.length ≤ L ∧ (∀ x ∈ xs, okD n L x = true) → (fit xs.length && xs.all (pureD n)) = true := fun xs q => by
      rw [Bool.and_eq_true, List.all_eq_true]
      exact ⟨fit_of (by omega), fun x hx => okD_pure hL (q.2 x hx)⟩
    cases d with
    | tup xs => exact all xs (okD_tup.mp h)
    | lst xs => exact all xs (okD_lst.mp h)
    | str x => exact h
    | non => rfl
    | bl b => rfl
    | int i => rfl
    | _ => cases h
theorem okD_plain {n L : Nat} {d : D} (h : okD n L d = true) : plainD d = true := by
  cases n with
  | zero => cases h
  | succ n => cases d <;> first | rfl | cases h
theorem okD_int {n L : Nat} (i : Int) : okD (n + 1) L (.int i) = true := rfl
mutual
theorem toPy_ok {L : Nat} (s : Sto) : ∀ {n m : Nat} {d : D}, okD n L d = true → n ≤ m → ∃ p, toPy m s d = some p ∧ p.canLay0 = true ∧ p.depth ≤ n
  | 0, _, _, h, _ => by cases h
  | n + 1, m, d, h, hm => by
    obtain ⟨m, rfl⟩ : ∃ j, m = j + 1 := ⟨m - 1, by omega⟩
    cases d with
    | tup xs =>
      obtain ⟨ps, e, c, d, _⟩ := toPys_ok s (okD_tup.mp h).2 (show n ≤ m by omega)
      refine ⟨.tuple ps, ?_, by simpa [PyData.canLay0] using c, by simp [PyData.depth]; omega⟩
      rw [toPy]
      simp [e]
    | lst xs =>
      obtain ⟨ps, e, c, d, _⟩ := toPys_ok s (okD_lst.mp h).2 (show n ≤ m by omega)
      refine ⟨.list ps, ?_, by simpa [PyData.canLay0] using c, by simp [PyData.depth]; omega⟩
      rw [toPy]
      simp [e]
    | str x => exact ⟨.str x, by rw [toPy], by rw [PyData.canLay0]; exact h, by simp [PyData.depth]⟩
    | non => exact ⟨.none, by rw [toPy], by simp [PyData.canLay0], by simp [PyData.depth]⟩
    | bl b => exact ⟨.bool b, by rw [toPy], by simp [PyData.canLay0], by simp [PyData.depth]⟩
    | int i => exact ⟨.int i, by rw [toPy], by simp [PyData.canLay0], by simp [PyData.depth]⟩
    | _ => cases h
theorem toPys_ok {L : Nat} (s : Sto) : ∀ {n m : Nat} {xs : List D}, (∀ x ∈ xs, okD n L x = true) → n ≤ m → ∃ ps, mapO (toPy m s) xs = some ps ∧ PyData.canLayAll0 ps = true ∧ PyData.depthAll ps ≤ n ∧ ps.length = xs.length
  | n, m, [], _, _ => ⟨[], rfl, by simp [PyData.canLayAll0], by simp [PyData.depthAll], rfl⟩
  | n, m, x :: xs, h, hm => by
    obtain ⟨p, e1, c1, d1⟩ := toPy_ok s (h x List.mem_cons_self) hm
    obtain ⟨ps, e2, c2, d2, l2⟩ := toPys_ok s (fun y hy => h y (List.mem_cons_of_mem _ hy)) hm
    exact ⟨p :: ps, by rw [mapO, e1, e2], by simp [PyData.canLayAll0, c1, c2], by simp [PyData.depthAll]; omega, by simp [l2]⟩
end
theorem shaped_of {p : PyData} (h : p.canLay0 = true) (hd : p.depth ≤ 64) : PySem.SeqAt.shaped p = true := by
  unfold PySem.SeqAt.shaped
  rw [h]
  exact decide_eq_true hd
theorem eq_nil_of {L : Nat} (s : Sto) {xs : List D} (h : ∀ x ∈ xs, okD 20 L x = true) : eqD s (.lst xs) (.lst []) = some xs.isEmpty ∧ eqD s (.tup xs) (.tup []) = some xs.isEmpty := by
  obtain ⟨ps, e, c, d, l⟩ := toPys_ok s h (show 20 ≤ 29 by omega)
  have t1 : toPy deep s (.lst xs) = some (.list ps) := by
    show toPy (29 + 1) s (.lst xs) = _
    rw [toPy]
    simp [e]
  have t2 : toPy deep s (.tup xs) = some (.tuple ps) := by
    show toPy (29 + 1) s (.tup xs) = _
    rw [toPy]
    simp [e]
  have t3 : toPy deep s (.lst []) = some (.list []) := rfl
  have t4 : toPy deep s (.tup []) = some (.tuple []) := rfl
  have s1 : PySem.SeqAt.shaped (.list ps) = true := shaped_of (by simpa [PyData.canLay0] using c) (by simp [PyData.depth]; omega)
  have s2 : PySem.SeqAt.shaped (.tuple ps) = true := shaped_of (by simpa [PyData.canLay0] using c) (by simp [PyData.depth]; omega)
  have s3 : PySem.SeqAt.shaped (.list []) = true := shaped_of (by simp [PyData.canLay0, PyData.canLayAll0]) (by simp [PyData.depth, PyData.depthAll])
  have s4 : PySem.SeqAt.shaped (.tuple []) = true := shaped_of (by simp [PyData.canLay0, PyData.canLayAll0]) (by simp [PyData.depth, PyData.depthAll])
  have ev : PyData.eqvAll ps [] = xs.isEmpty := by
    cases xs <;> cases ps <;> simp [PyData.eqvAll] at l ⊢
  constructor
  · simp [eqD, t1, t3, s1, s3, PyData.eqv, ev]
  · simp [eqD, t2, t4, s2, s4, PyData.eqv, ev]
theorem eq_nil_lst {L : Nat} (s : Sto) {xs : List D} (h : ∀ x ∈ xs, okD 20 L x = true) : eqD s (.lst xs) (.lst []) = some xs.isEmpty := (eq_nil_of s h).1
theorem eq_nil_tup {L : Nat} (s : Sto) {xs : List D} (h : ∀ x ∈ xs, okD 20 L x = true) : eqD s (.tup xs) (.tup []) = some xs.isEmpty := (eq_nil_of s h).2
@[simp] theorem eq_nil_nil (s : Sto) : eqD s (.lst []) (.lst []) = some true := eq_nil_lst (L := 0) s (by simp)
theorem cut_mem {α : Type} {xs : List α} {l h : Option Int} {x : α} (hx : x ∈ cut xs l h) : x ∈ xs := List.mem_of_mem_drop (List.mem_of_mem_take hx)
theorem cut_len {α : Type} (xs : List α) (l h : Option Int) : (cut xs l h).length ≤ xs.length := by
  unfold cut
  rw [List.length_take, List.length_drop]
  omega
@[simp] theorem sub0 (a : D) (xs : List D) (s : Sto) : subD (.tup (a :: xs)) (.int 0) s = .ok a s := by
  have e : atI (a :: xs) 0 = some a := by
    unfold atI ixN
    rw [if_pos (by decide), if_pos (by simp [List.length_cons])]
    rfl
  simp [subD, seqOf, e]
@[simp] theorem sub1 (a b : D) (xs : List D) (s : Sto) : subD (.tup (a :: b :: xs)) (.int 1) s = .ok b s := by
  have e : atI (a :: b :: xs) 1 = some b := by
    unfold atI ixN
    rw [if_pos (by decide), if_pos (by simp [List.length_cons] <;> omega)]
    rfl
  simp [subD, seqOf, e]
@[simp] theorem sub2 (a b c : D) (xs : List D) (s : Sto) : subD (.tup (a :: b :: c :: xs)) (.int 2) s = .ok c s := by
  have e : atI (a :: b :: c :: xs) 2 = some c := by
    unfold atI ixN
    rw [if_pos (by decide), if_pos (by simp [List.length_cons] <;> omega)]
    rfl
  simp [subD, seqOf, e]
@[simp] theorem sub3 (a b c d : D) (xs : List D) (s : Sto) : subD (.tup (a :: b :: c :: d :: xs)) (.int 3) s = .ok d s := by
  have e : atI (a :: b :: c :: d :: xs) 3 = some d := by
    unfold atI ixN
    rw [if_pos (by decide), if_pos (by simp [List.length_cons] <;> omega)]
    rfl
  simp [subD, seqOf, e]
@[simp] theorem subl0 (a : D) (xs : List D) (s : Sto) : subD (.lst (a :: xs)) (.int 0) s = .ok a s := sub0 a xs s
@[simp] theorem subl1 (a b : D) (xs : List D) (s : Sto) : subD (.lst (a :: b :: xs)) (.int 1) s = .ok b s := sub1 a b xs s
@[simp] theorem subl2 (a b c : D) (xs : List D) (s : Sto) : subD (.lst (a :: b :: c :: xs)) (.int 2) s = .ok c s := sub2 a b c xs s
@[simp] theorem subl3 (a b c d : D) (xs : List D) (s : Sto) : subD (.lst (a :: b :: c :: d :: xs)) (.int 3) s = .ok d s := sub3 a b c d xs s
/-- a comprehension whose items change the store: an invariant over what is left -/
theorem wp_compI {f : D → Sto → R (Option D)} {Q : List D → Sto → Prop} (I : List D → List D → Sto → Prop) : ∀ {xs acc : List D} {s : Sto}, I xs acc s → (∀ acc s, I [] acc s → Q acc s) →
    (∀ x xs acc s, I (x :: xs) acc s → Wp (f x s) fun o s' => match o with
      | some y => I xs (acc ++ [y]) s'
      | none => I xs acc s') → Wp (compL f xs acc s) Q
  | [], acc, s, h, hd, _ => hd acc s h
  | x :: xs, acc, s, h, hd, hs => by
    have q := hs x xs acc s h
    show Wp ((f x s).calm _) Q
    rw [wp_calm]
    refine q.mono ?_
    intro o s' ho
    cases o with
    | none => exact wp_compI I ho hd hs
    | some y => exact wp_compI I ho hd hs
theorem bd_le {n m : Nat} {x : Int} (h : x.natAbs ≤ m) (hm : m < 2 ^ n) : Bd n x := ⟨Nat.lt_of_le_of_lt h hm⟩
theorem big_of {n : Nat} {x : Int} (h : Bd n x) (hn : n ≤ 8000) : x.natAbs < 2 ^ 8000 := Nat.lt_of_lt_of_le h.lt (Nat.pow_le_pow_right (by decide) hn)
end Px
end

section
set_option Elab.async false
set_option linter.all false
set_option maxRecDepth 100000
set_option maxHeartbeats 1000000
set_option exponentiation.threshold 10000
/-! Px: swings: tables of four integers. -/
namespace Px
open PySem (Str PyData)
def q_is_whole : FD := ⟨3, 3, (.seq (.ret (.and (.isi (.var 0) .int) (.and (.not (.isi (.var 0) .bool)) (.chain .le .le (.var 1) (.var 0) (.var 2))))) .pass)⟩
def q_is_tuple_of : FD := ⟨3, 3, (.seq (.ret (.and (.isi (.var 0) .tuple) (.chain .le .le (.var 1) (.bi .len false (.cons (.var 0) .nil)) (.var 2)))) .pass)⟩
def q_measure : FD := ⟨1, 1, (.seq (.ret (.bin .sub false (.bin .mul false (.sub (.var 0) (.c (.int 0))) (.sub (.var 0) (.c (.int 3)))) (.bin .mul false (.sub (.var 0) (.c (.int 1))) (.sub (.var 0) (.c (.int 2)))))) .pass)⟩
def q_trace : FD := ⟨1, 1, (.seq (.ret (.bin .add false (.sub (.var 0) (.c (.int 0))) (.sub (.var 0) (.c (.int 3))))) .pass)⟩
def q_fits_swing (n_is_tuple_of n_is_whole n_measure n_shortened : Nat) : FD := ⟨2, 3, (.seq (.ifs (.or (.not (.call n_is_tuple_of (.cons (.var 0) (.cons (.c (.int 4)) (.cons (.c (.int 4)) .nil))))) (.not (.bi .all false (.cons (.comp false (.call n_is_whole (.cons (.var 2) (.cons (.neg (.var 1)) (.cons (.var 1) .nil)))) [2] (.name 2) (.seq (.var 0)) (.c (.bl true))) .nil)))) (.seq (.ret (.c (.bl false))) .pass) .pass) (.seq (.ret (.and (.cmp .ne (.call n_measure (.cons (.var 0) .nil)) (.c (.int 0))) (.cmp .eq (.call n_shortened (.cons (.var 0) .nil)) (.var 0)))) .pass))⟩
def q_need_swing (n_fits_swing xc : Nat) : FD := ⟨1, 1, (.seq (.ifs (.not (.call n_fits_swing (.cons (.var 0) (.cons (.c (.int 10000)) .nil)))) (.seq (.raise xc) .pass) .pass) .pass)⟩
def q_raw_product : FD := ⟨2, 10, (.seq (.set (.tup (.cons (.name 2) (.cons (.name 3) (.cons (.name 4) (.cons (.name 5) .nil))))) (.var 1)) (.seq (.set (.tup (.cons (.name 6) (.cons (.name 7) (.cons (.name 8) (.cons (.name 9) .nil))))) (.var 0)) (.seq (.ret (.tup (.cons (.bin .add false (.bin .mul false (.var 2) (.var 6)) (.bin .mul false (.var 3) (.var 8))) (.cons (.bin .add false (.bin .mul false (.var 2) (.var 7)) (.bin .mul false (.var 3) (.var 9))) (.cons (.bin .add false (.bin .mul false (.var 4) (.var 6)) (.bin .mul false (.var 5) (.var 8))) (.cons (.bin .add false (.bin .mul false (.var 4) (.var 7)) (.bin .mul false (.var 5) (.var 9))) .nil)))))) .pass)))⟩
def q_product (n_shortened n_raw_product : Nat) : FD := ⟨2, 2, (.seq (.ret (.call n_shortened (.cons (.call n_raw_product (.cons (.var 0) (.cons (.var 1) .nil))) .nil))) .pass)⟩
def q_undone (n_shortened : Nat) : FD := ⟨1, 5, (.seq (.set (.tup (.cons (.name 1) (.cons (.name 2) (.cons (.name 3) (.cons (.name 4) .nil))))) (.var 0)) (.seq (.ret (.call n_shortened (.cons (.tup (.cons (.var 4) (.cons (.neg (.var 2)) (.cons (.neg (.var 3)) (.cons (.var 1) .nil))))) .nil))) .pass))⟩
def q_l_is_number (n_l_sort : Nat) : FD := ⟨3, 3, (.seq (.ret (.and (.cmp .eq (.call n_l_sort (.cons (.var 0) .nil)) (.c (.int 2))) (.chain .le .le (.var 1) (.var 0) (.var 2)))) .pass)⟩
def q_l_raw : FD := ⟨2, 2, (.seq (.ret (.tup (.cons (.bin .add false (.bin .mul false (.sub (.var 1) (.c (.int 0))) (.sub (.var 0) (.c (.int 0)))) (.bin .mul false (.sub (.var 1) (.c (.int 1))) (.sub (.var 0) (.c (.int 2))))) (.cons (.bin .add false (.bin .mul false (.sub (.var 1) (.c (.int 0))) (.sub (.var 0) (.c (.int 1)))) (.bin .mul false (.sub (.var 1) (.c (.int 1))) (.sub (.var 0) (.c (.int 3))))) (.cons (.bin .add false (.bin .mul false (.sub (.var 1) (.c (.int 2))) (.sub (.var 0) (.c (.int 0)))) (.bin .mul false (.sub (.var 1) (.c (.int 3))) (.sub (.var 0) (.c (.int 2))))) (.cons (.bin .add false (.bin .mul false (.sub (.var 1) (.c (.int 2))) (.sub (.var 0) (.c (.int 1)))) (.bin .mul false (.sub (.var 1) (.c (.int 3))) (.sub (.var 0) (.c (.int 3))))) .nil)))))) .pass)⟩
def q_l_product (n_l_short n_l_raw : Nat) : FD := ⟨2, 2, (.seq (.ret (.call n_l_short (.cons (.call n_l_raw (.cons (.var 0) (.cons (.var 1) .nil))) .nil))) .pass)⟩
def q_l_undone (n_l_short : Nat) : FD := ⟨1, 1, (.seq (.ret (.call n_l_short (.cons (.tup (.cons (.sub (.var 0) (.c (.int 3))) (.cons (.neg (.sub (.var 0) (.c (.int 1)))) (.cons (.neg (.sub (.var 0) (.c (.int 2)))) (.cons (.sub (.var 0) (.c (.int 0))) .nil))))) .nil))) .pass)⟩
def q_l_measure : FD := ⟨1, 1, (.seq (.ret (.bin .sub false (.bin .mul false (.sub (.var 0) (.c (.int 0))) (.sub (.var 0) (.c (.int 3)))) (.bin .mul false (.sub (.var 0) (.c (.int 1))) (.sub (.var 0) (.c (.int 2)))))) .pass)⟩
def q_l_is_swing (n_l_is_number n_l_measure n_l_short : Nat) : FD := ⟨2, 3, (.seq (.ifs (.or (.not (.isi (.var 0) .tuple)) (.or (.cmp .ne (.bi .len false (.cons (.var 0) .nil)) (.c (.int 4))) (.cmp .ne (.comp false (.var 2) [2] (.name 2) (.seq (.var 0)) (.not (.call n_l_is_number (.cons (.var 2) (.cons (.neg (.var 1)) (.cons (.var 1) .nil)))))) (.lst false .nil)))) (.seq (.ret (.c (.bl false))) .pass) .pass) (.seq (.ret (.and (.cmp .ne (.call n_l_measure (.cons (.var 0) .nil)) (.c (.int 0))) (.cmp .eq (.call n_l_short (.cons (.var 0) .nil)) (.var 0)))) .pass))⟩
def q_l_swing (n_l_roll n_l_some n_l_short : Nat) : FD := ⟨2, 4, (.seq (.set (.name 2) (.comp false (.bin .sub false (.call n_l_roll (.cons (.var 0) (.cons (.bin .add false (.bin .mul false (.c (.int 2)) (.var 1)) (.c (.int 1))) .nil))) (.var 1)) [3] (.name 3) (.rng (.cons (.c (.int 4)) .nil)) (.c (.bl true)))) (.seq (.ifs (.cmp .eq (.bin .mul false (.sub (.var 2) (.c (.int 0))) (.sub (.var 2) (.c (.int 3)))) (.bin .mul false (.sub (.var 2) (.c (.int 1))) (.sub (.var 2) (.c (.int 2))))) (.seq (.set (.name 2) (.lst false (.cons (.c (.int 1)) (.cons (.call n_l_roll (.cons (.var 0) (.cons (.bin .add false (.var 1) (.c (.int 1))) .nil))) (.cons (.c (.int 0)) (.cons (.call n_l_some (.cons (.var 0) (.cons (.lst false (.cons (.c (.int 1)) (.cons (.c (.int 1)) (.cons (.neg (.c (.int 1))) (.cons (.var 1) .nil))))) .nil))) .nil)))))) .pass) .pass) (.seq (.ret (.call n_l_short (.cons (.bi .tuple false (.cons (.var 2) .nil)) .nil))) .pass)))⟩
def q_l_moved (n_l_swing n_l_product n_l_undone : Nat) : FD := ⟨2, 3, (.seq (.set (.name 2) (.call n_l_swing (.cons (.var 0) (.cons (.c (.int 2)) .nil)))) (.seq (.ret (.call n_l_product (.cons (.call n_l_product (.cons (.call n_l_undone (.cons (.var 2) .nil)) (.cons (.var 1) .nil))) (.cons (.var 2) .nil)))) .pass))⟩
def q_l_home (n_l_moved n_l_some : Nat) : FD := ⟨1, 1, (.seq (.ret (.call n_l_moved (.cons (.var 0) (.cons (.call n_l_some (.cons (.var 0) (.cons (.lst false (.cons (.tup (.cons (.c (.int 1)) (.cons (.c (.int 0)) (.cons (.c (.int 0)) (.cons (.c (.int 1)) .nil))))) (.cons (.tup (.cons (.c (.int 0)) (.cons (.c (.int 1)) (.cons (.c (.int 1)) (.cons (.c (.int 0)) .nil))))) (.cons (.tup (.cons (.c (.int 0)) (.cons (.c (.int 1)) (.cons (.neg (.c (.int 1))) (.cons (.c (.int 0)) .nil))))) (.cons (.tup (.cons (.c (.int 0)) (.cons (.c (.int 1)) (.cons (.neg (.c (.int 1))) (.cons (.c (.int 1)) .nil))))) (.cons (.tup (.cons (.c (.int 1)) (.cons (.c (.int 1)) (.cons (.neg (.c (.int 1))) (.cons (.c (.int 1)) .nil))))) (.cons (.tup (.cons (.c (.int 1)) (.cons (.c (.int 1)) (.cons (.neg (.c (.int 1))) (.cons (.c (.int 2)) .nil))))) (.cons (.tup (.cons (.c (.int 1)) (.cons (.c (.int 0)) (.cons (.c (.int 0)) (.cons (.neg (.c (.int 1))) .nil))))) (.cons (.tup (.cons (.c (.int 0)) (.cons (.c (.int 3)) (.cons (.c (.int 1)) (.cons (.c (.int 0)) .nil))))) .nil))))))))) .nil))) .nil)))) .pass)⟩
def q_l_any (n_l_roll n_l_home n_l_moved n_l_short n_l_some n_l_swing : Nat) : FD := ⟨1, 2, (.seq (.set (.name 1) (.call n_l_roll (.cons (.var 0) (.cons (.c (.int 6)) .nil)))) (.seq (.ifs (.cmp .eq (.var 1) (.c (.int 0))) (.seq (.ret (.call n_l_home (.cons (.var 0) .nil))) .pass) .pass) (.seq (.ifs (.cmp .eq (.var 1) (.c (.int 1))) (.seq (.ret (.call n_l_moved (.cons (.var 0) (.cons (.tup (.cons (.c (.int 1)) (.cons (.bin .add false (.c (.int 1)) (.call n_l_roll (.cons (.var 0) (.cons (.c (.int 5)) .nil)))) (.cons (.c (.int 0)) (.cons (.c (.int 1)) .nil))))) .nil)))) .pass) .pass) (.seq (.ifs (.cmp .eq (.var 1) (.c (.int 2))) (.seq (.ret (.call n_l_moved (.cons (.var 0) (.cons (.call n_l_short (.cons (.tup (.cons (.bin .add false (.c (.int 1)) (.call n_l_roll (.cons (.var 0) (.cons (.c (.int 6)) .nil)))) (.cons (.c (.int 0)) (.cons (.c (.int 0)) (.cons (.call n_l_some (.cons (.var 0) (.cons (.lst false (.cons (.c (.int 1)) (.cons (.neg (.c (.int 1))) (.cons (.c (.int 2)) (.cons (.c (.int 3)) .nil))))) .nil))) .nil))))) .nil)) .nil)))) .pass) .pass) (.seq (.ret (.call n_l_swing (.cons (.var 0) (.cons (.call n_l_some (.cons (.var 0) (.cons (.lst false (.cons (.c (.int 1)) (.cons (.c (.int 3)) (.cons (.c (.int 10)) (.cons (.bin .pow false (.c (.int 10)) (.c (.int 4))) .nil))))) .nil))) .nil)))) .pass)))))⟩
def q_l_bent (n_l_roll n_l_some n_l_sort n_l_bent : Nat) : FD := ⟨2, 5, (.seq (.ifs (.or (.not (.isi (.var 1) .tuple)) (.or (.cmp .eq (.var 1) (.tup .nil)) (.cmp .eq (.call n_l_roll (.cons (.var 0) (.cons (.c (.int 7)) .nil))) (.c (.int 0))))) (.seq (.set (.name 2) (.lst false (.cons (.c .non) (.cons (.c (.bl true)) (.cons (.c (.bl false)) (.cons (.c (.int 0)) (.cons (.c (.int 1)) (.cons (.c (.int 2)) (.cons (.neg (.c (.int 1))) (.cons (.c (.str "")) (.cons (.tup .nil) (.cons (.lst false .nil) (.cons (.tup (.cons (.c (.int 0)) .nil)) (.cons (.tup (.cons (.c (.int 1)) (.cons (.c (.int 0)) .nil))) (.cons (.tup (.cons (.c (.int 0)) (.cons (.c (.int 1)) .nil))) (.cons (.tup (.cons (.c (.int 2)) (.cons (.c (.int 4)) .nil))) (.cons (.tup (.cons (.c (.int 1)) (.cons (.c (.int 0)) (.cons (.c (.int 0)) (.cons (.c (.int 1)) .nil))))) (.cons (.tup (.cons (.c (.int 1)) (.cons (.c (.int 1)) .nil))) .nil)))))))))))))))))) (.seq (.ret (.call n_l_some (.cons (.var 0) (.cons (.bin .add false (.var 2) (.ite (.cmp .eq (.call n_l_sort (.cons (.var 1) .nil)) (.c (.int 2))) (.bin .mul false (.lst false (.cons (.bin .add false (.var 1) (.c (.int 1))) (.cons (.bin .sub false (.var 1) (.c (.int 1))) (.cons (.neg (.var 1)) .nil)))) (.c (.int 4))) (.lst false .nil))) .nil)))) .pass)) .pass) (.seq (.set (.tup (.cons (.name 3) (.cons (.name 4) .nil))) (.tup (.cons (.call n_l_roll (.cons (.var 0) (.cons (.bi .len false (.cons (.var 1) .nil)) .nil))) (.cons (.call n_l_roll (.cons (.var 0) (.cons (.c (.int 12)) .nil))) .nil)))) (.seq (.ifs (.cmp .eq (.var 4) (.c (.int 0))) (.seq (.ret (.bin .add false (.slc false (.var 1) (.c .non) (.var 3)) (.slc false (.var 1) (.bin .add false (.var 3) (.c (.int 1))) (.c .non)))) .pass) .pass) (.seq (.ifs (.cmp .eq (.var 4) (.c (.int 1))) (.seq (.ret (.bin .add false (.slc false (.var 1) (.c .non) (.bin .add false (.var 3) (.c (.int 1)))) (.slc false (.var 1) (.var 3) (.c .non)))) .pass) .pass) (.seq (.ifs (.cmp .eq (.var 4) (.c (.int 2))) (.seq (.ret (.bi .list false (.cons (.var 1) .nil))) .pass) .pass) (.seq (.ifs (.cmp .eq (.var 4) (.c (.int 3))) (.seq (.ret (.rev false (.var 1))) .pass) .pass) (.seq (.ret (.bin .add false (.bin .add false (.slc false (.var 1) (.c .non) (.var 3)) (.tup (.cons (.call n_l_bent (.cons (.var 0) (.cons (.sub (.var 1) (.var 3)) .nil))) .nil))) (.slc false (.var 1) (.bin .add false (.var 3) (.c (.int 1))) (.c .non)))) .pass)))))))⟩
def q_l_near (n_l_roll n_l_bent : Nat) : FD := ⟨2, 6, (.seq (.set (.name 2) (.call n_l_roll (.cons (.var 0) (.cons (.c (.int 4)) .nil)))) (.seq (.set (.name 3) (.lst false (.cons (.var 1) (.cons (.bi .list false (.cons (.var 1) .nil)) (.cons (.rev false (.var 1)) (.cons (.slc false (.var 1) (.c .non) (.c (.int 3))) (.cons (.bin .add false (.var 1) (.tup (.cons (.c (.int 0)) .nil))) (.cons (.bi .tuple false (.cons (.comp false (.neg (.var 4)) [4] (.name 4) (.seq (.var 1)) (.c (.bl true))) .nil)) (.cons (.bi .tuple false (.cons (.comp false (.bin .mul false (.c (.int 2)) (.var 4)) [4] (.name 4) (.seq (.var 1)) (.c (.bl true))) .nil)) (.cons (.tup (.cons (.c (.int 0)) (.cons (.c (.int 0)) (.cons (.c (.int 0)) (.cons (.c (.int 0)) .nil))))) (.cons (.tup (.cons (.c (.int 1)) (.cons (.c (.int 1)) (.cons (.c (.int 1)) (.cons (.c (.int 1)) .nil))))) (.cons (.tup .nil) (.cons (.c .non) .nil))))))))))))) (.seq (.ret (.bin .add false (.bin .add false (.var 3) (.comp false (.bin .add false (.bin .add false (.slc false (.var 1) (.c .non) (.var 2)) (.tup (.cons (.var 5) .nil))) (.slc false (.var 1) (.bin .add false (.var 2) (.c (.int 1))) (.c .non))) [5] (.name 5) (.seq (.tup (.cons (.c (.int 0)) (.cons (.c (.int 1)) (.cons (.neg (.c (.int 1))) (.cons (.c (.bl true)) (.cons (.c .non) (.cons (.c (.str "1")) (.cons (.bin .add false (.sub (.var 1) (.var 2)) (.c (.int 1))) (.cons (.bin .pow false (.c (.int 10)) (.c (.int 61))) .nil)))))))))) (.c (.bl true)))) (.lst false (.cons (.call n_l_bent (.cons (.var 0) (.cons (.var 1) .nil))) .nil)))) .pass)))⟩
abbrev sw (a b c d : Int) : D := .tup [.int a, .int b, .int c, .int d]
/-- a swing: not folded, short, of integers of at most a size -/
structure SwOk (m : Nat) (a b c d : Int) : Prop where
  ne : a * d - b * c ≠ 0
  id : shortL [a, b, c, d] = [a, b, c, d]
  a : a.natAbs ≤ m
  b : b.natAbs ≤ m
  c : c.natAbs ≤ m
  d : d.natAbs ≤ m
theorem SwOk.up {m n : Nat} {a b c d : Int} (h : SwOk m a b c d) (hn : m ≤ n) : SwOk n a b c d := ⟨h.ne, h.id, Nat.le_trans h.a hn, Nat.le_trans h.b hn, Nat.le_trans h.c hn, Nat.le_trans h.d hn⟩
theorem nz4 {a b c d : Int} (h : a * d - b * c ≠ 0) : ∃ z ∈ [a, b, c, d], z ≠ 0 := by
  apply Classical.byContradiction
  intro hn
  have z : ∀ z ∈ [a, b, c, d], z = 0 := fun z hz => Classical.byContradiction fun q => hn ⟨z, hz, q⟩
  have z1 := z a (by simp)
  have z2 := z b (by simp)
  rw [z1, z2] at h
  simp at h
theorem abs_mul_le {k x : Int} (h : k ≠ 0) : x.natAbs ≤ (k * x).natAbs := by
  rw [Int.natAbs_mul]
  exact Nat.le_mul_of_pos_left _ (by omega)
/-- what a swing's four integers are made short to -/
theorem sw_short {m : Nat} {a b c d : Int} (h : a * d - b * c ≠ 0) (ha : a.natAbs ≤ m) (hb : b.natAbs ≤ m) (hc : c.natAbs ≤ m) (hd : d.natAbs ≤ m) :
    ∃ a' b' c' d' k, shortL [a, b, c, d] = [a', b', c', d'] ∧ SwOk m a' b' c' d' ∧ k ≠ 0 ∧ a = k * a' ∧ b = k * b' ∧ c = k * c' ∧ d = k * d' := by
  have hne := nz4 h
  obtain ⟨k, hk, e1⟩ := short_mul hne
  have hl := short_len [a, b, c, d]
  have hid := short_idem hne
  obtain ⟨A, B, C, E, eS⟩ : ∃ A B C E, shortL [a, b, c, d] = [A, B, C, E] := by
    rcases q : shortL [a, b, c, d] with _ | ⟨x, _ | ⟨y, _ | ⟨z, _ | ⟨u, _ | ⟨v, vs⟩⟩⟩⟩⟩ <;> rw [q] at hl <;> simp at hl
    exact ⟨x, y, z, u, rfl⟩
  rw [eS] at e1 hid
  simp only [List.map_cons, List.map_nil, List.cons.injEq, and_true] at e1
  obtain ⟨k1, k2, k3, k4⟩ := e1
  refine ⟨A, B, C, E, k, eS, ⟨fun z => h ?_, hid, ?_, ?_, ?_, ?_⟩, hk, k1, k2, k3, k4⟩
  · have : a * d - b * c = k * k * (A * E - B * C) := by rw [k1, k2, k3, k4]; grind
    rw [this, z, Int.mul_zero]
  · exact Nat.le_trans (abs_mul_le hk) (k1 ▸ ha)
  · exact Nat.le_trans (abs_mul_le hk) (k2 ▸ hb)
  · exact Nat.le_trans (abs_mul_le hk) (k3 ▸ hc)
  · exact Nat.le_trans (abs_mul_le hk) (k4 ▸ hd)
/-- two tables of four that are the same but for a factor -/
theorem sw_par {a b c d p q r t u v : Int} (hu : u ≠ 0) (hv : v ≠ 0) (h1 : a * d - b * c ≠ 0) (h2 : p * t - q * r ≠ 0) (e1 : u * a = v * p) (e2 : u * b = v * q) (e3 : u * c = v * r) (e4 : u * d = v * t) : shortL [a, b, c, d] = shortL [p, q, r, t] := by
  refine short_par (nz4 h1) (nz4 h2) hu hv ?_
  simp only [List.map_cons, List.map_nil, List.cons.injEq, and_true]
  exact ⟨e1, e2, e3, e4⟩
/-- two tables, the first one first -/
def rawL (p q r t a b c d : Int) : List Int := [a * p + b * r, a * q + b * t, c * p + d * r, c * q + d * t]
def prodL (p q r t a b c d : Int) : List Int := shortL (rawL p q r t a b c d)
def backL (a b c d : Int) : List Int := shortL [d, -b, -c, a]
theorem raw_ne {p q r t a b c d : Int} (h1 : p * t - q * r ≠ 0) (h2 : a * d - b * c ≠ 0) : (a * p + b * r) * (c * q + d * t) - (a * q + b * t) * (c * p + d * r) ≠ 0 := by
  have : (a * p + b * r) * (c * q + d * t) - (a * q + b * t) * (c * p + d * r) = (p * t - q * r) * (a * d - b * c) := by grind
  rw [this]
  exact Int.mul_ne_zero h1 h2
theorem sum_le {m n : Nat} {a b p r : Int} (ha : a.natAbs ≤ n) (hb : b.natAbs ≤ n) (hp : p.natAbs ≤ m) (hr : r.natAbs ≤ m) : (a * p + b * r).natAbs ≤ 2 * (m * n) := by
  have h1 : (a * p).natAbs ≤ n * m := by rw [Int.natAbs_mul]; exact Nat.mul_le_mul ha hp
  have h2 : (b * r).natAbs ≤ n * m := by rw [Int.natAbs_mul]; exact Nat.mul_le_mul hb hr
  rw [Nat.mul_comm] at h1 h2
  omega
theorem prod_ok {m n : Nat} {p q r t a b c d : Int} (x : SwOk m p q r t) (y : SwOk n a b c d) : ∃ a' b' c' d' k, prodL p q r t a b c d = [a', b', c', d'] ∧ SwOk (2 * (m * n)) a' b' c' d' ∧ k ≠ 0 ∧ a * p + b * r = k * a' ∧ a * q + b * t = k * b' ∧ c * p + d * r = k * c' ∧ c * q + d * t = k * d' :=
  sw_short (raw_ne x.ne y.ne) (sum_le y.a y.b x.a x.c) (sum_le y.a y.b x.b x.d) (sum_le y.c y.d x.a x.c) (sum_le y.c y.d x.b x.d)
theorem back_ne {a b c d : Int} (h : a * d - b * c ≠ 0) : d * a - -b * -c ≠ 0 := by
  intro z
  apply h
  grind
theorem back_ok {m : Nat} {a b c d : Int} (x : SwOk m a b c d) : ∃ a' b' c' d' k, backL a b c d = [a', b', c', d'] ∧ SwOk m a' b' c' d' ∧ k ≠ 0 ∧ d = k * a' ∧ -b = k * b' ∧ -c = k * c' ∧ a = k * d' :=
  sw_short (back_ne x.ne) x.d (by rw [Int.natAbs_neg]; exact x.b) (by rw [Int.natAbs_neg]; exact x.c) x.a
/-- how great a size may be that we reckon with -/
def great : Nat := 2 ^ 250
theorem great_sm {x : Int} (h : x.natAbs ≤ great) : Bd 251 x := ⟨Nat.lt_of_le_of_lt h (by unfold great; exact Nat.pow_lt_pow_right (by decide) (by decide))⟩
theorem big4 {n : Nat} {a b c d : Int} (hn : n ≤ 8000) (ha : Bd n a) (hb : Bd n b) (hc : Bd n c) (hd : Bd n d) : ∀ z ∈ [a, b, c, d], z.natAbs < 2 ^ 8000 := by
  intro z hz
  simp only [List.mem_cons, List.not_mem_nil, or_false] at hz
  rcases hz with e | e | e | e <;> rw [e]
  · exact big_of ha hn
  · exact big_of hb hn
  · exact big_of hc hn
  · exact big_of hd hn
end Px
end

section
set_option Elab.async false
set_option linter.all false
set_option maxRecDepth 100000
set_option maxHeartbeats 2000000
set_option exponentiation.threshold 10000
/-! Px: the defs about swings: what each gives. -/
namespace Px
open PySem (Str PyData)
theorem SwOk.bds {m : Nat} {a b c d : Int} (h : SwOk m a b c d) (hm : m ≤ great) : Bd 251 a ∧ Bd 251 b ∧ Bd 251 c ∧ Bd 251 d :=
  ⟨great_sm (Nat.le_trans h.a hm), great_sm (Nat.le_trans h.b hm), great_sm (Nat.le_trans h.c hm), great_sm (Nat.le_trans h.d hm)⟩
def MeasAt (G : Tab) (n : Nat) : Prop := ∀ (k : Nat) (s : Sto) (a b c d : Int), Bd 900 a → Bd 900 b → Bd 900 c → Bd 900 d → call G (k + 1) n [sw a b c d] s = .ok (.int (a * d - b * c)) s
theorem meas_at {G : Tab} {n : Nat} (h : G n = some q_measure) : MeasAt G n := by
  intro k s a b c d _ _ _ _
  rw [call_eq h]
  simp [q_measure, sw, mul_ok, endF]
def TraceAt (G : Tab) (n : Nat) : Prop := ∀ (k : Nat) (s : Sto) (a b c d : Int), call G (k + 1) n [sw a b c d] s = .ok (.int (a + d)) s
theorem trace_at {G : Tab} {n : Nat} (h : G n = some q_trace) : TraceAt G n := by
  intro k s a b c d
  rw [call_eq h]
  simp [q_trace, sw, endF]
def RawAt (G : Tab) (n : Nat) : Prop := ∀ (k : Nat) (s : Sto) (p q r t a b c d : Int), Bd 900 p → Bd 900 q → Bd 900 r → Bd 900 t → Bd 900 a → Bd 900 b → Bd 900 c → Bd 900 d → call G (k + 1) n [sw p q r t, sw a b c d] s = .ok (sw (a * p + b * r) (a * q + b * t) (c * p + d * r) (c * q + d * t)) s
theorem raw_at {G : Tab} {n : Nat} (h : G n = some q_raw_product) : RawAt G n := by
  intro k s p q r t a b c d _ _ _ _ _ _ _ _
  rw [call_eq h]
  simp [q_raw_product, sw, seqOf, mul_ok, endF]
theorem lraw_at {G : Tab} {n : Nat} (h : G n = some q_l_raw) : RawAt G n := by
  intro k s p q r t a b c d _ _ _ _ _ _ _ _
  rw [call_eq h]
  simp [q_l_raw, sw, mul_ok, endF]
theorem short4 {G : Tab} {n : Nat} (h : ShortAt G n) (k : Nat) (s : Sto) {m : Nat} (hm : m ≤ 8000) {a b c d : Int} (hn : a * d - b * c ≠ 0) (ha : Bd m a) (hb : Bd m b) (hc : Bd m c) (hd : Bd m d) : call G (k + 2) n [sw a b c d] s = .ok (.tup (iL (shortL [a, b, c, d]))) s :=
  h k [a, b, c, d] s (by simp) (nz4 hn) (big4 hm ha hb hc hd)
def ProdAt (G : Tab) (n : Nat) : Prop := ∀ (k : Nat) (s : Sto) (m l : Nat) (p q r t a b c d : Int), SwOk m p q r t → SwOk l a b c d → m ≤ great → l ≤ great → call G (k + 4) n [sw p q r t, sw a b c d] s = .ok (.tup (iL (prodL p q r t a b c d))) s
theorem prod_at {G : Tab} {n sh ra : Nat} (h : G n = some (q_product sh ra)) (hs : ShortAt G sh) (hr : RawAt G ra) : ProdAt G n := by
  intro k s m l p q r t a b c d x y hm hl
  obtain ⟨x1, x2, x3, x4⟩ := x.bds hm
  obtain ⟨y1, y2, y3, y4⟩ := y.bds hl
  have e1 := hr (k + 2) s p q r t a b c d (x1.up (by decide)) (x2.up (by decide)) (x3.up (by decide)) (x4.up (by decide)) (y1.up (by decide)) (y2.up (by decide)) (y3.up (by decide)) (y4.up (by decide))
  have e2 := short4 hs (k + 1) s (m := 1005) (by decide) (raw_ne x.ne y.ne) ((inferInstance : Bd _ (a * p + b * r)).up (by decide)) ((inferInstance : Bd _ (a * q + b * t)).up (by decide)) ((inferInstance : Bd _ (c * p + d * r)).up (by decide)) ((inferInstance : Bd _ (c * q + d * t)).up (by decide))
  rw [call_eq h]
  simp only [sw] at e1 e2
  simp [q_product, sw, e1, e2, endF, prodL, rawL]
def BackAt (G : Tab) (n : Nat) : Prop := ∀ (k : Nat) (s : Sto) (m : Nat) (a b c d : Int), SwOk m a b c d → m ≤ great → call G (k + 4) n [sw a b c d] s = .ok (.tup (iL (backL a b c d))) s
theorem back_at {G : Tab} {n sh : Nat} (h : G n = some (q_undone sh)) (hs : ShortAt G sh) : BackAt G n := by
  intro k s m a b c d x hm
  obtain ⟨x1, x2, x3, x4⟩ := x.bds hm
  have e2 := short4 hs (k + 1) s (m := 251) (by decide) (back_ne x.ne) x4 inferInstance inferInstance x1
  rw [call_eq h]
  simp only [sw] at e2
  simp [q_undone, sw, seqOf, e2, endF, backL]
theorem lback_at {G : Tab} {n sh : Nat} (h : G n = some (q_l_undone sh)) (hs : ShortAt G sh) : BackAt G n := by
  intro k s m a b c d x hm
  obtain ⟨x1, x2, x3, x4⟩ := x.bds hm
  have e2 := short4 hs (k + 1) s (m := 251) (by decide) (back_ne x.ne) x4 inferInstance inferInstance x1
  rw [call_eq h]
  simp only [sw] at e2
  simp [q_l_undone, sw, e2, endF, backL]
/-- an integer within bounds -/
def isWh (lo hi : Int) : D → Bool
  | .int i => decide (lo ≤ i) && decide (i ≤ hi)
  | _ => false
theorem isWh_int {lo hi : Int} {d : D} (h : isWh lo hi d = true) : ∃ i, d = .int i ∧ lo ≤ i ∧ i ≤ hi := by
  cases d with
  | int i =>
    obtain ⟨h1, h2⟩ := Bool.and_eq_true_iff.mp (show (decide (lo ≤ i) && decide (i ≤ hi)) = true from h)
    exact ⟨i, rfl, of_decide_eq_true h1, of_decide_eq_true h2⟩
  | _ => cases h
def isTo (lo hi : Int) : D → Bool
  | .tup xs => decide (lo ≤ xs.length) && decide ((xs.length : Int) ≤ hi)
  | _ => false
def WholeAt (G : Tab) (n : Nat) : Prop := ∀ (k : Nat) (d : D) (lo hi : Int) (s : Sto), plainD d = true → call G (k + 1) n [d, .int lo, .int hi] s = .ok (.bl (isWh lo hi d)) s
theorem whole_at {G : Tab} {n : Nat} (h : G n = some q_is_whole) : WholeAt G n := by
  intro k d lo hi s hd
  rw [call_eq h]
  cases d with
  | int v => by_cases q : lo ≤ v <;> simp [q_is_whole, isiD, isWh, q, endF]
  | _ => first
    | (cases hd; done)
    | simp [q_is_whole, isiD, isWh, endF]
def TupofAt (G : Tab) (n : Nat) : Prop := ∀ (k : Nat) (d : D) (lo hi : Int) (s : Sto), plainD d = true → call G (k + 1) n [d, .int lo, .int hi] s = .ok (.bl (isTo lo hi d)) s
theorem tupof_at {G : Tab} {n : Nat} (h : G n = some q_is_tuple_of) : TupofAt G n := by
  intro k d lo hi s hd
  rw [call_eq h]
  cases d with
  | tup xs => by_cases q : lo ≤ (xs.length : Int) <;> simp [q_is_tuple_of, isiD, isTo, biD, seqOf, q, endF]
  | _ => first
    | (cases hd; done)
    | simp [q_is_tuple_of, isiD, isTo, endF]
def NumAt (G : Tab) (n : Nat) : Prop := ∀ (k : Nat) (d : D) (lo hi : Int) (s : Sto), plainD d = true → call G (k + 2) n [d, .int lo, .int hi] s = .ok (.bl (isWh lo hi d)) s
theorem num_at {G : Tab} {n so : Nat} (h : G n = some (q_l_is_number so)) (hs : SortAt G so) : NumAt G n := by
  intro k d lo hi s hd
  have e := hs k d s hd
  rw [call_eq h]
  cases d with
  | int v => by_cases q : lo ≤ v <;> simp [q_l_is_number, e, sortV, isWh, q, endF]
  | _ => first
    | (cases hd; done)
    | simp [q_l_is_number, e, sortV, isWh, endF]
def intOf : D → Int
  | .int i => i
  | _ => 0
/-- whether a value is a swing of integers of at most a size -/
def isSw (m : Nat) : D → Bool
  | .tup [w, x, y, z] => (isWh (-m) m w && (isWh (-m) m x && (isWh (-m) m y && isWh (-m) m z))) && (decide (¬ (intOf w * intOf z - intOf x * intOf y = 0)) && decide (shortL [intOf w, intOf x, intOf y, intOf z] = [intOf w, intOf x, intOf y, intOf z]))
  | _ => false
theorem isSw_iff {m : Nat} {v : D} : isSw m v = true ↔ ∃ a b c d, v = sw a b c d ∧ SwOk m a b c d := by
  constructor
  · intro h
    unfold isSw at h
    split at h
    · rename_i w x y z
      simp only [Bool.and_eq_true] at h
      obtain ⟨⟨h1, h2, h3, h4⟩, h5, h6⟩ := h
      obtain ⟨a, rfl, a1, a2⟩ := isWh_int h1
      obtain ⟨b, rfl, b1, b2⟩ := isWh_int h2
      obtain ⟨c, rfl, c1, c2⟩ := isWh_int h3
      obtain ⟨d, rfl, d1, d2⟩ := isWh_int h4
      exact ⟨a, b, c, d, rfl, of_decide_eq_true h5, of_decide_eq_true h6, by omega, by omega, by omega, by omega⟩
    · cases h
  · rintro ⟨a, b, c, d, rfl, h⟩
    have := h.a; have := h.b; have := h.c; have := h.d
    have w : ∀ x : Int, x.natAbs ≤ m → isWh (-m) m (.int x) = true := fun x hx => by
      show (decide _ && decide _) = true
      rw [Bool.and_eq_true, decide_eq_true_eq, decide_eq_true_eq]
      omega
    show ((isWh (-m) m (.int a) && (isWh (-m) m (.int b) && (isWh (-m) m (.int c) && isWh (-m) m (.int d)))) && (decide (¬ (a * d - b * c = 0)) && decide (shortL [a, b, c, d] = [a, b, c, d]))) = true
    rw [w a h.a, w b h.b, w c h.c, w d h.d, decide_eq_true h.ne, decide_eq_true h.id]
    rfl
theorem four_of {xs : List D} (h : xs.length = 4) : ∃ w x y z, xs = [w, x, y, z] := by
  rcases xs with _ | ⟨w, _ | ⟨x, _ | ⟨y, _ | ⟨z, _ | ⟨u, us⟩⟩⟩⟩⟩ <;> simp at h
  exact ⟨w, x, y, z, rfl⟩
theorem isSw_not {m : Nat} {v : D} (h : ¬ ∃ w x y z, v = .tup [w, x, y, z]) : isSw m v = false := by
  unfold isSw
  split
  · rename_i w x y z
    exact absurd ⟨w, x, y, z, rfl⟩ h
  · rfl
def FitsAt (G : Tab) (n : Nat) : Prop := ∀ (k m N L : Nat) (v : D) (s : Sto), okD N L v = true → N ≤ 20 → m ≤ great → call G (k + 4) n [v, .int m] s = .ok (.bl (isSw m v)) s
theorem sw_tail {m : Nat} {w x y z : D} (h : (isWh (-m) m w && (isWh (-m) m x && (isWh (-m) m y && isWh (-m) m z))) = true) : ∃ a b c d, w = .int a ∧ x = .int b ∧ y = .int c ∧ z = .int d ∧ a.natAbs ≤ m ∧ b.natAbs ≤ m ∧ c.natAbs ≤ m ∧ d.natAbs ≤ m := by
  simp only [Bool.and_eq_true] at h
  obtain ⟨h1, h2, h3, h4⟩ := h
  obtain ⟨a, rfl, a1, a2⟩ := isWh_int h1
  obtain ⟨b, rfl, b1, b2⟩ := isWh_int h2
  obtain ⟨c, rfl, c1, c2⟩ := isWh_int h3
  obtain ⟨d, rfl, d1, d2⟩ := isWh_int h4
  exact ⟨a, b, c, d, rfl, rfl, rfl, rfl, by omega, by omega, by omega, by omega⟩
theorem parts_of {N L : Nat} {w x y z : D} (h : okD N L (.tup [w, x, y, z]) = true) : ∃ M, N = M + 1 ∧ okD M L w = true ∧ okD M L x = true ∧ okD M L y = true ∧ okD M L z = true := by
  cases N with
  | zero => cases h
  | succ M =>
    obtain ⟨_, q⟩ := okD_tup.mp h
    exact ⟨M, rfl, q w (by simp), q x (by simp), q y (by simp), q z (by simp)⟩
theorem fits_at {G : Tab} {n tu wh me sh : Nat} (h : G n = some (q_fits_swing tu wh me sh)) (ht : TupofAt G tu) (hw : WholeAt G wh) (hm : MeasAt G me) (hs : ShortAt G sh) : FitsAt G n := by
  intro k m N L v s hv hN hg
  have hp := okD_plain hv
  have f4 : fit 4 = true := by decide
  have e0 := ht (k + 2) v 4 4 s hp
  rw [call_eq h]
  by_cases hq : ∃ w x y z, v = .tup [w, x, y, z]
  · obtain ⟨w, x, y, z, rfl⟩ := hq
    obtain ⟨M, rfl, pw, px, py, pz⟩ := parts_of hv
    have e1 := hw (k + 2) w (-m) m s (okD_plain pw)
    have e2 := hw (k + 2) x (-m) m s (okD_plain px)
    have e3 := hw (k + 2) y (-m) m s (okD_plain py)
    have e4 := hw (k + 2) z (-m) m s (okD_plain pz)
    have e5 : isTo 4 4 (.tup [w, x, y, z]) = true := rfl
    rw [e5] at e0
    by_cases hb : (isWh (-m) m w && (isWh (-m) m x && (isWh (-m) m y && isWh (-m) m z))) = true
    · obtain ⟨a, b, c, d, rfl, rfl, rfl, rfl, ha, hb', hc, hd⟩ := sw_tail hb
      have i1 : Bd 251 a := great_sm (Nat.le_trans ha hg)
      have i2 : Bd 251 b := great_sm (Nat.le_trans hb' hg)
      have i3 : Bd 251 c := great_sm (Nat.le_trans hc hg)
      have i4 : Bd 251 d := great_sm (Nat.le_trans hd hg)
      have m1 := hm (k + 2) s a b c d (i1.up (by decide)) (i2.up (by decide)) (i3.up (by decide)) (i4.up (by decide))
      have eis : isSw m (.tup [.int a, .int b, .int c, .int d]) = (decide (¬ (a * d - b * c = 0)) && decide (shortL [a, b, c, d] = [a, b, c, d])) := by
        show ((isWh (-m) m (.int a) && (isWh (-m) m (.int b) && (isWh (-m) m (.int c) && isWh (-m) m (.int d)))) && _) = _
        rw [hb]
        rfl
      simp only [Bool.and_eq_true] at hb
      obtain ⟨b1, b2, b3, b4⟩ := hb
      rw [b1] at e1
      rw [b2] at e2
      rw [b3] at e3
      rw [b4] at e4
      rw [eis]
      simp only [sw] at m1
      by_cases hz : a * d - b * c = 0
      · simp [q_fits_swing, e0, f4, compL, itemZ_eq, wipe, e1, e2, e3, e4, biD, lsR, mapO, blO, m1, hz, endF]
      · have q := short4 hs (k + 1) s (m := 251) (by decide) hz i1 i2 i3 i4
        have qq := eq_ints s (shortL [a, b, c, d]) [a, b, c, d]
        simp only [sw] at q
        simp only [iL, List.map_cons, List.map_nil] at q qq
        simp [q_fits_swing, e0, f4, compL, itemZ_eq, wipe, e1, e2, e3, e4, biD, lsR, mapO, blO, m1, hz, q, qq, endF]
    · have eis : isSw m (.tup [w, x, y, z]) = false := by
        have : (isWh (-m) m w && (isWh (-m) m x && (isWh (-m) m y && isWh (-m) m z))) = false := by simpa using hb
        show (((isWh (-m) m w && (isWh (-m) m x && (isWh (-m) m y && isWh (-m) m z)))) && _) = _
        rw [this]
        rfl
      rw [eis]
      generalize isWh (-m) m w = b1 at *
      generalize isWh (-m) m x = b2 at *
      generalize isWh (-m) m y = b3 at *
      generalize isWh (-m) m z = b4 at *
      cases b1 <;> cases b2 <;> cases b3 <;> cases b4 <;> first
        | exact absurd rfl hb
        | simp [q_fits_swing, e0, f4, compL, itemZ_eq, wipe, e1, e2, e3, e4, biD, lsR, mapO, blO, endF]
  · rw [isSw_not hq]
    have e5 : isTo 4 4 v = false := by
      cases v with
      | tup xs =>
        have : ¬ xs.length = 4 := fun zz => by
          obtain ⟨w, x, y, z, rfl⟩ := four_of zz
          exact hq ⟨w, x, y, z, rfl⟩
        show (decide _ && decide _) = false
        by_cases h4 : (4 : Int) ≤ xs.length
        · rw [decide_eq_true h4, decide_eq_false (by omega)]; rfl
        · rw [decide_eq_false h4]; rfl
      | _ => rfl
    rw [e5] at e0
    simp [q_fits_swing, e0, endF]
theorem isw_at {G : Tab} {n nu me sh : Nat} (h : G n = some (q_l_is_swing nu me sh)) (hn : NumAt G nu) (hm : MeasAt G me) (hs : ShortAt G sh) : FitsAt G n := by
  intro k m N L v s hv hN hg
  have hp := okD_plain hv
  have f4 : fit 4 = true := by decide
  rw [call_eq h]
  by_cases hq : ∃ w x y z, v = .tup [w, x, y, z]
  · obtain ⟨w, x, y, z, rfl⟩ := hq
    obtain ⟨M, rfl, pw, px, py, pz⟩ := parts_of hv
    have e1 := hn (k + 1) w (-m) m s (okD_plain pw)
    have e2 := hn (k + 1) x (-m) m s (okD_plain px)
    have e3 := hn (k + 1) y (-m) m s (okD_plain py)
    have e4 := hn (k + 1) z (-m) m s (okD_plain pz)
    have up : ∀ {d : D}, okD M L d = true → okD 20 L d = true := fun q => okD_mono (Nat.le_refl _) q (by omega)
    by_cases hb : (isWh (-m) m w && (isWh (-m) m x && (isWh (-m) m y && isWh (-m) m z))) = true
    · obtain ⟨a, b, c, d, rfl, rfl, rfl, rfl, ha, hb', hc, hd⟩ := sw_tail hb
      have i1 : Bd 251 a := great_sm (Nat.le_trans ha hg)
      have i2 : Bd 251 b := great_sm (Nat.le_trans hb' hg)
      have i3 : Bd 251 c := great_sm (Nat.le_trans hc hg)
      have i4 : Bd 251 d := great_sm (Nat.le_trans hd hg)
      have m1 := hm (k + 2) s a b c d (i1.up (by decide)) (i2.up (by decide)) (i3.up (by decide)) (i4.up (by decide))
      have eis : isSw m (.tup [.int a, .int b, .int c, .int d]) = (decide (¬ (a * d - b * c = 0)) && decide (shortL [a, b, c, d] = [a, b, c, d])) := by
        show ((isWh (-m) m (.int a) && (isWh (-m) m (.int b) && (isWh (-m) m (.int c) && isWh (-m) m (.int d)))) && _) = _
        rw [hb]
        rfl
      simp only [Bool.and_eq_true] at hb
      obtain ⟨b1, b2, b3, b4⟩ := hb
      rw [b1] at e1
      rw [b2] at e2
      rw [b3] at e3
      rw [b4] at e4
      rw [eis]
      simp only [sw] at m1
      by_cases hz : a * d - b * c = 0
      · simp [q_l_is_swing, isiD, biD, seqOf, f4, compL, itemZ_eq, wipe, e1, e2, e3, e4, m1, hz, endF]
      · have q := short4 hs (k + 1) s (m := 251) (by decide) hz i1 i2 i3 i4
        have qq := eq_ints s (shortL [a, b, c, d]) [a, b, c, d]
        simp only [sw] at q
        simp only [iL, List.map_cons, List.map_nil] at q qq
        simp [q_l_is_swing, isiD, biD, seqOf, f4, compL, itemZ_eq, wipe, e1, e2, e3, e4, m1, hz, q, qq, endF]
    · have eis : isSw m (.tup [w, x, y, z]) = false := by
        have : (isWh (-m) m w && (isWh (-m) m x && (isWh (-m) m y && isWh (-m) m z))) = false := by simpa using hb
        show (((isWh (-m) m w && (isWh (-m) m x && (isWh (-m) m y && isWh (-m) m z)))) && _) = _
        rw [this]
        rfl
      rw [eis]
      generalize isWh (-m) m w = b1 at *
      generalize isWh (-m) m x = b2 at *
      generalize isWh (-m) m y = b3 at *
      generalize isWh (-m) m z = b4 at *
      have nl := fun (xs : List D) (hx : ∀ x ∈ xs, okD 20 L x = true) => eq_nil_lst s hx
      cases b1 <;> cases b2 <;> cases b3 <;> cases b4 <;> first
        | exact absurd rfl hb
        | (simp [q_l_is_swing, isiD, biD, seqOf, f4, compL, itemZ_eq, wipe, e1, e2, e3, e4, endF]
           rw [eq_nil_lst (L := L) s (by simp [up pw, up px, up py, up pz])]
           simp)
  · rw [isSw_not hq]
    cases v with
    | tup xs =>
      have : ¬ (xs.length : Int) = 4 := fun zz => by
        obtain ⟨w, x, y, z, rfl⟩ := four_of (xs := xs) (by omega)
        exact hq ⟨w, x, y, z, rfl⟩
      simp [q_l_is_swing, isiD, biD, seqOf, this, endF]
    | _ => first
      | (cases hp; done)
      | simp [q_l_is_swing, isiD, endF]
def NeedAt (G : Tab) (n : Nat) : Prop := ∀ (k : Nat) (a b c d : Int) (s : Sto), SwOk 10000 a b c d → call G (k + 5) n [sw a b c d] s = .ok .non s
theorem ok_sw {m : Nat} {a b c d : Int} (h : SwOk m a b c d) : okD 2 4 (sw a b c d) = true := rfl
theorem need_at {G : Tab} {n fi xc : Nat} (h : G n = some (q_need_swing fi xc)) (hf : FitsAt G fi) : NeedAt G n := by
  intro k a b c d s x
  have e := hf k 10000 2 4 (sw a b c d) s rfl (by decide) (by unfold great; exact Nat.le_trans (show 10000 ≤ 2 ^ 20 by decide) (Nat.pow_le_pow_right (by decide) (by decide)))
  rw [isSw_iff.mpr ⟨a, b, c, d, rfl, x⟩] at e
  rw [call_eq h]
  simp only [sw] at e
  simp at e
  simp [q_need_swing, sw, e, endF]
end Px
end

section
set_option Elab.async false
set_option linter.all false
set_option maxRecDepth 100000
set_option maxHeartbeats 2000000
set_option exponentiation.threshold 10000
/-! Px: swings drawn at random. -/
namespace Px
open PySem (Str PyData)
theorem le_great {m : Nat} (h : m ≤ 10000) : m ≤ great := by
  unfold great
  exact Nat.le_trans h (Nat.le_trans (show 10000 ≤ 2 ^ 20 by decide) (Nat.pow_le_pow_right (by decide) (by decide)))
def SwingAt (G : Tab) (n : Nat) : Prop := ∀ (k g : Nat) (s rest : Sto), Cup s rest → 1 ≤ g → g ≤ 10000 → Wp (call G (k + 4) n [.cel 0, .int g] s) fun d s' => ∃ a b c e, d = sw a b c e ∧ SwOk g a b c e ∧ Cup s' rest
theorem swing_at {G : Tab} {n ro so sh : Nat} (h : G n = some (q_l_swing ro so sh)) (hr : RollAt G ro) (hs : SomeAt G so) (hsh : ShortAt G sh) : SwingAt G n := by
  intro k g s rest hc g1 g2
  have f4 : fit 4 = true := by decide
  have ig : Bd 14 (g : Int) := bd_le (m := 10000) (by omega) (by decide)
  have i2 : Bd 2 2 := ⟨by decide⟩
  have mg : mulOk 2 g = true := mul_ok (by decide)
  have fin : ∀ (a b c e : Int) (s : Sto), Cup s rest → a * e - b * c ≠ 0 → a.natAbs ≤ g → b.natAbs ≤ g → c.natAbs ≤ g → e.natAbs ≤ g → ∃ a' b' c' e', call G (k + 3) sh [.tup [.int a, .int b, .int c, .int e]] s = .ok (sw a' b' c' e') s ∧ SwOk g a' b' c' e' := by
    intro a b c e s hc hn ha hb hc' he
    have q := short4 hsh (k + 1) s (m := 14) (by decide) hn (bd_le (Nat.le_trans ha g2) (by decide)) (bd_le (Nat.le_trans hb g2) (by decide)) (bd_le (Nat.le_trans hc' g2) (by decide)) (bd_le (Nat.le_trans he g2) (by decide))
    obtain ⟨a', b', c', e', _, eS, ok, _⟩ := sw_short hn ha hb hc' he
    rw [eS] at q
    exact ⟨a', b', c', e', q, ok⟩
  rw [call_eq h]
  simp [q_l_swing, rngD, smallI, rngL, f4, compL, itemZ_eq, wipe, mg]
  refine (hr (k + 2) (2 * g + 1) s rest hc (by omega) (by omega)).mono ?_
  rintro d s1 ⟨x, rfl, x0, x1, hc1⟩
  simp
  refine (hr (k + 2) (2 * g + 1) s1 rest hc1 (by omega) (by omega)).mono ?_
  rintro d s2 ⟨y, rfl, y0, y1, hc2⟩
  simp
  refine (hr (k + 2) (2 * g + 1) s2 rest hc2 (by omega) (by omega)).mono ?_
  rintro d s3 ⟨z, rfl, z0, z1, hc3⟩
  simp
  refine (hr (k + 2) (2 * g + 1) s3 rest hc3 (by omega) (by omega)).mono ?_
  rintro d s4 ⟨u, rfl, u0, u1, hc4⟩
  obtain ⟨a, ea⟩ : ∃ a, x - g = a := ⟨_, rfl⟩
  obtain ⟨b, eb⟩ : ∃ b, y - g = b := ⟨_, rfl⟩
  obtain ⟨c, ec⟩ : ∃ c, z - g = c := ⟨_, rfl⟩
  obtain ⟨e, ee⟩ : ∃ e, u - g = e := ⟨_, rfl⟩
  have ha : a.natAbs ≤ g := by omega
  have hb : b.natAbs ≤ g := by omega
  have hc' : c.natAbs ≤ g := by omega
  have he : e.natAbs ≤ g := by omega
  have i1 : Bd 14 a := bd_le (Nat.le_trans ha g2) (by decide)
  have i2 : Bd 14 b := bd_le (Nat.le_trans hb g2) (by decide)
  have i3 : Bd 14 c := bd_le (Nat.le_trans hc' g2) (by decide)
  have i4 : Bd 14 e := bd_le (Nat.le_trans he g2) (by decide)
  by_cases hn : a * e = b * c
  · simp [ea, eb, ec, ee, mul_ok, hn]
    refine (hr (k + 2) (g + 1) s4 rest hc4 (by omega) (by omega)).mono ?_
    rintro d s5 ⟨v, rfl, v0, v1, hc5⟩
    try simp
    refine (hs (k + 1) [.int 1, .int 1, .int (-1), .int g] s5 rest hc5 (by simp) (by simp)).mono ?_
    rintro d s6 ⟨hd, hc6⟩
    obtain ⟨w, rfl, w0, w1⟩ : ∃ w, d = .int w ∧ w ≠ 0 ∧ w.natAbs ≤ g := by
      simp only [List.mem_cons, List.not_mem_nil, or_false] at hd
      rcases hd with rfl | rfl | rfl | rfl
      · exact ⟨1, rfl, by decide, by omega⟩
      · exact ⟨1, rfl, by decide, by omega⟩
      · exact ⟨-1, rfl, by decide, by omega⟩
      · exact ⟨g, rfl, by omega, by omega⟩
    obtain ⟨a', b', c', e', q, ok⟩ := fin 1 v 0 w s6 hc6 (by omega) (by omega) (by omega) (by omega) w1
    simp [biD, lsR, q]
    exact ⟨a', b', c', e', ⟨rfl, rfl, rfl, rfl⟩, ok, hc6⟩
  · obtain ⟨a', b', c', e', q, ok⟩ := fin a b c e s4 hc4 (by omega) ha hb hc' he
    simp [ea, eb, ec, ee, mul_ok, hn, biD, lsR, q]
    exact ⟨a', b', c', e', ⟨rfl, rfl, rfl, rfl⟩, ok, hc4⟩
def MovedAt (G : Tab) (n : Nat) : Prop := ∀ (k m : Nat) (s rest : Sto) (a b c d : Int), Cup s rest → SwOk m a b c d → m ≤ 600 → Wp (call G (k + 5) n [.cel 0, sw a b c d] s) fun x s' => ∃ a b c d, x = sw a b c d ∧ SwOk 10000 a b c d ∧ Cup s' rest
theorem moved_at {G : Tab} {n sg pr un : Nat} (h : G n = some (q_l_moved sg pr un)) (hs : SwingAt G sg) (hp : ProdAt G pr) (hu : BackAt G un) : MovedAt G n := by
  intro k m s rest a b c d hc x hm
  rw [call_eq h]
  simp [q_l_moved]
  refine (hs k 2 s rest hc (by decide) (by decide)).mono ?_
  rintro _ s1 ⟨p, q, r, t, rfl, y, hc1⟩
  have e1 := hu k s1 2 p q r t y (le_great (by decide))
  obtain ⟨p', q', r', t', _, eb, z, _⟩ := back_ok y
  rw [eb] at e1
  have e2 := hp k s1 2 m p' q' r' t' a b c d z x (le_great (by decide)) (le_great (by omega))
  obtain ⟨a2, b2, c2, d2, _, ep, z2, _⟩ := prod_ok z x
  rw [ep] at e2
  have e3 := hp k s1 (2 * (2 * m)) 2 a2 b2 c2 d2 p q r t z2 y (le_great (by omega)) (le_great (by decide))
  obtain ⟨a3, b3, c3, d3, _, ep2, z3, _⟩ := prod_ok z2 y
  rw [ep2] at e3
  simp only [iL, List.map_cons, List.map_nil, sw] at e1 e2 e3
  simp [sw, e1, e2, e3]
  exact ⟨a3, b3, c3, d3, ⟨rfl, rfl, rfl, rfl⟩, z3.up (by omega), hc1⟩
def DrawAt (G : Tab) (n : Nat) : Prop := ∀ (k : Nat) (s rest : Sto), Cup s rest → Wp (call G (k + 8) n [.cel 0] s) fun x s' => ∃ a b c d, x = sw a b c d ∧ SwOk 10000 a b c d ∧ Cup s' rest
theorem home_at {G : Tab} {n mo so : Nat} (h : G n = some (q_l_home mo so)) (hm : MovedAt G mo) (hs : SomeAt G so) : DrawAt G n := by
  intro k s rest hc
  rw [call_eq h]
  simp [q_l_home]
  refine (hs (k + 5) [sw 1 0 0 1, sw 0 1 1 0, sw 0 1 (-1) 0, sw 0 1 (-1) 1, sw 1 1 (-1) 1, sw 1 1 (-1) 2, sw 1 0 0 (-1), sw 0 3 1 0] s rest hc (by simp) (by simp)).mono ?_
  rintro d s1 ⟨hd, hc1⟩
  obtain ⟨a, b, c, e, rfl, x⟩ : ∃ a b c e, d = sw a b c e ∧ SwOk 3 a b c e := by
    simp only [List.mem_cons, List.not_mem_nil, or_false] at hd
    rcases hd with rfl | rfl | rfl | rfl | rfl | rfl | rfl | rfl <;> exact ⟨_, _, _, _, rfl, by decide, by decide, by decide, by decide, by decide, by decide⟩
  try simp
  exact hm (k + 2) 3 s1 rest a b c e hc1 x (by decide)
def AnyAt (G : Tab) (n : Nat) : Prop := ∀ (k : Nat) (s rest : Sto), Cup s rest → Wp (call G (k + 9) n [.cel 0] s) fun x s' => ∃ a b c d, x = sw a b c d ∧ SwOk 10000 a b c d ∧ Cup s' rest
theorem any_at {G : Tab} {n ro ho mo sh so sg : Nat} (h : G n = some (q_l_any ro ho mo sh so sg)) (hr : RollAt G ro) (hh : DrawAt G ho) (hm : MovedAt G mo) (hsh : ShortAt G sh) (hs : SomeAt G so) (hsg : SwingAt G sg) : AnyAt G n := by
  intro k s rest hc
  have p4 : powOk 10 4 = true := by decide
  rw [call_eq h]
  simp [q_l_any]
  refine (hr (k + 7) 6 s rest hc (by decide) (by decide)).mono ?_
  rintro d s1 ⟨v, rfl, v0, v1, hc1⟩
  by_cases h0 : v = 0
  · simp [h0]
    exact (hh k s1 rest hc1)
  · by_cases h1 : v = 1
    · simp [h1]
      refine (hr (k + 7) 5 s1 rest hc1 (by decide) (by decide)).mono ?_
      rintro d s2 ⟨w, rfl, w0, w1, hc2⟩
      have x : SwOk 5 1 (1 + w) 0 1 := by
        obtain ⟨j, rfl, hj⟩ : ∃ j : Nat, w = j ∧ j < 5 := ⟨w.toNat, by omega, by omega⟩
        rcases j with _ | _ | _ | _ | _ | j
        · exact ⟨by decide, by decide, by decide, by decide, by decide, by decide⟩
        · exact ⟨by decide, by decide, by decide, by decide, by decide, by decide⟩
        · exact ⟨by decide, by decide, by decide, by decide, by decide, by decide⟩
        · exact ⟨by decide, by decide, by decide, by decide, by decide, by decide⟩
        · exact ⟨by decide, by decide, by decide, by decide, by decide, by decide⟩
        · omega
      simp
      exact hm (k + 3) 5 s2 rest 1 (1 + w) 0 1 hc2 x (by decide)
    · by_cases h2 : v = 2
      · simp [h2]
        refine (hr (k + 7) 6 s1 rest hc1 (by decide) (by decide)).mono ?_
        rintro d s2 ⟨w, rfl, w0, w1, hc2⟩
        simp
        refine (hs (k + 6) [.int 1, .int (-1), .int 2, .int 3] s2 rest hc2 (by simp) (by simp)).mono ?_
        rintro d s3 ⟨hd, hc3⟩
        obtain ⟨u, rfl, u0, u1⟩ : ∃ u, d = .int u ∧ u ≠ 0 ∧ u.natAbs ≤ 6 := by
          simp only [List.mem_cons, List.not_mem_nil, or_false] at hd
          rcases hd with rfl | rfl | rfl | rfl
          · exact ⟨1, rfl, by decide, by decide⟩
          · exact ⟨-1, rfl, by decide, by decide⟩
          · exact ⟨2, rfl, by decide, by decide⟩
          · exact ⟨3, rfl, by decide, by decide⟩
        have hn : (1 + w) * u - 0 * 0 ≠ 0 := by
          have := Int.mul_ne_zero (a := 1 + w) (b := u) (by omega) u0
          omega
        have a1 : (1 + w).natAbs ≤ 6 := by omega
        have q := short4 hsh (k + 6) s3 (m := 14) (by decide) hn (bd_le a1 (by decide)) (bd_le (m := 6) (by decide) (by decide)) (bd_le (m := 6) (by decide) (by decide)) (bd_le u1 (by decide))
        obtain ⟨a', b', c', e', _, eS, ok, _⟩ := sw_short hn a1 (show (0 : Int).natAbs ≤ 6 by decide) (show (0 : Int).natAbs ≤ 6 by decide) u1
        rw [eS] at q
        simp only [iL, List.map_cons, List.map_nil, sw] at q
        simp [q]
        exact hm (k + 3) 6 s3 rest a' b' c' e' hc3 ok (by decide)
      · simp [h0, h1, h2, p4]
        refine (hs (k + 6) [.int 1, .int 3, .int 10, .int 10000] s1 rest hc1 (by simp) (by simp)).mono ?_
        rintro d s2 ⟨hd, hc2⟩
        obtain ⟨g, rfl, g1, g2⟩ : ∃ g : Nat, d = .int g ∧ 1 ≤ g ∧ g ≤ 10000 := by
          simp only [List.mem_cons, List.not_mem_nil, or_false] at hd
          rcases hd with rfl | rfl | rfl | rfl
          · exact ⟨1, rfl, by decide, by decide⟩
          · exact ⟨3, rfl, by decide, by decide⟩
          · exact ⟨10, rfl, by decide, by decide⟩
          · exact ⟨10000, rfl, by decide, by decide⟩
        try simp
        refine (hsg (k + 4) g s2 rest hc2 g1 g2).mono ?_
        rintro x s3 ⟨a, b, c, e, rfl, ok, hc3⟩
        exact ⟨a, b, c, e, rfl, ok.up g2, hc3⟩
end Px
end

section
set_option Elab.async false
set_option linter.all false
set_option maxRecDepth 100000
set_option maxHeartbeats 1000000
set_option exponentiation.threshold 10000
/-! k01: triples. -/
namespace Px
open PySem (Str PyData)
def tr (a b c : Int) : D := .tup [.int a, .int b, .int c]
theorem fdiv_neg (x : Int) {g : Int} (hg : 0 < g) : x.fdiv (-g) = -x / g := by
  rw [← Int.neg_fdiv_neg, Int.neg_neg, Int.fdiv_eq_ediv_of_nonneg _ (by omega)]
theorem gcd3 (a b c : Int) : gcdL 0 [a, b, c] = Nat.gcd (Nat.gcd a.natAbs b.natAbs) c.natAbs := by
  simp [gcdL]
theorem short_three (a b c : Int) : shortL [a, b, c] = if 0 < firstL [a, b, c] then [a / (gcdL 0 [a, b, c] : Nat), b / (gcdL 0 [a, b, c] : Nat), c / (gcdL 0 [a, b, c] : Nat)] else [-a / (gcdL 0 [a, b, c] : Nat), -b / (gcdL 0 [a, b, c] : Nat), -c / (gcdL 0 [a, b, c] : Nat)] := by
  unfold shortL
  split <;> rfl
section
variable {P : PC} {s : Sto}
/-- the first that is not 0 -/
theorem first_den {ρ : Env} {i : Nat} {it : RE} {xs : List Int} (hi : i < ρ.length) (hl : xs.length ≤ 1000) (hn : ∃ x ∈ xs, x ≠ 0) (hit : den it P ρ s = .ok (.lst (iL xs)) s) :
    den (.sub (.comp false (.var i) [i] (.name i) it (.cmp .ne (.var i) (.c (.int 0)))) (.c (.int 0))) P ρ s = .ok (.int (firstL xs)) s := by
  have hfit : fit (iL xs).length = true := fit_of (by simp [iL]; omega)
  obtain ⟨ys, hf⟩ := first_cons hn
  have c1 : compL (itemZ (den (.cmp .ne (.var i) (.c (.int 0))) P) (den (.var i) P) [i] (.name i) ρ) (iL xs) [] s = .ok (iL (xs.filter (fun x => decide (x ≠ 0)))) s := by
    rw [wp_compL (g := nzD)]
    · rw [List.nil_append, nz_filter]
    · intro d hd
      obtain ⟨x, _, rfl⟩ := List.mem_map.mp hd
      have e : ∀ d : D, ((ρ.set i none).set i (some d))[i]? = some (some d) := fun d => by simp [hi]
      by_cases z : x = 0 <;> simp [itemZ_eq, wipe, z, nzD, e, hi]
  have a1 : atI (D.int (firstL xs) :: iL ys) 0 = some (.int (firstL xs)) := by
    unfold atI ixN
    rw [if_pos (by decide), if_pos (by simp [List.length_cons])]
    rfl
  have e3 : iL (xs.filter fun x => decide (x ≠ 0)) = D.int (firstL xs) :: iL ys := by rw [hf]; rfl
  rw [e3] at c1
  simp [hit, hfit, c1, subD, seqOf, a1]
end
/-- the greatest divisor in steps -/
def euN : Nat → Nat → Nat → Nat × Nat
  | 0, a, b => (a, b)
  | n + 1, a, b => if 0 < b then euN n b (a % b) else euN n a b
theorem euN_zero : ∀ n a, euN n a 0 = (a, 0)
  | 0, _ => rfl
  | n + 1, a => by
    rw [euN, if_neg (by decide)]
    exact euN_zero n a
theorem euN_gcd : ∀ (n m a b : Nat), b < 2 ^ n → 2 * n + 1 ≤ m → euN m a b = (Nat.gcd a b, 0)
  | 0, m, a, b, hb, _ => by
    have : b = 0 := by simpa using hb
    subst this
    rw [euN_zero, Nat.gcd_zero_right]
  | n + 1, m, a, b, hb, hm => by
    by_cases z : 0 < b
    · obtain ⟨m, rfl⟩ : ∃ m', m = m' + 1 := ⟨m - 1, by omega⟩
      rw [euN, if_pos z]
      have gb : Nat.gcd b (a % b) = Nat.gcd a b := by rw [Nat.gcd_comm b, ← Nat.gcd_rec, Nat.gcd_comm]
      rw [← gb]
      have hr := Nat.mod_lt a z
      generalize a % b = r at hr
      by_cases zr : 0 < r
      · obtain ⟨m, rfl⟩ : ∃ m', m = m' + 1 := ⟨m - 1, by omega⟩
        rw [euN, if_pos zr]
        have h1 := Nat.mod_lt b zr
        have h2 := Nat.div_add_mod b r
        have h3 : 1 ≤ b / r := (Nat.one_le_div_iff zr).mpr (by omega)
        have h4 : r ≤ r * (b / r) := Nat.le_mul_of_pos_right _ h3
        rw [Nat.pow_succ] at hb
        rw [euN_gcd n m r (b % r) (by omega) (by omega)]
        rw [Nat.gcd_comm r, ← Nat.gcd_rec, Nat.gcd_comm]
      · have : r = 0 := by omega
        subst this
        rw [euN_zero, Nat.gcd_zero_right]
    · have : b = 0 := by omega
      subst this
      rw [euN_zero, Nat.gcd_zero_right]
def div_step : RS := (.seq (.ifs (.cmp .eq (.var 1) (.c (.int 0))) (.seq (.ret (.var 0)) .pass) .pass) (.seq (.set (.tup (.cons (.name 0) (.cons (.name 1) .nil))) (.tup (.cons (.var 1) (.cons (.bin .mod false (.var 0) (.var 1)) .nil)))) .pass))
theorem div_for (P : PC) (s : Sto) : ∀ (xs : List D) (a b : Nat) (v : Option D), (∃ v', forL (turnF (ex div_step P) (.name 2)) xs [some (.int a), some (.int b), v] s = .nx [some (.int (euN xs.length a b).1), some (.int (euN xs.length a b).2), v'] s) ∨ forL (turnF (ex div_step P) (.name 2)) xs [some (.int a), some (.int b), v] s = .rt (.int (euN xs.length a b).1) s
  | [], a, b, v => .inl ⟨v, rfl⟩
  | x :: xs, a, b, v => by
    by_cases z : 0 < b
    · have ih := div_for P s xs b (a % b) (some x)
      have zi : (0 : Int) < (b : Nat) := by omega
      have zn : ¬ (b : Int) = 0 := by omega
      have e1 : turnF (ex div_step P) (.name 2) x [some (.int a), some (.int b), v] s = .nx [some (.int b), some (.int ((a % b : Nat) : Int)), some x] s := by
        simp [turnF, div_step, seqOf, biD, z, (show ¬ b = 0 by omega)]
      have e2 : forL (turnF (ex div_step P) (.name 2)) (x :: xs) [some (.int a), some (.int b), v] s = forL (turnF (ex div_step P) (.name 2)) xs [some (.int b), some (.int ((a % b : Nat) : Int)), some x] s := by
        show (turnF _ _ x _ s).turn _ = _
        rw [e1]
        rfl
      rw [e2, List.length_cons, euN, if_pos z]
      exact ih
    · have : b = 0 := by omega
      subst this
      refine .inr ?_
      rw [euN_zero]
      rfl
section
variable {α : Type} {f : D → Sto → R (Option D)} {s : Sto} {t : α → D}
theorem compL_to (g : α → D) : ∀ {vs : List α} {acc : List D}, (∀ v ∈ vs, f (t v) s = .ok (some (g v)) s) → compL f (vs.map t) acc s = .ok (acc ++ vs.map g) s
  | [], acc, _ => by simp [compL]
  | v :: vs, acc, h => by
    show (f (t v) s).calm _ = _
    rw [h v List.mem_cons_self]
    show compL f (vs.map t) (acc ++ [g v]) s = _
    rw [compL_to g fun w hw => h w (List.mem_cons_of_mem _ hw), List.append_assoc]
    rfl
theorem compL_fi (p : α → Bool) : ∀ {vs : List α} {acc : List D}, (∀ v ∈ vs, f (t v) s = .ok (if p v = true then some (t v) else none) s) → compL f (vs.map t) acc s = .ok (acc ++ (vs.filter p).map t) s
  | [], acc, _ => by simp [compL]
  | v :: vs, acc, h => by
    have ih := fun acc => compL_fi p (vs := vs) (acc := acc) fun w hw => h w (List.mem_cons_of_mem _ hw)
    show (f (t v) s).calm _ = _
    rw [h v List.mem_cons_self]
    by_cases q : p v = true
    · rw [if_pos q, List.filter_cons_of_pos q]
      show compL f (vs.map t) (acc ++ [t v]) s = _
      rw [ih, List.append_assoc]
      rfl
    · rw [if_neg q, List.filter_cons_of_neg q]
      exact ih acc
end
theorem mapO_bl {α : Type} (b : α → Bool) : ∀ vs : List α, mapO blO (vs.map fun v => D.bl (b v)) = some (vs.map b)
  | [] => rfl
  | v :: vs => by
    rw [List.map_cons, mapO, mapO_bl b vs]
    rfl
theorem all_bl {α : Type} (b : α → Bool) (vs : List α) (mu : Bool) (s : Sto) : biD .all mu [.lst (vs.map fun v => D.bl (b v))] s = .ok (.bl (vs.all b)) s := by
  show (match mapO blO (vs.map fun v => D.bl (b v)) with
    | some bs => R.ok (D.bl (bs.all id)) s
    | none => .bad) = _
  rw [mapO_bl]
  simp [List.all_map]
theorem any_bl {α : Type} (b : α → Bool) (vs : List α) (mu : Bool) (s : Sto) : biD .any mu [.lst (vs.map fun v => D.bl (b v))] s = .ok (.bl (vs.any b)) s := by
  show (match mapO blO (vs.map fun v => D.bl (b v)) with
    | some bs => R.ok (D.bl (bs.any id)) s
    | none => .bad) = _
  rw [mapO_bl]
  simp [List.any_map]
abbrev V3 := Int × Int × Int
def tD (v : V3) : D := tr v.1 v.2.1 v.2.2
def lD (v : V3) : List Int := [v.1, v.2.1, v.2.2]
theorem lD_inj {u v : V3} (h : lD u = lD v) : u = v := by
  obtain ⟨a, b, c⟩ := u
  obtain ⟨p, q, r⟩ := v
  simp only [lD, List.cons.injEq, and_true] at h
  obtain ⟨rfl, rfl, rfl⟩ := h
  rfl
theorem cup_cell {s rest : Sto} {L : List D} (h : Cup s (rest ++ [L])) : s[rest.length + 1]? = some L := by
  obtain ⟨b, c, rfl, _⟩ := h
  simp
theorem cup_put {s rest : Sto} {L L' : List D} (h : Cup s (rest ++ [L])) : Cup (s.set (rest.length + 1) L') (rest ++ [L']) := by
  obtain ⟨b, c, rfl, o⟩ := h
  exact ⟨b, c, by simp, o⟩
theorem cup_new {s rest : Sto} (h : Cup s rest) (L : List D) : Cup (s ++ [L]) (rest ++ [L]) ∧ s.length = rest.length + 1 := by
  obtain ⟨b, c, rfl, o⟩ := h
  exact ⟨⟨b, c, by simp, o⟩, by simp⟩
end Px
namespace Lw
open PySem Px
abbrev G : Tab := tabOf rs
theorem nz3 {a b c : Int} (h : ¬ (a = 0 ∧ b = 0 ∧ c = 0)) : ∃ z ∈ [a, b, c], z ≠ 0 := by
  by_cases ha : a = 0
  · by_cases hb : b = 0
    · exact ⟨c, by simp, fun hc => h ⟨ha, hb, hc⟩⟩
    · exact ⟨b, by simp, hb⟩
  · exact ⟨a, by simp, ha⟩
theorem plain_body (P : PC) (s : Sto) {a b c : Int} (h : ∃ z ∈ [a, b, c], z ≠ 0) [ha : Bd 200 a] [hb : Bd 200 b] [hc : Bd 200 c] :
    endF (ex b_plainly P [some (tr a b c), none, none, none] s) = .ok (.tup (iL (shortL [a, b, c]))) s := by
  have f3 : fit 3 = true := by decide
  obtain ⟨g, eg⟩ : ∃ g : Int, ((gcdL 0 [a, b, c] : Nat) : Int) = g := ⟨_, rfl⟩
  have gp : 0 < g := by
    have := gcdL_pos h 0
    omega
  have gb : g.natAbs < 2 ^ 200 := by
    rw [← eg, Int.natAbs_natCast]
    refine gcdL_lt (by decide) ?_
    intro x hx
    simp only [List.mem_cons, List.not_mem_nil, or_false] at hx
    rcases hx with rfl | rfl | rfl
    · exact ha.lt
    · exact hb.lt
    · exact hc.lt
  have d1 : divOk g = true := div_ok (n := 200) (hb := ⟨gb⟩) (by decide)
  have d2 : divOk (-g) = true := div_ok (n := 200) (hb := ⟨by rw [Int.natAbs_neg]; exact gb⟩) (by decide)
  have eg' := eg
  rw [gcd3] at eg'
  have fd := first_den (P := P) (s := s) (ρ := [some (tr a b c), some (.int g), none, none]) (i := 3) (it := .seq (.var 0)) (xs := [a, b, c]) (by simp) (by simp) h rfl
  rw [short_three, eg]
  obtain ⟨f, ef⟩ : ∃ f, firstL [a, b, c] = f := ⟨_, rfl⟩
  rw [ef] at fd ⊢
  have n1 : ¬ g < 0 := by omega
  have n2 : -g < 0 := by omega
  generalize hcc : RE.sub (.comp false (.var 3) [3] (.name 3) (.seq (.var 0)) (.cmp .ne (.var 3) (.c (.int 0)))) (.c (.int 0)) = fe at fd
  unfold b_plainly
  rw [hcc]
  simp only [tr] at fd
  by_cases z : 0 < f
  · simp [seqOf, biD, subD, atI, ixN, eg', fd, z, f3, compL, itemZ_eq, wipe, gp, d1, lsR, iL, tr, endF]
  · simp [seqOf, biD, subD, atI, ixN, eg', fd, z, f3, compL, itemZ_eq, wipe, n1, n2, gp, d2, lsR, iL, tr, endF, fdiv_neg _ gp]
theorem plainly (k : Nat) (s : Sto) {a b c : Int} (h : ∃ z ∈ [a, b, c], z ≠ 0) [ha : Bd 200 a] [hb : Bd 200 b] [hc : Bd 200 c] : call G (k + 1) 6 [tr a b c] s = .ok (.tup (iL (shortL [a, b, c]))) s := by
  rw [call_eq (g := g_plainly) rfl, if_pos (by rfl)]
  exact plain_body _ s h
theorem divisor (k : Nat) (s : Sto) (a b : Int) (ha : 0 ≤ a) (hb : 0 ≤ b) (h : b.natAbs < 2 ^ 599) : call G (k + 1) 25 [.int a, .int b] s = .ok (.int (Nat.gcd a.natAbs b.natAbs : Nat)) s := by
  rw [call_eq (g := g__law_divisor) rfl, if_pos (by rfl)]
  generalize (PC.mk (Px.call G k) (low G k)) = P
  obtain ⟨A, rfl⟩ : ∃ A : Nat, a = A := ⟨a.toNat, by omega⟩
  obtain ⟨B, rfl⟩ : ∃ B : Nat, b = B := ⟨b.toNat, by omega⟩
  rw [Int.natAbs_natCast] at h
  have e := div_for P s (rngL 0 1200) A B none
  rw [rngL_len, euN_gcd 599 1200 _ _ h (by decide)] at e
  show endF (ex (.seq (.for (.name 2) (.rng (.cons (.c (.int 1200)) .nil)) div_step) (.seq (.ret (.var 0)) .pass)) P [some (.int A), some (.int B), none] s) = _
  generalize div_step = ds at e ⊢
  have e2 : rngD [.int 1200] s = .ok (.lst (rngL 0 1200)) s := rfl
  generalize rngL 0 1200 = L at e e2
  rcases e with ⟨v', e⟩ | e
  · simp [e2, e, endF]
  · simp [e2, e, endF]
theorem hWhole : WholeAt G 0 := whole_at rfl
theorem hTup : TupofAt G 1 := tupof_at rfl
theorem hCup : CupAt G 20 := cup_at rfl
theorem hRoll : RollAt G 21 := roll_at rfl
theorem hSome : SomeAt G 22 := some_at (roll := 21) rfl hRoll
theorem hSort : SortAt G 23 := sort_at rfl
theorem hLike : LikeAt G 24 := like_at (so := 23) rfl hSort
structure TrOk (m : Nat) (a b c : Int) : Prop where
  nz : ∃ z ∈ [a, b, c], z ≠ 0
  id : shortL [a, b, c] = [a, b, c]
  a : a.natAbs ≤ m
  b : b.natAbs ≤ m
  c : c.natAbs ≤ m
theorem TrOk.up {m n : Nat} {a b c : Int} (h : TrOk m a b c) (hn : m ≤ n) : TrOk n a b c := ⟨h.nz, h.id, Nat.le_trans h.a hn, Nat.le_trans h.b hn, Nat.le_trans h.c hn⟩
abbrev big : Nat := 1000000000
theorem bd40 {x : Int} (h : x.natAbs ≤ big) : Bd 40 x := ⟨by
  have : x.natAbs ≤ 1000000000 := h
  show x.natAbs < 1099511627776
  omega⟩
theorem three (k : Nat) (s : Sto) {a b c : Int} (ha : a.natAbs ≤ big) (hb : b.natAbs ≤ big) (hc : c.natAbs ≤ big) : call G (k + 2) 4 [tr a b c] s = .ok (.bl true) s := by
  have e0 := hTup k (tr a b c) 3 3 s rfl
  have e1 := fun (x : Int) (hx : x.natAbs ≤ big) => hWhole k (.int x) (-1000000000) 1000000000 s rfl
  have w : ∀ x : Int, x.natAbs ≤ big → isWh (-1000000000) 1000000000 (.int x) = true := fun x hx => by
    have hx : x.natAbs ≤ 1000000000 := hx
    show (decide (-1000000000 ≤ x) && decide (x ≤ 1000000000)) = true
    rw [decide_eq_true (by omega), decide_eq_true (by omega)]
    rfl
  have ea := e1 a ha
  have eb := e1 b hb
  have ec := e1 c hc
  rw [w a ha] at ea
  rw [w b hb] at eb
  rw [w c hc] at ec
  have e0 : call G (k + 1) 1 [tr a b c, .int 3, .int 3] s = .ok (.bl true) s := e0
  have f3 : fit 3 = true := by decide
  simp only [tr] at e0
  rw [call_eq (g := g_is_three) rfl]
  simp [g_is_three, b_is_three, c_PART, tr, e0, f3, compL, itemZ_eq, wipe, ea, eb, ec, biD, lsR, mapO, blO, endF]
theorem is_tripleG (k : Nat) (s : Sto) {a b c : Int} (nz : ∃ z ∈ [a, b, c], z ≠ 0) (ha : a.natAbs ≤ big) (hb : b.natAbs ≤ big) (hc : c.natAbs ≤ big) : call G (k + 3) 5 [tr a b c] s = .ok (.bl (decide (shortL [a, b, c] = [a, b, c]))) s := by
  have e1 := three k s ha hb hc
  have e2 := plainly (k + 1) s nz (ha := (bd40 ha).up (by decide)) (hb := (bd40 hb).up (by decide)) (hc := (bd40 hc).up (by decide))
  have e3 := eq_ints s [a, b, c] [0, 0, 0]
  have e4 := eq_ints s (shortL [a, b, c]) [a, b, c]
  rw [decide_eq_false (by
    intro e
    obtain ⟨z, hz, h0⟩ := nz
    rw [e] at hz
    simp at hz
    exact h0 hz)] at e3
  generalize shortL [a, b, c] = S at e2 e4 ⊢
  simp only [iL, List.map_cons, List.map_nil, tr] at e1 e2 e3 e4
  rw [call_eq (g := g_is_triple) rfl]
  simp [g_is_triple, b_is_triple, tr, e1, e2, e3, e4, endF]
theorem is_triple (k : Nat) (s : Sto) {a b c : Int} (x : TrOk big a b c) : call G (k + 3) 5 [tr a b c] s = .ok (.bl true) s := by
  have e := is_tripleG k s x.nz x.a x.b x.c
  rw [x.id, decide_eq_true rfl] at e
  exact e
theorem need_triple (k : Nat) (s : Sto) {a b c : Int} (x : TrOk big a b c) : call G (k + 4) 7 [tr a b c] s = .ok .non s := by
  have e1 := is_triple k s x
  simp only [tr] at e1
  rw [call_eq (g := g_need_triple) rfl]
  simp [g_need_triple, b_need_triple, tr, e1, endF]
theorem dot (k : Nat) (s : Sto) (a b c p q r : Int) (ha : Bd 300 a) (hb : Bd 300 b) (hc : Bd 300 c) (hp : Bd 300 p) (hq : Bd 300 q) (hr : Bd 300 r) : call G (k + 1) 8 [tr a b c, tr p q r] s = .ok (.int (a * p + b * q + c * r)) s := by
  rw [call_eq (g := g_dot) rfl]
  simp [g_dot, b_dot, tr, subD, seqOf, atI, ixN, mul_ok, endF]
theorem cross (k : Nat) (s : Sto) (a b c p q r : Int) (ha : Bd 300 a) (hb : Bd 300 b) (hc : Bd 300 c) (hp : Bd 300 p) (hq : Bd 300 q) (hr : Bd 300 r) : call G (k + 1) 9 [tr a b c, tr p q r] s = .ok (tr (b * r - c * q) (c * p - a * r) (a * q - b * p)) s := by
  rw [call_eq (g := g_cross) rfl]
  simp [g_cross, b_cross, tr, subD, seqOf, atI, ixN, mul_ok, endF]
theorem dotT (k : Nat) (s : Sto) {a b c p q r : Int} (x : TrOk big a b c) (y : TrOk big p q r) : call G (k + 1) 8 [tr a b c, tr p q r] s = .ok (.int (a * p + b * q + c * r)) s :=
  dot k s a b c p q r ((bd40 x.a).up (by decide)) ((bd40 x.b).up (by decide)) ((bd40 x.c).up (by decide)) ((bd40 y.a).up (by decide)) ((bd40 y.b).up (by decide)) ((bd40 y.c).up (by decide))
theorem is_on (k : Nat) (s : Sto) {a b c p q r : Int} (x : TrOk big a b c) (y : TrOk big p q r) : call G (k + 5) 12 [tr a b c, tr p q r] s = .ok (.bl (decide (a * p + b * q + c * r = 0))) s := by
  have e1 := need_triple k s x
  have e2 := need_triple k s y
  have e3 := dotT (k + 3) s x y
  simp only [tr] at e1 e2 e3
  rw [call_eq (g := g_is_on) rfl]
  simp [g_is_on, b_is_on, tr, e1, e2, e3, endF]
/-- three integers made short -/
theorem tr_short {m : Nat} {a b c : Int} (h : ∃ z ∈ [a, b, c], z ≠ 0) (ha : a.natAbs ≤ m) (hb : b.natAbs ≤ m) (hc : c.natAbs ≤ m) :
    ∃ a' b' c' j, shortL [a, b, c] = [a', b', c'] ∧ TrOk m a' b' c' ∧ j ≠ 0 ∧ a = j * a' ∧ b = j * b' ∧ c = j * c' := by
  obtain ⟨j, hj, e⟩ := short_mul h
  have hl := short_len [a, b, c]
  have hid := short_idem h
  have hne := short_ne h
  rcases q : shortL [a, b, c] with _ | ⟨a', _ | ⟨b', _ | ⟨c', _ | ⟨d', t⟩⟩⟩⟩ <;> rw [q] at hl <;> simp at hl
  rw [q] at e hid hne
  simp only [List.map_cons, List.map_nil, List.cons.injEq, and_true] at e
  obtain ⟨e1, e2, e3⟩ := e
  have le : ∀ {x y : Int}, x = j * y → x.natAbs ≤ m → y.natAbs ≤ m := fun {x y} e h => Nat.le_trans (by
    rw [e, Int.natAbs_mul]
    exact Nat.le_mul_of_pos_left _ (by omega)) h
  exact ⟨a', b', c', j, rfl, ⟨hne, hid, le e1 ha, le e2 hb, le e3 hc⟩, hj, e1, e2, e3⟩
theorem tr_par {a b c p q r u v : Int} (hu : u ≠ 0) (hv : v ≠ 0) (h1 : ∃ z ∈ [a, b, c], z ≠ 0) (h2 : ∃ z ∈ [p, q, r], z ≠ 0) (e1 : u * a = v * p) (e2 : u * b = v * q) (e3 : u * c = v * r) : shortL [a, b, c] = shortL [p, q, r] :=
  short_par h1 h2 hu hv (by simp only [List.map_cons, List.map_nil, e1, e2, e3])
end Lw
end

section
set_option Elab.async false
set_option linter.all false
set_option maxRecDepth 100000
set_option maxHeartbeats 1000000
set_option exponentiation.threshold 10000
/-! k01: the defs about triples. -/
namespace Lw
open PySem Px
abbrev TOk (m : Nat) (v : V3) : Prop := TrOk m v.1 v.2.1 v.2.2
def dotI (u v : V3) : Int := u.1 * v.1 + u.2.1 * v.2.1 + u.2.2 * v.2.2
def crossI (u v : V3) : V3 := (u.2.1 * v.2.2 - u.2.2 * v.2.1, u.2.2 * v.1 - u.1 * v.2.2, u.1 * v.2.1 - u.2.1 * v.1)
def volI (u v w : V3) : Int := dotI (crossI u v) w
theorem gcd3' (a b c : Int) : Nat.gcd a.natAbs (Nat.gcd b.natAbs c.natAbs) = gcdL 0 [a, b, c] := by
  rw [gcd3, Nat.gcd_assoc]
theorem plain_abs (c : Nat → List D → Sto → R D) (l : Option (Nat → List D → Sto → R D)) (s : Sto) (V : D) {x y z : Int} (hV : V = .tup (iL [x, y, z]) ∨ V = .lst (iL [x, y, z])) (h : ∃ w ∈ [x, y, z], w ≠ 0) [hx : Bd 190 x] [hy : Bd 190 y] [hz : Bd 190 z]
    (e1 : c 25 [.int y.natAbs, .int z.natAbs] s = .ok (.int (Nat.gcd y.natAbs z.natAbs : Nat)) s) (e2 : c 25 [.int x.natAbs, .int (Nat.gcd y.natAbs z.natAbs : Nat)] s = .ok (.int (gcdL 0 [x, y, z] : Nat)) s) :
    endF (ex b__law_plain ⟨c, l⟩ [some V, none, none, none] s) = .ok (.tup (iL (shortL [x, y, z]))) s := by
  have f3 : fit 3 = true := by decide
  obtain ⟨g, eg⟩ : ∃ g : Int, ((gcdL 0 [x, y, z] : Nat) : Int) = g := ⟨_, rfl⟩
  have gp : 0 < g := by
    have := gcdL_pos h 0
    omega
  have gb : g.natAbs < 2 ^ 200 := by
    rw [← eg, Int.natAbs_natCast]
    refine gcdL_lt (by decide) ?_
    intro w hw
    simp only [List.mem_cons, List.not_mem_nil, or_false] at hw
    rcases hw with rfl | rfl | rfl
    · exact Nat.lt_of_lt_of_le hx.lt (Nat.pow_le_pow_right (by decide) (by decide))
    · exact Nat.lt_of_lt_of_le hy.lt (Nat.pow_le_pow_right (by decide) (by decide))
    · exact Nat.lt_of_lt_of_le hz.lt (Nat.pow_le_pow_right (by decide) (by decide))
  have d1 : divOk g = true := div_ok (n := 200) (hb := ⟨gb⟩) (by decide)
  have d2 : divOk (-g) = true := div_ok (n := 200) (hb := ⟨by rw [Int.natAbs_neg]; exact gb⟩) (by decide)
  rw [eg] at e2
  obtain ⟨ys, hf⟩ := first_cons h
  have c1 : compL (itemZ (den (.cmp .ne (.var 3) (.c (.int 0))) ⟨c, l⟩) (den (.var 3) ⟨c, l⟩) [3] (.name 3) [some V, some (.int g), none, none]) (iL [x, y, z]) [] s = .ok (D.int (firstL [x, y, z]) :: iL ys) s := by
    rw [wp_compL (g := nzD)]
    · rw [List.nil_append, nz_filter, hf]
      rfl
    · intro d hd
      obtain ⟨w, _, rfl⟩ := List.mem_map.mp hd
      by_cases z : w = 0 <;> simp [itemZ_eq, wipe, z, nzD]
  have a1 : ∀ (f : Int) (L : List D), atI (D.int f :: L) 0 = some (.int f) := fun f L => by
    unfold atI ixN
    rw [if_pos (by decide), if_pos (by simp [List.length_cons])]
    rfl
  rw [short_three, eg]
  obtain ⟨f, ef⟩ : ∃ f, firstL [x, y, z] = f := ⟨_, rfl⟩
  rw [ef] at c1 ⊢
  generalize iL ys = L at c1
  have n1 : ¬ g < 0 := by omega
  have n2 : -g < 0 := by omega
  simp only [iL, List.map_cons, List.map_nil] at hV c1
  unfold b__law_plain
  rcases hV with rfl | rfl
  · by_cases q : 0 < f
    · simp [seqOf, biD, subD, atI, ixN, abs_int, e1, e2, f3, c1, a1, q]
      simp [compL, itemZ_eq, wipe, gp, d1, lsR, iL, endF]
    · simp [seqOf, biD, subD, atI, ixN, abs_int, e1, e2, f3, c1, a1, q]
      simp [compL, itemZ_eq, wipe, n1, n2, gp, d2, lsR, iL, endF, fdiv_neg _ gp]
  · by_cases q : 0 < f
    · simp [seqOf, biD, subD, atI, ixN, abs_int, e1, e2, f3, c1, a1, q]
      simp [compL, itemZ_eq, wipe, gp, d1, lsR, iL, endF]
    · simp [seqOf, biD, subD, atI, ixN, abs_int, e1, e2, f3, c1, a1, q]
      simp [compL, itemZ_eq, wipe, n1, n2, gp, d2, lsR, iL, endF, fdiv_neg _ gp]
theorem law_plain (k : Nat) (s : Sto) (V : D) {x y z : Int} (hV : V = .tup (iL [x, y, z]) ∨ V = .lst (iL [x, y, z])) (h : ∃ w ∈ [x, y, z], w ≠ 0) (hx : Bd 190 x) (hy : Bd 190 y) (hz : Bd 190 z) : call G (k + 2) 26 [V] s = .ok (.tup (iL (shortL [x, y, z]))) s := by
  have up : ∀ {w : Int}, Bd 190 w → w.natAbs < 2 ^ 599 := fun h => Nat.lt_of_lt_of_le h.lt (Nat.pow_le_pow_right (by decide) (by decide))
  have e1 := divisor k s y.natAbs z.natAbs (by omega) (by omega) (by rw [Int.natAbs_natCast]; exact up hz)
  have gl : Nat.gcd y.natAbs z.natAbs < 2 ^ 599 := by
    by_cases q : z.natAbs = 0
    · rw [q, Nat.gcd_zero_right]
      exact up hy
    · exact Nat.lt_of_le_of_lt (Nat.gcd_le_right _ (by omega)) (up hz)
  have e2 := divisor k s x.natAbs (Nat.gcd y.natAbs z.natAbs : Nat) (by omega) (by omega) (by rw [Int.natAbs_natCast]; exact gl)
  simp only [Int.natAbs_natCast] at e1 e2
  rw [gcd3'] at e2
  rw [call_eq (g := g__law_plain) rfl, if_pos (by rfl)]
  generalize Px.call G (k + 1) = c at e1 e2 ⊢
  exact plain_abs c _ s V hV h e1 e2
theorem bdc {u v : V3} (hu : TOk big u) (hv : TOk big v) : Bd 100 (crossI u v).1 ∧ Bd 100 (crossI u v).2.1 ∧ Bd 100 (crossI u v).2.2 := by
  have i1 := bd40 hu.a; have i2 := bd40 hu.b; have i3 := bd40 hu.c
  have i4 := bd40 hv.a; have i5 := bd40 hv.b; have i6 := bd40 hv.c
  have sh : ∀ {a b c d : Int}, Bd 40 a → Bd 40 b → Bd 40 c → Bd 40 d → Bd 100 (a * b - c * d) := fun {a b c d} h1 h2 h3 h4 => ⟨by
    have j1 := Nat.mul_lt_mul'' h1.lt h2.lt
    have j2 := Nat.mul_lt_mul'' h3.lt h4.lt
    rw [← Int.natAbs_mul] at j1 j2
    have e : (2 : Nat) ^ 40 * 2 ^ 40 = 1208925819614629174706176 := by decide
    have e2 : (2 : Nat) ^ 100 = 1267650600228229401496703205376 := by decide
    omega⟩
  exact ⟨sh i2 i6 i3 i5, sh i3 i4 i1 i6, sh i1 i5 i2 i4⟩
theorem cross3 (k : Nat) (s : Sto) {u v : V3} (hu : TOk big u) (hv : TOk big v) : call G (k + 1) 9 [tD u, tD v] s = .ok (tD (crossI u v)) s :=
  cross k s _ _ _ _ _ _ ((bd40 hu.a).up (by decide)) ((bd40 hu.b).up (by decide)) ((bd40 hu.c).up (by decide)) ((bd40 hv.a).up (by decide)) ((bd40 hv.b).up (by decide)) ((bd40 hv.c).up (by decide))
theorem dot3 (k : Nat) (s : Sto) {u v w : V3} (hu : TOk big u) (hv : TOk big v) (hw : TOk big w) : call G (k + 1) 8 [tD (crossI u v), tD w] s = .ok (.int (volI u v w)) s := by
  obtain ⟨b1, b2, b3⟩ := bdc hu hv
  exact dot k s _ _ _ _ _ _ (b1.up (by decide)) (b2.up (by decide)) (b3.up (by decide)) ((bd40 hw.a).up (by decide)) ((bd40 hw.b).up (by decide)) ((bd40 hw.c).up (by decide))
theorem volume3 (k : Nat) (s : Sto) {u v w : V3} (hu : TOk big u) (hv : TOk big v) (hw : TOk big w) : call G (k + 2) 10 [tD u, tD v, tD w] s = .ok (.int (volI u v w)) s := by
  have e1 := cross3 k s hu hv
  have e2 := dot3 k s hu hv hw
  rw [call_eq (g := g_volume) rfl, if_pos (by rfl)]
  generalize Px.call G (k + 1) = c at e1 e2 ⊢
  generalize low G (k + 1) = l
  show endF (ex b_volume ⟨c, l⟩ [some (tD u), some (tD v), some (tD w)] s) = _
  simp [b_volume, e1, e2, endF]
theorem triple3 (k : Nat) (s : Sto) {a b c : Int} (nz : ∃ z ∈ [a, b, c], z ≠ 0) (ha : a.natAbs ≤ big) (hb : b.natAbs ≤ big) (hc : c.natAbs ≤ big) : call G (k + 3) 11 [.int a, .int b, .int c] s = .ok (.tup (iL (shortL [a, b, c]))) s := by
  have e1 := three k s ha hb hc
  have e2 := plainly (k + 1) s nz (ha := (bd40 ha).up (by decide)) (hb := (bd40 hb).up (by decide)) (hc := (bd40 hc).up (by decide))
  have h0 : ¬ (a = 0 ∧ b = 0 ∧ c = 0) := by
    rintro ⟨rfl, rfl, rfl⟩
    simp at nz
  rw [call_eq (g := g_triple) rfl, if_pos (by rfl)]
  generalize Px.call G (k + 2) = cc at e1 e2 ⊢
  generalize low G (k + 2) = l
  show endF (ex b_triple ⟨cc, l⟩ [some (.int a), some (.int b), some (.int c)] s) = _
  simp only [tr] at e1 e2
  by_cases z1 : a = 0
  · by_cases z2 : b = 0
    · have z3 : ¬ c = 0 := fun z3 => h0 ⟨z1, z2, z3⟩
      subst z1 z2
      simp [b_triple, e1, e2, z3, endF]
    · subst z1
      simp [b_triple, e1, e2, z2, endF]
  · simp [b_triple, e1, e2, z1, endF]
theorem eq_tD (s : Sto) (u v : V3) : eqD s (tD u) (tD v) = some (decide (u = v)) := by
  have e : eqD s (tD u) (tD v) = some (decide (lD u = lD v)) := eq_ints s (lD u) (lD v)
  rw [e]
  exact congrArg some (decide_eq_decide.mpr ⟨lD_inj, fun h => h ▸ rfl⟩)
theorem cmp_tD (s : Sto) (u v : V3) : cmpD .eq (tD u) (tD v) s = .ok (.bl (decide (u = v))) s := by
  show ob (eqD s (tD u) (tD v)) s = _
  rw [eq_tD]
  rfl
theorem cmpn_tD (s : Sto) (u v : V3) : cmpD .ne (tD u) (tD v) s = .ok (.bl (!decide (u = v))) s := by
  show ob ((eqD s (tD u) (tD v)).map (!·)) s = _
  rw [eq_tD]
  rfl
theorem need3 (k : Nat) (s : Sto) {u : V3} (hu : TOk big u) : call G (k + 4) 7 [tD u] s = .ok .non s := need_triple k s hu
theorem join3 (k : Nat) (s : Sto) {u v : V3} (hu : TOk big u) (hv : TOk big v) (hn : u ≠ v → crossI u v ≠ (0, 0, 0)) : call G (k + 5) 13 [tD u, tD v] s = if u = v then .exc 5 s else .ok (.tup (iL (shortL (lD (crossI u v))))) s := by
  have e1 := need3 k s hu
  have e2 := need3 k s hv
  have e3 := cross3 (k + 3) s hu hv
  have cm := cmp_tD s u v
  obtain ⟨b1, b2, b3⟩ := bdc hu hv
  have e4 : u ≠ v → call G (k + 4) 6 [tD (crossI u v)] s = .ok (.tup (iL (shortL (lD (crossI u v))))) s := fun h =>
    plainly (k + 3) s (nz3 (fun q => hn h (Prod.ext q.1 (Prod.ext q.2.1 q.2.2)))) (ha := b1.up (by decide)) (hb := b2.up (by decide)) (hc := b3.up (by decide))
  rw [call_eq (g := g_join_of) rfl, if_pos (by rfl)]
  generalize Px.call G (k + 4) = c at e1 e2 e3 e4 ⊢
  generalize low G (k + 4) = l
  show endF (ex b_join_of ⟨c, l⟩ [some (tD u), some (tD v)] s) = _
  by_cases h : u = v
  · subst h
    simp [b_join_of, e1, cm, endF]
  · have e4 := e4 h
    simp only [h, if_false] at cm ⊢
    simp [b_join_of, e1, e2, e3, e4, cm, endF]
def sgn (x : Int) : Int := if 0 < x then 1 else if x < 0 then -1 else 0
theorem side3 (k : Nat) (s : Sto) {u v w : V3} (hu : TOk big u) (hv : TOk big v) (hw : TOk big w) : call G (k + 5) 15 [tD u, tD v, tD w] s = .ok (.int (sgn (volI u v w))) s := by
  have e1 := need3 k s hu
  have e2 := need3 k s hv
  have e3 := need3 k s hw
  have e4 := volume3 (k + 2) s hu hv hw
  rw [call_eq (g := g_side_of) rfl, if_pos (by rfl)]
  generalize Px.call G (k + 4) = c at e1 e2 e3 e4 ⊢
  generalize low G (k + 4) = l
  show endF (ex b_side_of ⟨c, l⟩ [some (tD u), some (tD v), some (tD w), none] s) = _
  generalize volI u v w = x at e4 ⊢
  unfold sgn
  by_cases h1 : 0 < x
  · simp [b_side_of, e1, e2, e3, e4, h1, endF]
  · by_cases h2 : x < 0
    · simp [b_side_of, e1, e2, e3, e4, h1, h2, endF]
    · simp [b_side_of, e1, e2, e3, e4, h1, h2, endF]
theorem table3 (k : Nat) (s : Sto) {u v w : V3} (hu : TOk big u) (hv : TOk big v) (hw : TOk big w) : call G (k + 3) 18 [.tup [tD u, tD v, tD w]] s = .ok (.bl true) s := by
  have e0 := hTup (k + 1) (.tup [tD u, tD v, tD w]) 3 3 s rfl
  have e0 : call G (k + 2) 1 [.tup [tD u, tD v, tD w], .int 3, .int 3] s = .ok (.bl true) s := e0
  have e1 : call G (k + 2) 4 [tD u] s = .ok (.bl true) s := three k s hu.a hu.b hu.c
  have e2 : call G (k + 2) 4 [tD v] s = .ok (.bl true) s := three k s hv.a hv.b hv.c
  have e3 : call G (k + 2) 4 [tD w] s = .ok (.bl true) s := three k s hw.a hw.b hw.c
  have f3 : fit 3 = true := by decide
  rw [call_eq (g := g_is_table) rfl, if_pos (by rfl)]
  generalize Px.call G (k + 2) = c at e0 e1 e2 e3 ⊢
  generalize low G (k + 2) = l
  show endF (ex b_is_table ⟨c, l⟩ [some (.tup [tD u, tD v, tD w]), none] s) = _
  simp [b_is_table, e0, f3, seqOf, compL, itemZ_eq, wipe, e1, e2, e3, biD, lsR, mapO, blO, endF]
theorem det3 (k : Nat) (s : Sto) {u v w : V3} (hu : TOk big u) (hv : TOk big v) (hw : TOk big w) : call G (k + 4) 19 [.tup [tD u, tD v, tD w]] s = .ok (.int (volI u v w)) s := by
  have e1 := table3 k s hu hv hw
  have e2 := volume3 (k + 1) s hu hv hw
  rw [call_eq (g := g_determinant_of) rfl, if_pos (by rfl)]
  generalize Px.call G (k + 3) = c at e1 e2 ⊢
  generalize low G (k + 3) = l
  show endF (ex b_determinant_of ⟨c, l⟩ [some (.tup [tD u, tD v, tD w])] s) = _
  simp [b_determinant_of, e1, e2, subD, seqOf, atI, ixN, endF]
theorem lvol3 (k : Nat) (s : Sto) {u v w : V3} (hu : TOk big u) (hv : TOk big v) (hw : TOk big w) : call G (k + 1) 28 [tD u, tD v, tD w] s = .ok (.int (volI u v w)) s := by
  have i1 := bd40 hu.a; have i2 := bd40 hu.b; have i3 := bd40 hu.c
  have i4 := bd40 hv.a; have i5 := bd40 hv.b; have i6 := bd40 hv.c
  have i7 := bd40 hw.a; have i8 := bd40 hw.b; have i9 := bd40 hw.c
  have ev : volI u v w = u.1 * (v.2.1 * w.2.2 - v.2.2 * w.2.1) - u.2.1 * (v.1 * w.2.2 - v.2.2 * w.1) + u.2.2 * (v.1 * w.2.1 - v.2.1 * w.1) := by
    unfold volI dotI crossI
    grind
  rw [ev]
  rw [call_eq (g := g__law_volume) rfl, if_pos (by rfl)]
  generalize (PC.mk (Px.call G k) (low G k)) = P
  show endF (ex b__law_volume P [some (tD u), some (tD v), some (tD w), none, none] s) = _
  simp [b__law_volume, tD, tr, subD, seqOf, atI, ixN, mul_ok, endF]
theorem ldot3 (k : Nat) (s : Sto) (u v : V3) (h1 : Bd 300 u.1) (h2 : Bd 300 u.2.1) (h3 : Bd 300 u.2.2) (h4 : Bd 300 v.1) (h5 : Bd 300 v.2.1) (h6 : Bd 300 v.2.2) : call G (k + 1) 29 [tD u, tD v] s = .ok (.int (dotI u v)) s := by
  have f3 : fit 3 = true := by decide
  rw [call_eq (g := g__law_dot) rfl, if_pos (by rfl)]
  generalize (PC.mk (Px.call G k) (low G k)) = P
  show endF (ex b__law_dot P [some (tD u), some (tD v), none, none] s) = _
  simp [b__law_dot, tD, tr, zipD, zipL, lsF, subD, seqOf, atI, ixN, mul_ok, f3, compL, itemZ_eq, wipe, biD, lsR, mapO, intO, dotI, endF]
  omega
end Lw
end

section
set_option Elab.async false
set_option linter.all false
set_option maxRecDepth 100000
set_option maxHeartbeats 1000000
set_option exponentiation.threshold 10000
/-! k01: are points on one line. -/
namespace Lw
open PySem Px
theorem sub0 (v : V3) (vs : List V3) (s : Sto) : subD (.tup (tD v :: vs.map tD)) (.int 0) s = .ok (tD v) s := by
  have e : atI (tD v :: vs.map tD) 0 = some (tD v) := by
    unfold atI ixN
    rw [if_pos (by decide), if_pos (by simp [List.length_cons])]
    rfl
  simp [subD, seqOf, e]
theorem sub1 (u v : V3) (vs : List V3) (s : Sto) : subD (.tup (tD u :: tD v :: vs.map tD)) (.int 1) s = .ok (tD v) s := by
  have e : atI (tD u :: tD v :: vs.map tD) 1 = some (tD v) := by
    unfold atI ixN
    rw [if_pos (by decide), if_pos (by simp [List.length_cons] <;> omega)]
    rfl
  simp [subD, seqOf, e]
theorem all_true {α : Type} {b : α → Bool} {vs : List α} (h : ∀ v ∈ vs, b v = true) : vs.all b = true := List.all_eq_true.mpr h
theorem len_tup (xs : List D) (mu : Bool) (s : Sto) : biD .len mu [.tup xs] s = .ok (.int xs.length) s := rfl
theorem eq_nil0 (s : Sto) : eqD s (.lst []) (.lst []) = some true := rfl
def onI : List V3 → Bool
  | [] => true
  | p :: r => match r.filter (fun v => !decide (v = p)) with
    | [] => true
    | q :: r' => (q :: r').all (fun w => decide (volI p q w = 0))
theorem onI_cons (p : V3) (r : List V3) : onI (p :: r) = match r.filter (fun v => !decide (v = p)) with
    | [] => true
    | q :: r' => (q :: r').all (fun w => decide (volI p q w = 0)) := rfl
theorem on_abs (c : Nat → List D → Sto → R D) (l : Option (Nat → List D → Sto → R D)) (s : Sto) {p : V3} {r : List V3} (h8 : r.length ≤ 50)
    (e1 : c 1 [.tup ((p :: r).map tD), .int 0, .int 60] s = .ok (.bl true) s) (e3 : ∀ v ∈ p :: r, c 5 [tD v] s = .ok (.bl true) s)
    (e7 : ∀ q ∈ r, c 9 [tD p, tD q] s = .ok (tD (crossI p q)) s) (e6 : ∀ q ∈ r, ∀ w ∈ r, c 8 [tD (crossI p q), tD w] s = .ok (.int (volI p q w)) s) :
    endF (ex b_are_on_one ⟨c, l⟩ [some (.tup ((p :: r).map tD)), none, none, none] s) = .ok (.bl (onI (p :: r))) s := by
  have hf : fit ((p :: r).map tD).length = true := fit_of (by simp; omega)
  have s0 : subD (.tup ((p :: r).map tD)) (.int 0) s = .ok (tD p) s := sub0 p r s
  have a1 : compL (itemZ (den (.c (.bl true)) ⟨c, l⟩) (den (.call 5 (.cons (.var 3) .nil)) ⟨c, l⟩) [3] (.name 3) [some (.tup ((p :: r).map tD)), none, none, none]) ((p :: r).map tD) [] s = .ok ((p :: r).map fun v => D.bl true) s := by
    rw [compL_to (fun _ => D.bl true)]
    · rfl
    · intro v hv
      simp only [itemZ_eq, wipe]
      simp [e3 v hv]
  have a3 := all_bl (fun _ : V3 => true) (p :: r) false s
  rw [all_true (fun _ _ => rfl)] at a3
  obtain ⟨r', er⟩ : ∃ r', r.filter (fun v => !decide (v = p)) = r' := ⟨_, rfl⟩
  have sub : ∀ v ∈ r', v ∈ r := fun v hv => by
    rw [← er] at hv
    exact (List.mem_filter.mp hv).1
  have hl : r'.length ≤ r.length := by
    rw [← er]
    exact List.length_filter_le _ _
  have hf2 : fit (r'.map tD).length = true := fit_of (by simp; omega)
  have fl : (p :: r).filter (fun v => !decide (v = p)) = r' := by
    rw [List.filter_cons_of_neg (by simp), er]
  have a2 : compL (itemZ (den (.cmp .ne (.var 3) (.sub (.var 0) (.c (.int 0)))) ⟨c, l⟩) (den (.var 3) ⟨c, l⟩) [3] (.name 3) [some (.tup ((p :: r).map tD)), none, none, none]) ((p :: r).map tD) [] s = .ok (r'.map tD) s := by
    rw [compL_fi (fun v => !decide (v = p)), fl]
    · rfl
    · intro v hm
      have cm := cmpn_tD s v p
      generalize (p :: r).map tD = L at s0
      simp only [itemZ_eq, wipe]
      by_cases z : v = p
      · subst z
        simp at cm
        simp [s0, cm]
      · simp [s0, cm, z]
  have en : eqD s (.lst (r'.map tD)) (.lst []) = some r'.isEmpty := by
    rw [eq_nil_lst (L := 4) s (by
      intro x hx
      obtain ⟨v, _, rfl⟩ := List.mem_map.mp hx
      rfl)]
    cases r' <;> rfl
  match r' with
  | [] =>
    have o1 : onI (p :: r) = true := by
      rw [onI_cons, er]
    rw [o1]
    have a2 : compL (itemZ (den (.cmp .ne (.var 3) (.sub (.var 0) (.c (.int 0)))) ⟨c, l⟩) (den (.var 3) ⟨c, l⟩) [3] (.name 3) [some (.tup ((p :: r).map tD)), none, none, none]) ((p :: r).map tD) [] s = .ok [] s := a2
    generalize (p :: r).map tD = L at *
    generalize ((p :: r).map fun v => D.bl true) = M at *
    simp [b_are_on_one, c_MANY, e1, seqOf, hf, a1, a3, a2, eq_nil0, endF]
  | q :: r'' =>
    have o1 : onI (p :: r) = (q :: r'').all (fun w => decide (volI p q w = 0)) := by
      rw [onI_cons, er]
    rw [o1]
    have e7 := e7 q (sub q (by simp))
    have e6 := e6 q (sub q (by simp))
    have s1 : ∀ s, subD (.lst ((q :: r'').map tD)) (.int 0) s = .ok (tD q) s := fun s => sub0 q r'' s
    have en' : eqD s (.lst ((q :: r'').map tD)) (.lst []) = some false := en
    have a4 : compL (itemZ (den (.c (.bl true)) ⟨c, l⟩) (den (.cmp .eq (.call 8 (.cons (.var 2) (.cons (.var 3) .nil))) (.c (.int 0))) ⟨c, l⟩) [3] (.name 3) [some (.tup ((p :: r).map tD)), some (.lst ((q :: r'').map tD)), some (tD (crossI p q)), none]) ((q :: r'').map tD) [] s = .ok ((q :: r'').map fun w => D.bl (decide (volI p q w = 0))) s := by
      rw [compL_to (fun w => D.bl (decide (volI p q w = 0)))]
      · rfl
      · intro w hw
        have e := e6 w (sub w hw)
        simp only [itemZ_eq, wipe]
        simp [e]
    have a5 := all_bl (fun w => decide (volI p q w = 0)) (q :: r'') false s
    clear e6 sub er fl
    generalize (p :: r).map tD = L at *
    generalize (q :: r'').map tD = L2 at *
    generalize ((q :: r'').map fun w => D.bl (decide (volI p q w = 0))) = M2 at *
    generalize ((p :: r).map fun v => D.bl true) = M at *
    simp [b_are_on_one, c_MANY, e1, seqOf, hf, hf2, a1, a3, a2, en', s0, s1, e7, a4, a5, endF]
theorem on_one (k : Nat) (s : Sto) {vs : List V3} (hv : ∀ v ∈ vs, TOk big v) (h1 : 1 ≤ vs.length) (h8 : vs.length ≤ 50) : call G (k + 4) 14 [.tup (vs.map tD)] s = .ok (.bl (onI vs)) s := by
  have e1 := hTup (k + 2) (.tup (vs.map tD)) 0 60 s rfl
  rw [show isTo 0 60 (.tup (vs.map tD)) = true from by
    show (decide ((0 : Int) ≤ (vs.map tD).length) && decide (((vs.map tD).length : Int) ≤ 60)) = true
    rw [List.length_map, decide_eq_true (by omega), decide_eq_true (by omega)]
    rfl] at e1
  have e3 := fun v hm => is_triple k s (hv v hm)
  rw [call_eq (g := g_are_on_one) rfl, if_pos (by rfl)]
  match vs with
  | [] => simp at h1
  | p :: r =>
    have hp := hv p (by simp)
    have hr : ∀ q ∈ r, TOk big q := fun q hq => hv q (by simp [hq])
    exact on_abs (Px.call G (k + 3)) _ s (by simp at h8; omega) e1 e3 (fun q hq => cross3 (k + 2) s hp (hr q hq)) (fun q hq w hw => dot3 (k + 2) s hp (hr q hq) (hr w hw))
theorem ortho {m l p h : V3} (hm : m ≠ (0, 0, 0)) (h1 : dotI m l = 0) (h2 : dotI m p = 0) (h3 : dotI m h = 0) : volI l p h = 0 := by
  obtain ⟨m1, m2, m3⟩ := m
  obtain ⟨a, b, c⟩ := l
  obtain ⟨d, e, f⟩ := p
  obtain ⟨x, y, z⟩ := h
  simp only [dotI] at h1 h2 h3
  have k1 : m1 * volI (a, b, c) (d, e, f) (x, y, z) = (m1 * a + m2 * b + m3 * c) * (e * z - f * y) + (m1 * d + m2 * e + m3 * f) * (y * c - z * b) + (m1 * x + m2 * y + m3 * z) * (b * f - c * e) := by
    unfold volI dotI crossI
    grind
  have k2 : m2 * volI (a, b, c) (d, e, f) (x, y, z) = (m1 * a + m2 * b + m3 * c) * (f * x - d * z) + (m1 * d + m2 * e + m3 * f) * (z * a - x * c) + (m1 * x + m2 * y + m3 * z) * (c * d - a * f) := by
    unfold volI dotI crossI
    grind
  have k3 : m3 * volI (a, b, c) (d, e, f) (x, y, z) = (m1 * a + m2 * b + m3 * c) * (d * y - e * x) + (m1 * d + m2 * e + m3 * f) * (x * b - y * a) + (m1 * x + m2 * y + m3 * z) * (a * e - b * d) := by
    unfold volI dotI crossI
    grind
  rw [h1, h2, h3] at k1 k2 k3
  simp only [Int.zero_mul, Int.add_zero] at k1 k2 k3
  by_cases z1 : m1 = 0
  · by_cases z2 : m2 = 0
    · by_cases z3 : m3 = 0
      · subst z1 z2 z3
        exact absurd rfl hm
      · exact (Int.mul_eq_zero.mp k3).resolve_left z3
    · exact (Int.mul_eq_zero.mp k2).resolve_left z2
  · exact (Int.mul_eq_zero.mp k1).resolve_left z1
theorem same_line {u v : V3} {m l : Nat} (hu : TOk m u) (hv : TOk l v) {a b : Int} (ha : a ≠ 0) (hb : b ≠ 0) (e1 : a * u.1 = b * v.1) (e2 : a * u.2.1 = b * v.2.1) (e3 : a * u.2.2 = b * v.2.2) : u = v := by
  have q := tr_par ha hb hu.nz hv.nz e1 e2 e3
  rw [hu.id, hv.id] at q
  exact lD_inj q
theorem cross_ne {u v : V3} {m l : Nat} (hu : TOk m u) (hv : TOk l v) (h : u ≠ v) : crossI u v ≠ (0, 0, 0) := by
  intro e
  apply h
  simp only [crossI, Prod.mk.injEq] at e
  obtain ⟨c1, c2, c3⟩ := e
  have vz : ¬ (v.1 = 0 ∧ v.2.1 = 0 ∧ v.2.2 = 0) := by
    intro q
    obtain ⟨z, hz, h0⟩ := hv.nz
    simp only [List.mem_cons, List.not_mem_nil, or_false] at hz
    omega
  by_cases z1 : u.1 = 0
  · by_cases z2 : u.2.1 = 0
    · have z3 : u.2.2 ≠ 0 := by
        intro q
        obtain ⟨z, hz, h0⟩ := hu.nz
        simp only [List.mem_cons, List.not_mem_nil, or_false] at hz
        omega
      refine same_line hu hv (a := v.2.2) (b := u.2.2) (fun q => ?_) z3 (by grind) (by grind) (by grind)
      apply vz
      rw [q] at c1 c2
      have k1 : u.2.2 * v.2.1 = 0 := by grind
      have k2 : u.2.2 * v.1 = 0 := by grind
      exact ⟨(Int.mul_eq_zero.mp k2).resolve_left z3, (Int.mul_eq_zero.mp k1).resolve_left z3, q⟩
    · refine same_line hu hv (a := v.2.1) (b := u.2.1) (fun q => ?_) z2 (by grind) (by grind) (by grind)
      apply vz
      rw [q] at c1 c3
      have k1 : u.2.1 * v.2.2 = 0 := by grind
      have k2 : u.2.1 * v.1 = 0 := by grind
      exact ⟨(Int.mul_eq_zero.mp k2).resolve_left z2, q, (Int.mul_eq_zero.mp k1).resolve_left z2⟩
  · refine same_line hu hv (a := v.1) (b := u.1) (fun q => ?_) z1 (by grind) (by grind) (by grind)
    apply vz
    rw [q] at c2 c3
    have k1 : u.1 * v.2.2 = 0 := by grind
    have k2 : u.1 * v.2.1 = 0 := by grind
    exact ⟨q, (Int.mul_eq_zero.mp k2).resolve_left z1, (Int.mul_eq_zero.mp k1).resolve_left z1⟩
theorem perp {m : Nat} {u : V3} (hu : TOk m u) : ∃ N : V3, N ≠ (0, 0, 0) ∧ dotI N u = 0 := by
  obtain ⟨a, b, c⟩ := u
  by_cases h : a = 0 ∧ b = 0
  · refine ⟨(1, 0, 0), by simp, ?_⟩
    simp [dotI, h.1]
  · refine ⟨(b, -a, 0), fun e => h ?_, ?_⟩
    · simp only [Prod.mk.injEq] at e
      omega
    · simp [dotI]
      grind
theorem vol_self (u v : V3) : dotI (crossI u v) u = 0 ∧ dotI (crossI u v) v = 0 := by
  unfold dotI crossI
  constructor <;> grind
theorem on_iff {vs : List V3} (hv : ∀ v ∈ vs, TOk big v) (h0 : vs ≠ []) : onI vs = true ↔ ∃ N : V3, N ≠ (0, 0, 0) ∧ ∀ v ∈ vs, dotI N v = 0 := by
  match vs with
  | [] => exact absurd rfl h0
  | p :: r =>
    have hp := hv p (by simp)
    obtain ⟨r', er⟩ : ∃ r', r.filter (fun v => !decide (v = p)) = r' := ⟨_, rfl⟩
    have mem : ∀ v, v ∈ r' ↔ v ∈ r ∧ v ≠ p := fun v => by
      rw [← er, List.mem_filter]
      simp
    rw [onI_cons, er]
    match r' with
    | [] =>
      refine ⟨fun _ => ?_, fun _ => rfl⟩
      obtain ⟨N, hN, h⟩ := perp hp
      refine ⟨N, hN, fun v hv => ?_⟩
      rcases List.mem_cons.mp hv with e | hv
      · rw [e]; exact h
      · by_cases q : v = p
        · rw [q]; exact h
        · exact absurd ((mem v).mpr ⟨hv, q⟩) (by simp)
    | q :: r'' =>
      obtain ⟨hq, hne⟩ := (mem q).mp (by simp)
      have hq := hv q (by simp [hq])
      constructor
      · intro h
        have h := List.all_eq_true.mp h
        refine ⟨crossI p q, cross_ne hp hq (Ne.symm hne), fun v hv => ?_⟩
        by_cases z : v = p
        · rw [z]; exact (vol_self p q).1
        · have hv : v ∈ r := (List.mem_cons.mp hv).resolve_left z
          exact of_decide_eq_true (h v ((mem v).mpr ⟨hv, z⟩))
      · rintro ⟨N, hN, h⟩
        refine List.all_eq_true.mpr fun w hw => decide_eq_true ?_
        exact ortho hN (h p (by simp)) (h q (by simp [((mem q).mp (by simp)).1])) (h w (by simp [((mem w).mp hw).1]))
theorem on_three {u v w : V3} (hu : TOk big u) (hv : TOk big v) (hw : TOk big w) : onI [u, v, w] = decide (volI u v w = 0) := by
  have hA : ∀ x ∈ [u, v, w], TOk big x := fun x hx => by
    simp only [List.mem_cons, List.not_mem_nil, or_false] at hx
    rcases hx with rfl | rfl | rfl
    · exact hu
    · exact hv
    · exact hw
  have key := on_iff hA (by simp)
  by_cases h : volI u v w = 0
  · rw [decide_eq_true h]
    refine key.mpr ?_
    by_cases q : u = v
    · by_cases q2 : u = w
      · obtain ⟨N, hN, hp⟩ := perp hu
        refine ⟨N, hN, fun x hx => ?_⟩
        simp only [List.mem_cons, List.not_mem_nil, or_false] at hx
        rcases hx with e | e | e
        · rw [e]; exact hp
        · rw [e, ← q]; exact hp
        · rw [e, ← q2]; exact hp
      · refine ⟨crossI u w, cross_ne hu hw q2, fun x hx => ?_⟩
        simp only [List.mem_cons, List.not_mem_nil, or_false] at hx
        rcases hx with e | e | e
        · rw [e]; exact (vol_self u w).1
        · rw [e, ← q]; exact (vol_self u w).1
        · rw [e]; exact (vol_self u w).2
    · refine ⟨crossI u v, cross_ne hu hv q, fun x hx => ?_⟩
      simp only [List.mem_cons, List.not_mem_nil, or_false] at hx
      rcases hx with e | e | e
      · rw [e]; exact (vol_self u v).1
      · rw [e]; exact (vol_self u v).2
      · rw [e]; exact h
  · rw [decide_eq_false h]
    refine Bool.eq_false_iff.mpr fun z => h ?_
    obtain ⟨N, hN, hp⟩ := key.mp z
    exact ortho hN (hp u (by simp)) (hp v (by simp)) (hp w (by simp))
theorem on_aba {u v : V3} (hu : TOk big u) (hv : TOk big v) : onI [u, v, u] = true := by
  rw [on_three hu hv hu]
  exact decide_eq_true (vol_self u v).1
theorem on_made {u v : V3} {vs : List V3} (hu : TOk big u) (hv : TOk big v) (hn : u ≠ v) (hs : ∀ m ∈ vs, TOk big m ∧ dotI (crossI u v) m = 0) : onI (vs ++ [u, v]) = true := by
  refine (on_iff ?_ (by simp)).mpr ⟨crossI u v, cross_ne hu hv hn, ?_⟩
  · intro x hx
    rcases List.mem_append.mp hx with h | h
    · exact (hs x h).1
    · simp only [List.mem_cons, List.not_mem_nil, or_false] at h
      rcases h with rfl | rfl
      · exact hu
      · exact hv
  · intro x hx
    rcases List.mem_append.mp hx with h | h
    · exact (hs x h).2
    · simp only [List.mem_cons, List.not_mem_nil, or_false] at h
      rcases h with e | e
      · rw [e]; exact (vol_self u v).1
      · rw [e]; exact (vol_self u v).2
theorem on_made3 {u v w : V3} {vs : List V3} (hu : TOk big u) (hv : TOk big v) (hw : TOk big w) (hn : u ≠ v) (hs : ∀ m ∈ vs, TOk big m ∧ dotI (crossI u v) m = 0) : onI (vs ++ [u, w, v]) = decide (volI u v w = 0) := by
  have hA : ∀ x ∈ vs ++ [u, w, v], TOk big x := by
    intro x hx
    rcases List.mem_append.mp hx with h | h
    · exact (hs x h).1
    · simp only [List.mem_cons, List.not_mem_nil, or_false] at h
      rcases h with rfl | rfl | rfl
      · exact hu
      · exact hw
      · exact hv
  have key := on_iff hA (by simp)
  by_cases h : volI u v w = 0
  · rw [decide_eq_true h]
    refine key.mpr ⟨crossI u v, cross_ne hu hv hn, ?_⟩
    intro x hx
    rcases List.mem_append.mp hx with h' | h'
    · exact (hs x h').2
    · simp only [List.mem_cons, List.not_mem_nil, or_false] at h'
      rcases h' with e | e | e
      · rw [e]; exact (vol_self u v).1
      · rw [e]; exact h
      · rw [e]; exact (vol_self u v).2
  · rw [decide_eq_false h]
    refine Bool.eq_false_iff.mpr fun z => h ?_
    obtain ⟨N, hN, hp⟩ := key.mp z
    exact ortho hN (hp u (by simp)) (hp v (by simp)) (hp w (by simp))
end Lw
end

section
set_option Elab.async false
set_option linter.all false
set_option maxRecDepth 100000
set_option maxHeartbeats 1000000
set_option exponentiation.threshold 10000
/-! k01: three triples asked. -/
namespace Px
theorem den_lamcS (c c' : Nat → List D → M D) (n : Nat) (t : Td) (e : RE) (ρ : Env) (s : Sto) : den (.lamc n t e) ⟨c, some c'⟩ ρ s = tdR t (den e ⟨c', none⟩ ρ s) := rfl
theorem subL0 (a : D) (xs : List D) (s : Sto) : subD (.lst (a :: xs)) (.int 0) s = .ok a s := by
  have e : atI (a :: xs) 0 = some a := by
    unfold atI ixN
    rw [if_pos (by decide), if_pos (by simp [List.length_cons])]
    rfl
  simp [subD, seqOf, e]
theorem subL1 (a b : D) (xs : List D) (s : Sto) : subD (.lst (a :: b :: xs)) (.int 1) s = .ok b s := by
  have e : atI (a :: b :: xs) 1 = some b := by
    unfold atI ixN
    rw [if_pos (by decide), if_pos (by simp [List.length_cons] <;> omega)]
    rfl
  simp [subD, seqOf, e]
theorem subL2 (a b c : D) (xs : List D) (s : Sto) : subD (.lst (a :: b :: c :: xs)) (.int 2) s = .ok c s := by
  have e : atI (a :: b :: c :: xs) 2 = some c := by
    unfold atI ixN
    rw [if_pos (by decide), if_pos (by simp [List.length_cons] <;> omega)]
    rfl
  simp [subD, seqOf, e]
theorem subT0 (v : V3) (s : Sto) : subD (tD v) (.int 0) s = .ok (.int v.1) s := rfl
theorem subT1 (v : V3) (s : Sto) : subD (tD v) (.int 1) s = .ok (.int v.2.1) s := rfl
theorem subT2 (v : V3) (s : Sto) : subD (tD v) (.int 2) s = .ok (.int v.2.2) s := rfl
theorem seqI_tD (v : V3) (s : Sto) : seqI (tD v) s = .ok (.lst [.int v.1, .int v.2.1, .int v.2.2]) s := rfl
theorem eq_intsL (s : Sto) (xs ys : List Int) : eqD s (.lst (iL xs)) (.lst (iL ys)) = some (decide (xs = ys)) := by
  have e : ∀ zs : List Int, toPy deep s (.lst (iL zs)) = some (.list (zs.map .int)) := fun zs => by
    show (match mapO (toPy 29 s) (iL zs) with
      | some ys => some (PySem.PyData.list ys)
      | none => none) = _
    rw [toPy_ints 28 s zs]
  have sh : ∀ zs : List Int, PySem.SeqAt.shaped (.list (zs.map .int)) = true := fun zs => shaped_of (by rw [PySem.PyData.canLay0]; exact lay_ints zs) (by
    have := depth_ints zs
    simp only [PySem.PyData.depth]
    omega)
  unfold eqD
  rw [e, e]
  show (if PySem.SeqAt.shaped (.list (xs.map .int)) = true then (if PySem.SeqAt.shaped (.list (ys.map .int)) = true then some (PySem.PyData.eqv (.list (xs.map .int)) (.list (ys.map .int))) else none) else none) = _
  rw [if_pos (sh xs), if_pos (sh ys), PySem.PyData.eqv, eqv_ints]
theorem ne_self_bl (a : Bool) (s : Sto) : cmpD .ne (.bl a) (.bl a) s = .ok (.bl false) s := by cases a <;> rfl
end Px
namespace Lw
open PySem Px
structure Raw (v : V3) : Prop where
  nz : ∃ z ∈ [v.1, v.2.1, v.2.2], z ≠ 0
  a : v.1.natAbs ≤ big
  b : v.2.1.natAbs ≤ big
  c : v.2.2.natAbs ≤ big
def RollC (c : Nat → List D → Sto → R D) : Prop := ∀ (m : Int) (s rest : Sto), Cup s rest → 0 < m → m < 1152921504606846976 → Wp (c 21 [.cel 0, .int m] s) fun d s' => ∃ v, d = .int v ∧ 0 ≤ v ∧ v < m ∧ Cup s' rest
theorem three_abs (c : Nat → List D → Sto → R D) (l : Option (Nat → List D → Sto → R D)) (hR : RollC c) (s rest : Sto) (hc : Cup s rest) (hS : Wp (c 22 [.cel 0, .lst [.int 1, .int 3, .int 9, .int 1000000000]] s) fun d s' => d ∈ [D.int 1, .int 3, .int 9, .int 1000000000] ∧ Cup s' rest) :
    Wf (ex b__law_three ⟨c, l⟩ [some (.cel 0), none, none, none] s) (fun _ _ => False) fun d s' => ∃ v, d = tD v ∧ Raw v ∧ Cup s' rest := by
  have p9 : powOk 10 9 = true := by decide
  have f3 : fit 3 = true := by decide
  have rg : ∀ s, rngD [.int 3] s = .ok (.lst [.int 0, .int 1, .int 2]) s := fun s => rfl
  simp [b__law_three, p9]
  refine hS.mono ?_
  rintro d s1 ⟨hd, hc1⟩
  have hd : ∃ m : Int, D.int m = d ∧ 1 ≤ m ∧ m ≤ 1000000000 := by
    simp only [List.mem_cons, List.not_mem_nil, or_false] at hd
    rcases hd with h | h | h | h
    · exact ⟨1, h.symm, by decide, by decide⟩
    · exact ⟨3, h.symm, by decide, by decide⟩
    · exact ⟨9, h.symm, by decide, by decide⟩
    · exact ⟨1000000000, h.symm, by decide, by decide⟩
  obtain ⟨m, rfl, m0, m1⟩ := hd
  have mk : mulOk 2 m = true := mul_ok (m := 3) (n := 40) (ha := ⟨by decide⟩) (hb := ⟨by omega⟩) (by decide)
  simp [rg, f3, compL, itemZ_eq, wipe, mk]
  refine (hR (2 * m + 1) s1 rest hc1 (by omega) (by omega)).mono ?_
  rintro _ s2 ⟨x, rfl, x0, x1, hc2⟩
  simp [mk]
  refine (hR (2 * m + 1) s2 rest hc2 (by omega) (by omega)).mono ?_
  rintro _ s3 ⟨y, rfl, y0, y1, hc3⟩
  simp [mk]
  refine (hR (2 * m + 1) s3 rest hc3 (by omega) (by omega)).mono ?_
  rintro _ s4 ⟨z, rfl, z0, z1, hc4⟩
  obtain ⟨X, eX⟩ : ∃ X, x - m = X := ⟨_, rfl⟩
  obtain ⟨Y, eY⟩ : ∃ Y, y - m = Y := ⟨_, rfl⟩
  obtain ⟨Z, eZ⟩ : ∃ Z, z - m = Z := ⟨_, rfl⟩
  have hX : X.natAbs ≤ 1000000000 := by omega
  have hY : Y.natAbs ≤ 1000000000 := by omega
  have hZ : Z.natAbs ≤ 1000000000 := by omega
  have eq := eq_intsL s4 [X, Y, Z] [0, 0, 0]
  have tp : biD .tuple false [.lst [.int X, .int Y, .int Z]] s4 = .ok (.tup [.int X, .int Y, .int Z]) s4 := rfl
  simp only [iL, List.map_cons, List.map_nil] at eq
  by_cases h : [X, Y, Z] = [0, 0, 0]
  · rw [decide_eq_true h] at eq
    simp [eX, eY, eZ, eq]
    exact ⟨0, m, -m, rfl, ⟨nz3 (fun q => by have := q.2.1; simp only at this; omega), by show (0 : Int).natAbs ≤ 1000000000; decide, by show m.natAbs ≤ 1000000000; omega, by show (-m).natAbs ≤ 1000000000; omega⟩, hc4⟩
  · rw [decide_eq_false h] at eq
    simp [eX, eY, eZ, eq, tp]
    exact ⟨X, Y, Z, rfl, ⟨nz3 (fun q => h (by obtain ⟨rfl, rfl, rfl⟩ := q; rfl)), hX, hY, hZ⟩, hc4⟩
theorem three_spec (k : Nat) (s rest : Sto) (hc : Cup s rest) : Wp (call G (k + 3) 27 [.cel 0] s) fun d s' => ∃ v, d = tD v ∧ Raw v ∧ Cup s' rest := by
  have rl : ∀ (m : Int) (s rest : Sto), Cup s rest → 0 < m → m < 1152921504606846976 → Wp (call G (k + 1 + 1) 21 [.cel 0, .int m] s) fun d s' => ∃ v, d = .int v ∧ 0 ≤ v ∧ v < m ∧ Cup s' rest := fun m s rest hc h0 h1 => hRoll (k + 1) m s rest hc h0 h1
  have so := hSome k [.int 1, .int 3, .int 9, .int 1000000000] s rest hc (by simp) (by simp)
  rw [call_eq (g := g__law_three) rfl, if_pos (by rfl), wp_endF]
  simp only [Nat.add_assoc, Nat.reduceAdd] at rl
  show Wf (ex b__law_three _ [some (.cel 0), none, none, none] s) _ _
  generalize Px.call G (k + 2) = c at rl so ⊢
  exact (three_abs c _ rl s rest hc so).mono (fun _ _ h => h.elim) (fun _ _ h => h)
def tr_mid (X : RS) : RS := (.seq (.set (.name 5) (.lst false (.cons (.call 11 (.cons (.sub (.sub (.var 1) (.c (.int 0))) (.c (.int 0))) (.cons (.sub (.sub (.var 1) (.c (.int 0))) (.c (.int 1))) (.cons (.sub (.sub (.var 1) (.c (.int 0))) (.c (.int 2))) .nil)))) (.cons (.call 5 (.cons (.var 2) .nil)) (.cons (.call 5 (.cons (.sub (.var 1) (.c (.int 1))) .nil)) (.cons (.call 12 (.cons (.var 2) (.cons (.var 3) .nil))) .nil)))))) (.seq (.ifs (.not (.call 24 (.cons (.var 5) (.cons (.lst false (.cons (.var 2) (.cons (.c (.bl true)) (.cons (.cmp .eq (.sub (.var 1) (.c (.int 1))) (.var 3)) (.cons (.cmp .eq (.call 29 (.cons (.var 2) (.cons (.var 3) .nil))) (.c (.int 0))) .nil))))) .nil)))) (.seq (.ret (.c (.bl false))) .pass) .pass) (.seq (.set (.name 6) (.call 28 (.cons (.var 2) (.cons (.var 3) (.cons (.var 4) .nil))))) (.seq (.set (.name 5) (.lst false (.cons (.call 15 (.cons (.var 2) (.cons (.var 3) (.cons (.var 4) .nil)))) (.cons (.call 15 (.cons (.var 3) (.cons (.var 2) (.cons (.var 4) .nil)))) (.cons (.call 15 (.cons (.var 3) (.cons (.var 4) (.cons (.var 2) .nil)))) (.cons (.call 18 (.cons (.tup (.cons (.var 2) (.cons (.var 3) (.cons (.var 4) .nil)))) .nil)) .nil)))))) (.seq (.set (.name 7) (.ite (.cmp .gt (.var 6) (.c (.int 0))) (.c (.int 1)) (.ite (.cmp .lt (.var 6) (.c (.int 0))) (.neg (.c (.int 1))) (.c (.int 0))))) (.seq (.ifs (.not (.call 24 (.cons (.bin .add false (.var 5) (.lst false (.cons (.call 19 (.cons (.tup (.cons (.var 2) (.cons (.var 3) (.cons (.var 4) .nil)))) .nil)) .nil))) (.cons (.lst false (.cons (.var 7) (.cons (.neg (.var 7)) (.cons (.var 7) (.cons (.c (.bl true)) (.cons (.var 6) .nil)))))) .nil)))) (.seq (.ret (.c (.bl false))) .pass) .pass) (.seq (.ifs (.not (.call 24 (.cons (.lst false (.cons (.call 14 (.cons (.tup (.cons (.var 2) (.cons (.var 3) (.cons (.var 4) .nil)))) .nil)) (.cons (.call 14 (.cons (.tup (.cons (.var 2) (.cons (.var 3) (.cons (.var 2) .nil)))) .nil)) (.cons (.call 14 (.cons (.tup (.cons (.var 4) .nil)) .nil)) .nil)))) (.cons (.lst false (.cons (.cmp .eq (.var 6) (.c (.int 0))) (.cons (.c (.bl true)) (.cons (.c (.bl true)) .nil)))) .nil)))) (.seq (.ret (.c (.bl false))) .pass) .pass) (.seq (.ifs (.cmp .eq (.var 2) (.var 3)) (.seq (.ret (.cmp .eq (.lamc 30 t__law_error (.call 13 (.cons (.var 2) (.cons (.var 3) .nil)))) (.c (.str "no")))) .pass) .pass) X))))))))
def tr_line (X : RS) : RS := (.seq (.set (.name 8) (.call 13 (.cons (.var 2) (.cons (.var 3) .nil)))) (.seq (.set (.name 9) (.c (.int 0))) (.seq (.for (.name 10) (.seq (.var 8)) (.seq (.set (.name 9) (.call 25 (.cons (.bi .abs false (.cons (.var 10) .nil)) (.cons (.var 9) .nil)))) .pass)) (.seq (.set (.name 5) (.lst false (.cons (.call 29 (.cons (.var 8) (.cons (.var 2) .nil))) (.cons (.call 29 (.cons (.var 8) (.cons (.var 3) .nil))) (.cons (.var 9) (.cons (.cmp .gt (.sub (.comp false (.var 10) [10] (.name 10) (.seq (.var 8)) (.cmp .ne (.var 10) (.c (.int 0)))) (.c (.int 0))) (.c (.int 0))) (.cons (.cmp .eq (.call 13 (.cons (.var 3) (.cons (.var 2) .nil))) (.var 8)) .nil))))))) (.seq (.ifs (.or (.not (.call 24 (.cons (.var 5) (.cons (.lst false (.cons (.c (.int 0)) (.cons (.c (.int 0)) (.cons (.c (.int 1)) (.cons (.c (.bl true)) (.cons (.c (.bl true)) .nil)))))) .nil)))) (.cmp .ne (.cmp .eq (.call 29 (.cons (.var 8) (.cons (.var 4) .nil))) (.c (.int 0))) (.cmp .eq (.var 6) (.c (.int 0))))) (.seq (.ret (.c (.bl false))) .pass) .pass) X)))))
def tr_made : RS := (.seq (.set (.tup (.cons (.name 11) (.cons (.name 12) .nil))) (.tup (.cons (.lst true .nil) (.cons (.bin .add false (.c (.int 2)) (.call 21 (.cons (.var 0) (.cons (.c (.int 7)) .nil)))) .nil)))) (.seq (.for (.name 13) (.rng (.cons (.var 12) .nil)) (.seq (.set (.name 14) (.lst false (.cons (.bin .sub false (.call 21 (.cons (.var 0) (.cons (.c (.int 7)) .nil))) (.c (.int 3))) (.cons (.bin .add false (.c (.int 1)) (.call 21 (.cons (.var 0) (.cons (.c (.int 3)) .nil)))) .nil)))) (.seq (.set (.name 15) (.comp false (.bin .add false (.bin .mul false (.sub (.var 14) (.c (.int 0))) (.var 10)) (.bin .mul false (.sub (.var 14) (.c (.int 1))) (.var 16))) [10, 16] (.tup (.cons (.name 10) (.cons (.name 16) .nil))) (.zip (.var 2) (.var 3)) (.c (.bl true)))) (.seq (.ifs (.and (.cmp .ne (.var 15) (.lst false (.cons (.c (.int 0)) (.cons (.c (.int 0)) (.cons (.c (.int 0)) .nil))))) (.cmp .le (.bi .max1 false (.cons (.comp false (.bi .abs false (.cons (.var 10) .nil)) [10] (.name 10) (.seq (.var 15)) (.c (.bl true))) .nil)) (.bin .pow false (.c (.int 10)) (.c (.int 9))))) (.seq (.drop (.meth .append (.var 11) (.cons (.call 26 (.cons (.var 15) .nil)) .nil))) .pass) .pass) .pass)))) (.seq (.ifs (.not (.call 24 (.cons (.call 14 (.cons (.bi .tuple false (.cons (.bin .add false (.var 11) (.lst false (.cons (.var 2) (.cons (.var 3) .nil)))) .nil)) .nil)) (.cons (.c (.bl true)) .nil)))) (.seq (.ret (.c (.bl false))) .pass) .pass) (.seq (.ret (.call 24 (.cons (.call 14 (.cons (.bi .tuple false (.cons (.bin .add false (.var 11) (.lst false (.cons (.var 2) (.cons (.var 4) (.cons (.var 3) .nil))))) .nil)) .nil)) (.cons (.cmp .eq (.call 29 (.cons (.var 8) (.cons (.var 4) .nil))) (.c (.int 0))) .nil)))) .pass))))
theorem tr_cut : b__law_triples_right = (.seq (.set (.name 1) (.comp false (.call 27 (.cons (.var 0) .nil)) [13] (.name 13) (.rng (.cons (.c (.int 3)) .nil)) (.c (.bl true)))) (.seq (.set (.tup (.cons (.name 2) (.cons (.name 3) (.cons (.name 4) .nil)))) (.tup (.cons (.call 26 (.cons (.sub (.var 1) (.c (.int 0))) .nil)) (.cons (.call 26 (.cons (.sub (.var 1) (.c (.int 1))) .nil)) (.cons (.call 26 (.cons (.sub (.var 1) (.c (.int 2))) .nil)) .nil))))) (tr_mid (tr_line tr_made)))) := rfl
theorem mid_abs (c c' : Nat → List D → Sto → R D) (X : RS) (s : Sto) (A B C u v w : V3) (V σ : Int) {N : Px.Env → Sto → Prop} {T : D → Sto → Prop}
    (e11 : c 11 [.int A.1, .int A.2.1, .int A.2.2] s = .ok (tD u) s) (e5a : c 5 [tD u] s = .ok (.bl true) s) (e5b : c 5 [tD B] s = .ok (.bl (decide (B = v))) s) (e12 : c 12 [tD u, tD v] s = .ok (.bl (decide (dotI u v = 0))) s)
    (e29 : c 29 [tD u, tD v] s = .ok (.int (dotI u v)) s) (e28 : c 28 [tD u, tD v, tD w] s = .ok (.int V) s) (e15a : c 15 [tD u, tD v, tD w] s = .ok (.int σ) s) (e15b : c 15 [tD v, tD u, tD w] s = .ok (.int (-σ)) s) (e15c : c 15 [tD v, tD w, tD u] s = .ok (.int σ) s)
    (e18 : c 18 [.tup [tD u, tD v, tD w]] s = .ok (.bl true) s) (e19 : c 19 [.tup [tD u, tD v, tD w]] s = .ok (.int V) s) (e14a : c 14 [.tup [tD u, tD v, tD w]] s = .ok (.bl (decide (V = 0))) s) (e14b : c 14 [.tup [tD u, tD v, tD u]] s = .ok (.bl true) s) (e14c : c 14 [.tup [tD w]] s = .ok (.bl true) s)
    (lk : ∀ d, pureD 4 d = true → c 24 [d, d] s = .ok (.bl true) s) (hσ : sgn V = σ) (h13 : u = v → c' 13 [tD u, tD v] s = .exc 5 s ∧ T (.bl true) s)
    (hN : u ≠ v → ∀ d5, Wf (ex X ⟨c, some c'⟩ [some (.cel 0), some (.lst [tD A, tD B, tD C]), some (tD u), some (tD v), some (tD w), some d5, some (.int V), some (.int σ), none, none, none, none, none, none, none, none, none] s) N T) :
    Wf (ex (tr_mid X) ⟨c, some c'⟩ [some (.cel 0), some (.lst [tD A, tD B, tD C]), some (tD u), some (tD v), some (tD w), none, none, none, none, none, none, none, none, none, none, none, none] s) N T := by
  have f5 : fit 5 = true := by decide
  have lk1 := lk (.lst [tD u, .bl true, .bl (decide (B = v)), .bl (decide (dotI u v = 0))]) rfl
  have lk2 := lk (.lst [.int σ, .int (-σ), .int σ, .bl true, .int V]) rfl
  have lk3 := lk (.lst [.bl (decide (V = 0)), .bl true, .bl true]) rfl
  have cm1 := cmp_tD s B v
  have cm2 := cmp_tD s u v
  have so : cmpD .eq (.str "no") (.str "no") s = .ok (.bl true) s := by kernel_rfl
  have td : tdR t__law_error (.exc 5 s) = .ok (.str "no") s := by kernel_rfl
  clear lk
  generalize decide (B = v) = bB at e5b cm1 lk1
  have hs : ∀ P ρ, ρ[6]? = some (some (.int V)) → den (.ite (.cmp .gt (.var 6) (.c (.int 0))) (.c (.int 1)) (.ite (.cmp .lt (.var 6) (.c (.int 0))) (.neg (.c (.int 1))) (.c (.int 0)))) P ρ s = .ok (.int σ) s := fun P ρ h => by
    rw [← hσ]
    unfold sgn
    by_cases h1 : 0 < V
    · simp [h, h1]
    · by_cases h2 : V < 0
      · simp [h, h1, h2]
      · simp [h, h1, h2]
  unfold tr_mid
  generalize hse : RE.ite (.cmp .gt (.var 6) (.c (.int 0))) (.c (.int 1)) (.ite (.cmp .lt (.var 6) (.c (.int 0))) (.neg (.c (.int 1))) (.c (.int 0))) = se at hs ⊢
  clear hse hσ
  by_cases huv : u = v
  · obtain ⟨h13, hT⟩ := h13 huv
    rw [decide_eq_true huv] at cm2
    simp [subL0, subL1, subL2, subT0, subT1, subT2, e11, e5a, e5b, e12, e29, cm1, lk1, e28, e15a, e15b, e15c, e18, hs, e19, f5, lk2, e14a, e14b, e14c, lk3, cm2, den_lamcS, h13, td, so]
    exact hT
  · have hN := hN huv
    rw [decide_eq_false huv] at cm2
    simp [subL0, subL1, subL2, subT0, subT1, subT2, e11, e5a, e5b, e12, e29, cm1, lk1, e28, e15a, e15b, e15c, e18, hs, e19, f5, lk2, e14a, e14b, e14c, lk3, cm2]
    exact hN _
theorem line_abs (c : Nat → List D → Sto → R D) (l : Option (Nat → List D → Sto → R D)) (X : RS) (s : Sto) (u v w L : V3) (V σ dw g1 g2 f : Int) (o1 o5 : Option D) {N : Px.Env → Sto → Prop} {T : D → Sto → Prop}
    (e13 : c 13 [tD u, tD v] s = .ok (tD L) s) (e13' : c 13 [tD v, tD u] s = .ok (tD L) s) (ea : c 25 [.int L.1.natAbs, .int 0] s = .ok (.int g1) s) (eb : c 25 [.int L.2.1.natAbs, .int g1] s = .ok (.int g2) s) (ec : c 25 [.int L.2.2.natAbs, .int g2] s = .ok (.int 1) s)
    (d1 : c 29 [tD L, tD u] s = .ok (.int 0) s) (d2 : c 29 [tD L, tD v] s = .ok (.int 0) s) (d3 : c 29 [tD L, tD w] s = .ok (.int dw) s) (hd : dw = 0 ↔ V = 0) (hf : 0 < f) 
    (fd : ∀ (ρ : Px.Env), 10 < ρ.length → ρ[8]? = some (some (tD L)) → den (.sub (.comp false (.var 10) [10] (.name 10) (.seq (.var 8)) (.cmp .ne (.var 10) (.c (.int 0)))) (.c (.int 0))) ⟨c, l⟩ ρ s = .ok (.int f) s)
    (lk : ∀ d, pureD 4 d = true → c 24 [d, d] s = .ok (.bl true) s)
    (hN : ∀ d5 d9 d10, Wf (ex X ⟨c, l⟩ [some (.cel 0), o1, some (tD u), some (tD v), some (tD w), d5, some (.int V), some (.int σ), some (tD L), d9, d10, none, none, none, none, none, none] s) N T) :
    Wf (ex (tr_line X) ⟨c, l⟩ [some (.cel 0), o1, some (tD u), some (tD v), some (tD w), o5, some (.int V), some (.int σ), none, none, none, none, none, none, none, none, none] s) N T := by
  have lk1 := lk (.lst [.int 0, .int 0, .int 1, .bl true, .bl true]) rfl
  have cm := cmp_tD s L L
  rw [decide_eq_true rfl] at cm
  unfold tr_line
  generalize hse : RE.sub (.comp false (.var 10) [10] (.name 10) (.seq (.var 8)) (.cmp .ne (.var 10) (.c (.int 0)))) (.c (.int 0)) = se at fd ⊢
  clear hse lk
  have ne := ne_self_bl (decide (V = 0)) s
  simp [e13, seqI_tD, forL, F.turn, turnF, biD, abs_int, ea, eb, ec, d1, d2, d3, fd, hf, e13', cm, lk1, hd, ne]
  exact hN _ _ _
end Lw
end

section
set_option Elab.async false
set_option linter.all false
set_option maxRecDepth 100000
set_option maxHeartbeats 1000000
set_option exponentiation.threshold 10000
/-! k01: made points. -/
namespace Px
theorem maxI_le : ∀ (xs : List Int) (m n : Int), maxI m xs ≤ n ↔ m ≤ n ∧ ∀ x ∈ xs, x ≤ n
  | [], m, n => by simp [maxI]
  | x :: xs, m, n => by
    rw [maxI, maxI_le xs]
    constructor
    · rintro ⟨h1, h2⟩
      refine ⟨?_, fun y hy => ?_⟩
      · split at h1 <;> omega
      · rcases List.mem_cons.mp hy with e | hy
        · rw [e]
          split at h1 <;> omega
        · exact h2 y hy
    · rintro ⟨h1, h2⟩
      refine ⟨?_, fun y hy => h2 y (List.mem_cons_of_mem _ hy)⟩
      have := h2 x List.mem_cons_self
      split <;> omega
theorem max3_iff {x y z m : Int} : maxI x [y, z] ≤ m ↔ x ≤ m ∧ y ≤ m ∧ z ≤ m := by
  rw [maxI_le]
  simp
theorem cat_cel {s : Sto} {i : Nat} {xs : List D} (ys : List D) (hi : s[i]? = some xs) (hf : fit (xs.length + ys.length) = true) : binD .add false (.cel i) (.lst ys) s = .ok (.lst (xs ++ ys)) s := by
  simp [binD, catD, isL, hi, hf, allocL]
theorem app_cel {s : Sto} {i : Nat} {xs : List D} (d : D) (hi : s[i]? = some xs) (h : xs.length < 16777216) : meD .append i [d] s = .ok .non (s.set i (xs ++ [d])) := by
  simp [meD, hi, meL, h]
end Px
namespace Lw
open PySem Px
def made_body : RS := (.seq (.set (.name 14) (.lst false (.cons (.bin .sub false (.call 21 (.cons (.var 0) (.cons (.c (.int 7)) .nil))) (.c (.int 3))) (.cons (.bin .add false (.c (.int 1)) (.call 21 (.cons (.var 0) (.cons (.c (.int 3)) .nil)))) .nil)))) (.seq (.set (.name 15) (.comp false (.bin .add false (.bin .mul false (.sub (.var 14) (.c (.int 0))) (.var 10)) (.bin .mul false (.sub (.var 14) (.c (.int 1))) (.var 16))) [10, 16] (.tup (.cons (.name 10) (.cons (.name 16) .nil))) (.zip (.var 2) (.var 3)) (.c (.bl true)))) (.seq (.ifs (.and (.cmp .ne (.var 15) (.lst false (.cons (.c (.int 0)) (.cons (.c (.int 0)) (.cons (.c (.int 0)) .nil))))) (.cmp .le (.bi .max1 false (.cons (.comp false (.bi .abs false (.cons (.var 10) .nil)) [10] (.name 10) (.seq (.var 15)) (.c (.bl true))) .nil)) (.bin .pow false (.c (.int 10)) (.c (.int 9))))) (.seq (.drop (.meth .append (.var 11) (.cons (.call 26 (.cons (.var 15) .nil)) .nil))) .pass) .pass) .pass)))
def made_tail : RS := (.seq (.ifs (.not (.call 24 (.cons (.call 14 (.cons (.bi .tuple false (.cons (.bin .add false (.var 11) (.lst false (.cons (.var 2) (.cons (.var 3) .nil)))) .nil)) .nil)) (.cons (.c (.bl true)) .nil)))) (.seq (.ret (.c (.bl false))) .pass) .pass) (.seq (.ret (.call 24 (.cons (.call 14 (.cons (.bi .tuple false (.cons (.bin .add false (.var 11) (.lst false (.cons (.var 2) (.cons (.var 4) (.cons (.var 3) .nil))))) .nil)) .nil)) (.cons (.cmp .eq (.call 29 (.cons (.var 8) (.cons (.var 4) .nil))) (.c (.int 0))) .nil)))) .pass))
theorem made_cut : tr_made = (.seq (.set (.tup (.cons (.name 11) (.cons (.name 12) .nil))) (.tup (.cons (.lst true .nil) (.cons (.bin .add false (.c (.int 2)) (.call 21 (.cons (.var 0) (.cons (.c (.int 7)) .nil)))) .nil)))) (.seq (.for (.name 13) (.rng (.cons (.var 12) .nil)) made_body) made_tail)) := rfl
def Span (u v : V3) (vs : List V3) : Prop := ∀ m ∈ vs, TOk big m ∧ dotI (crossI u v) m = 0
theorem made_step (c : Nat → List D → Sto → R D) (l : Option (Nat → List D → Sto → R D)) (hR : RollC c) {s rest : Sto} {u v : V3} {vs : List V3} (hc : Cup s (rest ++ [vs.map tD])) (hu : TOk big u) (hv : TOk big v) (hl : vs.length ≤ 20) (hs : Span u v vs)
    (hp : ∀ (s : Sto) (x y z : Int), (∃ w ∈ [x, y, z], w ≠ 0) → x.natAbs ≤ big → y.natAbs ≤ big → z.natAbs ≤ big → c 26 [.lst [.int x, .int y, .int z]] s = .ok (.tup (iL (shortL [x, y, z]))) s)
    (t : D) (o1 o4 o5 o6 o7 o8 o9 o10 o12 o13 o14 o15 o16 : Option D) {N : Px.Env → Sto → Prop} {T : D → Sto → Prop}
    (hN : ∀ y14 y15 s' vs', Cup s' (rest ++ [vs'.map tD]) → Span u v vs' → vs'.length ≤ vs.length + 1 → N [some (.cel 0), o1, some (tD u), some (tD v), o4, o5, o6, o7, o8, o9, o10, some (.cel (rest.length + 1)), o12, some t, y14, y15, o16] s') :
    Wf (turnF (ex made_body ⟨c, l⟩) (.name 13) t [some (.cel 0), o1, some (tD u), some (tD v), o4, o5, o6, o7, o8, o9, o10, some (.cel (rest.length + 1)), o12, o13, o14, o15, o16] s) N T := by
  have p9 : powOk 10 9 = true := by decide
  have f3 : fit 3 = true := by decide
  simp [turnF, made_body, p9]
  refine (hR 7 s _ hc (by decide) (by decide)).mono ?_
  rintro _ s1 ⟨a0, rfl, a1, a2, hc1⟩
  simp
  refine (hR 3 s1 _ hc1 (by decide) (by decide)).mono ?_
  rintro _ s2 ⟨b0, rfl, b1, b2, hc2⟩
  obtain ⟨a, ea⟩ : ∃ a, a0 - 3 = a := ⟨_, rfl⟩
  obtain ⟨b, eb⟩ : ∃ b, 1 + b0 = b := ⟨_, rfl⟩
  have ha : Bd 6 a := ⟨by omega⟩
  have hb : Bd 6 b := ⟨by omega⟩
  clear a1 a2 b1 b2
  have hz : ∀ s, zipD (tD u) (tD v) s = .ok (.lst [.tup [.int u.1, .int v.1], .tup [.int u.2.1, .int v.2.1], .tup [.int u.2.2, .int v.2.2]]) s := fun s => rfl
  have i1 := bd40 hu.a; have i2 := bd40 hu.b; have i3 := bd40 hu.c
  have i4 := bd40 hv.a; have i5 := bd40 hv.b; have i6 := bd40 hv.c
  obtain ⟨x, hx⟩ : ∃ x, a * u.1 + b * v.1 = x := ⟨_, rfl⟩
  obtain ⟨y, hy⟩ : ∃ y, a * u.2.1 + b * v.2.1 = y := ⟨_, rfl⟩
  obtain ⟨z, hz'⟩ : ∃ z, a * u.2.2 + b * v.2.2 = z := ⟨_, rfl⟩
  have eq := eq_intsL s2 [x, y, z] [0, 0, 0]
  have mx : biD .max1 false [.lst [.int (x.natAbs : Int), .int (y.natAbs : Int), .int (z.natAbs : Int)]] s2 = .ok (.int (maxI (x.natAbs : Int) [(y.natAbs : Int), (z.natAbs : Int)])) s2 := rfl
  have ab : ∀ x : Int, biD .abs false [.int x] s2 = .ok (.int (x.natAbs : Int)) s2 := fun x => by simp [biD, abs_int]
  simp only [iL, List.map_cons, List.map_nil] at eq
  by_cases h : [x, y, z] = [0, 0, 0]
  · rw [decide_eq_true h] at eq
    simp [ea, eb, hz, f3, compL, itemZ_eq, wipe, seqOf, subL0, subL1, mul_ok, hx, hy, hz', eq]
    exact hN _ _ s2 vs hc2 hs (by omega)
  · rw [decide_eq_false h] at eq
    by_cases hm : maxI (x.natAbs : Int) [(y.natAbs : Int), (z.natAbs : Int)] ≤ 1000000000
    · obtain ⟨m1, m2, m3⟩ := max3_iff.mp hm
      have nz : ∃ w ∈ [x, y, z], w ≠ 0 := nz3 (fun q => h (by obtain ⟨rfl, rfl, rfl⟩ := q; rfl))
      have b1 : x.natAbs ≤ big := by show x.natAbs ≤ 1000000000; omega
      have b2 : y.natAbs ≤ big := by show y.natAbs ≤ 1000000000; omega
      have b3 : z.natAbs ≤ big := by show z.natAbs ≤ 1000000000; omega
      have hp := hp s2 x y z nz b1 b2 b3
      obtain ⟨p, q, r, j, eS, o, hj, j1, j2, j3⟩ := tr_short nz b1 b2 b3
      rw [eS] at hp
      have hp : c 26 [.lst [.int x, .int y, .int z]] s2 = .ok (tD (p, q, r)) s2 := hp
      have ap := app_cel (tD (p, q, r)) (cup_cell hc2) (by rw [List.length_map]; omega)
      simp [ea, eb, hz, f3, compL, itemZ_eq, wipe, seqOf, subL0, subL1, mul_ok, hx, hy, hz', eq, ab, mx, hm, hp, ap]
      have hc3 := cup_put (L' := (vs ++ [(p, q, r)]).map tD) hc2
      rw [List.map_append, List.map_cons, List.map_nil] at hc3
      refine hN _ _ _ (vs ++ [(p, q, r)]) (by rw [List.map_append]; exact hc3) ?_ (by simp)
      intro m hm
      rcases List.mem_append.mp hm with hm | hm
      · exact hs m hm
      · rw [List.mem_singleton.mp hm]
        refine ⟨o, ?_⟩
        have k1 : j * dotI (crossI u v) (p, q, r) = 0 := by
          have e : j * dotI (crossI u v) (p, q, r) = dotI (crossI u v) (j * p, j * q, j * r) := by
            unfold dotI
            grind
          rw [e, ← j1, ← j2, ← j3, ← hx, ← hy, ← hz']
          unfold dotI crossI
          grind
        exact (Int.mul_eq_zero.mp k1).resolve_left hj
    · simp [ea, eb, hz, f3, compL, itemZ_eq, wipe, seqOf, subL0, subL1, mul_ok, hx, hy, hz', eq, ab, mx, hm]
      exact hN _ _ s2 vs hc2 hs (by omega)
theorem made_abs (c : Nat → List D → Sto → R D) (l : Option (Nat → List D → Sto → R D)) (hR : RollC c) {s rest : Sto} {u v w L : V3} (V dw : Int) (hc : Cup s rest) (hu : TOk big u) (hv : TOk big v)
    (hp : ∀ (s : Sto) (x y z : Int), (∃ w ∈ [x, y, z], w ≠ 0) → x.natAbs ≤ big → y.natAbs ≤ big → z.natAbs ≤ big → c 26 [.lst [.int x, .int y, .int z]] s = .ok (.tup (iL (shortL [x, y, z]))) s)
    (o1 o5 o6 o7 o9 o10 : Option D) {N : Px.Env → Sto → Prop} {T : D → Sto → Prop}
    (e14 : ∀ s vs, Span u v vs → vs.length ≤ 10 → c 14 [.tup ((vs ++ [u, v]).map tD)] s = .ok (.bl true) s) (e14' : ∀ s vs, Span u v vs → vs.length ≤ 10 → c 14 [.tup ((vs ++ [u, w, v]).map tD)] s = .ok (.bl (decide (V = 0))) s)
    (d3 : ∀ s, c 29 [tD L, tD w] s = .ok (.int dw) s) (hd : dw = 0 ↔ V = 0) (lk : ∀ b s, c 24 [.bl b, .bl b] s = .ok (.bl true) s) (hT : ∀ s' rest', Cup s' rest' → T (.bl true) s') :
    Wf (ex tr_made ⟨c, l⟩ [some (.cel 0), o1, some (tD u), some (tD v), some (tD w), o5, o6, o7, some (tD L), o9, o10, none, none, none, none, none, none] s) N T := by
  rw [made_cut]
  have step := fun s vs hc hl hs t o5 o6 o7 o9 o10 o12 o13 o14 o15 o16 N T hN => @made_step c l hR s rest u v vs hc hu hv hl hs hp t o1 (some (tD w)) o5 o6 o7 (some (tD L)) o9 o10 o12 o13 o14 o15 o16 N T hN
  generalize made_body = mb at step ⊢
  obtain ⟨hc1, hlen⟩ := cup_new hc (([] : List V3).map tD)
  have hc1 : Cup (s ++ [[]]) (rest ++ [([] : List V3).map tD]) := hc1
  simp
  refine (hR 7 _ _ hc1 (by decide) (by decide)).mono ?_
  rintro _ s1 ⟨n0, rfl, n1, n2, hc2⟩
  obtain ⟨n, en⟩ : ∃ n, 2 + n0 = n := ⟨_, rfl⟩
  have hn : 2 ≤ n ∧ n ≤ 8 := by omega
  have rg : ∀ s, rngD [.int n] s = .ok (.lst (rngL 0 n.toNat)) s := fun s => by
    have : smallI n = true := by
      unfold smallI
      simp
      omega
    simp [rngD, this]
  have rlen := rngL_len 0 n.toNat
  have rl8 : (rngL 0 n.toNat).length ≤ 8 := by rw [rlen]; omega
  generalize rngL 0 n.toNat = RL at rg rl8
  simp [seqOf, en, hlen, rg]
  refine wf_forL (fun rem ρ s => ∃ x13 x14 x15 vs, ρ = [some (.cel 0), o1, some (tD u), some (tD v), some (tD w), o5, o6, o7, some (tD L), o9, o10, some (.cel (rest.length + 1)), some (.int n), x13, x14, x15, none] ∧ Cup s (rest ++ [vs.map tD]) ∧ Span u v vs ∧ vs.length + rem.length ≤ 8) ⟨none, none, none, [], rfl, hc2, (by intro m hm; simp at hm), by simpa using rl8⟩ ?_ ?_
  · rintro ρ s2 ⟨x13, x14, x15, vs, rfl, hc3, hs, hl⟩
    simp at hl
    have c1 := cat_cel [tD u, tD v] (cup_cell hc3) (fit_of (by simp; omega))
    have c2 := cat_cel [tD u, tD w, tD v] (cup_cell hc3) (fit_of (by simp; omega))
    have e14 := e14 s2 vs hs (by omega)
    have e14' := e14' s2 vs hs (by omega)
    have t1 : biD .tuple false [.lst (vs.map tD ++ [tD u, tD v])] s2 = .ok (.tup ((vs ++ [u, v]).map tD)) s2 := by rw [List.map_append]; rfl
    have t2 : biD .tuple false [.lst (vs.map tD ++ [tD u, tD w, tD v])] s2 = .ok (.tup ((vs ++ [u, w, v]).map tD)) s2 := by rw [List.map_append]; rfl
    generalize (vs ++ [u, v]).map tD = M1 at e14 t1
    generalize (vs ++ [u, w, v]).map tD = M2 at e14' t2
    generalize vs.map tD ++ [tD u, tD v] = M3 at t1 c1
    generalize vs.map tD ++ [tD u, tD w, tD v] = M4 at t2 c2
    simp [made_tail, c1, c2, t1, t2, e14, e14', lk, d3, hd]
    exact hT _ _ hc3
  · rintro t rem ρ s2 ⟨x13, x14, x15, vs, rfl, hc3, hs, hl⟩
    simp at hl
    refine step s2 vs hc3 (by omega) hs t _ _ _ _ _ _ _ _ _ _ _ _ ?_
    intro y14 y15 s' vs' hc' hs' hl'
    exact ⟨_, _, _, vs', rfl, hc', hs', by omega⟩
end Lw
end

section
set_option Elab.async false
set_option linter.all false
set_option maxRecDepth 100000
set_option maxHeartbeats 1000000
set_option exponentiation.threshold 10000
/-! k01: three triples asked, joined. -/
namespace Lw
open PySem Px
theorem raw_short {A : V3} (h : Raw A) : ∃ u : V3, shortL (lD A) = lD u ∧ TOk big u := by
  obtain ⟨a, b, c, j, e, o, _⟩ := tr_short h.nz h.a h.b h.c
  exact ⟨(a, b, c), e, o⟩
theorem sgn_neg (x : Int) : sgn (-x) = -sgn x := by
  unfold sgn
  split <;> split <;> first | omega | (split <;> omega) | skip
  all_goals (try split) <;> omega
theorem vol_swap (u v w : V3) : volI v u w = -volI u v w := by
  unfold volI dotI crossI
  grind
theorem vol_turn (u v w : V3) : volI v w u = volI u v w := by
  unfold volI dotI crossI
  grind
theorem line_of {u v : V3} (hu : TOk big u) (hv : TOk big v) (hn : u ≠ v) : ∃ (L : V3) (j : Int), shortL (lD (crossI u v)) = lD L ∧ TOk (2 ^ 100) L ∧ j ≠ 0 ∧ crossI u v = (j * L.1, j * L.2.1, j * L.2.2) := by
  have hc := cross_ne hu hv hn
  obtain ⟨b1, b2, b3⟩ := bdc hu hv
  obtain ⟨a, b, c, j, e, o, hj, j1, j2, j3⟩ := tr_short (m := 2 ^ 100) (nz3 (fun q => hc (Prod.ext q.1 (Prod.ext q.2.1 q.2.2)))) (Nat.le_of_lt b1.lt) (Nat.le_of_lt b2.lt) (Nat.le_of_lt b3.lt)
  exact ⟨(a, b, c), j, e, o, hj, Prod.ext j1 (Prod.ext j2 j3)⟩
theorem dot_scale (j : Int) (L w : V3) : dotI (j * L.1, j * L.2.1, j * L.2.2) w = j * dotI L w := by
  unfold dotI
  grind
theorem bd101 {L : V3} (o : TOk (2 ^ 100) L) : Bd 300 L.1 ∧ Bd 300 L.2.1 ∧ Bd 300 L.2.2 := by
  have h : ∀ {x : Int}, x.natAbs ≤ 2 ^ 100 → Bd 300 x := fun h => ⟨Nat.lt_of_le_of_lt h (by decide)⟩
  exact ⟨h o.a, h o.b, h o.c⟩
theorem tr_all (k : Nat) (s rest : Sto) (hc : Cup s rest) {A B C : V3} (hA : Raw A) (hB : Raw B) (hC : Raw C) (u v w : V3) (eA : shortL (lD A) = lD u) (eB : shortL (lD B) = lD v) (eC : shortL (lD C) = lD w) (hu : TOk big u) (hv : TOk big v) (hw : TOk big w) (N : Px.Env → Sto → Prop) (T : D → Sto → Prop)
    (hT : ∀ s' rest', Cup s' rest' → T (.bl true) s') (c c' : Nat → List D → Sto → R D) (hcc : Px.call G (k + 9) = c) (hcc' : Px.call G (k + 7) = c') :
    Wf (ex (tr_mid (tr_line tr_made)) ⟨c, some c'⟩ [some (.cel 0), some (.lst [tD A, tD B, tD C]), some (tD u), some (tD v), some (tD w), none, none, none, none, none, none, none, none, none, none, none, none] s) N T := by
  have e11 := triple3 (k + 6) s hA.nz hA.a hA.b hA.c
  rw [show shortL [A.1, A.2.1, A.2.2] = lD u from eA] at e11
  have e5a := is_triple (k + 6) s hu
  have e5b := is_tripleG (k + 6) s hB.nz hB.a hB.b hB.c
  rw [show shortL [B.1, B.2.1, B.2.2] = lD v from eB, show decide (lD v = [B.1, B.2.1, B.2.2]) = decide (B = v) from decide_eq_decide.mpr ⟨fun h => (lD_inj h).symm, fun h => by rw [h]; rfl⟩] at e5b
  have e12 := is_on (k + 4) s hu hv
  have bu : ∀ {x : V3}, TOk big x → Bd 300 x.1 ∧ Bd 300 x.2.1 ∧ Bd 300 x.2.2 := fun h => ⟨(bd40 h.a).up (by decide), (bd40 h.b).up (by decide), (bd40 h.c).up (by decide)⟩
  obtain ⟨u1, u2, u3⟩ := bu hu
  obtain ⟨v1, v2, v3⟩ := bu hv
  obtain ⟨w1, w2, w3⟩ := bu hw
  have e29 := ldot3 (k + 8) s u v u1 u2 u3 v1 v2 v3
  have e28 := lvol3 (k + 8) s hu hv hw
  have e15a := side3 (k + 4) s hu hv hw
  have e15b := side3 (k + 4) s hv hu hw
  have e15c := side3 (k + 4) s hv hw hu
  rw [vol_swap, sgn_neg] at e15b
  rw [vol_turn] at e15c
  have e18 := table3 (k + 6) s hu hv hw
  have e19 := det3 (k + 5) s hu hv hw
  have m3 : ∀ {a b c : V3}, TOk big a → TOk big b → TOk big c → ∀ x ∈ [a, b, c], TOk big x := fun {a b c} h1 h2 h3 x hx => by
    simp only [List.mem_cons, List.not_mem_nil, or_false] at hx
    rcases hx with rfl | rfl | rfl
    · exact h1
    · exact h2
    · exact h3
  have e14a := on_one (k + 5) s (m3 hu hv hw) (by simp) (by simp)
  rw [on_three hu hv hw] at e14a
  have e14b := on_one (k + 5) s (m3 hu hv hu) (by simp) (by simp)
  rw [on_aba hu hv] at e14b
  have e14c := on_one (k + 5) s (vs := [w]) (by intro x hx; rw [List.mem_singleton.mp hx]; exact hw) (by simp) (by simp)
  have lk := fun d s hp => hLike 4 (k + 9) d s hp (show 4 + 1 ≤ k + 9 by omega)
  have j0 := join3 (k + 2) s hu hv (fun h => cross_ne hu hv h)
  have j1 := join3 (k + 4) s hu hv (fun h => cross_ne hu hv h)
  have j2 := join3 (k + 4) s hv hu (fun h => cross_ne hv hu h)
  have dv := fun s a b ha hb h => divisor (k + 8) s a b ha hb h
  have ld := fun s (u v : V3) h1 h2 h3 h4 h5 h6 => ldot3 (k + 8) s u v h1 h2 h3 h4 h5 h6
  have rl : ∀ (m : Int) (s rest : Sto), Cup s rest → 0 < m → m < 1152921504606846976 → Wp (call G (k + 8 + 1) 21 [.cel 0, .int m] s) fun d s' => ∃ v, d = .int v ∧ 0 ≤ v ∧ v < m ∧ Cup s' rest := fun m s rest hc h0 h1 => hRoll (k + 8) m s rest hc h0 h1
  have pl := fun s x y z h (h1 : x.natAbs ≤ big) (h2 : y.natAbs ≤ big) (h3 : z.natAbs ≤ big) => law_plain (k + 7) s (.lst (iL [x, y, z])) (.inr rfl) h ((bd40 h1).up (by decide)) ((bd40 h2).up (by decide)) ((bd40 h3).up (by decide))
  have on := fun s vs hv h1 h8 => @on_one (k + 5) s vs hv h1 h8
  simp only [Nat.add_assoc, Nat.reduceAdd] at e11 e5a e5b e12 e29 e28 e15a e15b e15c e18 e19 e14a e14b e14c lk j0 j1 j2 dv ld rl pl on
  rw [hcc] at e11 e5a e5b e12 e29 e28 e15a e15b e15c e18 e19 e14a e14b e14c j1 j2
  simp only [hcc] at lk dv ld rl pl on
  rw [hcc'] at j0
  clear hcc hcc'
  refine mid_abs c c' (tr_line tr_made) s A B C u v w (volI u v w) (sgn (volI u v w)) e11 e5a e5b e12 e29 e28 e15a e15b e15c e18 e19 e14a e14b e14c (fun d hp => lk d s hp) rfl ?_ ?_
  · intro h
    rw [if_pos h] at j0
    exact ⟨j0, hT _ _ hc⟩
  · intro hn d5
    rw [if_neg hn] at j1
    rw [if_neg (Ne.symm hn)] at j2
    obtain ⟨L, j, eL, oL, hj, ej⟩ := line_of hu hv hn
    have es : shortL (lD (crossI v u)) = lD L := by
      rw [← eL]
      refine tr_par (u := -1) (v := 1) (by decide) (by decide) ?_ ?_ ?_ ?_ ?_
      · exact nz3 (fun q => cross_ne hv hu (Ne.symm hn) (Prod.ext q.1 (Prod.ext q.2.1 q.2.2)))
      · exact nz3 (fun q => cross_ne hu hv hn (Prod.ext q.1 (Prod.ext q.2.1 q.2.2)))
      · simp only [crossI]; grind
      · simp only [crossI]; grind
      · simp only [crossI]; grind
    rw [eL] at j1
    rw [es] at j2
    obtain ⟨l1, l2, l3⟩ := bd101 oL
    have dz : ∀ x : V3, dotI (crossI u v) x = j * dotI L x := fun x => by rw [ej, dot_scale]
    have z1 : dotI L u = 0 := by
      have := (vol_self u v).1
      rw [dz] at this
      exact (Int.mul_eq_zero.mp this).resolve_left hj
    have z2 : dotI L v = 0 := by
      have := (vol_self u v).2
      rw [dz] at this
      exact (Int.mul_eq_zero.mp this).resolve_left hj
    have hd : dotI L w = 0 ↔ volI u v w = 0 := by
      unfold volI
      rw [dz]
      exact ⟨fun h => by rw [h, Int.mul_zero], fun h => (Int.mul_eq_zero.mp h).resolve_left hj⟩
    have n1 : ∀ x : Int, Bd 300 x → x.natAbs < 2 ^ 599 := fun x h => Nat.lt_of_lt_of_le h.lt (Nat.pow_le_pow_right (by decide) (by decide))
    have ga := dv s L.1.natAbs 0 (by omega) (by omega) (by decide)
    have gb := dv s L.2.1.natAbs L.1.natAbs (by omega) (by omega) (by rw [Int.natAbs_natCast]; exact n1 _ l1)
    have g3 : Nat.gcd L.2.1.natAbs L.1.natAbs < 2 ^ 599 := by
      by_cases q : L.1.natAbs = 0
      · rw [q, Nat.gcd_zero_right]
        exact n1 _ l2
      · exact Nat.lt_of_le_of_lt (Nat.gcd_le_right _ (by omega)) (n1 _ l1)
    have gc := dv s L.2.2.natAbs (Nat.gcd L.2.1.natAbs L.1.natAbs : Nat) (by omega) (by omega) (by rw [Int.natAbs_natCast]; exact g3)
    simp only [Int.natAbs_natCast, Int.natAbs_zero, Nat.gcd_zero_right] at ga gb gc
    have one := short_gcd (xs := [L.1, L.2.1, L.2.2]) oL.nz
    rw [oL.id, gcd3] at one
    rw [show Nat.gcd L.2.2.natAbs (Nat.gcd L.2.1.natAbs L.1.natAbs) = 1 by rw [← one, Nat.gcd_comm L.2.1.natAbs, Nat.gcd_comm]] at gc
    have d1 := ld s L u l1 l2 l3 u1 u2 u3
    have d2 := ld s L v l1 l2 l3 v1 v2 v3
    have d3 := fun s => ld s L w l1 l2 l3 w1 w2 w3
    rw [z1] at d1
    rw [z2] at d2
    have fp := short_first (xs := [L.1, L.2.1, L.2.2]) oL.nz
    rw [oL.id] at fp
    refine line_abs c (some c') tr_made s u v w L (volI u v w) (sgn (volI u v w)) (dotI L w) L.1.natAbs (Nat.gcd L.2.1.natAbs L.1.natAbs : Nat) (firstL [L.1, L.2.1, L.2.2]) _ _ j1 j2 ga gb gc d1 d2 (d3 s) hd fp ?_ (fun d hp => lk d s hp) ?_
    · intro ρ h10 h8
      exact first_den (i := 10) (it := .seq (.var 8)) (xs := [L.1, L.2.1, L.2.2]) h10 (by simp) oL.nz (by simp [h8, seqI_tD, iL])
    · intro e5 d9 d10
      refine made_abs c (some c') rl (volI u v w) (dotI L w) hc hu hv pl _ _ _ _ _ _ ?_ ?_ d3 hd (fun b s => lk (.bl b) s rfl) hT
      · intro s vs hs hl
        have e := on s (vs ++ [u, v]) (by
          intro x hx
          rcases List.mem_append.mp hx with h | h
          · exact (hs x h).1
          · simp only [List.mem_cons, List.not_mem_nil, or_false] at h
            rcases h with rfl | rfl
            · exact hu
            · exact hv) (by simp) (by simp; omega)
        rw [on_made hu hv hn hs] at e
        exact e
      · intro s vs hs hl
        have e := on s (vs ++ [u, w, v]) (by
          intro x hx
          rcases List.mem_append.mp hx with h | h
          · exact (hs x h).1
          · simp only [List.mem_cons, List.not_mem_nil, or_false] at h
            rcases h with rfl | rfl | rfl
            · exact hu
            · exact hw
            · exact hv) (by simp) (by simp; omega)
        rw [on_made3 hu hv hw hn hs] at e
        exact e
theorem triples_spec (k : Nat) (s rest : Sto) (hc : Cup s rest) : Wp (call G (k + 10) 31 [.cel 0] s) fun d s' => d = .bl true ∧ ∃ rest', Cup s' rest' := by
  have th := fun s hc => three_spec (k + 6) s rest hc
  have pl := fun s (A : V3) (h : Raw A) => law_plain (k + 7) s (tD A) (.inl rfl) h.nz ((bd40 h.a).up (by decide)) ((bd40 h.b).up (by decide)) ((bd40 h.c).up (by decide))
  have all := fun s hc A B C hA hB hC u v w eA eB eC hu hv hw N T hT => @tr_all k s rest hc A B C hA hB hC u v w eA eB eC hu hv hw N T hT
  rw [call_eq (g := g__law_triples_right) rfl, if_pos (by rfl), wp_endF]
  show Wf (ex b__law_triples_right _ [some (.cel 0), none, none, none, none, none, none, none, none, none, none, none, none, none, none, none, none] s) _ _
  have hl : low G (k + 9) = some (Px.call G (k + 7)) := rfl
  rw [hl, tr_cut]
  simp only [Nat.add_assoc, Nat.reduceAdd] at th pl
  generalize hcc : Px.call G (k + 9) = c at th pl ⊢
  generalize hcc' : Px.call G (k + 7) = c'
  have all := fun s hc A B C hA hB hC u v w eA eB eC hu hv hw N T hT => all s hc A B C hA hB hC u v w eA eB eC hu hv hw N T hT c c' hcc hcc'
  clear hcc hcc'
  generalize tr_mid (tr_line tr_made) = X at all ⊢
  have rg : ∀ s, rngD [.int 3] s = .ok (.lst [.int 0, .int 1, .int 2]) s := fun s => rfl
  have f3 : fit 3 = true := by decide
  simp [rg, f3, compL, itemZ_eq, wipe]
  refine (th s hc).mono ?_
  rintro _ s1 ⟨A, rfl, hA, hc1⟩
  try simp
  refine (th s1 hc1).mono ?_
  rintro _ s2 ⟨B, rfl, hB, hc2⟩
  try simp
  refine (th s2 hc2).mono ?_
  rintro _ s3 ⟨C, rfl, hC, hc3⟩
  obtain ⟨u, eu, hu⟩ := raw_short hA
  obtain ⟨v, ev, hv⟩ := raw_short hB
  obtain ⟨w, ew, hw⟩ := raw_short hC
  have p1 := pl s3 A hA
  have p2 := pl s3 B hB
  have p3 := pl s3 C hC
  rw [show shortL [A.1, A.2.1, A.2.2] = lD u from eu] at p1
  rw [show shortL [B.1, B.2.1, B.2.2] = lD v from ev] at p2
  rw [show shortL [C.1, C.2.1, C.2.2] = lD w from ew] at p3
  have p1 : c 26 [tD A] s3 = .ok (tD u) s3 := p1
  have p2 : c 26 [tD B] s3 = .ok (tD v) s3 := p2
  have p3 : c 26 [tD C] s3 = .ok (tD w) s3 := p3
  simp [subL0, subL1, subL2, p1, p2, p3, seqOf]
  exact all s3 hc3 A B C hA hB hC u v w eu ev ew hu hv hw _ _ (fun s' rest' h => ⟨rfl, rest', h⟩)
end Lw
end

section
set_option Elab.async false
set_option linter.all false
set_option maxRecDepth 100000
set_option maxHeartbeats 1000000
set_option exponentiation.threshold 10000
/-! k01: places. -/
namespace Px
def po (p q : Int) : D := .tup [.int p, .int q]
def nD (t b : Int) : D := po (nrm t b).1 (nrm t b).2
def low_tail : RS := (.seq (.set (.name 2) (.ite (.cmp .gt (.var 1) (.c (.int 0))) (.var 2) (.neg (.var 2)))) (.seq (.ret (.tup (.cons (.bin .fdiv false (.var 0) (.var 2)) (.cons (.bin .fdiv false (.var 1) (.var 2)) .nil)))) .pass))
theorem low_core (P : PC) (s : Sto) {a b : Int} (h0 : b ≠ 0) (hb : b.natAbs < 2 ^ 1000) : endF (ex low_tail P [some (.int a), some (.int b), some (.int (Nat.gcd a.natAbs b.natAbs : Nat))] s) = .ok (nD a b) s := by
  have gp : 0 < Nat.gcd a.natAbs b.natAbs := Nat.gcd_pos_of_pos_right _ (by omega)
  have gl : Nat.gcd a.natAbs b.natAbs ≤ b.natAbs := Nat.gcd_le_right _ (by omega)
  have hd : divOk (Nat.gcd a.natAbs b.natAbs : Nat) = true := div_ok (n := 1000) (hb := ⟨by rw [Int.natAbs_natCast]; omega⟩) (by decide)
  have hd2 : divOk (-(Nat.gcd a.natAbs b.natAbs : Nat)) = true := div_ok (n := 1000) (hb := ⟨by rw [Int.natAbs_neg, Int.natAbs_natCast]; omega⟩) (by decide)
  have gi : (0 : Int) < (Nat.gcd a.natAbs b.natAbs : Nat) := by omega
  have f1 : ∀ x : Int, x.fdiv (-(Nat.gcd a.natAbs b.natAbs : Nat)) = -x / (Nat.gcd a.natAbs b.natAbs : Nat) := fun x => by
    rw [← Int.neg_fdiv_neg, Int.neg_neg, Int.fdiv_eq_ediv_of_nonneg _ (by omega)]
  unfold nD nrm
  rw [if_neg h0]
  generalize ((Nat.gcd a.natAbs b.natAbs : Nat) : Int) = g at hd hd2 gi f1 ⊢
  clear gp gl
  by_cases hp : 0 < b
  · simp [low_tail, hp, gi, hd, endF, po]
  · have n1 : ¬ (0 : Int) < -g := by omega
    have n2 : -g < (0 : Int) := by omega
    have n3 : ¬ g < 0 := by omega
    simp [low_tail, hp, n1, n2, n3, h0, gi, hd2, f1, endF, po]
theorem sub_cel0 {s : Sto} {i : Nat} {a : D} {xs : List D} (h : s[i]? = some (a :: xs)) : subD (.cel i) (.int 0) s = .ok a s := by
  have e : atI (a :: xs) 0 = some a := by
    unfold atI ixN
    rw [if_pos (by decide), if_pos (by simp [List.length_cons])]
    rfl
  simp [subD, seqOf, h, e]
theorem sub_cel1 {s : Sto} {i : Nat} {a b : D} {xs : List D} (h : s[i]? = some (a :: b :: xs)) : subD (.cel i) (.int 1) s = .ok b s := by
  have e : atI (a :: b :: xs) 1 = some b := by
    unfold atI ixN
    rw [if_pos (by decide), if_pos (by simp [List.length_cons] <;> omega)]
    rfl
  simp [subD, seqOf, h, e]
theorem subP0 (p q : Int) (s : Sto) : subD (po p q) (.int 0) s = .ok (.int p) s := rfl
theorem subP1 (p q : Int) (s : Sto) : subD (po p q) (.int 1) s = .ok (.int q) s := rfl
end Px
namespace Lw
open PySem Px
structure SPor (p q : Int) : Prop where
  pa : p.natAbs ≤ 10000
  q0 : 0 < q
  q1 : q ≤ 10000
  g : Nat.gcd p.natAbs q.natAbs = 1
theorem spor_nrm {t b : Int} (h0 : 0 < b) (h1 : b ≤ 10000) (t0 : t.natAbs ≤ 10000) : ∃ p q, SPor p q ∧ t / (Nat.gcd t.natAbs b.natAbs : Nat) = p ∧ b / (Nat.gcd t.natAbs b.natAbs : Nat) = q := by
  refine ⟨_, _, ?_, rfl, rfl⟩
  have gp : 0 < Nat.gcd t.natAbs b.natAbs := Nat.gcd_pos_of_pos_right _ (by omega)
  have gd := gcd_div gp
  have d1 : ((Nat.gcd t.natAbs b.natAbs : Nat) : Int) ∣ t := Int.ofNat_dvd_left.mpr (Nat.gcd_dvd_left _ _)
  have d2 : ((Nat.gcd t.natAbs b.natAbs : Nat) : Int) ∣ b := Int.ofNat_dvd_left.mpr (Nat.gcd_dvd_right _ _)
  have l1 : (t / (Nat.gcd t.natAbs b.natAbs : Nat)).natAbs ≤ t.natAbs := by
    rw [Int.natAbs_ediv_of_dvd d1]
    exact Nat.div_le_self _ _
  have l2 : (b / (Nat.gcd t.natAbs b.natAbs : Nat)).natAbs ≤ b.natAbs := by
    rw [Int.natAbs_ediv_of_dvd d2]
    exact Nat.div_le_self _ _
  have z : 0 ≤ b / (Nat.gcd t.natAbs b.natAbs : Nat) := Int.ediv_nonneg (by omega) (by omega)
  have nz : b / (Nat.gcd t.natAbs b.natAbs : Nat) ≠ 0 := fun h => by
    have := Int.ediv_mul_cancel d2
    rw [h] at this
    omega
  exact ⟨by omega, by omega, by omega, gd⟩
theorem is_portion (k : Nat) (s : Sto) {p q : Int} (h : SPor p q) : call G (k + 2) 2 [po p q] s = .ok (.bl true) s := by
  have e1 := hTup k (po p q) 2 2 s rfl
  have e1 : call G (k + 1) 1 [po p q, .int 2, .int 2] s = .ok (.bl true) s := e1
  have hp := h.pa
  have q0 := h.q0
  have q1 := h.q1
  have g := h.g
  have e2 := hWhole k (.int p) (-1000000000000000000000000000000000000000000000000000000000000) 1000000000000000000000000000000000000000000000000000000000000 s rfl
  have e3 := hWhole k (.int q) 1 1000000000000000000000000000000000000000000000000000000000000 s rfl
  rw [show isWh (-1000000000000000000000000000000000000000000000000000000000000) 1000000000000000000000000000000000000000000000000000000000000 (.int p) = true from by
    show (decide (-1000000000000000000000000000000000000000000000000000000000000 ≤ p) && decide (p ≤ 1000000000000000000000000000000000000000000000000000000000000)) = true
    rw [decide_eq_true (by omega), decide_eq_true (by omega)]
    rfl] at e2
  rw [show isWh 1 1000000000000000000000000000000000000000000000000000000000000 (.int q) = true from by
    show (decide (1 ≤ q) && decide (q ≤ 1000000000000000000000000000000000000000000000000000000000000)) = true
    rw [decide_eq_true (by omega), decide_eq_true (by omega)]
    rfl] at e3
  rw [call_eq (g := g_is_portion) rfl, if_pos (by rfl)]
  generalize Px.call G (k + 1) = c at e1 e2 e3 ⊢
  generalize low G (k + 1) = l
  show endF (ex b_is_portion ⟨c, l⟩ [some (po p q)] s) = _
  simp [b_is_portion, c_GREAT, subP0, subP1, e1, e2, e3, biD, g, endF]
theorem lowest (k : Nat) (s : Sto) {a b : Int} (h0 : b ≠ 0) (hb : b.natAbs < 2 ^ 500) : call G (k + 1) 3 [.int a, .int b] s = .ok (nD a b) s := by
  have e := low_core ⟨Px.call G k, low G k⟩ s (a := a) h0 (Nat.lt_trans hb (Nat.pow_lt_pow_right (by decide) (by decide)))
  rw [call_eq (g := g_lowest) rfl, if_pos (by rfl)]
  generalize (PC.mk (Px.call G k) (low G k)) = P at e ⊢
  show endF (ex (.seq (.set (.name 2) (.bi .gcd false (.cons (.var 0) (.cons (.var 1) .nil)))) low_tail) P [some (.int a), some (.int b), none] s) = _
  generalize low_tail = lt at e ⊢
  simp [biD, e]
theorem place3 (k : Nat) (s : Sto) {u : V3} (hu : TOk big u) : call G (k + 5) 16 [tD u] s = .ok (if u.2.2 = 0 then .non else .tup [nD u.1 u.2.2, nD u.2.1 u.2.2]) s := by
  have e1 := need3 k s hu
  have hb : u.2.2.natAbs < 2 ^ 500 := ((bd40 hu.c).up (by decide)).lt
  have e2 : u.2.2 ≠ 0 → call G (k + 4) 3 [.int u.1, .int u.2.2] s = .ok (nD u.1 u.2.2) s := fun h => lowest (k + 3) s h hb
  have e3 : u.2.2 ≠ 0 → call G (k + 4) 3 [.int u.2.1, .int u.2.2] s = .ok (nD u.2.1 u.2.2) s := fun h => lowest (k + 3) s h hb
  rw [call_eq (g := g_place_of) rfl, if_pos (by rfl)]
  generalize Px.call G (k + 4) = c at e1 e2 e3 ⊢
  generalize low G (k + 4) = l
  show endF (ex b_place_of ⟨c, l⟩ [some (tD u)] s) = _
  by_cases h : u.2.2 = 0
  · simp [b_place_of, e1, subT0, subT1, subT2, h, endF]
  · simp [b_place_of, e1, subT0, subT1, subT2, h, e2 h, e3 h, endF]
theorem point3 (k : Nat) (s : Sto) {p q r t : Int} (h : SPor p q) (g : SPor r t) : call G (k + 3) 17 [po p q, po r t] s = .ok (.tup (iL (shortL [p * t, r * q, q * t]))) s := by
  have bd : ∀ {x : Int}, x.natAbs ≤ 10000 → Bd 40 x := fun h => bd40 (Nat.le_trans h (by decide))
  have q0 := h.q0; have q1 := h.q1; have t0 := g.q0; have t1 := g.q1
  have hp := h.pa; have hr := g.pa
  have i1 := bd h.pa; have i2 := bd (x := q) (by omega); have i3 := bd g.pa; have i4 := bd (x := t) (by omega)
  have e1 := is_portion k s h
  have e2 := is_portion k s g
  have nz : q * t ≠ 0 := Int.ne_of_gt (Int.mul_pos q0 t0)
  have e3 := plainly (k + 1) s (a := p * t) (b := r * q) (c := q * t) (nz3 (fun z => nz z.2.2)) (ha := (inferInstance : Bd _ (p * t)).up (by decide)) (hb := (inferInstance : Bd _ (r * q)).up (by decide)) (hc := (inferInstance : Bd _ (q * t)).up (by decide))
  simp only [tr] at e3
  have p4 : powOk 10 4 = true := by decide
  have n1 : ¬ 10000 < q := by omega
  have n2 : ¬ 10000 < t := by omega
  have n3 : ¬ (10000 : Int) < (p.natAbs : Int) := by omega
  have n4 : ¬ (10000 : Int) < (r.natAbs : Int) := by omega
  have ab : ∀ x : Int, biD .abs false [.int x] s = .ok (.int (x.natAbs : Int)) s := fun x => by simp [biD, abs_int]
  have m1 : mulOk p t = true := mul_ok (by decide)
  have m2 : mulOk r q = true := mul_ok (by decide)
  have m3 : mulOk q t = true := mul_ok (by decide)
  rw [call_eq (g := g_point_at) rfl, if_pos (by rfl)]
  generalize Px.call G (k + 2) = c at e1 e2 e3 ⊢
  generalize low G (k + 2) = l
  show endF (ex b_point_at ⟨c, l⟩ [some (po p q), some (po r t), none] s) = _
  clear hp hr q0 q1 t0 t1 i1 i2 i3 i4
  simp [b_point_at, forL, F.turn, turnF, e1, e2, subP0, subP1, p4, n1, n2, n3, n4, ab, m1, m2, m3, e3, endF]
def pl_rest : RS := (.seq (.set (.name 7) (.call 17 (.cons (.sub (.var 3) (.c (.int 0))) (.cons (.sub (.var 3) (.c (.int 1))) .nil)))) (.seq (.set (.name 8) (.call 26 (.cons (.tup (.cons (.bin .mul false (.sub (.sub (.var 3) (.c (.int 0))) (.c (.int 0))) (.sub (.sub (.var 3) (.c (.int 1))) (.c (.int 1)))) (.cons (.bin .mul false (.sub (.sub (.var 3) (.c (.int 1))) (.c (.int 0))) (.sub (.sub (.var 3) (.c (.int 0))) (.c (.int 1)))) (.cons (.bin .mul false (.sub (.sub (.var 3) (.c (.int 0))) (.c (.int 1))) (.sub (.sub (.var 3) (.c (.int 1))) (.c (.int 1)))) .nil)))) .nil))) (.seq (.ifs (.not (.call 24 (.cons (.lst false (.cons (.var 7) (.cons (.call 16 (.cons (.var 7) .nil)) (.cons (.call 5 (.cons (.var 7) .nil)) .nil)))) (.cons (.lst false (.cons (.var 8) (.cons (.tup (.cons (.sub (.var 3) (.c (.int 0))) (.cons (.sub (.var 3) (.c (.int 1))) .nil))) (.cons (.cmp .le (.bi .max1 false (.cons (.comp false (.bi .abs false (.cons (.var 10) .nil)) [10] (.name 10) (.seq (.var 8)) (.c (.bl true))) .nil)) (.bin .pow false (.c (.int 10)) (.c (.int 9)))) .nil)))) .nil)))) (.seq (.ret (.c (.bl false))) .pass) .pass) (.seq (.set (.name 9) (.call 26 (.cons (.tup (.cons (.bin .sub false (.call 21 (.cons (.var 0) (.cons (.c (.int 9)) .nil))) (.c (.int 4))) (.cons (.bin .add false (.c (.int 1)) (.call 21 (.cons (.var 0) (.cons (.c (.int 4)) .nil)))) (.cons (.c (.int 0)) .nil)))) .nil))) (.seq (.ret (.call 24 (.cons (.lst false (.cons (.call 16 (.cons (.var 9) .nil)) (.cons (.call 12 (.cons (.var 9) (.cons (.tup (.cons (.c (.int 0)) (.cons (.c (.int 0)) (.cons (.c (.int 1)) .nil)))) .nil))) (.cons (.call 12 (.cons (.var 7) (.cons (.tup (.cons (.c (.int 0)) (.cons (.c (.int 0)) (.cons (.c (.int 1)) .nil)))) .nil))) .nil)))) (.cons (.lst false (.cons (.c .non) (.cons (.c (.bl true)) (.cons (.c (.bl false)) .nil)))) .nil)))) .pass)))))
def pl_body : RS := (.seq (.set (.name 6) (.call 25 (.cons (.bi .abs false (.cons (.var 4) .nil)) (.cons (.var 5) .nil)))) (.seq (.drop (.meth .append (.var 3) (.cons (.tup (.cons (.bin .fdiv false (.var 4) (.var 6)) (.cons (.bin .fdiv false (.var 5) (.var 6)) .nil))) .nil))) .pass))
theorem pl_cut : b__law_places_right = (.seq (.set (.tup (.cons (.name 1) (.cons (.name 2) .nil))) (.tup (.cons (.lst false (.cons (.bin .sub false (.call 21 (.cons (.var 0) (.cons (.c (.int 41)) .nil))) (.c (.int 20))) (.cons (.bin .add false (.c (.int 1)) (.call 21 (.cons (.var 0) (.cons (.c (.int 20)) .nil)))) .nil))) (.cons (.lst false (.cons (.bin .sub false (.call 21 (.cons (.var 0) (.cons (.c (.int 20001)) .nil))) (.bin .pow false (.c (.int 10)) (.c (.int 4)))) (.cons (.bin .add false (.c (.int 1)) (.call 21 (.cons (.var 0) (.cons (.bin .pow false (.c (.int 10)) (.c (.int 4))) .nil)))) .nil))) .nil)))) (.seq (.set (.name 3) (.lst true .nil)) (.seq (.for (.tup (.cons (.name 4) (.cons (.name 5) .nil))) (.seq (.tup (.cons (.var 1) (.cons (.var 2) .nil)))) pl_body) pl_rest))) := rfl
theorem nrm_nD {a b p q : Int} (h : SPor p q) (hb : b ≠ 0) (e : a * q = b * p) : nD a b = po p q := by
  have n := nrm_eq (t := a) (b := b) (.inr hb) ⟨h.g, .inl h.q0⟩ e
  unfold nD
  rw [n]
theorem pl_abs (c : Nat → List D → Sto → R D) (l : Option (Nat → List D → Sto → R D)) (hR : RollC c) {s rest : Sto} {p q r t : Int} {P : V3} (hc : Cup s (rest ++ [[po p q, po r t]])) (h : SPor p q) (g : SPor r t) (hm : P.1.natAbs ≤ big ∧ P.2.1.natAbs ≤ big ∧ P.2.2.natAbs ≤ big)
    (e17 : c 17 [po p q, po r t] s = .ok (tD P) s) (e26 : c 26 [.tup [.int (p * t), .int (r * q), .int (q * t)]] s = .ok (tD P) s) (e16 : c 16 [tD P] s = .ok (.tup [po p q, po r t]) s) (e5 : c 5 [tD P] s = .ok (.bl true) s)
    (e12 : ∀ s, c 12 [tD P, tr 0 0 1] s = .ok (.bl false) s) (lk : ∀ d s, pureD 4 d = true → c 24 [d, d] s = .ok (.bl true) s)
    (hb : ∀ (s : Sto) (x y : Int), x.natAbs ≤ 10 → 1 ≤ y → y ≤ 10 → ∃ Q : V3, c 26 [.tup [.int x, .int y, .int 0]] s = .ok (tD Q) s ∧ c 16 [tD Q] s = .ok .non s ∧ c 12 [tD Q, tr 0 0 1] s = .ok (.bl true) s)
    (o1 o2 o4 o5 o6 : Option D) {N : Px.Env → Sto → Prop} {T : D → Sto → Prop} (hT : ∀ s' rest', Cup s' rest' → T (.bl true) s') :
    Wf (ex pl_rest ⟨c, l⟩ [some (.cel 0), o1, o2, some (.cel (rest.length + 1)), o4, o5, o6, none, none, none, none] s) N T := by
  have f3 : fit 3 = true := by decide
  have p9 : powOk 10 9 = true := by decide
  have s0 := sub_cel0 (cup_cell hc)
  have s1 := sub_cel1 (cup_cell hc)
  have bd : ∀ {x : Int}, x.natAbs ≤ 10000 → Bd 40 x := fun h => bd40 (Nat.le_trans h (by decide))
  have q0 := h.q0; have q1 := h.q1; have t0 := g.q0; have t1 := g.q1
  have i1 := bd h.pa; have i2 := bd (x := q) (by omega); have i3 := bd g.pa; have i4 := bd (x := t) (by omega)
  have m1 : mulOk p t = true := mul_ok (by decide)
  have m2 : mulOk r q = true := mul_ok (by decide)
  have m3 : mulOk q t = true := mul_ok (by decide)
  clear i1 i2 i3 i4 q0 q1 t0 t1
  have lk1 := lk (.lst [tD P, .tup [po p q, po r t], .bl true]) s rfl
  have lk2 := fun s => lk (.lst [.non, .bl true, .bl false]) s rfl
  have ab : ∀ x : Int, biD .abs false [.int x] s = .ok (.int (x.natAbs : Int)) s := fun x => by simp [biD, abs_int]
  have mx : biD .max1 false [.lst [.int (P.1.natAbs : Int), .int (P.2.1.natAbs : Int), .int (P.2.2.natAbs : Int)]] s = .ok (.int (maxI (P.1.natAbs : Int) [(P.2.1.natAbs : Int), (P.2.2.natAbs : Int)])) s := rfl
  have hm' : maxI (P.1.natAbs : Int) [(P.2.1.natAbs : Int), (P.2.2.natAbs : Int)] ≤ 1000000000 := max3_iff.mpr (by
    have h1 : P.1.natAbs ≤ 1000000000 := hm.1
    have h2 : P.2.1.natAbs ≤ 1000000000 := hm.2.1
    have h3 : P.2.2.natAbs ≤ 1000000000 := hm.2.2
    exact ⟨by omega, by omega, by omega⟩)
  simp [pl_rest, s0, s1, subP0, subP1, e17, m1, m2, m3, e26, e16, e5, seqI_tD, f3, compL, itemZ_eq, wipe, ab, mx, hm', p9, lk1]
  refine (hR 9 s _ hc (by decide) (by decide)).mono ?_
  rintro _ s2 ⟨x0, rfl, x1, x2, hc2⟩
  simp
  refine (hR 4 s2 _ hc2 (by decide) (by decide)).mono ?_
  rintro _ s3 ⟨y0, rfl, y1, y2, hc3⟩
  obtain ⟨x, ex'⟩ : ∃ x, x0 - 4 = x := ⟨_, rfl⟩
  obtain ⟨y, ey⟩ : ∃ y, 1 + y0 = y := ⟨_, rfl⟩
  obtain ⟨Q, a1, a2, a3⟩ := hb s3 x y (by omega) (by omega) (by omega)
  simp only [tr] at a3 e12
  simp [ex', ey, a1, a2, a3, e12, lk2]
  exact hT _ _ hc3
theorem places_spec (k : Nat) (s rest : Sto) (hc : Cup s rest) : Wp (call G (k + 7) 32 [.cel 0] s) fun d s' => d = .bl true ∧ ∃ rest', Cup s' rest' := by
  have rl : ∀ (m : Int) (s rest : Sto), Cup s rest → 0 < m → m < 1152921504606846976 → Wp (call G (k + 5 + 1) 21 [.cel 0, .int m] s) fun d s' => ∃ v, d = .int v ∧ 0 ≤ v ∧ v < m ∧ Cup s' rest := fun m s rest hc h0 h1 => hRoll (k + 5) m s rest hc h0 h1
  have dv := fun s a b ha hb h => divisor (k + 5) s a b ha hb h
  have pt := fun s p q r t h g => @point3 (k + 3) s p q r t h g
  have pl := fun s x y z h h1 h2 h3 => law_plain (k + 4) s (.tup (iL [x, y, z])) (.inl rfl) (x := x) (y := y) (z := z) h h1 h2 h3
  have it := fun s (u : V3) (hu : TOk big u) => is_triple (k + 3) s hu
  have io := fun s (u v : V3) (hu : TOk big u) (hv : TOk big v) => is_on (k + 1) s hu hv
  have pp := fun s u hu => @place3 (k + 1) s u hu
  have lk := fun d s hp => hLike 4 (k + 6) d s hp (show 4 + 1 ≤ k + 6 by omega)
  rw [call_eq (g := g__law_places_right) rfl, if_pos (by rfl), wp_endF]
  show Wf (ex b__law_places_right _ [some (.cel 0), none, none, none, none, none, none, none, none, none, none] s) _ _
  rw [pl_cut]
  simp only [Nat.add_assoc, Nat.reduceAdd] at rl dv pt pl it io pp
  generalize Px.call G (k + 6) = c at rl dv pt pl it io pp lk ⊢
  generalize low G (k + 6) = l
  have rst := fun s rest p q r t P hc h g hm e17 e26 e16 e5 e12 hb o1 o2 o4 o5 o6 N T hT => @pl_abs c l rl s rest p q r t P hc h g hm e17 e26 e16 e5 e12 lk hb o1 o2 o4 o5 o6 N T hT
  generalize pl_rest = pr at rst ⊢
  have p4 : powOk 10 4 = true := by decide
  simp [p4]
  refine (rl 41 s _ hc (by decide) (by decide)).mono ?_
  rintro _ s1 ⟨a0, rfl, a1, a2, hc1⟩
  simp
  refine (rl 20 s1 _ hc1 (by decide) (by decide)).mono ?_
  rintro _ s2 ⟨b0, rfl, b1, b2, hc2⟩
  simp
  refine (rl 20001 s2 _ hc2 (by decide) (by decide)).mono ?_
  rintro _ s3 ⟨c0, rfl, c1, c2, hc3⟩
  simp [p4]
  refine (rl 10000 s3 _ hc3 (by decide) (by decide)).mono ?_
  rintro _ s4 ⟨d0, rfl, d1, d2, hc4⟩
  obtain ⟨A, eA⟩ : ∃ A, a0 - 20 = A := ⟨_, rfl⟩
  obtain ⟨B, eB⟩ : ∃ B, 1 + b0 = B := ⟨_, rfl⟩
  obtain ⟨C, eC⟩ : ∃ C, c0 - 10000 = C := ⟨_, rfl⟩
  obtain ⟨E, eE⟩ : ∃ E, 1 + d0 = E := ⟨_, rfl⟩
  have hA : A.natAbs ≤ 10000 := by omega
  have hB : 0 < B ∧ B ≤ 10000 := by omega
  have hC : C.natAbs ≤ 10000 := by omega
  have hE : 0 < E ∧ E ≤ 10000 := by omega
  clear a1 a2 b1 b2 c1 c2 d1 d2
  have g1 := fun s => dv s A.natAbs B (by omega) (by omega) (by have : B.natAbs < 2 ^ 20 := by omega
                                                                exact Nat.lt_trans this (Nat.pow_lt_pow_right (by decide) (by decide)))
  have g2 := fun s => dv s C.natAbs E (by omega) (by omega) (by have : E.natAbs < 2 ^ 20 := by omega
                                                                exact Nat.lt_trans this (Nat.pow_lt_pow_right (by decide) (by decide)))
  simp only [Int.natAbs_natCast] at g1 g2
  obtain ⟨p, q, h, ep, eq⟩ := spor_nrm hB.1 hB.2 hA
  obtain ⟨r, t, g, er, et⟩ := spor_nrm hE.1 hE.2 hC
  have gp1 : 0 < Nat.gcd A.natAbs B.natAbs := Nat.gcd_pos_of_pos_right _ (by omega)
  have gp2 : 0 < Nat.gcd C.natAbs E.natAbs := Nat.gcd_pos_of_pos_right _ (by omega)
  have gb1 : Nat.gcd A.natAbs B.natAbs ≤ 10000 := Nat.le_trans (Nat.gcd_le_right _ (by omega)) (by omega)
  have gb2 : Nat.gcd C.natAbs E.natAbs ≤ 10000 := Nat.le_trans (Nat.gcd_le_right _ (by omega)) (by omega)
  obtain ⟨g', eg'⟩ : ∃ x : Int, ((Nat.gcd A.natAbs B.natAbs : Nat) : Int) = x := ⟨_, rfl⟩
  obtain ⟨g'', eg''⟩ : ∃ x : Int, ((Nat.gcd C.natAbs E.natAbs : Nat) : Int) = x := ⟨_, rfl⟩
  rw [eg'] at ep eq
  rw [eg''] at er et
  simp only [eg'] at g1
  simp only [eg''] at g2
  have gi1 : 0 < g' ∧ g' ≤ 10000 := by omega
  have gi2 : 0 < g'' ∧ g'' ≤ 10000 := by omega
  clear gp1 gp2 gb1 gb2 eg' eg''
  have k1 : divOk g' = true := div_ok (n := 20) (hb := ⟨by omega⟩) (by decide)
  have k2 : divOk g'' = true := div_ok (n := 20) (hb := ⟨by omega⟩) (by decide)
  obtain ⟨hc5, hlen⟩ := cup_new hc4 ([] : List D)
  have ab : ∀ (x : Int) s, biD .abs false [.int x] s = .ok (.int (x.natAbs : Int)) s := fun x s => by simp [biD, abs_int]
  have ap1 := app_cel (po p q) (cup_cell hc5) (by simp)
  have hc6 := cup_put (L' := [po p q]) hc5
  have ap2 := app_cel (po r t) (cup_cell hc6) (by simp)
  have hc7 := cup_put (L' := [po p q, po r t]) hc6
  simp only [List.nil_append, List.cons_append] at ap1 ap2
  generalize es5 : s4 ++ [[]] = s5 at hc5 hc6 hc7 ap1 ap2
  generalize s5.set (rest.length + 1) [po p q] = s6 at hc6 hc7 ap1 ap2
  generalize s6.set (rest.length + 1) [po p q, po r t] = s7 at hc7 ap2
  have hp1 := gi1.1
  have hp2 := gi2.1
  have epo1 : D.tup [.int p, .int q] = po p q := rfl
  have epo2 : D.tup [.int r, .int t] = po r t := rfl
  simp [eA, eB, eC, eE, seqOf, hlen, es5, pl_body, forL, F.turn, turnF, ab, g1, g2, hp1, hp2, k1, k2, ep, eq, er, et, epo1, epo2, ap1, ap2]
  have q0 := h.q0; have q1 := h.q1; have t0 := g.q0; have t1 := g.q1
  have hpp := h.pa; have hrr := g.pa
  have mul : ∀ {x y : Int}, x.natAbs ≤ 10000 → y.natAbs ≤ 10000 → (x * y).natAbs ≤ big := fun {x y} h1 h2 => by
    rw [Int.natAbs_mul]
    exact Nat.le_trans (Nat.mul_le_mul h1 h2) (by decide)
  have M1 := mul (x := p) (y := t) h.pa (by omega)
  have M2 := mul (x := r) (y := q) g.pa (by omega)
  have M3 := mul (x := q) (y := t) (by omega) (by omega)
  have nz : q * t ≠ 0 := Int.ne_of_gt (Int.mul_pos q0 t0)
  have nzl : ∃ z ∈ [p * t, r * q, q * t], z ≠ 0 := nz3 (fun z => nz z.2.2)
  obtain ⟨P0, P1, P2, j, eS, o, hj, j1, j2, j3⟩ := tr_short nzl M1 M2 M3
  have z2 : P2 ≠ 0 := fun e => nz (by rw [j3, e, Int.mul_zero])
  have o1 : TOk big (0, 0, 1) := ⟨nz3 (by simp), by decide, by decide, by decide, by decide⟩
  refine rst _ rest p q r t (P0, P1, P2) hc7 h g ⟨o.a, o.b, o.c⟩ ?_ ?_ ?_ ?_ ?_ ?_ _ _ _ _ _ _ _ (fun s' rest' h => ⟨rfl, rest', h⟩)
  · have e := pt s7 p q r t h g
    rw [eS] at e
    exact e
  · have e := pl s7 (p * t) (r * q) (q * t) nzl ((bd40 M1).up (by decide)) ((bd40 M2).up (by decide)) ((bd40 M3).up (by decide))
    rw [eS] at e
    exact e
  · have e := pp s7 (P0, P1, P2) o
    have n1 : nD P0 P2 = po p q := nrm_nD h z2 (Int.eq_of_mul_eq_mul_left hj (by
      have a1 : j * (P0 * q) = p * t * q := by rw [j1]; grind
      have a2 : j * (P2 * p) = q * t * p := by rw [j3]; grind
      rw [a1, a2]
      grind))
    have n2 : nD P1 P2 = po r t := nrm_nD g z2 (Int.eq_of_mul_eq_mul_left hj (by
      have a1 : j * (P1 * t) = r * q * t := by rw [j2]; grind
      have a2 : j * (P2 * r) = q * t * r := by rw [j3]; grind
      rw [a1, a2]
      grind))
    simp only [if_neg z2, n1, n2] at e
    exact e
  · exact it _ (P0, P1, P2) o
  · intro s
    have e := io s (P0, P1, P2) (0, 0, 1) o o1
    rw [decide_eq_false (by simp; exact z2)] at e
    exact e
  · intro s x y hx hy1 hy2
    have b1 : x.natAbs ≤ big := Nat.le_trans hx (by decide)
    have b2 : y.natAbs ≤ big := Nat.le_trans (show y.natAbs ≤ 10 by omega) (by decide)
    have nzq : ∃ z ∈ [x, y, 0], z ≠ 0 := nz3 (fun z => by omega)
    obtain ⟨Q0, Q1, Q2, i, eQ, oQ, hi, i1, i2, i3⟩ := tr_short nzq b1 b2 (show (0 : Int).natAbs ≤ big by decide)
    have zQ : Q2 = 0 := (Int.mul_eq_zero.mp i3.symm).resolve_left hi
    have e := pl s x y 0 nzq ((bd40 b1).up (by decide)) ((bd40 b2).up (by decide)) ⟨by decide⟩
    rw [eQ] at e
    have e2 := pp s (Q0, Q1, Q2) oQ
    have e3 := io s (Q0, Q1, Q2) (0, 0, 1) oQ o1
    rw [decide_eq_true (by simp; exact zQ)] at e3
    simp only [if_pos zQ] at e2
    exact ⟨(Q0, Q1, Q2), e, e2, e3⟩
end Lw
end

section
set_option Elab.async false
set_option linter.all false
set_option maxRecDepth 100000
set_option maxHeartbeats 1000000
set_option exponentiation.threshold 10000
/-! k01: limits. -/
namespace Lw
open PySem Px
def lim_mid (X : RS) : RS := (.seq (.set (.name 1) (.bin .pow false (.c (.int 10)) (.c (.int 9)))) (.seq (.set (.name 2) (.lst false (.cons (.c .non) (.cons (.tup .nil) (.cons (.tup (.cons (.c (.int 0)) (.cons (.c (.int 0)) (.cons (.c (.int 0)) .nil)))) (.cons (.tup (.cons (.c (.int 1)) (.cons (.c (.int 2)) .nil))) (.cons (.tup (.cons (.c (.int 1)) (.cons (.c (.int 2)) (.cons (.c (.int 3)) (.cons (.c (.int 4)) .nil))))) (.cons (.lst false (.cons (.c (.int 1)) (.cons (.c (.int 2)) (.cons (.c (.int 3)) .nil)))) (.cons (.tup (.cons (.c (.int 2)) (.cons (.c (.int 4)) (.cons (.c (.int 6)) .nil)))) (.cons (.tup (.cons (.neg (.c (.int 1))) (.cons (.c (.int 0)) (.cons (.c (.int 0)) .nil)))) (.cons (.tup (.cons (.c (.int 0)) (.cons (.neg (.c (.int 1))) (.cons (.c (.int 1)) .nil)))) (.cons (.tup (.cons (.c (.int 0)) (.cons (.c (.int 0)) (.cons (.c (.int 2)) .nil)))) (.cons (.tup (.cons (.bin .add false (.var 1) (.c (.int 1))) (.cons (.c (.int 1)) (.cons (.c (.int 1)) .nil)))) (.cons (.tup (.cons (.c (.bl true)) (.cons (.c (.int 0)) (.cons (.c (.int 0)) .nil)))) (.cons (.tup (.cons (.c (.int 1)) (.cons (.c (.int 0)) (.cons (.c .non) .nil)))) (.cons (.c (.int 0)) .nil)))))))))))))))) (.seq (.set (.name 2) (.bin .add false (.var 2) (.lst false (.cons (.tup (.cons (.c (.int 0)) (.cons (.c (.int 2)) (.cons (.c (.int 0)) .nil)))) (.cons (.tup (.cons (.c (.int 1)) (.cons (.c (.bl true)) (.cons (.c (.int 0)) .nil)))) (.cons (.tup (.cons (.c (.int 1)) (.cons (.c (.int 1)) (.cons (.bin .sub false (.neg (.var 1)) (.c (.int 1))) .nil)))) .nil)))))) (.seq (.ifs (.not (.call 24 (.cons (.comp false (.call 5 (.cons (.var 15) .nil)) [15] (.name 15) (.seq (.bin .add false (.var 2) (.lst false (.cons (.tup (.cons (.c (.int 1)) (.cons (.c (.int 0)) (.cons (.c (.int 0)) .nil)))) (.cons (.tup (.cons (.c (.int 0)) (.cons (.c (.int 1)) (.cons (.neg (.c (.int 5))) .nil)))) (.cons (.tup (.cons (.var 1) (.cons (.c (.int 1)) (.cons (.neg (.var 1)) .nil)))) .nil)))))) (.c (.bl true))) (.cons (.bin .add false (.bin .mul false (.lst false (.cons (.c (.bl false)) .nil)) (.c (.int 17))) (.bin .mul false (.lst false (.cons (.c (.bl true)) .nil)) (.c (.int 3)))) .nil)))) (.seq (.ret (.c (.bl false))) .pass) .pass) X))))
def lim_last : RS := (.seq (.for (.name 7) (.seq (.tup (.cons (.gl 12) (.cons (.gl 13) .nil)))) (.seq (.set (.name 3) (.bin .add false (.var 3) (.lst false (.cons (.lamc 30 t__law_error (.callv 7 (.cons (.var 4) (.cons (.c .non) .nil)))) .nil)))) (.seq (.set (.name 3) (.bin .add false (.var 3) (.lst false (.cons (.lamc 30 t__law_error (.callv 7 (.cons (.var 5) (.cons (.var 4) .nil)))) .nil)))) .pass))) (.seq (.set (.name 3) (.bin .add false (.var 3) (.lst false (.cons (.lamc 30 t__law_error (.call 15 (.cons (.var 4) (.cons (.c .non) (.cons (.c .non) .nil))))) .nil)))) (.seq (.set (.name 3) (.bin .add false (.var 3) (.lst false (.cons (.lamc 30 t__law_error (.call 15 (.cons (.var 5) (.cons (.var 4) (.cons (.c .non) .nil))))) .nil)))) (.seq (.set (.name 3) (.bin .add false (.var 3) (.lst false (.cons (.lamc 30 t__law_error (.call 15 (.cons (.var 5) (.cons (.var 6) (.cons (.var 4) .nil))))) .nil)))) (.seq (.set (.name 3) (.bin .add false (.var 3) (.lst false (.cons (.lamc 30 t__law_error (.call 16 (.cons (.var 4) .nil))) .nil)))) (.seq (.for (.name 8) (.seq (.tup (.cons (.c .non) (.cons (.lst false (.cons (.var 5) .nil)) (.cons (.tup (.cons (.var 4) .nil)) (.cons (.tup (.cons (.var 5) (.cons (.var 4) .nil))) (.cons (.bin .mul false (.tup (.cons (.var 5) .nil)) (.c (.int 61))) (.cons (.c (.int 0)) .nil)))))))) (.seq (.set (.name 3) (.bin .add false (.var 3) (.lst false (.cons (.lamc 30 t__law_error (.call 14 (.cons (.var 8) .nil))) .nil)))) .pass)) (.seq (.for (.name 9) (.seq (.tup (.cons (.c .non) (.cons (.bin .add false (.var 1) (.c (.int 1))) (.cons (.bin .sub false (.neg (.var 1)) (.c (.int 1))) (.cons (.c (.bl true)) .nil)))))) (.seq (.set (.name 3) (.bin .add false (.var 3) (.lst false (.cons (.lamc 30 t__law_error (.call 11 (.cons (.var 9) (.cons (.c .non) (.cons (.c .non) .nil))))) .nil)))) (.seq (.set (.name 3) (.bin .add false (.var 3) (.lst false (.cons (.lamc 30 t__law_error (.call 11 (.cons (.c (.int 1)) (.cons (.var 9) (.cons (.c .non) .nil))))) .nil)))) (.seq (.set (.name 3) (.bin .add false (.var 3) (.lst false (.cons (.lamc 30 t__law_error (.call 11 (.cons (.c (.int 0)) (.cons (.c (.int 0)) (.cons (.var 9) .nil))))) .nil)))) .pass)))) (.seq (.for (.name 10) (.seq (.tup (.cons (.c .non) (.cons (.tup (.cons (.c (.int 2)) (.cons (.c (.int 4)) .nil))) (.cons (.tup (.cons (.c (.int 1)) (.cons (.c (.int 0)) .nil))) (.cons (.tup (.cons (.bin .add false (.bin .pow false (.c (.int 10)) (.c (.int 4))) (.c (.int 1))) (.cons (.c (.int 1)) .nil))) (.cons (.tup (.cons (.c (.int 1)) (.cons (.bin .add false (.bin .pow false (.c (.int 10)) (.c (.int 4))) (.c (.int 1))) .nil))) (.cons (.lst false (.cons (.c (.int 1)) (.cons (.c (.int 2)) .nil))) (.cons (.c (.int 1)) .nil))))))))) (.seq (.set (.name 3) (.bin .add false (.var 3) (.lst false (.cons (.lamc 30 t__law_error (.call 17 (.cons (.var 10) (.cons (.c .non) .nil)))) .nil)))) (.seq (.set (.name 3) (.bin .add false (.var 3) (.lst false (.cons (.lamc 30 t__law_error (.call 17 (.cons (.tup (.cons (.c (.int 0)) (.cons (.c (.int 1)) .nil))) (.cons (.var 10) .nil)))) .nil)))) .pass))) (.seq (.set (.name 11) (.lst false (.cons (.c .non) (.cons (.tup .nil) (.cons (.tup (.cons (.var 5) (.cons (.var 5) .nil))) (.cons (.tup (.cons (.var 5) (.cons (.var 5) (.cons (.lst false (.cons (.c (.int 1)) (.cons (.c (.int 2)) (.cons (.c (.int 3)) .nil)))) .nil)))) (.cons (.tup (.cons (.tup (.cons (.c (.int 1)) (.cons (.c (.int 2)) .nil))) (.cons (.tup (.cons (.c (.int 1)) (.cons (.c (.int 2)) .nil))) (.cons (.tup (.cons (.c (.int 1)) (.cons (.c (.int 2)) .nil))) .nil)))) (.cons (.tup (.cons (.var 5) (.cons (.var 5) (.cons (.tup (.cons (.c (.int 1)) (.cons (.c (.int 2)) (.cons (.bin .add false (.var 1) (.c (.int 1))) .nil)))) .nil)))) (.cons (.lst false (.cons (.var 5) (.cons (.var 5) (.cons (.var 5) .nil)))) (.cons (.tup (.cons (.var 5) (.cons (.var 5) (.cons (.tup (.cons (.c (.bl true)) (.cons (.c (.int 0)) (.cons (.c (.int 0)) .nil)))) .nil)))) .nil)))))))))) (.seq (.for (.name 12) (.seq (.var 11)) (.seq (.set (.name 3) (.bin .add false (.var 3) (.lst false (.cons (.lamc 30 t__law_error (.call 19 (.cons (.var 12) .nil))) .nil)))) .pass)) (.seq (.ifs (.not (.call 24 (.cons (.comp false (.call 18 (.cons (.var 12) .nil)) [12] (.name 12) (.seq (.bin .add false (.var 11) (.lst false (.cons (.bin .mul false (.tup (.cons (.tup (.cons (.c (.int 0)) (.cons (.c (.int 0)) (.cons (.c (.int 0)) .nil)))) .nil)) (.c (.int 3))) (.cons (.tup (.cons (.var 5) (.cons (.tup (.cons (.var 1) (.cons (.neg (.var 1)) (.cons (.c (.int 0)) .nil)))) (.cons (.var 5) .nil)))) .nil))))) (.c (.bl true))) (.cons (.bin .add false (.bin .mul false (.lst false (.cons (.c (.bl false)) .nil)) (.c (.int 8))) (.bin .mul false (.lst false (.cons (.c (.bl true)) .nil)) (.c (.int 2)))) .nil)))) (.seq (.ret (.c (.bl false))) .pass) .pass) (.seq (.set (.name 3) (.bin .add false (.var 3) (.lst false (.cons (.lamc 30 t__law_error (.call 11 (.cons (.c (.int 0)) (.cons (.c (.int 0)) (.cons (.c (.int 0)) .nil))))) .nil)))) (.seq (.set (.name 3) (.bin .add false (.var 3) (.lst false (.cons (.lamc 30 t__law_error (.call 13 (.cons (.var 5) (.cons (.var 5) .nil)))) .nil)))) (.seq (.set (.name 13) (.lst false (.cons (.call 11 (.cons (.c (.int 0)) (.cons (.neg (.c (.int 4))) (.cons (.c (.int 6)) .nil)))) (.cons (.call 12 (.cons (.tup (.cons (.c (.int 1)) (.cons (.c (.int 2)) (.cons (.c (.int 1)) .nil)))) (.cons (.tup (.cons (.c (.int 1)) (.cons (.neg (.c (.int 1))) (.cons (.c (.int 1)) .nil)))) .nil))) (.cons (.call 13 (.cons (.tup (.cons (.c (.int 0)) (.cons (.c (.int 0)) (.cons (.c (.int 1)) .nil)))) (.cons (.tup (.cons (.c (.int 1)) (.cons (.c (.int 1)) (.cons (.c (.int 1)) .nil)))) .nil))) (.cons (.call 13 (.cons (.tup (.cons (.c (.int 1)) (.cons (.c (.int 0)) (.cons (.c (.int 0)) .nil)))) (.cons (.tup (.cons (.c (.int 1)) (.cons (.c (.int 0)) (.cons (.neg (.c (.int 1))) .nil)))) .nil))) (.cons (.call 15 (.cons (.tup (.cons (.c (.int 0)) (.cons (.c (.int 0)) (.cons (.c (.int 1)) .nil)))) (.cons (.tup (.cons (.c (.int 1)) (.cons (.c (.int 0)) (.cons (.c (.int 1)) .nil)))) (.cons (.tup (.cons (.c (.int 0)) (.cons (.c (.int 1)) (.cons (.c (.int 1)) .nil)))) .nil)))) .nil))))))) (.seq (.set (.name 14) (.lst false (.cons (.tup (.cons (.c (.int 0)) (.cons (.c (.int 2)) (.cons (.neg (.c (.int 3))) .nil)))) (.cons (.c (.bl true)) (.cons (.tup (.cons (.c (.int 1)) (.cons (.neg (.c (.int 1))) (.cons (.c (.int 0)) .nil)))) (.cons (.tup (.cons (.c (.int 0)) (.cons (.c (.int 1)) (.cons (.c (.int 0)) .nil)))) (.cons (.c (.int 1)) .nil))))))) (.seq (.set (.name 13) (.bin .add false (.var 13) (.lst false (.cons (.call 16 (.cons (.tup (.cons (.c (.int 2)) (.cons (.c (.int 3)) (.cons (.c (.int 4)) .nil)))) .nil)) (.cons (.call 16 (.cons (.tup (.cons (.c (.int 1)) (.cons (.c (.int 2)) (.cons (.c (.int 0)) .nil)))) .nil)) (.cons (.call 16 (.cons (.tup (.cons (.c (.int 1)) (.cons (.c (.int 2)) (.cons (.neg (.c (.int 4))) .nil)))) .nil)) (.cons (.call 17 (.cons (.tup (.cons (.c (.int 1)) (.cons (.c (.int 2)) .nil))) (.cons (.tup (.cons (.neg (.c (.int 1))) (.cons (.c (.int 3)) .nil))) .nil))) (.cons (.call 19 (.cons (.tup (.cons (.tup (.cons (.c (.int 2)) (.cons (.c (.int 0)) (.cons (.c (.int 0)) .nil)))) (.cons (.tup (.cons (.c (.int 0)) (.cons (.c (.int 3)) (.cons (.c (.int 0)) .nil)))) (.cons (.tup (.cons (.c (.int 1)) (.cons (.c (.int 1)) (.cons (.c (.int 1)) .nil)))) .nil)))) .nil)) .nil)))))))) (.seq (.set (.name 14) (.bin .add false (.var 14) (.lst false (.cons (.tup (.cons (.tup (.cons (.c (.int 1)) (.cons (.c (.int 2)) .nil))) (.cons (.tup (.cons (.c (.int 3)) (.cons (.c (.int 4)) .nil))) .nil))) (.cons (.c .non) (.cons (.tup (.cons (.tup (.cons (.neg (.c (.int 1))) (.cons (.c (.int 4)) .nil))) (.cons (.tup (.cons (.neg (.c (.int 1))) (.cons (.c (.int 2)) .nil))) .nil))) (.cons (.tup (.cons (.c (.int 3)) (.cons (.neg (.c (.int 2))) (.cons (.c (.int 6)) .nil)))) (.cons (.c (.int 6)) .nil)))))))) (.seq (.set (.name 13) (.bin .add false (.var 13) (.lst false (.cons (.call 14 (.cons (.tup .nil) .nil)) (.cons (.call 14 (.cons (.tup (.cons (.tup (.cons (.c (.int 0)) (.cons (.c (.int 0)) (.cons (.c (.int 1)) .nil)))) (.cons (.tup (.cons (.c (.int 1)) (.cons (.c (.int 1)) (.cons (.c (.int 1)) .nil)))) (.cons (.tup (.cons (.c (.int 2)) (.cons (.c (.int 2)) (.cons (.c (.int 1)) .nil)))) .nil)))) .nil)) (.cons (.call 14 (.cons (.tup (.cons (.tup (.cons (.c (.int 1)) (.cons (.c (.int 0)) (.cons (.c (.int 0)) .nil)))) (.cons (.tup (.cons (.c (.int 0)) (.cons (.c (.int 1)) (.cons (.c (.int 0)) .nil)))) (.cons (.tup (.cons (.c (.int 0)) (.cons (.c (.int 0)) (.cons (.c (.int 1)) .nil)))) .nil)))) .nil)) .nil)))))) (.seq (.set (.name 14) (.bin .add false (.var 14) (.lst false (.cons (.c (.bl true)) (.cons (.c (.bl true)) (.cons (.c (.bl false)) .nil)))))) (.seq (.ret (.and (.cmp .eq (.var 3) (.bin .add false (.bin .add false (.bin .add false (.bin .add false (.bin .mul false (.lst false (.cons (.c (.str "triple")) .nil)) (.c (.int 8))) (.bin .mul false (.lst false (.cons (.c (.str "points")) .nil)) (.c (.int 6)))) (.bin .mul false (.lst false (.cons (.c (.str "number")) .nil)) (.c (.int 26)))) (.bin .mul false (.lst false (.cons (.c (.str "table")) .nil)) (.c (.int 8)))) (.bin .mul false (.lst false (.cons (.c (.str "no")) .nil)) (.c (.int 2))))) (.call 24 (.cons (.var 13) (.cons (.var 14) .nil))))) .pass))))))))))))))))))))
def lim_draw : RS := (.set (.tup (.cons (.name 3) (.cons (.name 4) (.cons (.name 5) (.cons (.name 6) .nil))))) (.tup (.cons (.lst false .nil) (.cons (.call 22 (.cons (.var 0) (.cons (.var 2) .nil))) (.cons (.tup (.cons (.c (.int 1)) (.cons (.c (.int 2)) (.cons (.c (.int 3)) .nil)))) (.cons (.tup (.cons (.c (.int 0)) (.cons (.c (.int 1)) (.cons (.c (.int 1)) .nil)))) .nil))))))
def odds : List D := [.non, .tup [], .tup [.int 0, .int 0, .int 0], .tup [.int 1, .int 2], .tup [.int 1, .int 2, .int 3, .int 4], .lst [.int 1, .int 2, .int 3], .tup [.int 2, .int 4, .int 6], .tup [.int (-1), .int 0, .int 0], .tup [.int 0, .int (-1), .int 1], .tup [.int 0, .int 0, .int 2], .tup [.int 1000000001, .int 1, .int 1], .tup [.bl true, .int 0, .int 0], .tup [.int 1, .int 0, .non], .int 0, .tup [.int 0, .int 2, .int 0], .tup [.int 1, .bl true, .int 0], .tup [.int 1, .int 1, .int (-1000000001)]]
theorem lim_cut : b__law_limits_right = (lim_mid (.seq lim_draw lim_last)) := rfl
theorem lim_at (k : Nat) (X : RS) (s : Sto) (o0 : Option D) : ex (lim_mid X) ⟨call G (k + 12), low G (k + 12)⟩ [o0, none, none, none, none, none, none, none, none, none, none, none, none, none, none, none] s = ex X ⟨call G (k + 12), low G (k + 12)⟩ [o0, some (.int 1000000000), some (.lst odds), none, none, none, none, none, none, none, none, none, none, none, none, none] s := by kernel_rfl
theorem lim_0 (k : Nat) (s : Sto) (o0 : Option D) : ex lim_last ⟨call G (k + 12), low G (k + 12)⟩ [o0, some (.int 1000000000), some (.lst odds), some (.lst []), odds[0]?, some (tr 1 2 3), some (tr 0 1 1), none, none, none, none, none, none, none, none, none] s = .rt (.bl true) s := by kernel_rfl
theorem lim_1 (k : Nat) (s : Sto) (o0 : Option D) : ex lim_last ⟨call G (k + 12), low G (k + 12)⟩ [o0, some (.int 1000000000), some (.lst odds), some (.lst []), odds[1]?, some (tr 1 2 3), some (tr 0 1 1), none, none, none, none, none, none, none, none, none] s = .rt (.bl true) s := by kernel_rfl
theorem lim_2 (k : Nat) (s : Sto) (o0 : Option D) : ex lim_last ⟨call G (k + 12), low G (k + 12)⟩ [o0, some (.int 1000000000), some (.lst odds), some (.lst []), odds[2]?, some (tr 1 2 3), some (tr 0 1 1), none, none, none, none, none, none, none, none, none] s = .rt (.bl true) s := by kernel_rfl
theorem lim_3 (k : Nat) (s : Sto) (o0 : Option D) : ex lim_last ⟨call G (k + 12), low G (k + 12)⟩ [o0, some (.int 1000000000), some (.lst odds), some (.lst []), odds[3]?, some (tr 1 2 3), some (tr 0 1 1), none, none, none, none, none, none, none, none, none] s = .rt (.bl true) s := by kernel_rfl
theorem lim_4 (k : Nat) (s : Sto) (o0 : Option D) : ex lim_last ⟨call G (k + 12), low G (k + 12)⟩ [o0, some (.int 1000000000), some (.lst odds), some (.lst []), odds[4]?, some (tr 1 2 3), some (tr 0 1 1), none, none, none, none, none, none, none, none, none] s = .rt (.bl true) s := by kernel_rfl
theorem lim_5 (k : Nat) (s : Sto) (o0 : Option D) : ex lim_last ⟨call G (k + 12), low G (k + 12)⟩ [o0, some (.int 1000000000), some (.lst odds), some (.lst []), odds[5]?, some (tr 1 2 3), some (tr 0 1 1), none, none, none, none, none, none, none, none, none] s = .rt (.bl true) s := by kernel_rfl
theorem lim_6 (k : Nat) (s : Sto) (o0 : Option D) : ex lim_last ⟨call G (k + 12), low G (k + 12)⟩ [o0, some (.int 1000000000), some (.lst odds), some (.lst []), odds[6]?, some (tr 1 2 3), some (tr 0 1 1), none, none, none, none, none, none, none, none, none] s = .rt (.bl true) s := by kernel_rfl
theorem lim_7 (k : Nat) (s : Sto) (o0 : Option D) : ex lim_last ⟨call G (k + 12), low G (k + 12)⟩ [o0, some (.int 1000000000), some (.lst odds), some (.lst []), odds[7]?, some (tr 1 2 3), some (tr 0 1 1), none, none, none, none, none, none, none, none, none] s = .rt (.bl true) s := by kernel_rfl
theorem lim_8 (k : Nat) (s : Sto) (o0 : Option D) : ex lim_last ⟨call G (k + 12), low G (k + 12)⟩ [o0, some (.int 1000000000), some (.lst odds), some (.lst []), odds[8]?, some (tr 1 2 3), some (tr 0 1 1), none, none, none, none, none, none, none, none, none] s = .rt (.bl true) s := by kernel_rfl
theorem lim_9 (k : Nat) (s : Sto) (o0 : Option D) : ex lim_last ⟨call G (k + 12), low G (k + 12)⟩ [o0, some (.int 1000000000), some (.lst odds), some (.lst []), odds[9]?, some (tr 1 2 3), some (tr 0 1 1), none, none, none, none, none, none, none, none, none] s = .rt (.bl true) s := by kernel_rfl
theorem lim_10 (k : Nat) (s : Sto) (o0 : Option D) : ex lim_last ⟨call G (k + 12), low G (k + 12)⟩ [o0, some (.int 1000000000), some (.lst odds), some (.lst []), odds[10]?, some (tr 1 2 3), some (tr 0 1 1), none, none, none, none, none, none, none, none, none] s = .rt (.bl true) s := by kernel_rfl
theorem lim_11 (k : Nat) (s : Sto) (o0 : Option D) : ex lim_last ⟨call G (k + 12), low G (k + 12)⟩ [o0, some (.int 1000000000), some (.lst odds), some (.lst []), odds[11]?, some (tr 1 2 3), some (tr 0 1 1), none, none, none, none, none, none, none, none, none] s = .rt (.bl true) s := by kernel_rfl
theorem lim_12 (k : Nat) (s : Sto) (o0 : Option D) : ex lim_last ⟨call G (k + 12), low G (k + 12)⟩ [o0, some (.int 1000000000), some (.lst odds), some (.lst []), odds[12]?, some (tr 1 2 3), some (tr 0 1 1), none, none, none, none, none, none, none, none, none] s = .rt (.bl true) s := by kernel_rfl
theorem lim_13 (k : Nat) (s : Sto) (o0 : Option D) : ex lim_last ⟨call G (k + 12), low G (k + 12)⟩ [o0, some (.int 1000000000), some (.lst odds), some (.lst []), odds[13]?, some (tr 1 2 3), some (tr 0 1 1), none, none, none, none, none, none, none, none, none] s = .rt (.bl true) s := by kernel_rfl
theorem lim_14 (k : Nat) (s : Sto) (o0 : Option D) : ex lim_last ⟨call G (k + 12), low G (k + 12)⟩ [o0, some (.int 1000000000), some (.lst odds), some (.lst []), odds[14]?, some (tr 1 2 3), some (tr 0 1 1), none, none, none, none, none, none, none, none, none] s = .rt (.bl true) s := by kernel_rfl
theorem lim_15 (k : Nat) (s : Sto) (o0 : Option D) : ex lim_last ⟨call G (k + 12), low G (k + 12)⟩ [o0, some (.int 1000000000), some (.lst odds), some (.lst []), odds[15]?, some (tr 1 2 3), some (tr 0 1 1), none, none, none, none, none, none, none, none, none] s = .rt (.bl true) s := by kernel_rfl
theorem lim_16 (k : Nat) (s : Sto) (o0 : Option D) : ex lim_last ⟨call G (k + 12), low G (k + 12)⟩ [o0, some (.int 1000000000), some (.lst odds), some (.lst []), odds[16]?, some (tr 1 2 3), some (tr 0 1 1), none, none, none, none, none, none, none, none, none] s = .rt (.bl true) s := by kernel_rfl
theorem lim_all (k : Nat) (s : Sto) (o0 : Option D) (d : D) (h : d ∈ odds) : ex lim_last ⟨call G (k + 12), low G (k + 12)⟩ [o0, some (.int 1000000000), some (.lst odds), some (.lst []), some d, some (tr 1 2 3), some (tr 0 1 1), none, none, none, none, none, none, none, none, none] s = .rt (.bl true) s := by
  obtain ⟨i, hi, e⟩ := List.mem_iff_getElem.mp h
  have e2 : some d = odds[i]? := by rw [← e, List.getElem?_eq_getElem hi]
  rw [e2]
  have hi : i < 17 := hi
  clear e e2 h
  rcases i with _ | _ | _ | _ | _ | _ | _ | _ | _ | _ | _ | _ | _ | _ | _ | _ | _ | i
  · exact lim_0 k s o0
  · exact lim_1 k s o0
  · exact lim_2 k s o0
  · exact lim_3 k s o0
  · exact lim_4 k s o0
  · exact lim_5 k s o0
  · exact lim_6 k s o0
  · exact lim_7 k s o0
  · exact lim_8 k s o0
  · exact lim_9 k s o0
  · exact lim_10 k s o0
  · exact lim_11 k s o0
  · exact lim_12 k s o0
  · exact lim_13 k s o0
  · exact lim_14 k s o0
  · exact lim_15 k s o0
  · exact lim_16 k s o0
  · omega
theorem limits_spec (k : Nat) (s rest : Sto) (hc : Cup s rest) : Wp (call G (k + 13) 33 [.cel 0] s) fun d s' => d = .bl true := by
  have so := hSome (k + 10) odds s rest hc (by simp [odds]) (by simp [odds])
  have md := fun X s o0 => lim_at k X s o0
  have la := fun s o0 d h => lim_all k s o0 d h
  rw [call_eq (g := g__law_limits_right) rfl, if_pos (by rfl), wp_endF]
  show Wf (ex b__law_limits_right _ [some (.cel 0), none, none, none, none, none, none, none, none, none, none, none, none, none, none, none] s) _ _
  rw [lim_cut]
  simp only [Nat.add_assoc, Nat.reduceAdd] at so
  generalize Px.call G (k + 12) = c at so md la ⊢
  generalize low G (k + 12) = l at md la ⊢
  rw [md]
  clear md
  have ed : lim_draw = (.set (.tup (.cons (.name 3) (.cons (.name 4) (.cons (.name 5) (.cons (.name 6) .nil))))) (.tup (.cons (.lst false .nil) (.cons (.call 22 (.cons (.var 0) (.cons (.var 2) .nil))) (.cons (.tup (.cons (.c (.int 1)) (.cons (.c (.int 2)) (.cons (.c (.int 3)) .nil)))) (.cons (.tup (.cons (.c (.int 0)) (.cons (.c (.int 1)) (.cons (.c (.int 1)) .nil)))) .nil)))))) := rfl
  generalize lim_last = la' at la ⊢
  generalize lim_draw = dr at ed ⊢
  subst ed
  generalize odds = O at so la ⊢
  simp
  refine so.mono ?_
  rintro d s4 ⟨hd, hc4⟩
  simp [seqOf]
  have e := la s4 (some (.cel 0)) d hd
  simp only [tr] at e
  rw [e]
  rfl
end Lw
end

section
set_option Elab.async false
set_option linter.all false
set_option maxRecDepth 100000
set_option maxHeartbeats 1000000
set_option exponentiation.threshold 10000
/-! k01: the law. -/
namespace Lw
open PySem Px
theorem law_spec (ns : List Int) (h1 : ns.length ≤ 63) (h2 : ∀ z ∈ ns, Builtin.Int.intBits z ≤ 1048576) : ∃ S, call (tabOf rs) 40 nLaw [.rl (ns.map .int)] [] = .ok (.bl true) S := by
  have key : Wp (call G 40 34 [.rl (ns.map .int)] []) fun d _ => d = .bl true := by
    have cup := hCup 38 ns h1 h2
    have tri := fun s rest hc => triples_spec 29 s rest hc
    have pla := fun s rest hc => places_spec 32 s rest hc
    have lim := fun s rest hc => limits_spec 26 s rest hc
    simp only [Nat.reduceAdd] at cup tri pla lim
    rw [call_eq (g := g_law) rfl, if_pos (by rfl), wp_endF]
    show Wf (ex b_law _ [some (.rl (ns.map .int)), none, none] []) _ _
    generalize Px.call G 39 = c at cup tri pla lim ⊢
    generalize low G 39 = l
    have rg : ∀ s, rngD [.int 8] s = .ok (.lst (rngL 0 8)) s := fun s => rfl
    generalize rngL 0 8 = L at rg
    simp [b_law]
    refine cup.mono ?_
    rintro d s1 ⟨rfl, hc1⟩
    simp [rg]
    refine wf_forL (fun _ ρ s => ∃ x2 rest, ρ = [some (.rl (ns.map .int)), some (.cel 0), x2] ∧ Cup s rest) ⟨none, [], rfl, hc1⟩ ?_ ?_
    · rintro ρ s2 ⟨x2, rest, rfl, hc2⟩
      simp
      exact lim s2 rest hc2
    · rintro x xs ρ s2 ⟨x2, rest, rfl, hc2⟩
      simp [turnF]
      refine (tri s2 rest hc2).mono ?_
      rintro d s3 ⟨rfl, rest3, hc3⟩
      simp
      refine (pla s3 rest3 hc3).mono ?_
      rintro d s4 ⟨rfl, rest4, hc4⟩
      simp
      exact ⟨rest4, hc4⟩
  have key : Wp (call (tabOf rs) 40 nLaw [.rl (ns.map .int)] []) fun d _ => d = .bl true := key
  cases e : call (tabOf rs) 40 nLaw [.rl (ns.map .int)] [] with
  | ok d S =>
    rw [e] at key
    have : d = .bl true := key
    rw [this]
    exact ⟨S, rfl⟩
  | exc c s => rw [e] at key; exact key.elim
  | bad => rw [e] at key; exact key.elim
end Lw
end

section
set_option Elab.async false
set_option linter.all false
set_option maxRecDepth 100000
set_option maxHeartbeats 0
namespace Lw
open PySem Px
theorem shape_ok : shapeB B rs = true := by kernel_rfl
theorem rows_ok : rs.all (rowB B) = true := by kernel_rfl
theorem tshape_ok : tshapeB B ts = true := by kernel_rfl
theorem trows_ok : ts.all trowB = true := by kernel_rfl
abbrev R : PySem.W.OpenRow := PySem.W.OpenLaw.row PySem.Challenge.rw_linesruled_k01_whole_triples
abbrev hk : PySem.W.Hook := He.hookX 6 (faOf B rs ts) (fnOfR rs ts rowD) [] (tfOf rs) (exB B rs ts)
def ob (s : PySem.W.SharedT) : He.AlX := He.obsX 6 (faOf B rs ts) (fnOfR rs ts rowD) [] (tfOf rs) (exB B rs ts) (HandSHeadRun.getT s)
theorem ob_eq (s : PySem.W.SharedT) : ob s = hk.obs s.abs := He.obsX_eq (HandSHeadRun.getT_eq s)
theorem run (w : World) : HandSHeadRun.RunEqI R (PySem.W.view R.prog [iLaw]) hk ob 30000 loose w := by
  unfold HandSHeadRun.RunEqI
  kernel_rfl
end Lw
open PySem PySem.W PySem.Calls PyProof.Rows
theorem PySem.Challenge.cw_linesruled_k01_whole_triples_holds : PySem.Challenge.rw_linesruled_k01_whole_triples.Holds := by
  w_on; o_law
  refine HandSHeadRun.head_imp (r := OpenLaw.row PySem.Challenge.rw_linesruled_k01_whole_triples) (q := view (OpenLaw.row PySem.Challenge.rw_linesruled_k01_whole_triples).prog [Lw.iLaw]) (H := Lw.hk) (ob := Lw.ob) (M := 30000) (loose := Lw.loose) (d := HandSHeadRun.topDef (OpenLaw.row PySem.Challenge.rw_linesruled_k01_whole_triples).prog Lw.iLaw) (kwd := []) Lw.ob_eq
    Lw.run (by kernel_rfl) (by kernel_rfl) (by kernel_rfl) (by rfl) (by first | assumption | decide +kernel) (by decide +kernel) ⟨rfl, rfl, rfl, rfl, rfl, by decide +kernel⟩ ?hw ?hc
  case hw => w_witness2
  case hc =>
    refine LamX.walk_ofTsE (l := PySem.Challenge.rw_linesruled_k01_whole_triples) (n := 63) (k := 40) (x := "script") (CX := fun w => L2N.CX (PySem.Challenge.rw_linesruled_k01_whole_triples).prog w) rfl (by decide) (by kernel_rfl) ⟨rfl, by decide, by decide⟩ ?F (fun w => Px.cx_none _ w)
    intro w mg fa h Y G hmg0
    obtain ⟨K, KX, c⟩ := Y
    have hmg : mg ("law" : PySem.Str) = some (.ref fa) := by
      have e : (HandSHeadRun.topDef (OpenLaw.row PySem.Challenge.rw_linesruled_k01_whole_triples).prog Lw.iLaw).name = ("law" : PySem.Str) := by kernel_rfl
      rw [← e]
      exact hmg0
    exact ⟨K, KX, Px.lawAt KX G c Lw.shape_ok Lw.tshape_ok Lw.trows_ok Lw.rows_ok (by decide) (r := (⟨Lw.nLaw, "law", Lw.top Lw.iLaw, ["script", "cup", "turn"], ["script"], Lw.g_law, false⟩ : Px.Row)) (by kernel_rfl) rfl rfl (by decide +kernel) Lw.law_spec fa hmg⟩
end
