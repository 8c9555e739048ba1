import PyProof.Rows.All
import Wide.All
import OpenK.AllK
import Wide.FinOn
import HandS.ForMost
import HandS.ForExc
import HandS.Defaults
import HandS.HeadEnd
import HandS.IsInst
import HandS.TupAny
import HandS.TupMul
import HandS.Conv
import HandS.Zip
import HandS.Deep
import HandS.Style
import HandS.SetFor
import HandS.Strs
import HandS.SortInts
import HandS.More
import HandS.Star
import HandS.DictComp
import HandS.Dict
import PyProof.CallFns
import PyProof.StrLawsRepr
import PyProof.ReprRoads
import KE.GoesMore
import PyProof.EnumMake
import KE.KStateDown
import HandS.Head0
import HandS.Head1
import HandS.Head2
import HandS.HeadHook1
import HandS.HeadHook2
import PySem.Challenge.RW_fiveofeight_k38_reasons_told
set_option Elab.async false
set_option linter.all false
set_option autoImplicit false
set_option maxRecDepth 100000
set_option maxHeartbeats 4000000
/-! EV, part 1: data, the store, the small language and its evaluator. -/
namespace EV
open PySem

inductive Ty where | int | bool | str | tuple | list | none
  deriving DecidableEq

/-- data: what nobody changes any more is a tree; ref i is the i-th thing of the store -/
inductive D where
  | non | bl (b : Bool) | int (i : Int) | str (s : Str)
  | tup (l : List D) | lst (l : List D)
  /-- the script: a list of intsD that is read alone -/
  | scr (l : List Int)
  | ref (i : Nat)
  /-- the text that repr makes of data -/
  | rep (d : D)
  | ty (t : Ty)
  /-- the pair that zip or enumerate hands out: taken apart at once -/
  | wk (l : List D)

inductive Ob where
  | lst (l : List D)
  | dct (kvs : List (D × D))
  /-- a dict whose keys are tuples -/
  | dcT (kvs : List (D × D))
  /-- the draws to come: how many there are to choose from, and the answer (in runs beside the machine alone) -/
  | opq (ps : List (Int × Int))

abbrev Store := List Ob
abbrev Env := List (Option D)

/-- a value, an error of the c-th class with its fields, or no answer -/
inductive R (α : Type) where
  | ok (a : α) (μ : Store)
  | exc (c : Nat) (fs : List D) (μ : Store)
  | stuck

def R.bind {α β : Type} (r : R α) (f : α → Store → R β) : R β :=
  match r with
  | .ok a μ => f a μ
  | .exc c fs μ => .exc c fs μ
  | .stuck => .stuck

inductive Bop where | add | sub | mul | fdiv | mod | pow | shl | shr | band
inductive Cop where | eq | ne | lt | le | gt | ge | is | isn | inn | nin
inductive Bi where | len | all | any | sum | int | tuple | list | repr
inductive Mt where | index | count | append | extend | popAt
/-- operations on one value, on two, on three -/
inductive O1 where
  /-- list(d), sorted(l), dict(pairs), xs.pop(), len(set(l)), len(d) -/
  | listD | srt | dictP | pop | lset | lenD
inductive O2 where
  /-- k in d, k not in d; s.split(sep) -/
  | din (neg : Bool) | split
inductive O3 where
  /-- d.get(k, x) -/
  | dget

inductive Tg where
  | nm (i : Nat)
  | tp (l : List Nat)

mutual
inductive Ex where
  | var (i : Nat)
  | con (d : D)
  | glo (x : Str) (d : D)
  | bin (op : Bop) (a b : Ex)
  | neg (a : Ex)
  | not (a : Ex)
  | and (a b : Ex)
  | or (a b : Ex)
  | cmp (op : Cop) (a b : Ex)
  | cmp2 (op op' : Cop) (a b c : Ex)
  | ife (c a b : Ex)
  /-- a def's call: the written values, then those of the keywords; sel puts them in the parameters' order -/
  | call (f : Nat) (args : List Ex) (kws : List (Str × Ex)) (sel : List (Nat ⊕ D))
  | bi (b : Bi) (a : Ex)
  | isi (e : Ex) (t : Ty)
  | meth (m : Mt) (o a : Ex)
  | idx (a i : Ex)
  | dget (a k : Ex)
  | slice (a : Ex) (lo hi : Option Ex)
  | tup (es : List Ex)
  | lst (es : List Ex)
  | dict (ks : List D) (es : List Ex)
  | lc (own : List Nat) (t : Tg) (it : Itx) (ifs : Option Ex) (elt : Ex)
  | lc2 (own own' : List Nat) (t : Tg) (it : Itx) (t' : Tg) (it' : Itx) (ifs : Option Ex) (elt : Ex)
  /-- tuple(range(a, b)), list(range(a, b)); sorted(set(a)), len(set(a)) -/
  | trng (tup : Bool) (a : Option Ex) (b : Ex)
  | sset (a : Ex)
  | lset (a : Ex)
  | star (a : Ex)
  /-- a new list that is changed later on -/
  | new (a : Ex)
  | op1 (o : O1) (a : Ex)
  | op2 (o : O2) (a b : Ex)
  | op3 (o : O3) (a b c : Ex)
  /-- {} whose keys will be tuples -/
  | dnewT
  /-- {k: v for t in it}; tup: the keys are tuples -/
  | dc (tup : Bool) (own : List Nat) (t : Tg) (it : Itx) (k v : Ex)
inductive Itx where
  | seq (e : Ex)
  | rng (a : Ex)
  | rng2 (a b : Ex)
  | enum (e : Ex)
  | zip (a b : Ex)
end

inductive St where
  | asg (i : Nat) (e : Ex)
  /-- a list that is changed later on -/
  | asgN (i : Nat) (e : Ex)
  /-- a, b = x, y -/
  | par (is : List Nat) (es : List Ex)
  | unp (is : List Nat) (e : Ex)
  | setIx (o i e : Ex)
  | setK (o k e : Ex)
  | aug (i : Nat) (op : Bop) (e : Ex)
  | expr (e : Ex)
  | ret (e : Ex)
  | ife (c : Ex) (a b : List St)
  | for_ (t : Tg) (it : Itx) (body : List St)
  /-- the same; what a turn has put into the store is forgotten behind it -/
  | forG (t : Tg) (it : Itx) (body : List St)
  | while_ (c : Ex) (body : List St)
  | never

structure Fn where
  np : Nat
  ns : Nat
  body : List St

/-- the flow behind statements -/
inductive Fl where | nx (ρ : Env) | ret (d : D)

structure Sem where
  e : Ex → Env → Store → R D
  t : Ex → Env → Store → R Bool
  s : List St → Env → Store → R Fl
  w : Ex → List St → Env → Store → R Fl
  c : Nat → List D → Store → R D

def cap : Nat := 16777216
def short {α : Type} (l : List α) : Bool := Nat.ble l.length cap

def D.isRef : D → Bool
  | .ref _ => true
  | _ => false

/-! ### lists by place -/
def nthD {α : Type} : List α → Nat → Option α
  | [], _ => none
  | a :: _, 0 => some a
  | _ :: l, n + 1 => nthD l n
def setN {α : Type} : List α → Nat → α → List α
  | [], _, _ => []
  | _ :: l, 0, o => o :: l
  | a :: l, n + 1, o => a :: setN l n o

def atI {α : Type} (l : List α) (i : Int) : Option α :=
  match i with
  | .ofNat n => nthD l n
  | .negSucc n => if Nat.ble (n + 1) l.length then nthD l (l.length - (n + 1)) else none

def view (μ : Store) : D → D
  | .ref i => match nthD μ i with
    | some (.lst l) => .lst l
    | _ => .ref i
  | d => d

/-! ### equality -/
def eqStr (a b : Str) : Bool := a.cps.toList == b.cps.toList
mutual
def D.beq : D → D → Bool
  | .non, .non => true
  | .bl a, .bl b => a == b
  | .int a, .int b => decide (a = b)
  | .bl a, .int b => decide ((if a then 1 else 0) = b)
  | .int a, .bl b => decide (a = (if b then 1 else 0))
  | .str a, .str b => eqStr a b
  | .tup a, .tup b => D.beqs a b
  | .lst a, .lst b => D.beqs a b
  | _, _ => false
def D.beqs : List D → List D → Bool
  | [], [] => true
  | a :: l, b :: m => D.beq a b && D.beqs l m
  | _, _ => false
end
mutual
/-- the same, kinds and all -/
def D.same : D → D → Bool
  | .non, .non => true
  | .bl a, .bl b => a == b
  | .int a, .int b => decide (a = b)
  | .str a, .str b => eqStr a b
  | .tup a, .tup b => D.sames a b
  | .lst a, .lst b => D.sames a b
  | _, _ => false
def D.sames : List D → List D → Bool
  | [], [] => true
  | a :: l, b :: m => D.same a b && D.sames l m
  | _, _ => false
end
def strB (s : Str) : Bool := s.cps.toList.all fun c => Nat.blt c 1114112
mutual
/-- plain data, at most n deep: what == and repr are known for -/
def D.flat : Nat → D → Bool
  | _, .non => true
  | _, .bl _ => true
  | _, .int _ => true
  | _, .str s => strB s
  | n, .tup l => Nat.blt 0 n && D.flats (n - 1) l
  | n, .lst l => Nat.blt 0 n && D.flats (n - 1) l
  | _, _ => false
def D.flats : Nat → List D → Bool
  | _, [] => true
  | n, a :: l => D.flat n a && D.flats n l
end
mutual
/-- at least how long the text of repr may be; ints have a bound -/
def D.wt : D → Nat
  | .int i => Nat.log2 i.natAbs + 3
  | .str s => 10 * s.cps.size + 2
  | .tup l => D.wts l + 4
  | .lst l => D.wts l + 4
  | _ => 5
def D.wts : List D → Nat
  | [] => 0
  | a :: l => D.wt a + 2 + D.wts l
end
mutual
def D.able : D → Bool
  | .int i => Nat.blt (Nat.log2 i.natAbs) 1920
  | .tup l => D.ables l
  | .lst l => D.ables l
  | _ => true
def D.ables : List D → Bool
  | [] => true
  | a :: l => D.able a && D.ables l
end
/-- one sign of data -/
def D.one : D → Bool
  | .non | .bl _ | .int _ | .str _ => true
  | _ => false

/-! ### operators -/
def inB (i : Int) : Bool := decide (-18446744073709551616 < i) && decide (i < 18446744073709551616)
def inP (i : Int) : Bool := decide (0 ≤ i) && decide (i ≤ 1000000)

def reps {α : Type} (k : Int) (l : List α) : List α := (List.replicate k.toNat l).flatten

def bopAdd : D → D → Option D
  | .int a, .int b => some (.int (a + b))
  | .tup a, .tup b => let l := a ++ b; if short l then some (.tup l) else none
  | .lst a, .lst b => let l := a ++ b; if short l then some (.lst l) else none
  | _, _ => none
def bopMul : D → D → Option D
  | .int a, .int b => if inB a || inB b then some (.int (a * b)) else none
  | .lst a, .int k => if decide (-9223372036854775808 ≤ k) && decide (k < 9223372036854775808) && Nat.ble (a.length * k.toNat) cap then some (.lst (reps k a)) else none
  | .tup a, .int k => if decide (2 ≤ k) && decide (k ≤ 1000) && Nat.ble a.length 1000 && !a.isEmpty then some (.tup (reps k a)) else none
  | _, _ => none
def bopI (op : Bop) (a b : Int) : Option Int :=
  match op with
  | .sub => some (a - b)
  | .fdiv => if decide (0 < b) && decide (b < 1073741824) then some (a / b) else none
  | .mod => if decide (0 < b) then some (a % b) else none
  | .pow => if inB a && inP b then some (a ^ b.toNat) else none
  | .shl => if inB a && inP b then some (a * 2 ^ b.toNat) else none
  | .shr => if decide (0 ≤ b) then some (a / 2 ^ b.toNat) else none
  | .band => some (Builtin.bitAnd a b)
  | _ => none
def bop : Bop → D → D → Option D
  | .add, x, y => bopAdd x y
  | .mul, x, y => bopMul x y
  | op, .int a, .int b => (bopI op a b).map .int
  | _, _, _ => none

def memD (x : D) : List D → Bool
  | [] => false
  | y :: l => if D.beq y x then true else memD x l

def eqD : D → D → Option Bool
  | .int a, .int b => some (decide (a = b))
  | .rep a, .rep b => if D.same a b then some true else none
  | a, b => if D.flat 40 a && D.flat 40 b then some (D.beq a b) else none
def isD : D → D → Option Bool
  | .bl a, .bl b => some (a == b)
  | .non, .non => some true
  | _, .non => some false
  | _, _ => none
def inD : D → D → Option Bool
  | x, .lst l => if D.flat 40 x && D.flats 40 l then some (memD x l) else none
  | x, .tup l => if D.one x && l.all D.one then some (memD x l) else none
  | _, _ => none
def cop : Cop → D → D → Option Bool
  | .eq, x, y => eqD x y
  | .ne, x, y => (eqD x y).map (!·)
  | .is, x, y => isD x y
  | .isn, x, y => (isD x y).map (!·)
  | .inn, x, y => inD x y
  | .nin, x, y => (inD x y).map (!·)
  | .lt, .int a, .int b => some (decide (a < b))
  | .le, .int a, .int b => some (decide (a ≤ b))
  | .gt, .int a, .int b => some (decide (b < a))
  | .ge, .int a, .int b => some (decide (b ≤ a))
  | _, _, _ => none

/-! ### dicts: keys intsD and texts -/
def keyOk : D → Bool
  | .int _ | .str _ => true
  | _ => false
def lookD (k : D) : List (D × D) → Option D
  | [] => none
  | (a, v) :: l => if D.same a k then some v else lookD k l
def hasD (k : D) : List (D × D) → Bool
  | [] => false
  | (a, _) :: l => if D.same a k then true else hasD k l
def repD (k v : D) : List (D × D) → List (D × D)
  | [] => []
  | (a, u) :: l => (a, if D.same a k then v else u) :: repD k v l
def putD (k v : D) (l : List (D × D)) : List (D × D) := if hasD k l then repD k v l else l ++ [(k, v)]

/-! ### built-ins -/
def isiD : Ty → D → Option Bool
  | _, .scr _ => none
  | _, .ref _ => none
  | _, .rep _ => none
  | _, .ty _ => none
  | _, .wk _ => none
  | .none, _ => none
  | .int, .int _ => some true
  | .int, .bl _ => some true
  | .bool, .bl _ => some true
  | .str, .str _ => some true
  | .tuple, .tup _ => some true
  | .list, .lst _ => some true
  | _, _ => some false

def intsD : List D → Option (List Int)
  | [] => some []
  | .int i :: l => (intsD l).map (i :: ·)
  | _ => none
def boolsD : List D → Option (List Bool)
  | [] => some []
  | .bl b :: l => (boolsD l).map (b :: ·)
  | _ => none
def rangeD (a : Int) : Nat → List D
  | 0 => []
  | n + 1 => .int a :: rangeD (a + 1) n
def items : D → Option (List D)
  | .tup l => some l
  | .lst l => some l
  | .scr l => some (l.map .int)
  | _ => none

/-- an int put into an ascending list -/
def ins (a : Int) : List Int → List Int
  | [] => [a]
  | b :: l => if decide (a < b) then a :: b :: l else if decide (a = b) then b :: l else b :: ins a l
def asc (l : List Int) : List Int := l.foldr ins []

def bi : Bi → D → Option D
  | .len, .str z => if Nat.ble z.cps.size cap then some (.int z.length) else none
  | .len, d => (items d).map fun l => .int l.length
  | .all, .lst l => (boolsD l).map fun bs => .bl (bs.all id)
  | .any, .lst l => (boolsD l).map fun bs => .bl (bs.any id)
  | .sum, .lst l => (intsD l).map fun is => .int is.sum
  | .int, .int i => some (.int i)
  | .int, .bl b => some (.int (if b then 1 else 0))
  | .int, .str z => if Nat.ble z.cps.size 640 then (PySem.intText? z).map .int else none
  | .tuple, .tup l => some (.tup l)
  | .tuple, .lst l => some (.tup l)
  | .list, d => (items d).map .lst
  | .repr, d => if D.flat 40 d && D.able d && Nat.ble (D.wt d) cap then some (.rep d) else none
  | _, _ => none

def indexD (x : D) : List D → Nat → Option Nat
  | [], _ => none
  | y :: l, n => if D.beq y x then some n else indexD x l (n + 1)
def countD (x : D) : List D → Nat
  | [] => 0
  | y :: l => if D.beq y x then countD x l + 1 else countD x l

/-! ### environments -/
def getE (ρ : Env) (i : Nat) : Option D :=
  match nthD ρ i with
  | some d => d
  | none => none
def setE (ρ : Env) (i : Nat) (d : D) : Env := setN ρ i (some d)
def setEs : Env → List Nat → List D → Option Env
  | ρ, [], [] => some ρ
  | ρ, i :: is, d :: ds => setEs (setE ρ i d) is ds
  | _, _, _ => none
def wipeE (ρ : Env) : List Nat → Env
  | [] => ρ
  | v :: vs => setN (wipeE ρ vs) v none
def bindT (ρ : Env) : Tg → D → Option Env
  | .nm i, d => some (setE ρ i d)
  | .tp is, .tup l => setEs ρ is l
  | .tp is, .wk l => setEs ρ is l
  | _, _ => none
/-- a place at which a slice begins or ends -/
def sIx (n d : Nat) : Option Int → Nat
  | none => d
  | some i => if i < 0 then (i + n).toNat else min i.toNat n
def sliceL (l : List D) (lo hi : Option Int) : List D :=
  let a := sIx l.length 0 lo
  let b := sIx l.length l.length hi
  (l.drop a).take (b - a)

def zipD : List D → List D → List D
  | a :: l, b :: m => .wk [a, b] :: zipD l m
  | _, _ => []
def enumD (n : Int) : List D → List D
  | [] => []
  | a :: l => .wk [.int n, a] :: enumD (n + 1) l

def liftO {α : Type} (o : Option α) (μ : Store) : R α :=
  match o with
  | some a => .ok a μ
  | none => .stuck

def seqOf : D → Option (List D)
  | .tup l => some l
  | .lst l => some l
  | _ => none
/-- keys that are tuples of ints and texts -/
def keyTOk : D → Bool
  | .tup l => l.all keyOk
  | _ => false
/-! ### the evaluator, one construct after another -/
abbrev EvE := Ex → Env → Store → R D
def evs (f : EvE) : List Ex → Env → Store → R (List D)
  | [], _, μ => .ok [] μ
  | e :: es, ρ, μ => (f e ρ μ).bind fun d μ => (evs f es ρ μ).bind fun ds μ => if d.isRef then .stuck else .ok (d :: ds) μ
def isStar : Ex → Bool
  | .star _ => true
  | _ => false
/-- a display's items, stars among them -/
def evsS (f : EvE) : List Ex → Env → Store → R (List D)
  | [], _, μ => .ok [] μ
  | e :: es, ρ, μ => match e with
    | .star e => (f e ρ μ).bind fun d μ => (liftO (seqOf (view μ d)) μ).bind fun xs μ => (evsS f es ρ μ).bind fun ds μ => .ok (xs ++ ds) μ
    | e => (f e ρ μ).bind fun d μ => (evsS f es ρ μ).bind fun ds μ => if d.isRef then .stuck else .ok (d :: ds) μ
/-- values that may be refs -/
def evr (f : EvE) : List Ex → Env → Store → R (List D)
  | [], _, μ => .ok [] μ
  | e :: es, ρ, μ => (f e ρ μ).bind fun d μ => (evr f es ρ μ).bind fun ds μ => .ok (d :: ds) μ
def asI : D → Option Int
  | .int i => some i
  | _ => none
def evO (f : EvE) (ρ : Env) (μ : Store) : Option Ex → R (Option Int)
  | none => .ok none μ
  | some e => (f e ρ μ).bind fun d μ => liftO ((asI d).map some) μ
def rngD (a b : Int) : Option (List D) :=
  if decide (-4611686018427387904 ≤ a) && decide (a < 4611686018427387904) && decide (-4611686018427387904 ≤ b) && decide (b < 4611686018427387904) && Nat.ble (b - a).toNat cap then some (rangeD a (b - a).toNat) else none
/-- what a for walks over: values, or a list of the store from a place on -/
inductive Src where
  | vals (l : List D)
  | cell (i k : Nat)
def nxt (μ : Store) : Src → Option (D × Src)
  | .vals [] => none
  | .vals (x :: l) => some (x, .vals l)
  | .cell i k => match nthD μ i with
    | some (.lst l) => (match nthD l k with
      | some x => some (x, .cell i (k + 1))
      | none => none)
    | _ => none
def srcOf (d : D) : Option Src :=
  match d with
  | .ref i => some (.cell i 0)
  | d => (items d).map .vals
def valsOf : Option (List D) → Option Src
  | some l => some (.vals l)
  | none => none
def itZip : D → D → Option (List D)
  | .lst l, .lst m => some (zipD l m)
  | .tup l, .tup m => some (zipD l m)
  | _, _ => none
def itEnum : D → Option (List D)
  | .lst l => some (enumD 0 l)
  | .tup l => some (enumD 0 l)
  | _ => none
/-- a list of the store must be one -/
def srcOk (μ : Store) : Src → Bool
  | .vals _ => true
  | .cell i _ => match nthD μ i with
    | some (.lst _) => true
    | _ => false
def evIt (f : EvE) (ρ : Env) (μ : Store) : Itx → R Src
  | .seq e => (f e ρ μ).bind fun d μ => liftO ((srcOf d).bind fun s => if srcOk μ s then some s else none) μ
  | .rng a => (f a ρ μ).bind fun d μ => liftO (valsOf ((asI d).bind (rngD 0))) μ
  | .rng2 a b => (f a ρ μ).bind fun d μ => (f b ρ μ).bind fun d' μ => liftO (valsOf ((asI d).bind fun i => (asI d').bind (rngD i))) μ
  | .enum e => (f e ρ μ).bind fun d μ => liftO (valsOf (itEnum d)) μ
  | .zip a b => (f a ρ μ).bind fun d μ => (f b ρ μ).bind fun d' μ => liftO (valsOf (itZip d d')) μ
def fuel : Nat := 16777217
def evIf (f : Ex → Env → Store → R Bool) (ρ : Env) (μ : Store) : Option Ex → R Bool
  | none => .ok true μ
  | some c => f c ρ μ

/-- no exception leaves a comprehension's block -/
def noX {α : Type} (r : R α) : R α :=
  match r with
  | .exc _ _ _ => .stuck
  | r => r
/-- the new list's values, from the walk on -/
def compL (S : Sem) (ρ : Env) (t : Tg) (c : Option Ex) (elt : Ex) : Nat → Src → Store → R (List D)
  | 0, _, _ => .stuck
  | n + 1, s, μ => if srcOk μ s then
      match nxt μ s with
      | none => .ok [] μ
      | some (x, s') => match bindT ρ t x with
        | none => .stuck
        | some ρ' => (noX (evIf S.t ρ' μ c)).bind fun b μ => match b with
          | true => (noX (S.e elt ρ' μ)).bind fun d μ => if d.isRef then .stuck else (compL S ρ t c elt n s' μ).bind fun ds μ => .ok (d :: ds) μ
          | false => compL S ρ t c elt n s' μ
    else .stuck
def compL2 (S : Sem) (own' : List Nat) (ρ : Env) (t : Tg) (t' : Tg) (it' : Itx) (c : Option Ex) (elt : Ex) : Nat → Src → Store → R (List D)
  | 0, _, _ => .stuck
  | n + 1, s, μ => if srcOk μ s then
      match nxt μ s with
      | none => .ok [] μ
      | some (x, s') => match bindT ρ t x with
        | none => .stuck
        | some ρ' => (noX (evIt S.e ρ' μ it')).bind fun s1 μ => (compL S (wipeE ρ' own') t' c elt fuel s1 μ).bind fun ds μ =>
          (compL2 S own' ρ t t' it' c elt n s' μ).bind fun es μ => .ok (ds ++ es) μ
    else .stuck
def forL (S : Sem) (t : Tg) (body : List St) : Nat → Src → Env → Store → R Fl
  | 0, _, _, _ => .stuck
  | n + 1, s, ρ, μ => if srcOk μ s then
      match nxt μ s with
      | none => .ok (.nx ρ) μ
      | some (x, s') => match bindT ρ t x with
        | none => .stuck
        | some ρ' => (S.s body ρ' μ).bind fun fl μ => match fl with
          | .nx ρ => forL S t body n s' ρ μ
          | .ret d => .ok (.ret d) μ
    else .stuck

/-- names of things that stand beyond n are forgotten -/
def dropO (n : Nat) : Option D → Option D
  | some (.ref i) => if Nat.blt i n then some (.ref i) else none
  | o => o
def dropE (n : Nat) : Env → Env
  | [] => []
  | o :: ρ => dropO n o :: dropE n ρ
def forLG (S : Sem) (t : Tg) (body : List St) (n0 : Nat) : Nat → Src → Env → Store → R Fl
  | 0, _, _, _ => .stuck
  | n + 1, s, ρ, μ => if srcOk μ s then
      match nxt μ s with
      | none => .ok (.nx ρ) μ
      | some (x, s') => match bindT ρ t x with
        | none => .stuck
        | some ρ' => (S.s body ρ' μ).bind fun fl μ => match fl with
          | .nx ρ => forLG S t body n0 n s' (dropE n0 ρ) (μ.take n0)
          | .ret d => .ok (.ret d) μ
    else .stuck

def dropN {α : Type} : List α → Nat → List α
  | [], _ => []
  | _ :: l, 0 => l
  | a :: l, n + 1 => a :: dropN l n
/-- l.pop(k) -/
def popN (l : List D) (k : Int) : Option (D × List D) :=
  match k with
  | .ofNat n => (nthD l n).map fun d => (d, dropN l n)
  | .negSucc n => if Nat.ble (n + 1) l.length then (nthD l (l.length - (n + 1))).map fun d => (d, dropN l (l.length - (n + 1))) else none
def methD (m : Mt) (o x : D) (μ : Store) : R D :=
  match m with
  | .append => match o with
    | .ref i => (match nthD μ i with
      | some (.lst l) => if x.isRef then .stuck else if Nat.blt l.length cap then .ok .non (setN μ i (.lst (l ++ [x]))) else .stuck
      | _ => .stuck)
    | _ => .stuck
  | .index => match view μ o with
    | .tup l => if D.one x && l.all D.one then liftO ((indexD x l 0).map fun (n : Nat) => D.int (Int.ofNat n)) μ else .stuck
    | .lst l => if D.flat 40 x && D.flats 40 l then liftO ((indexD x l 0).map fun (n : Nat) => D.int (Int.ofNat n)) μ else .stuck
    | _ => .stuck
  | .extend => match o, view μ x with
    | .ref i, .lst m => (match nthD μ i with
      | some (.lst l) => if Nat.ble (l.length + m.length) cap then .ok .non (setN μ i (.lst (l ++ m))) else .stuck
      | _ => .stuck)
    | _, _ => .stuck
  | .popAt => match o, x with
    | .ref i, .int k => (match nthD μ i with
      | some (.lst l) => (match popN l k with
        | some (d, l') => .ok d (setN μ i (.lst l'))
        | none => .stuck)
      | _ => .stuck)
    | _, _ => .stuck
  | .count => match view μ o, x with
    | .lst l, .int k => liftO ((intsD l).map fun is => .int (is.count k)) μ
    | _, _ => .stuck

def selD (ds : List D) : List (Nat ⊕ D) → Option (List D)
  | [] => some []
  | .inl i :: is => match nthD ds i, selD ds is with
    | some d, some r => some (d :: r)
    | _, _ => none
  | .inr d :: is => match selD ds is with
    | some r => some (d :: r)
    | none => none

def eBin (S : Sem) (op : Bop) (a b : Ex) (ρ : Env) (μ : Store) : R D :=
  (S.e a ρ μ).bind fun x μ => (S.e b ρ μ).bind fun y μ => liftO (bop op (view μ x) (view μ y)) μ
def eNeg (S : Sem) (a : Ex) (ρ : Env) (μ : Store) : R D :=
  (S.e a ρ μ).bind fun x μ => liftO ((asI x).map fun i => .int (-i)) μ
def asB : D → Option Bool
  | .bl b => some b
  | _ => none
def eNot (S : Sem) (a : Ex) (ρ : Env) (μ : Store) : R D :=
  (S.e a ρ μ).bind fun x μ => liftO ((asB x).map fun b => .bl (!b)) μ
def eAnd (S : Sem) (a b : Ex) (ρ : Env) (μ : Store) : R D :=
  (S.e a ρ μ).bind fun x μ => (liftO (asB x) μ).bind fun t μ => match t with
    | true => S.e b ρ μ
    | false => .ok (.bl false) μ
def eOr (S : Sem) (a b : Ex) (ρ : Env) (μ : Store) : R D :=
  (S.e a ρ μ).bind fun x μ => (liftO (asB x) μ).bind fun t μ => match t with
    | true => .ok (.bl true) μ
    | false => S.e b ρ μ
def eCmpB (S : Sem) (op : Cop) (a b : Ex) (ρ : Env) (μ : Store) : R Bool :=
  (S.e a ρ μ).bind fun x μ => (S.e b ρ μ).bind fun y μ => liftO (cop op (view μ x) (view μ y)) μ
def eCmp2B (S : Sem) (op op' : Cop) (a b c : Ex) (ρ : Env) (μ : Store) : R Bool :=
  (S.e a ρ μ).bind fun x μ => (S.e b ρ μ).bind fun y μ => (liftO (cop op (view μ x) (view μ y)) μ).bind fun t μ => match t with
    | true => (S.e c ρ μ).bind fun z μ => liftO (cop op' (view μ y) (view μ z)) μ
    | false => .ok false μ
def ofB (r : R Bool) : R D := r.bind fun b μ => .ok (.bl b) μ
def eIfe (S : Sem) (c a b : Ex) (ρ : Env) (μ : Store) : R D :=
  (S.t c ρ μ).bind fun t μ => match t with
    | true => S.e a ρ μ
    | false => S.e b ρ μ
def eCall (S : Sem) (f : Nat) (as : List Ex) (kws : List (Str × Ex)) (sel : List (Nat ⊕ D)) (ρ : Env) (μ : Store) : R D :=
  (evr S.e as ρ μ).bind fun ds μ => (evr S.e (kws.map (·.2)) ρ μ).bind fun es μ => (liftO (selD (ds ++ es) sel) μ).bind fun xs μ => S.c f xs μ
def eBi (S : Sem) (b : Bi) (a : Ex) (ρ : Env) (μ : Store) : R D :=
  (S.e a ρ μ).bind fun x μ => liftO (bi b (view μ x)) μ
def eIsi (S : Sem) (a : Ex) (t : Ty) (ρ : Env) (μ : Store) : R D :=
  (S.e a ρ μ).bind fun x μ => liftO ((isiD t (view μ x)).map .bl) μ
def isLst : D → Bool
  | .lst _ => true
  | _ => false
def isTupD : D → Bool
  | .tup _ => true
  | _ => false
/-- whose method it is -/
def mthOk (m : Mt) (d : D) : Bool :=
  match m with
  | .index => isLst d || isTupD d
  | _ => isLst d
def eMeth (S : Sem) (m : Mt) (o a : Ex) (ρ : Env) (μ : Store) : R D :=
  (S.e o ρ μ).bind fun x μ => if mthOk m (view μ x) then (S.e a ρ μ).bind fun y μ => methD m x y μ else .stuck
def idxD (o i : D) : Option D :=
  match o, i with
  | .tup l, .int k => atI l k
  | .lst l, .int k => atI l k
  | .str z, .int k => if Nat.ble z.cps.size cap then (atI z.cps.toList k).map fun c => .str ⟨#[c]⟩ else none
  | _, _ => none
def eIdx (S : Sem) (a i : Ex) (ρ : Env) (μ : Store) : R D :=
  (S.e a ρ μ).bind fun x μ => (S.e i ρ μ).bind fun y μ => liftO (idxD (view μ x) y) μ
def dgetD (μ : Store) (o k : D) : Option D :=
  match o with
  | .ref i => match nthD μ i with
    | some (.dct kvs) => if keyOk k then lookD k kvs else none
    | some (.dcT kvs) => if keyTOk k then lookD k kvs else none
    | _ => none
  | _ => none
def eDget (S : Sem) (a k : Ex) (ρ : Env) (μ : Store) : R D :=
  (S.e a ρ μ).bind fun x μ => (S.e k ρ μ).bind fun y μ => liftO (dgetD μ x y) μ
/-- a part of a text -/
def cutD (z : Str) (lo hi : Option Int) : Str :=
  ⟨((z.cps.toList.drop (sIx z.length 0 lo)).take (sIx z.length z.length hi - sIx z.length 0 lo)).toArray⟩
def sliceD (d : D) (lo hi : Option Int) : Option D :=
  match d with
  | .str z => if Nat.ble z.cps.size cap then some (.str (cutD z lo hi)) else none
  | .tup l => some (.tup (sliceL l lo hi))
  | .lst l => some (.lst (sliceL l lo hi))
  | .scr l => some (.lst (sliceL (l.map .int) lo hi))
  | _ => none
def eSlice (S : Sem) (a : Ex) (lo hi : Option Ex) (ρ : Env) (μ : Store) : R D :=
  (S.e a ρ μ).bind fun x μ => (evO S.e ρ μ lo).bind fun l μ => (evO S.e ρ μ hi).bind fun h μ => liftO (sliceD (view μ x) l h) μ
def shortO (l : List D) (d : D) : Option D := if short l then some d else none
def eTup (S : Sem) (es : List Ex) (ρ : Env) (μ : Store) : R D :=
  (evsS S.e es ρ μ).bind fun ds μ => liftO (shortO ds (.tup ds)) μ
def eLst (S : Sem) (es : List Ex) (ρ : Env) (μ : Store) : R D :=
  (evsS S.e es ρ μ).bind fun ds μ => liftO (shortO ds (.lst ds)) μ
def dictO (ks : List D) (ds : List D) : Option (List (D × D)) :=
  if ks.all keyOk && Nat.beq ks.length ds.length && Nat.ble ks.length 15 then some (ks.zip ds) else none
/-- a dict begins empty and is put together key by key -/
def eDict (S : Sem) (ks : List D) (es : List Ex) (ρ : Env) (μ : Store) : R D :=
  (evs S.e es ρ μ).bind fun ds μ => (liftO (dictO ks ds) μ).bind fun kvs μ => .ok (.ref μ.length) (μ ++ [.dct (kvs.foldl (fun acc p => putD p.1 p.2 acc) [])])
def eLc (S : Sem) (own : List Nat) (t : Tg) (it : Itx) (c : Option Ex) (elt : Ex) (ρ : Env) (μ : Store) : R D :=
  (evIt S.e ρ μ it).bind fun s μ => (compL S (wipeE ρ own) t c elt fuel s μ).bind fun ds μ => liftO (shortO ds (.lst ds)) μ
def eLc2 (S : Sem) (own own' : List Nat) (t : Tg) (it : Itx) (t' : Tg) (it' : Itx) (c : Option Ex) (elt : Ex) (ρ : Env) (μ : Store) : R D :=
  (evIt S.e ρ μ it).bind fun s μ => (compL2 S own' (wipeE ρ own) t t' it' c elt fuel s μ).bind fun ds μ => liftO (shortO ds (.lst ds)) μ
def evO0 (f : EvE) (ρ : Env) (μ : Store) : Option Ex → R Int
  | none => .ok 0 μ
  | some e => (f e ρ μ).bind fun d μ => liftO (asI d) μ
def eTrng (S : Sem) (tup : Bool) (a : Option Ex) (b : Ex) (ρ : Env) (μ : Store) : R D :=
  (evO0 S.e ρ μ a).bind fun i μ => (S.e b ρ μ).bind fun d μ => liftO (((asI d).bind (rngD i)).map fun l => if tup then .tup l else .lst l) μ
def ssetL (l : List D) : Option (List Int) := if Nat.ble l.length 4000 then (match intsD l with
    | some is => let r := asc is; if Nat.blt r.length 64 then some r else none
    | none => none) else none
def ssetD (d : D) : Option (List Int) :=
  match d with
  | .lst l => ssetL l
  | .tup l => ssetL l
  | _ => none
def eSset (S : Sem) (a : Ex) (ρ : Env) (μ : Store) : R D :=
  (S.e a ρ μ).bind fun d μ => liftO ((ssetD (view μ d)).map fun l => .lst (l.map .int)) μ
def eLset (S : Sem) (a : Ex) (ρ : Env) (μ : Store) : R D :=
  (S.e a ρ μ).bind fun d μ => liftO ((ssetD (view μ d)).map fun l => .int l.length) μ

/-! ### operations on values -/
/-- an int put into an ascending list, beside equal ones -/
def insR (a : Int) : List Int → List Int
  | [] => [a]
  | b :: l => if decide (a ≤ b) then a :: b :: l else b :: insR a l
def ascR (l : List Int) : List Int := l.foldr insR []
def pairD : D → Option (D × D)
  | .tup [k, v] => if keyOk k then some (k, v) else none
  | _ => none
def pairsD : List D → Option (List (D × D))
  | [] => some []
  | d :: l => match pairD d, pairsD l with
    | some p, some r => some (p :: r)
    | _, _ => none
def lastD {α : Type} : List α → Option (α × List α)
  | [] => none
  | [a] => some (a, [])
  | a :: l => (lastD l).map fun p => (p.1, a :: p.2)
def op1D (o : O1) (x : D) (μ : Store) : R D :=
  match o with
  | .listD => match x with
    | .ref i => (match nthD μ i with
      | some (.dct kvs) => .ok (.lst (kvs.map (·.1))) μ
      | _ => .stuck)
    | _ => .stuck
  | .lenD => match x with
    | .ref i => (match nthD μ i with
      | some (.dct kvs) => .ok (.int kvs.length) μ
      | _ => .stuck)
    | _ => .stuck
  | .srt => match view μ x with
    | .lst l => liftO ((intsD l).map fun is => .lst ((ascR is).map .int)) μ
    | _ => .stuck
  | .dictP => match view μ x with
    | .lst l => (liftO (pairsD l) μ).bind fun kvs μ => .ok (.ref μ.length) (μ ++ [.dct (kvs.foldl (fun acc p => putD p.1 p.2 acc) [])])
    | _ => .stuck
  | .pop => match x with
    | .ref i => (match nthD μ i with
      | some (.lst l) => (match lastD l with
        | some (d, l') => .ok d (setN μ i (.lst l'))
        | none => .stuck)
      | _ => .stuck)
    | _ => .stuck
  | .lset => liftO ((ssetD (view μ x)).map fun l => .int l.length) μ
def hasO (μ : Store) (o k : D) : Option Bool :=
  match o with
  | .ref i => match nthD μ i with
    | some (.dct kvs) => if keyOk k then some (hasD k kvs) else none
    | some (.dcT kvs) => if keyTOk k then some (hasD k kvs) else none
    | _ => none
  | _ => none
def op2D (o : O2) (x y : D) (μ : Store) : R D :=
  match o with
  | .din neg => liftO ((hasO μ y x).map fun b => .bl (if neg then !b else b)) μ
  | .split => match view μ x, view μ y with
    | .str a, .str b => if !(Nat.beq b.cps.size 0) && Nat.ble (a.cps.size + 2) cap then .ok (.lst ((Txt.split a b).map .str)) μ else .stuck
    | _, _ => .stuck
def getO (μ : Store) (o k : D) : Option (Option D) :=
  match o with
  | .ref i => match nthD μ i with
    | some (.dct kvs) => if keyOk k then some (lookD k kvs) else none
    | some (.dcT kvs) => if keyTOk k then some (lookD k kvs) else none
    | _ => none
  | _ => none
def op3D (o : O3) (x y z : D) (μ : Store) : R D :=
  match o with
  | .dget => liftO ((getO μ x y).map fun r => r.getD z) μ
def isDct (μ : Store) : D → Bool
  | .ref i => match nthD μ i with
    | some (.dct _) | some (.dcT _) => true
    | _ => false
  | _ => false
/-- the receiver is looked at before the arguments are evaluated -/
def pre1 (o : O1) (x : D) (μ : Store) : Bool := true
def eOp1 (S : Sem) (o : O1) (a : Ex) (ρ : Env) (μ : Store) : R D := (S.e a ρ μ).bind fun x μ => op1D o x μ
def pre2 (o : O2) (x : D) : Bool :=
  match o, x with
  | .din _, _ => true
  | .split, .str _ => true
  | .split, _ => false
def eOp2 (S : Sem) (o : O2) (a b : Ex) (ρ : Env) (μ : Store) : R D := (S.e a ρ μ).bind fun x μ => match pre2 o x with
  | true => (S.e b ρ μ).bind fun y μ => op2D o x y μ
  | false => .stuck
def eOp3 (S : Sem) (o : O3) (a b c : Ex) (ρ : Env) (μ : Store) : R D :=
  (S.e a ρ μ).bind fun x μ => if isDct μ x then (S.e b ρ μ).bind fun y μ => (S.e c ρ μ).bind fun z μ => if z.isRef then .stuck else op3D o x y z μ else .stuck
/-- a new dict's entries, from the walk on; the dict stands beside meanwhile -/
def compD (S : Sem) (tup : Bool) (ρ : Env) (t : Tg) (k v : Ex) : Nat → Src → List (D × D) → Store → R (List (D × D))
  | 0, _, _, _ => .stuck
  | n + 1, s, acc, μ => if srcOk μ s then
      match nxt μ s with
      | none => .ok acc μ
      | some (x, s') => match bindT ρ t x with
        | none => .stuck
        | some ρ' => (noX (S.e k ρ' μ)).bind fun kd μ => (noX (S.e v ρ' μ)).bind fun vd μ =>
          if vd.isRef || !(if tup then keyTOk kd else keyOk kd) || !(Nat.blt acc.length cap) then .stuck else compD S tup ρ t k v n s' (putD kd vd acc) μ
    else .stuck
def eDc (S : Sem) (tup : Bool) (own : List Nat) (t : Tg) (it : Itx) (k v : Ex) (ρ : Env) (μ : Store) : R D :=
  (evIt S.e ρ μ it).bind fun s μ => (compD S tup (wipeE ρ own) t k v fuel s [] μ).bind fun kvs μ => .ok (.ref μ.length) (μ ++ [if tup then .dcT kvs else .dct kvs])

def newR (d : D) (μ : Store) : R D :=
  match d with
  | .lst l => .ok (.ref μ.length) (μ ++ [.lst l])
  | _ => .stuck
def stepE (S : Sem) (e : Ex) (ρ : Env) (μ : Store) : R D :=
  match e with
  | .var i => liftO (getE ρ i) μ
  | .con d => .ok d μ
  | .glo _ d => .ok d μ
  | .bin op a b => eBin S op a b ρ μ
  | .neg a => eNeg S a ρ μ
  | .not a => eNot S a ρ μ
  | .and a b => eAnd S a b ρ μ
  | .or a b => eOr S a b ρ μ
  | .cmp op a b => ofB (eCmpB S op a b ρ μ)
  | .cmp2 op op' a b c => ofB (eCmp2B S op op' a b c ρ μ)
  | .ife c a b => eIfe S c a b ρ μ
  | .call f as kws sel => eCall S f as kws sel ρ μ
  | .bi b a => eBi S b a ρ μ
  | .isi a t => eIsi S a t ρ μ
  | .meth m o a => eMeth S m o a ρ μ
  | .idx a i => eIdx S a i ρ μ
  | .dget a k => eDget S a k ρ μ
  | .slice a lo hi => eSlice S a lo hi ρ μ
  | .tup es => eTup S es ρ μ
  | .lst es => eLst S es ρ μ
  | .dict ks es => eDict S ks es ρ μ
  | .lc own t it c elt => eLc S own t it c elt ρ μ
  | .lc2 own own' t it t' it' c elt => eLc2 S own own' t it t' it' c elt ρ μ
  | .trng tup a b => eTrng S tup a b ρ μ
  | .sset a => eSset S a ρ μ
  | .lset a => eLset S a ρ μ
  | .star _ => .stuck
  | .new a => (S.e a ρ μ).bind newR
  | .op1 o a => eOp1 S o a ρ μ
  | .op2 o a b => eOp2 S o a b ρ μ
  | .op3 o a b c => eOp3 S o a b c ρ μ
  | .dnewT => .ok (.ref μ.length) (μ ++ [.dcT []])
  | .dc tup own t it k v => eDc S tup own t it k v ρ μ

def truD : D → Option Bool
  | .bl b => some b
  | .non => some false
  | .int i => some (i != 0)
  | .lst l => some (!l.isEmpty)
  | .tup l => some (!l.isEmpty)
  | _ => none
def tNotB (S : Sem) (a : Ex) (ρ : Env) (μ : Store) : R Bool := (S.t a ρ μ).bind fun b μ => .ok (!b) μ
def tAndB (S : Sem) (a b : Ex) (ρ : Env) (μ : Store) : R Bool := (S.t a ρ μ).bind fun t μ => match t with
  | true => S.t b ρ μ
  | false => .ok false μ
def tOrB (S : Sem) (a b : Ex) (ρ : Env) (μ : Store) : R Bool := (S.t a ρ μ).bind fun t μ => match t with
  | true => .ok true μ
  | false => S.t b ρ μ
def tVal (S : Sem) (e : Ex) (ρ : Env) (μ : Store) : R Bool := (S.e e ρ μ).bind fun d μ => liftO (truD (view μ d)) μ
def tOp2 (S : Sem) (o : O2) (a b : Ex) (ρ : Env) (μ : Store) : R Bool :=
  match o with
  | .din neg => (S.e a ρ μ).bind fun x μ => (S.e b ρ μ).bind fun y μ => liftO ((hasO μ y x).map fun b => if neg then !b else b) μ
  | _ => .stuck
/-- an expression as a test -/
def stepT (S : Sem) (e : Ex) (ρ : Env) (μ : Store) : R Bool :=
  match e with
  | .not a => tNotB S a ρ μ
  | .and a b => tAndB S a b ρ μ
  | .or a b => tOrB S a b ρ μ
  | .cmp op a b => eCmpB S op a b ρ μ
  | .cmp2 op op' a b c => eCmp2B S op op' a b c ρ μ
  | .ife .. => .stuck
  | .call f as kws sel => tVal S (.call f as kws sel) ρ μ
  | .var i => tVal S (.var i) ρ μ
  | .con d => tVal S (.con d) ρ μ
  | .bi b a => tVal S (.bi b a) ρ μ
  | .isi a t => tVal S (.isi a t) ρ μ
  | .idx a i => tVal S (.idx a i) ρ μ
  | .dget a i => tVal S (.dget a i) ρ μ
  | .op1 o a => tVal S (.op1 o a) ρ μ
  | .op2 o a b => tOp2 S o a b ρ μ
  | .op3 o a b c => tVal S (.op3 o a b c) ρ μ
  | _ => .stuck

def sThen (S : Sem) (r : List St) (x : R Fl) : R Fl := x.bind fun fl μ => match fl with
  | .nx ρ => S.s r ρ μ
  | .ret d => .ok (.ret d) μ
def sAsg (S : Sem) (i : Nat) (e : Ex) (ρ : Env) (μ : Store) : R Fl := (S.e e ρ μ).bind fun d μ => .ok (.nx (setE ρ i d)) μ
def sAsgN (S : Sem) (i : Nat) (e : Ex) (ρ : Env) (μ : Store) : R Fl := (S.e e ρ μ).bind fun d μ => match d with
  | .lst l => .ok (.nx (setE ρ i (.ref μ.length))) (μ ++ [.lst l])
  | _ => .stuck
def sPar (S : Sem) (is : List Nat) (es : List Ex) (ρ : Env) (μ : Store) : R Fl := (evr S.e es ρ μ).bind fun ds μ => liftO ((setEs ρ is ds).map .nx) μ
def sUnp (S : Sem) (is : List Nat) (e : Ex) (ρ : Env) (μ : Store) : R Fl := (S.e e ρ μ).bind fun d μ => liftO ((bindT ρ (.tp is) d).map .nx) μ
def setAt (l : List D) (k : Int) (v : D) : Option (List D) :=
  match k with
  | .ofNat n => if Nat.blt n l.length then some (setN l n v) else none
  | .negSucc n => if Nat.ble (n + 1) l.length then some (setN l (l.length - (n + 1)) v) else none
def setIxO (μ : Store) (o k v : D) : Option Store :=
  match o, k with
  | .ref i, .int j => (match nthD μ i with
    | some (.lst l) => if v.isRef then none else (setAt l j v).map fun l' => setN μ i (.lst l')
    | _ => none)
  | _, _ => none
def setKO (μ : Store) (o k v : D) : Option Store :=
  match o with
  | .ref i => (match nthD μ i with
    | some (.dct kvs) => if v.isRef || !keyOk k || !(Nat.blt kvs.length cap) then none else some (setN μ i (.dct (putD k v kvs)))
    | some (.dcT kvs) => if v.isRef || !keyTOk k || !(Nat.blt kvs.length cap) then none else some (setN μ i (.dcT (putD k v kvs)))
    | _ => none)
  | _ => none
def sSetIx (S : Sem) (o k e : Ex) (ρ : Env) (μ : Store) : R Fl :=
  (S.e e ρ μ).bind fun v μ => (S.e o ρ μ).bind fun x μ => (S.e k ρ μ).bind fun y μ => (liftO (setIxO μ x y v) μ).bind fun μ' _ => .ok (.nx ρ) μ'
def sSetK (S : Sem) (o k e : Ex) (ρ : Env) (μ : Store) : R Fl :=
  (S.e e ρ μ).bind fun v μ => (S.e o ρ μ).bind fun x μ => (S.e k ρ μ).bind fun y μ => (liftO (setKO μ x y v) μ).bind fun μ' _ => .ok (.nx ρ) μ'
def augI (op : Bop) (x y : D) : Option D :=
  match op, x, y with
  | .add, .int a, .int b => some (.int (a + b))
  | .sub, .int a, .int b => some (.int (a - b))
  | _, _, _ => none
def sAug (S : Sem) (i : Nat) (op : Bop) (e : Ex) (ρ : Env) (μ : Store) : R Fl :=
  (liftO (getE ρ i) μ).bind fun x μ => (S.e e ρ μ).bind fun y μ => (liftO (augI op x y) μ).bind fun z μ => .ok (.nx (setE ρ i z)) μ
def sIf (S : Sem) (c : Ex) (a b : List St) (ρ : Env) (μ : Store) : R Fl :=
  (S.t c ρ μ).bind fun t μ => match t with
    | true => S.s a ρ μ
    | false => S.s b ρ μ
def sFor (S : Sem) (t : Tg) (it : Itx) (body : List St) (ρ : Env) (μ : Store) : R Fl :=
  (evIt S.e ρ μ it).bind fun s μ => forL S t body fuel s ρ μ
def sForG (S : Sem) (t : Tg) (it : Itx) (body : List St) (ρ : Env) (μ : Store) : R Fl :=
  (evIt S.e ρ μ it).bind fun s μ => forLG S t body μ.length fuel s ρ μ
def sOne (S : Sem) (st : St) (ρ : Env) (μ : Store) : R Fl :=
  match st with
  | .asg i e => sAsg S i e ρ μ
  | .asgN i e => sAsgN S i e ρ μ
  | .par is es => sPar S is es ρ μ
  | .unp is e => sUnp S is e ρ μ
  | .setIx o k e => sSetIx S o k e ρ μ
  | .setK o k e => sSetK S o k e ρ μ
  | .aug i op e => sAug S i op e ρ μ
  | .expr e => (S.e e ρ μ).bind fun _ μ => .ok (.nx ρ) μ
  | .ret e => (S.e e ρ μ).bind fun d μ => .ok (.ret d) μ
  | .ife c a b => sIf S c a b ρ μ
  | .for_ t it body => sFor S t it body ρ μ
  | .forG t it body => sForG S t it body ρ μ
  | .while_ c body => S.w c body ρ μ
  | .never => .stuck
def stepS (S : Sem) (l : List St) (ρ : Env) (μ : Store) : R Fl :=
  match l with
  | [] => .ok (.nx ρ) μ
  | st :: r => sThen S r (sOne S st ρ μ)
def stepW (S : Sem) (c : Ex) (body : List St) (ρ : Env) (μ : Store) : R Fl :=
  (S.t c ρ μ).bind fun t μ => match t with
    | true => (S.s body ρ μ).bind fun fl μ => (match fl with
      | .nx ρ => S.w c body ρ μ
      | .ret d => .ok (.ret d) μ)
    | false => .ok (.nx ρ) μ

def bot (c : Nat → List D → Store → R D) : Sem := ⟨fun _ _ _ => .stuck, fun _ _ _ => .stuck, fun _ _ _ => .stuck, fun _ _ _ _ => .stuck, c⟩
def step (c : Nat → List D → Store → R D) (S : Sem) : Sem := ⟨stepE S, stepT S, stepS S, stepW S, c⟩
def lev (c : Nat → List D → Store → R D) : Nat → Sem
  | 0 => bot c
  | n + 1 => step c (lev c n)

/-- the names' values at a def's entry -/
def frameE (n : Nat) (ds : List D) : Env := ds.map some ++ List.replicate (n - ds.length) none
def outD : Fl → D
  | .nx _ => .non
  | .ret d => d
def runF (S : Sem) (F : Fn) (ds : List D) (μ : Store) : R D :=
  (S.s F.body (frameE F.ns ds) μ).bind fun fl μ => .ok (outD fl) μ
def Ob.plain : Ob → Bool
  | .lst l => l.all fun d => !d.isRef
  | .dct kvs => kvs.all fun p => !p.2.isRef
  | .dcT kvs => kvs.all fun p => !p.2.isRef
  | .opq _ => false
/-- behind a call whose arguments are no refs: the callee's own things are forgotten, a list that it hands back is read alone from then on, a dict joins the store -/
def backP (μ : Store) (d : D) (μ' : Store) : R D :=
  match d with
  | .ref i => match nthD μ' i with
    | some (.lst l) => .ok (.lst l) μ
    | some (.dct kvs) => .ok (.ref μ.length) (μ ++ [.dct kvs])
    | some (.dcT kvs) => .ok (.ref μ.length) (μ ++ [.dcT kvs])
    | some (.opq ps) => .ok (.ref μ.length) (μ ++ [.opq ps])
    | none => .stuck
  | d => .ok d μ
/-- behind another call -/
def backR (n : Nat) (d : D) (μ' : Store) : R D :=
  match d with
  | .ref i => if Nat.blt i n then .ok (.ref i) (μ'.take n) else .stuck
  | d => .ok d (μ'.take n)
def thenP (μ : Store) (r : R D) : R D :=
  match r with
  | .ok d μ' => backP μ d μ'
  | .exc c fs _ => .exc c fs μ
  | .stuck => .stuck
def thenR (n : Nat) (r : R D) : R D :=
  match r with
  | .ok d μ' => backR n d μ'
  | .exc c fs μ' => .exc c fs (μ'.take n)
  | .stuck => .stuck
def callF (S : Sem) (F : Fn) (ds : List D) (μ : Store) : R D :=
  if Nat.beq ds.length F.np then
    if ds.all (fun d => !d.isRef) then thenP μ (runF S F ds [])
    else thenR μ.length (runF S F ds μ)
  else .stuck
def callAt (P : List Fn) : Nat → Nat → List D → Store → R D
  | 0, _, _, _ => .stuck
  | k + 1, f, ds, μ => match nthD P f with
    | none => .stuck
    | some F => callF (lev (callAt P k) fuel) F ds μ

def R.isTrue : R D → Bool
  | .ok (.bl true) _ => true
  | _ => false
end EV

/-! EV, part 2: how data and store stand in the machine's heap. -/
namespace EV
open PySem PySem.Spec PyProof.Rows L2

/-- the world: G what never changes (tuples, lists that are read alone, the script), φ where the store's things stand -/
structure Wd where
  G : Addr → Option HO
  φ : List Addr
abbrev Gm := Addr → Option HO
def Wd.le (a b : Wd) : Prop := (∀ x u, a.G x = some u → b.G x = some u) ∧ ∃ r, b.φ = a.φ ++ r
theorem Wd.le_refl (a : Wd) : Wd.le a a := ⟨fun _ _ h => h, [], by simp⟩
theorem Wd.le_trans {a b c : Wd} (h : Wd.le a b) (k : Wd.le b c) : Wd.le a c := by
  obtain ⟨h1, r, h2⟩ := h
  obtain ⟨k1, t, k2⟩ := k
  exact ⟨fun x u e => k1 x u (h1 x u e), r ++ t, by rw [k2, h2, List.append_assoc]⟩

mutual
def toPD : D → PyData
  | .non => .none
  | .bl b => .bool b
  | .int i => .int i
  | .str s => .str s
  | .tup l => .tuple (toPDs l)
  | .lst l => .list (toPDs l)
  | _ => .none
def toPDs : List D → List PyData
  | [] => []
  | a :: l => toPD a :: toPDs l
end
def tyName : Ty → String
  | .int => "int" | .bool => "bool" | .str => "str" | .tuple => "tuple" | .list => "list" | .none => "NoneType"

/-- a list of the module (the written part) -/
def KLst (K : PySem.W.Frag) (a : Addr) (xs : List V) : Prop :=
  ∃ (o : Obj) (its : Array Value) (n : Nat), K.lookup a = some o ∧ o.cls = .type "list" ∧ o.dict = none ∧ o.data = .seq its n ∧ its.size ≤ sizeLine ∧ Vals xs its.toList

/-- a tuple of the module (the written part) -/
def KTup (K : PySem.W.Frag) (a : Addr) (xs : List V) : Prop :=
  ∃ (o : Obj) (its : Array Value) (n : Nat), K.lookup a = some o ∧ o.cls = .type "tuple" ∧ o.dict = none ∧ o.data = .seq its n ∧ its.size ≤ sizeLine ∧ Vals xs its.toList
/-- the object of a tuple -/
def tupO (a : Array Value) : Obj := { cls := .type "tuple", data := .seq a }
/-- where a tuple stands: as its very object -/
def TupAt (K : PySem.W.Frag) (G : Gm) (a : Addr) (vs : List V) : Prop := (∃ o, G a = some (.frz o (.tup vs)) ∧ o.cls = .type "tuple" ∧ o.dict = none) ∨ KTup K a vs
mutual
def RepP (K : PySem.W.Frag) (G : Gm) : D → V → Prop
  | .non, v => v = .non
  | .bl b, v => v = .bl b
  | .int i, v => v = .int i
  | .str s, v => v = .str s
  | .tup l, v => ∃ a vs, v = .ref a ∧ TupAt K G a vs ∧ RepPs K G l vs
  | .wk l, v => ∃ a vs, v = .ref a ∧ G a = some (.tup vs) ∧ RepPs K G l vs
  | .lst l, v => ∃ a vs, v = .ref a ∧ G a = some (.lst vs) ∧ RepPs K G l vs
  | .scr l, v => ∃ a, v = .ref a ∧ ((∃ o, G a = some (.frz o (.lst (l.map V.int)))) ∨ KLst K a (l.map V.int))
  | .ref _, _ => False
  | .rep d, v => v = .str (PyData.shown (toPD d))
  | .ty t, v => v = .ty (tyName t)
def RepPs (K : PySem.W.Frag) (G : Gm) : List D → List V → Prop
  | [], vs => vs = []
  | d :: l, vs => ∃ v r, vs = v :: r ∧ RepP K G d v ∧ RepPs K G l r
end
def GLe (G G' : Gm) : Prop := ∀ x u, G x = some u → G' x = some u
theorem TupAt.mono {K : PySem.W.Frag} {G G' : Gm} (h : GLe G G') {a : Addr} {vs : List V} (t : TupAt K G a vs) : TupAt K G' a vs := t.imp (fun ⟨o, e, q⟩ => ⟨o, h _ _ e, q⟩) id
theorem TupAt.seq {K : PySem.W.Frag} {G : Gm} {H : Hp} (h : ∀ a u, G a = some u → H a = some u) {a : Addr} {vs : List V} (t : TupAt K G a vs) : SqT K H a vs := by
  rcases t with ⟨o, e, _⟩ | ⟨o, its, n, e1, e2, _, e3, e4, e5⟩
  · exact .inl (.inr ⟨o, h _ _ e⟩)
  · exact .inr ⟨o, its, n, e1, e2, e3, e4, e5⟩
mutual
theorem RepP.mono {K : PySem.W.Frag} {G G' : Gm} (h : GLe G G') : ∀ (d : D) (v : V), RepP K G d v → RepP K G' d v
  | .non, _, r => by simpa only [RepP] using r
  | .bl _, _, r => by simpa only [RepP] using r
  | .int _, _, r => by simpa only [RepP] using r
  | .str _, _, r => by simpa only [RepP] using r
  | .tup l, v, r => by
    simp only [RepP] at r ⊢
    obtain ⟨a, vs, e, g, q⟩ := r
    exact ⟨a, vs, e, g.mono h, RepPs.mono h l vs q⟩
  | .wk l, v, r => by
    simp only [RepP] at r ⊢
    obtain ⟨a, vs, e, g, q⟩ := r
    exact ⟨a, vs, e, h _ _ g, RepPs.mono h l vs q⟩
  | .lst l, v, r => by
    simp only [RepP] at r ⊢
    obtain ⟨a, vs, e, g, q⟩ := r
    exact ⟨a, vs, e, h _ _ g, RepPs.mono h l vs q⟩
  | .scr l, v, r => by
    simp only [RepP] at r ⊢
    obtain ⟨a, e, q⟩ := r
    exact ⟨a, e, q.imp (fun ⟨o, g⟩ => ⟨o, h _ _ g⟩) id⟩
  | .ref _, _, r => by simp only [RepP] at r
  | .rep _, _, r => by simpa only [RepP] using r
  | .ty _, _, r => by simpa only [RepP] using r
theorem RepPs.mono {K : PySem.W.Frag} {G G' : Gm} (h : GLe G G') : ∀ (l : List D) (vs : List V), RepPs K G l vs → RepPs K G' l vs
  | [], _, r => by simpa only [RepPs] using r
  | d :: l, vs, r => by
    simp only [RepPs] at r ⊢
    obtain ⟨v, t, e, p, q⟩ := r
    exact ⟨v, t, e, RepP.mono h d v p, RepPs.mono h l t q⟩
end
section
variable {K : PySem.W.Frag} {G : Gm}
theorem RepPs.length : ∀ {l : List D} {vs : List V}, RepPs K G l vs → vs.length = l.length
  | [], vs, h => by simp only [RepPs] at h; subst h; rfl
  | d :: l, vs, h => by
    simp only [RepPs] at h
    obtain ⟨v, r, rfl, _, q⟩ := h
    simp [RepPs.length q]
theorem RepPs.nil : RepPs K G [] [] := by simp only [RepPs]
theorem RepPs.cons {d : D} {v : V} {l : List D} {vs : List V} (p : RepP K G d v) (q : RepPs K G l vs) : RepPs K G (d :: l) (v :: vs) := by
  simp only [RepPs]; exact ⟨v, vs, rfl, p, q⟩
theorem RepPs.append : ∀ {l : List D} {vs : List V} {m : List D} {us : List V}, RepPs K G l vs → RepPs K G m us → RepPs K G (l ++ m) (vs ++ us)
  | [], vs, m, us, h, k => by simp only [RepPs] at h; subst h; exact k
  | d :: l, vs, m, us, h, k => by
    simp only [RepPs] at h
    obtain ⟨v, r, rfl, p, q⟩ := h
    exact RepPs.cons p (RepPs.append q k)
theorem RepPs.get : ∀ {l : List D} {vs : List V} {n : Nat} {d : D}, RepPs K G l vs → nthD l n = some d → ∃ v, vs[n]? = some v ∧ RepP K G d v
  | [], _, _, _, _, e => by simp [nthD] at e
  | x :: l, vs, 0, d, h, e => by
    simp only [RepPs] at h
    obtain ⟨v, r, rfl, p, q⟩ := h
    simp [nthD] at e; subst e
    exact ⟨v, rfl, p⟩
  | x :: l, vs, n + 1, d, h, e => by
    simp only [RepPs] at h
    obtain ⟨v, r, rfl, p, q⟩ := h
    simp only [nthD] at e
    obtain ⟨u, e1, e2⟩ := RepPs.get q e
    exact ⟨u, by simpa using e1, e2⟩
theorem RepPs.drop : ∀ {l : List D} {vs : List V} (n : Nat), RepPs K G l vs → RepPs K G (l.drop n) (vs.drop n)
  | l, vs, 0, h => by simpa using h
  | [], vs, n + 1, h => by simp only [RepPs] at h; subst h; simp [RepPs]
  | x :: l, vs, n + 1, h => by
    simp only [RepPs] at h
    obtain ⟨v, r, rfl, p, q⟩ := h
    simpa using RepPs.drop n q
theorem RepPs.take : ∀ {l : List D} {vs : List V} (n : Nat), RepPs K G l vs → RepPs K G (l.take n) (vs.take n)
  | l, vs, 0, h => by simp [RepPs]
  | [], vs, n + 1, h => by simp only [RepPs] at h; subst h; simp [RepPs]
  | x :: l, vs, n + 1, h => by
    simp only [RepPs] at h
    obtain ⟨v, r, rfl, p, q⟩ := h
    simpa using RepPs.cons p (RepPs.take n q)
theorem RepPs.set : ∀ {l : List D} {vs : List V} (n : Nat) {d : D} {v : V}, RepPs K G l vs → RepP K G d v → RepPs K G (setN l n d) (vs.set n v)
  | [], vs, n, d, v, h, p => by simp only [RepPs] at h; subst h; simp [RepPs, setN]
  | x :: l, vs, 0, d, v, h, p => by
    simp only [RepPs] at h
    obtain ⟨w, r, rfl, _, q⟩ := h
    exact RepPs.cons p q
  | x :: l, vs, n + 1, d, v, h, p => by
    simp only [RepPs] at h
    obtain ⟨w, r, rfl, p', q⟩ := h
    exact RepPs.cons p' (RepPs.set n q p)
theorem RepPs.int : ∀ {l : List D} {vs : List V} {is : List Int}, RepPs K G l vs → intsD l = some is → vs = is.map V.int
  | [], vs, is, h, e => by
    simp only [RepPs] at h; simp [intsD] at e; subst e; subst h; rfl
  | d :: l, vs, is, h, e => by
    simp only [RepPs] at h
    obtain ⟨v, r, rfl, p, q⟩ := h
    cases d with
    | int i =>
      simp only [intsD, Option.map_eq_some_iff] at e
      obtain ⟨js, e1, rfl⟩ := e
      simp only [RepP] at p
      subst p
      rw [RepPs.int q e1]; rfl
    | _ => simp [intsD] at e
theorem RepPs.ofInts : ∀ (is : List Int), RepPs K G (is.map D.int) (is.map V.int)
  | [] => .nil
  | i :: is => .cons (by simp only [RepP]) (RepPs.ofInts is)
theorem RepPs.bool : ∀ {l : List D} {vs : List V} {is : List Bool}, RepPs K G l vs → boolsD l = some is → vs = is.map V.bl
  | [], vs, is, h, e => by
    simp only [RepPs] at h; simp [boolsD] at e; subst e; subst h; rfl
  | d :: l, vs, is, h, e => by
    simp only [RepPs] at h
    obtain ⟨v, r, rfl, p, q⟩ := h
    cases d with
    | bl i =>
      simp only [boolsD, Option.map_eq_some_iff] at e
      obtain ⟨js, e1, rfl⟩ := e
      simp only [RepP] at p
      subst p
      rw [RepPs.bool q e1]; rfl
    | _ => simp [boolsD] at e
end

/-- a value of the frame's: data, or a thing of the store -/
def RepV (K : PySem.W.Frag) (w : Wd) (d : D) (v : V) : Prop :=
  match d with
  | .ref i => ∃ a, w.φ[i]? = some a ∧ v = .ref a
  | d => RepP K w.G d v
def keyV : D → Option Key
  | .int i => some (.inl i)
  | .str s => some (.inr s)
  | _ => none
inductive DctX {κ : Type} (kf : D → Option κ) (K : PySem.W.Frag) (G : Gm) : List (D × D) → List (κ × V) → Prop
  | nil : DctX kf K G [] []
  | cons {k d : D} {k' : κ} {v : V} {l : List (D × D)} {m : List (κ × V)} : kf k = some k' → RepP K G d v → DctX kf K G l m → DctX kf K G ((k, d) :: l) ((k', v) :: m)
abbrev DctR (K : PySem.W.Frag) (G : Gm) : List (D × D) → List (Key × V) → Prop := DctX keyV K G
theorem DctX.mono {κ : Type} {kf : D → Option κ} {K : PySem.W.Frag} {G G' : Gm} (h : GLe G G') {l : List (D × D)} {m : List (κ × V)} (r : DctX kf K G l m) : DctX kf K G' l m := by
  induction r with
  | nil => exact .nil
  | cons e p _ ih => exact .cons e (RepP.mono h _ _ p) ih
def keysV : List D → Option (List Key)
  | [] => some []
  | d :: l => match keyV d, keysV l with
    | some k, some r => some (k :: r)
    | _, _ => none
/-- a key that is a tuple of ints and texts -/
def keyT : D → Option (List Key)
  | .tup l => keysV l
  | _ => none
/-- the written part, the program, the world -/
structure KP where
  K : PySem.W.Frag
  P : Program
  w : World
/-- a dict whose keys are tuples, told as its very entries -/
def dTo (P : Program) (w : World) (a : Addr) (xs : List (List Key × Addr × Value)) : HO := .ext fun h =>
  ∃ o es ep, h.get? a = some o ∧ o.ExactDict ∧ o.data = .dict es ep ∧ es.toList = xs.map (entryOfKey (tupleKind (mixKind P w))) ∧ (xs.map (·.1)).Nodup ∧ (a == sysModules) = false ∧ xs.length ≤ sizeLine
inductive DctT (K : PySem.W.Frag) (G : Gm) : List (D × D) → List (List Key × Addr × Value) → Prop
  | nil : DctT K G [] []
  | cons {k d : D} {k' : List Key} {b : Addr} {v : V} {u : Value} {l : List (D × D)} {m : List (List Key × Addr × Value)} : keyT k = some k' → RepP K G k (.ref b) → RepP K G d v → RelV v u → DctT K G l m → DctT K G ((k, d) :: l) ((k', b, u) :: m)
theorem DctT.mono {K : PySem.W.Frag} {G G' : Gm} (h : GLe G G') {l : List (D × D)} {m : List (List Key × Addr × Value)} (r : DctT K G l m) : DctT K G' l m := by
  induction r with
  | nil => exact .nil
  | cons e q p r _ ih => exact .cons e (RepP.mono h _ _ q) (RepP.mono h _ _ p) r ih
def ObR (K : KP) (G : Gm) (a : Addr) (o : Ob) (h : Option HO) : Prop :=
  match o with
  | .lst l => ∃ vs, h = some (.lst vs) ∧ RepPs K.K G l vs
  | .dct kvs => ∃ ks, h = some (.dK ks) ∧ DctR K.K G kvs ks
  | .dcT kvs => ∃ xs, h = some (dTo K.P K.w a xs) ∧ DctT K.K G kvs xs
  | .opq _ => False
theorem ObR.mono {K : KP} {G G' : Gm} {a : Addr} (hl : GLe G G') {o : Ob} {h : Option HO} (r : ObR K G a o h) : ObR K G' a o h := by
  cases o with
  | lst l => obtain ⟨vs, e, q⟩ := r; exact ⟨vs, e, RepPs.mono hl _ _ q⟩
  | dct kvs => obtain ⟨ks, e, q⟩ := r; exact ⟨ks, e, q.mono hl⟩
  | dcT kvs => obtain ⟨ks, e, q⟩ := r; exact ⟨ks, e, q.mono hl⟩
  | opq _ => exact r
theorem ObR.mut {K : KP} {G : Gm} {a : Addr} {o : Ob} {h : Option HO} (r : ObR K G a o h) : Mut h := by
  cases o with
  | lst l => obtain ⟨vs, e, q⟩ := r; rw [e]; trivial
  | dct kvs => obtain ⟨ks, e, q⟩ := r; rw [e]; trivial
  | dcT kvs => obtain ⟨ks, e, q⟩ := r; rw [e]; trivial
  | opq _ => exact False.elim r
theorem ObR.some {K : KP} {G : Gm} {a : Addr} {o : Ob} {h : Option HO} (r : ObR K G a o h) : h ≠ none := by
  cases o with
  | lst l => obtain ⟨vs, e, q⟩ := r; rw [e]; simp
  | dct kvs => obtain ⟨ks, e, q⟩ := r; rw [e]; simp
  | dcT kvs => obtain ⟨ks, e, q⟩ := r; rw [e]; simp
  | opq _ => exact False.elim r

/-- the world, the store and the heap agree; F: what stands beside, as it is -/
structure SR (K : KP) (w : Wd) (F : Gm) (μ : Store) (H : Hp) : Prop where
  g : ∀ a u, w.G a = some u → H a = some u
  f : ∀ a u, F a = some u → H a = some u
  gf : ∀ a u, F a = some u → w.G a = none
  len : w.φ.length = μ.length
  nd : w.φ.Nodup
  ap : ∀ a ∈ w.φ, w.G a = none ∧ F a = none
  ob : ∀ (i : Nat) (o : Ob) (a : Addr), μ[i]? = some o → w.φ[i]? = some a → ObR K w.G a o (H a)

theorem nthD_get {α : Type} : ∀ (l : List α) (n : Nat), nthD l n = l[n]?
  | [], n => by simp [nthD]
  | a :: l, 0 => by simp [nthD]
  | a :: l, n + 1 => by simp [nthD, nthD_get l n]
theorem setN_set {α : Type} : ∀ (l : List α) (n : Nat) (a : α), setN l n a = l.set n a
  | [], n, a => by simp [setN]
  | b :: l, 0, a => by simp [setN]
  | b :: l, n + 1, a => by simp [setN, setN_set l n a]

section
variable {K : PySem.W.Frag} {w w' : Wd}
theorem RepV.mono (l : Wd.le w w') {d : D} {v : V} (r : RepV K w d v) : RepV K w' d v := by
  cases d with
  | ref i =>
    obtain ⟨a, e, q⟩ := r
    obtain ⟨_, t, e2⟩ := l
    exact ⟨a, by rw [e2]; rw [List.getElem?_append_left]; exact e; exact (List.getElem?_eq_some_iff.mp e).1, q⟩
  | _ => exact RepP.mono l.1 _ _ r
theorem RepV.ofP {d : D} {v : V} (r : RepP K w.G d v) : RepV K w d v := by
  cases d with
  | ref i => simp only [RepP] at r
  | _ => exact r
theorem RepV.toP {d : D} {v : V} (r : RepV K w d v) (h : d.isRef = false) : RepP K w.G d v := by
  cases d with
  | ref i => simp [D.isRef] at h
  | _ => exact r
end
section
variable {K : KP} {w w' : Wd} {F : Gm} {μ : Store} {H H' : Hp}
def setG (G : Gm) (a : Addr) (u : HO) : Gm := fun b => if b = a then some u else G b
theorem setG_same {G : Gm} {a : Addr} {u : HO} : setG G a u a = some u := by unfold setG; rw [if_pos rfl]
theorem setG_ne {G : Gm} {a b : Addr} {u : HO} (h : b ≠ a) : setG G a u b = G b := by unfold setG; rw [if_neg h]
theorem SR.ne_of_none (s : SR K w F μ H) {p : Addr} (hp : H p = none) : w.G p = none ∧ F p = none ∧ p ∉ w.φ := by
  refine ⟨?_, ?_, fun hm => ?_⟩
  · cases e : w.G p with
    | none => rfl
    | some u => rw [s.g p u e] at hp; cases hp
  · cases e : F p with
    | none => rfl
    | some u => rw [s.f p u e] at hp; cases hp
  · obtain ⟨i, hi, e⟩ := List.mem_iff_getElem.mp hm
    have hi' : i < μ.length := by rw [← s.len]; exact hi
    have r := s.ob i (μ[i]) p (by simp [hi']) (by simp [hi, e])
    exact r.some hp
/-- a new thing that is read alone -/
theorem SR.newG (s : SR K w F μ H) {p : Addr} {u : HO} (hp : H p = none) : SR K ⟨setG w.G p u, w.φ⟩ F μ (upd H p u) := by
  obtain ⟨h1, h2, h3⟩ := s.ne_of_none hp
  refine ⟨fun a v e => ?_, fun a v e => ?_, fun a v e => ?_, s.len, s.nd, fun a ha => ?_, fun i o a e1 e2 => ?_⟩
  · by_cases h : a = p
    · subst h
      have e' : setG w.G a u a = some v := e
      rw [setG_same] at e'; rw [upd_same]; exact e'
    · have e' : setG w.G p u a = some v := e
      rw [setG_ne h] at e'
      rw [upd_ne h]; exact s.g a v e'
  · have h : a ≠ p := by rintro rfl; rw [h2] at e; cases e
    rw [upd_ne h]; exact s.f a v e
  · have h : a ≠ p := by rintro rfl; rw [h2] at e; cases e
    show setG w.G p u a = none
    rw [setG_ne h]; exact s.gf a v e
  · have h : a ≠ p := by rintro rfl; exact h3 ha
    exact ⟨by show setG w.G p u a = none; rw [setG_ne h]; exact (s.ap a ha).1, (s.ap a ha).2⟩
  · have h : a ≠ p := by rintro rfl; exact h3 (List.mem_of_getElem? e2)
    rw [upd_ne h]
    refine (s.ob i o a e1 e2).mono fun x v e => ?_
    have hx : x ≠ p := by rintro rfl; rw [h1] at e; cases e
    show setG w.G p u x = some v
    rw [setG_ne hx]; exact e
theorem Wd.le_setG {p : Addr} {u : HO} (h : w.G p = none) : Wd.le w ⟨setG w.G p u, w.φ⟩ :=
  ⟨fun x v e => by
    have hx : x ≠ p := by rintro rfl; rw [h] at e; cases e
    show setG w.G p u x = some v
    rw [setG_ne hx]; exact e, [], by simp⟩
/-- a new thing of the store -/
theorem SR.newO (s : SR K w F μ H) {p : Addr} {u : HO} {o : Ob} (hp : H p = none) (r : ObR K w.G p o (some u)) : SR K ⟨w.G, w.φ ++ [p]⟩ F (μ ++ [o]) (upd H p u) := by
  obtain ⟨h1, h2, h3⟩ := s.ne_of_none hp
  refine ⟨fun a v e => ?_, fun a v e => ?_, s.gf, by simp [s.len], ?_, fun a ha => ?_, fun i q a e1 e2 => ?_⟩
  · have h : a ≠ p := by rintro rfl; have e' : w.G a = some v := e; rw [h1] at e'; cases e'
    rw [upd_ne h]; exact s.g a v e
  · have h : a ≠ p := by rintro rfl; rw [h2] at e; cases e
    rw [upd_ne h]; exact s.f a v e
  · rw [List.nodup_append]
    refine ⟨s.nd, by simp, fun a ha b hb => ?_⟩
    simp at hb; subst hb; rintro rfl; exact h3 ha
  · rcases List.mem_append.mp ha with ha | ha
    · exact s.ap a ha
    · simp at ha; subst ha; exact ⟨h1, h2⟩
  · by_cases hi : i < μ.length
    · rw [List.getElem?_append_left hi] at e1
      have e2' : (w.φ ++ [p])[i]? = some a := e2
      rw [List.getElem?_append_left (by rw [s.len]; exact hi)] at e2'
      have h : a ≠ p := by rintro rfl; exact h3 (List.mem_of_getElem? e2')
      rw [upd_ne h]; exact s.ob i q a e1 e2'
    · rw [List.getElem?_append_right (by omega)] at e1
      have e2' : (w.φ ++ [p])[i]? = some a := e2
      rw [List.getElem?_append_right (by rw [s.len]; omega)] at e2'
      have hz : i - μ.length = 0 := by
        cases e : i - μ.length with
        | zero => rfl
        | succ n => rw [e] at e1; simp at e1
      have hz' : i - w.φ.length = 0 := by rw [s.len]; exact hz
      rw [hz] at e1; rw [hz'] at e2'
      simp at e1 e2'; subst e1; subst e2'
      rw [upd_same]; exact r
theorem Wd.le_newO {p : Addr} : Wd.le w ⟨w.G, w.φ ++ [p]⟩ := ⟨fun _ _ e => e, [p], rfl⟩
/-- a thing of the store changed -/
theorem SR.wr (s : SR K w F μ H) {i : Nat} {a : Addr} {u : HO} {o : Ob} (hi : w.φ[i]? = some a) (r : ObR K w.G a o (some u)) : SR K w F (setN μ i o) (upd H a u) := by
  have ha := List.mem_of_getElem? hi
  obtain ⟨g1, f1⟩ := s.ap a ha
  refine ⟨fun b v e => ?_, fun b v e => ?_, s.gf, by rw [setN_set]; simp [s.len], s.nd, s.ap, fun j q b e1 e2 => ?_⟩
  · have h : b ≠ a := by rintro rfl; rw [g1] at e; cases e
    rw [upd_ne h]; exact s.g b v e
  · have h : b ≠ a := by rintro rfl; rw [f1] at e; cases e
    rw [upd_ne h]; exact s.f b v e
  · rw [setN_set] at e1
    by_cases hj : j = i
    · subst hj
      rw [hi] at e2; cases e2
      have hl : j < μ.length := by rw [← s.len]; exact (List.getElem?_eq_some_iff.mp hi).1
      rw [List.getElem?_set_self hl] at e1; cases e1
      rw [upd_same]; exact r
    · rw [List.getElem?_set_ne (Ne.symm hj)] at e1
      have h : b ≠ a := by
        rintro rfl
        obtain ⟨l1, q1⟩ := List.getElem?_eq_some_iff.mp hi
        obtain ⟨l2, q2⟩ := List.getElem?_eq_some_iff.mp e2
        exact hj ((List.getElem_inj s.nd).mp (q2.trans q1.symm))
      rw [upd_ne h]; exact s.ob j q b e1 e2
theorem SR.at (s : SR K w F μ H) {i : Nat} {o : Ob} (h : nthD μ i = some o) : ∃ a, w.φ[i]? = some a ∧ ObR K w.G a o (H a) := by
  rw [nthD_get] at h
  have hl : i < w.φ.length := by rw [s.len]; exact (List.getElem?_eq_some_iff.mp h).1
  exact ⟨w.φ[i], by simp [hl], s.ob i o _ h (by simp [hl])⟩
/-- a new list that is put together: it stands beside -/
theorem SR.newF (s : SR K w F μ H) {p : Addr} {u : HO} (hp : H p = none) : SR K w (setG F p u) μ (upd H p u) := by
  obtain ⟨h1, h2, h3⟩ := s.ne_of_none hp
  refine ⟨fun a v e => ?_, fun a v e => ?_, fun a v e => ?_, s.len, s.nd, fun a ha => ?_, fun i o a e1 e2 => ?_⟩
  · have h : a ≠ p := by rintro rfl; rw [h1] at e; cases e
    rw [upd_ne h]; exact s.g a v e
  · by_cases h : a = p
    · subst h; rw [setG_same] at e; rw [upd_same]; exact e
    · rw [setG_ne h] at e; rw [upd_ne h]; exact s.f a v e
  · by_cases h : a = p
    · subst h; exact h1
    · rw [setG_ne h] at e; exact s.gf a v e
  · have h : a ≠ p := by rintro rfl; exact h3 ha
    exact ⟨(s.ap a ha).1, by rw [setG_ne h]; exact (s.ap a ha).2⟩
  · have h : a ≠ p := by rintro rfl; exact h3 (List.mem_of_getElem? e2)
    rw [upd_ne h]; exact s.ob i o a e1 e2
theorem SR.wrF {p : Addr} {u u' : HO} (s : SR K w (setG F p u) μ H) : SR K w (setG F p u') μ (upd H p u') := by
  have gp : w.G p = none := s.gf p u setG_same
  have np : p ∉ w.φ := fun h => by have := (s.ap p h).2; rw [setG_same] at this; cases this
  refine ⟨fun a v e => ?_, fun a v e => ?_, fun a v e => ?_, s.len, s.nd, fun a ha => ?_, fun i o a e1 e2 => ?_⟩
  · have h : a ≠ p := by rintro rfl; rw [gp] at e; cases e
    rw [upd_ne h]; exact s.g a v e
  · by_cases h : a = p
    · subst h; rw [setG_same] at e; rw [upd_same]; exact e
    · rw [setG_ne h] at e; rw [upd_ne h]; exact s.f a v (by rw [setG_ne h]; exact e)
  · by_cases h : a = p
    · subst h; exact gp
    · rw [setG_ne h] at e; exact s.gf a v (by rw [setG_ne h]; exact e)
  · have h : a ≠ p := by rintro rfl; exact np ha
    have q := s.ap a ha
    rw [setG_ne h] at q
    exact ⟨q.1, by rw [setG_ne h]; exact q.2⟩
  · have h : a ≠ p := by rintro rfl; exact np (List.mem_of_getElem? e2)
    rw [upd_ne h]; exact s.ob i o a e1 e2
/-- what stood beside is read alone from now on -/
theorem SR.fG {p : Addr} {u : HO} (s : SR K w (setG F p u) μ H) (hF : F p = none) : SR K ⟨setG w.G p u, w.φ⟩ F μ H ∧ w.G p = none := by
  have gp : w.G p = none := s.gf p u setG_same
  have np : p ∉ w.φ := fun h => by have := (s.ap p h).2; rw [setG_same] at this; cases this
  have hp : H p = some u := s.f p u setG_same
  refine ⟨⟨fun a v e => ?_, fun a v e => ?_, fun a v e => ?_, s.len, s.nd, fun a ha => ?_, fun i o a e1 e2 => ?_⟩, gp⟩
  · by_cases h : a = p
    · subst h; have e' : setG w.G a u a = some v := e; rw [setG_same] at e'; rw [hp]; exact e'
    · have e' : setG w.G p u a = some v := e
      rw [setG_ne h] at e'; exact s.g a v e'
  · have h : a ≠ p := by rintro rfl; rw [hF] at e; cases e
    exact s.f a v (by rw [setG_ne h]; exact e)
  · have h : a ≠ p := by rintro rfl; rw [hF] at e; cases e
    show setG w.G p u a = none
    rw [setG_ne h]; exact s.gf a v (by rw [setG_ne h]; exact e)
  · have h : a ≠ p := by rintro rfl; exact np ha
    have q := s.ap a ha
    rw [setG_ne h] at q
    exact ⟨by show setG w.G p u a = none; rw [setG_ne h]; exact q.1, q.2⟩
  · refine (s.ob i o a e1 e2).mono fun x v e => ?_
    have hx : x ≠ p := by rintro rfl; rw [gp] at e; cases e
    show setG w.G p u x = some v
    rw [setG_ne hx]; exact e
end

/-- the frame's values -/
structure EnvR (K : PySem.W.Frag) (w : Wd) (ρ : Env) (σ : L2.St) : Prop where
  len : ρ.length = σ.length
  at_ : ∀ (i : Nat) (d : D), ρ[i]? = some (some d) → ∃ v, σ[i]? = some (some v) ∧ RepV K w d v
section
variable {K : PySem.W.Frag} {w w' : Wd} {ρ : Env} {σ : L2.St}
theorem EnvR.mono (l : Wd.le w w') (e : EnvR K w ρ σ) : EnvR K w' ρ σ := ⟨e.len, fun i d h => let ⟨v, h1, h2⟩ := e.at_ i d h; ⟨v, h1, h2.mono l⟩⟩
theorem EnvR.get (e : EnvR K w ρ σ) {i : Nat} {d : D} (h : getE ρ i = some d) : ∃ v, σ[i]? = some (some v) ∧ RepV K w d v := by
  refine e.at_ i d ?_
  unfold getE at h
  rw [nthD_get] at h
  split at h
  · rename_i o q; rw [q, h]
  · cases h
theorem EnvR.set (e : EnvR K w ρ σ) {i : Nat} {d : D} {v : V} (r : RepV K w d v) : EnvR K w (setE ρ i d) (σ.set i (some v)) := by
  unfold setE
  rw [setN_set]
  refine ⟨by simp [e.len], fun j x h => ?_⟩
  by_cases hj : i = j
  · subst hj
    have hl : i < ρ.length := by
      have := (List.getElem?_eq_some_iff.mp h).1
      simpa using this
    rw [List.getElem?_set_self hl] at h
    cases h
    exact ⟨v, List.getElem?_set_self (by rw [← e.len]; exact hl), r⟩
  · rw [List.getElem?_set_ne hj] at h
    rw [List.getElem?_set_ne hj]
    exact e.at_ j x h
theorem EnvR.wipe (e : EnvR K w ρ σ) : ∀ (vs : List Nat), EnvR K w (wipeE ρ vs) (L2.wipe σ vs)
  | [] => e
  | v :: vs => by
    have ih := EnvR.wipe e vs
    unfold wipeE L2.wipe
    rw [setN_set]
    refine ⟨by simp [ih.len], fun j x h => ?_⟩
    by_cases hj : v = j
    · subst hj
      have hl : v < (wipeE ρ vs).length := by
        have := (List.getElem?_eq_some_iff.mp h).1
        simpa using this
      rw [List.getElem?_set_self hl] at h
      cases h
    · rw [List.getElem?_set_ne hj] at h
      rw [List.getElem?_set_ne hj]
      exact ih.at_ j x h
end
end EV

/-! EV, part 3: that a text of the small language and a text of Python agree. -/
namespace EV
open PySem L2

/-- what of the program's names is known: the defs' names, the built-in names that stay, constants -/
structure Nm where
  defs : List Str
  free : List Str
  cons : List (Str × D)
  /-- how the defs are called: the def, how many written values, the keywords, the order -/
  shapes : List (Nat × Nat × List Str × List (Nat ⊕ D))

def isN (N : List Str) (i : Nat) (x : Str) : Bool := match nthD N i with
  | some y => eqStr y x
  | none => false
def visB (sc : Scope) (x : Str) : Bool := match sc.names.lookup x with
  | some .local | some .cell | some .free => true
  | _ => false
def locB (sc : Scope) (x : Str) : Bool := match sc.names.lookup x with
  | some .local | some .cell => true
  | _ => false
def localB (sc : Scope) (x : Str) : Bool := match sc.names.lookup x with
  | some .local => true
  | _ => false
def glB (sc : Scope) (x : Str) : Bool := match sc.names.lookup x with
  | some .globalImplicit => true
  | _ => false
def plainName (x : Str) : Bool := !(eqStr x "__debug__") && !(eqStr x "__classdict__") && !(eqStr x "__name__")
def isVar (N : List Str) (sc : Scope) (i : Nat) (x : Str) : Bool := isN N i x && visB sc x && plainName x
def isLoc (N : List Str) (sc : Scope) (i : Nat) (x : Str) : Bool := isN N i x && locB sc x && plainName x
def memStr (x : Str) : List Str → Bool
  | [] => false
  | y :: l => eqStr y x || memStr x l
/-- a built-in's name -/
def isBlt (n : Nm) (sc : Scope) (b x : Str) : Bool := eqStr x b && glB sc x && memStr b n.free
def isCon (n : Nm) (sc : Scope) (x y : Str) (d : D) : Bool := eqStr x y && glB sc x && plainName x && n.cons.any fun p => eqStr p.1 x && D.same p.2 d
def isDef (n : Nm) (sc : Scope) (f : Nat) (x : Str) : Bool := isN n.defs f x && glB sc x && plainName x

def eqStrs : List Str → List Str → Bool
  | [], [] => true
  | a :: l, b :: m => eqStr a b && eqStrs l m
  | _, _ => false
def sameSel : List (Nat ⊕ D) → List (Nat ⊕ D) → Bool
  | [], [] => true
  | .inl i :: l, .inl j :: m => Nat.beq i j && sameSel l m
  | .inr a :: l, .inr b :: m => D.same a b && sameSel l m
  | _, _ => false
def isShape (n : Nm) (g k : Nat) (ks : List Str) (sel : List (Nat ⊕ D)) : Bool := n.shapes.any fun p => Nat.beq p.1 g && Nat.beq p.2.1 k && eqStrs p.2.2.1 ks && sameSel p.2.2.2 sel
def mBop : Bop → Operator → Bool
  | .add, .Add | .sub, .Sub | .mul, .Mult | .fdiv, .FloorDiv | .mod, .Mod | .pow, .Pow | .shl, .LShift | .shr, .RShift | .band, .BitAnd => true
  | _, _ => false
def mCop : Cop → CmpOp → Bool
  | .eq, .Eq | .ne, .NotEq | .lt, .Lt | .le, .LtE | .gt, .Gt | .ge, .GtE | .is, .Is | .isn, .IsNot | .inn, .In | .nin, .NotIn => true
  | _, _ => false
def biName : Bi → Str
  | .len => "len" | .all => "all" | .any => "any" | .sum => "sum" | .int => "int" | .tuple => "tuple" | .list => "list" | .repr => "repr"
def tyStr : Ty → Str
  | .int => "int" | .bool => "bool" | .str => "str" | .tuple => "tuple" | .list => "list" | .none => "NoneType"
def tyOk : Ty → Bool
  | .none => false
  | _ => true
def mtName : Mt → Str
  | .index => "index" | .count => "count" | .append => "append" | .extend => "extend" | .popAt => "pop"
def mCon : D → Const → Bool
  | .non, .none => true
  | .bl a, .bool b => a == b
  | .int a, .int b => decide (a = b)
  | .str a, .str b => eqStr a b
  | _, _ => false
def starred : Expr → Bool
  | .Starred .. => true
  | _ => false
def isSet : Expr → Bool
  | .Set .. => true
  | _ => false
def isLc : Expr → Bool
  | .ListComp .. | .SetComp .. | .DictComp .. => true
  | _ => false
def isSlice : Expr → Bool
  | .Slice .. => true
  | _ => false

abbrev ME := Ex → Expr → Bool
def mList (f : ME) : List Ex → List Expr → Bool
  | [], [] => true
  | a :: l, e :: m => !starred e && f a e && mList f l m
  | _, _ => false
def mListS (f : ME) : List Ex → List Expr → Bool
  | [], [] => true
  | a :: l, e :: m => (match a, e with
    | .star a, .Starred e _ => f a e
    | a, e => !starred e && !isStar a && f a e) && mListS f l m
  | _, _ => false
def mOpt (f : ME) : Option Ex → Option Expr → Bool
  | none, none => true
  | some a, some e => f a e
  | _, _ => false
def mKws (f : ME) : List (Str × Ex) → List Keyword → Bool
  | [], [] => true
  | (k, a) :: l, ⟨some x, e, _⟩ :: m => eqStr k x && f a e && mKws f l m
  | _, _ => false
def mKeys : List D → List (Option Expr) → Bool
  | [], [] => true
  | d :: l, some (.Constant c _ _) :: m => mCon d c && mKeys l m
  | _, _ => false
/-- ok: which names may be stored -/
def mNames (ok : Str → Bool) (N : List Str) (sc : Scope) : List Nat → List Expr → Bool
  | [], [] => true
  | i :: is, .Name x _ :: m => isLoc N sc i x && ok x && mNames ok N sc is m
  | _, _ => false
def okAll : Str → Bool := fun _ => true
/-- a comprehension's own names -/
def okBlk (scope sc : Scope) : Str → Bool := fun x => localB (relS scope sc) x || scope.names.lookup x == some .cell
/-- a target; a tuple's mark is of no weight -/
def mTg (ok : Str → Bool) (N : List Str) (sc : Scope) : Tg → Expr → Bool
  | .nm i, .Name x _ => isLoc N sc i x && ok x
  | .tp is, .Tuple es _ _ => mNames ok N sc is es
  | _, _ => false
def isTup : Expr → Bool
  | .Tuple .. => true
  | _ => false
/-- what a for walks over -/
def mIt (f : ME) (n : Nm) (sc : Scope) (tg : Expr) : Itx → Expr → Bool
  | .rng a, .Call (.Name x _) [e] [] _ => isBlt n sc "range" x && !starred e && f a e
  | .rng2 a b, .Call (.Name x _) [e, e'] [] _ => isBlt n sc "range" x && !starred e && !starred e' && f a e && f b e'
  | .enum a, .Call (.Name x _) [e] [] _ => isTup tg && isBlt n sc "enumerate" x && !starred e && f a e
  | .zip a b, .Call (.Name x _) [e, e'] [] _ => isTup tg && isBlt n sc "zip" x && !starred e && !starred e' && f a e && f b e'
  | .seq a, e => !isSet e && f a e
  | _, _ => false
/-- the target's names are the block's own -/
def tgIn (own : List Nat) : Tg → Bool
  | .nm i => own.contains i
  | .tp is => is.all fun i => own.contains i
/-- no method of super() -/
def notSup : Expr → Bool
  | .Call _ [] [] _ => false
  | _ => true
def mIf (f : ME) : Option Ex → List Expr → Bool
  | none, [] => true
  | some a, [e] => f a e
  | _, _ => false
def ownOf (N : List Str) : List Nat → List (Str × Nat)
  | [] => []
  | i :: is => ((nthD N i).getD "", i) :: ownOf N is
def relB (scope sc : Scope) : Scope := relS scope sc

/-- forms whose list is nobody else's -/
def newEx : Ex → Bool
  | .lst _ => true
  | .lc .. => true
  | .bin .add _ _ => true
  | .bin .mul _ _ => true
  | .bi .list _ => true
  | .trng false none _ => true
  | _ => false
def mOp1 (f : ME) (n : Nm) (sc : Scope) : O1 → Ex → Expr → Bool
  | .listD, a, .Call (.Name x _) [e] [] _ => isBlt n sc "list" x && !starred e && f a e
  | .srt, a, .Call (.Name x _) [e] [] _ => isBlt n sc "sorted" x && !starred e && f a e
  | .dictP, a, .Call (.Name x _) [e] [] _ => isBlt n sc "dict" x && !starred e && f a e
  | .pop, a, .Call (.Attribute x y ap) [] [] cp => eqStr y "pop" && ap.endLine == cp.line && notSup x && f a x
  | .lset, a, .Call (.Name x _) [.Call (.Name y _) [e] [] _] [] _ => isBlt n sc "len" x && isBlt n sc "set" y && !starred e && f a e
  | _, _, _ => false
def mOp2 (f : ME) : O2 → Ex → Ex → Expr → Bool
  | .din false, a, b, .Compare x [.In] [y] _ => !isSet y && f a x && f b y
  | .din true, a, b, .Compare x [.NotIn] [y] _ => !isSet y && f a x && f b y
  | .split, a, b, .Call (.Attribute x y ap) [e] [] cp => eqStr y "split" && ap.endLine == cp.line && !starred e && notSup x && f a x && f b e
  | _, _, _, _ => false
def mOp3 (f : ME) : O3 → Ex → Ex → Ex → Expr → Bool
  | .dget, a, b, c, .Call (.Attribute x y ap) [e, e'] [] cp => eqStr y "get" && ap.endLine == cp.line && !starred e && !starred e' && notSup x && f a x && f b e && f c e'
  | _, _, _, _, _ => false
def mE (n : Nm) (N : List Str) : Nat → Scope → Ex → Expr → Bool
  | 0, _, _, _ => false
  | j + 1, sc, a, e =>
    let f := mE n N j sc
    match a, e with
    | .var i, .Name x _ => isVar N sc i x
    | .con d, .Constant c _ _ => mCon d c
    | .glo y d, .Name x _ => isCon n sc x y d
    | .bin op a b, .BinOp x o y _ => mBop op o && f a x && f b y
    | .neg a, .UnaryOp .USub x _ => f a x
    | .not a, .UnaryOp .Not x _ => f a x
    | .and a b, .BoolOp .And [x, y] _ => f a x && f b y
    | .and a b, .BoolOp .And (x :: y :: z :: r) p => f a x && f b (.BoolOp .And (y :: z :: r) p)
    | .or a b, .BoolOp .Or [x, y] _ => f a x && f b y
    | .or a b, .BoolOp .Or (x :: y :: z :: r) p => f a x && f b (.BoolOp .Or (y :: z :: r) p)
    | .cmp op a b, .Compare x [o] [y] _ => mCop op o && !isSet y && f a x && f b y
    | .cmp2 op op' a b c, .Compare x [o, o'] [y, z] _ => mCop op o && mCop op' o' && !isSet y && !isSet z && f a x && f b y && f c z
    | .ife c a b, .IfExp x y z _ => f c x && f a y && f b z
    | .call g as kws sel, .Call (.Name x _) es ks _ => isDef n sc g x && mList f as es && mKws f kws ks && isShape n g as.length (kws.map (·.1)) sel
    | .bi b a, .Call (.Name x _) [e] [] _ => isBlt n sc (biName b) x && !starred e && f a e
    | .isi a t, .Call (.Name x _) [e, .Name y _] [] _ => isBlt n sc "isinstance" x && isBlt n sc (tyStr t) y && tyOk t && !starred e && f a e
    | .meth m o a, .Call (.Attribute x y ap) [e] [] cp => eqStr y (mtName m) && ap.endLine == cp.line && !starred e && notSup x && f o x && f a e
    | .idx a i, .Subscript x y _ => !isSlice y && f a x && f i y
    | .dget a k, .Subscript x y _ => !isSlice y && f a x && f k y
    | .slice a lo hi, .Subscript x (.Slice l h none _) _ => f a x && mOpt f lo l && mOpt f hi h
    | .tup as, .Tuple es _ _ => mListS f as es
    | .lst as, .List es _ => mListS f as es
    | .dict ks as, .Dict keys vals _ => ks.all keyOk && mKeys ks keys && mList f as vals && Nat.ble ks.length 15 && Nat.beq ks.length as.length
    | .lc own t it c elt, .ListComp x [⟨tg, iter, ifs, k⟩] scope _ =>
      decide (k = 0) && blkC N sc scope (ownOf N own) && tgIn own t && mIt f n sc tg it iter && mTg (okBlk scope sc) N (relS scope sc) t tg &&
        mIf (mE n N j (relS scope sc)) c ifs && mE n N j (relS scope sc) elt x
    | .lc2 own own' t it t' it' c elt, .ListComp x [⟨tg, iter, ifs0, k⟩, ⟨tg', iter', ifs, k'⟩] scope _ =>
      decide (k = 0) && decide (k' = 0) && blkC N sc scope (ownOf N own) && own'.all (fun i => own.contains i) && tgIn own t && tgIn own' t' && ifs0.isEmpty && mIt f n sc tg it iter && mTg (okBlk scope sc) N (relS scope sc) t tg &&
        mIt (mE n N j (relS scope sc)) n (relS scope sc) tg' it' iter' && mTg (okBlk scope sc) N (relS scope sc) t' tg' &&
        mIf (mE n N j (relS scope sc)) c ifs && mE n N j (relS scope sc) elt x
    | .trng tup none b, .Call (.Name x _) [.Call (.Name y _) [e] [] _] [] _ => isBlt n sc (if tup then "tuple" else "list") x && isBlt n sc "range" y && !starred e && f b e
    | .trng tup (some a) b, .Call (.Name x _) [.Call (.Name y _) [e, e'] [] _] [] _ => isBlt n sc (if tup then "tuple" else "list") x && isBlt n sc "range" y && !starred e && !starred e' && f a e && f b e'
    | .sset a, .Call (.Name x _) [.Call (.Name y _) [e] [] _] [] _ => isBlt n sc "sorted" x && isBlt n sc "set" y && !starred e && f a e
    | .new a, e => newEx a && f a e
    | .op1 o a, e => mOp1 f n sc o a e
    | .op2 o a b, e => mOp2 f o a b e
    | .op3 o a b c, e => mOp3 f o a b c e
    | .dnewT, .Dict [] [] _ => true
    | .dc false own t it a b, .DictComp x y [⟨tg, iter, [], k⟩] scope _ =>
      decide (k = 0) && blkC N sc scope (ownOf N own) && tgIn own t && mIt f n sc tg it iter && mTg (okBlk scope sc) N (relS scope sc) t tg &&
        mE n N j (relS scope sc) a x && mE n N j (relS scope sc) b y
    | _, _ => false

/-- a tuple of names stored from a tuple's display: plain local names alone, two or three, or some name a cell -/
def allLocal (sc : Scope) : List Expr → Bool
  | [] => true
  | .Name x _ :: l => localB sc x && allLocal sc l
  | _ :: _ => false
def augOk : Bop → Bool
  | .add | .sub => true
  | _ => false
/-- a comprehension stored in a plain local name of the same line -/
def lcOk (sc : Scope) (x : Str) (p : Pos) : Expr → Bool
  | .ListComp _ _ scope pos => localB sc x && p.line == pos.line && !(scope.names.any fun (n, k) => n == x && (k == .local || k == .cell))
  | _ => false
/-- a, b = x, y: stored from the right (plain local names of one line) -/
def swap (sc : Scope) (es vs : List Expr) : Bool :=
  !(vs.all (foldedForSure 8)) && !(vs.all (constantsAlone 8)) &&
  (match es with
  | [.Name x p, .Name y q] => localB sc x && localB sc y && p.line == q.line && !(eqStr x y) && decide (vs.length = 2)
  | [.Name x p, .Name y q, .Name z r] => localB sc x && localB sc y && localB sc z && p.line == q.line && p.line == r.line && !(eqStr x y) && !(eqStr x z) && !(eqStr y z) && decide (vs.length = 3)
  | _ => false)
/-- one of the names is no plain local -/
def someCell (sc : Scope) (es : List Expr) : Bool := es.any fun e => match e with
  | .Name x _ => !(localB sc x)
  | _ => true
/-- .. from the left -/
def noSwap (es vs : List Expr) : Bool := decide (4 ≤ es.length) || vs.all (foldedForSure 8)
def distinct : List Nat → Bool
  | [] => true
  | i :: is => !(is.contains i) && distinct is
def mSs (n : Nm) (N : List Str) (sc : Scope) : Nat → List St → List Stmt → Bool
  | 0, _, _ => false
  | _ + 1, [], [] => true
  | j + 1, st :: r, s :: q =>
    let f := mE n N 1000 sc
    let g := mSs n N sc j
    (match st, s with
    | .asg i e, .Assign [.Name x p] y _ => isLoc N sc i x && (!isLc y || !(localB sc x) || lcOk sc x p y) && f e y
    | .asgN i e, .Assign [.Name x p] y _ => newEx e && isLoc N sc i x && (!isLc y || !(localB sc x) || lcOk sc x p y) && f e y
    | .setIx o k e, .Assign [.Subscript x y _] z _ => !isSlice y && !isLc z && f o x && f k y && f e z
    | .setK o k e, .Assign [.Subscript x y _] z _ => !isSlice y && !isLc z && f o x && f k y && f e z
    | .unp is e, .Assign [.Tuple es _ _] y _ => mNames okAll N sc is es && !isTup y && !isLc y && f e y
    | .par is as, .Assign [.Tuple es _ _] (.Tuple vs _ _) _ => mNames okAll N sc is es && mList f as vs && distinct is && Nat.ble is.length 100 && (swap sc es vs || noSwap es vs || someCell sc es)
    | .aug i op e, .AugAssign (.Name x _) o y _ => isLoc N sc i x && mBop op o && augOk op && f e y
    | .expr e, .Expr x _ => !isLc x && f e x
    | .ret e, .Return (some x) _ => f e x
    | .ife c a b, .If x y z _ => f c x && g a y && g b z
    | .for_ t it body, .For tg iter y [] _ => mTg okAll N sc t tg && mIt f n sc tg it iter && g body y
    | .forG t it body, .For tg iter y [] _ => mTg okAll N sc t tg && mIt f n sc tg it iter && g body y
    | .while_ c body, .While x y [] _ => f c x && g body y
    | .never, _ => true
    | _, _ => false) && g r q
  | _, _, _ => false
end EV

/-! EV: tuples held as their very objects: what makes them, their index. -/
namespace EV
open PySem PySem.Spec PyProof.Rows L2
abbrev tz (arr : Array Value) (vs : List V) : HO := .frz (tupO arr) (.tup vs)
/-- a new tuple is wished for -/
def NewT (vs : List V) (H : Hp) (Q : VK) : Prop := ∀ p arr, H p = none → Q (.ref p) (upd H p (tz arr vs))
section
variable {X : Cx} {es : List Expr} {t : TA} {pos : Pos} {e : Expr} {te : L2.St → Hp → (Int → Int → Hp → Prop) → Prop}
theorem tz_ok {P : Program} {w : World} {H : Hp} {h : Heap} {arr : Array Value} {vs : List V} (hz : vs.length ≤ sizeLine) (r : Vals vs arr.toList) : ObjOk P w H (h.push { cls := .type "tuple", data := .seq arr }) h.objs.size (tz arr vs) :=
  ⟨Heap.get?_push_size _ rfl, hz, arr.toList, r, ⟨_, Heap.get?_push_size _ rfl, rfl, 0, by simp⟩⟩
def tTupF (t : TA) : TE := fun σ H Q => t σ H fun xs H1 => xs.length ≤ sizeLine ∧ NewT xs H1 Q
theorem pe_tupF {x1} (h : PA X es t) : PE X (.Tuple es x1 pos) (tTupF t) := by
  refine ⟨fun pins s σ H Q I hq => ?_⟩
  refine wpAny_Tuple_spliced (thn (h.run pos pins s σ H _ I hq) fun us s1 ⟨xs, H1, I1, r, z, q⟩ => ⟨by rw [← r.length]; exact z, ?_⟩)
  have hf : H1 s1.heap.objs.size = none := I1.hok.fresh (Nat.le_refl _)
  refine ⟨.ref s1.heap.objs.size, upd H1 s1.heap.objs.size (tz us.toArray xs), I1.laid (t' := s1.toks) (fun b u e => Heap.get?_push_of_some _ e) (Nat.le_refl _) ?_, rfl, q _ _ hf⟩
  exact tz_ok z (by simpa using r)
theorem call_tuple_F : CallR X (.type "tuple") (fun xs H Q => ∃ p ys, xs = [.ref p] ∧ ((SqL X.K H p ys ∧ NewT ys H Q) ∨ (SqT X.K H p ys ∧ Q (.ref p) H))) := by
  intro pins s σ H xs us Q I r h
  obtain ⟨p, ys, rfl, h⟩ := h
  obtain ⟨u, rfl, rx⟩ := vals1 r
  cases rx
  rcases h with ⟨hq, q⟩ | ⟨hq, q⟩
  · obtain ⟨its, r', pl, hz⟩ := I.list hq
    have hlen := r'.length
    refine call_tuple_list pl.isList (fun h' kp => ?_) (by simp only [List.size_toArray] <;> omega)
    have I1 : Inv X pins σ H { s with heap := h' } := I.kept (t' := s.toks) kp
    have I2 : Inv X pins σ (upd H h'.objs.size (tz its.toArray ys)) { s with heap := h'.push { cls := .type "tuple", data := .seq its.toArray } } :=
      I1.laid (t' := s.toks) (fun b o e => Heap.get?_push_of_some _ e) (Nat.le_refl _) (tz_ok hz (by simpa using r'))
    exact ⟨.ref h'.objs.size, _, I2, rfl, q _ _ (I1.hok.fresh (Nat.le_refl _))⟩
  · obtain ⟨its, r', pl, hz⟩ := I.tuple hq
    exact call_tuple_same pl ⟨.ref p, H, I, rfl, q⟩
def tTupRgF (te : L2.St → Hp → (Int → Int → Hp → Prop) → Prop) : TE := fun σ H Q => te σ H fun a b H1 => RgOk a b ∧ NewT (rgV a b) H1 Q
theorem pe_tupRgF {p pos : Pos} (hc : X.calm = true) (hg : Gl X "tuple") (hm : X.mg "tuple" = none) (he : PRg X e te) (na : starEach [e] X.env = (false, eval e X.env) :: starEach [] X.env := by rfl) : PE X (.Call (.Name "tuple" p) [e] [] pos) (tTupRgF te) := by
  refine ⟨fun pins s σ H Q I h => ?_⟩
  refine Call_ (ld_blt I hg hm boot_tuple (PyProof.Rows.callWith_type1 (PyProof.Rows.args_cons (thn (he pins s σ H _ I h) fun x s1 ⟨r, a, b, t, u, v, H1, ex, hr, I1, ok, q⟩ => PyProof.Rows.args_nil ?_) na) na))
  subst ex
  obtain ⟨b1, b2, b3, b4, b5⟩ := ok
  refine call_tuple_range (n := (b - a).toNat) (I1.ok.hd hc) hr (small_one b1 b2 b3 b4) (rangeSize_nat a b) b5 fun h' tk acc hk hi => ?_
  have I2 : Inv X pins σ H1 { s1 with heap := h', toks := tk } := I1.kept hk
  refine ⟨.ref h'.objs.size, upd H1 h'.objs.size (tz acc (rgV a b)), I2.laid (t' := tk) (fun c o e => Heap.get?_push_of_some _ e) (Nat.le_refl _) (tz_ok ?_ (vals_rg hi)), rfl, q _ _ (I2.hok.fresh (Nat.le_refl _))⟩
  rw [rgV_length, sizeLine_eq]; omega
def rCatF (K : PySem.W.Frag) : R2 := fun x y H Q => ∃ a b xs ys, x = .ref a ∧ y = .ref b ∧ SqT K H a xs ∧ SqT K H b ys ∧ xs.length + ys.length ≤ sizeLine ∧
  (xs = [] → Q (.ref b) H) ∧ (ys = [] → Q (.ref a) H) ∧ NewT (xs ++ ys) H Q
theorem op_catF : OpR X (binaryOp .Add) (rCatF X.K) := by
  intro pins s σ H x y v u Q I rx ry h
  obtain ⟨a, b, xs, ys, rfl, rfl, ha, hb, hz, q0, q1, q2⟩ := h
  cases rx
  cases ry
  obtain ⟨its, r1, p1, _⟩ := I.tuple ha
  obtain ⟨its2, r2, p2, _⟩ := I.tuple hb
  by_cases hx : xs = []
  · subst hx
    cases r1
    exact cat_tup0 p1 p2 ⟨.ref b, H, I, rfl, q0 rfl⟩
  · refine HT.cat_tup p1 p2 (fun z => hx (r1.nil_iff.mp z)) (fun z => ⟨.ref a, H, I, rfl, q1 (r2.nil_iff.mp z)⟩) (fun z => ?_) (by rw [← r1.length, ← r2.length]; exact hz)
    refine ⟨.ref s.heap.objs.size, _, I.laid (t' := s.toks) (o := tz (its ++ its2).toArray (xs ++ ys)) (fun b ob q => Heap.get?_push_of_some _ q) (Nat.le_refl _) ?_, rfl, q2 _ _ (I.hok.fresh (Nat.le_refl _))⟩
    exact tz_ok (by rw [List.length_append]; exact hz) (by simpa using r1.append r2)
def rSlF (K : PySem.W.Frag) : V → Option Int → Option Int → Hp → VK → Prop := fun x lo hi H Q => ∃ a xs, x = .ref a ∧ SqT K H a xs ∧
  (HT.sIx xs.length 0 lo = 0 ∧ HT.sIx xs.length xs.length hi = xs.length → Q (.ref a) H) ∧ NewT (cutV xs lo hi) H Q
theorem sl_tupF : SlR X (rSlF X.K) := by
  intro pins s σ H x v vl vu lo hi sl Q I rx hs pl pu h
  obtain ⟨a, xs, rfl, hx, q1, q2⟩ := h
  cases rx
  obtain ⟨its, r, ht, hz⟩ := I.tuple hx
  have hlen : its.toArray.size = xs.length := by rw [List.size_toArray]; exact r.length.symm
  refine ⟨"tuple", _, PyProof.Rows.slot_tuple_getitem.lookup, ht.typeIs, ?_⟩
  by_cases hw : HT.sIx xs.length 0 lo = 0 ∧ HT.sIx xs.length xs.length hi = xs.length
  · exact getItem_tuple_whole ht hs pl pu (by rw [hlen]; exact hw) ⟨.ref a, H, I, rfl, q1 hw⟩
  · refine HT.getItem_tuple_cut ht hs pl pu (by rw [hlen]; exact hw) ?_ (by rw [hlen]; exact hz)
    rw [hlen]
    refine ⟨.ref s.heap.objs.size, _, I.laid (t' := s.toks) (o := tz ((its.toArray.toList.drop (HT.sIx xs.length 0 lo)).take (HT.sIx xs.length xs.length hi - HT.sIx xs.length 0 lo)).toArray (cutV xs lo hi)) (fun b ob q => Heap.get?_push_of_some _ q) (Nat.le_refl _) ?_, rfl, q2 _ _ (I.hok.fresh (Nat.le_refl _))⟩
    exact tz_ok (Nat.le_trans (cutV_length xs lo hi) hz) ((r.drop (HT.sIx xs.length 0 lo)).take (HT.sIx xs.length xs.length hi - HT.sIx xs.length 0 lo))
def rRepF (K : PySem.W.Frag) : R2 := fun x y H Q => ∃ l k xs, x = .ref l ∧ y = .int k ∧ SqT K H l xs ∧ xs ≠ [] ∧ 2 ≤ k ∧ k ≤ 1000 ∧ xs.length ≤ 1000 ∧ NewT (List.replicate k.toNat xs).flatten H Q
theorem op_repF : OpR X (binaryOp .Mult) (rRepF X.K) := by
  intro pins s σ H x y v u Q I rx ry h
  obtain ⟨l, k, xs, rfl, rfl, hT, hne, h1, h2, hz, q⟩ := h
  cases rx
  obtain ⟨t, rfl⟩ := ry
  obtain ⟨its, r, ⟨⟨cls, dd, data, sl⟩, ho, hc, n, hd⟩, hs⟩ := I.tuple hT
  simp only at hc hd
  subst hc hd
  have hle : its.length = xs.length := r.length.symm
  have hn : its ≠ [] := fun e => hne (by
    rw [e] at hle
    exact List.eq_nil_of_length_eq_zero hle.symm)
  have hi : its.toArray.isEmpty = false := by
    cases its with
    | nil => exact absurd rfl hn
    | cons a b => rfl
  have hsz0 : its.toArray.size = xs.length := by rw [List.size_toArray, hle]
  have hm : ((its.toArray.size : Nat) : Int) * k ≤ 1000000 := by
    rw [hsz0]
    have a1 : ((xs.length : Nat) : Int) * k ≤ 1000 * k := Int.mul_le_mul_of_nonneg_right (by omega) (by omega)
    omega
  have flen : (List.replicate k.toNat its).flatten.length ≤ sizeLine := by
    rw [PyProof.Rows.lm_len_rep_flat, hle, sizeLine_eq]
    have a1 : k.toNat * xs.length ≤ 1000 * 1000 := Nat.mul_le_mul (by omega) hz
    omega
  have c0 : (decide (k < -(2 ^ 63)) || decide (k ≥ 2 ^ 63)) = false := by
    rw [decide_eq_false (by omega), decide_eq_false (by omega)] <;> rfl
  have c1 : (its.toArray.isEmpty || k == 1) = false := by
    rw [hi, Bool.false_or]
    exact beq_eq_false_iff_ne.mpr (by omega)
  have c2 : (decide (k ≤ 0) || its.toArray.isEmpty) = false := by
    rw [hi, Bool.or_false]
    exact decide_eq_false (by omega)
  have c4 : Builtin.Tuple.tupleTooMany (((its.toArray.size : Nat) : Int) * k) = false := by
    unfold Builtin.Tuple.tupleTooMany
    rw [sizeLine_eq]
    exact decide_eq_false (by omega)
  refine wpAny_binaryOp_repeat_ref (T := "tuple") (U := "int") (by decide) ⟨_, ho, rfl⟩ (fun s' => typeIs_int s' k t) noFill_tuple_mul F.fills_int_mul F.slot_int_rmul repeat_tuple F.slot_int_index.lookup
    (call_meets F.slot_int_rmul (typeIs_int s k t) F.entry_int_rmul (F.args_int_rmul_2 _ _) (int_rmul_tuple k t l its.toArray n dd sl)
      ⟨ho, rfl, ⟨_, ho, rfl⟩, call_meets F.slot_tuple_mul ⟨_, ho, rfl⟩ F.entry_tuple_mul (F.args_tuple_mul_2 _ _) (tuple_mulW l its.toArray n dd sl k t c0 c1 c2 (by omega) c4 (by rw [size_rep, List.size_toArray]; exact flen)) ⟨ho, ?_⟩⟩)
  rw [size_rep]
  refine ⟨.ref s.heap.objs.size, _, I.laid (t' := s.toks) (o := tz (List.replicate k.toNat its).flatten.toArray (List.replicate k.toNat xs).flatten) (fun b ob q => Heap.get?_push_of_some _ q) (Nat.le_refl _) ?_, rfl, q _ _ (I.hok.fresh (Nat.le_refl _))⟩
  exact tz_ok (by rw [PyProof.Rows.lm_len_rep_flat, sizeLine_eq]; have a1 : k.toNat * xs.length ≤ 1000 * 1000 := Nat.mul_le_mul (by omega) hz; omega) (by simpa using r.rep k.toNat)
/-- t.index(y): flat things -/
theorem mt_tidx : MtR X "tuple.index" (fun x xs H Q => ∃ p ys y j z, x = .ref p ∧ xs = [y] ∧ SqT X.K H p ys ∧ flatV y = true ∧ ys.all flatV = true ∧ ys[j]? = some z ∧ eqV z y = true ∧ (∀ m z', m < j → ys[m]? = some z' → eqV z' y = false) ∧ Q (.int (j : Nat)) H) := by
  intro pins s σ H x xs v us Q I rx rxs h
  obtain ⟨a, ys, y, j, z, rfl, rfl, hs, fy, fys, hz, hzj, hno, q⟩ := h
  cases rx
  cases rxs with
  | cons ry rt =>
    rename_i uy ut
    cases rt
    obtain ⟨its, rv, ⟨⟨cls, dd, data, sl⟩, ho, hc, n, hd⟩, hlen⟩ := I.tuple hs
    simp only at hc hd
    subst hc hd
    obtain ⟨u, hu, ru⟩ := rv.get hz
    obtain ⟨hjl, hje⟩ := List.getElem?_eq_some_iff.mp hu
    have hvl := rv.length
    have hj : j < its.toArray.size := by simpa using hjl
    refine call_meets PySem.F.slot_tuple_index ⟨_, ho, rfl⟩ PySem.F.entry_tuple_index (PySem.F.args_tuple_index_2 _ _)
      (TI.tuple_indexAt a its.toArray n dd sl uy (eqU y) j hj ?_ ?_) ⟨ho, fun u' hu' => mem_eqAt ry fy rv fys u' (by simpa using hu'), ⟨.int (j : Nat), H, I.tok _, ⟨_, rfl⟩, q⟩⟩
    · have e1 : its.toArray[j] = u := by simpa using hje
      rw [e1, eqU_of ru (flat_at fys hz)]
      exact hzj
    · intro m hm hmj
      have hml : m < its.length := by simpa using hm
      have hmy : m < ys.length := by omega
      have hy' : ys[m]? = some ys[m] := List.getElem?_eq_getElem hmy
      obtain ⟨u2, hu2, ru2⟩ := rv.get hy'
      obtain ⟨_, hme⟩ := List.getElem?_eq_some_iff.mp hu2
      have e1 : its.toArray[m] = u2 := by simpa using hme
      rw [e1, eqU_of ru2 (flat_at fys hy')]
      exact hno m _ hmj hy'
/-- the receiver of a tuple's method: its very object is known -/
def tupM (K : PySem.W.Frag) (x : V) (H : Hp) : Prop := ∃ p, x = .ref p ∧ ((∃ o vs, H p = some (.frz o (.tup vs)) ∧ o.cls = .type "tuple" ∧ o.dict = none) ∨ ∃ o, K.lookup p = some o ∧ o.cls = .type "tuple" ∧ o.dict = none)
theorem tupM_is {pins : List (Addr × Obj)} {σ : L2.St} {H : Hp} {s : Shared} {x : V} {v : Value} (I : Inv X pins σ H s) (r : RelV x v) (ty : tupM X.K x H) :
    s.TypeIs v "tuple" ∧ ∀ a, v = .ref a → ∃ ob, s.heap.get? a = some ob ∧ ob.dict = none := by
  obtain ⟨p, rfl, h⟩ := ty
  cases r
  have z : ∃ o, s.heap.get? p = some o ∧ o.cls = .type "tuple" ∧ o.dict = none := by
    rcases h with ⟨o, vs, e, c, d⟩ | ⟨o, e, c, d⟩
    · exact ⟨o, (I.hok p _ e).1, c, d⟩
    · exact ⟨o, I.kIn p o e, c, d⟩
  obtain ⟨o, e, c, d⟩ := z
  exact ⟨⟨o, e, c⟩, fun a ea => by cases ea; exact ⟨o, e, d⟩⟩
/-- the receiver of a method: a list or a tuple, by the machine's word -/
def recM (K : PySem.W.Frag) (T : String) (x : V) (H : Hp) : Prop := tyV K T x H ∨ (T = "tuple" ∧ tupM K x H)
theorem recM_is {pins : List (Addr × Obj)} {σ : L2.St} {H : Hp} {s : Shared} {T : String} {x : V} {v : Value} (I : Inv X pins σ H s) (r : RelV x v) (ty : recM X.K T x H) :
    s.TypeIs v T ∧ ∀ a, v = .ref a → ∃ ob, s.heap.get? a = some ob ∧ ob.dict = none := by
  rcases ty with h | ⟨rfl, h⟩
  · exact tyV_is I r h
  · exact tupM_is I r h
/-- o.m(e): the receiver's type is known when it stands -/
theorem pe_bmX {name : Str} {apos cpos : Pos} {o e : Expr} {es : List Expr} {to : TE} {t : TA} {r : String → V → List V → Hp → VK → Prop} {TT : String → V → Hp → Prop}
    (hT : ∀ T x H, TT T x H → ∃ id, PlainAttrs T ∧ Slot T name id ∧ typeOf (.builtin id) = pure (.type "method_descriptor") ∧ recM X.K T x H ∧ MtR X id (r T))
    (ho : PE X o to) (ha : PA X (e :: es) t)
    (hbase : attributeBase o name X.env (eval o X.env) = eval o X.env)
    (hfew : ((backTo cpos (starEach (e :: es) X.env)).all (fun x => !x.1) && (backToKw cpos (keywordEach [] X.env)).all (fun x => x.1.isSome)
      && decide ((e :: es).length + ([] : List Keyword).length + (if ([] : List Keyword).isEmpty then 0 else 1) < 30)) = true)
    (hline : (apos.endLine == cpos.line) = true) (hs : starEach (e :: es) X.env = (false, eval e X.env) :: starEach es X.env) (hplain : (backTo cpos (starEach es X.env)).any (·.1) = false) :
    PE X (.Call (.Attribute o name apos) (e :: es) [] cpos) (fun σ H Q => to σ H fun x H1 => ∃ T, TT T x H1 ∧ t σ H1 fun xs H2 => r T x xs H2 Q) := by
  refine ⟨fun pins s σ H Q I h => ?_⟩
  refine wpAny_Call_method_late hbase hfew hline rfl (thn (ho.run pins s σ H _ I h) fun v s1 ⟨x, H1, I1, r1, T, ty, q1⟩ => ?_)
  obtain ⟨id, pa, slot, hty, rm, hm⟩ := hT T x H1 ty
  obtain ⟨h1, h2⟩ := recM_is I1 r1 rm
  refine ⟨T, id, pa, slot, hty, h1, h2, ?_⟩
  have hA := ha.run cpos pins s1 σ H1 _ I1 q1
  rw [hs] at hA ⊢
  refine Calls.callWith_builtin (by show (false || (backTo cpos (starEach es X.env)).any (·.1)) = false; rw [hplain] <;> rfl) (Calls.evalArgs_plain ?_)
  exact thn hA fun us s2 ⟨vs, H2, I2, r2, q2⟩ => hm pins s2 σ H2 x vs v us Q I2 r1 r2 q2
end
end EV

/-! EV, part 4: the judgement, and operators by values. -/
namespace EV
open PySem PySem.Spec PyProof.Rows L2

structure DefI where
  addr : Addr
  fd : FuncData
  ps : List Str
/-- what is fixed: the program, the written part, the names -/
structure Cfg where
  P : Program
  w : World
  K : PySem.W.Frag
  mg : Str → Option Value
  base : Heap
  n : Nm
  df : List DefI
  xc : Nat → Addr
  xf : Nat → List Str

abbrev Cfg.kp (C : Cfg) : KP := ⟨C.K, C.P, C.w⟩

/-- an error's own dict holds its fields -/
def RepX (C : Cfg) (w : Wd) (F : Gm) (c : Nat) (fs : List D) (cls : Value) (dx : Option Addr) (H : Hp) : Prop :=
  cls = .ref (C.xc c) ∧ ∃ d vs, dx = some d ∧ H d = some (.xd ((C.xf c).zip vs)) ∧ RepPs C.K w.G fs vs ∧ w.G d = none ∧ F d = none ∧ d ∉ w.φ

/-- what is wanted behind an answer -/
def Post {α β : Type} (C : Cfg) (X : Cx) (w : Wd) (F : Gm) (Rel : Wd → α → β → Prop) (r : R α) (Q : β → Hp → Prop) : Prop :=
  match r with
  | .ok a μ => ∀ (w' : Wd) (b : β) (H' : Hp), Wd.le w w' → SR C.kp w' F μ H' → Rel w' a b → Q b H'
  | .exc c fs μ => ∃ W : WX, Takes X W ∧ ∀ (w' : Wd) (H' : Hp) (cls : Value) (dx : Option Addr) (σ' : L2.St), Wd.le w w' → SR C.kp w' F μ H' → RepX C w' F c fs cls dx H' → W cls dx σ' H'
  | .stuck => False
def RelB (_ : Wd) (a : Bool) (b : Bool) : Prop := b = a

/-- the reading of an expression, of a test, by EV -/
def tE (C : Cfg) (X : Cx) (f : Env → Store → R D) : TE := fun σ H Q => ∃ w F ρ μ, SR C.kp w F μ H ∧ EnvR C.K w ρ σ ∧ Post C X w F (RepV C.K) (f ρ μ) Q
def tT (C : Cfg) (X : Cx) (f : Env → Store → R Bool) : TT := fun σ H Q => ∃ w F ρ μ, SR C.kp w F μ H ∧ EnvR C.K w ρ σ ∧ Post C X w F RelB (f ρ μ) Q

theorem PE.imp {X : Cx} {e : Expr} {t t' : TE} (h : PE X e t) (i : ∀ σ H Q, t' σ H Q → t σ H Q) : PE X e t' := ⟨fun pins s σ H Q I q => h.run pins s σ H Q I (i σ H Q q)⟩
theorem PT.imp {X : Cx} {e : Expr} {t t' : TT} (h : PT X e t) (i : ∀ σ H Q, t' σ H Q → t σ H Q) : PT X e t' := ⟨fun pins s σ H Q I q => h.run pins s σ H Q I (i σ H Q q)⟩

/-- the standing of a body in which EV speaks: k calls may be nested -/
structure CxI (C : Cfg) (k : Nat) (X : Cx) : Prop where
  prog : X.prog = C.P
  w : X.w = C.w
  K : X.K = C.K
  mg : X.mg = C.mg
  base : X.base = C.base
  calm : X.calm = true
  nd : X.N.Nodup
  room : Room k X.A
  gd : X.A.guards = some []

theorem Post.bind {α α' β β' : Type} {C : Cfg} {X : Cx} {w : Wd} {F : Gm} {Rel : Wd → α → β → Prop} {Rel' : Wd → α' → β' → Prop} {r : R α} {f : α → Store → R α'} {Q : β' → Hp → Prop}
    (h : Post C X w F Rel' (r.bind f) Q) : Post C X w F Rel r fun b H1 => ∃ w1 a μ1, Wd.le w w1 ∧ SR C.kp w1 F μ1 H1 ∧ Rel w1 a b ∧ Post C X w1 F Rel' (f a μ1) Q := by
  cases r with
  | ok a μ =>
    intro w1 b H1 l s rl
    refine ⟨w1, a, μ, l, s, rl, ?_⟩
    have h' : Post C X w F Rel' (f a μ) Q := h
    revert h'
    generalize f a μ = g
    intro h'
    cases g with
    | ok a' μ' => exact fun w2 b2 H2 l2 s2 r2 => h' w2 b2 H2 (Wd.le_trans l l2) s2 r2
    | exc c fs μ' =>
      obtain ⟨W, t, q⟩ := h'
      exact ⟨W, t, fun w2 H2 cls dx σ' l2 s2 r2 => q w2 H2 cls dx σ' (Wd.le_trans l l2) s2 r2⟩
    | stuck => exact h'
  | exc c fs μ => exact h
  | stuck => exact h
theorem Post.mono {α β : Type} {C : Cfg} {X : Cx} {w : Wd} {F : Gm} {Rel : Wd → α → β → Prop} {r : R α} {Q Q' : β → Hp → Prop} (h : Post C X w F Rel r Q) (i : ∀ b H, Q b H → Q' b H) : Post C X w F Rel r Q' := by
  cases r with
  | ok a μ => exact fun w1 b H1 l s rl => i _ _ (h w1 b H1 l s rl)
  | exc c fs μ => exact h
  | stuck => exact h
theorem Post.ok {α β : Type} {C : Cfg} {X : Cx} {w : Wd} {F : Gm} {Rel : Wd → α → β → Prop} {a : α} {μ : Store} {Q : β → Hp → Prop} (h : Post C X w F Rel (.ok a μ) Q) {b : β} {H : Hp} (s : SR C.kp w F μ H) (r : Rel w a b) : Q b H := h w b H (Wd.le_refl w) s r
theorem Post.lift {α β : Type} {C : Cfg} {X : Cx} {w : Wd} {F : Gm} {Rel : Wd → α → β → Prop} {o : Option α} {μ : Store} {Q : β → Hp → Prop} (h : Post C X w F Rel (liftO o μ) Q) : ∃ a, o = some a ∧ Post C X w F Rel (.ok a μ) Q := by
  cases o with
  | none => exact False.elim h
  | some a => exact ⟨a, rfl, h⟩

/-- two values from the left, then an operation: r tells what is left to be shown -/
def rO (C : Cfg) (X : Cx) (f : Store → D → D → R D) : R2 := fun x y H Q => ∃ w F μ dx dy, SR C.kp w F μ H ∧ RepV C.K w dx x ∧ RepV C.K w dy y ∧ Post C X w F (RepV C.K) (f μ dx dy) Q
theorem bin_imp {C : Cfg} {X : Cx} {fa fb : Env → Store → R D} {f : Store → D → D → R D} :
    ∀ σ H Q, tE C X (fun ρ μ => (fa ρ μ).bind fun x μ => (fb ρ μ).bind fun y μ => f μ x y) σ H Q → tOp (rO C X f) (tE C X fa) (tE C X fb) σ H Q := by
  rintro σ H Q ⟨w, F, ρ, μ, s, e, h⟩
  refine ⟨w, F, ρ, μ, s, e, (Post.bind h).mono ?_⟩
  rintro x H1 ⟨w1, dx, μ1, l1, s1, r1, h1⟩
  refine ⟨w1, F, ρ, μ1, s1, e.mono l1, (Post.bind h1).mono ?_⟩
  rintro y H2 ⟨w2, dy, μ2, l2, s2, r2, h2⟩
  exact ⟨w2, F, μ2, dx, dy, s2, r1.mono l2, r2, h2⟩

section
variable {C : Cfg} {X : Cx} {w : Wd} {F : Gm} {μ : Store} {H : Hp}
/-- a list that may be read: where it stands -/
theorem view_lst {d : D} {v : V} {l : List D} (s : SR C.kp w F μ H) (r : RepV C.K w d v) (e : view μ d = .lst l) : ∃ a vs, v = .ref a ∧ H a = some (.lst vs) ∧ RepPs C.K w.G l vs := by
  cases d with
  | ref i =>
    obtain ⟨a, h1, rfl⟩ := r
    unfold view at e
    simp only at e
    split at e
    · rename_i l' q
      cases e
      obtain ⟨b, h2, h3⟩ := s.at q
      rw [h1] at h2; cases h2
      obtain ⟨vs, h4, h5⟩ := h3
      exact ⟨a, vs, rfl, h4, h5⟩
    · cases e
  | lst l' =>
    simp only [view] at e
    cases e
    simp only [RepV, RepP] at r
    obtain ⟨a, vs, e1, e2, e3⟩ := r
    exact ⟨a, vs, e1, s.g _ _ e2, e3⟩
  | _ => simp [view] at e
theorem view_tup {d : D} {v : V} {l : List D} (s : SR C.kp w F μ H) (r : RepV C.K w d v) (e : view μ d = .tup l) : ∃ a vs, v = .ref a ∧ TupAt C.K w.G a vs ∧ RepPs C.K w.G l vs := by
  cases d with
  | ref i =>
    unfold view at e
    simp only at e
    split at e <;> cases e
  | tup l' =>
    simp only [view] at e
    cases e
    simp only [RepV, RepP] at r
    exact r
  | _ => simp [view] at e
/-- what is seen of other data -/
theorem view_int {d : D} {v : V} {i : Int} (r : RepV C.K w d v) (e : view μ d = .int i) : v = .int i := by
  cases d with
  | ref j =>
    unfold view at e
    simp only at e
    split at e <;> cases e
  | int j => simp only [view] at e; cases e; simpa only [RepV, RepP] using r
  | _ => simp [view] at e
theorem view_eq {d : D} (h : d.isRef = false) : view μ d = d := by
  cases d <;> first | rfl | (simp [D.isRef] at h)
theorem view_ref {d : D} {i : Nat} (e : view μ d = .ref i) : d = .ref i := by
  cases d with
  | ref j =>
    unfold view at e
    simp only at e
    split at e
    · cases e
    · exact e
  | _ => simp [view] at e
/-- data that are seen: where they are no list of the store -/
theorem view_P {d x : D} {v : V} (s : SR C.kp w F μ H) (r : RepV C.K w d v) (e : view μ d = x) (hx : x.isRef = false) : RepP C.K w.G x v ∨ ∃ l a vs, x = .lst l ∧ v = .ref a ∧ H a = some (.lst vs) ∧ RepPs C.K w.G l vs := by
  cases d with
  | ref i =>
    cases x with
    | lst l =>
      obtain ⟨a, vs, e1, e2, e3⟩ := view_lst s r e
      exact .inr ⟨l, a, vs, rfl, e1, e2, e3⟩
    | ref j => simp [D.isRef] at hx
    | _ =>
      unfold view at e
      simp only at e
      split at e <;> cases e
  | _ => simp only [view] at e; subst e; exact .inl r
end

/-! ### new data -/
section
variable {C : Cfg} {X : Cx} {w : Wd} {F : Gm} {μ : Store} {H : Hp} {Q : VK}
theorem new_tup {l : List D} {vs : List V} (s : SR C.kp w F μ H) (r : RepPs C.K w.G l vs) (h : Post C X w F (RepV C.K) (.ok (.tup l) μ) Q) : NewT vs H Q := by
  intro p arr hp
  have gp := (s.ne_of_none hp).1
  refine h _ _ _ (Wd.le_setG gp) (s.newG hp) ?_
  have l1 : GLe w.G (setG w.G p (tz arr vs)) := (Wd.le_setG (w := w) gp).1
  simp only [RepV, RepP]
  exact ⟨p, vs, rfl, .inl ⟨_, setG_same, rfl, rfl⟩, RepPs.mono l1 _ _ r⟩
theorem new_lst {l : List D} {vs : List V} (s : SR C.kp w F μ H) (r : RepPs C.K w.G l vs) (h : Post C X w F (RepV C.K) (.ok (.lst l) μ) Q) : ∀ p, H p = none → Q (.ref p) (upd H p (.lst vs)) := by
  intro p hp
  have gp := (s.ne_of_none hp).1
  refine h _ _ _ (Wd.le_setG gp) (s.newG hp) ?_
  have l1 : GLe w.G (setG w.G p (.lst vs)) := (Wd.le_setG (w := w) gp).1
  simp only [RepV, RepP]
  exact ⟨p, vs, rfl, setG_same, RepPs.mono l1 _ _ r⟩
end

theorem cap_eq : cap = sizeLine := by rw [sizeLine_eq]; rfl
theorem short_le {α : Type} {l : List α} (h : short l = true) : l.length ≤ sizeLine := by
  have := Nat.le_of_ble_eq_true h
  rw [← cap_eq]; exact this
theorem inB_iff {i : Int} (h : inB i = true) : -(2 ^ 64) < i ∧ i < 2 ^ 64 := by
  unfold inB at h
  simp only [Bool.and_eq_true, decide_eq_true_eq] at h
  exact ⟨by have := h.1; omega, by have := h.2; omega⟩

theorem reps_rel {K : PySem.W.Frag} {G : Gm} {l : List D} {vs : List V} (r : RepPs K G l vs) (k : Int) : RepPs K G (reps k l) (List.replicate k.toNat vs).flatten := by
  unfold reps
  generalize k.toNat = n
  induction n with
  | zero => simp [RepPs]
  | succ n ih => simpa [List.replicate_succ] using RepPs.append r ih

/-! ### operators -/
section
variable {C : Cfg} {X : Cx} {k : Nat}
theorem int_of_bopI {op : Bop} {x y : D} {d : D} (h : bop op x y = some d) (ha : op ≠ .add) (hm : op ≠ .mul) : ∃ a b i, x = .int a ∧ y = .int b ∧ bopI op a b = some i ∧ d = .int i := by
  cases op <;> first | exact absurd rfl ha | exact absurd rfl hm | skip
  all_goals
    cases x <;> cases y <;> simp only [bop, reduceCtorEq] at h
    obtain ⟨i, e1, e2⟩ := Option.map_eq_some_iff.mp h
    exact ⟨_, _, i, rfl, rfl, e1, e2.symm⟩
theorem op_bin (I : CxI C k X) (op : Bop) (o : Operator) (hm : mBop op o = true) : OpR X (binaryOp o) (rO C X fun μ x y => liftO (bop op (view μ x) (view μ y)) μ) := by
  rintro pins s σ H x y v u Q J rx ry ⟨w, F, μ, dx, dy, S, r1, r2, h⟩
  obtain ⟨d, e, h⟩ := Post.lift h
  have sc : ∀ {i : Int}, d = .int i → Q (.int i) H := fun {i} e' => by subst e'; exact h.ok S (by simp only [RepV, RepP])
  cases op
  case add =>
    cases o <;> simp [mBop] at hm
    simp only [bop] at e
    generalize hx : view μ dx = x' at e
    generalize hy : view μ dy = y' at e
    cases x' <;> cases y' <;> simp only [bopAdd] at e <;> try (cases e)
    · rename_i a b
      exact op_add pins s σ H x y v u Q J rx ry ⟨a, b, view_int r1 hx, view_int r2 hy, sc rfl⟩
    · rename_i l m
      obtain ⟨a, vs, rfl, ga, ra⟩ := view_tup S r1 hx
      obtain ⟨b, us, rfl, gb, rb⟩ := view_tup S r2 hy
      split at e
      · rename_i hz
        cases e
        have hz := short_le hz
        rw [List.length_append] at hz
        have l1 := ra.length
        have l2 := rb.length
        refine op_catF pins s σ H _ _ v u Q J rx ry ⟨a, b, vs, us, rfl, rfl, I.K ▸ ga.seq S.g, I.K ▸ gb.seq S.g, by omega, fun e1 => ?_, fun e2 => ?_, new_tup S (RepPs.append ra rb) h⟩
        · subst e1
          have : l = [] := List.eq_nil_of_length_eq_zero (by simpa using l1.symm)
          subst this
          exact h.ok S (by simp only [RepV, RepP]; exact ⟨b, us, rfl, gb, rb⟩)
        · subst e2
          have : m = [] := List.eq_nil_of_length_eq_zero (by simpa using l2.symm)
          subst this
          exact h.ok S (by simp only [RepV, RepP, List.append_nil]; exact ⟨a, vs, rfl, ga, ra⟩)
      · cases e
    · rename_i l m
      obtain ⟨a, vs, rfl, ga, ra⟩ := view_lst S r1 hx
      obtain ⟨b, us, rfl, gb, rb⟩ := view_lst S r2 hy
      split at e
      · rename_i hz
        cases e
        have hz := short_le hz
        rw [List.length_append] at hz
        have l1 := ra.length
        have l2 := rb.length
        exact op_cat pins s σ H _ _ v u Q J rx ry ⟨a, b, vs, us, rfl, rfl, ga, gb, by omega, new_lst S (RepPs.append ra rb) h⟩
      · cases e
  case mul =>
    cases o <;> simp [mBop] at hm
    simp only [bop] at e
    generalize hx : view μ dx = x' at e
    generalize hy : view μ dy = y' at e
    cases x' <;> cases y' <;> simp only [bopMul] at e <;> try (cases e)
    · rename_i a b
      split at e
      · rename_i hz
        cases e
        refine op_mul pins s σ H x y v u Q J rx ry ⟨a, b, view_int r1 hx, view_int r2 hy, ?_, sc rfl⟩
        rcases Bool.or_eq_true_iff.mp hz with z | z
        · exact .inl (inB_iff z)
        · exact .inr (inB_iff z)
      · cases e
    · rename_i l b
      obtain ⟨a, vs, rfl, ga, ra⟩ := view_tup S r1 hx
      split at e
      · rename_i hz
        cases e
        simp only [Bool.and_eq_true, decide_eq_true_eq] at hz
        obtain ⟨⟨⟨z1, z2⟩, z3⟩, z4⟩ := hz
        have z3 := Nat.le_of_ble_eq_true z3
        have l1 := ra.length
        refine op_repF pins s σ H _ _ v u Q J rx ry ⟨a, b, vs, rfl, view_int r2 hy, I.K ▸ ga.seq S.g, ?_, z1, z2, by omega, new_tup S (reps_rel ra b) h⟩
        rintro rfl
        have : l = [] := List.eq_nil_of_length_eq_zero (by simpa using l1.symm)
        subst this
        simp at z4
      · cases e
    · rename_i l b
      obtain ⟨a, vs, rfl, ga, ra⟩ := view_lst S r1 hx
      split at e
      · rename_i hz
        cases e
        simp only [Bool.and_eq_true, decide_eq_true_eq] at hz
        obtain ⟨⟨z1, z2⟩, z3⟩ := hz
        have z3 := Nat.le_of_ble_eq_true z3
        rw [cap_eq] at z3
        have l1 := ra.length
        exact op_rep pins s σ H _ _ v u Q J rx ry ⟨a, b, vs, rfl, view_int r2 hy, ga, by omega, by omega, by rw [l1]; exact z3, new_lst S (reps_rel ra b) h⟩
      · cases e
  all_goals
    obtain ⟨a, b, i, hx, hy, hi, hd⟩ := int_of_bopI e (by intro z; cases z) (by intro z; cases z)
    have q := sc hd
    have e1 := view_int r1 hx
    have e2 := view_int r2 hy
    cases o <;> simp [mBop] at hm
    simp only [bopI] at hi
  · cases hi
    exact op_sub pins s σ H x y v u Q J rx ry ⟨a, b, e1, e2, q⟩
  · split at hi
    · rename_i z
      cases hi
      simp only [Bool.and_eq_true, decide_eq_true_eq] at z
      exact op_fdiv pins s σ H x y v u Q J rx ry ⟨a, b, e1, e2, z, q⟩
    · cases hi
  · split at hi
    · rename_i z
      cases hi
      exact op_mod pins s σ H x y v u Q J rx ry ⟨a, b, e1, e2, of_decide_eq_true z, q⟩
    · cases hi
  · split at hi
    · rename_i z
      cases hi
      simp only [inP, Bool.and_eq_true, decide_eq_true_eq] at z
      have zb := inB_iff z.1
      exact op_pow pins s σ H x y v u Q J rx ry ⟨a, b, e1, e2, ⟨z.2.1, z.2.2, by omega⟩, q⟩
    · cases hi
  · split at hi
    · rename_i z
      cases hi
      simp only [inP, Bool.and_eq_true, decide_eq_true_eq] at z
      have zb := inB_iff z.1
      exact op_shl pins s σ H x y v u Q J rx ry ⟨a, b, e1, e2, ⟨z.2.1, z.2.2, by omega⟩, q⟩
    · cases hi
  · split at hi
    · rename_i z
      cases hi
      exact op_shr pins s σ H x y v u Q J rx ry ⟨a, b, e1, e2, of_decide_eq_true z, q⟩
    · cases hi
  · cases hi
    exact op_and pins s σ H x y v u Q J rx ry ⟨a, b, e1, e2, q⟩
end
end EV

/-! EV, part 5: equality, repr, comparisons. -/
namespace EV
open PySem PySem.Spec PyProof.Rows L2

theorem eqStr_iff {a b : Str} : eqStr a b = true ↔ a = b := by
  unfold eqStr
  constructor
  · intro h
    have h' : a.cps.toList = b.cps.toList := by simpa using h
    obtain ⟨x⟩ := a
    obtain ⟨y⟩ := b
    exact congrArg Str.mk (Array.ext' h')
  · rintro rfl; simp
theorem eqStr_eq {a b : Str} : eqStr a b = (a == b) := by
  by_cases h : a = b
  · subst h
    rw [eqStr_iff.mpr rfl]; simp
  · have h1 : eqStr a b = false := by
      cases e : eqStr a b with
      | false => rfl
      | true => exact absurd (eqStr_iff.mp e) h
    rw [h1]
    simp [h]
theorem strB_ok {s : Str} (h : strB s = true) : PyData.strOk s = true := by
  unfold strB at h
  unfold PyData.strOk
  rw [List.all_eq_true] at h
  rw [← Array.all_toList, List.all_eq_true]
  intro c hc
  have := h c hc
  have h2 : c < 1114112 := Nat.le_of_ble_eq_true this
  simpa using h2

mutual
theorem flat_lay : ∀ (n : Nat) (d : D), D.flat n d = true → (toPD d).canLay0 = true ∧ (toPD d).depth ≤ n
  | n, .non, h => by simp [toPD, PyData.canLay0, PyData.depth]
  | n, .bl _, h => by simp [toPD, PyData.canLay0, PyData.depth]
  | n, .int _, h => by simp [toPD, PyData.canLay0, PyData.depth]
  | n, .str s, h => by
    simp only [D.flat] at h
    simp only [toPD, PyData.canLay0, PyData.depth]
    exact ⟨strB_ok h, Nat.zero_le _⟩
  | n, .tup l, h => by
    simp only [D.flat, Bool.and_eq_true] at h
    obtain ⟨h1, h2⟩ := h
    have h1 : 0 < n := Nat.le_of_ble_eq_true h1
    obtain ⟨a, b⟩ := flats_lay (n - 1) l h2
    simp only [toPD, PyData.canLay0, PyData.depth]
    exact ⟨a, by omega⟩
  | n, .lst l, h => by
    simp only [D.flat, Bool.and_eq_true] at h
    obtain ⟨h1, h2⟩ := h
    have h1 : 0 < n := Nat.le_of_ble_eq_true h1
    obtain ⟨a, b⟩ := flats_lay (n - 1) l h2
    simp only [toPD, PyData.canLay0, PyData.depth]
    exact ⟨a, by omega⟩
  | n, .scr _, h => by simp [D.flat] at h
  | n, .ref _, h => by simp [D.flat] at h
  | n, .rep _, h => by simp [D.flat] at h
  | n, .ty _, h => by simp [D.flat] at h
theorem flats_lay : ∀ (n : Nat) (l : List D), D.flats n l = true → PyData.canLayAll0 (toPDs l) = true ∧ PyData.depthAll (toPDs l) ≤ n
  | n, [], h => by simp [toPDs, PyData.canLayAll0, PyData.depthAll]
  | n, a :: l, h => by
    simp only [D.flats, Bool.and_eq_true] at h
    obtain ⟨a1, a2⟩ := flat_lay n a h.1
    obtain ⟨b1, b2⟩ := flats_lay n l h.2
    simp only [toPDs, PyData.canLayAll0, PyData.depthAll]
    exact ⟨by simp [a1, b1], Nat.max_le.mpr ⟨a2, b2⟩⟩
end
theorem flat_shaped {d : D} (h : D.flat 40 d = true) : SeqAt.shaped (toPD d) = true := by
  obtain ⟨a, b⟩ := flat_lay 40 d h
  unfold SeqAt.shaped
  simp only [a, Bool.true_and, decide_eq_true_eq]
  omega

mutual
theorem flat_beq : ∀ (a b : D) (n m : Nat), D.flat n a = true → D.flat m b = true → PyData.eqv (toPD a) (toPD b) = D.beq a b
  | .tup l, b, n, m, h, k => by
    simp only [D.flat, Bool.and_eq_true] at h
    cases b with
    | tup l' =>
      simp only [D.flat, Bool.and_eq_true] at k
      simp only [toPD, PyData.eqv, D.beq]
      exact flats_beq l l' _ _ h.2 k.2
    | _ => first | (simp [D.flat] at k; done) | simp [toPD, PyData.eqv, D.beq]
  | .lst l, b, n, m, h, k => by
    simp only [D.flat, Bool.and_eq_true] at h
    cases b with
    | lst l' =>
      simp only [D.flat, Bool.and_eq_true] at k
      simp only [toPD, PyData.eqv, D.beq]
      exact flats_beq l l' _ _ h.2 k.2
    | _ => first | (simp [D.flat] at k; done) | simp [toPD, PyData.eqv, D.beq]
  | .non, b, n, m, h, k => by cases b <;> first | (simp [D.flat] at k; done) | simp [toPD, PyData.eqv, D.beq]
  | .bl x, b, n, m, h, k => by cases b <;> first | (simp [D.flat] at k; done) | (simp [toPD, PyData.eqv, D.beq]; done) | (simp only [toPD, PyData.eqv, D.beq]; rw [Bool.beq_eq_decide_eq])
  | .int x, b, n, m, h, k => by cases b <;> first | (simp [D.flat] at k; done) | (simp [toPD, PyData.eqv, D.beq]; done) | (simp only [toPD, PyData.eqv, D.beq]; rw [Bool.beq_eq_decide_eq])
  | .str x, b, n, m, h, k => by cases b <;> first | (simp [D.flat] at k; done) | (simp [toPD, PyData.eqv, D.beq, eqStr_eq]; done)
  | .scr _, _, _, _, h, _ => by simp [D.flat] at h
  | .ref _, _, _, _, h, _ => by simp [D.flat] at h
  | .rep _, _, _, _, h, _ => by simp [D.flat] at h
  | .ty _, _, _, _, h, _ => by simp [D.flat] at h
theorem flats_beq : ∀ (a b : List D) (n m : Nat), D.flats n a = true → D.flats m b = true → PyData.eqvAll (toPDs a) (toPDs b) = D.beqs a b
  | [], [], _, _, _, _ => by simp [toPDs, PyData.eqvAll, D.beqs]
  | [], _ :: _, _, _, _, _ => by simp [toPDs, PyData.eqvAll, D.beqs]
  | _ :: _, [], _, _, _, _ => by simp [toPDs, PyData.eqvAll, D.beqs]
  | x :: a, y :: b, n, m, h, k => by
    simp only [D.flats, Bool.and_eq_true] at h k
    simp only [toPDs, PyData.eqvAll, D.beqs]
    rw [flat_beq x y n m h.1 k.1, flats_beq a b n m h.2 k.2]
end
mutual
theorem same_eq : ∀ (a b : D), D.same a b = true → a = b
  | .non, b, h => by cases b <;> first | rfl | (simp [D.same] at h; done)
  | .bl x, b, h => by cases b <;> first | (simp [D.same] at h; done) | (simp [D.same] at h; subst h; rfl)
  | .int x, b, h => by cases b <;> first | (simp [D.same] at h; done) | (simp [D.same] at h; subst h; rfl)
  | .str x, b, h => by
    cases b with
    | str y => simp only [D.same] at h; rw [eqStr_iff.mp h]
    | _ => simp [D.same] at h
  | .tup l, b, h => by
    cases b with
    | tup m => simp only [D.same] at h; rw [sames_eq l m h]
    | _ => simp [D.same] at h
  | .lst l, b, h => by
    cases b with
    | lst m => simp only [D.same] at h; rw [sames_eq l m h]
    | _ => simp [D.same] at h
  | .scr _, b, h => by cases b <;> simp [D.same] at h
  | .ref _, b, h => by cases b <;> simp [D.same] at h
  | .rep _, b, h => by cases b <;> simp [D.same] at h
  | .ty _, b, h => by cases b <;> simp [D.same] at h
theorem sames_eq : ∀ (a b : List D), D.sames a b = true → a = b
  | [], [], _ => rfl
  | [], _ :: _, h => by simp [D.sames] at h
  | _ :: _, [], h => by simp [D.sames] at h
  | x :: a, y :: b, h => by
    simp only [D.sames, Bool.and_eq_true] at h
    rw [same_eq x y h.1, sames_eq a b h.2]
end

section
variable {C : Cfg} {X : Cx} {w : Wd} {F : Gm} {μ : Store} {H : Hp} {k : Nat}
mutual
theorem dp_of {K : PySem.W.Frag} (g : ∀ a u, w.G a = some u → H a = some u) : ∀ (n : Nat) (d : D) (v : V), D.flat n d = true → RepP K w.G d v → Dp K H v (toPD d)
  | _, .non, _, _, r => by simp only [RepP] at r; subst r; exact .non
  | _, .bl b, _, _, r => by simp only [RepP] at r; subst r; exact .bl b
  | _, .int i, _, _, r => by simp only [RepP] at r; subst r; exact .int i
  | _, .str s, _, _, r => by simp only [RepP] at r; subst r; exact .str s
  | n, .tup l, v, h, r => by
    simp only [D.flat, Bool.and_eq_true] at h
    simp only [RepP] at r
    obtain ⟨a, vs, rfl, e, q⟩ := r
    simp only [toPD]
    exact .tup (e.seq g) (dps_of g (n - 1) l vs h.2 q)
  | n, .lst l, v, h, r => by
    simp only [D.flat, Bool.and_eq_true] at h
    simp only [RepP] at r
    obtain ⟨a, vs, rfl, e, q⟩ := r
    simp only [toPD]
    exact .lst (SqL.of (g _ _ e)) (dps_of g (n - 1) l vs h.2 q)
  | _, .scr _, _, h, _ => by simp [D.flat] at h
  | _, .ref _, _, h, _ => by simp [D.flat] at h
  | _, .rep _, _, h, _ => by simp [D.flat] at h
  | _, .ty _, _, h, _ => by simp [D.flat] at h
theorem dps_of {K : PySem.W.Frag} (g : ∀ a u, w.G a = some u → H a = some u) : ∀ (n : Nat) (l : List D) (vs : List V), D.flats n l = true → RepPs K w.G l vs → DpAll K H vs (toPDs l)
  | _, [], vs, _, r => by simp only [RepPs] at r; subst r; exact .nil
  | n, d :: l, vs, h, r => by
    simp only [D.flats, Bool.and_eq_true] at h
    simp only [RepPs] at r
    obtain ⟨v, t, rfl, p, q⟩ := r
    simp only [toPDs]
    exact .cons (dp_of g n d v h.1 p) (dps_of g n l t h.2 q)
end
/-- the same of what is seen (a list of the store, too) -/
theorem dp_view (s : SR C.kp w F μ H) {d x : D} {v : V} (r : RepV C.K w d v) (e : view μ d = x) (h : D.flat 40 x = true) : Dp C.K H v (toPD x) := by
  have hx : x.isRef = false := by cases x <;> first | rfl | (simp [D.flat] at h; done)
  rcases view_P s r e hx with p | ⟨l, a, vs, rfl, rfl, ha, rl⟩
  · exact dp_of s.g 40 x v h p
  · simp only [D.flat, Bool.and_eq_true] at h
    simp only [toPD]
    exact .lst (SqL.of ha) (dps_of s.g 39 l vs h.2 rl)
theorem one_flat {x : D} (h : D.one x = true) {v : V} (r : RepP C.K w.G x v) : flatV v = true ∧ ∀ (y : D) (u : V), D.one y = true → RepP C.K w.G y u → eqV u v = D.beq y x := by
  refine ⟨?_, fun y u hy ry => ?_⟩
  · cases x <;> first | (simp [D.one] at h; done) | (simp only [RepP] at r; subst r; rfl)
  · cases x <;> first | (simp [D.one] at h; done) | skip
    all_goals
      cases y <;> first | (simp [D.one] at hy; done) | skip
      all_goals
        simp only [RepP] at r ry
        subst r; subst ry
        first | rfl | (simp only [eqV, D.beq]; done) | (simp only [eqV, D.beq, eqStr_eq]) | (simp only [eqV, D.beq]; rw [Bool.beq_eq_decide_eq])
theorem ones_all {l : List D} {vs : List V} (h : l.all D.one = true) (r : RepPs C.K w.G l vs) : vs.all flatV = true := by
  induction l generalizing vs with
  | nil => simp only [RepPs] at r; subst r; rfl
  | cons a l ih =>
    simp only [RepPs] at r
    obtain ⟨v, t, rfl, p, q⟩ := r
    simp only [List.all_cons, Bool.and_eq_true] at h ⊢
    exact ⟨(one_flat h.1 p).1, ih h.2 q⟩
theorem mem_inV {x : D} {v : V} (hx : D.one x = true) (rx : RepP C.K w.G x v) : ∀ {l : List D} {vs : List V}, l.all D.one = true → RepPs C.K w.G l vs → inV v vs = memD x l
  | [], vs, _, r => by simp only [RepPs] at r; subst r; rfl
  | a :: l, vs, h, r => by
    simp only [RepPs] at r
    obtain ⟨u, t, rfl, p, q⟩ := r
    simp only [List.all_cons, Bool.and_eq_true] at h
    have ih := mem_inV hx rx h.2 q
    unfold inV at ih ⊢
    rw [List.any_cons, (one_flat hx rx).2 a u h.1 p, ih]
    simp only [memD]
    cases D.beq a x <;> simp
theorem mem_any {x : D} (hx : D.flat 40 x = true) : ∀ {l : List D}, D.flats 40 l = true → ((toPDs l).any fun z => PyData.eqv z (toPD x)) = memD x l
  | [], _ => rfl
  | a :: l, h => by
    simp only [D.flats, Bool.and_eq_true] at h
    simp only [toPDs, List.any_cons, memD]
    rw [flat_beq a x 40 40 h.1 hx, mem_any hx h.2]
    cases D.beq a x <;> simp

/-- a comparison by EV's answer -/
def rC (C : Cfg) (op : Cop) : R2 := fun x y H Q => ∃ w F μ dx dy b, SR C.kp w F μ H ∧ RepV C.K w dx x ∧ RepV C.K w dy y ∧ cop op (view μ dx) (view μ dy) = some b ∧ Q (.bl b) H

theorem hu64 (I : CxI C k X) : X.A.units + 64 < cLine := by have := I.room.un; omega
theorem view_bl {d : D} {v : V} {b : Bool} (r : RepV C.K w d v) (e : view μ d = .bl b) : v = .bl b := by
  cases d with
  | ref j =>
    unfold view at e
    simp only at e
    split at e <;> cases e
  | bl j => simp only [view] at e; cases e; simpa only [RepV, RepP] using r
  | _ => simp [view] at e
theorem view_non {d : D} {v : V} (r : RepV C.K w d v) (e : view μ d = .non) : v = .non := by
  cases d with
  | ref j =>
    unfold view at e
    simp only at e
    split at e <;> cases e
  | non => simpa only [RepV, RepP] using r
  | _ => simp [view] at e
theorem view_rep {d x : D} {v : V} (r : RepV C.K w d v) (e : view μ d = .rep x) : v = .str (PyData.shown (toPD x)) := by
  cases d with
  | ref j =>
    unfold view at e
    simp only at e
    split at e <;> cases e
  | rep j => simp only [view] at e; cases e; simpa only [RepV, RepP] using r
  | _ => simp [view] at e
theorem notNon {d x : D} {v : V} (s : SR C.kp w F μ H) (r : RepV C.K w d v) (e : view μ d = x) (h : ∀ z, x ≠ z ∨ z ≠ .non) : v ≠ .non := by
  have hx : x ≠ .non := by rcases h .non with z | z; exact z; exact absurd rfl z
  rintro rfl
  cases d with
  | ref j => obtain ⟨a, _, q⟩ := r; cases q
  | non => simp only [view] at e; exact hx e.symm
  | tup l => simp only [RepV, RepP] at r; obtain ⟨a, vs, q, _⟩ := r; cases q
  | lst l => simp only [RepV, RepP] at r; obtain ⟨a, vs, q, _⟩ := r; cases q
  | scr l => simp only [RepV, RepP] at r; obtain ⟨a, q, _⟩ := r; cases q
  | _ => simp [RepV, RepP] at r

/-- eqD by the machine -/
theorem eq_core (I : CxI C k X) {pins : List (Addr × Obj)} {s : Shared} {σ : L2.St} {x y : V} {dx dy : D} {b : Bool} (S : SR C.kp w F μ H) (r1 : RepV C.K w dx x) (r2 : RepV C.K w dy y)
    (e : eqD (view μ dx) (view μ dy) = some b) : (rEqD X.K x y H fun z H' => z = .bl b ∧ H' = H) ∨ (scal x y = true ∧ decide (x = y) = b) := by
  have flatCase : ∀ {a c : D}, view μ dx = a → view μ dy = c → D.flat 40 a = true → D.flat 40 c = true → D.beq a c = b → rEqD X.K x y H fun z H' => z = .bl b ∧ H' = H := by
    intro a c ha hc fa fc hb
    refine ⟨toPD a, toPD c, I.K ▸ dp_view S r1 ha fa, I.K ▸ dp_view S r2 hc fc, flat_shaped fa, flat_shaped fc, ?_, rfl⟩
    rw [flat_beq a c 40 40 fa fc, hb]
  generalize ha : view μ dx = a at e
  generalize hc : view μ dy = c at e
  unfold eqD at e
  split at e
  · rename_i i j
    have e1 := view_int r1 ha
    have e2 := view_int r2 hc
    subst e1; subst e2
    refine .inr ⟨rfl, ?_⟩
    simp only [Option.some.injEq] at e
    rw [← e]
    simp
  · rename_i p q
    have e1 := view_rep r1 ha
    have e2 := view_rep r2 hc
    subst e1; subst e2
    split at e
    · rename_i z
      rw [same_eq _ _ z]
      cases e
      exact .inr ⟨rfl, by simp⟩
    · cases e
  · split at e
    · rename_i z
      simp only [Bool.and_eq_true] at z
      cases e
      exact .inl (flatCase ha hc z.1 z.2 rfl)
    · cases e

theorem op_cmp (I : CxI C k X) (op : Cop) (o : CmpOp) (hm : mCop op o = true) : OpR X (compareOp o) (rC C op) := by
  rintro pins s σ H x y v u Q J rx ry ⟨w, F, μ, dx, dy, b, S, r1, r2, e, q⟩
  have hu := hu64 I
  have bi : ∀ {i j : Int}, view μ dx = .int i → view μ dy = .int j → x = .int i ∧ y = .int j := fun h1 h2 => ⟨view_int r1 h1, view_int r2 h2⟩
  cases op
  case eq =>
    cases o <;> simp [mCop] at hm
    rcases eq_core (pins := pins) (s := s) (σ := σ) I S r1 r2 e with z | ⟨z1, z2⟩
    · obtain ⟨d, d', h1, h2, h3, h4, h5, _⟩ := z
      exact op_eqD hu pins s σ H x y v u Q J rx ry ⟨d, d', h1, h2, h3, h4, by rw [h5]; exact q⟩
    · exact op_eq pins s σ H x y v u Q J rx ry ⟨z1, by rw [z2]; exact q⟩
  case ne =>
    cases o <;> simp [mCop] at hm
    simp only [cop] at e
    obtain ⟨c, e1, e2⟩ := Option.map_eq_some_iff.mp e
    rcases eq_core (pins := pins) (s := s) (σ := σ) I S r1 r2 e1 with z | ⟨z1, z2⟩
    · obtain ⟨d, d', h1, h2, h3, h4, h5, _⟩ := z
      have h6 : PyData.eqv d d' = c := V.bl.inj h5
      exact op_neD hu pins s σ H x y v u Q J rx ry ⟨d, d', h1, h2, h3, h4, by rw [h6, e2]; exact q⟩
    · exact op_ne pins s σ H x y v u Q J rx ry ⟨z1, by rw [z2, e2]; exact q⟩
  case is =>
    cases o <;> simp [mCop] at hm
    simp only [cop] at e
    generalize ha : view μ dx = a at e
    generalize hc : view μ dy = c at e
    unfold isD at e
    split at e
    · rename_i p p'
      cases e
      refine op_isBl pins s σ H x y v u Q J rx ry ⟨p, p', view_bl r1 ha, view_bl r2 hc, ?_⟩
      rw [← Bool.beq_eq_decide_eq]; exact q
    · cases e
      have e1 := view_non r1 ha
      have e2 := view_non r2 hc
      subst e1; subst e2
      exact op_isN pins s σ H _ _ v u Q J rx ry ⟨rfl, by simpa using q⟩
    · rename_i h
      cases e
      have e2 := view_non r2 hc
      subst e2
      have n1 : x ≠ .non := notNon S r1 ha fun z => by
        by_cases hz : z = .non
        · left; rintro rfl; subst hz; exact h rfl
        · right; exact hz
      exact op_isN pins s σ H _ _ v u Q J rx ry ⟨rfl, by simpa [n1] using q⟩
    · cases e
  case isn =>
    cases o <;> simp [mCop] at hm
    simp only [cop] at e
    obtain ⟨b', f, f'⟩ := Option.map_eq_some_iff.mp e
    clear e
    subst f'
    have e := f
    clear f
    generalize ha : view μ dx = a at e
    generalize hc : view μ dy = c at e
    unfold isD at e
    split at e
    · rename_i p p'
      cases e
      refine op_notBl pins s σ H x y v u Q J rx ry ⟨p, p', view_bl r1 ha, view_bl r2 hc, ?_⟩
      rw [← Bool.beq_eq_decide_eq]; exact q
    · cases e
      have e1 := view_non r1 ha
      have e2 := view_non r2 hc
      subst e1; subst e2
      exact op_notN pins s σ H _ _ v u Q J rx ry ⟨rfl, by simpa using q⟩
    · rename_i h
      cases e
      have e2 := view_non r2 hc
      subst e2
      have n1 : x ≠ .non := notNon S r1 ha fun z => by
        by_cases hz : z = .non
        · left; rintro rfl; subst hz; exact h rfl
        · right; exact hz
      exact op_notN pins s σ H _ _ v u Q J rx ry ⟨rfl, by simpa [n1] using q⟩
    · cases e
  case inn =>
    cases o <;> simp [mCop] at hm
    simp only [cop] at e
    generalize ha : view μ dx = a at e
    generalize hc : view μ dy = c at e
    unfold inD at e
    split at e
    · rename_i l
      split at e
      · rename_i z
        simp only [Bool.and_eq_true] at z
        cases e
        obtain ⟨p, vs, rfl, hp, rp⟩ := view_lst S r2 hc
        refine op_inD (by have := I.room.un; omega) pins s σ H x _ v u Q J rx ry ⟨toPD a, toPDs l, I.K ▸ dp_view S r1 ha z.1, .lst (SqL.of hp) (I.K ▸ dps_of S.g 40 l vs z.2 rp), flat_shaped z.1, ?_, ?_⟩
        · obtain ⟨c1, c2⟩ := flats_lay 40 l z.2
          refine Bool.and_eq_true_iff.mpr ⟨by simp only [PyData.canLay0, c1], decide_eq_true ?_⟩
          simp only [PyData.depth]
          omega
        · rw [mem_any z.1 z.2]; exact q
      · cases e
    · rename_i l
      split at e
      · rename_i z
        simp only [Bool.and_eq_true] at z
        cases e
        obtain ⟨p, vs, rfl, hp, rp⟩ := view_tup S r2 hc
        have ra : RepP C.K w.G a x := by
          rcases view_P S r1 ha (by cases a <;> first | rfl | (simp [D.one] at z; done)) with t | ⟨l', _, _, rfl, _⟩
          · exact t
          · simp [D.one] at z
        refine op_in_seq pins s σ H x _ v u Q J rx ry ⟨p, vs, rfl, .inr (I.K ▸ (hp.seq S.g)), (one_flat z.1 ra).1, ones_all z.2 rp, ?_⟩
        rw [mem_inV z.1 ra z.2 rp]; exact q
      · cases e
    · cases e
  case nin =>
    cases o <;> simp [mCop] at hm
    simp only [cop] at e
    obtain ⟨b', f, f'⟩ := Option.map_eq_some_iff.mp e
    clear e
    subst f'
    have e := f
    clear f
    generalize ha : view μ dx = a at e
    generalize hc : view μ dy = c at e
    unfold inD at e
    split at e
    · rename_i l
      split at e
      · rename_i z
        simp only [Bool.and_eq_true] at z
        cases e
        obtain ⟨p, vs, rfl, hp, rp⟩ := view_lst S r2 hc
        refine op_notInD (by have := I.room.un; omega) pins s σ H x _ v u Q J rx ry ⟨toPD a, toPDs l, I.K ▸ dp_view S r1 ha z.1, .lst (SqL.of hp) (I.K ▸ dps_of S.g 40 l vs z.2 rp), flat_shaped z.1, ?_, ?_⟩
        · obtain ⟨c1, c2⟩ := flats_lay 40 l z.2
          refine Bool.and_eq_true_iff.mpr ⟨by simp only [PyData.canLay0, c1], decide_eq_true ?_⟩
          simp only [PyData.depth]
          omega
        · rw [mem_any z.1 z.2]; exact q
      · cases e
    · rename_i l
      split at e
      · rename_i z
        simp only [Bool.and_eq_true] at z
        cases e
        obtain ⟨p, vs, rfl, hp, rp⟩ := view_tup S r2 hc
        have ra : RepP C.K w.G a x := by
          rcases view_P S r1 ha (by cases a <;> first | rfl | (simp [D.one] at z; done)) with t | ⟨l', _, _, rfl, _⟩
          · exact t
          · simp [D.one] at z
        refine op_notIn_seq pins s σ H x _ v u Q J rx ry ⟨p, vs, rfl, .inr (I.K ▸ (hp.seq S.g)), (one_flat z.1 ra).1, ones_all z.2 rp, ?_⟩
        rw [if_pos rfl, mem_inV z.1 ra z.2 rp]; exact q
      · cases e
    · cases e
  all_goals
    cases o <;> simp [mCop] at hm
    generalize ha : view μ dx = a at e
    generalize hc : view μ dy = c at e
    cases a <;> cases c <;> simp only [cop, reduceCtorEq, Option.some.injEq] at e
    obtain ⟨h1, h2⟩ := bi ha hc
    subst e
  · exact op_lt pins s σ H x y v u Q J rx ry ⟨_, _, h1, h2, q⟩
  · exact op_le pins s σ H x y v u Q J rx ry ⟨_, _, h1, h2, q⟩
  · exact op_gt pins s σ H x y v u Q J rx ry ⟨_, _, h1, h2, q⟩
  · exact op_ge pins s σ H x y v u Q J rx ry ⟨_, _, h1, h2, q⟩
end
end EV

/-! EV, part 6: arguments, displays, subscripts, slices, built-ins, methods. -/
namespace EV
open PySem PySem.Spec PyProof.Rows L2

section
variable {C : Cfg} {X : Cx} {k : Nat}
theorem star_of {e : Expr} (h : starred e = false) (es : List Expr) (env : PySem.Env) : starEach (e :: es) env = (false, eval e env) :: starEach es env := by
  cases e <;> first | rfl | (simp [starred] at h)
/-- several values that are no refs -/
def tAs (C : Cfg) (X : Cx) (f : Env → Store → R (List D)) : TA := fun σ H Q => ∃ w F ρ μ, SR C.kp w F μ H ∧ EnvR C.K w ρ σ ∧ Post C X w F (fun w' => RepPs C.K w'.G) (f ρ μ) Q
def RepVs (K : PySem.W.Frag) (w : Wd) : List D → List V → Prop
  | [], vs => vs = []
  | d :: l, vs => ∃ v r, vs = v :: r ∧ RepV K w d v ∧ RepVs K w l r
def tVs (C : Cfg) (X : Cx) (f : Env → Store → R (List D)) : TA := fun σ H Q => ∃ w F ρ μ, SR C.kp w F μ H ∧ EnvR C.K w ρ σ ∧ Post C X w F (RepVs C.K) (f ρ μ) Q
theorem PA.imp {es : List Expr} {t t' : TA} (h : PA X es t) (i : ∀ σ H Q, t' σ H Q → t σ H Q) : PA X es t' := ⟨fun pos pins s σ H Q I q => h.run pos pins s σ H Q I (i σ H Q q)⟩
theorem RepVs.mono {w w' : Wd} (l : Wd.le w w') : ∀ {ds : List D} {vs : List V}, RepVs C.K w ds vs → RepVs C.K w' ds vs
  | [], _, h => h
  | d :: ds, vs, h => by
    obtain ⟨v, r, e, p, q⟩ := h
    exact ⟨v, r, e, p.mono l, RepVs.mono l q⟩
theorem pa_evs {f : EvE} (m : ME) (hE : ∀ a e, m a e = true → PE X e (tE C X (f a))) : ∀ (as : List Ex) (es : List Expr), mList m as es = true → PA X es (tAs C X (evs f as))
  | [], [], _ => PA.imp pa_nil fun σ H Q ⟨w, F, ρ, μ, s, e, h⟩ => h.ok s (by simp only [RepPs])
  | a :: as, e :: es, hm => by
    simp only [mList, Bool.and_eq_true, Bool.not_eq_true'] at hm
    refine PA.imp (pa_cons (hE a e hm.1.2) (pa_evs m hE as es hm.2) (star_of hm.1.1 es X.env)) ?_
    rintro σ H Q ⟨w, F, ρ, μ, s, en, h⟩
    refine ⟨w, F, ρ, μ, s, en, (Post.bind (Rel := RepV C.K) h).mono ?_⟩
    rintro x H1 ⟨w1, d, μ1, l1, s1, r1, h1⟩
    refine ⟨w1, F, ρ, μ1, s1, en.mono l1, (Post.bind (Rel := fun w' => RepPs C.K w'.G) h1).mono ?_⟩
    rintro xs H2 ⟨w2, ds, μ2, l2, s2, r2, h2⟩
    split at h2
    · exact False.elim h2
    · rename_i hr
      exact h2.ok s2 (RepPs.cons ((r1.mono l2).toP (by simpa using hr)) r2)
  | [], _ :: _, h => by simp [mList] at h
  | _ :: _, [], h => by simp [mList] at h
theorem pa_evr {f : EvE} (m : ME) (hE : ∀ a e, m a e = true → PE X e (tE C X (f a))) : ∀ (as : List Ex) (es : List Expr), mList m as es = true → PA X es (tVs C X (evr f as))
  | [], [], _ => PA.imp pa_nil fun σ H Q ⟨w, F, ρ, μ, s, e, h⟩ => h.ok s rfl
  | a :: as, e :: es, hm => by
    simp only [mList, Bool.and_eq_true, Bool.not_eq_true'] at hm
    refine PA.imp (pa_cons (hE a e hm.1.2) (pa_evr m hE as es hm.2) (star_of hm.1.1 es X.env)) ?_
    rintro σ H Q ⟨w, F, ρ, μ, s, en, h⟩
    refine ⟨w, F, ρ, μ, s, en, (Post.bind (Rel := RepV C.K) h).mono ?_⟩
    rintro x H1 ⟨w1, d, μ1, l1, s1, r1, h1⟩
    refine ⟨w1, F, ρ, μ1, s1, en.mono l1, (Post.bind (Rel := RepVs C.K) h1).mono ?_⟩
    rintro xs H2 ⟨w2, ds, μ2, l2, s2, r2, h2⟩
    exact h2.ok s2 ⟨x, xs, rfl, r1.mono l2, r2⟩
  | [], _ :: _, h => by simp [mList] at h
  | _ :: _, [], h => by simp [mList] at h
theorem pa_evsS (I : CxI C k X) {f : EvE} (m : ME) (hE : ∀ a e, m a e = true → PE X e (tE C X (f a))) : ∀ (as : List Ex) (es : List Expr), mListS m as es = true → PA X es (tAs C X (evsS f as))
  | [], [], _ => PA.imp pa_nil fun σ H Q ⟨w, F, ρ, μ, s, e, h⟩ => h.ok s (by simp only [RepPs])
  | a :: as, e :: es, hm => by
    simp only [mListS, Bool.and_eq_true] at hm
    obtain ⟨hm, hr⟩ := hm
    have ih := pa_evsS I m hE as es hr
    have plain : starred e = false → isStar a = false → m a e = true → PA X (e :: es) (tAs C X (evsS f (a :: as))) := by
      intro h1 h2 h3
      have ev : ∀ ρ μ, evsS f (a :: as) ρ μ = (f a ρ μ).bind fun d μ => (evsS f as ρ μ).bind fun ds μ => if d.isRef then .stuck else .ok (d :: ds) μ := fun ρ μ => by
        cases a <;> first | rfl | (simp [isStar] at h2)
      refine PA.imp (pa_cons (hE a e h3) ih (star_of h1 es X.env)) ?_
      rintro σ H Q ⟨w, F, ρ, μ, s, en, h⟩
      rw [ev] at h
      refine ⟨w, F, ρ, μ, s, en, (Post.bind (Rel := RepV C.K) h).mono ?_⟩
      rintro x H1 ⟨w1, d, μ1, l1, s1, r1, h1⟩
      refine ⟨w1, F, ρ, μ1, s1, en.mono l1, (Post.bind (Rel := fun w' => RepPs C.K w'.G) h1).mono ?_⟩
      rintro xs H2 ⟨w2, ds, μ2, l2, s2, r2, h2⟩
      split at h2
      · exact False.elim h2
      · rename_i hr
        exact h2.ok s2 (RepPs.cons ((r1.mono l2).toP (by simpa using hr)) r2)
    split at hm
    · rename_i a' e' p
      refine PA.imp (StX.pa_star (hE a' e' hm) ih) ?_
      rintro σ H Q ⟨w, F, ρ, μ, s, en, h⟩
      have h : Post C X w F (fun w' => RepPs C.K w'.G) ((f a' ρ μ).bind fun d μ => (liftO (seqOf (view μ d)) μ).bind fun xs μ => (evsS f as ρ μ).bind fun ds μ => .ok (xs ++ ds) μ) Q := h
      refine ⟨w, F, ρ, μ, s, en, (Post.bind (Rel := RepV C.K) h).mono ?_⟩
      rintro x H1 ⟨w1, d, μ1, l1, s1, r1, h1⟩
      generalize hv : view μ1 d = vd at h1
      have fin : ∀ (l : List D) (p : Addr) (vs : List V), seqOf vd = some l → x = .ref p → (SqT C.K H1 p vs ∨ SqL C.K H1 p vs) → RepPs C.K w1.G l vs → ∃ p xs, x = V.ref p ∧ (SqT X.K H1 p xs ∨ SqL X.K H1 p xs) ∧ tAs C X (evsS f as) σ H1 fun ys H2 => Q (xs ++ ys) H2 := by
        intro l p vs e1 e2 e3 rp
        rw [e1] at h1
        have h1 : Post C X w1 F (fun w' => RepPs C.K w'.G) ((evsS f as ρ μ1).bind fun ds μ => .ok (l ++ ds) μ) Q := h1
        refine ⟨p, vs, e2, by rw [I.K]; exact e3, w1, F, ρ, μ1, s1, en.mono l1, (Post.bind (Rel := fun w' => RepPs C.K w'.G) h1).mono ?_⟩
        rintro ys H2 ⟨w2, ds, μ2, l2, s2, r2, h2⟩
        exact h2.ok s2 (RepPs.append (RepPs.mono l2.1 _ _ rp) r2)
      cases vd <;> first | exact False.elim h1 | skip
      · obtain ⟨p, vs, rfl, hp, rp⟩ := view_tup s1 r1 hv
        exact fin _ p vs rfl rfl (.inl (hp.seq s1.g)) rp
      · obtain ⟨p, vs, rfl, hp, rp⟩ := view_lst s1 r1 hv
        exact fin _ p vs rfl rfl (.inr (SqL.of hp)) rp
    · simp only [Bool.and_eq_true, Bool.not_eq_true'] at hm
      exact plain hm.1.1 hm.1.2 hm.2
  | [], _ :: _, h => by simp [mListS] at h
  | _ :: _, [], h => by simp [mListS] at h
theorem mList_star {m : ME} : ∀ {as : List Ex} {es : List Expr}, mList m as es = true → ∀ e ∈ es, starred e = false
  | [], [], _ => fun e he => by simp at he
  | a :: as, e :: es, hm => fun e' he => by
    simp only [mList, Bool.and_eq_true, Bool.not_eq_true'] at hm
    rcases List.mem_cons.mp he with rfl | he
    · exact hm.1.1
    · exact mList_star hm.2 e' he
  | [], _ :: _, h => by simp [mList] at h
  | _ :: _, [], h => by simp [mList] at h
theorem stars_no {es : List Expr} (h : ∀ e ∈ es, starred e = false) (pos : Pos) (env : PySem.Env) : (backTo pos (starEach es env)).any (·.1) = false := by
  induction es with
  | nil => rfl
  | cons e es ih =>
    rw [star_of (h e (List.mem_cons_self ..))]
    have := ih fun e' he => h e' (List.mem_cons_of_mem _ he)
    simpa [backTo] using this

/-! ### displays -/
theorem tup_imp {f : EvE} {as : List Ex} {es : List Expr} {kk : Nat} {pos : Pos} (ha : PA X es (tAs C X (evsS f as))) : PE X (.Tuple es kk pos) (tE C X fun ρ μ => (evsS f as ρ μ).bind fun ds μ => liftO (shortO ds (.tup ds)) μ) := by
  refine PE.imp (pe_tupF ha) ?_
  rintro σ H Q ⟨w, F, ρ, μ, s, en, h⟩
  refine ⟨w, F, ρ, μ, s, en, (Post.bind (Rel := fun w' => RepPs C.K w'.G) h).mono ?_⟩
  rintro xs H1 ⟨w1, ds, μ1, l1, s1, r1, h1⟩
  obtain ⟨d, e, h2⟩ := h1.lift
  unfold shortO at e
  split at e
  · rename_i z
    cases e
    exact ⟨by rw [r1.length]; exact short_le z, new_tup s1 r1 h2⟩
  · cases e
theorem lst_imp {f : EvE} {as : List Ex} {es : List Expr} {pos : Pos} (ha : PA X es (tAs C X (evsS f as))) : PE X (.List es pos) (tE C X fun ρ μ => (evsS f as ρ μ).bind fun ds μ => liftO (shortO ds (.lst ds)) μ) := by
  refine PE.imp (pe_lst ha) ?_
  rintro σ H Q ⟨w, F, ρ, μ, s, en, h⟩
  refine ⟨w, F, ρ, μ, s, en, (Post.bind (Rel := fun w' => RepPs C.K w'.G) h).mono ?_⟩
  rintro xs H1 ⟨w1, ds, μ1, l1, s1, r1, h1⟩
  obtain ⟨d, e, h2⟩ := h1.lift
  unfold shortO at e
  split at e
  · rename_i z
    cases e
    exact ⟨by rw [r1.length]; exact short_le z, new_lst s1 r1 h2⟩
  · cases e

/-! ### subscripts -/
theorem slice_no {y : Expr} (h : isSlice y = false) : PlainIx y := by
  intro o i
  cases y <;> first | rfl | (simp [isSlice] at h)
theorem noSl {y : Expr} (h : isSlice y = false) : NoSl y := by
  intro o i
  cases y <;> first | rfl | (simp [isSlice] at h)
theorem atI_rel {K : PySem.W.Frag} {G : Gm} {l : List D} {vs : List V} {i : Int} {d : D} (r : RepPs K G l vs) (e : EV.atI l i = some d) : ∃ v, L2.atI vs i = some v ∧ RepP K G d v := by
  have hl := r.length
  unfold EV.atI at e
  unfold L2.atI L2.ixN
  cases i with
  | ofNat n =>
    simp only at e
    obtain ⟨v, e1, e2⟩ := r.get e
    have hn : n < vs.length := (List.getElem?_eq_some_iff.mp e1).1
    refine ⟨v, ?_, e2⟩
    have h0 : (0 : Int) ≤ Int.ofNat n := Int.natCast_nonneg n
    rw [if_pos h0, if_pos (by show (n : Int) < _; omega)]
    simpa using e1
  | negSucc n =>
    simp only at e
    split at e
    · rename_i z
      have z := Nat.le_of_ble_eq_true z
      obtain ⟨v, e1, e2⟩ := r.get e
      refine ⟨v, ?_, e2⟩
      have h0 : ¬ (0 : Int) ≤ Int.negSucc n := by omega
      rw [if_neg h0, if_pos (by omega)]
      show (some (Int.negSucc n + (vs.length : Int)).toNat).bind _ = _
      have : (Int.negSucc n + (vs.length : Int)).toNat = l.length - (n + 1) := by omega
      rw [this]
      simpa using e1
    · cases e
theorem atN_eq {l : List Nat} {i : Int} {c : Nat} (e : EV.atI l i = some c) : L2.atI l i = some c := by
  unfold EV.atI at e
  unfold L2.atI L2.ixN
  cases i with
  | ofNat n =>
    simp only at e
    rw [nthD_get] at e
    have hn : n < l.length := (List.getElem?_eq_some_iff.mp e).1
    have h0 : (0 : Int) ≤ Int.ofNat n := Int.natCast_nonneg n
    rw [if_pos h0, if_pos (by show (n : Int) < _; omega)]
    simpa using e
  | negSucc n =>
    simp only at e
    split at e
    · rename_i z
      have z := Nat.le_of_ble_eq_true z
      rw [nthD_get] at e
      have h0 : ¬ (0 : Int) ≤ Int.negSucc n := by omega
      rw [if_neg h0, if_pos (by omega)]
      show (some (Int.negSucc n + (l.length : Int)).toNat).bind _ = _
      have : (Int.negSucc n + (l.length : Int)).toNat = l.length - (n + 1) := by omega
      rw [this]
      simpa using e
    · cases e
theorem view_str {w : Wd} {F : Gm} {μ : Store} {H : Hp} {d : D} {v : V} {z : Str} (s : SR C.kp w F μ H) (r : RepV C.K w d v) (e : view μ d = .str z) : v = .str z := by
  rcases view_P s r e rfl with q | ⟨_, _, _, q, _⟩
  · simpa only [RepP] using q
  · cases q
theorem idx_imp {fa fi : Env → Store → R D} {x y : Expr} {pos : Pos} (I : CxI C k X) (ha : PE X x (tE C X fa)) (hi : PE X y (tE C X fi)) (hy : isSlice y = false) :
    PE X (.Subscript x y pos) (tE C X fun ρ μ => (fa ρ μ).bind fun a μ => (fi ρ μ).bind fun i μ => liftO (idxD (view μ a) i) μ) := by
  refine PE.imp (pe_ix (IxR.or ix_list (IxR.or ix_tup ix_str)) ha hi (slice_no hy)) ?_
  intro σ H Q q
  obtain ⟨w, F, ρ, μ, s, en, h⟩ := bin_imp (f := fun μ a i => liftO (idxD (view μ a) i) μ) σ H Q q
  refine ⟨w, F, ρ, μ, s, en, h.mono ?_⟩
  rintro a H1 ⟨w1, F1, ρ1, μ1, s1, en1, h1⟩
  refine ⟨w1, F1, ρ1, μ1, s1, en1, h1.mono ?_⟩
  rintro i H2 ⟨w2, F2, μ2, dx, dy, s2, r1, r2, h2⟩
  obtain ⟨d, e, h3⟩ := h2.lift
  unfold idxD at e
  split at e
  · rename_i l j hv
    obtain ⟨p, vs, rfl, hp, rp⟩ := view_tup s2 r1 hv
    obtain ⟨v, e1, e2⟩ := atI_rel rp e
    simp only [RepV, RepP] at r2
    exact .inr (.inl ⟨p, vs, j, v, rfl, r2, I.K ▸ (hp.seq s2.g), e1, h3.ok s2 (RepV.ofP e2)⟩)
  · rename_i l j hv
    obtain ⟨p, vs, rfl, hp, rp⟩ := view_lst s2 r1 hv
    obtain ⟨v, e1, e2⟩ := atI_rel rp e
    simp only [RepV, RepP] at r2
    exact .inl ⟨p, vs, j, v, rfl, r2, SqL.of hp, e1, h3.ok s2 (RepV.ofP e2)⟩
  · rename_i z j hv
    split at e
    · rename_i hz
      obtain ⟨cc, e1, rfl⟩ := Option.map_eq_some_iff.mp e
      have hz : z.length ≤ sizeLine := by rw [← cap_eq]; exact Nat.le_of_ble_eq_true hz
      have := view_str s2 r1 hv
      subst this
      simp only [RepV, RepP] at r2
      exact .inr (.inr ⟨z, j, cc, rfl, r2, hz, atN_eq e1, h3.ok s2 (by simp only [RepV, RepP])⟩)
    · cases e
  · cases e

/-! ### slices -/
theorem sIx_eq (n d : Nat) (o : Option Int) : EV.sIx n d o = HT.sIx n d o := by
  unfold EV.sIx HT.sIx
  cases o with
  | none => rfl
  | some i => rfl
theorem slice_rel {K : PySem.W.Frag} {G : Gm} {l : List D} {vs : List V} (r : RepPs K G l vs) (lo hi : Option Int) : RepPs K G (sliceL l lo hi) (cutV vs lo hi) := by
  unfold sliceL cutV
  simp only [sIx_eq, r.length]
  exact (r.drop _).take _
def tOi (C : Cfg) (X : Cx) (f : Env → Store → R (Option Int)) : TO := fun σ H Q => ∃ w F ρ μ, SR C.kp w F μ H ∧ EnvR C.K w ρ σ ∧ Post C X w F (fun _ a b => b = a) (f ρ μ) Q
theorem PO.imp {e : Option Expr} {t t' : TO} (h : PO X e t) (i : ∀ σ H Q, t' σ H Q → t σ H Q) : PO X e t' := ⟨fun pins s σ H Q I q => h.run pins s σ H Q I (i σ H Q q)⟩
theorem asI_rel {w : Wd} {d : D} {v : V} {i : Int} (r : RepV C.K w d v) (e : asI d = some i) : v = .int i := by
  cases d <;> simp only [asI, reduceCtorEq, Option.some.injEq] at e
  subst e
  simpa only [RepV, RepP] using r
theorem po_of {f : EvE} (m : ME) (hE : ∀ a e, m a e = true → PE X e (tE C X (f a))) {a : Option Ex} {e : Option Expr} (h : mOpt m a e = true) : PO X e (tOi C X fun ρ μ => evO f ρ μ a) := by
  cases a with
  | none =>
    cases e with
    | none => exact PO.imp po_none fun σ H Q ⟨w, F, ρ, μ, s, en, h⟩ => h.ok s rfl
    | some e => simp [mOpt] at h
  | some a =>
    cases e with
    | none => simp [mOpt] at h
    | some e =>
      refine PO.imp (po_some (hE a e h)) ?_
      rintro σ H Q ⟨w, F, ρ, μ, s, en, h⟩
      refine ⟨w, F, ρ, μ, s, en, (Post.bind (Rel := RepV C.K) h).mono ?_⟩
      rintro x H1 ⟨w1, d, μ1, l1, s1, r1, h1⟩
      obtain ⟨o, e1, h2⟩ := h1.lift
      obtain ⟨i, e2, rfl⟩ := Option.map_eq_some_iff.mp e1
      exact ⟨i, asI_rel r1 e2, h2.ok s1 rfl⟩
theorem slice_all {l : List D} {vs : List V} {K : PySem.W.Frag} {G : Gm} (r : RepPs K G l vs) {lo hi : Option Int} (h : HT.sIx vs.length 0 lo = 0 ∧ HT.sIx vs.length vs.length hi = vs.length) : sliceL l lo hi = l := by
  unfold sliceL
  simp only [sIx_eq, ← r.length, h.1, h.2]
  simp [r.length]
theorem sl_of (I : CxI C k X) : SlR X fun x lo hi H Q => ∃ w F μ d, SR C.kp w F μ H ∧ RepV C.K w d x ∧ Post C X w F (RepV C.K) (liftO (sliceD (view μ d) lo hi) μ) Q := by
  rintro pins s σ H x v vl vu lo hi sl Q J rx hs pl pu ⟨w, F, μ, d, S, r, h⟩
  obtain ⟨d', e, h2⟩ := h.lift
  unfold sliceD at e
  split at e
  · rename_i z hv
    split at e
    · rename_i hz
      cases e
      have hz : z.length ≤ sizeLine := by rw [← cap_eq]; exact Nat.le_of_ble_eq_true hz
      have := view_str S r hv
      subst this
      refine sl_str pins s σ H _ v vl vu lo hi sl Q J rx hs pl pu ⟨z, rfl, hz, h2.ok S ?_⟩
      simp only [RepV, RepP]
      unfold cutD cutS
      simp only [sIx_eq]
    · cases e
  · rename_i l hv
    cases e
    obtain ⟨p, vs, rfl, hp, rp⟩ := view_tup S r hv
    refine sl_tupF pins s σ H _ v vl vu lo hi sl Q J rx hs pl pu ⟨p, vs, rfl, I.K ▸ (hp.seq S.g), fun z => ?_, new_tup S (slice_rel rp lo hi) h2⟩
    refine h2.ok S ?_
    rw [slice_all rp z]
    simp only [RepV, RepP]
    exact ⟨p, vs, rfl, hp, rp⟩
  · rename_i l hv
    cases e
    obtain ⟨p, vs, rfl, hp, rp⟩ := view_lst S r hv
    exact sl_list pins s σ H _ v vl vu lo hi sl Q J rx hs pl pu ⟨p, vs, rfl, SqL.of hp, new_lst S (slice_rel rp lo hi) h2⟩
  · rename_i l hv
    cases e
    have r' : RepP C.K w.G (.scr l) x := by
      rcases view_P S r hv rfl with z | ⟨_, _, _, z, _⟩
      · exact z
      · cases z
    simp only [RepP] at r'
    obtain ⟨p, rfl, q⟩ := r'
    have hq : SqL C.K H p (l.map V.int) := by
      rcases q with ⟨o, q⟩ | q
      · exact .inl (.inr ⟨o, S.g _ _ q⟩)
      · exact .inr q
    exact sl_list pins s σ H _ v vl vu lo hi sl Q J rx hs pl pu ⟨p, _, rfl, I.K ▸ hq, new_lst S (slice_rel (RepPs.ofInts l) lo hi) h2⟩
  · cases e
theorem slice_imp {fa : Env → Store → R D} {f : EvE} {m : ME} {a b : Option Ex} {x : Expr} {lo hi : Option Expr} {p2 pos : Pos} (I : CxI C k X) (ha : PE X x (tE C X fa)) (hE : ∀ a e, m a e = true → PE X e (tE C X (f a)))
    (h1 : mOpt m a lo = true) (h2 : mOpt m b hi = true) :
    PE X (.Subscript x (.Slice lo hi none p2) pos) (tE C X fun ρ μ => (fa ρ μ).bind fun x μ => (evO f ρ μ a).bind fun l μ => (evO f ρ μ b).bind fun h μ => liftO (sliceD (view μ x) l h) μ) := by
  refine PE.imp (pe_slice (sl_of I) ha (po_of m hE h1) (po_of m hE h2)) ?_
  rintro σ H Q ⟨w, F, ρ, μ, s, en, h⟩
  refine ⟨w, F, ρ, μ, s, en, (Post.bind (Rel := RepV C.K) h).mono ?_⟩
  rintro x H1 ⟨w1, d, μ1, l1, s1, r1, h1⟩
  refine ⟨w1, F, ρ, μ1, s1, en.mono l1, (Post.bind (Rel := fun _ a b => b = a) h1).mono ?_⟩
  rintro l H2 ⟨w2, l', μ2, l2, s2, rfl, h2⟩
  refine ⟨w2, F, ρ, μ2, s2, (en.mono l1).mono l2, (Post.bind (Rel := fun _ a b => b = a) h2).mono ?_⟩
  rintro u H3 ⟨w3, u', μ3, l3, s3, rfl, h3⟩
  exact ⟨w3, F, μ3, d, s3, (r1.mono l2).mono l3, h3⟩

/-! ### built-ins of one value -/
def rB (C : Cfg) (X : Cx) (b : Bi) : List V → Hp → VK → Prop := fun xs H Q => ∃ w F μ d v, xs = [v] ∧ SR C.kp w F μ H ∧ RepV C.K w d v ∧ Post C X w F (RepV C.K) (liftO (bi b (view μ d)) μ) Q
theorem scr_sq {w : Wd} {F : Gm} {μ : Store} {H : Hp} (s : SR C.kp w F μ H) {d : D} {v : V} {l : List Int} (r : RepV C.K w d v) (e : view μ d = .scr l) : ∃ p, v = .ref p ∧ SqL C.K H p (l.map V.int) := by
  have r' : RepP C.K w.G (.scr l) v := by
    rcases view_P s r e rfl with z | ⟨_, _, _, z, _⟩
    · exact z
    · cases z
  simp only [RepP] at r'
  obtain ⟨p, rfl, q⟩ := r'
  refine ⟨p, rfl, ?_⟩
  rcases q with ⟨o, q⟩ | q
  · exact .inl (.inr ⟨o, s.g _ _ q⟩)
  · exact .inr q
/-- a list or tuple by its items -/
theorem items_sq {w : Wd} {F : Gm} {μ : Store} {H : Hp} (s : SR C.kp w F μ H) {d : D} {v : V} {l : List D} (r : RepV C.K w d v) (e : items (view μ d) = some l) :
    ∃ p vs, v = .ref p ∧ (SqL C.K H p vs ∨ SqT C.K H p vs) ∧ RepPs C.K w.G l vs := by
  generalize hv : view μ d = x at e
  cases x <;> simp only [items, reduceCtorEq, Option.some.injEq] at e
  · subst e
    obtain ⟨p, vs, rfl, hp, rp⟩ := view_tup s r hv
    exact ⟨p, vs, rfl, .inr ((hp.seq s.g)), rp⟩
  · subst e
    obtain ⟨p, vs, rfl, hp, rp⟩ := view_lst s r hv
    exact ⟨p, vs, rfl, .inl (SqL.of hp), rp⟩
  · subst e
    obtain ⟨p, rfl, hp⟩ := scr_sq s r hv
    exact ⟨p, _, rfl, .inl hp, RepPs.ofInts _⟩


theorem len_int (i : Int) : (Str.ofString (toString i)).length ≤ Nat.log2 i.natAbs + 3 := by
  have h := int_text_length_le (a := i) (k := Nat.log2 i.natAbs + 1) (by omega) (by omega)
  rw [PySem.ofString_length]
  omega
theorem listText_le (ts : List Str) : (listText ts).length ≤ piled ts + 2 := by
  unfold listText
  rw [strLen_append]
  have e1 : (("]" : String) : Str).length = 1 := by decide +kernel
  rw [e1]
  cases ts with
  | nil =>
    have : (textFrom 0 (("[" : String) : Str) []).length = 1 := by decide +kernel
    rw [this]; simp [piled]
  | cons t r =>
    show (textFrom 1 ((("[" : String) : Str) ++ (if 0 > 0 then ", " else "" : String) ++ t) r).length + 1 ≤ _
    rw [textFrom_length_pos r 1 _ (by omega), strLen_append, strLen_append, piled_cons]
    have e2 : (("[" : String) : Str).length = 1 := by decide +kernel
    have e3 : (((if 0 > 0 then ", " else "" : String) : Str)).length = 0 := by decide +kernel
    rw [e2, e3]
    omega
theorem tupleText_le (ts : List Str) : (tupleText ts).length ≤ piled ts + 3 := by
  unfold tupleText
  rw [strLen_append, strLen_append]
  have e1 : (("(" : String) : Str).length = 1 := by decide +kernel
  have e3 : (((if ts.length == 1 then ",)" else ")" : String) : Str)).length ≤ 2 := by split <;> decide +kernel
  rw [e1]
  by_cases h : ts = []
  · subst h
    have : (Str.join ", " []).length = 0 := by decide +kernel
    rw [this]; simp only [piled, List.map_nil, List.sum_nil]; omega
  · have := join_length_add ts h
    omega
mutual
theorem wt_len : ∀ (d : D) (n : Nat), D.able d = true → D.flat n d = true → (PyData.shown (toPD d)).length ≤ D.wt d ∧ (toPD d).showable = true
  | .non, _, _, _ => by simp only [toPD, PyData.shown, PyData.showable, D.wt]; exact ⟨by decide +kernel, trivial⟩
  | .bl b, _, _, _ => by cases b <;> (simp only [toPD, PyData.shown, PyData.showable, D.wt]; exact ⟨by decide +kernel, trivial⟩)
  | .int i, _, h, _ => by
    simp only [D.able] at h
    have h : Nat.log2 i.natAbs < 1920 := Nat.le_of_ble_eq_true h
    simp only [toPD, PyData.shown, PyData.showable, D.wt]
    exact ⟨len_int i, decide_eq_true h⟩
  | .str s, n, _, h => by
    simp only [D.flat] at h
    simp only [toPD, PyData.shown, PyData.showable, D.wt]
    refine ⟨StrLaws.reprText_len s fun c hc => ?_, trivial⟩
    unfold strB at h
    rw [List.all_eq_true] at h
    have h2 : c < 1114112 := Nat.le_of_ble_eq_true (h c hc)
    exact Nat.lt_of_lt_of_le h2 (by decide)
  | .tup l, n, h, h2 => by
    simp only [D.able] at h
    simp only [D.flat, Bool.and_eq_true] at h2
    obtain ⟨a, b⟩ := wts_len l _ h h2.2
    simp only [toPD, PyData.shown, PyData.showable, D.wt]
    exact ⟨by have := tupleText_le (PyData.shownAll (toPDs l)); omega, b⟩
  | .lst l, n, h, h2 => by
    simp only [D.able] at h
    simp only [D.flat, Bool.and_eq_true] at h2
    obtain ⟨a, b⟩ := wts_len l _ h h2.2
    simp only [toPD, PyData.shown, PyData.showable, D.wt]
    exact ⟨by have := listText_le (PyData.shownAll (toPDs l)); omega, b⟩
  | .scr _, _, _, h => by simp [D.flat] at h
  | .ref _, _, _, h => by simp [D.flat] at h
  | .rep _, _, _, h => by simp [D.flat] at h
  | .ty _, _, _, h => by simp [D.flat] at h
theorem wts_len : ∀ (l : List D) (n : Nat), D.ables l = true → D.flats n l = true → piled (PyData.shownAll (toPDs l)) ≤ D.wts l ∧ PyData.showableAll (toPDs l) = true
  | [], _, _, _ => by simp [toPDs, PyData.shownAll, PyData.showableAll, piled, D.wts]
  | a :: l, n, h, h2 => by
    simp only [D.ables, Bool.and_eq_true] at h
    simp only [D.flats, Bool.and_eq_true] at h2
    obtain ⟨a1, a2⟩ := wt_len a n h.1 h2.1
    obtain ⟨b1, b2⟩ := wts_len l n h.2 h2.2
    simp only [toPDs, PyData.shownAll, PyData.showableAll, piled_cons, D.wts, a2, b2, Bool.and_self, and_true]
    omega
end
/-- repr of data by the machine -/
theorem repr_dat (I : CxI C k X) {w : Wd} {F : Gm} {μ : Store} {H : Hp} {pins : List (Addr × Obj)} {s : Shared} {σ : L2.St} {d x : D} {v : V} {u : Value} {Q : VK} (J : Inv X pins σ H s) (S : SR C.kp w F μ H) (r : RepV C.K w d v) (ru : RelV v u) (e : view μ d = x)
    (h1 : D.flat 40 x = true) (h2 : D.able x = true) (h3 : D.wt x ≤ sizeLine) (q : Q (.str (PyData.shown (toPD x))) H) : wpAny (model X.prog X.w) X.A (call (.builtin "repr") [u]) (EP X pins σ Q) X.xe s := by
  obtain ⟨b1, b2⟩ := wt_len x 40 h2 h1
  have dp : Dp X.K H v (toPD x) := I.K ▸ dp_view S r e h1
  obtain ⟨as, rd⟩ := Dp.reads J (toPD x) v u dp ru
  have hz : (PyData.shown (toPD x)).length ≤ sizeLine := Nat.le_trans b1 h3
  have fin : ∀ (s' : Shared) (tk : Nat), Inv X pins σ H s' → EP X pins σ Q (.str (PyData.shown (toPD x)) tk) s' := fun s' tk J' => ⟨.str (PyData.shown (toPD x)), H, J', ⟨tk, rfl⟩, q⟩
  have nd := PyData.hasDict_of_canLay (toPD x) (flat_lay 40 x h1).1
  have dep := (flat_lay 40 x h1).2
  have room := I.room.un
  cases x with
  | non =>
    have := view_non r e
    subst this
    cases ru
    simp only [toPD, PyData.shown] at fin
    exact PySem.P.repr_of_none (fin _ _ (J.tok _))
  | bl b =>
    have := view_bl r e
    subst this
    cases ru
    simp only [toPD, PyData.shown] at fin
    refine PySem.P.repr_of_bool ?_
    have z := fin _ s.toks (J.tok (s.toks + 1))
    cases b <;> exact z
  | int i =>
    have := view_int r e
    subst this
    obtain ⟨t, rfl⟩ := ru
    simp only [toPD, PyData.shown] at fin
    simp only [D.able] at h2
    exact PySem.P.repr_of_int (Nat.le_of_ble_eq_true h2) (fin _ _ (J.tok _))
  | str z =>
    have r' : RepP C.K w.G (.str z) v := by
      rcases view_P S r e rfl with z | ⟨_, _, _, z, _⟩
      · exact z
      · cases z
    simp only [RepP] at r'
    subst r'
    obtain ⟨t, rfl⟩ := ru
    simp only [toPD, PyData.shown] at fin hz
    exact PySem.P.repr_of_str (fin _ _ (J.tok _)) hz
  | tup l =>
    obtain ⟨p, vs, rfl, _, _⟩ := view_tup S r e
    cases ru
    exact repr_of_reads' rd b2 (PyData.noDict_hsm nd) I.gd (by omega) (fun _ _ z => z) (fun h' u tk hk => fin _ _ (J.kept hk)) hz
  | lst l =>
    obtain ⟨p, vs, rfl, _, _⟩ := view_lst S r e
    cases ru
    exact repr_of_reads' rd b2 (PyData.noDict_hsm nd) I.gd (by omega) (fun _ _ z => z) (fun h' u tk hk => fin _ _ (J.kept hk)) hz
  | _ => simp [D.flat] at h1
theorem call_bi (I : CxI C k X) (b : Bi) (id : Value) (h : id = match b with | .int => .type "int" | .tuple => .type "tuple" | .list => .type "list" | .len => .builtin "len" | .all => .builtin "all" | .any => .builtin "any" | .sum => .builtin "sum" | .repr => .builtin "repr") : CallR X id (rB C X b) := by
  subst h
  rintro pins s σ H xs us Q J rx ⟨w, F, μ, d, v, rfl, S, r, h⟩
  obtain ⟨d', e, h2⟩ := h.lift
  cases b <;> simp only
  · by_cases hs : ∃ z, view μ d = .str z
    · obtain ⟨z, hv⟩ := hs
      rw [hv] at e
      simp only [bi] at e
      split at e
      · rename_i hz
        cases e
        have hz : z.length ≤ sizeLine := by rw [← cap_eq]; exact Nat.le_of_ble_eq_true hz
        have := view_str S r hv
        subst this
        exact call_len_str pins s σ H _ us Q J rx ⟨z, rfl, hz, h2.ok S (by simp only [RepV, RepP])⟩
      · cases e
    have e : (items (view μ d)).map (fun l => D.int l.length) = some d' := by
      revert e hs
      generalize view μ d = x
      intro e hs
      cases x <;> first | exact e | exact absurd ⟨_, rfl⟩ hs
    obtain ⟨l, e1, rfl⟩ := Option.map_eq_some_iff.mp e
    obtain ⟨p, vs, rfl, hp, rp⟩ := items_sq S r e1
    refine call_len_seq pins s σ H _ us Q J rx ⟨p, vs, rfl, I.K ▸ hp, ?_⟩
    rw [rp.length]
    exact h2.ok S (by simp only [RepV, RepP])
  · generalize hv : view μ d = x at e
    cases x <;> simp only [bi, reduceCtorEq] at e
    obtain ⟨bs, e1, rfl⟩ := Option.map_eq_some_iff.mp e
    obtain ⟨p, vs, rfl, hp, rp⟩ := view_lst S r hv
    have := rp.bool e1
    subst this
    exact cr_all I.calm pins s σ H _ us Q J rx ⟨p, bs, rfl, SqL.of hp, h2.ok S (by simp only [RepV, RepP])⟩
  · generalize hv : view μ d = x at e
    cases x <;> simp only [bi, reduceCtorEq] at e
    obtain ⟨bs, e1, rfl⟩ := Option.map_eq_some_iff.mp e
    obtain ⟨p, vs, rfl, hp, rp⟩ := view_lst S r hv
    have := rp.bool e1
    subst this
    exact cr_any I.calm pins s σ H _ us Q J rx ⟨p, bs, rfl, SqL.of hp, h2.ok S (by simp only [RepV, RepP])⟩
  · generalize hv : view μ d = x at e
    cases x <;> simp only [bi, reduceCtorEq] at e
    obtain ⟨bs, e1, rfl⟩ := Option.map_eq_some_iff.mp e
    obtain ⟨p, vs, rfl, hp, rp⟩ := view_lst S r hv
    have := rp.int e1
    subst this
    exact cr_sum I.calm pins s σ H _ us Q J rx ⟨p, bs, rfl, SqL.of hp, h2.ok S (by simp only [RepV, RepP])⟩
  · generalize hv : view μ d = x at e
    cases x <;> simp only [bi, reduceCtorEq, Option.some.injEq] at e
    · subst e
      have := view_bl r hv
      subst this
      exact call_int1 pins s σ H _ us Q J rx (.inr ⟨_, rfl, h2.ok S (by simp only [RepV, RepP])⟩)
    · subst e
      have := view_int r hv
      subst this
      exact call_int1 pins s σ H _ us Q J rx (.inl ⟨_, rfl, h2.ok S (by simp only [RepV, RepP])⟩)
    · split at e
      · rename_i z hz
        obtain ⟨i, e1, rfl⟩ := Option.map_eq_some_iff.mp e
        have := view_str S r hv
        subst this
        exact call_int_str pins s σ H _ us Q J rx ⟨_, i, rfl, e1, Nat.le_of_ble_eq_true hz, h2.ok S (by simp only [RepV, RepP])⟩
      · cases e
  · generalize hv : view μ d = x at e
    cases x <;> simp only [bi, reduceCtorEq, Option.some.injEq] at e
    · subst e
      obtain ⟨p, vs, rfl, hp, rp⟩ := view_tup S r hv
      exact call_tuple_F pins s σ H _ us Q J rx ⟨p, vs, rfl, .inr ⟨I.K ▸ (hp.seq S.g), h2.ok S (by simp only [RepV, RepP]; exact ⟨p, vs, rfl, hp, rp⟩)⟩⟩
    · subst e
      obtain ⟨p, vs, rfl, hp, rp⟩ := view_lst S r hv
      exact call_tuple_F pins s σ H _ us Q J rx ⟨p, vs, rfl, .inl ⟨SqL.of hp, new_tup S rp h2⟩⟩
  · simp only [bi] at e
    obtain ⟨l, e1, rfl⟩ := Option.map_eq_some_iff.mp e
    obtain ⟨p, vs, rfl, hp, rp⟩ := items_sq S r e1
    exact call_list_of pins s σ H _ us Q J rx ⟨p, vs, rfl, I.K ▸ hp, new_lst S rp h2⟩
  · simp only [bi] at e
    split at e
    · rename_i z
      simp only [Bool.and_eq_true] at z
      cases e
      cases rx with
      | cons ru rn =>
        cases rn
        exact repr_dat I J S r ru rfl z.1.1 z.1.2 (by rw [← cap_eq]; exact Nat.le_of_ble_eq_true z.2) (h2.ok S (by simp only [RepV, RepP]))
    · cases e
end
end EV

/-! EV, part 7: names, constants, and/or/not, comparisons, tests, isinstance. -/
namespace EV
open PySem PySem.Spec PyProof.Rows L2

/-- what the module's names stand for -/
structure Bnd (C : Cfg) : Prop where
  free : ∀ b, memStr b C.n.free = true → C.mg b = none
  cons : ∀ x d, (C.n.cons.any fun p => eqStr p.1 x && D.same p.2 d) = true → ∃ u v, C.mg x = some u ∧ RelV v u ∧ ∀ G, RepP C.K G d v

section
variable {C : Cfg} {X : Cx} {k : Nat}
theorem plain_ok {x : Str} (h : plainName x = true) : (x == ("__debug__" : Str)) = false ∧ (x == ("__classdict__" : Str)) = false ∧ x ≠ "__name__" := by
  unfold plainName at h
  simp only [Bool.and_eq_true, Bool.not_eq_true'] at h
  obtain ⟨⟨h1, h2⟩, h3⟩ := h
  rw [eqStr_eq] at h1 h2 h3
  exact ⟨h1, h2, fun e => by subst e; rw [beq_self_eq_true] at h3; cases h3⟩
theorem isN_ok {N : List Str} {i : Nat} {x : Str} (h : isN N i x = true) : N[i]? = some x := by
  unfold isN at h
  rw [nthD_get] at h
  split at h
  · rename_i y e
    rw [e, eqStr_iff.mp h]
  · cases h
theorem vis_ok {sc : Scope} {x : Str} (h : visB sc x = true) : Vis sc x := by
  unfold visB at h
  unfold Vis
  split at h <;> simp_all
theorem loc_ok {sc : Scope} {x : Str} (h : locB sc x = true) : L2.Loc sc x := by
  unfold locB at h
  unfold L2.Loc
  split at h <;> simp_all
theorem local_ok {sc : Scope} {x : Str} (h : localB sc x = true) : sc.names.lookup x = some .local := by
  unfold localB at h
  split at h <;> simp_all
theorem gl_ok {x : Str} (h : glB X.env.scope x = true) : Gl X x := by
  unfold glB at h
  show X.env.scope.names.lookup x = some .globalImplicit
  split at h <;> simp_all
theorem blt_ok (B : Bnd C) (I : CxI C k X) {b x : Str} (h : isBlt C.n X.env.scope b x = true) : x = b ∧ Gl X x ∧ X.mg x = none := by
  unfold isBlt at h
  simp only [Bool.and_eq_true] at h
  have e := eqStr_iff.mp h.1.1
  subst e
  exact ⟨rfl, gl_ok h.1.2, by rw [I.mg]; exact B.free _ h.2⟩

theorem var_imp {i : Nat} {x : Str} {pos : Pos} (h : isVar X.N X.env.scope i x = true) : PE X (.Name x pos) (tE C X fun ρ μ => liftO (getE ρ i) μ) := by
  simp only [isVar, Bool.and_eq_true] at h
  obtain ⟨⟨h1, h2⟩, h3⟩ := h
  obtain ⟨p1, p2, p3⟩ := plain_ok h3
  refine PE.imp (pe_var (isN_ok h1) (vis_ok h2) p1 p2) ?_
  rintro σ H Q ⟨w, F, ρ, μ, s, en, h⟩
  obtain ⟨d, e, h⟩ := h.lift
  obtain ⟨v, e1, r⟩ := en.get e
  exact ⟨v, e1, h.ok s r⟩
theorem con_imp {d : D} {c : Const} {j : Nat} {pos : Pos} (h : mCon d c = true) : PE X (.Constant c j pos) (tE C X fun ρ μ => .ok d μ) := by
  cases d <;> cases c <;> first | (simp [mCon] at h; done) | skip
  · refine PE.imp pe_non ?_
    rintro σ H Q ⟨w, F, ρ, μ, s, en, h⟩
    exact h.ok s (by simp only [RepV, RepP])
  · simp only [mCon, beq_iff_eq] at h
    subst h
    refine PE.imp pe_bl ?_
    rintro σ H Q ⟨w, F, ρ, μ, s, en, h⟩
    exact h.ok s (by simp only [RepV, RepP])
  · simp only [mCon, decide_eq_true_eq] at h
    subst h
    refine PE.imp pe_int ?_
    rintro σ H Q ⟨w, F, ρ, μ, s, en, h⟩
    exact h.ok s (by simp only [RepV, RepP])
  · simp only [mCon] at h
    have := eqStr_iff.mp h
    subst this
    refine PE.imp pe_str ?_
    rintro σ H Q ⟨w, F, ρ, μ, s, en, h⟩
    exact h.ok s (by simp only [RepV, RepP])
theorem glo_imp (B : Bnd C) (I : CxI C k X) {x y : Str} {d : D} {pos : Pos} (h : isCon C.n X.env.scope x y d = true) : PE X (.Name x pos) (tE C X fun ρ μ => .ok d μ) := by
  unfold isCon at h
  simp only [Bool.and_eq_true] at h
  obtain ⟨⟨⟨h1, h2⟩, h3⟩, h4⟩ := h
  obtain ⟨p1, p2, p3⟩ := plain_ok h3
  obtain ⟨u, v, e1, e2, e3⟩ := B.cons x d (by simpa using h4)
  refine PE.imp (pe_glob (gl_ok h2) (by rw [I.mg]; exact e1) e2 p1) ?_
  rintro σ H Q ⟨w, F, ρ, μ, s, en, h⟩
  exact h.ok s (RepV.ofP (e3 _))

/-! ### one value, then something -/
theorem un_imp {fa : Env → Store → R D} {f : Store → D → R D} {σ : L2.St} {H : Hp} {Q : VK} {r : V → Hp → Prop} (h : tE C X (fun ρ μ => (fa ρ μ).bind fun x μ => f μ x) σ H Q)
    (i : ∀ w F μ d x H1, SR C.kp w F μ H1 → RepV C.K w d x → Post C X w F (RepV C.K) (f μ d) Q → r x H1) : tE C X fa σ H r := by
  obtain ⟨w, F, ρ, μ, s, en, h⟩ := h
  refine ⟨w, F, ρ, μ, s, en, (Post.bind (Rel := RepV C.K) h).mono ?_⟩
  rintro x H1 ⟨w1, d, μ1, l1, s1, r1, h1⟩
  exact i w1 F μ1 d x H1 s1 r1 h1
theorem neg_imp {fa : Env → Store → R D} {x : Expr} {pos : Pos} (ha : PE X x (tE C X fa)) : PE X (.UnaryOp .USub x pos) (tE C X fun ρ μ => (fa ρ μ).bind fun x μ => liftO ((asI x).map fun i => .int (-i)) μ) := by
  refine PE.imp (pe_un un_neg ha) ?_
  intro σ H Q q
  refine un_imp (f := fun μ x => liftO ((asI x).map fun i => .int (-i)) μ) q ?_
  intro w F μ d x H1 s r h
  obtain ⟨o, e, h2⟩ := h.lift
  obtain ⟨i, e2, rfl⟩ := Option.map_eq_some_iff.mp e
  exact ⟨i, asI_rel r e2, h2.ok s (by simp only [RepV, RepP])⟩
theorem asB_rel {w : Wd} {d : D} {v : V} {i : Bool} (r : RepV C.K w d v) (e : asB d = some i) : v = .bl i := by
  cases d <;> simp only [asB, reduceCtorEq, Option.some.injEq] at e
  subst e
  simpa only [RepV, RepP] using r
theorem not_imp {fa : Env → Store → R D} {x : Expr} {pos : Pos} (ha : PE X x (tE C X fa)) : PE X (.UnaryOp .Not x pos) (tE C X fun ρ μ => (fa ρ μ).bind fun x μ => liftO ((asB x).map fun b => .bl (!b)) μ) := by
  refine PE.imp (pe_not ha) ?_
  intro σ H Q q
  refine un_imp (f := fun μ x => liftO ((asB x).map fun b => .bl (!b)) μ) q ?_
  intro w F μ d x H1 s r h
  obtain ⟨o, e, h2⟩ := h.lift
  obtain ⟨i, e2, rfl⟩ := Option.map_eq_some_iff.mp e
  exact ⟨i, asB_rel r e2, h2.ok s (by simp only [RepV, RepP])⟩
theorem and_imp {fa fb : Env → Store → R D} {a b : Expr} {rest : List Expr} {pos : Pos} (ha : PE X a (tE C X fa)) (hb : PE X (.BoolOp .And (b :: rest) pos) (tE C X fb)) :
    PE X (.BoolOp .And (a :: b :: rest) pos) (tE C X fun ρ μ => (fa ρ μ).bind fun x μ => (liftO (asB x) μ).bind fun t μ => match t with
      | true => fb ρ μ
      | false => .ok (.bl false) μ) := by
  refine PE.imp (pe_and ha hb) ?_
  rintro σ H Q ⟨w, F, ρ, μ, s, en, h⟩
  refine ⟨w, F, ρ, μ, s, en, (Post.bind (Rel := RepV C.K) h).mono ?_⟩
  rintro x H1 ⟨w1, d, μ1, l1, s1, r1, h1⟩
  generalize hd : asB d = o at h1
  cases o with
  | none => exact False.elim h1
  | some t =>
    refine ⟨t, asB_rel r1 hd, ?_⟩
    cases t with
    | true => rw [if_pos rfl]; exact ⟨w1, F, ρ, μ1, s1, en.mono l1, h1⟩
    | false => rw [if_neg Bool.false_ne_true]; exact Post.ok (Rel := RepV C.K) h1 s1 (by simp only [RepV, RepP])
theorem or_imp {fa fb : Env → Store → R D} {a b : Expr} {rest : List Expr} {pos : Pos} (ha : PE X a (tE C X fa)) (hb : PE X (.BoolOp .Or (b :: rest) pos) (tE C X fb)) :
    PE X (.BoolOp .Or (a :: b :: rest) pos) (tE C X fun ρ μ => (fa ρ μ).bind fun x μ => (liftO (asB x) μ).bind fun t μ => match t with
      | true => .ok (.bl true) μ
      | false => fb ρ μ) := by
  refine PE.imp (pe_or ha hb) ?_
  rintro σ H Q ⟨w, F, ρ, μ, s, en, h⟩
  refine ⟨w, F, ρ, μ, s, en, (Post.bind (Rel := RepV C.K) h).mono ?_⟩
  rintro x H1 ⟨w1, d, μ1, l1, s1, r1, h1⟩
  generalize hd : asB d = o at h1
  cases o with
  | none => exact False.elim h1
  | some t =>
    refine ⟨t, asB_rel r1 hd, ?_⟩
    cases t with
    | false => rw [if_neg Bool.false_ne_true]; exact ⟨w1, F, ρ, μ1, s1, en.mono l1, h1⟩
    | true => rw [if_pos rfl]; exact Post.ok (Rel := RepV C.K) h1 s1 (by simp only [RepV, RepP])
theorem ife_imp {ft : Env → Store → R Bool} {fa fb : Env → Store → R D} {c a b : Expr} {pos : Pos} (hc : PT X c (tT C X ft)) (ha : PE X a (tE C X fa)) (hb : PE X b (tE C X fb)) :
    PE X (.IfExp c a b pos) (tE C X fun ρ μ => (ft ρ μ).bind fun t μ => match t with
      | true => fa ρ μ
      | false => fb ρ μ) := by
  refine PE.imp (pe_ifExp hc ha hb) ?_
  rintro σ H Q ⟨w, F, ρ, μ, s, en, h⟩
  refine ⟨w, F, ρ, μ, s, en, (Post.bind (Rel := RelB) h).mono ?_⟩
  rintro x H1 ⟨w1, d, μ1, l1, s1, rfl, h1⟩
  cases x with
  | true => exact ⟨w1, F, ρ, μ1, s1, en.mono l1, h1⟩
  | false => exact ⟨w1, F, ρ, μ1, s1, en.mono l1, h1⟩

/-! ### comparisons -/
theorem nobeh {y : Expr} (h : isSet y = false) (op : CmpOp) : behindInMarks op y = false := by
  cases y <;> first | rfl | (simp [isSet] at h)
theorem cmpB_imp {fa fb : Env → Store → R D} {op : Cop} {Q : Bool → Hp → Prop} {σ : L2.St} {H : Hp} (h : tT C X (fun ρ μ => (fa ρ μ).bind fun x μ => (fb ρ μ).bind fun y μ => liftO (cop op (view μ x) (view μ y)) μ) σ H Q) :
    tOp (rC C op) (tE C X fa) (tE C X fb) σ H (fun z H' => ∃ k, z = .bl k ∧ Q k H') := by
  obtain ⟨w, F, ρ, μ, s, en, h⟩ := h
  refine ⟨w, F, ρ, μ, s, en, (Post.bind (Rel := RepV C.K) h).mono ?_⟩
  rintro x H1 ⟨w1, dx, μ1, l1, s1, r1, h1⟩
  refine ⟨w1, F, ρ, μ1, s1, en.mono l1, (Post.bind (Rel := RepV C.K) h1).mono ?_⟩
  rintro y H2 ⟨w2, dy, μ2, l2, s2, r2, h2⟩
  obtain ⟨b, e, h3⟩ := h2.lift
  exact ⟨w2, F, μ2, dx, dy, b, s2, r1.mono l2, r2, e, b, rfl, h3.ok s2 rfl⟩
/-- a Bool's reading as data -/
theorem ofB_imp {ft : Env → Store → R Bool} {σ : L2.St} {H : Hp} {Q : VK} (h : tE C X (fun ρ μ => ofB (ft ρ μ)) σ H Q) : tT C X ft σ H (fun b H' => Q (.bl b) H') := by
  obtain ⟨w, F, ρ, μ, s, en, h⟩ := h
  refine ⟨w, F, ρ, μ, s, en, (Post.bind (Rel := RelB) h).mono ?_⟩
  rintro b H1 ⟨w1, d, μ1, l1, s1, rfl, h1⟩
  exact h1.ok s1 (by simp only [RepV, RepP])
theorem tOp_mono {r : R2} {C : Cfg} {X : Cx} {fa fb : Env → Store → R D} {σ : L2.St} {H : Hp} {Q Q' : VK} (hr : ∀ x y H, r x y H Q → r x y H Q') (h : tOp r (tE C X fa) (tE C X fb) σ H Q) : tOp r (tE C X fa) (tE C X fb) σ H Q' := by
  obtain ⟨w, F, ρ, μ, s, en, h⟩ := h
  refine ⟨w, F, ρ, μ, s, en, h.mono ?_⟩
  rintro x H1 ⟨w1, F1, ρ1, μ1, s1, en1, h1⟩
  exact ⟨w1, F1, ρ1, μ1, s1, en1, h1.mono fun y H2 q => hr _ _ _ q⟩
theorem rC_mono {op : Cop} {x y : V} {H : Hp} {Q Q' : VK} (i : ∀ v H, Q v H → Q' v H) (h : rC C op x y H Q) : rC C op x y H Q' := by
  obtain ⟨w, F, μ, dx, dy, b, s, r1, r2, e, q⟩ := h
  exact ⟨w, F, μ, dx, dy, b, s, r1, r2, e, i _ _ q⟩
theorem cmp_imp {fa fb : Env → Store → R D} {op : Cop} {o : CmpOp} {a b : Expr} {pos : Pos} (I : CxI C k X) (hm : mCop op o = true) (hs : isSet b = false) (ha : PE X a (tE C X fa)) (hb : PE X b (tE C X fb)) :
    PE X (.Compare a [o] [b] pos) (tE C X fun ρ μ => ofB ((fa ρ μ).bind fun x μ => (fb ρ μ).bind fun y μ => liftO (cop op (view μ x) (view μ y)) μ)) ∧
    PT X (.Compare a [o] [b] pos) (tT C X fun ρ μ => (fa ρ μ).bind fun x μ => (fb ρ μ).bind fun y μ => liftO (cop op (view μ x) (view μ y)) μ) := by
  refine ⟨PE.imp (pe_cmpR (op_cmp I op o hm) ha hb (nobeh hs o)) ?_, PT.imp (pt_cmpR (op_cmp I op o hm) ha hb (nobeh hs o)) ?_⟩
  · intro σ H Q q
    refine tOp_mono (fun x y H h => rC_mono ?_ h) (cmpB_imp (ofB_imp q))
    rintro v H ⟨k, rfl, q⟩
    exact q
  · intro σ H Q q
    exact cmpB_imp q
theorem cmp2B_imp {fa fb fc : Env → Store → R D} {op op' : Cop} {Q : Bool → Hp → Prop} {σ : L2.St} {H : Hp}
    (h : tT C X (fun ρ μ => (fa ρ μ).bind fun x μ => (fb ρ μ).bind fun y μ => (liftO (cop op (view μ x) (view μ y)) μ).bind fun t μ => match t with
      | true => (fc ρ μ).bind fun z μ => liftO (cop op' (view μ y) (view μ z)) μ
      | false => .ok false μ) σ H Q) :
    tChain (rC C op) (rC C op') (tE C X fa) (tE C X fb) (tE C X fc) σ H (fun z H' => ∃ k, z = .bl k ∧ Q k H') := by
  obtain ⟨w, F, ρ, μ, s, en, h⟩ := h
  refine ⟨w, F, ρ, μ, s, en, (Post.bind (Rel := RepV C.K) h).mono ?_⟩
  rintro x H1 ⟨w1, dx, μ1, l1, s1, r1, h1⟩
  refine ⟨w1, F, ρ, μ1, s1, en.mono l1, (Post.bind (Rel := RepV C.K) h1).mono ?_⟩
  rintro y H2 ⟨w2, dy, μ2, l2, s2, r2, h2⟩
  generalize ho : cop op (view μ2 dx) (view μ2 dy) = o at h2
  cases o with
  | none => exact False.elim h2
  | some b =>
    refine ⟨w2, F, μ2, dx, dy, b, s2, r1.mono l2, r2, ho, b, rfl, ?_⟩
    cases b with
    | false => rw [if_neg Bool.false_ne_true]; exact ⟨false, rfl, Post.ok (Rel := RelB) h2 s2 rfl⟩
    | true =>
      rw [if_pos rfl]
      refine ⟨w2, F, ρ, μ2, s2, (en.mono l1).mono l2, (Post.bind (Rel := RepV C.K) h2).mono ?_⟩
      rintro z H3 ⟨w3, dz, μ3, l3, s3, r3, h3⟩
      obtain ⟨b', e', h4⟩ := h3.lift
      refine ⟨w3, F, μ3, dy, dz, b', s3, r2.mono l3, r3, e', b', rfl, h4.ok s3 rfl⟩
theorem tE_mono {f : Env → Store → R D} {σ : L2.St} {H : Hp} {Q Q' : VK} (i : ∀ v H, Q v H → Q' v H) (h : tE C X f σ H Q) : tE C X f σ H Q' := by
  obtain ⟨w, F, ρ, μ, s, en, h⟩ := h
  exact ⟨w, F, ρ, μ, s, en, h.mono i⟩
theorem tChain_mono {op op' : Cop} {fa fb fc : Env → Store → R D} {σ : L2.St} {H : Hp} {Q Q' : VK} (i : ∀ v H, Q v H → Q' v H)
    (h : tChain (rC C op) (rC C op') (tE C X fa) (tE C X fb) (tE C X fc) σ H Q) : tChain (rC C op) (rC C op') (tE C X fa) (tE C X fb) (tE C X fc) σ H Q' := by
  refine tE_mono (fun x H1 h1 => tE_mono (fun y H2 h2 => rC_mono ?_ h2) h1) h
  rintro v H3 ⟨k, e, q⟩
  refine ⟨k, e, ?_⟩
  cases k with
  | false => rw [if_neg Bool.false_ne_true] at q ⊢; exact i _ _ q
  | true => rw [if_pos rfl] at q ⊢; exact tE_mono (fun z H4 h4 => rC_mono i h4) q
theorem cmp2_imp {fa fb fc : Env → Store → R D} {op op' : Cop} {o o' : CmpOp} {a b c : Expr} {pos : Pos} (I : CxI C k X) (hm : mCop op o = true) (hm' : mCop op' o' = true) (hs' : isSet c = false)
    (ha : PE X a (tE C X fa)) (hb : PE X b (tE C X fb)) (hc : PE X c (tE C X fc)) :
    PE X (.Compare a [o, o'] [b, c] pos) (tE C X fun ρ μ => ofB ((fa ρ μ).bind fun x μ => (fb ρ μ).bind fun y μ => (liftO (cop op (view μ x) (view μ y)) μ).bind fun t μ => match t with
      | true => (fc ρ μ).bind fun z μ => liftO (cop op' (view μ y) (view μ z)) μ
      | false => .ok false μ)) ∧
    PT X (.Compare a [o, o'] [b, c] pos) (tT C X fun ρ μ => (fa ρ μ).bind fun x μ => (fb ρ μ).bind fun y μ => (liftO (cop op (view μ x) (view μ y)) μ).bind fun t μ => match t with
      | true => (fc ρ μ).bind fun z μ => liftO (cop op' (view μ y) (view μ z)) μ
      | false => .ok false μ) := by
  have hl : lastMarks [o, o'] [b, c] = false := nobeh hs' o'
  refine ⟨PE.imp (pe_chain (op_cmp I op o hm) (op_cmp I op' o' hm') ha hb hc hl) ?_, PT.imp (pt_chain (op_cmp I op o hm) (op_cmp I op' o' hm') ha hb hc hl) ?_⟩
  · intro σ H Q q
    refine tChain_mono ?_ (cmp2B_imp (ofB_imp q))
    rintro v H ⟨k, rfl, q⟩
    exact q
  · intro σ H Q q
    exact cmp2B_imp q

/-! ### tests -/
theorem tnot_imp {ft : Env → Store → R Bool} {a : Expr} {pos : Pos} (h : PT X a (tT C X ft)) : PT X (.UnaryOp .Not a pos) (tT C X fun ρ μ => (ft ρ μ).bind fun b μ => .ok (!b) μ) := by
  refine PT.imp (pt_not h) ?_
  rintro σ H Q ⟨w, F, ρ, μ, s, en, h⟩
  refine ⟨w, F, ρ, μ, s, en, (Post.bind (Rel := RelB) h).mono ?_⟩
  rintro b H1 ⟨w1, d, μ1, l1, s1, rfl, h1⟩
  exact h1.ok s1 rfl
theorem tand_imp {ft fu : Env → Store → R Bool} {a b : Expr} {rest : List Expr} {pos : Pos} (ha : PT X a (tT C X ft)) (hb : PW X (.BoolOp .And (b :: rest) pos) (tT C X fu)) :
    PW X (.BoolOp .And (a :: b :: rest) pos) (tT C X fun ρ μ => (ft ρ μ).bind fun t μ => match t with
      | true => fu ρ μ
      | false => .ok false μ) := by
  refine ⟨fun wh pins s σ H Q I h => (pw_and ha hb).run wh pins s σ H Q I ?_⟩
  obtain ⟨w, F, ρ, μ, s, en, h⟩ := h
  refine ⟨w, F, ρ, μ, s, en, (Post.bind (Rel := RelB) h).mono ?_⟩
  rintro b H1 ⟨w1, d, μ1, l1, s1, rfl, h1⟩
  cases b with
  | true => rw [if_pos rfl]; exact ⟨w1, F, ρ, μ1, s1, en.mono l1, h1⟩
  | false => rw [if_neg Bool.false_ne_true]; exact Post.ok (Rel := RelB) h1 s1 rfl
theorem tor_imp {ft fu : Env → Store → R Bool} {a b : Expr} {rest : List Expr} {pos : Pos} (ha : PT X a (tT C X ft)) (hb : PW X (.BoolOp .Or (b :: rest) pos) (tT C X fu)) :
    PW X (.BoolOp .Or (a :: b :: rest) pos) (tT C X fun ρ μ => (ft ρ μ).bind fun t μ => match t with
      | true => .ok true μ
      | false => fu ρ μ) := by
  refine ⟨fun wh pins s σ H Q I h => (pw_or ha hb).run wh pins s σ H Q I ?_⟩
  obtain ⟨w, F, ρ, μ, s, en, h⟩ := h
  refine ⟨w, F, ρ, μ, s, en, (Post.bind (Rel := RelB) h).mono ?_⟩
  rintro b H1 ⟨w1, d, μ1, l1, s1, rfl, h1⟩
  cases b with
  | false => rw [if_neg Bool.false_ne_true]; exact ⟨w1, F, ρ, μ1, s1, en.mono l1, h1⟩
  | true => rw [if_pos rfl]; exact Post.ok (Rel := RelB) h1 s1 rfl
/-- the truth of what is seen -/
theorem tru_view {w : Wd} {F : Gm} {μ : Store} {H : Hp} {d : D} {v : V} {b : Bool} (s : SR C.kp w F μ H) (r : RepV C.K w d v) (e : truD (view μ d) = some b) : TruV C.K v H b := by
  generalize hv : view μ d = x at e
  cases x <;> simp only [truD, reduceCtorEq, Option.some.injEq] at e
  · subst e
    have := view_non r hv
    subst this
    rfl
  · subst e
    have := view_bl r hv
    subst this
    rfl
  · subst e
    have := view_int r hv
    subst this
    rfl
  · rename_i l
    subst e
    obtain ⟨p, vs, rfl, hp, rp⟩ := view_tup s r hv
    refine .inr (.inl ⟨vs, (hp.seq s.g), ?_⟩)
    cases l with
    | nil => simp only [RepPs] at rp; subst rp; rfl
    | cons a l => simp only [RepPs] at rp; obtain ⟨_, _, rfl, _⟩ := rp; rfl
  · rename_i l
    subst e
    obtain ⟨p, vs, rfl, hp, rp⟩ := view_lst s r hv
    refine .inl ⟨vs, SqL.of hp, ?_⟩
    cases l with
    | nil => simp only [RepPs] at rp; subst rp; rfl
    | cons a l => simp only [RepPs] at rp; obtain ⟨_, _, rfl, _⟩ := rp; rfl
/-- forms whose test is their value's truth -/
def plainTest : Expr → Bool
  | .Name .. | .Constant .. | .Call .. | .Subscript .. => true
  | _ => false
theorem plainT {e : Expr} (h : plainTest e = true) : ∀ whole, isTrue e X.env whole = (do let v ← whole; standAt e.pos; holding [v] (truthy v)) := by
  intro whole
  cases e <;> first | rfl | (simp [plainTest] at h)
theorem tval_imp {fa : Env → Store → R D} {e : Expr} (I : CxI C k X) (ha : PE X e (tE C X fa)) (hp : plainTest e = true) : PT X e (tT C X fun ρ μ => (fa ρ μ).bind fun d μ => liftO (truD (view μ d)) μ) := by
  refine PT.imp (pt_truth ha (plainT hp)) ?_
  rintro σ H Q ⟨w, F, ρ, μ, s, en, h⟩
  refine ⟨w, F, ρ, μ, s, en, (Post.bind (Rel := RepV C.K) h).mono ?_⟩
  rintro x H1 ⟨w1, d, μ1, l1, s1, r1, h1⟩
  obtain ⟨b, e, h2⟩ := h1.lift
  exact ⟨b, by rw [I.K]; exact tru_view s1 r1 e, h2.ok s1 rfl⟩

/-! ### isinstance -/
theorem tyOf_view {w : Wd} {F : Gm} {μ : Store} {H : Hp} {d : D} {v : V} {t : Ty} {b : Bool} (s : SR C.kp w F μ H) (r : RepV C.K w d v) (e : isiD t (view μ d) = some b) :
    ∃ T : String, TyX C.K H v (.type T) ∧ kitB T (tyName t) = some b := by
  generalize hv : view μ d = x at e
  cases x with
  | non =>
    have := view_non r hv
    subst this
    refine ⟨"NoneType", .base .non, ?_⟩
    cases t <;> simp only [isiD, reduceCtorEq, Option.some.injEq] at e <;> subst e <;> decide +kernel
  | bl _ =>
    have := view_bl r hv
    subst this
    refine ⟨"bool", .base (.bl _), ?_⟩
    cases t <;> simp only [isiD, reduceCtorEq, Option.some.injEq] at e <;> subst e <;> decide +kernel
  | int _ =>
    have := view_int r hv
    subst this
    refine ⟨"int", .base (.int _), ?_⟩
    cases t <;> simp only [isiD, reduceCtorEq, Option.some.injEq] at e <;> subst e <;> decide +kernel
  | str z =>
    have r' : RepP C.K w.G (.str z) v := by
      rcases view_P s r hv rfl with z | ⟨_, _, _, z, _⟩
      · exact z
      · cases z
    simp only [RepP] at r'
    subst r'
    refine ⟨"str", .base (.str _), ?_⟩
    cases t <;> simp only [isiD, reduceCtorEq, Option.some.injEq] at e <;> subst e <;> decide +kernel
  | tup l =>
    obtain ⟨p, vs, rfl, hp, rp⟩ := view_tup s r hv
    have ty : TyX C.K H (.ref p) (.type "tuple") := by
      rcases hp with ⟨o, e, _, _⟩ | ⟨o, its, n, e1, e2, _⟩
      · exact .fTuple (s.g _ _ e)
      · exact .kTuple e1 e2
    refine ⟨"tuple", ty, ?_⟩
    cases t <;> simp only [isiD, reduceCtorEq, Option.some.injEq] at e <;> subst e <;> decide +kernel
  | lst l =>
    obtain ⟨p, vs, rfl, hp, rp⟩ := view_lst s r hv
    refine ⟨"list", .base (.lst hp), ?_⟩
    cases t <;> simp only [isiD, reduceCtorEq, Option.some.injEq] at e <;> subst e <;> decide +kernel
  | _ => cases t <;> simp only [isiD, reduceCtorEq] at e
theorem ty_boot (t : Ty) (h : t ≠ .none) : bootBuiltins (tyStr t) = some (.type (tyName t)) := by
  cases t <;> first | rfl | exact absurd rfl h
theorem ty_plain (t : Ty) : (tyStr t == ("__debug__" : Str)) = false ∧ tyStr t ≠ "__name__" := by
  cases t <;> exact ⟨by decide +kernel, by decide +kernel⟩
theorem isi_imp {fa : Env → Store → R D} {e : Expr} {x y : Str} {t : Ty} {p p' pos : Pos} (B : Bnd C) (I : CxI C k X) (h1 : isBlt C.n X.env.scope "isinstance" x = true) (h2 : isBlt C.n X.env.scope (tyStr t) y = true) (ht : t ≠ .none) (hs : starred e = false) (ha : PE X e (tE C X fa)) :
    PE X (.Call (.Name x p) [e, .Name y p'] [] pos) (tE C X fun ρ μ => (fa ρ μ).bind fun x μ => liftO ((isiD t (view μ x)).map .bl) μ) := by
  obtain ⟨rfl, g1, m1⟩ := blt_ok B I h1
  obtain ⟨rfl, g2, m2⟩ := blt_ok B I h2
  have hy : PE X (.Name (tyStr t) p') (tC (.ty (tyName t))) := pe_bltn g2 m2 (ty_boot t ht) rfl (ty_plain t).2 (ty_plain t).1
  refine PE.imp (pe_callB call_isi g1 m1 boot_isinstance (pa_cons ha (pa_cons hy pa_nil rfl) (star_of hs _ _)) (by decide) (by decide) (star_of hs _ _) rfl) ?_
  intro σ H Q q
  refine un_imp (f := fun μ x => liftO ((isiD t (view μ x)).map .bl) μ) q ?_
  intro w F μ d x H1 s r h
  obtain ⟨o, e, h2⟩ := h.lift
  obtain ⟨b, e2, rfl⟩ := Option.map_eq_some_iff.mp e
  obtain ⟨T, hT, hk⟩ := tyOf_view s r e2
  exact ⟨x, _, _, _, b, rfl, .ty _, by rw [I.K]; exact hT, kit_ty hk, h2.ok s (by simp only [RepV, RepP])⟩
end
end EV

/-! EV, part 8: built-ins called, methods, dicts. -/
namespace EV
open PySem PySem.Spec PyProof.Rows L2

section
variable {C : Cfg} {X : Cx} {k : Nat}
theorem bi_imp {fa : Env → Store → R D} {e : Expr} {x : Str} {b : Bi} {p pos : Pos} (B : Bnd C) (I : CxI C k X) (h1 : isBlt C.n X.env.scope (biName b) x = true) (hs : starred e = false) (ha : PE X e (tE C X fa)) :
    PE X (.Call (.Name x p) [e] [] pos) (tE C X fun ρ μ => (fa ρ μ).bind fun x μ => liftO (bi b (view μ x)) μ) := by
  obtain ⟨rfl, g1, m1⟩ := blt_ok B I h1
  have st := star_of hs [] X.env
  have fin : ∀ σ H Q, tE C X (fun ρ μ => (fa ρ μ).bind fun x μ => liftO (bi b (view μ x)) μ) σ H Q → tE C X fa σ H fun x H1 => rB C X b [x] H1 Q := by
    intro σ H Q q
    refine un_imp (f := fun μ x => liftO (bi b (view μ x)) μ) q ?_
    intro w F μ d x H1 s r h
    exact ⟨w, F, μ, d, x, rfl, s, r, h⟩
  cases b
  · exact PE.imp (pe_callB (call_bi I .len _ rfl) g1 m1 boot_len (pa_cons ha pa_nil st) (by decide) (by decide) st rfl) fin
  · exact PE.imp (pe_callB (call_bi I .all _ rfl) g1 m1 rfl (pa_cons ha pa_nil st) (by decide) (by decide) st rfl) fin
  · exact PE.imp (pe_callB (call_bi I .any _ rfl) g1 m1 rfl (pa_cons ha pa_nil st) (by decide) (by decide) st rfl) fin
  · exact PE.imp (pe_callB (call_bi I .sum _ rfl) g1 m1 rfl (pa_cons ha pa_nil st) (by decide) (by decide) st rfl) fin
  · exact PE.imp (pe_callTy (call_bi I .int _ rfl) g1 m1 rfl (pa_cons ha pa_nil st) (by decide) (by decide) st rfl) fin
  · exact PE.imp (pe_callTy (call_bi I .tuple _ rfl) g1 m1 rfl (pa_cons ha pa_nil st) (by decide) (by decide) st rfl) fin
  · exact PE.imp (pe_callTy (call_bi I .list _ rfl) g1 m1 rfl (pa_cons ha pa_nil st) (by decide) (by decide) st rfl) fin
  · exact PE.imp (pe_callB (call_bi I .repr _ rfl) g1 m1 rfl (pa_cons ha pa_nil st) (by decide) (by decide) st rfl) fin

/-! ### methods of lists -/
theorem base_ok {o : Expr} {m : Str} (h : notSup o = true) (env : PySem.Env) (whole : PySem.Sem Value) : attributeBase o m env whole = whole := by
  unfold attributeBase
  cases o with
  | Call f as ks pos =>
    cases f <;> first | rfl | skip
    cases as with
    | nil =>
      cases ks with
      | nil => simp [notSup] at h
      | cons _ _ => rfl
    | cons _ _ => rfl
  | _ => rfl
theorem toPDs_get : ∀ (l : List D) (n : Nat) (d : D), l[n]? = some d → (toPDs l)[n]? = some (toPD d)
  | [], n, d, h => by simp at h
  | a :: l, 0, d, h => by simp at h; subst h; simp [toPDs]
  | a :: l, n + 1, d, h => by simp only [List.getElem?_cons_succ] at h; simp only [toPDs, List.getElem?_cons_succ]; exact toPDs_get l n d h
theorem index_spec {x : D} (hx : D.flat 40 x = true) : ∀ (l : List D) (k n : Nat), D.flats 40 l = true → indexD x l k = some n →
    ∃ j z, n = k + j ∧ (toPDs l)[j]? = some z ∧ PyData.eqv z (toPD x) = true ∧ ∀ (m : Nat) (z' : PyData), m < j → (toPDs l)[m]? = some z' → PyData.eqv z' (toPD x) = false
  | [], k, n, _, h => by simp [indexD] at h
  | a :: l, k, n, hl, h => by
    simp only [D.flats, Bool.and_eq_true] at hl
    have e := flat_beq a x 40 40 hl.1 hx
    simp only [indexD] at h
    split at h
    · rename_i hb
      cases h
      exact ⟨0, toPD a, rfl, by simp [toPDs], by rw [e]; exact hb, fun m z' hm => by omega⟩
    · rename_i hb
      obtain ⟨j, z, e1, e2, e3, e4⟩ := index_spec hx l (k + 1) n hl.2 h
      refine ⟨j + 1, z, by omega, by simpa [toPDs] using e2, e3, fun m z' hm hz => ?_⟩
      cases m with
      | zero =>
        simp only [toPDs, List.getElem?_cons_zero, Option.some.injEq] at hz
        subst hz
        rw [e]
        simpa using hb
      | succ m =>
        simp only [toPDs, List.getElem?_cons_succ] at hz
        exact e4 m z' (by omega) hz
theorem shaped_lst {l : List D} (h : D.flats 40 l = true) : SeqAt.shaped (.list (toPDs l)) = true := by
  obtain ⟨c1, c2⟩ := flats_lay 40 l h
  refine Bool.and_eq_true_iff.mpr ⟨by simp only [PyData.canLay0, c1], decide_eq_true ?_⟩
  simp only [PyData.depth]
  omega
/-- what methD asks of the machine's method -/
def isTupX : D → Bool
  | .tup _ => true
  | _ => false
def rM (C : Cfg) (X : Cx) (m : Mt) (T : String) : V → List V → Hp → VK → Prop := fun x xs H Q => ∃ w F μ dx dy y, xs = [y] ∧ SR C.kp w F μ H ∧ RepV C.K w dx x ∧ RepV C.K w dy y ∧ (isTupX dx = true ↔ T = "tuple") ∧ Post C X w F (RepV C.K) (methD m dx dy μ) Q
theorem view_nt {μ : Store} {d : D} {l : List D} (e : view μ d = .tup l) : isTupX d = true := by
  cases d with
  | tup _ => rfl
  | ref i =>
    unfold view at e
    simp only at e
    split at e <;> cases e
  | _ => simp [view] at e
theorem popN_spec : ∀ {l : List D} {vs : List V} {n : Nat} {d : D} {K : PySem.W.Frag} {G : Gm}, RepPs K G l vs → nthD l n = some d → ∃ y, vs[n]? = some y ∧ RepP K G d y ∧ RepPs K G (dropN l n) (vs.eraseIdx n)
  | [], _, _, _, _, _, _, h => by simp [nthD] at h
  | a :: l, vs, 0, d, K, G, r, h => by
    simp only [RepPs] at r
    obtain ⟨v, t, rfl, p, q⟩ := r
    simp only [nthD, Option.some.injEq] at h
    subst h
    exact ⟨v, rfl, p, by simpa [dropN] using q⟩
  | a :: l, vs, n + 1, d, K, G, r, h => by
    simp only [RepPs] at r
    obtain ⟨v, t, rfl, p, q⟩ := r
    simp only [nthD] at h
    obtain ⟨y, e1, e2, e3⟩ := popN_spec q h
    exact ⟨y, by simpa using e1, e2, by simpa [dropN] using RepPs.cons p e3⟩
theorem mt_append_ev (I : CxI C k X) : MtR X "list.append" (rM C X .append "list") := by
  rintro pins s σ H x xs v us Q J rx rxs ⟨w, F, μ, dx, dy, y, rfl, S, r1, r2, ht, h⟩
  unfold methD at h
  simp only at h
  split at h
  · rename_i i
    split at h
    · rename_i l hl
      split at h
      · exact False.elim h
      · rename_i hr
        split at h
        · rename_i hz
          have hz : l.length < cap := Nat.le_of_ble_eq_true hz
          rw [cap_eq] at hz
          obtain ⟨a, h1, rfl⟩ := r1
          obtain ⟨b, h2, vs, h3, h4⟩ := S.at hl
          rw [h1] at h2
          cases h2
          refine mt_append pins s σ H _ _ v us Q J rx rxs ⟨a, vs, y, rfl, rfl, h3, by rw [h4.length]; exact hz, ?_⟩
          refine h w .non _ (Wd.le_refl w) (S.wr h1 ⟨_, rfl, RepPs.append h4 (RepPs.cons (r2.toP (by simpa using hr)) RepPs.nil)⟩) (by simp only [RepV, RepP])
        · exact False.elim h
    · exact False.elim h
  · exact False.elim h
theorem mt_index_ev (I : CxI C k X) : MtR X "list.index" (rM C X .index "list") := by
  rintro pins s σ H x xs v us Q J rx rxs ⟨w, F, μ, dx, dy, y, rfl, S, r1, r2, ht, h⟩
  unfold methD at h
  simp only at h
  split at h
  · rename_i l hv
    have := ht.mp (view_nt hv)
    exact absurd this (by decide)
  · rename_i l hv
    split at h
    · rename_i hz
      simp only [Bool.and_eq_true] at hz
      obtain ⟨o, e, h2⟩ := h.lift
      obtain ⟨n, e2, rfl⟩ := Option.map_eq_some_iff.mp e
      obtain ⟨p, vs, rfl, hp, rp⟩ := view_lst S r1 hv
      obtain ⟨j, z, e3, e4, e5, e6⟩ := index_spec hz.1 l 0 n hz.2 e2
      have hj : n = j := by omega
      subst hj
      have ny : dy.isRef = false := by cases dy <;> first | rfl | (simp [D.flat] at hz)
      refine mt_indexD (by have := I.room.un; omega) pins s σ H _ _ v us Q J rx rxs ⟨p, y, toPD dy, toPDs l, n, z, rfl, rfl, .lst (SqL.of hp) (I.K ▸ dps_of S.g 40 l vs hz.2 rp), I.K ▸ dp_of S.g 40 dy y hz.1 (r2.toP ny), shaped_lst hz.2, flat_shaped hz.1, e4, e5, e6, h2.ok S (by simp only [RepV, RepP]; rfl)⟩
    · exact False.elim h
  · exact False.elim h
theorem mt_count_ev (I : CxI C k X) : MtR X "list.count" (rM C X .count "list") := by
  rintro pins s σ H x xs v us Q J rx rxs ⟨w, F, μ, dx, dy, y, rfl, S, r1, r2, ht, h⟩
  unfold methD at h
  simp only at h
  split at h
  · rename_i l j hv
    obtain ⟨o, e, h2⟩ := h.lift
    obtain ⟨is, e2, rfl⟩ := Option.map_eq_some_iff.mp e
    obtain ⟨p, vs, rfl, hp, rp⟩ := view_lst S r1 hv
    have := rp.int e2
    subst this
    simp only [RepV, RepP] at r2
    subst r2
    exact mt_lcount pins s σ H _ _ v us Q J rx rxs ⟨p, is, j, rfl, rfl, SqL.of hp, h2.ok S (by simp only [RepV, RepP])⟩
  · exact False.elim h
theorem one_index {G : Gm} {x : D} (hx : D.one x = true) {y : V} {C : Cfg} {w : Wd} (hy : RepP C.K w.G x y) : ∀ (l : List D) (vs : List V) (k n : Nat), l.all D.one = true → RepPs C.K w.G l vs → indexD x l k = some n →
    ∃ j z, n = k + j ∧ vs[j]? = some z ∧ eqV z y = true ∧ ∀ (m : Nat) (z' : V), m < j → vs[m]? = some z' → eqV z' y = false
  | [], _, k, n, _, _, h => by simp [indexD] at h
  | a :: l, vs, k, n, hl, r, h => by
    simp only [List.all_cons, Bool.and_eq_true] at hl
    simp only [RepPs] at r
    obtain ⟨v, t, rfl, p, q⟩ := r
    have e := (one_flat hx hy).2 a v hl.1 p
    simp only [indexD] at h
    split at h
    · rename_i hb
      cases h
      exact ⟨0, v, rfl, by simp, by rw [e]; exact hb, fun m z' hm => by omega⟩
    · rename_i hb
      obtain ⟨j, z, e1, e2, e3, e4⟩ := one_index (G := G) hx hy l t (k + 1) n hl.2 q h
      refine ⟨j + 1, z, by omega, by simpa using e2, e3, fun m z' hm hz => ?_⟩
      cases m with
      | zero =>
        simp only [List.getElem?_cons_zero, Option.some.injEq] at hz
        subst hz
        rw [e]
        simpa using hb
      | succ m =>
        simp only [List.getElem?_cons_succ] at hz
        exact e4 m z' (by omega) hz
theorem mt_tindex_ev (I : CxI C k X) : MtR X "tuple.index" (rM C X .index "tuple") := by
  rintro pins s σ H x xs v us Q J rx rxs ⟨w, F, μ, dx, dy, y, rfl, S, r1, r2, ht, h⟩
  have hd := ht.mpr rfl
  cases dx <;> first | (simp [isTupX] at hd; done) | skip
  rename_i l
  have h : Post C X w F (RepV C.K) (if D.one dy && l.all D.one then liftO ((indexD dy l 0).map fun (n : Nat) => D.int (Int.ofNat n)) μ else .stuck) Q := h
  split at h
  · rename_i hz
    simp only [Bool.and_eq_true] at hz
    obtain ⟨o, e, h2⟩ := h.lift
    obtain ⟨n, e2, rfl⟩ := Option.map_eq_some_iff.mp e
    obtain ⟨p, vs, rfl, hp, rp⟩ := view_tup (μ := μ) S r1 rfl
    have ny : dy.isRef = false := by cases dy <;> first | rfl | (simp [D.one] at hz)
    have hy := r2.toP ny
    obtain ⟨j, z, e3, e4, e5, e6⟩ := one_index (G := w.G) hz.1 hy l vs 0 n hz.2 rp e2
    have hj : n = j := by omega
    subst hj
    exact mt_tidx pins s σ H _ _ v us Q J rx rxs ⟨p, vs, y, n, z, rfl, rfl, I.K ▸ hp.seq S.g, (one_flat hz.1 hy).1, ones_all hz.2 rp, e4, e5, e6, h2.ok S (by simp only [RepV, RepP]; rfl)⟩
  · exact False.elim h
theorem mt_extend_ev (I : CxI C k X) : MtR X "list.extend" (rM C X .extend "list") := by
  rintro pins s σ H x xs v us Q J rx rxs ⟨w, F, μ, dx, dy, y, rfl, S, r1, r2, ht, h⟩
  unfold methD at h
  simp only at h
  split at h
  · rename_i i m hv
    split at h
    · rename_i l hl
      split at h
      · rename_i hz
        have hz := Nat.le_of_ble_eq_true hz
        rw [cap_eq] at hz
        obtain ⟨a, h1, rfl⟩ := r1
        obtain ⟨b, h2, vs, h3, h4⟩ := S.at hl
        rw [h1] at h2
        cases h2
        obtain ⟨p, us', rfl, hp, rp⟩ := view_lst S r2 hv
        refine mt_extend pins s σ H _ _ v us Q J rx rxs ⟨a, p, vs, us', rfl, rfl, h3, hp, by rw [h4.length, rp.length]; exact hz, ?_⟩
        exact h w .non _ (Wd.le_refl w) (S.wr h1 ⟨_, rfl, RepPs.append h4 rp⟩) (by simp only [RepV, RepP])
      · exact False.elim h
    · exact False.elim h
  · exact False.elim h
theorem mt_popAt_ev (I : CxI C k X) : MtR X "list.pop" (rM C X .popAt "list") := by
  rintro pins s σ H x xs v us Q J rx rxs ⟨w, F, μ, dx, dy, y, rfl, S, r1, r2, ht, h⟩
  unfold methD at h
  simp only at h
  split at h
  · rename_i i kk
    split at h
    · rename_i l hl
      split at h
      · rename_i d l' hp
        obtain ⟨a, h1, rfl⟩ := r1
        obtain ⟨b, h2, vs, h3, h4⟩ := S.at hl
        rw [h1] at h2
        cases h2
        simp only [RepV, RepP] at r2
        subst r2
        have lv := h4.length
        have lz : l.length ≤ sizeLine := by
          obtain ⟨z, _⟩ := (show ObjOk X.prog X.w H s.heap a (.lst vs) from J.hok a _ h3)
          omega
        rw [sizeLine_eq] at lz
        have fin : ∀ n, nthD l n = some d → l' = dropN l n → seqIndex? kk vs.length = some n → -(2 ^ 63) ≤ kk → kk < 2 ^ 63 → wpAny (model X.prog X.w) X.A (call (.builtin "list.pop") (v :: us)) (EP X pins σ Q) X.xe s := by
          intro n e1 e2 e3 e4 e5
          obtain ⟨y, z1, z2, z3⟩ := popN_spec h4 e1
          refine mt_popAt pins s σ H _ _ v us Q J rx rxs ⟨a, vs, kk, n, y, rfl, rfl, h3, e4, e5, e3, z1, ?_⟩
          exact h w y _ (Wd.le_refl w) (S.wr h1 ⟨_, rfl, by rw [e2]; exact z3⟩) (RepV.ofP z2)
        cases kk with
        | ofNat n =>
          simp only [popN, Option.map_eq_some_iff] at hp
          obtain ⟨d', e1, e2⟩ := hp
          cases e2
          have hn : n < l.length := by
            rw [nthD_get] at e1
            exact (List.getElem?_eq_some_iff.mp e1).1
          have hn2 : ((n : Nat) : Int) < 2 ^ 63 := by omega
          refine fin n e1 rfl ?_ (by have := Int.natCast_nonneg n; show -(2 ^ 63) ≤ ((n : Nat) : Int); omega) hn2
          have e : (Int.ofNat n : Int) = ((n : Nat) : Int) := rfl
          rw [e, lv]
          unfold seqIndex?
          simp <;> omega
        | negSucc n =>
          simp only [popN] at hp
          split at hp
          · rename_i hz
            have hz := Nat.le_of_ble_eq_true hz
            simp only [Option.map_eq_some_iff] at hp
            obtain ⟨d', e1, e2⟩ := hp
            cases e2
            refine fin _ e1 rfl ?_ (by omega) (by omega)
            unfold seqIndex?
            simp [lv] <;> omega
          · cases hp
      · exact False.elim h
    · exact False.elim h
  · exact False.elim h
theorem meth_imp {fo fa : Env → Store → R D} {o e : Expr} {m : Mt} {y : Str} {ap cp : Pos} (I : CxI C k X) (hy : eqStr y (mtName m) = true) (hl : (ap.endLine == cp.line) = true) (hs : starred e = false) (hn : notSup o = true)
    (ho : PE X o (tE C X fo)) (ha : PE X e (tE C X fa)) :
    PE X (.Call (.Attribute o y ap) [e] [] cp) (tE C X fun ρ μ => (fo ρ μ).bind fun x μ => if mthOk m (view μ x) then (fa ρ μ).bind fun y μ => methD m x y μ else .stuck) := by
  have := eqStr_iff.mp hy
  subst this
  have st := star_of hs [] X.env
  have few : ∀ es : List Expr, es = [] → ((backTo cp (starEach (e :: es) X.env)).all (fun x => !x.1) && (backToKw cp (keywordEach [] X.env)).all (fun x => x.1.isSome)
      && decide ((e :: es).length + ([] : List Keyword).length + (if ([] : List Keyword).isEmpty then 0 else 1) < 30)) = true := by
    rintro es rfl
    rw [st]
    rfl
  refine PE.imp (pe_bmX (r := fun T => rM C X m T) (TT := fun T x H => (T = "list" ∨ (T = "tuple" ∧ m = .index)) ∧ recM X.K T x H) ?_ ho (pa_cons ha pa_nil st) (base_ok hn _ _) (few _ rfl) hl st rfl) ?_
  · rintro T x H ⟨hT, rm⟩
    rcases hT with rfl | ⟨rfl, rfl⟩
    · cases m
      · exact ⟨_, PySem.F.plainAttrs_list, PySem.F.slot_list_index, PySem.F.type_list_index, rm, mt_index_ev I⟩
      · exact ⟨_, PySem.F.plainAttrs_list, PySem.F.slot_list_count, PySem.F.type_list_count, rm, mt_count_ev I⟩
      · exact ⟨_, PySem.F.plainAttrs_list, PySem.F.slot_list_append, PySem.F.type_list_append, rm, mt_append_ev I⟩
      · exact ⟨_, PySem.F.plainAttrs_list, PySem.F.slot_list_extend, PySem.F.type_list_extend, rm, mt_extend_ev I⟩
      · exact ⟨_, PySem.F.plainAttrs_list, PySem.F.slot_list_pop, PySem.F.type_list_pop, rm, mt_popAt_ev I⟩
    · exact ⟨_, PySem.F.plainAttrs_tuple, PySem.F.slot_tuple_index, PySem.F.type_tuple_index, rm, mt_tindex_ev I⟩
  · rintro σ H Q ⟨w, F, ρ, μ, s, en, h⟩
    refine ⟨w, F, ρ, μ, s, en, (Post.bind (Rel := RepV C.K) h).mono ?_⟩
    rintro x H1 ⟨w1, d, μ1, l1, s1, r1, h1⟩
    split at h1
    · rename_i hv
      have fin : ∀ T, (isTupX d = true ↔ T = "tuple") → tE C X fa σ H1 fun y H2 => rM C X m T x [y] H2 Q := by
        intro T hT
        refine ⟨w1, F, ρ, μ1, s1, en.mono l1, (Post.bind (Rel := RepV C.K) h1).mono ?_⟩
        rintro y H2 ⟨w2, dy, μ2, l2, s2, r2, h2⟩
        exact ⟨w2, F, μ2, d, dy, y, rfl, s2, r1.mono l2, r2, hT, h2⟩
      generalize hd : view μ1 d = dd at hv
      cases dd <;> first | (cases m <;> simp [mthOk, isLst, isTupD] at hv; done) | skip
      · rename_i l
        have hm : m = .index := by cases m <;> first | rfl | (simp [mthOk, isLst] at hv)
        obtain ⟨p, vs, rfl, hp, rp⟩ := view_tup s1 r1 hd
        refine ⟨"tuple", ⟨.inr ⟨rfl, hm⟩, .inr ⟨rfl, p, rfl, ?_⟩⟩, fin _ ⟨fun _ => rfl, fun _ => view_nt hd⟩⟩
        rcases hp with ⟨o, e, c1, c2⟩ | ⟨o, its, n, e, c1, c2, _⟩
        · exact .inl ⟨o, vs, s1.g _ _ e, c1, c2⟩
        · exact .inr ⟨o, by rw [I.K]; exact e, c1, c2⟩
      · rename_i l
        obtain ⟨p, vs, rfl, hp, rp⟩ := view_lst s1 r1 hd
        refine ⟨"list", ⟨.inl rfl, .inl (.inl ⟨rfl, vs, SqL.of hp⟩)⟩, fin _ ⟨fun z => ?_, fun z => absurd z (by decide)⟩⟩
        cases d <;> first | (simp [isTupX] at z; done) | skip
        simp [view] at hd
    · exact False.elim h1
end
end EV

/-! EV: dicts whose keys are tuples, beside the kit's own. -/
namespace EV
open PySem PySem.Spec PyProof.Rows L2
theorem atKey_pos {xs : List (List Key × Addr × Value)} {q : List Key × Addr × Value} {k : List Key} (e : q.1 = k) : atKey (q :: xs) k = some q.2 := by simp [atKey, List.find?_cons, e]
theorem atKey_neg {xs : List (List Key × Addr × Value)} {q : List Key × Addr × Value} {k : List Key} (e : ¬ q.1 = k) : atKey (q :: xs) k = atKey xs k := by simp [atKey, List.find?_cons, e]
/-- what stands where a dict with tuple keys is told -/
structure TDat (P : Program) (w : World) (H : Hp) (a : Addr) (xs : List (List Key × Addr × Value)) : Prop where
  at_ : H a = some (dTo P w a xs)
  keys : ∀ K : PySem.W.Frag, True
section
variable {X : Cx} {pins : List (Addr × Obj)} {σ : L2.St} {H : Hp} {s : Shared} {a b : Addr} {xs : List (List Key × Addr × Value)} {k : List Key}
theorem tkey_of (I : Inv X pins σ H s) (h : SqT X.K H b (k.map kV)) : (tupleKind (mixKind X.prog X.w)).is s.heap k b := by
  obtain ⟨its, r, ⟨o, h1, h2, n, h3⟩, _⟩ := I.tuple h
  exact ⟨o, its.toArray, n, h1, h2, h3, by simpa using items_are r⟩
theorem tdict_of (I : Inv X pins σ H s) (e : H a = some (dTo X.prog X.w a xs)) (hk : ∀ q ∈ xs, SqT X.K H q.2.1 (q.1.map kV)) :
    xs.length ≤ sizeLine ∧ (a == sysModules) = false ∧ s.heap.DictOfH (tupleKind (mixKind X.prog X.w)) a xs := by
  obtain ⟨⟨o, es, ep, h1, h2, h3, h4, h5, h6, h7⟩, _⟩ := (show ObjOk X.prog X.w H s.heap a (dTo X.prog X.w a xs) from I.hok a _ e)
  exact ⟨h7, h6, o, es, ep, h1, h2, h3, h4, fun q hq => tkey_of I (hk q hq), h5⟩
theorem dTo_ok {P : Program} {w : World} {H : Hp} {h : Heap} {o : Obj} {es : Array DictEntry} {ep : Nat} (h1 : h.get? a = some o) (h2 : o.ExactDict) (h3 : o.data = .dict es ep)
    (h4 : es.toList = xs.map (entryOfKey (tupleKind (mixKind P w)))) (h5 : (xs.map (·.1)).Nodup) (h6 : (a == sysModules) = false) (h7 : xs.length ≤ sizeLine) : ObjOk P w H h a (dTo P w a xs) :=
  ⟨⟨o, es, ep, h1, h2, h3, h4, h5, h6, h7⟩, ⟨o, h1⟩, fun g1 g2 ⟨o', es', ep', q1, q2⟩ g => ⟨o', es', ep', g o' q1, q2⟩⟩
/-- what the dict at a holds at y, its keys tuples -/
structure GT (X : Cx) (H : Hp) (a : Addr) (y : V) (xs : List (List Key × Addr × Value)) (k : List Key) (b : Addr) : Prop where
  e : H a = some (dTo X.prog X.w a xs)
  hk : ∀ q ∈ xs, SqT X.K H q.2.1 (q.1.map kV)
  ey : y = .ref b
  eb : SqT X.K H b (k.map kV)
variable {y v : V} {u r : Value} {o : Option V} {A : Around} {E : Value → Shared → Prop}
theorem t_getItem {Q : Value → Shared → Prop} (hu : A.units + 1 < cLine) (I : Inv X pins σ H s) (g : GT X H a y xs k b) (ry : RelV y u) {p : Addr × Value} (hp : atKey xs k = some p) (h : ∀ s', Inv X pins σ H s' → Q p.2 s') :
    wpAny (model X.prog X.w) A (getItem (.ref a) u) Q E s := by
  obtain ⟨e, hk, rfl, eb⟩ := g
  cases (show u = Value.ref b from ry)
  obtain ⟨z, hd, dd⟩ := tdict_of I e hk
  exact wpAny_getItem_heap (tupleKind_room_in1 hu) (tkey_of I eb) dd hp (h _ (I.tok _))
theorem t_in {Q : Value → Shared → Prop} (hu : A.units + 1 < cLine) (I : Inv X pins σ H s) (g : GT X H a y xs k b) (ry : RelV y u) (h : ∀ s', Inv X pins σ H s' → Q (.bool (atKey xs k).isSome) s') :
    wpAny (model X.prog X.w) A (compareOp .In u (.ref a)) Q E s := by
  obtain ⟨e, hk, rfl, eb⟩ := g
  cases (show u = Value.ref b from ry)
  obtain ⟨z, hd, dd⟩ := tdict_of I e hk
  exact wpAny_in_heap (tupleKind_room_in1 hu) (tkey_of I eb) hd dd (h _ (I.tok _))
theorem t_notIn {Q : Value → Shared → Prop} (hu : A.units + 1 < cLine) (I : Inv X pins σ H s) (g : GT X H a y xs k b) (ry : RelV y u) (h : ∀ s', Inv X pins σ H s' → Q (.bool (!(atKey xs k).isSome)) s') :
    wpAny (model X.prog X.w) A (compareOp .NotIn u (.ref a)) Q E s := by
  obtain ⟨e, hk, rfl, eb⟩ := g
  cases (show u = Value.ref b from ry)
  obtain ⟨z, hd, dd⟩ := tdict_of I e hk
  exact wpAny_notIn_heap (tupleKind_room_in1 hu) (tkey_of I eb) hd dd (h _ (I.tok _))
theorem t_get2 {Q : Value → Shared → Prop} (hu : A.units + 1 < cLine) (I : Inv X pins σ H s) (g : GT X H a y xs k b) (ry : RelV y u) (h : ∀ s', Inv X pins σ H s' → Q (((atKey xs k).map (·.2)).getD r) s') :
    wpAny (model X.prog X.w) A (call (.builtin "dict.get") [.ref a, u, r]) Q E s := by
  obtain ⟨e, hk, rfl, eb⟩ := g
  cases (show u = Value.ref b from ry)
  obtain ⟨z, hd, dd⟩ := tdict_of I e hk
  exact call_meetsIn PySem.F.slot_dict_get dd.typeIs PySem.F.entry_dict_get (PySem.F.args_dict_get_3 _ _ _) (meetsH_dict_get_default (tupleKind (mixKind X.prog X.w)) a b hd r) ⟨tupleKind_room_in1 hu, k, xs, tkey_of I eb, dd, h _ (I.tok _)⟩
theorem stored_len (xs : List (List Key × Addr × Value)) (k : List Key) (b : Addr) (u : Value) : (storedH xs k b u).length ≤ xs.length + 1 := by
  unfold storedH
  split <;> simp
theorem t_setItem {Q : Unit → Shared → Prop} (hu : A.units + 1 < cLine) (I : Inv X pins σ H s) (g : GT X H a y xs k b) (ry : RelV y u) (hl : xs.length < sizeLine) (h : ∀ s', Inv X pins σ (upd H a (dTo X.prog X.w a (storedH xs k b r))) s' → Q () s') :
    wpAny (model X.prog X.w) A (setItem (.ref a) u r) Q E s := by
  obtain ⟨e, hk, rfl, eb⟩ := g
  cases (show u = Value.ref b from ry)
  obtain ⟨z, hd, dd⟩ := tdict_of I e hk
  refine wpAny_setItem_heap (hsz := z) (tupleKind_room_in1 hu) (tkey_of I eb) dd fun h' dd' hs => h _ ?_
  obtain ⟨q, es, ep, hq, h2, h3, h4, _, h5⟩ := dd'
  exact d_write I (by rw [e]; exact True.intro) hs ⟨q, hq⟩ (dTo_ok hq h2 h3 h4 h5 hd (by have := stored_len xs k b r; omega))
end

/-! ### the rules, for both kinds -/
/-- the dict at a, its kind -/
def DK (X : Cx) (H : Hp) (a : Addr) : Prop := (∃ kvs, H a = some (.dK kvs)) ∨ ∃ xs, H a = some (dTo X.prog X.w a xs) ∧ ∀ q ∈ xs, SqT X.K H q.2.1 (q.1.map kV)
/-- d[y], there: v -/
def GGet (X : Cx) (H : Hp) (a : Addr) (y : V) (Q : V → Prop) : Prop := (∃ v, DGet H a y (some v) ∧ Q v) ∨ ∃ xs k b p, GT X H a y xs k b ∧ atKey xs k = some p ∧ ∃ v, RelV v p.2 ∧ Q v
def GOpt (X : Cx) (H : Hp) (a : Addr) (y : V) (Q : Bool → Prop) : Prop := (∃ o, DGet H a y o ∧ Q o.isSome) ∨ ∃ xs k b, GT X H a y xs k b ∧ Q (atKey xs k).isSome
def GDef (X : Cx) (H : Hp) (a : Addr) (y z : V) (Q : V → Prop) : Prop := (∃ o, DGet H a y o ∧ Q (o.getD z)) ∨ ∃ xs k b o, GT X H a y xs k b ∧ RelO o ((atKey xs k).map (·.2)) ∧ Q (o.getD z)
def GPut (X : Cx) (H : Hp) (a : Addr) (y v : V) (Q : Hp → Prop) : Prop := (∃ H', DPut H a y v H' ∧ Q H') ∨ ∃ xs k b, GT X H a y xs k b ∧ xs.length < sizeLine ∧ ∀ r, RelV v r → Q (upd H a (dTo X.prog X.w a (storedH xs k b r)))
section
variable {X : Cx} {pins : List (Addr × Obj)} {σ : L2.St} {H : Hp} {s : Shared} {a : Addr}
theorem DK.is (I : Inv X pins σ H s) (d : DK X H a) : s.TypeIs (.ref a) "dict" ∧ (∀ b, Value.ref a = .ref b → ∃ ob, s.heap.get? b = some ob ∧ ob.dict = none) ∧ (a == sysModules) = false := by
  rcases d with ⟨kvs, e⟩ | ⟨xs, e, hk⟩
  · exact isD_at I (.inl ⟨kvs, .inl e⟩)
  · obtain ⟨_, hd, dd⟩ := tdict_of I e hk
    refine ⟨dd.typeIs, fun b q => ?_, hd⟩
    cases q
    obtain ⟨ob, _, _, h1, h2, _⟩ := dd
    exact ⟨ob, h1, h2.2.1⟩
theorem GT.dk {y : V} {xs : List (List Key × Addr × Value)} {k : List Key} {b : Addr} (g : GT X H a y xs k b) : DK X H a := .inr ⟨xs, g.e, g.hk⟩
end
section
variable {X : Cx} {o i e f value : Expr} {pos pos' apos cpos : Pos} {td ty tv tx : TE}
theorem pe_gget (hu : X.A.units + 1 < cLine) (ho : PE X o td) (hi : PE X i ty) (hs : NoSl i) : PE X (.Subscript o i pos) (fun σ H Q => td σ H fun x H1 => ty σ H1 fun y H2 => ∃ a, x = .ref a ∧ GGet X H2 a y fun v => Q v H2) := by
  refine ⟨fun pins s σ H Q I h => ?_⟩
  refine subD_of PySem.F.slot_dict_getitem.lookup hs (thn (ho.run pins s σ H _ I h) fun u s1 ⟨x, H1, I1, rx, q1⟩ => thn (hi.run pins s1 σ H1 _ I1 q1) fun iv s2 ⟨y, H2, I2, ry, a, ex, g⟩ => ?_)
  subst ex
  obtain rfl : u = Value.ref a := rx
  rcases g with ⟨v, g, q2⟩ | ⟨xs, k, b, p, g, hp, v, rv, q2⟩
  · exact ⟨dict_typeIs I2 g, d_getItem hu I2 g ry fun w' s3 I3 rw' => ⟨v, H2, I3, rw', q2⟩⟩
  · exact ⟨(DK.is I2 g.dk).1, t_getItem hu I2 g ry hp fun s3 I3 => ⟨v, H2, I3, rv, q2⟩⟩
theorem pc_gin (hu : X.A.units + 1 < cLine) (hi : PE X i ty) (ho : PE X o td) : PC X .In i o (fun σ H Q => ty σ H fun y H1 => td σ H1 fun x H2 => ∃ a, x = .ref a ∧ GOpt X H2 a y fun b => Q (.bl b) H2) := by
  refine ⟨fun pins s σ H Q I h => ?_⟩
  refine thn (hi.run pins s σ H _ I h) fun iv s1 ⟨y, H1, I1, ry, q1⟩ => thn (ho.run pins s1 σ H1 _ I1 q1) fun u s2 ⟨x, H2, I2, rx, a, ex, g⟩ => ?_
  subst ex
  obtain rfl : u = Value.ref a := rx
  rcases g with ⟨ov, g, q2⟩ | ⟨xs, k, b, g, q2⟩
  · exact d_in hu I2 g ry fun s3 I3 => ⟨.bl ov.isSome, H2, I3, rfl, q2⟩
  · exact t_in hu I2 g ry fun s3 I3 => ⟨.bl _, H2, I3, rfl, q2⟩
theorem pc_gnotin (hu : X.A.units + 1 < cLine) (hi : PE X i ty) (ho : PE X o td) : PC X .NotIn i o (fun σ H Q => ty σ H fun y H1 => td σ H1 fun x H2 => ∃ a, x = .ref a ∧ GOpt X H2 a y fun b => Q (.bl (!b)) H2) := by
  refine ⟨fun pins s σ H Q I h => ?_⟩
  refine thn (hi.run pins s σ H _ I h) fun iv s1 ⟨y, H1, I1, ry, q1⟩ => thn (ho.run pins s1 σ H1 _ I1 q1) fun u s2 ⟨x, H2, I2, rx, a, ex, g⟩ => ?_
  subst ex
  obtain rfl : u = Value.ref a := rx
  rcases g with ⟨ov, g, q2⟩ | ⟨xs, k, b, g, q2⟩
  · exact d_notIn hu I2 g ry fun s3 I3 => ⟨.bl (!ov.isSome), H2, I3, rfl, q2⟩
  · exact t_notIn hu I2 g ry fun s3 I3 => ⟨.bl _, H2, I3, rfl, q2⟩
theorem pe_gdef (hu : X.A.units + 1 < cLine) (ho : PE X o td) (he : PE X e ty) (hf : PE X f tx) (m : M2 X o "get" apos e f cpos) : PE X (.Call (.Attribute o "get" apos) [e, f] [] cpos)
    (fun σ H Q => td σ H fun x H1 => ∃ a, x = .ref a ∧ DK X H1 a ∧ ty σ H1 fun y H2 => tx σ H2 fun z H3 => GDef X H3 a y z fun v => Q v H3) := by
  refine ⟨fun pins s σ H Q I h => ?_⟩
  refine wpAny_Call_method m.base m.few m.line PySem.F.plainAttrs_dict PySem.F.slot_dict_get PySem.F.type_dict_get (thn (ho.run pins s σ H _ I h) fun u s1 ⟨x, H1, I1, rx, a, ex, d, q1⟩ => ?_)
  subst ex
  obtain rfl : u = Value.ref a := rx
  obtain ⟨t1, t2, _⟩ := d.is I1
  refine ⟨t1, t2, ?_⟩
  rw [m.trees]
  refine Calls.callWith_builtin rfl (Calls.evalArgs_plain (Calls.spliced_cons (thn (he.run pins s1 σ H1 _ I1 q1) fun iv s2 ⟨y, H2, I2, ry, q2⟩ =>
    Calls.spliced_cons (thn (hf.run pins s2 σ H2 _ I2 q2) fun fv s3 ⟨z, H3, I3, rz, g⟩ => Calls.spliced_nil ?_))))
  rcases g with ⟨ov, g, q3⟩ | ⟨xs, k, b, ov, g, ro, q3⟩
  · exact d_get2 hu I3 g ry rz fun w' s4 I4 rw' => ⟨_, H3, I4, rw', q3⟩
  · exact t_get2 hu I3 g ry fun s4 I4 => ⟨_, H3, I4, ro.getD rz, q3⟩
theorem ps_gput (hu : X.A.units + 1 < cLine) (ho : PE X o td) (hi : PE X i ty) (hv : PE X value tv) (hs : swapsWith value (some (.Subscript o i pos')) pos.line X.env = pure false) :
    PS X (.Assign [.Subscript o i pos'] value pos) (fun D σ H => tv σ H fun v H1 => td σ H1 fun x H2 => ty σ H2 fun y H3 => ∃ a, x = .ref a ∧ GPut X H3 a y v fun H4 => D.nx σ H4) := by
  refine ⟨fun pins s σ H D I h => ?_⟩
  refine wpAny_Assign_Subscript (thn (hv.run pins s σ H _ I h) fun r s1 ⟨v, H1, I1, rv, q1⟩ => thn (ho.run pins s1 σ H1 _ I1 q1) fun u s2 ⟨x, H2, I2, rx, q2⟩ => thn (hi.run pins s2 σ H2 _ I2 q2) fun iv s3 ⟨y, H3, I3, ry, a, ex, g⟩ => ?_) hs
  subst ex
  obtain rfl : u = Value.ref a := rx
  rcases g with ⟨H4, g, q3⟩ | ⟨xs, k, b, g, hl, q3⟩
  · exact d_setItem hu I3 g ry rv fun s4 I4 => ⟨σ, H4, I4, q3⟩
  · exact t_setItem hu I3 g ry hl fun s4 I4 => ⟨σ, _, I4, q3 r rv⟩
theorem pe_gnewT : PE X (.Dict [] [] pos) (fun σ H Q => ∀ p, H p = none → Q (.ref p) (upd H p (dTo X.prog X.w p []))) := ⟨fun pins s σ H Q I h =>
  wpAny_Dict_empty ⟨.ref s.heap.objs.size, _, I.laid (a := s.heap.objs.size) (o := dTo X.prog X.w s.heap.objs.size []) (t' := s.toks) (fun _ _ q => Heap.get?_push_of_some _ q) (Nat.le_refl _)
    (dTo_ok (Heap.get?_push_size _ rfl) ⟨rfl, rfl, rfl⟩ rfl rfl List.nodup_nil (beq_eq_false_iff_ne.mpr (Ne.symm (Nat.ne_of_lt I.big))) (Nat.zero_le _)), rfl, h _ (I.hok.fresh (Nat.le_refl _))⟩⟩
end
end EV

/-! EV, part 9: frames beside, dicts. -/
namespace EV
open PySem PySem.Spec PyProof.Rows L2

section
variable {K : KP} {w : Wd} {F : Gm} {μ : Store} {H : Hp}
/-- what stood beside is forgotten -/
theorem SR.weakF {p : Addr} {u : HO} (s : SR K w (setG F p u) μ H) (hF : F p = none) : SR K w F μ H ∧ w.G p = none ∧ p ∉ w.φ ∧ H p = some u := by
  have gp : w.G p = none := s.gf p u setG_same
  have np : p ∉ w.φ := fun h => by have := (s.ap p h).2; rw [setG_same] at this; cases this
  have hp : H p = some u := s.f p u setG_same
  have ne : ∀ a v, F a = some v → a ≠ p := fun a v e => by rintro rfl; rw [hF] at e; cases e
  refine ⟨⟨s.g, fun a v e => s.f a v (by rw [setG_ne (ne a v e)]; exact e), fun a v e => s.gf a v (by rw [setG_ne (ne a v e)]; exact e), s.len, s.nd, fun a ha => ?_, s.ob⟩, gp, np, hp⟩
  have q := s.ap a ha
  have h : a ≠ p := by rintro rfl; exact np ha
  rw [setG_ne h] at q
  exact q
/-- a thing joins the store, at a place that is nobody's -/
theorem SR.putO (s : SR K w F μ H) {p : Addr} {u : HO} {o : Ob} (h1 : w.G p = none) (h2 : F p = none) (h3 : p ∉ w.φ) (r : ObR K w.G p o (some u)) : SR K ⟨w.G, w.φ ++ [p]⟩ F (μ ++ [o]) (upd H p u) := by
  refine ⟨fun a v e => ?_, fun a v e => ?_, s.gf, by simp [s.len], ?_, fun a ha => ?_, fun i q a e1 e2 => ?_⟩
  · have h : a ≠ p := by rintro rfl; have e' : w.G a = some v := e; rw [h1] at e'; cases e'
    rw [upd_ne h]; exact s.g a v e
  · have h : a ≠ p := by rintro rfl; rw [h2] at e; cases e
    rw [upd_ne h]; exact s.f a v e
  · rw [List.nodup_append]
    refine ⟨s.nd, by simp, fun a ha b hb => ?_⟩
    simp at hb; subst hb; rintro rfl; exact h3 ha
  · rcases List.mem_append.mp ha with ha | ha
    · exact s.ap a ha
    · simp at ha; subst ha; exact ⟨h1, h2⟩
  · by_cases hi : i < μ.length
    · rw [List.getElem?_append_left hi] at e1
      have e2' : (w.φ ++ [p])[i]? = some a := e2
      rw [List.getElem?_append_left (by rw [s.len]; exact hi)] at e2'
      have h : a ≠ p := by rintro rfl; exact h3 (List.mem_of_getElem? e2')
      rw [upd_ne h]; exact s.ob i q a e1 e2'
    · rw [List.getElem?_append_right (by omega)] at e1
      have e2' : (w.φ ++ [p])[i]? = some a := e2
      rw [List.getElem?_append_right (by rw [s.len]; omega)] at e2'
      have hz : i - μ.length = 0 := by
        cases e : i - μ.length with
        | zero => rfl
        | succ n => rw [e] at e1; simp at e1
      have hz' : i - w.φ.length = 0 := by rw [s.len]; exact hz
      rw [hz] at e1; rw [hz'] at e2'
      simp at e1 e2'; subst e1; subst e2'
      rw [upd_same]; exact r
end
section
variable {C : Cfg} {X : Cx} {k : Nat}
/-- the same wish where something stands beside -/
theorem Post.widen {α β : Type} {w : Wd} {F : Gm} {p : Addr} {u : HO} {Rel : Wd → α → β → Prop} {r : R α} {Q Q' : β → Hp → Prop} (hF : F p = none) (h : Post C X w F Rel r Q)
    (hok : ∀ a μ, r = .ok a μ → ∀ (w' : Wd) (b : β) (H' : Hp), Wd.le w w' → SR C.kp w' (setG F p u) μ H' → Rel w' a b → Q b H' → Q' b H') : Post C X w (setG F p u) Rel r Q' := by
  cases r with
  | ok a μ =>
    intro w' b H' l s rl
    exact hok a μ rfl w' b H' l s rl (h w' b H' l (s.weakF hF).1 rl)
  | exc c fs μ =>
    obtain ⟨W, t, q⟩ := h
    refine ⟨W, t, fun w' H' cls dx σ' l s rx => q w' H' cls dx σ' l (s.weakF hF).1 ?_⟩
    obtain ⟨e, d, vs, e1, e2, e3, e4, e5, e6⟩ := rx
    refine ⟨e, d, vs, e1, e2, e3, e4, ?_, e6⟩
    by_cases hd : d = p
    · subst hd; rw [setG_same] at e5; cases e5
    · rw [setG_ne hd] at e5; exact e5
  | stuck => exact h

/-! ### dicts -/
theorem same_key {a b : D} {ka kb : Key} (ha : keyV a = some ka) (hb : keyV b = some kb) : D.same a b = decide (ka = kb) := by
  cases a <;> simp only [keyV, reduceCtorEq, Option.some.injEq] at ha
  all_goals
    cases b <;> simp only [keyV, reduceCtorEq, Option.some.injEq] at hb
    all_goals
      subst ha; subst hb
      simp [D.same, eqStr_eq, Bool.beq_eq_decide_eq]
theorem key_rel {K : PySem.W.Frag} {w : Wd} {d : D} {v : V} {kk : Key} (r : RepV K w d v) (h : keyV d = some kk) : v = kV kk := by
  cases d <;> simp only [keyV, reduceCtorEq, Option.some.injEq] at h
  all_goals
    subst h
    simpa only [RepV, RepP, kV] using r
theorem keyOk_V {d : D} (h : keyOk d = true) : ∃ kk, keyV d = some kk := by
  cases d <;> simp [keyOk] at h <;> exact ⟨_, rfl⟩
theorem dct_look {K : PySem.W.Frag} {G : Gm} {kd : D} {kk : Key} (hk : keyV kd = some kk) {kvs : List (D × D)} {m : List (Key × V)} (r : DctR K G kvs m) {d : D} (e : lookD kd kvs = some d) : ∃ v, valV m kk = some v ∧ RepP K G d v := by
  induction r with
  | nil => simp [lookD] at e
  | @cons ka da k' v l m h1 h2 _ ih =>
    simp only [lookD] at e
    rw [same_key h1 hk] at e
    split at e
    · rename_i z
      cases e
      exact ⟨v, valV_pos (of_decide_eq_true z), h2⟩
    · rename_i z
      obtain ⟨v', e1, e2⟩ := ih e
      exact ⟨v', by rw [valV_neg (by simpa using z)]; exact e1, e2⟩
theorem dct_has {K : PySem.W.Frag} {G : Gm} {kd : D} {kk : Key} (hk : keyV kd = some kk) {kvs : List (D × D)} {m : List (Key × V)} (r : DctR K G kvs m) : hasD kd kvs = (m.any fun kv => decide (kv.1 = kk)) := by
  induction r with
  | nil => rfl
  | @cons ka da k' v l m h1 h2 _ ih =>
    simp only [hasD, List.any_cons]
    rw [same_key h1 hk, ih]
    cases decide (k' = kk) <;> simp
theorem dct_rep {K : PySem.W.Frag} {G : Gm} {kd d : D} {kk : Key} {v : V} (hk : keyV kd = some kk) (hd : RepP K G d v) {kvs : List (D × D)} {m : List (Key × V)} (r : DctR K G kvs m) : DctR K G (repD kd d kvs) (m.map fun kv => if kv.1 = kk then (kv.1, v) else kv) := by
  induction r with
  | nil => exact .nil
  | @cons ka da k' v' l m h1 h2 _ ih =>
    simp only [repD, List.map_cons]
    rw [same_key h1 hk]
    by_cases e : k' = kk
    · simp only [e, decide_true, if_true]; exact .cons (by rw [h1, e]) hd ih
    · simp only [e, decide_false, if_false, Bool.false_eq_true]; exact .cons h1 h2 ih
theorem dct_app {K : PySem.W.Frag} {G : Gm} {kvs : List (D × D)} {m : List (Key × V)} (r : DctR K G kvs m) {kvs' : List (D × D)} {m' : List (Key × V)} (r' : DctR K G kvs' m') : DctR K G (kvs ++ kvs') (m ++ m') := by
  induction r with
  | nil => exact r'
  | cons h1 h2 _ ih => exact .cons h1 h2 ih
theorem dct_put {K : PySem.W.Frag} {G : Gm} {kd d : D} {kk : Key} {v : V} (hk : keyV kd = some kk) (hd : RepP K G d v) {kvs : List (D × D)} {m : List (Key × V)} (r : DctR K G kvs m) : DctR K G (putD kd d kvs) (putK m kk v) := by
  unfold putD putK
  rw [dct_has hk r]
  split
  · exact dct_rep hk hd r
  · exact dct_app r (.cons hk hd .nil)
theorem dct_fold {K : PySem.W.Frag} {G : Gm} {l : List (D × D)} {m : List (Key × V)} (r : DctR K G l m) : ∀ {acc : List (D × D)} {am : List (Key × V)}, DctR K G acc am → DctR K G (l.foldl (fun acc p => putD p.1 p.2 acc) acc) (mergeK am m) := by
  induction r with
  | nil => exact fun h => h
  | @cons ka da k' v' l m h1 h2 _ ih => exact fun h => ih (dct_put h1 h2 h)
theorem dct_len {K : PySem.W.Frag} {G : Gm} {kvs : List (D × D)} {m : List (Key × V)} (r : DctR K G kvs m) : m.length = kvs.length := by
  induction r with
  | nil => rfl
  | cons _ _ _ ih => simp [ih]
theorem dct_zip {K : PySem.W.Frag} {G : Gm} : ∀ {ks ds : List D} {vs : List V}, ks.all keyOk = true → ks.length = ds.length → RepPs K G ds vs → ∃ m : List (Key × V), DctR K G (ks.zip ds) m ∧ m.length = ks.length ∧ m.map (fun kv => (kV kv.1, kv.2)) = (ks.map fun d => kV ((keyV d).getD (.inl 0))).zip vs
  | [], [], vs, _, _, r => by simp only [RepPs] at r; subst r; exact ⟨[], .nil, rfl, rfl⟩
  | kd :: ks, d :: ds, vs, h, hl, r => by
    simp only [RepPs] at r
    obtain ⟨v, t, rfl, p, q⟩ := r
    simp only [List.all_cons, Bool.and_eq_true] at h
    obtain ⟨kk, e⟩ := keyOk_V h.1
    obtain ⟨m, h1, h2, h3⟩ := dct_zip h.2 (by simpa using hl) q
    exact ⟨(kk, v) :: m, .cons e p h1, by simp [h2], by simp [e, h3]⟩
  | [], _ :: _, _, _, h, _ => by simp at h
  | _ :: _, [], _, _, h, _ => by simp at h

/-! ### keys that are tuples -/
theorem keyV_same {a b : D} {ka kb : Key} (ha : keyV a = some ka) (hb : keyV b = some kb) : D.same a b = decide (ka = kb) := same_key ha hb
theorem keysV_same : ∀ {l m : List D} {ka kb : List Key}, keysV l = some ka → keysV m = some kb → D.sames l m = decide (ka = kb)
  | [], [], ka, kb, h1, h2 => by simp [keysV] at h1 h2; subst h1; subst h2; simp [D.sames]
  | [], b :: m, ka, kb, h1, h2 => by
    simp only [keysV] at h1 h2
    cases h1
    split at h2
    · cases h2; simp [D.sames]
    · cases h2
  | a :: l, [], ka, kb, h1, h2 => by
    simp only [keysV] at h1 h2
    cases h2
    split at h1
    · cases h1; simp [D.sames]
    · cases h1
  | a :: l, b :: m, ka, kb, h1, h2 => by
    simp only [keysV] at h1 h2
    split at h1
    · rename_i x r e1 e2
      cases h1
      split at h2
      · rename_i y t e3 e4
        cases h2
        simp only [D.sames, keyV_same e1 e3, keysV_same e2 e4]
        by_cases c1 : x = y <;> by_cases c2 : r = t <;> simp [c1, c2]
      · cases h2
    · cases h1
theorem keyT_same {a b : D} {ka kb : List Key} (ha : keyT a = some ka) (hb : keyT b = some kb) : D.same a b = decide (ka = kb) := by
  cases a <;> simp only [keyT, reduceCtorEq] at ha
  cases b <;> simp only [keyT, reduceCtorEq] at hb
  simp only [D.same]
  exact keysV_same ha hb
theorem keysV_rel {K : PySem.W.Frag} {G : Gm} : ∀ {l : List D} {vs : List V} {ks : List Key}, RepPs K G l vs → keysV l = some ks → vs = ks.map kV
  | [], vs, ks, r, h => by simp [keysV] at h; subst h; simp only [RepPs] at r; subst r; rfl
  | d :: l, vs, ks, r, h => by
    simp only [RepPs] at r
    obtain ⟨v, t, rfl, p, q⟩ := r
    simp only [keysV] at h
    split at h
    · rename_i x r' e1 e2
      cases h
      have : v = kV x := key_rel (w := ⟨G, []⟩) (RepV.ofP p) e1
      rw [this, keysV_rel q e2]
      rfl
    · cases h
theorem keyTOk_T {d : D} (h : keyTOk d = true) : ∃ ks, keyT d = some ks := by
  cases d <;> simp only [keyTOk, reduceCtorEq, Bool.false_eq_true] at h
  rename_i l
  simp only [keyT]
  induction l with
  | nil => exact ⟨[], rfl⟩
  | cons a l ih =>
    simp only [List.all_cons, Bool.and_eq_true] at h
    obtain ⟨x, e1⟩ := keyOk_V h.1
    obtain ⟨r, e2⟩ := ih h.2
    exact ⟨x :: r, by simp only [keysV, e1, e2]⟩
/-- a key stands as a tuple -/
theorem keyT_at {K : PySem.W.Frag} {G : Gm} {d : D} {v : V} {ks : List Key} (r : RepP K G d v) (h : keyT d = some ks) : ∃ b, v = .ref b ∧ TupAt K G b (ks.map kV) := by
  cases d <;> simp only [keyT, reduceCtorEq] at h
  simp only [RepP] at r
  obtain ⟨a, vs, rfl, t, q⟩ := r
  have := keysV_rel q h
  subst this
  exact ⟨a, rfl, t⟩
theorem dctT_keys {K : PySem.W.Frag} {G : Gm} {kvs : List (D × D)} {xs : List (List Key × Addr × Value)} (r : DctT K G kvs xs) : ∀ q ∈ xs, TupAt K G q.2.1 (q.1.map kV) := by
  induction r with
  | nil => exact fun q hq => by simp at hq
  | cons e p _ _ _ ih =>
    intro q hq
    rcases List.mem_cons.mp hq with rfl | hq
    · obtain ⟨b, e1, t⟩ := keyT_at p e
      cases e1
      exact t
    · exact ih q hq
theorem dctT_look {K : PySem.W.Frag} {G : Gm} {kd : D} {kk : List Key} (hk : keyT kd = some kk) {kvs : List (D × D)} {m : List (List Key × Addr × Value)} (r : DctT K G kvs m) :
    match lookD kd kvs with
    | some d => ∃ p v, atKey m kk = some p ∧ RepP K G d v ∧ RelV v p.2
    | none => atKey m kk = none := by
  induction r with
  | nil => simp [lookD, atKey]
  | @cons ka da k' b v u l m h1 h2 h3 h4 _ ih =>
    simp only [lookD]
    rw [keyT_same h1 hk]
    by_cases e : k' = kk
    · simp only [e, decide_true, if_true]
      exact ⟨(b, u), v, atKey_pos rfl, h3, h4⟩
    · simp only [e, decide_false, Bool.false_eq_true, if_false]
      rw [atKey_neg e]
      exact ih
theorem dctT_has {K : PySem.W.Frag} {G : Gm} {kd : D} {kk : List Key} (hk : keyT kd = some kk) {kvs : List (D × D)} {m : List (List Key × Addr × Value)} (r : DctT K G kvs m) : hasD kd kvs = (atKey m kk).isSome := by
  induction r with
  | nil => rfl
  | @cons ka da k' b v u l m h1 h2 h3 h4 _ ih =>
    simp only [hasD]
    rw [keyT_same h1 hk]
    by_cases e : k' = kk
    · simp only [e, decide_true, if_true]
      rw [atKey_pos rfl]
      rfl
    · simp only [e, decide_false, Bool.false_eq_true, if_false]
      rw [atKey_neg e]
      exact ih
theorem dctT_rep {K : PySem.W.Frag} {G : Gm} {kd d : D} {kk : List Key} {v : V} {u : Value} (hk : keyT kd = some kk) (hd : RepP K G d v) (ru : RelV v u) {kvs : List (D × D)} {m : List (List Key × Addr × Value)} (r : DctT K G kvs m) : DctT K G (repD kd d kvs) (m.map (putAt kk u)) := by
  induction r with
  | nil => exact .nil
  | @cons ka da k' b v' u' l m h1 h2 h3 h4 _ ih =>
    simp only [repD, List.map_cons]
    rw [keyT_same h1 hk]
    unfold putAt
    by_cases e : k' = kk
    · simp only [e, decide_true, if_true]; exact .cons (by rw [h1, e]) h2 hd ru ih
    · simp only [e, decide_false, if_false, Bool.false_eq_true]; exact .cons h1 h2 h3 h4 ih
theorem dctT_snoc {K : PySem.W.Frag} {G : Gm} {kd d : D} {kk : List Key} {b : Addr} {v : V} {u : Value} (hk : keyT kd = some kk) (hb : RepP K G kd (.ref b)) (hd : RepP K G d v) (ru : RelV v u) {kvs : List (D × D)} {m : List (List Key × Addr × Value)} (r : DctT K G kvs m) : DctT K G (kvs ++ [(kd, d)]) (m ++ [(kk, b, u)]) := by
  induction r with
  | nil => exact .cons hk hb hd ru .nil
  | cons h1 h2 h3 h4 _ ih => exact .cons h1 h2 h3 h4 ih
theorem dctT_put {K : PySem.W.Frag} {G : Gm} {kd d : D} {kk : List Key} {b : Addr} {v : V} {u : Value} (hk : keyT kd = some kk) (hb : RepP K G kd (.ref b)) (hd : RepP K G d v) (ru : RelV v u) {kvs : List (D × D)} {m : List (List Key × Addr × Value)} (r : DctT K G kvs m) : DctT K G (putD kd d kvs) (storedH m kk b u) := by
  unfold putD storedH
  rw [dctT_has hk r]
  split
  · exact dctT_rep hk hd ru r
  · exact dctT_snoc hk hb hd ru r
theorem dctT_len {K : PySem.W.Frag} {G : Gm} {kvs : List (D × D)} {m : List (List Key × Addr × Value)} (r : DctT K G kvs m) : m.length = kvs.length := by
  induction r with
  | nil => rfl
  | cons _ _ _ _ _ ih => simp [ih]
/-- where a dict of tuple keys stands -/
theorem gt_of (I : CxI C k X) {w : Wd} {F : Gm} {μ : Store} {H : Hp} {a : Addr} {kvs : List (D × D)} {xs : List (List Key × Addr × Value)} {dy : D} {y : V} {kk : List Key} (S : SR C.kp w F μ H) (e : H a = some (dTo C.P C.w a xs)) (r : DctT C.K w.G kvs xs)
    (ry : RepV C.K w dy y) (hk : keyT dy = some kk) : ∃ b, GT X H a y xs kk b ∧ RepP C.K w.G dy (.ref b) := by
  have ny : dy.isRef = false := by cases dy <;> first | rfl | (simp [keyT] at hk)
  obtain ⟨b, rfl, t⟩ := keyT_at (ry.toP ny) hk
  refine ⟨b, ⟨by rw [I.prog, I.w]; exact e, fun q hq => by rw [I.K]; exact (dctT_keys r q hq).seq S.g, rfl, by rw [I.K]; exact t.seq S.g⟩, ry.toP ny⟩
theorem dget_imp {fa fi : Env → Store → R D} {x y : Expr} {pos : Pos} (I : CxI C k X) (ha : PE X x (tE C X fa)) (hi : PE X y (tE C X fi)) (hy : isSlice y = false) :
    PE X (.Subscript x y pos) (tE C X fun ρ μ => (fa ρ μ).bind fun x μ => (fi ρ μ).bind fun y μ => liftO (dgetD μ x y) μ) := by
  refine PE.imp (pe_gget (by have := I.room.un; omega) ha hi (noSl hy)) ?_
  intro σ H Q q
  obtain ⟨w, F, ρ, μ, s, en, h⟩ := bin_imp (f := fun μ a i => liftO (dgetD μ a i) μ) σ H Q q
  refine ⟨w, F, ρ, μ, s, en, h.mono ?_⟩
  rintro a H1 ⟨w1, F1, ρ1, μ1, s1, en1, h1⟩
  refine ⟨w1, F1, ρ1, μ1, s1, en1, h1.mono ?_⟩
  rintro i H2 ⟨w2, F2, μ2, dx, dy, s2, r1, r2, h2⟩
  obtain ⟨d, e, h3⟩ := h2.lift
  unfold dgetD at e
  split at e
  · rename_i j
    split at e
    · rename_i kvs hkv
      split at e
      · rename_i hk
        obtain ⟨kk, e1⟩ := keyOk_V hk
        have := key_rel r2 e1
        subst this
        obtain ⟨p, h4, rfl⟩ := r1
        obtain ⟨p', h5, ks, h6, h7⟩ := s2.at hkv
        rw [h4] at h5
        cases h5
        obtain ⟨v, e2, e3⟩ := dct_look e1 h7 e
        exact ⟨p, rfl, .inl ⟨v, e2 ▸ DGet.k h6, h3.ok s2 (RepV.ofP e3)⟩⟩
      · cases e
    · rename_i kvs hkv
      split at e
      · rename_i hk
        obtain ⟨kk, e1⟩ := keyTOk_T hk
        obtain ⟨p, h4, rfl⟩ := r1
        obtain ⟨p', h5, ks, h6, h7⟩ := s2.at hkv
        rw [h4] at h5
        cases h5
        obtain ⟨b, g, _⟩ := gt_of I s2 h6 h7 r2 e1
        have z := dctT_look e1 h7
        rw [e] at z
        obtain ⟨pp, v, z1, z2, z3⟩ := z
        exact ⟨p, rfl, .inr ⟨_, _, _, _, g, z1, v, z3, h3.ok s2 (RepV.ofP z2)⟩⟩
      · cases e
    · cases e
  · cases e
/-- k in d -/
theorem hasO_opt (I : CxI C k X) {w : Wd} {F : Gm} {μ : Store} {H : Hp} {dx dy : D} {x y : V} {b : Bool} (S : SR C.kp w F μ H) (rx : RepV C.K w dx x) (ry : RepV C.K w dy y) (e : hasO μ dx dy = some b) {Q : Bool → Prop} (q : Q b) : ∃ a, x = .ref a ∧ GOpt X H a y Q := by
  unfold hasO at e
  split at e
  · rename_i j
    split at e
    · rename_i kvs hkv
      split at e
      · rename_i hk
        cases e
        obtain ⟨kk, e1⟩ := keyOk_V hk
        have := key_rel ry e1
        subst this
        obtain ⟨p, h4, rfl⟩ := rx
        obtain ⟨p', h5, ks, h6, h7⟩ := S.at hkv
        rw [h4] at h5
        cases h5
        refine ⟨p, rfl, .inl ⟨_, DGet.k h6, ?_⟩⟩
        rw [dct_has e1 h7, valV_any] at q
        exact q
      · cases e
    · rename_i kvs hkv
      split at e
      · rename_i hk
        cases e
        obtain ⟨kk, e1⟩ := keyTOk_T hk
        obtain ⟨p, h4, rfl⟩ := rx
        obtain ⟨p', h5, ks, h6, h7⟩ := S.at hkv
        rw [h4] at h5
        cases h5
        obtain ⟨b, g, _⟩ := gt_of I S h6 h7 ry e1
        rw [dctT_has e1 h7] at q
        exact ⟨p, rfl, .inr ⟨_, _, _, g, q⟩⟩
      · cases e
    · cases e
  · cases e
theorem din_imp {fa fb : Env → Store → R D} {x y : Expr} {neg : Bool} {pos : Pos} (I : CxI C k X) (ha : PE X x (tE C X fa)) (hb : PE X y (tE C X fb)) (hy : isSet y = false) :
    PE X (.Compare x [if neg then .NotIn else .In] [y] pos) (tE C X fun ρ μ => (fa ρ μ).bind fun x μ => (fb ρ μ).bind fun y μ => op2D (.din neg) x y μ) := by
  have red : ∀ σ H Q, tE C X (fun ρ μ => (fa ρ μ).bind fun x μ => (fb ρ μ).bind fun y μ => op2D (.din neg) x y μ) σ H Q → tE C X fa σ H fun y H1 => tE C X fb σ H1 fun x H2 => ∃ a, x = .ref a ∧ GOpt X H2 a y fun b => Q (.bl (if neg then !b else b)) H2 := by
    intro σ H Q q
    obtain ⟨w, F, ρ, μ, s, en, h⟩ := q
    refine ⟨w, F, ρ, μ, s, en, (Post.bind (Rel := RepV C.K) h).mono ?_⟩
    rintro v1 H1 ⟨w1, d1, μ1, l1, s1, r1, h1⟩
    refine ⟨w1, F, ρ, μ1, s1, en.mono l1, (Post.bind (Rel := RepV C.K) h1).mono ?_⟩
    rintro v2 H2 ⟨w2, d2, μ2, l2, s2, r2, h2⟩
    obtain ⟨d, e, h3⟩ := h2.lift
    obtain ⟨b, e2, rfl⟩ := Option.map_eq_some_iff.mp e
    exact hasO_opt I s2 r2 (r1.mono l2) e2 (h3.ok s2 (by simp only [RepV, RepP]))
  cases neg with
  | false => exact PE.imp (pe_cmp (pc_gin (by have := I.room.un; omega) ha hb) (nobeh hy .In)) red
  | true => exact PE.imp (pe_cmp (pc_gnotin (by have := I.room.un; omega) ha hb) (nobeh hy .NotIn)) red
theorem has_none {dy : D} : ∀ {kvs : List (D × D)}, lookD dy kvs = none → hasD dy kvs = false
  | [], _ => rfl
  | (qa, qb) :: kvs, hl => by
    simp only [lookD] at hl
    split at hl
    · cases hl
    · rename_i hne
      simp only [hasD]
      rw [if_neg hne]
      exact has_none hl
theorem gdef_imp {fo fe ff : Env → Store → R D} {o e f : Expr} {y : Str} {ap cp : Pos} (I : CxI C k X) (hy : eqStr y "get" = true) (hl : (ap.endLine == cp.line) = true) (hs : starred e = false) (hs2 : starred f = false) (hn : notSup o = true)
    (ho : PE X o (tE C X fo)) (he : PE X e (tE C X fe)) (hf : PE X f (tE C X ff)) :
    PE X (.Call (.Attribute o y ap) [e, f] [] cp) (tE C X fun ρ μ => (fo ρ μ).bind fun x μ => if isDct μ x then (fe ρ μ).bind fun y μ => (ff ρ μ).bind fun z μ => if z.isRef then .stuck else op3D .dget x y z μ else .stuck) := by
  have := eqStr_iff.mp hy
  subst this
  have st2 := star_of hs2 [] X.env
  have st : starEach [e, f] X.env = (false, eval e X.env) :: starEach [f] X.env := star_of hs [f] X.env
  refine PE.imp (pe_gdef (by have := I.room.un; omega) ho he hf ⟨base_ok hn _ _, by rw [st, st2]; rfl, hl, by rw [st, st2]; rfl⟩) ?_
  rintro σ H Q ⟨w, F, ρ, μ, s, en, h⟩
  refine ⟨w, F, ρ, μ, s, en, (Post.bind (Rel := RepV C.K) h).mono ?_⟩
  rintro x H1 ⟨w1, dx, μ1, l1, s1, r1, h1⟩
  split at h1
  · rename_i hd
    have dk : ∃ a, x = .ref a ∧ DK X H1 a := by
      unfold isDct at hd
      split at hd
      · rename_i i
        split at hd
        · rename_i kvs hkv
          obtain ⟨p, h4, rfl⟩ := r1
          obtain ⟨p', h5, ks, h6, h7⟩ := s1.at hkv
          rw [h4] at h5
          cases h5
          exact ⟨p, rfl, .inl ⟨_, h6⟩⟩
        · rename_i kvs hkv
          obtain ⟨p, h4, rfl⟩ := r1
          obtain ⟨p', h5, ks, h6, h7⟩ := s1.at hkv
          rw [h4] at h5
          cases h5
          exact ⟨p, rfl, .inr ⟨_, by rw [I.prog, I.w]; exact h6, fun q hq => by rw [I.K]; exact (dctT_keys h7 q hq).seq s1.g⟩⟩
        · cases hd
      · cases hd
    obtain ⟨a, rfl, dk⟩ := dk
    refine ⟨a, rfl, dk, w1, F, ρ, μ1, s1, en.mono l1, (Post.bind (Rel := RepV C.K) h1).mono ?_⟩
    rintro y H2 ⟨w2, dy, μ2, l2, s2, r2, h2⟩
    refine ⟨w2, F, ρ, μ2, s2, (en.mono l1).mono l2, (Post.bind (Rel := RepV C.K) h2).mono ?_⟩
    rintro z H3 ⟨w3, dz, μ3, l3, s3, r3, h3⟩
    split at h3
    · exact False.elim h3
    · rename_i nz
      obtain ⟨dd, e, h4⟩ := h3.lift
      obtain ⟨o, e2, rfl⟩ := Option.map_eq_some_iff.mp e
      have r1' := (r1.mono l2).mono l3
      have r2' := r2.mono l3
      unfold getO at e2
      split at e2
      · rename_i j
        split at e2
        · rename_i kvs hkv
          split at e2
          · rename_i hk
            cases e2
            obtain ⟨kk, e1⟩ := keyOk_V hk
            have := key_rel r2' e1
            subst this
            obtain ⟨p, h5, h6⟩ := r1'
            cases h6
            obtain ⟨p', h7, ks, h8, h9⟩ := s3.at hkv
            rw [h5] at h7
            cases h7
            refine .inl ⟨_, DGet.k h8, ?_⟩
            cases hl : lookD dy kvs with
            | some d =>
              obtain ⟨v, e3, e4⟩ := dct_look e1 h9 hl
              rw [e3]
              rw [hl] at h4
              exact h4.ok s3 (RepV.ofP e4)
            | none =>
              rw [hl] at h4
              have hh : hasD dy kvs = false := has_none hl
              have e3 : valV ks kk = none := by
                have := dct_has e1 h9
                rw [hh, valV_any] at this
                cases hv : valV ks kk with
                | none => rfl
                | some _ => rw [hv] at this; cases this
              rw [e3]
              exact h4.ok s3 r3
          · cases e2
        · rename_i kvs hkv
          split at e2
          · rename_i hk
            cases e2
            obtain ⟨kk, e1⟩ := keyTOk_T hk
            obtain ⟨p, h5, h6⟩ := r1'
            cases h6
            obtain ⟨p', h7, ks, h8, h9⟩ := s3.at hkv
            rw [h5] at h7
            cases h7
            obtain ⟨b, g, _⟩ := gt_of I s3 h8 h9 r2' e1
            have z := dctT_look e1 h9
            cases hl : lookD dy kvs with
            | some d =>
              rw [hl] at z h4
              obtain ⟨pp, v, z1, z2, z3⟩ := z
              exact .inr ⟨_, _, _, some v, g, by rw [z1]; exact z3, h4.ok s3 (RepV.ofP z2)⟩
            | none =>
              rw [hl] at z h4
              exact .inr ⟨_, _, _, none, g, by rw [z]; exact True.intro, h4.ok s3 r3⟩
          · cases e2
        · cases e2
      · cases e2
  · exact False.elim h1
theorem newT_imp {pos : Pos} (I : CxI C k X) : PE X (.Dict [] [] pos) (tE C X fun ρ μ => .ok (.ref μ.length) (μ ++ [.dcT []])) := by
  refine PE.imp pe_gnewT ?_
  rintro σ H Q ⟨w, F, ρ, μ, s, en, h⟩ p hp
  refine h ⟨w.G, w.φ ++ [p]⟩ (.ref p) _ Wd.le_newO (s.newO hp ⟨[], by rw [I.prog, I.w], .nil⟩) ?_
  exact ⟨p, by show (w.φ ++ [p])[μ.length]? = some p; rw [← s.len]; simp, rfl⟩

theorem pairs_rel {f : EvE} {pos : Pos} (m : ME) (hE : ∀ a e, m a e = true → PE X e (tE C X (f a))) : ∀ (ks : List D) (keys : List (Option Expr)) (as : List Ex) (vals : List Expr), ks.all keyOk = true → mKeys ks keys = true → mList m as vals = true → ks.length = as.length →
    keys.length = ks.length ∧ vals.length = as.length ∧ keys.all (·.isSome) = true ∧ ∃ trs, PPs X pos keys vals trs ∧ ∀ (σ : L2.St) (H : Hp) (w : Wd) (F : Gm) (ρ : Env) (μ : Store) (Qs : List V → Hp → Prop), SR C.kp w F μ H → EnvR C.K w ρ σ → Post C X w F (fun w' => RepPs C.K w'.G) (evs f as ρ μ) Qs →
      ∀ (Q' : List (V × V) → Hp → Prop), (∀ vs H2, Qs vs H2 → Q' ((ks.map fun d => kV ((keyV d).getD (.inl 0))).zip vs) H2) → tPairs trs σ H Q'
  | [], [], [], [], _, _, _, _ => ⟨rfl, rfl, rfl, [], pps_nil, fun σ H w F ρ μ Qs s en h Q' i => i [] H (h.ok s (by simp only [RepPs]))⟩
  | kd :: ks, some (.Constant c j p) :: keys, a :: as, e :: es, hk, hm, hl, hlen => by
    simp only [mKeys, Bool.and_eq_true] at hm
    simp only [mList, Bool.and_eq_true, Bool.not_eq_true'] at hl
    simp only [List.all_cons, Bool.and_eq_true] at hk
    obtain ⟨l1, l2, l3, trs, P, ih⟩ := pairs_rel (pos := pos) m hE ks keys as es hk.2 hm.2 hl.2 (by simpa using hlen)
    obtain ⟨kk, ek⟩ := keyOk_V hk.1
    have hkey : PE X (.Constant c j p) (tC (kV kk)) := by
      cases kd <;> simp only [keyV, reduceCtorEq, Option.some.injEq] at ek
      all_goals
        subst ek
        cases c <;> first | (simp [mCon] at hm; done) | skip
      · simp only [mCon, decide_eq_true_eq] at hm
        obtain ⟨rfl, _⟩ := hm
        exact pe_int
      · simp only [mCon] at hm
        have := eqStr_iff.mp hm.1
        subst this
        exact pe_str
    refine ⟨by simp [l1], by simp [l2], by simp [l3], _, pps_cons hkey (hE a e hl.1.2) P, ?_⟩
    intro σ H w F ρ μ Qs s en h Q' i
    refine ⟨w, F, ρ, μ, s, en, (Post.bind (Rel := RepV C.K) h).mono ?_⟩
    rintro x H1 ⟨w1, d, μ1, l1, s1, r1, h1⟩
    have h1' : Post C X w1 F (fun w' => RepPs C.K w'.G) (evs f as ρ μ1) fun vs H2 => Qs (x :: vs) H2 := by
      refine (Post.bind (Rel := fun w' => RepPs C.K w'.G) h1).mono ?_
      rintro xs H2 ⟨w2, ds, μ2, l2, s2, r2, h2⟩
      split at h2
      · exact False.elim h2
      · rename_i hr
        exact h2.ok s2 (RepPs.cons ((r1.mono l2).toP (by simpa using hr)) r2)
    refine ih σ H1 w1 F ρ μ1 _ s1 (en.mono l1) h1' _ ?_
    intro vs H2 q
    have := i (x :: vs) H2 q
    simpa [ek] using this
  | [], [], [], _ :: _, _, _, h, _ => by simp [mList] at h
  | [], [], _ :: _, _, _, _, _, h => by simp at h
  | [], _ :: _, _, _, _, h, _, _ => by simp [mKeys] at h
  | _ :: _, [], _, _, _, h, _, _ => by simp [mKeys] at h
  | _ :: _, none :: _, _, _, _, h, _, _ => by simp [mKeys] at h
  | _ :: _, _ :: _, [], _, _, _, _, h => by simp at h
  | _ :: _, some _ :: _, _ :: _, [], _, _, h, _ => by simp [mList] at h
theorem dict_imp {f : EvE} {m : ME} {ks : List D} {keys : List (Option Expr)} {as : List Ex} {vals : List Expr} {pos : Pos} (hE : ∀ a e, m a e = true → PE X e (tE C X (f a))) (hk : ks.all keyOk = true) (hm : mKeys ks keys = true) (hl : mList m as vals = true) (h15 : Nat.ble ks.length 15 = true) (hlen : Nat.beq ks.length as.length = true) :
    PE X (.Dict keys vals pos) (tE C X fun ρ μ => (evs f as ρ μ).bind fun ds μ => (liftO (dictO ks ds) μ).bind fun kvs μ => .ok (.ref μ.length) (μ ++ [.dct (kvs.foldl (fun acc p => putD p.1 p.2 acc) [])])) := by
  have h15 := Nat.le_of_ble_eq_true h15
  have hlen := Nat.eq_of_beq_eq_true hlen
  obtain ⟨l1, l2, l3, trs, P, key⟩ := pairs_rel (pos := pos) m hE ks keys as vals hk hm hl hlen
  have fin : ∀ {w : Wd} {F : Gm} {μ : Store} {Q : VK} {p : Addr} {ds : List D} {w1 : Wd} {μ1 : Store} {vs : List V} {H2 : Hp}, F p = none → Wd.le w w1 → SR C.kp w1 (setG F p (.dK [])) μ1 H2 → RepPs C.K w1.G ds vs →
      Post C X w F (RepV C.K) ((liftO (dictO ks ds) μ1).bind fun kvs μ => .ok (.ref μ.length) (μ ++ [.dct (kvs.foldl (fun acc p => putD p.1 p.2 acc) [])])) Q →
      H2 p = some (.dK []) ∧ ∃ kvs : List (Key × V), (ks.map fun d => kV ((keyV d).getD (.inl 0))).zip vs = kvs.map (fun kv => (kV kv.1, kv.2)) ∧ kvs.length ≤ 15 ∧ Q (.ref p) (upd H2 p (.dK (mergeK [] kvs))) := by
    intro w F μ Q p ds w1 μ1 vs H2 hF l s r h
    obtain ⟨s0, gp, np, hp⟩ := s.weakF hF
    refine ⟨hp, ?_⟩
    generalize hd : dictO ks ds = o at h
    cases o with
    | none => exact False.elim h
    | some kvs =>
      unfold dictO at hd
      split at hd
      · rename_i z
        cases hd
        simp only [Bool.and_eq_true] at z
        obtain ⟨mm, d1, d2, d3⟩ := dct_zip hk (Nat.eq_of_beq_eq_true z.1.2) r
        refine ⟨mm, d3.symm, by omega, ?_⟩
        have h' : Post C X w F (RepV C.K) (.ok (.ref μ1.length) (μ1 ++ [.dct ((ks.zip ds).foldl (fun acc p => putD p.1 p.2 acc) [])])) Q := h
        refine h' ⟨w1.G, w1.φ ++ [p]⟩ (.ref p) _ (Wd.le_trans l Wd.le_newO) (s0.putO gp hF np ⟨_, rfl, dct_fold d1 .nil⟩) ?_
        exact ⟨p, by show (w1.φ ++ [p])[μ1.length]? = some p; rw [← s0.len]; simp, rfl⟩
      · cases hd
  by_cases h0 : keys = []
  · subst h0
    have e1 : ks = [] := List.eq_nil_of_length_eq_zero (by simpa using l1.symm)
    subst e1
    have e2 : as = [] := List.eq_nil_of_length_eq_zero (by simpa using hlen.symm)
    subst e2
    have e3 : vals = [] := List.eq_nil_of_length_eq_zero (by simpa using l2)
    subst e3
    refine PE.imp pe_dnewK ?_
    rintro σ H Q ⟨w, F, ρ, μ, s, en, h⟩ p hp
    have hF := (s.ne_of_none hp).2.1
    obtain ⟨_, kvs, e, _, q⟩ := fin (ds := []) (vs := []) (μ := μ) hF (Wd.le_refl w) (s.newF hp) (by simp only [RepPs]) h
    have : kvs = [] := by cases kvs with | nil => rfl | cons _ _ => simp at e
    subst this
    have e5 : upd (upd H p (.dK [])) p (.dK (mergeK [] [])) = upd H p (.dK []) := by
      funext b
      unfold upd
      split <;> rfl
    rw [e5] at q
    exact q
  · refine PE.imp (pe_disp P l3 (by omega) h0 (by omega)) ?_
    rintro σ H Q ⟨w, F, ρ, μ, s, en, h⟩ p hp
    have hF := (s.ne_of_none hp).2.1
    have h1 : Post C X w F (fun w' => RepPs C.K w'.G) (evs f as ρ μ) _ := Post.bind h
    refine key σ _ w _ ρ μ _ (s.newF (u := .dK []) hp) en (Post.widen (u := .dK []) hF h1 (Q' := fun vs H2 => H2 p = some (.dK []) ∧ ∃ kvs : List (Key × V), (ks.map fun d => kV ((keyV d).getD (.inl 0))).zip vs = kvs.map (fun kv => (kV kv.1, kv.2)) ∧ kvs.length ≤ 15 ∧ Q (.ref p) (upd H2 p (.dK (mergeK [] kvs)))) ?_) _ (fun vs H2 q => q)
    rintro ds μ1 e w1 vs H2 l1 s1 r1 _
    simp only [e] at h
    exact fin (μ := μ) hF l1 s1 r1 h
end
end EV

/-! EV: tuple(range(..)), list(range(..)). -/
namespace EV
open PySem PySem.Spec PyProof.Rows L2
def NewS (tup : Bool) (vs : List V) (H : Hp) (Q : VK) : Prop := match tup with
  | true => NewT vs H Q
  | false => ∀ q, H q = none → Q (.ref q) (upd H q (.lst vs))
theorem range_rel {K : PySem.W.Frag} {G : Gm} (a : Int) : ∀ (n i : Nat), RepPs K G (rangeD (a + (i : Nat)) n) ((List.range' i n).map fun (j : Nat) => V.int (a + (j : Nat)))
  | 0, i => by simp [rangeD, RepPs]
  | n + 1, i => by
    have ih := range_rel (K := K) (G := G) a n (i + 1)
    have e : a + ((i + 1 : Nat) : Int) = a + (i : Int) + 1 := by omega
    rw [e] at ih
    simp only [rangeD, List.range'_succ, List.map_cons]
    exact RepPs.cons (by simp only [RepP]) ih
theorem rgV_rel {K : PySem.W.Frag} {G : Gm} (a b : Int) : RepPs K G (rangeD a (b - a).toNat) (rgV a b) := by
  have := range_rel (K := K) (G := G) a (b - a).toNat 0
  rw [← List.range_eq_range'] at this
  simpa [rgV] using this
theorem rngD_ok {a b : Int} {l : List D} (h : rngD a b = some l) : RgOk a b ∧ l = rangeD a (b - a).toNat := by
  unfold rngD at h
  split at h
  · rename_i z
    simp only [Bool.and_eq_true, decide_eq_true_eq] at z
    cases h
    have z2 := Nat.le_of_ble_eq_true z.2
    have : cap = 16777216 := rfl
    exact ⟨⟨by omega, by omega, by omega, by omega, by omega⟩, rfl⟩
  · cases h
section
variable {C : Cfg} {X : Cx} {k : Nat}
theorem rng_new {w : Wd} {F : Gm} {μ : Store} {H : Hp} {Q : VK} {tup : Bool} {a b : Int} (S : SR C.kp w F μ H) (h : Post C X w F (RepV C.K) (liftO ((rngD a b).map fun l => if tup then D.tup l else .lst l) μ) Q) :
    RgOk a b ∧ NewS tup (rgV a b) H Q := by
  obtain ⟨d, e, h2⟩ := h.lift
  obtain ⟨l, e1, rfl⟩ := Option.map_eq_some_iff.mp e
  obtain ⟨ok, rfl⟩ := rngD_ok e1
  refine ⟨ok, ?_⟩
  cases tup with
  | true => exact new_tup S (rgV_rel a b) h2
  | false => exact new_lst S (rgV_rel a b) h2
theorem trng1_imp {fb : Env → Store → R D} {tup : Bool} {x y : Str} {e : Expr} {p p' q' pos : Pos} (B : Bnd C) (I : CxI C k X) (h1 : isBlt C.n X.env.scope (if tup then "tuple" else "list") x = true) (h2 : isBlt C.n X.env.scope "range" y = true) (hs : starred e = false) (hb : PE X e (tE C X fb)) :
    PE X (.Call (.Name x p) [.Call (.Name y p') [e] [] q'] [] pos) (tE C X fun ρ μ => (fb ρ μ).bind fun d μ => liftO (((asI d).bind (rngD 0)).map fun l => if tup then D.tup l else .lst l) μ) := by
  obtain ⟨rfl, g2, m2⟩ := blt_ok B I h2
  have st := star_of hs [] X.env
  have red : ∀ σ H Q, tE C X (fun ρ μ => (fb ρ μ).bind fun d μ => liftO (((asI d).bind (rngD 0)).map fun l => if tup then D.tup l else .lst l) μ) σ H Q → tRg1 (tE C X fb) σ H fun a b H1 => RgOk a b ∧ NewS tup (rgV a b) H1 Q := by
    intro σ H Q q
    refine un_imp (f := fun μ d => liftO (((asI d).bind (rngD 0)).map fun l => if tup then D.tup l else .lst l) μ) q ?_
    intro w F μ d x H1 s r h
    cases hd : asI d with
    | none => rw [hd] at h; exact False.elim h
    | some i => rw [hd] at h; exact ⟨i, asI_rel r hd, rng_new s h⟩
  cases tup with
  | true =>
    obtain ⟨rfl, g1, m1⟩ := blt_ok B I h1
    exact PE.imp (pe_tupRgF I.calm g1 m1 (prg_1 g2 m2 hb st)) red
  | false =>
    obtain ⟨rfl, g1, m1⟩ := blt_ok B I h1
    exact PE.imp (pe_listRg I.calm g1 m1 (prg_1 g2 m2 hb st)) red
theorem trng2_imp {fa fb : Env → Store → R D} {tup : Bool} {x y : Str} {e e' : Expr} {p p' q' pos : Pos} (B : Bnd C) (I : CxI C k X) (h1 : isBlt C.n X.env.scope (if tup then "tuple" else "list") x = true) (h2 : isBlt C.n X.env.scope "range" y = true) (hs : starred e = false) (hs' : starred e' = false) (ha : PE X e (tE C X fa)) (hb : PE X e' (tE C X fb)) :
    PE X (.Call (.Name x p) [.Call (.Name y p') [e, e'] [] q'] [] pos) (tE C X fun ρ μ => ((fa ρ μ).bind fun d μ => liftO (asI d) μ).bind fun i μ => (fb ρ μ).bind fun d μ => liftO (((asI d).bind (rngD i)).map fun l => if tup then D.tup l else .lst l) μ) := by
  obtain ⟨rfl, g2, m2⟩ := blt_ok B I h2
  have st2 := star_of hs' [] X.env
  have st : starEach [e, e'] X.env = (false, eval e X.env) :: starEach [e'] X.env := star_of hs [e'] X.env
  have red : ∀ σ H Q, tE C X (fun ρ μ => ((fa ρ μ).bind fun d μ => liftO (asI d) μ).bind fun i μ => (fb ρ μ).bind fun d μ => liftO (((asI d).bind (rngD i)).map fun l => if tup then D.tup l else .lst l) μ) σ H Q →
      tRg2 (tE C X fa) (tE C X fb) σ H fun a b H1 => RgOk a b ∧ NewS tup (rgV a b) H1 Q := by
    rintro σ H Q ⟨w, F, ρ, μ, s, en, h⟩
    have h : Post C X w F (RepV C.K) ((fa ρ μ).bind fun d μ => (liftO (asI d) μ).bind fun i μ => (fb ρ μ).bind fun d μ => liftO (((asI d).bind (rngD i)).map fun l => if tup then D.tup l else .lst l) μ) Q := by
      have e1 : ∀ (r : R D), ((r.bind fun d μ => liftO (asI d) μ).bind fun i μ => (fb ρ μ).bind fun d μ => liftO (((asI d).bind (rngD i)).map fun l => if tup then D.tup l else .lst l) μ) = r.bind fun d μ => (liftO (asI d) μ).bind fun i μ => (fb ρ μ).bind fun d μ => liftO (((asI d).bind (rngD i)).map fun l => if tup then D.tup l else .lst l) μ := fun r => by cases r <;> rfl
      rw [← e1]
      exact h
    refine ⟨w, F, ρ, μ, s, en, (Post.bind (Rel := RepV C.K) h).mono ?_⟩
    rintro v H1 ⟨w1, d, μ1, l1, s1, r1, h1⟩
    cases hd : asI d with
    | none => rw [hd] at h1; exact False.elim h1
    | some i =>
      rw [hd] at h1
      refine ⟨w1, F, ρ, μ1, s1, en.mono l1, (Post.bind (Rel := RepV C.K) (f := fun d μ => liftO (((asI d).bind (rngD i)).map fun l => if tup then D.tup l else .lst l) μ) h1).mono ?_⟩
      rintro v2 H2 ⟨w2, d2, μ2, l2, s2, r2, h2⟩
      cases hd2 : asI d2 with
      | none => rw [hd2] at h2; exact False.elim h2
      | some j => rw [hd2] at h2; exact ⟨i, j, asI_rel r1 hd, asI_rel r2 hd2, rng_new s2 h2⟩
  cases tup with
  | true =>
    obtain ⟨rfl, g1, m1⟩ := blt_ok B I h1
    exact PE.imp (pe_tupRgF I.calm g1 m1 (prg_2 g2 m2 ha hb st st2 (by rw [st2]; rfl))) red
  | false =>
    obtain ⟨rfl, g1, m1⟩ := blt_ok B I h1
    exact PE.imp (pe_listRg I.calm g1 m1 (prg_2 g2 m2 ha hb st st2 (by rw [st2]; rfl))) red
end
end EV

/-! EV: sorted(set(..)) of a list of ints. What set() makes of a list, as the layer has it of a tuple (HandS.SetFor). -/
namespace EV
open PySem PySem.Spec PyProof.Rows L2
section
variable {P : Program} {w : World} {A : Around} {E : Value → Shared → Prop} {s : Shared}
theorem set_of_list {l : Addr} {items : Array Value} (ns : List Int) {Q : Value → Shared → Prop} (hh : A.handled = none) (hl : s.heap.IsList l items) (hit : IntsAre items.toList ns) (hb : ns.length + 1 < scanBound)
    (h : ∀ (h' : Heap) (tk c : Nat), SetR w h' s.heap.objs.size (fun j => decide (j ∈ ns)) c → c ≤ ns.length → (∀ b o, s.heap.get? b = some o → h'.get? b = some o) → Q (.ref s.heap.objs.size) { s with heap := h', toks := tk }) :
    wpAny (model P w) A (call (.type "set") [.ref l]) Q E s := by
  have hisz : items.size = ns.length := by
    have q := IntsAre.length hit
    rw [Array.length_toList] at q
    exact q
  obtain ⟨c, tl, hmro⟩ := F.called_set.mro
  have hmade := F.called_set.made
  have hsub := F.called_set.sub
  refine wpAny_call (codeAny_of_tree ?_)
  show wpAny _ _ (callAny (.type "set") _) _ _ _
  refine wpAny_pure ⟨Code.quiet_builtin _ (by decide +kernel), codeAny_builtin F.entry_type_call ?_⟩
  rw [Around.under_plain (weight_type_call_type "set" [.ref l] []) rfl]
  have h1 := F.called_set.notType
  have h2 := F.called_set.canCreate
  have hct := F.typeCall_set_1 (.ref l)
  repeat (any_goals (first | assumption | wp_step))

  refine codeAny_mono (code_set_led1 (.ref l) (E := E) (Q₁ := fun obj s₁ => obj = .ref s.heap.objs.size ∧ s₁ = { s with heap := s.heap.push { cls := .type "set", dict := none, data := .set #[] 0 (.fresh 0 0 (!w.params.followText "set-order")) } }) ⟨rfl, rfl⟩) fun r s₁ hr => ?_
  cases r with
  | error e => exact hr
  | ok fl =>
    cases fl with
    | ret obj =>
      obtain ⟨rfl, rfl⟩ := hr
      have hS : (s.heap.push { cls := .type "set", dict := none, data := .set #[] 0 (.fresh 0 0 (!w.params.followText "set-order")) }).get? s.heap.objs.size = some { cls := .type "set", dict := none, data := .set #[] 0 (.fresh 0 0 (!w.params.followText "set-order")) } := Heap.get?_push_size _ rfl
      have hT : Shared.TypeIs { s with heap := s.heap.push { cls := .type "set", dict := none, data := .set #[] 0 (.fresh 0 0 (!w.params.followText "set-order")) } } (.ref s.heap.objs.size) "set" := ⟨_, hS, rfl⟩
      have hli := F.called_set.init.lookup
      have hbi := F.called_set.init.bind (.ref s.heap.objs.size)
      repeat (any_goals (first | assumption | wp_step))

      refine codeAny_mono (codeAny_call_builtin (R := wants (fun r s₂ => r = .none ∧ ∃ h' tk c, s₂ = { s with heap := h', toks := tk } ∧ SetR w h' s.heap.objs.size (fun j => decide (j ∈ ns)) c ∧ c ≤ ns.length ∧
          (∀ b o, s.heap.get? b = some o → h'.get? b = some o)) E) F.called_set.init.plain F.entry_set_init (check_set_init_1 hT ?_)) fun r₂ s₂ hr₂ => ?_
      · obtain ⟨ol, hol, hcl, nl, hdl⟩ := hl
        obtain ⟨ocls, odict, odata, oslots⟩ := ol
        simp only at hcl hdl
        subst hcl; subst hdl
        have hol' : (s.heap.push { cls := .type "set", dict := none, data := .set #[] 0 (.fresh 0 0 (!w.params.followText "set-order")) }).get? l = some { cls := .type "list", dict := odict, data := .seq items nl, slots := oslots } := Heap.get?_push_of_some _ hol
        have hsls := F.sub_list_set
        have hslf := F.sub_list_frozenset
        have hne : (Value.type "list" == Value.type "dict") = false := by decide
        have hl1 : (s.heap.push { cls := .type "set", dict := none, data := .set #[] 0 (.fresh 0 0 (!w.params.followText "set-order")) }).IsList l items := ⟨_, hol', rfl, nl, rfl⟩
        unfold Builtin.«set.__init__» noKeywords Builtin.Frozenset.updateFrom
        generalize hPI : pyIter = PI
        wp_walk
        subst hPI

        refine wpAny_pyIter_list hl1 ?_
        refine wpAny_bind (wpAny_runValue ?_)
        have hlS : l < s.heap.objs.size := Heap.lt_size hol
        have hh3 : A.in1.in1.in1.handled = none := by simp [hh]
        have hz1 : (s.heap.push { cls := .type "set", dict := none, data := .set #[] 0 (.fresh 0 0 (!w.params.followText "set-order")) }).objs.size = s.heap.objs.size + 1 := Heap.size_push ..
        have hneI : l ≠ (s.heap.push { cls := .type "set", dict := none, data := .set #[] 0 (.fresh 0 0 (!w.params.followText "set-order")) }).objs.size := by
          rw [Heap.size_push]; exact Nat.ne_of_lt (Nat.lt_succ_of_lt hlS)
        have hSf : s.heap.objs.size ∉ [(s.heap.push { cls := .type "set", dict := none, data := .set #[] 0 (.fresh 0 0 (!w.params.followText "set-order")) }).objs.size, l] := by
          rw [Heap.size_push]; simp only [List.mem_cons, List.mem_singleton, List.not_mem_nil, or_false, not_or]
          exact ⟨Nat.ne_of_lt (Nat.lt_succ_self _), Nat.ne_of_gt hlS⟩
        have hval : ∀ (i : Nat) (v : Value), items[i]? = some v → ∃ k t, ns[i]? = some k ∧ v = .int k t := fun i v hv => by
          have hi : i < ns.length := by rw [← hisz]; exact (Array.getElem?_eq_some_iff.mp hv).1
          obtain ⟨t, e⟩ := PyProof.Rows.IntsAre.int_at hit i v (by rw [Array.getElem?_toList]; exact hv)
          refine ⟨ns[i], t, List.getElem?_eq_getElem hi, ?_⟩
          rw [e, List.getD_eq_getElem?_getD, List.getElem?_eq_getElem hi] <;> rfl
        refine set_update_ints ((Walks.list hh3 _ l hneI items).toS) s.heap.objs.size
          hSf ns hisz hb hval (items.size - 0) 0 _ (by omega) (Nat.zero_le _)
          ⟨⟨_, Heap.get?_push_size _ rfl, rfl, rfl⟩, (hl1.push _)⟩ ?hS0 ?hR
        case hS0 =>
          have hget : ((s.heap.push { cls := .type "set", dict := none, data := .set #[] 0 (.fresh 0 0 (!w.params.followText "set-order")) }).push { cls := .type "list_iterator", data := .fields #[.ref l, .int 0 0] }).get? s.heap.objs.size
              = some { cls := .type "set", dict := none, data := .set #[] 0 (.fresh 0 0 (!w.params.followText "set-order")) } := Heap.get?_push_of_some _ hS
          exact ⟨0, Nat.le_refl 0, setR_new_at hget⟩
        case hR =>
          intro s' c' hm hc' hS'
          obtain ⟨h', g2, d', tk', os'⟩ := s'
          have eg : g2 = s.gens := hm.gens
          have ed : d' = s.drawn := hm.drawn
          have eo : os' = s.os := hm.os
          subst eg; subst ed; subst eo
          show wpAny _ _ _ _ _ _
          refine wpAny_pure ?_
          show wpAny _ _ (ret Value.none) _ _ _
          rw [hisz] at hc'
          refine wpAny_pure ⟨rfl, h', tk', c', rfl, hS', hc', fun b o e => ?_⟩
          have hb0 : b < s.heap.objs.size := Heap.lt_size e
          have hb1 : b ≠ s.heap.objs.size := Nat.ne_of_lt hb0
          have hb2 : b ≠ (s.heap.push { cls := .type "set", dict := none, data := .set #[] 0 (.fresh 0 0 (!w.params.followText "set-order")) }).objs.size := by
            rw [Heap.size_push]; exact Nat.ne_of_lt (Nat.lt_succ_of_lt hb0)
          exact hm.heap b o (by simp only [List.mem_cons, List.mem_singleton, List.not_mem_nil, or_false, not_or]; exact ⟨hb1, hb2⟩) (Heap.get?_push_of_some _ (Heap.get?_push_of_some _ e))

      · cases r₂ with
        | error e => exact hr₂
        | ok fl₂ =>
          cases fl₂ with
          | ret r =>
            obtain ⟨rfl, h', tk, c', rfl, hS', hc', hk'⟩ := hr₂
            repeat (any_goals (first | assumption | wp_step))
            exact h _ _ _ hS' hc' hk'
          | _ => exact hr₂.elim
    | _ => exact hr.elim

end
end EV

/-! EV: sorted(set(..)). -/
namespace EV
open PySem PySem.Spec PyProof.Rows L2
theorem ins_mem (a x : Int) : ∀ l : List Int, x ∈ ins a l ↔ x = a ∨ x ∈ l
  | [] => by simp [ins]
  | b :: l => by
    unfold ins
    by_cases h1 : a < b
    · simp [h1]
    · by_cases h2 : a = b
      · subst h2; simp [h1]
      · simp only [h1, h2, decide_false, Bool.false_eq_true, if_false, List.mem_cons, ins_mem a x l]
        constructor
        · rintro (h | h | h) <;> simp [h]
        · rintro (h | h | h) <;> simp [h]
theorem ins_sorted (a : Int) : ∀ l : List Int, l.Pairwise (· < ·) → (ins a l).Pairwise (· < ·)
  | [], _ => by simp [ins]
  | b :: l, h => by
    obtain ⟨h1, h2⟩ := List.pairwise_cons.mp h
    unfold ins
    by_cases c1 : a < b
    · simp only [c1, decide_true, if_true]
      refine List.pairwise_cons.mpr ⟨fun y hy => ?_, h⟩
      rcases List.mem_cons.mp hy with rfl | hy
      · exact c1
      · exact Int.lt_trans c1 (h1 y hy)
    · by_cases c2 : a = b
      · subst c2; simpa [c1] using h
      · simp only [c1, c2, decide_false, Bool.false_eq_true, if_false]
        refine List.pairwise_cons.mpr ⟨fun y hy => ?_, ins_sorted a l h2⟩
        rcases (ins_mem a y l).mp hy with rfl | hy
        · omega
        · exact h1 y hy
theorem asc_ok : ∀ l : List Int, (asc l).Pairwise (· < ·) ∧ ∀ x, x ∈ asc l ↔ x ∈ l
  | [] => ⟨List.Pairwise.nil, fun x => Iff.rfl⟩
  | a :: l => by
    obtain ⟨h1, h2⟩ := asc_ok l
    refine ⟨ins_sorted a _ h1, fun x => ?_⟩
    show x ∈ ins a (asc l) ↔ _
    rw [ins_mem, h2, List.mem_cons]
theorem lt_ext : ∀ {l m : List Int}, l.Pairwise (· < ·) → m.Pairwise (· < ·) → (∀ x, x ∈ l ↔ x ∈ m) → l = m
  | [], [], _, _, _ => rfl
  | [], b :: m, _, _, h => by have := (h b).mpr (List.mem_cons_self ..); cases this
  | a :: l, [], _, _, h => by have := (h a).mp (List.mem_cons_self ..); cases this
  | a :: l, b :: m, hl, hm, h => by
    obtain ⟨l1, l2⟩ := List.pairwise_cons.mp hl
    obtain ⟨m1, m2⟩ := List.pairwise_cons.mp hm
    have e : a = b := by
      rcases List.mem_cons.mp ((h a).mp (List.mem_cons_self ..)) with e | e
      · exact e
      · rcases List.mem_cons.mp ((h b).mpr (List.mem_cons_self ..)) with e2 | e2
        · exact e2.symm
        · have := m1 a e
          have := l1 b e2
          omega
    subst e
    congr 1
    refine lt_ext l2 m2 fun x => ?_
    constructor
    · intro hx
      rcases List.mem_cons.mp ((h x).mp (List.mem_cons_of_mem _ hx)) with e | e
      · have := l1 x hx; omega
      · exact e
    · intro hx
      rcases List.mem_cons.mp ((h x).mpr (List.mem_cons_of_mem _ hx)) with e | e
      · have := m1 x hx; omega
      · exact e
theorem set_size {w : World} {h : Heap} {a : Addr} {ns : List Int} {c : Nat} (R : SetR w h a (fun j => decide (j ∈ ns)) c) : c = (asc ns).length := by
  obtain ⟨o, es, ep, t, _, _, _, _, nd, hm, _, _, hn, _⟩ := R
  have hs := asc_ok ns
  have nd2 : (asc ns).Nodup := hs.1.imp fun h => Int.ne_of_lt h
  have p : (es.toList.map keyOf).Perm (asc ns) := (List.perm_ext_iff_of_nodup nd nd2).mpr fun k => by
    rw [← hm k, hs.2]
    simp
  have := p.length_eq
  rw [List.length_map, Array.length_toList] at this
  omega
section
variable {C : Cfg} {X : Cx} {k : Nat}
theorem sset_imp {fa : Env → Store → R D} {x y : Str} {e : Expr} {p p' q' pos : Pos} (B : Bnd C) (I : CxI C k X) (h1 : isBlt C.n X.env.scope "sorted" x = true) (h2 : isBlt C.n X.env.scope "set" y = true) (hs : starred e = false) (ha : PE X e (tE C X fa)) :
    PE X (.Call (.Name x p) [.Call (.Name y p') [e] [] q'] [] pos) (tE C X fun ρ μ => (fa ρ μ).bind fun d μ => liftO ((ssetD (view μ d)).map fun l => .lst (l.map .int)) μ) := by
  obtain ⟨rfl, g1, m1⟩ := blt_ok B I h1
  obtain ⟨rfl, g2, m2⟩ := blt_ok B I h2
  have na := star_of hs [] X.env
  refine ⟨fun pins s σ H Q J h => ?_⟩
  refine Call_ (ld_blt J g1 m1 rfl ?_)
  refine PyProof.Rows.callWith_builtin1 (PyProof.Rows.args_cons ?_ rfl) rfl rfl
  refine Call_ (ld_blt J g2 m2 boot_set ?_)
  have h' := un_imp (r := fun x H1 => ∃ w F μ d, SR C.kp w F μ H1 ∧ RepV C.K w d x ∧ Post C X w F (RepV C.K) (liftO ((ssetD (view μ d)).map fun l => .lst (l.map .int)) μ) Q) (f := fun μ d => liftO ((ssetD (view μ d)).map fun l => .lst (l.map .int)) μ) h fun w F μ d x H1 s r h => ⟨w, F, μ, d, s, r, h⟩
  refine PyProof.Rows.callWith_type1 (PyProof.Rows.args_cons (thn (ha.run pins s σ H _ J h') fun v s1 ⟨xv, H1, J1, r1, w, F, μ, d, S1, rd, hq⟩ => PyProof.Rows.args_nil ?_) na) na rfl
  obtain ⟨dd, e1, hq2⟩ := hq.lift
  obtain ⟨rs, e2, rfl⟩ := Option.map_eq_some_iff.mp e1
  have inL : ∀ {l : List D} {vs : List V}, ssetL l = some rs → RepPs C.K w.G l vs → ∃ ns : List Int, vs = ns.map V.int ∧ rs = asc ns ∧ (asc ns).length < 64 ∧ ns.length ≤ 4000 := by
    intro l vs hl rl
    unfold ssetL at hl
    split at hl
    · rename_i hz
      split at hl
      · rename_i ns hns
        simp only at hl
        split at hl
        · rename_i h64
          cases hl
          have hv := rl.int hns
          have := rl.length
          rw [hv, List.length_map] at this
          exact ⟨ns, hv, rfl, Nat.le_of_ble_eq_true h64, by have := Nat.le_of_ble_eq_true hz; omega⟩
        · cases hl
      · cases hl
    · cases hl
  -- behind the set
  have fin : ∀ (ns : List Int) (h' : Heap) (tk c : Nat), rs = asc ns → (asc ns).length < 64 → SetR X.w h' s1.heap.objs.size (fun j => decide (j ∈ ns)) c → (∀ b o, s1.heap.get? b = some o → h'.get? b = some o) →
      wpAny (model X.prog X.w) X.A (spliced (backTo pos (starEach [] X.env))) (fun vs s₂ => wpAny (model X.prog X.w) X.A (call (.builtin "sorted") (Value.ref s1.heap.objs.size :: vs)) (EP X pins σ Q) X.xe s₂) X.xe { s1 with heap := h', toks := tk } := by
    intro ns h' tk c er h64 R hk
    refine PyProof.Rows.args_nil ?_
    have J2 : Inv X pins σ H1 { s1 with heap := h', toks := tk } := J1.kept hk
    have hc := set_size R
    refine sorted_set (s := { s1 with heap := h', toks := tk }) R (J1.ok.hd I.calm) (by omega) fun s' q out cc ns' k2 g2 o2 hq' hg hi hsrt hmem hlen => ?_
    have en : ns' = rs := by
      rw [er]
      refine lt_ext hsrt (asc_ok ns).1 fun z => ?_
      rw [hmem, (asc_ok ns).2]
      simp
    subst en
    have hlen2 : (ns'.map V.int).length ≤ sizeLine := by rw [List.length_map, hlen, sizeLine_eq]; omega
    have hn : H1 q = none := J2.hok.fresh hq'
    have J3 : Inv X pins σ (upd H1 q (.lst (ns'.map V.int))) { s1 with heap := s'.heap, gens := s'.gens, drawn := s'.drawn, toks := s'.toks } := by
      have := J2.call (ch := []) (h' := s'.heap) (g' := s'.gens) (d' := s'.drawn) (t' := s'.toks) (Un.laid k2 hq' hn) (J2.hok.laid k2 hq' (show ObjOk X.prog X.w (upd H1 q (.lst (ns'.map V.int))) s'.heap q (.lst (ns'.map V.int)) from ⟨hlen2, out.toList, cc, vals_of_ints hi, hg⟩)) (by rw [g2]; exact J2.bare) (fun _ z => nomatch z)
      exact this
    have e : s' = { s1 with heap := s'.heap, gens := s'.gens, drawn := s'.drawn, toks := s'.toks } := by
      cases s'
      cases s1
      cases o2
      rfl
    rw [e]
    exact ⟨.ref q, _, J3, rfl, new_lst S1 (RepPs.ofInts ns') hq2 q hn⟩
  generalize hv : view μ d = vd at e2
  cases vd <;> simp only [ssetD, reduceCtorEq] at e2
  · obtain ⟨a, vs, rfl, ga, ra⟩ := view_tup S1 rd hv
    obtain ⟨ns, rfl, er, h64, h4⟩ := inL e2 ra
    cases r1
    obtain ⟨its, rv, pl, hz⟩ := J1.tuple (I.K ▸ (ga.seq S1.g) : SqT X.K H1 a (ns.map V.int))
    refine call_set_tupI ns (J1.ok.hd I.calm) (show s1.heap.IsTuple a its.toArray from pl) (by simpa using rv.ints) (by unfold scanBound; omega) fun h' tk c R hc hk => fin ns h' tk c er h64 R hk
  · obtain ⟨a, vs, rfl, ga, ra⟩ := view_lst S1 rd hv
    obtain ⟨ns, rfl, er, h64, h4⟩ := inL e2 ra
    cases r1
    obtain ⟨its, rv, pl, hz⟩ := J1.list (SqL.of ga : SqL X.K H1 a (ns.map V.int))
    refine set_of_list ns (J1.ok.hd I.calm) pl.isList (by simpa using rv.ints) (by unfold scanBound; omega) fun h' tk c R hc hk => fin ns h' tk c er h64 R hk
end
end EV

/-! EV: enumerate over a tuple. -/
namespace EV
open PySem PySem.Spec PyProof.Rows L2
open PySem.Sem (wp)
open PySem.AutoSeq1 (wpAny_loadPart')

theorem meets_enumerate_newT (l : Addr) (items : Array Value) (n : Nat) (dct : Option Addr) (sl : Array (Option Value)) :
    Meets (Builtin.«enumerate.__new__» ⟨[.type "enumerate", .ref l], []⟩) (fun _ R s => s.heap.get? l = some { cls := .type "tuple", dict := dct, data := .seq items n, slots := sl } ∧
      R (.ok (.ret (.ref (s.heap.push { cls := .type "tuple_iterator", data := .fields #[.ref l, .int 0 0] }).objs.size)))
        { s with heap := (s.heap.push { cls := .type "tuple_iterator", data := .fields #[.ref l, .int 0 0] }).push { cls := .type "enumerate", data := .fields #[.none, .bool false, .ref s.heap.objs.size, rawInt 0, .none, .none] } }) :=
  .of_wp fun prog w A R s h => by
    obtain ⟨hp, g, d, tk, os⟩ := s; obtain ⟨hl, h⟩ := h
    have hsub := sub_enumerate
    have hL : Heap.IsTuple (Shared.heap ⟨hp, g, d, tk, os⟩) l items := ⟨_, hl, rfl, n, rfl⟩
    wp_walk using wpAny_loadPart' hl
    refine wpAny_stack_any fun st => wpAny_pure ?_
    split
    · rename_i c _ _ _ _ _
      cases (c == Value.type "enumerate")
      · wp_walk using wpAny_loadPart' hl, wpAny_pyIter_tuple hL
        exact ⟨_, rfl, h⟩
      · wp_walk using wpAny_loadPart' hl, wpAny_pyIter_tuple hL
        exact ⟨_, rfl, h⟩
    · wp_walk using wpAny_loadPart' hl, wpAny_pyIter_tuple hL
      exact ⟨_, rfl, h⟩
section
variable {prog : Program} {w : World} {A : Around} {E : Value → Shared → Prop} {s : Shared}
theorem call_enumerate_tuple {l : Addr} {items : Array Value} {Q : Value → Shared → Prop} (hL : s.heap.IsTuple l items)
    (h : ∀ h', IsEnum h' (s.heap.objs.size + 1) s.heap.objs.size 0 .none → h'.IsTupleIter s.heap.objs.size l 0 → h'.objs.size = s.heap.objs.size + 2 →
      (∀ b o, s.heap.get? b = some o → h'.get? b = some o) → Q (.ref (s.heap.objs.size + 1)) { s with heap := h' }) :
    wpAny (model prog w) A (call (.type "enumerate") [.ref l]) Q E s := by
  obtain ⟨⟨c, dct, dt, sl⟩, hl, hc, n, hd⟩ := hL
  replace hc : c = .type "tuple" := hc
  replace hd : dt = .seq items n := hd
  subst hc hd
  refine callType_new F.called_enumerate (by decide) (F.typeCall_enumerate_1 _) (F.newCall_enumerate_1 _) (fun obj => F.args_object_init_2 obj _) F.entry_enumerate_new
    (meets_enumerate_newT l items n dct sl) ⟨hl, ?_⟩
  have hz : (s.heap.push { cls := .type "tuple_iterator", data := .fields #[.ref l, .int 0 0] }).objs.size = s.heap.objs.size + 1 := Heap.size_push ..
  show _ ∧ _
  rw [hz]
  have he : IsEnum ((s.heap.push { cls := .type "tuple_iterator", data := .fields #[.ref l, .int 0 0] }).push
      { cls := .type "enumerate", data := .fields #[.none, .bool false, .ref s.heap.objs.size, rawInt 0, .none, .none] }) (s.heap.objs.size + 1) s.heap.objs.size 0 .none := by
    have := Heap.get?_push_size (s.heap.push { cls := .type "tuple_iterator", data := .fields #[.ref l, .int 0 0] })
      (o := { cls := .type "enumerate", data := .fields #[.none, .bool false, .ref s.heap.objs.size, rawInt 0, .none, .none] }) rfl
    rw [hz] at this; exact this
  refine ⟨⟨_, he, rfl⟩, h _ he ⟨_, Heap.get?_push_of_some _ (Heap.get?_push_size _ rfl), rfl, rfl⟩ (by rw [Heap.size_push, hz]) fun b o x => Heap.get?_push_of_some _ (Heap.get?_push_of_some _ x)⟩
end
/-- the tuple at a, each item in a new pair -/
def IteT (K : PySem.W.Frag) (a : Addr) : It :=
  ⟨fun i H => ∃ (xs : List V) (x : V), SqT K H a xs ∧ xs[i]? = some x, fun i H v H' => ∃ T x, v = .ref T ∧ H T = none ∧ H' = upd H T (.tup [.int (i : Nat), x]) ∧ ∀ xs, SqT K H a xs → xs[i]? = some x, fun i H => ∃ xs : List V, SqT K H a xs ∧ xs.length ≤ i⟩
theorem turn_enumT {P : Program} {w : World} {K : PySem.W.Frag} {elts : List Expr} {kk : Nat} {tpos : Pos} (a e it : Addr) (hae : a ≠ e) (hai : a ≠ it) :
    Turn P w K (.Tuple elts kk tpos) (IteT K a) [e, it] e (fun i h => (∃ old, IsEnum h e it ((i : Nat) : Int) old) ∧ h.IsTupleIter it a i ∧ e ≠ it) where
  mem := by simp
  obj := fun i h st b hb => by
    obtain ⟨⟨old, he⟩, ⟨o, ho, hc, hd⟩, _⟩ := st
    have e' : b = e ∨ b = it := by simpa using hb
    rcases e' with z | z
    · rw [z]; exact ⟨_, he, fun v q => nomatch q⟩
    · rw [z]; exact ⟨o, ho, fun v q => by rw [hd] at q; cases q⟩
  keep := fun i h h' st k => let ⟨⟨old, he⟩, hi, hne⟩ := st; ⟨⟨old, k e (by simp) _ he⟩, hi.at fun o q => k it (by simp) o q, hne⟩
  item := by
    intro X hP hw hK hc i pins s σ H E I hf st hg
    subst hP hw hK
    obtain ⟨⟨old, he⟩, hit, hne⟩ := st
    obtain ⟨xs, x, hq, hx⟩ := hg
    obtain ⟨its, rv, p, hz⟩ := I.tuple hq
    obtain ⟨u, hu, ru⟩ := rv.get hx
    have hel : e < s.heap.objs.size := Heap.lt_size he
    have hil : it < s.heap.objs.size := by obtain ⟨_, q, _⟩ := hit; exact Heap.lt_size q
    have D := Draws.tuple (prog := X.prog) (w := X.w) (A := X.A.in1) (I.ok.hd hc) it a hai its.toArray
    refine wpAny_pyNext_enum_itemD D he ⟨hit, p⟩ (by have := (List.getElem?_eq_some_iff.mp hu).1; simpa using this) hne (by simp [hne, Ne.symm hae]) fun u' h' tk hPx ho hst' hT hsz hk => ?_
    have e1 : u' = u := by
      have : its.toArray[i]? = some u' := hPx
      rw [List.getElem?_toArray, hu] at this
      exact (Option.some.inj this).symm
    subst e1
    obtain ⟨hit', p'⟩ := hst'
    refine ⟨_, rfl, wpAny_letOwnedTupleGo_enum (s := { s with heap := h', toks := tk + 1 }) ho fun h'' he' sb => ?_⟩
    have hT2 : h''.get? s.heap.objs.size = some { cls := .type "tuple", data := .seq #[.int i tk, u'] } := (sb.2 _ (Nat.ne_of_gt hel)).trans hT
    have new : ObjOk X.prog X.w (upd H s.heap.objs.size (.tup [.int (i : Nat), x])) h'' s.heap.objs.size (.tup [.int (i : Nat), x]) :=
      ⟨by show 2 ≤ sizeLine; decide, [.int i tk, u'], .cons ⟨_, rfl⟩ (.cons ru .nil), ⟨_, hT2, rfl, _, rfl⟩⟩
    have I1 : Inv X pins σ (upd H s.heap.objs.size (.tup [.int (i : Nat), x])) { s with heap := h'', toks := tk + 1 } :=
      I.turnedNew (ch := [e, it]) (fun b ob hb q => (sb.2 b (fun z => hb (by simp [z]))).trans (hk b ob (fun z => hb (by simp [z])) (fun z => hb (by simp [z])) q)) hf (Nat.le_refl _) new
    refine ⟨.ref s.heap.objs.size, _, I1, rfl, ⟨_, x, rfl, I.hok.fresh (Nat.le_refl _), rfl, fun ys hy => by rw [I.tuple_inj hy hq]; exact hx⟩, ⟨⟨u', ?_⟩, hit'.at fun o q => (sb.2 it (Ne.symm hne)).trans q, hne⟩, fun b hb => ?_⟩
    · have e1 : ((i + 1 : Nat) : Int) = (i : Int) + 1 := by omega
      rw [e1]; exact he'
    · have hb' : b < s.heap.objs.size := by
        have e' : b = e ∨ b = it := by simpa using hb
        rcases e' with z | z
        · rw [z]; exact hel
        · rw [z]; exact hil
      rw [upd_ne (Nat.ne_of_lt hb')]
      exact (hf b hb).1
  done := by
    intro X hP hw hK hc i pins s σ H E I hf st hg
    subst hP hw hK
    obtain ⟨⟨old, he⟩, hit, hne⟩ := st
    obtain ⟨xs, hq, hx⟩ := hg
    obtain ⟨its, rv, p, hz⟩ := I.tuple hq
    obtain ⟨f0, f1, f2, f3, f4, f5⟩ := hf it (by simp)
    have hl := rv.length
    have hn : s.heap.IsTupleIter it a i := hit
    unfold pyNext
    have hT : s.TypeIs (.ref e) "enumerate" := ⟨_, he, rfl⟩
    refine wpAny_bind (wpAny_attempt (wpAny_callSpecial?_slot (name := Str.ofString "__next__") hT F.slot_enumerate_next
      (wpAny_call_entry F.slot_enumerate_next hT F.entry_enumerate_next ?_ (F.args_enumerate_next_1 _))))
    show wpAny _ _ (field (.ref e) 2 >>= _) _ _ _
    refine wpAny_bind (wpAny_field he rfl (x := .ref it) rfl ?_)
    refine wpAny_bind (wpAny_nextOf_tuple_end (I.ok.hd hc) hit p (by simp; omega) fun h' x he' hx' => ?_)
    obtain ⟨o, ho, hc⟩ := hx'
    refine wpAny_bind (wpAny_isInstance (T := "StopIteration") (b := true) ⟨o, ho, hc⟩ isSubtype_stop ?_)
    exact wpAny_pure ⟨rfl, I.turned (t' := s.toks) (fun b o hb q => he' b o hb q) f0 f1 f3 f4 f5⟩
  self := fun A i s Q E st h => let ⟨⟨_, he⟩, _⟩ := st; wpAny_pyIter_enum he h
/-- enumerate over a list or a tuple -/
def iEnumA (K : PySem.W.Frag) (ta : TA) : TI := fun σ H R => ta σ H fun vs H1 => ∃ a xs, vs = [.ref a] ∧ ((SqL K H1 a xs ∧ R (Ite K a) H1) ∨ (SqT K H1 a xs ∧ R (IteT K a) H1))
theorem pi_enumA {X : Cx} {e : Expr} {ta : TA} {p pos tpos : Pos} {elts : List Expr} {kk : Nat} (hg : Gl X "enumerate") (hm : X.mg "enumerate" = none) (ha : PA X [e] ta) (hs : starEach [e] X.env = [(false, eval e X.env)] := by rfl) :
    PI X (.Tuple elts kk tpos) (.Call (.Name "enumerate" p) [e] [] pos) (iEnumA X.K ta) := by
  refine ⟨fun pins s σ H R I h => ?_⟩
  refine Call_ (ld_blt I hg hm boot_enumerate (PyProof.Rows.callWith_type1 (thn (ha.run pos pins s σ H _ I h) fun us s1 ⟨vs, H1, I1, r1, q1⟩ => ?_) hs rfl))
  obtain ⟨a, xs, ex, hq⟩ := q1
  subst ex
  cases r1 with
  | cons r rr =>
    cases rr
    cases r
    have fp : ∀ b ∈ [s1.heap.objs.size + 1, s1.heap.objs.size], FpOk X pins H1 b := fun b hb => by
      have e' : b = s1.heap.objs.size + 1 ∨ b = s1.heap.objs.size := by simpa using hb
      have hle : s1.heap.objs.size ≤ b := by
        rcases e' with z | z
        · rw [z]; exact Nat.le_add_right _ _
        · rw [z]; exact Nat.le_refl _
      exact I1.fpOk hle (I1.hok.fresh hle)
    rcases hq with ⟨hq, q⟩ | ⟨hq, q⟩
    · obtain ⟨its, rv, p', hz⟩ := I1.list hq
      refine call_enumerate_list p'.isList fun h' he hit hsz hk => wpAny_pyIter_enum he ?_
      have I2 : Inv X pins σ H1 { s1 with heap := h' } := I1.kept (t' := s1.toks) hk
      exact ⟨s1.heap.objs.size + 1, [s1.heap.objs.size + 1, s1.heap.objs.size], _, _, H1, rfl, I2, turn_enum a (s1.heap.objs.size + 1) s1.heap.objs.size, ⟨⟨.none, he⟩, hit, Nat.succ_ne_self _⟩, fp, q⟩
    · obtain ⟨its, rv, p', hz⟩ := I1.tuple hq
      have hal : a < s1.heap.objs.size := by obtain ⟨o, q, _⟩ := id p'; exact Heap.lt_size q
      refine call_enumerate_tuple (show s1.heap.IsTuple a its.toArray from p') fun h' he hit hsz hk => wpAny_pyIter_enum he ?_
      have I2 : Inv X pins σ H1 { s1 with heap := h' } := I1.kept (t' := s1.toks) hk
      exact ⟨s1.heap.objs.size + 1, [s1.heap.objs.size + 1, s1.heap.objs.size], _, _, H1, rfl, I2, turn_enumT a (s1.heap.objs.size + 1) s1.heap.objs.size (Nat.ne_of_lt (Nat.lt_succ_of_lt hal)) (Nat.ne_of_lt hal), ⟨⟨.none, he⟩, hit, Nat.succ_ne_self _⟩, fp, q⟩
end EV

/-! EV, part 10: what loops walk over, targets. -/
namespace EV
open PySem PySem.Spec PyProof.Rows L2

def SrcV (C : Cfg) (J : It) (w : Wd) : Nat → List D → Prop
  | i, [] => ∀ w' F μ H, Wd.le w w' → SR C.kp w' F μ H → J.stop i H
  | i, x :: l => (∀ w' F μ H, Wd.le w w' → SR C.kp w' F μ H → J.go i H ∧ ∀ v H', J.yld i H v H' → ∃ w'', Wd.le w' w'' ∧ SR C.kp w'' F μ H' ∧ RepP C.K w''.G x v) ∧ SrcV C J w (i + 1) l
def SrcR (C : Cfg) (J : It) (w : Wd) (i : Nat) : Src → Prop
  | .vals l => SrcV C J w i l
  | .cell c k => i = k ∧ ∃ a, w.φ[c]? = some a ∧ J = Itl C.K a
section
variable {C : Cfg} {X : Cx} {k : Nat}
theorem SrcV.mono {J : It} {w w' : Wd} (l : Wd.le w w') : ∀ {ds : List D} {i : Nat}, SrcV C J w i ds → SrcV C J w' i ds
  | [], i, h => fun w1 F μ H l1 => h w1 F μ H (Wd.le_trans l l1)
  | x :: ds, i, h => ⟨fun w1 F μ H l1 => h.1 w1 F μ H (Wd.le_trans l l1), SrcV.mono l h.2⟩
theorem SrcR.mono {J : It} {w w' : Wd} (l : Wd.le w w') {s : Src} {i : Nat} (h : SrcR C J w i s) : SrcR C J w' i s := by
  cases s with
  | vals ds => exact SrcV.mono l h
  | cell c k =>
    obtain ⟨e, a, h1, h2⟩ := h
    obtain ⟨_, t, e2⟩ := l
    exact ⟨e, a, by rw [e2, List.getElem?_append_left (List.getElem?_eq_some_iff.mp h1).1]; exact h1, h2⟩
theorem SrcR.turn {J : It} {w w' : Wd} {F : Gm} {μ : Store} {H : Hp} {s : Src} {i : Nat} (r : SrcR C J w i s) (l : Wd.le w w') (S : SR C.kp w' F μ H) (ok : srcOk μ s = true) :
    match nxt μ s with
    | none => J.stop i H
    | some (x, s') => J.go i H ∧ ∀ v H', J.yld i H v H' → ∃ w'', Wd.le w' w'' ∧ SR C.kp w'' F μ H' ∧ RepV C.K w'' x v ∧ SrcR C J w'' (i + 1) s' := by
  cases s with
  | vals ds =>
    cases ds with
    | nil => exact r w' F μ H l S
    | cons x ds =>
      obtain ⟨h1, h2⟩ := r.1 w' F μ H l S
      refine ⟨h1, fun v H' y => ?_⟩
      obtain ⟨w'', l2, S2, r2⟩ := h2 v H' y
      exact ⟨w'', l2, S2, RepV.ofP r2, SrcV.mono (Wd.le_trans l l2) r.2⟩
  | cell c k =>
    obtain ⟨rfl, a, h1, rfl⟩ := r.mono l
    unfold srcOk at ok
    simp only at ok
    split at ok
    · rename_i ls hl
      obtain ⟨b, h2, vs, h3, h4⟩ := S.at hl
      rw [h1] at h2
      cases h2
      unfold nxt
      simp only [hl]
      cases hn : nthD ls i with
      | none =>
        simp only
        refine ⟨vs, SqL.of h3, ?_⟩
        rw [nthD_get, List.getElem?_eq_none_iff] at hn
        rw [h4.length]; exact hn
      | some x =>
        simp only
        obtain ⟨v, e1, e2⟩ := h4.get hn
        refine ⟨⟨vs, v, SqL.of h3, e1⟩, fun v' H' y => ?_⟩
        obtain ⟨rfl, y⟩ := y
        have := y vs (SqL.of h3)
        rw [e1] at this
        cases this
        exact ⟨w', Wd.le_refl w', S, RepV.ofP e2, rfl, a, h1, rfl⟩
    · cases ok

/-! ### the iterators -/
def itOf (Sq : Hp → List V → Prop) : It := ⟨fun i H => ∃ xs x, Sq H xs ∧ xs[i]? = some x, fun i H x H' => H' = H ∧ ∀ xs, Sq H xs → xs[i]? = some x, fun i H => ∃ xs, Sq H xs ∧ xs.length ≤ i⟩
def itEn (Sq : Hp → List V → Prop) : It := ⟨fun i H => ∃ (xs : List V) (x : V), Sq H xs ∧ xs[i]? = some x, fun i H v H' => ∃ T x, v = .ref T ∧ H T = none ∧ H' = upd H T (.tup [.int (i : Nat), x]) ∧ ∀ xs, Sq H xs → xs[i]? = some x, fun i H => ∃ xs : List V, Sq H xs ∧ xs.length ≤ i⟩
def itZi (Sa Sb : Hp → List V → Prop) : It := ⟨fun i H => ∃ (xs ys : List V) (x y : V), Sa H xs ∧ Sb H ys ∧ xs[i]? = some x ∧ ys[i]? = some y,
    fun i H v H' => ∃ T x y, v = .ref T ∧ H T = none ∧ H' = upd H T (.tup [x, y]) ∧ (∀ xs, Sa H xs → xs[i]? = some x) ∧ ∀ ys, Sb H ys → ys[i]? = some y,
    fun i H => ∃ xs ys : List V, Sa H xs ∧ Sb H ys ∧ (xs.length ≤ i ∨ ys.length ≤ i)⟩
/-- vs can be read from w on -/
def Stays (C : Cfg) (w : Wd) (Sq : Hp → List V → Prop) (vs : List V) : Prop := ∀ w' F μ H, Wd.le w w' → SR C.kp w' F μ H → Sq H vs
theorem drop_cons {α : Type} {l : List α} {i : Nat} {a : α} {r : List α} (h : l.drop i = a :: r) : l[i]? = some a ∧ l.drop (i + 1) = r := by
  have e1 : i < l.length := by
    rcases Nat.lt_or_ge i l.length with q | q
    · exact q
    · rw [List.drop_eq_nil_of_le q] at h; cases h
  rw [List.drop_eq_getElem_cons e1] at h
  cases h
  exact ⟨by simp [e1], rfl⟩
theorem srcV_it {w : Wd} {Sq : Hp → List V → Prop} {vs : List V} (hs : Stays C w Sq vs) : ∀ (l : List D) (i : Nat), RepPs C.K w.G l (vs.drop i) → SrcV C (itOf Sq) w i l
  | [], i, r => by
    simp only [RepPs] at r
    have := List.drop_eq_nil_iff.mp r
    exact fun w' F μ H l S => ⟨vs, hs w' F μ H l S, this⟩
  | x :: l, i, r => by
    simp only [RepPs] at r
    obtain ⟨v, t, e, p, q⟩ := r
    obtain ⟨e1, e2⟩ := drop_cons e
    refine ⟨fun w' F μ H lw S => ⟨⟨vs, v, hs w' F μ H lw S, e1⟩, fun v' H' y => ?_⟩, srcV_it hs l (i + 1) (by rw [e2]; exact q)⟩
    obtain ⟨rfl, y⟩ := y
    have := y vs (hs w' F μ _ lw S)
    rw [e1] at this
    cases this
    exact ⟨w', Wd.le_refl w', S, RepP.mono lw.1 _ _ p⟩
theorem new_pair {w : Wd} {F : Gm} {μ : Store} {H : Hp} {T : Addr} {a b : D} {x y : V} (S : SR C.kp w F μ H) (hT : H T = none) (ra : RepP C.K w.G a x) (rb : RepP C.K w.G b y) :
    ∃ w'', Wd.le w w'' ∧ SR C.kp w'' F μ (upd H T (.tup [x, y])) ∧ RepP C.K w''.G (.wk [a, b]) (.ref T) := by
  have gp := (S.ne_of_none hT).1
  have l1 : GLe w.G (setG w.G T (.tup [x, y])) := (Wd.le_setG (w := w) gp).1
  refine ⟨_, Wd.le_setG gp, S.newG hT, ?_⟩
  simp only [RepP]
  exact ⟨T, [x, y], rfl, setG_same, RepPs.cons (RepP.mono l1 _ _ ra) (RepPs.cons (RepP.mono l1 _ _ rb) RepPs.nil)⟩
theorem srcV_en {w : Wd} {Sq : Hp → List V → Prop} {vs : List V} (hs : Stays C w Sq vs) : ∀ (l : List D) (i : Nat), RepPs C.K w.G l (vs.drop i) → SrcV C (itEn Sq) w i (enumD (i : Nat) l)
  | [], i, r => by
    simp only [RepPs] at r
    have := List.drop_eq_nil_iff.mp r
    exact fun w' F μ H l S => ⟨vs, hs w' F μ H l S, this⟩
  | x :: l, i, r => by
    simp only [RepPs] at r
    obtain ⟨v, t, e, p, q⟩ := r
    obtain ⟨e1, e2⟩ := drop_cons e
    have ih := srcV_en hs l (i + 1) (by rw [e2]; exact q)
    have e3 : ((i + 1 : Nat) : Int) = (i : Int) + 1 := by omega
    rw [e3] at ih
    refine ⟨fun w' F μ H lw S => ⟨⟨vs, v, hs w' F μ H lw S, e1⟩, fun v' H' y => ?_⟩, ih⟩
    obtain ⟨T, x', rfl, hT, rfl, y⟩ := y
    have := y vs (hs w' F μ _ lw S)
    rw [e1] at this
    cases this
    exact new_pair S hT (by simp only [RepP]) (RepP.mono lw.1 _ _ p)
theorem srcV_zi {w : Wd} {Sa Sb : Hp → List V → Prop} {vs us : List V} (ha : Stays C w Sa vs) (hb : Stays C w Sb us) : ∀ (l m : List D) (i : Nat), RepPs C.K w.G l (vs.drop i) → RepPs C.K w.G m (us.drop i) → SrcV C (itZi Sa Sb) w i (zipD l m)
  | [], m, i, r, r' => by
    simp only [RepPs] at r
    have := List.drop_eq_nil_iff.mp r
    simp only [zipD]
    exact fun w' F μ H l S => ⟨vs, us, ha w' F μ H l S, hb w' F μ H l S, .inl this⟩
  | x :: l, [], i, r, r' => by
    simp only [RepPs] at r'
    have := List.drop_eq_nil_iff.mp r'
    simp only [zipD]
    exact fun w' F μ H l S => ⟨vs, us, ha w' F μ H l S, hb w' F μ H l S, .inr this⟩
  | x :: l, y :: m, i, r, r' => by
    simp only [RepPs] at r r'
    obtain ⟨v, t, e, p, q⟩ := r
    obtain ⟨u, t', e', p', q'⟩ := r'
    obtain ⟨e1, e2⟩ := drop_cons e
    obtain ⟨e1', e2'⟩ := drop_cons e'
    simp only [zipD]
    refine ⟨fun w' F μ H lw S => ⟨⟨vs, us, v, u, ha w' F μ H lw S, hb w' F μ H lw S, e1, e1'⟩, fun v' H' y => ?_⟩, srcV_zi ha hb l m (i + 1) (by rw [e2]; exact q) (by rw [e2']; exact q')⟩
    obtain ⟨T, x', y', rfl, hT, rfl, y1, y2⟩ := y
    have h1 := y1 vs (ha w' F μ _ lw S)
    have h2 := y2 us (hb w' F μ _ lw S)
    rw [e1] at h1
    rw [e1'] at h2
    cases h1; cases h2
    exact new_pair S hT (RepP.mono lw.1 _ _ p) (RepP.mono lw.1 _ _ p')
theorem srcV_rn {w : Wd} {lo : Int} {n : Nat} : ∀ (m i : Nat), i + m = n → SrcV C (Itr lo n) w i (rangeD (lo + (i : Nat)) m)
  | 0, i, h => by
    simp only [rangeD]
    exact fun w' F μ H l S => by show n ≤ i; omega
  | m + 1, i, h => by
    simp only [rangeD]
    have ih := srcV_rn (w := w) (lo := lo) (n := n) m (i + 1) (by omega)
    have e3 : lo + ((i + 1 : Nat) : Int) = lo + (i : Int) + 1 := by omega
    rw [e3] at ih
    refine ⟨fun w' F μ H lw S => ⟨by show i < n; omega, fun v' H' y => ?_⟩, ih⟩
    obtain ⟨rfl, rfl⟩ := y
    exact ⟨w', Wd.le_refl w', S, by simp only [RepP]⟩

def tIt (C : Cfg) (X : Cx) (f : Env → Store → R Src) : TI := fun σ H R => ∃ w F ρ μ, SR C.kp w F μ H ∧ EnvR C.K w ρ σ ∧ Post C X w F (fun w' s J => SrcR C J w' 0 s) (f ρ μ) R
theorem PI.imp {tg e : Expr} {t t' : TI} (h : PI X tg e t) (i : ∀ σ H Q, t' σ H Q → t σ H Q) : PI X tg e t' := ⟨fun pins s σ H Q I q => h.run pins s σ H Q I (i σ H Q q)⟩
/-- a list or a tuple, walked -/
def iSq (K : PySem.W.Frag) (tl : TE) : TI := fun σ H R => tl σ H fun x H1 => ∃ a, x = .ref a ∧ (((∃ xs, SqL K H1 a xs) ∧ R (Itl K a) H1) ∨ ((∃ xs, SqT K H1 a xs) ∧ R (Itt K a) H1))
theorem pi_sq {tg l : Expr} {tl : TE} (hl : PE X l tl) : PI X tg l (iSq X.K tl) := by
  refine ⟨fun pins s σ H R I h => ?_⟩
  refine thn (hl.run pins s σ H _ I h) fun v s1 ⟨x, H1, I1, r1, q1⟩ => ?_
  obtain ⟨a, e, q1⟩ := q1
  subst e
  cases r1
  rcases q1 with ⟨⟨xs, hq⟩, q⟩ | ⟨⟨xs, hq⟩, q⟩
  · obtain ⟨its, rv, p, hz⟩ := I1.list hq
    refine wpAny_pyIter_list p.isList ?_
    refine ⟨s1.heap.objs.size, [s1.heap.objs.size], _, _, H1, rfl, I1.kept (t' := s1.toks) fun b o e => Heap.get?_push_of_some _ e, turn_list a _, ⟨_, Heap.get?_push_size _ rfl, rfl, rfl⟩, fun b hb => ?_, q⟩
    have e : b = s1.heap.objs.size := by simpa using hb
    subst e
    exact I1.fpOk (Nat.le_refl _) (I1.hok.fresh (Nat.le_refl _))
  · obtain ⟨its, rv, p, hz⟩ := I1.tuple hq
    refine wpAny_pyIter_tuple (show s1.heap.IsTuple a its.toArray from p) ?_
    refine ⟨s1.heap.objs.size, [s1.heap.objs.size], _, _, H1, rfl, I1.kept (t' := s1.toks) fun b o e => Heap.get?_push_of_some _ e, turn_tuple a _, ⟨_, Heap.get?_push_size _ rfl, rfl, rfl⟩, fun b hb => ?_, q⟩
    have e : b = s1.heap.objs.size := by simpa using hb
    subst e
    exact I1.fpOk (Nat.le_refl _) (I1.hok.fresh (Nat.le_refl _))
theorem stays_tup {w : Wd} {a : Addr} {vs : List V} (h : TupAt C.K w.G a vs) : Stays C w (fun H => SqT C.K H a) vs := fun w' F μ H l S => (h.mono l.1).seq S.g
theorem stays_lst {w : Wd} {a : Addr} {vs : List V} (h : w.G a = some (.lst vs)) : Stays C w (fun H => SqL C.K H a) vs := fun w' F μ H l S => SqL.of (S.g _ _ (l.1 _ _ h))
theorem tOne {fa : Env → Store → R D} {f : Store → D → R Src} {σ : L2.St} {H : Hp} {R' : It → Hp → Prop} {r : V → Hp → Prop} (h : tIt C X (fun ρ μ => (fa ρ μ).bind fun x μ => f μ x) σ H R')
    (i : ∀ w F μ d x H1, SR C.kp w F μ H1 → RepV C.K w d x → Post C X w F (fun w' s J => SrcR C J w' 0 s) (f μ d) R' → r x H1) : tE C X fa σ H r := by
  obtain ⟨w, F, ρ, μ, s, en, h⟩ := h
  refine ⟨w, F, ρ, μ, s, en, (Post.bind (Rel := RepV C.K) h).mono ?_⟩
  rintro x H1 ⟨w1, d, μ1, l1, s1, r1, h1⟩
  exact i w1 F μ1 d x H1 s1 r1 h1
theorem it_seq {fa : Env → Store → R D} {tg e : Expr} (I : CxI C k X) (ha : PE X e (tE C X fa)) :
    PI X tg e (tIt C X fun ρ μ => (fa ρ μ).bind fun d μ => liftO ((srcOf d).bind fun s => if srcOk μ s then some s else none) μ) := by
  refine PI.imp (pi_sq ha) ?_
  intro σ H R' q
  refine tOne (f := fun μ d => liftO ((srcOf d).bind fun s => if srcOk μ s then some s else none) μ) q ?_
  intro w F μ d x H1 S r h
  obtain ⟨s, e, h2⟩ := h.lift
  obtain ⟨s', e1, e2⟩ := Option.bind_eq_some_iff.mp e
  split at e2
  · rename_i hok
    cases e2
    rw [I.K]
    have vals : ∀ {l : List D}, view μ d = d → items d = some l → s = .vals l → ∃ a, x = .ref a ∧ (((∃ xs, SqL C.K H1 a xs) ∧ R' (Itl C.K a) H1) ∨ ((∃ xs, SqT C.K H1 a xs) ∧ R' (Itt C.K a) H1)) := by
      rintro l hv hi rfl
      cases d <;> simp only [items, reduceCtorEq, Option.some.injEq] at hi
      · subst hi
        simp only [RepV, RepP] at r
        obtain ⟨a, vs, rfl, ga, rl⟩ := r
        refine ⟨a, rfl, .inr ⟨⟨vs, (ga.seq S.g)⟩, h2.ok S ?_⟩⟩
        exact srcV_it (Sq := fun H => SqT C.K H a) (stays_tup ga) _ 0 (by simpa using rl)
      · subst hi
        simp only [RepV, RepP] at r
        obtain ⟨a, vs, rfl, ga, rl⟩ := r
        refine ⟨a, rfl, .inl ⟨⟨vs, SqL.of (S.g _ _ ga)⟩, h2.ok S ?_⟩⟩
        exact srcV_it (Sq := fun H => SqL C.K H a) (stays_lst ga) _ 0 (by simpa using rl)
      · subst hi
        rename_i is
        simp only [RepV, RepP] at r
        obtain ⟨a, rfl, hq⟩ := r
        have st : Stays C w (fun H => SqL C.K H a) (is.map V.int) := by
          intro w' F' μ' H' l S'
          rcases hq with ⟨o, g⟩ | g
          · exact .inl (.inr ⟨o, S'.g _ _ (l.1 _ _ g)⟩)
          · exact .inr g
        refine ⟨a, rfl, .inl ⟨⟨_, st w F μ H1 (Wd.le_refl w) S⟩, h2.ok S ?_⟩⟩
        exact srcV_it (Sq := fun H => SqL C.K H a) st _ 0 (RepPs.ofInts is)
    cases d <;> simp only [srcOf] at e1
    case ref i =>
      cases e1
      obtain ⟨a, h1, rfl⟩ := r
      unfold srcOk at hok
      simp only at hok
      split at hok
      · rename_i ls hl
        obtain ⟨b, h3, vs, h4, h5⟩ := S.at hl
        rw [h1] at h3
        cases h3
        exact ⟨a, rfl, .inl ⟨⟨vs, SqL.of h4⟩, h2.ok S ⟨rfl, a, h1, rfl⟩⟩⟩
      · cases hok
    all_goals
      obtain ⟨l, e3, e4⟩ := Option.map_eq_some_iff.mp e1
      exact vals rfl e3 e4.symm
  · cases e2
theorem rng_ok {a b : Int} {l : List D} (h : rngD a b = some l) : (-(2 ^ 62) ≤ a ∧ a < 2 ^ 62 ∧ -(2 ^ 62) ≤ b ∧ b < 2 ^ 62) ∧ l = rangeD a (b - a).toNat := by
  unfold rngD at h
  split at h
  · rename_i z
    simp only [Bool.and_eq_true, decide_eq_true_eq] at z
    cases h
    exact ⟨by omega, rfl⟩
  · cases h
theorem it_rng {fa : Env → Store → R D} {tg e : Expr} {x : Str} {p pos : Pos} (B : Bnd C) (I : CxI C k X) (h1 : isBlt C.n X.env.scope "range" x = true) (hs : starred e = false) (ha : PE X e (tE C X fa)) :
    PI X tg (.Call (.Name x p) [e] [] pos) (tIt C X fun ρ μ => (fa ρ μ).bind fun d μ => liftO (valsOf ((asI d).bind (rngD 0))) μ) := by
  obtain ⟨rfl, g1, m1⟩ := blt_ok B I h1
  have st := star_of hs [] X.env
  refine PI.imp (pi_range1 g1 m1 (pa_cons ha pa_nil st) st) ?_
  intro σ H R' q
  refine tOne (f := fun μ d => liftO (valsOf ((asI d).bind (rngD 0))) μ) q ?_
  intro w F μ d x H1 S r h
  obtain ⟨s, e, h2⟩ := h.lift
  unfold valsOf at e
  split at e
  · rename_i l hl
    cases e
    obtain ⟨j, e1, e2⟩ := Option.bind_eq_some_iff.mp hl
    obtain ⟨b, rfl⟩ := rng_ok e2
    refine ⟨j, by rw [asI_rel r e1], b.2.2.1, b.2.2.2, h2.ok S ?_⟩
    have := srcV_rn (C := C) (w := w) (lo := 0) (n := j.toNat) j.toNat 0 (by omega)
    simp at this
    show SrcV C (Itr 0 j.toNat) w 0 (rangeD 0 (j - 0).toNat)
    rw [Int.sub_zero]
    exact this
  · cases e
theorem it_rng2 {fa fb : Env → Store → R D} {tg e e' : Expr} {x : Str} {p pos : Pos} (B : Bnd C) (I : CxI C k X) (h1 : isBlt C.n X.env.scope "range" x = true) (hs : starred e = false) (hs' : starred e' = false) (ha : PE X e (tE C X fa)) (hb : PE X e' (tE C X fb)) :
    PI X tg (.Call (.Name x p) [e, e'] [] pos) (tIt C X fun ρ μ => (fa ρ μ).bind fun d μ => (fb ρ μ).bind fun d' μ => liftO (valsOf ((asI d).bind fun i => (asI d').bind (rngD i))) μ) := by
  obtain ⟨rfl, g1, m1⟩ := blt_ok B I h1
  have st2 := star_of hs' [] X.env
  have st : starEach [e, e'] X.env = (false, eval e X.env) :: starEach [e'] X.env := star_of hs [e'] X.env
  refine PI.imp (pi_range2 g1 m1 (pa_cons ha (pa_cons hb pa_nil st2) st) (by rw [st, st2]; rfl) st2) ?_
  rintro σ H R' ⟨w, F, ρ, μ, s, en, h⟩
  refine ⟨w, F, ρ, μ, s, en, (Post.bind (Rel := RepV C.K) h).mono ?_⟩
  rintro v1 H1 ⟨w1, d, μ1, l1, s1, r1, h1⟩
  refine ⟨w1, F, ρ, μ1, s1, en.mono l1, (Post.bind (Rel := RepV C.K) h1).mono ?_⟩
  rintro v2 H2 ⟨w2, d', μ2, l2, s2, r2, h2⟩
  obtain ⟨s, e, h3⟩ := h2.lift
  unfold valsOf at e
  split at e
  · rename_i l hl
    cases e
    obtain ⟨i, e1, e2⟩ := Option.bind_eq_some_iff.mp hl
    obtain ⟨j, e3, e4⟩ := Option.bind_eq_some_iff.mp e2
    obtain ⟨b, rfl⟩ := rng_ok e4
    refine ⟨i, j, by rw [asI_rel r1 e1, asI_rel r2 e3], b, h3.ok s2 ?_⟩
    have := srcV_rn (C := C) (w := w2) (lo := i) (n := (j - i).toNat) (j - i).toNat 0 (by omega)
    simp at this
    exact this
  · cases e
theorem it_enum {fa : Env → Store → R D} {tg e : Expr} {x : Str} {p pos : Pos} (B : Bnd C) (I : CxI C k X) (ht : isTup tg = true) (h1 : isBlt C.n X.env.scope "enumerate" x = true) (hs : starred e = false) (ha : PE X e (tE C X fa)) :
    PI X tg (.Call (.Name x p) [e] [] pos) (tIt C X fun ρ μ => (fa ρ μ).bind fun d μ => liftO (valsOf (itEnum d)) μ) := by
  obtain ⟨rfl, g1, m1⟩ := blt_ok B I h1
  have st := star_of hs [] X.env
  cases tg <;> first | (simp [isTup] at ht; done) | skip
  refine PI.imp (pi_enumA g1 m1 (pa_cons ha pa_nil st) st) ?_
  intro σ H R' q
  refine tOne (f := fun μ d => liftO (valsOf (itEnum d)) μ) q ?_
  intro w F μ d x H1 S r h
  obtain ⟨s, e, h2⟩ := h.lift
  rw [I.K]
  cases d <;> simp only [itEnum, valsOf, reduceCtorEq, Option.some.injEq] at e
  · subst e
    simp only [RepV, RepP] at r
    obtain ⟨a, vs, rfl, ga, rl⟩ := r
    refine ⟨a, vs, rfl, .inr ⟨(ga.seq S.g), h2.ok S ?_⟩⟩
    have := srcV_en (Sq := fun H => SqT C.K H a) (stays_tup ga) _ 0 (by simpa using rl)
    simp at this
    exact this
  · subst e
    simp only [RepV, RepP] at r
    obtain ⟨a, vs, rfl, ga, rl⟩ := r
    refine ⟨a, vs, rfl, .inl ⟨SqL.of (S.g _ _ ga), h2.ok S ?_⟩⟩
    have := srcV_en (Sq := fun H => SqL C.K H a) (stays_lst ga) _ 0 (by simpa using rl)
    simp at this
    exact this
theorem it_zip {fa fb : Env → Store → R D} {tg e e' : Expr} {x : Str} {p pos : Pos} (B : Bnd C) (I : CxI C k X) (ht : isTup tg = true) (h1 : isBlt C.n X.env.scope "zip" x = true) (hs : starred e = false) (hs' : starred e' = false) (ha : PE X e (tE C X fa)) (hb : PE X e' (tE C X fb)) :
    PI X tg (.Call (.Name x p) [e, e'] [] pos) (tIt C X fun ρ μ => (fa ρ μ).bind fun d μ => (fb ρ μ).bind fun d' μ => liftO (valsOf (itZip d d')) μ) := by
  obtain ⟨rfl, g1, m1⟩ := blt_ok B I h1
  have st2 := star_of hs' [] X.env
  have st : starEach [e, e'] X.env = (false, eval e X.env) :: starEach [e'] X.env := star_of hs [e'] X.env
  cases tg <;> first | (simp [isTup] at ht; done) | skip
  refine PI.imp (RZ.pi_zipA g1 m1 (pa_cons ha (pa_cons hb pa_nil st2) st) st (by rw [st2]; rfl)) ?_
  rintro σ H R' ⟨w, F, ρ, μ, s, en, h⟩
  refine ⟨w, F, ρ, μ, s, en, (Post.bind (Rel := RepV C.K) h).mono ?_⟩
  rintro v1 H1 ⟨w1, d, μ1, l1, s1, r1, h1⟩
  refine ⟨w1, F, ρ, μ1, s1, en.mono l1, (Post.bind (Rel := RepV C.K) h1).mono ?_⟩
  rintro v2 H2 ⟨w2, d', μ2, l2, s2, r2, h2⟩
  obtain ⟨s, e, h3⟩ := h2.lift
  have r1 := r1.mono l2
  rw [I.K]
  cases d <;> cases d' <;> simp only [itZip, valsOf, reduceCtorEq, Option.some.injEq] at e
  · subst e
    simp only [RepV, RepP] at r1 r2
    obtain ⟨a, vs, rfl, ga, rl⟩ := r1
    obtain ⟨b, us, rfl, gb, rm⟩ := r2
    refine ⟨a, b, vs, us, rfl, .inr ⟨(ga.seq s2.g), (gb.seq s2.g), h3.ok s2 ?_⟩⟩
    exact srcV_zi (Sa := fun H => SqT C.K H a) (Sb := fun H => SqT C.K H b) (stays_tup ga) (stays_tup gb) _ _ 0 (by simpa using rl) (by simpa using rm)
  · subst e
    simp only [RepV, RepP] at r1 r2
    obtain ⟨a, vs, rfl, ga, rl⟩ := r1
    obtain ⟨b, us, rfl, gb, rm⟩ := r2
    refine ⟨a, b, vs, us, rfl, .inl ⟨SqL.of (s2.g _ _ ga), SqL.of (s2.g _ _ gb), h3.ok s2 ?_⟩⟩
    exact srcV_zi (Sa := fun H => SqL C.K H a) (Sb := fun H => SqL C.K H b) (stays_lst ga) (stays_lst gb) _ _ 0 (by simpa using rl) (by simpa using rm)
theorem it_imp {f : EvE} {m : ME} {sc : Scope} {tg e : Expr} {it : Itx} (B : Bnd C) (I : CxI C k X) (hsc : sc = X.env.scope) (hE : ∀ a e, m a e = true → PE X e (tE C X (f a))) (h : mIt m C.n sc tg it e = true) :
    PI X tg e (tIt C X fun ρ μ => evIt f ρ μ it) ∧ isSet e = false := by
  subst hsc
  unfold mIt at h
  split at h
  · simp only [Bool.and_eq_true, Bool.not_eq_true'] at h
    exact ⟨it_rng B I h.1.1 h.1.2 (hE _ _ h.2), rfl⟩
  · simp only [Bool.and_eq_true, Bool.not_eq_true'] at h
    exact ⟨it_rng2 B I h.1.1.1.1 h.1.1.1.2 h.1.1.2 (hE _ _ h.1.2) (hE _ _ h.2), rfl⟩
  · simp only [Bool.and_eq_true, Bool.not_eq_true'] at h
    exact ⟨it_enum B I h.1.1.1 h.1.1.2 h.1.2 (hE _ _ h.2), rfl⟩
  · simp only [Bool.and_eq_true, Bool.not_eq_true'] at h
    exact ⟨it_zip B I h.1.1.1.1.1 h.1.1.1.1.2 h.1.1.1.2 h.1.1.2 (hE _ _ h.1.2) (hE _ _ h.2), rfl⟩
  · simp only [Bool.and_eq_true, Bool.not_eq_true'] at h
    exact ⟨it_seq I (hE _ _ h.2), h.1⟩
  · cases h
end
end EV

/-! EV, part 11: targets, comprehensions. -/
namespace EV
open PySem PySem.Spec PyProof.Rows L2

theorem R.assoc {α β γ : Type} (r : R α) (f : α → Store → R β) (g : β → Store → R γ) : (r.bind f).bind g = r.bind fun a μ => (f a μ).bind g := by cases r <;> rfl
def NoExc {α : Type} (r : R α) : Prop := ∀ c fs μ, r ≠ .exc c fs μ
theorem NoExc.noX {α : Type} (r : R α) : NoExc (noX r) := by intro c fs μ h; cases r <;> simp [EV.noX] at h
theorem NoExc.bind {α β : Type} {r : R α} {f : α → Store → R β} (h : NoExc r) (k : ∀ a μ, NoExc (f a μ)) : NoExc (r.bind f) := by
  cases r with
  | ok a μ => exact k a μ
  | exc c fs μ => exact absurd rfl (h c fs μ)
  | stuck => intro c fs μ e; cases e
theorem NoExc.ok {α : Type} {a : α} {μ : Store} : NoExc (.ok a μ : R α) := by intro c fs μ e; cases e
theorem NoExc.stuck {α : Type} : NoExc (.stuck : R α) := by intro c fs μ e; cases e
theorem compL_ne (S : Sem) (ρ : Env) (t : Tg) (c : Option Ex) (elt : Ex) : ∀ (n : Nat) (s : Src) (μ : Store), NoExc (compL S ρ t c elt n s μ)
  | 0, s, μ => by unfold compL; exact NoExc.stuck
  | n + 1, s, μ => by
    unfold compL
    split
    · split
      · exact NoExc.ok
      · split
        · exact NoExc.stuck
        · refine NoExc.bind (NoExc.noX _) fun b μ => ?_
          cases b with
          | true =>
            refine NoExc.bind (NoExc.noX _) fun d μ => ?_
            split
            · exact NoExc.stuck
            · exact NoExc.bind (compL_ne S ρ t c elt n _ μ) fun _ _ => NoExc.ok
          | false => exact compL_ne S ρ t c elt n _ μ
    · exact NoExc.stuck
theorem compL2_ne (S : Sem) (own' : List Nat) (ρ : Env) (t t' : Tg) (it' : Itx) (c : Option Ex) (elt : Ex) : ∀ (n : Nat) (s : Src) (μ : Store), NoExc (compL2 S own' ρ t t' it' c elt n s μ)
  | 0, s, μ => by unfold compL2; exact NoExc.stuck
  | n + 1, s, μ => by
    unfold compL2
    split
    · split
      · exact NoExc.ok
      · split
        · exact NoExc.stuck
        · exact NoExc.bind (NoExc.noX _) fun s1 μ => NoExc.bind (compL_ne _ _ _ _ _ _ _ _) fun ds μ => NoExc.bind (compL2_ne S own' ρ t t' it' c elt n _ μ) fun _ _ => NoExc.ok
    · exact NoExc.stuck

section
variable {C : Cfg} {X : Cx} {k : Nat}
theorem Post.le {α β : Type} {w w1 : Wd} {F : Gm} {Rel : Wd → α → β → Prop} {r : R α} {Q : β → Hp → Prop} (l : Wd.le w w1) (h : Post C X w F Rel r Q) : Post C X w1 F Rel r Q := by
  cases r with
  | ok a μ => exact fun w2 b H2 l2 s2 r2 => h w2 b H2 (Wd.le_trans l l2) s2 r2
  | exc c fs μ =>
    obtain ⟨W, t, q⟩ := h
    exact ⟨W, t, fun w2 H2 cls dx σ' l2 s2 r2 => q w2 H2 cls dx σ' (Wd.le_trans l l2) s2 r2⟩
  | stuck => exact h
/-- the list that is put together is short -/
theorem Post.len {w : Wd} {F : Gm} {r : R (List D)} {acc : List D} {Q : VK} (hn : NoExc r) (h : Post C X w F (RepV C.K) (r.bind fun ds μ => liftO (shortO (acc ++ ds) (.lst (acc ++ ds))) μ) Q) : acc.length ≤ sizeLine := by
  cases r with
  | ok ds μ =>
    have h' : Post C X w F (RepV C.K) (liftO (shortO (acc ++ ds) (.lst (acc ++ ds))) μ) Q := h
    obtain ⟨d, e, _⟩ := h'.lift
    unfold shortO at e
    split at e
    · rename_i z
      have := short_le z
      rw [List.length_append] at this
      omega
    · cases e
  | exc c fs μ => exact absurd rfl (hn c fs μ)
  | stuck => exact False.elim h
/-- the same wish, no exception thought of -/
def PostN {α β : Type} (C : Cfg) (w : Wd) (F : Gm) (Rel : Wd → α → β → Prop) (r : R α) (Q : β → Hp → Prop) : Prop :=
  match r with
  | .ok a μ => ∀ (w' : Wd) (b : β) (H' : Hp), Wd.le w w' → SR C.kp w' F μ H' → Rel w' a b → Q b H'
  | _ => False
theorem PostN.post {α β : Type} {w : Wd} {F : Gm} {Rel : Wd → α → β → Prop} {r : R α} {Q : β → Hp → Prop} (h : PostN C w F Rel r Q) : Post C X w F Rel r Q := by
  cases r with
  | ok a μ => exact h
  | exc c fs μ => exact False.elim h
  | stuck => exact h
def tEn (C : Cfg) (f : Env → Store → R D) : TE := fun σ H Q => ∃ w F ρ μ, SR C.kp w F μ H ∧ EnvR C.K w ρ σ ∧ PostN C w F (RepV C.K) (f ρ μ) Q
def tTn (C : Cfg) (f : Env → Store → R Bool) : TT := fun σ H Q => ∃ w F ρ μ, SR C.kp w F μ H ∧ EnvR C.K w ρ σ ∧ PostN C w F RelB (f ρ μ) Q
def tItN (C : Cfg) (f : Env → Store → R Src) : TI := fun σ H R => ∃ w F ρ μ, SR C.kp w F μ H ∧ EnvR C.K w ρ σ ∧ PostN C w F (fun w' s J => SrcR C J w' 0 s) (f ρ μ) R
theorem PE.n {f : Env → Store → R D} {e : Expr} (h : PE X e (tE C X f)) : PE X e (tEn C f) := PE.imp h fun σ H Q ⟨w, F, ρ, μ, s, en, q⟩ => ⟨w, F, ρ, μ, s, en, q.post⟩
theorem PT.n {f : Env → Store → R Bool} {e : Expr} (h : PT X e (tT C X f)) : PT X e (tTn C f) := PT.imp h fun σ H Q ⟨w, F, ρ, μ, s, en, q⟩ => ⟨w, F, ρ, μ, s, en, q.post⟩
theorem PI.n {f : Env → Store → R Src} {tg e : Expr} (h : PI X tg e (tIt C X f)) : PI X tg e (tItN C f) := PI.imp h fun σ H Q ⟨w, F, ρ, μ, s, en, q⟩ => ⟨w, F, ρ, μ, s, en, q.post⟩

/-! ### targets -/
theorem wipe_in {σ : L2.St} : ∀ {vs : List Nat} {j : Nat}, j ∈ vs → (L2.wipe σ vs)[j]? = if j < σ.length then some none else none
  | [], _, h => by cases h
  | v :: vs, j, h => by
    unfold L2.wipe
    by_cases e : v = j
    · subst e
      by_cases hl : v < σ.length
      · rw [if_pos hl, List.getElem?_set_self (by rw [wipe_length]; exact hl)]
      · rw [if_neg hl, List.getElem?_eq_none]
        rw [List.length_set, wipe_length]; omega
    · rw [List.getElem?_set_ne e]
      exact wipe_in ((List.mem_cons.mp h).resolve_left (Ne.symm e))
theorem wipe_set {σ : L2.St} {i : Nat} {x : Option V} {vs : List Nat} (h : i ∈ vs) : L2.wipe (σ.set i x) vs = L2.wipe σ vs := by
  apply List.ext_getElem?
  intro j
  by_cases hj : j ∈ vs
  · rw [wipe_in hj, wipe_in hj, List.length_set]
  · rw [wipe_out hj, wipe_out hj, List.getElem?_set_ne (fun e : i = j => hj (e ▸ h))]
def tG (C : Cfg) (t : Tg) : TG := fun v σ H Q => ∃ w F μ ρ d ρ', SR C.kp w F μ H ∧ EnvR C.K w ρ σ ∧ RepV C.K w d v ∧ bindT ρ t d = some ρ' ∧ ∀ σ', EnvR C.K w ρ' σ' → (∀ vs, tgIn vs t = true → L2.wipe σ' vs = L2.wipe σ vs) → Q σ' H
def tGs (C : Cfg) (is : List Nat) : TGs := fun vs σ H Q => ∃ w F μ ρ ds ρ', SR C.kp w F μ H ∧ EnvR C.K w ρ σ ∧ RepVs C.K w ds vs ∧ setEs ρ is ds = some ρ' ∧ ∀ σ', EnvR C.K w ρ' σ' → (∀ vs, (is.all fun i => vs.contains i) = true → L2.wipe σ' vs = L2.wipe σ vs) → Q σ' H
theorem PG.imp {e : Expr} {t t' : TG} (h : PG X e t) (i : ∀ v σ H Q, t' v σ H Q → t v σ H Q) : PG X e t' := ⟨fun pins s σ H v u Q I r q => h.run pins s σ H v u Q I r (i v σ H Q q)⟩
theorem PGs.imp {es : List Expr} {t t' : TGs} (h : PGs X es t) (i : ∀ v σ H Q, t' v σ H Q → t v σ H Q) : PGs X es t' := ⟨fun pins s σ H v u Q I r q => h.run pins s σ H v u Q I r (i v σ H Q q)⟩
theorem RepPs.vs {w : Wd} : ∀ {ds : List D} {vs : List V}, RepPs C.K w.G ds vs → RepVs C.K w ds vs
  | [], _, h => by simp only [RepPs] at h; exact h
  | d :: ds, vs, h => by
    simp only [RepPs] at h
    obtain ⟨v, r, e, p, q⟩ := h
    exact ⟨v, r, e, RepV.ofP p, RepPs.vs q⟩
theorem pg_one {ok : Str → Bool} {i : Nat} {x : Str} {p : Pos} (I : CxI C k X) (hf : ∀ x, ok x = true → X.fn x = true ∨ X.env.scope.names.lookup x = some .local) (h : (isLoc X.N X.env.scope i x && ok x) = true) : PG X (.Name x p) (gName i) := by
  simp only [Bool.and_eq_true, isLoc] at h
  obtain ⟨⟨⟨h1, h2⟩, h3⟩, h4⟩ := h
  exact pg_name I.nd (isN_ok h1) (loc_ok h2) (hf x h4)
theorem pgs_imp {ok : Str → Bool} (I : CxI C k X) (hf : ∀ x, ok x = true → X.fn x = true ∨ X.env.scope.names.lookup x = some .local) : ∀ (is : List Nat) (es : List Expr), mNames ok X.N X.env.scope is es = true → PGs X es (tGs C is)
  | [], [], _ => by
    refine PGs.imp pgs_nil ?_
    rintro vs σ H Q ⟨w, F, μ, ρ, ds, ρ', s, en, r, e, q⟩
    cases ds with
    | nil =>
      cases e
      exact ⟨r, q σ en fun _ _ => rfl⟩
    | cons _ _ => cases e
  | i :: is, e :: es, h => by
    cases e <;> simp only [mNames, Bool.and_eq_true, Bool.false_eq_true] at h
    rename_i x p
    refine PGs.imp (pgs_cons (pg_one (ok := ok) I hf (by simpa using h.1)) (pgs_imp I hf is es h.2)) ?_
    rintro vs σ H Q ⟨w, F, μ, ρ, ds, ρ', s, en, r, e, q⟩
    cases ds with
    | nil => cases e
    | cons d ds =>
      obtain ⟨v, t, rfl, r1, r2⟩ := r
      refine ⟨v, t, rfl, w, F, μ, setE ρ i d, ds, ρ', s, en.set r1, r2, e, fun σ' en' hw => q σ' en' fun vs hv => ?_⟩
      simp only [List.all_cons, Bool.and_eq_true] at hv
      rw [hw vs hv.2, wipe_set (by simpa using hv.1)]
  | [], _ :: _, h => by simp [mNames] at h
  | _ :: _, [], h => by simp [mNames] at h
theorem names_each {ok : Str → Bool} {N : List Str} {sc : Scope} {env : PySem.Env} : ∀ {is : List Nat} {es : List Expr}, mNames ok N sc is es = true → (assignEach es env).length = is.length ∧ (assignEach es env).findIdx? (·.1) = none
  | [], [], _ => ⟨rfl, rfl⟩
  | i :: is, e :: es, h => by
    cases e <;> simp only [mNames, Bool.and_eq_true, Bool.false_eq_true] at h
    obtain ⟨a, b⟩ := names_each (env := env) h.2
    have e : ∀ x p, assignEach (.Name x p :: es) env = (false, assign (.Name x p) env) :: assignEach es env := fun _ _ => rfl
    rw [e]
    refine ⟨by simp [a], ?_⟩
    rw [List.findIdx?_cons, b]
    rfl
  | [], _ :: _, h => by simp [mNames] at h
  | _ :: _, [], h => by simp [mNames] at h
theorem setEs_len : ∀ {is : List Nat} {ds : List D} {ρ ρ' : Env}, setEs ρ is ds = some ρ' → ds.length = is.length
  | [], [], _, _, _ => rfl
  | i :: is, d :: ds, ρ, ρ', h => by simp [setEs_len (show setEs (setE ρ i d) is ds = some ρ' from h)]
  | [], _ :: _, _, _, h => by cases h
  | _ :: _, [], _, _, h => by cases h
theorem pg_imp {ok : Str → Bool} {t : Tg} {tg : Expr} (I : CxI C k X) (hf : ∀ x, ok x = true → X.fn x = true ∨ X.env.scope.names.lookup x = some .local) (h : mTg ok X.N X.env.scope t tg = true) : PG X tg (tG C t) := by
  cases t with
  | nm i =>
    cases tg <;> simp only [mTg, Bool.false_eq_true] at h
    refine PG.imp (pg_one I hf h) ?_
    rintro v σ H Q ⟨w, F, μ, ρ, d, ρ', s, en, r, e, q⟩
    simp only [bindT, Option.some.injEq] at e
    subst e
    refine q _ (en.set r) fun vs hv => wipe_set (by simpa [tgIn] using hv)
  | tp is =>
    cases tg <;> simp only [mTg, Bool.false_eq_true] at h
    rename_i es kk pos
    obtain ⟨a, b⟩ := names_each (env := X.env) h
    refine PG.imp (pg_tup I.calm (pgs_imp I hf is es h) a b) ?_
    rintro v σ H Q ⟨w, F, μ, ρ, d, ρ', s, en, r, e, q⟩
    cases d <;> simp only [bindT, reduceCtorEq] at e
    all_goals
      simp only [RepV, RepP] at r
      obtain ⟨p, vs, rfl, gp, rp⟩ := r
    · exact ⟨p, vs, rfl, I.K ▸ (gp.seq s.g), by rw [rp.length, setEs_len e], w, F, μ, ρ, _, ρ', s, en, rp.vs, e, q⟩
    · exact ⟨p, vs, rfl, I.K ▸ SqT.of (s.g _ _ gp), by rw [rp.length, setEs_len e], w, F, μ, ρ, _, ρ', s, en, rp.vs, e, q⟩
end
end EV

/-! EV, part 12: list comprehensions. -/
namespace EV
open PySem PySem.Spec PyProof.Rows L2

theorem wipe_twice {σ : L2.St} {vs : List Nat} : L2.wipe (L2.wipe σ vs) vs = L2.wipe σ vs := by
  apply List.ext_getElem?
  intro j
  by_cases hj : j ∈ vs
  · rw [wipe_in hj, wipe_in hj, wipe_length]
  · rw [wipe_out hj, wipe_out hj]
theorem tYes_ok {σ : L2.St} {H : Hp} {P R : Hp → Prop} (h : P H) : tYes σ H fun b H3 => if b = true then P H3 else R H3 := by
  show (if true = true then P H else R H)
  rw [if_pos rfl]
  exact h
section
variable {C : Cfg} {X : Cx} {k : Nat}
/-- the new list is at hand -/
theorem lst_done {w : Wd} {F : Gm} {μ : Store} {H : Hp} {Dd : Addr} {acc : List D} {accV : List V} {Q : VK} (hF : F Dd = none) (S : SR C.kp w (setG F Dd (.lst accV)) μ H) (ra : RepPs C.K w.G acc accV)
    (h : Post C X w F (RepV C.K) (liftO (shortO acc (.lst acc)) μ) Q) : Q (.ref Dd) H := by
  obtain ⟨d, e, h2⟩ := h.lift
  unfold shortO at e
  split at e
  · cases e
    obtain ⟨S', gp⟩ := S.fG hF
    refine h2 _ _ _ (Wd.le_setG gp) S' ?_
    simp only [RepV, RepP]
    exact ⟨Dd, accV, rfl, setG_same, RepPs.mono (Wd.le_setG (w := w) gp).1 _ _ ra⟩
  · cases e
/-- a wish about the answer that comes at the end, whatever it says -/
structure Wish (PP : Wd → R D → Prop) : Prop where
  le : ∀ {w w' : Wd} {r : R D}, Wd.le w w' → PP w r → PP w' r
  no : ∀ {w : Wd}, PP w .stuck → False
theorem Wish.post {w0 : Wd} {F : Gm} {Q : VK} : Wish (fun w r => Post C X w F (RepV C.K) r Q) := ⟨fun l h => Post.le l h, fun h => h⟩
theorem Wish.len {PP : Wd → R D → Prop} (W : Wish PP) {w : Wd} {r : R (List D)} {acc : List D} (hn : NoExc r) (h : PP w (r.bind fun ds μ => liftO (shortO (acc ++ ds) (.lst (acc ++ ds))) μ)) : acc.length ≤ sizeLine := by
  cases r with
  | ok ds μ =>
    have h' : PP w (liftO (shortO (acc ++ ds) (.lst (acc ++ ds))) μ) := h
    unfold shortO at h'
    split at h'
    · rename_i z
      have := short_le z
      rw [List.length_append] at this
      omega
    · exact False.elim (W.no h')
  | exc c fs μ => exact absurd rfl (hn c fs μ)
  | stuck => exact False.elim (W.no h)
abbrev fin (acc : List D) (ds : List D) (μ : Store) : R D := liftO (shortO (acc ++ ds) (.lst (acc ++ ds))) μ
/-- one turn of a clause: behind the iterator's step, until the rest. K': what comes behind the clause's own values -/
theorem turn_one {S : Sem} {own : List Nat} {t : Tg} {c : Option Ex} {elt : Ex} {σ : L2.St} {ρ : Env} {w : Wd} {F : Gm} {Dd : Addr} {μ : Store} {n : Nat} {src s' : Src} {acc : List D} {accV : List V} {x : D} {v : V} {H' : Hp} {PP : Wd → R D → Prop} {K' : List D → Store → R (List D)} {Nx : Hp → Prop} {i : Nat} {J : It}
    (WP : Wish PP) (ht : tgIn own t = true) (hσ : L2.wipe σ own = σ) (hK : ∀ ds μ, NoExc (K' ds μ)) (hc : ∀ d ds μ, K' (d :: ds) μ = (K' ds μ).bind fun l μ => .ok (d :: l) μ)
    (S1 : SR C.kp w (setG F Dd (.lst accV)) μ H') (en : EnvR C.K w ρ σ) (ra : RepPs C.K w.G acc accV) (rx : RepV C.K w x v) (rJ : SrcR C J w (i + 1) s') (ok : srcOk μ src = true) (hx : nxt μ src = some (x, s'))
    (h : PP w (((compL S ρ t c elt (n + 1) src μ).bind K').bind (fin acc)))
    (next : ∀ (w' : Wd) (μ' : Store) (acc' : List D) (accV' : List V) (H'' : Hp), Wd.le w w' → SR C.kp w' (setG F Dd (.lst accV')) μ' H'' → RepPs C.K w'.G acc' accV' → SrcR C J w' (i + 1) s' →
      PP w' (((compL S ρ t c elt n s' μ').bind K').bind (fin acc')) → Nx H'') :
    tG C t v σ H' fun σ2 H2 => L2.wipe σ2 own = σ ∧ tTn C (fun ρ μ => evIf S.t ρ μ c) σ2 H2 fun b H3 =>
      if b = true then tEn C (S.e elt) σ2 H3 fun y H4 => ∃ acc, H4 Dd = some (.lst acc) ∧ acc.length < sizeLine ∧ Nx (upd H4 Dd (.lst (acc ++ [y]))) else Nx H3 := by
  unfold compL at h
  rw [if_pos ok] at h
  simp only [hx] at h
  cases hb : bindT ρ t x with
  | none => simp only [hb] at h; exact False.elim (WP.no h)
  | some ρ' =>
    simp only [hb] at h
    refine ⟨w, _, μ, ρ, x, ρ', S1, en, rx, hb, fun σ2 en2 hw => ⟨(hw own ht).trans hσ, w, _, ρ', μ, S1, en2, ?_⟩⟩
    generalize hr : evIf S.t ρ' μ c = r at h
    show PostN C w _ RelB (evIf S.t ρ' μ c) _
    rw [hr]
    cases r with
    | exc _ _ _ => exact False.elim (WP.no h)
    | stuck => exact False.elim (WP.no h)
    | ok b μ3 =>
      intro w4 b' H3 l4 S4 e4
      have e4 : b' = b := e4
      subst e4
      cases b' with
      | false =>
        rw [if_neg Bool.false_ne_true]
        exact next w4 μ3 acc accV H3 l4 S4 (RepPs.mono l4.1 _ _ ra) (rJ.mono l4) (WP.le l4 h)
      | true =>
        rw [if_pos rfl]
        refine ⟨w4, _, ρ', μ3, S4, en2.mono l4, ?_⟩
        have h : PP w ((((noX (S.e elt ρ' μ3)).bind fun d μ => if d.isRef then .stuck else (compL S ρ t c elt n s' μ).bind fun ds μ => .ok (d :: ds) μ).bind K').bind (fin acc)) := h
        generalize hr2 : S.e elt ρ' μ3 = r2 at h
        cases r2 with
        | exc _ _ _ => exact False.elim (WP.no h)
        | stuck => exact False.elim (WP.no h)
        | ok d μ4 =>
          intro w5 y H4 l5 S5 r5
          have h : PP w ((((if d.isRef then .stuck else (compL S ρ t c elt n s' μ4).bind fun ds μ => .ok (d :: ds) μ) : R (List D)).bind K').bind (fin acc)) := h
          split at h
          · exact False.elim (WP.no h)
          · rename_i hd
            have l15 := Wd.le_trans l4 l5
            have ra' : RepPs C.K w5.G (acc ++ [d]) (accV ++ [y]) := RepPs.append (RepPs.mono l15.1 _ _ ra) (RepPs.cons (r5.toP (by simpa using hd)) RepPs.nil)
            have e5 : ((((compL S ρ t c elt n s' μ4).bind fun ds μ => .ok (d :: ds) μ).bind K').bind (fin acc)) = (((compL S ρ t c elt n s' μ4).bind K').bind (fin (acc ++ [d]))) := by
              rw [R.assoc, R.assoc, R.assoc]
              congr 1
              funext ds μ
              show (K' (d :: ds) μ).bind (fin acc) = (K' ds μ).bind (fin (acc ++ [d]))
              rw [hc, R.assoc]
              congr 1
              funext l μ
              show liftO (shortO (acc ++ d :: l) _) μ = liftO (shortO (acc ++ [d] ++ l) _) μ
              rw [List.append_assoc] <;> rfl
            rw [e5] at h
            have hlen := WP.len (NoExc.bind (compL_ne S ρ t c elt n s' μ4) hK) h
            rw [List.length_append, List.length_singleton] at hlen
            refine ⟨accV, S5.f _ _ setG_same, by rw [ra.length]; omega, ?_⟩
            exact next w5 μ4 (acc ++ [d]) (accV ++ [y]) _ l15 S5.wrF ra' (rJ.mono l15) (WP.le l15 h)

theorem lc_run {S : Sem} {own : List Nat} {t : Tg} {c : Option Ex} {elt : Ex} (ht : tgIn own t = true) {σ : L2.St} {Q : VK} {PP : Wd → R D → Prop} (WP : Wish PP) {w1 : Wd} {F : Gm} {ρ : Env} {μ1 : Store} {H1 : Hp} {J : It} {src : Src}
    (s1 : SR C.kp w1 F μ1 H1) (en : EnvR C.K w1 ρ σ) (rJ : SrcR C J w1 0 src) (h1 : PP w1 ((compL S (wipeE ρ own) t c elt fuel src μ1).bind fun ds μ => liftO (shortO ds (.lst ds)) μ))
    (done : ∀ (Dd : Addr) (w : Wd) (μ : Store) (H : Hp) (acc : List D) (accV : List V), F Dd = none → SR C.kp w (setG F Dd (.lst accV)) μ H → RepPs C.K w.G acc accV → PP w (liftO (shortO acc (.lst acc)) μ) → Q (.ref Dd) H) :
    ∀ Dd, H1 Dd = none → ∃ W : Nat → Nat → Hp → Prop, (∃ m, W 0 m (upd H1 Dd (.lst []))) ∧ ∀ i m H, W i m H →
      (J.stop i H ∧ Q (.ref Dd) H) ∨ (J.go i H ∧ ∃ Nx : Hp → Prop, (∀ H', Nx H' → ∃ m', m' < m ∧ W (i + 1) m' H') ∧ ∀ x H', J.yld i H x H' → tG C t x (L2.wipe σ own) H' fun σ2 H2 => L2.wipe σ2 own = L2.wipe σ own ∧ (tTn C fun ρ μ => evIf S.t ρ μ c) σ2 H2 fun b H3 =>
        if b = true then tEn C (S.e elt) σ2 H3 fun y H4 => ∃ acc, H4 Dd = some (.lst acc) ∧ acc.length < sizeLine ∧ Nx (upd H4 Dd (.lst (acc ++ [y]))) else Nx H3) := by
  intro Dd hD
  have hF := (s1.ne_of_none hD).2.1
  refine ⟨fun i m H => ∃ w2 μ2 src2 acc accV, Wd.le w1 w2 ∧ SR C.kp w2 (setG F Dd (.lst accV)) μ2 H ∧ RepPs C.K w2.G acc accV ∧ SrcR C J w2 i src2 ∧
    PP w2 (((compL S (wipeE ρ own) t c elt m src2 μ2).bind fun ds μ => .ok ds μ).bind (fin acc)), ⟨fuel, w1, μ1, src, [], [], Wd.le_refl w1, s1.newF hD, RepPs.nil, rJ, ?_⟩, ?_⟩
  · rw [R.assoc]
    exact h1
  · rintro i m H2 ⟨w2, μ2, src2, acc, accV, l2, S2, ra, rJ2, h2⟩
    cases m with
    | zero => exact False.elim (WP.no h2)
    | succ n =>
      cases ok : srcOk μ2 src2 with
      | false =>
        unfold compL at h2
        rw [ok] at h2
        exact False.elim (WP.no h2)
      | true =>
        have T := rJ2.turn (Wd.le_refl w2) S2 ok
        cases hx : nxt μ2 src2 with
        | none =>
          rw [hx] at T
          refine .inl ⟨T, ?_⟩
          unfold compL at h2
          rw [if_pos ok, hx] at h2
          have h3 : PP w2 (liftO (shortO (acc ++ []) (.lst (acc ++ []))) μ2) := h2
          rw [List.append_nil] at h3
          exact done Dd w2 μ2 H2 acc accV hF S2 ra h3
        | some p =>
          obtain ⟨x, s'⟩ := p
          rw [hx] at T
          refine .inr ⟨T.1, fun H' => ∃ m', m' < n + 1 ∧ ∃ w2 μ2 src2 acc accV, Wd.le w1 w2 ∧ SR C.kp w2 (setG F Dd (.lst accV)) μ2 H' ∧ RepPs C.K w2.G acc accV ∧ SrcR C J w2 (i + 1) src2 ∧
            PP w2 (((compL S (wipeE ρ own) t c elt m' src2 μ2).bind fun ds μ => .ok ds μ).bind (fin acc)), fun H' q => q, fun v H' y => ?_⟩
          obtain ⟨w3, l3, S3, r3, rJ3⟩ := T.2 v H' y
          refine turn_one (J := J) (i := i) WP ht wipe_twice (fun ds μ => NoExc.ok) (fun d ds μ => rfl) S3 (((en.mono l2).mono l3).wipe own) (RepPs.mono l3.1 _ _ ra) r3 rJ3 ok hx (WP.le l3 h2) ?_
          intro w' μ' acc' accV' H'' l' S' ra' rJ' h'
          exact ⟨n, Nat.lt_succ_self n, w', μ', s', acc', accV', Wd.le_trans (Wd.le_trans l2 l3) l', S', ra', rJ', h'⟩
theorem lc_red {S : Sem} {fi : Env → Store → R Src} {own : List Nat} {t : Tg} {c : Option Ex} {elt : Ex} (ht : tgIn own t = true) {σ : L2.St} {H : Hp} {Q : VK}
    (h : tE C X (fun ρ μ => (fi ρ μ).bind fun s μ => (compL S (wipeE ρ own) t c elt fuel s μ).bind fun ds μ => liftO (shortO ds (.lst ds)) μ) σ H Q) :
    tLc (tIt C X fi) (tG C t) (tTn C fun ρ μ => evIf S.t ρ μ c) (tEn C (S.e elt)) own σ H Q := by
  obtain ⟨w, F, ρ, μ, s, en, h⟩ := h
  refine ⟨w, F, ρ, μ, s, en, (Post.bind (Rel := fun w' s J => SrcR C J w' 0 s) h).mono ?_⟩
  rintro J H1 ⟨w1, src, μ1, l1, s1, rJ, h1⟩
  exact lc_run ht (PP := fun w r => Post C X w F (RepV C.K) r Q) (Wish.post (w0 := w)) s1 (en.mono l1) rJ h1 fun Dd w μ H acc accV hF S ra h => lst_done hF S ra h
theorem lc2_red {S : Sem} {fi : Env → Store → R Src} {own own' : List Nat} {t t' : Tg} {it' : Itx} {c : Option Ex} {elt : Ex} (ht : tgIn own t = true) (ht' : tgIn own' t' = true) {σ : L2.St} {H : Hp} {Q : VK}
    (h : tE C X (fun ρ μ => (fi ρ μ).bind fun s μ => (compL2 S own' (wipeE ρ own) t t' it' c elt fuel s μ).bind fun ds μ => liftO (shortO ds (.lst ds)) μ) σ H Q) :
    tLc2 (tIt C X fi) (tG C t) tYes (tItN C fun ρ μ => evIt S.e ρ μ it') (tG C t') (tTn C fun ρ μ => evIf S.t ρ μ c) (tEn C (S.e elt)) own own' σ H Q := by
  obtain ⟨w, F, ρ, μ, s, en, h⟩ := h
  refine ⟨w, F, ρ, μ, s, en, (Post.bind (Rel := fun w' s J => SrcR C J w' 0 s) h).mono ?_⟩
  rintro J H1 ⟨w1, src, μ1, l1, s1, rJ, h1⟩ Dd hD
  have hF := (s1.ne_of_none hD).2.1
  refine ⟨fun i m H => ∃ w2 μ2 src2 acc accV, Wd.le w1 w2 ∧ SR C.kp w2 (setG F Dd (.lst accV)) μ2 H ∧ RepPs C.K w2.G acc accV ∧ SrcR C J w2 i src2 ∧
    Post C X w2 F (RepV C.K) ((compL2 S own' (wipeE ρ own) t t' it' c elt m src2 μ2).bind (fin acc)) Q, ⟨fuel, w1, μ1, src, [], [], Wd.le_refl w1, s1.newF hD, RepPs.nil, rJ, h1⟩, ?_⟩
  rintro i m H2 ⟨w2, μ2, src2, acc, accV, l2, S2, ra, rJ2, h2⟩
  cases m with
  | zero => exact False.elim h2
  | succ n =>
    cases ok : srcOk μ2 src2 with
    | false =>
      unfold compL2 at h2
      rw [ok] at h2
      exact False.elim h2
    | true =>
      have T := rJ2.turn (Wd.le_refl w2) S2 ok
      cases hx : nxt μ2 src2 with
      | none =>
        rw [hx] at T
        refine .inl ⟨T, ?_⟩
        unfold compL2 at h2
        rw [if_pos ok, hx] at h2
        have h3 : Post C X w2 F (RepV C.K) (liftO (shortO (acc ++ []) (.lst (acc ++ []))) μ2) Q := h2
        rw [List.append_nil] at h3
        exact lst_done hF S2 ra h3
      | some p =>
        obtain ⟨x, s'⟩ := p
        rw [hx] at T
        refine .inr ⟨T.1, fun H' => ∃ m', m' < n + 1 ∧ ∃ w2 μ2 src2 acc accV, Wd.le w1 w2 ∧ SR C.kp w2 (setG F Dd (.lst accV)) μ2 H' ∧ RepPs C.K w2.G acc accV ∧ SrcR C J w2 (i + 1) src2 ∧
          Post C X w2 F (RepV C.K) ((compL2 S own' (wipeE ρ own) t t' it' c elt m' src2 μ2).bind (fin acc)) Q, fun H' q => q, fun v H' y => ?_⟩
        obtain ⟨w3, l3, S3, r3, rJ3⟩ := T.2 v H' y
        unfold compL2 at h2
        rw [if_pos ok] at h2
        simp only [hx] at h2
        cases hb : bindT (wipeE ρ own) t x with
        | none => simp only [hb] at h2; exact False.elim h2
        | some ρ' =>
          simp only [hb] at h2
          have en3 := (((en.mono l1).mono l2).mono l3).wipe own
          refine ⟨w3, _, μ2, wipeE ρ own, x, ρ', S3, en3, r3, hb, fun σ2 en2 hw => ⟨(hw own ht).trans wipe_twice, ?_⟩⟩
          refine tYes_ok ?_
          refine ⟨w3, _, ρ', μ2, S3, en2, ?_⟩
          generalize hr : evIt S.e ρ' μ2 it' = r at h2
          show PostN C w3 _ _ (evIt S.e ρ' μ2 it') _
          rw [hr]
          cases r with
          | exc _ _ _ => exact False.elim h2
          | stuck => exact False.elim h2
          | ok src1 μ4 =>
            intro w4 J1 H4 l4 S4 rJ4
            have h4 : Post C X w2 F (RepV C.K) (((compL S (wipeE ρ' own') t' c elt fuel src1 μ4).bind fun ds μ => (compL2 S own' (wipeE ρ own) t t' it' c elt n s' μ).bind fun es μ => .ok (ds ++ es) μ).bind (fin acc)) Q := h2
            have ra4 := RepPs.mono (Wd.le_trans l3 l4).1 _ _ ra
            refine ⟨fun j m H => ∃ w5 μ5 src5 acc5 accV5, Wd.le w4 w5 ∧ SR C.kp w5 (setG F Dd (.lst accV5)) μ5 H ∧ RepPs C.K w5.G acc5 accV5 ∧ SrcR C J1 w5 j src5 ∧
              Post C X w5 F (RepV C.K) (((compL S (wipeE ρ' own') t' c elt m src5 μ5).bind fun ds μ => (compL2 S own' (wipeE ρ own) t t' it' c elt n s' μ).bind fun es μ => .ok (ds ++ es) μ).bind (fin acc5)) Q,
              ⟨fuel, w4, μ4, src1, acc, accV, Wd.le_refl w4, S4, ra4, rJ4, Post.le (Wd.le_trans l3 l4) h4⟩, ?_⟩
            rintro j m5 H5 ⟨w5, μ5, src5, acc5, accV5, l5, S5, ra5, rJ5, h5⟩
            cases m5 with
            | zero => exact False.elim h5
            | succ n5 =>
              cases ok5 : srcOk μ5 src5 with
              | false =>
                unfold compL at h5
                rw [ok5] at h5
                exact False.elim h5
              | true =>
                have T5 := rJ5.turn (Wd.le_refl w5) S5 ok5
                cases hx5 : nxt μ5 src5 with
                | none =>
                  rw [hx5] at T5
                  refine .inl ⟨T5, n, Nat.lt_succ_self n, w5, μ5, s', acc5, accV5, Wd.le_trans (Wd.le_trans (Wd.le_trans l2 l3) l4) l5, S5, ra5, rJ3.mono (Wd.le_trans l4 l5), ?_⟩
                  unfold compL at h5
                  rw [if_pos ok5, hx5] at h5
                  have h6 : Post C X w5 F (RepV C.K) (((compL2 S own' (wipeE ρ own) t t' it' c elt n s' μ5).bind fun es μ => .ok ([] ++ es) μ).bind (fin acc5)) Q := h5
                  rw [R.assoc] at h6
                  exact h6
                | some p =>
                  obtain ⟨x5, s5'⟩ := p
                  rw [hx5] at T5
                  refine .inr ⟨T5.1, fun H' => ∃ m', m' < n5 + 1 ∧ ∃ w5 μ5 src5 acc5 accV5, Wd.le w4 w5 ∧ SR C.kp w5 (setG F Dd (.lst accV5)) μ5 H' ∧ RepPs C.K w5.G acc5 accV5 ∧ SrcR C J1 w5 (j + 1) src5 ∧
                    Post C X w5 F (RepV C.K) (((compL S (wipeE ρ' own') t' c elt m' src5 μ5).bind fun ds μ => (compL2 S own' (wipeE ρ own) t t' it' c elt n s' μ).bind fun es μ => .ok (ds ++ es) μ).bind (fin acc5)) Q, fun H' q => q, fun v5 H6 y5 => ?_⟩
                  obtain ⟨w6, l6, S6, r6, rJ6⟩ := T5.2 v5 H6 y5
                  refine turn_one (PP := fun w r => Post C X w F (RepV C.K) r Q) (J := J1) (i := j) (Wish.post (w0 := w)) ht' wipe_twice (fun ds μ => NoExc.bind (compL2_ne _ _ _ _ _ _ _ _ _ _ _) fun _ _ => NoExc.ok) (fun d ds μ => by rw [R.assoc] <;> rfl) S6 (((en2.mono l4).mono l5).mono l6 |>.wipe own') (RepPs.mono l6.1 _ _ ra5) r6 rJ6 ok5 hx5 (Post.le l6 h5) ?_
                  intro w' μ' acc' accV' H'' l' S' ra' rJ' h'
                  exact ⟨n5, Nat.lt_succ_self n5, w', μ', s5', acc', accV', Wd.le_trans (Wd.le_trans l5 l6) l', S', ra', rJ', h'⟩
/-- a new list, nobody's yet -/
def PostNew (C : Cfg) (X : Cx) (w : Wd) (F : Gm) (r : R D) (Q : VK) : Prop :=
  match r with
  | .ok d μ => match d with
    | .lst l => ∀ (w' : Wd) (p : Addr) (vs : List V) (H' : Hp), Wd.le w w' → F p = none → SR C.kp w' (setG F p (.lst vs)) μ H' → RepPs C.K w'.G l vs → Q (.ref p) H'
    | _ => False
  | .exc c fs μ => ∃ W : WX, Takes X W ∧ ∀ (w' : Wd) (H' : Hp) (cls : Value) (dx : Option Addr) (σ' : L2.St), Wd.le w w' → SR C.kp w' F μ H' → RepX C w' F c fs cls dx H' → W cls dx σ' H'
  | .stuck => False
theorem PostNew.bind {α β : Type} {w : Wd} {F : Gm} {Rel : Wd → α → β → Prop} {r : R α} {f : α → Store → R D} {Q : VK} (h : PostNew C X w F (r.bind f) Q) : Post C X w F Rel r fun b H1 => ∃ w1 a μ1, Wd.le w w1 ∧ SR C.kp w1 F μ1 H1 ∧ Rel w1 a b ∧ PostNew C X w1 F (f a μ1) Q := by
  cases r with
  | ok a μ =>
    intro w1 b H1 l s rl
    refine ⟨w1, a, μ, l, s, rl, ?_⟩
    have h' : PostNew C X w F (f a μ) Q := h
    revert h'
    generalize f a μ = g
    intro h'
    cases g with
    | ok a' μ' =>
      cases a' <;> first | exact h' | exact fun w2 p vs H2 l2 => h' w2 p vs H2 (Wd.le_trans l l2)
    | exc c fs μ' =>
      obtain ⟨W, t, q⟩ := h'
      exact ⟨W, t, fun w2 H2 cls dx σ' l2 s2 r2 => q w2 H2 cls dx σ' (Wd.le_trans l l2) s2 r2⟩
    | stuck => exact h'
  | exc c fs μ => exact h
  | stuck => exact h
theorem PostNew.le {w w1 : Wd} {F : Gm} {r : R D} {Q : VK} (l : Wd.le w w1) (h : PostNew C X w F r Q) : PostNew C X w1 F r Q := by
  cases r with
  | ok a' μ' =>
    cases a' <;> first | exact h | exact fun w2 p vs H2 l2 => h w2 p vs H2 (Wd.le_trans l l2)
  | exc c fs μ' =>
    obtain ⟨W, t, q⟩ := h
    exact ⟨W, t, fun w2 H2 cls dx σ' l2 s2 r2 => q w2 H2 cls dx σ' (Wd.le_trans l l2) s2 r2⟩
  | stuck => exact h
def tNew (C : Cfg) (X : Cx) (f : Env → Store → R D) : TE := fun σ H Q => ∃ w F ρ μ, SR C.kp w F μ H ∧ EnvR C.K w ρ σ ∧ PostNew C X w F (f ρ μ) Q
theorem lc_new {S : Sem} {fi : Env → Store → R Src} {own : List Nat} {t : Tg} {c : Option Ex} {elt : Ex} (ht : tgIn own t = true) {σ : L2.St} {H : Hp} {Q : VK}
    (h : tNew C X (fun ρ μ => (fi ρ μ).bind fun s μ => (compL S (wipeE ρ own) t c elt fuel s μ).bind fun ds μ => liftO (shortO ds (.lst ds)) μ) σ H Q) :
    tLc (tIt C X fi) (tG C t) (tTn C fun ρ μ => evIf S.t ρ μ c) (tEn C (S.e elt)) own σ H Q := by
  obtain ⟨w, F, ρ, μ, s, en, h⟩ := h
  refine ⟨w, F, ρ, μ, s, en, (PostNew.bind (Rel := fun w' s J => SrcR C J w' 0 s) h).mono ?_⟩
  rintro J H1 ⟨w1, src, μ1, l1, s1, rJ, h1⟩
  refine lc_run ht (PP := fun w r => PostNew C X w F r Q) ⟨fun l h => PostNew.le l h, fun h => h⟩ s1 (en.mono l1) rJ h1 fun Dd w μ H acc accV hF S ra h => ?_
  unfold shortO at h
  split at h
  · exact h w Dd accV H (Wd.le_refl w) hF S ra
  · exact False.elim h
def rON (C : Cfg) (X : Cx) (f : Store → D → D → R D) : R2 := fun x y H Q => ∃ w F μ dx dy, SR C.kp w F μ H ∧ RepV C.K w dx x ∧ RepV C.K w dy y ∧ PostNew C X w F (f μ dx dy) Q
theorem op_new (I : CxI C k X) (op : Bop) (o : Operator) (hm : mBop op o = true) (ho : op = .add ∨ op = .mul) : OpR X (binaryOp o) (rON C X fun μ x y => liftO (bop op (view μ x) (view μ y)) μ) := by
  rintro pins s σ H x y v u Q J rx ry ⟨w, F, μ, dx, dy, S, r1, r2, h⟩
  rcases ho with rfl | rfl
  · cases o <;> simp [mBop] at hm
    simp only [bop] at h
    generalize hx : view μ dx = x' at h
    generalize hy : view μ dy = y' at h
    cases x' <;> cases y' <;> simp only [bopAdd] at h <;> first | exact False.elim h | skip
    · split at h <;> exact False.elim h
    · rename_i l m
      obtain ⟨a, vs, rfl, ga, ra⟩ := view_lst S r1 hx
      obtain ⟨b, us, rfl, gb, rb⟩ := view_lst S r2 hy
      split at h
      · rename_i hz
        have hz := short_le hz
        rw [List.length_append] at hz
        have l1 := ra.length
        have l2 := rb.length
        refine op_cat pins s σ H _ _ v u Q J rx ry ⟨a, b, vs, us, rfl, rfl, ga, gb, by omega, fun p hp => ?_⟩
        exact h w p _ _ (Wd.le_refl w) (S.ne_of_none hp).2.1 (S.newF hp) (RepPs.append ra rb)
      · exact False.elim h
  · cases o <;> simp [mBop] at hm
    simp only [bop] at h
    generalize hx : view μ dx = x' at h
    generalize hy : view μ dy = y' at h
    cases x' <;> cases y' <;> simp only [bopMul] at h <;> first | exact False.elim h | skip
    · split at h <;> exact False.elim h
    · split at h <;> exact False.elim h
    · rename_i l b
      obtain ⟨a, vs, rfl, ga, ra⟩ := view_lst S r1 hx
      split at h
      · rename_i hz
        simp only [Bool.and_eq_true, decide_eq_true_eq] at hz
        obtain ⟨⟨z1, z2⟩, z3⟩ := hz
        have z3 := Nat.le_of_ble_eq_true z3
        rw [cap_eq] at z3
        have l1 := ra.length
        refine op_rep pins s σ H _ _ v u Q J rx ry ⟨a, b, vs, rfl, view_int r2 hy, ga, by omega, by omega, by rw [l1]; exact z3, fun p hp => ?_⟩
        exact h w p _ _ (Wd.le_refl w) (S.ne_of_none hp).2.1 (S.newF hp) (reps_rel ra b)
      · exact False.elim h
theorem bin_new {fa fb : Env → Store → R D} {f : Store → D → D → R D} :
    ∀ σ H Q, tNew C X (fun ρ μ => (fa ρ μ).bind fun x μ => (fb ρ μ).bind fun y μ => f μ x y) σ H Q → tOp (rON C X f) (tE C X fa) (tE C X fb) σ H Q := by
  rintro σ H Q ⟨w, F, ρ, μ, s, e, h⟩
  refine ⟨w, F, ρ, μ, s, e, (PostNew.bind (Rel := RepV C.K) h).mono ?_⟩
  rintro x H1 ⟨w1, dx, μ1, l1, s1, r1, h1⟩
  refine ⟨w1, F, ρ, μ1, s1, e.mono l1, (PostNew.bind (Rel := RepV C.K) h1).mono ?_⟩
  rintro y H2 ⟨w2, dy, μ2, l2, s2, r2, h2⟩
  exact ⟨w2, F, μ2, dx, dy, s2, r1.mono l2, r2, h2⟩
theorem lst_new {f : EvE} {as : List Ex} {es : List Expr} {pos : Pos} (ha : PA X es (tAs C X (evsS f as))) : PE X (.List es pos) (tNew C X fun ρ μ => (evsS f as ρ μ).bind fun ds μ => liftO (shortO ds (.lst ds)) μ) := by
  refine PE.imp (pe_lst ha) ?_
  rintro σ H Q ⟨w, F, ρ, μ, s, en, h⟩
  refine ⟨w, F, ρ, μ, s, en, (PostNew.bind (Rel := fun w' => RepPs C.K w'.G) h).mono ?_⟩
  rintro xs H1 ⟨w1, ds, μ1, l1, s1, r1, h1⟩
  unfold shortO at h1
  split at h1
  · rename_i z
    refine ⟨by rw [r1.length]; exact short_le z, fun p hp => ?_⟩
    exact h1 w1 p xs _ (Wd.le_refl w1) (s1.ne_of_none hp).2.1 (s1.newF hp) r1
  · exact False.elim h1
end
end EV

/-! EV, part 13: calls of defs. -/
namespace EV
open PySem PySem.Spec PyProof.Rows L2

/-- a wish about exceptions by their class, their dict, the heap -/
def PostX {α β : Type} (C : Cfg) (w : Wd) (F : Gm) (Rel : Wd → α → β → Prop) (r : R α) (Q : β → Hp → Prop) (E : XK) : Prop :=
  match r with
  | .ok a μ => ∀ (w' : Wd) (b : β) (H' : Hp), Wd.le w w' → SR C.kp w' F μ H' → Rel w' a b → Q b H'
  | .exc c fs μ => ∀ (w' : Wd) (H' : Hp) (cls : Value) (dx : Option Addr), Wd.le w w' → SR C.kp w' F μ H' → RepX C w' F c fs cls dx H' → E cls dx H'
  | .stuck => False

/-- the promise of a def at level k -/
structure GnOk (C : Cfg) (k : Nat) (c : Nat → List D → Store → R D) (f : Nat) (d : DefI) : Prop where
  run : ∀ (A : Around) (outer : List PySem.Env) (s : Shared) (H : Hp) (args : Args) (us : List Value) (vs : List V) (Q : VK) (E : XK) (w : Wd) (F : Gm) (ds : List D) (μ : Store), Room k A → A.guards = some [] → Env0 C.P C.w C.K C.mg C.base A outer s H → BindsTo s d.fd args (d.ps.zip us) → Vals vs us →
    vs.length = d.ps.length → SR C.kp w F μ H → RepVs C.K w ds vs → PostX C w F (RepV C.K) (c f ds μ) Q E → codeAny (model C.P C.w) A (.call (.ref d.addr) args) (CR (L2.CX C.P C.w) outer C.P C.w H s Q E) s
/-- how one form of call binds -/
structure Shape (C : Cfg) (d : DefI) (n : Nat) (ks : List Str) (sel : List (Nat ⊕ D)) : Prop where
  to : ∀ (s : Shared) (us ws : List Value) (vs zs : List V), C.K.In s.heap → us.length = n → ws.length = ks.length → Vals vs us → Vals zs ws → ∃ (xs : List Value) (rv : List V), BindsTo s d.fd ⟨us, ks.zip ws⟩ (d.ps.zip xs) ∧ Vals rv xs ∧ rv.length = d.ps.length ∧
    ∀ (w : Wd) (ds es r : List D), RepVs C.K w ds vs → RepVs C.K w es zs → selD (ds ++ es) sel = some r → RepVs C.K w r rv
/-- what is known of the defs -/
structure DefsOk (C : Cfg) : Prop where
  at_ : ∀ (g : Nat) (x : Str), C.n.defs[g]? = some x → ∃ d, C.df[g]? = some d ∧ C.mg x = some (.ref d.addr) ∧ PySem.W.keepIn C.K (.ref d.addr) = true
  sh : ∀ g n ks sel d, isShape C.n g n ks sel = true → C.df[g]? = some d → Shape C d n ks sel

section
variable {C : Cfg} {X : Cx} {k : Nat}
theorem Post.toX {α β : Type} {w : Wd} {F : Gm} {Rel : Wd → α → β → Prop} {r : R α} {Q : β → Hp → Prop} (I : CxI C k X) (h : Post C X w F Rel r Q) :
    ∃ E : XK, PostX C w F Rel r Q E ∧ Passes (L2.CX X.prog X.w) X E := by
  cases r with
  | ok a μ => exact ⟨fun _ _ _ => False, h, fun pins σ H s e s' J c => by obtain ⟨a, B, H', cls, d, _, _, _, _, _, _, _, q⟩ := c; exact False.elim q⟩
  | exc c fs μ =>
    obtain ⟨W, t, q⟩ := h
    exact ⟨fun cls dx H => ∀ σ, W cls dx σ H, fun w' H' cls dx l s r σ => q w' H' cls dx σ l s r, passes_call t fun cls d σ H h => h σ⟩
  | stuck => exact False.elim h
theorem run_gn {c : Nat → List D → Store → R D} {g : Nat} {d : DefI} {pins : List (Addr × Obj)} {σ : L2.St} {H : Hp} {s : Shared} {us xs : List Value} {kw : List (Str × Value)} {rv : List V} {w : Wd} {F : Gm} {ds : List D} {μ : Store} {Q : VK} (I : CxI C k X) (G : GnOk C k c g d)
    (J : Inv X pins σ H s) (hb : BindsTo s d.fd ⟨us, kw⟩ (d.ps.zip xs)) (rx : Vals rv xs) (hl : rv.length = d.ps.length) (S : SR C.kp w F μ H) (r : RepVs C.K w ds rv) (h : Post C X w F (RepV C.K) (c g ds μ) Q) :
    wpAny (model X.prog X.w) X.A (call (.ref d.addr) us kw) (EP X pins σ Q) X.xe s := by
  obtain ⟨E, hx, hp⟩ := h.toX I
  have e0 : Env0 C.P C.w C.K C.mg C.base X.A X.stack s H := by
    have := J.env0
    rw [I.prog, I.w, I.K, I.mg, I.base] at this
    exact this
  have z := G.run X.A X.stack s H ⟨us, kw⟩ xs rv Q E w F ds μ I.room I.gd e0 hb rx hl S r hx
  rw [← I.prog, ← I.w] at z
  refine wpAny_call (codeAny_mono z fun r s' hq => ?_)
  cases r with
  | error e => exact hp pins σ H s e s' J hq
  | ok fl =>
    cases fl with
    | ret u => exact J.after hq
    | next => exact False.elim hq
    | brk => exact False.elim hq
    | cont => exact False.elim hq

/-! ### keywords -/
theorem PK.imp {ks : List Keyword} {t t' : TA} (h : PK X ks t) (i : ∀ σ H Q, t' σ H Q → t σ H Q) : PK X ks t' := ⟨fun pos pins s σ H Q I q => h.run pos pins s σ H Q I (i σ H Q q)⟩
theorem pk_evr {f : EvE} (m : ME) (hE : ∀ a e, m a e = true → PE X e (tE C X (f a))) : ∀ (kws : List (Str × Ex)) (ks : List Keyword), mKws m kws ks = true → PK X ks (tVs C X (evr f (kws.map (·.2))))
  | [], [], _ => PK.imp pk_nil fun σ H Q ⟨w, F, ρ, μ, s, e, h⟩ => h.ok s rfl
  | (k, a) :: kws, ⟨some x, e, p⟩ :: ks, hm => by
    simp only [mKws, Bool.and_eq_true] at hm
    refine PK.imp (pk_cons (hE a e hm.1.2) (pk_evr m hE kws ks hm.2)) ?_
    rintro σ H Q ⟨w, F, ρ, μ, s, en, h⟩
    refine ⟨w, F, ρ, μ, s, en, (Post.bind (Rel := RepV C.K) h).mono ?_⟩
    rintro x H1 ⟨w1, d, μ1, l1, s1, r1, h1⟩
    refine ⟨w1, F, ρ, μ1, s1, en.mono l1, (Post.bind (Rel := RepVs C.K) h1).mono ?_⟩
    rintro xs H2 ⟨w2, ds, μ2, l2, s2, r2, h2⟩
    exact h2.ok s2 ⟨x, xs, rfl, r1.mono l2, r2⟩
  | [], _ :: _, h => by simp [mKws] at h
  | _ :: _, [], h => by simp [mKws] at h
  | _ :: _, ⟨none, _, _⟩ :: _, h => by simp [mKws] at h
theorem kws_all {m : ME} {env : PySem.Env} {pos : Pos} : ∀ {kws : List (Str × Ex)} {ks : List Keyword}, mKws m kws ks = true → (backToKw pos (keywordEach ks env)).all (·.1.isSome) = true ∧ (backToKw pos (keywordEach ks env)).filterMap (·.1) = kws.map (·.1) ∧ (backToKw pos (keywordEach ks env)).any (·.1.isNone) = false
  | [], [], _ => ⟨rfl, rfl, rfl⟩
  | (k, a) :: kws, ⟨some x, e, p⟩ :: ks, hm => by
    simp only [mKws, Bool.and_eq_true] at hm
    obtain ⟨h1, h2, h3⟩ := kws_all (env := env) (pos := pos) hm.2
    have e1 := eqStr_iff.mp hm.1.1
    subst e1
    have e2 : backToKw pos (keywordEach (⟨some k, e, p⟩ :: ks) env) = (some k, (do let v ← eval e env; standAt pos; pure v)) :: backToKw pos (keywordEach ks env) := rfl
    rw [e2]
    exact ⟨by simp only [List.all_cons, h1]; rfl, by simp only [List.filterMap_cons, h2, List.map_cons], by simp only [List.any_cons, h3]; rfl⟩
  | [], _ :: _, h => by simp [mKws] at h
  | _ :: _, [], h => by simp [mKws] at h
  | _ :: _, ⟨none, _, _⟩ :: _, h => by simp [mKws] at h
theorem repVs_len {w : Wd} : ∀ {ds : List D} {vs : List V}, RepVs C.K w ds vs → ds.length = vs.length
  | [], vs, h => by have h : vs = [] := h; subst h; rfl
  | d :: ds, vs, h => by
    obtain ⟨v, r, rfl, _, q⟩ := h
    simp [repVs_len q]
theorem mList_len {m : ME} : ∀ {as : List Ex} {es : List Expr}, mList m as es = true → as.length = es.length
  | [], [], _ => rfl
  | a :: as, e :: es, h => by
    simp only [mList, Bool.and_eq_true] at h
    simp [mList_len h.2]
  | [], _ :: _, h => by simp [mList] at h
  | _ :: _, [], h => by simp [mList] at h
theorem evr_len {f : EvE} : ∀ {as : List Ex} {ρ : Env} {μ μ' : Store} {ds : List D}, evr f as ρ μ = .ok ds μ' → ds.length = as.length
  | [], ρ, μ, μ', ds, h => by cases h; rfl
  | a :: as, ρ, μ, μ', ds, h => by
    unfold evr at h
    cases e1 : f a ρ μ with
    | ok d μ1 =>
      rw [e1] at h
      have h : (evr f as ρ μ1).bind (fun ds μ => R.ok (d :: ds) μ) = .ok ds μ' := h
      cases e2 : evr f as ρ μ1 with
      | ok ds' μ2 =>
        rw [e2] at h
        cases h
        simp [evr_len e2]
      | exc _ _ _ => rw [e2] at h; cases h
      | stuck => rw [e2] at h; cases h
    | exc _ _ _ => rw [e1] at h; cases h
    | stuck => rw [e1] at h; cases h
/-- as Post.bind, with the equation -/
theorem Post.bindE {α α' β β' : Type} {w : Wd} {F : Gm} {Rel : Wd → α → β → Prop} {Rel' : Wd → α' → β' → Prop} {r : R α} {f : α → Store → R α'} {Q : β' → Hp → Prop}
    (h : Post C X w F Rel' (r.bind f) Q) : Post C X w F Rel r fun b H1 => ∃ w1 a μ1, r = .ok a μ1 ∧ Wd.le w w1 ∧ SR C.kp w1 F μ1 H1 ∧ Rel w1 a b ∧ Post C X w1 F Rel' (f a μ1) Q := by
  cases r with
  | ok a μ => exact fun w1 b H1 l s rl => ⟨w1, a, μ, rfl, l, s, rl, Post.le l h⟩
  | exc c fs μ => exact h
  | stuck => exact h
theorem sameSel_eq : ∀ {a b : List (Nat ⊕ D)}, sameSel a b = true → a = b
  | [], [], _ => rfl
  | .inl i :: a, .inl j :: b, h => by
    simp only [sameSel, Bool.and_eq_true] at h
    rw [Nat.eq_of_beq_eq_true h.1, sameSel_eq h.2]
  | .inr i :: a, .inr j :: b, h => by
    simp only [sameSel, Bool.and_eq_true] at h
    rw [same_eq _ _ h.1, sameSel_eq h.2]
  | [], _ :: _, h => by simp [sameSel] at h
  | .inl _ :: _, [], h => by simp [sameSel] at h
  | .inr _ :: _, [], h => by simp [sameSel] at h
  | .inl _ :: _, .inr _ :: _, h => by simp [sameSel] at h
  | .inr _ :: _, .inl _ :: _, h => by simp [sameSel] at h
theorem eqStrs_eq : ∀ {a b : List Str}, eqStrs a b = true → a = b
  | [], [], _ => rfl
  | x :: a, y :: b, h => by
    simp only [eqStrs, Bool.and_eq_true] at h
    rw [eqStr_iff.mp h.1, eqStrs_eq h.2]
  | [], _ :: _, h => by simp [eqStrs] at h
  | _ :: _, [], h => by simp [eqStrs] at h
theorem call_imp {f : EvE} {m : ME} {c : Nat → List D → Store → R D} {g : Nat} {as : List Ex} {kws : List (Str × Ex)} {sel : List (Nat ⊕ D)} {x : Str} {es : List Expr} {ks : List Keyword} {p pos : Pos} (DO : DefsOk C) (I : CxI C k X) (G : ∀ d, C.df[g]? = some d → GnOk C k c g d)
    (hE : ∀ a e, m a e = true → PE X e (tE C X (f a))) (hd : isDef C.n X.env.scope g x = true) (hl : mList m as es = true) (hk : mKws m kws ks = true) (hs : isShape C.n g as.length (kws.map (·.1)) sel = true) :
    PE X (.Call (.Name x p) es ks pos) (tE C X fun ρ μ => (evr f as ρ μ).bind fun ds μ => (evr f (kws.map (·.2)) ρ μ).bind fun es μ => (liftO (selD (ds ++ es) sel) μ).bind fun xs μ => c g xs μ) := by
  unfold isDef at hd
  simp only [Bool.and_eq_true] at hd
  obtain ⟨⟨d1, d2⟩, d3⟩ := hd
  obtain ⟨d, hdf, hmg, hkp⟩ := DO.at_ g x (isN_ok d1)
  have sh := DO.sh g _ _ _ d hs hdf
  have G := G d hdf
  have PAx := pa_evr (C := C) (X := X) m hE as es hl
  have PKx := pk_evr (C := C) (X := X) m hE kws ks hk
  obtain ⟨k1, k2, k3⟩ := kws_all (m := m) (env := X.env) (pos := pos) hk
  have st := stars_no (mList_star hl) pos X.env
  refine ⟨fun pins s σ H Q J q => ?_⟩
  obtain ⟨w, F, ρ, μ, S, en, h⟩ := q
  refine wpAny_Call_Name_kw (ld_glob J (gl_ok d2) (by rw [I.mg]; exact hmg) ?_ (plain_ok d3).1)
  have kin : X.K.In s.heap := J.kIn
  have hkp' : PySem.W.keepIn X.K (.ref d.addr) = true := by rw [I.K]; exact hkp
  -- behind the values
  have go : ∀ (s2 : Shared) (H2 : Hp) (us ws : List Value) (vs zs : List V) (w2 : Wd) (μ2 : Store) (ds es' : List D), Inv X pins σ H2 s2 → Vals vs us → Vals zs ws → vs.length = as.length → zs.length = kws.length → SR C.kp w2 F μ2 H2 → RepVs C.K w2 ds vs → RepVs C.K w2 es' zs →
      Post C X w2 F (RepV C.K) ((liftO (selD (ds ++ es') sel) μ2).bind fun xs μ => c g xs μ) Q → wpAny (model X.prog X.w) X.A (call (.ref d.addr) ([] ++ us) ((kws.map (·.1)).zip ws)) (EP X pins σ Q) X.xe s2 := by
    intro s2 H2 us ws vs zs w2 μ2 ds es' J2 rv rz l1 l2 S2 r1 r2 h2
    obtain ⟨xs, rr, hb, rx, hlen, hsel⟩ := sh.to s2 us ws vs zs (I.K ▸ J2.kIn) (by rw [← rv.length, l1]) (by rw [← rz.length, l2, List.length_map]) rv rz
    generalize ho : selD (ds ++ es') sel = o at h2
    cases o with
    | none => exact False.elim h2
    | some r => exact run_gn I G J2 hb rx hlen S2 (hsel w2 ds es' r r1 r2 ho) h2
  have kwpart : ∀ (s1 : Shared) (H1 : Hp) (us : List Value) (vs : List V) (w1 : Wd) (μ1 : Store) (ds : List D), Inv X pins σ H1 s1 → Vals vs us → vs.length = as.length → SR C.kp w1 F μ1 H1 → EnvR C.K w1 ρ σ → RepVs C.K w1 ds vs →
      Post C X w1 F (RepV C.K) ((evr f (kws.map (·.2)) ρ μ1).bind fun es μ => (liftO (selD (ds ++ es) sel) μ).bind fun xs μ => c g xs μ) Q →
      wpAny (model X.prog X.w) X.A (evalAll ((backToKw pos (keywordEach ks X.env)).map (·.2))) (fun kv s₂ => X.K.In s₂.heap ∧ wpAny (model X.prog X.w) X.A (call (.ref d.addr) ([] ++ us) (((backToKw pos (keywordEach ks X.env)).filterMap (·.1)).zip kv)) (EP X pins σ Q) X.xe s₂) X.xe s1 := by
    intro s1 H1 us vs w1 μ1 ds J1 rv l1 S1 en1 r1 h1
    rw [k2]
    refine thn (PKx.run pos pins s1 σ H1 _ J1 ⟨w1, F, ρ, μ1, S1, en1, Post.bindE (Rel := RepVs C.K) h1⟩) fun ws s2 ⟨zs, H2, J2, rz, w2, es', μ2, e2, l2, S2, r2, h2⟩ => ⟨J2.kIn, ?_⟩
    refine go s2 H2 us ws vs zs w2 μ2 ds es' J2 rv rz l1 ?_ S2 (RepVs.mono l2 r1) r2 h2
    rw [← repVs_len r2, evr_len e2, List.length_map]
  cases es with
  | nil =>
    have ea : as = [] := List.eq_nil_of_length_eq_zero (mList_len hl)
    subst ea
    have h : Post C X w F (RepV C.K) ((evr f (kws.map (·.2)) ρ μ).bind fun es μ => (liftO (selD ([] ++ es) sel) μ).bind fun xs μ => c g xs μ) Q := h
    exact PySem.W.callWith_KW0 (h₀ := s.heap) kin hkp' k1 (kwpart s H [] [] w μ [] J .nil rfl S en rfl h) (by rw [k3] <;> rfl)
  | cons e es =>
    cases as with
    | nil => simp [mList] at hl
    | cons a as =>
      have hl' := hl
      simp only [mList, Bool.and_eq_true, Bool.not_eq_true'] at hl'
      refine PySem.W.callWith_KW (h₀ := s.heap) kin hkp' k1 (thn (PAx.run pos pins s σ H _ J ⟨w, F, ρ, μ, S, en, Post.bindE (Rel := RepVs C.K) h⟩) fun us s1 ⟨vs, H1, J1, rv, w1, ds, μ1, e1, l1, S1, r1, h1⟩ => ?_) (by rw [st, k3] <;> rfl) (star_of hl'.1.1 es X.env)
      exact kwpart s1 H1 us vs w1 μ1 ds J1 rv (by rw [← repVs_len r1, evr_len e1]) S1 (en.mono l1) r1 h1
end
end EV

/-! EV: operations on one value; dict comprehensions. -/
namespace EV
open PySem PySem.Spec PyProof.Rows L2
theorem insR_perm (a : Int) : ∀ l : List Int, (insR a l).Perm (a :: l)
  | [] => by simp [insR]
  | b :: l => by
    unfold insR
    split
    · exact List.Perm.refl _
    · exact ((insR_perm a l).cons b).trans (List.Perm.swap a b l)
theorem insR_sorted (a : Int) : ∀ l : List Int, l.Pairwise (· ≤ ·) → (insR a l).Pairwise (· ≤ ·)
  | [], _ => by simp [insR]
  | b :: l, h => by
    obtain ⟨h1, h2⟩ := List.pairwise_cons.mp h
    unfold insR
    split
    · rename_i c
      have c := of_decide_eq_true c
      refine List.pairwise_cons.mpr ⟨fun y hy => ?_, h⟩
      rcases List.mem_cons.mp hy with rfl | hy
      · exact c
      · have := h1 y hy; omega
    · rename_i c
      have c : ¬ a ≤ b := fun z => c (decide_eq_true z)
      refine List.pairwise_cons.mpr ⟨fun y hy => ?_, insR_sorted a l h2⟩
      rcases List.mem_cons.mp ((insR_perm a l).mem_iff.mp hy) with rfl | hy
      · omega
      · exact h1 y hy
theorem ascR_ok : ∀ l : List Int, (ascR l).Perm l ∧ (ascR l).Pairwise (· ≤ ·)
  | [] => ⟨List.Perm.refl _, List.Pairwise.nil⟩
  | a :: l => by
    obtain ⟨h1, h2⟩ := ascR_ok l
    exact ⟨(insR_perm a _).trans (h1.cons a), insR_sorted a _ h2⟩
theorem le_ext : ∀ {l m : List Int}, l.Perm m → l.Pairwise (· ≤ ·) → m.Pairwise (· ≤ ·) → l = m
  | [], m, p, _, _ => (List.Perm.nil_eq p)
  | a :: l, [], p, _, _ => by have := p.length_eq; simp at this
  | a :: l, b :: m, p, hl, hm => by
    obtain ⟨l1, l2⟩ := List.pairwise_cons.mp hl
    obtain ⟨m1, m2⟩ := List.pairwise_cons.mp hm
    have e : a = b := by
      have h1 : a ∈ b :: m := p.mem_iff.mp (List.mem_cons_self ..)
      have h2 : b ∈ a :: l := p.mem_iff.mpr (List.mem_cons_self ..)
      rcases List.mem_cons.mp h1 with e | e
      · exact e
      · rcases List.mem_cons.mp h2 with e2 | e2
        · exact e2.symm
        · have := m1 a e; have := l1 b e2; omega
    subst e
    rw [le_ext ((List.perm_cons a).mp p) l2 m2]
section
variable {C : Cfg} {X : Cx} {k : Nat}
theorem dct_keys {K : PySem.W.Frag} {G : Gm} {kvs : List (D × D)} {m : List (Key × V)} (r : DctR K G kvs m) : RepPs K G (kvs.map (·.1)) (m.map fun kv => kV kv.1) := by
  induction r with
  | nil => exact .nil
  | @cons ka da k' v l m h1 h2 _ ih =>
    refine RepPs.cons ?_ ih
    cases ka <;> simp only [keyV, reduceCtorEq, Option.some.injEq] at h1
    all_goals
      subst h1
      simp only [RepP, kV]
theorem listD_imp {fa : Env → Store → R D} {x : Str} {e : Expr} {p pos : Pos} (B : Bnd C) (I : CxI C k X) (h1 : isBlt C.n X.env.scope "list" x = true) (hs : starred e = false) (ha : PE X e (tE C X fa)) :
    PE X (.Call (.Name x p) [e] [] pos) (tE C X fun ρ μ => (fa ρ μ).bind fun x μ => op1D .listD x μ) := by
  obtain ⟨rfl, g1, m1⟩ := blt_ok B I h1
  have st := star_of hs [] X.env
  refine PE.imp (pe_callTy (call_listD I.calm) g1 m1 rfl (pa_cons ha pa_nil st) (by decide) (by decide) st rfl) ?_
  intro σ H Q q
  refine un_imp (f := fun μ x => op1D .listD x μ) q ?_
  intro w F μ d x H1 s r h
  unfold op1D at h
  simp only at h
  split at h
  · rename_i i
    split at h
    · rename_i kvs hkv
      obtain ⟨a, h4, rfl⟩ := r
      obtain ⟨a', h5, ks, h6, h7⟩ := s.at hkv
      rw [h4] at h5
      cases h5
      exact ⟨a, ks, rfl, .inl h6, new_lst s (dct_keys h7) h⟩
    · exact False.elim h
  · exact False.elim h
theorem srt_imp {fa : Env → Store → R D} {x : Str} {e : Expr} {p pos : Pos} (B : Bnd C) (I : CxI C k X) (h1 : isBlt C.n X.env.scope "sorted" x = true) (hs : starred e = false) (ha : PE X e (tE C X fa)) :
    PE X (.Call (.Name x p) [e] [] pos) (tE C X fun ρ μ => (fa ρ μ).bind fun x μ => op1D .srt x μ) := by
  obtain ⟨rfl, g1, m1⟩ := blt_ok B I h1
  have st := star_of hs [] X.env
  refine PE.imp (pe_callB cr_sortedI g1 m1 rfl (pa_cons ha pa_nil st) (by decide) (by decide) st rfl) ?_
  intro σ H Q q
  refine un_imp (f := fun μ x => op1D .srt x μ) q ?_
  intro w F μ d x H1 s r h
  unfold op1D at h
  simp only at h
  split at h
  · rename_i l hv
    obtain ⟨dd, e1, h2⟩ := h.lift
    obtain ⟨is, e2, rfl⟩ := Option.map_eq_some_iff.mp e1
    obtain ⟨a, vs, rfl, hp, rp⟩ := view_lst s r hv
    have := rp.int e2
    subst this
    refine ⟨a, is, rfl, I.K ▸ SqL.of hp, fun ns' p' hp1 hp2 => ?_⟩
    have e3 : ns' = ascR is := le_ext (hp1.trans (ascR_ok is).1.symm) hp2 (ascR_ok is).2
    subst e3
    exact new_lst s (RepPs.ofInts _) h2 p'
  · exact False.elim h
theorem pairs_ok {K : PySem.W.Frag} {w : Wd} {H : Hp} (S : ∀ a u, w.G a = some u → H a = some u) : ∀ {l : List D} {vs : List V} {kvs : List (D × D)}, RepPs K w.G l vs → pairsD l = some kvs →
    ∃ (ps : List Addr) (m : List (Key × V)), vs = ps.map V.ref ∧ DctR K w.G kvs m ∧ Paired (fun p kv => SqT K H p [kV kv.1, kv.2]) ps m
  | [], vs, kvs, r, h => by
    simp [pairsD] at h; subst h
    simp only [RepPs] at r; subst r
    exact ⟨[], [], rfl, .nil, .nil⟩
  | d :: l, vs, kvs, r, h => by
    simp only [RepPs] at r
    obtain ⟨v, t, rfl, p, q⟩ := r
    simp only [pairsD] at h
    split at h
    · rename_i pr rr e1 e2
      cases h
      obtain ⟨ps, m, rfl, h3, h4⟩ := pairs_ok S q e2
      unfold pairD at e1
      split at e1
      · rename_i kd vd
        split at e1
        · rename_i hk
          cases e1
          simp only [RepP] at p
          obtain ⟨a, us, rfl, ta, ru⟩ := p
          simp only [RepPs] at ru
          obtain ⟨v1, r1, rfl, p1, v2, r2, rfl, p2, rfl⟩ := ru
          obtain ⟨kk, ek⟩ := keyOk_V hk
          have e3 : v1 = kV kk := key_rel (w := w) (RepV.ofP p1) ek
          subst e3
          exact ⟨a :: ps, (kk, v2) :: m, rfl, .cons ek p2 h3, .cons (ta.seq S) h4⟩
        · cases e1
      · cases e1
    · cases h
theorem dictP_imp {fa : Env → Store → R D} {x : Str} {e : Expr} {p pos : Pos} (B : Bnd C) (I : CxI C k X) (h1 : isBlt C.n X.env.scope "dict" x = true) (hs : starred e = false) (ha : PE X e (tE C X fa)) :
    PE X (.Call (.Name x p) [e] [] pos) (tE C X fun ρ μ => (fa ρ μ).bind fun x μ => op1D .dictP x μ) := by
  obtain ⟨rfl, g1, m1⟩ := blt_ok B I h1
  have st := star_of hs [] X.env
  refine PE.imp (pe_callTy (call_dictP I.calm) g1 m1 rfl (pa_cons ha pa_nil st) (by decide) (by decide) st rfl) ?_
  intro σ H Q q
  refine un_imp (f := fun μ x => op1D .dictP x μ) q ?_
  intro w F μ d x H1 s r h
  unfold op1D at h
  simp only at h
  split at h
  · rename_i l hv
    generalize hpd : pairsD l = o at h
    cases o with
    | none => exact False.elim h
    | some kvs =>
      have h : Post C X w F (RepV C.K) (.ok (.ref μ.length) (μ ++ [.dct (kvs.foldl (fun acc p => putD p.1 p.2 acc) [])])) Q := h
      obtain ⟨a, vs, rfl, hp, rp⟩ := view_lst s r hv
      obtain ⟨ps, m, rfl, d1, d2⟩ := pairs_ok s.g rp hpd
      refine ⟨a, ps, m, rfl, I.K ▸ SqL.of hp, I.K ▸ d2, fun q hq => ?_⟩
      refine h ⟨w.G, w.φ ++ [q]⟩ (.ref q) _ Wd.le_newO (s.newO hq ⟨_, rfl, dct_fold d1 .nil⟩) ?_
      exact ⟨q, by show (w.φ ++ [q])[μ.length]? = some q; rw [← s.len]; simp, rfl⟩
  · exact False.elim h
theorem lastD_spec {K : PySem.W.Frag} {G : Gm} : ∀ {l : List D} {vs : List V} {d : D} {l' : List D}, RepPs K G l vs → lastD l = some (d, l') → ∃ y, vs[vs.length - 1]? = some y ∧ RepP K G d y ∧ RepPs K G l' vs.dropLast
  | [], _, _, _, _, h => by simp [lastD] at h
  | [a], vs, d, l', r, h => by
    simp only [lastD] at h
    cases h
    simp only [RepPs] at r
    obtain ⟨v, t, rfl, p, rfl⟩ := r
    exact ⟨v, by simp, p, by simp [RepPs]⟩
  | a :: b :: l, vs, d, l', r, h => by
    simp only [RepPs] at r
    obtain ⟨v, t, rfl, p, q⟩ := r
    simp only [lastD] at h
    obtain ⟨pr, e1, e2⟩ := Option.map_eq_some_iff.mp h
    obtain ⟨d', l1⟩ := pr
    cases e2
    have q' : RepPs K G (b :: l) t := by simp only [RepPs]; exact q
    obtain ⟨y, z1, z2, z3⟩ := lastD_spec q' e1
    obtain ⟨u, t', rfl, _⟩ := q
    refine ⟨y, ?_, z2, ?_⟩
    · simpa using z1
    · simpa using RepPs.cons p z3
theorem pop_imp {fo : Env → Store → R D} {o : Expr} {y : Str} {ap cp : Pos} (I : CxI C k X) (hy : eqStr y "pop" = true) (hl : (ap.endLine == cp.line) = true) (hn : notSup o = true) (ho : PE X o (tE C X fo)) :
    PE X (.Call (.Attribute o y ap) [] [] cp) (tE C X fun ρ μ => (fo ρ μ).bind fun x μ => op1D .pop x μ) := by
  have := eqStr_iff.mp hy
  subst this
  refine PE.imp (pe_bm0 PySem.F.plainAttrs_list PySem.F.slot_list_pop PySem.F.type_list_pop mt_pop ho (base_ok hn _ _) hl) ?_
  intro σ H Q q
  refine un_imp (f := fun μ x => op1D .pop x μ) q ?_
  intro w F μ d x H1 s r h
  unfold op1D at h
  simp only at h
  split at h
  · rename_i i
    split at h
    · rename_i l hl
      split at h
      · rename_i dd l' hp
        obtain ⟨a, h4, rfl⟩ := r
        obtain ⟨a', h5, vs, h6, h7⟩ := s.at hl
        rw [h4] at h5
        cases h5
        obtain ⟨y, z1, z2, z3⟩ := lastD_spec h7 hp
        refine ⟨.inl ⟨rfl, vs, SqL.of h6⟩, a, vs, y, rfl, rfl, h6, z1, ?_⟩
        exact h w y _ (Wd.le_refl w) (s.wr h4 ⟨_, rfl, z3⟩) (RepV.ofP z2)
      · exact False.elim h
    · exact False.elim h
  · exact False.elim h
theorem lset_imp {fa : Env → Store → R D} {x y : Str} {e : Expr} {p p' q' pos : Pos} (B : Bnd C) (I : CxI C k X) (h1 : isBlt C.n X.env.scope "len" x = true) (h2 : isBlt C.n X.env.scope "set" y = true) (hs : starred e = false) (ha : PE X e (tE C X fa)) :
    PE X (.Call (.Name x p) [.Call (.Name y p') [e] [] q'] [] pos) (tE C X fun ρ μ => (fa ρ μ).bind fun d μ => op1D .lset d μ) := by
  obtain ⟨rfl, g1, m1⟩ := blt_ok B I h1
  obtain ⟨rfl, g2, m2⟩ := blt_ok B I h2
  have na := star_of hs [] X.env
  refine ⟨fun pins s σ H Q J h => ?_⟩
  refine Call_ (ld_blt J g1 m1 boot_len ?_)
  refine PyProof.Rows.callWith_builtin1 (PyProof.Rows.args_cons ?_ rfl) rfl rfl
  refine Call_ (ld_blt J g2 m2 boot_set ?_)
  have h' := un_imp (r := fun x H1 => ∃ w F μ d, SR C.kp w F μ H1 ∧ RepV C.K w d x ∧ Post C X w F (RepV C.K) (op1D .lset d μ) Q) (f := fun μ d => op1D .lset d μ) h fun w F μ d x H1 s r h => ⟨w, F, μ, d, s, r, h⟩
  refine PyProof.Rows.callWith_type1 (PyProof.Rows.args_cons (thn (ha.run pins s σ H _ J h') fun v s1 ⟨xv, H1, J1, r1, w, F, μ, d, S1, rd, hq⟩ => PyProof.Rows.args_nil ?_) na) na rfl
  have hq : Post C X w F (RepV C.K) (liftO ((ssetD (view μ d)).map fun l => .int l.length) μ) Q := hq
  obtain ⟨dd, e1, hq2⟩ := hq.lift
  obtain ⟨rs, e2, rfl⟩ := Option.map_eq_some_iff.mp e1
  have inL : ∀ {l : List D} {vs : List V}, ssetL l = some rs → RepPs C.K w.G l vs → ∃ ns : List Int, vs = ns.map V.int ∧ rs = asc ns ∧ (asc ns).length < 64 ∧ ns.length ≤ 4000 := by
    intro l vs hl rl
    unfold ssetL at hl
    split at hl
    · rename_i hz
      split at hl
      · rename_i ns hns
        simp only at hl
        split at hl
        · rename_i h64
          cases hl
          have hv := rl.int hns
          have := rl.length
          rw [hv, List.length_map] at this
          exact ⟨ns, hv, rfl, Nat.le_of_ble_eq_true h64, by have := Nat.le_of_ble_eq_true hz; omega⟩
        · cases hl
      · cases hl
    · cases hl
  have fin : ∀ (ns : List Int) (h' : Heap) (tk c : Nat), rs = asc ns → (asc ns).length < 64 → SetR X.w h' s1.heap.objs.size (fun j => decide (j ∈ ns)) c → (∀ b o, s1.heap.get? b = some o → h'.get? b = some o) →
      wpAny (model X.prog X.w) X.A (spliced (backTo pos (starEach [] X.env))) (fun vs s₂ => wpAny (model X.prog X.w) X.A (call (.builtin "len") (Value.ref s1.heap.objs.size :: vs)) (EP X pins σ Q) X.xe s₂) X.xe { s1 with heap := h', toks := tk } := by
    intro ns h' tk c er h64 R hk
    refine PyProof.Rows.args_nil ?_
    have J2 : Inv X pins σ H1 { s1 with heap := h', toks := tk } := J1.kept hk
    have hc := set_size R
    obtain ⟨o, es, ep, t, ho, hex, hd, _, _, _, _, hf, hn, _⟩ := R
    refine call_len_set ho hex hd hf (by rw [hn, hc]; omega) ⟨.int es.size, H1, J2.tok _, ⟨_, rfl⟩, ?_⟩
    refine hq2 w _ H1 (Wd.le_refl w) S1 ?_
    simp only [RepV, RepP]
    rw [hn, hc, er]
  generalize hv : view μ d = vd at e2
  cases vd <;> simp only [ssetD, reduceCtorEq] at e2
  · obtain ⟨a, vs, rfl, ga, ra⟩ := view_tup S1 rd hv
    obtain ⟨ns, rfl, er, h64, h4⟩ := inL e2 ra
    cases r1
    obtain ⟨its, rv, pl, hz⟩ := J1.tuple (I.K ▸ (ga.seq S1.g) : SqT X.K H1 a (ns.map V.int))
    refine call_set_tupI ns (J1.ok.hd I.calm) (show s1.heap.IsTuple a its.toArray from pl) (by simpa using rv.ints) (by unfold scanBound; omega) fun h' tk c R hc hk => fin ns h' tk c er h64 R hk
  · obtain ⟨a, vs, rfl, ga, ra⟩ := view_lst S1 rd hv
    obtain ⟨ns, rfl, er, h64, h4⟩ := inL e2 ra
    cases r1
    obtain ⟨its, rv, pl, hz⟩ := J1.list (SqL.of ga : SqL X.K H1 a (ns.map V.int))
    refine set_of_list ns (J1.ok.hd I.calm) pl.isList (by simpa using rv.ints) (by unfold scanBound; omega) fun h' tk c R hc hk => fin ns h' tk c er h64 R hk

/-! ### s.split(sep) -/
theorem strs_rel {K : PySem.W.Frag} {G : Gm} : ∀ l : List Str, RepPs K G (l.map D.str) (l.map V.str)
  | [] => .nil
  | a :: l => .cons (by simp only [RepP]) (strs_rel l)
theorem split_imp {fo fa : Env → Store → R D} {o e : Expr} {y : Str} {ap cp : Pos} (I : CxI C k X) (hy : eqStr y "split" = true) (hl : (ap.endLine == cp.line) = true) (hs : starred e = false) (hn : notSup o = true)
    (ho : PE X o (tE C X fo)) (ha : PE X e (tE C X fa)) :
    PE X (.Call (.Attribute o y ap) [e] [] cp) (tE C X fun ρ μ => (fo ρ μ).bind fun x μ => match pre2 .split x with | true => (fa ρ μ).bind fun y μ => op2D .split x y μ | false => .stuck) := by
  have := eqStr_iff.mp hy
  subst this
  have st := star_of hs [] X.env
  have few : ((backTo cp (starEach [e] X.env)).all (fun x => !x.1) && (backToKw cp (keywordEach [] X.env)).all (fun x => x.1.isSome)
      && decide ([e].length + ([] : List Keyword).length + (if ([] : List Keyword).isEmpty then 0 else 1) < 30)) = true := by
    rw [st]
    rfl
  refine PE.imp (pe_bmX (r := fun T x xs H Q => ∃ w F μ dx dy y, xs = [y] ∧ SR C.kp w F μ H ∧ RepV C.K w dx x ∧ RepV C.K w dy y ∧ Post C X w F (RepV C.K) (op2D .split dx dy μ) Q) (TT := fun T x H => T = "str" ∧ ∃ z, x = .str z) ?_ ho (pa_cons ha pa_nil st) (base_ok hn _ _) few hl st rfl) ?_
  · rintro T x H ⟨rfl, z, rfl⟩
    refine ⟨_, PySem.F.plainAttrs_str, PySem.F.slot_str_split, PySem.F.type_str_split, .inl rfl, ?_⟩
    rintro pins s σ H x xs v us Q J rx rxs ⟨w, F, μ, dx, dy, y, rfl, S, r1, r2, h⟩
    unfold op2D at h
    simp only at h
    split at h
    · rename_i a b hv1 hv2
      split at h
      · rename_i hz
        simp only [Bool.and_eq_true, Bool.not_eq_true'] at hz
        have e1 := view_str S r1 hv1
        have e2 := view_str S r2 hv2
        subst e1 e2
        refine mt_split pins s σ H _ _ v us Q J rx rxs ⟨a, b, rfl, rfl, ?_, by rw [← cap_eq]; exact Nat.le_of_ble_eq_true hz.2, new_lst S (strs_rel _) h⟩
        have h1 := hz.1
        have h2 : b.cps.size ≠ 0 := fun e => by rw [e] at h1; cases h1
        exact beq_eq_false_iff_ne.mpr h2
      · exact False.elim h
    · exact False.elim h
  · rintro σ H Q ⟨w, F, ρ, μ, s, en, h⟩
    refine ⟨w, F, ρ, μ, s, en, (Post.bind (Rel := RepV C.K) h).mono ?_⟩
    rintro x H1 ⟨w1, d, μ1, l1, s1, r1, h1⟩
    cases d <;> first | exact False.elim h1 | skip
    rename_i z
    simp only [RepV, RepP] at r1
    subst r1
    refine ⟨"str", ⟨rfl, z, rfl⟩, w1, F, ρ, μ1, s1, en.mono l1, (Post.bind (Rel := RepV C.K) h1).mono ?_⟩
    rintro y H2 ⟨w2, dy, μ2, l2, s2, r2, h2⟩
    exact ⟨w2, F, μ2, .str z, dy, y, rfl, s2, by simp only [RepV, RepP], r2, h2⟩

/-! ### {k: v for t in it} -/
theorem dc_run {S : Sem} {own : List Nat} {t : Tg} {kx vx : Ex} (ht : tgIn own t = true) {σ : L2.St} {Q : VK} {w1 : Wd} {F : Gm} {ρ : Env} {μ1 : Store} {H1 : Hp} {J : It} {src : Src}
    (s1 : SR C.kp w1 F μ1 H1) (en : EnvR C.K w1 ρ σ) (rJ : SrcR C J w1 0 src) (h1 : Post C X w1 F (RepV C.K) ((compD S false (wipeE ρ own) t kx vx fuel src [] μ1).bind fun kvs μ => .ok (.ref μ.length) (μ ++ [.dct kvs])) Q) :
    ∀ Dd, H1 Dd = none → ∃ W : Nat → Nat → Hp → Prop, (∃ m, W 0 m (upd H1 Dd (.dK []))) ∧ ∀ i m H, W i m H →
      (J.stop i H ∧ Q (.ref Dd) H) ∨ (J.go i H ∧ ∃ Nx : Hp → Prop, (∀ H', Nx H' → ∃ m', m' < m ∧ W (i + 1) m' H') ∧ ∀ x H', J.yld i H x H' → tG C t x (L2.wipe σ own) H' fun σ2 H2 => L2.wipe σ2 own = L2.wipe σ own ∧ tYes σ2 H2 fun b H3 =>
        if b = true then tEn C (S.e kx) σ2 H3 fun y H4 => tEn C (S.e vx) σ2 H4 fun z H5 => ∃ kvs k, y = kV k ∧ H5 Dd = some (.dK kvs) ∧ kvs.length < sizeLine ∧ Nx (upd H5 Dd (.dK (putK kvs k z))) else Nx H3) := by
  intro Dd hD
  have hF := (s1.ne_of_none hD).2.1
  refine ⟨fun i m H => ∃ w2 μ2 src2 acc accV, Wd.le w1 w2 ∧ SR C.kp w2 (setG F Dd (.dK accV)) μ2 H ∧ DctR C.K w2.G acc accV ∧ SrcR C J w2 i src2 ∧
    Post C X w2 F (RepV C.K) ((compD S false (wipeE ρ own) t kx vx m src2 acc μ2).bind fun kvs μ => .ok (.ref μ.length) (μ ++ [.dct kvs])) Q, ⟨fuel, w1, μ1, src, [], [], Wd.le_refl w1, s1.newF hD, .nil, rJ, h1⟩, ?_⟩
  rintro i m H2 ⟨w2, μ2, src2, acc, accV, l2, S2, ra, rJ2, h2⟩
  cases m with
  | zero => exact False.elim h2
  | succ n =>
    cases ok : srcOk μ2 src2 with
    | false =>
      unfold compD at h2
      rw [ok] at h2
      exact False.elim h2
    | true =>
      have T := rJ2.turn (Wd.le_refl w2) S2 ok
      unfold compD at h2
      rw [if_pos ok] at h2
      cases hx : nxt μ2 src2 with
      | none =>
        rw [hx] at T h2
        refine .inl ⟨T, ?_⟩
        have h3 : Post C X w2 F (RepV C.K) (.ok (.ref μ2.length) (μ2 ++ [.dct acc])) Q := h2
        obtain ⟨s0, gp, np, hp⟩ := S2.weakF hF
        have e5 : upd H2 Dd (.dK accV) = H2 := by
          funext b
          unfold upd
          split
          · rename_i hb; subst hb; exact hp.symm
          · rfl
        have := h3 ⟨w2.G, w2.φ ++ [Dd]⟩ (.ref Dd) _ Wd.le_newO (s0.putO gp hF np ⟨accV, rfl, ra⟩) ⟨Dd, by show (w2.φ ++ [Dd])[μ2.length]? = some Dd; rw [← s0.len]; simp, rfl⟩
        rw [e5] at this
        exact this
      | some pr =>
        obtain ⟨x, s'⟩ := pr
        rw [hx] at T
        simp only [hx] at h2
        refine .inr ⟨T.1, fun H' => ∃ m', m' < n + 1 ∧ ∃ w2 μ2 src2 acc accV, Wd.le w1 w2 ∧ SR C.kp w2 (setG F Dd (.dK accV)) μ2 H' ∧ DctR C.K w2.G acc accV ∧ SrcR C J w2 (i + 1) src2 ∧
          Post C X w2 F (RepV C.K) ((compD S false (wipeE ρ own) t kx vx m' src2 acc μ2).bind fun kvs μ => .ok (.ref μ.length) (μ ++ [.dct kvs])) Q, fun H' q => q, fun v H' y => ?_⟩
        obtain ⟨w3, l3, S3, r3, rJ3⟩ := T.2 v H' y
        cases hb : bindT (wipeE ρ own) t x with
        | none => simp only [hb] at h2; exact False.elim h2
        | some ρ' =>
          simp only [hb] at h2
          have en3 : EnvR C.K w3 (wipeE ρ own) (L2.wipe σ own) := ((en.mono l2).mono l3).wipe own
          refine ⟨w3, _, μ2, wipeE ρ own, x, ρ', S3, en3, r3, hb, fun σ2 en2 hw => ⟨(hw own ht).trans wipe_twice, ?_⟩⟩
          unfold tYes
          simp only [↓reduceIte]
          refine ⟨w3, _, ρ', μ2, S3, en2, ?_⟩
          generalize hr : S.e kx ρ' μ2 = r at h2 ⊢
          cases r with
          | exc _ _ _ => exact False.elim h2
          | stuck => exact False.elim h2
          | ok kd μ3 =>
            intro w4 yv H4 l4 S4 r4
            refine ⟨w4, _, ρ', μ3, S4, en2.mono l4, ?_⟩
            have h2 : Post C X w2 F (RepV C.K) ((((noX (S.e vx ρ' μ3)).bind fun vd μ => if vd.isRef || !(if false then keyTOk kd else keyOk kd) || !(Nat.blt acc.length cap) then .stuck else compD S false (wipeE ρ own) t kx vx n s' (putD kd vd acc) μ) : R (List (D × D))).bind fun kvs μ => .ok (.ref μ.length) (μ ++ [.dct kvs])) Q := h2
            generalize hr2 : S.e vx ρ' μ3 = r2 at h2 ⊢
            cases r2 with
            | exc _ _ _ => exact False.elim h2
            | stuck => exact False.elim h2
            | ok vd μ4 =>
              intro w5 zv H5 l5 S5 r5
              have h2 : Post C X w2 F (RepV C.K) ((if vd.isRef || !(keyOk kd) || !(Nat.blt acc.length cap) then .stuck else compD S false (wipeE ρ own) t kx vx n s' (putD kd vd acc) μ4 : R (List (D × D))).bind fun kvs μ => .ok (.ref μ.length) (μ ++ [.dct kvs])) Q := h2
              split at h2
              · exact False.elim h2
              · rename_i hr
                simp only [Bool.or_eq_true, Bool.not_eq_true', not_or, Bool.not_eq_false, Bool.not_eq_true] at hr
                obtain ⟨⟨hr1, hr2⟩, hr3⟩ := hr
                obtain ⟨kk, ek⟩ := keyOk_V hr2
                have := key_rel r4 ek
                subst this
                have hz : acc.length < cap := Nat.le_of_ble_eq_true hr3
                rw [cap_eq] at hz
                have l35 : Wd.le w2 w5 := Wd.le_trans l3 (Wd.le_trans l4 l5)
                refine ⟨accV, kk, rfl, S5.f _ _ setG_same, by rw [dct_len ra]; exact hz, n, Nat.lt_succ_self n, w5, μ4, s', putD kd vd acc, putK accV kk zv, Wd.le_trans l2 l35, S5.wrF, dct_put ek (r5.toP hr1) (ra.mono l35.1), rJ3.mono (Wd.le_trans l4 l5), Post.le l35 h2⟩
/-! ### new lists by list(..) -/
theorem new_lstN {w : Wd} {F : Gm} {μ : Store} {H : Hp} {Q : VK} {l : List D} {vs : List V} (s : SR C.kp w F μ H) (r : RepPs C.K w.G l vs) (h : PostNew C X w F (.ok (.lst l) μ) Q) : ∀ p, H p = none → Q (.ref p) (upd H p (.lst vs)) := by
  intro p hp
  exact h w p vs _ (Wd.le_refl w) (s.ne_of_none hp).2.1 (s.newF hp) r
/-- a list that stands beside joins the store -/
theorem SR.joinO {K : KP} {w : Wd} {F : Gm} {μ : Store} {H : Hp} {p : Addr} {vs : List V} {l : List D} (s : SR K w (setG F p (.lst vs)) μ H) (hF : F p = none) (r : RepPs K.K w.G l vs) : SR K ⟨w.G, w.φ ++ [p]⟩ F (μ ++ [.lst l]) H := by
  obtain ⟨s0, gp, np, hp⟩ := s.weakF hF
  have e5 : upd H p (.lst vs) = H := by
    funext b
    unfold upd
    split
    · rename_i hb; subst hb; exact hp.symm
    · rfl
  have := s0.putO (u := .lst vs) (o := .lst l) gp hF np ⟨vs, rfl, r⟩
  rw [e5] at this
  exact this
theorem PostNew.lift {w : Wd} {F : Gm} {o : Option D} {μ : Store} {Q : VK} (h : PostNew C X w F (liftO o μ) Q) : ∃ a, o = some a ∧ PostNew C X w F (.ok a μ) Q := by
  cases o with
  | none => exact False.elim h
  | some a => exact ⟨a, rfl, h⟩
theorem un_new {fa : Env → Store → R D} {f : Store → D → R D} {σ : L2.St} {H : Hp} {Q : VK} {r : V → Hp → Prop} (h : tNew C X (fun ρ μ => (fa ρ μ).bind fun x μ => f μ x) σ H Q)
    (i : ∀ w F μ d x H1, SR C.kp w F μ H1 → RepV C.K w d x → PostNew C X w F (f μ d) Q → r x H1) : tE C X fa σ H r := by
  obtain ⟨w, F, ρ, μ, s, en, h⟩ := h
  refine ⟨w, F, ρ, μ, s, en, (PostNew.bind (Rel := RepV C.K) h).mono ?_⟩
  rintro x H1 ⟨w1, d, μ1, l1, s1, r1, h1⟩
  exact i w1 F μ1 d x H1 s1 r1 h1
theorem list_new {fa : Env → Store → R D} {x : Str} {e : Expr} {p pos : Pos} (B : Bnd C) (I : CxI C k X) (h1 : isBlt C.n X.env.scope "list" x = true) (hs : starred e = false) (ha : PE X e (tE C X fa)) :
    PE X (.Call (.Name x p) [e] [] pos) (tNew C X fun ρ μ => (fa ρ μ).bind fun x μ => liftO (bi .list (view μ x)) μ) := by
  obtain ⟨rfl, g1, m1⟩ := blt_ok B I h1
  have st := star_of hs [] X.env
  refine PE.imp (pe_callTy call_list_of g1 m1 rfl (pa_cons ha pa_nil st) (by decide) (by decide) st rfl) ?_
  intro σ H Q q
  refine un_new (f := fun μ x => liftO (bi .list (view μ x)) μ) q ?_
  intro w F μ d x H1 s r h
  obtain ⟨dd, e, h2⟩ := h.lift
  generalize hv : view μ d = vd at e
  simp only [bi, Option.map_eq_some_iff] at e
  obtain ⟨l, e1, rfl⟩ := e
  cases vd <;> simp only [items, reduceCtorEq, Option.some.injEq] at e1
  · subst e1
    obtain ⟨a, vs, rfl, hp, rp⟩ := view_tup s r hv
    exact ⟨a, vs, rfl, .inr (I.K ▸ hp.seq s.g), new_lstN s rp h2⟩
  · subst e1
    obtain ⟨a, vs, rfl, hp, rp⟩ := view_lst s r hv
    exact ⟨a, vs, rfl, .inl (I.K ▸ SqL.of hp), new_lstN s rp h2⟩
  · subst e1
    rename_i is
    have r' : RepP C.K w.G (.scr is) x := by
      rcases view_P s r hv rfl with z | ⟨_, _, _, z, _⟩
      · exact z
      · cases z
    simp only [RepP] at r'
    obtain ⟨a, rfl, q⟩ := r'
    refine ⟨a, is.map V.int, rfl, .inl ?_, new_lstN s (RepPs.ofInts is) h2⟩
    rw [I.K]
    rcases q with ⟨o, g⟩ | ⟨o, its, n, e1, e2, _, e3, e4, e5⟩
    · exact .inl (.inr ⟨o, s.g _ _ g⟩)
    · exact .inr ⟨o, its, n, e1, e2, by assumption, e3, e4, e5⟩
theorem rng_newN {w : Wd} {F : Gm} {μ : Store} {H : Hp} {Q : VK} {a b : Int} (S : SR C.kp w F μ H) (h : PostNew C X w F (liftO ((rngD a b).map fun l => if false then D.tup l else .lst l) μ) Q) :
    RgOk a b ∧ NewS false (rgV a b) H Q := by
  obtain ⟨d, e, h2⟩ := h.lift
  obtain ⟨l, e1, rfl⟩ := Option.map_eq_some_iff.mp e
  obtain ⟨ok, rfl⟩ := rngD_ok e1
  exact ⟨ok, new_lstN S (rgV_rel a b) h2⟩
theorem trng1_new {fb : Env → Store → R D} {x y : Str} {e : Expr} {p p' q' pos : Pos} (B : Bnd C) (I : CxI C k X) (h1 : isBlt C.n X.env.scope "list" x = true) (h2 : isBlt C.n X.env.scope "range" y = true) (hs : starred e = false) (hb : PE X e (tE C X fb)) :
    PE X (.Call (.Name x p) [.Call (.Name y p') [e] [] q'] [] pos) (tNew C X fun ρ μ => (fb ρ μ).bind fun d μ => liftO (((asI d).bind (rngD 0)).map fun l => if false then D.tup l else .lst l) μ) := by
  obtain ⟨rfl, g2, m2⟩ := blt_ok B I h2
  have st := star_of hs [] X.env
  obtain ⟨rfl, g1, m1⟩ := blt_ok B I h1
  refine PE.imp (pe_listRg I.calm g1 m1 (prg_1 g2 m2 hb st)) ?_
  intro σ H Q q
  refine un_new (f := fun μ d => liftO (((asI d).bind (rngD 0)).map fun l => if false then D.tup l else .lst l) μ) q ?_
  intro w F μ d x H1 s r h
  cases hd : asI d with
  | none => rw [hd] at h; exact False.elim h
  | some i => rw [hd] at h; exact ⟨i, asI_rel r hd, rng_newN s h⟩
end
end EV

/-! EV, part 14: every expression. -/
namespace EV
open PySem PySem.Spec PyProof.Rows L2

structure Snd (C : Cfg) (k : Nat) (c : Nat → List D → Store → R D) (S : Sem) : Prop where
  e : ∀ X, CxI C k X → ∀ j a x, mE C.n X.N j X.env.scope a x = true → PE X x (tE C X (S.e a))
  t : ∀ X, CxI C k X → ∀ j a x, mE C.n X.N j X.env.scope a x = true → PT X x (tT C X (S.t a)) ∧ ∀ op vs p, x = .BoolOp op vs p → PW X x (tT C X (S.t a))
  l : ∀ X, CxI C k X → ∀ j a x, mE C.n X.N j X.env.scope a x = true → ∀ i y py spos, X.N[i]? = some y → lcOk X.env.scope y py x = true → PS X (.Assign [.Name y py] x spos) (tAsg (tE C X (S.e a)) (gName i))
  n : ∀ X, CxI C k X → ∀ j a x, mE C.n X.N j X.env.scope a x = true → newEx a = true → PE X x (tNew C X (S.e a)) ∧ ∀ i y py spos, X.N[i]? = some y → lcOk X.env.scope y py x = true → PS X (.Assign [.Name y py] x spos) (tAsg (tNew C X (S.e a)) (gName i))
  c : S.c = c

section
variable {C : Cfg} {X : Cx} {k : Nat} {c : Nat → List D → Store → R D}
theorem CxI.blk (I : CxI C k X) (s : Shared) (H : Hp) (scope : Scope) (cenv : PySem.Env) (fp : List Addr) : CxI C k (X.blk s H scope cenv fp) := ⟨I.prog, I.w, I.K, I.mg, I.base, I.calm, I.nd, I.room, I.gd⟩
theorem blk_fn {scope : Scope} {s : Shared} {H : Hp} {Ca : Addr} {cl : List (Str × Addr)} {fp : List Addr} {x : Str} (h : okBlk scope X.env.scope x = true) :
    (X.blk s H scope (compEnvC scope cl Ca X.env) fp).fn x = true ∨ (X.blk s H scope (compEnvC scope cl Ca X.env) fp).env.scope.names.lookup x = some .local := by
  unfold okBlk at h
  rw [Bool.or_eq_true] at h
  rcases h with h | h
  · exact .inr (local_ok h)
  · exact .inl h
theorem ownOf_snd (N : List Str) : ∀ own : List Nat, (ownOf N own).map (·.2) = own
  | [] => rfl
  | i :: is => by simp [ownOf, ownOf_snd N is]
theorem mIt_set {f : ME} {n : Nm} {sc : Scope} {tg e : Expr} {it : Itx} (h : mIt f n sc tg it e = true) : isSet e = false := by
  unfold mIt at h
  split at h <;> first | rfl | (simp only [Bool.and_eq_true, Bool.not_eq_true'] at h; exact h.1) | cases h
theorem fold_no {e : Expr} (h : isSet e = false) (env : PySem.Env) (x : Value) : foldedSetIterable e env x = pure x := by
  cases e <;> first | rfl | (simp [isSet] at h)
theorem PTs.imp {es : List Expr} {t t' : TT} (h : PTs X es t) (i : ∀ σ H Q, t' σ H Q → t σ H Q) : PTs X es t' := ⟨fun pins s σ H Q I q => h.run pins s σ H Q I (i σ H Q q)⟩
theorem pts_if {S : Sem} {m : ME} {a : Option Ex} {ifs : List Expr} (hT : ∀ a e, m a e = true → PT X e (tT C X (S.t a))) (h : mIf m a ifs = true) : PTs X ifs (tTn C fun ρ μ => evIf S.t ρ μ a) := by
  cases a with
  | none =>
    cases ifs with
    | nil =>
      refine PTs.imp pts_nil ?_
      rintro σ H Q ⟨w, F, ρ, μ, s, en, q⟩
      exact q w true H (Wd.le_refl w) s rfl
    | cons _ _ => simp [mIf] at h
  | some a =>
    cases ifs with
    | nil => simp [mIf] at h
    | cons e es =>
      cases es with
      | nil => exact pts_one (PT.n (hT a e h))
      | cons _ _ => simp [mIf] at h
/-- what a comprehension's text gives: the reading as a value and, stored at once, as a statement -/
theorem lc_both {S : Sem} (SS : Snd C k c S) (B : Bnd C) (I : CxI C k X) {j : Nat} {own : List Nat} {t : Tg} {it : Itx} {cc : Option Ex} {elt : Ex} {x tg iter : Expr} {ifs : List Expr} {scope : Scope} {pos : Pos}
    (hb : blkC X.N X.env.scope scope (ownOf X.N own) = true) (ht : tgIn own t = true) (hi : mIt (mE C.n X.N j X.env.scope) C.n X.env.scope tg it iter = true) (hg : mTg (okBlk scope X.env.scope) X.N (relS scope X.env.scope) t tg = true)
    (hc : mIf (mE C.n X.N j (relS scope X.env.scope)) cc ifs = true) (he : mE C.n X.N j (relS scope X.env.scope) elt x = true) :
    PE X (.ListComp x [⟨tg, iter, ifs, 0⟩] scope pos) (tE C X (eLc S own t it cc elt)) ∧
    ∀ i y py spos, X.N[i]? = some y → lcOk X.env.scope y py (.ListComp x [⟨tg, iter, ifs, 0⟩] scope pos) = true → PS X (.Assign [.Name y py] (.ListComp x [⟨tg, iter, ifs, 0⟩] scope pos) spos) (tAsg (tE C X (eLc S own t it cc elt)) (gName i)) := by
  obtain ⟨PIx, hset⟩ := it_imp (k := k) B I rfl (fun a e h => SS.e X I j a e h) hi
  have hPG : ∀ (s : Shared) (H : Hp) (Ca : Addr) (cl : List (Str × Addr)) (fp : List Addr), PG (X.blk s H scope (compEnvC scope cl Ca X.env) fp) tg (tG C t) := fun s H Ca cl fp => pg_imp (ok := okBlk scope X.env.scope) (I.blk s H scope _ fp) (fun x hx => blk_fn hx) hg
  have hPT : ∀ (s : Shared) (H : Hp) (Ca : Addr) (cl : List (Str × Addr)) (fp : List Addr), PTs (X.blk s H scope (compEnvC scope cl Ca X.env) fp) ifs (tTn C fun ρ μ => evIf S.t ρ μ cc) := fun s H Ca cl fp => pts_if (m := mE C.n X.N j (relS scope X.env.scope)) (fun a e h => (SS.t _ (I.blk s H scope _ fp) j a e h).1) hc
  have hPE : ∀ (s : Shared) (H : Hp) (Ca : Addr) (cl : List (Str × Addr)) (fp : List Addr), PE (X.blk s H scope (compEnvC scope cl Ca X.env) fp) x (tEn C (S.e elt)) := fun s H Ca cl fp => PE.n (SS.e _ (I.blk s H scope _ fp) j elt x he)
  have own2 := ownOf_snd X.N own
  have red : ∀ σ H Q, tE C X (eLc S own t it cc elt) σ H Q → tLc (tIt C X fun ρ μ => evIt S.e ρ μ it) (tG C t) (tTn C fun ρ μ => evIf S.t ρ μ cc) (tEn C (S.e elt)) ((ownOf X.N own).map (·.2)) σ H Q := by
    intro σ H Q q
    rw [own2]
    exact lc_red ht q
  refine ⟨PE.imp (pe_lc I.calm I.nd PIx (blkOk_by hb) hPG hPT hPE (fold_no hset X.env)) red, fun i y py spos hy hl => ?_⟩
  simp only [lcOk, Bool.and_eq_true, Bool.not_eq_true'] at hl
  refine ⟨fun pins s σ H D J q => ?_⟩
  refine (ps_setLc I.calm I.nd hy (local_ok hl.1.1) (sw_true J.ok.kind (local_ok hl.1.1) hl.1.2 hl.2) PIx (blkOk_by hb) hPG hPT hPE (fold_no hset X.env)).run pins s σ H D J ?_
  exact red σ H _ q
/-- what a comprehension's text gives: the reading as a value and, stored at once, as a statement -/
theorem lc_bothN {S : Sem} (SS : Snd C k c S) (B : Bnd C) (I : CxI C k X) {j : Nat} {own : List Nat} {t : Tg} {it : Itx} {cc : Option Ex} {elt : Ex} {x tg iter : Expr} {ifs : List Expr} {scope : Scope} {pos : Pos}
    (hb : blkC X.N X.env.scope scope (ownOf X.N own) = true) (ht : tgIn own t = true) (hi : mIt (mE C.n X.N j X.env.scope) C.n X.env.scope tg it iter = true) (hg : mTg (okBlk scope X.env.scope) X.N (relS scope X.env.scope) t tg = true)
    (hc : mIf (mE C.n X.N j (relS scope X.env.scope)) cc ifs = true) (he : mE C.n X.N j (relS scope X.env.scope) elt x = true) :
    PE X (.ListComp x [⟨tg, iter, ifs, 0⟩] scope pos) (tNew C X (eLc S own t it cc elt)) ∧
    ∀ i y py spos, X.N[i]? = some y → lcOk X.env.scope y py (.ListComp x [⟨tg, iter, ifs, 0⟩] scope pos) = true → PS X (.Assign [.Name y py] (.ListComp x [⟨tg, iter, ifs, 0⟩] scope pos) spos) (tAsg (tNew C X (eLc S own t it cc elt)) (gName i)) := by
  obtain ⟨PIx, hset⟩ := it_imp (k := k) B I rfl (fun a e h => SS.e X I j a e h) hi
  have hPG : ∀ (s : Shared) (H : Hp) (Ca : Addr) (cl : List (Str × Addr)) (fp : List Addr), PG (X.blk s H scope (compEnvC scope cl Ca X.env) fp) tg (tG C t) := fun s H Ca cl fp => pg_imp (ok := okBlk scope X.env.scope) (I.blk s H scope _ fp) (fun x hx => blk_fn hx) hg
  have hPT : ∀ (s : Shared) (H : Hp) (Ca : Addr) (cl : List (Str × Addr)) (fp : List Addr), PTs (X.blk s H scope (compEnvC scope cl Ca X.env) fp) ifs (tTn C fun ρ μ => evIf S.t ρ μ cc) := fun s H Ca cl fp => pts_if (m := mE C.n X.N j (relS scope X.env.scope)) (fun a e h => (SS.t _ (I.blk s H scope _ fp) j a e h).1) hc
  have hPE : ∀ (s : Shared) (H : Hp) (Ca : Addr) (cl : List (Str × Addr)) (fp : List Addr), PE (X.blk s H scope (compEnvC scope cl Ca X.env) fp) x (tEn C (S.e elt)) := fun s H Ca cl fp => PE.n (SS.e _ (I.blk s H scope _ fp) j elt x he)
  have own2 := ownOf_snd X.N own
  have red : ∀ σ H Q, tNew C X (eLc S own t it cc elt) σ H Q → tLc (tIt C X fun ρ μ => evIt S.e ρ μ it) (tG C t) (tTn C fun ρ μ => evIf S.t ρ μ cc) (tEn C (S.e elt)) ((ownOf X.N own).map (·.2)) σ H Q := by
    intro σ H Q q
    rw [own2]
    exact lc_new ht q
  refine ⟨PE.imp (pe_lc I.calm I.nd PIx (blkOk_by hb) hPG hPT hPE (fold_no hset X.env)) red, fun i y py spos hy hl => ?_⟩
  simp only [lcOk, Bool.and_eq_true, Bool.not_eq_true'] at hl
  refine ⟨fun pins s σ H D J q => ?_⟩
  refine (ps_setLc I.calm I.nd hy (local_ok hl.1.1) (sw_true J.ok.kind (local_ok hl.1.1) hl.1.2 hl.2) PIx (blkOk_by hb) hPG hPT hPE (fold_no hset X.env)).run pins s σ H D J ?_
  exact red σ H _ q
theorem lc2_both {S : Sem} (SS : Snd C k c S) (B : Bnd C) (I : CxI C k X) {j : Nat} {own own' : List Nat} {t t' : Tg} {it it' : Itx} {cc : Option Ex} {elt : Ex} {x tg iter tg' iter' : Expr} {ifs : List Expr} {scope : Scope} {pos : Pos}
    (hb : blkC X.N X.env.scope scope (ownOf X.N own) = true) (hsub : own'.all (fun i => own.contains i) = true) (ht : tgIn own t = true) (ht' : tgIn own' t' = true) (hi : mIt (mE C.n X.N j X.env.scope) C.n X.env.scope tg it iter = true) (hg : mTg (okBlk scope X.env.scope) X.N (relS scope X.env.scope) t tg = true)
    (hi' : mIt (mE C.n X.N j (relS scope X.env.scope)) C.n (relS scope X.env.scope) tg' it' iter' = true) (hg' : mTg (okBlk scope X.env.scope) X.N (relS scope X.env.scope) t' tg' = true)
    (hc : mIf (mE C.n X.N j (relS scope X.env.scope)) cc ifs = true) (he : mE C.n X.N j (relS scope X.env.scope) elt x = true) :
    PE X (.ListComp x [⟨tg, iter, [], 0⟩, ⟨tg', iter', ifs, 0⟩] scope pos) (tE C X (eLc2 S own own' t it t' it' cc elt)) ∧
    ∀ i y py spos, X.N[i]? = some y → lcOk X.env.scope y py (.ListComp x [⟨tg, iter, [], 0⟩, ⟨tg', iter', ifs, 0⟩] scope pos) = true → PS X (.Assign [.Name y py] (.ListComp x [⟨tg, iter, [], 0⟩, ⟨tg', iter', ifs, 0⟩] scope pos) spos) (tAsg (tE C X (eLc2 S own own' t it t' it' cc elt)) (gName i)) := by
  obtain ⟨PIx, hset⟩ := it_imp (k := k) B I rfl (fun a e h => SS.e X I j a e h) hi
  have hPI' : ∀ (s : Shared) (H : Hp) (Ca : Addr) (cl : List (Str × Addr)) (fp : List Addr), PI (X.blk s H scope (compEnvC scope cl Ca X.env) fp) tg' iter' (tItN C fun ρ μ => evIt S.e ρ μ it') ∧ isSet iter' = false := fun s H Ca cl fp => by
    have := it_imp (k := k) (f := S.e) B (I.blk s H scope (compEnvC scope cl Ca X.env) fp) rfl (fun a e h => SS.e _ (I.blk s H scope (compEnvC scope cl Ca X.env) fp) j a e h) hi'
    exact ⟨PI.n this.1, this.2⟩
  have hset' : isSet iter' = false := mIt_set hi'
  have hPG : ∀ (s : Shared) (H : Hp) (Ca : Addr) (cl : List (Str × Addr)) (fp : List Addr), PG (X.blk s H scope (compEnvC scope cl Ca X.env) fp) tg (tG C t) := fun s H Ca cl fp => pg_imp (ok := okBlk scope X.env.scope) (I.blk s H scope _ fp) (fun x hx => blk_fn hx) hg
  have hPG' : ∀ (s : Shared) (H : Hp) (Ca : Addr) (cl : List (Str × Addr)) (fp : List Addr), PG (X.blk s H scope (compEnvC scope cl Ca X.env) fp) tg' (tG C t') := fun s H Ca cl fp => pg_imp (ok := okBlk scope X.env.scope) (I.blk s H scope _ fp) (fun x hx => blk_fn hx) hg'
  have hPT : ∀ (s : Shared) (H : Hp) (Ca : Addr) (cl : List (Str × Addr)) (fp : List Addr), PTs (X.blk s H scope (compEnvC scope cl Ca X.env) fp) ifs (tTn C fun ρ μ => evIf S.t ρ μ cc) := fun s H Ca cl fp => pts_if (m := mE C.n X.N j (relS scope X.env.scope)) (fun a e h => (SS.t _ (I.blk s H scope _ fp) j a e h).1) hc
  have hPE : ∀ (s : Shared) (H : Hp) (Ca : Addr) (cl : List (Str × Addr)) (fp : List Addr), PE (X.blk s H scope (compEnvC scope cl Ca X.env) fp) x (tEn C (S.e elt)) := fun s H Ca cl fp => PE.n (SS.e _ (I.blk s H scope _ fp) j elt x he)
  have own2 := ownOf_snd X.N own
  have hv : ∀ i ∈ own', i ∈ (ownOf X.N own).map (·.2) := fun i hi => by
    rw [own2]
    have := List.all_eq_true.mp hsub i hi
    simpa using this
  have red : ∀ σ H Q, tE C X (eLc2 S own own' t it t' it' cc elt) σ H Q → tLc2 (tIt C X fun ρ μ => evIt S.e ρ μ it) (tG C t) tYes (tItN C fun ρ μ => evIt S.e ρ μ it') (tG C t') (tTn C fun ρ μ => evIf S.t ρ μ cc) (tEn C (S.e elt)) ((ownOf X.N own).map (·.2)) own' σ H Q := by
    intro σ H Q q
    rw [own2]
    exact lc2_red ht ht' q
  refine ⟨PE.imp (pe_lc2 I.calm I.nd PIx (blkOk_by hb) hv hPG (fun _ _ _ _ _ => pts_nil) (fun s H Ca cl fp => (hPI' s H Ca cl fp).1) hPG' hPT hPE (fold_no hset X.env) (fun env => fold_no hset' env)) red, fun i y py spos hy hl => ?_⟩
  simp only [lcOk, Bool.and_eq_true, Bool.not_eq_true'] at hl
  refine ⟨fun pins s σ H D J q => ?_⟩
  refine (ps_setLc2 I.calm I.nd hy (local_ok hl.1.1) (sw_true J.ok.kind (local_ok hl.1.1) hl.1.2 hl.2) PIx (blkOk_by hb) hv hPG (fun _ _ _ _ _ => pts_nil) (fun s H Ca cl fp => (hPI' s H Ca cl fp).1) hPG' hPT hPE (fold_no hset X.env) (fun env => fold_no hset' env)).run pins s σ H D J ?_
  exact red σ H _ q

/-- a new list that joins the store, by the reading of a list that stands beside -/
theorem new_red {S : Sem} {a : Ex} {σ : L2.St} {H : Hp} {Q : VK} (q : tE C X (fun ρ μ => (S.e a ρ μ).bind newR) σ H Q) : tNew C X (S.e a) σ H Q := by
  obtain ⟨w, F, ρ, μ, s, en, q⟩ := q
  refine ⟨w, F, ρ, μ, s, en, ?_⟩
  have q : Post C X w F (RepV C.K) ((S.e a ρ μ).bind newR) Q := q
  revert q
  generalize S.e a ρ μ = r
  intro q
  cases r with
  | ok d μ' =>
    cases d <;> first | exact False.elim q | skip
    rename_i l
    have q : Post C X w F (RepV C.K) (.ok (.ref μ'.length) (μ' ++ [.lst l])) Q := q
    intro w' p vs H' lw hF s' rl
    exact q ⟨w'.G, w'.φ ++ [p]⟩ (.ref p) H' (Wd.le_trans lw Wd.le_newO) (s'.joinO hF rl) ⟨p, by show (w'.φ ++ [p])[μ'.length]? = some p; rw [← s'.len]; simp, rfl⟩
  | exc _ _ _ => exact q
  | stuck => exact q
theorem dc_imp {S : Sem} (SS : Snd C k c S) (B : Bnd C) (I : CxI C k X) {j : Nat} {own : List Nat} {t : Tg} {it : Itx} {ka va : Ex} {x y tg iter : Expr} {scope : Scope} {pos : Pos}
    (hb : blkC X.N X.env.scope scope (ownOf X.N own) = true) (ht : tgIn own t = true) (hi : mIt (mE C.n X.N j X.env.scope) C.n X.env.scope tg it iter = true) (hg : mTg (okBlk scope X.env.scope) X.N (relS scope X.env.scope) t tg = true)
    (hk : mE C.n X.N j (relS scope X.env.scope) ka x = true) (he : mE C.n X.N j (relS scope X.env.scope) va y = true) :
    PE X (.DictComp x y [⟨tg, iter, [], 0⟩] scope pos) (tE C X (eDc S false own t it ka va)) := by
  obtain ⟨PIx, hset⟩ := it_imp (k := k) B I rfl (fun a e h => SS.e X I j a e h) hi
  have hPG : ∀ (s : Shared) (H : Hp) (Ca : Addr) (cl : List (Str × Addr)) (fp : List Addr), PG (X.blk s H scope (compEnvC scope cl Ca X.env) fp) tg (tG C t) := fun s H Ca cl fp => pg_imp (ok := okBlk scope X.env.scope) (I.blk s H scope _ fp) (fun x hx => blk_fn hx) hg
  have hPK : ∀ (s : Shared) (H : Hp) (Ca : Addr) (cl : List (Str × Addr)) (fp : List Addr), PE (X.blk s H scope (compEnvC scope cl Ca X.env) fp) x (tEn C (S.e ka)) := fun s H Ca cl fp => PE.n (SS.e _ (I.blk s H scope _ fp) j ka x hk)
  have hPE : ∀ (s : Shared) (H : Hp) (Ca : Addr) (cl : List (Str × Addr)) (fp : List Addr), PE (X.blk s H scope (compEnvC scope cl Ca X.env) fp) y (tEn C (S.e va)) := fun s H Ca cl fp => PE.n (SS.e _ (I.blk s H scope _ fp) j va y he)
  have own2 := ownOf_snd X.N own
  refine PE.imp (pe_dc I.calm I.nd PIx (blkOk_by hb) hPG (fun _ _ _ _ _ => pts_nil) hPK hPE (fold_no hset X.env)) ?_
  intro σ H Q q
  rw [own2]
  obtain ⟨w, F, ρ, μ, s, en, h⟩ := q
  refine ⟨w, F, ρ, μ, s, en, (Post.bind (Rel := fun w' s J => SrcR C J w' 0 s) h).mono ?_⟩
  rintro J H1 ⟨w1, src, μ1, l1, s1, rJ, h1⟩
  exact dc_run ht s1 (en.mono l1) rJ h1
theorem sndE_step {S : Sem} (SS : Snd C k c S) (B : Bnd C) (DO : DefsOk C) (G : ∀ g d, C.df[g]? = some d → GnOk C k c g d) (I : CxI C k X) : ∀ (j : Nat) (a : Ex) (x : Expr), mE C.n X.N j X.env.scope a x = true → PE X x (tE C X (stepE S a)) := by
  intro j a x h
  cases j with
  | zero => simp [mE] at h
  | succ j =>
    have hE := fun a e h => SS.e X I j a e h
    have hT := fun a e h => SS.t X I j a e h
    unfold mE at h
    dsimp only at h
    split at h
    · exact var_imp h
    · exact con_imp h
    · exact glo_imp B I h
    · simp only [Bool.and_eq_true] at h
      refine PE.imp (pe_op (op_bin I _ _ h.1.1) (hE _ _ h.1.2) (hE _ _ h.2)) ?_
      exact bin_imp (f := fun μ x y => liftO (bop _ (view μ x) (view μ y)) μ)
    · exact neg_imp (hE _ _ h)
    · exact not_imp (hE _ _ h)
    · simp only [Bool.and_eq_true] at h
      exact and_imp (hE _ _ h.1) (pe_one (hE _ _ h.2))
    · simp only [Bool.and_eq_true] at h
      exact and_imp (hE _ _ h.1) (hE _ _ h.2)
    · simp only [Bool.and_eq_true] at h
      exact or_imp (hE _ _ h.1) (pe_one (hE _ _ h.2))
    · simp only [Bool.and_eq_true] at h
      exact or_imp (hE _ _ h.1) (hE _ _ h.2)
    · simp only [Bool.and_eq_true, Bool.not_eq_true'] at h
      exact (cmp_imp I h.1.1.1 h.1.1.2 (hE _ _ h.1.2) (hE _ _ h.2)).1
    · simp only [Bool.and_eq_true, Bool.not_eq_true'] at h
      exact (cmp2_imp I h.1.1.1.1.1.1 h.1.1.1.1.1.2 h.1.1.1.2 (hE _ _ h.1.1.2) (hE _ _ h.1.2) (hE _ _ h.2)).1
    · simp only [Bool.and_eq_true] at h
      exact ife_imp (hT _ _ h.1.1).1 (hE _ _ h.1.2) (hE _ _ h.2)
    · simp only [Bool.and_eq_true] at h
      show PE X _ (tE C X (eCall S _ _ _ _))
      unfold eCall
      rw [SS.c]
      exact call_imp DO I (G _) hE h.1.1.1 h.1.1.2 h.1.2 h.2
    · simp only [Bool.and_eq_true, Bool.not_eq_true'] at h
      exact bi_imp B I h.1.1 h.1.2 (hE _ _ h.2)
    · simp only [Bool.and_eq_true, Bool.not_eq_true'] at h
      exact isi_imp B I h.1.1.1.1 h.1.1.1.2 (fun e => by rw [e] at h; simp [tyOk] at h) h.1.2 (hE _ _ h.2)
    · simp only [Bool.and_eq_true, Bool.not_eq_true'] at h
      exact meth_imp I h.1.1.1.1.1 h.1.1.1.1.2 h.1.1.1.2 h.1.1.2 (hE _ _ h.1.2) (hE _ _ h.2)
    · simp only [Bool.and_eq_true, Bool.not_eq_true'] at h
      exact idx_imp I (hE _ _ h.1.2) (hE _ _ h.2) h.1.1
    · simp only [Bool.and_eq_true, Bool.not_eq_true'] at h
      exact dget_imp I (hE _ _ h.1.2) (hE _ _ h.2) h.1.1
    · simp only [Bool.and_eq_true] at h
      exact slice_imp (m := mE C.n X.N j X.env.scope) I (hE _ _ h.1.1) hE h.1.2 h.2
    · exact tup_imp (pa_evsS I _ hE _ _ h)
    · exact lst_imp (pa_evsS I _ hE _ _ h)
    · rename_i ks as keys vals _
      simp only [Bool.and_eq_true] at h
      exact dict_imp (m := mE C.n X.N j X.env.scope) hE h.1.1.1.1 h.1.1.1.2 h.1.1.2 h.1.2 h.2
    · simp only [Bool.and_eq_true, decide_eq_true_eq] at h
      obtain ⟨⟨⟨⟨⟨⟨h1, h2⟩, h3⟩, h4⟩, h5⟩, h6⟩, h7⟩ := h
      subst h1
      exact (lc_both SS B I h2 h3 h4 h5 h6 h7).1
    · simp only [Bool.and_eq_true, decide_eq_true_eq] at h
      obtain ⟨⟨⟨⟨⟨⟨⟨⟨⟨⟨⟨⟨h1, h2⟩, h3⟩, h4⟩, h5⟩, h6⟩, h7⟩, h8⟩, h9⟩, h10⟩, h11⟩, h12⟩, h13⟩ := h
      subst h1 h2
      have h7 := List.isEmpty_iff.mp h7
      subst h7
      exact (lc2_both SS B I h3 h4 h5 h6 h8 h9 h10 h11 h12 h13).1
    · simp only [Bool.and_eq_true, Bool.not_eq_true'] at h
      exact trng1_imp B I h.1.1.1 h.1.1.2 h.1.2 (hE _ _ h.2)
    · simp only [Bool.and_eq_true, Bool.not_eq_true'] at h
      exact trng2_imp B I h.1.1.1.1.1 h.1.1.1.1.2 h.1.1.1.2 h.1.1.2 (hE _ _ h.1.2) (hE _ _ h.2)
    · simp only [Bool.and_eq_true, Bool.not_eq_true'] at h
      exact sset_imp B I h.1.1.1 h.1.1.2 h.1.2 (hE _ _ h.2)
    · simp only [Bool.and_eq_true] at h
      exact PE.imp (SS.n X I j _ _ h.2 h.1).1 (fun σ H Q q => new_red q)
    · rename_i o a' _
      unfold mOp1 at h
      split at h <;> first | (cases h; done) | simp only [Bool.and_eq_true, Bool.not_eq_true'] at h
      · exact listD_imp B I h.1.1 h.1.2 (hE _ _ h.2)
      · exact srt_imp B I h.1.1 h.1.2 (hE _ _ h.2)
      · exact dictP_imp B I h.1.1 h.1.2 (hE _ _ h.2)
      · exact pop_imp I h.1.1.1 h.1.1.2 h.1.2 (hE _ _ h.2)
      · exact lset_imp B I h.1.1.1 h.1.1.2 h.1.2 (hE _ _ h.2)
    · unfold mOp2 at h
      split at h <;> first | (cases h; done) | simp only [Bool.and_eq_true, Bool.not_eq_true'] at h
      · exact din_imp (neg := false) I (hE _ _ h.1.2) (hE _ _ h.2) h.1.1
      · exact din_imp (neg := true) I (hE _ _ h.1.2) (hE _ _ h.2) h.1.1
      · exact split_imp I h.1.1.1.1.1 h.1.1.1.1.2 h.1.1.1.2 h.1.1.2 (hE _ _ h.1.2) (hE _ _ h.2)
    · unfold mOp3 at h
      split at h <;> first | (cases h; done) | simp only [Bool.and_eq_true, Bool.not_eq_true'] at h
      exact gdef_imp I h.1.1.1.1.1.1.1 h.1.1.1.1.1.1.2 h.1.1.1.1.1.2 h.1.1.1.1.2 h.1.1.1.2 (hE _ _ h.1.1.2) (hE _ _ h.1.2) (hE _ _ h.2)
    · exact newT_imp I
    · simp only [Bool.and_eq_true, decide_eq_true_eq] at h
      obtain ⟨⟨⟨⟨⟨⟨h1, h2⟩, h3⟩, h4⟩, h5⟩, h6⟩, h7⟩ := h
      subst h1
      exact dc_imp SS B I h2 h3 h4 h5 h6 h7
    · cases h
theorem sndN_step {S : Sem} (SS : Snd C k c S) (B : Bnd C) (I : CxI C k X) : ∀ (j : Nat) (a : Ex) (x : Expr), mE C.n X.N j X.env.scope a x = true → newEx a = true → PE X x (tNew C X (stepE S a)) ∧ ∀ i y py spos, X.N[i]? = some y → lcOk X.env.scope y py x = true → PS X (.Assign [.Name y py] x spos) (tAsg (tNew C X (stepE S a)) (gName i)) := by
  intro j a x h hn
  cases j with
  | zero => simp [mE] at h
  | succ j =>
    have hE := fun a e h => SS.e X I j a e h
    unfold mE at h
    dsimp only at h
    split at h <;> first | (cases hn; done) | skip
    · rename_i op a b x' o y' p
      simp only [Bool.and_eq_true] at h
      have ho : op = .add ∨ op = .mul := by cases op <;> first | exact .inl rfl | exact .inr rfl | cases hn
      refine ⟨PE.imp (pe_op (op_new I _ _ h.1.1 ho) (hE _ _ h.1.2) (hE _ _ h.2)) (bin_new (f := fun μ x y => liftO (bop _ (view μ x) (view μ y)) μ)), fun i y py spos hy hl => by simp [lcOk] at hl⟩
    · rename_i b a x' p e q
      cases b <;> first | (cases hn; done) | skip
      simp only [Bool.and_eq_true, Bool.not_eq_true'] at h
      exact ⟨list_new B I h.1.1 h.1.2 (hE _ _ h.2), fun i y py spos hy hl => by simp [lcOk] at hl⟩
    · exact ⟨lst_new (pa_evsS I _ hE _ _ h), fun i y py spos hy hl => by simp [lcOk] at hl⟩
    · simp only [Bool.and_eq_true, decide_eq_true_eq] at h
      obtain ⟨⟨⟨⟨⟨⟨h1, h2⟩, h3⟩, h4⟩, h5⟩, h6⟩, h7⟩ := h
      subst h1
      exact lc_bothN SS B I h2 h3 h4 h5 h6 h7
    · rename_i tup b x' p y' p' e q q'
      cases tup with
      | true => cases hn
      | false =>
        simp only [Bool.and_eq_true, Bool.not_eq_true'] at h
        exact ⟨trng1_new B I h.1.1.1 h.1.1.2 h.1.2 (hE _ _ h.2), fun i y py spos hy hl => by simp [lcOk] at hl⟩
    · rename_i tup _ _ _ _ _ _ _ _ _ _
      cases tup <;> cases hn
    · cases h
theorem sndL_step {S : Sem} (SS : Snd C k c S) (B : Bnd C) (I : CxI C k X) : ∀ (j : Nat) (a : Ex) (x : Expr), mE C.n X.N j X.env.scope a x = true → ∀ i y py spos, X.N[i]? = some y → lcOk X.env.scope y py x = true → PS X (.Assign [.Name y py] x spos) (tAsg (tE C X (stepE S a)) (gName i)) := by
  intro j a x h i y py spos hy hl
  cases j with
  | zero => simp [mE] at h
  | succ j =>
    unfold mE at h
    dsimp only at h
    split at h <;> first | (simp [lcOk] at hl; done) | skip
    · simp only [Bool.and_eq_true, decide_eq_true_eq] at h
      obtain ⟨⟨⟨⟨⟨⟨h1, h2⟩, h3⟩, h4⟩, h5⟩, h6⟩, h7⟩ := h
      subst h1
      exact (lc_both SS B I h2 h3 h4 h5 h6 h7).2 i y py spos hy hl
    · simp only [Bool.and_eq_true, decide_eq_true_eq] at h
      obtain ⟨⟨⟨⟨⟨⟨⟨⟨⟨⟨⟨⟨h1, h2⟩, h3⟩, h4⟩, h5⟩, h6⟩, h7⟩, h8⟩, h9⟩, h10⟩, h11⟩, h12⟩, h13⟩ := h
      subst h1 h2
      have h7 := List.isEmpty_iff.mp h7
      subst h7
      exact (lc2_both SS B I h3 h4 h5 h6 h8 h9 h10 h11 h12 h13).2 i y py spos hy hl
    · simp only [Bool.and_eq_true] at h
      refine ⟨fun pins s σ H D J q => ((SS.n X I j _ _ h.2 h.1).2 i y py spos hy hl).run pins s σ H D J ?_⟩
      exact new_red q
    · unfold mOp1 at h
      split at h <;> first | (simp [lcOk] at hl; done) | (cases h; done)
    · unfold mOp2 at h
      split at h <;> first | (simp [lcOk] at hl; done) | (cases h; done)
    · unfold mOp3 at h
      split at h <;> first | (simp [lcOk] at hl; done) | (cases h; done)
    · cases h
theorem PT.stuck {x : Expr} {f : Env → Store → R Bool} (h : ∀ ρ μ, f ρ μ = .stuck) : PT X x (tT C X f) := ⟨fun pins s σ H Q J q => by
  obtain ⟨w, F, ρ, μ, S, en, q⟩ := q
  rw [h] at q
  exact False.elim q⟩
theorem PW.stuck {x : Expr} {f : Env → Store → R Bool} (h : ∀ ρ μ, f ρ μ = .stuck) : PW X x (tT C X f) := ⟨fun wh pins s σ H Q J q => by
  obtain ⟨w, F, ρ, μ, S, en, q⟩ := q
  rw [h] at q
  exact False.elim q⟩
def plainEx : Ex → Bool
  | .call .. | .var _ | .con _ | .bi .. | .isi .. | .idx .. | .dget .. | .op1 .. | .op3 .. => true
  | _ => false
theorem mE_plain {n : Nm} {N : List Str} {sc : Scope} {j : Nat} {a : Ex} {x : Expr} (h : mE n N j sc a x = true) (ha : plainEx a = true) : plainTest x = true := by
  cases j with
  | zero => simp [mE] at h
  | succ j =>
    unfold mE at h
    dsimp only at h
    split at h <;> first | rfl | (cases ha; done) | (cases h; done) | skip
    all_goals
      first
      | (unfold mOp1 at h; split at h <;> first | rfl | (cases h; done))
      | (unfold mOp3 at h; split at h <;> first | rfl | (cases h; done))
theorem din_test {S : Sem} (SS : Snd C k c S) (I : CxI C k X) : ∀ (j : Nat) (o : O2) (a b : Ex) (x : Expr), mE C.n X.N j X.env.scope (.op2 o a b) x = true → PT X x (tT C X (tOp2 S o a b)) ∧ ∀ op vs p, x = .BoolOp op vs p → PW X x (tT C X (tOp2 S o a b)) := by
  intro j o a b x h
  cases j with
  | zero => simp [mE] at h
  | succ j =>
    have hE := fun a e h => SS.e X I j a e h
    unfold mE at h
    dsimp only at h
    unfold mOp2 at h
    have red : ∀ (neg : Bool) σ H Q, tT C X (tOp2 S (.din neg) a b) σ H Q → tE C X (S.e a) σ H fun y H1 => tE C X (S.e b) σ H1 fun x H2 => ∃ a, x = .ref a ∧ GOpt X H2 a y fun b => ∃ k, V.bl (if neg then !b else b) = .bl k ∧ Q k H2 := by
      rintro neg σ H Q ⟨w, F, ρ, μ, s, en, h⟩
      have h : Post C X w F RelB ((S.e a ρ μ).bind fun x μ => (S.e b ρ μ).bind fun y μ => liftO ((hasO μ y x).map fun b => if neg then !b else b) μ) Q := h
      refine ⟨w, F, ρ, μ, s, en, (Post.bind (Rel := RepV C.K) h).mono ?_⟩
      rintro v1 H1 ⟨w1, d1, μ1, l1, s1, r1, h1⟩
      refine ⟨w1, F, ρ, μ1, s1, en.mono l1, (Post.bind (Rel := RepV C.K) h1).mono ?_⟩
      rintro v2 H2 ⟨w2, d2, μ2, l2, s2, r2, h2⟩
      obtain ⟨d, e, h3⟩ := h2.lift
      obtain ⟨b, e2, rfl⟩ := Option.map_eq_some_iff.mp e
      exact hasO_opt I s2 r2 (r1.mono l2) e2 ⟨_, rfl, h3.ok s2 rfl⟩
    split at h <;> first | (cases h; done) | simp only [Bool.and_eq_true, Bool.not_eq_true'] at h
    · exact ⟨PT.imp (pt_cmp (pc_gin (by have := I.room.un; omega) (hE _ _ h.1.2) (hE _ _ h.2)) (nobeh h.1.1 .In)) (red false), fun op vs p e => by cases e⟩
    · exact ⟨PT.imp (pt_cmp (pc_gnotin (by have := I.room.un; omega) (hE _ _ h.1.2) (hE _ _ h.2)) (nobeh h.1.1 .NotIn)) (red true), fun op vs p e => by cases e⟩
    · exact ⟨PT.stuck fun _ _ => rfl, fun _ _ _ _ => PW.stuck fun _ _ => rfl⟩
theorem sndT_step {S : Sem} (SS : Snd C k c S) (B : Bnd C) (DO : DefsOk C) (G : ∀ g d, C.df[g]? = some d → GnOk C k c g d) (I : CxI C k X) : ∀ (j : Nat) (a : Ex) (x : Expr), mE C.n X.N j X.env.scope a x = true → PT X x (tT C X (stepT S a)) ∧ ∀ op vs p, x = .BoolOp op vs p → PW X x (tT C X (stepT S a)) := by
  intro j a x h
  have plain : plainEx a = true → PT X x (tT C X (tVal S a)) ∧ ∀ op vs p, x = .BoolOp op vs p → PW X x (tT C X (tVal S a)) := by
    intro ha
    have hp := mE_plain h ha
    exact ⟨tval_imp I (SS.e X I j a x h) hp, fun op vs p e => by subst e; simp [plainTest] at hp⟩
  cases a with
  | not a' =>
    cases j with
    | zero => simp [mE] at h
    | succ j =>
      unfold mE at h
      dsimp only at h
      split at h <;> first | (cases h; done) | skip
      all_goals rename_i heq
      all_goals try cases heq
      exact ⟨tnot_imp (SS.t X I j _ _ h).1, fun _ _ _ e => by cases e⟩
  | and a' b' =>
    cases j with
    | zero => simp [mE] at h
    | succ j =>
      unfold mE at h
      dsimp only at h
      split at h <;> first | (cases h; done) | skip
      all_goals rename_i heq
      all_goals try cases heq
      · simp only [Bool.and_eq_true] at h
        exact ⟨(tand_imp (SS.t X I j _ _ h.1).1 (pw_and1 (SS.t X I j _ _ h.2).1)).pt, fun _ _ _ e => by cases e; exact tand_imp (SS.t X I j _ _ h.1).1 (pw_and1 (SS.t X I j _ _ h.2).1)⟩
      · simp only [Bool.and_eq_true] at h
        exact ⟨(tand_imp (SS.t X I j _ _ h.1).1 ((SS.t X I j _ _ h.2).2 _ _ _ rfl)).pt, fun _ _ _ e => by cases e; exact tand_imp (SS.t X I j _ _ h.1).1 ((SS.t X I j _ _ h.2).2 _ _ _ rfl)⟩
  | or a' b' =>
    cases j with
    | zero => simp [mE] at h
    | succ j =>
      unfold mE at h
      dsimp only at h
      split at h <;> first | (cases h; done) | skip
      all_goals rename_i heq
      all_goals try cases heq
      · simp only [Bool.and_eq_true] at h
        exact ⟨(tor_imp (SS.t X I j _ _ h.1).1 (pw_or1 (SS.t X I j _ _ h.2).1)).pt, fun _ _ _ e => by cases e; exact tor_imp (SS.t X I j _ _ h.1).1 (pw_or1 (SS.t X I j _ _ h.2).1)⟩
      · simp only [Bool.and_eq_true] at h
        exact ⟨(tor_imp (SS.t X I j _ _ h.1).1 ((SS.t X I j _ _ h.2).2 _ _ _ rfl)).pt, fun _ _ _ e => by cases e; exact tor_imp (SS.t X I j _ _ h.1).1 ((SS.t X I j _ _ h.2).2 _ _ _ rfl)⟩
  | cmp op a' b' =>
    cases j with
    | zero => simp [mE] at h
    | succ j =>
      unfold mE at h
      dsimp only at h
      split at h <;> first | (cases h; done) | skip
      all_goals rename_i heq
      all_goals try cases heq
      simp only [Bool.and_eq_true, Bool.not_eq_true'] at h
      exact ⟨(cmp_imp I h.1.1.1 h.1.1.2 (SS.e X I j _ _ h.1.2) (SS.e X I j _ _ h.2)).2, fun _ _ _ e => by cases e⟩
  | cmp2 op op' a' b' c' =>
    cases j with
    | zero => simp [mE] at h
    | succ j =>
      unfold mE at h
      dsimp only at h
      split at h <;> first | (cases h; done) | skip
      all_goals rename_i heq
      all_goals try cases heq
      simp only [Bool.and_eq_true, Bool.not_eq_true'] at h
      exact ⟨(cmp2_imp I h.1.1.1.1.1.1 h.1.1.1.1.1.2 h.1.1.1.2 (SS.e X I j _ _ h.1.1.2) (SS.e X I j _ _ h.1.2) (SS.e X I j _ _ h.2)).2, fun _ _ _ e => by cases e⟩
  | call f as kws sel => exact plain rfl
  | var i => exact plain rfl
  | con d => exact plain rfl
  | bi b a => exact plain rfl
  | isi a t => exact plain rfl
  | idx a i => exact plain rfl
  | dget a i => exact plain rfl
  | op1 o a => exact plain rfl
  | op3 o a b c => exact plain rfl
  | op2 o a b => exact din_test SS I j o a b x h
  | _ => exact ⟨PT.stuck fun _ _ => rfl, fun _ _ _ _ => PW.stuck fun _ _ => rfl⟩
end
end EV

/-! EV, part 15: statements. -/
namespace EV
open PySem PySem.Spec PyProof.Rows L2

/-- the machine's flow -/
inductive FlV where | nx (σ : L2.St) | ret (v : V)
def RelF (C : Cfg) (w : Wd) (fl : Fl) (b : FlV) : Prop :=
  match fl, b with
  | .nx ρ, .nx σ => EnvR C.K w ρ σ
  | .ret d, .ret v => RepV C.K w d v
  | _, _ => False
def QF (D : Ends) (b : FlV) (H : Hp) : Prop :=
  match b with
  | .nx σ => D.nx σ H
  | .ret v => D.rt v H
def tS (C : Cfg) (X : Cx) (f : Env → Store → R Fl) : TS := fun D σ H => ∃ w F ρ μ, SR C.kp w F μ H ∧ EnvR C.K w ρ σ ∧ Post C X w F (RelF C) (f ρ μ) (QF D)
theorem PS.imp {X : Cx} {st : Stmt} {t t' : TS} (h : PS X st t) (i : ∀ D σ H, t' D σ H → t D σ H) : PS X st t' := ⟨fun pins s σ H D I q => h.run pins s σ H D I (i D σ H q)⟩
theorem PSs.imp {X : Cx} {st : List Stmt} {t t' : TS} (h : PSs X st t) (i : ∀ D σ H, t' D σ H → t D σ H) : PSs X st t' := ⟨fun pins s σ H D I q => h.run pins s σ H D I (i D σ H q)⟩
/-- a def's body -/
structure CxF (C : Cfg) (k : Nat) (X : Cx) : Prop extends CxI C k X where
  fn : ∀ x, X.fn x = true
  po : PassesOwn (model X.prog X.w) X.A X.env X.xe
  kd : X.env.scope.kind = .function

structure SndS (C : Cfg) (k : Nat) (c : Nat → List D → Store → R D) (S : Sem) : Prop extends Snd C k c S where
  s : ∀ X, CxF C k X → ∀ j l q, mSs C.n X.N X.env.scope j l q = true → PSs X q (tS C X (S.s l))

section
variable {C : Cfg} {X : Cx} {k : Nat} {c : Nat → List D → Store → R D}
theorem swaps_no {y : Expr} (h : isLc y = false) (t : Option Expr) (l : Nat) (env : PySem.Env) : swapsWith y t l env = pure false := by
  cases y <;> first | rfl | (simp [isLc] at h)
theorem swaps_cell {y : Expr} {x : Str} {p : Pos} {env : PySem.Env} (h : localB env.scope x = false) (l : Nat) : swapsWith y (some (.Name x p)) l env = pure false := by
  have kx : (env.kindOf x == some NameKind.local) = false := by
    show (env.scope.names.lookup x == some NameKind.local) = false
    unfold localB at h
    split at h
    · cases h
    · rename_i hn
      cases q : env.scope.names.lookup x with
      | none => rfl
      | some kd => cases kd <;> first | rfl | exact absurd q hn
  unfold swapsWith
  cases y <;> first | rfl | simp [kx]
theorem swaps_sub {y o i : Expr} {p : Pos} (l : Nat) (env : PySem.Env) : swapsWith y (some (.Subscript o i p)) l env = pure false := by
  cases y <;> rfl
theorem isLoc_ok {i : Nat} {x : Str} (h : isLoc X.N X.env.scope i x = true) : X.N[i]? = some x ∧ L2.Loc X.env.scope x := by
  simp only [isLoc, Bool.and_eq_true] at h
  exact ⟨isN_ok h.1.1, loc_ok h.1.2⟩
/-- name = e -/
theorem asg_imp {S : Sem} (SS : Snd C k c S) (I : CxF C k X) {j i : Nat} {a : Ex} {x : Str} {p pos : Pos} {y : Expr} (h1 : isLoc X.N X.env.scope i x = true) (h2 : (!isLc y || !(localB X.env.scope x) || lcOk X.env.scope x p y) = true) (h3 : mE C.n X.N j X.env.scope a y = true) :
    PS X (.Assign [.Name x p] y pos) (tS C X (sAsg S i a)) := by
  obtain ⟨hi, hx⟩ := isLoc_ok h1
  have base : PS X (.Assign [.Name x p] y pos) (tAsg (tE C X (S.e a)) (gName i)) := by
    simp only [Bool.or_eq_true, Bool.not_eq_true', or_assoc] at h2
    rcases h2 with z | z | z
    · exact ps_set I.nd hi hx (SS.e X I.toCxI j a y h3) (swaps_no z _ _ _) (.inl (I.fn x))
    · exact ps_set I.nd hi hx (SS.e X I.toCxI j a y h3) (swaps_cell z _) (.inl (I.fn x))
    · exact SS.l X I.toCxI j a y h3 i x p pos hi z
  refine PS.imp base ?_
  rintro D σ H ⟨w, F, ρ, μ, s, en, h⟩
  refine ⟨w, F, ρ, μ, s, en, (Post.bind (Rel := RepV C.K) h).mono ?_⟩
  rintro v H1 ⟨w1, d, μ1, l1, s1, r1, h1⟩
  exact Post.ok (b := .nx (σ.set i (some v))) h1 s1 ((en.mono l1).set r1)
theorem asgN_imp {S : Sem} (SS : Snd C k c S) (I : CxF C k X) {j i : Nat} {a : Ex} {x : Str} {p pos : Pos} {y : Expr} (h0 : newEx a = true) (h1 : isLoc X.N X.env.scope i x = true) (h2 : (!isLc y || !(localB X.env.scope x) || lcOk X.env.scope x p y) = true) (h3 : mE C.n X.N j X.env.scope a y = true) :
    PS X (.Assign [.Name x p] y pos) (tS C X (sAsgN S i a)) := by
  obtain ⟨hi, hx⟩ := isLoc_ok h1
  have base : PS X (.Assign [.Name x p] y pos) (tAsg (tNew C X (S.e a)) (gName i)) := by
    simp only [Bool.or_eq_true, Bool.not_eq_true', or_assoc] at h2
    rcases h2 with z | z | z
    · exact ps_set I.nd hi hx (SS.n X I.toCxI j a y h3 h0).1 (swaps_no z _ _ _) (.inl (I.fn x))
    · exact ps_set I.nd hi hx (SS.n X I.toCxI j a y h3 h0).1 (swaps_cell z _) (.inl (I.fn x))
    · exact (SS.n X I.toCxI j a y h3 h0).2 i x p pos hi z
  refine PS.imp base ?_
  rintro D σ H ⟨w, F, ρ, μ, s, en, h⟩
  refine ⟨w, F, ρ, μ, s, en, ?_⟩
  unfold sAsgN at h
  generalize S.e a ρ μ = r at h
  cases r with
  | ok d μ1 =>
    cases d <;> first | exact False.elim h | skip
    rename_i l
    have h : Post C X w F (RelF C) (.ok (.nx (setE ρ i (.ref μ1.length))) (μ1 ++ [.lst l])) (QF D) := h
    intro w1 pp vs H1 l1 hF s1 r1
    obtain ⟨s2, gp, np, hp⟩ := s1.weakF hF
    have s3 := s2.putO (o := .lst l) gp hF np ⟨vs, rfl, r1⟩
    have e : upd H1 pp (.lst vs) = H1 := by
      funext b
      unfold upd
      split
      · rename_i z; rw [z, hp]
      · rfl
    rw [e] at s3
    refine h _ (.nx (σ.set i (some (.ref pp)))) H1 (Wd.le_trans l1 Wd.le_newO) s3 (((en.mono l1).mono Wd.le_newO).set ⟨pp, ?_, rfl⟩)
    show (w1.φ ++ [pp])[μ1.length]? = some pp
    rw [← s2.len]; simp
  | exc cc fs μ1 => exact h
  | stuck => exact h
theorem sub_assign {o i : Expr} {p : Pos} (h : isSlice i = false) (env : PySem.Env) (v : Value) : assign (.Subscript o i p) env v = (do
      let ov ← holding [v] (eval o env)
      let iv ← holding [v, ov] (eval i env)
      standAt p
      holding [v, ov, iv] (setItem ov iv v)
      release [v, ov, iv] []) := by
  cases i <;> first | rfl | (simp [isSlice] at h)
theorem three {fe fo fk : Env → Store → R D} {f : EV.D → EV.D → EV.D → Store → R Unit} {D : Ends} {σ : L2.St} {H : Hp} {r : V → V → V → Hp → Prop}
    (h : tS C X (fun ρ μ => (fe ρ μ).bind fun v μ => (fo ρ μ).bind fun x μ => (fk ρ μ).bind fun y μ => (f v x y μ).bind fun _ μ => .ok (.nx ρ) μ) D σ H)
    (i : ∀ w F μ dv dx dy v x y H1, SR C.kp w F μ H1 → RepV C.K w dv v → RepV C.K w dx x → RepV C.K w dy y → Post C X w F (fun _ _ (b : Unit) => True) ((f dv dx dy μ).bind fun _ μ => .ok () μ) (fun _ H' => D.nx σ H') → r v x y H1) :
    tE C X fe σ H fun v H1 => tE C X fo σ H1 fun x H2 => tE C X fk σ H2 fun y H3 => r v x y H3 := by
  obtain ⟨w, F, ρ, μ, s, en, h⟩ := h
  refine ⟨w, F, ρ, μ, s, en, (Post.bind (Rel := RepV C.K) h).mono ?_⟩
  rintro v H1 ⟨w1, dv, μ1, l1, s1, r1, h1⟩
  refine ⟨w1, F, ρ, μ1, s1, en.mono l1, (Post.bind (Rel := RepV C.K) h1).mono ?_⟩
  rintro x H2 ⟨w2, dx, μ2, l2, s2, r2, h2⟩
  refine ⟨w2, F, ρ, μ2, s2, (en.mono l1).mono l2, (Post.bind (Rel := RepV C.K) h2).mono ?_⟩
  rintro y H3 ⟨w3, dy, μ3, l3, s3, r3, h3⟩
  refine i w3 F μ3 dv dx dy v x y H3 s3 ((r1.mono l2).mono l3) (r2.mono l3) r3 ?_
  generalize f dv dx dy μ3 = g at h3
  cases g with
  | ok _ μ4 => exact fun w4 _ H4 l4 s4 _ => h3 w4 (.nx σ) H4 l4 s4 ((((en.mono l1).mono l2).mono l3).mono l4)
  | exc _ _ _ => exact h3
  | stuck => exact h3
theorem setAt_rel {K : PySem.W.Frag} {G : Gm} {l l' : List D} {vs : List V} {j : Int} {d : D} {v : V} (r : RepPs K G l vs) (rd : RepP K G d v) (h : setAt l j d = some l') : ∃ n, ixN vs.length j = some n ∧ RepPs K G l' (vs.set n v) := by
  have hl := r.length
  unfold setAt at h
  unfold ixN
  cases j with
  | ofNat n =>
    simp only at h
    split at h
    · rename_i z
      cases h
      have z : n < l.length := Nat.le_of_ble_eq_true z
      have h0 : (0 : Int) ≤ Int.ofNat n := Int.natCast_nonneg n
      refine ⟨n, ?_, r.set n rd⟩
      rw [if_pos h0, if_pos (by show (n : Int) < _; omega)]
      rfl
    · cases h
  | negSucc n =>
    simp only at h
    split at h
    · rename_i z
      cases h
      have z := Nat.le_of_ble_eq_true z
      have h0 : ¬ (0 : Int) ≤ Int.negSucc n := by omega
      refine ⟨l.length - (n + 1), ?_, r.set _ rd⟩
      rw [if_neg h0, if_pos (by omega)]
      congr 1
      omega
    · cases h
theorem setIx_imp {fe fo fk : Env → Store → R D} {o i e : Expr} {p pos : Pos} (I : CxF C k X) (hi : isSlice i = false) (ho : PE X o (tE C X fo)) (hk : PE X i (tE C X fk)) (he : PE X e (tE C X fe)) :
    PS X (.Assign [.Subscript o i p] e pos) (tS C X fun ρ μ => (fe ρ μ).bind fun v μ => (fo ρ μ).bind fun x μ => (fk ρ μ).bind fun y μ => (liftO (setIxO μ x y v) μ).bind fun μ' _ => .ok (.nx ρ) μ') := by
  refine PS.imp (ps_asg he (pg_sub ho hk set_list (sub_assign hi X.env)) (show swapsWith e (some (.Subscript o i p)) pos.line X.env = pure false from swaps_sub _ _) rfl rfl) ?_
  intro D σ H q
  refine three (D := D) (f := fun v x y μ => (liftO (setIxO μ x y v) μ).bind fun μ' _ => .ok () μ') (r := fun v x y H1 => rSetL x y v H1 fun H' => D.nx σ H') ?_ ?_
  · obtain ⟨w, F, ρ, μ, s, en, h⟩ := q
    refine ⟨w, F, ρ, μ, s, en, ?_⟩
    have e : (fun v (μ : Store) => (fo ρ μ).bind fun x μ => (fk ρ μ).bind fun y μ => ((liftO (setIxO μ x y v) μ).bind fun μ' _ => R.ok () μ').bind fun _ μ => R.ok (Fl.nx ρ) μ) =
        (fun v (μ : Store) => (fo ρ μ).bind fun x μ => (fk ρ μ).bind fun y μ => (liftO (setIxO μ x y v) μ).bind fun μ' _ => R.ok (Fl.nx ρ) μ') := by
      funext v μ
      congr 1
      funext x μ
      congr 1
      funext y μ
      rw [R.assoc]
      rfl
    show Post C X w F (RelF C) ((fe ρ μ).bind _) _
    rw [e]
    exact h
  · intro w F μ dv dx dy v x y H1 s rv rx ry h
    generalize ho : setIxO μ dx dy dv = oo at h
    cases oo with
    | none => exact False.elim h
    | some μ' =>
      unfold setIxO at ho
      split at ho
      · rename_i n j
        split at ho
        · rename_i l hl
          split at ho
          · cases ho
          · rename_i hr
            obtain ⟨l', e1, rfl⟩ := Option.map_eq_some_iff.mp ho
            obtain ⟨a, h1, rfl⟩ := rx
            obtain ⟨b, h2, vs, h3, h4⟩ := s.at hl
            rw [h1] at h2
            cases h2
            simp only [RepV, RepP] at ry
            obtain ⟨m, e2, e3⟩ := setAt_rel h4 (rv.toP (by simpa using hr)) e1
            refine ⟨a, vs, j, m, rfl, ry, h3, e2, ?_⟩
            exact h w () _ (Wd.le_refl w) (s.wr h1 ⟨_, rfl, e3⟩) trivial
        · cases ho
      · cases ho
theorem setK_imp {fe fo fk : Env → Store → R D} {o i e : Expr} {p pos : Pos} (I : CxF C k X) (ho : PE X o (tE C X fo)) (hk : PE X i (tE C X fk)) (he : PE X e (tE C X fe)) :
    PS X (.Assign [.Subscript o i p] e pos) (tS C X fun ρ μ => (fe ρ μ).bind fun v μ => (fo ρ μ).bind fun x μ => (fk ρ μ).bind fun y μ => (liftO (setKO μ x y v) μ).bind fun μ' _ => .ok (.nx ρ) μ') := by
  refine PS.imp (ps_gput (by have := I.room.un; omega) ho hk he (swaps_sub _ _)) ?_
  intro D σ H q
  refine three (D := D) (f := fun v x y μ => (liftO (setKO μ x y v) μ).bind fun μ' _ => .ok () μ') (r := fun v x y H1 => ∃ a, x = .ref a ∧ GPut X H1 a y v fun H4 => D.nx σ H4) ?_ ?_
  · obtain ⟨w, F, ρ, μ, s, en, h⟩ := q
    refine ⟨w, F, ρ, μ, s, en, ?_⟩
    have e : (fun v (μ : Store) => (fo ρ μ).bind fun x μ => (fk ρ μ).bind fun y μ => ((liftO (setKO μ x y v) μ).bind fun μ' _ => R.ok () μ').bind fun _ μ => R.ok (Fl.nx ρ) μ) =
        (fun v (μ : Store) => (fo ρ μ).bind fun x μ => (fk ρ μ).bind fun y μ => (liftO (setKO μ x y v) μ).bind fun μ' _ => R.ok (Fl.nx ρ) μ') := by
      funext v μ
      congr 1
      funext x μ
      congr 1
      funext y μ
      rw [R.assoc]
      rfl
    show Post C X w F (RelF C) ((fe ρ μ).bind _) _
    rw [e]
    exact h
  · intro w F μ dv dx dy v x y H1 s rv rx ry h
    generalize ho : setKO μ dx dy dv = oo at h
    cases oo with
    | none => exact False.elim h
    | some μ' =>
      unfold setKO at ho
      split at ho
      · rename_i n
        split at ho
        · rename_i kvs hl
          split at ho
          · cases ho
          · rename_i hr
            simp only [Bool.or_eq_true, Bool.not_eq_true', not_or, Bool.not_eq_false, Bool.not_eq_true] at hr
            obtain ⟨⟨hr1, hr2⟩, hr3⟩ := hr
            cases ho
            obtain ⟨kk, ek⟩ := keyOk_V hr2
            have := key_rel ry ek
            subst this
            obtain ⟨a, h1, rfl⟩ := rx
            obtain ⟨b, h2, ks, h3, h4⟩ := s.at hl
            rw [h1] at h2
            cases h2
            have hz : kvs.length < cap := Nat.le_of_ble_eq_true hr3
            rw [cap_eq] at hz
            refine ⟨a, rfl, .inl ⟨_, DPut.k h3 (by rw [dct_len h4]; exact hz), ?_⟩⟩
            exact h w () _ (Wd.le_refl w) (s.wr h1 ⟨_, rfl, dct_put ek (rv.toP hr1) h4⟩) trivial
        · rename_i kvs hl
          split at ho
          · cases ho
          · rename_i hr
            simp only [Bool.or_eq_true, Bool.not_eq_true', not_or, Bool.not_eq_false, Bool.not_eq_true] at hr
            obtain ⟨⟨hr1, hr2⟩, hr3⟩ := hr
            cases ho
            obtain ⟨kk, ek⟩ := keyTOk_T hr2
            obtain ⟨a, h1, rfl⟩ := rx
            obtain ⟨b, h2, ks, h3, h4⟩ := s.at hl
            rw [h1] at h2
            cases h2
            have hz : kvs.length < cap := Nat.le_of_ble_eq_true hr3
            rw [cap_eq] at hz
            obtain ⟨bb, g, rk⟩ := gt_of I.toCxI s h3 h4 ry ek
            refine ⟨a, rfl, .inr ⟨_, _, _, g, by rw [dctT_len h4]; exact hz, fun r rr => ?_⟩⟩
            exact h w () _ (Wd.le_refl w) (s.wr h1 ⟨_, by rw [I.toCxI.prog, I.toCxI.w], dctT_put ek rk (rv.toP hr1) rr h4⟩) trivial
        · cases ho
      · cases ho
end
end EV

/-! EV, part 16: statements, the rest. -/
namespace EV
open PySem PySem.Spec PyProof.Rows L2

section
variable {C : Cfg} {X : Cx} {k : Nat} {c : Nat → List D → Store → R D}
theorem aug_imp {fe : Env → Store → R D} {i : Nat} {x : Str} {e : Expr} {p pos : Pos} {op : Bop} {o : Operator} (I : CxF C k X) (h1 : isLoc X.N X.env.scope i x = true) (hm : mBop op o = true) (ho : augOk op = true) (he : PE X e (tE C X fe)) :
    PS X (.AugAssign (.Name x p) o e pos) (tS C X fun ρ μ => (liftO (getE ρ i) μ).bind fun x μ => (fe ρ μ).bind fun y μ => (liftO (augI op x y) μ).bind fun z μ => .ok (.nx (setE ρ i z)) μ) := by
  obtain ⟨hi, hx⟩ := isLoc_ok h1
  have key : ∀ (g : Int → Int → Int), (∀ a b z, augI op a b = some z → ∃ m n, a = .int m ∧ b = .int n ∧ z = .int (g m n)) → PIp X o (ipI g) → PS X (.AugAssign (.Name x p) o e pos) (tS C X fun ρ μ => (liftO (getE ρ i) μ).bind fun x μ => (fe ρ μ).bind fun y μ => (liftO (augI op x y) μ).bind fun z μ => .ok (.nx (setE ρ i z)) μ) := by
    intro g hg hp
    refine PS.imp (ps_aug I.nd hi hx he hp (.inl (I.fn x))) ?_
    rintro D σ H ⟨w, F, ρ, μ, s, en, h⟩
    generalize hd : getE ρ i = o at h
    cases o with
    | none => simp only [hd] at h; exact False.elim h
    | some d =>
      simp only [hd] at h
      have h : Post C X w F (RelF C) ((fe ρ μ).bind fun y μ => (liftO (augI op d y) μ).bind fun z μ => .ok (.nx (setE ρ i z)) μ) (QF D) := h
      obtain ⟨v, e1, r⟩ := en.get hd
      refine ⟨v, e1, w, F, ρ, μ, s, en, (Post.bind (Rel := RepV C.K) h).mono ?_⟩
      rintro y H1 ⟨w1, dy, μ1, l1, s1, r1, h1⟩
      generalize hz : augI op d dy = oz at h1
      cases oz with
      | none => exact False.elim h1
      | some z =>
        obtain ⟨m, n, rfl, rfl, rfl⟩ := hg _ _ _ hz
        simp only [RepV, RepP] at r r1
        refine ⟨m, n, r, r1, ?_⟩
        exact Post.ok (b := .nx (σ.set i (some (.int (g m n))))) (Rel := RelF C) h1 s1 ((en.mono l1).set (by simp only [RepV, RepP]))
  cases op <;> simp only [augOk, Bool.false_eq_true] at ho
  · cases o <;> simp [mBop] at hm
    refine key (fun i j => i + j) (fun a b z hz => ?_) ip_add
    cases a <;> cases b <;> simp only [augI, reduceCtorEq, Option.some.injEq] at hz
    exact ⟨_, _, rfl, rfl, hz.symm⟩
  · cases o <;> simp [mBop] at hm
    refine key (fun i j => i - j) (fun a b z hz => ?_) ip_sub
    cases a <;> cases b <;> simp only [augI, reduceCtorEq, Option.some.injEq] at hz
    exact ⟨_, _, rfl, rfl, hz.symm⟩
theorem expr_imp {fe : Env → Store → R D} {e : Expr} {pos : Pos} (hl : isLc e = false) (he : PE X e (tE C X fe)) : PS X (.Expr e pos) (tS C X fun ρ μ => (fe ρ μ).bind fun _ μ => .ok (.nx ρ) μ) := by
  refine PS.imp (ps_expr he (swaps_no hl _ _ _)) ?_
  rintro D σ H ⟨w, F, ρ, μ, s, en, h⟩
  refine ⟨w, F, ρ, μ, s, en, (Post.bind (Rel := RepV C.K) h).mono ?_⟩
  rintro v H1 ⟨w1, d, μ1, l1, s1, r1, h1⟩
  exact Post.ok (b := .nx σ) h1 s1 (en.mono l1)
theorem ret_imp {fe : Env → Store → R D} {e : Expr} {pos : Pos} (he : PE X e (tE C X fe)) : PS X (.Return (some e) pos) (tS C X fun ρ μ => (fe ρ μ).bind fun d μ => .ok (.ret d) μ) := by
  refine PS.imp (ps_ret he) ?_
  rintro D σ H ⟨w, F, ρ, μ, s, en, h⟩
  refine ⟨w, F, ρ, μ, s, en, (Post.bind (Rel := RepV C.K) h).mono ?_⟩
  rintro v H1 ⟨w1, d, μ1, l1, s1, r1, h1⟩
  exact Post.ok (b := .ret v) h1 s1 r1
theorem ifS_imp {ft : Env → Store → R Bool} {fa fb : Env → Store → R Fl} {t : Expr} {a b : List Stmt} {pos : Pos} (ht : PT X t (tT C X ft)) (ha : PSs X a (tS C X fa)) (hb : PSs X b (tS C X fb)) :
    PS X (.If t a b pos) (tS C X fun ρ μ => (ft ρ μ).bind fun t μ => match t with
      | true => fa ρ μ
      | false => fb ρ μ) := by
  refine PS.imp (ps_if ht ha hb) ?_
  rintro D σ H ⟨w, F, ρ, μ, s, en, h⟩
  refine ⟨w, F, ρ, μ, s, en, (Post.bind (Rel := RelB) h).mono ?_⟩
  rintro v H1 ⟨w1, d, μ1, l1, s1, rfl, h1⟩
  cases v with
  | true => rw [if_pos rfl]; exact ⟨w1, F, ρ, μ1, s1, en.mono l1, h1⟩
  | false => rw [if_neg Bool.false_ne_true]; exact ⟨w1, F, ρ, μ1, s1, en.mono l1, h1⟩
theorem swapped_no {y : Expr} {es : List Expr} {kk : Nat} {p : Pos} (h : isTup y = false) (env : PySem.Env) : swappedStores [.Tuple es kk p] y env = pure none := by
  cases y <;> first | rfl | (simp [isTup] at h)
theorem unp_imp {fe : Env → Store → R D} {is : List Nat} {es : List Expr} {kk : Nat} {e : Expr} {tp pos : Pos} (I : CxF C k X) (hn : mNames okAll X.N X.env.scope is es = true) (ht : isTup e = false) (hl : isLc e = false) (he : PE X e (tE C X fe)) :
    PS X (.Assign [.Tuple es kk tp] e pos) (tS C X fun ρ μ => (fe ρ μ).bind fun d μ => liftO ((bindT ρ (.tp is) d).map .nx) μ) := by
  refine PS.imp (ps_asg he (pg_imp (ok := okAll) (t := .tp is) I.toCxI (fun x _ => .inl (I.fn x)) hn) (show swapsWith e (some (.Tuple es kk tp)) pos.line X.env = pure false from swaps_no hl _ _ _) (swapped_no ht X.env) rfl) ?_
  rintro D σ H ⟨w, F, ρ, μ, s, en, h⟩
  refine ⟨w, F, ρ, μ, s, en, (Post.bind (Rel := RepV C.K) h).mono ?_⟩
  rintro v H1 ⟨w1, d, μ1, l1, s1, r1, h1⟩
  obtain ⟨fl, e1, h2⟩ := h1.lift
  obtain ⟨ρ', e2, rfl⟩ := Option.map_eq_some_iff.mp e1
  exact ⟨w1, F, μ1, ρ, d, ρ', s1, en.mono l1, r1, e2, fun σ' en' _ => h2.ok (b := .nx σ') s1 en'⟩

/-! ### loops -/
theorem for_imp {S : Sem} {fi : Env → Store → R Src} {t : Tg} {body : List EV.St} {tg iter : Expr} {y : List Stmt} {pos : Pos} (I : CxF C k X) (hi : PI X tg iter (tIt C X fi)) (hset : isSet iter = false) (hg : PG X tg (tG C t)) (hb : PSs X y (tS C X (S.s body))) :
    PS X (.For tg iter y [] pos) (tS C X fun ρ μ => (fi ρ μ).bind fun s μ => forL S t body fuel s ρ μ) := by
  refine PS.imp (ps_for I.po I.calm hi hg hb (fold_no hset X.env)) ?_
  rintro D σ H ⟨w, F, ρ, μ, s, en, h⟩
  refine ⟨w, F, ρ, μ, s, en, (Post.bind (Rel := fun w' s J => SrcR C J w' 0 s) h).mono ?_⟩
  rintro J H1 ⟨w1, src, μ1, l1, s1, rJ, h1⟩
  refine ⟨fun i m σ H => ∃ w2 ρ2 μ2 src2, Wd.le w1 w2 ∧ SR C.kp w2 F μ2 H ∧ EnvR C.K w2 ρ2 σ ∧ SrcR C J w2 i src2 ∧ Post C X w2 F (RelF C) (forL S t body m src2 ρ2 μ2) (QF D), ⟨fuel, w1, ρ, μ1, src, Wd.le_refl w1, s1, en.mono l1, rJ, h1⟩, ?_⟩
  rintro i m σ2 H2 ⟨w2, ρ2, μ2, src2, l2, s2, en2, rJ2, h2⟩
  cases m with
  | zero => exact False.elim h2
  | succ n =>
    unfold forL at h2
    cases ok : srcOk μ2 src2 with
    | false => rw [ok] at h2; exact False.elim h2
    | true =>
      have T := rJ2.turn (Wd.le_refl w2) s2 ok
      rw [if_pos ok] at h2
      cases hx : nxt μ2 src2 with
      | none =>
        rw [hx] at T
        simp only [hx] at h2
        exact .inl ⟨T, Post.ok (b := .nx σ2) h2 s2 en2⟩
      | some p =>
        obtain ⟨x, s'⟩ := p
        rw [hx] at T
        simp only [hx] at h2
        refine .inr ⟨T.1, fun σ' H' => ∃ m', m' < n + 1 ∧ ∃ w2 ρ2 μ2 src2, Wd.le w1 w2 ∧ SR C.kp w2 F μ2 H' ∧ EnvR C.K w2 ρ2 σ' ∧ SrcR C J w2 (i + 1) src2 ∧ Post C X w2 F (RelF C) (forL S t body m' src2 ρ2 μ2) (QF D), fun _ _ q => q, fun v H' y => ?_⟩
        obtain ⟨w3, l3, s3, r3, rJ3⟩ := T.2 v H' y
        cases hb : bindT ρ2 t x with
        | none => simp only [hb] at h2; exact False.elim h2
        | some ρ3 =>
          simp only [hb] at h2
          refine ⟨w3, F, μ2, ρ2, x, ρ3, s3, en2.mono l3, r3, hb, fun σ3 en3 _ => ⟨w3, F, ρ3, μ2, s3, en3, ?_⟩⟩
          refine (Post.bind (Rel := RelF C) (Post.le l3 h2)).mono ?_
          rintro b H4 ⟨w4, fl, μ4, l4, s4, r4, h4⟩
          cases fl with
          | nx ρ4 =>
            cases b with
            | nx σ4 => exact ⟨n, Nat.lt_succ_self n, w4, ρ4, μ4, s', Wd.le_trans (Wd.le_trans l2 l3) l4, s4, r4, rJ3.mono l4, h4⟩
            | ret _ => exact False.elim r4
          | ret d =>
            cases b with
            | nx _ => exact False.elim r4
            | ret v => exact Post.ok (b := .ret v) h4 s4 r4
theorem SR.keep {K : KP} {w w1 : Wd} {F : Gm} {n : Nat} {μ1 : Store} {H1 : Hp} (hn : w.φ.length = n) (l : Wd.le w w1) (nd : w.φ.Nodup) (s1 : SR K w1 F μ1 H1) : SR K ⟨w1.G, w.φ⟩ F (μ1.take n) H1 := by
  obtain ⟨gl, t, et⟩ := l
  have hl : n ≤ μ1.length := by rw [← hn, ← s1.len, et, List.length_append]; omega
  refine ⟨s1.g, s1.f, s1.gf, by rw [List.length_take, hn]; omega, nd, fun a ha => ?_, fun i o a e1 e2 => ?_⟩
  · exact s1.ap a (by rw [et]; exact List.mem_append_left _ ha)
  · have hi : i < w.φ.length := (List.getElem?_eq_some_iff.mp e2).1
    have e3 : w1.φ[i]? = some a := by rw [et, List.getElem?_append_left hi]; exact e2
    rw [List.getElem?_take_of_lt (by rw [← hn]; exact hi)] at e1
    exact s1.ob i o a e1 e3
theorem dropE_len (n : Nat) : ∀ ρ : Env, (dropE n ρ).length = ρ.length
  | [] => rfl
  | o :: ρ => by simp [dropE, dropE_len n ρ]
theorem dropO_at {n : Nat} {o : Option D} {d : D} (h : dropO n o = some d) : o = some d ∧ ∀ j, d = .ref j → j < n := by
  cases o with
  | none => cases h
  | some x =>
    cases x <;> simp only [dropO] at h
    case ref i =>
      split at h
      · rename_i hi
        cases h
        exact ⟨rfl, fun j e => by cases e; exact Nat.le_of_ble_eq_true hi⟩
      · cases h
    all_goals
      cases h
      exact ⟨rfl, fun j e => by cases e⟩
theorem dropE_at (n : Nat) : ∀ (ρ : Env) (i : Nat) (d : D), (dropE n ρ)[i]? = some (some d) → ρ[i]? = some (some d) ∧ ∀ j, d = .ref j → j < n
  | [], i, d, h => by simp [dropE] at h
  | o :: ρ, 0, d, h => by
    simp only [dropE, List.getElem?_cons_zero, Option.some.injEq] at h
    obtain ⟨h1, h2⟩ := dropO_at h
    exact ⟨by rw [h1]; rfl, h2⟩
  | o :: ρ, i + 1, d, h => by
    have h : (dropE n ρ)[i]? = some (some d) := by simpa [dropE] using h
    simpa using dropE_at n ρ i d h
theorem EnvR.keep {K : PySem.W.Frag} {w w1 : Wd} {n : Nat} {ρ : Env} {σ : L2.St} (hn : w.φ.length = n) (l : Wd.le w w1) (en : EnvR K w1 ρ σ) : EnvR K ⟨w1.G, w.φ⟩ (dropE n ρ) σ := by
  obtain ⟨gl, t, et⟩ := l
  refine ⟨by rw [dropE_len]; exact en.len, fun i d h => ?_⟩
  obtain ⟨h1, h2⟩ := dropE_at n ρ i d h
  obtain ⟨v, e1, e2⟩ := en.at_ i d h1
  refine ⟨v, e1, ?_⟩
  cases d with
  | ref j =>
    have hj := h2 j rfl
    obtain ⟨a, e3, e4⟩ := e2
    refine ⟨a, ?_, e4⟩
    rw [et, List.getElem?_append_left (by rw [hn]; exact hj)] at e3
    exact e3
  | _ => exact e2
theorem forG_imp {S : Sem} {fi : Env → Store → R Src} {t : Tg} {body : List EV.St} {tg iter : Expr} {y : List Stmt} {pos : Pos} (I : CxF C k X) (hi : PI X tg iter (tIt C X fi)) (hset : isSet iter = false) (hg : PG X tg (tG C t)) (hb : PSs X y (tS C X (S.s body))) :
    PS X (.For tg iter y [] pos) (tS C X fun ρ μ => (fi ρ μ).bind fun s μ => forLG S t body μ.length fuel s ρ μ) := by
  refine PS.imp (ps_for I.po I.calm hi hg hb (fold_no hset X.env)) ?_
  rintro D σ H ⟨w, F, ρ, μ, s, en, h⟩
  refine ⟨w, F, ρ, μ, s, en, (Post.bind (Rel := fun w' s J => SrcR C J w' 0 s) h).mono ?_⟩
  rintro J H1 ⟨w1, src, μ1, l1, s1, rJ, h1⟩
  have hφ : w1.φ.length = μ1.length := s1.len
  refine ⟨fun i m σ H => ∃ G2 ρ2 μ2 src2, Wd.le w1 ⟨G2, w1.φ⟩ ∧ SR C.kp ⟨G2, w1.φ⟩ F μ2 H ∧ EnvR C.K ⟨G2, w1.φ⟩ ρ2 σ ∧ SrcR C J ⟨G2, w1.φ⟩ i src2 ∧ Post C X w1 F (RelF C) (forLG S t body μ1.length m src2 ρ2 μ2) (QF D), ⟨fuel, w1.G, ρ, μ1, src, Wd.le_refl w1, s1, en.mono l1, rJ, h1⟩, ?_⟩
  rintro i m σ2 H2 ⟨G2, ρ2, μ2, src2, l2, s2, en2, rJ2, h2⟩
  cases m with
  | zero => exact False.elim h2
  | succ n =>
    unfold forLG at h2
    cases ok : srcOk μ2 src2 with
    | false => rw [ok] at h2; exact False.elim h2
    | true =>
      have T := rJ2.turn (Wd.le_refl _) s2 ok
      rw [if_pos ok] at h2
      cases hx : nxt μ2 src2 with
      | none =>
        rw [hx] at T
        simp only [hx] at h2
        exact .inl ⟨T, h2 _ (.nx σ2) H2 l2 s2 en2⟩
      | some p =>
        obtain ⟨x, s'⟩ := p
        rw [hx] at T
        simp only [hx] at h2
        refine .inr ⟨T.1, fun σ' H' => ∃ m', m' < n + 1 ∧ ∃ G2 ρ2 μ2 src2, Wd.le w1 ⟨G2, w1.φ⟩ ∧ SR C.kp ⟨G2, w1.φ⟩ F μ2 H' ∧ EnvR C.K ⟨G2, w1.φ⟩ ρ2 σ' ∧ SrcR C J ⟨G2, w1.φ⟩ (i + 1) src2 ∧ Post C X w1 F (RelF C) (forLG S t body μ1.length m' src2 ρ2 μ2) (QF D), fun _ _ q => q, fun v H' y => ?_⟩
        obtain ⟨w3, l3, s3, r3, rJ3⟩ := T.2 v H' y
        have e3 : w3.φ = w1.φ := by
          obtain ⟨_, r, er⟩ := l3
          have er : w3.φ = w1.φ ++ r := er
          have h3 := s3.len
          have h4 := s2.len
          have h4 : w1.φ.length = μ2.length := h4
          rw [er, List.length_append] at h3
          have : r = [] := List.eq_nil_of_length_eq_zero (by omega)
          rw [er, this, List.append_nil]
        cases hb : bindT ρ2 t x with
        | none => simp only [hb] at h2; exact False.elim h2
        | some ρ3 =>
          simp only [hb] at h2
          refine ⟨w3, F, μ2, ρ2, x, ρ3, s3, en2.mono l3, r3, hb, fun σ3 en3 _ => ⟨w3, F, ρ3, μ2, s3, en3, ?_⟩⟩
          have l13 : Wd.le w1 w3 := Wd.le_trans l2 l3
          generalize hr : S.s body ρ3 μ2 = r at h2 ⊢
          cases r with
          | stuck => exact False.elim h2
          | exc c fs μ' =>
            obtain ⟨W, tk, q⟩ := h2
            exact ⟨W, tk, fun w' H' cls dx σ' l s r => q w' H' cls dx σ' (Wd.le_trans l13 l) s r⟩
          | ok fl μ4 =>
            intro w4 b H4 l4 s4 r4
            have l14 : Wd.le w1 w4 := Wd.le_trans l13 l4
            cases fl with
            | nx ρ4 =>
              cases b with
              | nx σ4 =>
                have l5 : Wd.le w3 ⟨w4.G, w1.φ⟩ := ⟨l4.1, [], by rw [e3]; simp⟩
                exact ⟨n, Nat.lt_succ_self n, w4.G, dropE μ1.length ρ4, μ4.take μ1.length, s', ⟨l14.1, [], by simp⟩, s4.keep hφ l14 s1.nd, EnvR.keep hφ l14 r4, rJ3.mono l5, (show Post C X w1 F (RelF C) (forLG S t body μ1.length n s' (dropE μ1.length ρ4) (μ4.take μ1.length)) (QF D) from h2)⟩
              | ret _ => exact False.elim r4
            | ret d =>
              cases b with
              | nx _ => exact False.elim r4
              | ret v => exact (show Post C X w1 F (RelF C) (.ok (.ret d) μ4) (QF D) from h2) w4 (.ret v) H4 l14 s4 r4
theorem while_imp {cn : Ex} {body : List EV.St} {x : Expr} {y : List Stmt} {pos : Pos} {n : Nat} (I : CxF C k X) (ht : ∀ m, m < n → PT X x (tT C X ((lev c m).t cn))) (hb : ∀ m, m < n → PSs X y (tS C X ((lev c m).s body))) :
    PS X (.While x y [] pos) (tS C X ((lev c n).w cn body)) := by
  have hT : PT X x (fun σ H Q => ∃ m, m < n ∧ tT C X ((lev c m).t cn) σ H Q) := ⟨fun pins s σ H Q J ⟨m, hm, q⟩ => (ht m hm).run pins s σ H Q J q⟩
  have hB : PSs X y (fun D σ H => ∃ m, m < n ∧ tS C X ((lev c m).s body) D σ H) := ⟨fun pins s σ H D J ⟨m, hm, q⟩ => (hb m hm).run pins s σ H D J q⟩
  refine PS.imp (ps_while I.po hT hB) ?_
  rintro D σ H ⟨w, F, ρ, μ, s, en, h⟩
  refine ⟨fun m σ H => m ≤ n ∧ ∃ w F ρ μ, SR C.kp w F μ H ∧ EnvR C.K w ρ σ ∧ Post C X w F (RelF C) ((lev c m).w cn body ρ μ) (QF D), ⟨n, Nat.le_refl n, w, F, ρ, μ, s, en, h⟩, ?_⟩
  rintro m σ1 H1 ⟨hm, w1, F1, ρ1, μ1, s1, en1, h1⟩
  cases m with
  | zero => exact False.elim h1
  | succ m =>
    have h1 : Post C X w1 F1 (RelF C) (stepW (lev c m) cn body ρ1 μ1) (QF D) := h1
    unfold stepW at h1
    refine ⟨m, by omega, w1, F1, ρ1, μ1, s1, en1, (Post.bind (Rel := RelB) h1).mono ?_⟩
    rintro b H2 ⟨w2, b', μ2, l2, s2, rfl, h2⟩
    cases b with
    | false => rw [if_neg Bool.false_ne_true]; exact Post.ok (b := .nx σ1) (Rel := RelF C) h2 s2 (en1.mono l2)
    | true =>
      rw [if_pos rfl]
      refine ⟨fun σ' H' => m ≤ n ∧ ∃ w F ρ μ, SR C.kp w F μ H' ∧ EnvR C.K w ρ σ' ∧ Post C X w F (RelF C) ((lev c m).w cn body ρ μ) (QF D), fun _ _ q => ⟨m, Nat.lt_succ_self m, q⟩, m, by omega, w2, F1, ρ1, μ2, s2, en1.mono l2, ?_⟩
      refine (Post.bind (Rel := RelF C) h2).mono ?_
      rintro b H4 ⟨w4, fl, μ4, l4, s4, r4, h4⟩
      cases fl with
      | nx ρ4 =>
        cases b with
        | nx σ4 => exact ⟨by omega, w4, F1, ρ4, μ4, s4, r4, h4⟩
        | ret _ => exact False.elim r4
      | ret d =>
        cases b with
        | nx _ => exact False.elim r4
        | ret v => exact Post.ok (b := .ret v) h4 s4 r4
end
end EV

/-! EV, part 17: a, b = x, y; every statement. -/
namespace EV
open PySem PySem.Spec PyProof.Rows L2

section
variable {C : Cfg} {X : Cx} {k : Nat} {c : Nat → List D → Store → R D}
theorem sw_none {es vs : List Expr} {kk k2 : Nat} {p p2 : Pos} (h : noSwap es vs = true) (env : PySem.Env) : swappedStores [.Tuple es kk p] (.Tuple vs k2 p2) env = pure none := by
  unfold swappedStores
  dsimp only
  simp only [noSwap, Bool.or_eq_true, decide_eq_true_eq] at h
  split
  · rfl
  · rename_i h1
    split
    · rfl
    · split
      · rfl
      · split
        · rfl
        · rcases h with h | h
          · exfalso
            simp only [Bool.or_eq_true, Bool.not_eq_true', not_or, Bool.not_eq_false, beq_iff_eq] at h1
            omega
          · rename_i hz
            exact absurd h hz
theorem short_filter {α β : Type} (f : α → Option β) : ∀ (l : List α), (∃ a ∈ l, f a = none) → (l.filterMap f).length < l.length
  | [], h => by obtain ⟨a, ha, _⟩ := h; cases ha
  | a :: l, h => by
    have le : (l.filterMap f).length ≤ l.length := List.length_filterMap_le f l
    cases e : f a with
    | none => rw [List.filterMap_cons_none e, List.length_cons]; omega
    | some b =>
      rw [List.filterMap_cons_some e, List.length_cons, List.length_cons]
      obtain ⟨x, hx, hn⟩ := h
      rcases List.mem_cons.mp hx with rfl | hx
      · rw [e] at hn; cases hn
      · have := short_filter f l ⟨x, hx, hn⟩
        omega
theorem sw_cell {es vs : List Expr} {kk k2 : Nat} {p p2 : Pos} {env : PySem.Env} (h : someCell env.scope es = true) : swappedStores [.Tuple es kk p] (.Tuple vs k2 p2) env = pure none := by
  unfold swappedStores
  dsimp only
  split
  · rfl
  · split
    · rfl
    · split
      · rfl
      · rename_i h3
        exfalso
        refine h3 ?_
        rw [Bool.or_eq_true]
        left
        rw [bne_iff_ne]
        refine Nat.ne_of_lt (short_filter _ es ?_)
        obtain ⟨e, he, hb⟩ := List.any_eq_true.mp h
        refine ⟨e, he, ?_⟩
        cases e <;> first | rfl | skip
        rename_i x px
        simp only [Bool.not_eq_true'] at hb
        have kx : (env.kindOf x == some NameKind.local) = false := by
          show (env.scope.names.lookup x == some NameKind.local) = false
          unfold localB at hb
          split at hb
          · cases hb
          · rename_i hn
            cases q : env.scope.names.lookup x with
            | none => rfl
            | some kd => cases kd <;> first | rfl | exact absurd q hn
        simp [kx]
theorem stars_off {vs : List Expr} (h : ∀ e ∈ vs, starred e = false) : (vs.any fun | .Starred .. => true | _ => false) = false := by
  rw [List.any_eq_false]
  intro e he
  have := h e he
  cases e <;> simp [starred] at this <;> simp
theorem sw_two {x y : Str} {px py p p2 : Pos} {kk k2 : Nat} {vs : List Expr} {env : PySem.Env} (hk : env.scope.kind = .function) (hs : ∀ e ∈ vs, starred e = false) (h : swap env.scope [.Name x px, .Name y py] vs = true) :
    swappedStores [.Tuple [.Name x px, .Name y py] kk p] (.Tuple vs k2 p2) env = pure (some [x, y]) := by
  simp only [swap, Bool.and_eq_true, Bool.not_eq_true', decide_eq_true_eq, beq_iff_eq] at h
  obtain ⟨⟨h1, h2⟩, ⟨⟨⟨h3, h4⟩, h5⟩, h6⟩, h7⟩ := h
  have kx : env.kindOf x = some .local := local_ok h3
  have ky : env.kindOf y = some .local := local_ok h4
  have hb : env.blockKind = .function := by unfold Env.blockKind; rw [hk]; rfl
  rw [eqStr_eq] at h6
  have hne : x ≠ y := by simpa using h6
  have h5' : py.line = px.line := h5.symm
  have st := stars_off hs
  unfold swappedStores
  simp only [hb, kx, ky, h7, h1, h2, st, Expr.pos, h5', List.length_cons, List.length_nil, List.head?_cons, Option.map_some, Option.getD_some, List.filterMap_cons, List.filterMap_nil, beq_self_eq_true, Bool.and_self, if_true, List.eraseDups_cons, List.eraseDups_nil]
  simp [hne, Ne.symm hne, h6]
  rw [if_neg (by rintro ⟨e, he, hm⟩; have := hs e he; cases e <;> simp [starred] at this hm)]
  simp [List.eraseDups_cons]
theorem sw_three {x y z : Str} {px py pz p p2 : Pos} {kk k2 : Nat} {vs : List Expr} {env : PySem.Env} (hk : env.scope.kind = .function) (hs : ∀ e ∈ vs, starred e = false) (h : swap env.scope [.Name x px, .Name y py, .Name z pz] vs = true) :
    swappedStores [.Tuple [.Name x px, .Name y py, .Name z pz] kk p] (.Tuple vs k2 p2) env = pure (some [x, y, z]) := by
  simp only [swap, Bool.and_eq_true, Bool.not_eq_true', decide_eq_true_eq, beq_iff_eq] at h
  obtain ⟨⟨h1, h2⟩, ⟨⟨⟨⟨⟨⟨⟨h3, h4⟩, h4'⟩, h5⟩, h5a⟩, h6⟩, h6a⟩, h6b⟩, h7⟩ := h
  have kx : env.kindOf x = some .local := local_ok h3
  have ky : env.kindOf y = some .local := local_ok h4
  have kz : env.kindOf z = some .local := local_ok h4'
  have hb : env.blockKind = .function := by unfold Env.blockKind; rw [hk]; rfl
  rw [eqStr_eq] at h6 h6a h6b
  have hne : x ≠ y := by simpa using h6
  have hne2 : x ≠ z := by simpa using h6a
  have hne3 : y ≠ z := by simpa using h6b
  have h5' : py.line = px.line := h5.symm
  have h5a' : pz.line = px.line := h5a.symm
  unfold swappedStores
  simp only [hb, kx, ky, kz, h7, h1, h2, Expr.pos, h5', h5a', List.length_cons, List.length_nil, List.head?_cons, Option.map_some, Option.getD_some, List.filterMap_cons, List.filterMap_nil, beq_self_eq_true, Bool.and_self, if_true, List.eraseDups_cons, List.eraseDups_nil]
  simp [hne, Ne.symm hne, hne2, Ne.symm hne2, hne3, Ne.symm hne3, h6]
  rw [if_neg (by rintro ⟨e, he, hm⟩; have := hs e he; cases e <;> simp [starred] at this hm)]
  simp [List.eraseDups_cons, hne3, Ne.symm hne3]
theorem setEs_two {ρ ρ' : Env} {i j : Nat} {ds : List D} (h : setEs ρ [i, j] ds = some ρ') : ∃ a b, ds = [a, b] ∧ ρ' = setE (setE ρ i a) j b := by
  match ds, h with
  | [a, b], h => simp only [setEs, Option.some.injEq] at h; exact ⟨a, b, rfl, h.symm⟩
  | [], h => simp [setEs] at h
  | [_], h => simp [setEs] at h
  | _ :: _ :: _ :: _, h => simp [setEs] at h
theorem setEs_three {ρ ρ' : Env} {i j l : Nat} {ds : List D} (h : setEs ρ [i, j, l] ds = some ρ') : ∃ a b c, ds = [a, b, c] ∧ ρ' = setE (setE (setE ρ i a) j b) l c := by
  match ds, h with
  | [a, b, c], h => simp only [setEs, Option.some.injEq] at h; exact ⟨a, b, c, rfl, h.symm⟩
  | [], h => simp [setEs] at h
  | [_], h => simp [setEs] at h
  | [_, _], h => simp [setEs] at h
  | _ :: _ :: _ :: _ :: _, h => simp [setEs] at h
theorem par_imp {f : EvE} {m : ME} {is : List Nat} {as : List Ex} {es vs : List Expr} {kk k2 : Nat} {tp p2 pos : Pos} (I : CxF C k X) (hE : ∀ a e, m a e = true → PE X e (tE C X (f a)))
    (hn : mNames okAll X.N X.env.scope is es = true) (hl : mList m as vs = true) (hd : distinct is = true) (hz : Nat.ble is.length 100 = true) (hs : (swap X.env.scope es vs || noSwap es vs || someCell X.env.scope es) = true) (hk : X.env.scope.kind = .function) :
    PS X (.Assign [.Tuple es kk tp] (.Tuple vs k2 p2) pos) (tS C X fun ρ μ => (evr f as ρ μ).bind fun ds μ => liftO ((setEs ρ is ds).map .nx) μ) := by
  have PAx := pa_evr (C := C) (X := X) m hE as vs hl
  simp only [Bool.or_eq_true, or_assoc] at hs
  rcases hs with hs | hs
  · have hs0 := hs
    simp only [swap, Bool.and_eq_true] at hs
    obtain ⟨_, hs⟩ := hs
    split at hs
    · rename_i x px y py
      match is, hn with
      | [i, j], hn =>
        simp only [mNames, Bool.and_eq_true] at hn
        simp only [Bool.and_eq_true, decide_eq_true_eq] at hs
        obtain ⟨⟨⟨⟨h3, h4⟩, h5⟩, h6⟩, h7⟩ := hs
        obtain ⟨hi, _⟩ := isLoc_ok hn.1.1
        obtain ⟨hj, _⟩ := isLoc_ok hn.2.1.1
        have hij : i ≠ j := by simp only [distinct, Bool.and_eq_true, Bool.not_eq_true'] at hd; intro e; subst e; simp at hd
        match vs, h7, PAx, hl, hs0 with
        | [a, b], _, PAx, hl, hs0 =>
          refine PS.imp (ps_par I.calm I.nd hi hj hij (local_ok h3) (local_ok h4) PAx (sw_two hk (mList_star hl) hs0) rfl) ?_
          rintro D σ H ⟨w, F, ρ, μ, s, en, h⟩
          refine ⟨w, F, ρ, μ, s, en, (Post.bind (Rel := RepVs C.K) h).mono ?_⟩
          rintro us H1 ⟨w1, ds, μ1, l1, s1, r1, h1⟩
          obtain ⟨fl, e1, h2⟩ := h1.lift
          obtain ⟨ρ', e2, rfl⟩ := Option.map_eq_some_iff.mp e1
          obtain ⟨da, db, rfl, rfl⟩ := setEs_two e2
          obtain ⟨va, t, rfl, ra, r2⟩ := r1
          obtain ⟨vb, t, rfl, rb, r3⟩ := r2
          have r3 : t = [] := r3
          subst r3
          exact ⟨va, vb, rfl, h2.ok (b := .nx ((σ.set i (some va)).set j (some vb))) s1 (((en.mono l1).set ra).set rb)⟩
      | [], hn => simp [mNames] at hn
      | [_], hn => simp [mNames] at hn
      | _ :: _ :: _ :: _, hn => simp [mNames] at hn
    · rename_i x px y py z pz
      match is, hn with
      | [i, j, l], hn =>
        simp only [mNames, Bool.and_eq_true] at hn
        simp only [Bool.and_eq_true, decide_eq_true_eq] at hs
        obtain ⟨⟨⟨⟨⟨⟨⟨⟨h3, h4⟩, h4'⟩, h5⟩, h5a⟩, h6⟩, h6a⟩, h6b⟩, h7⟩ := hs
        obtain ⟨hi, _⟩ := isLoc_ok hn.1.1
        obtain ⟨hj, _⟩ := isLoc_ok hn.2.1.1
        obtain ⟨hl', _⟩ := isLoc_ok hn.2.2.1.1
        simp only [distinct, Bool.and_eq_true, Bool.not_eq_true'] at hd
        have hij : i ≠ j := by intro e; subst e; simp at hd
        have hil : i ≠ l := by intro e; subst e; simp at hd
        have hjl : j ≠ l := by intro e; subst e; simp at hd
        match vs, h7, PAx, hl, hs0 with
        | [a, b, cc], _, PAx, hl, hs0 =>
          refine PS.imp (ps_par3 I.calm I.nd hi hj hl' hij hil hjl (local_ok h3) (local_ok h4) (local_ok h4') PAx (sw_three hk (mList_star hl) hs0) rfl) ?_
          rintro D σ H ⟨w, F, ρ, μ, s, en, h⟩
          refine ⟨w, F, ρ, μ, s, en, (Post.bind (Rel := RepVs C.K) h).mono ?_⟩
          rintro us H1 ⟨w1, ds, μ1, l1, s1, r1, h1⟩
          obtain ⟨fl, e1, h2⟩ := h1.lift
          obtain ⟨ρ', e2, rfl⟩ := Option.map_eq_some_iff.mp e1
          obtain ⟨da, db, dc, rfl, rfl⟩ := setEs_three e2
          obtain ⟨va, t, rfl, ra, r2⟩ := r1
          obtain ⟨vb, t, rfl, rb, r3⟩ := r2
          obtain ⟨vc, t, rfl, rc, r4⟩ := r3
          have r4 : t = [] := r4
          subst r4
          exact ⟨va, vb, vc, rfl, h2.ok (b := .nx (((σ.set i (some va)).set j (some vb)).set l (some vc))) s1 ((((en.mono l1).set ra).set rb).set rc)⟩
      | [], hn => simp [mNames] at hn
      | [_], hn => simp [mNames] at hn
      | [_, _], hn => simp [mNames] at hn
      | _ :: _ :: _ :: _ :: _, hn => simp [mNames] at hn
    · cases hs
  · obtain ⟨n1, n2⟩ := names_each (env := X.env) hn
    have hz := Nat.le_of_ble_eq_true hz
    refine PS.imp (ps_asg (pe_tup PAx) (pg_tup I.calm (pgs_imp (ok := okAll) I.toCxI (fun x _ => .inl (I.fn x)) is es hn) n1 n2) (show swapsWith (.Tuple vs k2 p2) (some (.Tuple es kk tp)) pos.line X.env = pure false from rfl) (hs.elim (fun z => sw_none z X.env) fun z => sw_cell z) rfl) ?_
    rintro D σ H ⟨w, F, ρ, μ, s, en, h⟩
    refine ⟨w, F, ρ, μ, s, en, (Post.bind (Rel := RepVs C.K) h).mono ?_⟩
    rintro us H1 ⟨w1, ds, μ1, l1, s1, r1, h1⟩
    obtain ⟨fl, e1, h2⟩ := h1.lift
    obtain ⟨ρ', e2, rfl⟩ := Option.map_eq_some_iff.mp e1
    have hlen : us.length = is.length := by rw [← repVs_len r1, setEs_len e2]
    refine ⟨by rw [hlen, sizeLine_eq]; omega, fun q hq => ?_⟩
    have gp := (s1.ne_of_none hq).1
    have lw : Wd.le w1 ⟨setG w1.G q (.tup us), w1.φ⟩ := Wd.le_setG gp
    refine ⟨q, us, rfl, I.K ▸ SqT.of upd_same, hlen, ⟨setG w1.G q (.tup us), w1.φ⟩, F, μ1, ρ, ds, ρ', s1.newG hq, (en.mono l1).mono lw, RepVs.mono lw r1, e2, fun σ' en' _ => ?_⟩
    exact h2 _ (.nx σ') _ lw (s1.newG hq) en'

theorem sndS_step {n : Nat} (SS : ∀ m, m ≤ n → SndS C k c (lev c m)) (B : Bnd C) (I : CxF C k X) : ∀ (j : Nat) (l : List EV.St) (q : List Stmt), mSs C.n X.N X.env.scope j l q = true → PSs X q (tS C X (stepS (lev c n) l)) := by
  intro j l q h
  have S0 := SS n (Nat.le_refl n)
  cases j with
  | zero => simp [mSs] at h
  | succ j =>
    cases l with
    | nil =>
      cases q with
      | nil =>
        refine PSs.imp pss_nil ?_
        rintro D σ H ⟨w, F, ρ, μ, s, en, h⟩
        exact Post.ok (b := .nx σ) h s en
      | cons _ _ => simp [mSs] at h
    | cons st r =>
      cases q with
      | nil => simp [mSs] at h
      | cons s q =>
        unfold mSs at h
        dsimp only at h
        simp only [Bool.and_eq_true] at h
        obtain ⟨h1, h2⟩ := h
        have hr := S0.s X I j r q h2
        have one : PS X s (tS C X (sOne (lev c n) st)) := by
          have hE := fun a e h => S0.e X I.toCxI 1000 a e h
          have hT := fun a e h => (S0.t X I.toCxI 1000 a e h).1
          have hS := fun l q h => S0.s X I j l q h
          split at h1
          · simp only [Bool.and_eq_true] at h1
            exact asg_imp S0.toSnd I h1.1.1 h1.1.2 h1.2
          · simp only [Bool.and_eq_true] at h1
            exact asgN_imp S0.toSnd I h1.1.1.1 h1.1.1.2 h1.1.2 h1.2
          · simp only [Bool.and_eq_true, Bool.not_eq_true'] at h1
            exact setIx_imp I h1.1.1.1.1 (hE _ _ h1.1.1.2) (hE _ _ h1.1.2) (hE _ _ h1.2)
          · simp only [Bool.and_eq_true, Bool.not_eq_true'] at h1
            exact setK_imp I (hE _ _ h1.1.1.2) (hE _ _ h1.1.2) (hE _ _ h1.2)
          · simp only [Bool.and_eq_true, Bool.not_eq_true'] at h1
            exact unp_imp I h1.1.1.1 h1.1.1.2 h1.1.2 (hE _ _ h1.2)
          · simp only [Bool.and_eq_true] at h1
            exact par_imp (m := mE C.n X.N 1000 X.env.scope) I hE h1.1.1.1.1 h1.1.1.1.2 h1.1.1.2 h1.1.2 h1.2 I.kd
          · simp only [Bool.and_eq_true] at h1
            exact aug_imp I h1.1.1.1 h1.1.1.2 h1.1.2 (hE _ _ h1.2)
          · simp only [Bool.and_eq_true, Bool.not_eq_true'] at h1
            exact expr_imp h1.1 (hE _ _ h1.2)
          · exact ret_imp (hE _ _ h1)
          · simp only [Bool.and_eq_true] at h1
            exact ifS_imp (hT _ _ h1.1.1) (hS _ _ h1.1.2) (hS _ _ h1.2)
          · simp only [Bool.and_eq_true] at h1
            obtain ⟨hi, hset⟩ := it_imp (k := k) B I.toCxI rfl hE h1.1.2
            exact for_imp I hi hset (pg_imp (ok := okAll) I.toCxI (fun x _ => .inl (I.fn x)) h1.1.1) (hS _ _ h1.2)
          · simp only [Bool.and_eq_true] at h1
            obtain ⟨hi, hset⟩ := it_imp (k := k) B I.toCxI rfl hE h1.1.2
            exact forG_imp I hi hset (pg_imp (ok := okAll) I.toCxI (fun x _ => .inl (I.fn x)) h1.1.1) (hS _ _ h1.2)
          · simp only [Bool.and_eq_true] at h1
            exact while_imp I (fun m hm => ((SS m (Nat.le_of_lt hm)).t X I.toCxI 1000 _ _ h1.1).1) (fun m hm => (SS m (Nat.le_of_lt hm)).s X I j _ _ h1.2)
          · refine PS.imp ps_never ?_
            rintro D σ H ⟨w, F, ρ, μ, s, en, h⟩
            exact h
          · cases h1
        refine PSs.imp (pss_cons one hr) ?_
        rintro D σ H ⟨w, F, ρ, μ, s, en, h⟩
        refine ⟨w, F, ρ, μ, s, en, (Post.bind (Rel := RelF C) h).mono ?_⟩
        rintro b H1 ⟨w1, fl, μ1, l1, s1, r1, h1⟩
        cases fl with
        | nx ρ1 =>
          cases b with
          | nx σ1 => exact ⟨w1, F, ρ1, μ1, s1, r1, h1⟩
          | ret _ => exact False.elim r1
        | ret d =>
          cases b with
          | nx _ => exact False.elim r1
          | ret v => exact Post.ok (b := .ret v) h1 s1 r1
end
end EV

/-! EV, part 18: every level; the defs. -/
namespace EV
open PySem PySem.Spec PyProof.Rows L2

section
variable {C : Cfg} {k : Nat} {c : Nat → List D → Store → R D}
theorem snd_lev (B : Bnd C) (DO : DefsOk C) (G : ∀ g d, C.df[g]? = some d → GnOk C k c g d) : ∀ n m, m ≤ n → SndS C k c (lev c m)
  | 0, m, hm => by
    have : m = 0 := by omega
    subst this
    refine ⟨⟨?_, ?_, ?_, ?_, rfl⟩, ?_⟩
    · exact fun X I j a x h => ⟨fun pins s σ H Q J q => by obtain ⟨w, F, ρ, μ, S, en, q⟩ := q; exact False.elim q⟩
    · exact fun X I j a x h => ⟨PT.stuck fun _ _ => rfl, fun _ _ _ _ => PW.stuck fun _ _ => rfl⟩
    · exact fun X I j a x h i y py spos hy hl => ⟨fun pins s σ H D J q => by
        have q : tE C X ((lev c 0).e a) σ H _ := q
        obtain ⟨w, F, ρ, μ, S, en, q⟩ := q; exact False.elim q⟩
    · exact fun X I j a x h hn => ⟨⟨fun pins s σ H Q J q => by obtain ⟨w, F, ρ, μ, S, en, q⟩ := q; exact False.elim q⟩, fun i y py spos hy hl => ⟨fun pins s σ H D J q => by
        have q : tNew C X ((lev c 0).e a) σ H _ := q
        obtain ⟨w, F, ρ, μ, S, en, q⟩ := q; exact False.elim q⟩⟩
    · exact fun X I j l q h => ⟨fun pins s σ H D J q => by obtain ⟨w, F, ρ, μ, S, en, q⟩ := q; exact False.elim q⟩
  | n + 1, m, hm => by
    have ih := snd_lev B DO G n
    by_cases e : m ≤ n
    · exact ih m e
    · have : m = n + 1 := by omega
      subst this
      have S0 := (ih n (Nat.le_refl n)).toSnd
      exact ⟨⟨fun X I => sndE_step S0 B DO G I, fun X I => sndT_step S0 B DO G I, fun X I => sndL_step S0 B I, fun X I => sndN_step S0 B I, rfl⟩, fun X I => sndS_step ih B I⟩

/-! ### behind a call -/
/-- the caller's things, as they stand -/
def besides (w : Wd) (F : Gm) (H : Hp) : Gm := fun a => if a ∈ w.φ then H a else F a
theorem SR.inside {w : Wd} {F : Gm} {μ : Store} {H : Hp} (s : SR C.kp w F μ H) : SR C.kp ⟨w.G, []⟩ (besides w F H) [] H := by
  refine ⟨s.g, fun a u e => ?_, fun a u e => ?_, rfl, List.nodup_nil, fun a ha => (by cases ha), fun i o a e1 _ => by simp at e1⟩
  · unfold besides at e
    split at e
    · exact e
    · exact s.f a u e
  · unfold besides at e
    split at e
    · rename_i h; exact (s.ap a h).1
    · exact s.gf a u e
theorem SR.there {w : Wd} {F : Gm} {μ : Store} {H : Hp} (s : SR C.kp w F μ H) {a : Addr} (h : a ∈ w.φ) : ∃ u, besides w F H a = some u ∧ H a = some u := by
  obtain ⟨i, hi, e⟩ := List.mem_iff_getElem.mp h
  have hi' : i < μ.length := by rw [← s.len]; exact hi
  have r := (s.ob i (μ[i]) a (by simp [hi']) (by simp [hi, e])).some
  cases q : H a with
  | none => exact absurd q r
  | some u => exact ⟨u, by unfold besides; rw [if_pos h]; exact q, rfl⟩
theorem besides_out {w : Wd} {F : Gm} {H : Hp} {a : Addr} (h : a ∉ w.φ) : besides w F H a = F a := by unfold besides; rw [if_neg h]
/-- the callee's own things are forgotten -/
theorem SR.outside {w w1 : Wd} {F : Gm} {μ μ1 : Store} {H H1 : Hp} (s : SR C.kp w F μ H) (l : Wd.le ⟨w.G, []⟩ w1) (s1 : SR C.kp w1 (besides w F H) μ1 H1) : SR C.kp ⟨w1.G, w.φ⟩ F μ H1 ∧ Wd.le w ⟨w1.G, w.φ⟩ := by
  have gl : GLe w.G w1.G := l.1
  refine ⟨⟨s1.g, fun a u e => ?_, fun a u e => ?_, s.len, s.nd, fun a ha => ?_, fun i o a e1 e2 => ?_⟩, gl, [], by simp⟩
  · by_cases h : a ∈ w.φ
    · rw [(s.ap a h).2] at e; cases e
    · exact s1.f a u (by rw [besides_out h]; exact e)
  · by_cases h : a ∈ w.φ
    · rw [(s.ap a h).2] at e; cases e
    · exact s1.gf a u (by rw [besides_out h]; exact e)
  · obtain ⟨u, e1, e2⟩ := s.there ha
    exact ⟨s1.gf a u e1, (s.ap a ha).2⟩
  · have ha : a ∈ w.φ := List.mem_of_getElem? e2
    obtain ⟨u, e3, e4⟩ := s.there ha
    have r := s.ob i o a e1 e2
    rw [e4] at r
    rw [s1.f a u e3]
    exact r.mono gl
/-- a thing of the callee's that comes back is no thing of the caller's -/
theorem SR.apart {w w1 : Wd} {F : Gm} {μ μ1 : Store} {H H1 : Hp} (s : SR C.kp w F μ H) (s1 : SR C.kp w1 (besides w F H) μ1 H1) {a : Addr} (h : a ∈ w1.φ) : w1.G a = none ∧ F a = none ∧ a ∉ w.φ := by
  obtain ⟨h1, h2⟩ := s1.ap a h
  have h3 : a ∉ w.φ := fun z => by
    obtain ⟨u, e, _⟩ := s.there z
    rw [e] at h2; cases h2
  rw [besides_out h3] at h2
  exact ⟨h1, h2, h3⟩
theorem upd_eq {H : Hp} {p : Addr} {u : HO} (h : H p = some u) : upd H p u = H := by
  funext b
  unfold upd
  split
  · rename_i z; rw [z, h]
  · rfl
/-- what is read alone from now on, at a place that is nobody's -/
theorem SR.putG {w : Wd} {F : Gm} {μ : Store} {H : Hp} {p : Addr} {u : HO} (s : SR C.kp w F μ H) (h1 : w.G p = none) (h2 : F p = none) (h3 : p ∉ w.φ) (hp : H p = some u) : SR C.kp ⟨setG w.G p u, w.φ⟩ F μ H := by
  refine ⟨fun a v e => ?_, s.f, fun a v e => ?_, s.len, s.nd, fun a ha => ?_, fun i o a e1 e2 => ?_⟩
  · have e' : setG w.G p u a = some v := e
    by_cases h : a = p
    · subst h; rw [setG_same] at e'; rw [hp]; exact e'
    · rw [setG_ne h] at e'; exact s.g a v e'
  · have h : a ≠ p := by rintro rfl; rw [h2] at e; cases e
    show setG w.G p u a = none
    rw [setG_ne h]; exact s.gf a v e
  · have h : a ≠ p := by rintro rfl; exact h3 ha
    exact ⟨by show setG w.G p u a = none; rw [setG_ne h]; exact (s.ap a ha).1, (s.ap a ha).2⟩
  · refine (s.ob i o a e1 e2).mono fun x v e => ?_
    have hx : x ≠ p := by rintro rfl; rw [h1] at e; cases e
    show setG w.G p u x = some v
    rw [setG_ne hx]; exact e
theorem back_pure {w w1 : Wd} {F : Gm} {μ μ1 : Store} {H H1 : Hp} {d : D} {v : V} {Q : VK} {E : XK} (s : SR C.kp w F μ H) (l : Wd.le ⟨w.G, []⟩ w1) (s1 : SR C.kp w1 (besides w F H) μ1 H1) (r : RepV C.K w1 d v)
    (h : PostX C w F (RepV C.K) (backP μ d μ1) Q E) : Q v H1 := by
  obtain ⟨s2, l2⟩ := s.outside l s1
  cases d with
  | ref i =>
    obtain ⟨a, ha, rfl⟩ := r
    obtain ⟨g1, g2, g3⟩ := s.apart s1 (List.mem_of_getElem? ha)
    unfold backP at h
    simp only at h
    split at h
    · rename_i ls hl
      obtain ⟨b, hb, vs, h3, h4⟩ := s1.at hl
      rw [ha] at hb
      cases hb
      have lg : Wd.le ⟨w1.G, w.φ⟩ ⟨setG w1.G a (.lst vs), w.φ⟩ := Wd.le_setG (w := ⟨w1.G, w.φ⟩) g1
      refine h _ (.ref a) H1 (Wd.le_trans l2 lg) (s2.putG g1 g2 g3 h3) ?_
      simp only [RepV, RepP]
      exact ⟨a, vs, rfl, setG_same, RepPs.mono lg.1 _ _ h4⟩
    · rename_i kvs hl
      obtain ⟨b, hb, ks, h3, h4⟩ := s1.at hl
      rw [ha] at hb
      cases hb
      have s3 := s2.putO (o := .dct kvs) (u := .dK ks) g1 g2 g3 ⟨ks, rfl, h4⟩
      rw [upd_eq h3] at s3
      refine h _ (.ref a) H1 (Wd.le_trans l2 Wd.le_newO) s3 ⟨a, ?_, rfl⟩
      show (w.φ ++ [a])[μ.length]? = some a
      rw [← s.len]; simp
    · rename_i kvs hl
      obtain ⟨b, hb, ks, h3, h4⟩ := s1.at hl
      rw [ha] at hb
      cases hb
      have s3 := s2.putO (o := .dcT kvs) (u := dTo C.P C.w a ks) g1 g2 g3 ⟨ks, rfl, h4⟩
      rw [upd_eq h3] at s3
      refine h _ (.ref a) H1 (Wd.le_trans l2 Wd.le_newO) s3 ⟨a, ?_, rfl⟩
      show (w.φ ++ [a])[μ.length]? = some a
      rw [← s.len]; simp
    · rename_i kvs hl
      obtain ⟨b, hb, h3⟩ := s1.at hl
      exact False.elim h3
    · exact False.elim h
  | _ => exact h ⟨w1.G, w.φ⟩ v H1 l2 s2 r
theorem back_ref {w w1 : Wd} {F : Gm} {μ μ1 : Store} {H H1 : Hp} {d : D} {v : V} {Q : VK} {E : XK} (s : SR C.kp w F μ H) (l : Wd.le w w1) (s1 : SR C.kp w1 F μ1 H1) (r : RepV C.K w1 d v)
    (h : PostX C w F (RepV C.K) (backR μ.length d μ1) Q E) : Q v H1 := by
  obtain ⟨gl, t, et⟩ := l
  have hl : μ.length ≤ μ1.length := by rw [← s.len, ← s1.len, et, List.length_append]; omega
  have s2 : SR C.kp ⟨w1.G, w.φ⟩ F (μ1.take μ.length) H1 := by
    refine ⟨s1.g, s1.f, s1.gf, by rw [List.length_take, s.len]; omega, s.nd, fun a ha => ?_, fun i o a e1 e2 => ?_⟩
    · exact s1.ap a (by rw [et]; exact List.mem_append_left _ ha)
    · have hi : i < w.φ.length := (List.getElem?_eq_some_iff.mp e2).1
      have e3 : w1.φ[i]? = some a := by rw [et, List.getElem?_append_left hi]; exact e2
      rw [List.getElem?_take_of_lt (by rw [← s.len]; exact hi)] at e1
      exact s1.ob i o a e1 e3
  have l2 : Wd.le w ⟨w1.G, w.φ⟩ := ⟨gl, [], by simp⟩
  cases d with
  | ref i =>
    unfold backR at h
    simp only at h
    split at h
    · rename_i hi
      have hi : i < μ.length := Nat.le_of_ble_eq_true hi
      obtain ⟨a, ha, rfl⟩ := r
      refine h _ (.ref a) H1 l2 s2 ⟨a, ?_, rfl⟩
      rw [et, List.getElem?_append_left (by rw [s.len]; exact hi)] at ha
      exact ha
    · exact False.elim h
  | _ => exact h _ v H1 l2 s2 r
theorem frame_rel {w : Wd} {N : List Str} {ns : Nat} {ds : List D} {vs : List V} (hn : ns = N.length) (r : RepVs C.K w ds vs) : EnvR C.K w (frameE ns ds) (L2.start N vs) := by
  have hl := repVs_len r
  subst hn
  unfold frameE L2.start
  refine ⟨by simp [hl], fun i d h => ?_⟩
  by_cases hi : i < ds.length
  · rw [List.getElem?_append_left (by simpa using hi), List.getElem?_map] at h
    have get : ∀ {ds : List D} {vs : List V} {i : Nat}, RepVs C.K w ds vs → ds[i]? = some d → ∃ v, vs[i]? = some v ∧ RepV C.K w d v := by
      intro ds
      induction ds with
      | nil => intro vs i _ h; simp at h
      | cons a ds ih =>
        intro vs i r h
        obtain ⟨v, t, rfl, p, q⟩ := r
        cases i with
        | zero => simp at h; subst h; exact ⟨v, by simp, p⟩
        | succ i => simp only [List.getElem?_cons_succ] at h ⊢; exact ih q h
    have h' : ds[i]? = some d := by
      cases e : ds[i]? with
      | none => rw [e] at h; cases h
      | some x => rw [e] at h; cases h; rfl
    obtain ⟨v, e1, e2⟩ := get r h'
    refine ⟨v, ?_, e2⟩
    rw [List.getElem?_append_left (by simp; omega), List.getElem?_map, e1]
    rfl
  · rw [List.getElem?_append_right (by simpa using hi), List.getElem?_replicate] at h
    split at h <;> cases h
end
end EV

/-! EV, part 19: the rule of a def. -/
namespace EV
open PySem PySem.Spec PyProof.Rows L2

section
variable {C : Cfg} {k : Nat}
/-- THE RULE for a def's promise, guards among it (the kit's fn_of with one word more) -/
theorem gn_of {c : Nat → List D → Store → R D} {g : Nat} {d : DefI} {name qual : Str} {params : Arguments} {body : List Stmt} {scope : Scope} {dV kV doc pm cdv ct oc : Value} {an od : Option Addr} {osl : Array (Option Value)} {N : List Str}
    (hfd : d.fd = PySem.W.fnOf name qual params body scope dV kV doc pm an cdv ct) (lk : C.K.lookup d.addr = some ⟨oc, od, .func d.fd, osl⟩) (hcd : PySem.W.codeIn C.K cdv qual = true) (S : FnScope N d.ps scope)
    (hbody : ∀ (A : Around) (outer : List PySem.Env) (s : Shared) (H : Hp) (vs : List V) (Q : VK) (E : XK) (w : Wd) (F : Gm) (ds : List D) (μ : Store), Room k (A.deeper (envOfC qual scope s.heap.objs.size d.addr cdv)) → A.guards = some [] → SR C.kp w F μ H → RepVs C.K w ds vs → PostX C w F (RepV C.K) (c g ds μ) Q E →
      ∃ t, PSs (cxOf (L2.CX C.P C.w) C.P C.w C.K C.mg C.base N qual scope d.addr cdv A outer s H E) body t ∧ t { nx := fun _ H' => Q .non H', rt := Q } (L2.start N vs) H) : GnOk C (k + 1) c g d := by
  refine ⟨fun A outer s H args us vs Q E w F ds μ hr hgd e0 hb r hl S0 rd hpx => ?_⟩
  rw [hfd] at lk hb
  have KX : C.K.In s.heap := e0.mod.kin.keeps fun b o e => (e0.bs b o e).1
  have lim : s.heap.NoLimit := e0.mod.nolimit.keeps fun b o e => (e0.bs b o e).1
  have hkind : ∀ y ∈ d.ps.zip us, scope.names.lookup y.1 = some .local ∨ (scope.names.lookup y.1 = some .cell ∧ ((cellsFrom (s.heap.objs.size + 1) scope.names []).lookup y.1).isSome = true) := fun ⟨n, v⟩ hy => by
    rcases S.par n (List.of_mem_zip hy).1 with q | q
    · exact .inl q
    · exact .inr ⟨q, PySem.W.cellsFrom_some _ _ _ (.inl q)⟩
  refine codeAny_call_function hr.depth (KX _ _ lk) rfl S.co S.gen rfl (PySem.W.codeRec_of KX hcd) (hb _ _ _ _ ?_)
  refine wpAny_newFunctionEnv_cells S.kind hkind fun env he s1 x => ?_
  subst he
  refine ⟨lim.keeps x.toInCall.keep, codeAny_func ?_⟩
  obtain ⟨t, ht, hq⟩ := hbody A outer s H vs Q E w F ds μ (hr.deeper _) hgd S0 rd hpx
  have I : Inv (cxOf (L2.CX C.P C.w) C.P C.w C.K C.mg C.base N qual scope d.addr cdv A outer s H E) [] (L2.start N vs) H s1 := inv_start S hr.hd e0 hl r x
  refine wpAny_mono (ht.run [] s1 (L2.start N vs) H _ I hq) (fun fl s' hs => ?_) fun e s' hs => hs
  have fin : ∀ {σ' : L2.St} {H' : Hp} {v : V} {u : Value}, Inv (cxOf (L2.CX C.P C.w) C.P C.w C.K C.mg C.base N qual scope d.addr cdv A outer s H E) [] σ' H' s' → RelV v u → Q v H' → CE outer C.P C.w H s Q u s' :=
    fun {σ' H' v u} J rv q => ⟨v, H', J.os, J.bare, J.base, J.hok, rv, q⟩
  cases fl with
  | ret u =>
    obtain ⟨v, σ', H', J, rv, q⟩ := hs
    exact fin J rv q
  | next =>
    obtain ⟨σ', H', J, q⟩ := hs
    exact fin (v := V.non) (u := Value.none) J rfl q
  | brk =>
    obtain ⟨_, _, _, q⟩ := hs
    exact False.elim q
  | cont =>
    obtain ⟨_, _, _, q⟩ := hs
    exact False.elim q

theorem repVs_pure {w : Wd} : ∀ {ds : List D} {vs : List V}, (∀ x ∈ ds, x.isRef = false) → RepVs C.K w ds vs → RepVs C.K ⟨w.G, []⟩ ds vs
  | [], _, _, h => h
  | a :: ds, vs, hp, h => by
    obtain ⟨v, t, e, p, q⟩ := h
    exact ⟨v, t, e, RepV.ofP (p.toP (hp a (List.mem_cons_self ..))), repVs_pure (fun x hx => hp x (List.mem_cons_of_mem _ hx)) q⟩
/-- what is known of one def -/
structure DefB (C : Cfg) (P : List Fn) (g : Nat) (d : DefI) : Prop where
  ex : ∃ (F : Fn) (N : List Str) (name qual : Str) (params : Arguments) (body : List Stmt) (scope : Scope) (dV kV doc pm cdv ct oc : Value) (an od : Option Addr) (osl : Array (Option Value)),
    nthD P g = some F ∧ d.fd = PySem.W.fnOf name qual params body scope dV kV doc pm an cdv ct ∧ C.K.lookup d.addr = some ⟨oc, od, .func d.fd, osl⟩ ∧ PySem.W.codeIn C.K cdv qual = true ∧ FnScope N d.ps scope ∧ F.ns = N.length ∧
      mSs C.n N scope 1000 F.body body = true
theorem gn_step {P : List Fn} (B : Bnd C) (DO : DefsOk C) (DB : ∀ g d, C.df[g]? = some d → DefB C P g d) (G : ∀ g d, C.df[g]? = some d → GnOk C k (callAt P k) g d) : ∀ g d, C.df[g]? = some d → GnOk C (k + 1) (callAt P (k + 1)) g d := by
  intro g d hd
  obtain ⟨Fx, N, name, qual, params, body, scope, dV, kV, doc, pm, cdv, ct, oc, an, od, osl, hF, hfd, lk, hcd, S, hns, hm⟩ := (DB g d hd).ex
  refine gn_of hfd lk hcd S ?_
  intro A outer s H vs Q E w F ds μ hr hgd S0 rd hpx
  have CXF : CxF C k (cxOf (L2.CX C.P C.w) C.P C.w C.K C.mg C.base N qual scope d.addr cdv A outer s H E) := ⟨⟨rfl, rfl, rfl, rfl, rfl, rfl, S.nd, hr, hgd⟩, fun _ => rfl, passes_of rfl, S.kind⟩
  have tk : Takes (cxOf (L2.CX C.P C.w) C.P C.w C.K C.mg C.base N qual scope d.addr cdv A outer s H E) (fun cls d _ H => E cls d H) := takes_of rfl rfl rfl rfl
  have SS := snd_lev B DO G fuel fuel (Nat.le_refl fuel)
  refine ⟨tS C _ ((lev (callAt P k) fuel).s Fx.body), SS.s _ CXF 1000 Fx.body body hm, ?_⟩
  have hpx : PostX C w F (RepV C.K) (callF (lev (callAt P k) fuel) Fx ds μ) Q E := by
    have e : callAt P (k + 1) g ds μ = callF (lev (callAt P k) fuel) Fx ds μ := by
      unfold callAt
      rw [hF]
    rw [← e]
    exact hpx
  unfold callF at hpx
  split at hpx
  · split at hpx
    · rename_i hp
      -- all values are no refs
      have rd0 : RepVs C.K ⟨w.G, []⟩ ds vs := repVs_pure (fun x hx => by have := List.all_eq_true.mp hp x hx; simpa using this) rd
      refine ⟨⟨w.G, []⟩, besides w F H, frameE Fx.ns ds, [], S0.inside, frame_rel hns rd0, ?_⟩
      unfold runF at hpx
      generalize (lev (callAt P k) fuel).s Fx.body (frameE Fx.ns ds) [] = r at hpx
      cases r with
      | ok fl μ1 =>
        intro w1 b H1 l1 s1 r1
        cases fl with
        | nx ρ1 =>
          cases b with
          | nx σ1 => exact back_pure (d := .non) S0 l1 s1 (by simp only [RepV, RepP]) hpx
          | ret _ => exact False.elim r1
        | ret dd =>
          cases b with
          | nx _ => exact False.elim r1
          | ret v => exact back_pure S0 l1 s1 r1 hpx
      | exc cc fs μ1 =>
        refine ⟨_, tk, fun w1 H1 cls dx σ1 l1 s1 rx => ?_⟩
        obtain ⟨s2, l2⟩ := S0.outside l1 s1
        refine hpx ⟨w1.G, w.φ⟩ H1 cls dx l2 s2 ?_
        obtain ⟨e, a, us, e1, e2, e3, e4, e5, e6⟩ := rx
        have h3 : a ∉ w.φ := fun z => by
          obtain ⟨u, e, _⟩ := S0.there z
          rw [e] at e5; cases e5
        rw [besides_out h3] at e5
        exact ⟨e, a, us, e1, e2, e3, e4, e5, h3⟩
      | stuck => exact False.elim hpx
    · refine ⟨w, F, frameE Fx.ns ds, μ, S0, frame_rel hns rd, ?_⟩
      unfold runF at hpx
      generalize (lev (callAt P k) fuel).s Fx.body (frameE Fx.ns ds) μ = r at hpx
      cases r with
      | ok fl μ1 =>
        intro w1 b H1 l1 s1 r1
        cases fl with
        | nx ρ1 =>
          cases b with
          | nx σ1 => exact back_ref (d := .non) S0 l1 s1 (by simp only [RepV, RepP]) hpx
          | ret _ => exact False.elim r1
        | ret dd =>
          cases b with
          | nx _ => exact False.elim r1
          | ret v => exact back_ref S0 l1 s1 r1 hpx
      | exc cc fs μ1 =>
        refine ⟨_, tk, fun w1 H1 cls dx σ1 l1 s1 rx => ?_⟩
        obtain ⟨gl, t, et⟩ := l1
        have s2 : SR C.kp ⟨w1.G, w.φ⟩ F (μ1.take μ.length) H1 := by
          have hl : μ.length ≤ μ1.length := by rw [← S0.len, ← s1.len, et, List.length_append]; omega
          refine ⟨s1.g, s1.f, s1.gf, by rw [List.length_take, S0.len]; omega, S0.nd, fun a ha => ?_, fun i o a e1 e2 => ?_⟩
          · exact s1.ap a (by rw [et]; exact List.mem_append_left _ ha)
          · have hi : i < w.φ.length := (List.getElem?_eq_some_iff.mp e2).1
            have e3 : w1.φ[i]? = some a := by rw [et, List.getElem?_append_left hi]; exact e2
            rw [List.getElem?_take_of_lt (by rw [← S0.len]; exact hi)] at e1
            exact s1.ob i o a e1 e3
        refine hpx ⟨w1.G, w.φ⟩ H1 cls dx ⟨gl, [], by simp⟩ s2 ?_
        obtain ⟨e, a, us, e1, e2, e3, e4, e5, e6⟩ := rx
        exact ⟨e, a, us, e1, e2, e3, e4, e5, fun z => e6 (by rw [et]; exact List.mem_append_left _ z)⟩
      | stuck => exact False.elim hpx
  · exact False.elim hpx
theorem gn_all {P : List Fn} (B : Bnd C) (DO : DefsOk C) (DB : ∀ g d, C.df[g]? = some d → DefB C P g d) : ∀ k g d, C.df[g]? = some d → GnOk C k (callAt P k) g d
  | 0, g, d, hd => ⟨fun A outer s H args us vs Q E w F ds μ hr hgd e0 hb r hl S0 rd hpx => by
      unfold callAt at hpx
      exact False.elim hpx⟩
  | k + 1, g, d, hd => gn_step B DO DB (gn_all B DO DB k) g d hd
end
end EV

/-! EV, part 20: the law's end. -/
namespace EV
open PySem PySem.Spec PyProof.Rows L2

/-- one def of the text, its names, its parameters, its form in the small language -/
structure TD where
  D : He.DefD
  N : List Str
  ps : List Str
  F : Fn
structure TD.ok (nm : Nm) (t : TD) : Prop where
  glob : t.D.at_.2 = none
  sc : FnScope t.N t.ps t.D.scope
  ns : t.F.ns = t.N.length
  ms : mSs nm t.N t.D.scope 1000 t.F.body t.D.body = true
def conFa (p : Str × D) : He.Fa :=
  match p.2 with
  | .int i => .int p.1 i
  | .str z => .str p.1 z
  | _ => .keep p.1
def conOk (p : Str × D) : Bool :=
  match p.2 with
  | .int _ => true
  | .str _ => true
  | _ => false
def faOf (nm : Nm) (tds : List TD) : List He.Fa := tds.map (fun t => .glo t.D.at_.1) ++ (nm.free.map .free ++ nm.cons.map conFa)
def fnOf' (tds : List TD) : List He.DefD := tds.map (·.D)
/-- what a def's function object is, by its text -/
def FunT (K : PySem.W.Frag) (t : TD) (f : Addr) (fd : FuncData) : Prop := FunD K t.D.name t.D.qual t.D.params t.D.body t.D.scope (t.D.dvs K) (t.D.kws K) f fd

theorem defs_exist {K : PySem.W.Frag} : ∀ (tds : List TD), (∀ (i : Nat) (t : TD), tds[i]? = some t → ∃ fd, FunT K t (He.fAd K t.D.at_) fd) → ∃ df : List DefI, df.length = tds.length ∧ ∀ (i : Nat) (t : TD) (d : DefI), tds[i]? = some t → df[i]? = some d → d.addr = He.fAd K t.D.at_ ∧ d.ps = t.ps ∧ FunT K t d.addr d.fd
  | [], _ => ⟨[], rfl, fun i t d h => by simp at h⟩
  | t :: tds, h => by
    obtain ⟨fd, hfd⟩ := h 0 t rfl
    obtain ⟨df, hl, hd⟩ := defs_exist tds fun i t' e => h (i + 1) t' (by simpa using e)
    refine ⟨⟨He.fAd K t.D.at_, fd, t.ps⟩ :: df, by simp [hl], fun i t' d e1 e2 => ?_⟩
    cases i with
    | zero => simp at e1 e2; subst e1; subst e2; exact ⟨rfl, rfl, hfd⟩
    | succ i => exact hd i t' d (by simpa using e1) (by simpa using e2)
theorem memStr_mem {x : Str} : ∀ {l : List Str}, memStr x l = true → x ∈ l
  | [], h => by simp [memStr] at h
  | y :: l, h => by
    simp only [memStr, Bool.or_eq_true] at h
    rcases h with h | h
    · rw [eqStr_iff.mp h]; exact List.mem_cons_self ..
    · exact List.mem_cons_of_mem _ (memStr_mem h)

/-- how a call's form is bound: of a def by its text -/
def ShapeT (t : TD) (n : Nat) (ks : List Str) (sel : List (Nat ⊕ D)) : Prop := ∀ (C : Cfg) (d : DefI), d.ps = t.ps → FunT C.K t d.addr d.fd → Shape C d n ks sel
def ShapesOk (nm : Nm) (tds : List TD) : Prop := ∀ p ∈ nm.shapes, ∀ t, tds[p.1]? = some t → ShapeT t p.2.1 p.2.2.1 p.2.2.2

theorem saysF {fa : List He.Fa} {fn : List He.DefD} {K : PySem.W.Frag} (c : He.SaysD fa fn K) {f : He.Fa} (h : f ∈ fa) : f.ok K = true := by
  obtain ⟨i, e⟩ := List.mem_iff_getElem?.mp h
  exact c.fact i e
/-- the law's def, called -/
theorem law_run {Pr : Program} {w : World} {K : PySem.W.Frag} {mg : Str → Option Value} {base : Heap} {nm : Nm} {tds : List TD} {P : List Fn} {k L : Nat} {tL : TD} {x : Str} {ns : List Int} {a fa : Addr} {s : Shared} {H : Hp}
    (hnm : nm.defs = tds.map (fun t => t.D.at_.1)) (hP : P = tds.map (·.F)) (hok : ∀ t ∈ tds, t.ok nm) (hsh : ShapesOk nm tds) (hcon : nm.cons.all conOk = true) (hL : tds[L]? = some tL) (hps : tL.ps = [x]) (hr : Room k callerA)
    (c : He.SaysD (faOf nm tds) (fnOf' tds) K) (KX : K.In base) (G : base.Ns mainGlobals mg) (hfa : fa = He.fAd K tL.D.at_) (e0 : Env0 Pr w K mg base callerA [] s H) (hO : Only H) (hS : SqL K H a (ns.map V.int))
    (hb : ∀ fd, FunT K tL fa fd → ∀ (s : Shared) (u : Value), BindsTo s fd ⟨[u], []⟩ [(x, u)]) (ht : (callAt P k L [.scr ns] []).isTrue = true) :
    codeAny (model Pr w) callerA (.call (.ref fa) ⟨[.ref a], []⟩) (CR (L2.CX Pr w) [] Pr w H s (fun v _ => v = .bl true) fun _ _ _ => False) s := by
  have fd_ex : ∀ (i : Nat) (t : TD), tds[i]? = some t → ∃ fd, FunT K t (He.fAd K t.D.at_) fd := fun i t e => c.def_ i (d := t.D) (by unfold fnOf'; rw [List.getElem?_map, e]; rfl)
  obtain ⟨df, hl, hd⟩ := defs_exist tds fd_ex
  generalize hC : (⟨Pr, w, K, mg, base, nm, df, fun _ => 0, fun _ => []⟩ : Cfg) = C
  have eP : C.P = Pr := by rw [← hC]
  have ew : C.w = w := by rw [← hC]
  have eK : C.K = K := by rw [← hC]
  have emg : C.mg = mg := by rw [← hC]
  have eb : C.base = base := by rw [← hC]
  have en : C.n = nm := by rw [← hC]
  have edf : C.df = df := by rw [← hC]
  have B : Bnd C := by
    refine ⟨fun b hb => ?_, fun y d hy => ?_⟩
    · rw [en] at hb
      rw [emg]
      exact He.free_ok KX G (saysF c (by unfold faOf; exact List.mem_append_right _ (List.mem_append_left _ (List.mem_map.mpr ⟨b, memStr_mem hb, rfl⟩))))
    · rw [en] at hy
      obtain ⟨p, hp, e⟩ := List.any_eq_true.mp hy
      simp only [Bool.and_eq_true] at e
      have e1 := eqStr_iff.mp e.1
      have e2 := same_eq _ _ e.2
      subst e1 e2
      have f := saysF c (f := conFa p) (by unfold faOf; exact List.mem_append_right _ (List.mem_append_right _ (List.mem_map.mpr ⟨p, hp, rfl⟩)))
      have q := List.all_eq_true.mp hcon p hp
      rw [emg]
      obtain ⟨px, pd⟩ := p
      cases pd <;> first | (simp [conOk] at q; done) | skip
      · obtain ⟨t, e⟩ := He.int_ok KX G f
        exact ⟨_, .int _, e, ⟨t, rfl⟩, fun _ => by simp only [RepP]⟩
      · obtain ⟨t, e⟩ := He.str_ok KX G f
        exact ⟨_, .str _, e, ⟨t, rfl⟩, fun _ => by simp only [RepP]⟩
  have at_ : ∀ (g : Nat) (t : TD), tds[g]? = some t → ∃ d, df[g]? = some d := fun g t e => by
    have hg := (List.getElem?_eq_some_iff.mp e).1
    exact ⟨df[g]'(by rw [hl]; exact hg), by simp [hl, hg]⟩
  have ht_ : ∀ (g : Nat) (d : DefI), df[g]? = some d → ∃ t, tds[g]? = some t := fun g d e => by
    have hg := (List.getElem?_eq_some_iff.mp e).1
    exact ⟨tds[g]'(by rw [← hl]; exact hg), by simp [← hl, hg]⟩
  have DO : DefsOk C := by
    refine ⟨fun g y hy => ?_, fun g n ks sel d hs hdd => ?_⟩
    · rw [en, hnm, List.getElem?_map] at hy
      obtain ⟨t, e, e2⟩ := Option.map_eq_some_iff.mp hy
      obtain ⟨d, e3⟩ := at_ g t e
      obtain ⟨a1, a2, a3⟩ := hd g t d e e3
      have hm := List.mem_of_getElem? e
      have gl := He.glo_ok KX G (x := t.D.at_.1) (saysF c (by unfold faOf; exact List.mem_append_left _ (List.mem_map.mpr ⟨t, hm, rfl⟩)))
      have ea : d.addr = He.ga K t.D.at_.1 := by
        rw [a1]
        unfold He.fAd
        rw [(hok t hm).glob]
      refine ⟨d, by rw [edf]; exact e3, by rw [emg, ← e2, ea]; exact gl, ?_⟩
      rw [eK]
      exact a3.kp
    · rw [en] at hs
      rw [edf] at hdd
      obtain ⟨p, hp, e⟩ := List.any_eq_true.mp hs
      simp only [Bool.and_eq_true] at e
      obtain ⟨⟨⟨p1, p2⟩, p3⟩, p4⟩ := e
      have p1 := Nat.eq_of_beq_eq_true p1
      have p2 := Nat.eq_of_beq_eq_true p2
      have p3 := eqStrs_eq p3
      have p4 := sameSel_eq p4
      obtain ⟨t, et⟩ := ht_ g d hdd
      obtain ⟨a1, a2, a3⟩ := hd g t d et hdd
      have z := hsh p hp t (by rw [p1]; exact et) C d a2 (by rw [eK]; exact a3)
      rw [p2, p3, p4] at z
      exact z
  have DB : ∀ g d, C.df[g]? = some d → DefB C P g d := by
    intro g d e
    rw [edf] at e
    obtain ⟨t, et⟩ := ht_ g d e
    obtain ⟨a1, a2, a3⟩ := hd g t d et e
    have hm := List.mem_of_getElem? et
    obtain ⟨oc, od, dV, kV, doc, pm, an, cdv, ct, osl, hfd, lk, hcd, _, _⟩ := a3.ex
    refine ⟨t.F, t.N, t.D.name, t.D.qual, t.D.params, t.D.body, t.D.scope, dV, kV, doc, pm, cdv, ct, oc, an, od, osl, ?_, hfd, by rw [eK]; exact lk, by rw [eK]; exact hcd, by rw [a2]; exact (hok t hm).sc, (hok t hm).ns, by rw [en]; exact (hok t hm).ms⟩
    rw [nthD_get, hP, List.getElem?_map, et]
    rfl
  obtain ⟨d, ed⟩ := at_ L tL hL
  obtain ⟨a1, a2, a3⟩ := hd L tL d hL ed
  have GN := gn_all B DO DB k L d (by rw [edf]; exact ed)
  have ea : d.addr = fa := by rw [a1, hfa]
  rw [ea] at a3
  have bnd := hb d.fd a3 s (.ref a)
  -- the world: nothing but the script
  have W0 : ∃ wd : Wd, SR C.kp wd (fun _ => none) [] H ∧ RepV C.K wd (.scr ns) (.ref a) := by
    rcases hS with hS | hS
    · have hz : ∃ o, H a = some (.frz o (.lst (ns.map V.int))) := by
        rcases hS with e | e
        · rcases hO a with z | ⟨o, xs, z⟩
          · rw [z] at e; cases e
          · rw [z] at e; cases e
        · exact e
      obtain ⟨o, e⟩ := hz
      refine ⟨⟨fun b => if b = a then H a else none, []⟩, ⟨fun b u z => ?_, fun b u z => (by cases z), fun b u z => (by cases z), rfl, List.nodup_nil, fun b hb => (by cases hb), fun i o b z _ => (by simp at z)⟩, ?_⟩
      · by_cases h : b = a
        · subst h; simpa using z
        · simp [h] at z
      · simp only [RepV, RepP]
        exact ⟨a, rfl, .inl ⟨o, by simp [e]⟩⟩
    · refine ⟨⟨fun _ => none, []⟩, ⟨fun b u z => (by cases z), fun b u z => (by cases z), fun b u z => (by cases z), rfl, List.nodup_nil, fun b hb => (by cases hb), fun i o b z _ => (by simp at z)⟩, ?_⟩
      simp only [RepV, RepP]
      exact ⟨a, rfl, .inr (by rw [eK]; exact hS)⟩
  obtain ⟨wd, S0, r0⟩ := W0
  have run := GN.run callerA [] s H ⟨[.ref a], []⟩ [.ref a] [.ref a] (fun v _ => v = .bl true) (fun _ _ _ => False) wd (fun _ => none) [.scr ns] [] hr rfl (by rw [eP, ew, eK, emg, eb]; exact e0) (by rw [a2, hps]; exact bnd) (.cons rfl .nil) (by rw [a2, hps]; rfl) S0 ⟨_, [], rfl, r0, rfl⟩ ?_
  · rw [eP, ew, ea] at run
    exact run
  · generalize callAt P k L [.scr ns] [] = r at ht
    cases r with
    | ok dd μ =>
      cases dd <;> first | (simp [R.isTrue] at ht; done) | skip
      rename_i b
      cases b with
      | false => simp [R.isTrue] at ht
      | true =>
        intro w' v H' _ _ rv
        simpa only [RepV, RepP] using rv
    | exc _ _ _ => simp [R.isTrue] at ht
    | stuck => simp [R.isTrue] at ht

/-- the law's call behind the top: from what its def does over every ground -/
theorem law_ground {P : Program} {w : World} {K : PySem.W.Frag} {mg mb : Str → Option Value} {fa a : Addr} {s1 : Shared} {vs : List Value} {ns : List Int}
    (KX : K.In s1.heap) (hns : s1.heap.Ns mainGlobals mg) (hb : s1.heap.Ns builtinsNs mb) (hbb : ∀ x : Str, x ≠ "__name__" → mb x = bootBuiltins x) (hlim : s1.heap.NoLimit) (hg : s1.gens = #[])
    (ha : s1.heap.get? a = some { cls := .type "list", data := .seq vs.toArray }) (hi : IntsAre vs ns) (hl : ns.length ≤ sizeLine)
    (F : ∀ (base : Heap) (s : Shared) (H : Hp), K.In base → base.Ns mainGlobals mg → Env0 P w K mg base callerA [] s H → Only H → SqL K H a (ns.map V.int) →
      codeAny (model P w) callerA (.call (.ref fa) ⟨[.ref a], []⟩) (CR (L2.CX P w) [] P w H s (fun v _ => v = .bl true) fun _ _ _ => False) s) :
    codeAny (model P w) callerA (.call (.ref fa) ⟨[.ref a], []⟩) (fun r s' => r = .ok (.ret (.bool true)) ∧ OldK s1.heap s'.heap ∧ s'.os = s1.os ∧ AllBare s'.gens) s1 := by
  have rv := vals_ints hi
  have lenV := hi.length
  have from_ : ∀ H : Hp, Only H → SqL K H a (ns.map V.int) → HOk P w H s1.heap → (∀ b, H b ≠ none → b = a) → (H a ≠ none → K.lookup a = none) →
      codeAny (model P w) callerA (.call (.ref fa) ⟨[.ref a], []⟩) (fun r s' => r = .ok (.ret (.bool true)) ∧ OldK s1.heap s'.heap ∧ s'.os = s1.os ∧ AllBare s'.gens) s1 := by
    intro H hO hS hok hA hK
    have keepB : ∀ {b : Addr} {o : Obj}, s1.heap.get? b = some o → H b = none → (hidT s1.heap H).get? b = some o := fun e n => hidT_get e n
    have dictB : ∀ {b : Addr} {o : Obj} {es : Array DictEntry} {ep : Nat}, s1.heap.get? b = some o → o.data = .dict es ep → H b = none := by
      intro b o es ep e d
      cases q : H b with
      | none => rfl
      | some u =>
        have eb : b = a := hA b (by rw [q]; simp)
        subst eb
        rw [ha] at e
        cases e
        have d2 : Data.seq vs.toArray _ = Data.dict es ep := d
        cases d2
    have nsB : ∀ {b : Addr} {m : Str → Option Value}, s1.heap.Ns b m → (hidT s1.heap H).Ns b m := by
      rintro b m ⟨o, es, ep, e, d, r⟩
      exact ⟨o, es, ep, keepB e (dictB e d), d, r⟩
    have inB : K.In (hidT s1.heap H) := by
      intro b o e
      refine keepB (KX b o e) ?_
      cases q : H b with
      | none => rfl
      | some u =>
        have eb : b = a := hA b (by rw [q]; simp)
        subst eb
        rw [hK (by rw [q]; simp)] at e
        cases e
    have md : Mod K mg (hidT s1.heap H) := ⟨inB, nsB hns, ⟨mb, nsB hb, hbb⟩, let ⟨mc, h1, h2⟩ := hlim; ⟨mc, nsB h1, h2⟩⟩
    have en : Env0 P w K mg (hidT s1.heap H) callerA [] s1 H := ⟨rfl, md, fun b o e => of_hidT e, Nat.le_of_eq (hidT_size _ _), trivial, fun b hb => (by cases hb), hok, .of_eq hg⟩
    refine codeAny_mono (F _ s1 H inB (nsB hns) en hO hS) fun r s' h => ?_
    cases r with
    | error e =>
      obtain ⟨_, _, _, _, _, _, _, _, _, _, _, _, q⟩ := h
      exact False.elim q
    | ok fl =>
      cases fl <;> first | exact False.elim h | skip
      rename_i u
      obtain ⟨v, H', os, bare, un, hok', r', q⟩ := h
      have q : v = .bl true := q
      subst q
      obtain rfl : u = Value.bool true := r'
      refine ⟨rfl, OldK.of_keep fun b o e => ?_, os, bare⟩
      cases q : H b with
      | none => exact un.keep b o e q (fun z => by cases z) (by simp)
      | some u =>
        rcases hO b with z | ⟨ob, xs, z⟩
        · rw [q] at z; cases z
        · have z2 := un.frzs b ob _ z
          obtain ⟨e1, _⟩ := hok b _ z
          obtain ⟨e2, _⟩ := hok' b _ z2
          rw [e] at e1
          cases e1
          exact e2
  cases hk : K.lookup a with
  | some o =>
    have e := KX a o hk
    rw [ha] at e
    cases e
    refine from_ (fun _ => none) (fun _ => .inl rfl) (.inr ⟨_, vs.toArray, _, hk, rfl, rfl, rfl, by rw [List.size_toArray, lenV]; exact hl, by simpa using rv⟩) (fun b u z => by have z2 : (none : Option HO) = some u := z; cases z2) (fun b z => absurd rfl z) fun z => absurd rfl z
  | none =>
    refine from_ (fun b => if b = a then some (.frz { cls := .type "list", data := .seq vs.toArray } (.lst (ns.map V.int))) else none) (fun b => ?_) (.inl (.inr ⟨{ cls := .type "list", data := .seq vs.toArray }, if_pos rfl⟩)) (fun b u z => ?_) (fun b z => ?_) fun _ => hk
    · by_cases hb : b = a
      · exact .inr ⟨_, _, if_pos hb⟩
      · exact .inl (if_neg hb)
    · by_cases hb : b = a
      · have z2 := (if_pos hb).symm.trans z
        cases z2
        subst hb
        exact ⟨ha, by rw [List.length_map]; exact hl, vs, _, rv, ha⟩
      · have z2 := (if_neg hb).symm.trans z
        cases z2
    · by_cases hb : b = a
      · exact hb
      · exact absurd (if_neg hb) z
/-- a law, told by EV: the head's says is SaysD of the facts and the defs -/
theorem law_end {l : PySem.W.OpenLaw} {n k L : Nat} {q : Program} {loose : List Str} {XP : (Str → Option Value) → Heap → Prop} {d : DefRec} {x : Str} {nm : Nm} {tds : List TD} {P : List Fn} {tL : TD}
    (hn : l.most = some n) (hn2 : n ≤ sizeLine) (hdf : d.params.defaults = []) (hr : Room k callerA) (hnm : nm.defs = tds.map (fun t => t.D.at_.1)) (hP : P = tds.map (·.F)) (hok : ∀ t ∈ tds, t.ok nm) (hsh : ShapesOk nm tds) (hcon : nm.cons.all conOk = true)
    (hL : tds[L]? = some tL) (hps : tL.ps = [x]) (hname : d.name = tL.D.at_.1) (hb : ∀ K fa fd, FunT K tL fa fd → ∀ (s : Shared) (u : Value), BindsTo s fd ⟨[u], []⟩ [(x, u)])
    (ht : ∀ ns : List Int, ns.length ≤ n → (callAt P k L [.scr ns] []).isTrue = true) :
    PySem.W.WalkO q loose XP (fun _ h => ∃ K : PySem.W.Frag, K.In h ∧ He.SaysD (faOf nm tds) (fnOf' tds) K) l.row.toRowW d [] (fun f vs => PySem.call f vs) := by
  refine Att.attach_call hn hdf fun w s0 s1 mg mb fa o pm cd doc a vs ns G Y ho hd hcd hmg hobj hints hlen hg => ?_
  obtain ⟨K, KX, c⟩ := Y
  have hm := List.mem_of_getElem? hL
  have e : fa = He.fAd K tL.D.at_ := by
    have g := He.glo_ok KX G.T.g (x := tL.D.at_.1) (saysF c (by unfold faOf; exact List.mem_append_left _ (List.mem_map.mpr ⟨tL, hm, rfl⟩)))
    rw [← hname, hmg] at g
    cases g
    unfold He.fAd
    rw [(hok tL hm).glob, hname]
  exact law_ground KX G.T.g G.T.b G.T.builtins G.T.nolimit hg hobj hints (Nat.le_trans hlen hn2) fun base s H kb gb e0 hO hS =>
    law_run hnm hP hok hsh hcon hL hps hr c kb gb e e0 hO hS (hb K fa) (ht ns hlen)
end EV
namespace EV
open PySem PySem.Spec PyProof.Rows L2
theorem allNil {α : Type} {p : α → Prop} : ∀ t ∈ ([] : List α), p t := fun _ h => nomatch h
theorem allCons {α : Type} {p : α → Prop} {a : α} {l : List α} (h : p a) (k : ∀ t ∈ l, p t) : ∀ t ∈ a :: l, p t := fun t ht => (List.mem_cons.mp ht).elim (fun e => e ▸ h) (k t)
theorem len_cons {α : Type} {l : List α} {n : Nat} (h : l.length = n + 1) : ∃ a t, l = a :: t ∧ t.length = n := by
  cases l with
  | nil => simp at h
  | cons a t => exact ⟨a, t, rfl, by simpa using h⟩
theorem len_nil {α : Type} {l : List α} (h : l.length = 0) : l = [] := List.eq_nil_of_length_eq_zero h
theorem vals_inv {vs : List V} {u : Value} {us : List Value} (h : Vals vs (u :: us)) : ∃ v t, vs = v :: t ∧ RelV v u ∧ Vals t us := by
  cases h with
  | cons r q => exact ⟨_, _, rfl, r, q⟩
theorem vals_inv0 {vs : List V} (h : Vals vs []) : vs = [] := by cases h; rfl
theorem vals_inv2 {v : V} {vs : List V} {us : List Value} (h : Vals (v :: vs) us) : ∃ u t, us = u :: t ∧ RelV v u ∧ Vals vs t := by
  cases h with
  | cons r q => exact ⟨_, _, rfl, r, q⟩
theorem vals_inv02 {us : List Value} (h : Vals [] us) : us = [] := by cases h; rfl
theorem reps_inv {K : PySem.W.Frag} {w : Wd} {ds : List D} {v : V} {vs : List V} (h : RepVs K w ds (v :: vs)) : ∃ d t, ds = d :: t ∧ RepV K w d v ∧ RepVs K w t vs := by
  cases ds with
  | nil => have h : (v :: vs) = [] := h; cases h
  | cons d t =>
    obtain ⟨v', r, e, p, q⟩ := h
    cases e
    exact ⟨d, t, rfl, p, q⟩
theorem reps_inv0 {K : PySem.W.Frag} {w : Wd} {ds : List D} (h : RepVs K w ds []) : ds = [] := by
  cases ds with
  | nil => rfl
  | cons d t =>
    obtain ⟨v', r, e, p, q⟩ := h
    cases e
end EV

/-! EV: runs whose draws are given beside. -/
namespace EV
open PySem

/-- where a feed stands: its cells, the next one, what is left, how many draws there were -/
structure Fs where
  cs : List Int
  sp : Int
  re : Int
  tu : Int
/-- the feed and the draws of a law -/
structure Feed where
  fd : Fs → List (D × D)
  dr : Fs → Int → Int × Fs
def Good (Fe : Feed) : List (Int × Int) → Fs → Prop
  | [], _ => True
  | (b, r) :: ps, st => 0 < b ∧ b < 1073741824 ∧ (Fe.dr st b).1 = r ∧ Good Fe ps (Fe.dr st b).2
def notOpq : Ob → Bool
  | .opq _ => false
  | _ => true
def CR (Fe : Feed) (a c : Ob) : Prop := (a = c ∧ notOpq a = true) ∨ ∃ ps st, a = .opq ps ∧ c = .dct (Fe.fd st) ∧ Good Fe ps st
inductive SimS (Fe : Feed) : Store → Store → Prop
  | nil : SimS Fe [] []
  | cons {a c : Ob} {l m : Store} : CR Fe a c → SimS Fe l m → SimS Fe (a :: l) (c :: m)
section
variable {Fe : Feed} {μa μc : Store}
theorem SimS.len (h : SimS Fe μa μc) : μa.length = μc.length := by
  induction h with
  | nil => rfl
  | cons _ _ ih => simp [ih]
theorem SimS.at (h : SimS Fe μa μc) {i : Nat} {a : Ob} (e : nthD μa i = some a) : ∃ c, nthD μc i = some c ∧ CR Fe a c := by
  induction h generalizing i with
  | nil => simp [nthD] at e
  | @cons x y l m r _ ih =>
    cases i with
    | zero => simp only [nthD, Option.some.injEq] at e ⊢; subst e; exact ⟨y, rfl, r⟩
    | succ i => exact ih (by simpa [nthD] using e)
theorem SimS.none (h : SimS Fe μa μc) {i : Nat} (e : nthD μa i = .none) : nthD μc i = .none := by
  induction h generalizing i with
  | nil => rfl
  | cons r _ ih =>
    cases i with
    | zero => simp [nthD] at e
    | succ i => exact ih (by simpa [nthD] using e)
theorem SimS.set (h : SimS Fe μa μc) {i : Nat} {a c : Ob} (r : CR Fe a c) : SimS Fe (setN μa i a) (setN μc i c) := by
  induction h generalizing i with
  | nil => exact .nil
  | cons q t ih =>
    cases i with
    | zero => exact .cons r t
    | succ i => exact .cons q ih
theorem SimS.app (h : SimS Fe μa μc) {a c : Ob} (r : CR Fe a c) : SimS Fe (μa ++ [a]) (μc ++ [c]) := by
  induction h with
  | nil => exact .cons r .nil
  | cons q t ih => exact .cons q ih
theorem SimS.take (h : SimS Fe μa μc) (n : Nat) : SimS Fe (μa.take n) (μc.take n) := by
  induction h generalizing n with
  | nil => simp; exact .nil
  | cons q t ih =>
    cases n with
    | zero => exact .nil
    | succ n => exact .cons q (ih n)
theorem CR.lst {l : List D} {c : Ob} (r : CR Fe (.lst l) c) : c = .lst l := by
  rcases r with ⟨rfl, _⟩ | ⟨_, _, e, _⟩
  · rfl
  · cases e
theorem CR.dct {l : List (D × D)} {c : Ob} (r : CR Fe (.dct l) c) : c = .dct l := by
  rcases r with ⟨rfl, _⟩ | ⟨_, _, e, _⟩
  · rfl
  · cases e
theorem CR.dcT {l : List (D × D)} {c : Ob} (r : CR Fe (.dcT l) c) : c = .dcT l := by
  rcases r with ⟨rfl, _⟩ | ⟨_, _, e, _⟩
  · rfl
  · cases e
theorem SimS.lst (h : SimS Fe μa μc) {i : Nat} {l : List D} (e : nthD μa i = some (.lst l)) : nthD μc i = some (.lst l) := by
  obtain ⟨c, e1, r⟩ := h.at e
  rw [e1, r.lst]
theorem SimS.dct (h : SimS Fe μa μc) {i : Nat} {l : List (D × D)} (e : nthD μa i = some (.dct l)) : nthD μc i = some (.dct l) := by
  obtain ⟨c, e1, r⟩ := h.at e
  rw [e1, r.dct]
theorem SimS.dcT (h : SimS Fe μa μc) {i : Nat} {l : List (D × D)} (e : nthD μa i = some (.dcT l)) : nthD μc i = some (.dcT l) := by
  obtain ⟨c, e1, r⟩ := h.at e
  rw [e1, r.dcT]
theorem SimS.view (h : SimS Fe μa μc) (d : D) : EV.view μc d = EV.view μa d := by
  cases d with
  | ref i =>
    unfold EV.view
    simp only
    cases e : nthD μa i with
    | none => rw [h.none e]
    | some o =>
      obtain ⟨c, e1, r⟩ := h.at e
      rw [e1]
      rcases r with ⟨rfl, _⟩ | ⟨ps, st, rfl, rfl, _⟩
      · rfl
      · rfl
  | _ => rfl
end
/-- the run beside, the run -/
def SimR {α : Type} (Fe : Feed) (a c : R α) : Prop :=
  match a with
  | .stuck => True
  | .ok x μ => ∃ μ', c = .ok x μ' ∧ SimS Fe μ μ'
  | .exc k fs μ => ∃ μ', c = .exc k fs μ' ∧ SimS Fe μ μ'
section
variable {Fe : Feed} {α β : Type}
theorem SimR.ok {μ μ' : Store} (h : SimS Fe μ μ') (x : α) : SimR Fe (.ok x μ) (.ok x μ') := ⟨μ', rfl, h⟩
theorem SimR.stuck {c : R α} : SimR Fe .stuck c := True.intro
theorem SimR.bind {a c : R α} {f g : α → Store → R β} (h : SimR Fe a c) (k : ∀ x μ μ', SimS Fe μ μ' → SimR Fe (f x μ) (g x μ')) : SimR Fe (a.bind f) (c.bind g) := by
  cases a with
  | stuck => exact True.intro
  | ok x μ => obtain ⟨μ', rfl, s⟩ := h; exact k x μ μ' s
  | exc kk fs μ => obtain ⟨μ', rfl, s⟩ := h; exact ⟨μ', rfl, s⟩
theorem SimR.ite {p : Prop} [Decidable p] {a a' c c' : R α} (h1 : SimR Fe a c) (h2 : SimR Fe a' c') : SimR Fe (if p then a else a') (if p then c else c') := by
  split
  · exact h1
  · exact h2
theorem SimR.lift {o o' : Option α} {μ μ' : Store} (s : SimS Fe μ μ') (h : ∀ x, o = some x → o' = some x) : SimR Fe (liftO o μ) (liftO o' μ') := by
  cases o with
  | none => exact True.intro
  | some x => rw [h x rfl]; exact .ok s x
theorem SimR.lift' {o : Option α} {μ μ' : Store} (s : SimS Fe μ μ') : SimR Fe (liftO o μ) (liftO o μ') := .lift s fun _ h => h
theorem SimR.noX {a c : R α} (h : SimR Fe a c) : SimR Fe (EV.noX a) (EV.noX c) := by
  cases a with
  | stuck => exact True.intro
  | ok x μ => obtain ⟨μ', rfl, s⟩ := h; exact ⟨μ', rfl, s⟩
  | exc kk fs μ => exact True.intro
end
structure SimM (Fe : Feed) (A C : Sem) : Prop where
  e : ∀ e ρ μ μ', SimS Fe μ μ' → SimR Fe (A.e e ρ μ) (C.e e ρ μ')
  t : ∀ e ρ μ μ', SimS Fe μ μ' → SimR Fe (A.t e ρ μ) (C.t e ρ μ')
  s : ∀ b ρ μ μ', SimS Fe μ μ' → SimR Fe (A.s b ρ μ) (C.s b ρ μ')
  w : ∀ t b ρ μ μ', SimS Fe μ μ' → SimR Fe (A.w t b ρ μ) (C.w t b ρ μ')
  c : ∀ f ds μ μ', SimS Fe μ μ' → SimR Fe (A.c f ds μ) (C.c f ds μ')
section
variable {Fe : Feed} {A C : Sem}
theorem sim_evs (h : SimM Fe A C) : ∀ (es : List Ex) (ρ : Env) (μ μ' : Store), SimS Fe μ μ' → SimR Fe (evs A.e es ρ μ) (evs C.e es ρ μ')
  | [], ρ, μ, μ', s => .ok s _
  | e :: es, ρ, μ, μ', s => .bind (h.e e ρ μ μ' s) fun d μ1 μ1' s1 => .bind (sim_evs h es ρ μ1 μ1' s1) fun ds μ2 μ2' s2 => by
    split
    · exact .stuck
    · exact .ok s2 _
theorem sim_evr (h : SimM Fe A C) : ∀ (es : List Ex) (ρ : Env) (μ μ' : Store), SimS Fe μ μ' → SimR Fe (evr A.e es ρ μ) (evr C.e es ρ μ')
  | [], ρ, μ, μ', s => .ok s _
  | e :: es, ρ, μ, μ', s => .bind (h.e e ρ μ μ' s) fun d μ1 μ1' s1 => .bind (sim_evr h es ρ μ1 μ1' s1) fun ds μ2 μ2' s2 => .ok s2 _
theorem sim_evsS (h : SimM Fe A C) : ∀ (es : List Ex) (ρ : Env) (μ μ' : Store), SimS Fe μ μ' → SimR Fe (evsS A.e es ρ μ) (evsS C.e es ρ μ')
  | [], ρ, μ, μ', s => .ok s _
  | e :: es, ρ, μ, μ', s => by
    have plain : isStar e = false → SimR Fe (evsS A.e (e :: es) ρ μ) (evsS C.e (e :: es) ρ μ') := by
      intro hs
      have e1 : ∀ (f : EvE) μ, evsS f (e :: es) ρ μ = (f e ρ μ).bind fun d μ => (evsS f es ρ μ).bind fun ds μ => if d.isRef then .stuck else .ok (d :: ds) μ := fun f μ => by cases e <;> first | rfl | (simp [isStar] at hs)
      rw [e1, e1]
      exact .bind (h.e e ρ μ μ' s) fun d μ1 μ1' s1 => .bind (sim_evsS h es ρ μ1 μ1' s1) fun ds μ2 μ2' s2 => by
        split
        · exact .stuck
        · exact .ok s2 _
    cases e with
    | star a =>
      exact .bind (h.e a ρ μ μ' s) fun d μ1 μ1' s1 => .bind (by rw [s1.view]; exact .lift' s1) fun xs μ3 μ3' s3 => .bind (sim_evsS h es ρ μ3 μ3' s3) fun ds μ2 μ2' s2 => .ok s2 _
    | _ => exact plain rfl
theorem sim_evO (h : SimM Fe A C) : ∀ (o : Option Ex) (ρ : Env) (μ μ' : Store), SimS Fe μ μ' → SimR Fe (evO A.e ρ μ o) (evO C.e ρ μ' o)
  | none, ρ, μ, μ', s => .ok s _
  | some e, ρ, μ, μ', s => .bind (h.e e ρ μ μ' s) fun d μ1 μ1' s1 => .lift' s1
theorem sim_evO0 (h : SimM Fe A C) : ∀ (o : Option Ex) (ρ : Env) (μ μ' : Store), SimS Fe μ μ' → SimR Fe (evO0 A.e ρ μ o) (evO0 C.e ρ μ' o)
  | none, ρ, μ, μ', s => .ok s _
  | some e, ρ, μ, μ', s => .bind (h.e e ρ μ μ' s) fun d μ1 μ1' s1 => .lift' s1
theorem srcOk_sim {μ μ' : Store} (s : SimS Fe μ μ') {x : Src} (h : srcOk μ x = true) : srcOk μ' x = true ∧ nxt μ' x = nxt μ x := by
  cases x with
  | vals l => cases l <;> exact ⟨rfl, rfl⟩
  | cell i k =>
    unfold srcOk at h
    simp only at h
    split at h
    · rename_i l hl
      have e := s.lst hl
      refine ⟨by simp [srcOk, e], by simp [nxt, e, hl]⟩
    · cases h
theorem sim_evIt (h : SimM Fe A C) (it : Itx) (ρ : Env) (μ μ' : Store) (s : SimS Fe μ μ') : SimR Fe (evIt A.e ρ μ it) (evIt C.e ρ μ' it) := by
  cases it with
  | seq e =>
    refine .bind (h.e e ρ μ μ' s) fun d μ1 μ1' s1 => .lift s1 fun x hx => ?_
    cases hs : srcOf d with
    | none => rw [hs] at hx; cases hx
    | some y =>
      rw [hs] at hx
      simp only [Option.bind_some] at hx ⊢
      split at hx
      · rename_i hok
        rw [if_pos (srcOk_sim s1 hok).1]
        exact hx
      · cases hx
  | rng a => exact .bind (h.e a ρ μ μ' s) fun d μ1 μ1' s1 => .lift' s1
  | rng2 a b => exact .bind (h.e a ρ μ μ' s) fun d μ1 μ1' s1 => .bind (h.e b ρ _ _ s1) fun d' μ2 μ2' s2 => .lift' s2
  | enum a => exact .bind (h.e a ρ μ μ' s) fun d μ1 μ1' s1 => .lift' s1
  | zip a b => exact .bind (h.e a ρ μ μ' s) fun d μ1 μ1' s1 => .bind (h.e b ρ _ _ s1) fun d' μ2 μ2' s2 => .lift' s2
theorem sim_evIf (h : SimM Fe A C) (c : Option Ex) (ρ : Env) (μ μ' : Store) (s : SimS Fe μ μ') : SimR Fe (evIf A.t ρ μ c) (evIf C.t ρ μ' c) := by
  cases c with
  | none => exact .ok s _
  | some e => exact h.t e ρ μ μ' s
theorem sim_compL (h : SimM Fe A C) (ρ : Env) (t : Tg) (c : Option Ex) (elt : Ex) : ∀ (n : Nat) (x : Src) (μ μ' : Store), SimS Fe μ μ' → SimR Fe (compL A ρ t c elt n x μ) (compL C ρ t c elt n x μ')
  | 0, _, _, _, _ => .stuck
  | n + 1, x, μ, μ', s => by
    unfold compL
    by_cases ho : srcOk μ x = true
    · rw [if_pos ho, if_pos (srcOk_sim s ho).1, (srcOk_sim s ho).2]
      cases nxt μ x with
      | none => exact .ok s _
      | some p =>
        obtain ⟨y, x'⟩ := p
        simp only
        cases bindT ρ t y with
        | none => exact .stuck
        | some ρ' =>
          refine .bind (sim_evIf h c ρ' μ μ' s).noX fun b μ1 μ1' s1 => ?_
          cases b with
          | true =>
            refine .bind (h.e elt ρ' μ1 μ1' s1).noX fun d μ2 μ2' s2 => ?_
            split
            · exact .stuck
            · exact .bind (sim_compL h ρ t c elt n x' _ _ s2) fun ds μ3 μ3' s3 => .ok s3 _
          | false => exact sim_compL h ρ t c elt n x' _ _ s1
    · rw [if_neg ho]; exact .stuck
theorem sim_compL2 (h : SimM Fe A C) (own' : List Nat) (ρ : Env) (t t' : Tg) (it' : Itx) (c : Option Ex) (elt : Ex) : ∀ (n : Nat) (x : Src) (μ μ' : Store), SimS Fe μ μ' → SimR Fe (compL2 A own' ρ t t' it' c elt n x μ) (compL2 C own' ρ t t' it' c elt n x μ')
  | 0, _, _, _, _ => .stuck
  | n + 1, x, μ, μ', s => by
    unfold compL2
    by_cases ho : srcOk μ x = true
    · rw [if_pos ho, if_pos (srcOk_sim s ho).1, (srcOk_sim s ho).2]
      cases nxt μ x with
      | none => exact .ok s _
      | some p =>
        obtain ⟨y, x'⟩ := p
        simp only
        cases bindT ρ t y with
        | none => exact .stuck
        | some ρ' =>
          exact .bind (sim_evIt h it' ρ' μ μ' s).noX fun s1 μ1 μ1' q1 => .bind (sim_compL h _ t' c elt fuel s1 _ _ q1) fun ds μ2 μ2' q2 => .bind (sim_compL2 h own' ρ t t' it' c elt n x' _ _ q2) fun es μ3 μ3' q3 => .ok q3 _
    · rw [if_neg ho]; exact .stuck
theorem sim_compD (h : SimM Fe A C) (tup : Bool) (ρ : Env) (t : Tg) (k v : Ex) : ∀ (n : Nat) (x : Src) (acc : List (D × D)) (μ μ' : Store), SimS Fe μ μ' → SimR Fe (compD A tup ρ t k v n x acc μ) (compD C tup ρ t k v n x acc μ')
  | 0, _, _, _, _, _ => .stuck
  | n + 1, x, acc, μ, μ', s => by
    unfold compD
    by_cases ho : srcOk μ x = true
    · rw [if_pos ho, if_pos (srcOk_sim s ho).1, (srcOk_sim s ho).2]
      cases nxt μ x with
      | none => exact .ok s _
      | some p =>
        obtain ⟨y, x'⟩ := p
        simp only
        cases bindT ρ t y with
        | none => exact .stuck
        | some ρ' =>
          refine .bind (h.e k ρ' μ μ' s).noX fun kd μ1 μ1' s1 => .bind (h.e v ρ' μ1 μ1' s1).noX fun vd μ2 μ2' s2 => ?_
          exact .ite .stuck (sim_compD h tup ρ t k v n x' _ _ _ s2)
    · rw [if_neg ho]; exact .stuck
theorem sim_forL (h : SimM Fe A C) (t : Tg) (body : List St) : ∀ (n : Nat) (x : Src) (ρ : Env) (μ μ' : Store), SimS Fe μ μ' → SimR Fe (forL A t body n x ρ μ) (forL C t body n x ρ μ')
  | 0, _, _, _, _, _ => .stuck
  | n + 1, x, ρ, μ, μ', s => by
    unfold forL
    by_cases ho : srcOk μ x = true
    · rw [if_pos ho, if_pos (srcOk_sim s ho).1, (srcOk_sim s ho).2]
      cases nxt μ x with
      | none => exact .ok s _
      | some p =>
        obtain ⟨y, x'⟩ := p
        simp only
        cases bindT ρ t y with
        | none => exact .stuck
        | some ρ' =>
          refine .bind (h.s body ρ' μ μ' s) fun fl μ1 μ1' s1 => ?_
          cases fl with
          | nx ρ2 => exact sim_forL h t body n x' ρ2 _ _ s1
          | ret d => exact .ok s1 _
    · rw [if_neg ho]; exact .stuck
theorem sim_forLG (h : SimM Fe A C) (t : Tg) (body : List St) (n0 : Nat) : ∀ (n : Nat) (x : Src) (ρ : Env) (μ μ' : Store), SimS Fe μ μ' → SimR Fe (forLG A t body n0 n x ρ μ) (forLG C t body n0 n x ρ μ')
  | 0, _, _, _, _, _ => .stuck
  | n + 1, x, ρ, μ, μ', s => by
    unfold forLG
    by_cases ho : srcOk μ x = true
    · rw [if_pos ho, if_pos (srcOk_sim s ho).1, (srcOk_sim s ho).2]
      cases nxt μ x with
      | none => exact .ok s _
      | some p =>
        obtain ⟨y, x'⟩ := p
        simp only
        cases bindT ρ t y with
        | none => exact .stuck
        | some ρ' =>
          refine .bind (h.s body ρ' μ μ' s) fun fl μ1 μ1' s1 => ?_
          cases fl with
          | nx ρ2 => exact sim_forLG h t body n0 n x' _ _ _ (s1.take n0)
          | ret d => exact .ok s1 _
    · rw [if_neg ho]; exact .stuck
theorem sim_methD (m : Mt) (o x : D) {μ μ' : Store} (s : SimS Fe μ μ') : SimR Fe (methD m o x μ) (methD m o x μ') := by
  cases m with
  | append =>
    unfold methD
    simp only
    split
    · split
      · rename_i l hl
        rw [s.lst hl]
        simp only
        split
        · exact .stuck
        · split
          · exact .ok (s.set (.inl ⟨rfl, rfl⟩)) _
          · exact .stuck
      · exact .stuck
    · exact .stuck
  | extend =>
    unfold methD
    simp only [s.view]
    split
    · split
      · rename_i l hl
        rw [s.lst hl]
        simp only
        split
        · exact .ok (s.set (.inl ⟨rfl, rfl⟩)) _
        · exact .stuck
      · exact .stuck
    · exact .stuck
  | popAt =>
    unfold methD
    simp only
    split
    · split
      · rename_i l hl
        rw [s.lst hl]
        simp only
        split
        · exact .ok (s.set (.inl ⟨rfl, rfl⟩)) _
        · exact .stuck
      · exact .stuck
    · exact .stuck
  | index =>
    unfold methD
    simp only [s.view]
    split
    · split
      · exact .lift' s
      · exact .stuck
    · split
      · exact .lift' s
      · exact .stuck
    · exact .stuck
  | count =>
    unfold methD
    simp only [s.view]
    split
    · exact .lift' s
    · exact .stuck
theorem sim_op1D (o : O1) (x : D) {μ μ' : Store} (s : SimS Fe μ μ') : SimR Fe (op1D o x μ) (op1D o x μ') := by
  cases o with
  | listD =>
    unfold op1D
    simp only
    split
    · split
      · rename_i l hl
        rw [s.dct hl]
        exact .ok s _
      · exact .stuck
    · exact .stuck
  | lenD =>
    unfold op1D
    simp only
    split
    · split
      · rename_i l hl
        rw [s.dct hl]
        exact .ok s _
      · exact .stuck
    · exact .stuck
  | srt =>
    unfold op1D
    simp only [s.view]
    split
    · exact .lift' s
    · exact .stuck
  | dictP =>
    unfold op1D
    simp only [s.view]
    split
    · refine .bind (.lift' s) fun kvs μ1 μ1' s1 => ?_
      show SimR Fe (R.ok (D.ref μ1.length) _) (R.ok (D.ref μ1'.length) _)
      rw [s1.len]
      exact .ok (s1.app (.inl ⟨rfl, rfl⟩)) _
    · exact .stuck
  | pop =>
    unfold op1D
    simp only
    split
    · split
      · rename_i l hl
        rw [s.lst hl]
        simp only
        split
        · exact .ok (s.set (.inl ⟨rfl, rfl⟩)) _
        · exact .stuck
      · exact .stuck
    · exact .stuck
  | lset =>
    unfold op1D
    simp only [s.view]
    exact .lift' s
theorem hasO_sim {μ μ' : Store} (s : SimS Fe μ μ') {o k : D} {b : Bool} (h : hasO μ o k = some b) : hasO μ' o k = some b := by
  unfold hasO at h ⊢
  split at h
  · rename_i i
    try simp only
    split at h
    · rename_i kvs hl
      rw [s.dct hl]; exact h
    · rename_i kvs hl
      rw [s.dcT hl]; exact h
    · cases h
  · cases h
theorem getO_sim {μ μ' : Store} (s : SimS Fe μ μ') {o k : D} {b : Option D} (h : getO μ o k = some b) : getO μ' o k = some b := by
  unfold getO at h ⊢
  split at h
  · rename_i i
    try simp only
    split at h
    · rename_i kvs hl
      rw [s.dct hl]; exact h
    · rename_i kvs hl
      rw [s.dcT hl]; exact h
    · cases h
  · cases h
theorem dgetD_sim {μ μ' : Store} (s : SimS Fe μ μ') {o k d : D} (h : dgetD μ o k = some d) : dgetD μ' o k = some d := by
  unfold dgetD at h ⊢
  split at h
  · rename_i i
    try simp only
    split at h
    · rename_i kvs hl
      rw [s.dct hl]; exact h
    · rename_i kvs hl
      rw [s.dcT hl]; exact h
    · cases h
  · cases h
theorem isDct_sim {μ μ' : Store} (s : SimS Fe μ μ') {d : D} (h : isDct μ d = true) : isDct μ' d = true := by
  unfold isDct at h ⊢
  split at h
  · rename_i i
    try simp only
    split at h
    · rename_i kvs hl
      rw [s.dct hl]
    · rename_i kvs hl
      rw [s.dcT hl]
    · cases h
  · cases h
theorem sim_ofB {a c : R Bool} (h : SimR Fe a c) : SimR Fe (ofB a) (ofB c) := .bind h fun b μ μ' s => .ok s _
theorem sim_cmpB (h : SimM Fe A C) (op : Cop) (a b : Ex) (ρ : Env) (μ μ' : Store) (s : SimS Fe μ μ') : SimR Fe (eCmpB A op a b ρ μ) (eCmpB C op a b ρ μ') :=
  .bind (h.e a ρ μ μ' s) fun x μ1 μ1' s1 => .bind (h.e b ρ _ _ s1) fun y μ2 μ2' s2 => by
    rw [s2.view, s2.view]; exact .lift' s2
theorem sim_cmp2B (h : SimM Fe A C) (op op' : Cop) (a b c : Ex) (ρ : Env) (μ μ' : Store) (s : SimS Fe μ μ') : SimR Fe (eCmp2B A op op' a b c ρ μ) (eCmp2B C op op' a b c ρ μ') :=
  .bind (h.e a ρ μ μ' s) fun x μ1 μ1' s1 => .bind (h.e b ρ _ _ s1) fun y μ2 μ2' s2 => .bind (by rw [s2.view, s2.view]; exact .lift' s2) fun t μ3 μ3' s3 => (by cases t with | true => exact .bind (h.e c ρ _ _ s3) fun z μ4 μ4' s4 => by rw [s4.view, s4.view]; exact .lift' s4 | false => exact .ok s3 _)
theorem simE (h : SimM Fe A C) (e : Ex) (ρ : Env) (μ μ' : Store) (s : SimS Fe μ μ') : SimR Fe (stepE A e ρ μ) (stepE C e ρ μ') := by
  cases e with
  | var i => exact .lift' s
  | con d => exact .ok s _
  | glo x d => exact .ok s _
  | bin op a b =>
    exact .bind (h.e a ρ μ μ' s) fun x μ1 μ1' s1 => .bind (h.e b ρ _ _ s1) fun y μ2 μ2' s2 => by rw [s2.view, s2.view]; exact .lift' s2
  | neg a => exact .bind (h.e a ρ μ μ' s) fun x μ1 μ1' s1 => .lift' s1
  | not a => exact .bind (h.e a ρ μ μ' s) fun x μ1 μ1' s1 => .lift' s1
  | and a b => exact .bind (h.e a ρ μ μ' s) fun x μ1 μ1' s1 => .bind (.lift' s1) fun t μ2 μ2' s2 => (by cases t with | true => exact h.e b ρ _ _ s2 | false => exact .ok s2 _)
  | or a b => exact .bind (h.e a ρ μ μ' s) fun x μ1 μ1' s1 => .bind (.lift' s1) fun t μ2 μ2' s2 => (by cases t with | false => exact h.e b ρ _ _ s2 | true => exact .ok s2 _)
  | cmp op a b => exact sim_ofB (sim_cmpB h op a b ρ μ μ' s)
  | cmp2 op op' a b c => exact sim_ofB (sim_cmp2B h op op' a b c ρ μ μ' s)
  | ife c a b => exact .bind (h.t c ρ μ μ' s) fun t μ1 μ1' s1 => (by cases t with | true => exact h.e a ρ _ _ s1 | false => exact h.e b ρ _ _ s1)
  | call f as kws sel =>
    exact .bind (sim_evr h as ρ μ μ' s) fun ds μ1 μ1' s1 => .bind (sim_evr h _ ρ _ _ s1) fun es μ2 μ2' s2 => .bind (.lift' s2) fun xs μ3 μ3' s3 => h.c f xs _ _ s3
  | bi b a => exact .bind (h.e a ρ μ μ' s) fun x μ1 μ1' s1 => by rw [s1.view]; exact .lift' s1
  | isi a t => exact .bind (h.e a ρ μ μ' s) fun x μ1 μ1' s1 => by rw [s1.view]; exact .lift' s1
  | meth m o a =>
    refine .bind (h.e o ρ μ μ' s) fun x μ1 μ1' s1 => ?_
    show SimR Fe (if mthOk m (view μ1 x) then _ else _) (if mthOk m (view μ1' x) then _ else _)
    rw [s1.view]
    split
    · exact .bind (h.e a ρ _ _ s1) fun y μ2 μ2' s2 => sim_methD m x y s2
    · exact .stuck
  | idx a i => exact .bind (h.e a ρ μ μ' s) fun x μ1 μ1' s1 => .bind (h.e i ρ _ _ s1) fun y μ2 μ2' s2 => by rw [s2.view]; exact .lift' s2
  | dget a i => exact .bind (h.e a ρ μ μ' s) fun x μ1 μ1' s1 => .bind (h.e i ρ _ _ s1) fun y μ2 μ2' s2 => .lift s2 fun _ hx => dgetD_sim s2 hx
  | slice a lo hi =>
    exact .bind (h.e a ρ μ μ' s) fun x μ1 μ1' s1 => .bind (sim_evO h lo ρ _ _ s1) fun l μ2 μ2' s2 => .bind (sim_evO h hi ρ _ _ s2) fun u μ3 μ3' s3 => by rw [s3.view]; exact .lift' s3
  | tup es => exact .bind (sim_evsS h es ρ μ μ' s) fun ds μ1 μ1' s1 => .lift' s1
  | lst es => exact .bind (sim_evsS h es ρ μ μ' s) fun ds μ1 μ1' s1 => .lift' s1
  | dict ks es => exact .bind (sim_evs h es ρ μ μ' s) fun ds μ1 μ1' s1 => .bind (.lift' s1) fun kvs μ2 μ2' s2 => (by
      show SimR Fe (R.ok (D.ref μ2.length) _) (R.ok (D.ref μ2'.length) _)
      rw [s2.len]
      exact .ok (s2.app (.inl ⟨rfl, rfl⟩)) _)
  | lc own t it c elt => exact .bind (sim_evIt h it ρ μ μ' s) fun x μ1 μ1' s1 => .bind (sim_compL h _ t c elt fuel x _ _ s1) fun ds μ2 μ2' s2 => .lift' s2
  | lc2 own own' t it t' it' c elt => exact .bind (sim_evIt h it ρ μ μ' s) fun x μ1 μ1' s1 => .bind (sim_compL2 h own' _ t t' it' c elt fuel x _ _ s1) fun ds μ2 μ2' s2 => .lift' s2
  | trng tup a b => exact .bind (sim_evO0 h a ρ μ μ' s) fun i μ1 μ1' s1 => .bind (h.e b ρ _ _ s1) fun d μ2 μ2' s2 => .lift' s2
  | sset a => exact .bind (h.e a ρ μ μ' s) fun x μ1 μ1' s1 => by rw [s1.view]; exact .lift' s1
  | lset a => exact .bind (h.e a ρ μ μ' s) fun x μ1 μ1' s1 => by rw [s1.view]; exact .lift' s1
  | star a => exact .stuck
  | new a => exact .bind (h.e a ρ μ μ' s) fun x μ1 μ1' s1 => (by
      cases x <;> first | exact .stuck | skip
      show SimR Fe (R.ok (D.ref μ1.length) _) (R.ok (D.ref μ1'.length) _)
      rw [s1.len]
      exact .ok (s1.app (.inl ⟨rfl, rfl⟩)) _)
  | op1 o a => exact .bind (h.e a ρ μ μ' s) fun x μ1 μ1' s1 => sim_op1D o x s1
  | op2 o a b => exact .bind (h.e a ρ μ μ' s) fun x μ1 μ1' s1 => (by
      show SimR Fe (match pre2 o x with | true => _ | false => _) (match pre2 o x with | true => _ | false => _)
      cases pre2 o x with
      | false => exact .stuck
      | true =>
        refine .bind (h.e b ρ _ _ s1) fun y μ2 μ2' s2 => ?_
        cases o with
        | din neg =>
          refine .lift s2 fun z hz => ?_
          obtain ⟨bb, e1, rfl⟩ := Option.map_eq_some_iff.mp hz
          rw [hasO_sim s2 e1]; rfl
        | split =>
          unfold op2D
          simp only [s2.view]
          split
          · split
            · exact .ok s2 _
            · exact .stuck
          · exact .stuck)
  | op3 o a b c => exact .bind (h.e a ρ μ μ' s) fun x μ1 μ1' s1 => (by
      show SimR Fe (if isDct μ1 x then _ else _) (if isDct μ1' x then _ else _)
      by_cases hd : isDct μ1 x = true
      · rw [if_pos hd, if_pos (isDct_sim s1 hd)]
        refine .bind (h.e b ρ _ _ s1) fun y μ2 μ2' s2 => .bind (h.e c ρ _ _ s2) fun z μ3 μ3' s3 => ?_
        show SimR Fe (if z.isRef then _ else _) (if z.isRef then _ else _)
        split
        · exact .stuck
        · cases o
          refine .lift s3 fun q hq => ?_
          obtain ⟨bb, e1, rfl⟩ := Option.map_eq_some_iff.mp hq
          rw [getO_sim s3 e1]; rfl
      · rw [if_neg hd]; exact .stuck)
  | dnewT =>
    show SimR Fe (R.ok (D.ref μ.length) _) (R.ok (D.ref μ'.length) _)
    rw [s.len]
    exact .ok (s.app (.inl ⟨rfl, rfl⟩)) _
  | dc tup own t it k v => exact .bind (sim_evIt h it ρ μ μ' s) fun x μ1 μ1' s1 => .bind (sim_compD h tup _ t k v fuel x _ _ _ s1) fun kvs μ2 μ2' s2 => (by
      show SimR Fe (R.ok (D.ref μ2.length) _) (R.ok (D.ref μ2'.length) _)
      rw [s2.len]
      exact .ok (s2.app (.inl ⟨rfl, by cases tup <;> rfl⟩)) _)
theorem sim_tVal (h : SimM Fe A C) (e : Ex) (ρ : Env) (μ μ' : Store) (s : SimS Fe μ μ') : SimR Fe (tVal A e ρ μ) (tVal C e ρ μ') := .bind (h.e e ρ μ μ' s) fun d μ1 μ1' s1 => by rw [s1.view]; exact .lift' s1
theorem simT (h : SimM Fe A C) (e : Ex) (ρ : Env) (μ μ' : Store) (s : SimS Fe μ μ') : SimR Fe (stepT A e ρ μ) (stepT C e ρ μ') := by
  cases e with
  | not a => exact .bind (h.t a ρ μ μ' s) fun b μ1 μ1' s1 => .ok s1 _
  | and a b => exact .bind (h.t a ρ μ μ' s) fun t μ1 μ1' s1 => (by cases t with | true => exact h.t b ρ _ _ s1 | false => exact .ok s1 _)
  | or a b => exact .bind (h.t a ρ μ μ' s) fun t μ1 μ1' s1 => (by cases t with | false => exact h.t b ρ _ _ s1 | true => exact .ok s1 _)
  | cmp op a b => exact sim_cmpB h op a b ρ μ μ' s
  | cmp2 op op' a b c => exact sim_cmp2B h op op' a b c ρ μ μ' s
  | call f as kws sel => exact sim_tVal h _ ρ μ μ' s
  | var i => exact sim_tVal h _ ρ μ μ' s
  | con d => exact sim_tVal h _ ρ μ μ' s
  | bi b a => exact sim_tVal h _ ρ μ μ' s
  | isi a t => exact sim_tVal h _ ρ μ μ' s
  | idx a i => exact sim_tVal h _ ρ μ μ' s
  | dget a i => exact sim_tVal h _ ρ μ μ' s
  | op1 o a => exact sim_tVal h _ ρ μ μ' s
  | op2 o a b =>
    cases o with
    | din neg =>
      refine .bind (h.e a ρ μ μ' s) fun x μ1 μ1' s1 => .bind (h.e b ρ _ _ s1) fun y μ2 μ2' s2 => .lift s2 fun z hz => ?_
      obtain ⟨bb, e1, rfl⟩ := Option.map_eq_some_iff.mp hz
      rw [hasO_sim s2 e1]; rfl
    | split => exact .stuck
  | op3 o a b c => exact sim_tVal h _ ρ μ μ' s
  | _ => exact .stuck
theorem sim_setIxO {μ μ' : Store} (s : SimS Fe μ μ') {o k v : D} : ∀ μ1, setIxO μ o k v = some μ1 → ∃ μ1', setIxO μ' o k v = some μ1' ∧ SimS Fe μ1 μ1' := by
  intro μ1 h
  unfold setIxO at h ⊢
  split at h
  · try simp only
    split at h
    · rename_i l hl
      rw [s.lst hl]
      simp only
      split at h
      · cases h
      · rename_i hv
        obtain ⟨l', e1, rfl⟩ := Option.map_eq_some_iff.mp h
        rw [if_neg hv, e1]
        exact ⟨_, rfl, s.set (.inl ⟨rfl, rfl⟩)⟩
    · cases h
  · cases h
theorem sim_setKO {μ μ' : Store} (s : SimS Fe μ μ') {o k v : D} : ∀ μ1, setKO μ o k v = some μ1 → ∃ μ1', setKO μ' o k v = some μ1' ∧ SimS Fe μ1 μ1' := by
  intro μ1 h
  unfold setKO at h ⊢
  split at h
  · try simp only
    split at h
    · rename_i l hl
      rw [s.dct hl]
      simp only
      split at h
      · cases h
      · rename_i hv
        cases h
        rw [if_neg hv]
        exact ⟨_, rfl, s.set (.inl ⟨rfl, rfl⟩)⟩
    · rename_i l hl
      rw [s.dcT hl]
      simp only
      split at h
      · cases h
      · rename_i hv
        cases h
        rw [if_neg hv]
        exact ⟨_, rfl, s.set (.inl ⟨rfl, rfl⟩)⟩
    · cases h
  · cases h
theorem sim_put {μ μ' : Store} {o o' : Option Store} {ρ : Env} (h : ∀ μ1, o = some μ1 → ∃ μ1', o' = some μ1' ∧ SimS Fe μ1 μ1') : SimR Fe ((liftO o μ).bind fun μ' _ => .ok (Fl.nx ρ) μ') ((liftO o' μ').bind fun μ' _ => .ok (Fl.nx ρ) μ') := by
  cases o with
  | none => exact .stuck
  | some μ1 =>
    obtain ⟨μ1', rfl, s⟩ := h μ1 rfl
    exact .ok s _
theorem simOne (h : SimM Fe A C) (st : St) (ρ : Env) (μ μ' : Store) (s : SimS Fe μ μ') : SimR Fe (sOne A st ρ μ) (sOne C st ρ μ') := by
  cases st with
  | asg i e => exact .bind (h.e e ρ μ μ' s) fun d μ1 μ1' s1 => .ok s1 _
  | asgN i e => exact .bind (h.e e ρ μ μ' s) fun d μ1 μ1' s1 => (by
      cases d <;> first | exact .stuck | skip
      show SimR Fe (R.ok (Fl.nx (setE ρ i (D.ref μ1.length))) _) (R.ok (Fl.nx (setE ρ i (D.ref μ1'.length))) _)
      rw [s1.len]
      exact .ok (s1.app (.inl ⟨rfl, rfl⟩)) _)
  | par is es => exact .bind (sim_evr h es ρ μ μ' s) fun d μ1 μ1' s1 => .lift' s1
  | unp is e => exact .bind (h.e e ρ μ μ' s) fun d μ1 μ1' s1 => .lift' s1
  | setIx o k e => exact .bind (h.e e ρ μ μ' s) fun v μ1 μ1' s1 => .bind (h.e o ρ _ _ s1) fun x μ2 μ2' s2 => .bind (h.e k ρ _ _ s2) fun y μ3 μ3' s3 => sim_put (sim_setIxO s3)
  | setK o k e => exact .bind (h.e e ρ μ μ' s) fun v μ1 μ1' s1 => .bind (h.e o ρ _ _ s1) fun x μ2 μ2' s2 => .bind (h.e k ρ _ _ s2) fun y μ3 μ3' s3 => sim_put (sim_setKO s3)
  | aug i op e => exact .bind (.lift' s) fun x μ1 μ1' s1 => .bind (h.e e ρ _ _ s1) fun y μ2 μ2' s2 => .bind (.lift' s2) fun z μ3 μ3' s3 => .ok s3 _
  | expr e => exact .bind (h.e e ρ μ μ' s) fun d μ1 μ1' s1 => .ok s1 _
  | ret e => exact .bind (h.e e ρ μ μ' s) fun d μ1 μ1' s1 => .ok s1 _
  | ife c a b => exact .bind (h.t c ρ μ μ' s) fun t μ1 μ1' s1 => (by cases t with | true => exact h.s a ρ _ _ s1 | false => exact h.s b ρ _ _ s1)
  | forG t it body => exact .bind (sim_evIt h it ρ μ μ' s) fun x μ1 μ1' s1 => (by rw [s1.len]; exact sim_forLG h t body _ fuel x ρ _ _ s1)
  | for_ t it body => exact .bind (sim_evIt h it ρ μ μ' s) fun x μ1 μ1' s1 => sim_forL h t body fuel x ρ _ _ s1
  | while_ c body => exact h.w c body ρ μ μ' s
  | never => exact .stuck
theorem simS (h : SimM Fe A C) (l : List St) (ρ : Env) (μ μ' : Store) (s : SimS Fe μ μ') : SimR Fe (stepS A l ρ μ) (stepS C l ρ μ') := by
  cases l with
  | nil => exact .ok s _
  | cons st r => exact .bind (simOne h st ρ μ μ' s) fun fl μ1 μ1' s1 => (by
      cases fl with
      | nx ρ2 => exact h.s r ρ2 _ _ s1
      | ret d => exact .ok s1 _)
theorem simW (h : SimM Fe A C) (c : Ex) (body : List St) (ρ : Env) (μ μ' : Store) (s : SimS Fe μ μ') : SimR Fe (stepW A c body ρ μ) (stepW C c body ρ μ') :=
  .bind (h.t c ρ μ μ' s) fun t μ1 μ1' s1 => by
    cases t with
    | true => exact .bind (h.s body ρ _ _ s1) fun fl μ2 μ2' s2 => (by
        cases fl with
        | nx ρ2 => exact h.w c body ρ2 _ _ s2
        | ret d => exact .ok s2 _)
    | false => exact .ok s1 _
theorem sim_lev {a c : Nat → List D → Store → R D} (hc : ∀ f ds μ μ', SimS Fe μ μ' → SimR Fe (a f ds μ) (c f ds μ')) : ∀ n, SimM Fe (lev a n) (lev c n)
  | 0 => ⟨fun _ _ _ _ _ => .stuck, fun _ _ _ _ _ => .stuck, fun _ _ _ _ _ => .stuck, fun _ _ _ _ _ _ => .stuck, hc⟩
  | n + 1 => have h := sim_lev hc n; ⟨simE h, simT h, simS h, simW h, hc⟩
theorem sim_run (h : SimM Fe A C) (F : Fn) (ds : List D) (μ μ' : Store) (s : SimS Fe μ μ') : SimR Fe (runF A F ds μ) (runF C F ds μ') := .bind (h.s F.body _ μ μ' s) fun fl μ1 μ1' s1 => .ok s1 _
theorem sim_backP {μ μ' ν ν' : Store} (s : SimS Fe μ μ') (q : SimS Fe ν ν') (d : D) : SimR Fe (backP μ d ν) (backP μ' d ν') := by
  cases d with
  | ref i =>
    unfold backP
    simp only
    cases e : nthD ν i with
    | none => exact .stuck
    | some o =>
      obtain ⟨o', e1, r⟩ := q.at e
      rw [e1]
      cases o with
      | lst l => rw [r.lst]; exact .ok s _
      | dct l => rw [r.dct]; simp only; rw [s.len]; exact .ok (s.app (.inl ⟨rfl, rfl⟩)) _
      | dcT l => rw [r.dcT]; simp only; rw [s.len]; exact .ok (s.app (.inl ⟨rfl, rfl⟩)) _
      | opq ps =>
        rcases r with ⟨rfl, hn⟩ | ⟨ps', st, e2, rfl, g⟩
        · cases hn
        · cases e2
          simp only; rw [s.len]; exact .ok (s.app (.inr ⟨_, _, rfl, rfl, g⟩)) _
  | _ => exact .ok s _
theorem sim_callF (h : SimM Fe A C) (F : Fn) (ds : List D) (μ μ' : Store) (s : SimS Fe μ μ') : SimR Fe (callF A F ds μ) (callF C F ds μ') := by
  unfold callF
  split
  · split
    · have r := sim_run h F ds [] [] .nil
      revert r
      generalize runF A F ds [] = a
      generalize runF C F ds [] = c
      intro r
      cases a with
      | stuck => exact .stuck
      | ok d ν => obtain ⟨ν', rfl, q⟩ := r; exact sim_backP s q d
      | exc k fs ν => obtain ⟨ν', rfl, q⟩ := r; exact ⟨μ', rfl, s⟩
    · have r := sim_run h F ds μ μ' s
      revert r
      generalize runF A F ds μ = a
      generalize runF C F ds μ' = c
      intro r
      rw [s.len]
      cases a with
      | stuck => exact .stuck
      | ok d ν =>
        obtain ⟨ν', rfl, q⟩ := r
        show SimR Fe (backR _ d ν) (backR _ d ν')
        unfold backR
        cases d <;> simp only
        case ref i =>
          split
          · exact .ok (q.take _) _
          · exact .stuck
        all_goals exact .ok (q.take _) _
      | exc k fs ν => obtain ⟨ν', rfl, q⟩ := r; exact ⟨_, rfl, q.take _⟩
  · exact .stuck
end

/-- a draw beside: the next answer -/
def drawA (ds : List D) (μ : Store) : R D :=
  match ds with
  | [.ref i, .int b] => match nthD μ i with
    | some (.opq ((b', r) :: ps)) => if decide (b = b') then .ok (.int r) (setN μ i (.opq ps)) else .stuck
    | _ => .stuck
  | _ => .stuck
/-- calls, the draws given: di is the draw -/
def callA (di : Nat) (P : List Fn) : Nat → Nat → List D → Store → R D
  | 0, _, _, _ => .stuck
  | k + 1, f, ds, μ => if Nat.beq f di then (if Nat.beq k 0 then .stuck else drawA ds μ) else match nthD P f with
    | none => .stuck
    | some F => callF (lev (callA di P k) fuel) F ds μ
/-- what is known of a law's draw and feed -/
structure FeedOk (Fe : Feed) (P : List Fn) (fi di : Nat) (st0 : List Int → Fs) : Prop where
  draw : ∀ (k : Nat) (μ : Store) (i : Nat) (st : Fs) (b : Int), nthD μ i = some (.dct (Fe.fd st)) → 0 < b → b < 1073741824 → callAt P (k + 2) di [.ref i, .int b] μ = .ok (.int (Fe.dr st b).1) (setN μ i (.dct (Fe.fd (Fe.dr st b).2)))
  feed : ∀ (k : Nat) (ns : List Int), ns.length ≤ 63 → callAt P (k + 2) fi [.scr ns] [] = .ok (.ref 0) [.dct (Fe.fd (st0 ns))]
  rng : ∀ (st : Fs) (b : Int), 0 < b → b < 1073741824 → 0 ≤ (Fe.dr st b).1 ∧ (Fe.dr st b).1 < b
section
variable {Fe : Feed} {P : List Fn} {fi di : Nat} {st0 : List Int → Fs}
theorem sim_call (K : FeedOk Fe P fi di st0) : ∀ (k f : Nat) (ds : List D) (μ μ' : Store), SimS Fe μ μ' → SimR Fe (callA di P k f ds μ) (callAt P k f ds μ')
  | 0, _, _, _, _, _ => .stuck
  | k + 1, f, ds, μ, μ', s => by
    unfold callA
    by_cases hf : Nat.beq f di = true
    · rw [if_pos hf]
      have hf := Nat.eq_of_beq_eq_true hf
      subst hf
      by_cases hk : Nat.beq k 0 = true
      · rw [if_pos hk]; exact .stuck
      · rw [if_neg hk]
        unfold drawA
        split
        · rename_i i b
          split
          · rename_i b' r ps hl
            split
            · rename_i hb
              have hb := of_decide_eq_true hb
              subst hb
              obtain ⟨c, e1, rr⟩ := s.at hl
              rcases rr with ⟨rfl, hn⟩ | ⟨ps', st, e2, rfl, g⟩
              · cases hn
              · cases e2
                obtain ⟨g1, g2, g3, g4⟩ := g
                obtain ⟨k, rfl⟩ : ∃ k', k = k' + 1 := by
                  cases k with
                  | zero => exact absurd rfl hk
                  | succ k => exact ⟨k, rfl⟩
                have e3 := K.draw k μ' i st b e1 g1 g2
                rw [e3, g3]
                exact .ok (s.set (.inr ⟨_, _, rfl, rfl, g4⟩)) _
            · exact .stuck
          · exact .stuck
        · exact .stuck
    · rw [if_neg hf]
      unfold callAt
      cases nthD P f with
      | none => exact .stuck
      | some F => exact sim_callF (sim_lev (sim_call K k) fuel) F ds μ μ' s
/-- answers for the bounds bs -/
theorem good_draws (K : FeedOk Fe P fi di st0) : ∀ (bs : List Int) (st : Fs), (∀ b ∈ bs, 0 < b ∧ b < 1073741824) → ∃ rs : List Int, rs.length = bs.length ∧ Good Fe (bs.zip rs) st ∧ ∀ (i : Nat) (b r : Int), bs[i]? = some b → rs[i]? = some r → 0 ≤ r ∧ r < b
  | [], st, _ => ⟨[], rfl, trivial, fun i b r h => by simp at h⟩
  | b :: bs, st, h => by
    obtain ⟨h1, h2⟩ := h b (List.mem_cons_self ..)
    obtain ⟨rs, e1, e2, e3⟩ := good_draws K bs (Fe.dr st b).2 fun x hx => h x (List.mem_cons_of_mem _ hx)
    refine ⟨(Fe.dr st b).1 :: rs, by simp [e1], ⟨h1, h2, rfl, e2⟩, fun i x r q1 q2 => ?_⟩
    cases i with
    | zero => simp at q1 q2; subst q1; subst q2; exact K.rng st b h1 h2
    | succ i => exact e3 i x r (by simpa using q1) (by simpa using q2)
/-- the law's def behind its first statement, in which the feed is made -/
def lawRest (c : Nat → List D → Store → R D) (F : Fn) (i : Nat) (rest : List St) (ns : List Int) (μ : Store) : R D :=
  thenP [] (((lev c 16777216).s rest (setE (frameE F.ns [.scr ns]) i (.ref 0)) μ).bind fun fl μ => .ok (outD fl) μ)
theorem law_step (K : FeedOk Fe P fi di st0) {k L i : Nat} {F : Fn} {rest : List St} {ns : List Int} (hn : ns.length ≤ 63) (hP : nthD P L = some F) (hp : F.np = 1) (hns : F.ns = F.ns) (h0 : nthD (frameE F.ns [D.scr ns]) 0 = some (some (.scr ns)))
    (hb : F.body = .asg i (.call fi [.var 0] [] [.inl 0]) :: rest) : callAt P (k + 3) L [.scr ns] [] = lawRest (callAt P (k + 2)) F i rest ns [.dct (Fe.fd (st0 ns))] := by
  have e1 : callAt P (k + 3) L [.scr ns] [] = callF (lev (callAt P (k + 2)) fuel) F [.scr ns] [] := by
    show (match nthD P L with | none => R.stuck | some F => callF (lev (callAt P (k + 2)) fuel) F [.scr ns] []) = _
    rw [hP]
  rw [e1]
  have hc : Nat.beq [D.scr ns].length F.np = true := by rw [hp]; rfl
  unfold callF
  rw [if_pos hc]
  show thenP [] (runF (lev (callAt P (k + 2)) fuel) F [.scr ns] []) = _
  unfold runF lawRest
  rw [hb]
  have e2 : (lev (callAt P (k + 2)) fuel).s (.asg i (.call fi [.var 0] [] [.inl 0]) :: rest) (frameE F.ns [.scr ns]) [] =
      (lev (callAt P (k + 2)) 16777216).s rest (setE (frameE F.ns [.scr ns]) i (.ref 0)) [.dct (Fe.fd (st0 ns))] := by
    have f1 : (lev (callAt P (k + 2)) fuel).s (.asg i (.call fi [.var 0] [] [.inl 0]) :: rest) (frameE F.ns [.scr ns]) [] =
        sThen (lev (callAt P (k + 2)) 16777216) rest (((lev (callAt P (k + 2)) 16777216).e (.call fi [.var 0] [] [.inl 0]) (frameE F.ns [.scr ns]) []).bind fun d μ => .ok (.nx (setE (frameE F.ns [.scr ns]) i d)) μ) := rfl
    have f2 : (lev (callAt P (k + 2)) 16777216).e (.call fi [.var 0] [] [.inl 0]) (frameE F.ns [.scr ns]) [] = .ok (.ref 0) [.dct (Fe.fd (st0 ns))] := by
      have g1 : getE (frameE F.ns [.scr ns]) 0 = some (.scr ns) := by unfold getE; rw [h0]
      have g2 : (lev (callAt P (k + 2)) 16777216).e (.call fi [.var 0] [] [.inl 0]) (frameE F.ns [.scr ns]) [] = (((liftO (getE (frameE F.ns [.scr ns]) 0) []).bind fun d μ => (R.ok [] μ).bind fun ds μ => .ok (d :: ds) μ).bind fun ds μ => (R.ok [] μ).bind fun es μ => (liftO (selD (ds ++ es) [.inl 0]) μ).bind fun xs μ => callAt P (k + 2) fi xs μ) := rfl
      rw [g2, g1]
      exact K.feed k ns hn
    rw [f1, f2]
    rfl
  rw [e2]
/-- a law is true where the run beside is, for all answers -/
theorem law_by (K : FeedOk Fe P fi di st0) {k L i : Nat} {F : Fn} {rest : List St} {ns : List Int} (bs : List Int) (hn : ns.length ≤ 63) (hP : nthD P L = some F) (hp : F.np = 1) (h0 : nthD (frameE F.ns [D.scr ns]) 0 = some (some (.scr ns)))
    (hb : F.body = .asg i (.call fi [.var 0] [] [.inl 0]) :: rest) (hbs : ∀ b ∈ bs, 0 < b ∧ b < 1073741824)
    (h : ∀ rs : List Int, rs.length = bs.length → (∀ (i : Nat) (b r : Int), bs[i]? = some b → rs[i]? = some r → 0 ≤ r ∧ r < b) → (lawRest (callA di P (k + 2)) F i rest ns [.opq (bs.zip rs)]).isTrue = true) : (callAt P (k + 3) L [.scr ns] []).isTrue = true := by
  rw [law_step K hn hP hp rfl h0 hb]
  obtain ⟨rs, e1, e2, e3⟩ := good_draws K bs (st0 ns) hbs
  have q := h rs e1 e3
  have s : SimR Fe (lawRest (callA di P (k + 2)) F i rest ns [.opq (bs.zip rs)]) (lawRest (callAt P (k + 2)) F i rest ns [.dct (Fe.fd (st0 ns))]) := by
    unfold lawRest
    have r : SimR Fe (((lev (callA di P (k + 2)) 16777216).s rest (setE (frameE F.ns [.scr ns]) i (.ref 0)) [.opq (bs.zip rs)]).bind fun fl μ => .ok (outD fl) μ) (((lev (callAt P (k + 2)) 16777216).s rest (setE (frameE F.ns [.scr ns]) i (.ref 0)) [.dct (Fe.fd (st0 ns))]).bind fun fl μ => .ok (outD fl) μ) :=
      .bind ((sim_lev (sim_call K (k + 2)) 16777216).s rest _ _ _ (.cons (.inr ⟨_, _, rfl, rfl, e2⟩) .nil)) fun fl μ1 μ1' s1 => .ok s1 _
    revert r
    generalize (((lev (callA di P (k + 2)) 16777216).s rest (setE (frameE F.ns [.scr ns]) i (.ref 0)) [.opq (bs.zip rs)]).bind fun fl μ => R.ok (outD fl) μ) = a
    generalize (((lev (callAt P (k + 2)) 16777216).s rest (setE (frameE F.ns [.scr ns]) i (.ref 0)) [.dct (Fe.fd (st0 ns))]).bind fun fl μ => R.ok (outD fl) μ) = c
    intro r
    cases a with
    | stuck => exact .stuck
    | ok d ν => obtain ⟨ν', rfl, q⟩ := r; exact sim_backP .nil q d
    | exc kk fs ν => obtain ⟨ν', rfl, q⟩ := r; exact ⟨[], rfl, .nil⟩
  revert s q
  generalize lawRest (callA di P (k + 2)) F i rest ns [.opq (bs.zip rs)] = a
  intro q s
  cases a with
  | stuck => cases q
  | ok d ν =>
    obtain ⟨ν', e, _⟩ := s
    rw [e]
    cases d <;> first | (cases q; done) | skip
    rename_i b
    cases b with
    | true => rfl
    | false => cases q
  | exc _ _ _ => cases q
end
end EV

/-! EV: what all feeds and draws share. -/
namespace EV
open PySem
theorem lev_e (c : Nat → List D → Store → R D) (n : Nat) (e : Ex) (ρ : Env) (μ : Store) : (lev c (n + 1)).e e ρ μ = stepE (lev c n) e ρ μ := rfl
theorem lev_t (c : Nat → List D → Store → R D) (n : Nat) (e : Ex) (ρ : Env) (μ : Store) : (lev c (n + 1)).t e ρ μ = stepT (lev c n) e ρ μ := rfl
theorem lev_s (c : Nat → List D → Store → R D) (n : Nat) (b : List St) (ρ : Env) (μ : Store) : (lev c (n + 1)).s b ρ μ = stepS (lev c n) b ρ μ := rfl
theorem lev_s_cons (c : Nat → List D → Store → R D) (n : Nat) (st : St) (r : List St) (ρ : Env) (μ : Store) : (lev c (n + 1)).s (st :: r) ρ μ = sThen (lev c n) r (sOne (lev c n) st ρ μ) := rfl
theorem lev_s_nil (c : Nat → List D → Store → R D) (n : Nat) (ρ : Env) (μ : Store) : (lev c (n + 1)).s [] ρ μ = .ok (.nx ρ) μ := rfl
theorem bind_ok {α β : Type} (a : α) (μ : Store) (f : α → Store → R β) : (R.ok a μ).bind f = f a μ := rfl
theorem lift_some {α : Type} (a : α) (μ : Store) : liftO (some a) μ = .ok a μ := rfl
theorem flats_ints (n : Nat) : ∀ l : List Int, D.flats n (l.map D.int) = true
  | [] => rfl
  | a :: l => by simp only [List.map_cons, D.flats, D.flat, Bool.true_and]; exact flats_ints n l
theorem b4 : Nat.blt 4 16777216 = true := by decide
theorem setN_len {α : Type} (l : List α) (i : Nat) (a : α) : (setN l i a).length = l.length := by rw [setN_set]; simp
theorem nthD_setN {l : Store} {i : Nat} {x : Ob} (h : nthD l i = some x) (o : Ob) : nthD (setN l i o) i = some o := by
  rw [nthD_get] at h ⊢
  rw [setN_set, List.getElem?_set_self (List.getElem?_eq_some_iff.mp h).1]
theorem setN_setN {α : Type} (l : List α) (i : Nat) (a b : α) : setN (setN l i a) i b = setN l i b := by rw [setN_set, setN_set, setN_set, List.set_set]
theorem setN_take {α : Type} (l : List α) (i : Nat) (a : α) : (setN l i a).take l.length = setN l i a := List.take_of_length_le (by rw [setN_len]; exact Nat.le_refl _)
/-- the cell that is drawn from -/
def numOf (cs : List Int) (sp c0 : Int) : Int :=
  match cs with
  | [] => c0
  | cs => (nthD cs (sp % cs.length).toNat).getD 0
theorem idx_num (cs : List Int) (sp c0 : Int) (h : cs ≠ []) : idxD (.lst (cs.map D.int)) (.int (sp % cs.length)) = some (.int (numOf cs sp c0)) := by
  have hl : 0 < cs.length := List.length_pos_iff.mpr h
  have h1 := Int.emod_nonneg sp (show (cs.length : Int) ≠ 0 by omega)
  have h2 := Int.emod_lt_of_pos sp (show (0 : Int) < cs.length by omega)
  have e0 : numOf cs sp c0 = (nthD cs (sp % cs.length).toNat).getD 0 := by
    cases cs with
    | nil => exact absurd rfl h
    | cons a l => rfl
  rw [e0]
  obtain ⟨m, hm⟩ := Int.eq_ofNat_of_zero_le h1
  rw [hm] at h2 ⊢
  have h3 : m < cs.length := by omega
  show nthD (cs.map D.int) m = some (D.int ((nthD cs m).getD 0))
  rw [nthD_get, nthD_get, List.getElem?_map, List.getElem?_eq_getElem h3]
  rfl
structure Cn where
  c0 : Int
  c1 : Int
  c2 : Int
  c3 : Int
  c4 : Int
  c5 : Int
  c6 : Int
  c7 : Int
  c8 : Int
  c9 : Int
def mix1 (c : Cn) (x tu : Int) : Int := (x % c.c1 + c.c2 * tu + c.c3) % c.c4
def mix2 (c : Cn) (z tu : Int) : Int := (z * z + c.c5 * tu + c.c6) % c.c7
def mix3 (c : Cn) (z b : Int) : Int := ((z * z + c.c8 * z) % c.c9 / 16) % b
def drw (c : Cn) (st : Fs) (b : Int) : Int × Fs :=
  if 0 < st.re then (st.re % b, ⟨st.cs, st.sp, st.re / b, st.tu + 1⟩)
  else
    let x := numOf st.cs st.sp c.c0
    if 1000000000000000000 ≤ x ∧ st.sp < st.cs.length then (x % b, ⟨st.cs, st.sp + 1, x / b, st.tu + 1⟩)
    else (mix3 c (mix2 c (mix1 c x (st.tu + 1)) (st.tu + 1)) b, ⟨st.cs, st.sp + 1, st.re, st.tu + 1⟩)
theorem drw_rng (c : Cn) (st : Fs) (b : Int) (h : 0 < b) : 0 ≤ (drw c st b).1 ∧ (drw c st b).1 < b := by
  have key : ∀ z : Int, 0 ≤ z % b ∧ z % b < b := fun z => ⟨Int.emod_nonneg _ (by omega), Int.emod_lt_of_pos _ h⟩
  unfold drw
  split
  · exact key _
  · simp only
    split
    · exact key _
    · exact key _
theorem inB_mod (m : Int) (h : 0 < m) (h2 : m < 18446744073709551616) (z : Int) : inB (z % m) = true := by
  have h1 := Int.emod_nonneg z (show m ≠ 0 by omega)
  have h2 := Int.emod_lt_of_pos z h
  unfold inB
  simp only [Bool.and_eq_true, decide_eq_true_eq]
  omega
theorem cells_lc (S : Sem) (a : Option D) (hS : ∀ i : Int, S.e (.bi .int (.var 1)) [a, some (.int i)] [] = .ok (.int i) []) : ∀ (l : List Int) (m : Nat), l.length < m → compL S [a, none] (.nm 1) none (.bi .int (.var 1)) m (.vals (l.map D.int)) [] = .ok (l.map D.int) []
  | [], m + 1, _ => by
    unfold compL
    rfl
  | i :: l, m + 1, h => by
    have ih := cells_lc S a hS l m (by simpa using h)
    unfold compL
    show ((noX (S.e (.bi .int (.var 1)) [a, some (.int i)] [])).bind fun d μ => if d.isRef then .stuck else (compL S [a, none] (.nm 1) none (.bi .int (.var 1)) m (.vals (l.map D.int)) μ).bind fun ds μ => .ok (d :: ds) μ) = _
    rw [hS]
    show ((compL S [a, none] (.nm 1) none (.bi .int (.var 1)) m (.vals (l.map D.int)) []).bind fun ds μ => .ok (D.int i :: ds) μ) = _
    rw [ih]
    rfl
theorem slice63 (ns : List Int) (h : ns.length ≤ 63) : sliceL (ns.map D.int) none (some 63) = ns.map D.int := by
  unfold sliceL sIx
  simp
  rw [List.take_of_length_le]
  rw [List.length_map]; omega
theorem short_map (ns : List Int) (h : ns.length ≤ 63) (d : D) : shortO (ns.map D.int) d = some d := by
  unfold shortO short
  rw [if_pos]
  exact Nat.ble_eq_true_of_le (by rw [List.length_map]; unfold cap; omega)
/-- all answers below the bounds -/
def allN (p : Int → Bool) : Nat → Bool
  | 0 => true
  | n + 1 => allN p n && p n
def allC : List Int → (List Int → Bool) → Bool
  | [], p => p []
  | b :: bs, p => allN (fun r => allC bs fun rs => p (r :: rs)) b.toNat
theorem allN_ok {p : Int → Bool} : ∀ {n : Nat}, allN p n = true → ∀ r : Int, 0 ≤ r → r < n → p r = true
  | 0, _, r, h1, h2 => by omega
  | n + 1, h, r, h1, h2 => by
    simp only [allN, Bool.and_eq_true] at h
    by_cases e : r = n
    · subst e; exact h.2
    · exact allN_ok h.1 r h1 (by omega)
theorem allC_ok : ∀ {bs : List Int} {p : List Int → Bool}, allC bs p = true → ∀ rs : List Int, rs.length = bs.length → (∀ (i : Nat) (b r : Int), bs[i]? = some b → rs[i]? = some r → 0 ≤ r ∧ r < b) → p rs = true
  | [], p, h, rs, hl, _ => by
    have : rs = [] := List.eq_nil_of_length_eq_zero (by simpa using hl)
    subst this
    exact h
  | b :: bs, p, h, [], hl, _ => by simp at hl
  | b :: bs, p, h, r :: rs, hl, hr => by
    obtain ⟨r1, r2⟩ := hr 0 b r rfl rfl
    have := allN_ok h r r1 (by omega)
    exact allC_ok this rs (by simpa using hl) fun i b' r' e1 e2 => hr (i + 1) b' r' (by simpa using e1) (by simpa using e2)
end EV

/-! EV: loops of a law, turn by turn. -/
namespace EV
open PySem
/-- an environment: what is known, and what may be anything -/
def mkE : List (Option D) → List (Option D) → Env
  | [], _ => []
  | some d :: m, ds => some d :: mkE m ds
  | none :: m, d :: ds => d :: mkE m ds
  | none :: m, [] => none :: mkE m []
def holes : List (Option D) → Nat
  | [] => 0
  | some _ :: m => holes m
  | none :: m => holes m + 1
def deq : D → D → Bool
  | .ref i, .ref j => Nat.beq i j
  | a, b => D.same a b
theorem deq_eq {a b : D} (h : deq a b = true) : a = b := by
  unfold deq at h
  split at h
  · rw [Nat.eq_of_beq_eq_true h]
  · exact same_eq _ _ h
def keepsB : List (Option D) → Env → Bool
  | [], [] => true
  | some d :: m, some d' :: ρ => deq d d' && keepsB m ρ
  | none :: m, _ :: ρ => keepsB m ρ
  | _, _ => false
theorem keepsB_ok : ∀ {m : List (Option D)} {ρ : Env}, keepsB m ρ = true → ∃ ds, ds.length = holes m ∧ ρ = mkE m ds
  | [], [], _ => ⟨[], rfl, rfl⟩
  | some d :: m, some d' :: ρ, h => by
    simp only [keepsB, Bool.and_eq_true] at h
    obtain ⟨ds, h1, h2⟩ := keepsB_ok h.2
    exact ⟨ds, h1, by rw [h2, deq_eq h.1]; rfl⟩
  | none :: m, x :: ρ, h => by
    simp only [keepsB] at h
    obtain ⟨ds, h1, h2⟩ := keepsB_ok h
    exact ⟨x :: ds, by simp [holes, h1], by rw [h2]; rfl⟩
  | [], _ :: _, h => by simp [keepsB] at h
  | some _ :: _, [], h => by simp [keepsB] at h
  | some _ :: _, none :: _, h => by simp [keepsB] at h
  | none :: _, [], h => by simp [keepsB] at h
/-- the store is the feed's cell with nothing left to draw -/
def onlyFeed : Store → Bool
  | [.opq []] => true
  | _ => false
theorem onlyFeed_eq {μ : Store} (h : onlyFeed μ = true) : μ = [.opq []] := by
  unfold onlyFeed at h
  split at h
  · rfl
  · cases h
/-- one turn -/
def stepB (S : Sem) (t : Tg) (body : List St) (m : List (Option D)) (ρ : Env) (x : D) : Bool :=
  match bindT ρ t x with
  | none => false
  | some ρ' => match S.s body ρ' [.opq []] with
    | .ok (.nx ρ2) μ2 => keepsB m (dropE 1 ρ2) && onlyFeed (μ2.take 1)
    | _ => false
theorem forLG_all {S : Sem} {t : Tg} {body : List St} {m : List (Option D)} : ∀ (l : List D) (n : Nat) (ds : List (Option D)), l.length < n → (∀ x ∈ l, ∀ ds, ds.length = holes m → stepB S t body m (mkE m ds) x = true) → ds.length = holes m →
    ∃ ds', ds'.length = holes m ∧ forLG S t body 1 n (.vals l) (mkE m ds) [.opq []] = .ok (.nx (mkE m ds')) [.opq []]
  | [], n + 1, ds, _, _, hd => ⟨ds, hd, rfl⟩
  | x :: l, n + 1, ds, hn, h, hd => by
    have h1 := h x (List.mem_cons_self ..) ds hd
    unfold stepB at h1
    have e : forLG S t body 1 (n + 1) (.vals (x :: l)) (mkE m ds) [.opq []] = (match bindT (mkE m ds) t x with
      | none => .stuck
      | some ρ' => (S.s body ρ' [.opq []]).bind fun fl μ => match fl with
        | .nx ρ => forLG S t body 1 n (.vals l) (dropE 1 ρ) (μ.take 1)
        | .ret d => .ok (.ret d) μ) := rfl
    rw [e]
    cases hb : bindT (mkE m ds) t x with
    | none => rw [hb] at h1; cases h1
    | some ρ' =>
      rw [hb] at h1
      simp only at h1 ⊢
      cases hs : S.s body ρ' [.opq []] with
      | stuck => rw [hs] at h1; cases h1
      | exc _ _ _ => rw [hs] at h1; cases h1
      | ok fl μ2 =>
        rw [hs] at h1
        cases fl with
        | ret d => cases h1
        | nx ρ2 =>
          simp only [Bool.and_eq_true] at h1
          obtain ⟨ds2, e1, e2⟩ := keepsB_ok h1.1
          have e3 := onlyFeed_eq h1.2
          obtain ⟨ds3, e4, e5⟩ := forLG_all l n ds2 (by simpa using hn) (fun y hy => h y (List.mem_cons_of_mem _ hy)) e1
          refine ⟨ds3, e4, ?_⟩
          show forLG S t body 1 n (.vals l) (dropE 1 ρ2) (μ2.take 1) = _
          rw [e2, e3]
          exact e5
/-- all of a list at once, for the kernel -/
def allB (p : D → Bool) : List D → Bool
  | [] => true
  | x :: l => p x && allB p l
theorem allB_ok {p : D → Bool} : ∀ {l : List D}, allB p l = true → ∀ x ∈ l, p x = true
  | [], _, x, hx => by simp at hx
  | y :: l, h, x, hx => by
    simp only [allB, Bool.and_eq_true] at h
    rcases List.mem_cons.mp hx with rfl | hx
    · exact h.1
    · exact allB_ok h.2 x hx
/-- a list turned about -/
theorem rot_slices (l : List D) (r : Int) (h0 : 0 ≤ r) (h1 : r < l.length) : sliceL l (some r) none = l.drop r.toNat ∧ sliceL l none (some r) = l.take r.toNat := by
  have hn : ¬ r < 0 := by omega
  have hm : min r.toNat l.length = r.toNat := by omega
  unfold sliceL sIx
  simp only [hn, if_false, hm]
  refine ⟨?_, by simp⟩
  rw [List.take_of_length_le]
  rw [List.length_drop]
  exact Nat.le_refl _
theorem eval_rot (c : Nat → List D → Store → R D) (n : Nat) (a b : Nat) (l : List D) (r : Int) (ρ : Env) (μ : Store) (ha : getE ρ a = some (.lst l)) (hb : getE ρ b = some (.int r)) (h0 : 0 ≤ r) (h1 : r < l.length) (hl : Nat.ble l.length 16777216 = true) :
    (lev c (n + 3)).e (.bin .add (.slice (.var a) (some (.var b)) none) (.slice (.var a) none (some (.var b)))) ρ μ = .ok (.lst (l.drop r.toNat ++ l.take r.toNat)) μ := by
  obtain ⟨e1, e2⟩ := rot_slices l r h0 h1
  have f1 : (lev c (n + 2)).e (.slice (.var a) (some (.var b)) none) ρ μ = .ok (.lst (l.drop r.toNat)) μ := by
    show ((liftO (getE ρ a) μ).bind fun x μ => ((liftO (getE ρ b) μ).bind fun d μ => liftO ((asI d).map some) μ).bind fun lo μ => (R.ok none μ).bind fun hi μ => liftO (sliceD (view μ x) lo hi) μ) = _
    rw [ha, hb, ← e1]
    rfl
  have f2 : (lev c (n + 2)).e (.slice (.var a) none (some (.var b))) ρ μ = .ok (.lst (l.take r.toNat)) μ := by
    show ((liftO (getE ρ a) μ).bind fun x μ => (R.ok none μ).bind fun lo μ => ((liftO (getE ρ b) μ).bind fun d μ => liftO ((asI d).map some) μ).bind fun hi μ => liftO (sliceD (view μ x) lo hi) μ) = _
    rw [ha, hb, ← e2]
    rfl
  show (((lev c (n + 2)).e (.slice (.var a) (some (.var b)) none) ρ μ).bind fun x μ => ((lev c (n + 2)).e (.slice (.var a) none (some (.var b))) ρ μ).bind fun y μ => liftO (bop .add (view μ x) (view μ y)) μ) = _
  rw [f1]
  show (((lev c (n + 2)).e (.slice (.var a) none (some (.var b))) ρ μ).bind fun y μ => liftO (bop .add (D.lst (l.drop r.toNat)) (view μ y)) μ) = _
  rw [f2]
  show liftO (bop .add (D.lst (l.drop r.toNat)) (D.lst (l.take r.toNat))) μ = _
  have hs : short (l.drop r.toNat ++ l.take r.toNat) = true := by
    unfold short
    refine Nat.ble_eq_true_of_le ?_
    have := Nat.le_of_ble_eq_true hl
    rw [List.length_append, List.length_drop, List.length_take]
    show _ ≤ 16777216
    omega
  simp only [bop, bopAdd, hs, if_true]
  rfl
theorem forG_step {c : Nat → List D → Store → R D} {n N : Nat} {t : Tg} {it : Itx} {body tail : List St} {l : List D} {ρ ρ' : Env} (hN : fuel = N) (hi : evIt (lev c n).e ρ [.opq []] it = .ok (.vals l) [.opq []]) (h : forLG (lev c n) t body 1 N (.vals l) ρ [.opq []] = .ok (.nx ρ') [.opq []]) :
    (lev c (n + 1)).s (.forG t it body :: tail) ρ [.opq []] = (lev c n).s tail ρ' [.opq []] := by
  have e : (lev c (n + 1)).s (.forG t it body :: tail) ρ [.opq []] = sThen (lev c n) tail (sForG (lev c n) t it body ρ [.opq []]) := rfl
  rw [e]
  unfold sForG
  rw [hN, hi]
  show sThen (lev c n) tail (forLG (lev c n) t body [Ob.opq []].length N (.vals l) ρ [.opq []]) = _
  have e3 : [Ob.opq []].length = 1 := rfl
  rw [e3, h]
  rfl
/-- for x in some[start:] + some[:start] -/
theorem for_rot {c : Nat → List D → Store → R D} {n : Nat} {t : Tg} {body tail : List St} {a b : Nat} {l : List D} {r : Int} {m : List (Option D)} {ds : List (Option D)} (ha : getE (mkE m ds) a = some (.lst l)) (hb : getE (mkE m ds) b = some (.int r)) (h0 : 0 ≤ r) (h1 : r < l.length) (hl : Nat.ble l.length 16777216 = true) (hd : ds.length = holes m)
    (h : ∀ x ∈ l, ∀ ds, ds.length = holes m → stepB (lev c (n + 3)) t body m (mkE m ds) x = true) :
    ∃ ds', ds'.length = holes m ∧ (lev c (n + 4)).s (.forG t (.seq (.bin .add (.slice (.var a) (some (.var b)) none) (.slice (.var a) none (some (.var b))))) body :: tail) (mkE m ds) [.opq []] = (lev c (n + 3)).s tail (mkE m ds') [.opq []] := by
  have hle := Nat.le_of_ble_eq_true hl
  obtain ⟨ds', e1, e2⟩ := forLG_all (S := lev c (n + 3)) (l.drop r.toNat ++ l.take r.toNat) fuel ds (by rw [List.length_append, List.length_drop, List.length_take]; unfold fuel; omega) (fun x hx => h x (by
    rcases List.mem_append.mp hx with q | q
    · exact List.mem_of_mem_drop q
    · exact List.mem_of_mem_take q)) hd
  refine ⟨ds', e1, ?_⟩
  refine forG_step (N := fuel) rfl ?_ e2
  have e3 : evIt (lev c (n + 3)).e (mkE m ds) [.opq []] (.seq (.bin .add (.slice (.var a) (some (.var b)) none) (.slice (.var a) none (some (.var b))))) = ((lev c (n + 3)).e (.bin .add (.slice (.var a) (some (.var b)) none) (.slice (.var a) none (some (.var b)))) (mkE m ds) [.opq []]).bind fun d μ => liftO ((srcOf d).bind fun s => if srcOk μ s then some s else none) μ := rfl
  rw [e3, eval_rot c n a b l r _ _ ha hb h0 h1 hl]
  rfl
/-- for x in a list that is known -/
theorem for_cl {c : Nat → List D → Store → R D} {n : Nat} {t : Tg} {it : Itx} {body tail : List St} {l : List D} {m : List (Option D)} {ds : List (Option D)} (hi : evIt (lev c n).e (mkE m ds) [.opq []] it = .ok (.vals l) [.opq []]) (hl : Nat.ble l.length 16777216 = true) (hd : ds.length = holes m)
    (h : ∀ x ∈ l, ∀ ds, ds.length = holes m → stepB (lev c n) t body m (mkE m ds) x = true) :
    ∃ ds', ds'.length = holes m ∧ (lev c (n + 1)).s (.forG t it body :: tail) (mkE m ds) [.opq []] = (lev c n).s tail (mkE m ds') [.opq []] := by
  have hle := Nat.le_of_ble_eq_true hl
  obtain ⟨ds', e1, e2⟩ := forLG_all (S := lev c n) l fuel ds (by unfold fuel; omega) h hd
  exact ⟨ds', e1, forG_step (N := fuel) rfl hi e2⟩
theorem one_step {c : Nat → List D → Store → R D} {n : Nat} {st : St} {tail : List St} {ρ ρ' : Env} {μ μ' : Store} (h : sOne (lev c n) st ρ μ = .ok (.nx ρ') μ') : (lev c (n + 1)).s (st :: tail) ρ μ = (lev c n).s tail ρ' μ' := by
  show sThen (lev c n) tail (sOne (lev c n) st ρ μ) = _
  rw [h]
  rfl
theorem ret_true {c : Nat → List D → Store → R D} {n : Nat} {tail : List St} {ρ : Env} {μ : Store} : (lev c (n + 2)).s (.ret (.con (.bl true)) :: tail) ρ μ = .ok (.ret (.bl true)) μ := rfl
/-- the list that an answer is -/
def unL : R D → List D
  | .ok (.lst l) _ => l
  | .ok (.tup l) _ => l
  | _ => []
def isL : R D → Bool
  | .ok (.lst _) [] => true
  | _ => false
def unD : D → List D
  | .lst l => l
  | .tup l => l
  | _ => []
def unV : R Src → List D
  | .ok (.vals l) _ => l
  | _ => []
def slotD (r : R Fl) (i : Nat) : D :=
  match r with
  | .ok (.nx ρ) _ => (getE ρ i).getD .non
  | _ => .non
theorem mem_chunk {l : List D} {x : D} (k n : Nat) (h : x ∈ l.drop k) : x ∈ (l.drop k).take n ∨ x ∈ l.drop (k + n) := by
  have e : l.drop k = (l.drop k).take n ++ l.drop (k + n) := by
    rw [← List.drop_drop, List.take_append_drop]
  rw [e] at h
  exact List.mem_append.mp h
theorem lawRest_of {c : Nat → List D → Store → R D} {F : Fn} {i : Nat} {rest : List St} {ns : List Int} {μ : Store} {ρ : Env} (hρ : setE (frameE F.ns [.scr ns]) i (.ref 0) = ρ) (h : (lev c 16777216).s rest ρ μ = .ok (.ret (.bl true)) [.opq []]) : (lawRest c F i rest ns μ).isTrue = true := by
  unfold lawRest
  rw [hρ, h]
  rfl
theorem lev_num {c : Nat → List D → Store → R D} {rest : List St} {μ : Store} {ρ : Env} {r : R Fl} (h : ∀ n, (lev c (n + 60)).s rest ρ μ = r) : (lev c 16777216).s rest ρ μ = r := by
  have e : (16777216 : Nat) = 16777156 + 60 := rfl
  rw [e]
  exact h 16777156
/-! ### a loop in a call whose values are no refs -/
def stepP (S : Sem) (t : Tg) (body : List St) (m : List (Option D)) (ρ : Env) (x : D) : Bool :=
  match bindT ρ t x with
  | none => false
  | some ρ' => match S.s body ρ' [] with
    | .ok (.nx ρ2) μ2 => keepsB m (dropE 0 ρ2)
    | _ => false
theorem forLG_pure {S : Sem} {t : Tg} {body : List St} {m : List (Option D)} : ∀ (l : List D) (n : Nat) (ds : List (Option D)), l.length < n → (∀ x ∈ l, ∀ ds, ds.length = holes m → stepP S t body m (mkE m ds) x = true) → ds.length = holes m →
    ∃ ds', ds'.length = holes m ∧ forLG S t body 0 n (.vals l) (mkE m ds) [] = .ok (.nx (mkE m ds')) []
  | [], n + 1, ds, _, _, hd => ⟨ds, hd, rfl⟩
  | x :: l, n + 1, ds, hn, h, hd => by
    have h1 := h x (List.mem_cons_self ..) ds hd
    unfold stepP at h1
    have e : forLG S t body 0 (n + 1) (.vals (x :: l)) (mkE m ds) [] = (match bindT (mkE m ds) t x with
      | none => .stuck
      | some ρ' => (S.s body ρ' []).bind fun fl μ => match fl with
        | .nx ρ => forLG S t body 0 n (.vals l) (dropE 0 ρ) (μ.take 0)
        | .ret d => .ok (.ret d) μ) := rfl
    rw [e]
    cases hb : bindT (mkE m ds) t x with
    | none => rw [hb] at h1; cases h1
    | some ρ' =>
      rw [hb] at h1
      simp only at h1 ⊢
      cases hs : S.s body ρ' [] with
      | stuck => rw [hs] at h1; cases h1
      | exc _ _ _ => rw [hs] at h1; cases h1
      | ok fl μ2 =>
        rw [hs] at h1
        cases fl with
        | ret d => cases h1
        | nx ρ2 =>
          obtain ⟨ds2, e1, e2⟩ := keepsB_ok h1
          obtain ⟨ds3, e4, e5⟩ := forLG_pure l n ds2 (by simpa using hn) (fun y hy => h y (List.mem_cons_of_mem _ hy)) e1
          refine ⟨ds3, e4, ?_⟩
          show forLG S t body 0 n (.vals l) (dropE 0 ρ2) (μ2.take 0) = _
          rw [e2, List.take_zero]
          exact e5
theorem forG_pure {c : Nat → List D → Store → R D} {n N : Nat} {t : Tg} {it : Itx} {body tail : List St} {l : List D} {ρ ρ' : Env} (hN : fuel = N) (hi : evIt (lev c n).e ρ [] it = .ok (.vals l) []) (h : forLG (lev c n) t body 0 N (.vals l) ρ [] = .ok (.nx ρ') []) :
    (lev c (n + 1)).s (.forG t it body :: tail) ρ [] = (lev c n).s tail ρ' [] := by
  have e : (lev c (n + 1)).s (.forG t it body :: tail) ρ [] = sThen (lev c n) tail (sForG (lev c n) t it body ρ []) := rfl
  rw [e]
  unfold sForG
  rw [hN, hi]
  show sThen (lev c n) tail (forLG (lev c n) t body ([] : Store).length N (.vals l) ρ []) = _
  have e3 : ([] : Store).length = 0 := rfl
  rw [e3, h]
  rfl
/-- a def that goes through its one value, a list, and answers True -/
theorem loop_fn {c : Nat → List D → Store → R D} {F : Fn} {t : Tg} {body : List St} {l : List D} {m : List (Option D)} {ds : List (Option D)} (hb : F.body = [.forG t (.seq (.var 0)) body, .ret (.con (.bl true))]) (hp : F.np = 1) (hm : frameE F.ns [.lst l] = mkE m ds) (hd : ds.length = holes m) (h0 : getE (mkE m ds) 0 = some (.lst l)) (hl : Nat.ble l.length 16777216 = true)
    (h : ∀ n, ∀ x ∈ l, ∀ ds, ds.length = holes m → stepP (lev c (n + 59)) t body m (mkE m ds) x = true) (μ : Store) : callF (lev c fuel) F [.lst l] μ = .ok (.bl true) μ := by
  have hle := Nat.le_of_ble_eq_true hl
  have run : ∀ n, (lev c (n + 60)).s F.body (mkE m ds) [] = .ok (.ret (.bl true)) [] := by
    intro n
    obtain ⟨ds', e1, e2⟩ := forLG_pure (S := lev c (n + 59)) l fuel ds (by unfold fuel; omega) (h n) hd
    rw [hb]
    rw [forG_pure (N := fuel) rfl ?_ e2]
    · exact ret_true
    · have e3 : evIt (lev c (n + 59)).e (mkE m ds) [] (.seq (.var 0)) = ((liftO (getE (mkE m ds) 0) []).bind fun d μ => liftO ((srcOf d).bind fun s => if srcOk μ s then some s else none) μ) := rfl
      rw [e3, h0]
      rfl
  have hr : runF (lev c fuel) F [.lst l] [] = .ok (.bl true) [] := by
    unfold runF
    rw [hm]
    have e : fuel = 16777157 + 60 := rfl
    rw [e, run]
    rfl
  have hc : Nat.beq [D.lst l].length F.np = true := by rw [hp]; rfl
  unfold callF
  rw [if_pos hc]
  show thenP μ (runF (lev c fuel) F [.lst l] []) = _
  rw [hr]
  rfl
def valD : R D → D
  | .ok d _ => d
  | _ => .non
/-- a list of as many -/
theorem list1 {α : Type} : ∀ {l : List α}, l.length = 0 → l = []
  | [], _ => rfl
  | _ :: _, h => by simp at h
theorem listS {α : Type} {n : Nat} : ∀ {l : List α}, l.length = n + 1 → ∃ a t, l = a :: t ∧ t.length = n
  | [], h => by simp at h
  | a :: t, h => ⟨a, t, rfl, by simpa using h⟩
end EV

/-! EV run fast by the kernel: the text is turned into small functions once (den), every look at data is a recursor with closed minors. -/
namespace EV
noncomputable section

/-! ### looks at data: what is known of one kind, and the rest by `g`, which has the data itself -/

/-- lists by place -/
def nthF {α : Type} (l : List α) : Nat → Option α :=
  @List.rec α (fun _ => Nat → Option α) (fun _ => none) (fun a _ ih n => @Nat.rec (fun _ => α → (Nat → Option α) → Option α) (fun a _ => some a) (fun m _ _ ih => ih m) n a ih) l
theorem nthF_eq {α : Type} (l : List α) : ∀ n, nthF l n = nthD l n := by
  induction l with
  | nil => intro n; rfl
  | cons a l ih => intro n; cases n with
    | zero => rfl
    | succ n => exact ih n
def setF {α : Type} (l : List α) : Nat → α → List α :=
  @List.rec α (fun _ => Nat → α → List α) (fun _ _ => []) (fun a l ih n o => @Nat.rec (fun _ => α → List α → (Nat → α → List α) → α → List α) (fun _ l _ o => o :: l) (fun m _ a _ ih o => a :: ih m o) n a l ih o) l
theorem setF_eq {α : Type} (l : List α) : ∀ n o, setF l n o = setN l n o := by
  induction l with
  | nil => intro n o; rfl
  | cons a l ih => intro n o; cases n with
    | zero => rfl
    | succ n => exact congrArg (a :: ·) (ih n o)

/-! ### the order of answers -/
def Le {α : Type} (r r' : R α) : Prop := r = .stuck ∨ r = r'
theorem Le.rfl {α : Type} {r : R α} : Le r r := .inr _root_.rfl
theorem Le.stuck {α : Type} {r : R α} : Le .stuck r := .inl _root_.rfl
theorem Le.of {α : Type} {r r' : R α} (h : r = r') : Le r r' := .inr h
theorem Le.trans {α : Type} {a b c : R α} (h : Le a b) (h' : Le b c) : Le a c := by
  rcases h with h | h
  · exact .inl h
  · rw [h]; exact h'
theorem Le.bind {α β : Type} {r r' : R α} {f f' : α → Store → R β} (h : Le r r') (hf : ∀ a μ, Le (f a μ) (f' a μ)) : Le (r.bind f) (r'.bind f') := by
  rcases h with h | h
  · rw [h]; exact .inl _root_.rfl
  · rw [h]; cases r' with
    | ok a μ => exact hf a μ
    | exc c fs μ => exact .inr _root_.rfl
    | stuck => exact .inl _root_.rfl

/-- bind, one constant for each pair of kinds, so that nothing is copied -/
def bDD : R D → (D → Store → R D) → R D := fun (r : R (D)) => @R.rec (D) (fun _ => ((D) → Store → R (D)) → R (D)) (fun a μ f => f a μ) (fun c fs μ _ => .exc c fs μ) (fun _ => .stuck) r
def bDB : R D → (D → Store → R Bool) → R Bool := fun (r : R (D)) => @R.rec (D) (fun _ => ((D) → Store → R (Bool)) → R (Bool)) (fun a μ f => f a μ) (fun c fs μ _ => .exc c fs μ) (fun _ => .stuck) r
def bDF : R D → (D → Store → R Fl) → R Fl := fun (r : R (D)) => @R.rec (D) (fun _ => ((D) → Store → R (Fl)) → R (Fl)) (fun a μ f => f a μ) (fun c fs μ _ => .exc c fs μ) (fun _ => .stuck) r
def bDS : R D → (D → Store → R Src) → R Src := fun (r : R (D)) => @R.rec (D) (fun _ => ((D) → Store → R (Src)) → R (Src)) (fun a μ f => f a μ) (fun c fs μ _ => .exc c fs μ) (fun _ => .stuck) r
def bDL : R D → (D → Store → R (List D)) → R (List D) := fun (r : R (D)) => @R.rec (D) (fun _ => ((D) → Store → R (List D)) → R (List D)) (fun a μ f => f a μ) (fun c fs μ _ => .exc c fs μ) (fun _ => .stuck) r
def bLL : R (List D) → (List D → Store → R (List D)) → R (List D) := fun (r : R (List D)) => @R.rec (List D) (fun _ => ((List D) → Store → R (List D)) → R (List D)) (fun a μ f => f a μ) (fun c fs μ _ => .exc c fs μ) (fun _ => .stuck) r
def bLD : R (List D) → (List D → Store → R D) → R D := fun (r : R (List D)) => @R.rec (List D) (fun _ => ((List D) → Store → R (D)) → R (D)) (fun a μ f => f a μ) (fun c fs μ _ => .exc c fs μ) (fun _ => .stuck) r
def bLF : R (List D) → (List D → Store → R Fl) → R Fl := fun (r : R (List D)) => @R.rec (List D) (fun _ => ((List D) → Store → R (Fl)) → R (Fl)) (fun a μ f => f a μ) (fun c fs μ _ => .exc c fs μ) (fun _ => .stuck) r
def bBD : R Bool → (Bool → Store → R D) → R D := fun (r : R (Bool)) => @R.rec (Bool) (fun _ => ((Bool) → Store → R (D)) → R (D)) (fun a μ f => f a μ) (fun c fs μ _ => .exc c fs μ) (fun _ => .stuck) r
def bBB : R Bool → (Bool → Store → R Bool) → R Bool := fun (r : R (Bool)) => @R.rec (Bool) (fun _ => ((Bool) → Store → R (Bool)) → R (Bool)) (fun a μ f => f a μ) (fun c fs μ _ => .exc c fs μ) (fun _ => .stuck) r
def bBF : R Bool → (Bool → Store → R Fl) → R Fl := fun (r : R (Bool)) => @R.rec (Bool) (fun _ => ((Bool) → Store → R (Fl)) → R (Fl)) (fun a μ f => f a μ) (fun c fs μ _ => .exc c fs μ) (fun _ => .stuck) r
def bBL : R Bool → (Bool → Store → R (List D)) → R (List D) := fun (r : R (Bool)) => @R.rec (Bool) (fun _ => ((Bool) → Store → R (List D)) → R (List D)) (fun a μ f => f a μ) (fun c fs μ _ => .exc c fs μ) (fun _ => .stuck) r
def bSD : R Src → (Src → Store → R D) → R D := fun (r : R (Src)) => @R.rec (Src) (fun _ => ((Src) → Store → R (D)) → R (D)) (fun a μ f => f a μ) (fun c fs μ _ => .exc c fs μ) (fun _ => .stuck) r
def bSF : R Src → (Src → Store → R Fl) → R Fl := fun (r : R (Src)) => @R.rec (Src) (fun _ => ((Src) → Store → R (Fl)) → R (Fl)) (fun a μ f => f a μ) (fun c fs μ _ => .exc c fs μ) (fun _ => .stuck) r
def bSL : R Src → (Src → Store → R (List D)) → R (List D) := fun (r : R (Src)) => @R.rec (Src) (fun _ => ((Src) → Store → R (List D)) → R (List D)) (fun a μ f => f a μ) (fun c fs μ _ => .exc c fs μ) (fun _ => .stuck) r
def bFF : R Fl → (Fl → Store → R Fl) → R Fl := fun (r : R (Fl)) => @R.rec (Fl) (fun _ => ((Fl) → Store → R (Fl)) → R (Fl)) (fun a μ f => f a μ) (fun c fs μ _ => .exc c fs μ) (fun _ => .stuck) r
def bFD : R Fl → (Fl → Store → R D) → R D := fun (r : R (Fl)) => @R.rec (Fl) (fun _ => ((Fl) → Store → R (D)) → R (D)) (fun a μ f => f a μ) (fun c fs μ _ => .exc c fs μ) (fun _ => .stuck) r

/-! ### ints -/
def snn : Nat → Nat → Int := fun m n => @Nat.rec (fun _ => Nat → Nat → Int) (fun m n => .ofNat (Nat.sub m n)) (fun k _ _ _ => .negSucc k) (Nat.sub n m) m n
theorem snn_eq (m n : Nat) : snn m n = Int.subNatNat m n := by
  unfold snn Int.subNatNat
  show _ = match n - m with | 0 => Int.ofNat (m - n) | k + 1 => Int.negSucc k
  have : Nat.sub n m = n - m := rfl
  rw [this]
  cases n - m <;> rfl
def iadd : Int → Int → Int := fun i j => @Int.rec (fun _ => Int → Int)
  (fun n j => @Int.rec (fun _ => Nat → Int) (fun m n => .ofNat (Nat.add n m)) (fun m n => snn n (Nat.succ m)) j n)
  (fun n j => @Int.rec (fun _ => Nat → Int) (fun m n => snn m (Nat.succ n)) (fun m n => .negSucc (Nat.succ (Nat.add n m))) j n) i j
theorem iadd_eq (i j : Int) : iadd i j = i + j := by
  cases i <;> cases j
  · rfl
  · exact snn_eq _ _
  · exact snn_eq _ _
  · rfl
def ineg : Int → Int := fun i => @Int.rec (fun _ => Int) (fun n => @Nat.rec (fun _ => Int) (.ofNat 0) (fun k _ => .negSucc k) n) (fun n => .ofNat (Nat.succ n)) i
theorem ineg_eq (i : Int) : ineg i = -i := by
  cases i with
  | ofNat n => cases n <;> rfl
  | negSucc n => rfl
def isub : Int → Int → Int := fun i j => @Int.rec (fun _ => Int → Int)
  (fun n j => @Int.rec (fun _ => Nat → Int) (fun m n => snn n m) (fun m n => .ofNat (Nat.add n (Nat.succ m))) j n)
  (fun n j => iadd (.negSucc n) (ineg j)) i j
theorem isub_eq (i j : Int) : isub i j = i - j := by
  cases i with
  | ofNat n => cases j with
    | ofNat m => 
      show snn n m = _
      rw [snn_eq]; exact (Int.subNatNat_eq_coe).trans rfl
    | negSucc m => rfl
  | negSucc n => show iadd (.negSucc n) (ineg j) = _; rw [iadd_eq, ineg_eq]; rfl
theorem nbeq_ne {n m : Nat} (h : n ≠ m) : Nat.beq n m = false := by
  cases e : Nat.beq n m with
  | false => rfl
  | true => exact absurd (Nat.eq_of_beq_eq_true e) h
def ieq : Int → Int → Bool := fun i j => @Int.rec (fun _ => Int → Bool)
  (fun n j => @Int.rec (fun _ => Nat → Bool) (fun m n => Nat.beq n m) (fun _ _ => false) j n)
  (fun n j => @Int.rec (fun _ => Nat → Bool) (fun _ _ => false) (fun m n => Nat.beq n m) j n) i j
theorem ieq_eq (i j : Int) : ieq i j = decide (i = j) := by
  cases i with
  | ofNat n => cases j with
    | ofNat m => show Nat.beq n m = _; by_cases h : n = m
                 · subst h; simp
                 · have h' : ¬ (Int.ofNat n = Int.ofNat m) := fun e => h (Int.ofNat.inj e)
                   rw [decide_eq_false h']; exact nbeq_ne h
    | negSucc m => exact (decide_eq_false (fun e => Int.noConfusion e)).symm
  | negSucc n => cases j with
    | ofNat m => exact (decide_eq_false (fun e => Int.noConfusion e)).symm
    | negSucc m => show Nat.beq n m = _; by_cases h : n = m
                   · subst h; simp
                   · have h' : ¬ (Int.negSucc n = Int.negSucc m) := fun e => h (Int.negSucc.inj e)
                     rw [decide_eq_false h']; exact nbeq_ne h
def ilt : Int → Int → Bool := fun i j => @Int.rec (fun _ => Int → Bool)
  (fun n j => @Int.rec (fun _ => Nat → Bool) (fun m n => Nat.ble (Nat.succ n) m) (fun _ _ => false) j n)
  (fun n j => @Int.rec (fun _ => Nat → Bool) (fun _ _ => true) (fun m n => Nat.ble (Nat.succ m) n) j n) i j
theorem ilt_eq (i j : Int) : ilt i j = decide (i < j) := by
  rw [Bool.eq_iff_iff, decide_eq_true_iff]
  cases i with
  | ofNat n => cases j with
    | ofNat m => show Nat.ble (Nat.succ n) m = true ↔ _; rw [Nat.ble_eq]; simp only [Int.ofNat_eq_natCast]; omega
    | negSucc m => show false = true ↔ _; simp only [Int.ofNat_eq_natCast, Int.negSucc_eq]; constructor
                   · intro h; cases h
                   · intro h; omega
  | negSucc n => cases j with
    | ofNat m => show true = true ↔ _; simp only [Int.ofNat_eq_natCast, Int.negSucc_eq]; constructor
                 · intro _; omega
                 · intro _; trivial
    | negSucc m => show Nat.ble (Nat.succ m) n = true ↔ _; rw [Nat.ble_eq]; simp only [Int.negSucc_eq]; omega

/-! ### two values: ints at once, the rest by the slow way -/
def int2b : D → Int → (Int → Int → Store → R D) → (D → D → Store → R D) → D → D → Store → R D :=
  (@D.rec (fun _ => ((Int → (Int → Int → Store → R D) → (D → D → Store → R D) → D → D → Store → R D))) (fun _ => Unit) ((fun _ _ slow x y μ => slow x y μ)) (fun _ => ((fun _ _ slow x y μ => slow x y μ))) ((fun j i g _ _ _ μ => g i j μ)) (fun _ => ((fun _ _ slow x y μ => slow x y μ))) (fun _ _ => ((fun _ _ slow x y μ => slow x y μ))) (fun _ _ => ((fun _ _ slow x y μ => slow x y μ))) (fun _ => ((fun _ _ slow x y μ => slow x y μ))) (fun _ => ((fun _ _ slow x y μ => slow x y μ))) (fun _ _ => ((fun _ _ slow x y μ => slow x y μ))) (fun _ => ((fun _ _ slow x y μ => slow x y μ))) (fun _ _ => ((fun _ _ slow x y μ => slow x y μ))) () (fun _ _ _ _ => ()))
def int2a : D → (Int → Int → Store → R D) → (D → D → Store → R D) → D → D → Store → R D :=
  (@D.rec (fun _ => (((Int → Int → Store → R D) → (D → D → Store → R D) → D → D → Store → R D))) (fun _ => Unit) ((fun _ slow x y μ => slow x y μ)) (fun _ => ((fun _ slow x y μ => slow x y μ))) ((fun i g slow x y μ => int2b y i g slow x y μ)) (fun _ => ((fun _ slow x y μ => slow x y μ))) (fun _ _ => ((fun _ slow x y μ => slow x y μ))) (fun _ _ => ((fun _ slow x y μ => slow x y μ))) (fun _ => ((fun _ slow x y μ => slow x y μ))) (fun _ => ((fun _ slow x y μ => slow x y μ))) (fun _ _ => ((fun _ slow x y μ => slow x y μ))) (fun _ => ((fun _ slow x y μ => slow x y μ))) (fun _ _ => ((fun _ slow x y μ => slow x y μ))) () (fun _ _ _ _ => ()))
def int2 (g : Int → Int → Store → R D) (slow : D → D → Store → R D) : D → D → Store → R D := fun x y μ => int2a x g slow x y μ
theorem int2_eq {g : Int → Int → Store → R D} {slow : D → D → Store → R D} (h : ∀ i j μ, g i j μ = slow (.int i) (.int j) μ) (x y : D) (μ : Store) : int2 g slow x y μ = slow x y μ := by
  cases x <;> first | rfl | (cases y <;> first | rfl | exact h _ _ _)
def int2tb : D → Int → (Int → Int → Store → R Bool) → (D → D → Store → R Bool) → D → D → Store → R Bool :=
  (@D.rec (fun _ => ((Int → (Int → Int → Store → R Bool) → (D → D → Store → R Bool) → D → D → Store → R Bool))) (fun _ => Unit) ((fun _ _ slow x y μ => slow x y μ)) (fun _ => ((fun _ _ slow x y μ => slow x y μ))) ((fun j i g _ _ _ μ => g i j μ)) (fun _ => ((fun _ _ slow x y μ => slow x y μ))) (fun _ _ => ((fun _ _ slow x y μ => slow x y μ))) (fun _ _ => ((fun _ _ slow x y μ => slow x y μ))) (fun _ => ((fun _ _ slow x y μ => slow x y μ))) (fun _ => ((fun _ _ slow x y μ => slow x y μ))) (fun _ _ => ((fun _ _ slow x y μ => slow x y μ))) (fun _ => ((fun _ _ slow x y μ => slow x y μ))) (fun _ _ => ((fun _ _ slow x y μ => slow x y μ))) () (fun _ _ _ _ => ()))
def int2ta : D → (Int → Int → Store → R Bool) → (D → D → Store → R Bool) → D → D → Store → R Bool :=
  (@D.rec (fun _ => (((Int → Int → Store → R Bool) → (D → D → Store → R Bool) → D → D → Store → R Bool))) (fun _ => Unit) ((fun _ slow x y μ => slow x y μ)) (fun _ => ((fun _ slow x y μ => slow x y μ))) ((fun i g slow x y μ => int2tb y i g slow x y μ)) (fun _ => ((fun _ slow x y μ => slow x y μ))) (fun _ _ => ((fun _ slow x y μ => slow x y μ))) (fun _ _ => ((fun _ slow x y μ => slow x y μ))) (fun _ => ((fun _ slow x y μ => slow x y μ))) (fun _ => ((fun _ slow x y μ => slow x y μ))) (fun _ _ => ((fun _ slow x y μ => slow x y μ))) (fun _ => ((fun _ slow x y μ => slow x y μ))) (fun _ _ => ((fun _ slow x y μ => slow x y μ))) () (fun _ _ _ _ => ()))
def int2t (g : Int → Int → Store → R Bool) (slow : D → D → Store → R Bool) : D → D → Store → R Bool := fun x y μ => int2ta x g slow x y μ
theorem int2t_eq {g : Int → Int → Store → R Bool} {slow : D → D → Store → R Bool} (h : ∀ i j μ, g i j μ = slow (.int i) (.int j) μ) (x y : D) (μ : Store) : int2t g slow x y μ = slow x y μ := by
  cases x <;> first | rfl | (cases y <;> first | rfl | exact h _ _ _)
def slowB (op : Bop) (x y : D) (μ : Store) : R D := liftO (bop op (view μ x) (view μ y)) μ
def slowC (op : Cop) (x y : D) (μ : Store) : R Bool := liftO (cop op (view μ x) (view μ y)) μ
def fAdd : D → D → Store → R D := int2 (fun i j μ => .ok (.int (iadd i j)) μ) (slowB .add)
theorem fAdd_eq (x y : D) (μ : Store) : fAdd x y μ = slowB .add x y μ := int2_eq (fun i j μ => by rw [iadd_eq]; rfl) x y μ
def fSub : D → D → Store → R D := int2 (fun i j μ => .ok (.int (isub i j)) μ) (slowB .sub)
theorem fSub_eq (x y : D) (μ : Store) : fSub x y μ = slowB .sub x y μ := int2_eq (fun i j μ => by rw [isub_eq]; rfl) x y μ
def fEq : D → D → Store → R Bool := int2t (fun i j μ => .ok (ieq i j) μ) (slowC .eq)
theorem fEq_eq (x y : D) (μ : Store) : fEq x y μ = slowC .eq x y μ := int2t_eq (fun i j μ => by rw [ieq_eq]; rfl) x y μ
def fNe : D → D → Store → R Bool := int2t (fun i j μ => .ok (not (ieq i j)) μ) (slowC .ne)
theorem fNe_eq (x y : D) (μ : Store) : fNe x y μ = slowC .ne x y μ := int2t_eq (fun i j μ => by rw [ieq_eq]; rfl) x y μ
def fLt : D → D → Store → R Bool := int2t (fun i j μ => .ok (ilt i j) μ) (slowC .lt)
theorem fLt_eq (x y : D) (μ : Store) : fLt x y μ = slowC .lt x y μ := int2t_eq (fun i j μ => by rw [ilt_eq]; rfl) x y μ
def fGt : D → D → Store → R Bool := int2t (fun i j μ => .ok (ilt j i) μ) (slowC .gt)
theorem fGt_eq (x y : D) (μ : Store) : fGt x y μ = slowC .gt x y μ := int2t_eq (fun i j μ => by rw [ilt_eq]; rfl) x y μ
theorem ile_eq (i j : Int) : (not (ilt j i)) = decide (i ≤ j) := by
  rw [ilt_eq, Bool.eq_iff_iff, decide_eq_true_iff, Bool.not_eq_true', decide_eq_false_iff_not]; omega
def fLe : D → D → Store → R Bool := int2t (fun i j μ => .ok (not (ilt j i)) μ) (slowC .le)
theorem fLe_eq (x y : D) (μ : Store) : fLe x y μ = slowC .le x y μ := int2t_eq (fun i j μ => by rw [ile_eq]; rfl) x y μ
def fGe : D → D → Store → R Bool := int2t (fun i j μ => .ok (not (ilt i j)) μ) (slowC .ge)
theorem fGe_eq (x y : D) (μ : Store) : fGe x y μ = slowC .ge x y μ := int2t_eq (fun i j μ => by rw [ile_eq]; rfl) x y μ

def natOf : Int → (Nat → Store → R D) → (D → D → Store → R D) → D → D → Store → R D := fun i => @Int.rec (fun _ => (Nat → Store → R D) → (D → D → Store → R D) → D → D → Store → R D) (fun n g _ _ _ μ => g n μ) (fun _ _ slow x y μ => slow x y μ) i
/-- two numbers from nought up -/
def nat2 (g : Nat → Nat → Store → R D) (slow : D → D → Store → R D) : D → D → Store → R D :=
  int2 (fun i j μ => @Int.rec (fun _ => Int → (Nat → Nat → Store → R D) → (D → D → Store → R D) → Int → Store → R D)
    (fun n j g slow i μ => @Int.rec (fun _ => Nat → (Nat → Nat → Store → R D) → (D → D → Store → R D) → Int → Int → Store → R D) (fun m n g _ _ _ μ => g n m μ) (fun _ _ _ slow i j μ => slow (.int i) (.int j) μ) j n g slow i j μ)
    (fun _ j _ slow i μ => slow (.int i) (.int j) μ) i j g slow i μ) slow
theorem nat2_eq {g : Nat → Nat → Store → R D} {slow : D → D → Store → R D} (h : ∀ n m μ, g n m μ = slow (.int (.ofNat n)) (.int (.ofNat m)) μ) (x y : D) (μ : Store) : nat2 g slow x y μ = slow x y μ :=
  int2_eq (fun i j μ => by
    cases i with
    | ofNat n => cases j with
      | ofNat m => exact h n m μ
      | negSucc m => rfl
    | negSucc n => rfl) x y μ
/-- where the second is not nought -/
def pos (g : R D) (slow : R D) (m : Nat) : R D := @Nat.rec (fun _ => R D → R D → R D) (fun _ s => s) (fun _ _ g _ => g) m g slow
def fMod : D → D → Store → R D := nat2 (fun n m μ => pos (.ok (.int (.ofNat (Nat.mod n m))) μ) .stuck m) (slowB .mod)
theorem fMod_eq (x y : D) (μ : Store) : fMod x y μ = slowB .mod x y μ := nat2_eq (fun n m μ => by
  cases m with
  | zero => rfl
  | succ m =>
    show R.ok (D.int (.ofNat (Nat.mod n (m + 1)))) μ = liftO ((if decide ((0 : Int) < .ofNat (m + 1)) then some ((Int.ofNat n) % (.ofNat (m + 1))) else none).map D.int) μ
    have : decide ((0 : Int) < .ofNat (m + 1)) = true := decide_eq_true (by simp only [Int.ofNat_eq_natCast]; omega)
    rw [this]; rfl) x y μ
def fDiv : D → D → Store → R D := nat2 (fun n m μ => pos (@Bool.rec (fun _ => R D → R D) (fun _ => .stuck) (fun r => r) (Nat.ble m 1073741823) (.ok (.int (.ofNat (Nat.div n m))) μ)) .stuck m) (slowB .fdiv)
theorem fDiv_eq (x y : D) (μ : Store) : fDiv x y μ = slowB .fdiv x y μ := nat2_eq (fun n m μ => by
  cases m with
  | zero => rfl
  | succ m =>
    show @Bool.rec (fun _ => R D → R D) (fun _ => .stuck) (fun r => r) (Nat.ble (m + 1) 1073741823) (.ok (.int (.ofNat (Nat.div n (m + 1)))) μ) = liftO ((if decide ((0 : Int) < .ofNat (m + 1)) && decide ((Int.ofNat (m + 1)) < 1073741824) then some ((Int.ofNat n) / (.ofNat (m + 1))) else none).map D.int) μ
    have : decide ((0 : Int) < .ofNat (m + 1)) = true := decide_eq_true (by simp only [Int.ofNat_eq_natCast]; omega)
    rw [this]
    have h2 : decide ((Int.ofNat (m + 1)) < 1073741824) = Nat.ble (m + 1) 1073741823 := by
      rw [Bool.eq_iff_iff, decide_eq_true_iff, Nat.ble_eq]; simp only [Int.ofNat_eq_natCast]; omega
    rw [h2]; cases Nat.ble (m + 1) 1073741823 <;> rfl) x y μ
def inN (n : Nat) : Bool := Nat.ble n 18446744073709551615
theorem inN_inB {n : Nat} (h : inN n = true) : inB (.ofNat n) = true := by
  have := Nat.le_of_ble_eq_true h
  simp only [inB, Bool.and_eq_true, decide_eq_true_iff, Int.ofNat_eq_natCast]; omega

theorem int2_le {g : Int → Int → Store → R D} {slow : D → D → Store → R D} (h : ∀ i j μ, Le (g i j μ) (slow (.int i) (.int j) μ)) (x y : D) (μ : Store) : Le (int2 g slow x y μ) (slow x y μ) := by
  cases x <;> first | exact Le.rfl | (cases y <;> first | exact Le.rfl | exact h _ _ _)
theorem nat2_le {g : Nat → Nat → Store → R D} {slow : D → D → Store → R D} (h : ∀ n m μ, Le (g n m μ) (slow (.int (.ofNat n)) (.int (.ofNat m)) μ)) (x y : D) (μ : Store) : Le (nat2 g slow x y μ) (slow x y μ) :=
  int2_le (fun i j μ => by
    cases i with
    | ofNat n => cases j with
      | ofNat m => exact h n m μ
      | negSucc m => exact Le.rfl
    | negSucc n => exact Le.rfl) x y μ
def mulG (n m : Nat) (μ : Store) : R D := @Bool.rec (fun _ => R D → R D) (fun _ => .stuck) (fun r => r) (inN n) (.ok (.int (.ofNat (Nat.mul n m))) μ)
theorem mulG_le (n m : Nat) (μ : Store) : Le (mulG n m μ) (slowB .mul (.int (.ofNat n)) (.int (.ofNat m)) μ) := by
  have h : slowB .mul (.int (.ofNat n)) (.int (.ofNat m)) μ = liftO (if inB (.ofNat n) || inB (.ofNat m) then some (.int (.ofNat n * .ofNat m)) else none) μ := rfl
  rw [h]
  unfold mulG
  cases e : inN n with
  | false => exact Le.stuck
  | true => rw [inN_inB e]; exact Le.rfl
def fMul : D → D → Store → R D := nat2 mulG (slowB .mul)
theorem fMul_le (x y : D) (μ : Store) : Le (fMul x y μ) (slowB .mul x y μ) := nat2_le mulG_le x y μ

/-! ### places -/
def optF : Option D → Store → R D := fun o => @Option.rec D (fun _ => Store → R D) (fun _ => .stuck) (fun d μ => .ok d μ) o
def slowI (x y : D) (μ : Store) : R D := liftO (idxD (view μ x) y) μ
def idxN : Int → List D → D → D → Store → R D := fun i => @Int.rec (fun _ => List D → D → D → Store → R D) (fun n l _ _ μ => optF (nthF l n) μ) (fun _ _ x y μ => slowI x y μ) i
def idxI : D → List D → D → D → Store → R D := (@D.rec (fun _ => ((List D → D → D → Store → R D))) (fun _ => Unit) ((fun _ x y μ => slowI x y μ)) (fun _ => ((fun _ x y μ => slowI x y μ))) ((fun i l x y μ => idxN i l x y μ)) (fun _ => ((fun _ x y μ => slowI x y μ))) (fun _ _ => ((fun _ x y μ => slowI x y μ))) (fun _ _ => ((fun _ x y μ => slowI x y μ))) (fun _ => ((fun _ x y μ => slowI x y μ))) (fun _ => ((fun _ x y μ => slowI x y μ))) (fun _ _ => ((fun _ x y μ => slowI x y μ))) (fun _ => ((fun _ x y μ => slowI x y μ))) (fun _ _ => ((fun _ x y μ => slowI x y μ))) () (fun _ _ _ _ => ()))
def idxC : D → D → D → Store → R D :=
  (@D.rec (fun _ => D → D → Store → R D) (fun _ => Unit) slowI (fun _ => slowI) (fun _ => slowI) (fun _ => slowI)
    (fun l _ x y μ => idxI y l x y μ) (fun l _ x y μ => idxI y l x y μ) (fun _ => slowI) (fun _ => slowI) (fun _ _ => slowI) (fun _ => slowI) (fun _ _ => slowI) () (fun _ _ _ _ => ()))
def fIdx (x y : D) (μ : Store) : R D := idxC x x y μ
theorem optF_eq (o : Option D) (μ : Store) : optF o μ = liftO o μ := by cases o <;> rfl
theorem fIdx_eq (x y : D) (μ : Store) : fIdx x y μ = slowI x y μ := by
  cases x <;> first
    | rfl
    | (cases y <;> first
        | rfl
        | (rename_i l i; cases i with
            | ofNat n => show optF (nthF l n) μ = _; rw [optF_eq, nthF_eq]; rfl
            | negSucc n => rfl))
def getV : Option (Option D) → Store → R D := fun o => @Option.rec (Option D) (fun _ => Store → R D) (fun _ => .stuck) (fun o μ => optF o μ) o
theorem getV_eq (ρ : Env) (i : Nat) (μ : Store) : getV (nthF ρ i) μ = liftO (getE ρ i) μ := by
  rw [nthF_eq]; unfold getE
  cases nthD ρ i with
  | none => rfl
  | some o => exact optF_eq o μ
def lenF {α : Type} (l : List α) : Nat := @List.rec α (fun _ => Nat) 0 (fun _ _ n => Nat.succ n) l
theorem lenF_eq {α : Type} (l : List α) : lenF l = l.length := by
  induction l with
  | nil => rfl
  | cons a l ih => exact congrArg Nat.succ ih
end
end EV

/-! EV's steps are monotone in what they call. -/
namespace EV
structure SLe (S S' : Sem) : Prop where
  e : ∀ e ρ μ, Le (S.e e ρ μ) (S'.e e ρ μ)
  t : ∀ e ρ μ, Le (S.t e ρ μ) (S'.t e ρ μ)
  s : ∀ l ρ μ, Le (S.s l ρ μ) (S'.s l ρ μ)
  w : ∀ c b ρ μ, Le (S.w c b ρ μ) (S'.w c b ρ μ)
  c : ∀ f ds μ, Le (S.c f ds μ) (S'.c f ds μ)
def ELe (f f' : EvE) : Prop := ∀ e ρ μ, Le (f e ρ μ) (f' e ρ μ)
theorem evs_le {f f' : EvE} (h : ELe f f') : ∀ es ρ μ, Le (evs f es ρ μ) (evs f' es ρ μ) := by
  intro es
  induction es with
  | nil => intro ρ μ; exact Le.rfl
  | cons e es ih => intro ρ μ; exact (h e ρ μ).bind fun d μ => (ih ρ μ).bind fun ds μ => Le.rfl
theorem evr_le {f f' : EvE} (h : ELe f f') : ∀ es ρ μ, Le (evr f es ρ μ) (evr f' es ρ μ) := by
  intro es
  induction es with
  | nil => intro ρ μ; exact Le.rfl
  | cons e es ih => intro ρ μ; exact (h e ρ μ).bind fun d μ => (ih ρ μ).bind fun ds μ => Le.rfl
theorem evsS_le {f f' : EvE} (h : ELe f f') : ∀ es ρ μ, Le (evsS f es ρ μ) (evsS f' es ρ μ) := by
  intro es
  induction es with
  | nil => intro ρ μ; exact Le.rfl
  | cons e es ih =>
    intro ρ μ
    cases e <;> first
      | exact (h _ ρ μ).bind fun d μ => Le.rfl.bind fun xs μ => (ih ρ μ).bind fun ds μ => Le.rfl
      | exact (h _ ρ μ).bind fun d μ => (ih ρ μ).bind fun ds μ => Le.rfl
theorem evIt_le {f f' : EvE} (h : ELe f f') (ρ : Env) (μ : Store) (it : Itx) : Le (evIt f ρ μ it) (evIt f' ρ μ it) := by
  cases it with
  | seq e => exact (h _ ρ μ).bind fun d μ => Le.rfl
  | rng e => exact (h _ ρ μ).bind fun d μ => Le.rfl
  | rng2 a b => exact (h _ ρ μ).bind fun d μ => (h _ ρ μ).bind fun d μ => Le.rfl
  | enum e => exact (h _ ρ μ).bind fun d μ => Le.rfl
  | zip a b => exact (h _ ρ μ).bind fun d μ => (h _ ρ μ).bind fun d μ => Le.rfl

theorem noX_le {α : Type} {r r' : R α} (h : Le r r') : Le (noX r) (noX r') := by
  rcases h with h | h
  · rw [h]; exact Le.stuck
  · rw [h]; exact Le.rfl
theorem evIf_le {f f' : Ex → Env → Store → R Bool} (h : ∀ e ρ μ, Le (f e ρ μ) (f' e ρ μ)) (ρ : Env) (μ : Store) (c : Option Ex) : Le (evIf f ρ μ c) (evIf f' ρ μ c) := by
  cases c with
  | none => exact Le.rfl
  | some c => exact h c ρ μ
theorem compL_le {S S' : Sem} (h : SLe S S') (ρ : Env) (t : Tg) (c : Option Ex) (elt : Ex) : ∀ n s μ, Le (compL S ρ t c elt n s μ) (compL S' ρ t c elt n s μ) := by
  intro n
  induction n with
  | zero => intro s μ; exact Le.rfl
  | succ n ih =>
    intro s μ
    unfold compL
    cases srcOk μ s with
    | false => exact Le.rfl
    | true =>
      simp only [if_true]
      cases nxt μ s with
      | none => exact Le.rfl
      | some p =>
        cases p with
        | mk x s' =>
          show Le (match bindT ρ t x with | none => R.stuck | some ρ' => _) (match bindT ρ t x with | none => R.stuck | some ρ' => _)
          cases bindT ρ t x with
          | none => exact Le.rfl
          | some ρ' =>
            refine Le.bind (noX_le (evIf_le h.t ρ' μ c)) fun b μ => ?_
            cases b with
            | true =>
              refine Le.bind (noX_le (h.e elt ρ' μ)) fun d μ => ?_
              cases d.isRef with
              | true => exact Le.rfl
              | false => exact Le.bind (ih s' μ) fun ds μ => Le.rfl
            | false => exact ih s' μ

theorem compL2_le {S S' : Sem} (h : SLe S S') (own' : List Nat) (ρ : Env) (t t' : Tg) (it' : Itx) (c : Option Ex) (elt : Ex) : ∀ n s μ, Le (compL2 S own' ρ t t' it' c elt n s μ) (compL2 S' own' ρ t t' it' c elt n s μ) := by
  intro n
  induction n with
  | zero => intro s μ; exact Le.rfl
  | succ n ih =>
    intro s μ
    unfold compL2
    by_cases ho : srcOk μ s = true
    · rw [if_pos ho, if_pos ho]
      cases nxt μ s with
      | none => exact Le.rfl
      | some p =>
        obtain ⟨x, s'⟩ := p
        simp only
        cases bindT ρ t x with
        | none => exact Le.rfl
        | some ρ' =>
          exact Le.bind (noX_le (evIt_le h.e ρ' μ it')) fun s1 μ => Le.bind (compL_le h _ t' c elt fuel s1 μ) fun ds μ => Le.bind (ih s' μ) fun es μ => Le.rfl
    · rw [if_neg ho, if_neg ho]; exact Le.rfl
theorem forL_le {S S' : Sem} (h : SLe S S') (t : Tg) (body : List St) : ∀ n s ρ μ, Le (forL S t body n s ρ μ) (forL S' t body n s ρ μ) := by
  intro n
  induction n with
  | zero => intro s ρ μ; exact Le.rfl
  | succ n ih =>
    intro s ρ μ
    unfold forL
    cases srcOk μ s with
    | false => exact Le.rfl
    | true =>
      simp only [if_true]
      cases nxt μ s with
      | none => exact Le.rfl
      | some p =>
        cases p with
        | mk x s' =>
          show Le (match bindT ρ t x with | none => R.stuck | some ρ' => _) (match bindT ρ t x with | none => R.stuck | some ρ' => _)
          cases bindT ρ t x with
          | none => exact Le.rfl
          | some ρ' =>
            refine Le.bind (h.s body ρ' μ) fun fl μ => ?_
            cases fl with
            | nx ρ => exact ih _ _ _
            | ret d => exact Le.rfl
theorem forLG_le {S S' : Sem} (h : SLe S S') (t : Tg) (body : List St) (n0 : Nat) : ∀ n s ρ μ, Le (forLG S t body n0 n s ρ μ) (forLG S' t body n0 n s ρ μ) := by
  intro n
  induction n with
  | zero => intro s ρ μ; exact Le.rfl
  | succ n ih =>
    intro s ρ μ
    unfold forLG
    cases srcOk μ s with
    | false => exact Le.rfl
    | true =>
      simp only [if_true]
      cases nxt μ s with
      | none => exact Le.rfl
      | some p =>
        cases p with
        | mk x s' =>
          show Le (match bindT ρ t x with | none => R.stuck | some ρ' => _) (match bindT ρ t x with | none => R.stuck | some ρ' => _)
          cases bindT ρ t x with
          | none => exact Le.rfl
          | some ρ' =>
            refine Le.bind (h.s body ρ' μ) fun fl μ => ?_
            cases fl with
            | nx ρ => exact ih _ _ _
            | ret d => exact Le.rfl
theorem compD_le {S S' : Sem} (h : SLe S S') (tup : Bool) (ρ : Env) (t : Tg) (k v : Ex) : ∀ n s acc μ, Le (compD S tup ρ t k v n s acc μ) (compD S' tup ρ t k v n s acc μ) := by
  intro n
  induction n with
  | zero => intro s acc μ; exact Le.rfl
  | succ n ih =>
    intro s acc μ
    unfold compD
    cases srcOk μ s with
    | false => exact Le.rfl
    | true =>
      simp only [if_true]
      cases nxt μ s with
      | none => exact Le.rfl
      | some p =>
        cases p with
        | mk x s' =>
          show Le (match bindT ρ t x with | none => R.stuck | some ρ' => _) (match bindT ρ t x with | none => R.stuck | some ρ' => _)
          cases bindT ρ t x with
          | none => exact Le.rfl
          | some ρ' =>
            refine Le.bind (noX_le (h.e k ρ' μ)) fun kd μ => Le.bind (noX_le (h.e v ρ' μ)) fun vd μ => ?_
            cases vd.isRef || !(if tup then keyTOk kd else keyOk kd) || !(Nat.blt acc.length cap) with
            | true => exact Le.rfl
            | false => exact ih _ _ _
end EV

/-! EV's steps are monotone in what they call, 2. -/
namespace EV
open PySem
theorem evO_le {f f' : EvE} (h : ELe f f') (ρ : Env) (μ : Store) (o : Option Ex) : Le (evO f ρ μ o) (evO f' ρ μ o) := by
  cases o with
  | none => exact Le.rfl
  | some e => exact (h _ ρ μ).bind fun d μ => Le.rfl
theorem evO0_le {f f' : EvE} (h : ELe f f') (ρ : Env) (μ : Store) (o : Option Ex) : Le (evO0 f ρ μ o) (evO0 f' ρ μ o) := by
  cases o with
  | none => exact Le.rfl
  | some e => exact (h _ ρ μ).bind fun d μ => Le.rfl
section
variable {S S' : Sem} (h : SLe S S')
include h
theorem eCmpB_le (op : Cop) (a b : Ex) (ρ : Env) (μ : Store) : Le (eCmpB S op a b ρ μ) (eCmpB S' op a b ρ μ) := (h.e a ρ μ).bind fun x μ => (h.e b ρ μ).bind fun y μ => Le.rfl
theorem eCmp2B_le (op op' : Cop) (a b c : Ex) (ρ : Env) (μ : Store) : Le (eCmp2B S op op' a b c ρ μ) (eCmp2B S' op op' a b c ρ μ) :=
  (h.e a ρ μ).bind fun x μ => (h.e b ρ μ).bind fun y μ => Le.rfl.bind fun t μ => (by cases t <;> first | exact Le.rfl | exact (h.e c ρ μ).bind fun z μ => Le.rfl)
theorem ofB_le {r r' : R Bool} (hr : Le r r') : Le (ofB r) (ofB r') := hr.bind fun b μ => Le.rfl
theorem eCall_le (f : Nat) (as : List Ex) (kws : List (Str × Ex)) (sel : List (Nat ⊕ D)) (ρ : Env) (μ : Store) : Le (eCall S f as kws sel ρ μ) (eCall S' f as kws sel ρ μ) :=
  (evr_le h.e as ρ μ).bind fun ds μ => (evr_le h.e _ ρ μ).bind fun es μ => Le.rfl.bind fun xs μ => h.c f xs μ
theorem stepE_le (e : Ex) (ρ : Env) (μ : Store) : Le (stepE S e ρ μ) (stepE S' e ρ μ) := by
  cases e with
  | var i => exact Le.rfl
  | con d => exact Le.rfl
  | glo x d => exact Le.rfl
  | bin op a b => exact (h.e a ρ μ).bind fun x μ => (h.e b ρ μ).bind fun y μ => Le.rfl
  | neg a => exact (h.e a ρ μ).bind fun x μ => Le.rfl
  | not a => exact (h.e a ρ μ).bind fun x μ => Le.rfl
  | and a b => exact (h.e a ρ μ).bind fun x μ => Le.rfl.bind fun t μ => (by cases t <;> first | exact Le.rfl | exact h.e b ρ μ)
  | or a b => exact (h.e a ρ μ).bind fun x μ => Le.rfl.bind fun t μ => (by cases t <;> first | exact h.e b ρ μ | exact Le.rfl)
  | cmp op a b => exact ofB_le h (eCmpB_le h op a b ρ μ)
  | cmp2 op op' a b c => exact ofB_le h (eCmp2B_le h op op' a b c ρ μ)
  | ife c a b => exact (h.t c ρ μ).bind fun t μ => (by cases t <;> first | exact h.e b ρ μ | exact h.e a ρ μ)
  | call f as kws sel => exact eCall_le h f as kws sel ρ μ
  | bi b a => exact (h.e a ρ μ).bind fun x μ => Le.rfl
  | isi a t => exact (h.e a ρ μ).bind fun x μ => Le.rfl
  | meth m o a => exact (h.e o ρ μ).bind fun x μ => (by show Le (if mthOk m (view μ x) then _ else _) (if mthOk m (view μ x) then _ else _); split <;> first | exact (h.e a ρ μ).bind fun y μ => Le.rfl | exact Le.rfl)
  | idx a i => exact (h.e a ρ μ).bind fun x μ => (h.e i ρ μ).bind fun y μ => Le.rfl
  | dget a k => exact (h.e a ρ μ).bind fun x μ => (h.e k ρ μ).bind fun y μ => Le.rfl
  | slice a lo hi => exact (h.e a ρ μ).bind fun x μ => (evO_le h.e ρ μ lo).bind fun l μ => (evO_le h.e ρ μ hi).bind fun l μ => Le.rfl
  | tup es => exact (evsS_le h.e es ρ μ).bind fun ds μ => Le.rfl
  | lst es => exact (evsS_le h.e es ρ μ).bind fun ds μ => Le.rfl
  | dict ks es => exact (evs_le h.e es ρ μ).bind fun ds μ => Le.rfl
  | lc own t it c elt => exact (evIt_le h.e ρ μ it).bind fun s μ => (compL_le h _ t c elt fuel s μ).bind fun ds μ => Le.rfl
  | lc2 own own' t it t' it' c elt => exact (evIt_le h.e ρ μ it).bind fun s μ => (compL2_le h own' _ t t' it' c elt fuel s μ).bind fun ds μ => Le.rfl
  | trng tup a b => exact (evO0_le h.e ρ μ a).bind fun i μ => (h.e b ρ μ).bind fun d μ => Le.rfl
  | sset a => exact (h.e a ρ μ).bind fun x μ => Le.rfl
  | lset a => exact (h.e a ρ μ).bind fun x μ => Le.rfl
  | star a => exact Le.rfl
  | new a => exact (h.e a ρ μ).bind fun x μ => Le.rfl
  | op1 o a => exact (h.e a ρ μ).bind fun x μ => Le.rfl
  | op2 o a b => exact (h.e a ρ μ).bind fun x μ => (by cases pre2 o x <;> first | exact Le.rfl | exact (h.e b ρ μ).bind fun y μ => Le.rfl)
  | op3 o a b c => exact (h.e a ρ μ).bind fun x μ => (by show Le (if isDct μ x then _ else _) (if isDct μ x then _ else _); split <;> first | exact (h.e b ρ μ).bind fun y μ => (h.e c ρ μ).bind fun z μ => Le.rfl | exact Le.rfl)
  | dnewT => exact Le.rfl
  | dc tup own t it k v => exact (evIt_le h.e ρ μ it).bind fun s μ => (compD_le h tup _ t k v fuel s [] μ).bind fun ds μ => Le.rfl
theorem tVal_le (e : Ex) (ρ : Env) (μ : Store) : Le (tVal S e ρ μ) (tVal S' e ρ μ) := (h.e e ρ μ).bind fun d μ => Le.rfl
theorem stepT_le (e : Ex) (ρ : Env) (μ : Store) : Le (stepT S e ρ μ) (stepT S' e ρ μ) := by
  cases e <;> first
    | exact Le.rfl
    | exact tVal_le h _ ρ μ
    | exact eCmpB_le h _ _ _ ρ μ
    | exact eCmp2B_le h _ _ _ _ _ ρ μ
    | exact (h.t _ ρ μ).bind fun b μ => Le.rfl
    | exact (h.t _ ρ μ).bind fun t μ => (by cases t <;> first | exact Le.rfl | exact h.t _ ρ μ)
    | exact (h.t _ ρ μ).bind fun t μ => (by cases t <;> first | exact h.t _ ρ μ | exact Le.rfl)
    | (rename_i o a b
       cases o with
       | din neg => exact (h.e a ρ μ).bind fun x μ => (h.e b ρ μ).bind fun y μ => Le.rfl
       | split => exact Le.rfl)
theorem sOne_le (st : St) (ρ : Env) (μ : Store) : Le (sOne S st ρ μ) (sOne S' st ρ μ) := by
  cases st with
  | asg i e => exact (h.e e ρ μ).bind fun d μ => Le.rfl
  | asgN i e => exact (h.e e ρ μ).bind fun d μ => Le.rfl
  | par is es => exact (evr_le h.e es ρ μ).bind fun d μ => Le.rfl
  | unp is e => exact (h.e e ρ μ).bind fun d μ => Le.rfl
  | setIx o k e => exact (h.e e ρ μ).bind fun d μ => (h.e o ρ μ).bind fun x μ => (h.e k ρ μ).bind fun y μ => Le.rfl
  | setK o k e => exact (h.e e ρ μ).bind fun d μ => (h.e o ρ μ).bind fun x μ => (h.e k ρ μ).bind fun y μ => Le.rfl
  | aug i op e => exact Le.rfl.bind fun x μ => (h.e e ρ μ).bind fun y μ => Le.rfl
  | expr e => exact (h.e e ρ μ).bind fun d μ => Le.rfl
  | ret e => exact (h.e e ρ μ).bind fun d μ => Le.rfl
  | ife c a b => exact (h.t c ρ μ).bind fun t μ => (by cases t <;> first | exact h.s b ρ μ | exact h.s a ρ μ)
  | for_ t it body => exact (evIt_le h.e ρ μ it).bind fun s μ => forL_le h t body fuel s ρ μ
  | forG t it body => exact (evIt_le h.e ρ μ it).bind fun s μ => forLG_le h t body μ.length fuel s ρ μ
  | while_ c body => exact h.w c body ρ μ
  | never => exact Le.rfl
theorem sThen_le (r : List St) {x x' : R Fl} (hx : Le x x') : Le (sThen S r x) (sThen S' r x') := hx.bind fun fl μ => (by cases fl <;> first | exact h.s r _ μ | exact Le.rfl)
theorem stepS_le (l : List St) (ρ : Env) (μ : Store) : Le (stepS S l ρ μ) (stepS S' l ρ μ) := by
  cases l with
  | nil => exact Le.rfl
  | cons st r => exact sThen_le h r (sOne_le h st ρ μ)
theorem stepW_le (c : Ex) (body : List St) (ρ : Env) (μ : Store) : Le (stepW S c body ρ μ) (stepW S' c body ρ μ) :=
  (h.t c ρ μ).bind fun t μ => by
    cases t with
    | true => exact (h.s body ρ μ).bind fun fl μ => (by cases fl <;> first | exact h.w c body _ μ | exact Le.rfl)
    | false => exact Le.rfl
theorem step_le {c c' : Nat → List D → Store → R D} (hc : ∀ f ds μ, Le (c f ds μ) (c' f ds μ)) : SLe (step c S) (step c' S') :=
  ⟨stepE_le h, stepT_le h, stepS_le h, stepW_le h, hc⟩
end
theorem lev_le {c c' : Nat → List D → Store → R D} (hc : ∀ f ds μ, Le (c f ds μ) (c' f ds μ)) : ∀ n k, SLe (lev c n) (lev c' (n + k))
  | 0, 0 => ⟨fun _ _ _ => Le.stuck, fun _ _ _ => Le.stuck, fun _ _ _ => Le.stuck, fun _ _ _ _ => Le.stuck, hc⟩
  | 0, k + 1 => ⟨fun _ _ _ => Le.stuck, fun _ _ _ => Le.stuck, fun _ _ _ => Le.stuck, fun _ _ _ _ => Le.stuck, by
      show ∀ f ds μ, Le (c f ds μ) ((lev c' (0 + k + 1)).c f ds μ)
      exact hc⟩
  | n + 1, k => by
    have e : n + 1 + k = (n + k) + 1 := by omega
    rw [e]
    exact step_le (lev_le hc n k) hc
theorem lev_mono {c : Nat → List D → Store → R D} {a b : Nat} (h : a ≤ b) : SLe (lev c a) (lev c b) := by
  have := lev_le (c := c) (c' := c) (fun _ _ _ => Le.rfl) a (b - a)
  have e : a + (b - a) = b := by omega
  rwa [e] at this
theorem SLe.trans {A B C : Sem} (h : SLe A B) (k : SLe B C) : SLe A C :=
  ⟨fun e ρ μ => (h.e e ρ μ).trans (k.e e ρ μ), fun e ρ μ => (h.t e ρ μ).trans (k.t e ρ μ), fun e ρ μ => (h.s e ρ μ).trans (k.s e ρ μ), fun c e ρ μ => (h.w c e ρ μ).trans (k.w c e ρ μ), fun f ds μ => (h.c f ds μ).trans (k.c f ds μ)⟩
theorem thenP_le {r r' : R D} (h : Le r r') (μ : Store) : Le (thenP μ r) (thenP μ r') := by
  rcases h with h | h
  · rw [h]; exact Le.stuck
  · rw [h]; exact Le.rfl
theorem thenR_le {r r' : R D} (h : Le r r') (n : Nat) : Le (thenR n r) (thenR n r') := by
  rcases h with h | h
  · rw [h]; exact Le.stuck
  · rw [h]; exact Le.rfl
theorem runF_le {S S' : Sem} (h : SLe S S') (F : Fn) (ds : List D) (μ : Store) : Le (runF S F ds μ) (runF S' F ds μ) := (h.s _ _ μ).bind fun fl μ => Le.rfl
end EV

/-! EV run fast, 2: looks at data. -/
namespace EV
open PySem
noncomputable section

/-! ### signs -/
def bsel {α : Type} (b : Bool) : α → α → α := @Bool.rec (fun _ => α → α → α) (fun _ f => f) (fun t _ => t) b
theorem bsel_eq {α : Type} (b : Bool) (x y : α) : bsel b x y = if b = true then x else y := by cases b <;> rfl
def notB (b : Bool) : Bool := @Bool.rec (fun _ => Bool) true false b
def beqB (a b : Bool) : Bool := bsel a b (notB b)
def isRefF : D → Bool := (@D.rec (fun _ => (Bool)) (fun _ => Unit) (false) (fun _ => (false)) (fun _ => (false)) (fun _ => (false)) (fun _ _ => (false)) (fun _ _ => (false)) (fun _ => (false)) ((fun _ => true)) (fun _ _ => (false)) (fun _ => (false)) (fun _ _ => (false)) () (fun _ _ _ _ => ()))
theorem isRefF_eq (d : D) : isRefF d = d.isRef := by cases d <;> rfl
def anyRef (l : List D) : Bool := @List.rec D (fun _ => Bool) false (fun d _ ih => bsel (isRefF d) true ih) l
theorem anyRef_eq (l : List D) : (!(anyRef l)) = l.all (fun d => !d.isRef) := by
  induction l with
  | nil => rfl
  | cons d l ih =>
    show (!(bsel (isRefF d) true (anyRef l))) = _
    rw [bsel_eq, isRefF_eq, List.all_cons, ← ih]
    cases d.isRef <;> rfl

/-! ### what a name of the store shows -/
def obL : Option Ob → D → D := fun o => @Option.rec Ob (fun _ => D → D) (fun d => d) (fun o => @Ob.rec (fun _ => D → D) (fun l _ => .lst l) (fun _ d => d) (fun _ d => d) (fun _ d => d) o) o
def viewF (μ : Store) (d : D) : D := ((@D.rec (fun _ => ((Store → D → D))) (fun _ => Unit) ((fun _ d => d)) (fun _ => ((fun _ d => d))) (fun _ => ((fun _ d => d))) (fun _ => ((fun _ d => d))) (fun _ _ => ((fun _ d => d))) (fun _ _ => ((fun _ d => d))) (fun _ => ((fun _ d => d))) ((fun i μ d => obL (nthF μ i) d)) (fun _ _ => ((fun _ d => d))) (fun _ => ((fun _ d => d))) (fun _ _ => ((fun _ d => d))) () (fun _ _ _ _ => ()))) d μ d
theorem viewF_eq (μ : Store) (d : D) : viewF μ d = view μ d := by
  cases d <;> try rfl
  rename_i i
  show obL (nthF μ i) (.ref i) = _
  rw [nthF_eq]
  unfold view
  simp only
  cases nthD μ i with
  | none => rfl
  | some o => cases o <;> rfl

/-! ### equality -/
def isNon : D → Bool := @D.rec (fun _ => Bool) (fun _ => Unit) true (fun _ => false) (fun _ => false) (fun _ => false) (fun _ _ => false) (fun _ _ => false) (fun _ => false) (fun _ => false) (fun _ _ => false) (fun _ => false) (fun _ _ => false) () (fun _ _ _ _ => ())
def nilB (l : List D) : Bool := @List.rec D (fun _ => Bool) true (fun _ _ _ => false) l
def consB (l : List D) (f : D → Bool) (g : List D → Bool) : Bool := @List.rec D (fun _ => (D → Bool) → (List D → Bool) → Bool) (fun _ _ => false) (fun d l _ f g => bsel (f d) (g l) false) l f g
def b2i (b : Bool) : Int := @Bool.rec (fun _ => Int) (.ofNat 0) (.ofNat 1) b
def natsEq (l : List Nat) : List Nat → Bool := @List.rec Nat (fun _ => List Nat → Bool) (fun m => @List.rec Nat (fun _ => Bool) true (fun _ _ _ => false) m) (fun a _ ih m => @List.rec Nat (fun _ => Nat → (List Nat → Bool) → Bool) (fun _ _ => false) (fun b t _ a ih => bsel (Nat.beq a b) (ih t) false) m a ih) l
theorem natsEq_eq (l : List Nat) : ∀ m, natsEq l m = (l == m) := by
  induction l with
  | nil => intro m; cases m <;> rfl
  | cons a l ih =>
    intro m
    cases m with
    | nil => rfl
    | cons b m =>
      show bsel (Nat.beq a b) (natsEq l m) false = _
      rw [bsel_eq, ih, List.cons_beq_cons]
      have : (a == b) = Nat.beq a b := by cases e : Nat.beq a b with
        | true => rw [Nat.eq_of_beq_eq_true e]; simp
        | false => exact beq_false_of_ne (Nat.ne_of_beq_eq_false e)
      rw [this]
      cases Nat.beq a b <;> rfl
def strEqF (a b : Str) : Bool := natsEq a.cps.toList b.cps.toList
theorem strEqF_eq (a b : Str) : strEqF a b = eqStr a b := natsEq_eq _ _
/-- the same, kinds and all -/
def sameF (d : D) : D → Bool :=
  @D.rec (fun _ => D → Bool) (fun _ => List D → Bool) isNon
    (fun a => (@D.rec (fun _ => (Bool)) (fun _ => Unit) (false) ((fun b => beqB a b)) (fun _ => (false)) (fun _ => (false)) (fun _ _ => (false)) (fun _ _ => (false)) (fun _ => (false)) (fun _ => (false)) (fun _ _ => (false)) (fun _ => (false)) (fun _ _ => (false)) () (fun _ _ _ _ => ())))
    (fun i => (@D.rec (fun _ => (Bool)) (fun _ => Unit) (false) (fun _ => (false)) ((fun j => ieq i j)) (fun _ => (false)) (fun _ _ => (false)) (fun _ _ => (false)) (fun _ => (false)) (fun _ => (false)) (fun _ _ => (false)) (fun _ => (false)) (fun _ _ => (false)) () (fun _ _ _ _ => ())))
    (fun s => (@D.rec (fun _ => (Bool)) (fun _ => Unit) (false) (fun _ => (false)) (fun _ => (false)) ((fun t => strEqF s t)) (fun _ _ => (false)) (fun _ _ => (false)) (fun _ => (false)) (fun _ => (false)) (fun _ _ => (false)) (fun _ => (false)) (fun _ _ => (false)) () (fun _ _ _ _ => ())))
    (fun _ ih => (fun d => ((@D.rec (fun _ => (((List D → Bool) → Bool))) (fun _ => Unit) ((fun _ => false)) (fun _ => ((fun _ => false))) (fun _ => ((fun _ => false))) (fun _ => ((fun _ => false))) (fun l _ => ((fun m ih => ih m)) l) (fun l _ => ((fun _ _ => false)) l) (fun _ => ((fun _ => false))) (fun _ => ((fun _ => false))) (fun _ _ => ((fun _ => false))) (fun _ => ((fun _ => false))) (fun _ _ => ((fun _ => false))) () (fun _ _ _ _ => ()))) d ih))
    (fun _ ih => (fun d => ((@D.rec (fun _ => (((List D → Bool) → Bool))) (fun _ => Unit) ((fun _ => false)) (fun _ => ((fun _ => false))) (fun _ => ((fun _ => false))) (fun _ => ((fun _ => false))) (fun l _ => ((fun _ _ => false)) l) (fun l _ => ((fun m ih => ih m)) l) (fun _ => ((fun _ => false))) (fun _ => ((fun _ => false))) (fun _ _ => ((fun _ => false))) (fun _ => ((fun _ => false))) (fun _ _ => ((fun _ => false))) () (fun _ _ _ _ => ()))) d ih))
    (fun _ _ => false) (fun _ _ => false) (fun _ _ _ => false) (fun _ _ => false) (fun _ _ _ => false)
    nilB (fun _ _ ih ihs m => consB m ih ihs) d
def samesF (l : List D) : List D → Bool := @List.rec D (fun _ => List D → Bool) nilB (fun d _ ihs m => consB m (sameF d) ihs) l
mutual
theorem sameF_eq : ∀ (a b : D), sameF a b = D.same a b
  | .non, b => by cases b <;> rfl
  | .bl x, b => by cases b <;> first | rfl | (rename_i y; cases x <;> cases y <;> rfl)
  | .int i, b => by cases b <;> first | rfl | exact ieq_eq _ _
  | .str s, b => by cases b <;> first | rfl | exact strEqF_eq _ _
  | .tup l, b => by
      cases b <;> first | rfl | skip
      all_goals (first | exact samesF_eq' l _ | rfl)
  | .lst l, b => by
      cases b <;> first | rfl | skip
      all_goals (first | exact samesF_eq' l _ | rfl)
  | .scr _, b => by cases b <;> rfl
  | .ref _, b => by cases b <;> rfl
  | .rep _, b => by cases b <;> rfl
  | .ty _, b => by cases b <;> rfl
  | .wk _, b => by cases b <;> rfl
theorem samesF_eq' : ∀ (l m : List D), (@D.rec_1 (fun _ => D → Bool) (fun _ => List D → Bool) isNon
    (fun a => (@D.rec (fun _ => (Bool)) (fun _ => Unit) (false) ((fun b => beqB a b)) (fun _ => (false)) (fun _ => (false)) (fun _ _ => (false)) (fun _ _ => (false)) (fun _ => (false)) (fun _ => (false)) (fun _ _ => (false)) (fun _ => (false)) (fun _ _ => (false)) () (fun _ _ _ _ => ())))
    (fun i => (@D.rec (fun _ => (Bool)) (fun _ => Unit) (false) (fun _ => (false)) ((fun j => ieq i j)) (fun _ => (false)) (fun _ _ => (false)) (fun _ _ => (false)) (fun _ => (false)) (fun _ => (false)) (fun _ _ => (false)) (fun _ => (false)) (fun _ _ => (false)) () (fun _ _ _ _ => ())))
    (fun s => (@D.rec (fun _ => (Bool)) (fun _ => Unit) (false) (fun _ => (false)) (fun _ => (false)) ((fun t => strEqF s t)) (fun _ _ => (false)) (fun _ _ => (false)) (fun _ => (false)) (fun _ => (false)) (fun _ _ => (false)) (fun _ => (false)) (fun _ _ => (false)) () (fun _ _ _ _ => ())))
    (fun _ ih => (fun d => ((@D.rec (fun _ => (((List D → Bool) → Bool))) (fun _ => Unit) ((fun _ => false)) (fun _ => ((fun _ => false))) (fun _ => ((fun _ => false))) (fun _ => ((fun _ => false))) (fun l _ => ((fun m ih => ih m)) l) (fun l _ => ((fun _ _ => false)) l) (fun _ => ((fun _ => false))) (fun _ => ((fun _ => false))) (fun _ _ => ((fun _ => false))) (fun _ => ((fun _ => false))) (fun _ _ => ((fun _ => false))) () (fun _ _ _ _ => ()))) d ih))
    (fun _ ih => (fun d => ((@D.rec (fun _ => (((List D → Bool) → Bool))) (fun _ => Unit) ((fun _ => false)) (fun _ => ((fun _ => false))) (fun _ => ((fun _ => false))) (fun _ => ((fun _ => false))) (fun l _ => ((fun _ _ => false)) l) (fun l _ => ((fun m ih => ih m)) l) (fun _ => ((fun _ => false))) (fun _ => ((fun _ => false))) (fun _ _ => ((fun _ => false))) (fun _ => ((fun _ => false))) (fun _ _ => ((fun _ => false))) () (fun _ _ _ _ => ()))) d ih))
    (fun _ _ => false) (fun _ _ => false) (fun _ _ _ => false) (fun _ _ => false) (fun _ _ _ => false)
    nilB (fun _ _ ih ihs m => consB m ih ihs) l) m = D.sames l m
  | [], m => by cases m <;> rfl
  | a :: l, m => by
      cases m with
      | nil => rfl
      | cons b m =>
        show bsel (sameF a b) _ false = _
        rw [bsel_eq, sameF_eq a b, samesF_eq' l m]
        show _ = (D.same a b && D.sames l m)
        cases D.same a b <;> rfl
end
/-- == -/
def beqF (d : D) : D → Bool :=
  @D.rec (fun _ => D → Bool) (fun _ => List D → Bool) isNon
    (fun a => (fun d => (@D.rec (fun _ => Bool → Bool) (fun _ => Unit) (fun _ => false) (fun b a => beqB a b) (fun j a => ieq (b2i a) j) (fun _ _ => false) (fun _ _ _ => false) (fun _ _ _ => false) (fun _ _ => false) (fun _ _ => false) (fun _ _ _ => false) (fun _ _ => false) (fun _ _ _ => false) () (fun _ _ _ _ => ())) d a))
    (fun i => (fun d => (@D.rec (fun _ => Int → Bool) (fun _ => Unit) (fun _ => false) (fun b i => ieq i (b2i b)) (fun j i => ieq i j) (fun _ _ => false) (fun _ _ _ => false) (fun _ _ _ => false) (fun _ _ => false) (fun _ _ => false) (fun _ _ _ => false) (fun _ _ => false) (fun _ _ _ => false) () (fun _ _ _ _ => ())) d i))
    (fun s => (@D.rec (fun _ => (Bool)) (fun _ => Unit) (false) (fun _ => (false)) (fun _ => (false)) ((fun t => strEqF s t)) (fun _ _ => (false)) (fun _ _ => (false)) (fun _ => (false)) (fun _ => (false)) (fun _ _ => (false)) (fun _ => (false)) (fun _ _ => (false)) () (fun _ _ _ _ => ())))
    (fun _ ih => (fun d => ((@D.rec (fun _ => (((List D → Bool) → Bool))) (fun _ => Unit) ((fun _ => false)) (fun _ => ((fun _ => false))) (fun _ => ((fun _ => false))) (fun _ => ((fun _ => false))) (fun l _ => ((fun m ih => ih m)) l) (fun l _ => ((fun _ _ => false)) l) (fun _ => ((fun _ => false))) (fun _ => ((fun _ => false))) (fun _ _ => ((fun _ => false))) (fun _ => ((fun _ => false))) (fun _ _ => ((fun _ => false))) () (fun _ _ _ _ => ()))) d ih))
    (fun _ ih => (fun d => ((@D.rec (fun _ => (((List D → Bool) → Bool))) (fun _ => Unit) ((fun _ => false)) (fun _ => ((fun _ => false))) (fun _ => ((fun _ => false))) (fun _ => ((fun _ => false))) (fun l _ => ((fun _ _ => false)) l) (fun l _ => ((fun m ih => ih m)) l) (fun _ => ((fun _ => false))) (fun _ => ((fun _ => false))) (fun _ _ => ((fun _ => false))) (fun _ => ((fun _ => false))) (fun _ _ => ((fun _ => false))) () (fun _ _ _ _ => ()))) d ih))
    (fun _ _ => false) (fun _ _ => false) (fun _ _ _ => false) (fun _ _ => false) (fun _ _ _ => false)
    nilB (fun _ _ ih ihs m => consB m ih ihs) d
mutual
theorem beqF_eq : ∀ (a b : D), beqF a b = D.beq a b
  | .non, b => by cases b <;> rfl
  | .bl x, b => by
      cases b <;> first | rfl | (rename_i y; cases x <;> cases y <;> rfl) | skip
      rename_i j
      show ieq (b2i x) j = decide ((if x = true then (1 : Int) else 0) = j)
      rw [ieq_eq]; cases x <;> rfl
  | .int i, b => by
      cases b <;> first | rfl | exact ieq_eq _ _ | skip
      rename_i x
      show ieq i (b2i x) = decide (i = (if x = true then (1 : Int) else 0))
      rw [ieq_eq]; cases x <;> rfl
  | .str s, b => by cases b <;> first | rfl | exact strEqF_eq _ _
  | .tup l, b => by
      cases b <;> first | rfl | skip
      all_goals (first | exact beqsF_eq' l _ | rfl)
  | .lst l, b => by
      cases b <;> first | rfl | skip
      all_goals (first | exact beqsF_eq' l _ | rfl)
  | .scr _, b => by cases b <;> rfl
  | .ref _, b => by cases b <;> rfl
  | .rep _, b => by cases b <;> rfl
  | .ty _, b => by cases b <;> rfl
  | .wk _, b => by cases b <;> rfl
theorem beqsF_eq' : ∀ (l m : List D), (@D.rec_1 (fun _ => D → Bool) (fun _ => List D → Bool) isNon
    (fun a => (fun d => (@D.rec (fun _ => Bool → Bool) (fun _ => Unit) (fun _ => false) (fun b a => beqB a b) (fun j a => ieq (b2i a) j) (fun _ _ => false) (fun _ _ _ => false) (fun _ _ _ => false) (fun _ _ => false) (fun _ _ => false) (fun _ _ _ => false) (fun _ _ => false) (fun _ _ _ => false) () (fun _ _ _ _ => ())) d a))
    (fun i => (fun d => (@D.rec (fun _ => Int → Bool) (fun _ => Unit) (fun _ => false) (fun b i => ieq i (b2i b)) (fun j i => ieq i j) (fun _ _ => false) (fun _ _ _ => false) (fun _ _ _ => false) (fun _ _ => false) (fun _ _ => false) (fun _ _ _ => false) (fun _ _ => false) (fun _ _ _ => false) () (fun _ _ _ _ => ())) d i))
    (fun s => (@D.rec (fun _ => (Bool)) (fun _ => Unit) (false) (fun _ => (false)) (fun _ => (false)) ((fun t => strEqF s t)) (fun _ _ => (false)) (fun _ _ => (false)) (fun _ => (false)) (fun _ => (false)) (fun _ _ => (false)) (fun _ => (false)) (fun _ _ => (false)) () (fun _ _ _ _ => ())))
    (fun _ ih => (fun d => ((@D.rec (fun _ => (((List D → Bool) → Bool))) (fun _ => Unit) ((fun _ => false)) (fun _ => ((fun _ => false))) (fun _ => ((fun _ => false))) (fun _ => ((fun _ => false))) (fun l _ => ((fun m ih => ih m)) l) (fun l _ => ((fun _ _ => false)) l) (fun _ => ((fun _ => false))) (fun _ => ((fun _ => false))) (fun _ _ => ((fun _ => false))) (fun _ => ((fun _ => false))) (fun _ _ => ((fun _ => false))) () (fun _ _ _ _ => ()))) d ih))
    (fun _ ih => (fun d => ((@D.rec (fun _ => (((List D → Bool) → Bool))) (fun _ => Unit) ((fun _ => false)) (fun _ => ((fun _ => false))) (fun _ => ((fun _ => false))) (fun _ => ((fun _ => false))) (fun l _ => ((fun _ _ => false)) l) (fun l _ => ((fun m ih => ih m)) l) (fun _ => ((fun _ => false))) (fun _ => ((fun _ => false))) (fun _ _ => ((fun _ => false))) (fun _ => ((fun _ => false))) (fun _ _ => ((fun _ => false))) () (fun _ _ _ _ => ()))) d ih))
    (fun _ _ => false) (fun _ _ => false) (fun _ _ _ => false) (fun _ _ => false) (fun _ _ _ => false)
    nilB (fun _ _ ih ihs m => consB m ih ihs) l) m = D.beqs l m
  | [], m => by cases m <;> rfl
  | a :: l, m => by
      cases m with
      | nil => rfl
      | cons b m =>
        show bsel (beqF a b) _ false = _
        rw [bsel_eq, beqF_eq a b, beqsF_eq' l m]
        show _ = (D.beq a b && D.beqs l m)
        cases D.beq a b <;> rfl
end
end
end EV

/-! EV run fast, 3: operations. -/
namespace EV
open PySem
noncomputable section
/-- plain data: flat n d -/
def flatF (d : D) : Nat → Bool :=
  @D.rec (fun _ => Nat → Bool) (fun _ => Nat → Bool) (fun _ => true) (fun _ _ => true) (fun _ _ => true) (fun s _ => strB s)
    (fun _ ih n => @Nat.rec (fun _ => (Nat → Bool) → Bool) (fun _ => false) (fun m _ ih => ih m) n ih)
    (fun _ ih n => @Nat.rec (fun _ => (Nat → Bool) → Bool) (fun _ => false) (fun m _ ih => ih m) n ih)
    (fun _ _ => false) (fun _ _ => false) (fun _ _ _ => false) (fun _ _ => false) (fun _ _ _ => false)
    (fun _ => true) (fun _ _ ih ihs n => bsel (ih n) (ihs n) false) d
def flatsF (l : List D) (n : Nat) : Bool := @List.rec D (fun _ => Nat → Bool) (fun _ => true) (fun d _ ihs n => bsel (flatF d n) (ihs n) false) l n
mutual
theorem flatF_eq : ∀ (d : D) (n : Nat), flatF d n = D.flat n d
  | .non, n => rfl
  | .bl _, n => rfl
  | .int _, n => rfl
  | .str _, n => rfl
  | .tup l, n => by
      cases n with
      | zero => rfl
      | succ n =>
        refine (flatsF_eq' l n).trans ?_
        show _ = (Nat.blt 0 (n + 1) && D.flats (n + 1 - 1) l)
        have e : Nat.blt 0 (n + 1) = true := by simp [Nat.blt]
        rw [e]; rfl
  | .lst l, n => by
      cases n with
      | zero => rfl
      | succ n =>
        refine (flatsF_eq' l n).trans ?_
        show _ = (Nat.blt 0 (n + 1) && D.flats (n + 1 - 1) l)
        have e : Nat.blt 0 (n + 1) = true := by simp [Nat.blt]
        rw [e]; rfl
  | .scr _, n => rfl
  | .ref _, n => rfl
  | .rep _, n => rfl
  | .ty _, n => rfl
  | .wk _, n => rfl
theorem flatsF_eq' : ∀ (l : List D) (n : Nat), (@D.rec_1 (fun _ => Nat → Bool) (fun _ => Nat → Bool) (fun _ => true) (fun _ _ => true) (fun _ _ => true) (fun s _ => strB s)
    (fun _ ih n => @Nat.rec (fun _ => (Nat → Bool) → Bool) (fun _ => false) (fun m _ ih => ih m) n ih)
    (fun _ ih n => @Nat.rec (fun _ => (Nat → Bool) → Bool) (fun _ => false) (fun m _ ih => ih m) n ih)
    (fun _ _ => false) (fun _ _ => false) (fun _ _ _ => false) (fun _ _ => false) (fun _ _ _ => false)
    (fun _ => true) (fun _ _ ih ihs n => bsel (ih n) (ihs n) false) l) n = D.flats n l
  | [], n => rfl
  | a :: l, n => by
      show bsel (flatF a n) _ false = _
      rw [bsel_eq, flatF_eq a n, flatsF_eq' l n]
      show _ = (D.flat n a && D.flats n l)
      cases D.flat n a <;> rfl
end
theorem flatsF_eq (l : List D) (n : Nat) : flatsF l n = D.flats n l := by
  induction l with
  | nil => rfl
  | cons a l ih =>
    show bsel (flatF a n) (flatsF l n) false = _
    rw [bsel_eq, flatF_eq, ih]
    show _ = (D.flat n a && D.flats n l)
    cases D.flat n a <;> rfl
def oneF : D → Bool := @D.rec (fun _ => Bool) (fun _ => Unit) true (fun _ => true) (fun _ => true) (fun _ => true) (fun _ _ => false) (fun _ _ => false) (fun _ => false) (fun _ => false) (fun _ _ => false) (fun _ => false) (fun _ _ => false) () (fun _ _ _ _ => ())
theorem oneF_eq (d : D) : oneF d = D.one d := by cases d <;> rfl
def onesF (l : List D) : Bool := @List.rec D (fun _ => Bool) true (fun d _ ih => bsel (oneF d) ih false) l
theorem onesF_eq (l : List D) : onesF l = l.all D.one := by
  induction l with
  | nil => rfl
  | cons a l ih =>
    show bsel (oneF a) (onesF l) false = _
    rw [bsel_eq, oneF_eq, ih, List.all_cons]
    cases D.one a <;> rfl
def memF (x : D) (l : List D) : Bool := @List.rec D (fun _ => Bool) false (fun y _ ih => bsel (beqF y x) true ih) l
theorem memF_eq (x : D) (l : List D) : memF x l = memD x l := by
  induction l with
  | nil => rfl
  | cons a l ih =>
    show bsel (beqF a x) true (memF x l) = _
    rw [bsel_eq, beqF_eq, ih]
    rfl
/-- an int among ints: false where others stand among them -/
def memI (i : Int) (l : List D) : Bool → Option Bool := @List.rec D (fun _ => Bool → Option Bool) some (fun d _ ih b => @D.rec (fun _ => (Bool → Option Bool) → Bool → Int → Option Bool) (fun _ => Unit) (fun _ _ _ => none) (fun _ _ _ _ => none) (fun j ih b i => bsel (ieq j i) (ih true) (ih b)) (fun _ _ _ _ => none) (fun _ _ _ _ _ => none) (fun _ _ _ _ _ => none) (fun _ _ _ _ => none) (fun _ _ _ _ => none) (fun _ _ _ _ _ => none) (fun _ _ _ _ => none) (fun _ _ _ _ _ => none) () (fun _ _ _ _ => ()) d ih b i) l
theorem memI_ok (i : Int) (l : List D) : ∀ (b r : Bool), memI i l b = some r → l.all D.one = true ∧ (∀ n, D.flats n l = true) ∧ r = (b || memD (.int i) l) := by
  induction l with
  | nil => intro b r h; cases h; exact ⟨rfl, fun _ => rfl, by simp [memD]⟩
  | cons d l ih =>
    intro b r h
    cases d with
    | int j =>
      have h' : bsel (ieq j i) (memI i l true) (memI i l b) = some r := h
      rw [bsel_eq, ieq_eq] at h'
      have e2 : memD (.int i) (.int j :: l) = if decide (j = i) = true then true else memD (.int i) l := rfl
      rw [e2]
      split at h'
      · rename_i hc
        obtain ⟨a, b', c⟩ := ih _ _ h'
        refine ⟨by rw [List.all_cons, a]; rfl, fun n => ?_, ?_⟩
        · show (D.flat n (.int j) && D.flats n l) = true
          rw [b' n]; rfl
        · rw [hc, c]; simp
      · rename_i hc
        obtain ⟨a, b', c⟩ := ih _ _ h'
        refine ⟨by rw [List.all_cons, a]; rfl, fun n => ?_, ?_⟩
        · show (D.flat n (.int j) && D.flats n l) = true
          rw [b' n]; rfl
        · rw [if_neg hc, c]
    | _ => cases h
def inTL (x : D) (y : D) : Option Bool := inD x y
/-- x in y, y looked at -/
def inI (i : Int) (l : List D) (y : D) : Option Bool := @Option.rec Bool (fun _ => Int → D → Option Bool) (fun i y => inD (.int i) y) (fun b _ _ => some b) (memI i l false) i y
def inF (x y : D) : Option Bool :=
  @D.rec (fun _ => D → D → Option Bool) (fun _ => Unit) inD (fun _ => inD) (fun _ => inD) (fun _ => inD)
    (fun l _ x y => @D.rec (fun _ => List D → D → D → Option Bool) (fun _ => Unit) (fun _ => inD) (fun _ _ => inD) (fun i l _ y => inI i l y) (fun _ l x _ => bsel (bsel (oneF x) (onesF l) false) (some (memF x l)) none) (fun _ _ _ _ _ => none) (fun _ _ _ _ _ => none) (fun _ _ => inD) (fun _ _ => inD) (fun _ _ _ => inD) (fun _ _ => inD) (fun _ _ _ => inD) () (fun _ _ _ _ => ()) x l x y)
    (fun l _ x y => @D.rec (fun _ => List D → D → D → Option Bool) (fun _ => Unit) (fun l x _ => bsel (bsel (flatF x 40) (flatsF l 40) false) (some (memF x l)) none) (fun _ _ => inD) (fun i l _ y => inI i l y) (fun _ l x _ => bsel (bsel (flatF x 40) (flatsF l 40) false) (some (memF x l)) none) (fun _ _ l x _ => bsel (bsel (flatF x 40) (flatsF l 40) false) (some (memF x l)) none) (fun _ _ l x _ => bsel (bsel (flatF x 40) (flatsF l 40) false) (some (memF x l)) none) (fun _ _ => inD) (fun _ _ => inD) (fun _ _ _ => inD) (fun _ _ => inD) (fun _ _ _ => inD) () (fun _ _ _ _ => ()) x l x y)
    (fun _ => inD) (fun _ => inD) (fun _ _ => inD) (fun _ => inD) (fun _ _ => inD) () (fun _ _ _ _ => ()) y x y
theorem inI_lst (i : Int) (l : List D) : inI i l (.lst l) = inD (.int i) (.lst l) := by
  unfold inI
  cases e : memI i l false with
  | none => rfl
  | some b =>
    obtain ⟨_, h, h2⟩ := memI_ok i l _ _ e
    show some b = (if D.flat 40 (.int i) && D.flats 40 l then some (memD (.int i) l) else none)
    rw [h 40, h2]; simp [D.flat]
theorem inI_tup (i : Int) (l : List D) : inI i l (.tup l) = inD (.int i) (.tup l) := by
  unfold inI
  cases e : memI i l false with
  | none => rfl
  | some b =>
    obtain ⟨h, _, h2⟩ := memI_ok i l _ _ e
    show some b = (if D.one (.int i) && l.all D.one then some (memD (.int i) l) else none)
    rw [h, h2]; simp [D.one]
theorem inF_lst (x : D) (l : List D) : bsel (bsel (flatF x 40) (flatsF l 40) false) (some (memF x l)) none = inD x (.lst l) := by
  rw [bsel_eq, bsel_eq, flatF_eq, flatsF_eq, memF_eq]
  show _ = (if D.flat 40 x && D.flats 40 l then some (memD x l) else none)
  cases D.flat 40 x <;> rfl
theorem inF_tup (x : D) (l : List D) : bsel (bsel (oneF x) (onesF l) false) (some (memF x l)) none = inD x (.tup l) := by
  rw [bsel_eq, bsel_eq, oneF_eq, onesF_eq, memF_eq]
  show _ = (if D.one x && l.all D.one then some (memD x l) else none)
  cases D.one x <;> rfl
theorem inF_eq (x y : D) : inF x y = inD x y := by
  cases y <;> try rfl
  · rename_i l
    cases x <;> first | rfl | exact inI_tup _ l | exact inF_tup _ l
  · rename_i l
    cases x <;> first | rfl | exact inI_lst _ l | exact inF_lst _ l
/-! ### = and the rest -/
def eqG (a b : D) : Option Bool := bsel (bsel (flatF a 40) (flatF b 40) false) (some (beqF a b)) none
theorem eqG_eq (a b : D) : eqG a b = (if D.flat 40 a && D.flat 40 b then some (D.beq a b) else none) := by
  unfold eqG
  rw [bsel_eq, bsel_eq, flatF_eq, flatF_eq, beqF_eq]
  cases D.flat 40 a <;> rfl
def eqR (a b : D) (y : D) : Option Bool := @D.rec (fun _ => D → D → Option Bool) (fun _ => Unit) (fun _ => eqG (.rep a)) (fun _ _ => eqG (.rep a)) (fun _ _ => eqG (.rep a)) (fun _ _ => eqG (.rep a)) (fun _ _ _ => eqG (.rep a)) (fun _ _ _ => eqG (.rep a)) (fun _ _ => eqG (.rep a)) (fun _ _ => eqG (.rep a)) (fun b _ a _ => bsel (sameF a b) (some true) none) (fun _ _ => eqG (.rep a)) (fun _ _ _ => eqG (.rep a)) () (fun _ _ _ _ => ()) b a y
def eqF (a b : D) : Option Bool :=
  @D.rec (fun _ => D → D → Option Bool) (fun _ => Unit) eqG (fun _ => eqG) (fun i _ b => @D.rec (fun _ => Int → D → Option Bool) (fun _ => Unit) (fun i => eqG (.int i)) (fun _ i => eqG (.int i)) (fun j i _ => some (ieq i j)) (fun _ i => eqG (.int i)) (fun _ _ i => eqG (.int i)) (fun _ _ i => eqG (.int i)) (fun _ i => eqG (.int i)) (fun _ i => eqG (.int i)) (fun _ _ i => eqG (.int i)) (fun _ i => eqG (.int i)) (fun _ _ i => eqG (.int i)) () (fun _ _ _ _ => ()) b i b) (fun _ => eqG) (fun _ _ => eqG) (fun _ _ => eqG) (fun _ => eqG) (fun _ => eqG) (fun d _ _ b => eqR d b b) (fun _ => eqG) (fun _ _ => eqG) () (fun _ _ _ _ => ()) a a b
theorem eqF_eq (a b : D) : eqF a b = eqD a b := by
  cases a with
  | int i => cases b with
    | int j => show some (ieq i j) = some (decide (i = j)); rw [ieq_eq]
    | _ => exact eqG_eq _ _
  | rep x => cases b with
    | rep y => show bsel (sameF x y) (some true) none = (if D.same x y then some true else none); rw [bsel_eq, sameF_eq]
    | non => exact eqG_eq (.rep x) .non
    | bl y => exact eqG_eq (.rep x) (.bl y)
    | int y => exact eqG_eq (.rep x) (.int y)
    | str y => exact eqG_eq (.rep x) (.str y)
    | tup y => exact eqG_eq (.rep x) (.tup y)
    | lst y => exact eqG_eq (.rep x) (.lst y)
    | scr y => exact eqG_eq (.rep x) (.scr y)
    | ref y => exact eqG_eq (.rep x) (.ref y)
    | ty y => exact eqG_eq (.rep x) (.ty y)
    | wk y => exact eqG_eq (.rep x) (.wk y)
  | _ => cases b <;> exact eqG_eq _ _
def notO (o : Option Bool) : Option Bool := @Option.rec Bool (fun _ => Option Bool) none (fun b => some (notB b)) o
theorem notO_eq (o : Option Bool) : notO o = o.map (!·) := by
  cases o with
  | none => rfl
  | some b => cases b <;> rfl
def optB : Option Bool → Store → R Bool := fun o => @Option.rec Bool (fun _ => Store → R Bool) (fun _ => .stuck) (fun d μ => .ok d μ) o
theorem optB_eq (o : Option Bool) (μ : Store) : optB o μ = liftO o μ := by cases o <;> rfl
def fIn (x y : D) (μ : Store) : R Bool := optB (inF (viewF μ x) (viewF μ y)) μ
theorem fIn_eq (x y : D) (μ : Store) : fIn x y μ = slowC .inn x y μ := by
  unfold fIn; rw [optB_eq, inF_eq, viewF_eq, viewF_eq]; rfl
def fNin (x y : D) (μ : Store) : R Bool := optB (notO (inF (viewF μ x) (viewF μ y))) μ
theorem fNin_eq (x y : D) (μ : Store) : fNin x y μ = slowC .nin x y μ := by
  unfold fNin; rw [optB_eq, notO_eq, inF_eq, viewF_eq, viewF_eq]; rfl
def fEq2 (x y : D) (μ : Store) : R Bool := optB (eqF (viewF μ x) (viewF μ y)) μ
theorem fEq2_eq (x y : D) (μ : Store) : fEq2 x y μ = slowC .eq x y μ := by
  unfold fEq2; rw [optB_eq, eqF_eq, viewF_eq, viewF_eq]; rfl
def fNe2 (x y : D) (μ : Store) : R Bool := optB (notO (eqF (viewF μ x) (viewF μ y))) μ
theorem fNe2_eq (x y : D) (μ : Store) : fNe2 x y μ = slowC .ne x y μ := by
  unfold fNe2; rw [optB_eq, notO_eq, eqF_eq, viewF_eq, viewF_eq]; rfl
def fCmp (op : Cop) : D → D → Store → R Bool := @Cop.rec (fun _ => D → D → Store → R Bool) fEq2 fNe2 fLt fLe fGt fGe (slowC .is) (slowC .isn) fIn fNin op
theorem fCmp_eq (op : Cop) (x y : D) (μ : Store) : fCmp op x y μ = slowC op x y μ := by
  cases op
  · exact fEq2_eq x y μ
  · exact fNe2_eq x y μ
  · exact fLt_eq x y μ
  · exact fLe_eq x y μ
  · exact fGt_eq x y μ
  · exact fGe_eq x y μ
  · rfl
  · rfl
  · exact fIn_eq x y μ
  · exact fNin_eq x y μ
/-! ### places -/
def appF {α : Type} (l m : List α) : List α := @List.rec α (fun _ => List α) m (fun a _ ih => a :: ih) l
theorem appF_eq {α : Type} (l m : List α) : appF l m = l ++ m := by
  induction l with
  | nil => rfl
  | cons a l ih => exact congrArg (a :: ·) ih
def dOf : R D → D := fun r => @R.rec D (fun _ => D) (fun d _ => d) (fun _ _ _ => .non) .non r
def fIdx2 (x y : D) (μ : Store) : R D := fIdx (viewF μ x) y μ
theorem view_view (μ : Store) (d : D) : view μ (view μ d) = view μ d := by
  cases d <;> try rfl
  rename_i i
  unfold view
  simp only
  cases e : nthD μ i with
  | none => simp [e]
  | some o => cases o <;> simp [e]
theorem fIdx2_eq (x y : D) (μ : Store) : fIdx2 x y μ = slowI x y μ := by
  unfold fIdx2; rw [fIdx_eq, viewF_eq]; unfold slowI; rw [view_view]
/-! ### numbers of a list, truth of all -/
def boolsR (all : Bool) (l : List D) : Bool → Store → R D :=
  @List.rec D (fun _ => Bool → Store → R D) (fun b μ => .ok (.bl b) μ) (fun d _ ih b μ => @D.rec (fun _ => (Bool → Store → R D) → Bool → Store → R D) (fun _ => Unit) (fun _ _ _ => .stuck) (fun a ih b μ => bsel (beqB a all) (ih b μ) (ih a μ)) (fun _ _ _ _ => .stuck) (fun _ _ _ _ => .stuck) (fun _ _ _ _ _ => .stuck) (fun _ _ _ _ _ => .stuck) (fun _ _ _ _ => .stuck) (fun _ _ _ _ => .stuck) (fun _ _ _ _ _ => .stuck) (fun _ _ _ _ => .stuck) (fun _ _ _ _ _ => .stuck) () (fun _ _ _ _ => ()) d ih b μ) l
theorem boolsR_all (l : List D) (μ : Store) : ∀ b, boolsR true l b μ = liftO ((boolsD l).map fun bs => .bl (b && bs.all id)) μ := by
  induction l with
  | nil => intro b; simp [boolsD, liftO, boolsR]
  | cons d l ih =>
    intro b
    cases d <;> try rfl
    rename_i a
    show bsel (beqB a true) (boolsR true l b μ) (boolsR true l a μ) = _
    rw [bsel_eq, ih, ih]
    have e : boolsD (.bl a :: l) = (boolsD l).map (a :: ·) := rfl
    rw [e]
    cases a <;> cases boolsD l <;> first | rfl | (cases b <;> rfl)
theorem boolsR_any (l : List D) (μ : Store) : ∀ b, boolsR false l b μ = liftO ((boolsD l).map fun bs => .bl (b || bs.any id)) μ := by
  induction l with
  | nil => intro b; simp [boolsD, liftO, boolsR]
  | cons d l ih =>
    intro b
    cases d <;> try rfl
    rename_i a
    show bsel (beqB a false) (boolsR false l b μ) (boolsR false l a μ) = _
    rw [bsel_eq, ih, ih]
    have e : boolsD (.bl a :: l) = (boolsD l).map (a :: ·) := rfl
    rw [e]
    cases a <;> cases boolsD l <;> first | rfl | (cases b <;> rfl)
def forceN {X : Type} (n : Nat) (k : Nat → X) : X := @Nat.rec (fun _ => (Nat → X) → X) (fun k => k 0) (fun m _ k => k (Nat.succ m)) n k
theorem forceN_eq {X : Type} (n : Nat) (k : Nat → X) : forceN n k = k n := by cases n <;> rfl
def forceI {X : Type} (i : Int) (k : Int → X) : X := @Int.rec (fun _ => (Int → X) → X) (fun n k => forceN n fun m => k (.ofNat m)) (fun n k => forceN n fun m => k (.negSucc m)) i k
theorem forceI_eq {X : Type} (i : Int) (k : Int → X) : forceI i k = k i := by cases i <;> exact forceN_eq _ _
def sumR (l : List D) : Int → Store → R D :=
  @List.rec D (fun _ => Int → Store → R D) (fun b μ => .ok (.int b) μ) (fun d _ ih b μ => @D.rec (fun _ => (Int → Store → R D) → Int → Store → R D) (fun _ => Unit) (fun _ _ _ => .stuck) (fun _ _ _ _ => .stuck) (fun a ih b μ => forceI (iadd b a) (fun c => ih c μ)) (fun _ _ _ _ => .stuck) (fun _ _ _ _ _ => .stuck) (fun _ _ _ _ _ => .stuck) (fun _ _ _ _ => .stuck) (fun _ _ _ _ => .stuck) (fun _ _ _ _ _ => .stuck) (fun _ _ _ _ => .stuck) (fun _ _ _ _ _ => .stuck) () (fun _ _ _ _ => ()) d ih b μ) l
theorem sumR_eq (l : List D) (μ : Store) : ∀ b, sumR l b μ = liftO ((intsD l).map fun is => .int (b + is.sum)) μ := by
  induction l with
  | nil => intro b; simp [intsD, liftO, sumR]
  | cons d l ih =>
    intro b
    cases d <;> try rfl
    rename_i a
    show forceI (iadd b a) (fun c => sumR l c μ) = _
    rw [forceI_eq, ih, iadd_eq]
    have e : intsD (.int a :: l) = (intsD l).map (a :: ·) := rfl
    rw [e]
    cases intsD l with
    | none => rfl
    | some is => simp [liftO]; omega
/-! ### the kinds of data -/
def kindF (nn bb ii ss tt ll : Option Bool) : D → Option Bool := @D.rec (fun _ => Option Bool) (fun _ => Unit) nn (fun _ => bb) (fun _ => ii) (fun _ => ss) (fun _ _ => tt) (fun _ _ => ll) (fun _ => none) (fun _ => none) (fun _ _ => none) (fun _ => none) (fun _ _ => none) () (fun _ _ _ _ => ())
def isiF (t : Ty) : D → Option Bool := @Ty.rec (fun _ => D → Option Bool)
  (kindF (some false) (some true) (some true) (some false) (some false) (some false))
  (kindF (some false) (some true) (some false) (some false) (some false) (some false))
  (kindF (some false) (some false) (some false) (some true) (some false) (some false))
  (kindF (some false) (some false) (some false) (some false) (some true) (some false))
  (kindF (some false) (some false) (some false) (some false) (some false) (some true))
  (fun _ => none) t
theorem isiF_eq (t : Ty) (d : D) : isiF t d = isiD t d := by cases t <;> cases d <;> rfl
def optBl : Option Bool → Store → R D := fun o => @Option.rec Bool (fun _ => Store → R D) (fun _ => .stuck) (fun d μ => .ok (.bl d) μ) o
theorem optBl_eq (o : Option Bool) (μ : Store) : optBl o μ = liftO (o.map .bl) μ := by cases o <;> rfl
def fIsi (t : Ty) (x : D) (μ : Store) : R D := optBl (isiF t (viewF μ x)) μ
theorem fIsi_eq (t : Ty) (x : D) (μ : Store) : fIsi t x μ = liftO ((isiD t (view μ x)).map .bl) μ := by
  unfold fIsi; rw [optBl_eq, isiF_eq, viewF_eq]
/-! ### truth -/
def intNZ (i : Int) : Bool := @Int.rec (fun _ => Bool) (fun n => notB (Nat.beq n 0)) (fun _ => true) i
theorem intNZ_eq (i : Int) : intNZ i = (i != 0) := by
  cases i with
  | ofNat n => cases n with
    | zero => rfl
    | succ n =>
      have h : Nat.beq (n + 1) 0 = false := rfl
      show notB (Nat.beq (n + 1) 0) = _
      rw [h]
      have : ((Int.ofNat (n + 1)) != 0) = true := by simp [bne_iff_ne]; omega
      rw [this]; rfl
  | negSucc n =>
    have : ((Int.negSucc n) != 0) = true := by simp [bne_iff_ne]
    rw [this]; rfl
def neNil (l : List D) : Bool := @List.rec D (fun _ => Bool) false (fun _ _ _ => true) l
def truF : D → Option Bool := @D.rec (fun _ => Option Bool) (fun _ => Unit) (some false) (fun b => some b) (fun i => some (intNZ i)) (fun _ => none) (fun l _ => some (neNil l)) (fun l _ => some (neNil l)) (fun _ => none) (fun _ => none) (fun _ _ => none) (fun _ => none) (fun _ _ => none) () (fun _ _ _ _ => ())
theorem truF_eq (d : D) : truF d = truD d := by
  cases d <;> try rfl
  · rename_i i; show some (intNZ i) = some (i != 0); rw [intNZ_eq]
  · rename_i l; cases l <;> rfl
  · rename_i l; cases l <;> rfl
def fTru (x : D) (μ : Store) : R Bool := optB (truF (viewF μ x)) μ
theorem fTru_eq (x : D) (μ : Store) : fTru x μ = liftO (truD (view μ x)) μ := by
  unfold fTru; rw [optB_eq, truF_eq, viewF_eq]
/-! ### built-ins -/
def biLen (x : D) (μ : Store) : R D := @D.rec (fun _ => D → Store → R D) (fun _ => Unit) (fun x μ => liftO (bi .len x) μ) (fun _ x μ => liftO (bi .len x) μ) (fun _ x μ => liftO (bi .len x) μ) (fun _ x μ => liftO (bi .len x) μ) (fun l _ _ μ => .ok (.int (.ofNat (lenF l))) μ) (fun l _ _ μ => .ok (.int (.ofNat (lenF l))) μ) (fun _ x μ => liftO (bi .len x) μ) (fun _ x μ => liftO (bi .len x) μ) (fun _ _ x μ => liftO (bi .len x) μ) (fun _ x μ => liftO (bi .len x) μ) (fun _ _ x μ => liftO (bi .len x) μ) () (fun _ _ _ _ => ()) x x μ
theorem biLen_eq (x : D) (μ : Store) : biLen x μ = liftO (bi .len x) μ := by
  cases x <;> try rfl
  · rename_i l; show R.ok (D.int (.ofNat (lenF l))) μ = _; rw [lenF_eq]; rfl
  · rename_i l; show R.ok (D.int (.ofNat (lenF l))) μ = _; rw [lenF_eq]; rfl
def lstC {X : Type} (f : List D → Store → X) (g : Store → X) (x : D) (μ : Store) : X := @D.rec (fun _ => Store → X) (fun _ => Unit) g (fun _ => g) (fun _ => g) (fun _ => g) (fun _ _ => g) (fun l _ => f l) (fun _ => g) (fun _ => g) (fun _ _ => g) (fun _ => g) (fun _ _ => g) () (fun _ _ _ _ => ()) x μ
def tlC {X : Type} (f h : List D → Store → X) (g : Store → X) (x : D) (μ : Store) : X := @D.rec (fun _ => Store → X) (fun _ => Unit) g (fun _ => g) (fun _ => g) (fun _ => g) (fun l _ => f l) (fun l _ => h l) (fun _ => g) (fun _ => g) (fun _ _ => g) (fun _ => g) (fun _ _ => g) () (fun _ _ _ _ => ()) x μ
def stuckD (_ : Store) : R D := .stuck
def biAll (x : D) (μ : Store) : R D := lstC (fun l μ => boolsR true l true μ) stuckD x μ
theorem biAll_eq (x : D) (μ : Store) : biAll x μ = liftO (bi .all x) μ := by
  cases x <;> try rfl
  rename_i l; show boolsR true l true μ = _; rw [boolsR_all]; rfl
def biAny (x : D) (μ : Store) : R D := lstC (fun l μ => boolsR false l false μ) stuckD x μ
theorem biAny_eq (x : D) (μ : Store) : biAny x μ = liftO (bi .any x) μ := by
  cases x <;> try rfl
  rename_i l; show boolsR false l false μ = _; rw [boolsR_any]; rfl
def biSum (x : D) (μ : Store) : R D := lstC (fun l μ => sumR l (.ofNat 0) μ) stuckD x μ
theorem biSum_eq (x : D) (μ : Store) : biSum x μ = liftO (bi .sum x) μ := by
  cases x <;> try rfl
  rename_i l; show sumR l (.ofNat 0) μ = _; rw [sumR_eq]
  show _ = liftO ((intsD l).map fun is => D.int is.sum) μ
  cases intsD l with
  | none => rfl
  | some is => simp
def biTup (x : D) (μ : Store) : R D := tlC (fun l μ => .ok (.tup l) μ) (fun l μ => .ok (.tup l) μ) stuckD x μ
theorem biTup_eq (x : D) (μ : Store) : biTup x μ = liftO (bi .tuple x) μ := by cases x <;> rfl
def biInt (x : D) (μ : Store) : R D := @D.rec (fun _ => D → Store → R D) (fun _ => Unit) (fun x μ => liftO (bi .int x) μ) (fun _ x μ => liftO (bi .int x) μ) (fun i _ μ => R.ok (D.int i) μ) (fun _ x μ => liftO (bi .int x) μ) (fun _ _ x μ => liftO (bi .int x) μ) (fun _ _ x μ => liftO (bi .int x) μ) (fun _ x μ => liftO (bi .int x) μ) (fun _ x μ => liftO (bi .int x) μ) (fun _ _ x μ => liftO (bi .int x) μ) (fun _ x μ => liftO (bi .int x) μ) (fun _ _ x μ => liftO (bi .int x) μ) () (fun _ _ _ _ => ()) x x μ
theorem biInt_eq (x : D) (μ : Store) : biInt x μ = liftO (bi .int x) μ := by cases x <;> rfl
/-! repr -/
def natAbsF (i : Int) : Nat := @Int.rec (fun _ => Nat) (fun n => n) (fun n => Nat.succ n) i
theorem natAbsF_eq (i : Int) : natAbsF i = i.natAbs := by cases i <;> rfl
/-- can be shown, and how long it may be -/
def wtF (d : D) : Nat :=
  @D.rec (fun _ => Nat) (fun _ => Nat) 5 (fun _ => 5) (fun i => Nat.add (Nat.log2 (natAbsF i)) 3) (fun s => 10 * s.cps.size + 2) (fun _ ih => Nat.add ih 4) (fun _ ih => Nat.add ih 4) (fun _ => 5) (fun _ => 5) (fun _ _ => 5) (fun _ => 5) (fun _ _ => 5) 0 (fun _ _ ih ihs => Nat.add (Nat.add ih 2) ihs) d
mutual
theorem wtF_eq : ∀ d, wtF d = D.wt d
  | .non => rfl
  | .bl _ => rfl
  | .int i => by show Nat.log2 (natAbsF i) + 3 = _; rw [natAbsF_eq]; rfl
  | .str _ => rfl
  | .tup l => congrArg (· + 4) (wtsF_eq l)
  | .lst l => congrArg (· + 4) (wtsF_eq l)
  | .scr _ => rfl
  | .ref _ => rfl
  | .rep _ => rfl
  | .ty _ => rfl
  | .wk _ => rfl
theorem wtsF_eq : ∀ l, (@D.rec_1 (fun _ => Nat) (fun _ => Nat) 5 (fun _ => 5) (fun i => Nat.add (Nat.log2 (natAbsF i)) 3) (fun s => 10 * s.cps.size + 2) (fun _ ih => Nat.add ih 4) (fun _ ih => Nat.add ih 4) (fun _ => 5) (fun _ => 5) (fun _ _ => 5) (fun _ => 5) (fun _ _ => 5) 0 (fun _ _ ih ihs => Nat.add (Nat.add ih 2) ihs) l) = D.wts l
  | [] => rfl
  | a :: l => by
      have h := wtF_eq a
      have k := wtsF_eq l
      show (wtF a + 2) + _ = D.wt a + 2 + D.wts l
      rw [h, k]
end
def ableF (d : D) : Bool :=
  @D.rec (fun _ => Bool) (fun _ => Bool) true (fun _ => true) (fun i => Nat.blt (Nat.log2 (natAbsF i)) 1920) (fun s => true) (fun _ ih => ih) (fun _ ih => ih) (fun _ => true) (fun _ => true) (fun _ _ => true) (fun _ => true) (fun _ _ => true) true (fun _ _ ih ihs => bsel ih ihs false) d
mutual
theorem ableF_eq : ∀ d, ableF d = D.able d
  | .non => rfl
  | .bl _ => rfl
  | .int i => by show Nat.blt (Nat.log2 (natAbsF i)) 1920 = _; rw [natAbsF_eq]; rfl
  | .str _ => rfl
  | .tup l => ablesF_eq l
  | .lst l => ablesF_eq l
  | .scr _ => rfl
  | .ref _ => rfl
  | .rep _ => rfl
  | .ty _ => rfl
  | .wk _ => rfl
theorem ablesF_eq : ∀ l, (@D.rec_1 (fun _ => Bool) (fun _ => Bool) true (fun _ => true) (fun i => Nat.blt (Nat.log2 (natAbsF i)) 1920) (fun s => true) (fun _ ih => ih) (fun _ ih => ih) (fun _ => true) (fun _ => true) (fun _ _ => true) (fun _ => true) (fun _ _ => true) true (fun _ _ ih ihs => bsel ih ihs false) l) = D.ables l
  | [] => rfl
  | a :: l => by
      have h := ableF_eq a
      have k := ablesF_eq l
      show bsel (ableF a) _ false = (D.able a && D.ables l)
      rw [h, k, bsel_eq]
      cases D.able a <;> rfl
end
def biRep (x : D) (μ : Store) : R D := bsel (flatF x 40) (bsel (ableF x) (bsel (Nat.ble (wtF x) cap) (R.ok (D.rep x) μ) .stuck) .stuck) .stuck
theorem biRep_eq (x : D) (μ : Store) : biRep x μ = liftO (bi .repr x) μ := by
  unfold biRep
  rw [bsel_eq, bsel_eq, bsel_eq, flatF_eq, ableF_eq, wtF_eq]
  show _ = liftO (if D.flat 40 x && D.able x && Nat.ble (D.wt x) cap then some (D.rep x) else none) μ
  cases D.flat 40 x <;> cases D.able x <;> cases Nat.ble (D.wt x) cap <;> rfl
def fBi (b : Bi) (x : D) (μ : Store) : R D := @Bi.rec (fun _ => D → Store → R D) biLen biAll biAny biSum biInt biTup (fun x μ => liftO (bi .list x) μ) biRep b (viewF μ x) μ
theorem fBi_eq (b : Bi) (x : D) (μ : Store) : fBi b x μ = liftO (bi b (view μ x)) μ := by
  cases b
  · show biLen (viewF μ x) μ = _; rw [biLen_eq, viewF_eq]
  · show biAll (viewF μ x) μ = _; rw [biAll_eq, viewF_eq]
  · show biAny (viewF μ x) μ = _; rw [biAny_eq, viewF_eq]
  · show biSum (viewF μ x) μ = _; rw [biSum_eq, viewF_eq]
  · show biInt (viewF μ x) μ = _; rw [biInt_eq, viewF_eq]
  · show biTup (viewF μ x) μ = _; rw [biTup_eq, viewF_eq]
  · show liftO (bi .list (viewF μ x)) μ = _; rw [viewF_eq]
  · show biRep (viewF μ x) μ = _; rw [biRep_eq, viewF_eq]
end
end EV

/-! EV run fast, 4: the text turned into small functions; the names stand in one structure. -/
namespace EV
open PySem
noncomputable section
structure Cl (T : Type) where run : T → Store → R D
structure Ct (T : Type) where run : T → Store → R Bool
inductive Fx (T : Type) where | nx (e : T) | ret (d : D)
structure Cs (T : Type) where run : T → Store → R (Fx T)
structure Ci (T : Type) where run : T → Store → R Src
structure Cll (T : Type) where run : T → Store → R (List D)
structure Cb (T : Type) where run : T → D → Option T
structure Cbl (T : Type) where run : T → List D → Option T
structure Cw (T : Type) where run : T → Option D → T
def dropOF (n : Nat) (o : Option D) : Option D := @Option.rec D (fun _ => Nat → Option D) (fun _ => none) (fun d n => @D.rec (fun _ => Nat → D → Option D) (fun _ => Unit) (fun _ d => some d) (fun _ _ d => some d) (fun _ _ d => some d) (fun _ _ d => some d) (fun _ _ _ d => some d) (fun _ _ _ d => some d) (fun _ _ d => some d) (fun i n _ => bsel (Nat.blt i n) (some (D.ref i)) none) (fun _ _ _ d => some d) (fun _ _ d => some d) (fun _ _ _ d => some d) () (fun _ _ _ _ => ()) d n d) o n
theorem dropOF_eq (n : Nat) (o : Option D) : dropOF n o = dropO n o := by
  cases o with
  | none => rfl
  | some d =>
    cases d <;> try rfl
    rename_i i
    show bsel (Nat.blt i n) (some (D.ref i)) none = if Nat.blt i n then _ else _
    rw [bsel_eq]
/-- names in one structure -/
structure EI (T : Type) where
  g : Nat → Cl T
  s : Nat → Cw T
  emp : T
  l : T → Env
  o : Env → Option T
  d : Nat → T → T
structure EIok {T : Type} (I : EI T) (n : Nat) : Prop where
  get : ∀ i e μ, (I.g i).run e μ = liftO (getE (I.l e) i) μ
  set : ∀ i e d, I.l ((I.s i).run e d) = setN (I.l e) i d
  emp : I.l I.emp = List.replicate n none
  toof : ∀ e, I.o (I.l e) = some e
  ofto : ∀ l e, I.o l = some e → I.l e = l
  drop : ∀ n e, I.l (I.d n e) = dropE n (I.l e)
section
variable {T : Type} (I : EI T)
/-- a name bound -/
def setCb (i : Nat) : Cb T := ⟨fun e d => some ((I.s i).run e (some d))⟩
def setsCb (is : List Nat) : Cbl T := @List.rec Nat (fun _ => Cbl T)
  ⟨fun e l => @List.rec D (fun _ => T → Option T) (fun e => some e) (fun _ _ _ _ => none) l e⟩
  (fun i _ ih => ⟨fun e l => @List.rec D (fun _ => T → Option T) (fun _ => none) (fun d t _ e => ih.run ((I.s i).run e (some d)) t) l e⟩) is
def tpCb (is : List Nat) : Cb T := ⟨fun e d => @D.rec (fun _ => T → Option T) (fun _ => Unit) (fun _ => none) (fun _ _ => none) (fun _ _ => none) (fun _ _ => none) (fun l _ e => (setsCb I is).run e l) (fun _ _ _ => none) (fun _ _ => none) (fun _ _ => none) (fun _ _ _ => none) (fun _ _ => none) (fun l _ e => (setsCb I is).run e l) () (fun _ _ _ _ => ()) d e⟩
def tgCb (t : Tg) : Cb T := @Tg.rec (fun _ => Cb T) (setCb I) (tpCb I) t
variable {I} {n : Nat} (K : EIok I n)
include K
theorem setCb_eq (i : Nat) (e : T) (d : D) : ((setCb I i).run e d).map I.l = some (setE (I.l e) i d) := congrArg some (K.set i e (some d))
theorem setsCb_eq : ∀ (is : List Nat) (e : T) (l : List D), ((setsCb I is).run e l).map I.l = setEs (I.l e) is l
  | [], e, [] => rfl
  | [], e, _ :: _ => rfl
  | i :: is, e, [] => rfl
  | i :: is, e, d :: t => by
    show ((setsCb I is).run ((I.s i).run e (some d)) t).map I.l = setEs (setN (I.l e) i (some d)) is t
    rw [setsCb_eq is, K.set]
theorem tgCb_eq (t : Tg) (e : T) (d : D) : ((tgCb I t).run e d).map I.l = bindT (I.l e) t d := by
  cases t with
  | nm i => exact setCb_eq K i e d
  | tp is => cases d <;> first | rfl | exact setsCb_eq K is e _
def wipeF (I : EI T) (own : List Nat) (e : T) : T := @List.rec Nat (fun _ => T → T) (fun e => e) (fun v _ ih e => (I.s v).run (ih e) none) own e
omit K in
theorem wipeF_cons (v : Nat) (vs : List Nat) (e : T) : wipeF I (v :: vs) e = (I.s v).run (wipeF I vs e) none := rfl
theorem wipeF_eq (own : List Nat) (e : T) : I.l (wipeF I own e) = wipeE (I.l e) own := by
  induction own with
  | nil => rfl
  | cons v vs ih => rw [wipeF_cons, K.set, ih]; rfl
def toFl (I : EI T) (x : Fx T) : Fl := match x with
  | .nx e => .nx (I.l e)
  | .ret d => .ret d
def mapF (I : EI T) (r : R (Fx T)) : R Fl := r.bind fun x μ => .ok (toFl I x) μ
def backF (I : EI T) (r : R Fl) : R (Fx T) := r.bind fun x μ => match x with
  | .nx ρ => match I.o ρ with
    | some e => .ok (.nx e) μ
    | none => .stuck
  | .ret d => .ok (.ret d) μ
theorem backF_le (r : R Fl) : Le (mapF I (backF I r)) r := by
  cases r with
  | stuck => exact Le.rfl
  | exc _ _ _ => exact Le.rfl
  | ok x μ =>
    cases x with
    | ret d => exact Le.rfl
    | nx ρ =>
      unfold backF mapF
      show Le (mapF I (match I.o ρ with | some e => R.ok (Fx.nx e) μ | none => R.stuck)) _
      cases h : I.o ρ with
      | none => exact Le.stuck
      | some e => exact Le.of (congrArg (fun ρ => R.ok (Fl.nx ρ) μ) (K.ofto ρ e h))
end
/-! ### lists of values -/
def nrF (d : D) (ds : List D) (μ : Store) : R (List D) := bsel (isRefF d) .stuck (.ok (d :: ds) μ)
def evsC {T : Type} (e : Ex → Cl T) (es : List Ex) : Cll T := @List.rec Ex (fun _ => Cll T) ⟨fun _ μ => .ok [] μ⟩ (fun x _ ih => ⟨fun ρ μ => bDL ((e x).run ρ μ) (fun d μ => bLL (ih.run ρ μ) (fun ds μ => nrF d ds μ))⟩) es
def evrC {T : Type} (e : Ex → Cl T) (es : List Ex) : Cll T := @List.rec Ex (fun _ => Cll T) ⟨fun _ μ => .ok [] μ⟩ (fun x _ ih => ⟨fun ρ μ => bDL ((e x).run ρ μ) (fun d μ => bLL (ih.run ρ μ) (fun ds μ => .ok (d :: ds) μ))⟩) es
theorem bDD_eq (r : R D) (f : D → Store → R D) : bDD r f = r.bind f := by cases r <;> rfl
theorem bDB_eq (r : R D) (f : D → Store → R Bool) : bDB r f = r.bind f := by cases r <;> rfl
theorem bDF_eq (r : R D) (f : D → Store → R Fl) : bDF r f = r.bind f := by cases r <;> rfl
theorem bDS_eq (r : R D) (f : D → Store → R Src) : bDS r f = r.bind f := by cases r <;> rfl
theorem bDL_eq (r : R D) (f : D → Store → R (List D)) : bDL r f = r.bind f := by cases r <;> rfl
theorem bLL_eq (r : R (List D)) (f : List D → Store → R (List D)) : bLL r f = r.bind f := by cases r <;> rfl
theorem bLD_eq (r : R (List D)) (f : List D → Store → R D) : bLD r f = r.bind f := by cases r <;> rfl
theorem bLF_eq (r : R (List D)) (f : List D → Store → R Fl) : bLF r f = r.bind f := by cases r <;> rfl
theorem bBD_eq (r : R Bool) (f : Bool → Store → R D) : bBD r f = r.bind f := by cases r <;> rfl
theorem bBB_eq (r : R Bool) (f : Bool → Store → R Bool) : bBB r f = r.bind f := by cases r <;> rfl
theorem bBF_eq (r : R Bool) (f : Bool → Store → R Fl) : bBF r f = r.bind f := by cases r <;> rfl
theorem bSD_eq (r : R Src) (f : Src → Store → R D) : bSD r f = r.bind f := by cases r <;> rfl
theorem bSF_eq (r : R Src) (f : Src → Store → R Fl) : bSF r f = r.bind f := by cases r <;> rfl
theorem bSL_eq (r : R Src) (f : Src → Store → R (List D)) : bSL r f = r.bind f := by cases r <;> rfl
theorem bFF_eq (r : R Fl) (f : Fl → Store → R Fl) : bFF r f = r.bind f := by cases r <;> rfl
theorem bFD_eq (r : R Fl) (f : Fl → Store → R D) : bFD r f = r.bind f := by cases r <;> rfl
theorem evsC_eq {T : Type} (e : Ex → Cl T) : ∀ {f : EvE} {ρ : Env} {v : T} (hf : ∀ x μ, (e x).run v μ = f x ρ μ) (es : List Ex) (μ : Store), (evsC e es).run v μ = evs f es ρ μ
  | _, _, _, _, [], μ => rfl
  | f, ρ, v, hf, x :: es, μ => by
    show bDL ((e x).run v μ) (fun d μ => bLL ((evsC e es).run v μ) (fun ds μ => nrF d ds μ)) = _
    rw [bDL_eq, hf]
    show _ = (f x ρ μ).bind _
    congr 1; funext d μ
    rw [bLL_eq, evsC_eq e hf es]
    congr 1; funext ds μ
    show bsel _ _ _ = _
    rw [bsel_eq, isRefF_eq]
theorem evrC_eq {T : Type} (e : Ex → Cl T) : ∀ {f : EvE} {ρ : Env} {v : T} (hf : ∀ x μ, (e x).run v μ = f x ρ μ) (es : List Ex) (μ : Store), (evrC e es).run v μ = evr f es ρ μ
  | _, _, _, _, [], μ => rfl
  | f, ρ, v, hf, x :: es, μ => by
    show bDL ((e x).run v μ) (fun d μ => bLL ((evrC e es).run v μ) (fun ds μ => .ok (d :: ds) μ)) = _
    rw [bDL_eq, hf]
    show _ = (f x ρ μ).bind _
    congr 1; funext d μ
    rw [bLL_eq, evrC_eq e hf es]
def isStarF (e : Ex) : Bool := match e with
  | .star _ => true
  | _ => false
def noStars : List Ex → Bool
  | [] => true
  | e :: es => bsel (isStarF e) false (noStars es)
theorem evsS_plain (f : EvE) : ∀ (es : List Ex), noStars es = true → ∀ ρ μ, evsS f es ρ μ = evs f es ρ μ
  | [], _, ρ, μ => rfl
  | e :: es, h, ρ, μ => by
    have h1 : isStarF e = false ∧ noStars es = true := by
      have h' : bsel (isStarF e) false (noStars es) = true := h
      rw [bsel_eq] at h'
      cases he : isStarF e with
      | true => rw [he] at h'; simp at h'
      | false => rw [he] at h'; exact ⟨rfl, by simpa using h'⟩
    have e1 : evsS f (e :: es) ρ μ = (f e ρ μ).bind fun d μ => (evsS f es ρ μ).bind fun ds μ => if d.isRef then .stuck else .ok (d :: ds) μ := by cases e <;> first | rfl | (simp [isStarF] at h1)
    rw [e1]
    show _ = (f e ρ μ).bind fun d μ => (evs f es ρ μ).bind fun ds μ => if d.isRef then .stuck else .ok (d :: ds) μ
    congr 1; funext d μ
    rw [evsS_plain f es h1.2]
/-- a length that is let -/
def shortF {α : Type} (l : List α) : Bool := Nat.ble (lenF l) 16777216
theorem shortF_eq {α : Type} (l : List α) : shortF l = short l := by unfold shortF short; rw [lenF_eq]; rfl

/-! ### what a for walks over -/
def rangeF (n : Nat) : Nat → List D := @Nat.rec (fun _ => Nat → List D) (fun _ => []) (fun _ ih a => .int (.ofNat a) :: ih (Nat.succ a)) n
theorem rangeF_eq : ∀ (n a : Nat), rangeF n a = rangeD (.ofNat a) n
  | 0, a => rfl
  | n + 1, a => by
    show D.int (.ofNat a) :: rangeF n (a + 1) = D.int (.ofNat a) :: rangeD (.ofNat a + 1) n
    rw [rangeF_eq n (a + 1)]; rfl
def rngNN (n m : Nat) : Option (List D) := bsel (bsel (Nat.ble n 16777216) (Nat.ble m 16777216) false) (some (rangeF (Nat.sub m n) n)) (rngD (.ofNat n) (.ofNat m))
def rngF (a b : Int) : Option (List D) := @Int.rec (fun _ => Int → Option (List D)) (fun n b => @Int.rec (fun _ => Nat → Option (List D)) (fun m n => rngNN n m) (fun m n => rngD (.ofNat n) (.negSucc m)) b n) (fun n b => rngD (.negSucc n) b) a b
theorem rngF_eq (a b : Int) : rngF a b = rngD a b := by
  cases a with
  | negSucc n => rfl
  | ofNat n => cases b with
    | negSucc m => rfl
    | ofNat m =>
      show rngNN n m = _
      unfold rngNN
      rw [bsel_eq, bsel_eq]
      by_cases h1 : Nat.ble n 16777216 = true
      · rw [if_pos h1]
        by_cases h2 : Nat.ble m 16777216 = true
        · rw [if_pos h2]
          have g1 := Nat.le_of_ble_eq_true h1
          have g2 := Nat.le_of_ble_eq_true h2
          unfold rngD
          have c1 : decide ((-4611686018427387904 : Int) ≤ .ofNat n) = true := decide_eq_true (by simp only [Int.ofNat_eq_natCast]; omega)
          have c2 : decide ((.ofNat n : Int) < 4611686018427387904) = true := decide_eq_true (by simp only [Int.ofNat_eq_natCast]; omega)
          have c3 : decide ((-4611686018427387904 : Int) ≤ .ofNat m) = true := decide_eq_true (by simp only [Int.ofNat_eq_natCast]; omega)
          have c4 : decide ((.ofNat m : Int) < 4611686018427387904) = true := decide_eq_true (by simp only [Int.ofNat_eq_natCast]; omega)
          have c5 : ((.ofNat m : Int) - .ofNat n).toNat = m - n := by simp only [Int.ofNat_eq_natCast]; omega
          have c6 : Nat.ble (m - n) cap = true := Nat.ble_eq_true_of_le (by show m - n ≤ 16777216; omega)
          rw [c1, c2, c3, c4, c5, c6]
          show some (rangeF (m - n) n) = _
          rw [rangeF_eq]; rfl
        · rw [if_neg h2]
      · rw [if_neg h1, if_neg Bool.false_ne_true]
def optI {X : Type} (f : Int → X) (g : X) (d : D) : X := @D.rec (fun _ => X) (fun _ => Unit) g (fun _ => g) f (fun _ => g) (fun _ _ => g) (fun _ _ => g) (fun _ => g) (fun _ => g) (fun _ _ => g) (fun _ => g) (fun _ _ => g) () (fun _ _ _ _ => ()) d
def srcV (o : Option (List D)) (μ : Store) : R Src := @Option.rec (List D) (fun _ => Store → R Src) (fun _ => .stuck) (fun l μ => .ok (.vals l) μ) o μ
theorem srcV_eq (o : Option (List D)) (μ : Store) : srcV o μ = liftO (valsOf o) μ := by cases o <;> rfl
def rngS (a : Int) (d : D) (μ : Store) : R Src := @D.rec (fun _ => Int → Store → R Src) (fun _ => Unit) (fun _ _ => .stuck) (fun _ _ _ => .stuck) (fun b a μ => srcV (rngF a b) μ) (fun _ _ _ => .stuck) (fun _ _ _ _ => .stuck) (fun _ _ _ _ => .stuck) (fun _ _ _ => .stuck) (fun _ _ _ => .stuck) (fun _ _ _ _ => .stuck) (fun _ _ _ => .stuck) (fun _ _ _ _ => .stuck) () (fun _ _ _ _ => ()) d a μ
theorem rngS_eq (a : Int) (d : D) (μ : Store) : rngS a d μ = liftO (valsOf ((asI d).bind (rngD a))) μ := by
  cases d <;> try rfl
  rename_i b
  show srcV (rngF a b) μ = _
  rw [srcV_eq, rngF_eq]; rfl
def rngS2 (d d' : D) (μ : Store) : R Src := @D.rec (fun _ => D → Store → R Src) (fun _ => Unit) (fun _ _ => .stuck) (fun _ _ _ => .stuck) (fun a d' μ => rngS a d' μ) (fun _ _ _ => .stuck) (fun _ _ _ _ => .stuck) (fun _ _ _ _ => .stuck) (fun _ _ _ => .stuck) (fun _ _ _ => .stuck) (fun _ _ _ _ => .stuck) (fun _ _ _ => .stuck) (fun _ _ _ _ => .stuck) () (fun _ _ _ _ => ()) d d' μ
theorem rngS2_eq (d d' : D) (μ : Store) : rngS2 d d' μ = liftO (valsOf ((asI d).bind fun i => (asI d').bind (rngD i))) μ := by
  cases d <;> try rfl
  rename_i a
  exact rngS_eq a d' μ
def seqS (d : D) (μ : Store) : R Src := @D.rec (fun _ => D → Store → R Src) (fun _ => Unit)
  (fun _ _ => .stuck) (fun _ _ _ => .stuck) (fun _ _ _ => .stuck) (fun _ _ _ => .stuck) (fun l _ _ μ => .ok (.vals l) μ) (fun l _ _ μ => .ok (.vals l) μ)
  (fun _ d μ => liftO ((srcOf d).bind fun s => if srcOk μ s then some s else none) μ) (fun _ d μ => liftO ((srcOf d).bind fun s => if srcOk μ s then some s else none) μ) (fun _ _ _ _ => .stuck) (fun _ _ _ => .stuck) (fun _ _ _ _ => .stuck) () (fun _ _ _ _ => ()) d d μ
theorem seqS_eq (d : D) (μ : Store) : seqS d μ = liftO ((srcOf d).bind fun s => if srcOk μ s then some s else none) μ := by
  cases d <;> rfl
def evItC {T : Type} (e : Ex → Cl T) (it : Itx) : Ci T := match it with
  | .seq a => ⟨fun ρ μ => bDS ((e a).run ρ μ) seqS⟩
  | .rng a => ⟨fun ρ μ => bDS ((e a).run ρ μ) (rngS (.ofNat 0))⟩
  | .rng2 a b => ⟨fun ρ μ => bDS ((e a).run ρ μ) (fun x μ => bDS ((e b).run ρ μ) (fun y μ => rngS2 x y μ))⟩
  | .enum a => ⟨fun ρ μ => bDS ((e a).run ρ μ) (fun d μ => liftO (valsOf (itEnum d)) μ)⟩
  | .zip a b => ⟨fun ρ μ => bDS ((e a).run ρ μ) (fun x μ => bDS ((e b).run ρ μ) (fun y μ => liftO (valsOf (itZip x y)) μ))⟩
theorem evItC_eq {T : Type} (e : Ex → Cl T) {f : EvE} {ρ : Env} {v : T} (hf : ∀ x μ, (e x).run v μ = f x ρ μ) (it : Itx) (μ : Store) : (evItC e it).run v μ = evIt f ρ μ it := by
  cases it with
  | seq a =>
    show bDS ((e a).run v μ) seqS = _
    rw [bDS_eq, hf]
    show _ = (f a ρ μ).bind _
    congr 1; funext d μ; exact seqS_eq d μ
  | rng a =>
    show bDS ((e a).run v μ) (rngS (.ofNat 0)) = _
    rw [bDS_eq, hf]
    show _ = (f a ρ μ).bind _
    congr 1; funext d μ; exact rngS_eq _ d μ
  | rng2 a b =>
    show bDS ((e a).run v μ) (fun x μ => bDS ((e b).run v μ) (fun y μ => rngS2 x y μ)) = _
    rw [bDS_eq, hf]
    show _ = (f a ρ μ).bind _
    congr 1; funext d μ; rw [bDS_eq, hf]
    congr 1; funext d' μ; exact rngS2_eq d d' μ
  | enum a => show bDS ((e a).run v μ) _ = _; rw [bDS_eq, hf]; rfl
  | zip a b =>
    show bDS ((e a).run v μ) (fun x μ => bDS ((e b).run v μ) (fun y μ => liftO (valsOf (itZip x y)) μ)) = _
    rw [bDS_eq, hf]
    show _ = (f a ρ μ).bind _
    congr 1; funext d μ; rw [bDS_eq, hf]
end
end EV

/-! EV run fast, 5: operations, 2. -/
namespace EV
open PySem
noncomputable section
/-! ### operators -/
def fBop (op : Bop) : D → D → Store → R D := @Bop.rec (fun _ => D → D → Store → R D) fAdd fSub fMul fDiv fMod (slowB .pow) (slowB .shl) (slowB .shr) (slowB .band) op
theorem fBop_le (op : Bop) (x y : D) (μ : Store) : Le (fBop op x y μ) (slowB op x y μ) := by
  cases op
  · exact Le.of (fAdd_eq x y μ)
  · exact Le.of (fSub_eq x y μ)
  · exact fMul_le x y μ
  · exact Le.of (fDiv_eq x y μ)
  · exact Le.of (fMod_eq x y μ)
  · exact Le.rfl
  · exact Le.rfl
  · exact Le.rfl
  · exact Le.rfl
def blK (f : Store → R D) (g : Store → R D) (d : D) (μ : Store) : R D := @D.rec (fun _ => (Store → R D) → (Store → R D) → Store → R D) (fun _ => Unit) (fun _ _ _ => .stuck) (fun b f g μ => bsel b (f μ) (g μ)) (fun _ _ _ _ => .stuck) (fun _ _ _ _ => .stuck) (fun _ _ _ _ _ => .stuck) (fun _ _ _ _ _ => .stuck) (fun _ _ _ _ => .stuck) (fun _ _ _ _ => .stuck) (fun _ _ _ _ _ => .stuck) (fun _ _ _ _ => .stuck) (fun _ _ _ _ _ => .stuck) () (fun _ _ _ _ => ()) d f g μ
theorem blK_eq (f g : Store → R D) (d : D) (μ : Store) : blK f g d μ = (liftO (asB d) μ).bind fun b μ => match b with | true => f μ | false => g μ := by
  cases d <;> try rfl
  rename_i b; cases b <;> rfl
/-! selection of values -/
def optLL (o : Option (List D)) (f : List D → Store → R D) (μ : Store) : R D := @Option.rec (List D) (fun _ => (List D → Store → R D) → Store → R D) (fun _ _ => .stuck) (fun l f μ => f l μ) o f μ
theorem optLL_eq (o : Option (List D)) (f : List D → Store → R D) (μ : Store) : optLL o f μ = (liftO o μ).bind f := by cases o <;> rfl
def selF (sel : List (Nat ⊕ D)) : List D → Option (List D) := @List.rec (Nat ⊕ D) (fun _ => List D → Option (List D)) (fun _ => some []) (fun s _ ih ds => @Sum.rec Nat D (fun _ => List D → (List D → Option (List D)) → Option (List D))
  (fun i ds ih => @Option.rec D (fun _ => Option (List D) → Option (List D)) (fun _ => none) (fun d o => @Option.rec (List D) (fun _ => D → Option (List D)) (fun _ => none) (fun l d => some (d :: l)) o d) (nthF ds i) (ih ds))
  (fun d ds ih => @Option.rec (List D) (fun _ => D → Option (List D)) (fun _ => none) (fun l d => some (d :: l)) (ih ds) d) s ds ih) sel
theorem selF_eq (sel : List (Nat ⊕ D)) (ds : List D) : selF sel ds = selD ds sel := by
  induction sel with
  | nil => rfl
  | cons s sel ih =>
    cases s with
    | inl i =>
      show @Option.rec D (fun _ => Option (List D) → Option (List D)) (fun _ => none) (fun d o => @Option.rec (List D) (fun _ => D → Option (List D)) (fun _ => none) (fun l d => some (d :: l)) o d) (nthF ds i) (selF sel ds) = _
      rw [nthF_eq, ih]
      show _ = (match nthD ds i, selD ds sel with
        | some d, some r => some (d :: r)
        | _, _ => none)
      cases nthD ds i with
      | none => cases selD ds sel <;> rfl
      | some d => cases selD ds sel <;> rfl
    | inr d =>
      show @Option.rec (List D) (fun _ => D → Option (List D)) (fun _ => none) (fun l d => some (d :: l)) (selF sel ds) d = _
      rw [ih]
      show _ = (match selD ds sel with
        | some r => some (d :: r)
        | none => none)
      cases selD ds sel <;> rfl
def lstOk (ds : List D) (μ : Store) : R D := bsel (shortF ds) (.ok (.lst ds) μ) .stuck
def tupOk (ds : List D) (μ : Store) : R D := bsel (shortF ds) (.ok (.tup ds) μ) .stuck
theorem lstOk_eq (ds : List D) (μ : Store) : lstOk ds μ = liftO (shortO ds (.lst ds)) μ := by
  unfold lstOk shortO; rw [bsel_eq, shortF_eq]; split <;> rfl
theorem tupOk_eq (ds : List D) (μ : Store) : tupOk ds μ = liftO (shortO ds (.tup ds)) μ := by
  unfold tupOk shortO; rw [bsel_eq, shortF_eq]; split <;> rfl
/-! methods -/
def obLst (o : Option Ob) (f : List D → Store → R D) (μ : Store) : R D := @Option.rec Ob (fun _ => (List D → Store → R D) → Store → R D) (fun _ _ => .stuck) (fun o f μ => @Ob.rec (fun _ => (List D → Store → R D) → Store → R D) (fun l f μ => f l μ) (fun _ _ _ => .stuck) (fun _ _ _ => .stuck) (fun _ _ _ => .stuck) o f μ) o f μ
theorem obLst_eq (o : Option Ob) (f : List D → Store → R D) (μ : Store) : obLst o f μ = match o with | some (.lst l) => f l μ | _ => .stuck := by
  cases o with
  | none => rfl
  | some o => cases o <;> rfl
def onRef (f : Nat → Store → R D) (o : D) (μ : Store) : R D := @D.rec (fun _ => (Nat → Store → R D) → Store → R D) (fun _ => Unit) (fun _ _ => .stuck) (fun _ _ _ => .stuck) (fun _ _ _ => .stuck) (fun _ _ _ => .stuck) (fun _ _ _ _ => .stuck) (fun _ _ _ _ => .stuck) (fun _ _ _ => .stuck) (fun i f μ => f i μ) (fun _ _ _ _ => .stuck) (fun _ _ _ => .stuck) (fun _ _ _ _ => .stuck) () (fun _ _ _ _ => ()) o f μ
/-- l.append(x): the place is known, the list is there -/
def appD (o x : D) (μ : Store) : R D := onRef (fun i μ => obLst (nthF μ i) (fun l μ => bsel (isRefF x) .stuck (bsel (Nat.blt (lenF l) cap) (.ok .non (setF μ i (.lst (appF l [x])))) .stuck)) μ) o μ
theorem appD_eq (o x : D) (μ : Store) : appD o x μ = methD .append o x μ := by
  cases o <;> try rfl
  rename_i i
  show obLst (nthF μ i) _ μ = _
  rw [obLst_eq, nthF_eq]
  show _ = (match nthD μ i with
      | some (.lst l) => if x.isRef then R.stuck else if Nat.blt l.length cap then R.ok D.non (setN μ i (Ob.lst (l ++ [x]))) else R.stuck
      | _ => R.stuck)
  cases nthD μ i with
  | none => rfl
  | some o => cases o with
    | lst l => simp only [bsel_eq, isRefF_eq, lenF_eq, setF_eq, appF_eq]
    | _ => rfl
def indexF (x : D) (l : List D) : Nat → Store → R D := @List.rec D (fun _ => Nat → Store → R D) (fun _ _ => .stuck) (fun y _ ih n μ => bsel (beqF y x) (.ok (.int (.ofNat n)) μ) (forceN (Nat.succ n) (fun n => ih n μ))) l
theorem indexF_eq (x : D) (l : List D) (μ : Store) : ∀ n, indexF x l n μ = liftO ((indexD x l n).map fun (n : Nat) => D.int (Int.ofNat n)) μ := by
  induction l with
  | nil => intro n; rfl
  | cons y l ih =>
    intro n
    show bsel (beqF y x) (.ok (.int (.ofNat n)) μ) (forceN (Nat.succ n) (fun n => indexF x l n μ)) = _
    rw [bsel_eq, beqF_eq, forceN_eq, ih]
    show _ = liftO ((if D.beq y x then some n else indexD x l (n + 1)).map _) μ
    split <;> rfl
def idxM (o x : D) (μ : Store) : R D := tlC (fun l μ => bsel (bsel (oneF x) (onesF l) false) (indexF x l 0 μ) .stuck) (fun l μ => bsel (bsel (flatF x 40) (flatsF l 40) false) (indexF x l 0 μ) .stuck) stuckD (viewF μ o) μ
theorem idxM_eq (o x : D) (μ : Store) : idxM o x μ = methD .index o x μ := by
  unfold idxM
  rw [viewF_eq]
  show _ = (match view μ o with
    | .tup l => if D.one x && l.all D.one then liftO ((indexD x l 0).map fun (n : Nat) => D.int (Int.ofNat n)) μ else .stuck
    | .lst l => if D.flat 40 x && D.flats 40 l then liftO ((indexD x l 0).map fun (n : Nat) => D.int (Int.ofNat n)) μ else .stuck
    | _ => .stuck)
  cases view μ o <;> try rfl
  · rename_i l
    show bsel (bsel (oneF x) (onesF l) false) (indexF x l 0 μ) .stuck = _
    simp only [bsel_eq, oneF_eq, onesF_eq, indexF_eq]
    cases D.one x <;> simp
  · rename_i l
    show bsel (bsel (flatF x 40) (flatsF l 40) false) (indexF x l 0 μ) .stuck = _
    simp only [bsel_eq, flatF_eq, flatsF_eq, indexF_eq]
    cases D.flat 40 x <;> simp
def fMeth (m : Mt) : D → D → Store → R D := @Mt.rec (fun _ => D → D → Store → R D) idxM (methD .count) appD (methD .extend) (methD .popAt) m
theorem fMeth_eq (m : Mt) (o x : D) (μ : Store) : fMeth m o x μ = methD m o x μ := by
  cases m
  · exact idxM_eq o x μ
  · rfl
  · exact appD_eq o x μ
  · rfl
  · rfl
def isLstF (d : D) : Bool := @D.rec (fun _ => Bool) (fun _ => Unit) false (fun _ => false) (fun _ => false) (fun _ => false) (fun _ _ => false) (fun _ _ => true) (fun _ => false) (fun _ => false) (fun _ _ => false) (fun _ => false) (fun _ _ => false) () (fun _ _ _ _ => ()) d
def isTLF (d : D) : Bool := @D.rec (fun _ => Bool) (fun _ => Unit) false (fun _ => false) (fun _ => false) (fun _ => false) (fun _ _ => true) (fun _ _ => true) (fun _ => false) (fun _ => false) (fun _ _ => false) (fun _ => false) (fun _ _ => false) () (fun _ _ _ _ => ()) d
def mokF (m : Mt) : D → Bool := @Mt.rec (fun _ => D → Bool) isTLF isLstF isLstF isLstF isLstF m
theorem mokF_eq (m : Mt) (d : D) : mokF m d = mthOk m d := by cases m <;> cases d <;> rfl
/-! dicts -/
def keyF (d : D) : Bool := @D.rec (fun _ => Bool) (fun _ => Unit) false (fun _ => false) (fun _ => true) (fun _ => true) (fun _ _ => false) (fun _ _ => false) (fun _ => false) (fun _ => false) (fun _ _ => false) (fun _ => false) (fun _ _ => false) () (fun _ _ _ _ => ()) d
theorem keyF_eq (d : D) : keyF d = keyOk d := by cases d <;> rfl
def keysF (l : List D) : Bool := @List.rec D (fun _ => Bool) true (fun d _ ih => bsel (keyF d) ih false) l
theorem keysF_eq (l : List D) : keysF l = l.all keyOk := by
  induction l with
  | nil => rfl
  | cons d l ih => show bsel (keyF d) (keysF l) false = _; rw [bsel_eq, keyF_eq, ih, List.all_cons]; cases keyOk d <;> rfl
def keyTF (d : D) : Bool := @D.rec (fun _ => Bool) (fun _ => Unit) false (fun _ => false) (fun _ => false) (fun _ => false) (fun l _ => keysF l) (fun _ _ => false) (fun _ => false) (fun _ => false) (fun _ _ => false) (fun _ => false) (fun _ _ => false) () (fun _ _ _ _ => ()) d
theorem keyTF_eq (d : D) : keyTF d = keyTOk d := by cases d <;> first | rfl | exact keysF_eq _
def lookF (k : D) (l : List (D × D)) : Option D := @List.rec (D × D) (fun _ => Option D) none (fun p _ ih => @Prod.rec D D (fun _ => Option D → Option D) (fun a v ih => bsel (sameF a k) (some v) ih) p ih) l
theorem lookF_eq (k : D) (l : List (D × D)) : lookF k l = lookD k l := by
  induction l with
  | nil => rfl
  | cons p l ih =>
    obtain ⟨a, v⟩ := p
    show bsel (sameF a k) (some v) (lookF k l) = _
    rw [bsel_eq, sameF_eq, ih]; rfl
def dgetF (μ : Store) (o k : D) : R D := onRef (fun i μ => @Option.rec Ob (fun _ => D → Store → R D) (fun _ _ => .stuck) (fun o => @Ob.rec (fun _ => D → Store → R D) (fun _ _ _ => .stuck) (fun kvs k μ => bsel (keyF k) (optF (lookF k kvs) μ) .stuck) (fun kvs k μ => bsel (keyTF k) (optF (lookF k kvs) μ) .stuck) (fun _ _ _ => .stuck) o) (nthF μ i) k μ) o μ
theorem dgetF_eq (μ : Store) (o k : D) : dgetF μ o k = liftO (dgetD μ o k) μ := by
  cases o <;> try rfl
  rename_i i
  show @Option.rec Ob (fun _ => D → Store → R D) (fun _ _ => .stuck) (fun o => @Ob.rec (fun _ => D → Store → R D) (fun _ _ _ => .stuck) (fun kvs k μ => bsel (keyF k) (optF (lookF k kvs) μ) .stuck) (fun kvs k μ => bsel (keyTF k) (optF (lookF k kvs) μ) .stuck) (fun _ _ _ => .stuck) o) (nthF μ i) k μ = _
  rw [nthF_eq]
  unfold dgetD
  simp only
  cases nthD μ i with
  | none => rfl
  | some o =>
    cases o with
    | dct kvs =>
      show bsel (keyF k) (optF (lookF k kvs) μ) .stuck = liftO (if keyOk k then lookD k kvs else none) μ
      rw [bsel_eq, keyF_eq, lookF_eq, optF_eq]; split <;> rfl
    | dcT kvs =>
      show bsel (keyTF k) (optF (lookF k kvs) μ) .stuck = liftO (if keyTOk k then lookD k kvs else none) μ
      rw [bsel_eq, keyTF_eq, lookF_eq, optF_eq]; split <;> rfl
    | _ => rfl
/-! sorted(set(..)) -/
def insF (a : Int) (l : List Int) : List Int := @List.rec Int (fun _ => List Int) [a] (fun b l ih => bsel (ilt a b) (a :: b :: l) (bsel (ieq a b) (b :: l) (b :: ih))) l
theorem insF_eq (a : Int) (l : List Int) : insF a l = ins a l := by
  induction l with
  | nil => rfl
  | cons b l ih =>
    show bsel (ilt a b) (a :: b :: l) (bsel (ieq a b) (b :: l) (b :: insF a l)) = _
    rw [bsel_eq, bsel_eq, ilt_eq, ieq_eq, ih]; rfl
/-- a list of ints, its tail at hand -/
def forceL (l : List Int) (k : List Int → Option (List Int)) : Option (List Int) := @List.rec Int (fun _ => (List Int → Option (List Int)) → Option (List Int)) (fun k => k []) (fun a _ ih k => ih (fun t => k (a :: t))) l k
theorem forceL_eq (l : List Int) : ∀ k, forceL l k = k l := by
  induction l with
  | nil => intro k; rfl
  | cons a l ih => intro k; exact ih _
/-- the ascending list of the ints of a list, put together from its end -/
def ascF (l : List D) : Option (List Int) := @List.rec D (fun _ => Option (List Int)) (some []) (fun d _ ih => @D.rec (fun _ => Option (List Int) → Option (List Int)) (fun _ => Unit) (fun _ => none) (fun _ _ => none) (fun i o => @Option.rec (List Int) (fun _ => Int → Option (List Int)) (fun _ => none) (fun t i => forceI i (fun i => forceL (insF i t) (fun r => some r))) o i) (fun _ _ => none) (fun _ _ _ => none) (fun _ _ _ => none) (fun _ _ => none) (fun _ _ => none) (fun _ _ _ => none) (fun _ _ => none) (fun _ _ _ => none) () (fun _ _ _ _ => ()) d ih) l
theorem ascF_eq (l : List D) : ascF l = (intsD l).map asc := by
  induction l with
  | nil => rfl
  | cons d l ih =>
    cases d <;> try rfl
    rename_i i
    show @Option.rec (List Int) (fun _ => Int → Option (List Int)) (fun _ => none) (fun t i => forceI i (fun i => forceL (insF i t) (fun r => some r))) (ascF l) i = _
    rw [ih]
    have e : intsD (.int i :: l) = (intsD l).map (i :: ·) := rfl
    rw [e]
    cases intsD l with
    | none => rfl
    | some is => show forceI i (fun i => forceL (insF i (asc is)) (fun r => some r)) = some (asc (i :: is)); rw [forceI_eq, forceL_eq, insF_eq]; rfl
def mapInt (l : List Int) : List D := @List.rec Int (fun _ => List D) [] (fun i _ ih => .int i :: ih) l
theorem mapInt_eq (l : List Int) : mapInt l = l.map .int := by
  induction l with
  | nil => rfl
  | cons i l ih => exact congrArg (D.int i :: ·) ih
def setOk (r : List Int) (μ : Store) : R D := bsel (Nat.blt (lenF r) 64) (.ok (.lst (mapInt r)) μ) .stuck
def setL (l : List D) (μ : Store) : R D := bsel (Nat.ble (lenF l) 4000) (@Option.rec (List Int) (fun _ => Store → R D) (fun _ => .stuck) setOk (ascF l) μ) .stuck
theorem setL_eq (l : List D) (μ : Store) : setL l μ = liftO ((ssetL l).map fun l => .lst (l.map .int)) μ := by
  unfold setL ssetL
  rw [bsel_eq, lenF_eq, ascF_eq]
  split
  · cases intsD l with
    | none => rfl
    | some is =>
      show bsel (Nat.blt (lenF (asc is)) 64) (R.ok (D.lst (mapInt (asc is))) μ) .stuck = liftO ((if Nat.blt (asc is).length 64 then some (asc is) else none).map fun l => D.lst (l.map D.int)) μ
      rw [bsel_eq, lenF_eq, mapInt_eq]
      split <;> rfl
  · rfl
def fSset (x : D) (μ : Store) : R D := tlC setL setL stuckD (viewF μ x) μ
theorem fSset_eq (x : D) (μ : Store) : fSset x μ = liftO ((ssetD (view μ x)).map fun l => .lst (l.map .int)) μ := by
  unfold fSset
  rw [viewF_eq]
  cases view μ x <;> first | rfl | exact setL_eq _ μ
def tupB (b : Bool) (l : List D) : D := bsel b (.tup l) (.lst l)
def trngF (b : Bool) (i : Int) (d : D) (μ : Store) : R D := @D.rec (fun _ => Bool → Int → Store → R D) (fun _ => Unit) (fun _ _ _ => .stuck) (fun _ _ _ _ => .stuck) (fun j b i μ => @Option.rec (List D) (fun _ => Bool → Store → R D) (fun _ _ => .stuck) (fun l b μ => .ok (tupB b l) μ) (rngF i j) b μ) (fun _ _ _ _ => .stuck) (fun _ _ _ _ _ => .stuck) (fun _ _ _ _ _ => .stuck) (fun _ _ _ _ => .stuck) (fun _ _ _ _ => .stuck) (fun _ _ _ _ _ => .stuck) (fun _ _ _ _ => .stuck) (fun _ _ _ _ _ => .stuck) () (fun _ _ _ _ => ()) d b i μ
theorem trngF_eq (b : Bool) (i : Int) (d : D) (μ : Store) : trngF b i d μ = liftO (((asI d).bind (rngD i)).map fun l => if b then .tup l else .lst l) μ := by
  cases d <;> try rfl
  rename_i j
  show @Option.rec (List D) (fun _ => Bool → Store → R D) (fun _ _ => .stuck) (fun l b μ => .ok (tupB b l) μ) (rngF i j) b μ = liftO ((rngD i j).map _) μ
  rw [rngF_eq]
  cases rngD i j with
  | none => rfl
  | some l => cases b <;> rfl
def newF (d : D) (μ : Store) : R D := lstC (fun l μ => .ok (.ref (lenF μ)) (appF μ [.lst l])) stuckD d μ
theorem newF_eq (d : D) (μ : Store) : newF d μ = newR d μ := by
  cases d <;> try rfl
  rename_i l
  show R.ok (D.ref (lenF μ)) (appF μ [.lst l]) = _
  rw [lenF_eq, appF_eq]; rfl
end
end EV

/-! EV run fast, 6: walks. -/
namespace EV
open PySem
noncomputable section
/-- behind what must not raise -/
def nBL (r : R Bool) (f : Bool → Store → R (List D)) : R (List D) := @R.rec Bool (fun _ => (Bool → Store → R (List D)) → R (List D)) (fun a μ f => f a μ) (fun _ _ _ _ => .stuck) (fun _ => .stuck) r f
def nDL (r : R D) (f : D → Store → R (List D)) : R (List D) := @R.rec D (fun _ => (D → Store → R (List D)) → R (List D)) (fun a μ f => f a μ) (fun _ _ _ _ => .stuck) (fun _ => .stuck) r f
def nSL (r : R Src) (f : Src → Store → R (List D)) : R (List D) := @R.rec Src (fun _ => (Src → Store → R (List D)) → R (List D)) (fun a μ f => f a μ) (fun _ _ _ _ => .stuck) (fun _ => .stuck) r f
theorem nBL_eq (r : R Bool) (f : Bool → Store → R (List D)) : nBL r f = (noX r).bind f := by cases r <;> rfl
theorem nDL_eq (r : R D) (f : D → Store → R (List D)) : nDL r f = (noX r).bind f := by cases r <;> rfl
theorem nSL_eq (r : R Src) (f : Src → Store → R (List D)) : nSL r f = (noX r).bind f := by cases r <;> rfl
def consF (d : D) (r : R (List D)) : R (List D) := bsel (isRefF d) .stuck (bLL r (fun ds μ => .ok (d :: ds) μ))
theorem consF_eq (d : D) (r : R (List D)) : consF d r = if d.isRef then .stuck else r.bind fun ds μ => .ok (d :: ds) μ := by
  unfold consF; rw [bsel_eq, isRefF_eq, bLL_eq]
theorem short_fuel {α : Type} {l : List α} (h : short l = true) : l.length < fuel := by
  have := Nat.le_of_ble_eq_true h
  have e : cap = 16777216 := rfl
  rw [e] at this
  unfold fuel; omega
/-- a walk: over values at once, else the slow way -/
def srcL (f : List D → Store → R (List D)) (g : Src → Store → R (List D)) (s : Src) (μ : Store) : R (List D) :=
  @Src.rec (fun _ => (List D → Store → R (List D)) → (Src → Store → R (List D)) → Store → R (List D)) (fun l f g μ => bsel (shortF l) (f l μ) .stuck) (fun i k _ g μ => g (.cell i k) μ) s f g μ
section
variable {T : Type}
def srcF (f : List D → T → Store → R (Fx T)) (g : Src → T → Store → R (Fx T)) (s : Src) (e : T) (μ : Store) : R (Fx T) :=
  @Src.rec (fun _ => (List D → T → Store → R (Fx T)) → (Src → T → Store → R (Fx T)) → T → Store → R (Fx T)) (fun l f g e μ => bsel (shortF l) (f l e μ) .stuck) (fun i k _ g e μ => g (.cell i k) e μ) s f g e μ
def envL (o : Option T) (f : T → Store → R (List D)) (μ : Store) : R (List D) := @Option.rec T (fun _ => (T → Store → R (List D)) → Store → R (List D)) (fun _ _ => .stuck) (fun e f μ => f e μ) o f μ
def envF (o : Option T) (f : T → Store → R (Fx T)) (μ : Store) : R (Fx T) := @Option.rec T (fun _ => (T → Store → R (Fx T)) → Store → R (Fx T)) (fun _ _ => .stuck) (fun e f μ => f e μ) o f μ
/-- one turn of a list's comprehension; none: no test -/
def compN (b : Cb T) (x : Cl T) (e : T) (l : List D) : Store → R (List D) :=
  @List.rec D (fun _ => Store → R (List D)) (fun μ => .ok [] μ) (fun d _ ih μ => envL (b.run e d) (fun e' μ => nDL (x.run e' μ) (fun d μ => consF d (ih μ))) μ) l
def compC (b : Cb T) (c : Ct T) (x : Cl T) (e : T) (l : List D) : Store → R (List D) :=
  @List.rec D (fun _ => Store → R (List D)) (fun μ => .ok [] μ) (fun d _ ih μ => envL (b.run e d) (fun e' μ => nBL (c.run e' μ) (fun t μ => bsel t (nDL (x.run e' μ) (fun d μ => consF d (ih μ))) (ih μ))) μ) l
def compS (b : Cb T) (c : Option (Ct T)) (x : Cl T) : T → List D → Store → R (List D) := @Option.rec (Ct T) (fun _ => T → List D → Store → R (List D)) (compN b x) (fun c => compC b c x) c
variable {I : EI T} {n0 : Nat} (K : EIok I n0)
include K
theorem compN_eq (S : Sem) (t : Tg) (x : Cl T) (elt : Ex) (he : ∀ e μ, x.run e μ = S.e elt (I.l e) μ) (e : T) : ∀ (l : List D) (n : Nat), l.length < n → ∀ μ, compN (tgCb I t) x e l μ = compL S (I.l e) t none elt n (.vals l) μ
  | [], n + 1, _, μ => rfl
  | d :: l, n + 1, h, μ => by
    have ih := compN_eq S t x elt he e l n (by simpa using h)
    have e1 : compL S (I.l e) t none elt (n + 1) (.vals (d :: l)) μ = (match bindT (I.l e) t d with
        | none => .stuck
        | some ρ' => (noX (S.e elt ρ' μ)).bind fun d μ => if d.isRef then .stuck else (compL S (I.l e) t none elt n (.vals l) μ).bind fun ds μ => .ok (d :: ds) μ) := rfl
    rw [e1]
    show envL ((tgCb I t).run e d) (fun e' μ => nDL (x.run e' μ) (fun d μ => consF d (compN (tgCb I t) x e l μ))) μ = _
    rw [← tgCb_eq K]
    cases (tgCb I t).run e d with
    | none => rfl
    | some e' =>
      show nDL (x.run e' μ) (fun d μ => consF d (compN (tgCb I t) x e l μ)) = (noX (S.e elt (I.l e') μ)).bind _
      rw [nDL_eq, he]
      congr 1; funext d μ
      rw [consF_eq, ih]
theorem compC_eq (S : Sem) (t : Tg) (c : Ct T) (x : Cl T) (tst elt : Ex) (hc : ∀ e μ, c.run e μ = S.t tst (I.l e) μ) (he : ∀ e μ, x.run e μ = S.e elt (I.l e) μ) (e : T) : ∀ (l : List D) (n : Nat), l.length < n → ∀ μ, compC (tgCb I t) c x e l μ = compL S (I.l e) t (some tst) elt n (.vals l) μ
  | [], n + 1, _, μ => rfl
  | d :: l, n + 1, h, μ => by
    have ih := compC_eq S t c x tst elt hc he e l n (by simpa using h)
    have e1 : compL S (I.l e) t (some tst) elt (n + 1) (.vals (d :: l)) μ = (match bindT (I.l e) t d with
        | none => .stuck
        | some ρ' => (noX (S.t tst ρ' μ)).bind fun b μ => match b with
          | true => (noX (S.e elt ρ' μ)).bind fun d μ => if d.isRef then .stuck else (compL S (I.l e) t (some tst) elt n (.vals l) μ).bind fun ds μ => .ok (d :: ds) μ
          | false => compL S (I.l e) t (some tst) elt n (.vals l) μ) := rfl
    rw [e1]
    show envL ((tgCb I t).run e d) (fun e' μ => nBL (c.run e' μ) (fun t_1 μ => bsel t_1 (nDL (x.run e' μ) (fun d μ => consF d (compC (tgCb I t) c x e l μ))) (compC (tgCb I t) c x e l μ))) μ = _
    rw [← tgCb_eq K]
    cases (tgCb I t).run e d with
    | none => rfl
    | some e' =>
      show nBL (c.run e' μ) (fun t_1 μ => bsel t_1 (nDL (x.run e' μ) (fun d μ => consF d (compC (tgCb I t) c x e l μ))) (compC (tgCb I t) c x e l μ)) = (noX (S.t tst (I.l e') μ)).bind _
      rw [nBL_eq, hc]
      congr 1; funext b μ
      cases b with
      | false => exact ih μ
      | true =>
        show nDL (x.run e' μ) _ = (noX (S.e elt (I.l e') μ)).bind _
        rw [nDL_eq, he]
        congr 1; funext d μ
        rw [consF_eq, ih]
omit K in
def optC (f : Ex → Ct T) (c : Option Ex) : Option (Ct T) := @Option.rec Ex (fun _ => Option (Ct T)) none (fun x => some (f x)) c
theorem compS_le (S : Sem) (t : Tg) (ft : Ex → Ct T) (c : Option Ex) (x : Cl T) (elt : Ex) (hc : ∀ y e μ, (ft y).run e μ = S.t y (I.l e) μ) (he : ∀ e μ, x.run e μ = S.e elt (I.l e) μ) (e : T) (s : Src) (μ : Store) :
    Le (srcL (compS (tgCb I t) (optC ft c) x e) (compL S (I.l e) t c elt fuel) s μ) (compL S (I.l e) t c elt fuel s μ) := by
  cases s with
  | cell i k => exact Le.rfl
  | vals l =>
    show Le (bsel (shortF l) (compS (tgCb I t) (optC ft c) x e l μ) .stuck) _
    rw [bsel_eq, shortF_eq]
    split
    · rename_i h
      cases c with
      | none => exact Le.of (compN_eq K S t x elt he e l fuel (short_fuel h) μ)
      | some y => exact Le.of (compC_eq K S t (ft y) x y elt (hc y) he e l fuel (short_fuel h) μ)
    · exact Le.stuck
/-! two walks -/
omit K in
def compV2 (b : Cb T) (it : Ci T) (w : T → T) (inner : T → Src → Store → R (List D)) (e : T) (l : List D) : Store → R (List D) :=
  @List.rec D (fun _ => Store → R (List D)) (fun μ => .ok [] μ) (fun x _ ih μ => envL (b.run e x) (fun e' μ => nSL (it.run e' μ) (fun s μ => bLL (inner (w e') s μ) (fun ds μ => bLL (ih μ) (fun es μ => .ok (appF ds es) μ)))) μ) l
theorem compV2_le (S : Sem) (own' : List Nat) (t t' : Tg) (it : Ci T) (it' : Itx) (c : Option Ex) (elt : Ex) (inner : T → Src → Store → R (List D)) (hi : ∀ e μ, it.run e μ = evIt S.e (I.l e) μ it') (hin : ∀ e s μ, Le (inner e s μ) (compL S (I.l e) t' c elt fuel s μ)) (e : T) : ∀ (l : List D) (n : Nat), l.length < n → ∀ μ, Le (compV2 (tgCb I t) it (wipeF I own') inner e l μ) (compL2 S own' (I.l e) t t' it' c elt n (.vals l) μ)
  | [], n + 1, _, μ => Le.rfl
  | x :: l, n + 1, h, μ => by
    have ih := compV2_le S own' t t' it it' c elt inner hi hin e l n (by simpa using h)
    unfold compL2
    have ho : srcOk μ (.vals (x :: l)) = true := rfl
    rw [if_pos ho]
    have hn : nxt μ (.vals (x :: l)) = some (x, .vals l) := rfl
    rw [hn]
    simp only
    show Le (envL ((tgCb I t).run e x) (fun e' μ => nSL (it.run e' μ) (fun s μ => bLL (inner (wipeF I own' e') s μ) (fun ds μ => bLL (compV2 (tgCb I t) it (wipeF I own') inner e l μ) (fun es μ => .ok (appF ds es) μ)))) μ) _
    rw [← tgCb_eq K]
    cases (tgCb I t).run e x with
    | none => exact Le.stuck
    | some e' =>
      simp only [Option.map_some]
      show Le (nSL (it.run e' μ) (fun s μ => bLL (inner (wipeF I own' e') s μ) (fun ds μ => bLL (compV2 (tgCb I t) it (wipeF I own') inner e l μ) (fun es μ => .ok (appF ds es) μ)))) _
      rw [nSL_eq, hi]
      refine Le.bind Le.rfl fun s μ => ?_
      rw [bLL_eq, ← wipeF_eq K]
      refine Le.bind (hin _ s μ) fun ds μ => ?_
      rw [bLL_eq]
      refine Le.bind (ih μ) fun es μ => ?_
      rw [appF_eq]
      exact Le.rfl
theorem comp2_le (S : Sem) (own' : List Nat) (t t' : Tg) (it : Ci T) (it' : Itx) (c : Option Ex) (elt : Ex) (inner : T → Src → Store → R (List D)) (hi : ∀ e μ, it.run e μ = evIt S.e (I.l e) μ it') (hin : ∀ e s μ, Le (inner e s μ) (compL S (I.l e) t' c elt fuel s μ)) (e : T) (s : Src) (μ : Store) :
    Le (srcL (compV2 (tgCb I t) it (wipeF I own') inner e) (compL2 S own' (I.l e) t t' it' c elt fuel) s μ) (compL2 S own' (I.l e) t t' it' c elt fuel s μ) := by
  cases s with
  | cell i k => exact Le.rfl
  | vals l =>
    show Le (bsel (shortF l) _ .stuck) _
    rw [bsel_eq, shortF_eq]
    split
    · rename_i h
      exact compV2_le K S own' t t' it it' c elt inner hi hin e l fuel (short_fuel h) μ
    · exact Le.stuck
/-! for -/
omit K in
def flC (f : T → Store → R (Fx T)) (x : Fx T) (μ : Store) : R (Fx T) := @Fx.rec T (fun _ => (T → Store → R (Fx T)) → Store → R (Fx T)) (fun e f μ => f e μ) (fun d _ μ => .ok (.ret d) μ) x f μ
def bXX (r : R (Fx T)) (f : Fx T → Store → R (Fx T)) : R (Fx T) := @R.rec (Fx T) (fun _ => (Fx T → Store → R (Fx T)) → R (Fx T)) (fun a μ f => f a μ) (fun c fs μ _ => .exc c fs μ) (fun _ => .stuck) r f
def bDX (r : R D) (f : D → Store → R (Fx T)) : R (Fx T) := @R.rec D (fun _ => (D → Store → R (Fx T)) → R (Fx T)) (fun a μ f => f a μ) (fun c fs μ _ => .exc c fs μ) (fun _ => .stuck) r f
def bLX (r : R (List D)) (f : List D → Store → R (Fx T)) : R (Fx T) := @R.rec (List D) (fun _ => (List D → Store → R (Fx T)) → R (Fx T)) (fun a μ f => f a μ) (fun c fs μ _ => .exc c fs μ) (fun _ => .stuck) r f
def bBX (r : R Bool) (f : Bool → Store → R (Fx T)) : R (Fx T) := @R.rec Bool (fun _ => (Bool → Store → R (Fx T)) → R (Fx T)) (fun a μ f => f a μ) (fun c fs μ _ => .exc c fs μ) (fun _ => .stuck) r f
def bSX (r : R Src) (f : Src → Store → R (Fx T)) : R (Fx T) := @R.rec Src (fun _ => (Src → Store → R (Fx T)) → R (Fx T)) (fun a μ f => f a μ) (fun c fs μ _ => .exc c fs μ) (fun _ => .stuck) r f
def bXD (r : R (Fx T)) (f : Fx T → Store → R D) : R D := @R.rec (Fx T) (fun _ => (Fx T → Store → R D) → R D) (fun a μ f => f a μ) (fun c fs μ _ => .exc c fs μ) (fun _ => .stuck) r f
omit K in
theorem bXX_eq (r : R (Fx T)) (f : Fx T → Store → R (Fx T)) : bXX r f = r.bind f := by cases r <;> rfl
omit K in
theorem bDX_eq (r : R D) (f : D → Store → R (Fx T)) : bDX r f = r.bind f := by cases r <;> rfl
omit K in
theorem bLX_eq (r : R (List D)) (f : List D → Store → R (Fx T)) : bLX r f = r.bind f := by cases r <;> rfl
omit K in
theorem bBX_eq (r : R Bool) (f : Bool → Store → R (Fx T)) : bBX r f = r.bind f := by cases r <;> rfl
omit K in
theorem bSX_eq (r : R Src) (f : Src → Store → R (Fx T)) : bSX r f = r.bind f := by cases r <;> rfl
omit K in
theorem bXD_eq (r : R (Fx T)) (f : Fx T → Store → R D) : bXD r f = r.bind f := by cases r <;> rfl
omit K in
theorem mapF_bind {α : Type} (I : EI T) (r : R α) (f : α → Store → R (Fx T)) : mapF I (r.bind f) = r.bind fun a μ => mapF I (f a μ) := by cases r <;> rfl
omit K in
/-- behind a run: what comes next, and what that is in EV -/
theorem next_le {r : R (Fx T)} {q : R Fl} {f : T → Store → R (Fx T)} {g : Env → Store → R Fl} (h : Le (mapF I r) q) (hf : ∀ e μ, Le (mapF I (f e μ)) (g (I.l e) μ)) : Le (mapF I (bXX r (flC f))) (q.bind fun fl μ => match fl with | .nx ρ => g ρ μ | .ret d => .ok (.ret d) μ) := by
  rw [bXX_eq]
  cases r with
  | stuck => exact Le.stuck
  | exc c fs μ =>
    rcases h with h | h
    · cases h
    · rw [← h]; exact Le.rfl
  | ok x μ =>
    rcases h with h | h
    · cases h
    · rw [← h]
      cases x with
      | nx e => exact hf e μ
      | ret d => exact Le.rfl
def forV (b : Cb T) (s : Cs T) (l : List D) : T → Store → R (Fx T) :=
  @List.rec D (fun _ => T → Store → R (Fx T)) (fun e μ => .ok (.nx e) μ) (fun x _ ih e μ => envF (b.run e x) (fun e' μ => bXX (s.run e' μ) (flC ih)) μ) l
theorem forV_le (S : Sem) (t : Tg) (s : Cs T) (body : List St) (hs : ∀ e μ, Le (mapF I (s.run e μ)) (S.s body (I.l e) μ)) : ∀ (l : List D) (n : Nat), l.length < n → ∀ e μ, Le (mapF I (forV (tgCb I t) s l e μ)) (forL S t body n (.vals l) (I.l e) μ)
  | [], n + 1, _, e, μ => Le.rfl
  | x :: l, n + 1, h, e, μ => by
    have ih := forV_le S t s body hs l n (by simpa using h)
    have e1 : forL S t body (n + 1) (.vals (x :: l)) (I.l e) μ = (match bindT (I.l e) t x with
        | none => .stuck
        | some ρ' => (S.s body ρ' μ).bind fun fl μ => match fl with
          | .nx ρ => forL S t body n (.vals l) ρ μ
          | .ret d => .ok (.ret d) μ) := rfl
    rw [e1]
    show Le (mapF I (envF ((tgCb I t).run e x) (fun e' μ => bXX (s.run e' μ) (flC (forV (tgCb I t) s l))) μ)) _
    rw [← tgCb_eq K]
    cases (tgCb I t).run e x with
    | none => exact Le.stuck
    | some e' => exact next_le (g := fun ρ μ => forL S t body n (.vals l) ρ μ) (hs e' μ) ih
theorem for_le (S : Sem) (t : Tg) (s : Cs T) (body : List St) (hs : ∀ e μ, Le (mapF I (s.run e μ)) (S.s body (I.l e) μ)) (x : Src) (e : T) (μ : Store) : Le (mapF I (srcF (forV (tgCb I t) s) (fun x e μ => backF I (forL S t body fuel x (I.l e) μ)) x e μ)) (forL S t body fuel x (I.l e) μ) := by
  cases x with
  | cell i k => exact backF_le K _
  | vals l =>
    show Le (mapF I (bsel (shortF l) _ .stuck)) _
    rw [bsel_eq, shortF_eq]
    split
    · rename_i h
      exact forV_le K S t s body hs l fuel (short_fuel h) e μ
    · exact Le.stuck
omit K in
def takeF (l : Store) : Nat → Store := @List.rec Ob (fun _ => Nat → Store) (fun _ => []) (fun a _ ih n => @Nat.rec (fun _ => Ob → (Nat → Store) → Store) (fun _ _ => []) (fun m _ a ih => a :: ih m) n a ih) l
omit K in
theorem takeF_eq (l : Store) : ∀ n, takeF l n = l.take n := by
  induction l with
  | nil => intro n; simp [takeF]
  | cons a l ih => intro n; cases n with
    | zero => rfl
    | succ n => exact congrArg (a :: ·) (ih n)
def forVG (I : EI T) (b : Cb T) (s : Cs T) (n0 : Nat) (l : List D) : T → Store → R (Fx T) :=
  @List.rec D (fun _ => T → Store → R (Fx T)) (fun e μ => .ok (.nx e) μ) (fun x _ ih e μ => envF (b.run e x) (fun e' μ => bXX (s.run e' μ) (flC (fun e μ => ih (I.d n0 e) (takeF μ n0)))) μ) l
theorem forVG_le (S : Sem) (t : Tg) (s : Cs T) (body : List St) (m : Nat) (hs : ∀ e μ, Le (mapF I (s.run e μ)) (S.s body (I.l e) μ)) : ∀ (l : List D) (n : Nat), l.length < n → ∀ e μ, Le (mapF I (forVG I (tgCb I t) s m l e μ)) (forLG S t body m n (.vals l) (I.l e) μ)
  | [], n + 1, _, e, μ => Le.rfl
  | x :: l, n + 1, h, e, μ => by
    have ih := forVG_le S t s body m hs l n (by simpa using h)
    have e1 : forLG S t body m (n + 1) (.vals (x :: l)) (I.l e) μ = (match bindT (I.l e) t x with
        | none => .stuck
        | some ρ' => (S.s body ρ' μ).bind fun fl μ => match fl with
          | .nx ρ => forLG S t body m n (.vals l) (dropE m ρ) (μ.take m)
          | .ret d => .ok (.ret d) μ) := rfl
    rw [e1]
    show Le (mapF I (envF ((tgCb I t).run e x) (fun e' μ => bXX (s.run e' μ) (flC (fun e μ => forVG I (tgCb I t) s m l (I.d m e) (takeF μ m)))) μ)) _
    rw [← tgCb_eq K]
    cases (tgCb I t).run e x with
    | none => exact Le.stuck
    | some e' => exact next_le (g := fun ρ μ => forLG S t body m n (.vals l) (dropE m ρ) (μ.take m)) (hs e' μ) (fun e μ => by rw [← K.drop, takeF_eq]; exact ih _ _)
theorem forG_le (S : Sem) (t : Tg) (s : Cs T) (body : List St) (m : Nat) (hs : ∀ e μ, Le (mapF I (s.run e μ)) (S.s body (I.l e) μ)) (x : Src) (e : T) (μ : Store) : Le (mapF I (srcF (forVG I (tgCb I t) s m) (fun x e μ => backF I (forLG S t body m fuel x (I.l e) μ)) x e μ)) (forLG S t body m fuel x (I.l e) μ) := by
  cases x with
  | cell i k => exact backF_le K _
  | vals l =>
    show Le (mapF I (bsel (shortF l) _ .stuck)) _
    rw [bsel_eq, shortF_eq]
    split
    · rename_i h
      exact forVG_le K S t s body m hs l fuel (short_fuel h) e μ
    · exact Le.stuck
/-! while -/
omit K in
def whF (t : Ct T) (s : Cs T) (n : Nat) : T → Store → R (Fx T) :=
  @Nat.rec (fun _ => T → Store → R (Fx T)) (fun _ _ => .stuck) (fun _ ih e μ => bBX (t.run e μ) (fun b μ => bsel b (bXX (s.run e μ) (flC ih)) (.ok (.nx e) μ))) n
end
end
end EV

/-! EV run fast, 7: all constructs, and that it is EV. -/
namespace EV
open PySem
noncomputable section
structure Den (T : Type) where
  e : Ex → Cl T
  t : Ex → Ct T
  s : List St → Cs T
  c : Nat → List D → Store → R D
section
variable {T : Type}
def Den.sem (S : Den T) (I : EI T) : Sem where
  e := fun x ρ μ => match I.o ρ with
    | some e => (S.e x).run e μ
    | none => .stuck
  t := fun x ρ μ => match I.o ρ with
    | some e => (S.t x).run e μ
    | none => .stuck
  s := fun l ρ μ => match I.o ρ with
    | some e => mapF I ((S.s l).run e μ)
    | none => .stuck
  w := fun c b ρ μ => match I.o ρ with
    | some e => mapF I (whF (S.t c) (S.s b) 10000 e μ)
    | none => .stuck
  c := S.c
def two (a b : Cl T) (f : D → D → Store → R D) : Cl T := ⟨fun e μ => bDD (a.run e μ) (fun x μ => bDD (b.run e μ) (fun y μ => f x y μ))⟩
def twoB (a b : Cl T) (f : D → D → Store → R Bool) : Ct T := ⟨fun e μ => bDB (a.run e μ) (fun x μ => bDB (b.run e μ) (fun y μ => f x y μ))⟩
def oneC (a : Cl T) (f : D → Store → R D) : Cl T := ⟨fun e μ => bDD (a.run e μ) f⟩
def oneB (a : Cl T) (f : D → Store → R Bool) : Ct T := ⟨fun e μ => bDB (a.run e μ) f⟩
def blC (t : Ct T) : Cl T := ⟨fun e μ => bBD (t.run e μ) (fun b μ => .ok (.bl b) μ)⟩
def ifC (t : Ct T) (a b : Cl T) : Cl T := ⟨fun e μ => bBD (t.run e μ) (fun c μ => bsel c (a.run e μ) (b.run e μ))⟩
def ifB (t : Ct T) (a b : Ct T) : Ct T := ⟨fun e μ => bBB (t.run e μ) (fun c μ => bsel c (a.run e μ) (b.run e μ))⟩
def cmp2G (op' : Cop) (y : D) (c : Cl T) (e : T) (t : Bool) (μ : Store) : R Bool := bsel t (bDB (c.run e μ) (fun z μ => fCmp op' y z μ)) (.ok false μ)
def cmp2C (op op' : Cop) (a b c : Cl T) : Ct T := ⟨fun e μ => bDB (a.run e μ) (fun x μ => bDB (b.run e μ) (fun y μ => bBB (fCmp op x y μ) (cmp2G op' y c e)))⟩
def callC (c : Nat → List D → Store → R D) (f : Nat) (as ks : Cll T) (sel : List (Nat ⊕ D)) : Cl T := ⟨fun e μ => bLD (as.run e μ) (fun ds μ => bLD (ks.run e μ) (fun es μ => optLL (selF sel (appF ds es)) (c f) μ))⟩
def methC (m : Mt) (o a : Cl T) : Cl T := ⟨fun e μ => bDD (o.run e μ) (fun x μ => bsel (mokF m (viewF μ x)) (bDD (a.run e μ) (fun y μ => fMeth m x y μ)) .stuck)⟩
def trngC (tup : Bool) (a : Option (Cl T)) (b : Cl T) : Cl T := @Option.rec (Cl T) (fun _ => Cl T) ⟨fun e μ => bDD (b.run e μ) (trngF tup (.ofNat 0))⟩ (fun a => ⟨fun e μ => bDD (a.run e μ) (fun x μ => optI (fun i μ => bDD (b.run e μ) (trngF tup i)) stuckD x μ)⟩) a
def optE (f : Ex → Cl T) (c : Option Ex) : Option (Cl T) := @Option.rec Ex (fun _ => Option (Cl T)) none (fun x => some (f x)) c
/-- names that the walk binds anyway are not forgotten ahead -/
def natsB (a b : List Nat) : Bool := natsEq a b
def tgIs (own : List Nat) (t : Tg) : Bool := @Tg.rec (fun _ => Bool) (fun i => natsEq own [i]) (fun is => natsEq own is) t
def wipeC (I : EI T) (own : List Nat) : T → T := wipeF I own
variable (S : Den T) (I : EI T)
def lcC (own : List Nat) (t : Tg) (it : Itx) (c : Option Ex) (elt : Ex) : Cl T := ⟨fun e μ => bSD ((evItC S.e it).run e μ) (fun s μ => bLD (srcL (compS (tgCb I t) (optC S.t c) (S.e elt) (wipeF I own e)) (compL (S.sem I) (I.l (wipeF I own e)) t c elt fuel) s μ) lstOk)⟩
def innC (t' : Tg) (c : Option Ex) (elt : Ex) (e : T) (s : Src) (μ : Store) : R (List D) := srcL (compS (tgCb I t') (optC S.t c) (S.e elt) e) (compL (S.sem I) (I.l e) t' c elt fuel) s μ
def lc2C (own own' : List Nat) (t : Tg) (it : Itx) (t' : Tg) (it' : Itx) (c : Option Ex) (elt : Ex) : Cl T := ⟨fun e μ => bSD ((evItC S.e it).run e μ) (fun s μ => bLD (srcL (compV2 (tgCb I t) (evItC S.e it') (wipeF I own') (innC S I t' c elt) (wipeF I own e)) (compL2 (S.sem I) own' (I.l (wipeF I own e)) t t' it' c elt fuel) s μ) lstOk)⟩
def dE (x : Ex) : Cl T := match x with
  | .var i => I.g i
  | .con d => ⟨fun _ μ => .ok d μ⟩
  | .glo _ d => ⟨fun _ μ => .ok d μ⟩
  | .bin op a b => two (S.e a) (S.e b) (fBop op)
  | .neg a => ⟨fun e μ => eNeg (S.sem I) a (I.l e) μ⟩
  | .not a => ⟨fun e μ => eNot (S.sem I) a (I.l e) μ⟩
  | .and a b => ⟨fun e μ => bDD ((S.e a).run e μ) (blK ((S.e b).run e) (fun μ => .ok (.bl false) μ))⟩
  | .or a b => ⟨fun e μ => bDD ((S.e a).run e μ) (blK (fun μ => .ok (.bl true) μ) ((S.e b).run e))⟩
  | .cmp op a b => blC (twoB (S.e a) (S.e b) (fCmp op))
  | .cmp2 op op' a b c => blC (cmp2C op op' (S.e a) (S.e b) (S.e c))
  | .ife c a b => ifC (S.t c) (S.e a) (S.e b)
  | .call f as kws sel => callC S.c f (evrC S.e as) (evrC S.e (kws.map (·.2))) sel
  | .bi b a => oneC (S.e a) (fBi b)
  | .isi a t => oneC (S.e a) (fIsi t)
  | .meth m o a => methC m (S.e o) (S.e a)
  | .idx a i => two (S.e a) (S.e i) fIdx2
  | .dget a k => two (S.e a) (S.e k) (fun x y μ => dgetF μ x y)
  | .slice a lo hi => ⟨fun e μ => eSlice (S.sem I) a lo hi (I.l e) μ⟩
  | .tup es => @Bool.rec (fun _ => Cl T) ⟨fun e μ => eTup (S.sem I) es (I.l e) μ⟩ ⟨fun e μ => bLD ((evsC S.e es).run e μ) tupOk⟩ (noStars es)
  | .lst es => @Bool.rec (fun _ => Cl T) ⟨fun e μ => eLst (S.sem I) es (I.l e) μ⟩ ⟨fun e μ => bLD ((evsC S.e es).run e μ) lstOk⟩ (noStars es)
  | .dict ks es => ⟨fun e μ => eDict (S.sem I) ks es (I.l e) μ⟩
  | .lc own t it c elt => lcC S I own t it c elt
  | .lc2 own own' t it t' it' c elt => lc2C S I own own' t it t' it' c elt
  | .trng tup a b => trngC tup (optE S.e a) (S.e b)
  | .sset a => oneC (S.e a) fSset
  | .lset a => ⟨fun e μ => eLset (S.sem I) a (I.l e) μ⟩
  | .star _ => ⟨fun _ _ => .stuck⟩
  | .new a => oneC (S.e a) newF
  | .op1 o a => oneC (S.e a) (op1D o)
  | .op2 o a b => ⟨fun e μ => eOp2 (S.sem I) o a b (I.l e) μ⟩
  | .op3 o a b c => ⟨fun e μ => eOp3 (S.sem I) o a b c (I.l e) μ⟩
  | .dnewT => ⟨fun _ μ => .ok (.ref μ.length) (μ ++ [.dcT []])⟩
  | .dc tup own t it k v => ⟨fun e μ => eDc (S.sem I) tup own t it k v (I.l e) μ⟩
theorem two_eq (a b : Cl T) (f : D → D → Store → R D) (e : T) (μ : Store) : (two a b f).run e μ = (a.run e μ).bind fun x μ => (b.run e μ).bind fun y μ => f x y μ := by
  show bDD _ _ = _
  rw [bDD_eq]; congr 1; funext x μ; rw [bDD_eq]
theorem twoB_eq (a b : Cl T) (f : D → D → Store → R Bool) (e : T) (μ : Store) : (twoB a b f).run e μ = (a.run e μ).bind fun x μ => (b.run e μ).bind fun y μ => f x y μ := by
  show bDB _ _ = _
  rw [bDB_eq]; congr 1; funext x μ; rw [bDB_eq]
theorem oneC_eq (a : Cl T) (f : D → Store → R D) (e : T) (μ : Store) : (oneC a f).run e μ = (a.run e μ).bind f := bDD_eq _ _
theorem blC_eq (t : Ct T) (e : T) (μ : Store) : (blC t).run e μ = ofB (t.run e μ) := bBD_eq _ _
theorem fCmp_fun (op : Cop) : fCmp op = slowC op := by funext x y μ; exact fCmp_eq op x y μ
variable {I} {n0 : Nat} (K : EIok I n0)
include K
theorem sem_e (x : Ex) (e : T) (μ : Store) : (S.e x).run e μ = (S.sem I).e x (I.l e) μ := by
  show _ = match I.o (I.l e) with | some e => (S.e x).run e μ | none => .stuck
  rw [K.toof]
theorem sem_t (x : Ex) (e : T) (μ : Store) : (S.t x).run e μ = (S.sem I).t x (I.l e) μ := by
  show _ = match I.o (I.l e) with | some e => (S.t x).run e μ | none => .stuck
  rw [K.toof]
theorem sem_s (x : List St) (e : T) (μ : Store) : mapF I ((S.s x).run e μ) = (S.sem I).s x (I.l e) μ := by
  show _ = match I.o (I.l e) with | some e => mapF I ((S.s x).run e μ) | none => .stuck
  rw [K.toof]
theorem sem_w (c : Ex) (b : List St) (e : T) (μ : Store) : mapF I (whF (S.t c) (S.s b) 10000 e μ) = (S.sem I).w c b (I.l e) μ := by
  show _ = match I.o (I.l e) with | some e => mapF I (whF (S.t c) (S.s b) 10000 e μ) | none => .stuck
  rw [K.toof]
theorem cmp2C_eq (op op' : Cop) (a b c : Ex) (e : T) (μ : Store) : (cmp2C op op' (S.e a) (S.e b) (S.e c)).run e μ = eCmp2B (S.sem I) op op' a b c (I.l e) μ := by
  show bDB _ _ = _
  rw [bDB_eq, sem_e S K]; unfold eCmp2B; congr 1; funext x μ
  rw [bDB_eq, sem_e S K]; congr 1; funext y μ
  rw [bBB_eq, fCmp_eq]; show (slowC op x y μ).bind _ = (slowC op x y μ).bind _; congr 1; funext t μ
  cases t with
  | false => rfl
  | true =>
    show bDB ((S.e c).run e μ) (fun z μ => fCmp op' y z μ) = _
    rw [bDB_eq, sem_e S K]; congr 1; funext z μ; exact fCmp_eq op' y z μ
theorem evrC_ok (es : List Ex) (e : T) (μ : Store) : (evrC S.e es).run e μ = evr (S.sem I).e es (I.l e) μ := evrC_eq S.e (fun x μ => sem_e S K x e μ) es μ
theorem evsC_ok (es : List Ex) (e : T) (μ : Store) : (evsC S.e es).run e μ = evs (S.sem I).e es (I.l e) μ := evsC_eq S.e (fun x μ => sem_e S K x e μ) es μ
theorem evItC_ok (it : Itx) (e : T) (μ : Store) : (evItC S.e it).run e μ = evIt (S.sem I).e (I.l e) μ it := evItC_eq S.e (fun x μ => sem_e S K x e μ) it μ
theorem callC_eq (f : Nat) (as : List Ex) (ks : List Ex) (sel : List (Nat ⊕ D)) (e : T) (μ : Store) : (callC S.c f (evrC S.e as) (evrC S.e ks) sel).run e μ = (evr (S.sem I).e as (I.l e) μ).bind fun ds μ => (evr (S.sem I).e ks (I.l e) μ).bind fun es μ => (liftO (selD (ds ++ es) sel) μ).bind fun xs μ => S.c f xs μ := by
  show bLD _ _ = _
  rw [bLD_eq, evrC_ok S K]; congr 1; funext ds μ
  rw [bLD_eq, evrC_ok S K]; congr 1; funext es μ
  rw [optLL_eq, selF_eq, appF_eq]
theorem methC_eq (m : Mt) (o a : Ex) (e : T) (μ : Store) : (methC m (S.e o) (S.e a)).run e μ = eMeth (S.sem I) m o a (I.l e) μ := by
  show bDD _ _ = _
  rw [bDD_eq, sem_e S K]; unfold eMeth; congr 1; funext x μ
  rw [bsel_eq, mokF_eq, viewF_eq]
  split
  · rw [bDD_eq, sem_e S K]; congr 1; funext y μ; exact fMeth_eq m x y μ
  · rfl
theorem dE_le (x : Ex) (e : T) (μ : Store) : Le ((dE S I x).run e μ) (stepE (S.sem I) x (I.l e) μ) := by
  cases x with
  | var i => exact Le.of (K.get i e μ)
  | con d => exact Le.rfl
  | glo x d => exact Le.rfl
  | bin op a b =>
    show Le ((two (S.e a) (S.e b) (fBop op)).run e μ) (eBin (S.sem I) op a b (I.l e) μ)
    rw [two_eq, sem_e S K]
    exact Le.bind Le.rfl fun x μ => Le.bind (Le.of (sem_e S K b e μ)) fun y μ => fBop_le op x y μ
  | neg a => exact Le.rfl
  | not a => exact Le.rfl
  | and a b =>
    show Le (bDD ((S.e a).run e μ) (blK ((S.e b).run e) (fun μ => .ok (.bl false) μ))) (eAnd (S.sem I) a b (I.l e) μ)
    rw [bDD_eq, sem_e S K]
    refine Le.of ?_
    unfold eAnd; congr 1; funext x μ
    rw [blK_eq]; congr 1; funext t μ; cases t <;> first | rfl | exact sem_e S K b e μ
  | or a b =>
    show Le (bDD ((S.e a).run e μ) (blK (fun μ => .ok (.bl true) μ) ((S.e b).run e))) (eOr (S.sem I) a b (I.l e) μ)
    rw [bDD_eq, sem_e S K]
    refine Le.of ?_
    unfold eOr; congr 1; funext x μ
    rw [blK_eq]; congr 1; funext t μ; cases t <;> first | rfl | exact sem_e S K b e μ
  | cmp op a b =>
    show Le ((blC (twoB (S.e a) (S.e b) (fCmp op))).run e μ) (ofB (eCmpB (S.sem I) op a b (I.l e) μ))
    rw [blC_eq, twoB_eq, fCmp_fun, sem_e S K]
    refine Le.bind (Le.bind Le.rfl fun x μ => ?_) fun _ _ => Le.rfl
    rw [sem_e S K]; exact Le.rfl
  | cmp2 op op' a b c =>
    show Le ((blC (cmp2C op op' (S.e a) (S.e b) (S.e c))).run e μ) (ofB (eCmp2B (S.sem I) op op' a b c (I.l e) μ))
    rw [blC_eq, cmp2C_eq S K]; exact Le.rfl
  | ife c a b =>
    show Le (bBD ((S.t c).run e μ) (fun c μ => bsel c ((S.e a).run e μ) ((S.e b).run e μ))) (eIfe (S.sem I) c a b (I.l e) μ)
    rw [bBD_eq, sem_t S K]
    refine Le.bind Le.rfl fun t μ => Le.of ?_
    cases t
    · exact sem_e S K b e μ
    · exact sem_e S K a e μ
  | call f as kws sel => exact Le.of (callC_eq S K f as (List.map (fun x : Str × Ex => x.2) kws) sel e μ)
  | bi b a =>
    show Le ((oneC (S.e a) (fBi b)).run e μ) (eBi (S.sem I) b a (I.l e) μ)
    rw [oneC_eq, sem_e S K]
    exact Le.bind Le.rfl fun x μ => Le.of (fBi_eq b x μ)
  | isi a t =>
    show Le ((oneC (S.e a) (fIsi t)).run e μ) (eIsi (S.sem I) a t (I.l e) μ)
    rw [oneC_eq, sem_e S K]
    exact Le.bind Le.rfl fun x μ => Le.of (fIsi_eq t x μ)
  | meth m o a => exact Le.of (methC_eq S K m o a e μ)
  | idx a i =>
    show Le ((two (S.e a) (S.e i) fIdx2).run e μ) (eIdx (S.sem I) a i (I.l e) μ)
    rw [two_eq, sem_e S K]
    exact Le.bind Le.rfl fun x μ => Le.bind (Le.of (sem_e S K i e μ)) fun y μ => Le.of (fIdx2_eq x y μ)
  | dget a k =>
    show Le ((two (S.e a) (S.e k) (fun x y μ => dgetF μ x y)).run e μ) (eDget (S.sem I) a k (I.l e) μ)
    rw [two_eq, sem_e S K]
    exact Le.bind Le.rfl fun x μ => Le.bind (Le.of (sem_e S K k e μ)) fun y μ => Le.of (dgetF_eq μ x y)
  | slice a lo hi => exact Le.rfl
  | tup es =>
    show Le ((@Bool.rec (fun _ => Cl T) ⟨fun e μ => eTup (S.sem I) es (I.l e) μ⟩ ⟨fun e μ => bLD ((evsC S.e es).run e μ) tupOk⟩ (noStars es)).run e μ) (eTup (S.sem I) es (I.l e) μ)
    cases h : noStars es with
    | false => exact Le.rfl
    | true =>
      show Le (bLD ((evsC S.e es).run e μ) tupOk) _
      rw [bLD_eq, evsC_ok S K]
      unfold eTup
      rw [evsS_plain _ es h]
      exact Le.bind Le.rfl fun ds μ => Le.of (tupOk_eq ds μ)
  | lst es =>
    show Le ((@Bool.rec (fun _ => Cl T) ⟨fun e μ => eLst (S.sem I) es (I.l e) μ⟩ ⟨fun e μ => bLD ((evsC S.e es).run e μ) lstOk⟩ (noStars es)).run e μ) (eLst (S.sem I) es (I.l e) μ)
    cases h : noStars es with
    | false => exact Le.rfl
    | true =>
      show Le (bLD ((evsC S.e es).run e μ) lstOk) _
      rw [bLD_eq, evsC_ok S K]
      unfold eLst
      rw [evsS_plain _ es h]
      exact Le.bind Le.rfl fun ds μ => Le.of (lstOk_eq ds μ)
  | dict ks es => exact Le.rfl
  | lc own t it c elt =>
    show Le (bSD ((evItC S.e it).run e μ) (fun s μ => bLD (srcL (compS (tgCb I t) (optC S.t c) (S.e elt) (wipeF I own e)) (compL (S.sem I) (I.l (wipeF I own e)) t c elt fuel) s μ) lstOk)) (eLc (S.sem I) own t it c elt (I.l e) μ)
    rw [bSD_eq, evItC_ok S K]
    unfold eLc
    refine Le.bind Le.rfl fun s μ => ?_
    rw [bLD_eq, ← wipeF_eq K]
    exact Le.bind (compS_le K (S.sem I) t S.t c (S.e elt) elt (sem_t S K) (sem_e S K elt) _ s μ) fun ds μ => Le.of (lstOk_eq ds μ)
  | lc2 own own' t it t' it' c elt =>
    show Le (bSD ((evItC S.e it).run e μ) (fun s μ => bLD (srcL (compV2 (tgCb I t) (evItC S.e it') (wipeF I own') (innC S I t' c elt) (wipeF I own e)) (compL2 (S.sem I) own' (I.l (wipeF I own e)) t t' it' c elt fuel) s μ) lstOk)) (eLc2 (S.sem I) own own' t it t' it' c elt (I.l e) μ)
    rw [bSD_eq, evItC_ok S K]
    unfold eLc2
    refine Le.bind Le.rfl fun s μ => ?_
    rw [bLD_eq, ← wipeF_eq K]
    exact Le.bind (comp2_le K (S.sem I) own' t t' (evItC S.e it') it' c elt (innC S I t' c elt) (evItC_ok S K it') (fun e s μ => compS_le K (S.sem I) t' S.t c (S.e elt) elt (sem_t S K) (sem_e S K elt) e s μ) _ s μ) fun ds μ => Le.of (lstOk_eq ds μ)
  | trng tup a b =>
    cases a with
    | none =>
      show Le (bDD ((S.e b).run e μ) (trngF tup (.ofNat 0))) (((R.ok (0 : Int) μ).bind fun i μ => ((S.sem I).e b (I.l e) μ).bind fun d μ => liftO (((asI d).bind (rngD i)).map fun l => if tup then .tup l else .lst l) μ))
      rw [bDD_eq, sem_e S K]
      exact Le.bind Le.rfl fun d μ => Le.of (trngF_eq tup 0 d μ)
    | some a =>
      show Le (bDD ((S.e a).run e μ) (fun x μ => optI (fun i μ => bDD ((S.e b).run e μ) (trngF tup i)) stuckD x μ)) ((((S.sem I).e a (I.l e) μ).bind fun d μ => liftO (asI d) μ).bind fun i μ => ((S.sem I).e b (I.l e) μ).bind fun d μ => liftO (((asI d).bind (rngD i)).map fun l => if tup then .tup l else .lst l) μ)
      rw [bDD_eq, ← sem_e S K a]
      cases (S.e a).run e μ with
      | stuck => exact Le.rfl
      | exc _ _ _ => exact Le.rfl
      | ok x μ =>
        cases x <;> try exact Le.rfl
        rename_i i
        show Le (bDD ((S.e b).run e μ) (trngF tup i)) (((S.sem I).e b (I.l e) μ).bind fun d μ => liftO (((asI d).bind (rngD i)).map fun l => if tup then .tup l else .lst l) μ)
        rw [bDD_eq, sem_e S K]
        exact Le.bind Le.rfl fun d μ => Le.of (trngF_eq tup i d μ)
  | sset a =>
    show Le ((oneC (S.e a) fSset).run e μ) (eSset (S.sem I) a (I.l e) μ)
    rw [oneC_eq, sem_e S K]
    exact Le.bind Le.rfl fun x μ => Le.of (fSset_eq x μ)
  | lset a => exact Le.rfl
  | star a => exact Le.rfl
  | new a =>
    show Le ((oneC (S.e a) newF).run e μ) (((S.sem I).e a (I.l e) μ).bind newR)
    rw [oneC_eq, sem_e S K]
    exact Le.bind Le.rfl fun x μ => Le.of (newF_eq x μ)
  | op1 o a =>
    show Le ((oneC (S.e a) (op1D o)).run e μ) (eOp1 (S.sem I) o a (I.l e) μ)
    rw [oneC_eq, sem_e S K]; exact Le.rfl
  | op2 o a b => exact Le.rfl
  | op3 o a b c => exact Le.rfl
  | dnewT => exact Le.rfl
  | dc tup own t it k v => exact Le.rfl
/-! ### tests -/
omit K in
def valT (a : Ex) : Ct T := oneB (S.e a) fTru
def dT (I : EI T) (x : Ex) : Ct T := match x with
  | .not a => ⟨fun e μ => bBB ((S.t a).run e μ) (fun b μ => .ok (notB b) μ)⟩
  | .and a b => ifB (S.t a) (S.t b) ⟨fun _ μ => .ok false μ⟩
  | .or a b => ifB (S.t a) ⟨fun _ μ => .ok true μ⟩ (S.t b)
  | .cmp op a b => twoB (S.e a) (S.e b) (fCmp op)
  | .cmp2 op op' a b c => cmp2C op op' (S.e a) (S.e b) (S.e c)
  | .call f as kws sel => valT S (.call f as kws sel)
  | .var i => valT S (.var i)
  | .con d => valT S (.con d)
  | .bi b a => valT S (.bi b a)
  | .isi a t => valT S (.isi a t)
  | .idx a i => valT S (.idx a i)
  | .dget a i => valT S (.dget a i)
  | .op1 o a => valT S (.op1 o a)
  | .op2 o a b => ⟨fun e μ => tOp2 (S.sem I) o a b (I.l e) μ⟩
  | .op3 o a b c => valT S (.op3 o a b c)
  | _ => ⟨fun _ _ => .stuck⟩
theorem valT_le (a : Ex) (e : T) (μ : Store) : Le ((valT S a).run e μ) (tVal (S.sem I) a (I.l e) μ) := by
  show Le (bDB ((S.e a).run e μ) fTru) _
  rw [bDB_eq, sem_e S K]
  exact Le.bind Le.rfl fun x μ => Le.of (fTru_eq x μ)
omit K in
theorem ifB_eq (t a b : Ct T) (e : T) (μ : Store) : (ifB t a b).run e μ = (t.run e μ).bind fun c μ => match c with | true => a.run e μ | false => b.run e μ := by
  show bBB _ _ = _
  rw [bBB_eq]; congr 1; funext c μ; cases c <;> rfl
theorem dT_le (x : Ex) (e : T) (μ : Store) : Le ((dT S I x).run e μ) (stepT (S.sem I) x (I.l e) μ) := by
  cases x with
  | not a =>
    show Le (bBB ((S.t a).run e μ) (fun b μ => .ok (notB b) μ)) (tNotB (S.sem I) a (I.l e) μ)
    rw [bBB_eq, sem_t S K]
    exact Le.bind Le.rfl fun b μ => Le.of (by cases b <;> rfl)
  | and a b =>
    show Le ((ifB (S.t a) (S.t b) ⟨fun _ μ => .ok false μ⟩).run e μ) (tAndB (S.sem I) a b (I.l e) μ)
    rw [ifB_eq, sem_t S K]
    refine Le.bind Le.rfl fun t μ => Le.of ?_
    cases t
    · rfl
    · exact sem_t S K b e μ
  | or a b =>
    show Le ((ifB (S.t a) ⟨fun _ μ => .ok true μ⟩ (S.t b)).run e μ) (tOrB (S.sem I) a b (I.l e) μ)
    rw [ifB_eq, sem_t S K]
    refine Le.bind Le.rfl fun t μ => Le.of ?_
    cases t
    · exact sem_t S K b e μ
    · rfl
  | cmp op a b =>
    show Le ((twoB (S.e a) (S.e b) (fCmp op)).run e μ) (eCmpB (S.sem I) op a b (I.l e) μ)
    rw [twoB_eq, fCmp_fun, sem_e S K]
    refine Le.bind Le.rfl fun x μ => ?_
    rw [sem_e S K]; exact Le.rfl
  | cmp2 op op' a b c => exact Le.of (cmp2C_eq S K op op' a b c e μ)
  | call f as kws sel => exact valT_le S K _ e μ
  | var i => exact valT_le S K _ e μ
  | con d => exact valT_le S K _ e μ
  | bi b a => exact valT_le S K _ e μ
  | isi a t => exact valT_le S K _ e μ
  | idx a i => exact valT_le S K _ e μ
  | dget a i => exact valT_le S K _ e μ
  | op1 o a => exact valT_le S K _ e μ
  | op3 o a b c => exact valT_le S K _ e μ
  | op2 o a b => exact Le.rfl
  | _ => exact Le.stuck
/-! ### statements -/
omit K in
def optEn (o : Option T) (μ : Store) : R (Fx T) := @Option.rec T (fun _ => Store → R (Fx T)) (fun _ => .stuck) (fun e μ => .ok (.nx e) μ) o μ
omit K in
theorem optEn_eq (I : EI T) (o : Option T) (μ : Store) : mapF I (optEn o μ) = liftO ((o.map I.l).map .nx) μ := by cases o <;> rfl
def d1 (I : EI T) (st : St) : Cs T := match st with
  | .asg i x => ⟨fun e μ => bDX ((S.e x).run e μ) (fun d μ => .ok (.nx ((I.s i).run e (some d))) μ)⟩
  | .par is es => ⟨fun e μ => bLX ((evrC S.e es).run e μ) (fun ds μ => optEn ((setsCb I is).run e ds) μ)⟩
  | .unp is x => ⟨fun e μ => bDX ((S.e x).run e μ) (fun d μ => optEn ((tpCb I is).run e d) μ)⟩
  | .expr x => ⟨fun e μ => bDX ((S.e x).run e μ) (fun _ μ => .ok (.nx e) μ)⟩
  | .ret x => ⟨fun e μ => bDX ((S.e x).run e μ) (fun d μ => .ok (.ret d) μ)⟩
  | .ife c a b => ⟨fun e μ => bBX ((S.t c).run e μ) (fun t μ => bsel t ((S.s a).run e μ) ((S.s b).run e μ))⟩
  | .for_ t it body => ⟨fun e μ => bSX ((evItC S.e it).run e μ) (fun s μ => srcF (forV (tgCb I t) (S.s body)) (fun x e μ => backF I (forL (S.sem I) t body fuel x (I.l e) μ)) s e μ)⟩
  | .forG t it body => ⟨fun e μ => bSX ((evItC S.e it).run e μ) (fun s μ => srcF (forVG I (tgCb I t) (S.s body) (lenF μ)) (fun x e μ' => backF I (forLG (S.sem I) t body (lenF μ) fuel x (I.l e) μ')) s e μ)⟩
  | .while_ c body => ⟨whF (S.t c) (S.s body) 10000⟩
  | st => ⟨fun e μ => backF I (sOne (S.sem I) st (I.l e) μ)⟩
theorem d1_le (st : St) (e : T) (μ : Store) : Le (mapF I ((d1 S I st).run e μ)) (sOne (S.sem I) st (I.l e) μ) := by
  cases st with
  | asg i x =>
    show Le (mapF I (bDX ((S.e x).run e μ) (fun d μ => .ok (.nx ((I.s i).run e (some d))) μ))) (sAsg (S.sem I) i x (I.l e) μ)
    rw [bDX_eq, mapF_bind, sem_e S K]
    exact Le.bind Le.rfl fun d μ => Le.of (congrArg (fun ρ => R.ok (Fl.nx ρ) μ) (K.set i e (some d)))
  | par is es =>
    show Le (mapF I (bLX ((evrC S.e es).run e μ) (fun ds μ => optEn ((setsCb I is).run e ds) μ))) (sPar (S.sem I) is es (I.l e) μ)
    rw [bLX_eq, mapF_bind, evrC_ok S K]
    exact Le.bind Le.rfl fun d μ => Le.of (by rw [optEn_eq, setsCb_eq K])
  | unp is x =>
    show Le (mapF I (bDX ((S.e x).run e μ) (fun d μ => optEn ((tpCb I is).run e d) μ))) (sUnp (S.sem I) is x (I.l e) μ)
    rw [bDX_eq, mapF_bind, sem_e S K]
    exact Le.bind Le.rfl fun d μ => Le.of (by rw [optEn_eq]; exact congrArg (fun o => liftO (Option.map Fl.nx o) μ) (tgCb_eq K (.tp is) e d))
  | expr x =>
    show Le (mapF I (bDX ((S.e x).run e μ) (fun _ μ => .ok (.nx e) μ))) _
    rw [bDX_eq, mapF_bind, sem_e S K]; exact Le.rfl
  | ret x =>
    show Le (mapF I (bDX ((S.e x).run e μ) (fun d μ => .ok (.ret d) μ))) _
    rw [bDX_eq, mapF_bind, sem_e S K]; exact Le.rfl
  | ife c a b =>
    show Le (mapF I (bBX ((S.t c).run e μ) (fun t μ => bsel t ((S.s a).run e μ) ((S.s b).run e μ)))) (sIf (S.sem I) c a b (I.l e) μ)
    rw [bBX_eq, mapF_bind, sem_t S K]
    refine Le.bind Le.rfl fun t μ => Le.of ?_
    cases t
    · exact sem_s S K b e μ
    · exact sem_s S K a e μ
  | for_ t it body =>
    show Le (mapF I (bSX ((evItC S.e it).run e μ) (fun s μ => srcF (forV (tgCb I t) (S.s body)) (fun x e μ => backF I (forL (S.sem I) t body fuel x (I.l e) μ)) s e μ))) (sFor (S.sem I) t it body (I.l e) μ)
    rw [bSX_eq, mapF_bind, evItC_ok S K]
    exact Le.bind Le.rfl fun s μ => for_le K (S.sem I) t (S.s body) body (fun e μ => Le.of (sem_s S K body e μ)) s e μ
  | forG t it body =>
    show Le (mapF I (bSX ((evItC S.e it).run e μ) (fun s μ => srcF (forVG I (tgCb I t) (S.s body) (lenF μ)) (fun x e μ' => backF I (forLG (S.sem I) t body (lenF μ) fuel x (I.l e) μ')) s e μ))) (sForG (S.sem I) t it body (I.l e) μ)
    rw [bSX_eq, mapF_bind, evItC_ok S K]
    exact Le.bind Le.rfl fun s μ => by rw [lenF_eq]; exact forG_le K (S.sem I) t (S.s body) body _ (fun e μ => Le.of (sem_s S K body e μ)) s e μ
  | while_ c body => exact Le.of (sem_w S K c body e μ)
  | asgN i x => exact backF_le K (sOne (S.sem I) (.asgN i x) (I.l e) μ)
  | setIx o k x => exact backF_le K (sOne (S.sem I) (.setIx o k x) (I.l e) μ)
  | setK o k x => exact backF_le K (sOne (S.sem I) (.setK o k x) (I.l e) μ)
  | aug i op x => exact backF_le K (sOne (S.sem I) (.aug i op x) (I.l e) μ)
  | never => exact backF_le K (sOne (S.sem I) .never (I.l e) μ)
omit K in
def dS (I : EI T) (l : List St) : Cs T := match l with
  | [] => ⟨fun e μ => .ok (.nx e) μ⟩
  | st :: r => ⟨fun e μ => bXX ((d1 S I st).run e μ) (flC (S.s r).run)⟩
theorem dS_le (l : List St) (e : T) (μ : Store) : Le (mapF I ((dS S I l).run e μ)) (stepS (S.sem I) l (I.l e) μ) := by
  cases l with
  | nil => exact Le.rfl
  | cons st r => exact next_le (g := fun ρ μ => (S.sem I).s r ρ μ) (d1_le S K st e μ) (fun e μ => Le.of (sem_s S K r e μ))
end
/-! ### the whole -/
section
variable {T : Type} (I : EI T)
def den0 (c : Nat → List D → Store → R D) : Den T := ⟨fun _ => ⟨fun _ _ => .stuck⟩, fun _ => ⟨fun _ _ => .stuck⟩, fun _ => ⟨fun _ _ => .stuck⟩, c⟩
def den (c : Nat → List D → Store → R D) (n : Nat) : Den T := @Nat.rec (fun _ => Den T) (den0 c) (fun _ S => ⟨dE S I, dT S I, dS S I, c⟩) n
variable {I} {n0 : Nat} (K : EIok I n0)
include K
theorem wh_le {X : Ct T} {B : Cs T} {c : Nat → List D → Store → R D} {t : Ex} {b : List St} {q : Nat} (ht : ∀ m, q ≤ m → ∀ e μ, Le (X.run e μ) ((lev c m).t t (I.l e) μ)) (hb : ∀ m, q ≤ m → ∀ e μ, Le (mapF I (B.run e μ)) ((lev c m).s b (I.l e) μ)) : ∀ k m, q + k + 1 ≤ m → ∀ e μ, Le (mapF I (whF X B k e μ)) ((lev c m).w t b (I.l e) μ)
  | 0, m, _, e, μ => Le.stuck
  | k + 1, 0, h, e, μ => absurd h (by omega)
  | k + 1, m + 1, h, e, μ => by
    have ih := wh_le ht hb k m (by omega)
    show Le (mapF I (bBX (X.run e μ) (fun b μ => bsel b (bXX (B.run e μ) (flC (whF X B k))) (.ok (.nx e) μ)))) (stepW (lev c m) t b (I.l e) μ)
    rw [bBX_eq, mapF_bind]
    refine Le.bind (ht m (by omega) e μ) fun tr μ => ?_
    cases tr with
    | false => exact Le.rfl
    | true => exact next_le (g := fun ρ μ => (lev c m).w t b ρ μ) (hb m (by omega) e μ) ih
theorem sem_le {S : Den T} {Q : Sem} (he : ∀ x e μ, Le ((S.e x).run e μ) (Q.e x (I.l e) μ)) (ht : ∀ x e μ, Le ((S.t x).run e μ) (Q.t x (I.l e) μ)) (hs : ∀ x e μ, Le (mapF I ((S.s x).run e μ)) (Q.s x (I.l e) μ))
    (hw : ∀ t b e μ, Le (mapF I (whF (S.t t) (S.s b) 10000 e μ)) (Q.w t b (I.l e) μ)) (hc : ∀ f ds μ, Le (S.c f ds μ) (Q.c f ds μ)) : SLe (S.sem I) Q where
  e := fun x ρ μ => by
    show Le (match I.o ρ with | some e => (S.e x).run e μ | none => .stuck) _
    cases h : I.o ρ with
    | none => exact Le.stuck
    | some e => rw [← K.ofto ρ e h]; exact he x e μ
  t := fun x ρ μ => by
    show Le (match I.o ρ with | some e => (S.t x).run e μ | none => .stuck) _
    cases h : I.o ρ with
    | none => exact Le.stuck
    | some e => rw [← K.ofto ρ e h]; exact ht x e μ
  s := fun x ρ μ => by
    show Le (match I.o ρ with | some e => mapF I ((S.s x).run e μ) | none => .stuck) _
    cases h : I.o ρ with
    | none => exact Le.stuck
    | some e => rw [← K.ofto ρ e h]; exact hs x e μ
  w := fun c b ρ μ => by
    show Le (match I.o ρ with | some e => mapF I (whF (S.t c) (S.s b) 10000 e μ) | none => .stuck) _
    cases h : I.o ρ with
    | none => exact Le.stuck
    | some e => rw [← K.ofto ρ e h]; exact hw c b e μ
  c := hc
theorem den_step {c : Nat → List D → Store → R D} {n q : Nat} (ih : ∀ m, q ≤ m → SLe ((den I c n).sem I) (lev c m)) (m : Nat) (h : q + 10002 ≤ m + 1) : SLe ((den I c (n + 1)).sem I) (lev c (m + 1)) := by
  have sl := ih m (by omega)
  refine sem_le K (fun x e μ => (dE_le (den I c n) K x e μ).trans (stepE_le sl x _ μ)) (fun x e μ => (dT_le (den I c n) K x e μ).trans (stepT_le sl x _ μ)) (fun x e μ => (dS_le (den I c n) K x e μ).trans (stepS_le sl x _ μ)) (fun t b e μ => ?_) (fun _ _ _ => Le.rfl)
  refine wh_le K (X := dT (den I c n) I t) (B := dS (den I c n) I b) (q := q + 1) ?_ ?_ 10000 (m + 1) (by omega) e μ
  · intro m' hm e μ
    obtain ⟨k, rfl⟩ : ∃ k, m' = k + 1 := ⟨m' - 1, by omega⟩
    exact (dT_le (den I c n) K t e μ).trans (stepT_le (ih k (by omega)) t _ μ)
  · intro m' hm e μ
    obtain ⟨k, rfl⟩ : ∃ k, m' = k + 1 := ⟨m' - 1, by omega⟩
    exact (dS_le (den I c n) K b e μ).trans (stepS_le (ih k (by omega)) b _ μ)
theorem den_le (c : Nat → List D → Store → R D) (n : Nat) : ∀ m, n * 10002 ≤ m → SLe ((den I c n).sem I) (lev c m) := by
  induction n with
  | zero =>
    intro m _
    refine sem_le K (fun _ _ _ => Le.stuck) (fun _ _ _ => Le.stuck) (fun _ _ _ => Le.stuck) (fun _ _ _ _ => Le.stuck) ?_
    cases m with
    | zero => exact fun _ _ _ => Le.rfl
    | succ m => exact fun _ _ _ => Le.rfl
  | succ n ih =>
    intro m h
    obtain ⟨k, rfl⟩ : ∃ k, m = k + 1 := ⟨m - 1, by omega⟩
    exact den_step K ih k (by omega)
end
/-! ### calls -/
def outX {T : Type} (x : Fx T) : D := @Fx.rec T (fun _ => D) (fun _ => .non) (fun d => d) x
def seqN (n a : Nat) : List Nat := @Nat.rec (fun _ => Nat → List Nat) (fun _ => []) (fun _ ih a => a :: ih (Nat.succ a)) n a
/-- a def's run, its names in one structure -/
structure Fr where
  run : (Nat → List D → Store → R D) → List D → Store → R D
  np : Nat
def optTD {T : Type} (o : Option T) (f : T → Store → R D) (μ : Store) : R D := @Option.rec T (fun _ => (T → Store → R D) → Store → R D) (fun _ _ => .stuck) (fun e f μ => f e μ) o f μ
def mkFr {T : Type} (I : EI T) (F : Fn) : Fr := ⟨fun c ds μ => optTD ((setsCb I (seqN F.np 0)).run I.emp ds) (fun e μ => bXD (((den I c 1600).s F.body).run e μ) (fun x μ => .ok (outX x) μ)) μ, F.np⟩
theorem setEs_seq : ∀ (ds : List D) (a : List (Option D)) (n : Nat), ds.length ≤ n → setEs (a ++ List.replicate n none) (seqN ds.length a.length) ds = some (a ++ (ds.map some ++ List.replicate (n - ds.length) none))
  | [], a, n, _ => by simp [seqN, setEs]
  | d :: ds, a, n, h => by
    obtain ⟨m, rfl⟩ : ∃ m, n = m + 1 := ⟨n - 1, by simp at h; omega⟩
    have e0 : ∀ (a : List (Option D)) (o : Option D) (t : List (Option D)), setN (a ++ o :: t) a.length (some d) = a ++ some d :: t := by
      intro a
      induction a with
      | nil => intro o t; rfl
      | cons x a ih => intro o t; exact congrArg (x :: ·) (ih o t)
    show setEs (setN (a ++ List.replicate (m + 1) none) a.length (some d)) (seqN ds.length (a.length + 1)) ds = _
    rw [List.replicate_succ, e0]
    have e1 := setEs_seq ds (a ++ [some d]) m (by simpa using h)
    have e2 : (a ++ [some d]).length = a.length + 1 := by simp
    rw [e2] at e1
    have e3 : a ++ some d :: List.replicate m none = (a ++ [some d]) ++ List.replicate m none := by simp
    rw [e3, e1]
    simp
theorem seqN_len : ∀ (n a : Nat) (l : List D) (ρ : Env), l.length ≠ n → setEs ρ (seqN n a) l = none
  | 0, a, [], ρ, h => absurd rfl h
  | 0, a, _ :: _, ρ, _ => rfl
  | n + 1, a, [], ρ, _ => rfl
  | n + 1, a, d :: l, ρ, h => seqN_len n (a + 1) l _ (by simpa using h)
/-- a def's run is EV's -/
def FrOk (F : Fn) (f : Fr) : Prop := f.np = F.np ∧ ∀ c ds μ, ds.length = F.np → Le (f.run c ds μ) (runF (lev c fuel) F ds μ)
theorem mkFr_ok {T : Type} {I : EI T} {F : Fn} (K : EIok I F.ns) (hn : F.np ≤ F.ns) : FrOk F (mkFr I F) := by
  refine ⟨rfl, fun c ds μ hl => ?_⟩
  show Le (optTD ((setsCb I (seqN F.np 0)).run I.emp ds) (fun e μ => bXD (((den I c 1600).s F.body).run e μ) (fun x μ => .ok (outX x) μ)) μ) _
  have h1 := setsCb_eq K (seqN F.np 0) I.emp ds
  have h2 := setEs_seq ds [] F.ns (by omega)
  have h3 : setEs (I.l I.emp) (seqN F.np 0) ds = some (frameE F.ns ds) := by
    rw [K.emp, ← hl]
    exact h2
  rw [h3] at h1
  cases hv : (setsCb I (seqN F.np 0)).run I.emp ds with
  | none => exact Le.stuck
  | some v =>
    rw [hv] at h1
    have hv2 : I.l v = frameE F.ns ds := by simpa using h1
    show Le (bXD (((den I c 1600).s F.body).run v μ) (fun x μ => .ok (outX x) μ)) (((lev c fuel).s F.body (frameE F.ns ds) μ).bind fun fl μ => .ok (outD fl) μ)
    rw [bXD_eq, ← hv2]
    have sl : SLe ((den I c 1600).sem I) (lev c fuel) := den_le K c 1600 fuel (by unfold fuel; omega)
    have q := sl.s F.body (I.l v) μ
    rw [← sem_s _ K] at q
    have e4 : ∀ r : R (Fx T), (r.bind fun x μ => R.ok (outX x) μ) = (mapF I r).bind fun fl μ => R.ok (outD fl) μ := by
      intro r
      cases r with
      | ok x μ => cases x <;> rfl
      | _ => rfl
    rw [e4]
    exact Le.bind q fun _ _ => Le.rfl
inductive FrsOk : List Fn → List Fr → Prop
  | nil : FrsOk [] []
  | cons {F : Fn} {f : Fr} {P : List Fn} {Q : List Fr} : FrOk F f → FrsOk P Q → FrsOk (F :: P) (f :: Q)
theorem FrsOk.at {P : List Fn} {Q : List Fr} (h : FrsOk P Q) : ∀ i, (nthD P i = none ∧ nthD Q i = none) ∨ ∃ F f, nthD P i = some F ∧ nthD Q i = some f ∧ FrOk F f := by
  induction h with
  | nil => intro i; exact .inl ⟨rfl, rfl⟩
  | cons h t ih =>
    intro i
    cases i with
    | zero => exact .inr ⟨_, _, rfl, rfl, h⟩
    | succ i => exact ih i
def backPF (μ : Store) (d : D) (μ' : Store) : R D := @D.rec (fun _ => D → R D) (fun _ => Unit) (fun d => .ok d μ) (fun _ d => .ok d μ) (fun _ d => .ok d μ) (fun _ d => .ok d μ) (fun _ _ d => .ok d μ) (fun _ _ d => .ok d μ) (fun _ d => .ok d μ)
  (fun i _ => @Option.rec Ob (fun _ => R D) .stuck (fun o => @Ob.rec (fun _ => R D) (fun l => .ok (.lst l) μ) (fun kvs => .ok (.ref (lenF μ)) (appF μ [.dct kvs])) (fun kvs => .ok (.ref (lenF μ)) (appF μ [.dcT kvs])) (fun kvs => .ok (.ref (lenF μ)) (appF μ [.opq kvs])) o) (nthF μ' i))
  (fun _ _ d => .ok d μ) (fun _ d => .ok d μ) (fun _ _ d => .ok d μ) () (fun _ _ _ _ => ()) d d
theorem backPF_eq (μ : Store) (d : D) (μ' : Store) : backPF μ d μ' = backP μ d μ' := by
  cases d <;> try rfl
  rename_i i
  show @Option.rec Ob (fun _ => R D) .stuck (fun o => @Ob.rec (fun _ => R D) (fun l => .ok (.lst l) μ) (fun kvs => .ok (.ref (lenF μ)) (appF μ [.dct kvs])) (fun kvs => .ok (.ref (lenF μ)) (appF μ [.dcT kvs])) (fun kvs => .ok (.ref (lenF μ)) (appF μ [.opq kvs])) o) (nthF μ' i) = _
  rw [nthF_eq]
  unfold backP
  simp only
  cases nthD μ' i with
  | none => rfl
  | some o => cases o <;> simp [lenF_eq, appF_eq]
def thenPF (μ : Store) (r : R D) : R D := @R.rec D (fun _ => Store → R D) (fun d μ' μ => backPF μ d μ') (fun c fs _ μ => .exc c fs μ) (fun _ => .stuck) r μ
theorem thenPF_eq (μ : Store) (r : R D) : thenPF μ r = thenP μ r := by cases r <;> first | rfl | exact backPF_eq _ _ _
/-- a call; at depth k; the draws given -/
def callAX (di : Nat) (Q : List Fr) (k : Nat) : Nat → List D → Store → R D := @Nat.rec (fun _ => Nat → List D → Store → R D) (fun _ _ _ => .stuck)
  (fun k c f ds μ => bsel (Nat.beq f di) (bsel (Nat.beq k 0) .stuck (drawA ds μ)) (@Option.rec Fr (fun _ => List D → Store → R D) (fun _ _ => .stuck)
    (fun F ds μ => bsel (Nat.beq (lenF ds) F.np) (bsel (anyRef ds) (thenR (lenF μ) (F.run c ds μ)) (thenPF μ (F.run c ds []))) .stuck) (nthF Q f) ds μ)) k
theorem callAX_le (di : Nat) {P : List Fn} {Q : List Fr} (H : FrsOk P Q) : ∀ k f ds μ, Le (callAX di Q k f ds μ) (callA di P k f ds μ)
  | 0, f, ds, μ => Le.stuck
  | k + 1, f, ds, μ => by
    show Le (bsel (Nat.beq f di) (bsel (Nat.beq k 0) .stuck (drawA ds μ)) (@Option.rec Fr (fun _ => List D → Store → R D) (fun _ _ => .stuck)
      (fun F ds μ => bsel (Nat.beq (lenF ds) F.np) (bsel (anyRef ds) (thenR (lenF μ) (F.run (callAX di Q k) ds μ)) (thenPF μ (F.run (callAX di Q k) ds []))) .stuck) (nthF Q f) ds μ))
      (if Nat.beq f di then (if Nat.beq k 0 then .stuck else drawA ds μ) else match nthD P f with
      | none => .stuck
      | some F => callF (lev (callA di P k) fuel) F ds μ)
    rw [bsel_eq, bsel_eq]
    split
    · exact Le.rfl
    · rw [nthF_eq]
      rcases H.at f with ⟨h1, h2⟩ | ⟨F, g, h1, h2, h3⟩
      · rw [h1, h2]; exact Le.rfl
      · rw [h1, h2]
        show Le (bsel (Nat.beq (lenF ds) g.np) (bsel (anyRef ds) (thenR (lenF μ) (g.run (callAX di Q k) ds μ)) (thenPF μ (g.run (callAX di Q k) ds []))) .stuck) (callF (lev (callA di P k) fuel) F ds μ)
        unfold callF
        rw [bsel_eq, lenF_eq, bsel_eq, lenF_eq, thenPF_eq, ← anyRef_eq, h3.1]
        split
        · rename_i hl
          have hl' := Nat.eq_of_beq_eq_true hl
          have h : ∀ μ, Le (g.run (callAX di Q k) ds μ) (runF (lev (callA di P k) fuel) F ds μ) := fun μ => (h3.2 _ ds μ hl').trans (runF_le (lev_le (callAX_le di H k) fuel 0) F ds μ)
          cases anyRef ds with
          | true => exact thenR_le (h μ) _
          | false => exact thenP_le (h []) μ
        · exact Le.stuck
end
end EV

namespace EV
open PySem
noncomputable section
structure E1 where
  a0 : Option D
def E1.g (i : Nat) : Cl E1 := match i with
  | 0 => ⟨fun e => optF e.a0⟩
  | _ => ⟨fun _ _ => .stuck⟩
def E1.s (i : Nat) : Cw E1 := match i with
  | 0 => ⟨fun e d => @E1.rec (fun _ => Option D → E1) (fun _ d => ⟨d⟩) e d⟩
  | _ => ⟨fun e _ => e⟩
def E1.l (e : E1) : Env := [e.a0]
def E1.o (l : Env) : Option E1 := match l with
  | [a0] => some ⟨a0⟩
  | _ => none
def E1.d (n : Nat) (e : E1) : E1 := @E1.rec (fun _ => Nat → E1) (fun a0 n => ⟨dropOF n a0⟩) e n
def I1 : EI E1 := ⟨E1.g, E1.s, ⟨none⟩, E1.l, E1.o, E1.d⟩
theorem I1_ok : EIok I1 1 where
  get := fun i e μ => by
    match i with
    | 0 => exact optF_eq _ _
    | i + 1 => rfl
  set := fun i e d => by
    match i with
    | 0 => rfl
    | i + 1 => rfl
  emp := rfl
  toof := fun e => rfl
  ofto := fun l e h => by
    unfold I1 E1.o at h
    simp only at h
    split at h
    · cases h; rfl
    · cases h
  drop := fun n e => by
    show [dropOF n e.a0] = [dropO n e.a0]
    simp only [dropOF_eq]
structure E2 where
  a0 : Option D
  a1 : Option D
def E2.g (i : Nat) : Cl E2 := match i with
  | 0 => ⟨fun e => optF e.a0⟩
  | 1 => ⟨fun e => optF e.a1⟩
  | _ => ⟨fun _ _ => .stuck⟩
def E2.s (i : Nat) : Cw E2 := match i with
  | 0 => ⟨fun e d => @E2.rec (fun _ => Option D → E2) (fun _ a1 d => ⟨d, a1⟩) e d⟩
  | 1 => ⟨fun e d => @E2.rec (fun _ => Option D → E2) (fun a0 _ d => ⟨a0, d⟩) e d⟩
  | _ => ⟨fun e _ => e⟩
def E2.l (e : E2) : Env := [e.a0, e.a1]
def E2.o (l : Env) : Option E2 := match l with
  | [a0, a1] => some ⟨a0, a1⟩
  | _ => none
def E2.d (n : Nat) (e : E2) : E2 := @E2.rec (fun _ => Nat → E2) (fun a0 a1 n => ⟨dropOF n a0, dropOF n a1⟩) e n
def I2 : EI E2 := ⟨E2.g, E2.s, ⟨none, none⟩, E2.l, E2.o, E2.d⟩
theorem I2_ok : EIok I2 2 where
  get := fun i e μ => by
    match i with
    | 0 => exact optF_eq _ _
    | 1 => exact optF_eq _ _
    | i + 2 => rfl
  set := fun i e d => by
    match i with
    | 0 => rfl
    | 1 => rfl
    | i + 2 => rfl
  emp := rfl
  toof := fun e => rfl
  ofto := fun l e h => by
    unfold I2 E2.o at h
    simp only at h
    split at h
    · cases h; rfl
    · cases h
  drop := fun n e => by
    show [dropOF n e.a0, dropOF n e.a1] = [dropO n e.a0, dropO n e.a1]
    simp only [dropOF_eq]
structure E3 where
  a0 : Option D
  a1 : Option D
  a2 : Option D
def E3.g (i : Nat) : Cl E3 := match i with
  | 0 => ⟨fun e => optF e.a0⟩
  | 1 => ⟨fun e => optF e.a1⟩
  | 2 => ⟨fun e => optF e.a2⟩
  | _ => ⟨fun _ _ => .stuck⟩
def E3.s (i : Nat) : Cw E3 := match i with
  | 0 => ⟨fun e d => @E3.rec (fun _ => Option D → E3) (fun _ a1 a2 d => ⟨d, a1, a2⟩) e d⟩
  | 1 => ⟨fun e d => @E3.rec (fun _ => Option D → E3) (fun a0 _ a2 d => ⟨a0, d, a2⟩) e d⟩
  | 2 => ⟨fun e d => @E3.rec (fun _ => Option D → E3) (fun a0 a1 _ d => ⟨a0, a1, d⟩) e d⟩
  | _ => ⟨fun e _ => e⟩
def E3.l (e : E3) : Env := [e.a0, e.a1, e.a2]
def E3.o (l : Env) : Option E3 := match l with
  | [a0, a1, a2] => some ⟨a0, a1, a2⟩
  | _ => none
def E3.d (n : Nat) (e : E3) : E3 := @E3.rec (fun _ => Nat → E3) (fun a0 a1 a2 n => ⟨dropOF n a0, dropOF n a1, dropOF n a2⟩) e n
def I3 : EI E3 := ⟨E3.g, E3.s, ⟨none, none, none⟩, E3.l, E3.o, E3.d⟩
theorem I3_ok : EIok I3 3 where
  get := fun i e μ => by
    match i with
    | 0 => exact optF_eq _ _
    | 1 => exact optF_eq _ _
    | 2 => exact optF_eq _ _
    | i + 3 => rfl
  set := fun i e d => by
    match i with
    | 0 => rfl
    | 1 => rfl
    | 2 => rfl
    | i + 3 => rfl
  emp := rfl
  toof := fun e => rfl
  ofto := fun l e h => by
    unfold I3 E3.o at h
    simp only at h
    split at h
    · cases h; rfl
    · cases h
  drop := fun n e => by
    show [dropOF n e.a0, dropOF n e.a1, dropOF n e.a2] = [dropO n e.a0, dropO n e.a1, dropO n e.a2]
    simp only [dropOF_eq]
structure E4 where
  a0 : Option D
  a1 : Option D
  a2 : Option D
  a3 : Option D
def E4.g (i : Nat) : Cl E4 := match i with
  | 0 => ⟨fun e => optF e.a0⟩
  | 1 => ⟨fun e => optF e.a1⟩
  | 2 => ⟨fun e => optF e.a2⟩
  | 3 => ⟨fun e => optF e.a3⟩
  | _ => ⟨fun _ _ => .stuck⟩
def E4.s (i : Nat) : Cw E4 := match i with
  | 0 => ⟨fun e d => @E4.rec (fun _ => Option D → E4) (fun _ a1 a2 a3 d => ⟨d, a1, a2, a3⟩) e d⟩
  | 1 => ⟨fun e d => @E4.rec (fun _ => Option D → E4) (fun a0 _ a2 a3 d => ⟨a0, d, a2, a3⟩) e d⟩
  | 2 => ⟨fun e d => @E4.rec (fun _ => Option D → E4) (fun a0 a1 _ a3 d => ⟨a0, a1, d, a3⟩) e d⟩
  | 3 => ⟨fun e d => @E4.rec (fun _ => Option D → E4) (fun a0 a1 a2 _ d => ⟨a0, a1, a2, d⟩) e d⟩
  | _ => ⟨fun e _ => e⟩
def E4.l (e : E4) : Env := [e.a0, e.a1, e.a2, e.a3]
def E4.o (l : Env) : Option E4 := match l with
  | [a0, a1, a2, a3] => some ⟨a0, a1, a2, a3⟩
  | _ => none
def E4.d (n : Nat) (e : E4) : E4 := @E4.rec (fun _ => Nat → E4) (fun a0 a1 a2 a3 n => ⟨dropOF n a0, dropOF n a1, dropOF n a2, dropOF n a3⟩) e n
def I4 : EI E4 := ⟨E4.g, E4.s, ⟨none, none, none, none⟩, E4.l, E4.o, E4.d⟩
theorem I4_ok : EIok I4 4 where
  get := fun i e μ => by
    match i with
    | 0 => exact optF_eq _ _
    | 1 => exact optF_eq _ _
    | 2 => exact optF_eq _ _
    | 3 => exact optF_eq _ _
    | i + 4 => rfl
  set := fun i e d => by
    match i with
    | 0 => rfl
    | 1 => rfl
    | 2 => rfl
    | 3 => rfl
    | i + 4 => rfl
  emp := rfl
  toof := fun e => rfl
  ofto := fun l e h => by
    unfold I4 E4.o at h
    simp only at h
    split at h
    · cases h; rfl
    · cases h
  drop := fun n e => by
    show [dropOF n e.a0, dropOF n e.a1, dropOF n e.a2, dropOF n e.a3] = [dropO n e.a0, dropO n e.a1, dropO n e.a2, dropO n e.a3]
    simp only [dropOF_eq]
structure E5 where
  a0 : Option D
  a1 : Option D
  a2 : Option D
  a3 : Option D
  a4 : Option D
def E5.g (i : Nat) : Cl E5 := match i with
  | 0 => ⟨fun e => optF e.a0⟩
  | 1 => ⟨fun e => optF e.a1⟩
  | 2 => ⟨fun e => optF e.a2⟩
  | 3 => ⟨fun e => optF e.a3⟩
  | 4 => ⟨fun e => optF e.a4⟩
  | _ => ⟨fun _ _ => .stuck⟩
def E5.s (i : Nat) : Cw E5 := match i with
  | 0 => ⟨fun e d => @E5.rec (fun _ => Option D → E5) (fun _ a1 a2 a3 a4 d => ⟨d, a1, a2, a3, a4⟩) e d⟩
  | 1 => ⟨fun e d => @E5.rec (fun _ => Option D → E5) (fun a0 _ a2 a3 a4 d => ⟨a0, d, a2, a3, a4⟩) e d⟩
  | 2 => ⟨fun e d => @E5.rec (fun _ => Option D → E5) (fun a0 a1 _ a3 a4 d => ⟨a0, a1, d, a3, a4⟩) e d⟩
  | 3 => ⟨fun e d => @E5.rec (fun _ => Option D → E5) (fun a0 a1 a2 _ a4 d => ⟨a0, a1, a2, d, a4⟩) e d⟩
  | 4 => ⟨fun e d => @E5.rec (fun _ => Option D → E5) (fun a0 a1 a2 a3 _ d => ⟨a0, a1, a2, a3, d⟩) e d⟩
  | _ => ⟨fun e _ => e⟩
def E5.l (e : E5) : Env := [e.a0, e.a1, e.a2, e.a3, e.a4]
def E5.o (l : Env) : Option E5 := match l with
  | [a0, a1, a2, a3, a4] => some ⟨a0, a1, a2, a3, a4⟩
  | _ => none
def E5.d (n : Nat) (e : E5) : E5 := @E5.rec (fun _ => Nat → E5) (fun a0 a1 a2 a3 a4 n => ⟨dropOF n a0, dropOF n a1, dropOF n a2, dropOF n a3, dropOF n a4⟩) e n
def I5 : EI E5 := ⟨E5.g, E5.s, ⟨none, none, none, none, none⟩, E5.l, E5.o, E5.d⟩
theorem I5_ok : EIok I5 5 where
  get := fun i e μ => by
    match i with
    | 0 => exact optF_eq _ _
    | 1 => exact optF_eq _ _
    | 2 => exact optF_eq _ _
    | 3 => exact optF_eq _ _
    | 4 => exact optF_eq _ _
    | i + 5 => rfl
  set := fun i e d => by
    match i with
    | 0 => rfl
    | 1 => rfl
    | 2 => rfl
    | 3 => rfl
    | 4 => rfl
    | i + 5 => rfl
  emp := rfl
  toof := fun e => rfl
  ofto := fun l e h => by
    unfold I5 E5.o at h
    simp only at h
    split at h
    · cases h; rfl
    · cases h
  drop := fun n e => by
    show [dropOF n e.a0, dropOF n e.a1, dropOF n e.a2, dropOF n e.a3, dropOF n e.a4] = [dropO n e.a0, dropO n e.a1, dropO n e.a2, dropO n e.a3, dropO n e.a4]
    simp only [dropOF_eq]
structure E6 where
  a0 : Option D
  a1 : Option D
  a2 : Option D
  a3 : Option D
  a4 : Option D
  a5 : Option D
def E6.g (i : Nat) : Cl E6 := match i with
  | 0 => ⟨fun e => optF e.a0⟩
  | 1 => ⟨fun e => optF e.a1⟩
  | 2 => ⟨fun e => optF e.a2⟩
  | 3 => ⟨fun e => optF e.a3⟩
  | 4 => ⟨fun e => optF e.a4⟩
  | 5 => ⟨fun e => optF e.a5⟩
  | _ => ⟨fun _ _ => .stuck⟩
def E6.s (i : Nat) : Cw E6 := match i with
  | 0 => ⟨fun e d => @E6.rec (fun _ => Option D → E6) (fun _ a1 a2 a3 a4 a5 d => ⟨d, a1, a2, a3, a4, a5⟩) e d⟩
  | 1 => ⟨fun e d => @E6.rec (fun _ => Option D → E6) (fun a0 _ a2 a3 a4 a5 d => ⟨a0, d, a2, a3, a4, a5⟩) e d⟩
  | 2 => ⟨fun e d => @E6.rec (fun _ => Option D → E6) (fun a0 a1 _ a3 a4 a5 d => ⟨a0, a1, d, a3, a4, a5⟩) e d⟩
  | 3 => ⟨fun e d => @E6.rec (fun _ => Option D → E6) (fun a0 a1 a2 _ a4 a5 d => ⟨a0, a1, a2, d, a4, a5⟩) e d⟩
  | 4 => ⟨fun e d => @E6.rec (fun _ => Option D → E6) (fun a0 a1 a2 a3 _ a5 d => ⟨a0, a1, a2, a3, d, a5⟩) e d⟩
  | 5 => ⟨fun e d => @E6.rec (fun _ => Option D → E6) (fun a0 a1 a2 a3 a4 _ d => ⟨a0, a1, a2, a3, a4, d⟩) e d⟩
  | _ => ⟨fun e _ => e⟩
def E6.l (e : E6) : Env := [e.a0, e.a1, e.a2, e.a3, e.a4, e.a5]
def E6.o (l : Env) : Option E6 := match l with
  | [a0, a1, a2, a3, a4, a5] => some ⟨a0, a1, a2, a3, a4, a5⟩
  | _ => none
def E6.d (n : Nat) (e : E6) : E6 := @E6.rec (fun _ => Nat → E6) (fun a0 a1 a2 a3 a4 a5 n => ⟨dropOF n a0, dropOF n a1, dropOF n a2, dropOF n a3, dropOF n a4, dropOF n a5⟩) e n
def I6 : EI E6 := ⟨E6.g, E6.s, ⟨none, none, none, none, none, none⟩, E6.l, E6.o, E6.d⟩
theorem I6_ok : EIok I6 6 where
  get := fun i e μ => by
    match i with
    | 0 => exact optF_eq _ _
    | 1 => exact optF_eq _ _
    | 2 => exact optF_eq _ _
    | 3 => exact optF_eq _ _
    | 4 => exact optF_eq _ _
    | 5 => exact optF_eq _ _
    | i + 6 => rfl
  set := fun i e d => by
    match i with
    | 0 => rfl
    | 1 => rfl
    | 2 => rfl
    | 3 => rfl
    | 4 => rfl
    | 5 => rfl
    | i + 6 => rfl
  emp := rfl
  toof := fun e => rfl
  ofto := fun l e h => by
    unfold I6 E6.o at h
    simp only at h
    split at h
    · cases h; rfl
    · cases h
  drop := fun n e => by
    show [dropOF n e.a0, dropOF n e.a1, dropOF n e.a2, dropOF n e.a3, dropOF n e.a4, dropOF n e.a5] = [dropO n e.a0, dropO n e.a1, dropO n e.a2, dropO n e.a3, dropO n e.a4, dropO n e.a5]
    simp only [dropOF_eq]
structure E7 where
  a0 : Option D
  a1 : Option D
  a2 : Option D
  a3 : Option D
  a4 : Option D
  a5 : Option D
  a6 : Option D
def E7.g (i : Nat) : Cl E7 := match i with
  | 0 => ⟨fun e => optF e.a0⟩
  | 1 => ⟨fun e => optF e.a1⟩
  | 2 => ⟨fun e => optF e.a2⟩
  | 3 => ⟨fun e => optF e.a3⟩
  | 4 => ⟨fun e => optF e.a4⟩
  | 5 => ⟨fun e => optF e.a5⟩
  | 6 => ⟨fun e => optF e.a6⟩
  | _ => ⟨fun _ _ => .stuck⟩
def E7.s (i : Nat) : Cw E7 := match i with
  | 0 => ⟨fun e d => @E7.rec (fun _ => Option D → E7) (fun _ a1 a2 a3 a4 a5 a6 d => ⟨d, a1, a2, a3, a4, a5, a6⟩) e d⟩
  | 1 => ⟨fun e d => @E7.rec (fun _ => Option D → E7) (fun a0 _ a2 a3 a4 a5 a6 d => ⟨a0, d, a2, a3, a4, a5, a6⟩) e d⟩
  | 2 => ⟨fun e d => @E7.rec (fun _ => Option D → E7) (fun a0 a1 _ a3 a4 a5 a6 d => ⟨a0, a1, d, a3, a4, a5, a6⟩) e d⟩
  | 3 => ⟨fun e d => @E7.rec (fun _ => Option D → E7) (fun a0 a1 a2 _ a4 a5 a6 d => ⟨a0, a1, a2, d, a4, a5, a6⟩) e d⟩
  | 4 => ⟨fun e d => @E7.rec (fun _ => Option D → E7) (fun a0 a1 a2 a3 _ a5 a6 d => ⟨a0, a1, a2, a3, d, a5, a6⟩) e d⟩
  | 5 => ⟨fun e d => @E7.rec (fun _ => Option D → E7) (fun a0 a1 a2 a3 a4 _ a6 d => ⟨a0, a1, a2, a3, a4, d, a6⟩) e d⟩
  | 6 => ⟨fun e d => @E7.rec (fun _ => Option D → E7) (fun a0 a1 a2 a3 a4 a5 _ d => ⟨a0, a1, a2, a3, a4, a5, d⟩) e d⟩
  | _ => ⟨fun e _ => e⟩
def E7.l (e : E7) : Env := [e.a0, e.a1, e.a2, e.a3, e.a4, e.a5, e.a6]
def E7.o (l : Env) : Option E7 := match l with
  | [a0, a1, a2, a3, a4, a5, a6] => some ⟨a0, a1, a2, a3, a4, a5, a6⟩
  | _ => none
def E7.d (n : Nat) (e : E7) : E7 := @E7.rec (fun _ => Nat → E7) (fun a0 a1 a2 a3 a4 a5 a6 n => ⟨dropOF n a0, dropOF n a1, dropOF n a2, dropOF n a3, dropOF n a4, dropOF n a5, dropOF n a6⟩) e n
def I7 : EI E7 := ⟨E7.g, E7.s, ⟨none, none, none, none, none, none, none⟩, E7.l, E7.o, E7.d⟩
theorem I7_ok : EIok I7 7 where
  get := fun i e μ => by
    match i with
    | 0 => exact optF_eq _ _
    | 1 => exact optF_eq _ _
    | 2 => exact optF_eq _ _
    | 3 => exact optF_eq _ _
    | 4 => exact optF_eq _ _
    | 5 => exact optF_eq _ _
    | 6 => exact optF_eq _ _
    | i + 7 => rfl
  set := fun i e d => by
    match i with
    | 0 => rfl
    | 1 => rfl
    | 2 => rfl
    | 3 => rfl
    | 4 => rfl
    | 5 => rfl
    | 6 => rfl
    | i + 7 => rfl
  emp := rfl
  toof := fun e => rfl
  ofto := fun l e h => by
    unfold I7 E7.o at h
    simp only at h
    split at h
    · cases h; rfl
    · cases h
  drop := fun n e => by
    show [dropOF n e.a0, dropOF n e.a1, dropOF n e.a2, dropOF n e.a3, dropOF n e.a4, dropOF n e.a5, dropOF n e.a6] = [dropO n e.a0, dropO n e.a1, dropO n e.a2, dropO n e.a3, dropO n e.a4, dropO n e.a5, dropO n e.a6]
    simp only [dropOF_eq]
structure E9 where
  a0 : Option D
  a1 : Option D
  a2 : Option D
  a3 : Option D
  a4 : Option D
  a5 : Option D
  a6 : Option D
  a7 : Option D
  a8 : Option D
def E9.g (i : Nat) : Cl E9 := match i with
  | 0 => ⟨fun e => optF e.a0⟩
  | 1 => ⟨fun e => optF e.a1⟩
  | 2 => ⟨fun e => optF e.a2⟩
  | 3 => ⟨fun e => optF e.a3⟩
  | 4 => ⟨fun e => optF e.a4⟩
  | 5 => ⟨fun e => optF e.a5⟩
  | 6 => ⟨fun e => optF e.a6⟩
  | 7 => ⟨fun e => optF e.a7⟩
  | 8 => ⟨fun e => optF e.a8⟩
  | _ => ⟨fun _ _ => .stuck⟩
def E9.s (i : Nat) : Cw E9 := match i with
  | 0 => ⟨fun e d => @E9.rec (fun _ => Option D → E9) (fun _ a1 a2 a3 a4 a5 a6 a7 a8 d => ⟨d, a1, a2, a3, a4, a5, a6, a7, a8⟩) e d⟩
  | 1 => ⟨fun e d => @E9.rec (fun _ => Option D → E9) (fun a0 _ a2 a3 a4 a5 a6 a7 a8 d => ⟨a0, d, a2, a3, a4, a5, a6, a7, a8⟩) e d⟩
  | 2 => ⟨fun e d => @E9.rec (fun _ => Option D → E9) (fun a0 a1 _ a3 a4 a5 a6 a7 a8 d => ⟨a0, a1, d, a3, a4, a5, a6, a7, a8⟩) e d⟩
  | 3 => ⟨fun e d => @E9.rec (fun _ => Option D → E9) (fun a0 a1 a2 _ a4 a5 a6 a7 a8 d => ⟨a0, a1, a2, d, a4, a5, a6, a7, a8⟩) e d⟩
  | 4 => ⟨fun e d => @E9.rec (fun _ => Option D → E9) (fun a0 a1 a2 a3 _ a5 a6 a7 a8 d => ⟨a0, a1, a2, a3, d, a5, a6, a7, a8⟩) e d⟩
  | 5 => ⟨fun e d => @E9.rec (fun _ => Option D → E9) (fun a0 a1 a2 a3 a4 _ a6 a7 a8 d => ⟨a0, a1, a2, a3, a4, d, a6, a7, a8⟩) e d⟩
  | 6 => ⟨fun e d => @E9.rec (fun _ => Option D → E9) (fun a0 a1 a2 a3 a4 a5 _ a7 a8 d => ⟨a0, a1, a2, a3, a4, a5, d, a7, a8⟩) e d⟩
  | 7 => ⟨fun e d => @E9.rec (fun _ => Option D → E9) (fun a0 a1 a2 a3 a4 a5 a6 _ a8 d => ⟨a0, a1, a2, a3, a4, a5, a6, d, a8⟩) e d⟩
  | 8 => ⟨fun e d => @E9.rec (fun _ => Option D → E9) (fun a0 a1 a2 a3 a4 a5 a6 a7 _ d => ⟨a0, a1, a2, a3, a4, a5, a6, a7, d⟩) e d⟩
  | _ => ⟨fun e _ => e⟩
def E9.l (e : E9) : Env := [e.a0, e.a1, e.a2, e.a3, e.a4, e.a5, e.a6, e.a7, e.a8]
def E9.o (l : Env) : Option E9 := match l with
  | [a0, a1, a2, a3, a4, a5, a6, a7, a8] => some ⟨a0, a1, a2, a3, a4, a5, a6, a7, a8⟩
  | _ => none
def E9.d (n : Nat) (e : E9) : E9 := @E9.rec (fun _ => Nat → E9) (fun a0 a1 a2 a3 a4 a5 a6 a7 a8 n => ⟨dropOF n a0, dropOF n a1, dropOF n a2, dropOF n a3, dropOF n a4, dropOF n a5, dropOF n a6, dropOF n a7, dropOF n a8⟩) e n
def I9 : EI E9 := ⟨E9.g, E9.s, ⟨none, none, none, none, none, none, none, none, none⟩, E9.l, E9.o, E9.d⟩
theorem I9_ok : EIok I9 9 where
  get := fun i e μ => by
    match i with
    | 0 => exact optF_eq _ _
    | 1 => exact optF_eq _ _
    | 2 => exact optF_eq _ _
    | 3 => exact optF_eq _ _
    | 4 => exact optF_eq _ _
    | 5 => exact optF_eq _ _
    | 6 => exact optF_eq _ _
    | 7 => exact optF_eq _ _
    | 8 => exact optF_eq _ _
    | i + 9 => rfl
  set := fun i e d => by
    match i with
    | 0 => rfl
    | 1 => rfl
    | 2 => rfl
    | 3 => rfl
    | 4 => rfl
    | 5 => rfl
    | 6 => rfl
    | 7 => rfl
    | 8 => rfl
    | i + 9 => rfl
  emp := rfl
  toof := fun e => rfl
  ofto := fun l e h => by
    unfold I9 E9.o at h
    simp only at h
    split at h
    · cases h; rfl
    · cases h
  drop := fun n e => by
    show [dropOF n e.a0, dropOF n e.a1, dropOF n e.a2, dropOF n e.a3, dropOF n e.a4, dropOF n e.a5, dropOF n e.a6, dropOF n e.a7, dropOF n e.a8] = [dropO n e.a0, dropO n e.a1, dropO n e.a2, dropO n e.a3, dropO n e.a4, dropO n e.a5, dropO n e.a6, dropO n e.a7, dropO n e.a8]
    simp only [dropOF_eq]
structure E12 where
  a0 : Option D
  a1 : Option D
  a2 : Option D
  a3 : Option D
  a4 : Option D
  a5 : Option D
  a6 : Option D
  a7 : Option D
  a8 : Option D
  a9 : Option D
  a10 : Option D
  a11 : Option D
def E12.g (i : Nat) : Cl E12 := match i with
  | 0 => ⟨fun e => optF e.a0⟩
  | 1 => ⟨fun e => optF e.a1⟩
  | 2 => ⟨fun e => optF e.a2⟩
  | 3 => ⟨fun e => optF e.a3⟩
  | 4 => ⟨fun e => optF e.a4⟩
  | 5 => ⟨fun e => optF e.a5⟩
  | 6 => ⟨fun e => optF e.a6⟩
  | 7 => ⟨fun e => optF e.a7⟩
  | 8 => ⟨fun e => optF e.a8⟩
  | 9 => ⟨fun e => optF e.a9⟩
  | 10 => ⟨fun e => optF e.a10⟩
  | 11 => ⟨fun e => optF e.a11⟩
  | _ => ⟨fun _ _ => .stuck⟩
def E12.s (i : Nat) : Cw E12 := match i with
  | 0 => ⟨fun e d => @E12.rec (fun _ => Option D → E12) (fun _ a1 a2 a3 a4 a5 a6 a7 a8 a9 a10 a11 d => ⟨d, a1, a2, a3, a4, a5, a6, a7, a8, a9, a10, a11⟩) e d⟩
  | 1 => ⟨fun e d => @E12.rec (fun _ => Option D → E12) (fun a0 _ a2 a3 a4 a5 a6 a7 a8 a9 a10 a11 d => ⟨a0, d, a2, a3, a4, a5, a6, a7, a8, a9, a10, a11⟩) e d⟩
  | 2 => ⟨fun e d => @E12.rec (fun _ => Option D → E12) (fun a0 a1 _ a3 a4 a5 a6 a7 a8 a9 a10 a11 d => ⟨a0, a1, d, a3, a4, a5, a6, a7, a8, a9, a10, a11⟩) e d⟩
  | 3 => ⟨fun e d => @E12.rec (fun _ => Option D → E12) (fun a0 a1 a2 _ a4 a5 a6 a7 a8 a9 a10 a11 d => ⟨a0, a1, a2, d, a4, a5, a6, a7, a8, a9, a10, a11⟩) e d⟩
  | 4 => ⟨fun e d => @E12.rec (fun _ => Option D → E12) (fun a0 a1 a2 a3 _ a5 a6 a7 a8 a9 a10 a11 d => ⟨a0, a1, a2, a3, d, a5, a6, a7, a8, a9, a10, a11⟩) e d⟩
  | 5 => ⟨fun e d => @E12.rec (fun _ => Option D → E12) (fun a0 a1 a2 a3 a4 _ a6 a7 a8 a9 a10 a11 d => ⟨a0, a1, a2, a3, a4, d, a6, a7, a8, a9, a10, a11⟩) e d⟩
  | 6 => ⟨fun e d => @E12.rec (fun _ => Option D → E12) (fun a0 a1 a2 a3 a4 a5 _ a7 a8 a9 a10 a11 d => ⟨a0, a1, a2, a3, a4, a5, d, a7, a8, a9, a10, a11⟩) e d⟩
  | 7 => ⟨fun e d => @E12.rec (fun _ => Option D → E12) (fun a0 a1 a2 a3 a4 a5 a6 _ a8 a9 a10 a11 d => ⟨a0, a1, a2, a3, a4, a5, a6, d, a8, a9, a10, a11⟩) e d⟩
  | 8 => ⟨fun e d => @E12.rec (fun _ => Option D → E12) (fun a0 a1 a2 a3 a4 a5 a6 a7 _ a9 a10 a11 d => ⟨a0, a1, a2, a3, a4, a5, a6, a7, d, a9, a10, a11⟩) e d⟩
  | 9 => ⟨fun e d => @E12.rec (fun _ => Option D → E12) (fun a0 a1 a2 a3 a4 a5 a6 a7 a8 _ a10 a11 d => ⟨a0, a1, a2, a3, a4, a5, a6, a7, a8, d, a10, a11⟩) e d⟩
  | 10 => ⟨fun e d => @E12.rec (fun _ => Option D → E12) (fun a0 a1 a2 a3 a4 a5 a6 a7 a8 a9 _ a11 d => ⟨a0, a1, a2, a3, a4, a5, a6, a7, a8, a9, d, a11⟩) e d⟩
  | 11 => ⟨fun e d => @E12.rec (fun _ => Option D → E12) (fun a0 a1 a2 a3 a4 a5 a6 a7 a8 a9 a10 _ d => ⟨a0, a1, a2, a3, a4, a5, a6, a7, a8, a9, a10, d⟩) e d⟩
  | _ => ⟨fun e _ => e⟩
def E12.l (e : E12) : Env := [e.a0, e.a1, e.a2, e.a3, e.a4, e.a5, e.a6, e.a7, e.a8, e.a9, e.a10, e.a11]
def E12.o (l : Env) : Option E12 := match l with
  | [a0, a1, a2, a3, a4, a5, a6, a7, a8, a9, a10, a11] => some ⟨a0, a1, a2, a3, a4, a5, a6, a7, a8, a9, a10, a11⟩
  | _ => none
def E12.d (n : Nat) (e : E12) : E12 := @E12.rec (fun _ => Nat → E12) (fun a0 a1 a2 a3 a4 a5 a6 a7 a8 a9 a10 a11 n => ⟨dropOF n a0, dropOF n a1, dropOF n a2, dropOF n a3, dropOF n a4, dropOF n a5, dropOF n a6, dropOF n a7, dropOF n a8, dropOF n a9, dropOF n a10, dropOF n a11⟩) e n
def I12 : EI E12 := ⟨E12.g, E12.s, ⟨none, none, none, none, none, none, none, none, none, none, none, none⟩, E12.l, E12.o, E12.d⟩
theorem I12_ok : EIok I12 12 where
  get := fun i e μ => by
    match i with
    | 0 => exact optF_eq _ _
    | 1 => exact optF_eq _ _
    | 2 => exact optF_eq _ _
    | 3 => exact optF_eq _ _
    | 4 => exact optF_eq _ _
    | 5 => exact optF_eq _ _
    | 6 => exact optF_eq _ _
    | 7 => exact optF_eq _ _
    | 8 => exact optF_eq _ _
    | 9 => exact optF_eq _ _
    | 10 => exact optF_eq _ _
    | 11 => exact optF_eq _ _
    | i + 12 => rfl
  set := fun i e d => by
    match i with
    | 0 => rfl
    | 1 => rfl
    | 2 => rfl
    | 3 => rfl
    | 4 => rfl
    | 5 => rfl
    | 6 => rfl
    | 7 => rfl
    | 8 => rfl
    | 9 => rfl
    | 10 => rfl
    | 11 => rfl
    | i + 12 => rfl
  emp := rfl
  toof := fun e => rfl
  ofto := fun l e h => by
    unfold I12 E12.o at h
    simp only at h
    split at h
    · cases h; rfl
    · cases h
  drop := fun n e => by
    show [dropOF n e.a0, dropOF n e.a1, dropOF n e.a2, dropOF n e.a3, dropOF n e.a4, dropOF n e.a5, dropOF n e.a6, dropOF n e.a7, dropOF n e.a8, dropOF n e.a9, dropOF n e.a10, dropOF n e.a11] = [dropO n e.a0, dropO n e.a1, dropO n e.a2, dropO n e.a3, dropO n e.a4, dropO n e.a5, dropO n e.a6, dropO n e.a7, dropO n e.a8, dropO n e.a9, dropO n e.a10, dropO n e.a11]
    simp only [dropOF_eq]
structure E14 where
  a0 : Option D
  a1 : Option D
  a2 : Option D
  a3 : Option D
  a4 : Option D
  a5 : Option D
  a6 : Option D
  a7 : Option D
  a8 : Option D
  a9 : Option D
  a10 : Option D
  a11 : Option D
  a12 : Option D
  a13 : Option D
def E14.g (i : Nat) : Cl E14 := match i with
  | 0 => ⟨fun e => optF e.a0⟩
  | 1 => ⟨fun e => optF e.a1⟩
  | 2 => ⟨fun e => optF e.a2⟩
  | 3 => ⟨fun e => optF e.a3⟩
  | 4 => ⟨fun e => optF e.a4⟩
  | 5 => ⟨fun e => optF e.a5⟩
  | 6 => ⟨fun e => optF e.a6⟩
  | 7 => ⟨fun e => optF e.a7⟩
  | 8 => ⟨fun e => optF e.a8⟩
  | 9 => ⟨fun e => optF e.a9⟩
  | 10 => ⟨fun e => optF e.a10⟩
  | 11 => ⟨fun e => optF e.a11⟩
  | 12 => ⟨fun e => optF e.a12⟩
  | 13 => ⟨fun e => optF e.a13⟩
  | _ => ⟨fun _ _ => .stuck⟩
def E14.s (i : Nat) : Cw E14 := match i with
  | 0 => ⟨fun e d => @E14.rec (fun _ => Option D → E14) (fun _ a1 a2 a3 a4 a5 a6 a7 a8 a9 a10 a11 a12 a13 d => ⟨d, a1, a2, a3, a4, a5, a6, a7, a8, a9, a10, a11, a12, a13⟩) e d⟩
  | 1 => ⟨fun e d => @E14.rec (fun _ => Option D → E14) (fun a0 _ a2 a3 a4 a5 a6 a7 a8 a9 a10 a11 a12 a13 d => ⟨a0, d, a2, a3, a4, a5, a6, a7, a8, a9, a10, a11, a12, a13⟩) e d⟩
  | 2 => ⟨fun e d => @E14.rec (fun _ => Option D → E14) (fun a0 a1 _ a3 a4 a5 a6 a7 a8 a9 a10 a11 a12 a13 d => ⟨a0, a1, d, a3, a4, a5, a6, a7, a8, a9, a10, a11, a12, a13⟩) e d⟩
  | 3 => ⟨fun e d => @E14.rec (fun _ => Option D → E14) (fun a0 a1 a2 _ a4 a5 a6 a7 a8 a9 a10 a11 a12 a13 d => ⟨a0, a1, a2, d, a4, a5, a6, a7, a8, a9, a10, a11, a12, a13⟩) e d⟩
  | 4 => ⟨fun e d => @E14.rec (fun _ => Option D → E14) (fun a0 a1 a2 a3 _ a5 a6 a7 a8 a9 a10 a11 a12 a13 d => ⟨a0, a1, a2, a3, d, a5, a6, a7, a8, a9, a10, a11, a12, a13⟩) e d⟩
  | 5 => ⟨fun e d => @E14.rec (fun _ => Option D → E14) (fun a0 a1 a2 a3 a4 _ a6 a7 a8 a9 a10 a11 a12 a13 d => ⟨a0, a1, a2, a3, a4, d, a6, a7, a8, a9, a10, a11, a12, a13⟩) e d⟩
  | 6 => ⟨fun e d => @E14.rec (fun _ => Option D → E14) (fun a0 a1 a2 a3 a4 a5 _ a7 a8 a9 a10 a11 a12 a13 d => ⟨a0, a1, a2, a3, a4, a5, d, a7, a8, a9, a10, a11, a12, a13⟩) e d⟩
  | 7 => ⟨fun e d => @E14.rec (fun _ => Option D → E14) (fun a0 a1 a2 a3 a4 a5 a6 _ a8 a9 a10 a11 a12 a13 d => ⟨a0, a1, a2, a3, a4, a5, a6, d, a8, a9, a10, a11, a12, a13⟩) e d⟩
  | 8 => ⟨fun e d => @E14.rec (fun _ => Option D → E14) (fun a0 a1 a2 a3 a4 a5 a6 a7 _ a9 a10 a11 a12 a13 d => ⟨a0, a1, a2, a3, a4, a5, a6, a7, d, a9, a10, a11, a12, a13⟩) e d⟩
  | 9 => ⟨fun e d => @E14.rec (fun _ => Option D → E14) (fun a0 a1 a2 a3 a4 a5 a6 a7 a8 _ a10 a11 a12 a13 d => ⟨a0, a1, a2, a3, a4, a5, a6, a7, a8, d, a10, a11, a12, a13⟩) e d⟩
  | 10 => ⟨fun e d => @E14.rec (fun _ => Option D → E14) (fun a0 a1 a2 a3 a4 a5 a6 a7 a8 a9 _ a11 a12 a13 d => ⟨a0, a1, a2, a3, a4, a5, a6, a7, a8, a9, d, a11, a12, a13⟩) e d⟩
  | 11 => ⟨fun e d => @E14.rec (fun _ => Option D → E14) (fun a0 a1 a2 a3 a4 a5 a6 a7 a8 a9 a10 _ a12 a13 d => ⟨a0, a1, a2, a3, a4, a5, a6, a7, a8, a9, a10, d, a12, a13⟩) e d⟩
  | 12 => ⟨fun e d => @E14.rec (fun _ => Option D → E14) (fun a0 a1 a2 a3 a4 a5 a6 a7 a8 a9 a10 a11 _ a13 d => ⟨a0, a1, a2, a3, a4, a5, a6, a7, a8, a9, a10, a11, d, a13⟩) e d⟩
  | 13 => ⟨fun e d => @E14.rec (fun _ => Option D → E14) (fun a0 a1 a2 a3 a4 a5 a6 a7 a8 a9 a10 a11 a12 _ d => ⟨a0, a1, a2, a3, a4, a5, a6, a7, a8, a9, a10, a11, a12, d⟩) e d⟩
  | _ => ⟨fun e _ => e⟩
def E14.l (e : E14) : Env := [e.a0, e.a1, e.a2, e.a3, e.a4, e.a5, e.a6, e.a7, e.a8, e.a9, e.a10, e.a11, e.a12, e.a13]
def E14.o (l : Env) : Option E14 := match l with
  | [a0, a1, a2, a3, a4, a5, a6, a7, a8, a9, a10, a11, a12, a13] => some ⟨a0, a1, a2, a3, a4, a5, a6, a7, a8, a9, a10, a11, a12, a13⟩
  | _ => none
def E14.d (n : Nat) (e : E14) : E14 := @E14.rec (fun _ => Nat → E14) (fun a0 a1 a2 a3 a4 a5 a6 a7 a8 a9 a10 a11 a12 a13 n => ⟨dropOF n a0, dropOF n a1, dropOF n a2, dropOF n a3, dropOF n a4, dropOF n a5, dropOF n a6, dropOF n a7, dropOF n a8, dropOF n a9, dropOF n a10, dropOF n a11, dropOF n a12, dropOF n a13⟩) e n
def I14 : EI E14 := ⟨E14.g, E14.s, ⟨none, none, none, none, none, none, none, none, none, none, none, none, none, none⟩, E14.l, E14.o, E14.d⟩
theorem I14_ok : EIok I14 14 where
  get := fun i e μ => by
    match i with
    | 0 => exact optF_eq _ _
    | 1 => exact optF_eq _ _
    | 2 => exact optF_eq _ _
    | 3 => exact optF_eq _ _
    | 4 => exact optF_eq _ _
    | 5 => exact optF_eq _ _
    | 6 => exact optF_eq _ _
    | 7 => exact optF_eq _ _
    | 8 => exact optF_eq _ _
    | 9 => exact optF_eq _ _
    | 10 => exact optF_eq _ _
    | 11 => exact optF_eq _ _
    | 12 => exact optF_eq _ _
    | 13 => exact optF_eq _ _
    | i + 14 => rfl
  set := fun i e d => by
    match i with
    | 0 => rfl
    | 1 => rfl
    | 2 => rfl
    | 3 => rfl
    | 4 => rfl
    | 5 => rfl
    | 6 => rfl
    | 7 => rfl
    | 8 => rfl
    | 9 => rfl
    | 10 => rfl
    | 11 => rfl
    | 12 => rfl
    | 13 => rfl
    | i + 14 => rfl
  emp := rfl
  toof := fun e => rfl
  ofto := fun l e h => by
    unfold I14 E14.o at h
    simp only at h
    split at h
    · cases h; rfl
    · cases h
  drop := fun n e => by
    show [dropOF n e.a0, dropOF n e.a1, dropOF n e.a2, dropOF n e.a3, dropOF n e.a4, dropOF n e.a5, dropOF n e.a6, dropOF n e.a7, dropOF n e.a8, dropOF n e.a9, dropOF n e.a10, dropOF n e.a11, dropOF n e.a12, dropOF n e.a13] = [dropO n e.a0, dropO n e.a1, dropO n e.a2, dropO n e.a3, dropO n e.a4, dropO n e.a5, dropO n e.a6, dropO n e.a7, dropO n e.a8, dropO n e.a9, dropO n e.a10, dropO n e.a11, dropO n e.a12, dropO n e.a13]
    simp only [dropOF_eq]
structure E15 where
  a0 : Option D
  a1 : Option D
  a2 : Option D
  a3 : Option D
  a4 : Option D
  a5 : Option D
  a6 : Option D
  a7 : Option D
  a8 : Option D
  a9 : Option D
  a10 : Option D
  a11 : Option D
  a12 : Option D
  a13 : Option D
  a14 : Option D
def E15.g (i : Nat) : Cl E15 := match i with
  | 0 => ⟨fun e => optF e.a0⟩
  | 1 => ⟨fun e => optF e.a1⟩
  | 2 => ⟨fun e => optF e.a2⟩
  | 3 => ⟨fun e => optF e.a3⟩
  | 4 => ⟨fun e => optF e.a4⟩
  | 5 => ⟨fun e => optF e.a5⟩
  | 6 => ⟨fun e => optF e.a6⟩
  | 7 => ⟨fun e => optF e.a7⟩
  | 8 => ⟨fun e => optF e.a8⟩
  | 9 => ⟨fun e => optF e.a9⟩
  | 10 => ⟨fun e => optF e.a10⟩
  | 11 => ⟨fun e => optF e.a11⟩
  | 12 => ⟨fun e => optF e.a12⟩
  | 13 => ⟨fun e => optF e.a13⟩
  | 14 => ⟨fun e => optF e.a14⟩
  | _ => ⟨fun _ _ => .stuck⟩
def E15.s (i : Nat) : Cw E15 := match i with
  | 0 => ⟨fun e d => @E15.rec (fun _ => Option D → E15) (fun _ a1 a2 a3 a4 a5 a6 a7 a8 a9 a10 a11 a12 a13 a14 d => ⟨d, a1, a2, a3, a4, a5, a6, a7, a8, a9, a10, a11, a12, a13, a14⟩) e d⟩
  | 1 => ⟨fun e d => @E15.rec (fun _ => Option D → E15) (fun a0 _ a2 a3 a4 a5 a6 a7 a8 a9 a10 a11 a12 a13 a14 d => ⟨a0, d, a2, a3, a4, a5, a6, a7, a8, a9, a10, a11, a12, a13, a14⟩) e d⟩
  | 2 => ⟨fun e d => @E15.rec (fun _ => Option D → E15) (fun a0 a1 _ a3 a4 a5 a6 a7 a8 a9 a10 a11 a12 a13 a14 d => ⟨a0, a1, d, a3, a4, a5, a6, a7, a8, a9, a10, a11, a12, a13, a14⟩) e d⟩
  | 3 => ⟨fun e d => @E15.rec (fun _ => Option D → E15) (fun a0 a1 a2 _ a4 a5 a6 a7 a8 a9 a10 a11 a12 a13 a14 d => ⟨a0, a1, a2, d, a4, a5, a6, a7, a8, a9, a10, a11, a12, a13, a14⟩) e d⟩
  | 4 => ⟨fun e d => @E15.rec (fun _ => Option D → E15) (fun a0 a1 a2 a3 _ a5 a6 a7 a8 a9 a10 a11 a12 a13 a14 d => ⟨a0, a1, a2, a3, d, a5, a6, a7, a8, a9, a10, a11, a12, a13, a14⟩) e d⟩
  | 5 => ⟨fun e d => @E15.rec (fun _ => Option D → E15) (fun a0 a1 a2 a3 a4 _ a6 a7 a8 a9 a10 a11 a12 a13 a14 d => ⟨a0, a1, a2, a3, a4, d, a6, a7, a8, a9, a10, a11, a12, a13, a14⟩) e d⟩
  | 6 => ⟨fun e d => @E15.rec (fun _ => Option D → E15) (fun a0 a1 a2 a3 a4 a5 _ a7 a8 a9 a10 a11 a12 a13 a14 d => ⟨a0, a1, a2, a3, a4, a5, d, a7, a8, a9, a10, a11, a12, a13, a14⟩) e d⟩
  | 7 => ⟨fun e d => @E15.rec (fun _ => Option D → E15) (fun a0 a1 a2 a3 a4 a5 a6 _ a8 a9 a10 a11 a12 a13 a14 d => ⟨a0, a1, a2, a3, a4, a5, a6, d, a8, a9, a10, a11, a12, a13, a14⟩) e d⟩
  | 8 => ⟨fun e d => @E15.rec (fun _ => Option D → E15) (fun a0 a1 a2 a3 a4 a5 a6 a7 _ a9 a10 a11 a12 a13 a14 d => ⟨a0, a1, a2, a3, a4, a5, a6, a7, d, a9, a10, a11, a12, a13, a14⟩) e d⟩
  | 9 => ⟨fun e d => @E15.rec (fun _ => Option D → E15) (fun a0 a1 a2 a3 a4 a5 a6 a7 a8 _ a10 a11 a12 a13 a14 d => ⟨a0, a1, a2, a3, a4, a5, a6, a7, a8, d, a10, a11, a12, a13, a14⟩) e d⟩
  | 10 => ⟨fun e d => @E15.rec (fun _ => Option D → E15) (fun a0 a1 a2 a3 a4 a5 a6 a7 a8 a9 _ a11 a12 a13 a14 d => ⟨a0, a1, a2, a3, a4, a5, a6, a7, a8, a9, d, a11, a12, a13, a14⟩) e d⟩
  | 11 => ⟨fun e d => @E15.rec (fun _ => Option D → E15) (fun a0 a1 a2 a3 a4 a5 a6 a7 a8 a9 a10 _ a12 a13 a14 d => ⟨a0, a1, a2, a3, a4, a5, a6, a7, a8, a9, a10, d, a12, a13, a14⟩) e d⟩
  | 12 => ⟨fun e d => @E15.rec (fun _ => Option D → E15) (fun a0 a1 a2 a3 a4 a5 a6 a7 a8 a9 a10 a11 _ a13 a14 d => ⟨a0, a1, a2, a3, a4, a5, a6, a7, a8, a9, a10, a11, d, a13, a14⟩) e d⟩
  | 13 => ⟨fun e d => @E15.rec (fun _ => Option D → E15) (fun a0 a1 a2 a3 a4 a5 a6 a7 a8 a9 a10 a11 a12 _ a14 d => ⟨a0, a1, a2, a3, a4, a5, a6, a7, a8, a9, a10, a11, a12, d, a14⟩) e d⟩
  | 14 => ⟨fun e d => @E15.rec (fun _ => Option D → E15) (fun a0 a1 a2 a3 a4 a5 a6 a7 a8 a9 a10 a11 a12 a13 _ d => ⟨a0, a1, a2, a3, a4, a5, a6, a7, a8, a9, a10, a11, a12, a13, d⟩) e d⟩
  | _ => ⟨fun e _ => e⟩
def E15.l (e : E15) : Env := [e.a0, e.a1, e.a2, e.a3, e.a4, e.a5, e.a6, e.a7, e.a8, e.a9, e.a10, e.a11, e.a12, e.a13, e.a14]
def E15.o (l : Env) : Option E15 := match l with
  | [a0, a1, a2, a3, a4, a5, a6, a7, a8, a9, a10, a11, a12, a13, a14] => some ⟨a0, a1, a2, a3, a4, a5, a6, a7, a8, a9, a10, a11, a12, a13, a14⟩
  | _ => none
def E15.d (n : Nat) (e : E15) : E15 := @E15.rec (fun _ => Nat → E15) (fun a0 a1 a2 a3 a4 a5 a6 a7 a8 a9 a10 a11 a12 a13 a14 n => ⟨dropOF n a0, dropOF n a1, dropOF n a2, dropOF n a3, dropOF n a4, dropOF n a5, dropOF n a6, dropOF n a7, dropOF n a8, dropOF n a9, dropOF n a10, dropOF n a11, dropOF n a12, dropOF n a13, dropOF n a14⟩) e n
def I15 : EI E15 := ⟨E15.g, E15.s, ⟨none, none, none, none, none, none, none, none, none, none, none, none, none, none, none⟩, E15.l, E15.o, E15.d⟩
theorem I15_ok : EIok I15 15 where
  get := fun i e μ => by
    match i with
    | 0 => exact optF_eq _ _
    | 1 => exact optF_eq _ _
    | 2 => exact optF_eq _ _
    | 3 => exact optF_eq _ _
    | 4 => exact optF_eq _ _
    | 5 => exact optF_eq _ _
    | 6 => exact optF_eq _ _
    | 7 => exact optF_eq _ _
    | 8 => exact optF_eq _ _
    | 9 => exact optF_eq _ _
    | 10 => exact optF_eq _ _
    | 11 => exact optF_eq _ _
    | 12 => exact optF_eq _ _
    | 13 => exact optF_eq _ _
    | 14 => exact optF_eq _ _
    | i + 15 => rfl
  set := fun i e d => by
    match i with
    | 0 => rfl
    | 1 => rfl
    | 2 => rfl
    | 3 => rfl
    | 4 => rfl
    | 5 => rfl
    | 6 => rfl
    | 7 => rfl
    | 8 => rfl
    | 9 => rfl
    | 10 => rfl
    | 11 => rfl
    | 12 => rfl
    | 13 => rfl
    | 14 => rfl
    | i + 15 => rfl
  emp := rfl
  toof := fun e => rfl
  ofto := fun l e h => by
    unfold I15 E15.o at h
    simp only at h
    split at h
    · cases h; rfl
    · cases h
  drop := fun n e => by
    show [dropOF n e.a0, dropOF n e.a1, dropOF n e.a2, dropOF n e.a3, dropOF n e.a4, dropOF n e.a5, dropOF n e.a6, dropOF n e.a7, dropOF n e.a8, dropOF n e.a9, dropOF n e.a10, dropOF n e.a11, dropOF n e.a12, dropOF n e.a13, dropOF n e.a14] = [dropO n e.a0, dropO n e.a1, dropO n e.a2, dropO n e.a3, dropO n e.a4, dropO n e.a5, dropO n e.a6, dropO n e.a7, dropO n e.a8, dropO n e.a9, dropO n e.a10, dropO n e.a11, dropO n e.a12, dropO n e.a13, dropO n e.a14]
    simp only [dropOF_eq]
end
end EV

/-! EV run fast, 8: a law's loops. -/
namespace EV
open PySem
noncomputable section
/-- a law's words, run fast -/
abbrev denA {T : Type} (I : EI T) (di : Nat) (Q : List Fr) (k : Nat) : Sem := (den I (callAX di Q k) 1600).sem I
theorem denA_le {T : Type} {I : EI T} {n0 : Nat} (K : EIok I n0) (di : Nat) {P : List Fn} {Q : List Fr} (H : FrsOk P Q) (k : Nat) {n : Nat} (h : 16100000 ≤ n) : SLe (denA I di Q k) (lev (callA di P k) n) := by
  have h1 : SLe ((den I (callAX di Q k) 1600).sem I) (lev (callAX di Q k) n) := den_le K _ 1600 n (by omega)
  have h2 : SLe (lev (callAX di Q k) n) (lev (callA di P k) n) := lev_le (callAX_le di H k) n 0
  exact h1.trans h2
theorem stepB_le {S S' : Sem} (h : SLe S S') {t : Tg} {body : List St} {m : List (Option D)} {ρ : Env} {x : D} (hb : stepB S t body m ρ x = true) : stepB S' t body m ρ x = true := by
  unfold stepB at hb ⊢
  cases e : bindT ρ t x with
  | none => rw [e] at hb; exact hb
  | some ρ' =>
    rw [e] at hb
    simp only at hb ⊢
    rcases h.s body ρ' [.opq []] with q | q
    · rw [q] at hb; cases hb
    · rw [← q]; exact hb
theorem stepP_le {S S' : Sem} (h : SLe S S') {t : Tg} {body : List St} {m : List (Option D)} {ρ : Env} {x : D} (hb : stepP S t body m ρ x = true) : stepP S' t body m ρ x = true := by
  unfold stepP at hb ⊢
  cases e : bindT ρ t x with
  | none => rw [e] at hb; exact hb
  | some ρ' =>
    rw [e] at hb
    simp only at hb ⊢
    rcases h.s body ρ' [] with q | q
    · rw [q] at hb; cases hb
    · rw [← q]; exact hb
theorem Le.ok {α : Type} {a : α} {μ : Store} {r : R α} (h : Le (.ok a μ) r) : r = .ok a μ := by
  rcases h with h | h
  · cases h
  · exact h.symm
theorem callA_of {di : Nat} {P : List Fn} {Q : List Fr} (H : FrsOk P Q) {k f : Nat} {ds : List D} {μ μ' : Store} {d : D} (h : callAX di Q k f ds μ = .ok d μ') : callA di P k f ds μ = .ok d μ' := Le.ok (h ▸ callAX_le di H k f ds μ)
theorem sOne_of {T : Type} {I : EI T} {n0 : Nat} (K : EIok I n0) {di : Nat} {P : List Fn} {Q : List Fr} (H : FrsOk P Q) {k n : Nat} {st : St} {ρ ρ' : Env} {μ μ' : Store} (hn : 16100000 ≤ n) (h : sOne (denA I di Q k) st ρ μ = .ok (.nx ρ') μ') : sOne (lev (callA di P k) n) st ρ μ = .ok (.nx ρ') μ' := Le.ok (h ▸ sOne_le (denA_le K di H k hn) st ρ μ)
theorem evIt_of {T : Type} {I : EI T} {n0 : Nat} (K : EIok I n0) {di : Nat} {P : List Fn} {Q : List Fr} (H : FrsOk P Q) {k n : Nat} {it : Itx} {ρ : Env} {μ μ' : Store} {s : Src} (hn : 16100000 ≤ n) (h : evIt (denA I di Q k).e ρ μ it = .ok s μ') : evIt (lev (callA di P k) n).e ρ μ it = .ok s μ' := Le.ok (h ▸ evIt_le (denA_le K di H k hn).e ρ μ it)
theorem lev_num' {c : Nat → List D → Store → R D} {rest : List St} {μ : Store} {ρ : Env} {r : R Fl} (h : ∀ n, 16100000 ≤ n → (lev c (n + 60)).s rest ρ μ = r) : (lev c 16777216).s rest ρ μ = r := by
  have e : (16777216 : Nat) = 16777156 + 60 := rfl
  rw [e]
  exact h 16777156 (by omega)
/-- the whole run at once -/
theorem law_fast {T : Type} {I : EI T} {n0 : Nat} (K : EIok I n0) {di : Nat} {P : List Fn} {Q : List Fr} (H : FrsOk P Q) {k : Nat} {F : Fn} {i : Nat} {rest : List St} {ns : List Int} {μ : Store} (h : (thenP [] (((denA I di Q k).s rest (setE (frameE F.ns [.scr ns]) i (.ref 0)) μ).bind fun fl μ => .ok (outD fl) μ)).isTrue = true) : (lawRest (callA di P k) F i rest ns μ).isTrue = true := by
  unfold lawRest
  have q := thenP_le ((((denA_le K di H k (n := 16777216) (by omega)).s rest (setE (frameE F.ns [.scr ns]) i (.ref 0)) μ)).bind (f := fun fl μ => R.ok (outD fl) μ) (f' := fun fl μ => R.ok (outD fl) μ) fun _ _ => Le.rfl) []
  rcases q with q | q
  · rw [q] at h; cases h
  · rw [← q]; exact h
/-- all of a list at once, the whole list for each -/
theorem allB_le {S S' : Sem} (h : SLe S S') {t : Tg} {body : List St} {m : List (Option D)} {ρ : Env} {l : List D} (hb : allB (fun x => stepB S t body m ρ x) l = true) : ∀ x ∈ l, stepB S' t body m ρ x = true := fun x hx => stepB_le h (allB_ok hb x hx)
end
end EV

set_option maxHeartbeats 0
namespace EV
namespace k38
open PySem PySem.Spec PyProof.Rows L2
def top (i : Nat) : Stmt := PySem.Challenge.pw_fiveofeight_k38_reasons_told.main.body.getD i (.Pass ⟨0, 0, 0, 0⟩)
def f0 : Fn := ⟨2, 3, [.ret (.lc [2] (.nm 2) (.rng (.bi .len (.var 0))) (some (.cmp .eq (.idx (.idx (.var 0) (.var 1)) (.var 2)) (.idx (.idx (.var 0) (.var 2)) (.var 1)))) (.var 2))]⟩ -- keepers_in
def f1 : Fn := ⟨1, 2, [.ret (.lc [1] (.nm 1) (.rng (.bi .len (.var 0))) (some (.cmp .eq (.bi .len (.call 0 [.var 0, .var 1] [] [.inl 0, .inl 1])) (.bi .len (.var 0)))) (.var 1))]⟩ -- middle_in
def f2 : Fn := ⟨1, 1, [.ret (.and (.isi (.var 0) .int) (.not (.isi (.var 0) .bool)))]⟩ -- is_integer
def f3 : Fn := ⟨3, 3, [.ret (.and (.call 2 [.var 2] [] [.inl 0]) (.cmp2 .le .le (.var 0) (.var 2) (.var 1)))]⟩ -- is_within
def f4 : Fn := ⟨2, 2, [.ret (.call 3 [.con (.int 0), .bin .sub (.bi .len (.var 0)) (.con (.int 1)), .var 1] [] [.inl 0, .inl 1, .inl 2])]⟩ -- is_thing_of
def f5 : Fn := ⟨2, 3, [.ret (.and (.isi (.var 1) .tuple) (.bi .all (.lc [2] (.nm 2) (.seq (.var 1)) none (.call 4 [.var 0, .var 2] [] [.inl 0, .inl 1]))))]⟩ -- are_things_of
def f6 : Fn := ⟨1, 3, [.ife (.or (.not (.isi (.var 0) .tuple)) (.cmp .eq (.bi .len (.var 0)) (.con (.int 0)))) [.ret (.tup [.con (.str ⟨#[115, 104, 97, 112, 101]⟩), .neg (.con (.int 1))])] [], .for_ (.tp [1, 2]) (.enum (.var 0)) [.ife (.or (.cmp .ne (.bi .len (.ife (.isi (.var 2) .tuple) (.var 2) (.tup []))) (.bi .len (.var 0))) (.not (.call 5 [.var 0, .var 2] [] [.inl 0, .inl 1]))) [.ret (.tup [.con (.str ⟨#[114, 111, 119]⟩), .var 1])] []], .ret (.con (.non))]⟩ -- form_fault
def f7 : Fn := ⟨1, 1, [.ret (.cmp .is (.call 6 [.var 0] [] [.inl 0]) (.con (.non)))]⟩ -- is_formed
def f8 : Fn := ⟨1, 4, [.asg 1 (.trng true none (.bi .len (.var 0))), .ret (.lc [2] (.nm 2) (.seq (.var 1)) (some (.and (.cmp .eq (.idx (.var 0) (.var 2)) (.var 1)) (.bi .all (.lc [3] (.nm 3) (.seq (.var 1)) none (.cmp .eq (.idx (.idx (.var 0) (.var 3)) (.var 2)) (.var 3)))))) (.var 2))]⟩ -- nothings_of
def f9 : Fn := ⟨1, 1, [.ret (.idx (.call 8 [.var 0] [] [.inl 0]) (.con (.int 0)))]⟩ -- nothing_in
def f10 : Fn := ⟨1, 3, [.asg 1 (.call 9 [.var 0] [] [.inl 0]), .ret (.lc [2] (.nm 2) (.seq (.var 0)) none (.meth .index (.var 2) (.var 1)))]⟩ -- undoings_in
def f11 : Fn := ⟨2, 7, [.asg 2 (.new (.lst [.call 9 [.var 0] [] [.inl 0]])), .asg 3 (.con (.int 0)), .while_ (.cmp .lt (.var 3) (.bi .len (.var 2))) [.asg 4 (.idx (.var 2) (.var 3)), .aug 3 .add (.con (.int 1)), .for_ (.nm 5) (.seq (.var 1)) [.asg 6 (.idx (.idx (.var 0) (.var 4)) (.var 5)), .ife (.cmp .nin (.var 6) (.var 2)) [.expr (.meth .append (.var 2) (.var 6))] []]], .ret (.bi .tuple (.op1 .srt (.var 2)))]⟩ -- made_in
def f12 : Fn := ⟨1, 5, [.par [1, 2] [.call 10 [.var 0] [] [.inl 0], .bi .len (.var 0)], .ret (.lc2 [3, 4] [4] (.nm 3) (.rng (.var 2)) (.nm 4) (.rng (.var 2)) none (.idx (.idx (.var 0) (.idx (.idx (.var 0) (.idx (.var 1) (.var 3))) (.idx (.var 1) (.var 4)))) (.idx (.idx (.var 0) (.var 3)) (.var 4))))]⟩ -- rests_of
def f13 : Fn := ⟨1, 1, [.ret (.call 11 [.var 0, .bi .tuple (.sset (.call 12 [.var 0] [] [.inl 0]))] [] [.inl 0, .inl 1])]⟩ -- rests_in
def f14 : Fn := ⟨3, 3, [.ret (.cmp .eq (.idx (.idx (.var 0) (.var 1)) (.var 2)) (.idx (.idx (.var 0) (.var 2)) (.var 1)))]⟩ -- do_exchange
def f15 : Fn := ⟨1, 1, [.ret (.cmp .eq (.bi .len (.var 0)) (.bin .mul (.glo (Str.ofString "TIMES") (.int 6)) (.bi .len (.call 1 [.var 0] [] [.inl 0]))))]⟩ -- is_six_times
def f16 : Fn := ⟨1, 3, [.asg 1 (.bin .fdiv (.bi .len (.var 0)) (.bi .len (.call 1 [.var 0] [] [.inl 0]))), .asg 2 (.con (.int 0)), .while_ (.cmp .gt (.var 1) (.con (.int 1))) [.asg 1 (.bin .fdiv (.var 1) (.con (.int 4))), .asg 2 (.bin .add (.var 2) (.con (.int 1)))], .ret (.var 2)]⟩ -- signs_by
def f17 : Fn := ⟨1, 4, [.ife (.cmp .eq (.bi .len (.call 1 [.var 0] [] [.inl 0])) (.bi .len (.var 0))) [.ret (.tup [.glo (Str.ofString "ALL") (.str ⟨#[97, 108, 108]⟩)])] [], .asg 1 (.call 13 [.var 0] [] [.inl 0]), .ife (.cmp .eq (.bi .len (.var 1)) (.con (.int 2))) [.asg 2 (.call 9 [.var 0] [] [.inl 0]), .ret (.tup [.glo (Str.ofString "SIGNS") (.str ⟨#[115, 105, 103, 110, 115]⟩), .call 16 [.var 0] [] [.inl 0], .idx (.lc [3] (.nm 3) (.seq (.var 1)) (some (.cmp .ne (.var 3) (.var 2))) (.var 3)) (.con (.int 0))])] [], .ret (.ife (.call 15 [.var 0] [] [.inl 0]) (.tup [.glo (Str.ofString "HALF") (.str ⟨#[115, 105, 120]⟩)]) (.tup [.glo (Str.ofString "LESS") (.str ⟨#[108, 101, 115, 115]⟩)]))]⟩ -- reason_in
def f18 : Fn := ⟨2, 4, [.for_ (.nm 2) (.seq (.var 1)) [.for_ (.nm 3) (.seq (.var 1)) [.ife (.not (.call 14 [.var 0, .var 2, .var 3] [] [.inl 0, .inl 1, .inl 2])) [.ret (.tup [.var 2, .var 3])] []]], .ret (.con (.non))]⟩ -- first_apart
def f19 : Fn := ⟨1, 5, [.asg 1 (.trng false none (.bi .len (.var 0))), .asg 2 (.new (.lst [])), .asg 3 (.call 18 [.var 0, .var 1] [] [.inl 0, .inl 1]), .while_ (.cmp .isn (.var 3) (.con (.non))) [.expr (.meth .append (.var 2) (.var 3)), .asg 1 (.lc [4] (.nm 4) (.seq (.var 1)) (some (.and (.call 14 [.var 0, .var 4, .idx (.var 3) (.con (.int 0))] [] [.inl 0, .inl 1, .inl 2]) (.call 14 [.var 0, .var 4, .idx (.var 3) (.con (.int 1))] [] [.inl 0, .inl 1, .inl 2]))) (.var 4)), .asg 3 (.call 18 [.var 0, .var 1] [] [.inl 0, .inl 1])], .ret (.bi .tuple (.var 2))]⟩ -- sign_pairs
def f20 : Fn := ⟨3, 3, [.ife (.not (.var 0)) [.never] []]⟩ -- want
def f21 : Fn := ⟨2, 2, [.expr (.call 20 [.call 7 [.var 0] [] [.inl 0], .var 1] [] [.inl 0, .inl 1, .inr (.int (-1))])]⟩ -- want_table
def f22 : Fn := ⟨1, 1, [.expr (.call 21 [.var 0] [] [.inl 0, .inr (.str ⟨#[116, 97, 98, 108, 101]⟩)]), .ret (.call 17 [.var 0] [] [.inl 0])]⟩ -- half_reason
def f23 : Fn := ⟨1, 1, [.expr (.call 21 [.var 0] [] [.inl 0, .inr (.str ⟨#[116, 97, 98, 108, 101]⟩)]), .ret (.ife (.cmp .eq (.idx (.call 17 [.var 0] [] [.inl 0]) (.con (.int 0))) (.glo (Str.ofString "SIGNS") (.str ⟨#[115, 105, 103, 110, 115]⟩))) (.call 19 [.var 0] [] [.inl 0]) (.con (.non)))]⟩ -- signs_of
def f24 : Fn := ⟨1, 1, [.ret (.dict [.str ⟨#[99, 101, 108, 108, 115]⟩, .str ⟨#[115, 112, 111, 116]⟩, .str ⟨#[108, 101, 102, 116]⟩, .str ⟨#[99, 111, 117, 110, 116]⟩] [.bi .list (.slice (.var 0) none (some (.con (.int 63)))), .con (.int 0), .con (.int 0), .con (.int 0)])]⟩ -- _law_feed
def f25 : Fn := ⟨2, 6, [.setK (.var 0) (.con (.str ⟨#[99, 111, 117, 110, 116]⟩)) (.bin .add (.dget (.var 0) (.con (.str ⟨#[99, 111, 117, 110, 116]⟩))) (.con (.int 1))), .ife (.cmp .gt (.dget (.var 0) (.con (.str ⟨#[108, 101, 102, 116]⟩))) (.con (.int 0))) [.asg 5 (.bin .mod (.bi .int (.dget (.var 0) (.con (.str ⟨#[108, 101, 102, 116]⟩)))) (.var 1)), .setK (.var 0) (.con (.str ⟨#[108, 101, 102, 116]⟩)) (.bin .fdiv (.dget (.var 0) (.con (.str ⟨#[108, 101, 102, 116]⟩))) (.var 1)), .ret (.var 5)] [], .asg 2 (.dget (.var 0) (.con (.str ⟨#[115, 112, 111, 116]⟩))), .setK (.var 0) (.con (.str ⟨#[115, 112, 111, 116]⟩)) (.bin .add (.var 2) (.con (.int 1))), .asg 3 (.ife (.cmp .ne (.dget (.var 0) (.con (.str ⟨#[99, 101, 108, 108, 115]⟩))) (.lst [])) (.idx (.dget (.var 0) (.con (.str ⟨#[99, 101, 108, 108, 115]⟩))) (.bin .mod (.bi .int (.var 2)) (.bi .len (.dget (.var 0) (.con (.str ⟨#[99, 101, 108, 108, 115]⟩)))))) (.con (.int 6714))), .ife (.and (.cmp .ge (.var 3) (.bin .pow (.con (.int 10)) (.con (.int 18)))) (.cmp .lt (.var 2) (.bi .len (.dget (.var 0) (.con (.str ⟨#[99, 101, 108, 108, 115]⟩)))))) [.setK (.var 0) (.con (.str ⟨#[108, 101, 102, 116]⟩)) (.bin .fdiv (.var 3) (.var 1)), .ret (.bin .mod (.bi .int (.var 3)) (.var 1))] [], .asg 4 (.bin .mod (.bi .int (.bin .add (.bin .add (.bin .mod (.bi .int (.var 3)) (.con (.int 1000001443))) (.bin .mul (.con (.int 103827)) (.dget (.var 0) (.con (.str ⟨#[99, 111, 117, 110, 116]⟩))))) (.con (.int 307)))) (.con (.int 2146831651))), .asg 4 (.bin .mod (.bi .int (.bin .add (.bin .add (.bin .mul (.var 4) (.var 4)) (.bin .mul (.con (.int 8900831)) (.dget (.var 0) (.con (.str ⟨#[99, 111, 117, 110, 116]⟩))))) (.con (.int 1241)))) (.con (.int 2146831441))), .ret (.bin .mod (.bi .int (.bin .fdiv (.bin .mod (.bi .int (.bin .add (.bin .mul (.var 4) (.var 4)) (.bin .mul (.con (.int 651)) (.var 4)))) (.con (.int 2146831249))) (.con (.int 16)))) (.var 1))]⟩ -- _law_draw
def f26 : Fn := ⟨2, 2, [.ret (.cmp .eq (.bi .repr (.var 0)) (.bi .repr (.var 1)))]⟩ -- _law_same
def f27 : Fn := ⟨2, 15, [.asg 2 (.lst [.tup []]), .forG (.nm 3) (.seq (.var 0)) [.asg 7 (.new (.lst [])), .for_ (.nm 8) (.seq (.var 2)) [.expr (.meth .extend (.var 7) (.lc [9] (.nm 9) (.rng (.var 3)) none (.bin .add (.var 8) (.tup [.var 9]))))], .asg 2 (.bi .list (.var 7))], .asg 4 (.dnewT), .for_ (.tp [9, 8]) (.enum (.var 2)) [.setK (.var 4) (.var 8) (.var 9)], .asg 5 (.new (.lst [])), .forG (.nm 6) (.seq (.var 2)) [.asg 10 (.new (.lst [])), .forG (.nm 11) (.seq (.var 2)) [.asg 12 (.new (.lc [9] (.nm 9) (.rng (.bi .len (.var 0))) none (.bin .add (.idx (.var 6) (.var 9)) (.idx (.var 11) (.var 9))))), .for_ (.tp [13, 14, 9]) (.seq (.var 1)) [.setIx (.var 12) (.var 13) (.bin .add (.idx (.var 12) (.var 13)) (.bin .mul (.idx (.var 6) (.var 14)) (.idx (.var 11) (.var 9))))], .expr (.meth .append (.var 10) (.dget (.var 4) (.bi .tuple (.lc [9] (.nm 9) (.rng (.bi .len (.var 0))) none (.bin .mod (.bi .int (.idx (.var 12) (.var 9))) (.idx (.var 0) (.var 9)))))))], .expr (.meth .append (.var 5) (.bi .tuple (.var 10)))], .ret (.bi .tuple (.var 5))]⟩ -- _law_knot
def f28 : Fn := ⟨3, 12, [.par [5, 6] [.new (.lst [.con (.int 1)]), .new (.lst [])], .for_ (.nm 3) (.rng (.var 1)) [.expr (.meth .append (.var 5) (.bin .mod (.bi .int (.bin .mul (.idx (.var 5) (.neg (.con (.int 1)))) (.var 2))) (.var 0)))], .forG (.nm 4) (.rng (.var 0)) [.forG (.nm 7) (.rng (.var 1)) [.asg 8 (.new (.lst [])), .for_ (.nm 9) (.rng (.var 0)) [.asg 10 (.bin .mul (.bin .mod (.bi .int (.bin .add (.var 4) (.bin .mul (.idx (.var 5) (.var 7)) (.var 9)))) (.var 0)) (.var 1)), .expr (.meth .extend (.var 8) (.lc [11] (.nm 11) (.rng (.var 1)) none (.bin .add (.var 10) (.bin .mod (.bi .int (.bin .add (.var 7) (.var 11))) (.var 1)))))], .expr (.meth .append (.var 6) (.bi .tuple (.var 8)))]], .ret (.bi .tuple (.var 6))]⟩ -- _law_twist
def f29 : Fn := ⟨2, 14, [.par [5, 6, 7] [.lst [.tup []], .new (.lst []), .new (.lst [])], .forG (.nm 2) (.rng (.var 0)) [.asg 8 (.new (.lst [])), .for_ (.nm 3) (.seq (.var 5)) [.expr (.meth .extend (.var 8) (.lc [10] (.nm 10) (.rng (.var 0)) (some (.cmp .nin (.var 10) (.var 3))) (.bin .add (.var 3) (.tup [.var 10]))))], .asg 5 (.bi .list (.var 8))], .for_ (.nm 3) (.seq (.var 5)) [.asg 9 (.con (.int 0)), .for_ (.nm 10) (.rng (.var 0)) [.asg 9 (.bin .add (.var 9) (.bi .len (.lc [13] (.nm 13) (.rng (.var 10)) (some (.cmp .gt (.idx (.var 3) (.var 13)) (.idx (.var 3) (.var 10)))) (.var 13))))], .ife (.or (.not (.var 1)) (.cmp .eq (.bin .mod (.bi .int (.var 9)) (.con (.int 2))) (.con (.int 0)))) [.expr (.meth .append (.var 6) (.var 3))] []], .forG (.nm 4) (.seq (.var 6)) [.asg 11 (.new (.lst [])), .for_ (.nm 12) (.seq (.var 6)) [.expr (.meth .append (.var 11) (.meth .index (.var 6) (.bi .tuple (.lc [10] (.nm 10) (.seq (.var 4)) none (.idx (.var 12) (.var 10))))))], .expr (.meth .append (.var 7) (.bi .tuple (.var 11)))], .ret (.bi .tuple (.var 7))]⟩ -- _law_orders
def f30 : Fn := ⟨2, 9, [.par [3, 4] [.bi .len (.var 1), .new (.lst [])], .forG (.nm 2) (.rng (.bi .len (.var 0))) [.forG (.nm 5) (.rng (.var 3)) [.asg 6 (.new (.lst [])), .for_ (.nm 7) (.rng (.bi .len (.var 0))) [.expr (.meth .extend (.var 6) (.lc [8] (.nm 8) (.rng (.var 3)) none (.bin .add (.bin .mul (.idx (.idx (.var 0) (.var 2)) (.var 7)) (.var 3)) (.idx (.idx (.var 1) (.var 5)) (.var 8)))))], .expr (.meth .append (.var 4) (.bi .tuple (.var 6)))]], .ret (.bi .tuple (.var 4))]⟩ -- _law_times
def f31 : Fn := ⟨1, 2, [.ife (.cmp .eq (.idx (.var 0) (.con (.int 0))) (.con (.str ⟨#[114]⟩))) [.ret (.call 27 [.tup [.bi .int (.slice (.var 0) (some (.con (.int 1))) none)], .lst []] [] [.inl 0, .inl 1])] [], .ife (.cmp .eq (.idx (.var 0) (.con (.int 0))) (.con (.str ⟨#[119]⟩))) [.asg 1 (.op2 .split (.slice (.var 0) (some (.con (.int 1))) none) (.con (.str ⟨#[46]⟩))), .ret (.call 28 [.bi .int (.idx (.var 1) (.con (.int 0))), .bi .int (.idx (.var 1) (.con (.int 1))), .bi .int (.idx (.var 1) (.con (.int 2)))] [] [.inl 0, .inl 1, .inl 2])] [], .ife (.or (.cmp .eq (.var 0) (.con (.str ⟨#[97, 52]⟩))) (.cmp .eq (.idx (.var 0) (.con (.int 0))) (.con (.str ⟨#[111]⟩)))) [.ret (.call 29 [.bi .int (.slice (.var 0) (some (.con (.int 1))) none), .cmp .eq (.var 0) (.con (.str ⟨#[97, 52]⟩))] [] [.inl 0, .inl 1])] [], .ife (.cmp .eq (.var 0) (.con (.str ⟨#[118, 52]⟩))) [.ret (.call 27 [.tup [.con (.int 2), .con (.int 2)], .lst []] [] [.inl 0, .inl 1])] [], .ife (.cmp .eq (.var 0) (.con (.str ⟨#[100, 52]⟩))) [.ret (.call 27 [.tup [.con (.int 2), .con (.int 2), .con (.int 2)], .lst [.tup [.con (.int 2), .con (.int 0), .con (.int 1)]]] [] [.inl 0, .inl 1])] [], .ife (.cmp .eq (.var 0) (.con (.str ⟨#[113, 56]⟩))) [.ret (.call 27 [.tup [.con (.int 2), .con (.int 2), .con (.int 2)], .lst [.tup [.con (.int 2), .con (.int 0), .con (.int 1)], .tup [.con (.int 2), .con (.int 0), .con (.int 0)], .tup [.con (.int 2), .con (.int 1), .con (.int 1)]]] [] [.inl 0, .inl 1])] [], .ife (.cmp .eq (.var 0) (.con (.str ⟨#[107, 50, 55]⟩))) [.ret (.call 27 [.tup [.con (.int 3), .con (.int 3), .con (.int 3)], .lst [.tup [.con (.int 2), .con (.int 0), .con (.int 1)]]] [] [.inl 0, .inl 1])] [], .ife (.cmp .eq (.var 0) (.con (.str ⟨#[115, 50]⟩))) [.ret (.call 27 [.tup [.con (.int 2), .con (.int 2), .con (.int 2), .con (.int 2), .con (.int 2)], .lst [.tup [.con (.int 4), .con (.int 0), .con (.int 1)], .tup [.con (.int 4), .con (.int 2), .con (.int 3)]]] [] [.inl 0, .inl 1])] [], .ret (.call 27 [.tup [.con (.int 2), .con (.int 2), .con (.int 2), .con (.int 2), .con (.int 2)], .lst [.tup [.con (.int 3), .con (.int 0), .con (.int 1)], .tup [.con (.int 4), .con (.int 0), .con (.int 2)]]] [] [.inl 0, .inl 1])]⟩ -- _law_piece
def f32 : Fn := ⟨1, 3, [.asg 1 (.call 27 [.tup [.con (.int 1)], .lst []] [] [.inl 0, .inl 1]), .for_ (.nm 2) (.seq (.op2 .split (.var 0) (.con (.str ⟨#[32]⟩)))) [.asg 1 (.call 30 [.var 1, .call 31 [.var 2] [] [.inl 0]] [] [.inl 0, .inl 1])], .ret (.var 1)]⟩ -- _law_built
def f33 : Fn := ⟨1, 2, [.ret (.idx (.lc [1] (.nm 1) (.rng (.bi .len (.var 0))) (some (.cmp .eq (.idx (.var 0) (.var 1)) (.trng true none (.bi .len (.var 0))))) (.var 1)) (.con (.int 0)))]⟩ -- _law_one
def f34 : Fn := ⟨1, 3, [.asg 1 (.call 33 [.var 0] [] [.inl 0]), .ret (.lc [2] (.nm 2) (.seq (.var 0)) none (.meth .index (.var 2) (.var 1)))]⟩ -- _law_backs
def f35 : Fn := ⟨4, 5, [.asg 4 (.idx (.idx (.var 0) (.idx (.var 1) (.var 2))) (.idx (.var 1) (.var 3))), .ret (.idx (.idx (.var 0) (.idx (.idx (.var 0) (.var 4)) (.var 2))) (.var 3))]⟩ -- _law_rest
def f36 : Fn := ⟨4, 9, [.ife (.or (.not (.isi (.var 1) .tuple)) (.cmp .ne (.bi .len (.var 1)) (.var 3))) [.ret (.con (.bl false))] [], .asg 4 (.call 34 [.var 0] [] [.inl 0]), .for_ (.tp [5, 6]) (.enum (.var 1)) [.ife (.or (.not (.isi (.var 6) .tuple)) (.cmp .ne (.bi .len (.var 6)) (.con (.int 2)))) [.ret (.con (.bl false))] [], .ife (.cmp .ne (.lc [8] (.nm 8) (.seq (.var 6)) (some (.or (.not (.isi (.var 8) .int)) (.or (.isi (.var 8) .bool) (.not (.cmp2 .le .lt (.con (.int 0)) (.var 8) (.bi .len (.var 0))))))) (.var 8)) (.lst [])) [.ret (.con (.bl false))] [], .ife (.cmp .ne (.call 35 [.var 0, .var 4, .idx (.var 6) (.con (.int 0)), .idx (.var 6) (.con (.int 1))] [] [.inl 0, .inl 1, .inl 2, .inl 3]) (.var 2)) [.ret (.con (.bl false))] [], .for_ (.nm 7) (.seq (.slice (.var 1) none (some (.var 5)))) [.ife (.cmp .ne (.lc [8] (.nm 8) (.seq (.var 7)) (some (.or (.cmp .ne (.idx (.idx (.var 0) (.var 8)) (.idx (.var 6) (.con (.int 0)))) (.idx (.idx (.var 0) (.idx (.var 6) (.con (.int 0)))) (.var 8))) (.cmp .ne (.idx (.idx (.var 0) (.var 8)) (.idx (.var 6) (.con (.int 1)))) (.idx (.idx (.var 0) (.idx (.var 6) (.con (.int 1)))) (.var 8))))) (.var 8)) (.lst [])) [.ret (.con (.bl false))] []]], .ret (.con (.bl true))]⟩ -- _law_are_signs
def f37 : Fn := ⟨0, 1, [.asg 0 (.lst [.tup [.con (.str ⟨#[118, 52]⟩), .tup [.con (.str ⟨#[97, 108, 108]⟩)]], .tup [.con (.str ⟨#[114, 49]⟩), .tup [.con (.str ⟨#[97, 108, 108]⟩)]], .tup [.con (.str ⟨#[114, 49, 50]⟩), .tup [.con (.str ⟨#[97, 108, 108]⟩)]], .tup [.con (.str ⟨#[114, 50, 32, 114, 52]⟩), .tup [.con (.str ⟨#[97, 108, 108]⟩)]], .tup [.con (.str ⟨#[113, 56]⟩), .tup [.con (.str ⟨#[115, 105, 103, 110, 115]⟩), .con (.int 1), .con (.int 1)]], .tup [.con (.str ⟨#[100, 52]⟩), .tup [.con (.str ⟨#[115, 105, 103, 110, 115]⟩), .con (.int 1), .con (.int 1)]]]), .asg 0 (.bin .add (.var 0) (.lst [.tup [.con (.str ⟨#[119, 52, 46, 50, 46, 51]⟩), .tup [.con (.str ⟨#[115, 105, 103, 110, 115]⟩), .con (.int 1), .con (.int 4)]], .tup [.con (.str ⟨#[115, 50]⟩), .tup [.con (.str ⟨#[115, 105, 103, 110, 115]⟩), .con (.int 2), .con (.int 1)]], .tup [.con (.str ⟨#[113, 56, 32, 114, 50]⟩), .tup [.con (.str ⟨#[115, 105, 103, 110, 115]⟩), .con (.int 1), .con (.int 2)]], .tup [.con (.str ⟨#[100, 52, 32, 118, 52]⟩), .tup [.con (.str ⟨#[115, 105, 103, 110, 115]⟩), .con (.int 1), .con (.int 4)]]])), .asg 0 (.bin .add (.var 0) (.lst [.tup [.con (.str ⟨#[119, 52, 46, 52, 46, 51]⟩), .tup [.con (.str ⟨#[115, 105, 103, 110, 115]⟩), .con (.int 1), .con (.int 8)]], .tup [.con (.str ⟨#[119, 56, 46, 50, 46, 53]⟩), .tup [.con (.str ⟨#[115, 105, 103, 110, 115]⟩), .con (.int 1), .con (.int 8)]], .tup [.con (.str ⟨#[113, 56, 32, 114, 52]⟩), .tup [.con (.str ⟨#[115, 105, 103, 110, 115]⟩), .con (.int 1), .con (.int 4)]], .tup [.con (.str ⟨#[114, 51, 32, 113, 56]⟩), .tup [.con (.str ⟨#[115, 105, 103, 110, 115]⟩), .con (.int 1), .con (.int 1)]]])), .asg 0 (.bin .add (.var 0) (.lst [.tup [.con (.str ⟨#[119, 51, 46, 50, 46, 50]⟩), .tup [.con (.str ⟨#[115, 105, 120]⟩)]], .tup [.con (.str ⟨#[119, 54, 46, 50, 46, 53]⟩), .tup [.con (.str ⟨#[115, 105, 120]⟩)]], .tup [.con (.str ⟨#[119, 51, 46, 52, 46, 50]⟩), .tup [.con (.str ⟨#[115, 105, 120]⟩)]], .tup [.con (.str ⟨#[119, 51, 46, 50, 46, 50, 32, 118, 52]⟩), .tup [.con (.str ⟨#[115, 105, 120]⟩)]], .tup [.con (.str ⟨#[119, 51, 46, 56, 46, 50]⟩), .tup [.con (.str ⟨#[115, 105, 120]⟩)]]])), .asg 0 (.bin .add (.var 0) (.lst [.tup [.con (.str ⟨#[97, 52]⟩), .tup [.con (.str ⟨#[108, 101, 115, 115]⟩)]], .tup [.con (.str ⟨#[111, 52]⟩), .tup [.con (.str ⟨#[108, 101, 115, 115]⟩)]], .tup [.con (.str ⟨#[119, 53, 46, 50, 46, 52]⟩), .tup [.con (.str ⟨#[108, 101, 115, 115]⟩)]], .tup [.con (.str ⟨#[119, 53, 46, 52, 46, 50]⟩), .tup [.con (.str ⟨#[108, 101, 115, 115]⟩)]], .tup [.con (.str ⟨#[119, 55, 46, 51, 46, 50]⟩), .tup [.con (.str ⟨#[108, 101, 115, 115]⟩)]]])), .ret (.bin .add (.var 0) (.lst [.tup [.con (.str ⟨#[107, 50, 55]⟩), .tup [.con (.str ⟨#[108, 101, 115, 115]⟩)]], .tup [.con (.str ⟨#[102, 52]⟩), .tup [.con (.str ⟨#[108, 101, 115, 115]⟩)]], .tup [.con (.str ⟨#[119, 49, 54, 46, 50, 46, 49, 53]⟩), .tup [.con (.str ⟨#[108, 101, 115, 115]⟩)]], .tup [.con (.str ⟨#[119, 56, 46, 50, 46, 51]⟩), .tup [.con (.str ⟨#[108, 101, 115, 115]⟩)]]]))]⟩ -- _law_reasons_told
def f38 : Fn := ⟨1, 9, [.asg 1 (.call 24 [.var 0] [] [.inl 0]), .asg 2 (.call 37 [] [] []), .asg 3 (.call 25 [.var 1, .bi .len (.var 2)] [] [.inl 0, .inl 1]), .forG (.tp [4, 5]) (.seq (.bin .add (.slice (.var 2) (some (.var 3)) none) (.slice (.var 2) none (some (.var 3))))) [.asg 6 (.call 32 [.var 4] [] [.inl 0]), .asg 7 (.bi .repr (.var 6)), .ife (.not (.call 26 [.lst [.call 22 [.var 6] [] [.inl 0], .call 22 [] [((Str.ofString "table"), .var 6)] [.inl 0]], .lst [.var 5, .var 5]] [] [.inl 0, .inl 1])) [.ret (.con (.bl false))] [], .for_ (.nm 8) (.seq (.lst [.call 23 [.var 6] [] [.inl 0], .call 23 [] [((Str.ofString "table"), .var 6)] [.inl 0]])) [.ife (.and (.cmp .ne (.idx (.var 5) (.con (.int 0))) (.con (.str ⟨#[115, 105, 103, 110, 115]⟩))) (.cmp .isn (.var 8) (.con (.non)))) [.ret (.con (.bl false))] [], .ife (.and (.cmp .eq (.idx (.var 5) (.con (.int 0))) (.con (.str ⟨#[115, 105, 103, 110, 115]⟩))) (.not (.call 36 [.var 6, .var 8, .idx (.var 5) (.con (.int 2)), .idx (.var 5) (.con (.int 1))] [] [.inl 0, .inl 1, .inl 2, .inl 3]))) [.ret (.con (.bl false))] []], .ife (.cmp .ne (.bi .repr (.var 6)) (.var 7)) [.ret (.con (.bl false))] []], .ret (.con (.bl true))]⟩ -- law
def P : List Fn := [f0, f1, f2, f3, f4, f5, f6, f7, f8, f9, f10, f11, f12, f13, f14, f15, f16, f17, f18, f19, f20, f21, f22, f23, f24, f25, f26, f27, f28, f29, f30, f31, f32, f33, f34, f35, f36, f37, f38]
def nm : Nm := ⟨[(Str.ofString "keepers_in"), (Str.ofString "middle_in"), (Str.ofString "is_integer"), (Str.ofString "is_within"), (Str.ofString "is_thing_of"), (Str.ofString "are_things_of"), (Str.ofString "form_fault"), (Str.ofString "is_formed"), (Str.ofString "nothings_of"), (Str.ofString "nothing_in"), (Str.ofString "undoings_in"), (Str.ofString "made_in"), (Str.ofString "rests_of"), (Str.ofString "rests_in"), (Str.ofString "do_exchange"), (Str.ofString "is_six_times"), (Str.ofString "signs_by"), (Str.ofString "reason_in"), (Str.ofString "first_apart"), (Str.ofString "sign_pairs"), (Str.ofString "want"), (Str.ofString "want_table"), (Str.ofString "half_reason"), (Str.ofString "signs_of"), (Str.ofString "_law_feed"), (Str.ofString "_law_draw"), (Str.ofString "_law_same"), (Str.ofString "_law_knot"), (Str.ofString "_law_twist"), (Str.ofString "_law_orders"), (Str.ofString "_law_times"), (Str.ofString "_law_piece"), (Str.ofString "_law_built"), (Str.ofString "_law_one"), (Str.ofString "_law_backs"), (Str.ofString "_law_rest"), (Str.ofString "_law_are_signs"), (Str.ofString "_law_reasons_told"), (Str.ofString "law")],
  [(Str.ofString "all"), (Str.ofString "bool"), (Str.ofString "enumerate"), (Str.ofString "int"), (Str.ofString "isinstance"), (Str.ofString "len"), (Str.ofString "list"), (Str.ofString "range"), (Str.ofString "repr"), (Str.ofString "set"), (Str.ofString "sorted"), (Str.ofString "tuple")],
  [((Str.ofString "ALL"), .str ⟨#[97, 108, 108]⟩), ((Str.ofString "HALF"), .str ⟨#[115, 105, 120]⟩), ((Str.ofString "LESS"), .str ⟨#[108, 101, 115, 115]⟩), ((Str.ofString "SIGNS"), .str ⟨#[115, 105, 103, 110, 115]⟩), ((Str.ofString "TIMES"), .int 6)],
  [((0, 2, [], [.inl 0, .inl 1]) : Nat × Nat × List Str × List (Nat ⊕ D)), ((2, 1, [], [.inl 0]) : Nat × Nat × List Str × List (Nat ⊕ D)), ((3, 3, [], [.inl 0, .inl 1, .inl 2]) : Nat × Nat × List Str × List (Nat ⊕ D)), ((4, 2, [], [.inl 0, .inl 1]) : Nat × Nat × List Str × List (Nat ⊕ D)), ((5, 2, [], [.inl 0, .inl 1]) : Nat × Nat × List Str × List (Nat ⊕ D)), ((6, 1, [], [.inl 0]) : Nat × Nat × List Str × List (Nat ⊕ D)), ((8, 1, [], [.inl 0]) : Nat × Nat × List Str × List (Nat ⊕ D)), ((9, 1, [], [.inl 0]) : Nat × Nat × List Str × List (Nat ⊕ D)), ((10, 1, [], [.inl 0]) : Nat × Nat × List Str × List (Nat ⊕ D)), ((11, 2, [], [.inl 0, .inl 1]) : Nat × Nat × List Str × List (Nat ⊕ D)), ((12, 1, [], [.inl 0]) : Nat × Nat × List Str × List (Nat ⊕ D)), ((1, 1, [], [.inl 0]) : Nat × Nat × List Str × List (Nat ⊕ D)), ((13, 1, [], [.inl 0]) : Nat × Nat × List Str × List (Nat ⊕ D)), ((16, 1, [], [.inl 0]) : Nat × Nat × List Str × List (Nat ⊕ D)), ((15, 1, [], [.inl 0]) : Nat × Nat × List Str × List (Nat ⊕ D)), ((14, 3, [], [.inl 0, .inl 1, .inl 2]) : Nat × Nat × List Str × List (Nat ⊕ D)), ((18, 2, [], [.inl 0, .inl 1]) : Nat × Nat × List Str × List (Nat ⊕ D)), ((20, 2, [], [.inl 0, .inl 1, .inr (.int (-1))]) : Nat × Nat × List Str × List (Nat ⊕ D)), ((7, 1, [], [.inl 0]) : Nat × Nat × List Str × List (Nat ⊕ D)), ((21, 1, [], [.inl 0, .inr (.str ⟨#[116, 97, 98, 108, 101]⟩)]) : Nat × Nat × List Str × List (Nat ⊕ D)), ((17, 1, [], [.inl 0]) : Nat × Nat × List Str × List (Nat ⊕ D)), ((19, 1, [], [.inl 0]) : Nat × Nat × List Str × List (Nat ⊕ D)), ((27, 2, [], [.inl 0, .inl 1]) : Nat × Nat × List Str × List (Nat ⊕ D)), ((28, 3, [], [.inl 0, .inl 1, .inl 2]) : Nat × Nat × List Str × List (Nat ⊕ D)), ((29, 2, [], [.inl 0, .inl 1]) : Nat × Nat × List Str × List (Nat ⊕ D)), ((30, 2, [], [.inl 0, .inl 1]) : Nat × Nat × List Str × List (Nat ⊕ D)), ((31, 1, [], [.inl 0]) : Nat × Nat × List Str × List (Nat ⊕ D)), ((33, 1, [], [.inl 0]) : Nat × Nat × List Str × List (Nat ⊕ D)), ((34, 1, [], [.inl 0]) : Nat × Nat × List Str × List (Nat ⊕ D)), ((35, 4, [], [.inl 0, .inl 1, .inl 2, .inl 3]) : Nat × Nat × List Str × List (Nat ⊕ D)), ((24, 1, [], [.inl 0]) : Nat × Nat × List Str × List (Nat ⊕ D)), ((37, 0, [], []) : Nat × Nat × List Str × List (Nat ⊕ D)), ((25, 2, [], [.inl 0, .inl 1]) : Nat × Nat × List Str × List (Nat ⊕ D)), ((32, 1, [], [.inl 0]) : Nat × Nat × List Str × List (Nat ⊕ D)), ((26, 2, [], [.inl 0, .inl 1]) : Nat × Nat × List Str × List (Nat ⊕ D)), ((22, 1, [], [.inl 0]) : Nat × Nat × List Str × List (Nat ⊕ D)), ((22, 0, [(Str.ofString "table")], [.inl 0]) : Nat × Nat × List Str × List (Nat ⊕ D)), ((23, 1, [], [.inl 0]) : Nat × Nat × List Str × List (Nat ⊕ D)), ((23, 0, [(Str.ofString "table")], [.inl 0]) : Nat × Nat × List Str × List (Nat ⊕ D)), ((36, 4, [], [.inl 0, .inl 1, .inl 2, .inl 3]) : Nat × Nat × List Str × List (Nat ⊕ D))]⟩
def t0 : TD := ⟨⟨("keepers_in", none), "keepers_in", "keepers_in", defArgs (top 1), defBody (top 1), defScope (top 1), [], []⟩, [(Str.ofString "table"), (Str.ofString "a"), (Str.ofString "b")], [(Str.ofString "table"), (Str.ofString "a")], f0⟩
def t1 : TD := ⟨⟨("middle_in", none), "middle_in", "middle_in", defArgs (top 2), defBody (top 2), defScope (top 2), [], []⟩, [(Str.ofString "table"), (Str.ofString "a")], [(Str.ofString "table")], f1⟩
def t2 : TD := ⟨⟨("is_integer", none), "is_integer", "is_integer", defArgs (top 8), defBody (top 8), defScope (top 8), [], []⟩, [(Str.ofString "thing")], [(Str.ofString "thing")], f2⟩
def t3 : TD := ⟨⟨("is_within", none), "is_within", "is_within", defArgs (top 9), defBody (top 9), defScope (top 9), [], []⟩, [(Str.ofString "least"), (Str.ofString "most"), (Str.ofString "thing")], [(Str.ofString "least"), (Str.ofString "most"), (Str.ofString "thing")], f3⟩
def t4 : TD := ⟨⟨("is_thing_of", none), "is_thing_of", "is_thing_of", defArgs (top 10), defBody (top 10), defScope (top 10), [], []⟩, [(Str.ofString "table"), (Str.ofString "thing")], [(Str.ofString "table"), (Str.ofString "thing")], f4⟩
def t5 : TD := ⟨⟨("are_things_of", none), "are_things_of", "are_things_of", defArgs (top 11), defBody (top 11), defScope (top 11), [], []⟩, [(Str.ofString "table"), (Str.ofString "thing"), (Str.ofString "one")], [(Str.ofString "table"), (Str.ofString "thing")], f5⟩
def t6 : TD := ⟨⟨("form_fault", none), "form_fault", "form_fault", defArgs (top 12), defBody (top 12), defScope (top 12), [], []⟩, [(Str.ofString "thing"), (Str.ofString "a"), (Str.ofString "line")], [(Str.ofString "thing")], f6⟩
def t7 : TD := ⟨⟨("is_formed", none), "is_formed", "is_formed", defArgs (top 13), defBody (top 13), defScope (top 13), [], []⟩, [(Str.ofString "thing")], [(Str.ofString "thing")], f7⟩
def t8 : TD := ⟨⟨("nothings_of", none), "nothings_of", "nothings_of", defArgs (top 14), defBody (top 14), defScope (top 14), [], []⟩, [(Str.ofString "table"), (Str.ofString "all_in"), (Str.ofString "e"), (Str.ofString "a")], [(Str.ofString "table")], f8⟩
def t9 : TD := ⟨⟨("nothing_in", none), "nothing_in", "nothing_in", defArgs (top 16), defBody (top 16), defScope (top 16), [], []⟩, [(Str.ofString "table")], [(Str.ofString "table")], f9⟩
def t10 : TD := ⟨⟨("undoings_in", none), "undoings_in", "undoings_in", defArgs (top 17), defBody (top 17), defScope (top 17), [], []⟩, [(Str.ofString "table"), (Str.ofString "nothing"), (Str.ofString "line")], [(Str.ofString "table")], f10⟩
def t11 : TD := ⟨⟨("made_in", none), "made_in", "made_in", defArgs (top 19), defBody (top 19), defScope (top 19), [], []⟩, [(Str.ofString "table"), (Str.ofString "things"), (Str.ofString "held"), (Str.ofString "spot"), (Str.ofString "here"), (Str.ofString "thing"), (Str.ofString "late")], [(Str.ofString "table"), (Str.ofString "things")], f11⟩
def t12 : TD := ⟨⟨("rests_of", none), "rests_of", "rests_of", defArgs (top 21), defBody (top 21), defScope (top 21), [], []⟩, [(Str.ofString "table"), (Str.ofString "backs"), (Str.ofString "size"), (Str.ofString "a"), (Str.ofString "b")], [(Str.ofString "table")], f12⟩
def t13 : TD := ⟨⟨("rests_in", none), "rests_in", "rests_in", defArgs (top 22), defBody (top 22), defScope (top 22), [], []⟩, [(Str.ofString "table")], [(Str.ofString "table")], f13⟩
def t14 : TD := ⟨⟨("do_exchange", none), "do_exchange", "do_exchange", defArgs (top 29), defBody (top 29), defScope (top 29), [], []⟩, [(Str.ofString "table"), (Str.ofString "a"), (Str.ofString "b")], [(Str.ofString "table"), (Str.ofString "a"), (Str.ofString "b")], f14⟩
def t15 : TD := ⟨⟨("is_six_times", none), "is_six_times", "is_six_times", defArgs (top 30), defBody (top 30), defScope (top 30), [], []⟩, [(Str.ofString "table")], [(Str.ofString "table")], f15⟩
def t16 : TD := ⟨⟨("signs_by", none), "signs_by", "signs_by", defArgs (top 31), defBody (top 31), defScope (top 31), [], []⟩, [(Str.ofString "table"), (Str.ofString "size"), (Str.ofString "found")], [(Str.ofString "table")], f16⟩
def t17 : TD := ⟨⟨("reason_in", none), "reason_in", "reason_in", defArgs (top 32), defBody (top 32), defScope (top 32), [], []⟩, [(Str.ofString "table"), (Str.ofString "rests"), (Str.ofString "nothing"), (Str.ofString "thing")], [(Str.ofString "table")], f17⟩
def t18 : TD := ⟨⟨("first_apart", none), "first_apart", "first_apart", defArgs (top 33), defBody (top 33), defScope (top 33), [], []⟩, [(Str.ofString "table"), (Str.ofString "things"), (Str.ofString "a"), (Str.ofString "b")], [(Str.ofString "table"), (Str.ofString "things")], f18⟩
def t19 : TD := ⟨⟨("sign_pairs", none), "sign_pairs", "sign_pairs", defArgs (top 34), defBody (top 34), defScope (top 34), [], []⟩, [(Str.ofString "table"), (Str.ofString "some"), (Str.ofString "found"), (Str.ofString "pair"), (Str.ofString "x")], [(Str.ofString "table")], f19⟩
def t20 : TD := ⟨⟨("want", none), "want", "want", defArgs (top 36), defBody (top 36), defScope (top 36), [.int (-1)], []⟩, [(Str.ofString "is_fit"), (Str.ofString "name"), (Str.ofString "at")], [(Str.ofString "is_fit"), (Str.ofString "name"), (Str.ofString "at")], f20⟩
def t21 : TD := ⟨⟨("want_table", none), "want_table", "want_table", defArgs (top 37), defBody (top 37), defScope (top 37), [.str ⟨#[116, 97, 98, 108, 101]⟩], []⟩, [(Str.ofString "table"), (Str.ofString "name")], [(Str.ofString "table"), (Str.ofString "name")], f21⟩
def t22 : TD := ⟨⟨("half_reason", none), "half_reason", "half_reason", defArgs (top 39), defBody (top 39), defScope (top 39), [], []⟩, [(Str.ofString "table")], [(Str.ofString "table")], f22⟩
def t23 : TD := ⟨⟨("signs_of", none), "signs_of", "signs_of", defArgs (top 40), defBody (top 40), defScope (top 40), [], []⟩, [(Str.ofString "table")], [(Str.ofString "table")], f23⟩
def t24 : TD := ⟨⟨("_law_feed", none), "_law_feed", "_law_feed", defArgs (top 42), defBody (top 42), defScope (top 42), [], []⟩, [(Str.ofString "_law_script")], [(Str.ofString "_law_script")], f24⟩
def t25 : TD := ⟨⟨("_law_draw", none), "_law_draw", "_law_draw", defArgs (top 43), defBody (top 43), defScope (top 43), [], []⟩, [(Str.ofString "_law_feed_here"), (Str.ofString "_law_top"), (Str.ofString "_law_spot"), (Str.ofString "_law_cell"), (Str.ofString "_law_mixed"), (Str.ofString "_law_figure")], [(Str.ofString "_law_feed_here"), (Str.ofString "_law_top")], f25⟩
def t26 : TD := ⟨⟨("_law_same", none), "_law_same", "_law_same", defArgs (top 44), defBody (top 44), defScope (top 44), [], []⟩, [(Str.ofString "_law_told"), (Str.ofString "_law_due")], [(Str.ofString "_law_told"), (Str.ofString "_law_due")], f26⟩
def t27 : TD := ⟨⟨("_law_knot", none), "_law_knot", "_law_knot", defArgs (top 45), defBody (top 45), defScope (top 45), [], []⟩, [(Str.ofString "_law_sizes"), (Str.ofString "_law_terms"), (Str.ofString "_law_items"), (Str.ofString "_law_size"), (Str.ofString "_law_spots"), (Str.ofString "_law_grid"), (Str.ofString "_law_one_here"), (Str.ofString "_law_late"), (Str.ofString "_law_item"), (Str.ofString "_law_k"), (Str.ofString "_law_line"), (Str.ofString "_law_far"), (Str.ofString "_law_sums"), (Str.ofString "_law_goal"), (Str.ofString "_law_j")], [(Str.ofString "_law_sizes"), (Str.ofString "_law_terms")], f27⟩
def t28 : TD := ⟨⟨("_law_twist", none), "_law_twist", "_law_twist", defArgs (top 46), defBody (top 46), defScope (top 46), [], []⟩, [(Str.ofString "_law_n"), (Str.ofString "_law_m"), (Str.ofString "_law_r"), (Str.ofString "_law_lap"), (Str.ofString "_law_i"), (Str.ofString "_law_powers"), (Str.ofString "_law_grid"), (Str.ofString "_law_j"), (Str.ofString "_law_line"), (Str.ofString "_law_k"), (Str.ofString "_law_first"), (Str.ofString "_law_h")], [(Str.ofString "_law_n"), (Str.ofString "_law_m"), (Str.ofString "_law_r")], f28⟩
def t29 : TD := ⟨⟨("_law_orders", none), "_law_orders", "_law_orders", defArgs (top 47), defBody (top 47), defScope (top 47), [], []⟩, [(Str.ofString "_law_n"), (Str.ofString "_law_is_lean"), (Str.ofString "_law_lap"), (Str.ofString "_law_item"), (Str.ofString "_law_one_here"), (Str.ofString "_law_items"), (Str.ofString "_law_some"), (Str.ofString "_law_grid"), (Str.ofString "_law_late"), (Str.ofString "_law_swaps"), (Str.ofString "_law_k"), (Str.ofString "_law_line"), (Str.ofString "_law_far"), (Str.ofString "_law_j")], [(Str.ofString "_law_n"), (Str.ofString "_law_is_lean")], f29⟩
def t30 : TD := ⟨⟨("_law_times", none), "_law_times", "_law_times", defArgs (top 48), defBody (top 48), defScope (top 48), [], []⟩, [(Str.ofString "_law_one_here"), (Str.ofString "_law_far"), (Str.ofString "_law_j"), (Str.ofString "_law_size"), (Str.ofString "_law_grid"), (Str.ofString "_law_k"), (Str.ofString "_law_line"), (Str.ofString "_law_i"), (Str.ofString "_law_h")], [(Str.ofString "_law_one_here"), (Str.ofString "_law_far")], f30⟩
def t31 : TD := ⟨⟨("_law_piece", none), "_law_piece", "_law_piece", defArgs (top 49), defBody (top 49), defScope (top 49), [], []⟩, [(Str.ofString "_law_code"), (Str.ofString "_law_words_in")], [(Str.ofString "_law_code")], f31⟩
def t32 : TD := ⟨⟨("_law_built", none), "_law_built", "_law_built", defArgs (top 50), defBody (top 50), defScope (top 50), [], []⟩, [(Str.ofString "_law_words"), (Str.ofString "_law_found"), (Str.ofString "_law_code")], [(Str.ofString "_law_words")], f32⟩
def t33 : TD := ⟨⟨("_law_one", none), "_law_one", "_law_one", defArgs (top 51), defBody (top 51), defScope (top 51), [], []⟩, [(Str.ofString "_law_grid"), (Str.ofString "_law_k")], [(Str.ofString "_law_grid")], f33⟩
def t34 : TD := ⟨⟨("_law_backs", none), "_law_backs", "_law_backs", defArgs (top 52), defBody (top 52), defScope (top 52), [], []⟩, [(Str.ofString "_law_grid"), (Str.ofString "_law_one_here"), (Str.ofString "_law_line")], [(Str.ofString "_law_grid")], f34⟩
def t35 : TD := ⟨⟨("_law_rest", none), "_law_rest", "_law_rest", defArgs (top 53), defBody (top 53), defScope (top 53), [], []⟩, [(Str.ofString "_law_grid"), (Str.ofString "_law_backs_here"), (Str.ofString "_law_j"), (Str.ofString "_law_k"), (Str.ofString "_law_late")], [(Str.ofString "_law_grid"), (Str.ofString "_law_backs_here"), (Str.ofString "_law_j"), (Str.ofString "_law_k")], f35⟩
def t36 : TD := ⟨⟨("_law_are_signs", none), "_law_are_signs", "_law_are_signs", defArgs (top 54), defBody (top 54), defScope (top 54), [], []⟩, [(Str.ofString "_law_grid"), (Str.ofString "_law_pairs"), (Str.ofString "_law_d"), (Str.ofString "_law_many"), (Str.ofString "_law_backs_here"), (Str.ofString "_law_k"), (Str.ofString "_law_pair"), (Str.ofString "_law_late"), (Str.ofString "_law_j")], [(Str.ofString "_law_grid"), (Str.ofString "_law_pairs"), (Str.ofString "_law_d"), (Str.ofString "_law_many")], f36⟩
def t37 : TD := ⟨⟨("_law_reasons_told", none), "_law_reasons_told", "_law_reasons_told", defArgs (top 55), defBody (top 55), defScope (top 55), [], []⟩, [(Str.ofString "_law_found")], [], f37⟩
def t38 : TD := ⟨⟨("law", none), "law", "law", defArgs (top 56), defBody (top 56), defScope (top 56), [], []⟩, [(Str.ofString "_law_script"), (Str.ofString "_law_feed_here"), (Str.ofString "_law_some"), (Str.ofString "_law_start"), (Str.ofString "_law_code"), (Str.ofString "_law_due"), (Str.ofString "_law_grid"), (Str.ofString "_law_begun"), (Str.ofString "_law_pairs")], [(Str.ofString "_law_script")], f38⟩
def tds : List TD := [t0, t1, t2, t3, t4, t5, t6, t7, t8, t9, t10, t11, t12, t13, t14, t15, t16, t17, t18, t19, t20, t21, t22, t23, t24, t25, t26, t27, t28, t29, t30, t31, t32, t33, t34, t35, t36, t37, t38]
theorem ok0 : t0.ok nm := ⟨rfl, ⟨rfl, rfl, rfl, by decide +kernel, rfl, by decide +kernel, by decide +kernel⟩, rfl, by decide +kernel⟩
theorem ok1 : t1.ok nm := ⟨rfl, ⟨rfl, rfl, rfl, by decide +kernel, rfl, by decide +kernel, by decide +kernel⟩, rfl, by decide +kernel⟩
theorem ok2 : t2.ok nm := ⟨rfl, ⟨rfl, rfl, rfl, by decide +kernel, rfl, by decide +kernel, by decide +kernel⟩, rfl, by decide +kernel⟩
theorem ok3 : t3.ok nm := ⟨rfl, ⟨rfl, rfl, rfl, by decide +kernel, rfl, by decide +kernel, by decide +kernel⟩, rfl, by decide +kernel⟩
theorem ok4 : t4.ok nm := ⟨rfl, ⟨rfl, rfl, rfl, by decide +kernel, rfl, by decide +kernel, by decide +kernel⟩, rfl, by decide +kernel⟩
theorem ok5 : t5.ok nm := ⟨rfl, ⟨rfl, rfl, rfl, by decide +kernel, rfl, by decide +kernel, by decide +kernel⟩, rfl, by decide +kernel⟩
theorem ok6 : t6.ok nm := ⟨rfl, ⟨rfl, rfl, rfl, by decide +kernel, rfl, by decide +kernel, by decide +kernel⟩, rfl, by decide +kernel⟩
theorem ok7 : t7.ok nm := ⟨rfl, ⟨rfl, rfl, rfl, by decide +kernel, rfl, by decide +kernel, by decide +kernel⟩, rfl, by decide +kernel⟩
theorem ok8 : t8.ok nm := ⟨rfl, ⟨rfl, rfl, rfl, by decide +kernel, rfl, by decide +kernel, by decide +kernel⟩, rfl, by decide +kernel⟩
theorem ok9 : t9.ok nm := ⟨rfl, ⟨rfl, rfl, rfl, by decide +kernel, rfl, by decide +kernel, by decide +kernel⟩, rfl, by decide +kernel⟩
theorem ok10 : t10.ok nm := ⟨rfl, ⟨rfl, rfl, rfl, by decide +kernel, rfl, by decide +kernel, by decide +kernel⟩, rfl, by decide +kernel⟩
theorem ok11 : t11.ok nm := ⟨rfl, ⟨rfl, rfl, rfl, by decide +kernel, rfl, by decide +kernel, by decide +kernel⟩, rfl, by decide +kernel⟩
theorem ok12 : t12.ok nm := ⟨rfl, ⟨rfl, rfl, rfl, by decide +kernel, rfl, by decide +kernel, by decide +kernel⟩, rfl, by decide +kernel⟩
theorem ok13 : t13.ok nm := ⟨rfl, ⟨rfl, rfl, rfl, by decide +kernel, rfl, by decide +kernel, by decide +kernel⟩, rfl, by decide +kernel⟩
theorem ok14 : t14.ok nm := ⟨rfl, ⟨rfl, rfl, rfl, by decide +kernel, rfl, by decide +kernel, by decide +kernel⟩, rfl, by decide +kernel⟩
theorem ok15 : t15.ok nm := ⟨rfl, ⟨rfl, rfl, rfl, by decide +kernel, rfl, by decide +kernel, by decide +kernel⟩, rfl, by decide +kernel⟩
theorem ok16 : t16.ok nm := ⟨rfl, ⟨rfl, rfl, rfl, by decide +kernel, rfl, by decide +kernel, by decide +kernel⟩, rfl, by decide +kernel⟩
theorem ok17 : t17.ok nm := ⟨rfl, ⟨rfl, rfl, rfl, by decide +kernel, rfl, by decide +kernel, by decide +kernel⟩, rfl, by decide +kernel⟩
theorem ok18 : t18.ok nm := ⟨rfl, ⟨rfl, rfl, rfl, by decide +kernel, rfl, by decide +kernel, by decide +kernel⟩, rfl, by decide +kernel⟩
theorem ok19 : t19.ok nm := ⟨rfl, ⟨rfl, rfl, rfl, by decide +kernel, rfl, by decide +kernel, by decide +kernel⟩, rfl, by decide +kernel⟩
theorem ok20 : t20.ok nm := ⟨rfl, ⟨rfl, rfl, rfl, by decide +kernel, rfl, by decide +kernel, by decide +kernel⟩, rfl, by decide +kernel⟩
theorem ok21 : t21.ok nm := ⟨rfl, ⟨rfl, rfl, rfl, by decide +kernel, rfl, by decide +kernel, by decide +kernel⟩, rfl, by decide +kernel⟩
theorem ok22 : t22.ok nm := ⟨rfl, ⟨rfl, rfl, rfl, by decide +kernel, rfl, by decide +kernel, by decide +kernel⟩, rfl, by decide +kernel⟩
theorem ok23 : t23.ok nm := ⟨rfl, ⟨rfl, rfl, rfl, by decide +kernel, rfl, by decide +kernel, by decide +kernel⟩, rfl, by decide +kernel⟩
theorem ok24 : t24.ok nm := ⟨rfl, ⟨rfl, rfl, rfl, by decide +kernel, rfl, by decide +kernel, by decide +kernel⟩, rfl, by decide +kernel⟩
theorem ok25 : t25.ok nm := ⟨rfl, ⟨rfl, rfl, rfl, by decide +kernel, rfl, by decide +kernel, by decide +kernel⟩, rfl, by decide +kernel⟩
theorem ok26 : t26.ok nm := ⟨rfl, ⟨rfl, rfl, rfl, by decide +kernel, rfl, by decide +kernel, by decide +kernel⟩, rfl, by decide +kernel⟩
theorem ok27 : t27.ok nm := ⟨rfl, ⟨rfl, rfl, rfl, by decide +kernel, rfl, by decide +kernel, by decide +kernel⟩, rfl, by decide +kernel⟩
theorem ok28 : t28.ok nm := ⟨rfl, ⟨rfl, rfl, rfl, by decide +kernel, rfl, by decide +kernel, by decide +kernel⟩, rfl, by decide +kernel⟩
theorem ok29 : t29.ok nm := ⟨rfl, ⟨rfl, rfl, rfl, by decide +kernel, rfl, by decide +kernel, by decide +kernel⟩, rfl, by decide +kernel⟩
theorem ok30 : t30.ok nm := ⟨rfl, ⟨rfl, rfl, rfl, by decide +kernel, rfl, by decide +kernel, by decide +kernel⟩, rfl, by decide +kernel⟩
theorem ok31 : t31.ok nm := ⟨rfl, ⟨rfl, rfl, rfl, by decide +kernel, rfl, by decide +kernel, by decide +kernel⟩, rfl, by decide +kernel⟩
theorem ok32 : t32.ok nm := ⟨rfl, ⟨rfl, rfl, rfl, by decide +kernel, rfl, by decide +kernel, by decide +kernel⟩, rfl, by decide +kernel⟩
theorem ok33 : t33.ok nm := ⟨rfl, ⟨rfl, rfl, rfl, by decide +kernel, rfl, by decide +kernel, by decide +kernel⟩, rfl, by decide +kernel⟩
theorem ok34 : t34.ok nm := ⟨rfl, ⟨rfl, rfl, rfl, by decide +kernel, rfl, by decide +kernel, by decide +kernel⟩, rfl, by decide +kernel⟩
theorem ok35 : t35.ok nm := ⟨rfl, ⟨rfl, rfl, rfl, by decide +kernel, rfl, by decide +kernel, by decide +kernel⟩, rfl, by decide +kernel⟩
theorem ok36 : t36.ok nm := ⟨rfl, ⟨rfl, rfl, rfl, by decide +kernel, rfl, by decide +kernel, by decide +kernel⟩, rfl, by decide +kernel⟩
theorem ok37 : t37.ok nm := ⟨rfl, ⟨rfl, rfl, rfl, by decide +kernel, rfl, by decide +kernel, by decide +kernel⟩, rfl, by decide +kernel⟩
theorem ok38 : t38.ok nm := ⟨rfl, ⟨rfl, rfl, rfl, by decide +kernel, rfl, by decide +kernel, by decide +kernel⟩, rfl, by decide +kernel⟩
theorem oks : ∀ t ∈ tds, t.ok nm := allCons ok0 (allCons ok1 (allCons ok2 (allCons ok3 (allCons ok4 (allCons ok5 (allCons ok6 (allCons ok7 (allCons ok8 (allCons ok9 (allCons ok10 (allCons ok11 (allCons ok12 (allCons ok13 (allCons ok14 (allCons ok15 (allCons ok16 (allCons ok17 (allCons ok18 (allCons ok19 (allCons ok20 (allCons ok21 (allCons ok22 (allCons ok23 (allCons ok24 (allCons ok25 (allCons ok26 (allCons ok27 (allCons ok28 (allCons ok29 (allCons ok30 (allCons ok31 (allCons ok32 (allCons ok33 (allCons ok34 (allCons ok35 (allCons ok36 (allCons ok37 (allCons ok38 (allNil)))))))))))))))))))))))))))))))))))))))
theorem sh0 : ShapeT t0 2 [] [.inl 0, .inl 1] := by
  intro C d hps F
  obtain ⟨oc, od, dV, kV, doc, pm, an, cdv, ct, osl, hfd, lk, hcd, hD, hK⟩ := F.ex
  refine ⟨fun s us ws vs zs KX l1 l2 rv rz => ?_⟩
  obtain ⟨u0, us0, rfl, l1_0⟩ := len_cons l1
  obtain ⟨v0, vs0, rfl, r0, rv0⟩ := vals_inv rv
  obtain ⟨u1, us1, rfl, l1_1⟩ := len_cons l1_0
  obtain ⟨v1, vs1, rfl, r1, rv1⟩ := vals_inv rv0
  have g1 := len_nil l1_1
  subst g1
  have g2 := vals_inv0 rv1
  subst g2
  have g3 := len_nil l2
  subst g3
  have g4 := vals_inv0 rz
  subst g4
  have hdv : dV = .none := by
    rcases hD with ⟨_, h⟩ | ⟨e, _⟩
    · exact h
    · exact absurd rfl e
  subst hdv
  refine ⟨[u0, u1], [v0, v1], ?_, .cons r0 (.cons r1 (.nil)), ?_, ?_⟩
  · rw [hfd, hps]
    exact .of_eq rfl
  · rw [hps]
    rfl
  · intro w ds es r h1 h2 h3
    obtain ⟨d0, ds0, rfl, a0, h1_0⟩ := reps_inv h1
    obtain ⟨d1, ds1, rfl, a1, h1_1⟩ := reps_inv h1_0
    have g1 := reps_inv0 h1_1
    subst g1
    have g2 := reps_inv0 h2
    subst g2
    have e : some [d0, d1] = some r := h3
    cases e
    exact ⟨_, _, rfl, a0, ⟨_, _, rfl, a1, rfl⟩⟩
theorem sh1 : ShapeT t2 1 [] [.inl 0] := by
  intro C d hps F
  obtain ⟨oc, od, dV, kV, doc, pm, an, cdv, ct, osl, hfd, lk, hcd, hD, hK⟩ := F.ex
  refine ⟨fun s us ws vs zs KX l1 l2 rv rz => ?_⟩
  obtain ⟨u0, us0, rfl, l1_0⟩ := len_cons l1
  obtain ⟨v0, vs0, rfl, r0, rv0⟩ := vals_inv rv
  have g1 := len_nil l1_0
  subst g1
  have g2 := vals_inv0 rv0
  subst g2
  have g3 := len_nil l2
  subst g3
  have g4 := vals_inv0 rz
  subst g4
  have hdv : dV = .none := by
    rcases hD with ⟨_, h⟩ | ⟨e, _⟩
    · exact h
    · exact absurd rfl e
  subst hdv
  refine ⟨[u0], [v0], ?_, .cons r0 (.nil), ?_, ?_⟩
  · rw [hfd, hps]
    exact .of_eq rfl
  · rw [hps]
    rfl
  · intro w ds es r h1 h2 h3
    obtain ⟨d0, ds0, rfl, a0, h1_0⟩ := reps_inv h1
    have g1 := reps_inv0 h1_0
    subst g1
    have g2 := reps_inv0 h2
    subst g2
    have e : some [d0] = some r := h3
    cases e
    exact ⟨_, _, rfl, a0, rfl⟩
theorem sh2 : ShapeT t3 3 [] [.inl 0, .inl 1, .inl 2] := by
  intro C d hps F
  obtain ⟨oc, od, dV, kV, doc, pm, an, cdv, ct, osl, hfd, lk, hcd, hD, hK⟩ := F.ex
  refine ⟨fun s us ws vs zs KX l1 l2 rv rz => ?_⟩
  obtain ⟨u0, us0, rfl, l1_0⟩ := len_cons l1
  obtain ⟨v0, vs0, rfl, r0, rv0⟩ := vals_inv rv
  obtain ⟨u1, us1, rfl, l1_1⟩ := len_cons l1_0
  obtain ⟨v1, vs1, rfl, r1, rv1⟩ := vals_inv rv0
  obtain ⟨u2, us2, rfl, l1_2⟩ := len_cons l1_1
  obtain ⟨v2, vs2, rfl, r2, rv2⟩ := vals_inv rv1
  have g1 := len_nil l1_2
  subst g1
  have g2 := vals_inv0 rv2
  subst g2
  have g3 := len_nil l2
  subst g3
  have g4 := vals_inv0 rz
  subst g4
  have hdv : dV = .none := by
    rcases hD with ⟨_, h⟩ | ⟨e, _⟩
    · exact h
    · exact absurd rfl e
  subst hdv
  refine ⟨[u0, u1, u2], [v0, v1, v2], ?_, .cons r0 (.cons r1 (.cons r2 (.nil))), ?_, ?_⟩
  · rw [hfd, hps]
    exact .of_eq rfl
  · rw [hps]
    rfl
  · intro w ds es r h1 h2 h3
    obtain ⟨d0, ds0, rfl, a0, h1_0⟩ := reps_inv h1
    obtain ⟨d1, ds1, rfl, a1, h1_1⟩ := reps_inv h1_0
    obtain ⟨d2, ds2, rfl, a2, h1_2⟩ := reps_inv h1_1
    have g1 := reps_inv0 h1_2
    subst g1
    have g2 := reps_inv0 h2
    subst g2
    have e : some [d0, d1, d2] = some r := h3
    cases e
    exact ⟨_, _, rfl, a0, ⟨_, _, rfl, a1, ⟨_, _, rfl, a2, rfl⟩⟩⟩
theorem sh3 : ShapeT t4 2 [] [.inl 0, .inl 1] := by
  intro C d hps F
  obtain ⟨oc, od, dV, kV, doc, pm, an, cdv, ct, osl, hfd, lk, hcd, hD, hK⟩ := F.ex
  refine ⟨fun s us ws vs zs KX l1 l2 rv rz => ?_⟩
  obtain ⟨u0, us0, rfl, l1_0⟩ := len_cons l1
  obtain ⟨v0, vs0, rfl, r0, rv0⟩ := vals_inv rv
  obtain ⟨u1, us1, rfl, l1_1⟩ := len_cons l1_0
  obtain ⟨v1, vs1, rfl, r1, rv1⟩ := vals_inv rv0
  have g1 := len_nil l1_1
  subst g1
  have g2 := vals_inv0 rv1
  subst g2
  have g3 := len_nil l2
  subst g3
  have g4 := vals_inv0 rz
  subst g4
  have hdv : dV = .none := by
    rcases hD with ⟨_, h⟩ | ⟨e, _⟩
    · exact h
    · exact absurd rfl e
  subst hdv
  refine ⟨[u0, u1], [v0, v1], ?_, .cons r0 (.cons r1 (.nil)), ?_, ?_⟩
  · rw [hfd, hps]
    exact .of_eq rfl
  · rw [hps]
    rfl
  · intro w ds es r h1 h2 h3
    obtain ⟨d0, ds0, rfl, a0, h1_0⟩ := reps_inv h1
    obtain ⟨d1, ds1, rfl, a1, h1_1⟩ := reps_inv h1_0
    have g1 := reps_inv0 h1_1
    subst g1
    have g2 := reps_inv0 h2
    subst g2
    have e : some [d0, d1] = some r := h3
    cases e
    exact ⟨_, _, rfl, a0, ⟨_, _, rfl, a1, rfl⟩⟩
theorem sh4 : ShapeT t5 2 [] [.inl 0, .inl 1] := by
  intro C d hps F
  obtain ⟨oc, od, dV, kV, doc, pm, an, cdv, ct, osl, hfd, lk, hcd, hD, hK⟩ := F.ex
  refine ⟨fun s us ws vs zs KX l1 l2 rv rz => ?_⟩
  obtain ⟨u0, us0, rfl, l1_0⟩ := len_cons l1
  obtain ⟨v0, vs0, rfl, r0, rv0⟩ := vals_inv rv
  obtain ⟨u1, us1, rfl, l1_1⟩ := len_cons l1_0
  obtain ⟨v1, vs1, rfl, r1, rv1⟩ := vals_inv rv0
  have g1 := len_nil l1_1
  subst g1
  have g2 := vals_inv0 rv1
  subst g2
  have g3 := len_nil l2
  subst g3
  have g4 := vals_inv0 rz
  subst g4
  have hdv : dV = .none := by
    rcases hD with ⟨_, h⟩ | ⟨e, _⟩
    · exact h
    · exact absurd rfl e
  subst hdv
  refine ⟨[u0, u1], [v0, v1], ?_, .cons r0 (.cons r1 (.nil)), ?_, ?_⟩
  · rw [hfd, hps]
    exact .of_eq rfl
  · rw [hps]
    rfl
  · intro w ds es r h1 h2 h3
    obtain ⟨d0, ds0, rfl, a0, h1_0⟩ := reps_inv h1
    obtain ⟨d1, ds1, rfl, a1, h1_1⟩ := reps_inv h1_0
    have g1 := reps_inv0 h1_1
    subst g1
    have g2 := reps_inv0 h2
    subst g2
    have e : some [d0, d1] = some r := h3
    cases e
    exact ⟨_, _, rfl, a0, ⟨_, _, rfl, a1, rfl⟩⟩
theorem sh5 : ShapeT t6 1 [] [.inl 0] := by
  intro C d hps F
  obtain ⟨oc, od, dV, kV, doc, pm, an, cdv, ct, osl, hfd, lk, hcd, hD, hK⟩ := F.ex
  refine ⟨fun s us ws vs zs KX l1 l2 rv rz => ?_⟩
  obtain ⟨u0, us0, rfl, l1_0⟩ := len_cons l1
  obtain ⟨v0, vs0, rfl, r0, rv0⟩ := vals_inv rv
  have g1 := len_nil l1_0
  subst g1
  have g2 := vals_inv0 rv0
  subst g2
  have g3 := len_nil l2
  subst g3
  have g4 := vals_inv0 rz
  subst g4
  have hdv : dV = .none := by
    rcases hD with ⟨_, h⟩ | ⟨e, _⟩
    · exact h
    · exact absurd rfl e
  subst hdv
  refine ⟨[u0], [v0], ?_, .cons r0 (.nil), ?_, ?_⟩
  · rw [hfd, hps]
    exact .of_eq rfl
  · rw [hps]
    rfl
  · intro w ds es r h1 h2 h3
    obtain ⟨d0, ds0, rfl, a0, h1_0⟩ := reps_inv h1
    have g1 := reps_inv0 h1_0
    subst g1
    have g2 := reps_inv0 h2
    subst g2
    have e : some [d0] = some r := h3
    cases e
    exact ⟨_, _, rfl, a0, rfl⟩
theorem sh6 : ShapeT t8 1 [] [.inl 0] := by
  intro C d hps F
  obtain ⟨oc, od, dV, kV, doc, pm, an, cdv, ct, osl, hfd, lk, hcd, hD, hK⟩ := F.ex
  refine ⟨fun s us ws vs zs KX l1 l2 rv rz => ?_⟩
  obtain ⟨u0, us0, rfl, l1_0⟩ := len_cons l1
  obtain ⟨v0, vs0, rfl, r0, rv0⟩ := vals_inv rv
  have g1 := len_nil l1_0
  subst g1
  have g2 := vals_inv0 rv0
  subst g2
  have g3 := len_nil l2
  subst g3
  have g4 := vals_inv0 rz
  subst g4
  have hdv : dV = .none := by
    rcases hD with ⟨_, h⟩ | ⟨e, _⟩
    · exact h
    · exact absurd rfl e
  subst hdv
  refine ⟨[u0], [v0], ?_, .cons r0 (.nil), ?_, ?_⟩
  · rw [hfd, hps]
    exact .of_eq rfl
  · rw [hps]
    rfl
  · intro w ds es r h1 h2 h3
    obtain ⟨d0, ds0, rfl, a0, h1_0⟩ := reps_inv h1
    have g1 := reps_inv0 h1_0
    subst g1
    have g2 := reps_inv0 h2
    subst g2
    have e : some [d0] = some r := h3
    cases e
    exact ⟨_, _, rfl, a0, rfl⟩
theorem sh7 : ShapeT t9 1 [] [.inl 0] := by
  intro C d hps F
  obtain ⟨oc, od, dV, kV, doc, pm, an, cdv, ct, osl, hfd, lk, hcd, hD, hK⟩ := F.ex
  refine ⟨fun s us ws vs zs KX l1 l2 rv rz => ?_⟩
  obtain ⟨u0, us0, rfl, l1_0⟩ := len_cons l1
  obtain ⟨v0, vs0, rfl, r0, rv0⟩ := vals_inv rv
  have g1 := len_nil l1_0
  subst g1
  have g2 := vals_inv0 rv0
  subst g2
  have g3 := len_nil l2
  subst g3
  have g4 := vals_inv0 rz
  subst g4
  have hdv : dV = .none := by
    rcases hD with ⟨_, h⟩ | ⟨e, _⟩
    · exact h
    · exact absurd rfl e
  subst hdv
  refine ⟨[u0], [v0], ?_, .cons r0 (.nil), ?_, ?_⟩
  · rw [hfd, hps]
    exact .of_eq rfl
  · rw [hps]
    rfl
  · intro w ds es r h1 h2 h3
    obtain ⟨d0, ds0, rfl, a0, h1_0⟩ := reps_inv h1
    have g1 := reps_inv0 h1_0
    subst g1
    have g2 := reps_inv0 h2
    subst g2
    have e : some [d0] = some r := h3
    cases e
    exact ⟨_, _, rfl, a0, rfl⟩
theorem sh8 : ShapeT t10 1 [] [.inl 0] := by
  intro C d hps F
  obtain ⟨oc, od, dV, kV, doc, pm, an, cdv, ct, osl, hfd, lk, hcd, hD, hK⟩ := F.ex
  refine ⟨fun s us ws vs zs KX l1 l2 rv rz => ?_⟩
  obtain ⟨u0, us0, rfl, l1_0⟩ := len_cons l1
  obtain ⟨v0, vs0, rfl, r0, rv0⟩ := vals_inv rv
  have g1 := len_nil l1_0
  subst g1
  have g2 := vals_inv0 rv0
  subst g2
  have g3 := len_nil l2
  subst g3
  have g4 := vals_inv0 rz
  subst g4
  have hdv : dV = .none := by
    rcases hD with ⟨_, h⟩ | ⟨e, _⟩
    · exact h
    · exact absurd rfl e
  subst hdv
  refine ⟨[u0], [v0], ?_, .cons r0 (.nil), ?_, ?_⟩
  · rw [hfd, hps]
    exact .of_eq rfl
  · rw [hps]
    rfl
  · intro w ds es r h1 h2 h3
    obtain ⟨d0, ds0, rfl, a0, h1_0⟩ := reps_inv h1
    have g1 := reps_inv0 h1_0
    subst g1
    have g2 := reps_inv0 h2
    subst g2
    have e : some [d0] = some r := h3
    cases e
    exact ⟨_, _, rfl, a0, rfl⟩
theorem sh9 : ShapeT t11 2 [] [.inl 0, .inl 1] := by
  intro C d hps F
  obtain ⟨oc, od, dV, kV, doc, pm, an, cdv, ct, osl, hfd, lk, hcd, hD, hK⟩ := F.ex
  refine ⟨fun s us ws vs zs KX l1 l2 rv rz => ?_⟩
  obtain ⟨u0, us0, rfl, l1_0⟩ := len_cons l1
  obtain ⟨v0, vs0, rfl, r0, rv0⟩ := vals_inv rv
  obtain ⟨u1, us1, rfl, l1_1⟩ := len_cons l1_0
  obtain ⟨v1, vs1, rfl, r1, rv1⟩ := vals_inv rv0
  have g1 := len_nil l1_1
  subst g1
  have g2 := vals_inv0 rv1
  subst g2
  have g3 := len_nil l2
  subst g3
  have g4 := vals_inv0 rz
  subst g4
  have hdv : dV = .none := by
    rcases hD with ⟨_, h⟩ | ⟨e, _⟩
    · exact h
    · exact absurd rfl e
  subst hdv
  refine ⟨[u0, u1], [v0, v1], ?_, .cons r0 (.cons r1 (.nil)), ?_, ?_⟩
  · rw [hfd, hps]
    exact .of_eq rfl
  · rw [hps]
    rfl
  · intro w ds es r h1 h2 h3
    obtain ⟨d0, ds0, rfl, a0, h1_0⟩ := reps_inv h1
    obtain ⟨d1, ds1, rfl, a1, h1_1⟩ := reps_inv h1_0
    have g1 := reps_inv0 h1_1
    subst g1
    have g2 := reps_inv0 h2
    subst g2
    have e : some [d0, d1] = some r := h3
    cases e
    exact ⟨_, _, rfl, a0, ⟨_, _, rfl, a1, rfl⟩⟩
theorem sh10 : ShapeT t12 1 [] [.inl 0] := by
  intro C d hps F
  obtain ⟨oc, od, dV, kV, doc, pm, an, cdv, ct, osl, hfd, lk, hcd, hD, hK⟩ := F.ex
  refine ⟨fun s us ws vs zs KX l1 l2 rv rz => ?_⟩
  obtain ⟨u0, us0, rfl, l1_0⟩ := len_cons l1
  obtain ⟨v0, vs0, rfl, r0, rv0⟩ := vals_inv rv
  have g1 := len_nil l1_0
  subst g1
  have g2 := vals_inv0 rv0
  subst g2
  have g3 := len_nil l2
  subst g3
  have g4 := vals_inv0 rz
  subst g4
  have hdv : dV = .none := by
    rcases hD with ⟨_, h⟩ | ⟨e, _⟩
    · exact h
    · exact absurd rfl e
  subst hdv
  refine ⟨[u0], [v0], ?_, .cons r0 (.nil), ?_, ?_⟩
  · rw [hfd, hps]
    exact .of_eq rfl
  · rw [hps]
    rfl
  · intro w ds es r h1 h2 h3
    obtain ⟨d0, ds0, rfl, a0, h1_0⟩ := reps_inv h1
    have g1 := reps_inv0 h1_0
    subst g1
    have g2 := reps_inv0 h2
    subst g2
    have e : some [d0] = some r := h3
    cases e
    exact ⟨_, _, rfl, a0, rfl⟩
theorem sh11 : ShapeT t1 1 [] [.inl 0] := by
  intro C d hps F
  obtain ⟨oc, od, dV, kV, doc, pm, an, cdv, ct, osl, hfd, lk, hcd, hD, hK⟩ := F.ex
  refine ⟨fun s us ws vs zs KX l1 l2 rv rz => ?_⟩
  obtain ⟨u0, us0, rfl, l1_0⟩ := len_cons l1
  obtain ⟨v0, vs0, rfl, r0, rv0⟩ := vals_inv rv
  have g1 := len_nil l1_0
  subst g1
  have g2 := vals_inv0 rv0
  subst g2
  have g3 := len_nil l2
  subst g3
  have g4 := vals_inv0 rz
  subst g4
  have hdv : dV = .none := by
    rcases hD with ⟨_, h⟩ | ⟨e, _⟩
    · exact h
    · exact absurd rfl e
  subst hdv
  refine ⟨[u0], [v0], ?_, .cons r0 (.nil), ?_, ?_⟩
  · rw [hfd, hps]
    exact .of_eq rfl
  · rw [hps]
    rfl
  · intro w ds es r h1 h2 h3
    obtain ⟨d0, ds0, rfl, a0, h1_0⟩ := reps_inv h1
    have g1 := reps_inv0 h1_0
    subst g1
    have g2 := reps_inv0 h2
    subst g2
    have e : some [d0] = some r := h3
    cases e
    exact ⟨_, _, rfl, a0, rfl⟩
theorem sh12 : ShapeT t13 1 [] [.inl 0] := by
  intro C d hps F
  obtain ⟨oc, od, dV, kV, doc, pm, an, cdv, ct, osl, hfd, lk, hcd, hD, hK⟩ := F.ex
  refine ⟨fun s us ws vs zs KX l1 l2 rv rz => ?_⟩
  obtain ⟨u0, us0, rfl, l1_0⟩ := len_cons l1
  obtain ⟨v0, vs0, rfl, r0, rv0⟩ := vals_inv rv
  have g1 := len_nil l1_0
  subst g1
  have g2 := vals_inv0 rv0
  subst g2
  have g3 := len_nil l2
  subst g3
  have g4 := vals_inv0 rz
  subst g4
  have hdv : dV = .none := by
    rcases hD with ⟨_, h⟩ | ⟨e, _⟩
    · exact h
    · exact absurd rfl e
  subst hdv
  refine ⟨[u0], [v0], ?_, .cons r0 (.nil), ?_, ?_⟩
  · rw [hfd, hps]
    exact .of_eq rfl
  · rw [hps]
    rfl
  · intro w ds es r h1 h2 h3
    obtain ⟨d0, ds0, rfl, a0, h1_0⟩ := reps_inv h1
    have g1 := reps_inv0 h1_0
    subst g1
    have g2 := reps_inv0 h2
    subst g2
    have e : some [d0] = some r := h3
    cases e
    exact ⟨_, _, rfl, a0, rfl⟩
theorem sh13 : ShapeT t16 1 [] [.inl 0] := by
  intro C d hps F
  obtain ⟨oc, od, dV, kV, doc, pm, an, cdv, ct, osl, hfd, lk, hcd, hD, hK⟩ := F.ex
  refine ⟨fun s us ws vs zs KX l1 l2 rv rz => ?_⟩
  obtain ⟨u0, us0, rfl, l1_0⟩ := len_cons l1
  obtain ⟨v0, vs0, rfl, r0, rv0⟩ := vals_inv rv
  have g1 := len_nil l1_0
  subst g1
  have g2 := vals_inv0 rv0
  subst g2
  have g3 := len_nil l2
  subst g3
  have g4 := vals_inv0 rz
  subst g4
  have hdv : dV = .none := by
    rcases hD with ⟨_, h⟩ | ⟨e, _⟩
    · exact h
    · exact absurd rfl e
  subst hdv
  refine ⟨[u0], [v0], ?_, .cons r0 (.nil), ?_, ?_⟩
  · rw [hfd, hps]
    exact .of_eq rfl
  · rw [hps]
    rfl
  · intro w ds es r h1 h2 h3
    obtain ⟨d0, ds0, rfl, a0, h1_0⟩ := reps_inv h1
    have g1 := reps_inv0 h1_0
    subst g1
    have g2 := reps_inv0 h2
    subst g2
    have e : some [d0] = some r := h3
    cases e
    exact ⟨_, _, rfl, a0, rfl⟩
theorem sh14 : ShapeT t15 1 [] [.inl 0] := by
  intro C d hps F
  obtain ⟨oc, od, dV, kV, doc, pm, an, cdv, ct, osl, hfd, lk, hcd, hD, hK⟩ := F.ex
  refine ⟨fun s us ws vs zs KX l1 l2 rv rz => ?_⟩
  obtain ⟨u0, us0, rfl, l1_0⟩ := len_cons l1
  obtain ⟨v0, vs0, rfl, r0, rv0⟩ := vals_inv rv
  have g1 := len_nil l1_0
  subst g1
  have g2 := vals_inv0 rv0
  subst g2
  have g3 := len_nil l2
  subst g3
  have g4 := vals_inv0 rz
  subst g4
  have hdv : dV = .none := by
    rcases hD with ⟨_, h⟩ | ⟨e, _⟩
    · exact h
    · exact absurd rfl e
  subst hdv
  refine ⟨[u0], [v0], ?_, .cons r0 (.nil), ?_, ?_⟩
  · rw [hfd, hps]
    exact .of_eq rfl
  · rw [hps]
    rfl
  · intro w ds es r h1 h2 h3
    obtain ⟨d0, ds0, rfl, a0, h1_0⟩ := reps_inv h1
    have g1 := reps_inv0 h1_0
    subst g1
    have g2 := reps_inv0 h2
    subst g2
    have e : some [d0] = some r := h3
    cases e
    exact ⟨_, _, rfl, a0, rfl⟩
theorem sh15 : ShapeT t14 3 [] [.inl 0, .inl 1, .inl 2] := by
  intro C d hps F
  obtain ⟨oc, od, dV, kV, doc, pm, an, cdv, ct, osl, hfd, lk, hcd, hD, hK⟩ := F.ex
  refine ⟨fun s us ws vs zs KX l1 l2 rv rz => ?_⟩
  obtain ⟨u0, us0, rfl, l1_0⟩ := len_cons l1
  obtain ⟨v0, vs0, rfl, r0, rv0⟩ := vals_inv rv
  obtain ⟨u1, us1, rfl, l1_1⟩ := len_cons l1_0
  obtain ⟨v1, vs1, rfl, r1, rv1⟩ := vals_inv rv0
  obtain ⟨u2, us2, rfl, l1_2⟩ := len_cons l1_1
  obtain ⟨v2, vs2, rfl, r2, rv2⟩ := vals_inv rv1
  have g1 := len_nil l1_2
  subst g1
  have g2 := vals_inv0 rv2
  subst g2
  have g3 := len_nil l2
  subst g3
  have g4 := vals_inv0 rz
  subst g4
  have hdv : dV = .none := by
    rcases hD with ⟨_, h⟩ | ⟨e, _⟩
    · exact h
    · exact absurd rfl e
  subst hdv
  refine ⟨[u0, u1, u2], [v0, v1, v2], ?_, .cons r0 (.cons r1 (.cons r2 (.nil))), ?_, ?_⟩
  · rw [hfd, hps]
    exact .of_eq rfl
  · rw [hps]
    rfl
  · intro w ds es r h1 h2 h3
    obtain ⟨d0, ds0, rfl, a0, h1_0⟩ := reps_inv h1
    obtain ⟨d1, ds1, rfl, a1, h1_1⟩ := reps_inv h1_0
    obtain ⟨d2, ds2, rfl, a2, h1_2⟩ := reps_inv h1_1
    have g1 := reps_inv0 h1_2
    subst g1
    have g2 := reps_inv0 h2
    subst g2
    have e : some [d0, d1, d2] = some r := h3
    cases e
    exact ⟨_, _, rfl, a0, ⟨_, _, rfl, a1, ⟨_, _, rfl, a2, rfl⟩⟩⟩
theorem sh16 : ShapeT t18 2 [] [.inl 0, .inl 1] := by
  intro C d hps F
  obtain ⟨oc, od, dV, kV, doc, pm, an, cdv, ct, osl, hfd, lk, hcd, hD, hK⟩ := F.ex
  refine ⟨fun s us ws vs zs KX l1 l2 rv rz => ?_⟩
  obtain ⟨u0, us0, rfl, l1_0⟩ := len_cons l1
  obtain ⟨v0, vs0, rfl, r0, rv0⟩ := vals_inv rv
  obtain ⟨u1, us1, rfl, l1_1⟩ := len_cons l1_0
  obtain ⟨v1, vs1, rfl, r1, rv1⟩ := vals_inv rv0
  have g1 := len_nil l1_1
  subst g1
  have g2 := vals_inv0 rv1
  subst g2
  have g3 := len_nil l2
  subst g3
  have g4 := vals_inv0 rz
  subst g4
  have hdv : dV = .none := by
    rcases hD with ⟨_, h⟩ | ⟨e, _⟩
    · exact h
    · exact absurd rfl e
  subst hdv
  refine ⟨[u0, u1], [v0, v1], ?_, .cons r0 (.cons r1 (.nil)), ?_, ?_⟩
  · rw [hfd, hps]
    exact .of_eq rfl
  · rw [hps]
    rfl
  · intro w ds es r h1 h2 h3
    obtain ⟨d0, ds0, rfl, a0, h1_0⟩ := reps_inv h1
    obtain ⟨d1, ds1, rfl, a1, h1_1⟩ := reps_inv h1_0
    have g1 := reps_inv0 h1_1
    subst g1
    have g2 := reps_inv0 h2
    subst g2
    have e : some [d0, d1] = some r := h3
    cases e
    exact ⟨_, _, rfl, a0, ⟨_, _, rfl, a1, rfl⟩⟩
theorem sh17 : ShapeT t20 2 [] [.inl 0, .inl 1, .inr (.int (-1))] := by
  intro C d hps F
  obtain ⟨oc, od, dV, kV, doc, pm, an, cdv, ct, osl, hfd, lk, hcd, hD, hK⟩ := F.ex
  refine ⟨fun s us ws vs zs KX l1 l2 rv rz => ?_⟩
  obtain ⟨u0, us0, rfl, l1_0⟩ := len_cons l1
  obtain ⟨v0, vs0, rfl, r0, rv0⟩ := vals_inv rv
  obtain ⟨u1, us1, rfl, l1_1⟩ := len_cons l1_0
  obtain ⟨v1, vs1, rfl, r1, rv1⟩ := vals_inv rv0
  have g1 := len_nil l1_1
  subst g1
  have g2 := vals_inv0 rv1
  subst g2
  have g3 := len_nil l2
  subst g3
  have g4 := vals_inv0 rz
  subst g4
  rcases hD with ⟨e, _⟩ | ⟨_, T, o, its, mm, rfl, lT, oT, rT⟩
  · cases e
  obtain ⟨i0, its0, rfl, p0, rT0⟩ := vals_inv2 rT
  have g5 := vals_inv02 rT0
  subst g5
  refine ⟨[u0, u1, i0], [v0, v1, _], ?_, .cons r0 (.cons r1 (.cons p0 (.nil))), ?_, ?_⟩
  · rw [hfd, hps]
    obtain ⟨k, e1, e2⟩ : ∃ k, bindArgs (PySem.W.fnOf t20.D.name t20.D.qual t20.D.params t20.D.body t20.D.scope (.ref T) kV doc pm an cdv ct) ⟨[u0, u1], List.zip [] []⟩ = seqItems? (.ref T) >>= k ∧ k (some [i0].toArray) = pure (t20.ps.zip [u0, u1, i0]) := ⟨_, rfl, rfl⟩
    refine BindsTo.of_looks fun M => ?_
    rw [e1]
    exact looks_items KX lT oT (.of_pure e2)
  · rw [hps]
    rfl
  · intro w ds es r h1 h2 h3
    obtain ⟨d0, ds0, rfl, a0, h1_0⟩ := reps_inv h1
    obtain ⟨d1, ds1, rfl, a1, h1_1⟩ := reps_inv h1_0
    have g1 := reps_inv0 h1_1
    subst g1
    have g2 := reps_inv0 h2
    subst g2
    have e : some [d0, d1, .int (-1)] = some r := h3
    cases e
    exact ⟨_, _, rfl, a0, ⟨_, _, rfl, a1, ⟨_, _, rfl, rfl, rfl⟩⟩⟩
theorem sh18 : ShapeT t7 1 [] [.inl 0] := by
  intro C d hps F
  obtain ⟨oc, od, dV, kV, doc, pm, an, cdv, ct, osl, hfd, lk, hcd, hD, hK⟩ := F.ex
  refine ⟨fun s us ws vs zs KX l1 l2 rv rz => ?_⟩
  obtain ⟨u0, us0, rfl, l1_0⟩ := len_cons l1
  obtain ⟨v0, vs0, rfl, r0, rv0⟩ := vals_inv rv
  have g1 := len_nil l1_0
  subst g1
  have g2 := vals_inv0 rv0
  subst g2
  have g3 := len_nil l2
  subst g3
  have g4 := vals_inv0 rz
  subst g4
  have hdv : dV = .none := by
    rcases hD with ⟨_, h⟩ | ⟨e, _⟩
    · exact h
    · exact absurd rfl e
  subst hdv
  refine ⟨[u0], [v0], ?_, .cons r0 (.nil), ?_, ?_⟩
  · rw [hfd, hps]
    exact .of_eq rfl
  · rw [hps]
    rfl
  · intro w ds es r h1 h2 h3
    obtain ⟨d0, ds0, rfl, a0, h1_0⟩ := reps_inv h1
    have g1 := reps_inv0 h1_0
    subst g1
    have g2 := reps_inv0 h2
    subst g2
    have e : some [d0] = some r := h3
    cases e
    exact ⟨_, _, rfl, a0, rfl⟩
theorem sh19 : ShapeT t21 1 [] [.inl 0, .inr (.str ⟨#[116, 97, 98, 108, 101]⟩)] := by
  intro C d hps F
  obtain ⟨oc, od, dV, kV, doc, pm, an, cdv, ct, osl, hfd, lk, hcd, hD, hK⟩ := F.ex
  refine ⟨fun s us ws vs zs KX l1 l2 rv rz => ?_⟩
  obtain ⟨u0, us0, rfl, l1_0⟩ := len_cons l1
  obtain ⟨v0, vs0, rfl, r0, rv0⟩ := vals_inv rv
  have g1 := len_nil l1_0
  subst g1
  have g2 := vals_inv0 rv0
  subst g2
  have g3 := len_nil l2
  subst g3
  have g4 := vals_inv0 rz
  subst g4
  rcases hD with ⟨e, _⟩ | ⟨_, T, o, its, mm, rfl, lT, oT, rT⟩
  · cases e
  obtain ⟨i0, its0, rfl, p0, rT0⟩ := vals_inv2 rT
  have g5 := vals_inv02 rT0
  subst g5
  refine ⟨[u0, i0], [v0, _], ?_, .cons r0 (.cons p0 (.nil)), ?_, ?_⟩
  · rw [hfd, hps]
    obtain ⟨k, e1, e2⟩ : ∃ k, bindArgs (PySem.W.fnOf t21.D.name t21.D.qual t21.D.params t21.D.body t21.D.scope (.ref T) kV doc pm an cdv ct) ⟨[u0], List.zip [] []⟩ = seqItems? (.ref T) >>= k ∧ k (some [i0].toArray) = pure (t21.ps.zip [u0, i0]) := ⟨_, rfl, rfl⟩
    refine BindsTo.of_looks fun M => ?_
    rw [e1]
    exact looks_items KX lT oT (.of_pure e2)
  · rw [hps]
    rfl
  · intro w ds es r h1 h2 h3
    obtain ⟨d0, ds0, rfl, a0, h1_0⟩ := reps_inv h1
    have g1 := reps_inv0 h1_0
    subst g1
    have g2 := reps_inv0 h2
    subst g2
    have e : some [d0, .str ⟨#[116, 97, 98, 108, 101]⟩] = some r := h3
    cases e
    exact ⟨_, _, rfl, a0, ⟨_, _, rfl, rfl, rfl⟩⟩
theorem sh20 : ShapeT t17 1 [] [.inl 0] := by
  intro C d hps F
  obtain ⟨oc, od, dV, kV, doc, pm, an, cdv, ct, osl, hfd, lk, hcd, hD, hK⟩ := F.ex
  refine ⟨fun s us ws vs zs KX l1 l2 rv rz => ?_⟩
  obtain ⟨u0, us0, rfl, l1_0⟩ := len_cons l1
  obtain ⟨v0, vs0, rfl, r0, rv0⟩ := vals_inv rv
  have g1 := len_nil l1_0
  subst g1
  have g2 := vals_inv0 rv0
  subst g2
  have g3 := len_nil l2
  subst g3
  have g4 := vals_inv0 rz
  subst g4
  have hdv : dV = .none := by
    rcases hD with ⟨_, h⟩ | ⟨e, _⟩
    · exact h
    · exact absurd rfl e
  subst hdv
  refine ⟨[u0], [v0], ?_, .cons r0 (.nil), ?_, ?_⟩
  · rw [hfd, hps]
    exact .of_eq rfl
  · rw [hps]
    rfl
  · intro w ds es r h1 h2 h3
    obtain ⟨d0, ds0, rfl, a0, h1_0⟩ := reps_inv h1
    have g1 := reps_inv0 h1_0
    subst g1
    have g2 := reps_inv0 h2
    subst g2
    have e : some [d0] = some r := h3
    cases e
    exact ⟨_, _, rfl, a0, rfl⟩
theorem sh21 : ShapeT t19 1 [] [.inl 0] := by
  intro C d hps F
  obtain ⟨oc, od, dV, kV, doc, pm, an, cdv, ct, osl, hfd, lk, hcd, hD, hK⟩ := F.ex
  refine ⟨fun s us ws vs zs KX l1 l2 rv rz => ?_⟩
  obtain ⟨u0, us0, rfl, l1_0⟩ := len_cons l1
  obtain ⟨v0, vs0, rfl, r0, rv0⟩ := vals_inv rv
  have g1 := len_nil l1_0
  subst g1
  have g2 := vals_inv0 rv0
  subst g2
  have g3 := len_nil l2
  subst g3
  have g4 := vals_inv0 rz
  subst g4
  have hdv : dV = .none := by
    rcases hD with ⟨_, h⟩ | ⟨e, _⟩
    · exact h
    · exact absurd rfl e
  subst hdv
  refine ⟨[u0], [v0], ?_, .cons r0 (.nil), ?_, ?_⟩
  · rw [hfd, hps]
    exact .of_eq rfl
  · rw [hps]
    rfl
  · intro w ds es r h1 h2 h3
    obtain ⟨d0, ds0, rfl, a0, h1_0⟩ := reps_inv h1
    have g1 := reps_inv0 h1_0
    subst g1
    have g2 := reps_inv0 h2
    subst g2
    have e : some [d0] = some r := h3
    cases e
    exact ⟨_, _, rfl, a0, rfl⟩
theorem sh22 : ShapeT t27 2 [] [.inl 0, .inl 1] := by
  intro C d hps F
  obtain ⟨oc, od, dV, kV, doc, pm, an, cdv, ct, osl, hfd, lk, hcd, hD, hK⟩ := F.ex
  refine ⟨fun s us ws vs zs KX l1 l2 rv rz => ?_⟩
  obtain ⟨u0, us0, rfl, l1_0⟩ := len_cons l1
  obtain ⟨v0, vs0, rfl, r0, rv0⟩ := vals_inv rv
  obtain ⟨u1, us1, rfl, l1_1⟩ := len_cons l1_0
  obtain ⟨v1, vs1, rfl, r1, rv1⟩ := vals_inv rv0
  have g1 := len_nil l1_1
  subst g1
  have g2 := vals_inv0 rv1
  subst g2
  have g3 := len_nil l2
  subst g3
  have g4 := vals_inv0 rz
  subst g4
  have hdv : dV = .none := by
    rcases hD with ⟨_, h⟩ | ⟨e, _⟩
    · exact h
    · exact absurd rfl e
  subst hdv
  refine ⟨[u0, u1], [v0, v1], ?_, .cons r0 (.cons r1 (.nil)), ?_, ?_⟩
  · rw [hfd, hps]
    exact .of_eq rfl
  · rw [hps]
    rfl
  · intro w ds es r h1 h2 h3
    obtain ⟨d0, ds0, rfl, a0, h1_0⟩ := reps_inv h1
    obtain ⟨d1, ds1, rfl, a1, h1_1⟩ := reps_inv h1_0
    have g1 := reps_inv0 h1_1
    subst g1
    have g2 := reps_inv0 h2
    subst g2
    have e : some [d0, d1] = some r := h3
    cases e
    exact ⟨_, _, rfl, a0, ⟨_, _, rfl, a1, rfl⟩⟩
theorem sh23 : ShapeT t28 3 [] [.inl 0, .inl 1, .inl 2] := by
  intro C d hps F
  obtain ⟨oc, od, dV, kV, doc, pm, an, cdv, ct, osl, hfd, lk, hcd, hD, hK⟩ := F.ex
  refine ⟨fun s us ws vs zs KX l1 l2 rv rz => ?_⟩
  obtain ⟨u0, us0, rfl, l1_0⟩ := len_cons l1
  obtain ⟨v0, vs0, rfl, r0, rv0⟩ := vals_inv rv
  obtain ⟨u1, us1, rfl, l1_1⟩ := len_cons l1_0
  obtain ⟨v1, vs1, rfl, r1, rv1⟩ := vals_inv rv0
  obtain ⟨u2, us2, rfl, l1_2⟩ := len_cons l1_1
  obtain ⟨v2, vs2, rfl, r2, rv2⟩ := vals_inv rv1
  have g1 := len_nil l1_2
  subst g1
  have g2 := vals_inv0 rv2
  subst g2
  have g3 := len_nil l2
  subst g3
  have g4 := vals_inv0 rz
  subst g4
  have hdv : dV = .none := by
    rcases hD with ⟨_, h⟩ | ⟨e, _⟩
    · exact h
    · exact absurd rfl e
  subst hdv
  refine ⟨[u0, u1, u2], [v0, v1, v2], ?_, .cons r0 (.cons r1 (.cons r2 (.nil))), ?_, ?_⟩
  · rw [hfd, hps]
    exact .of_eq rfl
  · rw [hps]
    rfl
  · intro w ds es r h1 h2 h3
    obtain ⟨d0, ds0, rfl, a0, h1_0⟩ := reps_inv h1
    obtain ⟨d1, ds1, rfl, a1, h1_1⟩ := reps_inv h1_0
    obtain ⟨d2, ds2, rfl, a2, h1_2⟩ := reps_inv h1_1
    have g1 := reps_inv0 h1_2
    subst g1
    have g2 := reps_inv0 h2
    subst g2
    have e : some [d0, d1, d2] = some r := h3
    cases e
    exact ⟨_, _, rfl, a0, ⟨_, _, rfl, a1, ⟨_, _, rfl, a2, rfl⟩⟩⟩
theorem sh24 : ShapeT t29 2 [] [.inl 0, .inl 1] := by
  intro C d hps F
  obtain ⟨oc, od, dV, kV, doc, pm, an, cdv, ct, osl, hfd, lk, hcd, hD, hK⟩ := F.ex
  refine ⟨fun s us ws vs zs KX l1 l2 rv rz => ?_⟩
  obtain ⟨u0, us0, rfl, l1_0⟩ := len_cons l1
  obtain ⟨v0, vs0, rfl, r0, rv0⟩ := vals_inv rv
  obtain ⟨u1, us1, rfl, l1_1⟩ := len_cons l1_0
  obtain ⟨v1, vs1, rfl, r1, rv1⟩ := vals_inv rv0
  have g1 := len_nil l1_1
  subst g1
  have g2 := vals_inv0 rv1
  subst g2
  have g3 := len_nil l2
  subst g3
  have g4 := vals_inv0 rz
  subst g4
  have hdv : dV = .none := by
    rcases hD with ⟨_, h⟩ | ⟨e, _⟩
    · exact h
    · exact absurd rfl e
  subst hdv
  refine ⟨[u0, u1], [v0, v1], ?_, .cons r0 (.cons r1 (.nil)), ?_, ?_⟩
  · rw [hfd, hps]
    exact .of_eq rfl
  · rw [hps]
    rfl
  · intro w ds es r h1 h2 h3
    obtain ⟨d0, ds0, rfl, a0, h1_0⟩ := reps_inv h1
    obtain ⟨d1, ds1, rfl, a1, h1_1⟩ := reps_inv h1_0
    have g1 := reps_inv0 h1_1
    subst g1
    have g2 := reps_inv0 h2
    subst g2
    have e : some [d0, d1] = some r := h3
    cases e
    exact ⟨_, _, rfl, a0, ⟨_, _, rfl, a1, rfl⟩⟩
theorem sh25 : ShapeT t30 2 [] [.inl 0, .inl 1] := by
  intro C d hps F
  obtain ⟨oc, od, dV, kV, doc, pm, an, cdv, ct, osl, hfd, lk, hcd, hD, hK⟩ := F.ex
  refine ⟨fun s us ws vs zs KX l1 l2 rv rz => ?_⟩
  obtain ⟨u0, us0, rfl, l1_0⟩ := len_cons l1
  obtain ⟨v0, vs0, rfl, r0, rv0⟩ := vals_inv rv
  obtain ⟨u1, us1, rfl, l1_1⟩ := len_cons l1_0
  obtain ⟨v1, vs1, rfl, r1, rv1⟩ := vals_inv rv0
  have g1 := len_nil l1_1
  subst g1
  have g2 := vals_inv0 rv1
  subst g2
  have g3 := len_nil l2
  subst g3
  have g4 := vals_inv0 rz
  subst g4
  have hdv : dV = .none := by
    rcases hD with ⟨_, h⟩ | ⟨e, _⟩
    · exact h
    · exact absurd rfl e
  subst hdv
  refine ⟨[u0, u1], [v0, v1], ?_, .cons r0 (.cons r1 (.nil)), ?_, ?_⟩
  · rw [hfd, hps]
    exact .of_eq rfl
  · rw [hps]
    rfl
  · intro w ds es r h1 h2 h3
    obtain ⟨d0, ds0, rfl, a0, h1_0⟩ := reps_inv h1
    obtain ⟨d1, ds1, rfl, a1, h1_1⟩ := reps_inv h1_0
    have g1 := reps_inv0 h1_1
    subst g1
    have g2 := reps_inv0 h2
    subst g2
    have e : some [d0, d1] = some r := h3
    cases e
    exact ⟨_, _, rfl, a0, ⟨_, _, rfl, a1, rfl⟩⟩
theorem sh26 : ShapeT t31 1 [] [.inl 0] := by
  intro C d hps F
  obtain ⟨oc, od, dV, kV, doc, pm, an, cdv, ct, osl, hfd, lk, hcd, hD, hK⟩ := F.ex
  refine ⟨fun s us ws vs zs KX l1 l2 rv rz => ?_⟩
  obtain ⟨u0, us0, rfl, l1_0⟩ := len_cons l1
  obtain ⟨v0, vs0, rfl, r0, rv0⟩ := vals_inv rv
  have g1 := len_nil l1_0
  subst g1
  have g2 := vals_inv0 rv0
  subst g2
  have g3 := len_nil l2
  subst g3
  have g4 := vals_inv0 rz
  subst g4
  have hdv : dV = .none := by
    rcases hD with ⟨_, h⟩ | ⟨e, _⟩
    · exact h
    · exact absurd rfl e
  subst hdv
  refine ⟨[u0], [v0], ?_, .cons r0 (.nil), ?_, ?_⟩
  · rw [hfd, hps]
    exact .of_eq rfl
  · rw [hps]
    rfl
  · intro w ds es r h1 h2 h3
    obtain ⟨d0, ds0, rfl, a0, h1_0⟩ := reps_inv h1
    have g1 := reps_inv0 h1_0
    subst g1
    have g2 := reps_inv0 h2
    subst g2
    have e : some [d0] = some r := h3
    cases e
    exact ⟨_, _, rfl, a0, rfl⟩
theorem sh27 : ShapeT t33 1 [] [.inl 0] := by
  intro C d hps F
  obtain ⟨oc, od, dV, kV, doc, pm, an, cdv, ct, osl, hfd, lk, hcd, hD, hK⟩ := F.ex
  refine ⟨fun s us ws vs zs KX l1 l2 rv rz => ?_⟩
  obtain ⟨u0, us0, rfl, l1_0⟩ := len_cons l1
  obtain ⟨v0, vs0, rfl, r0, rv0⟩ := vals_inv rv
  have g1 := len_nil l1_0
  subst g1
  have g2 := vals_inv0 rv0
  subst g2
  have g3 := len_nil l2
  subst g3
  have g4 := vals_inv0 rz
  subst g4
  have hdv : dV = .none := by
    rcases hD with ⟨_, h⟩ | ⟨e, _⟩
    · exact h
    · exact absurd rfl e
  subst hdv
  refine ⟨[u0], [v0], ?_, .cons r0 (.nil), ?_, ?_⟩
  · rw [hfd, hps]
    exact .of_eq rfl
  · rw [hps]
    rfl
  · intro w ds es r h1 h2 h3
    obtain ⟨d0, ds0, rfl, a0, h1_0⟩ := reps_inv h1
    have g1 := reps_inv0 h1_0
    subst g1
    have g2 := reps_inv0 h2
    subst g2
    have e : some [d0] = some r := h3
    cases e
    exact ⟨_, _, rfl, a0, rfl⟩
theorem sh28 : ShapeT t34 1 [] [.inl 0] := by
  intro C d hps F
  obtain ⟨oc, od, dV, kV, doc, pm, an, cdv, ct, osl, hfd, lk, hcd, hD, hK⟩ := F.ex
  refine ⟨fun s us ws vs zs KX l1 l2 rv rz => ?_⟩
  obtain ⟨u0, us0, rfl, l1_0⟩ := len_cons l1
  obtain ⟨v0, vs0, rfl, r0, rv0⟩ := vals_inv rv
  have g1 := len_nil l1_0
  subst g1
  have g2 := vals_inv0 rv0
  subst g2
  have g3 := len_nil l2
  subst g3
  have g4 := vals_inv0 rz
  subst g4
  have hdv : dV = .none := by
    rcases hD with ⟨_, h⟩ | ⟨e, _⟩
    · exact h
    · exact absurd rfl e
  subst hdv
  refine ⟨[u0], [v0], ?_, .cons r0 (.nil), ?_, ?_⟩
  · rw [hfd, hps]
    exact .of_eq rfl
  · rw [hps]
    rfl
  · intro w ds es r h1 h2 h3
    obtain ⟨d0, ds0, rfl, a0, h1_0⟩ := reps_inv h1
    have g1 := reps_inv0 h1_0
    subst g1
    have g2 := reps_inv0 h2
    subst g2
    have e : some [d0] = some r := h3
    cases e
    exact ⟨_, _, rfl, a0, rfl⟩
theorem sh29 : ShapeT t35 4 [] [.inl 0, .inl 1, .inl 2, .inl 3] := by
  intro C d hps F
  obtain ⟨oc, od, dV, kV, doc, pm, an, cdv, ct, osl, hfd, lk, hcd, hD, hK⟩ := F.ex
  refine ⟨fun s us ws vs zs KX l1 l2 rv rz => ?_⟩
  obtain ⟨u0, us0, rfl, l1_0⟩ := len_cons l1
  obtain ⟨v0, vs0, rfl, r0, rv0⟩ := vals_inv rv
  obtain ⟨u1, us1, rfl, l1_1⟩ := len_cons l1_0
  obtain ⟨v1, vs1, rfl, r1, rv1⟩ := vals_inv rv0
  obtain ⟨u2, us2, rfl, l1_2⟩ := len_cons l1_1
  obtain ⟨v2, vs2, rfl, r2, rv2⟩ := vals_inv rv1
  obtain ⟨u3, us3, rfl, l1_3⟩ := len_cons l1_2
  obtain ⟨v3, vs3, rfl, r3, rv3⟩ := vals_inv rv2
  have g1 := len_nil l1_3
  subst g1
  have g2 := vals_inv0 rv3
  subst g2
  have g3 := len_nil l2
  subst g3
  have g4 := vals_inv0 rz
  subst g4
  have hdv : dV = .none := by
    rcases hD with ⟨_, h⟩ | ⟨e, _⟩
    · exact h
    · exact absurd rfl e
  subst hdv
  refine ⟨[u0, u1, u2, u3], [v0, v1, v2, v3], ?_, .cons r0 (.cons r1 (.cons r2 (.cons r3 (.nil)))), ?_, ?_⟩
  · rw [hfd, hps]
    exact .of_eq rfl
  · rw [hps]
    rfl
  · intro w ds es r h1 h2 h3
    obtain ⟨d0, ds0, rfl, a0, h1_0⟩ := reps_inv h1
    obtain ⟨d1, ds1, rfl, a1, h1_1⟩ := reps_inv h1_0
    obtain ⟨d2, ds2, rfl, a2, h1_2⟩ := reps_inv h1_1
    obtain ⟨d3, ds3, rfl, a3, h1_3⟩ := reps_inv h1_2
    have g1 := reps_inv0 h1_3
    subst g1
    have g2 := reps_inv0 h2
    subst g2
    have e : some [d0, d1, d2, d3] = some r := h3
    cases e
    exact ⟨_, _, rfl, a0, ⟨_, _, rfl, a1, ⟨_, _, rfl, a2, ⟨_, _, rfl, a3, rfl⟩⟩⟩⟩
theorem sh30 : ShapeT t24 1 [] [.inl 0] := by
  intro C d hps F
  obtain ⟨oc, od, dV, kV, doc, pm, an, cdv, ct, osl, hfd, lk, hcd, hD, hK⟩ := F.ex
  refine ⟨fun s us ws vs zs KX l1 l2 rv rz => ?_⟩
  obtain ⟨u0, us0, rfl, l1_0⟩ := len_cons l1
  obtain ⟨v0, vs0, rfl, r0, rv0⟩ := vals_inv rv
  have g1 := len_nil l1_0
  subst g1
  have g2 := vals_inv0 rv0
  subst g2
  have g3 := len_nil l2
  subst g3
  have g4 := vals_inv0 rz
  subst g4
  have hdv : dV = .none := by
    rcases hD with ⟨_, h⟩ | ⟨e, _⟩
    · exact h
    · exact absurd rfl e
  subst hdv
  refine ⟨[u0], [v0], ?_, .cons r0 (.nil), ?_, ?_⟩
  · rw [hfd, hps]
    exact .of_eq rfl
  · rw [hps]
    rfl
  · intro w ds es r h1 h2 h3
    obtain ⟨d0, ds0, rfl, a0, h1_0⟩ := reps_inv h1
    have g1 := reps_inv0 h1_0
    subst g1
    have g2 := reps_inv0 h2
    subst g2
    have e : some [d0] = some r := h3
    cases e
    exact ⟨_, _, rfl, a0, rfl⟩
theorem sh31 : ShapeT t37 0 [] [] := by
  intro C d hps F
  obtain ⟨oc, od, dV, kV, doc, pm, an, cdv, ct, osl, hfd, lk, hcd, hD, hK⟩ := F.ex
  refine ⟨fun s us ws vs zs KX l1 l2 rv rz => ?_⟩
  have g1 := len_nil l1
  subst g1
  have g2 := vals_inv0 rv
  subst g2
  have g3 := len_nil l2
  subst g3
  have g4 := vals_inv0 rz
  subst g4
  have hdv : dV = .none := by
    rcases hD with ⟨_, h⟩ | ⟨e, _⟩
    · exact h
    · exact absurd rfl e
  subst hdv
  refine ⟨[], [], ?_, .nil, ?_, ?_⟩
  · rw [hfd, hps]
    exact .of_eq rfl
  · rw [hps]
    rfl
  · intro w ds es r h1 h2 h3
    have g1 := reps_inv0 h1
    subst g1
    have g2 := reps_inv0 h2
    subst g2
    have e : some [] = some r := h3
    cases e
    exact rfl
theorem sh32 : ShapeT t25 2 [] [.inl 0, .inl 1] := by
  intro C d hps F
  obtain ⟨oc, od, dV, kV, doc, pm, an, cdv, ct, osl, hfd, lk, hcd, hD, hK⟩ := F.ex
  refine ⟨fun s us ws vs zs KX l1 l2 rv rz => ?_⟩
  obtain ⟨u0, us0, rfl, l1_0⟩ := len_cons l1
  obtain ⟨v0, vs0, rfl, r0, rv0⟩ := vals_inv rv
  obtain ⟨u1, us1, rfl, l1_1⟩ := len_cons l1_0
  obtain ⟨v1, vs1, rfl, r1, rv1⟩ := vals_inv rv0
  have g1 := len_nil l1_1
  subst g1
  have g2 := vals_inv0 rv1
  subst g2
  have g3 := len_nil l2
  subst g3
  have g4 := vals_inv0 rz
  subst g4
  have hdv : dV = .none := by
    rcases hD with ⟨_, h⟩ | ⟨e, _⟩
    · exact h
    · exact absurd rfl e
  subst hdv
  refine ⟨[u0, u1], [v0, v1], ?_, .cons r0 (.cons r1 (.nil)), ?_, ?_⟩
  · rw [hfd, hps]
    exact .of_eq rfl
  · rw [hps]
    rfl
  · intro w ds es r h1 h2 h3
    obtain ⟨d0, ds0, rfl, a0, h1_0⟩ := reps_inv h1
    obtain ⟨d1, ds1, rfl, a1, h1_1⟩ := reps_inv h1_0
    have g1 := reps_inv0 h1_1
    subst g1
    have g2 := reps_inv0 h2
    subst g2
    have e : some [d0, d1] = some r := h3
    cases e
    exact ⟨_, _, rfl, a0, ⟨_, _, rfl, a1, rfl⟩⟩
theorem sh33 : ShapeT t32 1 [] [.inl 0] := by
  intro C d hps F
  obtain ⟨oc, od, dV, kV, doc, pm, an, cdv, ct, osl, hfd, lk, hcd, hD, hK⟩ := F.ex
  refine ⟨fun s us ws vs zs KX l1 l2 rv rz => ?_⟩
  obtain ⟨u0, us0, rfl, l1_0⟩ := len_cons l1
  obtain ⟨v0, vs0, rfl, r0, rv0⟩ := vals_inv rv
  have g1 := len_nil l1_0
  subst g1
  have g2 := vals_inv0 rv0
  subst g2
  have g3 := len_nil l2
  subst g3
  have g4 := vals_inv0 rz
  subst g4
  have hdv : dV = .none := by
    rcases hD with ⟨_, h⟩ | ⟨e, _⟩
    · exact h
    · exact absurd rfl e
  subst hdv
  refine ⟨[u0], [v0], ?_, .cons r0 (.nil), ?_, ?_⟩
  · rw [hfd, hps]
    exact .of_eq rfl
  · rw [hps]
    rfl
  · intro w ds es r h1 h2 h3
    obtain ⟨d0, ds0, rfl, a0, h1_0⟩ := reps_inv h1
    have g1 := reps_inv0 h1_0
    subst g1
    have g2 := reps_inv0 h2
    subst g2
    have e : some [d0] = some r := h3
    cases e
    exact ⟨_, _, rfl, a0, rfl⟩
theorem sh34 : ShapeT t26 2 [] [.inl 0, .inl 1] := by
  intro C d hps F
  obtain ⟨oc, od, dV, kV, doc, pm, an, cdv, ct, osl, hfd, lk, hcd, hD, hK⟩ := F.ex
  refine ⟨fun s us ws vs zs KX l1 l2 rv rz => ?_⟩
  obtain ⟨u0, us0, rfl, l1_0⟩ := len_cons l1
  obtain ⟨v0, vs0, rfl, r0, rv0⟩ := vals_inv rv
  obtain ⟨u1, us1, rfl, l1_1⟩ := len_cons l1_0
  obtain ⟨v1, vs1, rfl, r1, rv1⟩ := vals_inv rv0
  have g1 := len_nil l1_1
  subst g1
  have g2 := vals_inv0 rv1
  subst g2
  have g3 := len_nil l2
  subst g3
  have g4 := vals_inv0 rz
  subst g4
  have hdv : dV = .none := by
    rcases hD with ⟨_, h⟩ | ⟨e, _⟩
    · exact h
    · exact absurd rfl e
  subst hdv
  refine ⟨[u0, u1], [v0, v1], ?_, .cons r0 (.cons r1 (.nil)), ?_, ?_⟩
  · rw [hfd, hps]
    exact .of_eq rfl
  · rw [hps]
    rfl
  · intro w ds es r h1 h2 h3
    obtain ⟨d0, ds0, rfl, a0, h1_0⟩ := reps_inv h1
    obtain ⟨d1, ds1, rfl, a1, h1_1⟩ := reps_inv h1_0
    have g1 := reps_inv0 h1_1
    subst g1
    have g2 := reps_inv0 h2
    subst g2
    have e : some [d0, d1] = some r := h3
    cases e
    exact ⟨_, _, rfl, a0, ⟨_, _, rfl, a1, rfl⟩⟩
theorem sh35 : ShapeT t22 1 [] [.inl 0] := by
  intro C d hps F
  obtain ⟨oc, od, dV, kV, doc, pm, an, cdv, ct, osl, hfd, lk, hcd, hD, hK⟩ := F.ex
  refine ⟨fun s us ws vs zs KX l1 l2 rv rz => ?_⟩
  obtain ⟨u0, us0, rfl, l1_0⟩ := len_cons l1
  obtain ⟨v0, vs0, rfl, r0, rv0⟩ := vals_inv rv
  have g1 := len_nil l1_0
  subst g1
  have g2 := vals_inv0 rv0
  subst g2
  have g3 := len_nil l2
  subst g3
  have g4 := vals_inv0 rz
  subst g4
  have hdv : dV = .none := by
    rcases hD with ⟨_, h⟩ | ⟨e, _⟩
    · exact h
    · exact absurd rfl e
  subst hdv
  refine ⟨[u0], [v0], ?_, .cons r0 (.nil), ?_, ?_⟩
  · rw [hfd, hps]
    exact .of_eq rfl
  · rw [hps]
    rfl
  · intro w ds es r h1 h2 h3
    obtain ⟨d0, ds0, rfl, a0, h1_0⟩ := reps_inv h1
    have g1 := reps_inv0 h1_0
    subst g1
    have g2 := reps_inv0 h2
    subst g2
    have e : some [d0] = some r := h3
    cases e
    exact ⟨_, _, rfl, a0, rfl⟩
theorem sh36 : ShapeT t22 0 [(Str.ofString "table")] [.inl 0] := by
  intro C d hps F
  obtain ⟨oc, od, dV, kV, doc, pm, an, cdv, ct, osl, hfd, lk, hcd, hD, hK⟩ := F.ex
  refine ⟨fun s us ws vs zs KX l1 l2 rv rz => ?_⟩
  have g1 := len_nil l1
  subst g1
  have g2 := vals_inv0 rv
  subst g2
  obtain ⟨w0, ws0, rfl, l2_0⟩ := len_cons l2
  obtain ⟨z0, zs0, rfl, q0, rz0⟩ := vals_inv rz
  have g3 := len_nil l2_0
  subst g3
  have g4 := vals_inv0 rz0
  subst g4
  have hdv : dV = .none := by
    rcases hD with ⟨_, h⟩ | ⟨e, _⟩
    · exact h
    · exact absurd rfl e
  subst hdv
  refine ⟨[w0], [z0], ?_, .cons q0 (.nil), ?_, ?_⟩
  · rw [hfd, hps]
    exact .of_eq rfl
  · rw [hps]
    rfl
  · intro w ds es r h1 h2 h3
    have g1 := reps_inv0 h1
    subst g1
    obtain ⟨e0, es0, rfl, b0, h2_0⟩ := reps_inv h2
    have g2 := reps_inv0 h2_0
    subst g2
    have e : some [e0] = some r := h3
    cases e
    exact ⟨_, _, rfl, b0, rfl⟩
theorem sh37 : ShapeT t23 1 [] [.inl 0] := by
  intro C d hps F
  obtain ⟨oc, od, dV, kV, doc, pm, an, cdv, ct, osl, hfd, lk, hcd, hD, hK⟩ := F.ex
  refine ⟨fun s us ws vs zs KX l1 l2 rv rz => ?_⟩
  obtain ⟨u0, us0, rfl, l1_0⟩ := len_cons l1
  obtain ⟨v0, vs0, rfl, r0, rv0⟩ := vals_inv rv
  have g1 := len_nil l1_0
  subst g1
  have g2 := vals_inv0 rv0
  subst g2
  have g3 := len_nil l2
  subst g3
  have g4 := vals_inv0 rz
  subst g4
  have hdv : dV = .none := by
    rcases hD with ⟨_, h⟩ | ⟨e, _⟩
    · exact h
    · exact absurd rfl e
  subst hdv
  refine ⟨[u0], [v0], ?_, .cons r0 (.nil), ?_, ?_⟩
  · rw [hfd, hps]
    exact .of_eq rfl
  · rw [hps]
    rfl
  · intro w ds es r h1 h2 h3
    obtain ⟨d0, ds0, rfl, a0, h1_0⟩ := reps_inv h1
    have g1 := reps_inv0 h1_0
    subst g1
    have g2 := reps_inv0 h2
    subst g2
    have e : some [d0] = some r := h3
    cases e
    exact ⟨_, _, rfl, a0, rfl⟩
theorem sh38 : ShapeT t23 0 [(Str.ofString "table")] [.inl 0] := by
  intro C d hps F
  obtain ⟨oc, od, dV, kV, doc, pm, an, cdv, ct, osl, hfd, lk, hcd, hD, hK⟩ := F.ex
  refine ⟨fun s us ws vs zs KX l1 l2 rv rz => ?_⟩
  have g1 := len_nil l1
  subst g1
  have g2 := vals_inv0 rv
  subst g2
  obtain ⟨w0, ws0, rfl, l2_0⟩ := len_cons l2
  obtain ⟨z0, zs0, rfl, q0, rz0⟩ := vals_inv rz
  have g3 := len_nil l2_0
  subst g3
  have g4 := vals_inv0 rz0
  subst g4
  have hdv : dV = .none := by
    rcases hD with ⟨_, h⟩ | ⟨e, _⟩
    · exact h
    · exact absurd rfl e
  subst hdv
  refine ⟨[w0], [z0], ?_, .cons q0 (.nil), ?_, ?_⟩
  · rw [hfd, hps]
    exact .of_eq rfl
  · rw [hps]
    rfl
  · intro w ds es r h1 h2 h3
    have g1 := reps_inv0 h1
    subst g1
    obtain ⟨e0, es0, rfl, b0, h2_0⟩ := reps_inv h2
    have g2 := reps_inv0 h2_0
    subst g2
    have e : some [e0] = some r := h3
    cases e
    exact ⟨_, _, rfl, b0, rfl⟩
theorem sh39 : ShapeT t36 4 [] [.inl 0, .inl 1, .inl 2, .inl 3] := by
  intro C d hps F
  obtain ⟨oc, od, dV, kV, doc, pm, an, cdv, ct, osl, hfd, lk, hcd, hD, hK⟩ := F.ex
  refine ⟨fun s us ws vs zs KX l1 l2 rv rz => ?_⟩
  obtain ⟨u0, us0, rfl, l1_0⟩ := len_cons l1
  obtain ⟨v0, vs0, rfl, r0, rv0⟩ := vals_inv rv
  obtain ⟨u1, us1, rfl, l1_1⟩ := len_cons l1_0
  obtain ⟨v1, vs1, rfl, r1, rv1⟩ := vals_inv rv0
  obtain ⟨u2, us2, rfl, l1_2⟩ := len_cons l1_1
  obtain ⟨v2, vs2, rfl, r2, rv2⟩ := vals_inv rv1
  obtain ⟨u3, us3, rfl, l1_3⟩ := len_cons l1_2
  obtain ⟨v3, vs3, rfl, r3, rv3⟩ := vals_inv rv2
  have g1 := len_nil l1_3
  subst g1
  have g2 := vals_inv0 rv3
  subst g2
  have g3 := len_nil l2
  subst g3
  have g4 := vals_inv0 rz
  subst g4
  have hdv : dV = .none := by
    rcases hD with ⟨_, h⟩ | ⟨e, _⟩
    · exact h
    · exact absurd rfl e
  subst hdv
  refine ⟨[u0, u1, u2, u3], [v0, v1, v2, v3], ?_, .cons r0 (.cons r1 (.cons r2 (.cons r3 (.nil)))), ?_, ?_⟩
  · rw [hfd, hps]
    exact .of_eq rfl
  · rw [hps]
    rfl
  · intro w ds es r h1 h2 h3
    obtain ⟨d0, ds0, rfl, a0, h1_0⟩ := reps_inv h1
    obtain ⟨d1, ds1, rfl, a1, h1_1⟩ := reps_inv h1_0
    obtain ⟨d2, ds2, rfl, a2, h1_2⟩ := reps_inv h1_1
    obtain ⟨d3, ds3, rfl, a3, h1_3⟩ := reps_inv h1_2
    have g1 := reps_inv0 h1_3
    subst g1
    have g2 := reps_inv0 h2
    subst g2
    have e : some [d0, d1, d2, d3] = some r := h3
    cases e
    exact ⟨_, _, rfl, a0, ⟨_, _, rfl, a1, ⟨_, _, rfl, a2, ⟨_, _, rfl, a3, rfl⟩⟩⟩⟩
theorem shs : ShapesOk nm tds := allCons (fun t e => by cases (show some t0 = some t from e); exact sh0) (allCons (fun t e => by cases (show some t2 = some t from e); exact sh1) (allCons (fun t e => by cases (show some t3 = some t from e); exact sh2) (allCons (fun t e => by cases (show some t4 = some t from e); exact sh3) (allCons (fun t e => by cases (show some t5 = some t from e); exact sh4) (allCons (fun t e => by cases (show some t6 = some t from e); exact sh5) (allCons (fun t e => by cases (show some t8 = some t from e); exact sh6) (allCons (fun t e => by cases (show some t9 = some t from e); exact sh7) (allCons (fun t e => by cases (show some t10 = some t from e); exact sh8) (allCons (fun t e => by cases (show some t11 = some t from e); exact sh9) (allCons (fun t e => by cases (show some t12 = some t from e); exact sh10) (allCons (fun t e => by cases (show some t1 = some t from e); exact sh11) (allCons (fun t e => by cases (show some t13 = some t from e); exact sh12) (allCons (fun t e => by cases (show some t16 = some t from e); exact sh13) (allCons (fun t e => by cases (show some t15 = some t from e); exact sh14) (allCons (fun t e => by cases (show some t14 = some t from e); exact sh15) (allCons (fun t e => by cases (show some t18 = some t from e); exact sh16) (allCons (fun t e => by cases (show some t20 = some t from e); exact sh17) (allCons (fun t e => by cases (show some t7 = some t from e); exact sh18) (allCons (fun t e => by cases (show some t21 = some t from e); exact sh19) (allCons (fun t e => by cases (show some t17 = some t from e); exact sh20) (allCons (fun t e => by cases (show some t19 = some t from e); exact sh21) (allCons (fun t e => by cases (show some t27 = some t from e); exact sh22) (allCons (fun t e => by cases (show some t28 = some t from e); exact sh23) (allCons (fun t e => by cases (show some t29 = some t from e); exact sh24) (allCons (fun t e => by cases (show some t30 = some t from e); exact sh25) (allCons (fun t e => by cases (show some t31 = some t from e); exact sh26) (allCons (fun t e => by cases (show some t33 = some t from e); exact sh27) (allCons (fun t e => by cases (show some t34 = some t from e); exact sh28) (allCons (fun t e => by cases (show some t35 = some t from e); exact sh29) (allCons (fun t e => by cases (show some t24 = some t from e); exact sh30) (allCons (fun t e => by cases (show some t37 = some t from e); exact sh31) (allCons (fun t e => by cases (show some t25 = some t from e); exact sh32) (allCons (fun t e => by cases (show some t32 = some t from e); exact sh33) (allCons (fun t e => by cases (show some t26 = some t from e); exact sh34) (allCons (fun t e => by cases (show some t22 = some t from e); exact sh35) (allCons (fun t e => by cases (show some t22 = some t from e); exact sh36) (allCons (fun t e => by cases (show some t23 = some t from e); exact sh37) (allCons (fun t e => by cases (show some t23 = some t from e); exact sh38) (allCons (fun t e => by cases (show some t36 = some t from e); exact sh39) (allNil))))))))))))))))))))))))))))))))))))))))
noncomputable def Q : List Fr := [mkFr I3 f0, mkFr I2 f1, mkFr I1 f2, mkFr I3 f3, mkFr I2 f4, mkFr I3 f5, mkFr I3 f6, mkFr I1 f7, mkFr I4 f8, mkFr I1 f9, mkFr I3 f10, mkFr I7 f11, mkFr I5 f12, mkFr I1 f13, mkFr I3 f14, mkFr I1 f15, mkFr I3 f16, mkFr I4 f17, mkFr I4 f18, mkFr I5 f19, mkFr I3 f20, mkFr I2 f21, mkFr I1 f22, mkFr I1 f23, mkFr I1 f24, mkFr I6 f25, mkFr I2 f26, mkFr I15 f27, mkFr I12 f28, mkFr I14 f29, mkFr I9 f30, mkFr I2 f31, mkFr I3 f32, mkFr I2 f33, mkFr I3 f34, mkFr I5 f35, mkFr I9 f36, mkFr I1 f37, mkFr I9 f38]
theorem frs : FrsOk P Q := .cons (mkFr_ok (show EIok I3 f0.ns from I3_ok) (by decide)) (.cons (mkFr_ok (show EIok I2 f1.ns from I2_ok) (by decide)) (.cons (mkFr_ok (show EIok I1 f2.ns from I1_ok) (by decide)) (.cons (mkFr_ok (show EIok I3 f3.ns from I3_ok) (by decide)) (.cons (mkFr_ok (show EIok I2 f4.ns from I2_ok) (by decide)) (.cons (mkFr_ok (show EIok I3 f5.ns from I3_ok) (by decide)) (.cons (mkFr_ok (show EIok I3 f6.ns from I3_ok) (by decide)) (.cons (mkFr_ok (show EIok I1 f7.ns from I1_ok) (by decide)) (.cons (mkFr_ok (show EIok I4 f8.ns from I4_ok) (by decide)) (.cons (mkFr_ok (show EIok I1 f9.ns from I1_ok) (by decide)) (.cons (mkFr_ok (show EIok I3 f10.ns from I3_ok) (by decide)) (.cons (mkFr_ok (show EIok I7 f11.ns from I7_ok) (by decide)) (.cons (mkFr_ok (show EIok I5 f12.ns from I5_ok) (by decide)) (.cons (mkFr_ok (show EIok I1 f13.ns from I1_ok) (by decide)) (.cons (mkFr_ok (show EIok I3 f14.ns from I3_ok) (by decide)) (.cons (mkFr_ok (show EIok I1 f15.ns from I1_ok) (by decide)) (.cons (mkFr_ok (show EIok I3 f16.ns from I3_ok) (by decide)) (.cons (mkFr_ok (show EIok I4 f17.ns from I4_ok) (by decide)) (.cons (mkFr_ok (show EIok I4 f18.ns from I4_ok) (by decide)) (.cons (mkFr_ok (show EIok I5 f19.ns from I5_ok) (by decide)) (.cons (mkFr_ok (show EIok I3 f20.ns from I3_ok) (by decide)) (.cons (mkFr_ok (show EIok I2 f21.ns from I2_ok) (by decide)) (.cons (mkFr_ok (show EIok I1 f22.ns from I1_ok) (by decide)) (.cons (mkFr_ok (show EIok I1 f23.ns from I1_ok) (by decide)) (.cons (mkFr_ok (show EIok I1 f24.ns from I1_ok) (by decide)) (.cons (mkFr_ok (show EIok I6 f25.ns from I6_ok) (by decide)) (.cons (mkFr_ok (show EIok I2 f26.ns from I2_ok) (by decide)) (.cons (mkFr_ok (show EIok I15 f27.ns from I15_ok) (by decide)) (.cons (mkFr_ok (show EIok I12 f28.ns from I12_ok) (by decide)) (.cons (mkFr_ok (show EIok I14 f29.ns from I14_ok) (by decide)) (.cons (mkFr_ok (show EIok I9 f30.ns from I9_ok) (by decide)) (.cons (mkFr_ok (show EIok I2 f31.ns from I2_ok) (by decide)) (.cons (mkFr_ok (show EIok I3 f32.ns from I3_ok) (by decide)) (.cons (mkFr_ok (show EIok I2 f33.ns from I2_ok) (by decide)) (.cons (mkFr_ok (show EIok I3 f34.ns from I3_ok) (by decide)) (.cons (mkFr_ok (show EIok I5 f35.ns from I5_ok) (by decide)) (.cons (mkFr_ok (show EIok I9 f36.ns from I9_ok) (by decide)) (.cons (mkFr_ok (show EIok I1 f37.ns from I1_ok) (by decide)) (.cons (mkFr_ok (show EIok I9 f38.ns from I9_ok) (by decide)) (.nil)))))))))))))))))))))))))))))))))))))))
abbrev RW_ : PySem.W.OpenRow := PySem.W.OpenLaw.row PySem.Challenge.rw_fiveofeight_k38_reasons_told
abbrev fa : List He.Fa := faOf nm tds
abbrev fn : List He.DefD := fnOf' tds
abbrev hk : PySem.W.Hook := He.hookD 4 fa fn
def ob (s : PySem.W.SharedT) : He.AlD := He.obsDG 4 fa fn (HandSHeadRun.getT s)
theorem ob_eq (s : PySem.W.SharedT) : ob s = hk.obs s.abs := He.obsDG_eq (HandSHeadRun.getT_eq s)
def loose : List PySem.Str := [(Str.ofString "keepers_in"), (Str.ofString "middle_in"), (Str.ofString "ShareError"), (Str.ofString "TableError"), (Str.ofString "NotUsable"), (Str.ofString "is_integer"), (Str.ofString "is_within"), (Str.ofString "is_thing_of"), (Str.ofString "are_things_of"), (Str.ofString "form_fault"), (Str.ofString "is_formed"), (Str.ofString "nothings_of"), (Str.ofString "nothing_in"), (Str.ofString "undoings_in"), (Str.ofString "made_in"), (Str.ofString "rests_of"), (Str.ofString "rests_in"), (Str.ofString "ALL"), (Str.ofString "SIGNS"), (Str.ofString "LESS"), (Str.ofString "HALF"), (Str.ofString "TIMES"), (Str.ofString "do_exchange"), (Str.ofString "is_six_times"), (Str.ofString "signs_by"), (Str.ofString "reason_in"), (Str.ofString "first_apart"), (Str.ofString "sign_pairs"), (Str.ofString "want"), (Str.ofString "want_table"), (Str.ofString "half_reason"), (Str.ofString "signs_of"), (Str.ofString "_law_feed"), (Str.ofString "_law_draw"), (Str.ofString "_law_same"), (Str.ofString "_law_knot"), (Str.ofString "_law_twist"), (Str.ofString "_law_orders"), (Str.ofString "_law_times"), (Str.ofString "_law_piece"), (Str.ofString "_law_built"), (Str.ofString "_law_one"), (Str.ofString "_law_backs"), (Str.ofString "_law_rest"), (Str.ofString "_law_are_signs"), (Str.ofString "_law_reasons_told")]
abbrev qv : Program := PySem.W.view RW_.prog [56]
end k38
end EV
namespace EV
namespace k38
open PySem
def kk0 : Str := ⟨#[99, 101, 108, 108, 115]⟩
def kk1 : Str := ⟨#[115, 112, 111, 116]⟩
def kk2 : Str := ⟨#[108, 101, 102, 116]⟩
def kk3 : Str := ⟨#[99, 111, 117, 110, 116]⟩
def fdt (st : Fs) : List (D × D) := [(.str kk0, .lst (st.cs.map .int)), (.str kk1, .int st.sp), (.str kk2, .int st.re), (.str kk3, .int st.tu)]
def cn : Cn := ⟨6714, 1000001443, 103827, 307, 2146831651, 8900831, 1241, 2146831441, 651, 2146831249⟩
def Fe : Feed := ⟨fdt, drw cn⟩
def pre : List St := f25.body.take 5
def post : List St := f25.body.drop 5
theorem draw_pre (c : Nat → List D → Store → R D) (n : Nat) (μ : Store) (i : Nat) (st : Fs) (b : Int) (hs : ∀ o, nthD (setN μ i o) i = some o) (h0 : nthD μ i = some (.dct (fdt st))) (hre : ¬ 0 < st.re) (rest : List St) :
    ∀ x, numOf st.cs st.sp cn.c0 = x → (lev c (n + 60)).s (pre ++ rest) (frameE 6 [.ref i, .int b]) μ = (lev c (n + 55)).s rest [some (.ref i), some (.int b), some (.int st.sp), some (.int x), none, none] (setN μ i (.dct (fdt ⟨st.cs, st.sp + 1, st.re, st.tu + 1⟩))) := by
  obtain ⟨cs, sp, re, tu⟩ := st
  intro x hx0
  cases hcs : cs with
  | nil =>
    rw [hcs] at hx0 h0
    have hx1 : x = 6714 := hx0.symm
    unfold pre f25
    simp [lev_e, lev_t, stepE, stepT, sThen, sOne, sSetK, sIf, sAsg, sPar, eBin, eDget, eBi, eCmpB, eIfe, eIdx, tAndB, frameE, bind_ok, lift_some, evr, evs, evsS, eLst, getE, nthD, setE, setN, setEs, dgetD, lookD, D.same, eqStr, keyOk, setKO, putD, hasD, repD, D.isRef, bop, bopAdd, bopMul, bopI, bi, asB, idxD, view, cop, cap, b4, items, inP, hs, setN_setN, eqD, D.flat, D.flats, D.beq, D.beqs, shortO, short, fdt, kk0, kk1, kk2, kk3, lev_s_cons, lev_s_nil, h0, hre, hx1]
  | cons a l =>
    rw [hcs] at hx0 h0
    have hx := idx_num (a :: l) sp cn.c0 (by simp)
    rw [hx0] at hx
    simp [idxD] at hx
    unfold pre f25
    simp [lev_e, lev_t, stepE, stepT, sThen, sOne, sSetK, sIf, sAsg, sPar, eBin, eDget, eBi, eCmpB, eIfe, eIdx, tAndB, frameE, bind_ok, lift_some, evr, evs, evsS, eLst, getE, nthD, setE, setN, setEs, dgetD, lookD, D.same, eqStr, keyOk, setKO, putD, hasD, repD, D.isRef, bop, bopAdd, bopMul, bopI, bi, asB, idxD, view, cop, cap, b4, items, inP, hs, setN_setN, eqD, D.flat, D.flats, D.beq, D.beqs, shortO, short, fdt, kk0, kk1, kk2, kk3, lev_s_cons, lev_s_nil, h0, hre, flats_ints, hx]
theorem draw_post (c : Nat → List D → Store → R D) (n : Nat) (μ : Store) (i : Nat) (st : Fs) (b x re tu : Int) (hs : ∀ o, nthD (setN μ i o) i = some o) (hb : 0 < b) (hb2 : b < 1073741824) :
    (lev c (n + 50)).s post [some (.ref i), some (.int b), some (.int st.sp), some (.int x), none, none] (setN μ i (.dct (fdt ⟨st.cs, st.sp + 1, re, tu⟩))) = (if 1000000000000000000 ≤ x ∧ st.sp < st.cs.length then .ok (.ret (.int (x % b))) (setN μ i (.dct (fdt ⟨st.cs, st.sp + 1, x / b, tu⟩)))
      else .ok (.ret (.int (mix3 cn (mix2 cn (mix1 cn x tu) tu) b))) (setN μ i (.dct (fdt ⟨st.cs, st.sp + 1, re, tu⟩)))) := by
  obtain ⟨cs, sp, re0, tu0⟩ := st
  have p18 : bopI .pow 10 18 = some 1000000000000000000 := by decide
  have i0 : inB 10 = true := by decide
  by_cases hx : 1000000000000000000 ≤ x ∧ sp < cs.length
  · rw [if_pos hx]
    unfold post f25
    simp [lev_e, lev_t, stepE, stepT, sThen, sOne, sSetK, sIf, sAsg, sPar, eBin, eDget, eBi, eCmpB, eIfe, eIdx, tAndB, frameE, bind_ok, lift_some, evr, evs, evsS, eLst, getE, nthD, setE, setN, setEs, dgetD, lookD, D.same, eqStr, keyOk, setKO, putD, hasD, repD, D.isRef, bop, bopAdd, bopMul, bopI, bi, asB, idxD, view, cop, cap, b4, items, inP, hs, setN_setN, eqD, D.flat, D.flats, D.beq, D.beqs, shortO, short, fdt, kk0, kk1, kk2, kk3, lev_s_cons, lev_s_nil, p18, i0, hb, hb2, hx.1, hx.2]
  · rw [if_neg hx]
    have i1 : inB 103827 = true := by decide
    have i2 : inB 8900831 = true := by decide
    have i3 : inB 651 = true := by decide
    have b1 : ∀ z : Int, inB (z % 2146831651) = true := inB_mod _ (by decide) (by decide)
    have b2 : ∀ z : Int, inB (z % 2146831441) = true := inB_mod _ (by decide) (by decide)
    have m1 : mix1 cn x tu = (x % 1000001443 + 103827 * tu + 307) % 2146831651 := rfl
    have q1 : inB (mix1 cn x tu) = true := by rw [m1]; exact b1 _
    generalize mix1 cn x tu = z1 at m1 q1 ⊢
    have m2 : mix2 cn z1 tu = (z1 * z1 + 8900831 * tu + 1241) % 2146831441 := rfl
    have q2 : inB (mix2 cn z1 tu) = true := by rw [m2]; exact b2 _
    generalize mix2 cn z1 tu = z2 at m2 q2 ⊢
    have m3 : mix3 cn z2 b = ((z2 * z2 + 651 * z2) % 2146831249 / 16) % b := rfl
    generalize mix3 cn z2 b = z3 at m3 ⊢
    have m1 := m1.symm
    have m2 := m2.symm
    have m3 := m3.symm
    unfold post f25
    by_cases h1 : 1000000000000000000 ≤ x
    · have h2 : ¬ sp < cs.length := fun z => hx ⟨h1, z⟩
      simp [lev_e, lev_t, stepE, stepT, sThen, sOne, sSetK, sIf, sAsg, sPar, eBin, eDget, eBi, eCmpB, eIfe, eIdx, tAndB, frameE, bind_ok, lift_some, evr, evs, evsS, eLst, getE, nthD, setE, setN, setEs, dgetD, lookD, D.same, eqStr, keyOk, setKO, putD, hasD, repD, D.isRef, bop, bopAdd, bopMul, bopI, bi, asB, idxD, view, cop, cap, b4, items, inP, hs, setN_setN, eqD, D.flat, D.flats, D.beq, D.beqs, shortO, short, fdt, kk0, kk1, kk2, kk3, lev_s_cons, lev_s_nil, p18, i0, i1, i2, i3, hb, hb2, h1, h2, m1, m2, m3, q1, q2]
    · simp [lev_e, lev_t, stepE, stepT, sThen, sOne, sSetK, sIf, sAsg, sPar, eBin, eDget, eBi, eCmpB, eIfe, eIdx, tAndB, frameE, bind_ok, lift_some, evr, evs, evsS, eLst, getE, nthD, setE, setN, setEs, dgetD, lookD, D.same, eqStr, keyOk, setKO, putD, hasD, repD, D.isRef, bop, bopAdd, bopMul, bopI, bi, asB, idxD, view, cop, cap, b4, items, inP, hs, setN_setN, eqD, D.flat, D.flats, D.beq, D.beqs, shortO, short, fdt, kk0, kk1, kk2, kk3, lev_s_cons, lev_s_nil, p18, i0, i1, i2, i3, hb, hb2, h1, m1, m2, m3, q1, q2]
theorem draw_ok (k : Nat) (μ : Store) (i : Nat) (st : Fs) (b : Int) (h0 : nthD μ i = some (.dct (fdt st))) (hb : 0 < b) (hb2 : b < 1073741824) : callAt P (k + 2) 25 [.ref i, .int b] μ = .ok (.int (drw cn st b).1) (setN μ i (.dct (fdt (drw cn st b).2))) := by
  have hs : ∀ o, nthD (setN μ i o) i = some o := fun o => nthD_setN h0 o
  have run : ∀ c n, (lev c (n + 60)).s f25.body (frameE 6 [.ref i, .int b]) μ = .ok (.ret (.int (drw cn st b).1)) (setN μ i (.dct (fdt (drw cn st b).2))) := by
    intro c n
    by_cases hre : 0 < st.re
    · obtain ⟨cs, sp, re, tu⟩ := st
      have e1 : drw cn ⟨cs, sp, re, tu⟩ b = (re % b, ⟨cs, sp, re / b, tu + 1⟩) := by unfold drw; rw [if_pos hre]
      rw [e1]
      simp only at hre
      unfold f25
      simp [lev_e, lev_t, stepE, stepT, sThen, sOne, sSetK, sIf, sAsg, sPar, eBin, eDget, eBi, eCmpB, eIfe, eIdx, tAndB, frameE, bind_ok, lift_some, evr, evs, evsS, eLst, getE, nthD, setE, setN, setEs, dgetD, lookD, D.same, eqStr, keyOk, setKO, putD, hasD, repD, D.isRef, bop, bopAdd, bopMul, bopI, bi, asB, idxD, view, cop, cap, b4, items, inP, hs, setN_setN, eqD, D.flat, D.flats, D.beq, D.beqs, shortO, short, fdt, kk0, kk1, kk2, kk3, lev_s_cons, lev_s_nil, h0, hre, hb, hb2]
    · have e2 : f25.body = pre ++ post := rfl
      rw [e2, draw_pre c n μ i st b hs h0 hre post _ rfl]
      have e3 := draw_post c (n + 5) μ i st b (numOf st.cs st.sp cn.c0) st.re (st.tu + 1) hs hb hb2
      refine e3.trans ?_
      have e5 : drw cn st b = (if 1000000000000000000 ≤ numOf st.cs st.sp cn.c0 ∧ st.sp < st.cs.length then (numOf st.cs st.sp cn.c0 % b, ⟨st.cs, st.sp + 1, numOf st.cs st.sp cn.c0 / b, st.tu + 1⟩) else (mix3 cn (mix2 cn (mix1 cn (numOf st.cs st.sp cn.c0) (st.tu + 1)) (st.tu + 1)) b, ⟨st.cs, st.sp + 1, st.re, st.tu + 1⟩)) := by
        unfold drw
        rw [if_neg hre]
      rw [e5]
      by_cases hx : 1000000000000000000 ≤ numOf st.cs st.sp cn.c0 ∧ st.sp < st.cs.length
      · rw [if_pos hx, if_pos hx]
      · rw [if_neg hx, if_neg hx]
  have e : callAt P (k + 2) 25 [.ref i, .int b] μ = thenR μ.length (runF (lev (callAt P (k + 1)) fuel) f25 [.ref i, .int b] μ) := rfl
  rw [e]
  have e4 : runF (lev (callAt P (k + 1)) fuel) f25 [.ref i, .int b] μ = .ok (.int (drw cn st b).1) (setN μ i (.dct (fdt (drw cn st b).2))) := by
    unfold runF
    show ((lev (callAt P (k + 1)) (16777157 + 60)).s f25.body (frameE 6 [.ref i, .int b]) μ).bind _ = _
    rw [run]
    rfl
  rw [e4]
  show R.ok _ ((setN μ i (.dct (fdt (drw cn st b).2))).take μ.length) = _
  rw [setN_take]
theorem feed_run (c : Nat → List D → Store → R D) (n : Nat) (ns : List Int) (h : ns.length ≤ 63) : thenP [] (((lev c (n + 60)).s f24.body (frameE 1 [.scr ns]) []).bind fun fl μ => .ok (outD fl) μ) = .ok (.ref 0) [.dct (fdt ⟨ns, 0, 0, 0⟩)] := by
  have hs := slice63 ns h

  unfold f24 fdt
  simp [lev_s_cons, lev_s_nil, lev_e, lev_t, sThen, sOne, stepE, eDict, eBi, bi, evs,  evIt, eSlice, evO, getE, nthD, frameE, bind_ok, lift_some, sliceD, view, asI, srcOf, items, srcOk, wipeE, setN, hs, D.isRef, dictO, keyOk, putD, hasD, D.same, eqStr, repD, thenP, backP, outD, kk0, kk1, kk2, kk3]
theorem feed_ok (k : Nat) (ns : List Int) (h : ns.length ≤ 63) : callAt P (k + 2) 24 [.scr ns] [] = .ok (.ref 0) [.dct (fdt ⟨ns, 0, 0, 0⟩)] := by
  have e : callAt P (k + 2) 24 [.scr ns] [] = thenP [] (runF (lev (callAt P (k + 1)) fuel) f24 [.scr ns] []) := rfl
  rw [e]
  unfold runF
  show thenP [] (((lev (callAt P (k + 1)) (16777157 + 60)).s f24.body (frameE 1 [.scr ns]) []).bind _) = _
  exact feed_run (callAt P (k + 1)) 16777157 ns h
theorem feedOk : FeedOk Fe P 24 25 (fun ns => ⟨ns, 0, 0, 0⟩) := ⟨draw_ok, feed_ok, fun st b h _ => drw_rng cn st b h⟩
def c : Nat → List D → Store → R D := callA 25 P 22
def bs : List Int := [28]
def rest1 : List St := f38.body.drop 1
def rest2 : List St := f38.body.drop 2
def rest3 : List St := f38.body.drop 3
def rest4 : List St := f38.body.drop 4
def rest5 : List St := f38.body.drop 5
def q1 : St := rest1.headD .never
def q2 : St := rest2.headD .never
def q3 : St := rest3.headD .never
def q4 : St := rest4.headD .never
def m0 : List (Option D) := [none, some (.ref 0), none, none, none, none, none, none, none]
noncomputable def v1_2 : D := slotD (sOne (denA I9 25 Q 22) q1 (mkE m0 [none, none, none, none, none, none, none, none]) [.opq []]) 2
noncomputable def m1 : List (Option D) := [none, some (.ref 0), some (v1_2), none, none, none, none, none, none]
theorem s1 (n : Nat) (hn0 : 16100000 ≤ n) (h0 : Option D) (h2 : Option D) (h3 : Option D) (h4 : Option D) (h5 : Option D) (h6 : Option D) (h7 : Option D) (h8 : Option D) (ps : List (Int × Int)) : sOne (lev c (n + 59)) q1 (mkE m0 [h0, h2, h3, h4, h5, h6, h7, h8]) [.opq ps] = .ok (.nx (mkE m1 [h0, h3, h4, h5, h6, h7, h8])) [.opq ps] := sOne_of I9_ok frs (by omega) (by kernel_rfl)
noncomputable def m2 : List (Option D) := [none, some (.ref 0), some (v1_2), none, none, none, none, none, none]
theorem s2 (n : Nat) (hn0 : 16100000 ≤ n) (h0 : Option D) (h3 : Option D) (h4 : Option D) (h5 : Option D) (h6 : Option D) (h7 : Option D) (h8 : Option D) (r : Int) (ps : List (Int × Int)) : sOne (lev c (n + 58)) q2 (mkE m1 [h0, h3, h4, h5, h6, h7, h8]) [.opq ((28, r) :: ps)] = .ok (.nx (mkE m2 [h0, some (.int r), h4, h5, h6, h7, h8])) [.opq ps] := sOne_of I9_ok frs (by omega) (by kernel_rfl)
abbrev lp3 : St := q3
def t3_ : Tg := .tp [4, 5]
def b3_ : List St := [.asg 6 (.call 32 [.var 4] [] [.inl 0]), .asg 7 (.bi .repr (.var 6)), .ife (.not (.call 26 [.lst [.call 22 [.var 6] [] [.inl 0], .call 22 [] [((Str.ofString "table"), .var 6)] [.inl 0]], .lst [.var 5, .var 5]] [] [.inl 0, .inl 1])) [.ret (.con (.bl false))] [], .for_ (.nm 8) (.seq (.lst [.call 23 [.var 6] [] [.inl 0], .call 23 [] [((Str.ofString "table"), .var 6)] [.inl 0]])) [.ife (.and (.cmp .ne (.idx (.var 5) (.con (.int 0))) (.con (.str ⟨#[115, 105, 103, 110, 115]⟩))) (.cmp .isn (.var 8) (.con (.non)))) [.ret (.con (.bl false))] [], .ife (.and (.cmp .eq (.idx (.var 5) (.con (.int 0))) (.con (.str ⟨#[115, 105, 103, 110, 115]⟩))) (.not (.call 36 [.var 6, .var 8, .idx (.var 5) (.con (.int 2)), .idx (.var 5) (.con (.int 1))] [] [.inl 0, .inl 1, .inl 2, .inl 3]))) [.ret (.con (.bl false))] []], .ife (.cmp .ne (.bi .repr (.var 6)) (.var 7)) [.ret (.con (.bl false))] []]
noncomputable def l3_ : List D := unD (v1_2)
theorem chk3_0 (h0 : Option D) (h3 : Option D) (h4 : Option D) (h5 : Option D) (h6 : Option D) (h7 : Option D) (h8 : Option D) : allB (fun x => stepB (denA I9 25 Q 22) t3_ b3_ m2 (mkE m2 [h0, h3, h4, h5, h6, h7, h8]) x) ((l3_.drop 0).take 2) = true := by kernel_rfl
theorem chk3_1 (h0 : Option D) (h3 : Option D) (h4 : Option D) (h5 : Option D) (h6 : Option D) (h7 : Option D) (h8 : Option D) : allB (fun x => stepB (denA I9 25 Q 22) t3_ b3_ m2 (mkE m2 [h0, h3, h4, h5, h6, h7, h8]) x) ((l3_.drop 2).take 2) = true := by kernel_rfl
theorem chk3_2 (h0 : Option D) (h3 : Option D) (h4 : Option D) (h5 : Option D) (h6 : Option D) (h7 : Option D) (h8 : Option D) : allB (fun x => stepB (denA I9 25 Q 22) t3_ b3_ m2 (mkE m2 [h0, h3, h4, h5, h6, h7, h8]) x) ((l3_.drop 4).take 2) = true := by kernel_rfl
theorem chk3_3 (h0 : Option D) (h3 : Option D) (h4 : Option D) (h5 : Option D) (h6 : Option D) (h7 : Option D) (h8 : Option D) : allB (fun x => stepB (denA I9 25 Q 22) t3_ b3_ m2 (mkE m2 [h0, h3, h4, h5, h6, h7, h8]) x) ((l3_.drop 6).take 2) = true := by kernel_rfl
theorem chk3_4 (h0 : Option D) (h3 : Option D) (h4 : Option D) (h5 : Option D) (h6 : Option D) (h7 : Option D) (h8 : Option D) : allB (fun x => stepB (denA I9 25 Q 22) t3_ b3_ m2 (mkE m2 [h0, h3, h4, h5, h6, h7, h8]) x) ((l3_.drop 8).take 2) = true := by kernel_rfl
theorem chk3_5 (h0 : Option D) (h3 : Option D) (h4 : Option D) (h5 : Option D) (h6 : Option D) (h7 : Option D) (h8 : Option D) : allB (fun x => stepB (denA I9 25 Q 22) t3_ b3_ m2 (mkE m2 [h0, h3, h4, h5, h6, h7, h8]) x) ((l3_.drop 10).take 2) = true := by kernel_rfl
theorem chk3_6 (h0 : Option D) (h3 : Option D) (h4 : Option D) (h5 : Option D) (h6 : Option D) (h7 : Option D) (h8 : Option D) : allB (fun x => stepB (denA I9 25 Q 22) t3_ b3_ m2 (mkE m2 [h0, h3, h4, h5, h6, h7, h8]) x) ((l3_.drop 12).take 2) = true := by kernel_rfl
theorem chk3_7 (h0 : Option D) (h3 : Option D) (h4 : Option D) (h5 : Option D) (h6 : Option D) (h7 : Option D) (h8 : Option D) : allB (fun x => stepB (denA I9 25 Q 22) t3_ b3_ m2 (mkE m2 [h0, h3, h4, h5, h6, h7, h8]) x) ((l3_.drop 14).take 2) = true := by kernel_rfl
theorem chk3_8 (h0 : Option D) (h3 : Option D) (h4 : Option D) (h5 : Option D) (h6 : Option D) (h7 : Option D) (h8 : Option D) : allB (fun x => stepB (denA I9 25 Q 22) t3_ b3_ m2 (mkE m2 [h0, h3, h4, h5, h6, h7, h8]) x) ((l3_.drop 16).take 2) = true := by kernel_rfl
theorem chk3_9 (h0 : Option D) (h3 : Option D) (h4 : Option D) (h5 : Option D) (h6 : Option D) (h7 : Option D) (h8 : Option D) : allB (fun x => stepB (denA I9 25 Q 22) t3_ b3_ m2 (mkE m2 [h0, h3, h4, h5, h6, h7, h8]) x) ((l3_.drop 18).take 2) = true := by kernel_rfl
theorem chk3_10 (h0 : Option D) (h3 : Option D) (h4 : Option D) (h5 : Option D) (h6 : Option D) (h7 : Option D) (h8 : Option D) : allB (fun x => stepB (denA I9 25 Q 22) t3_ b3_ m2 (mkE m2 [h0, h3, h4, h5, h6, h7, h8]) x) ((l3_.drop 20).take 2) = true := by kernel_rfl
theorem chk3_11 (h0 : Option D) (h3 : Option D) (h4 : Option D) (h5 : Option D) (h6 : Option D) (h7 : Option D) (h8 : Option D) : allB (fun x => stepB (denA I9 25 Q 22) t3_ b3_ m2 (mkE m2 [h0, h3, h4, h5, h6, h7, h8]) x) ((l3_.drop 22).take 2) = true := by kernel_rfl
theorem chk3_12 (h0 : Option D) (h3 : Option D) (h4 : Option D) (h5 : Option D) (h6 : Option D) (h7 : Option D) (h8 : Option D) : allB (fun x => stepB (denA I9 25 Q 22) t3_ b3_ m2 (mkE m2 [h0, h3, h4, h5, h6, h7, h8]) x) ((l3_.drop 24).take 2) = true := by kernel_rfl
theorem chk3_13 (h0 : Option D) (h3 : Option D) (h4 : Option D) (h5 : Option D) (h6 : Option D) (h7 : Option D) (h8 : Option D) : allB (fun x => stepB (denA I9 25 Q 22) t3_ b3_ m2 (mkE m2 [h0, h3, h4, h5, h6, h7, h8]) x) (l3_.drop 26) = true := by kernel_rfl
theorem all3 (n : Nat) (hn0 : 16100000 ≤ n) : ∀ x ∈ l3_, ∀ ds, ds.length = holes m2 → stepB (lev c (n + 57)) t3_ b3_ m2 (mkE m2 ds) x = true := by
  intro x hx ds hd
  obtain ⟨h0, u0, rfl, hd0⟩ := listS (show List.length _ = 7 from hd)
  obtain ⟨h3, u1, rfl, hd1⟩ := listS (show List.length _ = 6 from hd0)
  obtain ⟨h4, u2, rfl, hd2⟩ := listS (show List.length _ = 5 from hd1)
  obtain ⟨h5, u3, rfl, hd3⟩ := listS (show List.length _ = 4 from hd2)
  obtain ⟨h6, u4, rfl, hd4⟩ := listS (show List.length _ = 3 from hd3)
  obtain ⟨h7, u5, rfl, hd5⟩ := listS (show List.length _ = 2 from hd4)
  obtain ⟨h8, u6, rfl, hd6⟩ := listS (show List.length _ = 1 from hd5)
  have hu := list1 hd6
  subst hu
  revert hx
  intro hx
  rcases mem_chunk 0 2 hx with hx | hx
  · exact stepB_le (denA_le I9_ok 25 frs 22 (by omega)) (allB_ok (chk3_0 h0 h3 h4 h5 h6 h7 h8) x hx)
  rcases mem_chunk 2 2 hx with hx | hx
  · exact stepB_le (denA_le I9_ok 25 frs 22 (by omega)) (allB_ok (chk3_1 h0 h3 h4 h5 h6 h7 h8) x hx)
  rcases mem_chunk 4 2 hx with hx | hx
  · exact stepB_le (denA_le I9_ok 25 frs 22 (by omega)) (allB_ok (chk3_2 h0 h3 h4 h5 h6 h7 h8) x hx)
  rcases mem_chunk 6 2 hx with hx | hx
  · exact stepB_le (denA_le I9_ok 25 frs 22 (by omega)) (allB_ok (chk3_3 h0 h3 h4 h5 h6 h7 h8) x hx)
  rcases mem_chunk 8 2 hx with hx | hx
  · exact stepB_le (denA_le I9_ok 25 frs 22 (by omega)) (allB_ok (chk3_4 h0 h3 h4 h5 h6 h7 h8) x hx)
  rcases mem_chunk 10 2 hx with hx | hx
  · exact stepB_le (denA_le I9_ok 25 frs 22 (by omega)) (allB_ok (chk3_5 h0 h3 h4 h5 h6 h7 h8) x hx)
  rcases mem_chunk 12 2 hx with hx | hx
  · exact stepB_le (denA_le I9_ok 25 frs 22 (by omega)) (allB_ok (chk3_6 h0 h3 h4 h5 h6 h7 h8) x hx)
  rcases mem_chunk 14 2 hx with hx | hx
  · exact stepB_le (denA_le I9_ok 25 frs 22 (by omega)) (allB_ok (chk3_7 h0 h3 h4 h5 h6 h7 h8) x hx)
  rcases mem_chunk 16 2 hx with hx | hx
  · exact stepB_le (denA_le I9_ok 25 frs 22 (by omega)) (allB_ok (chk3_8 h0 h3 h4 h5 h6 h7 h8) x hx)
  rcases mem_chunk 18 2 hx with hx | hx
  · exact stepB_le (denA_le I9_ok 25 frs 22 (by omega)) (allB_ok (chk3_9 h0 h3 h4 h5 h6 h7 h8) x hx)
  rcases mem_chunk 20 2 hx with hx | hx
  · exact stepB_le (denA_le I9_ok 25 frs 22 (by omega)) (allB_ok (chk3_10 h0 h3 h4 h5 h6 h7 h8) x hx)
  rcases mem_chunk 22 2 hx with hx | hx
  · exact stepB_le (denA_le I9_ok 25 frs 22 (by omega)) (allB_ok (chk3_11 h0 h3 h4 h5 h6 h7 h8) x hx)
  rcases mem_chunk 24 2 hx with hx | hx
  · exact stepB_le (denA_le I9_ok 25 frs 22 (by omega)) (allB_ok (chk3_12 h0 h3 h4 h5 h6 h7 h8) x hx)
  exact stepB_le (denA_le I9_ok 25 frs 22 (by omega)) (allB_ok (chk3_13 h0 h3 h4 h5 h6 h7 h8) x hx)
theorem core (ns : List Int) (n : Nat) (hn0 : 16100000 ≤ n) (r0 : Int) (R0 : 0 ≤ r0 ∧ r0 < 28) : (lev c (n + 60)).s rest1 (mkE m0 [(some (.scr ns)), none, none, none, none, none, none, none]) [.opq [(28, r0)]] = .ok (.ret (.bl true)) [.opq []] := by
  have hr1 : rest1 = q1 :: rest2 := rfl
  rw [hr1, one_step (s1 n hn0 (some (.scr ns)) none none none none none none none [(28, r0)])]
  have hr2 : rest2 = q2 :: rest3 := rfl
  rw [hr2]
  rw [one_step (s2 n hn0 (some (.scr ns)) none none none none none none r0 [])]
  have hr3 : rest3 = .forG t3_ (.seq (.bin .add (.slice (.var 2) (some (.var 3)) none) (.slice (.var 2) none (some (.var 3))))) b3_ :: rest4 := rfl
  have hz3 : (28 : Int) = (l3_.length : Int) := by kernel_rfl
  obtain ⟨ds3, hd3, hf3⟩ := for_rot (c := c) (n := n + 54) (t := t3_) (body := b3_) (tail := rest4) (a := 2) (b := 3) (l := l3_) (r := r0) (m := m2) (ds := [(some (.scr ns)), (some (.int r0)), none, none, none, none, none]) rfl rfl R0.1 (by rw [← hz3]; exact R0.2) (by kernel_rfl) rfl (all3 n hn0)
  rw [hr3, hf3]
  obtain ⟨g3_0, y3_0, rfl, hd3_0⟩ := listS (show List.length _ = 7 from hd3)
  obtain ⟨g3_3, y3_1, rfl, hd3_1⟩ := listS (show List.length _ = 6 from hd3_0)
  obtain ⟨g3_4, y3_2, rfl, hd3_2⟩ := listS (show List.length _ = 5 from hd3_1)
  obtain ⟨g3_5, y3_3, rfl, hd3_3⟩ := listS (show List.length _ = 4 from hd3_2)
  obtain ⟨g3_6, y3_4, rfl, hd3_4⟩ := listS (show List.length _ = 3 from hd3_3)
  obtain ⟨g3_7, y3_5, rfl, hd3_5⟩ := listS (show List.length _ = 2 from hd3_4)
  obtain ⟨g3_8, y3_6, rfl, hd3_6⟩ := listS (show List.length _ = 1 from hd3_5)
  have hy3 := list1 hd3_6
  subst hy3
  exact ret_true
theorem law_true (ns : List Int) (h : ns.length ≤ 63) : (callAt P (20 + 3) 38 [.scr ns] []).isTrue = true := by
  refine law_by feedOk (k := 20) (F := f38) (i := 1) (rest := rest1) bs h rfl rfl rfl rfl (by decide) ?_
  intro rs hl hr
  obtain ⟨r0, w0, rfl, hl0⟩ := listS (show List.length _ = 1 from hl)
  have hu := list1 hl0
  subst hu
  have R0 : 0 ≤ r0 ∧ r0 < 28 := hr 0 28 r0 rfl rfl
  exact lawRest_of (ρ := mkE m0 [(some (.scr ns)), none, none, none, none, none, none, none]) rfl (lev_num' fun n hn0 => core ns n hn0 r0 R0)
end k38
end EV
namespace EV
namespace k38
open PySem PySem.Spec PyProof.Rows L2
theorem run (w : World) : HandSHeadRun.RunEq RW_ qv hk ob 6000 loose w := by
  intro os
  kernel_rfl
end k38
end EV
open PySem PySem.W PySem.Calls PyProof.Rows
theorem PySem.Challenge.cw_fiveofeight_k38_reasons_told_holds : PySem.Challenge.rw_fiveofeight_k38_reasons_told.Holds := by
  w_on; o_law
  refine HandSHeadRun.head_any (r := OpenLaw.row PySem.Challenge.rw_fiveofeight_k38_reasons_told) (q := EV.k38.qv) (H := EV.k38.hk) (ob := EV.k38.ob) (M := 6000) (loose := EV.k38.loose) (d := HandSHeadRun.topDef (OpenLaw.row PySem.Challenge.rw_fiveofeight_k38_reasons_told).prog 56) (kwd := []) EV.k38.ob_eq
    (by kernel_rfl) (fun s => by kernel_rfl) EV.k38.run (by kernel_rfl) (by kernel_rfl) (by kernel_rfl) (by rfl) (by first | assumption | decide +kernel) (by decide +kernel) ⟨rfl, rfl, rfl, rfl, rfl, by decide +kernel⟩ ?hw ?hc
  case hw => w_witness2
  case hc =>
    refine EV.law_end (l := PySem.Challenge.rw_fiveofeight_k38_reasons_told) (n := 63) (k := 23) (L := 38) (x := "_law_script") (nm := EV.k38.nm) (tds := EV.k38.tds) (P := EV.k38.P) (tL := EV.k38.t38) rfl (by decide) (by kernel_rfl) ⟨rfl, by decide, by decide⟩ rfl rfl EV.k38.oks EV.k38.shs rfl rfl rfl (by kernel_rfl)
      (fun K fa fd F s u => L2.FunD.bindsA (ps := ["_law_script"]) F (fun _ _ _ _ _ _ us hl => match us, hl with | [_], _ => rfl) s [u] rfl) EV.k38.law_true

